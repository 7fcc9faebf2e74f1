/- Walks and what they compute, joined: part 1. -/
import Derived.Test.YtfljkbcphmnjkaaB3
set_option linter.all false
namespace Go.Sym.B
open Go Go.Sym Go.Proofs Go.Sym.C
theorem _root_.Go.Sym.vj {a b:Prop} (x:a) (y:b):a∧b:=⟨x,y⟩
def _root_.Go.Sym.uq:=@blockK_miss
def _root_.Go.Sym.ux:=@blockK_hit
def _root_.Go.Sym.uz:=@blockK_n
def _root_.Go.Sym.uj:=@blockK_r
def _root_.Go.Sym.uk:=@thenK_x
def _root_.Go.Sym.uw:=@thenK_r
def _root_.Go.Sym.uv:=@thenK_n
def _root_.Go.Sym.vq:=@drawB_of
def _root_.Go.Sym.vx:=@sym_reg
def _root_.Go.Sym.vz:=@sym_cz
def mineB (p:List Bunk) (k:Int):Bool:=p.any fun b=>decide (b.cab=k)
def emH (c:Chart) (s:Int) (k:Nat) (m:Nat):Bool:=(List.range m).all fun (j:Nat)=>!heldB c.sold ⟨(k:Int),(j:Int)⟩ s
def ltB (c:Chart) (p:List Bunk) (s:Int) (k:Nat):Bool:=mineB p k && emH c s k (c.cabins.getD k default).beds.toNat
def ltC (c:Chart) (p:List Bunk) (s:Int):Nat→Nat
  |0=>0
  |k+1=>ltC c p s k+if ltB c p s k then 1 else 0
def ltS (c:Chart) (a:Ask) (p:List Bunk):Nat→Nat
  |0=>0
  |j+1=>ltS c a p j+ltC c p (a.frm+(j:Int)) c.cabins.length
def lostN (c:Chart) (a:Ask) (p:List Bunk):Nat:=ltS c a p (a.to - a.frm).toNat
def mxK (f:Nat→Int):Nat→Int × Nat
  |0=>(-1,0)
  |i+1=>if (mxK f i).1 < f i then (f i,i) else mxK f i
theorem empty_app (l:List Tk) (t:Tk) (s i:Int):emptyB (l++[t]) s i=(emptyB l s i && !(atB s t && decide (t.cab=i))):=by
  unfold emptyB
  rw [List.all_append]
  simp
theorem growP_empty {cs:List Cabin} {a:Ask}:∀ (m:Nat) (sold:List Tk) (begun:List Bunk),∀ x ∈ growP cs a m sold begun,∃ new:List Bunk,x.1=begun++new∧∀ s i:Int,emptyB x.2 s i=(emptyB sold s i && new.all fun b=>!((decide (a.frm≤s) && decide (s < a.to)) && decide (b.cab=i)))
  |0,sold,begun,x,hx=>by
    simp only [growP,List.mem_singleton] at hx
    subst hx
    exact ⟨[],by simp,fun s i=>by simp⟩
  |m+1,sold,begun,x,hx=>by
    rw [growP_succ,List.mem_flatMap] at hx
    obtain ⟨b,hb,hx⟩:=hx
    unfold gbL at hx
    split at hx
    · obtain ⟨new,h1,h2⟩:=growP_empty m _ _ x hx
      refine ⟨b :: new,by rw [h1];simp,fun s i=>?_⟩
      rw [h2,empty_app,List.all_cons,Bool.and_assoc]
      rfl
    · simp at hx
theorem inB_at {s:Int} {t:Tk}:inB s t.frm (t.to - 1)=atB s t:=by
  unfold inB atB
  congr 1
  rw [decide_eq_decide];omega
theorem emp_held {c:Chart} (hv:Val c) {k:Nat} (s:Int):emH c s k (c.cabins.getD k default).beds.toNat=emptyB c.sold s k:=by
  rw [Bool.eq_iff_iff]
  unfold emH emptyB
  rw [List.all_eq_true,List.all_eq_true]
  constructor
  · intro h t ht
    cases hq:(atB s t && decide (t.cab=(k:Int))) with
    |false=>rfl
    |true =>
      rw [Bool.and_eq_true,decide_eq_true_eq] at hq
      obtain ⟨h1,h2⟩:=hq
      have hk:=hv.tk t ht
      have hb:=hk.bed
      rw [h2] at hb
      have hb:0≤t.bed∧t.bed < (c.cabins.getD k default).beds:=hb
      have:=h t.bed.toNat (List.mem_range.2 (by omega))
      rw [Int.toNat_of_nonneg hb.1] at this
      have hh:heldB c.sold ⟨k,t.bed⟩ s=true:=List.any_eq_true.2 ⟨t,ht,by unfold onB;rw [inB_at,h1,decide_eq_true h2,decide_eq_true rfl];rfl⟩
      rw [hh] at this
      exact absurd this (by decide)
  · intro h j hj
    cases hq:heldB c.sold ⟨(k:Int),(j:Int)⟩ s with
    |false=>rfl
    |true =>
      obtain ⟨t,ht,h1⟩:=List.any_eq_true.1 hq
      unfold onB at h1
      rw [inB_at,Bool.and_eq_true,Bool.and_eq_true,decide_eq_true_eq] at h1
      have:=h t ht
      rw [h1.2,decide_eq_true h1.1.1] at this
      exact absurd this (by decide)
def cntE (sold:List Tk) (s:Int) (n:Nat):Nat:=((List.range n).filter fun (i:Nat)=>emptyB sold s i).length
theorem cntE_succ (sold:List Tk) (s:Int) (n:Nat):cntE sold s (n+1)=cntE sold s n+if emptyB sold s n then 1 else 0:=by
  unfold cntE
  rw [List.range_succ,List.filter_append,List.length_append]
  cases h:emptyB sold s n <;> simp [h]
def sumE (sold:List Tk) (n:Nat):Nat→Nat
  |0=>0
  |s+1=>sumE sold n s+cntE sold s n
theorem rest_sum (cs:List Cabin) (secs:Int) (sold:List Tk):restN cs secs sold=(sumE sold cs.length secs.toNat:Int):=by
  unfold restN
  have:∀ k,((List.range k).flatMap fun (s:Nat)=>(List.range cs.length).filter fun (i:Nat)=>emptyB sold s i).length=sumE sold cs.length k:=by
    intro k
    induction k with
    |zero=>rfl
    |succ k ih =>
      rw [List.range_succ,List.flatMap_append,List.length_append,ih,sumE]
      simp [cntE]
  rw [this]
theorem cnt_after {c:Chart} {a:Ask} (hv:Val c) {sold2:List Tk} {p:List Bunk} {s:Int} (h:∀ i:Int,emptyB sold2 s i=(emptyB c.sold s i && p.all fun b=>!((decide (a.frm≤s) && decide (s < a.to)) && decide (b.cab=i)))) :
    ∀ n,cntE c.sold s n=cntE sold2 s n+if a.frm≤s∧s < a.to then ltC c p s n else 0
  |0=>by
    have:∀ l:List Tk,cntE l s 0=0:=fun l=>rfl
    rw [this,this]
    split <;> rfl
  |n+1=>by
    have ih:=cnt_after hv h n
    rw [cntE_succ,cntE_succ,ih,h n]
    by_cases hs:a.frm≤s∧s < a.to
    · rw [if_pos hs,if_pos hs,ltC]
      have hm:(p.all fun b=>!((decide (a.frm≤s) && decide (s < a.to)) && decide (b.cab=(n:Int))))=!mineB p n:=by
        unfold mineB
        rw [decide_eq_true hs.1,decide_eq_true hs.2,List.not_any_eq_all_not]
        rfl
      have hl:ltB c p s n=(mineB p n && emptyB c.sold s n):=by unfold ltB;rw [emp_held hv]
      rw [hm,hl]
      cases mineB p n <;> cases emptyB c.sold s n <;> simp <;> omega
    · rw [if_neg hs,if_neg hs]
      have hm:(p.all fun b=>!((decide (a.frm≤s) && decide (s < a.to)) && decide (b.cab=(n:Int))))=true:=by
        rw [show (decide (a.frm≤s) && decide (s < a.to))=false by rw [Bool.and_eq_false_iff];by_cases h1:a.frm≤s;right;simpa using fun h=>hs ⟨h1,h⟩;left;simpa using h1]
        simp
      rw [hm]
      cases emptyB c.sold s n <;> simp
theorem sum_after {c:Chart} {a:Ask} (hv:Val c) {sold2:List Tk} {p:List Bunk} (h:∀ s i:Int,emptyB sold2 s i=(emptyB c.sold s i && p.all fun b=>!((decide (a.frm≤s) && decide (s < a.to)) && decide (b.cab=i)))) {f t:Nat} (hf:a.frm=f) (ht:a.to=t) :
    ∀ k,sumE c.sold c.cabins.length k=sumE sold2 c.cabins.length k+ltS c a p (min k t - f)
  |0=>by simp [sumE,ltS]
  |k+1=>by
    rw [sumE,sumE,sum_after hv h hf ht k,cnt_after hv (h k)]
    rw [hf,ht]
    by_cases hk:f≤k∧k < t
    · rw [if_pos (by omega),show min (k+1) t - f=(min k t - f)+1 by omega,ltS,hf,show (f:Int)+((min k t - f:Nat):Int)=(k:Int) by omega]
      omega
    · rw [if_neg (by omega),show min (k+1) t - f=min k t - f by omega]
      omega
theorem rest_after {c:Chart} {a:Ask} (h:bothE c a=0) {x:List Bunk × List Tk} (hx:x ∈ plP c a):restN c.cabins c.secs x.2=restN c.cabins c.secs c.sold - lostN c a x.1:=by
  have hv:=(plOk_of h).val
  have hw:=ask_way h
  obtain ⟨new,h1,h2⟩:=growP_empty _ _ _ x hx
  rw [List.nil_append] at h1
  rw [rest_sum,rest_sum]
  obtain ⟨f,hf⟩:∃ f:Nat,a.frm=f:=⟨a.frm.toNat,by omega⟩
  obtain ⟨t,ht⟩:∃ t:Nat,a.to=t:=⟨a.to.toNat,by omega⟩
  have:=sum_after hv h2 hf ht c.secs.toNat
  rw [this,← h1]
  unfold lostN
  rw [show min c.secs.toNat t - f=(a.to - a.frm).toNat by omega]
  omega
theorem rest_nn (cs:List Cabin) (secs:Int) (sold:List Tk):0≤restN cs secs sold:=by rw [rest_sum];omega
def rsF (c:Chart) (a:Ask) (i:Nat):Int:=restN c.cabins c.secs c.sold - lostN c a ((plP c a).getD i default).1
theorem bs_mx {c:Chart} {a:Ask} (h:bothE c a=0):∀ j,j≤(plP c a).length→(j=0∧bsK c a j=(false,[],0))∨(bsK c a j=(true,((plP c a).getD (mxK (rsF c a) j).2 default).1,(mxK (rsF c a) j).1)∧(mxK (rsF c a) j).2 < j)
  |0,_=>.inl ⟨rfl,rfl⟩
  |j+1,hj=>by
    right
    have hm:restN c.cabins c.secs ((plP c a).getD j default).2=rsF c a j:=rest_after h (gMem (by omega))
    have h0:0≤rsF c a j:=by rw [← hm];exact rest_nn _ _ _
    rw [bsK,hm]
    rcases bs_mx h j (by omega) with ⟨h1,h2⟩|⟨h1,h2⟩
    · subst h1
      rw [h2,mxK,mxK]
      simp only [Bool.not_false,Bool.true_or,if_true]
      rw [if_pos (by omega)]
      exact ⟨rfl,by simp only;omega⟩
    · rw [h1,mxK]
      simp only [Bool.not_true,Bool.false_or,decide_eq_true_eq]
      split
      · exact ⟨rfl,by simp only;omega⟩
      · exact ⟨rfl,by omega⟩
end Go.Sym.B
namespace Go.Sym.B
open Go Go.Sym Go.Proofs Go.Sym.C
theorem ltC_le (c:Chart) (p:List Bunk) (s:Int):∀ k,ltC c p s k≤k
  |0=>Nat.le_refl _
  |k+1=>by have:=ltC_le c p s k;rw [ltC];split <;> omega
theorem ltS_le (c:Chart) (a:Ask) (p:List Bunk) (h:c.cabins.length≤3):∀ j,ltS c a p j≤j * 3
  |0=>Nat.le_refl _
  |j+1=>by
    have h1:=ltS_le c a p h j
    have h2:=ltC_le c p (a.frm+(j:Int)) c.cabins.length
    rw [ltS];omega
theorem cntE_le (l:List Tk) (s:Int) (n:Nat):cntE l s n≤n:=by
  unfold cntE
  exact Nat.le_trans (List.length_filter_le _ _) (by simp)
theorem sumE_le (l:List Tk) (n:Nat) (hn:n≤3):∀ k,sumE l n k≤k * 3
  |0=>Nat.le_refl _
  |k+1=>by
    have h1:=sumE_le l n hn k
    have h2:=cntE_le l k n
    rw [sumE];omega
theorem pl_len {c:Chart} {a:Ask} {j:Nat} (hj:j < (plP c a).length):((plP c a).getD j default).1.length=a.sexes.length:=by
  have:=growP_one a.sexes.length c.sold [] _ (gMem (l:=plP c a) (d:=default) hj)
  simpa using this
theorem mine_succ {p:List Bunk} {m:Nat} (h:m < p.length) (k:Int):mineB (p.take (m+1)) k=(mineB (p.take m) k || decide ((p.getD m default).cab=k)):=by
  unfold mineB
  rw [List.take_succ_eq_append_getElem h,List.any_append]
  simp [List.getD_eq_getElem?_getD,h]
theorem emH_succ (c:Chart) (s:Int) (k m:Nat):emH c s k (m+1)=(emH c s k m && !heldB c.sold ⟨(k:Int),(m:Int)⟩ s):=by
  unfold emH
  rw [List.range_succ,List.all_append]
  simp
def rlS (C:Chart) (A:Ask) (L:List (List Bunk)) (B:List Bunk) (f n:Int) (T:List (Nat × AV)):St:={ t:=asg (T++[(4,.ptr 1 0),(5,.ptr 2 0),(6,.row 3),(8,aBunks B),(9,aI f),(10,aI n)]),h:=hasg [(1,.cells (cChart C)),(2,.cells (cAsk A)),(3,.row 37 1 (L.map eBunks))],n:=4 }
def tbE6_law:=vj @ty3 (vj @ty4 (vj @ty22 (vj @ty25 (vj @ty28 (vj @ty31 (vj @ty33 (vj @ty34 (vj @ty37 (vj @ty49 (vj @ty51 (vj @ti3.eq_1 (vj @ti4.eq_1 (vj @ti22.eq_1 (vj @ti25.eq_1 (vj @ti28.eq_1 (vj @ti31.eq_1 (vj @ti33.eq_1 (vj @ti34.eq_1 (vj @ti37.eq_1 (vj @ti49.eq_1 @ti51.eq_1))))))))))))))))))))
def xbE6_1:=vj @aI.eq_1 (vj @aB.eq_1 (vj @aInts.eq_1 (@mInt)))
set_option maxRecDepth 100000 in
set_option maxHeartbeats 40000000 in
theorem restLaw_fn (nums:List Int) (hnums:nums.length≤maxLen):FnV Try.prog 4 [aInts nums] (aB true):=by
  have env:Env (fun _=>True) Try.prog tyB (tab [(15,fnE pBag),(16,fnE pChartOf),(17,fnE pAskedOf),(18,fnE pPlacesF),(19,valE false sBestF),(26,valE true sRestF),(28,valE false sbunk),(27,valE true sheld),(24,valE true seqB),(25,valE true sselling)]):=mkEnv ⟨eBag,eChartOf,eAskedOf,ePlacesF,eBestF,eRestF,ebunk,eheld,eeqB,eselling,trivial⟩
  refine Fn.of (A:=fun _=>True) (n0:=0) (D:=noD) (Fn0 Try.func4 rfl (fun vs w=>by kernel_rfl) (by kernel_rfl)) (by simp) (by simp [AV.ids,AV.idsL,aInts]) (fun i o h=>by cases h) (fun _ _ _ _=>trivial) noD_ok ?_
  obtain ⟨x0,hx0⟩:∃ x,nbS nums=x:=⟨_,rfl⟩
  obtain ⟨hC0,hCp,hCs,hCc,hCg⟩:=co_ok (x:=x0) (a:=3) (g:=4) (s:=5) (by decide) (by decide) (by decide)
  obtain ⟨C,hC⟩:∃ C,coC x0 3 4 5=C:=⟨_,rfl⟩
  obtain ⟨x1,hx1⟩:∃ x,coX x0 3 4 5=x:=⟨_,rfl⟩
  rw [hC] at hC0 hCp hCs hCc hCg
  obtain ⟨hA0,hA1,hA2⟩:=ao_ok (x:=x1) (n:=2) hC0 hCp (by decide)
  obtain ⟨A,hA⟩:∃ A,aoA x1 C.secs 2=A:=⟨_,rfl⟩
  rw [hA] at hA0 hA1 hA2
  have hv:=val_of hC0
  have hway:=ask_way hA0
  have hsec:=hv.car.secs
  have hcab:=hv.car.cabs
  have hbds:=hv.car.beds
  have eC:(⟨C.cabins,C.secs,C.sold⟩:Chart)=C:=rfl
  have eA:(⟨A.party,A.frm,A.to,A.sexes,A.dog⟩:Ask)=A:=rfl
  have hmx:(100000:Nat)≤maxLen:=by decide
  have c1:C.cabins.length≤maxLen:=by omega
  have c2:A.sexes.length≤maxLen:=by omega
  have c3:C.sold.length≤100:=by omega
  have c4:=small_val hv
  have hP:placesA C A=(plP C A).map (·.1):=by unfold placesA;rw [if_pos hA0]
  obtain ⟨L,hL⟩:∃ L,placesA C A=L:=⟨_,rfl⟩
  rw [hL] at hP
  have hLl:L.length=(plP C A).length:=by rw [hP,List.length_map]
  have hLg:∀ i,i < L.length→L.getD i []=((plP C A).getD i default).1:=fun i hi=>by
    rw [hP]
    rw [hLl] at hi
    simp [List.getD_eq_getElem?_getD,hi]
  have hRA:restA C=restN C.cabins C.secs C.sold:=by unfold restA;rw [if_pos hC0]
  obtain ⟨n,hn⟩:∃ n,restA C=n:=⟨_,rfl⟩
  rw [hn] at hRA
  have hnb:0≤n∧n≤100:=by
    rw [hRA,rest_sum]
    have:=sumE_le C.sold C.cabins.length hcab.2 C.secs.toNat
    omega
  have hrs:∀ i,rsF C A i=n - lostN C A ((plP C A).getD i default).1:=fun i=>by unfold rsF;rw [hRA]
  have hbm:=bs_mx hA0 (plP C A).length (Nat.le_refl _)
  have hBa:∃ (B:List Bunk) (f:Int),bestA C A=(B,f)∧((L.length=0∧f=11)∨(0 < L.length∧f=0∧(mxK (rsF C A) L.length).2 < L.length∧B=L.getD (mxK (rsF C A) L.length).2 [])):=by
    unfold bestA
    rw [if_pos hA0]
    rcases hbm with ⟨h1,h2⟩|⟨h1,h2⟩
    · exact ⟨[],11,by rw [h2];rfl,.inl ⟨by omega,rfl⟩⟩
    · refine ⟨_,0,by rw [h1];rfl,.inr ⟨by omega,rfl,by rw [hLl];exact h2, ?_⟩⟩
      rw [hLl,hLg _ (by omega)]
  obtain ⟨B,f,hB,hBf⟩:=hBa
  have hBl:B.length≤1000:=by
    rcases hBf with ⟨_,_⟩|⟨h1,h2,h3,h4⟩
    · have:B=[]:=by
        rcases hbm with ⟨_,h6⟩|⟨_,h6⟩
        · unfold bestA at hB;rw [if_pos hA0,h6] at hB;exact (congrArg Prod.fst hB).symm
        · omega
      rw [this];decide
    · rw [h4,hLg _ h3,pl_len (by omega)]
      omega
  have hch:checkE C=0:=hC0
  have hf2:(decide (f=0)=false∧decide (f=11)=true∧decide ((0:Int) < (L.length:Int))=false∧decide ((L.length:Int)=0)=true)∨(decide (f=0)=true∧True∧decide ((0:Int) < (L.length:Int))=true∧decide ((L.length:Int)=0)=false):=by
    rcases hBf with ⟨h1,h2⟩|⟨h1,h2,_⟩
    · exact .inl ⟨decide_eq_false (by omega),decide_eq_true h2,decide_eq_false (by omega),decide_eq_true (by omega)⟩
    · exact .inr ⟨decide_eq_true h2,trivial,decide_eq_true (by omega),decide_eq_false (by omega)⟩
  repeat' (first|(apply nx;with_reducible constructor)|refine uq (by decide) ?_)
  ((first|refine vx env fun Q hQ=>?_|refine vz fun Q hQ=>?_);simp only [vkt,seval,tbE6_law,xbE6_1,aBunk,aBunks,eBunk,eBunks,gBunk,gBunks,eCabin,gCabin,mBunk,mCabin,mTk,aChart,cChart,aAsk,cAsk,rlS,pBag,pChartOf,pAskedOf,pPlacesF,sBestF,sRestF,sbunk,sheld,seqB,sselling,List.length_map];(try simp only [ite_and]);(repeat' (first|with_reducible assumption|refine And.intro ?_ ?_|intro hp));all_goals (first|(refine hQ _ ?_;clear hQ Q)|(refine hQ _ (fun h=>?_) (fun h=>?_) <;> clear hQ Q <;> (try simp only [vki,reduceCtorEq] at h))|(refine vq ?_;kernel_rfl)|omega|assumption|with_reducible rfl|skip))
  repeat' (first|(apply nx;with_reducible constructor)|refine uq (by decide) ?_)
  ((first|refine vx env fun Q hQ=>?_|refine vz fun Q hQ=>?_);simp only [vkt,seval,tbE6_law,xbE6_1,aBunk,aBunks,eBunk,eBunks,gBunk,gBunks,eCabin,gCabin,mBunk,mCabin,mTk,aChart,cChart,aAsk,cAsk,rlS,pBag,pChartOf,pAskedOf,pPlacesF,sBestF,sRestF,sbunk,sheld,seqB,sselling,List.length_map,hx0];(try simp only [ite_and]);(repeat' (first|with_reducible assumption|refine And.intro ?_ ?_|intro hp));all_goals (first|(refine hQ _ ?_;clear hQ Q)|(refine hQ _ (fun h=>?_) (fun h=>?_) <;> clear hQ Q <;> (try simp only [vki,reduceCtorEq] at h))|(refine vq ?_;kernel_rfl)|omega|assumption|with_reducible rfl|skip))
  repeat' (first|(apply nx;with_reducible constructor)|refine uq (by decide) ?_)
  ((first|refine vx env fun Q hQ=>?_|refine vz fun Q hQ=>?_);simp only [vkt,seval,tbE6_law,xbE6_1,aBunk,aBunks,eBunk,eBunks,gBunk,gBunks,eCabin,gCabin,mBunk,mCabin,mTk,aChart,cChart,aAsk,cAsk,rlS,pBag,pChartOf,pAskedOf,pPlacesF,sBestF,sRestF,sbunk,sheld,seqB,sselling,List.length_map,hC,hx1];(try simp only [ite_and]);(repeat' (first|with_reducible assumption|refine And.intro ?_ ?_|intro hp));all_goals (first|(refine hQ _ ?_;clear hQ Q)|(refine hQ _ (fun h=>?_) (fun h=>?_) <;> clear hQ Q <;> (try simp only [vki,reduceCtorEq] at h))|(refine vq ?_;kernel_rfl)|omega|assumption|with_reducible rfl|skip))
  repeat' (first|(apply nx;with_reducible constructor)|refine uq (by decide) ?_)
  ((first|refine vx env fun Q hQ=>?_|refine vz fun Q hQ=>?_);simp only [vkt,seval,tbE6_law,xbE6_1,aBunk,aBunks,eBunk,eBunks,gBunk,gBunks,eCabin,gCabin,mBunk,mCabin,mTk,aChart,cChart,aAsk,cAsk,rlS,pBag,pChartOf,pAskedOf,pPlacesF,sBestF,sRestF,sbunk,sheld,seqB,sselling,List.length_map,hA,hsec];(try simp only [ite_and]);(repeat' (first|with_reducible assumption|refine And.intro ?_ ?_|intro hp));all_goals (first|(refine hQ _ ?_;clear hQ Q)|(refine hQ _ (fun h=>?_) (fun h=>?_) <;> clear hQ Q <;> (try simp only [vki,reduceCtorEq] at h))|(refine vq ?_;kernel_rfl)|omega|assumption|with_reducible rfl|skip))
  repeat' (first|(apply nx;with_reducible constructor)|refine uq (by decide) ?_)
  ((first|refine vx env fun Q hQ=>?_|refine vz fun Q hQ=>?_);simp only [vkt,seval,tbE6_law,xbE6_1,aBunk,aBunks,eBunk,eBunks,gBunk,gBunks,eCabin,gCabin,mBunk,mCabin,mTk,aChart,cChart,aAsk,cAsk,rlS,pBag,pChartOf,pAskedOf,pPlacesF,sBestF,sRestF,sbunk,sheld,seqB,sselling,List.length_map,eC,eA,c1,c2,hL,hA0];(try simp only [ite_and]);(repeat' (first|with_reducible assumption|refine And.intro ?_ ?_|intro hp));all_goals (first|(refine hQ _ ?_;clear hQ Q)|(refine hQ _ (fun h=>?_) (fun h=>?_) <;> clear hQ Q <;> (try simp only [vki,reduceCtorEq] at h))|(refine vq ?_;kernel_rfl)|omega|assumption|with_reducible rfl|skip))
  repeat' (first|(apply nx;with_reducible constructor)|refine uq (by decide) ?_)
  ((first|refine vx env fun Q hQ=>?_|refine vz fun Q hQ=>?_);simp only [vkt,seval,tbE6_law,xbE6_1,aBunk,aBunks,eBunk,eBunks,gBunk,gBunks,eCabin,gCabin,mBunk,mCabin,mTk,aChart,cChart,aAsk,cAsk,rlS,pBag,pChartOf,pAskedOf,pPlacesF,sBestF,sRestF,sbunk,sheld,seqB,sselling,List.length_map,eC,eA,c1,c2,hB];(try simp only [ite_and]);(repeat' (first|with_reducible assumption|refine And.intro ?_ ?_|intro hp));all_goals (first|(refine hQ _ ?_;clear hQ Q)|(refine hQ _ (fun h=>?_) (fun h=>?_) <;> clear hQ Q <;> (try simp only [vki,reduceCtorEq] at h))|(refine vq ?_;kernel_rfl)|omega|assumption|with_reducible rfl|skip))
  repeat' (first|(apply nx;with_reducible constructor)|refine uq (by decide) ?_)
  ((first|refine vx env fun Q hQ=>?_|refine vz fun Q hQ=>?_);simp only [vkt,seval,tbE6_law,xbE6_1,aBunk,aBunks,eBunk,eBunks,gBunk,gBunks,eCabin,gCabin,mBunk,mCabin,mTk,aChart,cChart,aAsk,cAsk,rlS,pBag,pChartOf,pAskedOf,pPlacesF,sBestF,sRestF,sbunk,sheld,seqB,sselling,List.length_map,eC,c1,hn,hch];(try simp only [ite_and]);(repeat' (first|with_reducible assumption|refine And.intro ?_ ?_|intro hp));all_goals (first|(refine hQ _ ?_;clear hQ Q)|(refine hQ _ (fun h=>?_) (fun h=>?_) <;> clear hQ Q <;> (try simp only [vki,reduceCtorEq] at h))|(refine vq ?_;kernel_rfl)|omega|assumption|with_reducible rfl|skip))
  repeat' (first|(apply nx;with_reducible constructor)|refine uq (by decide) ?_)
  refine Sym.mono (K:=fun e S1=>e=.normal∧Le S1 (rlS C A L B f n [(67,aB false)])) ?_ ?_
  · rcases hf2 with ⟨q1,q2,q3,q4⟩|⟨q1,q2,q3,q4⟩
    all_goals
      ((first|refine vx env fun Q hQ=>?_|refine vz fun Q hQ=>?_);simp only [vkt,seval,tbE6_law,xbE6_1,aBunk,aBunks,eBunk,eBunks,gBunk,gBunks,eCabin,gCabin,mBunk,mCabin,mTk,aChart,cChart,aAsk,cAsk,rlS,pBag,pChartOf,pAskedOf,pPlacesF,sBestF,sRestF,sbunk,sheld,seqB,sselling,List.length_map,q1,q2,q3,q4,decide_true,Bool.not_true,Bool.not_false];(try simp only [ite_and]);(repeat' (first|with_reducible assumption|refine And.intro ?_ ?_|intro hp));all_goals (first|(refine hQ _ ?_;clear hQ Q)|(refine hQ _ (fun h=>?_) (fun h=>?_) <;> clear hQ Q <;> (try simp only [vki,reduceCtorEq] at h))|(refine vq ?_;kernel_rfl)|omega|assumption|with_reducible rfl|skip))
      refine ⟨rfl, ?_⟩
      simp only [rlS,List.cons_append,List.nil_append]
      (refine Le.ok some [] ?_;constructor;all_goals (try simp only [vle,vkt,seval,tbE6_law,xbE6_1,aBunk,aBunks,eBunk,eBunks,gBunk,gBunks,eCabin,gCabin,mBunk,mCabin,mTk,aChart,cChart,aAsk,cAsk,rlS,pBag,pChartOf,pAskedOf,pPlacesF,sBestF,sRestF,sbunk,sheld,seqB,sselling,List.length_map]))
      all_goals first|rfl|(simp;done)
  rintro e S1 ⟨rfl,hle⟩
  refine (sym_le hle ?_:Sym _ _ _ S1 _)
  clear hle S1
  simp only [rlS,List.cons_append,List.nil_append]
  repeat' (first|(apply nx;with_reducible constructor)|refine uq (by decide) ?_|((first|refine vx env fun Q hQ=>?_|refine vz fun Q hQ=>?_);simp only [vkt,seval,tbE6_law,xbE6_1,aBunk,aBunks,eBunk,eBunks,gBunk,gBunks,eCabin,gCabin,mBunk,mCabin,mTk,aChart,cChart,aAsk,cAsk,rlS,pBag,pChartOf,pAskedOf,pPlacesF,sBestF,sRestF,sbunk,sheld,seqB,sselling,List.length_map];(try simp only [ite_and]);(repeat' (first|with_reducible assumption|refine And.intro ?_ ?_|intro hp));all_goals (first|(refine hQ _ ?_;clear hQ Q)|(refine hQ _ (fun h=>?_) (fun h=>?_) <;> clear hQ Q <;> (try simp only [vki,reduceCtorEq] at h))|(refine vq ?_;kernel_rfl)|omega|assumption|with_reducible rfl|skip)))
  refine sym_loop (fun i:{ i:Nat // i≤L.length }=>rlS C A L B f n [(12,aI (mxK (rsF C A) i.1).1),(13,aI (mxK (rsF C A) i.1).2),(14,aI i.1)]) (fun i=>L.length - i.1) ⟨0,Nat.zero_le _⟩ ?_ fun ⟨i,hi⟩=>?_
  · simp only [rlS,mxK,List.cons_append,List.nil_append]
    (refine Le.ok some [] ?_;constructor;all_goals (try simp only [vle,vkt,seval,tbE6_law,xbE6_1,aBunk,aBunks,eBunk,eBunks,gBunk,gBunks,eCabin,gCabin,mBunk,mCabin,mTk,aChart,cChart,aAsk,cAsk,rlS,pBag,pChartOf,pAskedOf,pPlacesF,sBestF,sRestF,sbunk,sheld,seqB,sselling,List.length_map]))
    all_goals first|rfl|(simp;done)
  simp only at hi ⊢
  obtain ⟨⟨most,at_⟩,hmx1⟩:∃ q,mxK (rsF C A) i=q:=⟨_,rfl⟩
  have hmxS:mxK (rsF C A) (i+1)=if most < rsF C A i then (rsF C A i,i) else (most,at_):=by rw [mxK,hmx1]
  by_cases hil:i < L.length
  · have d1:decide ((i:Int) < (L.length:Int))=true:=decide_eq_true (by omega)
    have e9:IntKind.wrap .i64 ((i:Int)+1)=((i+1:Nat):Int):=by rw [wrap64 (by omega) (by have:=plP_bd (plOk_of hA0);omega)];rfl
    have i0:((i:Int)).toNat=i:=rfl
    obtain ⟨p,hp⟩:∃ p,L.getD i []=p:=⟨_,rfl⟩
    have hg:=hBunks hil
    rw [hp] at hg
    have hpl:p.length=A.sexes.length:=by rw [← hp,hLg i hil,pl_len (by omega)]
    have hri:rsF C A i=n - lostN C A p:=by rw [hrs,← hLg i hil,hp]
    rw [hri] at hmxS
    rw [hmx1]
    obtain ⟨M,hM⟩:∃ M,(A.to - A.frm).toNat=M:=⟨_,rfl⟩
    repeat' (first|(apply nx;with_reducible constructor)|refine uq (by decide) ?_)
    ((first|refine vx env fun Q hQ=>?_|refine vz fun Q hQ=>?_);simp only [vkt,seval,tbE6_law,xbE6_1,aBunk,aBunks,eBunk,eBunks,gBunk,gBunks,eCabin,gCabin,mBunk,mCabin,mTk,aChart,cChart,aAsk,cAsk,rlS,pBag,pChartOf,pAskedOf,pPlacesF,sBestF,sRestF,sbunk,sheld,seqB,sselling,List.length_map,d1];(try simp only [ite_and]);(repeat' (first|with_reducible assumption|refine And.intro ?_ ?_|intro hp));all_goals (first|(refine hQ _ ?_;clear hQ Q)|(refine hQ _ (fun h=>?_) (fun h=>?_) <;> clear hQ Q <;> (try simp only [vki,reduceCtorEq] at h))|(refine vq ?_;kernel_rfl)|omega|assumption|with_reducible rfl|skip))
    repeat' (first|(apply nx;with_reducible constructor)|refine uq (by decide) ?_)
    ((first|refine vx env fun Q hQ=>?_|refine vz fun Q hQ=>?_);simp only [vkt,seval,tbE6_law,xbE6_1,aBunk,aBunks,eBunk,eBunks,gBunk,gBunks,eCabin,gCabin,mBunk,mCabin,mTk,aChart,cChart,aAsk,cAsk,rlS,pBag,pChartOf,pAskedOf,pPlacesF,sBestF,sRestF,sbunk,sheld,seqB,sselling,List.length_map];(try simp only [ite_and]);(repeat' (first|with_reducible assumption|refine And.intro ?_ ?_|intro hp));all_goals (first|(refine hQ _ ?_;clear hQ Q)|(refine hQ _ (fun h=>?_) (fun h=>?_) <;> clear hQ Q <;> (try simp only [vki,reduceCtorEq] at h))|(refine vq ?_;kernel_rfl)|omega|assumption|with_reducible rfl|skip))
    repeat' (first|(apply nx;with_reducible constructor)|refine uq (by decide) ?_)
    ((first|refine vx env fun Q hQ=>?_|refine vz fun Q hQ=>?_);simp only [vkt,seval,tbE6_law,xbE6_1,aBunk,aBunks,eBunk,eBunks,gBunk,gBunks,eCabin,gCabin,mBunk,mCabin,mTk,aChart,cChart,aAsk,cAsk,rlS,pBag,pChartOf,pAskedOf,pPlacesF,sBestF,sRestF,sbunk,sheld,seqB,sselling,List.length_map,i0,hil,hg,hpl,decide_true,Bool.not_true];(try simp only [ite_and]);(repeat' (first|with_reducible assumption|refine And.intro ?_ ?_|intro hp));all_goals (first|(refine hQ _ ?_;clear hQ Q)|(refine hQ _ (fun h=>?_) (fun h=>?_) <;> clear hQ Q <;> (try simp only [vki,reduceCtorEq] at h))|(refine vq ?_;kernel_rfl)|omega|assumption|with_reducible rfl|skip))
    repeat' (first|(apply nx;with_reducible constructor)|refine uq (by decide) ?_|((first|refine vx env fun Q hQ=>?_|refine vz fun Q hQ=>?_);simp only [vkt,seval,tbE6_law,xbE6_1,aBunk,aBunks,eBunk,eBunks,gBunk,gBunks,eCabin,gCabin,mBunk,mCabin,mTk,aChart,cChart,aAsk,cAsk,rlS,pBag,pChartOf,pAskedOf,pPlacesF,sBestF,sRestF,sbunk,sheld,seqB,sselling,List.length_map];(try simp only [ite_and]);(repeat' (first|with_reducible assumption|refine And.intro ?_ ?_|intro hp));all_goals (first|(refine hQ _ ?_;clear hQ Q)|(refine hQ _ (fun h=>?_) (fun h=>?_) <;> clear hQ Q <;> (try simp only [vki,reduceCtorEq] at h))|(refine vq ?_;kernel_rfl)|omega|assumption|with_reducible rfl|skip)))
    have hfr:A.frm+((0:Nat):Int)=A.frm:=by omega
    refine sym_loop (fun j:{ j:Nat // j≤M }=>rlS C A L B f n [(12,aI most),(13,aI at_),(14,aI i),(15,aI (ltS C A p j.1)),(16,aI (A.frm+(j.1:Int)))]) (fun j=>M - j.1) ⟨0,Nat.zero_le _⟩ ?_ fun ⟨j,hj⟩=>?_
    · simp only [rlS,ltS,hfr,List.cons_append,List.nil_append]
      (refine Le.ok some [] ?_;constructor;all_goals (try simp only [vle,vkt,seval,tbE6_law,xbE6_1,aBunk,aBunks,eBunk,eBunks,gBunk,gBunks,eCabin,gCabin,mBunk,mCabin,mTk,aChart,cChart,aAsk,cAsk,rlS,pBag,pChartOf,pAskedOf,pPlacesF,sBestF,sRestF,sbunk,sheld,seqB,sselling,List.length_map]))
      all_goals first|rfl|(simp;done)
    simp only at hj ⊢
    have hS3:=ltS_le C A p hcab.2 j
    obtain ⟨s,hs⟩:∃ s,A.frm+(j:Int)=s:=⟨_,rfl⟩
    obtain ⟨lo,hlo⟩:∃ q,ltS C A p j=q:=⟨_,rfl⟩
    have hSS:ltS C A p (j+1)=lo+ltC C p s C.cabins.length:=by rw [ltS,hs,hlo]
    rw [hs,hlo]
    rw [hlo] at hS3
    by_cases hjl:j < M
    · have d2:decide (s < A.to)=true:=decide_eq_true (by omega)
      have w2:IntKind.wrap .i64 (s+1)=A.frm+((j+1:Nat):Int):=by rw [wrap64 (by omega) (by omega)];omega
      simp only [rlS,List.cons_append,List.nil_append]
      repeat' (first|(apply nx;with_reducible constructor)|refine uq (by decide) ?_|((first|refine vx env fun Q hQ=>?_|refine vz fun Q hQ=>?_);simp only [vkt,seval,tbE6_law,xbE6_1,aBunk,aBunks,eBunk,eBunks,gBunk,gBunks,eCabin,gCabin,mBunk,mCabin,mTk,aChart,cChart,aAsk,cAsk,rlS,pBag,pChartOf,pAskedOf,pPlacesF,sBestF,sRestF,sbunk,sheld,seqB,sselling,List.length_map,d2];(try simp only [ite_and]);(repeat' (first|with_reducible assumption|refine And.intro ?_ ?_|intro hp));all_goals (first|(refine hQ _ ?_;clear hQ Q)|(refine hQ _ (fun h=>?_) (fun h=>?_) <;> clear hQ Q <;> (try simp only [vki,reduceCtorEq] at h))|(refine vq ?_;kernel_rfl)|omega|assumption|with_reducible rfl|skip)))
      refine sym_loop (fun k:{ k:Nat // k≤C.cabins.length }=>rlS C A L B f n [(12,aI most),(13,aI at_),(14,aI i),(15,aI (lo+ltC C p s k.1:Nat)),(16,aI s),(17,aI k.1)]) (fun k=>C.cabins.length - k.1) ⟨0,Nat.zero_le _⟩ ?_ fun ⟨k,hk⟩=>?_
      · simp only [rlS,ltC,Nat.add_zero,List.cons_append,List.nil_append]
        (refine Le.ok some [] ?_;constructor;all_goals (try simp only [vle,vkt,seval,tbE6_law,xbE6_1,aBunk,aBunks,eBunk,eBunks,gBunk,gBunks,eCabin,gCabin,mBunk,mCabin,mTk,aChart,cChart,aAsk,cAsk,rlS,pBag,pChartOf,pAskedOf,pPlacesF,sBestF,sRestF,sbunk,sheld,seqB,sselling,List.length_map]))
        all_goals first|rfl|(simp;done)
      simp only at hk ⊢
      have hC3:=ltC_le C p s k
      obtain ⟨l2,hl2⟩:∃ q,lo+ltC C p s k=q:=⟨_,rfl⟩
      have hCS:lo+ltC C p s (k+1)=l2+if ltB C p s k then 1 else 0:=by rw [ltC,← hl2];omega
      rw [hl2]
      by_cases hkl:k < C.cabins.length
      · have d3:decide ((k:Int) < (C.cabins.length:Int))=true:=decide_eq_true (by omega)
        have e8:IntKind.wrap .i64 ((k:Int)+1)=((k+1:Nat):Int):=by rw [wrap64 (by omega) (by omega)];rfl
        have k0:((k:Int)).toNat=k:=rfl
        obtain ⟨cb,hcb⟩:∃ q,C.cabins.getD k default=q:=⟨_,rfl⟩
        have hcg:=hCabin hkl
        rw [hcb] at hcg
        have hbb:=hbds cb (by rw [← hcb];exact gMem hkl)
        simp only [rlS,List.cons_append,List.nil_append]
        repeat' (first|(apply nx;with_reducible constructor)|refine uq (by decide) ?_|((first|refine vx env fun Q hQ=>?_|refine vz fun Q hQ=>?_);simp only [vkt,seval,tbE6_law,xbE6_1,aBunk,aBunks,eBunk,eBunks,gBunk,gBunks,eCabin,gCabin,mBunk,mCabin,mTk,aChart,cChart,aAsk,cAsk,rlS,pBag,pChartOf,pAskedOf,pPlacesF,sBestF,sRestF,sbunk,sheld,seqB,sselling,List.length_map,d3];(try simp only [ite_and]);(repeat' (first|with_reducible assumption|refine And.intro ?_ ?_|intro hp));all_goals (first|(refine hQ _ ?_;clear hQ Q)|(refine hQ _ (fun h=>?_) (fun h=>?_) <;> clear hQ Q <;> (try simp only [vki,reduceCtorEq] at h))|(refine vq ?_;kernel_rfl)|omega|assumption|with_reducible rfl|skip)))
        refine sym_loop (fun m:{ m:Nat // m≤p.length }=>rlS C A L B f n [(12,aI most),(13,aI at_),(14,aI i),(15,aI l2),(16,aI s),(17,aI k),(18,aB (mineB (p.take m.1) k)),(19,aB true),(20,aI m.1)]) (fun m=>p.length - m.1) ⟨0,Nat.zero_le _⟩ ?_ fun ⟨m,hm⟩=>?_
        · simp only [rlS,List.take_zero,show mineB [] (k:Int)=false from rfl,List.cons_append,List.nil_append]
          (refine Le.ok some [] ?_;constructor;all_goals (try simp only [vle,vkt,seval,tbE6_law,xbE6_1,aBunk,aBunks,eBunk,eBunks,gBunk,gBunks,eCabin,gCabin,mBunk,mCabin,mTk,aChart,cChart,aAsk,cAsk,rlS,pBag,pChartOf,pAskedOf,pPlacesF,sBestF,sRestF,sbunk,sheld,seqB,sselling,List.length_map]))
          all_goals first|rfl|(simp;done)
        simp only at hm ⊢
        obtain ⟨mb,hmb⟩:∃ q,mineB (p.take m) k=q:=⟨_,rfl⟩
        simp only [rlS,hmb,List.cons_append,List.nil_append]
        by_cases hml:m < p.length
        · have d4:decide ((m:Int) < (p.length:Int))=true:=decide_eq_true (by omega)
          have e7:IntKind.wrap .i64 ((m:Int)+1)=((m+1:Nat):Int):=by rw [wrap64 (by omega) (by omega)];rfl
          have m0:((m:Int)).toNat=m:=rfl
          obtain ⟨b,hb⟩:∃ q,p.getD m default=q:=⟨_,rfl⟩
          have hms:=mine_succ hml (k:Int)
          rw [hb,hmb] at hms
          have fin:∀ S q,mineB (p.take (m+1)) k=q→Le S (rlS C A L B f n [(12,aI most),(13,aI at_),(14,aI i),(15,aI l2),(16,aI s),(17,aI k),(18,aB q),(19,aB true),(20,aI (m+1:Nat))])→∃ y:{ m:Nat // m≤p.length },(p.length - y.1 < p.length - m)∧Le S (rlS C A L B f n [(12,aI most),(13,aI at_),(14,aI i),(15,aI l2),(16,aI s),(17,aI k),(18,aB (mineB (p.take y.1) k)),(19,aB true),(20,aI y.1)]):=fun S q hq hle=>⟨⟨m+1,hml⟩,by show p.length - (m+1) < p.length - m;omega,by rw [hq];exact hle⟩
          cases mb with
          |true =>
            repeat' (first|(apply nx;with_reducible constructor)|refine uq (by decide) ?_|((first|refine vx env fun Q hQ=>?_|refine vz fun Q hQ=>?_);simp only [vkt,seval,tbE6_law,xbE6_1,aBunk,aBunks,eBunk,eBunks,gBunk,gBunks,eCabin,gCabin,mBunk,mCabin,mTk,aChart,cChart,aAsk,cAsk,rlS,pBag,pChartOf,pAskedOf,pPlacesF,sBestF,sRestF,sbunk,sheld,seqB,sselling,List.length_map,hil,i0,hg,d4,e7];(try simp only [ite_and]);(repeat' (first|with_reducible assumption|refine And.intro ?_ ?_|intro hp));all_goals (first|(refine hQ _ ?_;clear hQ Q)|(refine hQ _ (fun h=>?_) (fun h=>?_) <;> clear hQ Q <;> (try simp only [vki,reduceCtorEq] at h))|(refine vq ?_;kernel_rfl)|omega|assumption|with_reducible rfl|skip)))
            refine fin _ true (by rw [hms];rfl) ?_
            simp only [rlS,List.cons_append,List.nil_append]
            (refine Le.ok some [] ?_;constructor;all_goals (try simp only [vle,vkt,seval,tbE6_law,xbE6_1,aBunk,aBunks,eBunk,eBunks,gBunk,gBunks,eCabin,gCabin,mBunk,mCabin,mTk,aChart,cChart,aAsk,cAsk,rlS,pBag,pChartOf,pAskedOf,pPlacesF,sBestF,sRestF,sbunk,sheld,seqB,sselling,List.length_map]))
            all_goals first|rfl|(simp;done)
          |false =>
            obtain ⟨q,hq⟩:∃ q,decide (b.cab=(k:Int))=q:=⟨_,rfl⟩
            rw [hq] at hms
            repeat' (first|(apply nx;with_reducible constructor)|refine uq (by decide) ?_|((first|refine vx env fun Q hQ=>?_|refine vz fun Q hQ=>?_);simp only [vkt,seval,tbE6_law,xbE6_1,aBunk,aBunks,eBunk,eBunks,gBunk,gBunks,eCabin,gCabin,mBunk,mCabin,mTk,aChart,cChart,aAsk,cAsk,rlS,pBag,pChartOf,pAskedOf,pPlacesF,sBestF,sRestF,sbunk,sheld,seqB,sselling,List.length_map,hil,i0,hg,d4,e7,m0,hml,hb,hq];(try simp only [ite_and]);(repeat' (first|with_reducible assumption|refine And.intro ?_ ?_|intro hp));all_goals (first|(refine hQ _ ?_;clear hQ Q)|(refine hQ _ (fun h=>?_) (fun h=>?_) <;> clear hQ Q <;> (try simp only [vki,reduceCtorEq] at h))|(refine vq ?_;kernel_rfl)|omega|assumption|with_reducible rfl|skip)))
            refine fin _ q (by rw [hms];rfl) ?_
            simp only [rlS,List.cons_append,List.nil_append]
            (refine Le.ok some [] ?_;constructor;all_goals (try simp only [vle,vkt,seval,tbE6_law,xbE6_1,aBunk,aBunks,eBunk,eBunks,gBunk,gBunks,eCabin,gCabin,mBunk,mCabin,mTk,aChart,cChart,aAsk,cAsk,rlS,pBag,pChartOf,pAskedOf,pPlacesF,sBestF,sRestF,sbunk,sheld,seqB,sselling,List.length_map]))
            all_goals first|rfl|(simp;done)
        · have d4:decide ((m:Int) < (p.length:Int))=false:=decide_eq_false (by omega)
          obtain rfl:m=p.length:=by omega
          rw [List.take_length] at hmb
          repeat' (first|(apply nx;with_reducible constructor)|refine uq (by decide) ?_|((first|refine vx env fun Q hQ=>?_|refine vz fun Q hQ=>?_);simp only [vkt,seval,tbE6_law,xbE6_1,aBunk,aBunks,eBunk,eBunks,gBunk,gBunks,eCabin,gCabin,mBunk,mCabin,mTk,aChart,cChart,aAsk,cAsk,rlS,pBag,pChartOf,pAskedOf,pPlacesF,sBestF,sRestF,sbunk,sheld,seqB,sselling,List.length_map,hil,i0,hg,d4];(try simp only [ite_and]);(repeat' (first|with_reducible assumption|refine And.intro ?_ ?_|intro hp));all_goals (first|(refine hQ _ ?_;clear hQ Q)|(refine hQ _ (fun h=>?_) (fun h=>?_) <;> clear hQ Q <;> (try simp only [vki,reduceCtorEq] at h))|(refine vq ?_;kernel_rfl)|omega|assumption|with_reducible rfl|skip)))
          refine sym_loop (fun m:{ m:Nat // m≤cb.beds.toNat }=>rlS C A L B f n [(12,aI most),(13,aI at_),(14,aI i),(15,aI l2),(16,aI s),(17,aI k),(18,aB mb),(19,aB (emH C s k m.1)),(21,aI m.1)]) (fun m=>cb.beds.toNat - m.1) ⟨0,Nat.zero_le _⟩ ?_ fun ⟨m,hm⟩=>?_
          · simp only [rlS,show emH C s k 0=true from rfl,List.cons_append,List.nil_append]
            (refine Le.ok some [] ?_;constructor;all_goals (try simp only [vle,vkt,seval,tbE6_law,xbE6_1,aBunk,aBunks,eBunk,eBunks,gBunk,gBunks,eCabin,gCabin,mBunk,mCabin,mTk,aChart,cChart,aAsk,cAsk,rlS,pBag,pChartOf,pAskedOf,pPlacesF,sBestF,sRestF,sbunk,sheld,seqB,sselling,List.length_map]))
            all_goals first|rfl|(simp;done)
          simp only at hm ⊢
          obtain ⟨me,hme⟩:∃ q,emH C s k m=q:=⟨_,rfl⟩
          simp only [rlS,hme,List.cons_append,List.nil_append]
          by_cases hml:m < cb.beds.toNat
          · have d5:decide ((m:Int) < cb.beds)=true:=decide_eq_true (by omega)
            have e7:IntKind.wrap .i64 ((m:Int)+1)=((m+1:Nat):Int):=by rw [wrap64 (by omega) (by omega)];rfl
            have hes:=emH_succ C s k m
            rw [hme] at hes
            obtain ⟨hh,hhv⟩:∃ q,heldB C.sold ⟨(k:Int),(m:Int)⟩ s=q:=⟨_,rfl⟩
            rw [hhv] at hes
            have fin:∀ S q,emH C s k (m+1)=q→Le S (rlS C A L B f n [(12,aI most),(13,aI at_),(14,aI i),(15,aI l2),(16,aI s),(17,aI k),(18,aB mb),(19,aB q),(21,aI (m+1:Nat))])→∃ y:{ m:Nat // m≤cb.beds.toNat },(cb.beds.toNat - y.1 < cb.beds.toNat - m)∧Le S (rlS C A L B f n [(12,aI most),(13,aI at_),(14,aI i),(15,aI l2),(16,aI s),(17,aI k),(18,aB mb),(19,aB (emH C s k y.1)),(21,aI y.1)]):=fun S q hq hle=>⟨⟨m+1,hml⟩,by show cb.beds.toNat - (m+1) < cb.beds.toNat - m;omega,by rw [hq];exact hle⟩
            cases me with
            |true =>
              repeat' (first|(apply nx;with_reducible constructor)|refine uq (by decide) ?_|((first|refine vx env fun Q hQ=>?_|refine vz fun Q hQ=>?_);simp only [vkt,seval,tbE6_law,xbE6_1,aBunk,aBunks,eBunk,eBunks,gBunk,gBunks,eCabin,gCabin,mBunk,mCabin,mTk,aChart,cChart,aAsk,cAsk,rlS,pBag,pChartOf,pAskedOf,pPlacesF,sBestF,sRestF,sbunk,sheld,seqB,sselling,List.length_map,k0,hkl,hcg,hcb,d5,e7,hhv,eC,c3,c4];(try simp only [ite_and]);(repeat' (first|with_reducible assumption|refine And.intro ?_ ?_|intro hp));all_goals (first|(refine hQ _ ?_;clear hQ Q)|(refine hQ _ (fun h=>?_) (fun h=>?_) <;> clear hQ Q <;> (try simp only [vki,reduceCtorEq] at h))|(refine vq ?_;kernel_rfl)|omega|assumption|with_reducible rfl|skip)))
              refine fin _ (!hh) (by rw [hes];rfl) ?_
              simp only [rlS,List.cons_append,List.nil_append]
              (refine Le.ok some [] ?_;constructor;all_goals (try simp only [vle,vkt,seval,tbE6_law,xbE6_1,aBunk,aBunks,eBunk,eBunks,gBunk,gBunks,eCabin,gCabin,mBunk,mCabin,mTk,aChart,cChart,aAsk,cAsk,rlS,pBag,pChartOf,pAskedOf,pPlacesF,sBestF,sRestF,sbunk,sheld,seqB,sselling,List.length_map]))
              all_goals first|rfl|(simp;done)
            |false =>
              repeat' (first|(apply nx;with_reducible constructor)|refine uq (by decide) ?_|((first|refine vx env fun Q hQ=>?_|refine vz fun Q hQ=>?_);simp only [vkt,seval,tbE6_law,xbE6_1,aBunk,aBunks,eBunk,eBunks,gBunk,gBunks,eCabin,gCabin,mBunk,mCabin,mTk,aChart,cChart,aAsk,cAsk,rlS,pBag,pChartOf,pAskedOf,pPlacesF,sBestF,sRestF,sbunk,sheld,seqB,sselling,List.length_map,k0,hkl,hcg,hcb,d5,e7];(try simp only [ite_and]);(repeat' (first|with_reducible assumption|refine And.intro ?_ ?_|intro hp));all_goals (first|(refine hQ _ ?_;clear hQ Q)|(refine hQ _ (fun h=>?_) (fun h=>?_) <;> clear hQ Q <;> (try simp only [vki,reduceCtorEq] at h))|(refine vq ?_;kernel_rfl)|omega|assumption|with_reducible rfl|skip)))
              refine fin _ false (by rw [hes];rfl) ?_
              simp only [rlS,List.cons_append,List.nil_append]
              (refine Le.ok some [] ?_;constructor;all_goals (try simp only [vle,vkt,seval,tbE6_law,xbE6_1,aBunk,aBunks,eBunk,eBunks,gBunk,gBunks,eCabin,gCabin,mBunk,mCabin,mTk,aChart,cChart,aAsk,cAsk,rlS,pBag,pChartOf,pAskedOf,pPlacesF,sBestF,sRestF,sbunk,sheld,seqB,sselling,List.length_map]))
              all_goals first|rfl|(simp;done)
          · have d5:decide ((m:Int) < cb.beds)=false:=decide_eq_false (by omega)
            obtain rfl:m=cb.beds.toNat:=by omega
            have hlb:ltB C p s k=(mb && me):=by unfold ltB;rw [hmb,hcb,hme]
            rw [hlb] at hCS
            have w3:IntKind.wrap .i64 ((l2:Int)+1)=((l2+1:Nat):Int):=by rw [wrap64 (by omega) (by omega)];rfl
            have fin:∀ S q,lo+ltC C p s (k+1)=q→Le S (rlS C A L B f n [(12,aI most),(13,aI at_),(14,aI i),(15,aI (q:Nat)),(16,aI s),(17,aI (k+1:Nat))])→∃ y:{ k:Nat // k≤C.cabins.length },(C.cabins.length - y.1 < C.cabins.length - k)∧Le S (rlS C A L B f n [(12,aI most),(13,aI at_),(14,aI i),(15,aI (lo+ltC C p s y.1:Nat)),(16,aI s),(17,aI y.1)]):=fun S q hq hle=>⟨⟨k+1,hkl⟩,by show C.cabins.length - (k+1) < C.cabins.length - k;omega,by rw [hq];exact hle⟩
            cases mb with
            |true =>
              cases me with
              |true =>
                repeat' (first|(apply nx;with_reducible constructor)|refine uq (by decide) ?_|((first|refine vx env fun Q hQ=>?_|refine vz fun Q hQ=>?_);simp only [vkt,seval,tbE6_law,xbE6_1,aBunk,aBunks,eBunk,eBunks,gBunk,gBunks,eCabin,gCabin,mBunk,mCabin,mTk,aChart,cChart,aAsk,cAsk,rlS,pBag,pChartOf,pAskedOf,pPlacesF,sBestF,sRestF,sbunk,sheld,seqB,sselling,List.length_map,k0,hkl,hcg,hcb,d5,e8,w3];(try simp only [ite_and]);(repeat' (first|with_reducible assumption|refine And.intro ?_ ?_|intro hp));all_goals (first|(refine hQ _ ?_;clear hQ Q)|(refine hQ _ (fun h=>?_) (fun h=>?_) <;> clear hQ Q <;> (try simp only [vki,reduceCtorEq] at h))|(refine vq ?_;kernel_rfl)|omega|assumption|with_reducible rfl|skip)))
                refine fin _ (l2+1) (by rw [hCS];rfl) ?_
                simp only [rlS,List.cons_append,List.nil_append]
                (refine Le.ok some [] ?_;constructor;all_goals (try simp only [vle,vkt,seval,tbE6_law,xbE6_1,aBunk,aBunks,eBunk,eBunks,gBunk,gBunks,eCabin,gCabin,mBunk,mCabin,mTk,aChart,cChart,aAsk,cAsk,rlS,pBag,pChartOf,pAskedOf,pPlacesF,sBestF,sRestF,sbunk,sheld,seqB,sselling,List.length_map]))
                all_goals first|rfl|(simp;done)
              |false =>
                repeat' (first|(apply nx;with_reducible constructor)|refine uq (by decide) ?_|((first|refine vx env fun Q hQ=>?_|refine vz fun Q hQ=>?_);simp only [vkt,seval,tbE6_law,xbE6_1,aBunk,aBunks,eBunk,eBunks,gBunk,gBunks,eCabin,gCabin,mBunk,mCabin,mTk,aChart,cChart,aAsk,cAsk,rlS,pBag,pChartOf,pAskedOf,pPlacesF,sBestF,sRestF,sbunk,sheld,seqB,sselling,List.length_map,k0,hkl,hcg,hcb,d5,e8];(try simp only [ite_and]);(repeat' (first|with_reducible assumption|refine And.intro ?_ ?_|intro hp));all_goals (first|(refine hQ _ ?_;clear hQ Q)|(refine hQ _ (fun h=>?_) (fun h=>?_) <;> clear hQ Q <;> (try simp only [vki,reduceCtorEq] at h))|(refine vq ?_;kernel_rfl)|omega|assumption|with_reducible rfl|skip)))
                refine fin _ l2 (by rw [hCS];rfl) ?_
                simp only [rlS,List.cons_append,List.nil_append]
                (refine Le.ok some [] ?_;constructor;all_goals (try simp only [vle,vkt,seval,tbE6_law,xbE6_1,aBunk,aBunks,eBunk,eBunks,gBunk,gBunks,eCabin,gCabin,mBunk,mCabin,mTk,aChart,cChart,aAsk,cAsk,rlS,pBag,pChartOf,pAskedOf,pPlacesF,sBestF,sRestF,sbunk,sheld,seqB,sselling,List.length_map]))
                all_goals first|rfl|(simp;done)
            |false =>
              repeat' (first|(apply nx;with_reducible constructor)|refine uq (by decide) ?_|((first|refine vx env fun Q hQ=>?_|refine vz fun Q hQ=>?_);simp only [vkt,seval,tbE6_law,xbE6_1,aBunk,aBunks,eBunk,eBunks,gBunk,gBunks,eCabin,gCabin,mBunk,mCabin,mTk,aChart,cChart,aAsk,cAsk,rlS,pBag,pChartOf,pAskedOf,pPlacesF,sBestF,sRestF,sbunk,sheld,seqB,sselling,List.length_map,k0,hkl,hcg,hcb,d5,e8];(try simp only [ite_and]);(repeat' (first|with_reducible assumption|refine And.intro ?_ ?_|intro hp));all_goals (first|(refine hQ _ ?_;clear hQ Q)|(refine hQ _ (fun h=>?_) (fun h=>?_) <;> clear hQ Q <;> (try simp only [vki,reduceCtorEq] at h))|(refine vq ?_;kernel_rfl)|omega|assumption|with_reducible rfl|skip)))
              refine fin _ l2 (by rw [hCS];rfl) ?_
              simp only [rlS,List.cons_append,List.nil_append]
              (refine Le.ok some [] ?_;constructor;all_goals (try simp only [vle,vkt,seval,tbE6_law,xbE6_1,aBunk,aBunks,eBunk,eBunks,gBunk,gBunks,eCabin,gCabin,mBunk,mCabin,mTk,aChart,cChart,aAsk,cAsk,rlS,pBag,pChartOf,pAskedOf,pPlacesF,sBestF,sRestF,sbunk,sheld,seqB,sselling,List.length_map]))
              all_goals first|rfl|(simp;done)
      · have d3:decide ((k:Int) < (C.cabins.length:Int))=false:=decide_eq_false (by omega)
        obtain rfl:k=C.cabins.length:=by omega
        simp only [rlS,List.cons_append,List.nil_append]
        repeat' (first|(apply nx;with_reducible constructor)|refine uq (by decide) ?_|((first|refine vx env fun Q hQ=>?_|refine vz fun Q hQ=>?_);simp only [vkt,seval,tbE6_law,xbE6_1,aBunk,aBunks,eBunk,eBunks,gBunk,gBunks,eCabin,gCabin,mBunk,mCabin,mTk,aChart,cChart,aAsk,cAsk,rlS,pBag,pChartOf,pAskedOf,pPlacesF,sBestF,sRestF,sbunk,sheld,seqB,sselling,List.length_map,d3,w2];(try simp only [ite_and]);(repeat' (first|with_reducible assumption|refine And.intro ?_ ?_|intro hp));all_goals (first|(refine hQ _ ?_;clear hQ Q)|(refine hQ _ (fun h=>?_) (fun h=>?_) <;> clear hQ Q <;> (try simp only [vki,reduceCtorEq] at h))|(refine vq ?_;kernel_rfl)|omega|assumption|with_reducible rfl|skip)))
        refine ⟨⟨j+1,hjl⟩,by show M - (j+1) < M - j;omega, ?_⟩
        show Le _ (rlS C A L B f n [(12,aI most),(13,aI at_),(14,aI i),(15,aI (ltS C A p (j+1))),(16,aI (A.frm+((j+1:Nat):Int)))])
        rw [hSS,hl2]
        simp only [rlS,List.cons_append,List.nil_append]
        (refine Le.ok some [] ?_;constructor;all_goals (try simp only [vle,vkt,seval,tbE6_law,xbE6_1,aBunk,aBunks,eBunk,eBunks,gBunk,gBunks,eCabin,gCabin,mBunk,mCabin,mTk,aChart,cChart,aAsk,cAsk,rlS,pBag,pChartOf,pAskedOf,pPlacesF,sBestF,sRestF,sbunk,sheld,seqB,sselling,List.length_map]))
        all_goals first|rfl|(simp;done)
    · have d2:decide (s < A.to)=false:=decide_eq_false (by omega)
      have hlN:lostN C A p=lo:=by unfold lostN;rw [hM,show M=j by omega];exact hlo
      rw [hlN] at hmxS
      have w4:IntKind.wrap .i64 (n - (lo:Int))=n - (lo:Int):=wrap64 (by omega) (by omega)
      have fin:∀ S q r,mxK (rsF C A) (i+1)=(q,r)→Le S (rlS C A L B f n [(12,aI q),(13,aI r),(14,aI (i+1:Nat))])→∃ y:{ i:Nat // i≤L.length },(L.length - y.1 < L.length - i)∧Le S (rlS C A L B f n [(12,aI (mxK (rsF C A) y.1).1),(13,aI (mxK (rsF C A) y.1).2),(14,aI y.1)]):=fun S q r hq hle=>⟨⟨i+1,hil⟩,by show L.length - (i+1) < L.length - i;omega,by rw [hq];exact hle⟩
      simp only [rlS,List.cons_append,List.nil_append]
      by_cases hgt:most < n - (lo:Int)
      · rw [if_pos hgt] at hmxS
        have d6:decide (most < n - (lo:Int))=true:=decide_eq_true hgt
        repeat' (first|(apply nx;with_reducible constructor)|refine uq (by decide) ?_|((first|refine vx env fun Q hQ=>?_|refine vz fun Q hQ=>?_);simp only [vkt,seval,tbE6_law,xbE6_1,aBunk,aBunks,eBunk,eBunks,gBunk,gBunks,eCabin,gCabin,mBunk,mCabin,mTk,aChart,cChart,aAsk,cAsk,rlS,pBag,pChartOf,pAskedOf,pPlacesF,sBestF,sRestF,sbunk,sheld,seqB,sselling,List.length_map,d2,w4,d6,e9];(try simp only [ite_and]);(repeat' (first|with_reducible assumption|refine And.intro ?_ ?_|intro hp));all_goals (first|(refine hQ _ ?_;clear hQ Q)|(refine hQ _ (fun h=>?_) (fun h=>?_) <;> clear hQ Q <;> (try simp only [vki,reduceCtorEq] at h))|(refine vq ?_;kernel_rfl)|omega|assumption|with_reducible rfl|skip)))
        refine fin _ _ _ hmxS ?_
        simp only [rlS,List.cons_append,List.nil_append]
        (refine Le.ok some [] ?_;constructor;all_goals (try simp only [vle,vkt,seval,tbE6_law,xbE6_1,aBunk,aBunks,eBunk,eBunks,gBunk,gBunks,eCabin,gCabin,mBunk,mCabin,mTk,aChart,cChart,aAsk,cAsk,rlS,pBag,pChartOf,pAskedOf,pPlacesF,sBestF,sRestF,sbunk,sheld,seqB,sselling,List.length_map]))
        all_goals first|rfl|(simp;done)
      · rw [if_neg hgt] at hmxS
        have d6:decide (most < n - (lo:Int))=false:=decide_eq_false hgt
        repeat' (first|(apply nx;with_reducible constructor)|refine uq (by decide) ?_|((first|refine vx env fun Q hQ=>?_|refine vz fun Q hQ=>?_);simp only [vkt,seval,tbE6_law,xbE6_1,aBunk,aBunks,eBunk,eBunks,gBunk,gBunks,eCabin,gCabin,mBunk,mCabin,mTk,aChart,cChart,aAsk,cAsk,rlS,pBag,pChartOf,pAskedOf,pPlacesF,sBestF,sRestF,sbunk,sheld,seqB,sselling,List.length_map,d2,w4,d6,e9];(try simp only [ite_and]);(repeat' (first|with_reducible assumption|refine And.intro ?_ ?_|intro hp));all_goals (first|(refine hQ _ ?_;clear hQ Q)|(refine hQ _ (fun h=>?_) (fun h=>?_) <;> clear hQ Q <;> (try simp only [vki,reduceCtorEq] at h))|(refine vq ?_;kernel_rfl)|omega|assumption|with_reducible rfl|skip)))
        refine fin _ _ _ hmxS ?_
        simp only [rlS,List.cons_append,List.nil_append]
        (refine Le.ok some [] ?_;constructor;all_goals (try simp only [vle,vkt,seval,tbE6_law,xbE6_1,aBunk,aBunks,eBunk,eBunks,gBunk,gBunks,eCabin,gCabin,mBunk,mCabin,mTk,aChart,cChart,aAsk,cAsk,rlS,pBag,pChartOf,pAskedOf,pPlacesF,sBestF,sRestF,sbunk,sheld,seqB,sselling,List.length_map]))
        all_goals first|rfl|(simp;done)
  · have d1:decide ((i:Int) < (L.length:Int))=false:=decide_eq_false (by omega)
    obtain rfl:i=L.length:=by omega
    simp only [rlS,hmx1,List.cons_append,List.nil_append]
    rcases hBf with ⟨h1,h2⟩|⟨h1,h2,h3,h4⟩
    · have dz:decide ((L.length:Int)=0)=true:=decide_eq_true (by omega)
      repeat' (first|(apply nx;with_reducible constructor)|refine uq (by decide) ?_|((first|refine vx env fun Q hQ=>?_|refine vz fun Q hQ=>?_);simp only [vkt,seval,tbE6_law,xbE6_1,aBunk,aBunks,eBunk,eBunks,gBunk,gBunks,eCabin,gCabin,mBunk,mCabin,mTk,aChart,cChart,aAsk,cAsk,rlS,pBag,pChartOf,pAskedOf,pPlacesF,sBestF,sRestF,sbunk,sheld,seqB,sselling,List.length_map,d1,dz];(try simp only [ite_and]);(repeat' (first|with_reducible assumption|refine And.intro ?_ ?_|intro hp));all_goals (first|(refine hQ _ ?_;clear hQ Q)|(refine hQ _ (fun h=>?_) (fun h=>?_) <;> clear hQ Q <;> (try simp only [vki,reduceCtorEq] at h))|(refine vq ?_;kernel_rfl)|omega|assumption|with_reducible rfl|skip)))
      (simp only [vrt,Try.results4,vkt,seval,tbE6_law,xbE6_1,aBunk,aBunks,eBunk,eBunks,gBunk,gBunks,eCabin,gCabin,mBunk,mCabin,mTk,aChart,cChart,aAsk,cAsk,rlS,pBag,pChartOf,pAskedOf,pPlacesF,sBestF,sRestF,sbunk,sheld,seqB,sselling,List.length_map];refine Fin.val rfl ?_;(try simp only [AV.le,AV.leL]))
      all_goals first|rfl|(simp;done)
    · have dz:decide ((L.length:Int)=0)=false:=decide_eq_false (by omega)
      rw [hmx1] at h3 h4
      simp only at h3 h4
      have a0:((at_:Int)).toNat=at_:=rfl
      have hg:=hBunks h3
      rw [← h4] at hg
      repeat' (first|(apply nx;with_reducible constructor)|refine uq (by decide) ?_|((first|refine vx env fun Q hQ=>?_|refine vz fun Q hQ=>?_);simp only [vkt,seval,tbE6_law,xbE6_1,aBunk,aBunks,eBunk,eBunks,gBunk,gBunks,eCabin,gCabin,mBunk,mCabin,mTk,aChart,cChart,aAsk,cAsk,rlS,pBag,pChartOf,pAskedOf,pPlacesF,sBestF,sRestF,sbunk,sheld,seqB,sselling,List.length_map,d1,dz,a0,h3,hg,hBl,decide_true];(try simp only [ite_and]);(repeat' (first|with_reducible assumption|refine And.intro ?_ ?_|intro hp));all_goals (first|(refine hQ _ ?_;clear hQ Q)|(refine hQ _ (fun h=>?_) (fun h=>?_) <;> clear hQ Q <;> (try simp only [vki,reduceCtorEq] at h))|(refine vq ?_;kernel_rfl)|omega|assumption|with_reducible rfl|skip)))
      (simp only [vrt,Try.results4,vkt,seval,tbE6_law,xbE6_1,aBunk,aBunks,eBunk,eBunks,gBunk,gBunks,eCabin,gCabin,mBunk,mCabin,mTk,aChart,cChart,aAsk,cAsk,rlS,pBag,pChartOf,pAskedOf,pPlacesF,sBestF,sRestF,sbunk,sheld,seqB,sselling,List.length_map];refine Fin.val rfl ?_;(try simp only [AV.le,AV.leL]))
      all_goals first|rfl|(simp;done)
end Go.Sym.B
