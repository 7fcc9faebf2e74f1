/- Walks and what they compute, joined: part 1. -/
import Derived.Test.YtfljkbcphmnjkaaB3
set_option linter.all false
namespace Go.Sym.B
open Go Go.Sym Go.Proofs Go.Sym.C
theorem _root_.Go.Sym.vj {a b:Prop} (x:a) (y:b):a∧b:=⟨x,y⟩
def _root_.Go.Sym.uq:=@blockK_miss
def _root_.Go.Sym.ux:=@blockK_hit
def _root_.Go.Sym.uz:=@blockK_n
def _root_.Go.Sym.uj:=@blockK_r
def _root_.Go.Sym.uk:=@thenK_x
def _root_.Go.Sym.uw:=@thenK_r
def _root_.Go.Sym.uv:=@thenK_n
def _root_.Go.Sym.vq:=@drawB_of
def _root_.Go.Sym.vx:=@sym_reg
def _root_.Go.Sym.vz:=@sym_cz
def mineB (p:List Bunk) (k:Int):Bool:=p.any fun b=>decide (b.cab=k)
def emH (c:Chart) (s:Int) (k:Nat) (m:Nat):Bool:=(List.range m).all fun (j:Nat)=>!heldB c.sold ⟨(k:Int),(j:Int)⟩ s
def ltB (c:Chart) (p:List Bunk) (s:Int) (k:Nat):Bool:=mineB p k && emH c s k (c.cabins.getD k default).beds.toNat
def ltC (c:Chart) (p:List Bunk) (s:Int):Nat→Nat
  |0=>0
  |k+1=>ltC c p s k+if ltB c p s k then 1 else 0
def ltS (c:Chart) (a:Ask) (p:List Bunk):Nat→Nat
  |0=>0
  |j+1=>ltS c a p j+ltC c p (a.frm+(j:Int)) c.cabins.length
def lostN (c:Chart) (a:Ask) (p:List Bunk):Nat:=ltS c a p (a.to - a.frm).toNat
def mxK (f:Nat→Int):Nat→Int × Nat
  |0=>(-1,0)
  |i+1=>if (mxK f i).1 < f i then (f i,i) else mxK f i
theorem empty_app (l:List Tk) (t:Tk) (s i:Int):emptyB (l++[t]) s i=(emptyB l s i && !(atB s t && decide (t.cab=i))):=by
  unfold emptyB
  rw [List.all_append]
  simp
theorem growP_empty {cs:List Cabin} {a:Ask}:∀ (m:Nat) (sold:List Tk) (begun:List Bunk),∀ x ∈ growP cs a m sold begun,∃ new:List Bunk,x.1=begun++new∧∀ s i:Int,emptyB x.2 s i=(emptyB sold s i && new.all fun b=>!((decide (a.frm≤s) && decide (s < a.to)) && decide (b.cab=i)))
  |0,sold,begun,x,hx=>by
    simp only [growP,List.mem_singleton] at hx
    subst hx
    exact ⟨[],by simp,fun s i=>by simp⟩
  |m+1,sold,begun,x,hx=>by
    rw [growP_succ,List.mem_flatMap] at hx
    obtain ⟨b,hb,hx⟩:=hx
    unfold gbL at hx
    split at hx
    · obtain ⟨new,h1,h2⟩:=growP_empty m _ _ x hx
      refine ⟨b :: new,by rw [h1];simp,fun s i=>?_⟩
      rw [h2,empty_app,List.all_cons,Bool.and_assoc]
      rfl
    · simp at hx
theorem inB_at {s:Int} {t:Tk}:inB s t.frm (t.to - 1)=atB s t:=by
  unfold inB atB
  congr 1
  rw [decide_eq_decide];omega
theorem emp_held {c:Chart} (hv:Val c) {k:Nat} (s:Int):emH c s k (c.cabins.getD k default).beds.toNat=emptyB c.sold s k:=by
  rw [Bool.eq_iff_iff]
  unfold emH emptyB
  rw [List.all_eq_true,List.all_eq_true]
  constructor
  · intro h t ht
    cases hq:(atB s t && decide (t.cab=(k:Int))) with
    |false=>rfl
    |true =>
      rw [Bool.and_eq_true,decide_eq_true_eq] at hq
      obtain ⟨h1,h2⟩:=hq
      have hk:=hv.tk t ht
      have hb:=hk.bed
      rw [h2] at hb
      have hb:0≤t.bed∧t.bed < (c.cabins.getD k default).beds:=hb
      have:=h t.bed.toNat (List.mem_range.2 (by omega))
      rw [Int.toNat_of_nonneg hb.1] at this
      have hh:heldB c.sold ⟨k,t.bed⟩ s=true:=List.any_eq_true.2 ⟨t,ht,by unfold onB;rw [inB_at,h1,decide_eq_true h2,decide_eq_true rfl];rfl⟩
      rw [hh] at this
      exact absurd this (by decide)
  · intro h j hj
    cases hq:heldB c.sold ⟨(k:Int),(j:Int)⟩ s with
    |false=>rfl
    |true =>
      obtain ⟨t,ht,h1⟩:=List.any_eq_true.1 hq
      unfold onB at h1
      rw [inB_at,Bool.and_eq_true,Bool.and_eq_true,decide_eq_true_eq] at h1
      have:=h t ht
      rw [h1.2,decide_eq_true h1.1.1] at this
      exact absurd this (by decide)
def cntE (sold:List Tk) (s:Int) (n:Nat):Nat:=((List.range n).filter fun (i:Nat)=>emptyB sold s i).length
theorem cntE_succ (sold:List Tk) (s:Int) (n:Nat):cntE sold s (n+1)=cntE sold s n+if emptyB sold s n then 1 else 0:=by
  unfold cntE
  rw [List.range_succ,List.filter_append,List.length_append]
  cases h:emptyB sold s n <;> simp [h]
def sumE (sold:List Tk) (n:Nat):Nat→Nat
  |0=>0
  |s+1=>sumE sold n s+cntE sold s n
theorem rest_sum (cs:List Cabin) (secs:Int) (sold:List Tk):restN cs secs sold=(sumE sold cs.length secs.toNat:Int):=by
  unfold restN
  have:∀ k,((List.range k).flatMap fun (s:Nat)=>(List.range cs.length).filter fun (i:Nat)=>emptyB sold s i).length=sumE sold cs.length k:=by
    intro k
    induction k with
    |zero=>rfl
    |succ k ih =>
      rw [List.range_succ,List.flatMap_append,List.length_append,ih,sumE]
      simp [cntE]
  rw [this]
theorem cnt_after {c:Chart} {a:Ask} (hv:Val c) {sold2:List Tk} {p:List Bunk} {s:Int} (h:∀ i:Int,emptyB sold2 s i=(emptyB c.sold s i && p.all fun b=>!((decide (a.frm≤s) && decide (s < a.to)) && decide (b.cab=i)))) :
    ∀ n,cntE c.sold s n=cntE sold2 s n+if a.frm≤s∧s < a.to then ltC c p s n else 0
  |0=>by
    have:∀ l:List Tk,cntE l s 0=0:=fun l=>rfl
    rw [this,this]
    split <;> rfl
  |n+1=>by
    have ih:=cnt_after hv h n
    rw [cntE_succ,cntE_succ,ih,h n]
    by_cases hs:a.frm≤s∧s < a.to
    · rw [if_pos hs,if_pos hs,ltC]
      have hm:(p.all fun b=>!((decide (a.frm≤s) && decide (s < a.to)) && decide (b.cab=(n:Int))))=!mineB p n:=by
        unfold mineB
        rw [decide_eq_true hs.1,decide_eq_true hs.2,List.not_any_eq_all_not]
        rfl
      have hl:ltB c p s n=(mineB p n && emptyB c.sold s n):=by unfold ltB;rw [emp_held hv]
      rw [hm,hl]
      cases mineB p n <;> cases emptyB c.sold s n <;> simp <;> omega
    · rw [if_neg hs,if_neg hs]
      have hm:(p.all fun b=>!((decide (a.frm≤s) && decide (s < a.to)) && decide (b.cab=(n:Int))))=true:=by
        rw [show (decide (a.frm≤s) && decide (s < a.to))=false by rw [Bool.and_eq_false_iff];by_cases h1:a.frm≤s;right;simpa using fun h=>hs ⟨h1,h⟩;left;simpa using h1]
        simp
      rw [hm]
      cases emptyB c.sold s n <;> simp
theorem sum_after {c:Chart} {a:Ask} (hv:Val c) {sold2:List Tk} {p:List Bunk} (h:∀ s i:Int,emptyB sold2 s i=(emptyB c.sold s i && p.all fun b=>!((decide (a.frm≤s) && decide (s < a.to)) && decide (b.cab=i)))) {f t:Nat} (hf:a.frm=f) (ht:a.to=t) :
    ∀ k,sumE c.sold c.cabins.length k=sumE sold2 c.cabins.length k+ltS c a p (min k t - f)
  |0=>by simp [sumE,ltS]
  |k+1=>by
    rw [sumE,sumE,sum_after hv h hf ht k,cnt_after hv (h k)]
    rw [hf,ht]
    by_cases hk:f≤k∧k < t
    · rw [if_pos (by omega),show min (k+1) t - f=(min k t - f)+1 by omega,ltS,hf,show (f:Int)+((min k t - f:Nat):Int)=(k:Int) by omega]
      omega
    · rw [if_neg (by omega),show min (k+1) t - f=min k t - f by omega]
      omega
theorem rest_after {c:Chart} {a:Ask} (h:bothE c a=0) {x:List Bunk × List Tk} (hx:x ∈ plP c a):restN c.cabins c.secs x.2=restN c.cabins c.secs c.sold - lostN c a x.1:=by
  have hv:=(plOk_of h).val
  have hw:=ask_way h
  obtain ⟨new,h1,h2⟩:=growP_empty _ _ _ x hx
  rw [List.nil_append] at h1
  rw [rest_sum,rest_sum]
  obtain ⟨f,hf⟩:∃ f:Nat,a.frm=f:=⟨a.frm.toNat,by omega⟩
  obtain ⟨t,ht⟩:∃ t:Nat,a.to=t:=⟨a.to.toNat,by omega⟩
  have:=sum_after hv h2 hf ht c.secs.toNat
  rw [this,← h1]
  unfold lostN
  rw [show min c.secs.toNat t - f=(a.to - a.frm).toNat by omega]
  omega
theorem rest_nn (cs:List Cabin) (secs:Int) (sold:List Tk):0≤restN cs secs sold:=by rw [rest_sum];omega
def rsF (c:Chart) (a:Ask) (i:Nat):Int:=restN c.cabins c.secs c.sold - lostN c a ((plP c a).getD i default).1
theorem bs_mx {c:Chart} {a:Ask} (h:bothE c a=0):∀ j,j≤(plP c a).length→(j=0∧bsK c a j=(false,[],0))∨(bsK c a j=(true,((plP c a).getD (mxK (rsF c a) j).2 default).1,(mxK (rsF c a) j).1)∧(mxK (rsF c a) j).2 < j)
  |0,_=>.inl ⟨rfl,rfl⟩
  |j+1,hj=>by
    right
    have hm:restN c.cabins c.secs ((plP c a).getD j default).2=rsF c a j:=rest_after h (gMem (by omega))
    have h0:0≤rsF c a j:=by rw [← hm];exact rest_nn _ _ _
    rw [bsK,hm]
    rcases bs_mx h j (by omega) with ⟨h1,h2⟩|⟨h1,h2⟩
    · subst h1
      rw [h2,mxK,mxK]
      simp only [Bool.not_false,Bool.true_or,if_true]
      rw [if_pos (by omega)]
      exact ⟨rfl,by simp only;omega⟩
    · rw [h1,mxK]
      simp only [Bool.not_true,Bool.false_or,decide_eq_true_eq]
      split
      · exact ⟨rfl,by simp only;omega⟩
      · exact ⟨rfl,by omega⟩
end Go.Sym.B
namespace Go.Sym.B
open Go Go.Sym Go.Proofs Go.Sym.C
theorem pl_len {c:Chart} {a:Ask} {j:Nat} (hj:j < (plP c a).length):((plP c a).getD j default).1.length=a.sexes.length:=by
  have:=growP_one a.sexes.length c.sold [] _ (gMem (l:=plP c a) (d:=default) hj)
  simpa using this
end Go.Sym.B
namespace Go.Sym.B
open Go Go.Sym Go.Proofs Go.Sym.C
def slTk (a:Ask) (l:List Bunk) (k:Nat):List Tk:=(List.range k).map fun i=>tkOf a i (l.getD i default)
theorem tks_succ (a:Ask) (l:List Bunk) (k:Nat):slTk a l (k+1)=slTk a l k++[tkOf a k (l.getD k default)]:=by
  unfold slTk
  rw [List.range_succ,List.map_append];rfl
theorem tks_len (a:Ask) (l:List Bunk) (k:Nat):(slTk a l k).length=k:=by simp [slTk]
def sellA (c:Chart) (a:Ask):Chart × Int:=if (bestA c a).2 ≠ 0 then (⟨[],0,[]⟩,(bestA c a).2) else if (8:Int) < (c.sold.length:Int)+((bestA c a).1.length:Int) then (⟨[],0,[]⟩,6) else (⟨c.cabins,c.secs,c.sold++slTk a (bestA c a).1 (bestA c a).1.length⟩,0)
theorem best_ok {c:Chart} {a:Ask} (h:(bestA c a).2=0):bothE c a=0∧(bestA c a).1.length=a.sexes.length∧(bestA c a).1 ∈ placesA c a:=by
  have h0:bothE c a=0:=by
    unfold bestA at h
    split at h
    · assumption
    · exact absurd h (by assumption)
  have hP:placesA c a=(plP c a).map (·.1):=by unfold placesA;rw [if_pos h0]
  rcases bs_mx h0 (plP c a).length (Nat.le_refl _) with ⟨h1,h2⟩|⟨h1,h2⟩
  · have:(bestA c a).2=11:=by unfold bestA;rw [if_pos h0,h2];rfl
    omega
  · have hb:(bestA c a).1=((plP c a).getD (mxK (rsF c a) (plP c a).length).2 default).1:=by
      unfold bestA;rw [if_pos h0,h1];rfl
    refine ⟨h0,by rw [hb,pl_len h2], ?_⟩
    rw [hb,hP]
    exact List.mem_map.2 ⟨_,gMem h2,rfl⟩
def slS (c:Chart) (a:Ask) (l:List Bunk) (k:Nat):St:={ t:=asg [(3,.ptr 1 0),(4,.ptr 2 0),(5,aI 0),(6,aBunks l),(8,.ptr 3 0),(31,aBunks l),(32,aI l.length),(33,aI k)],h:=hasg [(0,.cells (cChart c)),(1,.cells (cAsk a)),(2,.cells [.nil,aI 0,.nil]),(3,carC c.cabins c.secs 4),(4,rowT (c.sold++slTk a l k))],n:=5 }
def tbE7_Sells:=vj @ty3 (vj @ty4 (vj @ty22 (vj @ty26 (vj @ty28 (vj @ty31 (vj @ty34 (vj @ty37 (vj @ty49 (vj @ty81 (vj @ty118 (vj @ti3.eq_1 (vj @ti4.eq_1 (vj @ti22.eq_1 (vj @ti26.eq_1 (vj @ti28.eq_1 (vj @ti31.eq_1 (vj @ti34.eq_1 (vj @ti37.eq_1 (vj @ti49.eq_1 (vj @ti81.eq_1 @ti118.eq_1))))))))))))))))))))
def xbE7_1:=vj @aI.eq_1 (vj @aB.eq_1 (vj @aInts.eq_1 (vj @eInt.eq_1 (vj @mInt (@gInt)))))
set_option maxHeartbeats 4000000 in
theorem Sell_fn (c:Chart) (a:Ask) (hc:c.cabins.length≤maxLen) (ha:a.sexes.length≤maxLen):FnV Try.prog 43 [aChart c,aAsk a] (.tup [aChart (sellA c a).1,aI (sellA c a).2]):=by
  have env:Env (fun _=>True) Try.prog tyB (tab [(19,valE false sBestF),(93,fnE pCarOf),(96,fnE pSell)]):=mkEnv ⟨eBestF,eCarOf,eSell,trivial⟩
  refine Fn.of (A:=fun _=>True) (n0:=0) (D:=noD) (Fn0 Try.func43 rfl (fun vs w=>by kernel_rfl) (by kernel_rfl)) (by simp) (by simp [AV.ids,AV.idsL,aChart,cChart,aAsk,cAsk]) (fun i o h=>by cases h) (fun _ _ _ _=>trivial) noD_ok ?_
  have ec:(⟨c.cabins,c.secs,c.sold⟩:Chart)=c:=rfl
  have ea:(⟨a.party,a.frm,a.to,a.sexes,a.dog⟩:Ask)=a:=rfl
  obtain ⟨l,hl⟩:∃ l,(bestA c a).1=l:=⟨_,rfl⟩
  obtain ⟨e,he⟩:∃ e,(bestA c a).2=e:=⟨_,rfl⟩
  have hs:sellA c a=if e ≠ 0 then (⟨[],0,[]⟩,e) else if (8:Int) < (c.sold.length:Int)+(l.length:Int) then (⟨[],0,[]⟩,6) else (⟨c.cabins,c.secs,c.sold++slTk a l l.length⟩,0):=by unfold sellA;rw [hl,he]
  rw [hs]
  by_cases h0:e=0
  · obtain ⟨hb,hll,_⟩:=best_ok (he.trans h0)
    rw [hl] at hll
    obtain ⟨h1,h2⟩:=both_ok hb
    have hv:=val_of h1
    have b1:=hv.car.cabs
    have b2:=hv.many
    have b3:=plOk_of hb
    have b4:=b3.sx
    have b5:c.sold.length≤100000:=by omega
    have b6:c.cabins.length≤100000:=by omega
    have b7:l.length≤3:=by omega
    have hm:(100000:Nat)≤maxLen:=by decide
    have w1:IntKind.wrap .i64 ((c.sold.length:Int)+(l.length:Int))=(c.sold.length:Int)+(l.length:Int):=wrap64 (by omega) (by omega)
    rw [if_neg (by omega)]
    rw [h0] at he
    by_cases h8:(8:Int) < (c.sold.length:Int)+(l.length:Int)
    · rw [if_pos h8]
      have d8:decide ((8:Int) < (c.sold.length:Int)+(l.length:Int))=true:=decide_eq_true h8
      repeat' (first|(apply nx;with_reducible constructor)|refine uq (by decide) ?_|((first|refine vx env fun Q hQ=>?_|refine vz fun Q hQ=>?_);simp only [vkt,seval,tbE7_Sells,xbE7_1,aBunk,aBunks,eBunk,gBunk,aTk,cTk,mBunk,mCabin,mTk,aChart,cChart,aAsk,cAsk,carC,rowT,lent2,soldL,slS,sBestF,pCarOf,pSell,List.length_map,ec,ea,hl,he,w1,d8,decide_true];(try simp only [ite_and]);(repeat' (first|with_reducible assumption|refine And.intro ?_ ?_|intro hp));all_goals (first|(refine hQ _ ?_;clear hQ Q)|(refine hQ _ (fun h=>?_) (fun h=>?_) <;> clear hQ Q <;> (try simp only [vki,reduceCtorEq] at h))|(refine vq ?_;kernel_rfl)|omega|assumption|with_reducible rfl|skip)))
      (simp only [vrt,Try.results43,vkt,seval,tbE7_Sells,xbE7_1,aBunk,aBunks,eBunk,gBunk,aTk,cTk,mBunk,mCabin,mTk,aChart,cChart,aAsk,cAsk,carC,rowT,lent2,soldL,slS,sBestF,pCarOf,pSell,List.length_map];refine Fin.val rfl ?_;(try simp only [AV.le,AV.leL]))
      all_goals first|rfl|(simp;done)
    · rw [if_neg h8]
      have d8:decide ((8:Int) < (c.sold.length:Int)+(l.length:Int))=false:=decide_eq_false h8
      repeat' (first|(apply nx;with_reducible constructor)|refine uq (by decide) ?_|((first|refine vx env fun Q hQ=>?_|refine vz fun Q hQ=>?_);simp only [vkt,seval,tbE7_Sells,xbE7_1,aBunk,aBunks,eBunk,gBunk,aTk,cTk,mBunk,mCabin,mTk,aChart,cChart,aAsk,cAsk,carC,rowT,lent2,soldL,slS,sBestF,pCarOf,pSell,List.length_map,ec,ea,hl,he,w1,d8,b5,b6,decide_true];(try simp only [ite_and]);(repeat' (first|with_reducible assumption|refine And.intro ?_ ?_|intro hp));all_goals (first|(refine hQ _ ?_;clear hQ Q)|(refine hQ _ (fun h=>?_) (fun h=>?_) <;> clear hQ Q <;> (try simp only [vki,reduceCtorEq] at h))|(refine vq ?_;kernel_rfl)|omega|assumption|with_reducible rfl|skip)))
      refine sym_loop (fun k:{ k:Nat // k≤l.length }=>slS c a l k.1) (fun k=>l.length - k.1) ⟨0,Nat.zero_le _⟩ ?_ fun ⟨k,hk⟩=>?_
      · simp only [slS,show slTk a l 0=[] from rfl,List.append_nil]
        (refine Le.ok (fun j=>[0,1,2,3,4][j]?) [] ?_;constructor;all_goals (try simp only [vle,vkt,seval,tbE7_Sells,xbE7_1,aBunk,aBunks,eBunk,gBunk,aTk,cTk,mBunk,mCabin,mTk,aChart,cChart,aAsk,cAsk,carC,rowT,lent2,soldL,slS,sBestF,pCarOf,pSell,List.length_map]))
        all_goals first|rfl|(simp;done)
      simp only at hk ⊢
      obtain ⟨T,hT⟩:∃ T,c.sold++slTk a l k=T:=⟨_,rfl⟩
      simp only [slS,hT]
      by_cases hkl:k < l.length
      · have d1:decide ((k:Int) < (l.length:Int))=true:=decide_eq_true (by omega)
        have e9:IntKind.wrap .i64 ((k:Int)+1)=((k+1:Nat):Int):=by rw [wrap64 (by omega) (by omega)];rfl
        have i0:((k:Int)).toNat=k:=rfl
        have hkx:k < a.sexes.length:=by omega
        obtain ⟨b,hbk⟩:∃ b,l.getD k default=b:=⟨_,rfl⟩
        have htl:T.length≤100:=by rw [← hT,List.length_append,tks_len];omega
        have hTs:c.sold++slTk a l (k+1)=T++[tkOf a k b]:=by rw [tks_succ,← List.append_assoc,hT,hbk]
        repeat' (first|(apply nx;with_reducible constructor)|refine uq (by decide) ?_|((first|refine vx env fun Q hQ=>?_|refine vz fun Q hQ=>?_);simp only [vkt,seval,tbE7_Sells,xbE7_1,aBunk,aBunks,eBunk,gBunk,aTk,cTk,mBunk,mCabin,mTk,aChart,cChart,aAsk,cAsk,carC,rowT,lent2,soldL,slS,sBestF,pCarOf,pSell,List.length_map,d1,e9,i0,hkl,hkx,hbk,htl];(try simp only [ite_and]);(repeat' (first|with_reducible assumption|refine And.intro ?_ ?_|intro hp));all_goals (first|(refine hQ _ ?_;clear hQ Q)|(refine hQ _ (fun h=>?_) (fun h=>?_) <;> clear hQ Q <;> (try simp only [vki,reduceCtorEq] at h))|(refine vq ?_;kernel_rfl)|omega|assumption|with_reducible rfl|skip)))
        refine ⟨⟨k+1,hkl⟩,by show l.length - (k+1) < l.length - k;omega, ?_⟩
        simp only [slS,hTs]
        (refine Le.ok (fun j=>[0,1,2,3,8][j]?) [] ?_;constructor;all_goals (try simp only [vle,vkt,seval,tbE7_Sells,xbE7_1,aBunk,aBunks,eBunk,gBunk,aTk,cTk,mBunk,mCabin,mTk,aChart,cChart,aAsk,cAsk,carC,rowT,lent2,soldL,slS,sBestF,pCarOf,pSell,List.length_map]))
        all_goals first|rfl|(simp;done)
      · have d1:decide ((k:Int) < (l.length:Int))=false:=decide_eq_false (by omega)
        obtain rfl:k=l.length:=by omega
        rw [hT]
        repeat' (first|(apply nx;with_reducible constructor)|refine uq (by decide) ?_|((first|refine vx env fun Q hQ=>?_|refine vz fun Q hQ=>?_);simp only [vkt,seval,tbE7_Sells,xbE7_1,aBunk,aBunks,eBunk,gBunk,aTk,cTk,mBunk,mCabin,mTk,aChart,cChart,aAsk,cAsk,carC,rowT,lent2,soldL,slS,sBestF,pCarOf,pSell,List.length_map,d1];(try simp only [ite_and]);(repeat' (first|with_reducible assumption|refine And.intro ?_ ?_|intro hp));all_goals (first|(refine hQ _ ?_;clear hQ Q)|(refine hQ _ (fun h=>?_) (fun h=>?_) <;> clear hQ Q <;> (try simp only [vki,reduceCtorEq] at h))|(refine vq ?_;kernel_rfl)|omega|assumption|with_reducible rfl|skip)))
        (simp only [vrt,Try.results43,vkt,seval,tbE7_Sells,xbE7_1,aBunk,aBunks,eBunk,gBunk,aTk,cTk,mBunk,mCabin,mTk,aChart,cChart,aAsk,cAsk,carC,rowT,lent2,soldL,slS,sBestF,pCarOf,pSell,List.length_map];refine Fin.val rfl ?_;(try simp only [AV.le,AV.leL]))
        all_goals first|rfl|(simp;done)|exact ⟨⟨trivial,trivial,⟨_,_,rfl⟩,trivial⟩,trivial,trivial⟩
  · rw [if_pos h0]
    have hne:decide (e=0)=false:=decide_eq_false h0
    repeat' (first|(apply nx;with_reducible constructor)|refine uq (by decide) ?_|((first|refine vx env fun Q hQ=>?_|refine vz fun Q hQ=>?_);simp only [vkt,seval,tbE7_Sells,xbE7_1,aBunk,aBunks,eBunk,gBunk,aTk,cTk,mBunk,mCabin,mTk,aChart,cChart,aAsk,cAsk,carC,rowT,lent2,soldL,slS,sBestF,pCarOf,pSell,List.length_map,ec,ea,hl,he,hne];(try simp only [ite_and]);(repeat' (first|with_reducible assumption|refine And.intro ?_ ?_|intro hp));all_goals (first|(refine hQ _ ?_;clear hQ Q)|(refine hQ _ (fun h=>?_) (fun h=>?_) <;> clear hQ Q <;> (try simp only [vki,reduceCtorEq] at h))|(refine vq ?_;kernel_rfl)|omega|assumption|with_reducible rfl|skip)))
    (simp only [vrt,Try.results43,vkt,seval,tbE7_Sells,xbE7_1,aBunk,aBunks,eBunk,gBunk,aTk,cTk,mBunk,mCabin,mTk,aChart,cChart,aAsk,cAsk,carC,rowT,lent2,soldL,slS,sBestF,pCarOf,pSell,List.length_map];refine Fin.val rfl ?_;(try simp only [AV.le,AV.leL]))
    all_goals first|rfl|(simp;done)
end Go.Sym.B
namespace Go.Sym.B
open Go Go.Sym Go.Proofs Go.Sym.C
end Go.Sym.B
namespace Go.Sym.B
open Go Go.Sym Go.Proofs Go.Sym.C
theorem beside_zero {t:Tk} {l:List Tk}:besideE t l=0 ↔ ∀ x ∈ l,twiceB t x=false∧togB x t=true:=by
  unfold besideE
  constructor
  · intro h x hx
    split at h
    · exact absurd h (by decide)
    rename_i h1
    split at h
    · exact absurd h (by decide)
    rename_i h2
    refine ⟨?_, ?_⟩
    · cases hq:twiceB t x with
      |false=>rfl
      |true=>exact absurd (List.any_eq_true.2 ⟨x,hx,hq⟩) h1
    · cases hq:togB x t with
      |true=>rfl
      |false=>exact absurd (List.any_eq_true.2 ⟨x,hx,by rw [hq];rfl⟩) h2
  · intro h
    rw [if_neg,if_neg]
    · rw [List.any_eq_true]
      rintro ⟨x,hx,h1⟩
      rw [(h x hx).2] at h1
      exact absurd h1 (by decide)
    · rw [List.any_eq_true]
      rintro ⟨x,hx,h1⟩
      rw [(h x hx).1] at h1
      exact absurd h1 (by decide)
structure RmInv (C:Chart) (a:Ask) (i:Nat) (c:Chart):Prop where
  chk:checkE c=0
  cabs:c.cabins=C.cabins
  secs:c.secs=C.secs
  len:c.sold.length=C.sold.length+i
  lt:∀ t ∈ c.sold,t.party < 60+(i:Int)
end Go.Sym.B
namespace Go.Sym.B
open Go Go.Sym Go.Proofs Go.Sym.C
def alL (bs:List Bunk):Nat→List (List Bunk)
  |0=>[[]]
  |m+1=>bs.flatMap fun b=>(alL bs m).map (b :: ·)
theorem alL_one {bs:List Bunk}:∀ {m},∀ p ∈ alL bs m,p.length=m
  |0,p,hp=>by rw [List.mem_singleton.1 hp];rfl
  |m+1,p,hp=>by
    obtain ⟨b,_,hp⟩:=List.mem_flatMap.1 hp
    obtain ⟨q,hq,rfl⟩:=List.mem_map.1 hp
    rw [List.length_cons,alL_one q hq]
end Go.Sym.B
namespace Go.Sym.B
open Go Go.Sym Go.Proofs Go.Sym.C
end Go.Sym.B
namespace Go.Sym.B
open Go Go.Sym Go.Proofs Go.Sym.C
def isPlaceB (c:Chart) (a:Ask) (l:List Bunk):Bool:=decide (l.length=a.sexes.length) && l.all (fun b=>isBunkB c.cabins b.cab b.bed) && decide (ticketsE c (c.sold++slTk a l l.length)=0) && nearB c.cabins l
end Go.Sym.B
namespace Go.Sym.B
open Go Go.Sym Go.Proofs Go.Sym.C
def stB (a b:Tk) (s:Int):Bool:=decide (a.cab=b.cab) && !decide (s < a.frm) && !decide (a.to≤s) && !decide (s < b.frm) && !decide (b.to≤s) && (decide (a.bed=b.bed) || (!decide (a.party=b.party) && (!decide (a.sex=b.sex) || a.dog || b.dog)))
def prB (c:Chart) (a b:Tk):Bool:=(List.range c.secs.toNat).any fun (s:Nat)=>stB a b s
def rwB (c:Chart) (i:Nat):Bool:=(List.range i).any fun k=>prB c (c.sold.getD i default) (c.sold.getD k default)
def strB (c:Chart):Bool:=(List.range c.sold.length).any (rwB c)
def isFreeB (c:Chart) (a:Ask) (l:List Bunk):Bool:=nearB c.cabins l && !strB ⟨c.cabins,c.secs,c.sold++slTk a l l.length⟩
end Go.Sym.B
namespace Go.Sym.B
open Go Go.Sym Go.Proofs Go.Sym.C
def stpB (cs:List Cabin) (a:Ask):List Tk→List Bunk→List Bunk→Bool
  |_,_,[]=>true
  |sold,begun,b :: r=>goB cs a sold begun b && stpB cs a (sold++[tkOf a begun.length b]) (begun++[b]) r
theorem grow_stp (cs:List Cabin) (a:Ask):∀ (m:Nat) (sold:List Tk) (begun:List Bunk),(growP cs a m sold begun).map (·.1)=((alL (bunksL cs) m).filter (stpB cs a sold begun)).map (begun++·)
  |0,sold,begun=>by
    show [begun]=(([[]]:List (List Bunk)).filter (stpB cs a sold begun)).map (begun++·)
    rw [List.filter_cons_of_pos (by rfl)]
    simp
  |m+1,sold,begun=>by
    rw [growP_succ,alL,List.map_flatMap,List.filter_flatMap,List.map_flatMap]
    refine congrArg (List.flatMap · (bunksL cs)) (funext fun b=>?_)
    unfold gbL
    cases h:goB cs a sold begun b with
    |true =>
      rw [if_pos rfl,grow_stp cs a m,List.filter_map,List.map_map]
      have e1:(stpB cs a sold begun ∘ fun x=>b :: x)=stpB cs a (sold++[tkOf a begun.length b]) (begun++[b]):=funext fun r=>by
        show stpB cs a sold begun (b :: r)=_
        rw [stpB,h,Bool.true_and]
      rw [e1]
      refine congrArg (List.map · _) (funext fun r=>?_)
      show (begun++[b])++r=begun++b :: r
      simp
    |false =>
      rw [if_neg (by decide),List.filter_map]
      have e1:(stpB cs a sold begun ∘ fun x=>b :: x)=fun _=>false:=funext fun r=>by
        show stpB cs a sold begun (b :: r)=_
        rw [stpB,h,Bool.false_and]
      rw [e1]
      simp
def PWr:List Tk→List Tk→Prop
  |_,[]=>True
  |s,t :: ts=>besideE t s=0∧PWr (s++[t]) ts
theorem pwr_app:∀ (s l r:List Tk),PWr s (l++r) ↔ PWr s l∧PWr (s++l) r
  |s,[],r=>by simp [PWr]
  |s,t :: l,r=>by
    show besideE t s=0∧PWr (s++[t]) (l++r) ↔ (besideE t s=0∧PWr (s++[t]) l)∧PWr (s++t :: l) r
    rw [pwr_app (s++[t]) l r,and_assoc]
    simp
theorem pwr_iff:∀ (s l:List Tk),PWr s l ↔ ∀ i,i < l.length→besideE (l.getD i default) (s++l.take i)=0
  |s,[]=>by simp [PWr]
  |s,t :: l=>by
    show besideE t s=0∧PWr (s++[t]) l ↔ _
    rw [pwr_iff (s++[t]) l]
    constructor
    · rintro ⟨h1,h2⟩ i hi
      cases i with
      |zero=>simpa using h1
      |succ i =>
        have:=h2 i (by simpa using hi)
        simpa using this
    · intro h
      refine ⟨by simpa using h 0 (by simp),fun i hi=>?_⟩
      have:=h (i+1) (by simpa using hi)
      simpa using this
def tkR (a:Ask):Nat→List Bunk→List Tk
  |_,[]=>[]
  |n,b :: r=>tkOf a n b :: tkR a (n+1) r
theorem tkR_app (a:Ask):∀ (n:Nat) (l r:List Bunk),tkR a n (l++r)=tkR a n l++tkR a (n+l.length) r
  |n,[],r=>by simp [tkR]
  |n,b :: l,r=>by
    show tkOf a n b :: tkR a (n+1) (l++r)=_
    rw [tkR_app a (n+1) l r]
    simp [tkR,Nat.add_assoc,Nat.add_comm 1]
theorem tkR_sl (a:Ask) (l:List Bunk):∀ k,k≤l.length→slTk a l k=tkR a 0 (l.take k)
  |0,_=>by simp [slTk,tkR]
  |k+1,h=>by
    rw [tks_succ,tkR_sl a l k (by omega),List.take_succ_eq_append_getElem h,tkR_app,List.length_take]
    have hk:k < l.length:=h
    simp [tkR,List.getD_eq_getElem?_getD,hk,Nat.min_eq_left (show k≤l.length by omega)]
theorem mem_tkR {a:Ask} {t:Tk}:∀ {n:Nat} {l:List Bunk},t ∈ tkR a n l→∃ i b,i < l.length∧b ∈ l∧t=tkOf a (n+i) b
  |n,[],h=>by simp [tkR] at h
  |n,b :: l,h=>by
    rcases List.mem_cons.1 h with rfl|h
    · exact ⟨0,b,by simp,by simp,rfl⟩
    · obtain ⟨i,b',h1,h2,h3⟩:=mem_tkR h
      exact ⟨i+1,b',by simpa using h1,List.mem_cons_of_mem _ h2,by rw [h3,show n+1+i=n+(i+1) by omega]⟩
theorem fmin_le (l:List Bunk):∀ m:Int,l.foldl (fun m b=>min m b.cab) m≤m:=by
  induction l with
  |nil=>intro m;exact Int.le_refl _
  |cons b l ih=>intro m;have:=ih (min m b.cab);rw [List.foldl_cons];omega
theorem fmax_le (l:List Bunk):∀ m:Int,m≤l.foldl (fun m b=>max m b.cab) m:=by
  induction l with
  |nil=>intro m;exact Int.le_refl _
  |cons b l ih=>intro m;have:=ih (max m b.cab);rw [List.foldl_cons];omega
theorem near_pre {cs:List Cabin} {l r:List Bunk} (h:nearB cs (l++r)=true) (hl:l ≠ []):nearB cs l=true:=by
  have h0:(l++r).getD 0 default=l.getD 0 default:=by
    cases l with
    |nil=>exact absurd rfl hl
    |cons b l=>rfl
  unfold nearB at h ⊢
  simp only [h0,List.foldl_append] at h ⊢
  have g1:=fmin_le r (l.foldl (fun m b=>min m b.cab) (l.getD 0 default).cab)
  have g2:=fmax_le r (l.foldl (fun m b=>max m b.cab) (l.getD 0 default).cab)
  have g3:=fmin_le l (l.getD 0 default).cab
  have g4:=fmax_le l (l.getD 0 default).cab
  generalize l.foldl (fun m b=>min m b.cab) (l.getD 0 default).cab=lo at *
  generalize l.foldl (fun m b=>max m b.cab) (l.getD 0 default).cab=hi at *
  generalize r.foldl (fun m b=>min m b.cab) lo=lo2 at *
  generalize r.foldl (fun m b=>max m b.cab) hi=hi2 at *
  rw [Bool.or_eq_true,Bool.and_eq_true,decide_eq_true_eq,decide_eq_true_eq] at h ⊢
  rcases h with h|⟨h,hd⟩
  · exact .inl (by omega)
  · by_cases he:lo=hi
    · exact .inl he
    · have:lo=lo2:=by omega
      exact .inr ⟨by omega,by rw [this];exact hd⟩
theorem stp_iff {cs:List Cabin} {a:Ask} (hw:a.frm < a.to):∀ (r:List Bunk) (sold:List Tk) (begun:List Bunk),(∀ b ∈ begun,∃ x ∈ sold,x.cab=b.cab∧x.bed=b.bed∧x.frm=a.frm∧x.to=a.to) →
    (stpB cs a sold begun r=true ↔ PWr sold (tkR a begun.length r)∧(r ≠ []→nearB cs (begun++r)=true))
  |[],sold,begun,_=>by simp [stpB,tkR,PWr]
  |b :: r,sold,begun,hb=>by
    have hb':∀ b' ∈ begun++[b],∃ x ∈ sold++[tkOf a begun.length b],x.cab=b'.cab∧x.bed=b'.bed∧x.frm=a.frm∧x.to=a.to:=fun b' h=>by
      rcases List.mem_append.1 h with h|h
      · obtain ⟨x,h1,h2⟩:=hb b' h
        exact ⟨x,List.mem_append.2 (.inl h1),h2⟩
      · rw [List.mem_singleton.1 h]
        exact ⟨_,List.mem_append.2 (.inr (List.mem_singleton.2 rfl)),rfl,rfl,rfl,rfl⟩
    have ih:=stp_iff (cs:=cs) hw r (sold++[tkOf a begun.length b]) (begun++[b]) hb'
    rw [stpB,Bool.and_eq_true,ih]
    have el:(begun++[b]).length=begun.length+1:=by simp
    rw [el]
    show _ ↔ (besideE (tkOf a begun.length b) sold=0∧PWr (sold++[tkOf a begun.length b]) (tkR a (begun.length+1) r))∧_
    have ea:begun++[b]++r=begun++b :: r:=by simp
    rw [ea]
    unfold goB
    rw [Bool.and_eq_true,Bool.and_eq_true,decide_eq_true_eq]
    constructor
    · rintro ⟨⟨⟨_,h2⟩,h3⟩,h4,h5⟩
      refine ⟨⟨h3,h4⟩,fun _=>?_⟩
      cases r with
      |nil=>exact h2
      |cons b2 r=>exact h5 (by simp)
    · rintro ⟨⟨h3,h4⟩,h5⟩
      have h5:=h5 (by simp)
      refine ⟨⟨⟨?_, ?_⟩,h3⟩,h4,fun _=>h5⟩
      · cases hc:begun.contains b with
        |false=>rfl
        |true =>
          obtain ⟨x,hx,g1,g2,g3,g4⟩:=hb b (by simpa using hc)
          have:=(beside_zero.1 h3 x hx).1
          unfold twiceB meetB tkOf at this
          simp [g1,g2,g3,g4,hw] at this
      · refine near_pre (r:=r) ?_ (by simp)
        rw [ea];exact h5
theorem st_no {secs:Int} {t x:Tk} (ht:0≤t.frm∧t.frm < t.to∧t.to≤secs) (hx:0≤x.frm∧x.frm < x.to∧x.to≤secs):(∀ s:Nat,s < secs.toNat→stB t x s=false) ↔ twiceB t x=false∧togB x t=true:=by
  constructor
  · intro h
    cases hm:meetB x t with
    |false =>
      unfold twiceB togB
      rw [hm];simp
    |true =>
      have hm2:=hm
      unfold meetB at hm2
      rw [Bool.and_eq_true,decide_eq_true_eq,decide_eq_true_eq] at hm2
      obtain ⟨s,hs⟩:∃ s:Nat,(s:Int)=max t.frm x.frm:=⟨(max t.frm x.frm).toNat,by omega⟩
      have:=h s (by omega)
      unfold stB at this
      rw [decide_eq_false (show ¬ (s:Int) < t.frm by omega),decide_eq_false (show ¬ t.to≤(s:Int) by omega),decide_eq_false (show ¬ (s:Int) < x.frm by omega),decide_eq_false (show ¬ x.to≤(s:Int) by omega)] at this
      have e1:decide (x.cab=t.cab)=decide (t.cab=x.cab):=by rw [decide_eq_decide];exact eq_comm
      have e2:decide (x.bed=t.bed)=decide (t.bed=x.bed):=by rw [decide_eq_decide];exact eq_comm
      have e3:decide (x.party=t.party)=decide (t.party=x.party):=by rw [decide_eq_decide];exact eq_comm
      have e4:decide (x.sex=t.sex)=decide (t.sex=x.sex):=by rw [decide_eq_decide];exact eq_comm
      have e5:decide (x.cab ≠ t.cab)=!decide (t.cab=x.cab):=by rw [decide_not,e1]
      unfold twiceB togB
      rw [hm,e5,e1,e2,e3,e4]
      revert this
      generalize decide (t.cab=x.cab)=A
      generalize decide (t.bed=x.bed)=B
      generalize decide (t.party=x.party)=C
      generalize decide (t.sex=x.sex)=D
      generalize x.dog=E
      generalize t.dog=F
      revert A B C D E F
      decide
  · rintro ⟨h1,h2⟩ s _
    have e1:decide (x.cab=t.cab)=decide (t.cab=x.cab):=by rw [decide_eq_decide];exact eq_comm
    have e2:decide (x.bed=t.bed)=decide (t.bed=x.bed):=by rw [decide_eq_decide];exact eq_comm
    have e3:decide (x.party=t.party)=decide (t.party=x.party):=by rw [decide_eq_decide];exact eq_comm
    have e4:decide (x.sex=t.sex)=decide (t.sex=x.sex):=by rw [decide_eq_decide];exact eq_comm
    have e5:decide (x.cab ≠ t.cab)=!decide (t.cab=x.cab):=by rw [decide_not,e1]
    cases hm:meetB x t with
    |false =>
      unfold stB
      by_cases g1:(s:Int) < t.frm
      · simp [g1]
      by_cases g2:t.to≤(s:Int)
      · simp [g2]
      by_cases g3:(s:Int) < x.frm
      · simp [g3]
      by_cases g4:x.to≤(s:Int)
      · simp [g4]
      exfalso
      unfold meetB at hm
      rw [decide_eq_true (show x.frm < t.to by omega),decide_eq_true (show t.frm < x.to by omega)] at hm
      exact absurd hm (by decide)
    |true =>
      unfold twiceB at h1
      unfold togB at h2
      rw [hm,e1,e2] at h1
      rw [hm,e5,e3,e4] at h2
      unfold stB
      generalize decide ((s:Int) < t.frm)=G
      generalize decide (t.to≤(s:Int))=H
      generalize decide ((s:Int) < x.frm)=I
      generalize decide (x.to≤(s:Int))=J
      revert h1 h2
      generalize decide (t.cab=x.cab)=A
      generalize decide (t.bed=x.bed)=B
      generalize decide (t.party=x.party)=C
      generalize decide (t.sex=x.sex)=D
      generalize x.dog=E
      generalize t.dog=F
      revert A B C D E F G H I J
      decide
theorem str_iff {cs:List Cabin} {secs:Int} {l:List Tk} (h:∀ t ∈ l,0≤t.frm∧t.frm < t.to∧t.to≤secs):strB ⟨cs,secs,l⟩=false ↔ PWr [] l:=by
  rw [pwr_iff]
  unfold strB
  rw [List.any_eq_false]
  have hg:∀ {i:Nat},i < l.length→l.getD i default ∈ l:=fun hi=>gMem hi
  constructor
  · intro hs i hi
    rw [List.nil_append,beside_zero]
    intro x hx
    obtain ⟨k,hk,rfl⟩:=List.mem_iff_getElem.1 hx
    rw [List.length_take] at hk
    have h1:=hs i (List.mem_range.2 hi)
    unfold rwB at h1
    rw [Bool.not_eq_true,List.any_eq_false] at h1
    have h2:=h1 k (List.mem_range.2 (by omega))
    have ek:l.getD k default=(l.take i)[k]'(by rw [List.length_take];omega):=by simp [List.getD_eq_getElem?_getD,show k < l.length by omega]
    unfold prB at h2
    rw [Bool.not_eq_true,List.any_eq_false] at h2
    simp only at h2
    rw [← ek]
    refine (st_no (h _ (hg hi)) (h _ (hg (show k < l.length by omega)))).1 fun s hs=>?_
    have:=h2 s (List.mem_range.2 hs)
    simpa using this
  · intro hp i hi
    have hi:=List.mem_range.1 hi
    unfold rwB
    rw [Bool.not_eq_true,List.any_eq_false]
    intro k hk
    have hk:=List.mem_range.1 hk
    unfold prB
    rw [Bool.not_eq_true,List.any_eq_false]
    intro s hs
    have hi':i < l.length:=hi
    have h1:=hp i hi'
    rw [List.nil_append,beside_zero] at h1
    have hkl:k < l.length:=by omega
    have h2:=h1 (l.getD k default) (by
      rw [List.mem_iff_getElem]
      exact ⟨k,by rw [List.length_take];omega,by simp [List.getD_eq_getElem?_getD,hkl]⟩)
    have:=(st_no (h _ (hg hi')) (h _ (hg hkl))).2 h2 s (List.mem_range.1 hs)
    simpa using this
theorem val_ways {c:Chart} (hv:Val c):∀ t ∈ c.sold,0≤t.frm∧t.frm < t.to∧t.to≤c.secs:=fun t ht=>by
  have:=hv.tk t ht
  exact ⟨this.frm,this.way,this.to⟩
theorem val_pwr {c:Chart} (h:checkE c=0):PWr [] c.sold:=by
  rw [pwr_iff]
  intro i hi
  unfold checkE at h
  split at h
  · exact absurd h ‹_›
  rw [List.nil_append]
  exact (tickets_ok h i hi).2
theorem al_mem {bs:List Bunk}:∀ {m:Nat} {l:List Bunk},l ∈ alL bs m→∀ b ∈ l,b ∈ bs
  |0,l,hl,b,hb=>by rw [List.mem_singleton.1 hl] at hb;simp at hb
  |m+1,l,hl,b,hb=>by
    obtain ⟨b0,h0,hl⟩:=List.mem_flatMap.1 hl
    obtain ⟨q,hq,rfl⟩:=List.mem_map.1 hl
    rcases List.mem_cons.1 hb with rfl|hb
    · exact h0
    · exact al_mem hq b hb
theorem stp_free {c:Chart} {a:Ask} (h:bothE c a=0) {l:List Bunk} (hl:l ∈ alL (bunksL c.cabins) a.sexes.length) (hne:l ≠ []):stpB c.cabins a c.sold [] l=isFreeB c a l:=by
  have hc:=(both_ok h).1
  have hv:=val_of hc
  have hw:=ask_way h
  have hll:=alL_one l hl
  have hT:slTk a l l.length=tkR a 0 l:=by rw [tkR_sl a l l.length (Nat.le_refl _),List.take_length]
  have hways:∀ t ∈ c.sold++slTk a l l.length,0≤t.frm∧t.frm < t.to∧t.to≤c.secs:=fun t ht=>by
    rcases List.mem_append.1 ht with ht|ht
    · exact val_ways hv t ht
    · rw [hT] at ht
      obtain ⟨i,b,_,_,rfl⟩:=mem_tkR ht
      exact hw
  rw [Bool.eq_iff_iff,stp_iff hw.2.1 l c.sold [] (fun b hb=>by simp at hb)]
  unfold isFreeB
  rw [Bool.and_eq_true]
  have e1:(!strB ⟨c.cabins,c.secs,c.sold++slTk a l l.length⟩)=true ↔ PWr [] (c.sold++slTk a l l.length):=by
    rw [← str_iff (cs:=c.cabins) hways]
    simp
  rw [e1,pwr_app,hT]
  simp only [List.nil_append]
  constructor
  · rintro ⟨h1,h2⟩
    exact ⟨h2 hne,val_pwr hc,h1⟩
  · rintro ⟨h1,_,h3⟩
    exact ⟨h3,fun _=>h1⟩
theorem places_free {c:Chart} {a:Ask} (h:bothE c a=0) (hs:1≤a.sexes.length):placesA c a=(alL (bunksL c.cabins) a.sexes.length).filter (isFreeB c a):=by
  have e1:placesA c a=(plP c a).map (·.1):=by unfold placesA;rw [if_pos h]
  rw [e1]
  unfold plP
  rw [grow_stp]
  simp only [List.nil_append,List.map_id']
  refine List.filter_congr fun l hl=>stp_free h hl ?_
  rintro rfl
  have:=alL_one _ hl
  simp at this
  omega
theorem isPlace_of {c:Chart} {a:Ask} (h:bothE c a=0) (hs:1≤a.sexes.length) {l:List Bunk} (hl:l ∈ placesA c a):isPlaceB c a l=true:=by
  rw [places_free h hs] at hl
  obtain ⟨h1,h2⟩:=List.mem_filter.1 hl
  have hll:=alL_one l h1
  have hc:=(both_ok h).1
  have hv:=val_of hc
  have hw:=ask_way h
  have hT:slTk a l l.length=tkR a 0 l:=by rw [tkR_sl a l l.length (Nat.le_refl _),List.take_length]
  have hway:∀ t ∈ c.sold++slTk a l l.length,TkOk c t:=fun t ht=>by
    rcases List.mem_append.1 ht with ht|ht
    · exact hv.tk t ht
    · rw [hT] at ht
      obtain ⟨i,b,hi,hb,rfl⟩:=mem_tkR ht
      exact ask_tk h (by omega) (al_mem h1 b hb)
  unfold isFreeB at h2
  rw [Bool.and_eq_true] at h2
  have hp:PWr [] (c.sold++slTk a l l.length):=(str_iff (cs:=c.cabins) (secs:=c.secs) (fun t ht=>⟨(hway t ht).frm,(hway t ht).way,(hway t ht).to⟩)).1 (by simpa using h2.2)
  rw [pwr_iff] at hp
  unfold isPlaceB
  rw [h2.1,decide_eq_true hll,Bool.and_true,Bool.true_and,Bool.and_eq_true,List.all_eq_true,decide_eq_true_eq]
  refine ⟨fun b hb=>?_, ?_⟩
  · obtain ⟨i,k,g1,g2,rfl⟩:=bunk_mem.1 (al_mem h1 b hb)
    unfold isBunkB
    rw [Bool.and_eq_true,inB_iff,inB_iff]
    refine ⟨⟨by simp only;omega,by simp only;omega⟩,by simp only;omega, ?_⟩
    simp only [Int.toNat_natCast]
    omega
  · unfold ticketsE
    refine firstE_all fun j hj=>?_
    rw [List.length_map,List.length_range] at hj
    rw [List.getD_eq_getElem?_getD,List.getElem?_map,List.getElem?_range hj]
    have hk:=hway _ (gMem (d:=default) hj)
    exact ticket_zero (cs:=c.cabins) (secs:=c.secs) hk.party hk.sex hk.cab hk.bed ⟨hk.frm,hk.way,hk.to⟩ (by have:=hp j hj;rwa [List.nil_append] at this)
end Go.Sym.B
namespace Go.Sym.B
open Go Go.Sym Go.Proofs Go.Sym.C
end Go.Sym.B
namespace Go.Sym.B
open Go Go.Sym Go.Proofs Go.Sym.C
end Go.Sym.B
namespace Go.Sym.B
open Go Go.Sym Go.Proofs Go.Sym.C
end Go.Sym.B
namespace Go.Sym.B
open Go Go.Sym Go.Proofs Go.Sym.C
end Go.Sym.B
namespace Go.Sym.B
open Go Go.Sym Go.Proofs Go.Sym.C
end Go.Sym.B
namespace Go.Sym.B
open Go Go.Sym Go.Proofs Go.Sym.C
end Go.Sym.B
namespace Go.Sym.B
open Go Go.Sym Go.Proofs Go.Sym.C
end Go.Sym.B
namespace Go.Sym.B
open Go Go.Sym Go.Proofs Go.Sym.C
end Go.Sym.B
namespace Go.Sym.B
open Go Go.Sym Go.Proofs Go.Sym.C
theorem tickets_app_way {c:Chart} {a:Ask} (h:bothE c a=0) {l:List Bunk} (hl:l ∈ alL (bunksL c.cabins) a.sexes.length):∀ t ∈ c.sold++slTk a l l.length,TkOk c t:=fun t ht=>by
  have hll:=alL_one l hl
  have hT:slTk a l l.length=tkR a 0 l:=by rw [tkR_sl a l l.length (Nat.le_refl _),List.take_length]
  rcases List.mem_append.1 ht with ht|ht
  · exact (val_of (both_ok h).1).tk t ht
  · rw [hT] at ht
    obtain ⟨i,b,hi,hb,rfl⟩:=mem_tkR ht
    exact ask_tk h (by omega) (al_mem hl b hb)
end Go.Sym.B
namespace Go.Sym.B
open Go Go.Sym Go.Proofs Go.Sym.C
end Go.Sym.B
namespace Go.Sym.B
open Go Go.Sym Go.Proofs Go.Sym.C
end Go.Sym.B
namespace Go.Sym.B
open Go Go.Sym Go.Proofs Go.Sym.C
end Go.Sym.B
namespace Go.Sym.B
open Go Go.Sym Go.Proofs Go.Sym.C
theorem car_zero {c:Chart} (h:CarOk c) (h8:c.sold.length≤8):carE c=0:=by
  have h1:=h.cabs
  have h2:countedE c.cabins.length 1 3=0:=by
    unfold countedE
    rw [if_neg (by omega),if_neg (by omega)]
  have h3:firstE (c.cabins.map cabE)=0:=firstE_all fun j hj=>by
    rw [List.length_map] at hj
    rw [mapD hj]
    unfold cabE
    rw [inB_iff.2 (h.beds _ (gMem hj))];rfl
  unfold carE
  rw [h2,h3,inB_iff.2 h.secs]
  simp only [ne_eq,not_true_eq_false,if_false,Bool.not_true,Bool.false_eq_true]
  unfold countedE
  rw [if_neg (by omega),if_neg (by omega)]
theorem check_of {c:Chart} (hc:CarOk c) (h8:c.sold.length≤8) (ht:∀ t ∈ c.sold,TkOk c t) (hp:PWr [] c.sold):checkE c=0:=by
  unfold checkE
  rw [car_zero hc h8,if_neg (fun h=>h rfl)]
  unfold ticketsE
  refine firstE_all fun j hj=>?_
  rw [List.length_map,List.length_range] at hj
  rw [rngD hj]
  have hk:=ht _ (gMem (d:=default) hj)
  have hb:=(pwr_iff _ _).1 hp j hj
  rw [List.nil_append] at hb
  exact ticket_zero (cs:=c.cabins) (secs:=c.secs) hk.party hk.sex hk.cab hk.bed ⟨hk.frm,hk.way,hk.to⟩ hb
theorem TkOk.to' {c:Chart} {t:Tk} (h:TkOk c t) (l:List Tk):TkOk ⟨c.cabins,c.secs,l⟩ t:=⟨h.party,h.sex,h.cab,h.bed,h.frm,h.way,h.to⟩
theorem CarOk.to' {c:Chart} (h:CarOk c) (l:List Tk):CarOk ⟨c.cabins,c.secs,l⟩:=⟨h.cabs,h.beds,h.secs⟩
theorem check_place {c:Chart} {a:Ask} (h:bothE c a=0) {p:List Bunk} (hp:p ∈ placesA c a) (h8:c.sold.length+p.length≤8):checkE ⟨c.cabins,c.secs,c.sold++slTk a p p.length⟩=0:=by
  have hs:=(sx_of (both_ok h).2).2
  have hpl:=isPlace_of h hs hp
  rw [places_free h hs] at hp
  have hway:=tickets_app_way h (List.mem_filter.1 hp).1
  unfold isPlaceB at hpl
  simp only [Bool.and_eq_true,decide_eq_true_eq] at hpl
  obtain ⟨⟨_,h3⟩,h4⟩:=hpl
  have h5:=tickets_ok h3
  have hpw:PWr [] (c.sold++slTk a p p.length):=(pwr_iff _ _).2 fun i hi=>by rw [List.nil_append];exact (h5 i hi).2
  have hv:=val_of (both_ok h).1
  refine check_of (hv.car.to' _) ?_ (fun t ht=>(hway t ht).to' _) hpw
  show (c.sold++slTk a p p.length).length≤8
  rw [List.length_append,tks_len];exact h8
theorem sell_cases {c:Chart} {a:Ask} (h:bothE c a=0):((sellA c a).2=11∨(sellA c a).2=6)∨((sellA c a).2=0∧∃ p,p.length=a.sexes.length∧(sellA c a).1=⟨c.cabins,c.secs,c.sold++slTk a p p.length⟩∧checkE (sellA c a).1=0):=by
  have hB:(bestA c a).2=0∨(bestA c a).2=11:=by
    unfold bestA
    rw [if_pos h]
    split
    · exact .inl rfl
    · exact .inr rfl
  unfold sellA
  rcases hB with hB|hB
  · rw [if_neg (fun hn=>hn hB)]
    obtain ⟨_,g1,g2⟩:=best_ok hB
    split
    · exact .inl (.inr rfl)
    · rename_i h8
      exact .inr ⟨rfl,_,g1,rfl,check_place h g2 (by omega)⟩
  · rw [if_pos (by rw [hB];decide),hB]
    exact .inl (.inl rfl)
def keepL (party:Int) (l:List Tk):List Tk:=l.filter fun t=>!decide (t.party=party)
def cancelA (c:Chart) (party:Int):Chart × Int:=if checkE c ≠ 0 then (⟨[],0,[]⟩,checkE c) else if (keepL party c.sold).length=c.sold.length then (⟨[],0,[]⟩,3) else (⟨c.cabins,c.secs,keepL party c.sold⟩,0)
theorem keep_all {P:Int} {l:List Tk} (h:∀ t ∈ l,t.party ≠ P):keepL P l=l:=List.filter_eq_self.2 fun t ht=>by rw [decide_eq_false (h t ht)];rfl
theorem keep_none {P:Int} {l:List Tk} (h:∀ t ∈ l,t.party=P):keepL P l=[]:=List.filter_eq_nil_iff.2 fun t ht=>by rw [decide_eq_true (h t ht)];decide
theorem keep_app (P:Int) (l r:List Tk):keepL P (l++r)=keepL P l++keepL P r:=List.filter_append _ _
theorem sl_party {a:Ask} {l:List Bunk} {k:Nat}:∀ t ∈ slTk a l k,t.party=a.party:=fun t ht=>by
  obtain ⟨i,_,rfl⟩:=List.mem_map.1 ht;rfl
theorem ask_nobody {c:Chart} {a:Ask} (h:bothE c a=0):∀ t ∈ c.sold,t.party ≠ a.party:=by
  have h:=(both_ok h).2
  unfold askE at h
  split at h
  · exact absurd h (by decide)
  split at h
  · exact absurd h (by decide)
  rename_i h2
  intro t ht hp
  exact h2 (List.any_eq_true.2 ⟨t,ht,by rw [hp];simp⟩)
theorem cancel_sold {c:Chart} {a:Ask} (h:bothE c a=0) {p:List Bunk} (hp:p.length=a.sexes.length) (hc:checkE ⟨c.cabins,c.secs,c.sold++slTk a p p.length⟩=0):cancelA ⟨c.cabins,c.secs,c.sold++slTk a p p.length⟩ a.party=(c,0):=by
  have hs:=(sx_of (both_ok h).2).2
  have hk:keepL a.party (c.sold++slTk a p p.length)=c.sold:=by
    rw [keep_app,keep_all (ask_nobody h),keep_none sl_party,List.append_nil]
  unfold cancelA
  simp only [hk]
  rw [hc,if_neg (fun h=>h rfl),if_neg]
  rw [List.length_append,tks_len];omega
end Go.Sym.B
namespace Go.Sym.B
open Go Go.Sym Go.Proofs Go.Sym.C
def cnB (P:Int) (x:Tk):Bool:=decide (x.party=P)
def cnC (P:Int):List AV:=[.v (.int .i64 P)]
theorem pcs_can (P:Int):PCs (cnC P):=⟨by simp [cnC,AV.idsL,AV.ids],by simp [cnC,AV.leL,AV.le],by simp [cnC,AV.renL,AV.ren]⟩
def tbE26_can1:=vj @ty3 (vj @ty81 (vj @ti3.eq_1 @ti81.eq_1))
def xbE26_1:=vj @aI.eq_1 (@aB.eq_1)
theorem can1_fn (P:Int):PredFn 100 (cnC P) (cnB P):=fun x=>by
  have env:Env (fun _=>True) Try.prog tyB (tab []):=mkEnv trivial
  refine Fn.of (A:=fun _=>True) (n0:=1) (D:=noD) (Fn0 Try.func100 rfl (fun vs w=>by kernel_rfl) (by kernel_rfl)) (by simp) (by simp [AV.ids,AV.idsL,aTk,cTk]) ?_ (fun _ _ _ _=>trivial) noD_ok ?_
  · intro i o hi
    have h:=hasg_mem hi
    simp at h;obtain ⟨rfl,rfl⟩:=h;simp [cnC,AObj.ids,AV.ids,AV.idsL]
  repeat' (first|(apply nx;with_reducible constructor)|refine uq (by decide) ?_|((first|refine vx env fun Q hQ=>?_|refine vz fun Q hQ=>?_);simp only [vkt,seval,tbE26_can1,xbE26_1,aTk,cTk,cnC];(try simp only [ite_and]);(repeat' (first|with_reducible assumption|refine And.intro ?_ ?_|intro hp));all_goals (first|(refine hQ _ ?_;clear hQ Q)|(refine hQ _ (fun h=>?_) (fun h=>?_) <;> clear hQ Q <;> (try simp only [vki,reduceCtorEq] at h))|(refine vq ?_;kernel_rfl)|omega|assumption|with_reducible rfl|skip)))
  all_goals (simp only [vrt,Try.results100,vkt,seval,tbE26_can1,xbE26_1,aTk,cTk,cnC];refine Fin.ok some [] ?_ ?_ ?_ ?_ ?_ rfl;all_goals (try simp only [vle,vkt,seval,tbE26_can1,xbE26_1,aTk,cTk,cnC]))
  all_goals first|rfl|(simp [cnB];done)
def pIdxR (P:Int) (S:St):List AV→Option Pk
  |[.row r,.clo f [.ptr t 0]]=>match S.h r with
    |some (.row _ _ xs)=>match S.h t with
      |some (.cells [.v (.int .i64 Q)])=>some { pre:=f=100∧Q=P∧xs=(xs.map dTk).map eTk∧xs.length≤100,hs:=[t],bo:=[r],fl:=true,ar:=[.sl xs,.clo 100 [.ptr 0 0]],L0:=[.cells (cnC P)],v:=aI (idxT (cnB P) (xs.map dTk)),L1:=[some (.cells (cnC P))] }
      |_=>none
    |_=>none
  |_=>none
theorem eIdxR {A:Frm→Prop} {P:Int}:EntryOK A Try.prog 126 (fnE (pIdxR P)):=fnE_ok fun S bs q h hp=>by
  unfold pIdxR at h
  split at h
  · split at h
    · split at h
      · cases h
        obtain ⟨_,_,h1,h2⟩:=hp
        have:=index_fn (pcs_can P) (can1_fn P) (List.map dTk _) (by rw [List.length_map];exact h2)
        rw [aTks,← h1] at this
        exact this
      · cases h
    · cases h
  · cases h
def ndB (p:Tk→Bool) (x:Tk):Bool:=!p x
structure DlInv (p:Tk→Bool) (l M:List Tk) (j:Nat):Prop where
  len:M.length=l.length
  tk:M.take ((l.take j).filter (ndB p)).length=(l.take j).filter (ndB p)
  dr:M.drop j=l.drop j
  lt:((l.take j).filter (ndB p)).length < j
theorem DlInv.skip {p:Tk→Bool} {l M:List Tk} {j:Nat} (h:DlInv p l M j) (hj:j < l.length) (hp:p (l.getD j default)=true):DlInv p l M (j+1):=by
  have hF:(l.take (j+1)).filter (ndB p)=(l.take j).filter (ndB p):=by
    rw [List.take_succ_eq_append_getElem hj,List.filter_append,show l[j]=l.getD j default by simp [List.getD_eq_getElem?_getD,hj]]
    rw [List.filter_cons_of_neg (by unfold ndB;rw [hp];decide)]
    simp
  refine ⟨h.len,by rw [hF];exact h.tk, ?_,by rw [hF];have:=h.lt;omega⟩
  have:=congrArg (List.drop 1) h.dr
  rwa [List.drop_drop,List.drop_drop] at this
theorem DlInv.keep {p:Tk→Bool} {l M:List Tk} {j:Nat} (h:DlInv p l M j) (hj:j < l.length) {x:Tk} (hx:l.getD j default=x) (hp:p x=false):DlInv p l (M.set ((l.take j).filter (ndB p)).length x) (j+1)∧((l.take (j+1)).filter (ndB p)).length=((l.take j).filter (ndB p)).length+1:=by
  have hF:(l.take (j+1)).filter (ndB p)=(l.take j).filter (ndB p)++[x]:=by
    rw [List.take_succ_eq_append_getElem hj,List.filter_append,show l[j]=l.getD j default by simp [List.getD_eq_getElem?_getD,hj],hx]
    simp [ndB,hp]
  have hl:=h.lt
  have hM:=h.len
  have hL:((l.take (j+1)).filter (ndB p)).length=((l.take j).filter (ndB p)).length+1:=by rw [hF,List.length_append];rfl
  refine ⟨⟨by rw [List.length_set];exact hM, ?_, ?_,by omega⟩,hL⟩
  · rw [hL,hF]
    have htk:=h.tk
    obtain ⟨i,hi⟩:∃ i,((l.take j).filter (ndB p)).length=i:=⟨_,rfl⟩
    rw [hi] at htk hl ⊢
    rw [← htk]
    rw [List.take_succ_eq_append_getElem (by rw [List.length_set];omega),List.getElem_set_self,List.take_set_of_le (Nat.le_refl _)]
  · rw [List.drop_set_of_lt (by omega)]
    have:=congrArg (List.drop 1) h.dr
    rwa [List.drop_drop,List.drop_drop] at this
theorem DlInv.cur {p:Tk→Bool} {l M:List Tk} {j:Nat} (h:DlInv p l M j) (hj:j < l.length):M.getD j default=l.getD j default:=by
  have h1:(M.drop j)[0]?=(l.drop j)[0]?:=by rw [h.dr]
  rw [List.getElem?_drop,List.getElem?_drop,Nat.add_zero] at h1
  rw [List.getD_eq_getElem?_getD,List.getD_eq_getElem?_getD,h1]
theorem dl_start {p:Tk→Bool} {l:List Tk} {k:Nat} (hk:k < l.length) (h:∀ j,j < k→p (l.getD j default)=false) (hp:p (l.getD k default)=true):DlInv p l l (k+1)∧((l.take (k+1)).filter (ndB p)).length=k:=by
  have hF:(l.take k).filter (ndB p)=l.take k:=List.filter_eq_self.2 fun x hx=>by
    obtain ⟨j,hj,rfl⟩:=List.mem_iff_getElem.1 hx
    rw [List.length_take] at hj
    have:=h j (by omega)
    rw [show l.getD j default=(l.take k)[j] by simp [List.getD_eq_getElem?_getD,show j < l.length by omega]] at this
    unfold ndB
    rw [this];rfl
  have hF2:(l.take (k+1)).filter (ndB p)=l.take k:=by
    rw [List.take_succ_eq_append_getElem hk,List.filter_append,show l[k]=l.getD k default by simp [List.getD_eq_getElem?_getD,hk],hF]
    rw [List.filter_cons_of_neg (by unfold ndB;rw [hp];decide)]
    simp
  have hL:((l.take (k+1)).filter (ndB p)).length=k:=by rw [hF2,List.length_take];omega
  exact ⟨⟨rfl,by rw [hL,hF2],rfl,by omega⟩,hL⟩
theorem idx_cases {p:Tk→Bool} {l:List Tk}:(l.any p=false∧idxT p l=-1)∨(l.any p=true∧∃ k:Nat,k < l.length∧idxT p l=(k:Int)∧(∀ j,j < k→p (l.getD j default)=false)∧p (l.getD k default)=true):=by
  have ha:=idxT_any p l
  unfold idxT at ha ⊢
  cases h:l.findIdx? p with
  |none =>
    rw [h] at ha
    exact .inl ⟨by rw [← ha];rfl,rfl⟩
  |some k =>
    rw [h] at ha
    obtain ⟨h1,h2,h3⟩:=List.findIdx?_eq_some_iff_getElem.1 h
    refine .inr ⟨by rw [← ha];simp,k,h1,rfl,fun j hj=>?_, ?_⟩
    · have:=h3 j hj
      simpa [List.getD_eq_getElem?_getD,show j < l.length by omega] using this
    · simpa [List.getD_eq_getElem?_getD,h1] using h2
def dlS (P:Int) (M:List Tk) (T:List (Nat × AV)):St:={ t:=asg (T++[(0,.row 0),(1,.clo 100 [.ptr 1 0])]),h:=hasg [(0,rowT M),(1,.cells [.v (.int .i64 P)])],n:=2,m:=2 }
def tbE26_del:=vj @ty3 (vj @ty26 (vj @ty81 (vj @ti3.eq_1 (vj @ti26.eq_1 @ti81.eq_1))))
def xbE26_2:=vj @aI.eq_1 (@aB.eq_1)
set_option maxHeartbeats 4000000 in
theorem del_none (P:Int) (l:List Tk) (hl:l.length≤100) (ha:l.any (cnB P)=false):Fn noB Try.prog 99 [.row 0,.clo 100 [.ptr 1 0]] (hasg [(0,rowT l),(1,.cells [.v (.int .i64 P)])]) (.row 0) (hasg [(0,rowT l),(1,.cells [.v (.int .i64 P)])]) 0:=by
  have env:Env (fun _=>True) Try.prog tyB (tab [(100,fnE (pTk (cnC P) (cnB P))),(126,fnE (pIdxR P))]):=mkEnv ⟨eTkp (can1_fn P),eIdxR,trivial⟩
  refine Fn.of (A:=fun _=>True) (n0:=2) (D:=noD) (Fn0 Try.func99 rfl (fun vs w=>by kernel_rfl) (by kernel_rfl)) (by simp) (by simp [AV.ids,AV.idsL]) ?_ (fun _ _ _ _=>trivial) noD_ok ?_
  · intro i o hi
    have h:=hasg_mem hi
    simp at h
    rcases h with ⟨rfl,rfl⟩|⟨rfl,rfl⟩ <;> simp [rowT,AObj.ids,AV.ids,AV.idsL]
  rcases idx_cases (p:=cnB P) (l:=l) with ⟨_,h2⟩|⟨h1,_⟩
  · repeat' (first|(apply nx;with_reducible constructor)|refine uq (by decide) ?_|((first|refine vx env fun Q hQ=>?_|refine vz fun Q hQ=>?_);simp only [vkt,seval,tbE26_del,xbE26_2,aTk,cTk,aTks,eTk,gTk,rTk,mTk,rowT,dlS,pTk,pIdxR,cnC,List.length_map,hl,h2,decide_true];(try simp only [ite_and]);(repeat' (first|with_reducible assumption|refine And.intro ?_ ?_|intro hp));all_goals (first|(refine hQ _ ?_;clear hQ Q)|(refine hQ _ (fun h=>?_) (fun h=>?_) <;> clear hQ Q <;> (try simp only [vki,reduceCtorEq] at h))|(refine vq ?_;kernel_rfl)|omega|assumption|with_reducible rfl|skip)))
    · exact ⟨_,_,rfl⟩
    repeat' (first|(apply nx;with_reducible constructor)|refine uq (by decide) ?_|((first|refine vx env fun Q hQ=>?_|refine vz fun Q hQ=>?_);simp only [vkt,seval,tbE26_del,xbE26_2,aTk,cTk,aTks,eTk,gTk,rTk,mTk,rowT,dlS,pTk,pIdxR,cnC,List.length_map,hl,h2,decide_true];(try simp only [ite_and]);(repeat' (first|with_reducible assumption|refine And.intro ?_ ?_|intro hp));all_goals (first|(refine hQ _ ?_;clear hQ Q)|(refine hQ _ (fun h=>?_) (fun h=>?_) <;> clear hQ Q <;> (try simp only [vki,reduceCtorEq] at h))|(refine vq ?_;kernel_rfl)|omega|assumption|with_reducible rfl|skip)))
    (simp only [vrt,Try.results99,vkt,seval,tbE26_del,xbE26_2,aTk,cTk,aTks,eTk,gTk,rTk,mTk,rowT,dlS,pTk,pIdxR,cnC,List.length_map];refine Fin.ok some [] ?_ ?_ ?_ ?_ ?_ rfl;all_goals (try simp only [vle,vkt,seval,tbE26_del,xbE26_2,aTk,cTk,aTks,eTk,gTk,rTk,mTk,rowT,dlS,pTk,pIdxR,cnC,List.length_map]))
    all_goals first|rfl|(simp;done)
  · rw [ha] at h1;exact absurd h1 (by decide)
set_option maxHeartbeats 4000000 in
theorem del_some (P:Int) (l:List Tk) (hl:l.length≤100) (ha:l.any (cnB P)=true):Fn noB Try.prog 99 [.row 0,.clo 100 [.ptr 1 0]] (hasg [(0,rowT l),(1,.cells [.v (.int .i64 P)])]) (.row 2) (hasg [(1,.cells [.v (.int .i64 P)]),(2,rowT (l.filter (ndB (cnB P))))]) 0:=by
  have env:Env (fun _=>True) Try.prog tyB (tab [(100,fnE (pTk (cnC P) (cnB P))),(126,fnE (pIdxR P))]):=mkEnv ⟨eTkp (can1_fn P),eIdxR,trivial⟩
  refine Fn.of (A:=fun _=>True) (n0:=2) (D:=noD) (Fn0 Try.func99 rfl (fun vs w=>by kernel_rfl) (by kernel_rfl)) (by simp) (by simp [AV.ids,AV.idsL]) ?_ (fun _ _ _ _=>trivial) noD_ok ?_
  · intro i o hi
    have h:=hasg_mem hi
    simp at h
    rcases h with ⟨rfl,rfl⟩|⟨rfl,rfl⟩ <;> simp [rowT,AObj.ids,AV.ids,AV.idsL]
  rcases idx_cases (p:=cnB P) (l:=l) with ⟨h1,_⟩|⟨_,k0,hk0,hix,hb,hp0⟩
  · rw [ha] at h1;exact absurd h1 (by decide)
  obtain ⟨hst,hs0⟩:=dl_start hk0 hb hp0
  have d0:decide ((k0:Int)=-1)=false:=decide_eq_false (by omega)
  have e0:IntKind.wrap .i64 ((k0:Int)+1)=((k0+1:Nat):Int):=by rw [wrap64 (by omega) (by omega)];rfl
  have hmx:(100000:Nat)≤maxLen:=by decide
  repeat' (first|(apply nx;with_reducible constructor)|refine uq (by decide) ?_|((first|refine vx env fun Q hQ=>?_|refine vz fun Q hQ=>?_);simp only [vkt,seval,tbE26_del,xbE26_2,aTk,cTk,aTks,eTk,gTk,rTk,mTk,rowT,dlS,pTk,pIdxR,cnC,List.length_map,hl,hix,d0,e0];(try simp only [ite_and]);(repeat' (first|with_reducible assumption|refine And.intro ?_ ?_|intro hp));all_goals (first|(refine hQ _ ?_;clear hQ Q)|(refine hQ _ (fun h=>?_) (fun h=>?_) <;> clear hQ Q <;> (try simp only [vki,reduceCtorEq] at h))|(refine vq ?_;kernel_rfl)|omega|assumption|with_reducible rfl|skip)))
  · exact ⟨_,_,rfl⟩
  repeat' (first|(apply nx;with_reducible constructor)|refine uq (by decide) ?_|((first|refine vx env fun Q hQ=>?_|refine vz fun Q hQ=>?_);simp only [vkt,seval,tbE26_del,xbE26_2,aTk,cTk,aTks,eTk,gTk,rTk,mTk,rowT,dlS,pTk,pIdxR,cnC,List.length_map,hl,hix,d0,e0];(try simp only [ite_and]);(repeat' (first|with_reducible assumption|refine And.intro ?_ ?_|intro hp));all_goals (first|(refine hQ _ ?_;clear hQ Q)|(refine hQ _ (fun h=>?_) (fun h=>?_) <;> clear hQ Q <;> (try simp only [vki,reduceCtorEq] at h))|(refine vq ?_;kernel_rfl)|omega|assumption|with_reducible rfl|skip)))
  refine sym_loop (fun y:{ y:Nat × List Tk // y.1≤l.length∧DlInv (cnB P) l y.2 y.1 }=>dlS P y.1.2 [(5,aI ((l.take y.1.1).filter (ndB (cnB P))).length),(6,aI y.1.1)]) (fun y=>l.length - y.1.1) ⟨(k0+1,l),hk0,hst⟩ ?_ fun ⟨⟨j,M⟩,hj,hin⟩=>?_
  · simp only [dlS,hs0,List.cons_append,List.nil_append]
    (refine Le.ok some [] ?_;constructor;all_goals (try simp only [vle,vkt,seval,tbE26_del,xbE26_2,aTk,cTk,aTks,eTk,gTk,rTk,mTk,rowT,dlS,pTk,pIdxR,cnC,List.length_map]))
    all_goals first|rfl|(simp;done)
  simp only at hj hin ⊢
  have hMl:=hin.len
  have hlt:=hin.lt
  have htk:=hin.tk
  obtain ⟨i,hi⟩:∃ i,((l.take j).filter (ndB (cnB P))).length=i:=⟨_,rfl⟩
  by_cases hjl:j < l.length
  · have d1:decide ((j:Int) < (M.length:Int))=true:=decide_eq_true (by omega)
    have j0:((j:Int)).toNat=j:=rfl
    have i0:((i:Int)).toNat=i:=rfl
    have e9:IntKind.wrap .i64 ((j:Int)+1)=((j+1:Nat):Int):=by rw [wrap64 (by omega) (by omega)];rfl
    have hjM:j < M.length:=by omega
    have hgM:=hTk hjM
    have hcur:=hin.cur hjl
    obtain ⟨x,hx⟩:∃ x,l.getD j default=x:=⟨_,rfl⟩
    have ex:(⟨x.party,x.sex,x.cab,x.bed,x.frm,x.to,x.dog⟩:Tk)=x:=rfl
    rw [hcur,hx] at hgM
    rw [hi] at hlt
    have hiM:i < M.length:=by omega
    simp only [dlS,hi,List.cons_append,List.nil_append]
    cases hp:cnB P x with
    |true =>
      have hin':=hin.skip hjl (by rw [hx];exact hp)
      have hF:((l.take (j+1)).filter (ndB (cnB P))).length=i:=by
        rw [← hi]
        congr 1
        rw [List.take_succ_eq_append_getElem hjl,List.filter_append,show l[j]=l.getD j default by simp [List.getD_eq_getElem?_getD,hjl],hx]
        simp [ndB,hp]
      repeat' (first|(apply nx;with_reducible constructor)|refine uq (by decide) ?_|((first|refine vx env fun Q hQ=>?_|refine vz fun Q hQ=>?_);simp only [vkt,seval,tbE26_del,xbE26_2,aTk,cTk,aTks,eTk,gTk,rTk,mTk,rowT,dlS,pTk,pIdxR,cnC,List.length_map,d1,j0,hjM,hgM,ex,hp,e9];(try simp only [ite_and]);(repeat' (first|with_reducible assumption|refine And.intro ?_ ?_|intro hp));all_goals (first|(refine hQ _ ?_;clear hQ Q)|(refine hQ _ (fun h=>?_) (fun h=>?_) <;> clear hQ Q <;> (try simp only [vki,reduceCtorEq] at h))|(refine vq ?_;kernel_rfl)|omega|assumption|with_reducible rfl|skip)))
      refine ⟨⟨(j+1,M),hjl,hin'⟩,by show l.length - (j+1) < l.length - j;omega, ?_⟩
      simp only [dlS,hF,List.cons_append,List.nil_append]
      (refine Le.ok some [] ?_;constructor;all_goals (try simp only [vle,vkt,seval,tbE26_del,xbE26_2,aTk,cTk,aTks,eTk,gTk,rTk,mTk,rowT,dlS,pTk,pIdxR,cnC,List.length_map]))
      all_goals first|rfl|(simp;done)
    |false =>
      obtain ⟨hin',hF⟩:=hin.keep hjl hx hp
      rw [hi] at hin' hF
      have e8:IntKind.wrap .i64 ((i:Int)+1)=((i+1:Nat):Int):=by rw [wrap64 (by omega) (by omega)];rfl
      have hgi:=hTk hiM
      obtain ⟨y,hy⟩:∃ y,M.getD i default=y:=⟨_,rfl⟩
      rw [hy] at hgi
      have hset:(M.map eTk).set i [.v (.int .i64 x.party),.v (.int .i64 x.sex),.v (.int .i64 x.cab),.v (.int .i64 x.bed),.v (.int .i64 x.frm),.v (.int .i64 x.to),.v (.bool x.dog)]=(M.set i x).map eTk:=by
        rw [List.map_set];rfl
      repeat' (first|(apply nx;with_reducible constructor)|refine uq (by decide) ?_|((first|refine vx env fun Q hQ=>?_|refine vz fun Q hQ=>?_);simp only [vkt,seval,tbE26_del,xbE26_2,aTk,cTk,aTks,eTk,gTk,rTk,mTk,rowT,dlS,pTk,pIdxR,cnC,List.length_map,d1,j0,i0,hjM,hiM,hgM,hgi,ex,hp,e9,e8];(try simp only [ite_and]);(repeat' (first|with_reducible assumption|refine And.intro ?_ ?_|intro hp));all_goals (first|(refine hQ _ ?_;clear hQ Q)|(refine hQ _ (fun h=>?_) (fun h=>?_) <;> clear hQ Q <;> (try simp only [vki,reduceCtorEq] at h))|(refine vq ?_;kernel_rfl)|omega|assumption|with_reducible rfl|skip)))
      refine ⟨⟨(j+1,M.set i x),hjl,hin'⟩,by show l.length - (j+1) < l.length - j;omega, ?_⟩
      simp only [dlS,hF,← hset,List.cons_append,List.nil_append,rowT]
      (refine Le.ok some [] ?_;constructor;all_goals (try simp only [vle,vkt,seval,tbE26_del,xbE26_2,aTk,cTk,aTks,eTk,gTk,rTk,mTk,rowT,dlS,pTk,pIdxR,cnC,List.length_map]))
      all_goals first|rfl|(simp;done)
  · obtain rfl:j=l.length:=by omega
    rw [List.take_length] at hi htk hlt
    rw [hi] at htk hlt
    have d1:decide (((l.length:Nat):Int) < (M.length:Int))=false:=decide_eq_false (by omega)
    have i0:((i:Int)).toNat=i:=rfl
    have hiM:(i:Int) < (M.length:Int):=by omega
    have hiM2:(i:Int)≤(M.length:Int):=by omega
    have hM0:0 < M.length:=by omega
    have hM1:0 < M.length - i:=by omega
    have hM2:i+(M.length - i)≤M.length:=by omega
    have hfin:l.filter (ndB (cnB P))=M.take i:=htk.symm
    rw [hfin]
    simp only [dlS,List.take_length,hi,List.cons_append,List.nil_append]
    repeat' (first|(apply nx;with_reducible constructor)|refine uq (by decide) ?_)
    ((first|refine vx env fun Q hQ=>?_|refine vz fun Q hQ=>?_);simp only [vkt,seval,tbE26_del,xbE26_2,aTk,cTk,aTks,eTk,gTk,rTk,mTk,rowT,dlS,pTk,pIdxR,cnC,List.length_map,d1];(try simp only [ite_and]);(repeat' (first|with_reducible assumption|refine And.intro ?_ ?_|intro hp));all_goals (first|(refine hQ _ ?_;clear hQ Q)|(refine hQ _ (fun h=>?_) (fun h=>?_) <;> clear hQ Q <;> (try simp only [vki,reduceCtorEq] at h))|(refine vq ?_;kernel_rfl)|omega|assumption|with_reducible rfl|skip))
    repeat' (first|(apply nx;with_reducible constructor)|refine uq (by decide) ?_)
    ((first|refine vx env fun Q hQ=>?_|refine vz fun Q hQ=>?_);simp only [vkt,seval,tbE26_del,xbE26_2,aTk,cTk,aTks,eTk,gTk,rTk,mTk,rowT,dlS,pTk,pIdxR,cnC,List.length_map,d1];(try simp only [ite_and]);(repeat' (first|with_reducible assumption|refine And.intro ?_ ?_|intro hp));all_goals (first|(refine hQ _ ?_;clear hQ Q)|(refine hQ _ (fun h=>?_) (fun h=>?_) <;> clear hQ Q <;> (try simp only [vki,reduceCtorEq] at h))|(refine vq ?_;kernel_rfl)|omega|assumption|with_reducible rfl|skip))
    repeat' (first|(apply nx;with_reducible constructor)|refine uq (by decide) ?_)
    refine Sym.mono (K:=fun e S1=>e=.normal∧∃ Z:List (List DV),Z.length=M.length∧Z.take i=(M.take i).map eTk∧Le S1 { t:=asg [(0,.row 0),(1,.clo 100 [.ptr 1 0]),(5,aI i)],h:=hasg [(0,.row 81 7 Z),(1,.cells [.v (.int .i64 P)])],n:=2,m:=2 }) ?_ ?_
    · ((first|refine vx env fun Q hQ=>?_|refine vz fun Q hQ=>?_);simp only [vkt,seval,tbE26_del,xbE26_2,aTk,cTk,aTks,eTk,gTk,rTk,mTk,rowT,dlS,pTk,pIdxR,cnC,List.length_map,i0,hiM,hiM2,hM0,hM1,hM2,Int.toNat_natCast];(try simp only [ite_and]);(repeat' (first|with_reducible assumption|refine And.intro ?_ ?_|intro hp));all_goals (first|(refine hQ _ ?_;clear hQ Q)|(refine hQ _ (fun h=>?_) (fun h=>?_) <;> clear hQ Q <;> (try simp only [vki,reduceCtorEq] at h))|(refine vq ?_;kernel_rfl)|omega|assumption|with_reducible rfl|skip))
      refine ⟨rfl,List.take i (M.map eTk)++List.replicate (M.length - i) [.v (.int .i64 0),.v (.int .i64 0),.v (.int .i64 0),.v (.int .i64 0),.v (.int .i64 0),.v (.int .i64 0),.v (.bool false)]++List.drop (i+(M.length - i)) (M.map eTk), ?_, ?_, ?_⟩
      · simp;omega
      · rw [List.append_assoc,List.take_append_of_le_length (by simp;omega),List.take_take,Nat.min_self,List.map_take]
      · (refine Le.ok some [] ?_;constructor;all_goals (try simp only [vle,vkt,seval,tbE26_del,xbE26_2,aTk,cTk,aTks,eTk,gTk,rTk,mTk,rowT,dlS,pTk,pIdxR,cnC,List.length_map]))
        all_goals first|rfl|(simp;done)
    rintro e S1 ⟨rfl,Z,hZl,hZt,hle⟩
    refine (sym_le hle ?_:Sym _ _ _ S1 _)
    clear hle S1
    repeat' (first|(apply nx;with_reducible constructor)|refine uq (by decide) ?_)
    refine Sym.mono (K:=fun e S1=>e=.normal∧Le S1 { t:=asg [(4,.rsl 0 7 0 i)],h:=hasg [(0,.row 81 7 Z),(1,.cells [.v (.int .i64 P)])],n:=2,m:=2 }) ?_ ?_
    · ((first|refine vx env fun Q hQ=>?_|refine vz fun Q hQ=>?_);simp only [vkt,seval,tbE26_del,xbE26_2,aTk,cTk,aTks,eTk,gTk,rTk,mTk,rowT,dlS,pTk,pIdxR,cnC,List.length_map,i0,hZl,hiM,hiM2,hM0,Nat.sub_zero];(try simp only [ite_and]);(repeat' (first|with_reducible assumption|refine And.intro ?_ ?_|intro hp));all_goals (first|(refine hQ _ ?_;clear hQ Q)|(refine hQ _ (fun h=>?_) (fun h=>?_) <;> clear hQ Q <;> (try simp only [vki,reduceCtorEq] at h))|(refine vq ?_;kernel_rfl)|omega|assumption|with_reducible rfl|skip))
      refine ⟨rfl, ?_⟩
      (refine Le.ok some [] ?_;constructor;all_goals (try simp only [vle,vkt,seval,tbE26_del,xbE26_2,aTk,cTk,aTks,eTk,gTk,rTk,mTk,rowT,dlS,pTk,pIdxR,cnC,List.length_map]))
      all_goals first|rfl|(simp;done)
    rintro e S1 ⟨rfl,hle⟩
    refine (sym_le (Le.trans hle (le_take (t0:=4) (id:=0) (k:=7) (n:=i) (xs:=Z) rfl rfl (by omega))) ?_:Sym _ _ _ S1 _)
    clear hle S1
    simp only [hZt]
    repeat' (first|(apply nx;with_reducible constructor)|refine uq (by decide) ?_|((first|refine vx env fun Q hQ=>?_|refine vz fun Q hQ=>?_);simp only [vkt,seval,tbE26_del,xbE26_2,aTk,cTk,aTks,eTk,gTk,rTk,mTk,rowT,dlS,pTk,pIdxR,cnC,List.length_map];(try simp only [ite_and]);(repeat' (first|with_reducible assumption|refine And.intro ?_ ?_|intro hp));all_goals (first|(refine hQ _ ?_;clear hQ Q)|(refine hQ _ (fun h=>?_) (fun h=>?_) <;> clear hQ Q <;> (try simp only [vki,reduceCtorEq] at h))|(refine vq ?_;kernel_rfl)|omega|assumption|with_reducible rfl|skip)))
    (simp only [vrt,Try.results99,vkt,seval,tbE26_del,xbE26_2,aTk,cTk,aTks,eTk,gTk,rTk,mTk,rowT,dlS,pTk,pIdxR,cnC,List.length_map];refine Fin.ok some [] ?_ ?_ ?_ ?_ ?_ rfl;all_goals (try simp only [vle,vkt,seval,tbE26_del,xbE26_2,aTk,cTk,aTks,eTk,gTk,rTk,mTk,rowT,dlS,pTk,pIdxR,cnC,List.length_map]))
    all_goals first|rfl|(simp;done)
def pDel (P:Int) (S:St):List AV→Option Pk
  |[.row r,.clo f [.ptr t 0]]=>match S.h r with
    |some (.row e k xs)=>match S.h t with
      |some (.cells [.v (.int .i64 Q)])=>some { pre:=f=100∧Q=P∧xs=(xs.map dTk).map eTk∧xs.length≤100,hs:=[r,t],ar:=[.row 0,.clo 100 [.ptr 1 0]],L0:=[.row 81 7 xs,.cells (cnC P)],v:=bif (xs.map dTk).any (cnB P) then .row 2 else .row 0,L1:=bif (xs.map dTk).any (cnB P) then [none,some (.cells (cnC P)),some (.row 81 7 (((xs.map dTk).filter (ndB (cnB P))).map eTk))] else [some (.row 81 7 xs),some (.cells (cnC P))] }
      |_=>none
    |_=>none
  |_=>none
theorem eDel {A:Frm→Prop} {P:Int}:EntryOK A Try.prog 99 (fnE (pDel P)):=fnE_ok fun S bs q h hp=>by
  unfold pDel at h
  split at h
  · split at h
    · split at h
      · rename_i xs _ _ _
        cases h
        obtain ⟨_,_,h1,h2⟩:=hp
        simp only at h1 h2 ⊢
        cases hq:(List.map dTk _).any (cnB P) with
        |true =>
          have:=del_some P (List.map dTk _) (by rw [List.length_map];exact h2) hq
          rw [rowT,← h1] at this
          exact this
        |false =>
          have:=del_none P (List.map dTk _) (by rw [List.length_map];exact h2) hq
          rw [rowT,← h1] at this
          exact this
      · cases h
    · cases h
  · cases h
theorem keep_any {P:Int} {l:List Tk} (h:l.any (cnB P)=true):(keepL P l).length < l.length:=by
  unfold keepL
  rw [List.length_filter_lt_length_iff_exists]
  obtain ⟨t,ht,h1⟩:=List.any_eq_true.1 h
  exact ⟨t,ht,by unfold cnB at h1;rw [h1];decide⟩
theorem keep_no {P:Int} {l:List Tk} (h:l.any (cnB P)=false):keepL P l=l:=keep_all fun t ht=>by
  have:=List.any_eq_false.1 h t ht
  unfold cnB at this
  simpa using this
def tbE26_Cancel:=vj @ty3 (vj @ty26 (vj @ty28 (vj @ty34 (vj @ty81 (vj @ty118 (vj @ti3.eq_1 (vj @ti26.eq_1 (vj @ti28.eq_1 (vj @ti34.eq_1 (vj @ti81.eq_1 @ti118.eq_1))))))))))
def xbE26_3:=vj @aI.eq_1 (@aB.eq_1)
set_option maxHeartbeats 4000000 in
theorem Cancel_fn (c:Chart) (P:Int) (hc:c.cabins.length≤maxLen):FnV Try.prog 46 [aChart c,aI P] (.tup [aChart (cancelA c P).1,aI (cancelA c P).2]):=by
  have env:Env (fun _=>True) Try.prog tyB (tab [(44,valE true scheck),(93,fnE pCarOf),(99,fnE (pDel P))]):=mkEnv ⟨echeck,eCarOf,eDel,trivial⟩
  refine Fn.of (A:=fun _=>True) (n0:=0) (D:=noD) (Fn0 Try.func46 rfl (fun vs w=>by kernel_rfl) (by kernel_rfl)) (by simp) (by simp [AV.ids,AV.idsL,aChart,cChart,aI]) (fun i o h=>by cases h) (fun _ _ _ _=>trivial) noD_ok ?_
  have ec:(⟨c.cabins,c.secs,c.sold⟩:Chart)=c:=rfl
  have hmx:(100000:Nat)≤maxLen:=by decide
  obtain ⟨e,he⟩:∃ e,checkE c=e:=⟨_,rfl⟩
  by_cases h0:e=0
  · rw [h0] at he
    have hv:=val_of he
    have b1:c.cabins.length≤100000:=by have:=hv.car.cabs;omega
    have b2:c.sold.length≤100000:=by have:=hv.many;omega
    have b3:c.sold.length≤100:=by have:=hv.many;omega
    cases ha:c.sold.any (cnB P) with
    |true =>
      have hk:=keep_any ha
      have hA:cancelA c P=(⟨c.cabins,c.secs,keepL P c.sold⟩,0):=by
        unfold cancelA
        rw [he,if_neg (by decide),if_neg (by omega)]
      rw [hA]
      have hkl:c.sold.filter (ndB (cnB P))=keepL P c.sold:=rfl
      have d1:decide (((keepL P c.sold).length:Int)=(c.sold.length:Int))=false:=decide_eq_false (by omega)
      repeat' (first|(apply nx;with_reducible constructor)|refine uq (by decide) ?_|((first|refine vx env fun Q hQ=>?_|refine vz fun Q hQ=>?_);simp only [vkt,seval,tbE26_Cancel,xbE26_3,aTk,cTk,eTk,rTk,mTk,mCabin,aChart,cChart,carC,rowT,lent2,cnC,scheck,pCarOf,pDel,List.length_map,List.map_cons,List.map_nil,cond_true,cond_false,ec,he,hc,b1,b2,b3,ha,hkl,d1,decide_true];(try simp only [ite_and]);(repeat' (first|with_reducible assumption|refine And.intro ?_ ?_|intro hp));all_goals (first|(refine hQ _ ?_;clear hQ Q)|(refine hQ _ (fun h=>?_) (fun h=>?_) <;> clear hQ Q <;> (try simp only [vki,reduceCtorEq] at h))|(refine vq ?_;kernel_rfl)|omega|assumption|with_reducible rfl|skip)))
      (simp only [vrt,Try.results46,vkt,seval,tbE26_Cancel,xbE26_3,aTk,cTk,eTk,rTk,mTk,mCabin,aChart,cChart,carC,rowT,lent2,cnC,scheck,pCarOf,pDel,List.length_map,List.map_cons,List.map_nil,cond_true,cond_false];refine Fin.val rfl ?_;(try simp only [AV.le,AV.leL]))
      all_goals first|rfl|(simp;done)|exact ⟨⟨trivial,trivial,⟨_,_,rfl⟩,trivial⟩,trivial,trivial⟩
    |false =>
      have hA:cancelA c P=(⟨[],0,[]⟩,3):=by
        unfold cancelA
        rw [he,if_neg (by decide),keep_no ha,if_pos rfl]
      rw [hA]
      repeat' (first|(apply nx;with_reducible constructor)|refine uq (by decide) ?_|((first|refine vx env fun Q hQ=>?_|refine vz fun Q hQ=>?_);simp only [vkt,seval,tbE26_Cancel,xbE26_3,aTk,cTk,eTk,rTk,mTk,mCabin,aChart,cChart,carC,rowT,lent2,cnC,scheck,pCarOf,pDel,List.length_map,List.map_cons,List.map_nil,cond_true,cond_false,ec,he,hc,b1,b2,b3,ha,decide_true];(try simp only [ite_and]);(repeat' (first|with_reducible assumption|refine And.intro ?_ ?_|intro hp));all_goals (first|(refine hQ _ ?_;clear hQ Q)|(refine hQ _ (fun h=>?_) (fun h=>?_) <;> clear hQ Q <;> (try simp only [vki,reduceCtorEq] at h))|(refine vq ?_;kernel_rfl)|omega|assumption|with_reducible rfl|skip)))
      (simp only [vrt,Try.results46,vkt,seval,tbE26_Cancel,xbE26_3,aTk,cTk,eTk,rTk,mTk,mCabin,aChart,cChart,carC,rowT,lent2,cnC,scheck,pCarOf,pDel,List.length_map,List.map_cons,List.map_nil,cond_true,cond_false];refine Fin.val rfl ?_;(try simp only [AV.le,AV.leL]))
      all_goals first|rfl|(simp;done)
  · have d0:decide (e=0)=false:=decide_eq_false h0
    have hA:cancelA c P=(⟨[],0,[]⟩,e):=by
      unfold cancelA
      rw [he,if_pos h0]
    rw [hA]
    repeat' (first|(apply nx;with_reducible constructor)|refine uq (by decide) ?_|((first|refine vx env fun Q hQ=>?_|refine vz fun Q hQ=>?_);simp only [vkt,seval,tbE26_Cancel,xbE26_3,aTk,cTk,eTk,rTk,mTk,mCabin,aChart,cChart,carC,rowT,lent2,cnC,scheck,pCarOf,pDel,List.length_map,List.map_cons,List.map_nil,cond_true,cond_false,ec,he,hc,d0];(try simp only [ite_and]);(repeat' (first|with_reducible assumption|refine And.intro ?_ ?_|intro hp));all_goals (first|(refine hQ _ ?_;clear hQ Q)|(refine hQ _ (fun h=>?_) (fun h=>?_) <;> clear hQ Q <;> (try simp only [vki,reduceCtorEq] at h))|(refine vq ?_;kernel_rfl)|omega|assumption|with_reducible rfl|skip)))
    (simp only [vrt,Try.results46,vkt,seval,tbE26_Cancel,xbE26_3,aTk,cTk,eTk,rTk,mTk,mCabin,aChart,cChart,carC,rowT,lent2,cnC,scheck,pCarOf,pDel,List.length_map,List.map_cons,List.map_nil,cond_true,cond_false];refine Fin.val rfl ?_;(try simp only [AV.le,AV.leL]))
    all_goals first|rfl|(simp;done)
def sCancel:List AV→Prop × AV
  |[.agg [.sl x0,.v (.int .i64 x1),.sl x2],.v (.int .i64 n)]=>(x0=(x0.map dCabin).map eCabin∧x2=(x2.map dTk).map eTk∧((⟨(x0.map dCabin),x1,(x2.map dTk)⟩:Chart)).cabins.length≤maxLen,.tup [aChart (cancelA ((⟨(x0.map dCabin),x1,(x2.map dTk)⟩:Chart)) n).1,aI (cancelA ((⟨(x0.map dCabin),x1,(x2.map dTk)⟩:Chart)) n).2])
  |_=>(False,.junk)
theorem eCancel {A:Frm→Prop}:EntryOK A Try.prog 46 (valE false sCancel):=valE_ok fun vs hv h=>by
  clear hv
  unfold sCancel at h ⊢
  split at h
  · rename_i x0 x1 x2 n;obtain ⟨q0,q1,k0⟩:=h
    refine ⟨by first|trivial|(simp [AV.plain,AV.plainL,aI,aB,aInts,aBunks,aTks,aBunk,aTk,cTk];done)|(repeat' split) <;> simp [AV.plain,AV.plainL,aI,aB,aInts,aBunks,aTks,aBunk,aTk,cTk],fun h=>absurd h (by decide), ?_⟩
    have:=Cancel_fn ((⟨(x0.map dCabin),x1,(x2.map dTk)⟩:Chart)) n k0
    simp only [aCabins,aChart,aI,aTks,cChart,← q0,← q1] at this
    first|exact this|(simp only [aCabins,aChart,aI,aTks,cChart,← q0,← q1];exact this)
  · exact h.elim
end Go.Sym.B
namespace Go.Sym.B
open Go Go.Sym Go.Proofs Go.Sym.C
theorem eqK_ext {a b c d e f:Int} {g:Bool} {a' b' c' d' e' f':Int} {g':Bool}:decide ((⟨a,b,c,d,e,f,g⟩:Tk)=⟨a',b',c',d',e',f',g'⟩)=(decide (a=a') && (decide (b=b') && (decide (c=c') && (decide (d=d') && (decide (e=e') && (decide (f=f') && (g == g'))))))):=by
  rw [Bool.eq_iff_iff];simp
theorem eqN_ext {a:Int} {g:Bool} {a':Int} {g':Bool}:decide ((⟨a,g⟩:Cabin)=⟨a',g'⟩)=(decide (a=a') && (g == g')):=by
  rw [Bool.eq_iff_iff];simp
def eqKS (l m:List Tk) (k:Nat):St:={ t:=asg [(0,aTks l),(1,aTks m),(4,aB false),(5,aI k)],h:=hasg [],n:=0 }
def tbE19_eqK:=vj @ty3 (vj @ty26 (vj @ty81 (vj @ti3.eq_1 (vj @ti26.eq_1 @ti81.eq_1))))
def xbE19_2:=vj @aI.eq_1 (@aB.eq_1)
theorem eqK_fn (l m:List Tk) (hl:l.length≤maxLen) (hm:m.length≤maxLen):FnV Try.prog 63 [aTks l,aTks m] (aB (decide (l=m))):=by
  have env:Env (fun _=>True) Try.prog tyB (tab []):=mkEnv trivial
  refine Fn.of (A:=fun _=>True) (n0:=0) (D:=noD) (Fn0 Try.func63 rfl (fun vs w=>by kernel_rfl) (by kernel_rfl)) (by simp) (by simp [AV.ids,aTks]) (fun i o h=>by cases h) (fun _ _ _ _=>trivial) noD_ok ?_
  have hmx:maxLen=9223372036854775807:=by decide
  by_cases h0:l.length=m.length
  · have d0:decide ((l.length:Int)=(m.length:Int))=true:=decide_eq_true (by omega)
    repeat' (first|(apply nx;with_reducible constructor)|refine uq (by decide) ?_|((first|refine vx env fun Q hQ=>?_|refine vz fun Q hQ=>?_);simp only [vkt,seval,tbE19_eqK,xbE19_2,aTks,eTk,gTk,eqKS,Bool.true_and,Bool.false_and,d0];(try simp only [ite_and]);(repeat' (first|with_reducible assumption|refine And.intro ?_ ?_|intro hp));all_goals (first|(refine hQ _ ?_;clear hQ Q)|(refine hQ _ (fun h=>?_) (fun h=>?_) <;> clear hQ Q <;> (try simp only [vki,reduceCtorEq] at h))|(refine vq ?_;kernel_rfl)|omega|assumption|with_reducible rfl|skip)))
    refine sym_loop (fun k:{ k:Nat // k≤l.length∧∀ j,j < k→l.getD j default=m.getD j default }=>eqKS l m k.1) (fun k=>l.length - k.1) ⟨0,Nat.zero_le _,fun j h=>absurd h (Nat.not_lt_zero _)⟩ ?_ fun ⟨k,hk,hno⟩=>?_
    · (refine Le.ok some [] ?_;constructor;all_goals (try simp only [vle,vkt,seval,tbE19_eqK,xbE19_2,aTks,eTk,gTk,eqKS,Bool.true_and,Bool.false_and]))
      all_goals first|rfl|(simp;done)
    simp only at hk hno ⊢
    simp only [eqKS]
    by_cases hlt:k < l.length
    · have d1:decide ((k:Int) < (l.length:Int))=true:=decide_eq_true (by omega)
      have hlm:k < m.length:=by omega
      have k0:((k:Int)).toNat=k:=rfl
      have e9:IntKind.wrap .i64 ((k:Int)+1)=((k+1:Nat):Int):=by rw [wrap64 (by omega) (by omega)];rfl
      obtain ⟨x,hx⟩:∃ x,l.getD k default=x:=⟨_,rfl⟩
      obtain ⟨y,hy⟩:∃ x,m.getD k default=x:=⟨_,rfl⟩
      have hxy:(decide (x.party=y.party) && (decide (x.sex=y.sex) && (decide (x.cab=y.cab) && (decide (x.bed=y.bed) && (decide (x.frm=y.frm) && (decide (x.to=y.to) && ((x.dog == y.dog))))))))=decide (x=y):=by cases x;cases y;rw [eqK_ext]
      have hne:¬ x=y→decide (l=m)=false:=fun h=>decide_eq_false fun e=>h (by rw [← hx,← hy,e])
      cases q:decide (x=y) with
      |false =>
        rw [hne (of_decide_eq_false q)]
        repeat' (first|(apply nx;with_reducible constructor)|refine uq (by decide) ?_|((first|refine vx env fun Q hQ=>?_|refine vz fun Q hQ=>?_);simp only [vkt,seval,tbE19_eqK,xbE19_2,aTks,eTk,gTk,eqKS,Bool.true_and,Bool.false_and,d1,k0,hlt,hlm,hx,hy,hxy,q];(try simp only [ite_and]);(repeat' (first|with_reducible assumption|refine And.intro ?_ ?_|intro hp));all_goals (first|(refine hQ _ ?_;clear hQ Q)|(refine hQ _ (fun h=>?_) (fun h=>?_) <;> clear hQ Q <;> (try simp only [vki,reduceCtorEq] at h))|(refine vq ?_;kernel_rfl)|omega|assumption|with_reducible rfl|skip)))
        (simp only [vrt,Try.results63,vkt,seval,tbE19_eqK,xbE19_2,aTks,eTk,gTk,eqKS,Bool.true_and,Bool.false_and];refine Fin.val rfl ?_;(try simp only [AV.le,AV.leL]))
        all_goals first|rfl|(simp;done)
      |true =>
        repeat' (first|(apply nx;with_reducible constructor)|refine uq (by decide) ?_|((first|refine vx env fun Q hQ=>?_|refine vz fun Q hQ=>?_);simp only [vkt,seval,tbE19_eqK,xbE19_2,aTks,eTk,gTk,eqKS,Bool.true_and,Bool.false_and,d1,k0,hlt,hlm,hx,hy,hxy,q,e9];(try simp only [ite_and]);(repeat' (first|with_reducible assumption|refine And.intro ?_ ?_|intro hp));all_goals (first|(refine hQ _ ?_;clear hQ Q)|(refine hQ _ (fun h=>?_) (fun h=>?_) <;> clear hQ Q <;> (try simp only [vki,reduceCtorEq] at h))|(refine vq ?_;kernel_rfl)|omega|assumption|with_reducible rfl|skip)))
        refine ⟨⟨k+1,hlt,fun j hj=>?_⟩,by show l.length - (k+1) < l.length - k;omega, ?_⟩
        · rcases Nat.lt_or_eq_of_le (Nat.le_of_lt_succ hj) with h1|h1
          · exact hno j h1
          · rw [h1,hx,hy];exact of_decide_eq_true q
        · (refine Le.ok some [] ?_;constructor;all_goals (try simp only [vle,vkt,seval,tbE19_eqK,xbE19_2,aTks,eTk,gTk,eqKS,Bool.true_and,Bool.false_and]))
          all_goals first|rfl|(simp;done)
    · have d1:decide ((k:Int) < (l.length:Int))=false:=decide_eq_false (by omega)
      obtain rfl:k=l.length:=by omega
      rw [decide_eq_true (list_ext h0 hno)]
      repeat' (first|(apply nx;with_reducible constructor)|refine uq (by decide) ?_|((first|refine vx env fun Q hQ=>?_|refine vz fun Q hQ=>?_);simp only [vkt,seval,tbE19_eqK,xbE19_2,aTks,eTk,gTk,eqKS,Bool.true_and,Bool.false_and,d1];(try simp only [ite_and]);(repeat' (first|with_reducible assumption|refine And.intro ?_ ?_|intro hp));all_goals (first|(refine hQ _ ?_;clear hQ Q)|(refine hQ _ (fun h=>?_) (fun h=>?_) <;> clear hQ Q <;> (try simp only [vki,reduceCtorEq] at h))|(refine vq ?_;kernel_rfl)|omega|assumption|with_reducible rfl|skip)))
      (simp only [vrt,Try.results63,vkt,seval,tbE19_eqK,xbE19_2,aTks,eTk,gTk,eqKS,Bool.true_and,Bool.false_and];refine Fin.val rfl ?_;(try simp only [AV.le,AV.leL]))
      all_goals first|rfl|(simp;done)
  · have d0:decide ((l.length:Int)=(m.length:Int))=false:=decide_eq_false (by omega)
    rw [decide_eq_false (fun e=>h0 (by rw [e]))]
    repeat' (first|(apply nx;with_reducible constructor)|refine uq (by decide) ?_|((first|refine vx env fun Q hQ=>?_|refine vz fun Q hQ=>?_);simp only [vkt,seval,tbE19_eqK,xbE19_2,aTks,eTk,gTk,eqKS,Bool.true_and,Bool.false_and,d0];(try simp only [ite_and]);(repeat' (first|with_reducible assumption|refine And.intro ?_ ?_|intro hp));all_goals (first|(refine hQ _ ?_;clear hQ Q)|(refine hQ _ (fun h=>?_) (fun h=>?_) <;> clear hQ Q <;> (try simp only [vki,reduceCtorEq] at h))|(refine vq ?_;kernel_rfl)|omega|assumption|with_reducible rfl|skip)))
    (simp only [vrt,Try.results63,vkt,seval,tbE19_eqK,xbE19_2,aTks,eTk,gTk,eqKS,Bool.true_and,Bool.false_and];refine Fin.val rfl ?_;(try simp only [AV.le,AV.leL]))
    all_goals first|rfl|(simp;done)
def seqK:List AV→Prop × AV
  |[.sl l,.sl m]=>(l=(l.map dTk).map eTk∧m=(m.map dTk).map eTk∧(l.map dTk).length≤maxLen∧(m.map dTk).length≤maxLen,aB (decide ((l.map dTk)=(m.map dTk))))
  |_=>(False,.junk)
theorem eeqK {A:Frm→Prop}:EntryOK A Try.prog 63 (valE true seqK):=valE_ok fun vs hv h=>by
  clear hv
  unfold seqK at h ⊢
  split at h
  · rename_i l m;obtain ⟨q0,q1,k0,k1⟩:=h
    refine ⟨by first|trivial|(simp [AV.plain,AV.plainL,aI,aB,aInts,aBunks,aTks,aBunk,aTk,cTk];done)|(repeat' split) <;> simp [AV.plain,AV.plainL,aI,aB,aInts,aBunks,aTks,aBunk,aTk,cTk],fun _=>(by simp [AV.flat,AV.flatL,aI,aB]), ?_⟩
    have:=eqK_fn (l.map dTk) (m.map dTk) k0 k1
    simp only [aTks,← q0,← q1] at this
    first|exact this|(simp only [aTks,← q0,← q1];exact this)
  · exact h.elim
def ecS (c d:Chart) (k:Nat):St:={ t:=asg [(2,.ptr 0 0),(3,.ptr 1 0),(4,aB false),(5,aI k)],h:=hasg [(0,.cells (cChart c)),(1,.cells (cChart d))],n:=2 }
def tbE19_eqC:=vj @ty3 (vj @ty25 (vj @ty26 (vj @ty28 (vj @ty51 (vj @ty81 (vj @ti3.eq_1 (vj @ti25.eq_1 (vj @ti26.eq_1 (vj @ti28.eq_1 (vj @ti51.eq_1 @ti81.eq_1))))))))))
def xbE19_3:=vj @aI.eq_1 (@aB.eq_1)
theorem eqC_fn (c d:Chart) (h1:c.cabins.length≤maxLen) (h2:c.sold.length≤maxLen) (h4:d.sold.length≤maxLen):FnV Try.prog 48 [aChart c,aChart d] (aB (decide (c=d))):=by
  have env:Env (fun _=>True) Try.prog tyB (tab [(63,valE true seqK)]):=mkEnv ⟨eeqK,trivial⟩
  refine Fn.of (A:=fun _=>True) (n0:=0) (D:=noD) (Fn0 Try.func48 rfl (fun vs w=>by kernel_rfl) (by kernel_rfl)) (by simp) (by simp [AV.ids,AV.idsL,aChart,cChart]) (fun i o h=>by cases h) (fun _ _ _ _=>trivial) noD_ok ?_
  have hmx:maxLen=9223372036854775807:=by decide
  have hE:decide (c=d)=(decide (c.cabins=d.cabins) && (decide (c.secs=d.secs) && decide (c.sold=d.sold))):=by
    cases c;cases d;rw [Bool.eq_iff_iff];simp
  rw [hE]
  by_cases h0:c.cabins.length=d.cabins.length
  · have d0:decide ((c.cabins.length:Int)=(d.cabins.length:Int))=true:=decide_eq_true (by omega)
    cases q0:decide (c.secs=d.secs) with
    |false =>
      rw [Bool.false_and,Bool.and_false]
      repeat' (first|(apply nx;with_reducible constructor)|refine uq (by decide) ?_|((first|refine vx env fun Q hQ=>?_|refine vz fun Q hQ=>?_);simp only [vkt,seval,tbE19_eqC,xbE19_3,aTks,aChart,cChart,eCabin,gCabin,mTk,ecS,seqK,Bool.true_and,Bool.false_and,List.length_map,d0,q0];(try simp only [ite_and]);(repeat' (first|with_reducible assumption|refine And.intro ?_ ?_|intro hp));all_goals (first|(refine hQ _ ?_;clear hQ Q)|(refine hQ _ (fun h=>?_) (fun h=>?_) <;> clear hQ Q <;> (try simp only [vki,reduceCtorEq] at h))|(refine vq ?_;kernel_rfl)|omega|assumption|with_reducible rfl|skip)))
      (simp only [vrt,Try.results48,vkt,seval,tbE19_eqC,xbE19_3,aTks,aChart,cChart,eCabin,gCabin,mTk,ecS,seqK,Bool.true_and,Bool.false_and,List.length_map];refine Fin.val rfl ?_;(try simp only [AV.le,AV.leL]))
      all_goals first|rfl|(simp;done)
    |true =>
      rw [Bool.true_and]
      repeat' (first|(apply nx;with_reducible constructor)|refine uq (by decide) ?_|((first|refine vx env fun Q hQ=>?_|refine vz fun Q hQ=>?_);simp only [vkt,seval,tbE19_eqC,xbE19_3,aTks,aChart,cChart,eCabin,gCabin,mTk,ecS,seqK,Bool.true_and,Bool.false_and,List.length_map,d0,q0];(try simp only [ite_and]);(repeat' (first|with_reducible assumption|refine And.intro ?_ ?_|intro hp));all_goals (first|(refine hQ _ ?_;clear hQ Q)|(refine hQ _ (fun h=>?_) (fun h=>?_) <;> clear hQ Q <;> (try simp only [vki,reduceCtorEq] at h))|(refine vq ?_;kernel_rfl)|omega|assumption|with_reducible rfl|skip)))
      refine sym_loop (fun k:{ k:Nat // k≤c.cabins.length∧∀ j,j < k→c.cabins.getD j default=d.cabins.getD j default }=>ecS c d k.1) (fun k=>c.cabins.length - k.1) ⟨0,Nat.zero_le _,fun j h=>absurd h (Nat.not_lt_zero _)⟩ ?_ fun ⟨k,hk,hno⟩=>?_
      · simp only [ecS]
        (refine Le.ok some [] ?_;constructor;all_goals (try simp only [vle,vkt,seval,tbE19_eqC,xbE19_3,aTks,aChart,cChart,eCabin,gCabin,mTk,ecS,seqK,Bool.true_and,Bool.false_and,List.length_map]))
        all_goals first|rfl|(simp;done)
      simp only at hk hno ⊢
      simp only [ecS]
      by_cases hlt:k < c.cabins.length
      · have d1:decide ((k:Int) < (c.cabins.length:Int))=true:=decide_eq_true (by omega)
        have hlm:k < d.cabins.length:=by omega
        have k0:((k:Int)).toNat=k:=rfl
        have e9:IntKind.wrap .i64 ((k:Int)+1)=((k+1:Nat):Int):=by rw [wrap64 (by omega) (by omega)];rfl
        obtain ⟨x,hx⟩:∃ x,c.cabins.getD k default=x:=⟨_,rfl⟩
        obtain ⟨y,hy⟩:∃ x,d.cabins.getD k default=x:=⟨_,rfl⟩
        have hxy:(decide (x.beds=y.beds) && (x.door == y.door))=decide (x=y):=by cases x;cases y;rw [eqN_ext]
        have hne:¬ x=y→decide (c.cabins=d.cabins)=false:=fun h=>decide_eq_false fun e=>h (by rw [← hx,← hy,e])
        cases q:decide (x=y) with
        |false =>
          rw [hne (of_decide_eq_false q),Bool.false_and]
          repeat' (first|(apply nx;with_reducible constructor)|refine uq (by decide) ?_|((first|refine vx env fun Q hQ=>?_|refine vz fun Q hQ=>?_);simp only [vkt,seval,tbE19_eqC,xbE19_3,aTks,aChart,cChart,eCabin,gCabin,mTk,ecS,seqK,Bool.true_and,Bool.false_and,List.length_map,d1,k0,hlt,hlm,hx,hy,hxy,q];(try simp only [ite_and]);(repeat' (first|with_reducible assumption|refine And.intro ?_ ?_|intro hp));all_goals (first|(refine hQ _ ?_;clear hQ Q)|(refine hQ _ (fun h=>?_) (fun h=>?_) <;> clear hQ Q <;> (try simp only [vki,reduceCtorEq] at h))|(refine vq ?_;kernel_rfl)|omega|assumption|with_reducible rfl|skip)))
          (simp only [vrt,Try.results48,vkt,seval,tbE19_eqC,xbE19_3,aTks,aChart,cChart,eCabin,gCabin,mTk,ecS,seqK,Bool.true_and,Bool.false_and,List.length_map];refine Fin.val rfl ?_;(try simp only [AV.le,AV.leL]))
          all_goals first|rfl|(simp;done)
        |true =>
          repeat' (first|(apply nx;with_reducible constructor)|refine uq (by decide) ?_|((first|refine vx env fun Q hQ=>?_|refine vz fun Q hQ=>?_);simp only [vkt,seval,tbE19_eqC,xbE19_3,aTks,aChart,cChart,eCabin,gCabin,mTk,ecS,seqK,Bool.true_and,Bool.false_and,List.length_map,d1,k0,hlt,hlm,hx,hy,hxy,q,e9];(try simp only [ite_and]);(repeat' (first|with_reducible assumption|refine And.intro ?_ ?_|intro hp));all_goals (first|(refine hQ _ ?_;clear hQ Q)|(refine hQ _ (fun h=>?_) (fun h=>?_) <;> clear hQ Q <;> (try simp only [vki,reduceCtorEq] at h))|(refine vq ?_;kernel_rfl)|omega|assumption|with_reducible rfl|skip)))
          refine ⟨⟨k+1,hlt,fun j hj=>?_⟩,by show c.cabins.length - (k+1) < c.cabins.length - k;omega, ?_⟩
          · rcases Nat.lt_or_eq_of_le (Nat.le_of_lt_succ hj) with h1|h1
            · exact hno j h1
            · rw [h1,hx,hy];exact of_decide_eq_true q
          · simp only [ecS]
            (refine Le.ok some [] ?_;constructor;all_goals (try simp only [vle,vkt,seval,tbE19_eqC,xbE19_3,aTks,aChart,cChart,eCabin,gCabin,mTk,ecS,seqK,Bool.true_and,Bool.false_and,List.length_map]))
            all_goals first|rfl|(simp;done)
      · have d1:decide ((k:Int) < (c.cabins.length:Int))=false:=decide_eq_false (by omega)
        obtain rfl:k=c.cabins.length:=by omega
        rw [decide_eq_true (list_ext h0 hno),Bool.true_and]
        repeat' (first|(apply nx;with_reducible constructor)|refine uq (by decide) ?_|((first|refine vx env fun Q hQ=>?_|refine vz fun Q hQ=>?_);simp only [vkt,seval,tbE19_eqC,xbE19_3,aTks,aChart,cChart,eCabin,gCabin,mTk,ecS,seqK,Bool.true_and,Bool.false_and,List.length_map,d1,h2,h4];(try simp only [ite_and]);(repeat' (first|with_reducible assumption|refine And.intro ?_ ?_|intro hp));all_goals (first|(refine hQ _ ?_;clear hQ Q)|(refine hQ _ (fun h=>?_) (fun h=>?_) <;> clear hQ Q <;> (try simp only [vki,reduceCtorEq] at h))|(refine vq ?_;kernel_rfl)|omega|assumption|with_reducible rfl|skip)))
        (simp only [vrt,Try.results48,vkt,seval,tbE19_eqC,xbE19_3,aTks,aChart,cChart,eCabin,gCabin,mTk,ecS,seqK,Bool.true_and,Bool.false_and,List.length_map];refine Fin.val rfl ?_;(try simp only [AV.le,AV.leL]))
        all_goals first|rfl|(simp;done)
  · have d0:decide ((c.cabins.length:Int)=(d.cabins.length:Int))=false:=decide_eq_false (by omega)
    rw [decide_eq_false (fun e:c.cabins=d.cabins=>h0 (by rw [e])),Bool.false_and]
    repeat' (first|(apply nx;with_reducible constructor)|refine uq (by decide) ?_|((first|refine vx env fun Q hQ=>?_|refine vz fun Q hQ=>?_);simp only [vkt,seval,tbE19_eqC,xbE19_3,aTks,aChart,cChart,eCabin,gCabin,mTk,ecS,seqK,Bool.true_and,Bool.false_and,List.length_map,d0];(try simp only [ite_and]);(repeat' (first|with_reducible assumption|refine And.intro ?_ ?_|intro hp));all_goals (first|(refine hQ _ ?_;clear hQ Q)|(refine hQ _ (fun h=>?_) (fun h=>?_) <;> clear hQ Q <;> (try simp only [vki,reduceCtorEq] at h))|(refine vq ?_;kernel_rfl)|omega|assumption|with_reducible rfl|skip)))
    (simp only [vrt,Try.results48,vkt,seval,tbE19_eqC,xbE19_3,aTks,aChart,cChart,eCabin,gCabin,mTk,ecS,seqK,Bool.true_and,Bool.false_and,List.length_map];refine Fin.val rfl ?_;(try simp only [AV.le,AV.leL]))
    all_goals first|rfl|(simp;done)
def seqC:List AV→Prop × AV
  |[.agg [.sl c0,.v (.int .i64 c1),.sl c2],.agg [.sl d0,.v (.int .i64 d1),.sl d2]]=>(c0=(c0.map dCabin).map eCabin∧c2=(c2.map dTk).map eTk∧d0=(d0.map dCabin).map eCabin∧d2=(d2.map dTk).map eTk∧((⟨(c0.map dCabin),c1,(c2.map dTk)⟩:Chart)).cabins.length≤maxLen∧((⟨(c0.map dCabin),c1,(c2.map dTk)⟩:Chart)).sold.length≤maxLen∧((⟨(d0.map dCabin),d1,(d2.map dTk)⟩:Chart)).sold.length≤maxLen,aB (decide (((⟨(c0.map dCabin),c1,(c2.map dTk)⟩:Chart))=((⟨(d0.map dCabin),d1,(d2.map dTk)⟩:Chart)))))
  |_=>(False,.junk)
theorem eeqC {A:Frm→Prop}:EntryOK A Try.prog 48 (valE true seqC):=valE_ok fun vs hv h=>by
  clear hv
  unfold seqC at h ⊢
  split at h
  · rename_i c0 c1 c2 d0 d1 d2;obtain ⟨q0,q1,q2,q3,k0,k1,k2⟩:=h
    refine ⟨by first|trivial|(simp [AV.plain,AV.plainL,aI,aB,aInts,aBunks,aTks,aBunk,aTk,cTk];done)|(repeat' split) <;> simp [AV.plain,AV.plainL,aI,aB,aInts,aBunks,aTks,aBunk,aTk,cTk],fun _=>(by simp [AV.flat,AV.flatL,aI,aB]), ?_⟩
    have:=eqC_fn ((⟨(c0.map dCabin),c1,(c2.map dTk)⟩:Chart)) ((⟨(d0.map dCabin),d1,(d2.map dTk)⟩:Chart)) k0 k1 k2
    simp only [aCabins,aChart,aI,aTks,cChart,← q0,← q1,← q2,← q3] at this
    first|exact this|(simp only [aCabins,aChart,aI,aTks,cChart,← q0,← q1,← q2,← q3];exact this)
  · exact h.elim
end Go.Sym.B
namespace Go.Sym.B
open Go Go.Sym Go.Proofs Go.Sym.C
def sSellF:List AV→Prop × AV
  |[.agg [.sl x0,.v (.int .i64 x1),.sl x2],.agg [.v (.int .i64 y0),.v (.int .i64 y1),.v (.int .i64 y2),.sl y3,.v (.bool y4)]]=>(x0=(x0.map dCabin).map eCabin∧x2=(x2.map dTk).map eTk∧y3=(y3.map dInt).map eInt∧((⟨(x0.map dCabin),x1,(x2.map dTk)⟩:Chart)).cabins.length≤maxLen∧((⟨y0,y1,y2,(y3.map dInt),y4⟩:Ask)).sexes.length≤maxLen,.tup [aChart (sellA ((⟨(x0.map dCabin),x1,(x2.map dTk)⟩:Chart)) ((⟨y0,y1,y2,(y3.map dInt),y4⟩:Ask))).1,aI (sellA ((⟨(x0.map dCabin),x1,(x2.map dTk)⟩:Chart)) ((⟨y0,y1,y2,(y3.map dInt),y4⟩:Ask))).2])
  |_=>(False,.junk)
theorem eSellF {A:Frm→Prop}:EntryOK A Try.prog 43 (valE false sSellF):=valE_ok fun vs hv h=>by
  clear hv
  unfold sSellF at h ⊢
  split at h
  · rename_i x0 x1 x2 y0 y1 y2 y3 y4;obtain ⟨q0,q1,q2,k0,k1⟩:=h
    refine ⟨by first|trivial|(simp [AV.plain,AV.plainL,aI,aB,aInts,aBunks,aTks,aBunk,aTk,cTk];done)|(repeat' split) <;> simp [AV.plain,AV.plainL,aI,aB,aInts,aBunks,aTks,aBunk,aTk,cTk],fun h=>absurd h (by decide), ?_⟩
    have:=Sell_fn ((⟨(x0.map dCabin),x1,(x2.map dTk)⟩:Chart)) ((⟨y0,y1,y2,(y3.map dInt),y4⟩:Ask)) k0 k1
    simp only [aAsk,aB,aCabins,aChart,aI,aInts,aTks,cAsk,cChart,← q0,← q1,← q2] at this
    first|exact this|(simp only [aAsk,aB,aCabins,aChart,aI,aInts,aTks,cAsk,cChart,← q0,← q1,← q2];exact this)
  · exact h.elim
def tbE27_law:=vj @ty3 (vj @ty28 (vj @ty31 (vj @ty34 (vj @ti3.eq_1 (vj @ti28.eq_1 (vj @ti31.eq_1 @ti34.eq_1))))))
def xbE27_1:=vj @aI.eq_1 (vj @aB.eq_1 (vj @aInts.eq_1 (@mInt)))
set_option maxRecDepth 100000 in
set_option maxHeartbeats 4000000 in
theorem cancelledLaw_fn (nums:List Int) (hnums:nums.length≤maxLen):FnV Try.prog 11 [aInts nums] (aB true):=by
  obtain ⟨x0,hx0⟩:∃ x,nbS nums=x:=⟨_,rfl⟩
  obtain ⟨hC0,hCp,hCs,hCc,hCg⟩:=co_ok (x:=x0) (a:=3) (g:=5) (s:=5) (by decide) (by decide) (by decide)
  obtain ⟨C,hC⟩:∃ C,coC x0 3 5 5=C:=⟨_,rfl⟩
  obtain ⟨x1,hx1⟩:∃ x,coX x0 3 5 5=x:=⟨_,rfl⟩
  rw [hC] at hC0 hCp hCs hCc hCg
  obtain ⟨hA0,hA1,hA2⟩:=ao_ok (x:=x1) (n:=3) hC0 hCp (by decide)
  obtain ⟨A,hA⟩:∃ A,aoA x1 C.secs 3=A:=⟨_,rfl⟩
  rw [hA] at hA0 hA1 hA2
  have env:Env (fun _=>True) Try.prog tyB (tab [(15,fnE pBag),(16,fnE pChartOf),(17,fnE pAskedOf),(43,valE false sSellF),(46,valE false sCancel),(48,valE true seqC),(25,valE true sselling)]):=mkEnv ⟨eBag,eChartOf,eAskedOf,eSellF,eCancel,eeqC,eselling,trivial⟩
  refine Fn.of (A:=fun _=>True) (n0:=0) (D:=noD) (Fn0 Try.func11 rfl (fun vs w=>by kernel_rfl) (by kernel_rfl)) (by simp) (by simp [AV.ids,AV.idsL,aInts]) (fun i o h=>by cases h) (fun _ _ _ _=>trivial) noD_ok ?_
  have hv:=val_of hC0
  have hsec:=hv.car.secs
  have hcab:=hv.car.cabs
  have hmx:(100000:Nat)≤maxLen:=by decide
  have eC:(⟨C.cabins,C.secs,C.sold⟩:Chart)=C:=rfl
  have eA:(⟨A.party,A.frm,A.to,A.sexes,A.dog⟩:Ask)=A:=rfl
  have c1:C.cabins.length≤maxLen:=by omega
  have c2:A.sexes.length≤maxLen:=by omega
  have c3:C.sold.length≤maxLen:=by omega
  rcases sell_cases hA0 with h|⟨h1,p,hp,h2,h3⟩
  · obtain ⟨⟨D,e⟩,hD⟩:∃ q,sellA C A=q:=⟨_,rfl⟩
    rw [hD] at h
    rcases h with rfl|rfl
    · repeat' (first|(apply nx;with_reducible constructor)|refine uq (by decide) ?_|((first|refine vx env fun Q hQ=>?_|refine vz fun Q hQ=>?_);simp only [vkt,seval,tbE27_law,xbE27_1,mTk,mCabin,aChart,cChart,aAsk,cAsk,pBag,pChartOf,pAskedOf,sSellF,sCancel,seqC,sselling,List.length_map,hx0,hC,hx1,hA,hsec,eC,eA,c1,c2,hD];(try simp only [ite_and]);(repeat' (first|with_reducible assumption|refine And.intro ?_ ?_|intro hp));all_goals (first|(refine hQ _ ?_;clear hQ Q)|(refine hQ _ (fun h=>?_) (fun h=>?_) <;> clear hQ Q <;> (try simp only [vki,reduceCtorEq] at h))|(refine vq ?_;kernel_rfl)|omega|assumption|with_reducible rfl|skip)))
      (simp only [vrt,Try.results11,vkt,seval,tbE27_law,xbE27_1,mTk,mCabin,aChart,cChart,aAsk,cAsk,pBag,pChartOf,pAskedOf,sSellF,sCancel,seqC,sselling,List.length_map];refine Fin.val rfl ?_;(try simp only [AV.le,AV.leL]))
      all_goals first|rfl|(simp;done)
    · repeat' (first|(apply nx;with_reducible constructor)|refine uq (by decide) ?_|((first|refine vx env fun Q hQ=>?_|refine vz fun Q hQ=>?_);simp only [vkt,seval,tbE27_law,xbE27_1,mTk,mCabin,aChart,cChart,aAsk,cAsk,pBag,pChartOf,pAskedOf,sSellF,sCancel,seqC,sselling,List.length_map,hx0,hC,hx1,hA,hsec,eC,eA,c1,c2,hD];(try simp only [ite_and]);(repeat' (first|with_reducible assumption|refine And.intro ?_ ?_|intro hp));all_goals (first|(refine hQ _ ?_;clear hQ Q)|(refine hQ _ (fun h=>?_) (fun h=>?_) <;> clear hQ Q <;> (try simp only [vki,reduceCtorEq] at h))|(refine vq ?_;kernel_rfl)|omega|assumption|with_reducible rfl|skip)))
      (simp only [vrt,Try.results11,vkt,seval,tbE27_law,xbE27_1,mTk,mCabin,aChart,cChart,aAsk,cAsk,pBag,pChartOf,pAskedOf,sSellF,sCancel,seqC,sselling,List.length_map];refine Fin.val rfl ?_;(try simp only [AV.le,AV.leL]))
      all_goals first|rfl|(simp;done)
  · obtain ⟨⟨D,e⟩,hD⟩:∃ q,sellA C A=q:=⟨_,rfl⟩
    rw [hD] at h1 h2 h3
    simp only at h1 h2 h3
    subst h1
    have hcn:cancelA D A.party=(C,0):=by
      rw [h2] at h3 ⊢
      exact cancel_sold hA0 hp h3
    have eD:(⟨D.cabins,D.secs,D.sold⟩:Chart)=D:=rfl
    have d1:D.cabins.length≤maxLen:=by rw [h2];exact c1
    repeat' (first|(apply nx;with_reducible constructor)|refine uq (by decide) ?_|((first|refine vx env fun Q hQ=>?_|refine vz fun Q hQ=>?_);simp only [vkt,seval,tbE27_law,xbE27_1,mTk,mCabin,aChart,cChart,aAsk,cAsk,pBag,pChartOf,pAskedOf,sSellF,sCancel,seqC,sselling,List.length_map,hx0,hC,hx1,hA,hsec,eC,eA,eD,c1,c2,c3,d1,hD,hcn,decide_true];(try simp only [ite_and]);(repeat' (first|with_reducible assumption|refine And.intro ?_ ?_|intro hp));all_goals (first|(refine hQ _ ?_;clear hQ Q)|(refine hQ _ (fun h=>?_) (fun h=>?_) <;> clear hQ Q <;> (try simp only [vki,reduceCtorEq] at h))|(refine vq ?_;kernel_rfl)|omega|assumption|with_reducible rfl|skip)))
    (simp only [vrt,Try.results11,vkt,seval,tbE27_law,xbE27_1,mTk,mCabin,aChart,cChart,aAsk,cAsk,pBag,pChartOf,pAskedOf,sSellF,sCancel,seqC,sselling,List.length_map];refine Fin.val rfl ?_;(try simp only [AV.le,AV.leL]))
    all_goals first|rfl|(simp;done)
end Go.Sym.B
