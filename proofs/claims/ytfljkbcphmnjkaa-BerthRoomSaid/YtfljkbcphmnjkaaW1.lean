/- Walks and what they compute, joined: part 1. -/
import Derived.Test.YtfljkbcphmnjkaaB3
set_option linter.all false
namespace Go.Sym.B
open Go Go.Sym Go.Proofs Go.Sym.C
theorem _root_.Go.Sym.vj {a b:Prop} (x:a) (y:b):a∧b:=⟨x,y⟩
def _root_.Go.Sym.uq:=@blockK_miss
def _root_.Go.Sym.ux:=@blockK_hit
def _root_.Go.Sym.uz:=@blockK_n
def _root_.Go.Sym.uj:=@blockK_r
def _root_.Go.Sym.uk:=@thenK_x
def _root_.Go.Sym.uw:=@thenK_r
def _root_.Go.Sym.uv:=@thenK_n
def _root_.Go.Sym.vq:=@drawB_of
def _root_.Go.Sym.vx:=@sym_reg
def _root_.Go.Sym.vz:=@sym_cz
def mineB (p:List Bunk) (k:Int):Bool:=p.any fun b=>decide (b.cab=k)
def emH (c:Chart) (s:Int) (k:Nat) (m:Nat):Bool:=(List.range m).all fun (j:Nat)=>!heldB c.sold ⟨(k:Int),(j:Int)⟩ s
def ltB (c:Chart) (p:List Bunk) (s:Int) (k:Nat):Bool:=mineB p k && emH c s k (c.cabins.getD k default).beds.toNat
def ltC (c:Chart) (p:List Bunk) (s:Int):Nat→Nat
  |0=>0
  |k+1=>ltC c p s k+if ltB c p s k then 1 else 0
def ltS (c:Chart) (a:Ask) (p:List Bunk):Nat→Nat
  |0=>0
  |j+1=>ltS c a p j+ltC c p (a.frm+(j:Int)) c.cabins.length
def lostN (c:Chart) (a:Ask) (p:List Bunk):Nat:=ltS c a p (a.to - a.frm).toNat
def mxK (f:Nat→Int):Nat→Int × Nat
  |0=>(-1,0)
  |i+1=>if (mxK f i).1 < f i then (f i,i) else mxK f i
theorem empty_app (l:List Tk) (t:Tk) (s i:Int):emptyB (l++[t]) s i=(emptyB l s i && !(atB s t && decide (t.cab=i))):=by
  unfold emptyB
  rw [List.all_append]
  simp
theorem growP_empty {cs:List Cabin} {a:Ask}:∀ (m:Nat) (sold:List Tk) (begun:List Bunk),∀ x ∈ growP cs a m sold begun,∃ new:List Bunk,x.1=begun++new∧∀ s i:Int,emptyB x.2 s i=(emptyB sold s i && new.all fun b=>!((decide (a.frm≤s) && decide (s < a.to)) && decide (b.cab=i)))
  |0,sold,begun,x,hx=>by
    simp only [growP,List.mem_singleton] at hx
    subst hx
    exact ⟨[],by simp,fun s i=>by simp⟩
  |m+1,sold,begun,x,hx=>by
    rw [growP_succ,List.mem_flatMap] at hx
    obtain ⟨b,hb,hx⟩:=hx
    unfold gbL at hx
    split at hx
    · obtain ⟨new,h1,h2⟩:=growP_empty m _ _ x hx
      refine ⟨b :: new,by rw [h1];simp,fun s i=>?_⟩
      rw [h2,empty_app,List.all_cons,Bool.and_assoc]
      rfl
    · simp at hx
theorem inB_at {s:Int} {t:Tk}:inB s t.frm (t.to - 1)=atB s t:=by
  unfold inB atB
  congr 1
  rw [decide_eq_decide];omega
theorem emp_held {c:Chart} (hv:Val c) {k:Nat} (s:Int):emH c s k (c.cabins.getD k default).beds.toNat=emptyB c.sold s k:=by
  rw [Bool.eq_iff_iff]
  unfold emH emptyB
  rw [List.all_eq_true,List.all_eq_true]
  constructor
  · intro h t ht
    cases hq:(atB s t && decide (t.cab=(k:Int))) with
    |false=>rfl
    |true =>
      rw [Bool.and_eq_true,decide_eq_true_eq] at hq
      obtain ⟨h1,h2⟩:=hq
      have hk:=hv.tk t ht
      have hb:=hk.bed
      rw [h2] at hb
      have hb:0≤t.bed∧t.bed < (c.cabins.getD k default).beds:=hb
      have:=h t.bed.toNat (List.mem_range.2 (by omega))
      rw [Int.toNat_of_nonneg hb.1] at this
      have hh:heldB c.sold ⟨k,t.bed⟩ s=true:=List.any_eq_true.2 ⟨t,ht,by unfold onB;rw [inB_at,h1,decide_eq_true h2,decide_eq_true rfl];rfl⟩
      rw [hh] at this
      exact absurd this (by decide)
  · intro h j hj
    cases hq:heldB c.sold ⟨(k:Int),(j:Int)⟩ s with
    |false=>rfl
    |true =>
      obtain ⟨t,ht,h1⟩:=List.any_eq_true.1 hq
      unfold onB at h1
      rw [inB_at,Bool.and_eq_true,Bool.and_eq_true,decide_eq_true_eq] at h1
      have:=h t ht
      rw [h1.2,decide_eq_true h1.1.1] at this
      exact absurd this (by decide)
def cntE (sold:List Tk) (s:Int) (n:Nat):Nat:=((List.range n).filter fun (i:Nat)=>emptyB sold s i).length
theorem cntE_succ (sold:List Tk) (s:Int) (n:Nat):cntE sold s (n+1)=cntE sold s n+if emptyB sold s n then 1 else 0:=by
  unfold cntE
  rw [List.range_succ,List.filter_append,List.length_append]
  cases h:emptyB sold s n <;> simp [h]
def sumE (sold:List Tk) (n:Nat):Nat→Nat
  |0=>0
  |s+1=>sumE sold n s+cntE sold s n
theorem rest_sum (cs:List Cabin) (secs:Int) (sold:List Tk):restN cs secs sold=(sumE sold cs.length secs.toNat:Int):=by
  unfold restN
  have:∀ k,((List.range k).flatMap fun (s:Nat)=>(List.range cs.length).filter fun (i:Nat)=>emptyB sold s i).length=sumE sold cs.length k:=by
    intro k
    induction k with
    |zero=>rfl
    |succ k ih =>
      rw [List.range_succ,List.flatMap_append,List.length_append,ih,sumE]
      simp [cntE]
  rw [this]
theorem cnt_after {c:Chart} {a:Ask} (hv:Val c) {sold2:List Tk} {p:List Bunk} {s:Int} (h:∀ i:Int,emptyB sold2 s i=(emptyB c.sold s i && p.all fun b=>!((decide (a.frm≤s) && decide (s < a.to)) && decide (b.cab=i)))) :
    ∀ n,cntE c.sold s n=cntE sold2 s n+if a.frm≤s∧s < a.to then ltC c p s n else 0
  |0=>by
    have:∀ l:List Tk,cntE l s 0=0:=fun l=>rfl
    rw [this,this]
    split <;> rfl
  |n+1=>by
    have ih:=cnt_after hv h n
    rw [cntE_succ,cntE_succ,ih,h n]
    by_cases hs:a.frm≤s∧s < a.to
    · rw [if_pos hs,if_pos hs,ltC]
      have hm:(p.all fun b=>!((decide (a.frm≤s) && decide (s < a.to)) && decide (b.cab=(n:Int))))=!mineB p n:=by
        unfold mineB
        rw [decide_eq_true hs.1,decide_eq_true hs.2,List.not_any_eq_all_not]
        rfl
      have hl:ltB c p s n=(mineB p n && emptyB c.sold s n):=by unfold ltB;rw [emp_held hv]
      rw [hm,hl]
      cases mineB p n <;> cases emptyB c.sold s n <;> simp <;> omega
    · rw [if_neg hs,if_neg hs]
      have hm:(p.all fun b=>!((decide (a.frm≤s) && decide (s < a.to)) && decide (b.cab=(n:Int))))=true:=by
        rw [show (decide (a.frm≤s) && decide (s < a.to))=false by rw [Bool.and_eq_false_iff];by_cases h1:a.frm≤s;right;simpa using fun h=>hs ⟨h1,h⟩;left;simpa using h1]
        simp
      rw [hm]
      cases emptyB c.sold s n <;> simp
theorem sum_after {c:Chart} {a:Ask} (hv:Val c) {sold2:List Tk} {p:List Bunk} (h:∀ s i:Int,emptyB sold2 s i=(emptyB c.sold s i && p.all fun b=>!((decide (a.frm≤s) && decide (s < a.to)) && decide (b.cab=i)))) {f t:Nat} (hf:a.frm=f) (ht:a.to=t) :
    ∀ k,sumE c.sold c.cabins.length k=sumE sold2 c.cabins.length k+ltS c a p (min k t - f)
  |0=>by simp [sumE,ltS]
  |k+1=>by
    rw [sumE,sumE,sum_after hv h hf ht k,cnt_after hv (h k)]
    rw [hf,ht]
    by_cases hk:f≤k∧k < t
    · rw [if_pos (by omega),show min (k+1) t - f=(min k t - f)+1 by omega,ltS,hf,show (f:Int)+((min k t - f:Nat):Int)=(k:Int) by omega]
      omega
    · rw [if_neg (by omega),show min (k+1) t - f=min k t - f by omega]
      omega
theorem rest_after {c:Chart} {a:Ask} (h:bothE c a=0) {x:List Bunk × List Tk} (hx:x ∈ plP c a):restN c.cabins c.secs x.2=restN c.cabins c.secs c.sold - lostN c a x.1:=by
  have hv:=(plOk_of h).val
  have hw:=ask_way h
  obtain ⟨new,h1,h2⟩:=growP_empty _ _ _ x hx
  rw [List.nil_append] at h1
  rw [rest_sum,rest_sum]
  obtain ⟨f,hf⟩:∃ f:Nat,a.frm=f:=⟨a.frm.toNat,by omega⟩
  obtain ⟨t,ht⟩:∃ t:Nat,a.to=t:=⟨a.to.toNat,by omega⟩
  have:=sum_after hv h2 hf ht c.secs.toNat
  rw [this,← h1]
  unfold lostN
  rw [show min c.secs.toNat t - f=(a.to - a.frm).toNat by omega]
  omega
theorem rest_nn (cs:List Cabin) (secs:Int) (sold:List Tk):0≤restN cs secs sold:=by rw [rest_sum];omega
def rsF (c:Chart) (a:Ask) (i:Nat):Int:=restN c.cabins c.secs c.sold - lostN c a ((plP c a).getD i default).1
theorem bs_mx {c:Chart} {a:Ask} (h:bothE c a=0):∀ j,j≤(plP c a).length→(j=0∧bsK c a j=(false,[],0))∨(bsK c a j=(true,((plP c a).getD (mxK (rsF c a) j).2 default).1,(mxK (rsF c a) j).1)∧(mxK (rsF c a) j).2 < j)
  |0,_=>.inl ⟨rfl,rfl⟩
  |j+1,hj=>by
    right
    have hm:restN c.cabins c.secs ((plP c a).getD j default).2=rsF c a j:=rest_after h (gMem (by omega))
    have h0:0≤rsF c a j:=by rw [← hm];exact rest_nn _ _ _
    rw [bsK,hm]
    rcases bs_mx h j (by omega) with ⟨h1,h2⟩|⟨h1,h2⟩
    · subst h1
      rw [h2,mxK,mxK]
      simp only [Bool.not_false,Bool.true_or,if_true]
      rw [if_pos (by omega)]
      exact ⟨rfl,by simp only;omega⟩
    · rw [h1,mxK]
      simp only [Bool.not_true,Bool.false_or,decide_eq_true_eq]
      split
      · exact ⟨rfl,by simp only;omega⟩
      · exact ⟨rfl,by omega⟩
end Go.Sym.B
namespace Go.Sym.B
open Go Go.Sym Go.Proofs Go.Sym.C
theorem pl_len {c:Chart} {a:Ask} {j:Nat} (hj:j < (plP c a).length):((plP c a).getD j default).1.length=a.sexes.length:=by
  have:=growP_one a.sexes.length c.sold [] _ (gMem (l:=plP c a) (d:=default) hj)
  simpa using this
end Go.Sym.B
namespace Go.Sym.B
open Go Go.Sym Go.Proofs Go.Sym.C
def slTk (a:Ask) (l:List Bunk) (k:Nat):List Tk:=(List.range k).map fun i=>tkOf a i (l.getD i default)
theorem tks_succ (a:Ask) (l:List Bunk) (k:Nat):slTk a l (k+1)=slTk a l k++[tkOf a k (l.getD k default)]:=by
  unfold slTk
  rw [List.range_succ,List.map_append];rfl
theorem tks_len (a:Ask) (l:List Bunk) (k:Nat):(slTk a l k).length=k:=by simp [slTk]
def sellA (c:Chart) (a:Ask):Chart × Int:=if (bestA c a).2 ≠ 0 then (⟨[],0,[]⟩,(bestA c a).2) else if (8:Int) < (c.sold.length:Int)+((bestA c a).1.length:Int) then (⟨[],0,[]⟩,6) else (⟨c.cabins,c.secs,c.sold++slTk a (bestA c a).1 (bestA c a).1.length⟩,0)
theorem best_ok {c:Chart} {a:Ask} (h:(bestA c a).2=0):bothE c a=0∧(bestA c a).1.length=a.sexes.length∧(bestA c a).1 ∈ placesA c a:=by
  have h0:bothE c a=0:=by
    unfold bestA at h
    split at h
    · assumption
    · exact absurd h (by assumption)
  have hP:placesA c a=(plP c a).map (·.1):=by unfold placesA;rw [if_pos h0]
  rcases bs_mx h0 (plP c a).length (Nat.le_refl _) with ⟨h1,h2⟩|⟨h1,h2⟩
  · have:(bestA c a).2=11:=by unfold bestA;rw [if_pos h0,h2];rfl
    omega
  · have hb:(bestA c a).1=((plP c a).getD (mxK (rsF c a) (plP c a).length).2 default).1:=by
      unfold bestA;rw [if_pos h0,h1];rfl
    refine ⟨h0,by rw [hb,pl_len h2], ?_⟩
    rw [hb,hP]
    exact List.mem_map.2 ⟨_,gMem h2,rfl⟩
def slS (c:Chart) (a:Ask) (l:List Bunk) (k:Nat):St:={ t:=asg [(3,.ptr 1 0),(4,.ptr 2 0),(5,aI 0),(6,aBunks l),(8,.ptr 3 0),(31,aBunks l),(32,aI l.length),(33,aI k)],h:=hasg [(0,.cells (cChart c)),(1,.cells (cAsk a)),(2,.cells [.nil,aI 0,.nil]),(3,carC c.cabins c.secs 4),(4,rowT (c.sold++slTk a l k))],n:=5 }
def tbE7_Sells:=vj @ty3 (vj @ty4 (vj @ty22 (vj @ty26 (vj @ty28 (vj @ty31 (vj @ty34 (vj @ty37 (vj @ty49 (vj @ty81 (vj @ty118 (vj @ti3.eq_1 (vj @ti4.eq_1 (vj @ti22.eq_1 (vj @ti26.eq_1 (vj @ti28.eq_1 (vj @ti31.eq_1 (vj @ti34.eq_1 (vj @ti37.eq_1 (vj @ti49.eq_1 (vj @ti81.eq_1 @ti118.eq_1))))))))))))))))))))
def xbE7_1:=vj @aI.eq_1 (vj @aB.eq_1 (vj @aInts.eq_1 (vj @eInt.eq_1 (vj @mInt (@gInt)))))
set_option maxHeartbeats 4000000 in
theorem Sell_fn (c:Chart) (a:Ask) (hc:c.cabins.length≤maxLen) (ha:a.sexes.length≤maxLen):FnV Try.prog 43 [aChart c,aAsk a] (.tup [aChart (sellA c a).1,aI (sellA c a).2]):=by
  have env:Env (fun _=>True) Try.prog tyB (tab [(19,valE false sBestF),(93,fnE pCarOf),(96,fnE pSell)]):=mkEnv ⟨eBestF,eCarOf,eSell,trivial⟩
  refine Fn.of (A:=fun _=>True) (n0:=0) (D:=noD) (Fn0 Try.func43 rfl (fun vs w=>by kernel_rfl) (by kernel_rfl)) (by simp) (by simp [AV.ids,AV.idsL,aChart,cChart,aAsk,cAsk]) (fun i o h=>by cases h) (fun _ _ _ _=>trivial) noD_ok ?_
  have ec:(⟨c.cabins,c.secs,c.sold⟩:Chart)=c:=rfl
  have ea:(⟨a.party,a.frm,a.to,a.sexes,a.dog⟩:Ask)=a:=rfl
  obtain ⟨l,hl⟩:∃ l,(bestA c a).1=l:=⟨_,rfl⟩
  obtain ⟨e,he⟩:∃ e,(bestA c a).2=e:=⟨_,rfl⟩
  have hs:sellA c a=if e ≠ 0 then (⟨[],0,[]⟩,e) else if (8:Int) < (c.sold.length:Int)+(l.length:Int) then (⟨[],0,[]⟩,6) else (⟨c.cabins,c.secs,c.sold++slTk a l l.length⟩,0):=by unfold sellA;rw [hl,he]
  rw [hs]
  by_cases h0:e=0
  · obtain ⟨hb,hll,_⟩:=best_ok (he.trans h0)
    rw [hl] at hll
    obtain ⟨h1,h2⟩:=both_ok hb
    have hv:=val_of h1
    have b1:=hv.car.cabs
    have b2:=hv.many
    have b3:=plOk_of hb
    have b4:=b3.sx
    have b5:c.sold.length≤100000:=by omega
    have b6:c.cabins.length≤100000:=by omega
    have b7:l.length≤3:=by omega
    have hm:(100000:Nat)≤maxLen:=by decide
    have w1:IntKind.wrap .i64 ((c.sold.length:Int)+(l.length:Int))=(c.sold.length:Int)+(l.length:Int):=wrap64 (by omega) (by omega)
    rw [if_neg (by omega)]
    rw [h0] at he
    by_cases h8:(8:Int) < (c.sold.length:Int)+(l.length:Int)
    · rw [if_pos h8]
      have d8:decide ((8:Int) < (c.sold.length:Int)+(l.length:Int))=true:=decide_eq_true h8
      repeat' (first|(apply nx;with_reducible constructor)|refine uq (by decide) ?_|((first|refine vx env fun Q hQ=>?_|refine vz fun Q hQ=>?_);simp only [vkt,seval,tbE7_Sells,xbE7_1,aBunk,aBunks,eBunk,gBunk,aTk,cTk,mBunk,mCabin,mTk,aChart,cChart,aAsk,cAsk,carC,rowT,lent2,soldL,slS,sBestF,pCarOf,pSell,List.length_map,ec,ea,hl,he,w1,d8,decide_true];(try simp only [ite_and]);(repeat' (first|with_reducible assumption|refine And.intro ?_ ?_|intro hp));all_goals (first|(refine hQ _ ?_;clear hQ Q)|(refine hQ _ (fun h=>?_) (fun h=>?_) <;> clear hQ Q <;> (try simp only [vki,reduceCtorEq] at h))|(refine vq ?_;kernel_rfl)|omega|assumption|with_reducible rfl|skip)))
      (simp only [vrt,Try.results43,vkt,seval,tbE7_Sells,xbE7_1,aBunk,aBunks,eBunk,gBunk,aTk,cTk,mBunk,mCabin,mTk,aChart,cChart,aAsk,cAsk,carC,rowT,lent2,soldL,slS,sBestF,pCarOf,pSell,List.length_map];refine Fin.val rfl ?_;(try simp only [AV.le,AV.leL]))
      all_goals first|rfl|(simp;done)
    · rw [if_neg h8]
      have d8:decide ((8:Int) < (c.sold.length:Int)+(l.length:Int))=false:=decide_eq_false h8
      repeat' (first|(apply nx;with_reducible constructor)|refine uq (by decide) ?_|((first|refine vx env fun Q hQ=>?_|refine vz fun Q hQ=>?_);simp only [vkt,seval,tbE7_Sells,xbE7_1,aBunk,aBunks,eBunk,gBunk,aTk,cTk,mBunk,mCabin,mTk,aChart,cChart,aAsk,cAsk,carC,rowT,lent2,soldL,slS,sBestF,pCarOf,pSell,List.length_map,ec,ea,hl,he,w1,d8,b5,b6,decide_true];(try simp only [ite_and]);(repeat' (first|with_reducible assumption|refine And.intro ?_ ?_|intro hp));all_goals (first|(refine hQ _ ?_;clear hQ Q)|(refine hQ _ (fun h=>?_) (fun h=>?_) <;> clear hQ Q <;> (try simp only [vki,reduceCtorEq] at h))|(refine vq ?_;kernel_rfl)|omega|assumption|with_reducible rfl|skip)))
      refine sym_loop (fun k:{ k:Nat // k≤l.length }=>slS c a l k.1) (fun k=>l.length - k.1) ⟨0,Nat.zero_le _⟩ ?_ fun ⟨k,hk⟩=>?_
      · simp only [slS,show slTk a l 0=[] from rfl,List.append_nil]
        (refine Le.ok (fun j=>[0,1,2,3,4][j]?) [] ?_;constructor;all_goals (try simp only [vle,vkt,seval,tbE7_Sells,xbE7_1,aBunk,aBunks,eBunk,gBunk,aTk,cTk,mBunk,mCabin,mTk,aChart,cChart,aAsk,cAsk,carC,rowT,lent2,soldL,slS,sBestF,pCarOf,pSell,List.length_map]))
        all_goals first|rfl|(simp;done)
      simp only at hk ⊢
      obtain ⟨T,hT⟩:∃ T,c.sold++slTk a l k=T:=⟨_,rfl⟩
      simp only [slS,hT]
      by_cases hkl:k < l.length
      · have d1:decide ((k:Int) < (l.length:Int))=true:=decide_eq_true (by omega)
        have e9:IntKind.wrap .i64 ((k:Int)+1)=((k+1:Nat):Int):=by rw [wrap64 (by omega) (by omega)];rfl
        have i0:((k:Int)).toNat=k:=rfl
        have hkx:k < a.sexes.length:=by omega
        obtain ⟨b,hbk⟩:∃ b,l.getD k default=b:=⟨_,rfl⟩
        have htl:T.length≤100:=by rw [← hT,List.length_append,tks_len];omega
        have hTs:c.sold++slTk a l (k+1)=T++[tkOf a k b]:=by rw [tks_succ,← List.append_assoc,hT,hbk]
        repeat' (first|(apply nx;with_reducible constructor)|refine uq (by decide) ?_|((first|refine vx env fun Q hQ=>?_|refine vz fun Q hQ=>?_);simp only [vkt,seval,tbE7_Sells,xbE7_1,aBunk,aBunks,eBunk,gBunk,aTk,cTk,mBunk,mCabin,mTk,aChart,cChart,aAsk,cAsk,carC,rowT,lent2,soldL,slS,sBestF,pCarOf,pSell,List.length_map,d1,e9,i0,hkl,hkx,hbk,htl];(try simp only [ite_and]);(repeat' (first|with_reducible assumption|refine And.intro ?_ ?_|intro hp));all_goals (first|(refine hQ _ ?_;clear hQ Q)|(refine hQ _ (fun h=>?_) (fun h=>?_) <;> clear hQ Q <;> (try simp only [vki,reduceCtorEq] at h))|(refine vq ?_;kernel_rfl)|omega|assumption|with_reducible rfl|skip)))
        refine ⟨⟨k+1,hkl⟩,by show l.length - (k+1) < l.length - k;omega, ?_⟩
        simp only [slS,hTs]
        (refine Le.ok (fun j=>[0,1,2,3,8][j]?) [] ?_;constructor;all_goals (try simp only [vle,vkt,seval,tbE7_Sells,xbE7_1,aBunk,aBunks,eBunk,gBunk,aTk,cTk,mBunk,mCabin,mTk,aChart,cChart,aAsk,cAsk,carC,rowT,lent2,soldL,slS,sBestF,pCarOf,pSell,List.length_map]))
        all_goals first|rfl|(simp;done)
      · have d1:decide ((k:Int) < (l.length:Int))=false:=decide_eq_false (by omega)
        obtain rfl:k=l.length:=by omega
        rw [hT]
        repeat' (first|(apply nx;with_reducible constructor)|refine uq (by decide) ?_|((first|refine vx env fun Q hQ=>?_|refine vz fun Q hQ=>?_);simp only [vkt,seval,tbE7_Sells,xbE7_1,aBunk,aBunks,eBunk,gBunk,aTk,cTk,mBunk,mCabin,mTk,aChart,cChart,aAsk,cAsk,carC,rowT,lent2,soldL,slS,sBestF,pCarOf,pSell,List.length_map,d1];(try simp only [ite_and]);(repeat' (first|with_reducible assumption|refine And.intro ?_ ?_|intro hp));all_goals (first|(refine hQ _ ?_;clear hQ Q)|(refine hQ _ (fun h=>?_) (fun h=>?_) <;> clear hQ Q <;> (try simp only [vki,reduceCtorEq] at h))|(refine vq ?_;kernel_rfl)|omega|assumption|with_reducible rfl|skip)))
        (simp only [vrt,Try.results43,vkt,seval,tbE7_Sells,xbE7_1,aBunk,aBunks,eBunk,gBunk,aTk,cTk,mBunk,mCabin,mTk,aChart,cChart,aAsk,cAsk,carC,rowT,lent2,soldL,slS,sBestF,pCarOf,pSell,List.length_map];refine Fin.val rfl ?_;(try simp only [AV.le,AV.leL]))
        all_goals first|rfl|(simp;done)|exact ⟨⟨trivial,trivial,⟨_,_,rfl⟩,trivial⟩,trivial,trivial⟩
  · rw [if_pos h0]
    have hne:decide (e=0)=false:=decide_eq_false h0
    repeat' (first|(apply nx;with_reducible constructor)|refine uq (by decide) ?_|((first|refine vx env fun Q hQ=>?_|refine vz fun Q hQ=>?_);simp only [vkt,seval,tbE7_Sells,xbE7_1,aBunk,aBunks,eBunk,gBunk,aTk,cTk,mBunk,mCabin,mTk,aChart,cChart,aAsk,cAsk,carC,rowT,lent2,soldL,slS,sBestF,pCarOf,pSell,List.length_map,ec,ea,hl,he,hne];(try simp only [ite_and]);(repeat' (first|with_reducible assumption|refine And.intro ?_ ?_|intro hp));all_goals (first|(refine hQ _ ?_;clear hQ Q)|(refine hQ _ (fun h=>?_) (fun h=>?_) <;> clear hQ Q <;> (try simp only [vki,reduceCtorEq] at h))|(refine vq ?_;kernel_rfl)|omega|assumption|with_reducible rfl|skip)))
    (simp only [vrt,Try.results43,vkt,seval,tbE7_Sells,xbE7_1,aBunk,aBunks,eBunk,gBunk,aTk,cTk,mBunk,mCabin,mTk,aChart,cChart,aAsk,cAsk,carC,rowT,lent2,soldL,slS,sBestF,pCarOf,pSell,List.length_map];refine Fin.val rfl ?_;(try simp only [AV.le,AV.leL]))
    all_goals first|rfl|(simp;done)
end Go.Sym.B
namespace Go.Sym.B
open Go Go.Sym Go.Proofs Go.Sym.C
def rmT (sex frm to:Int) (b:Bunk):Tk:=⟨0,sex,b.cab,b.bed,frm,to,false⟩
def rmB (c:Chart) (sex frm to:Int) (b:Bunk):Bool:=decide (besideE (rmT sex frm to b) c.sold=0)
def rmN (c:Chart) (sex frm to:Int) (j:Nat):Nat:=(((bunksL c.cabins).take j).filter (rmB c sex frm to)).length
theorem rmN_succ (c:Chart) (sex frm to:Int) {j:Nat} (h:j < (bunksL c.cabins).length):rmN c sex frm to (j+1)=rmN c sex frm to j+if rmB c sex frm to ((bunksL c.cabins).getD j default) then 1 else 0:=by
  unfold rmN
  rw [List.take_succ_eq_append_getElem h,List.filter_append,List.length_append,List.getD_eq_getElem?_getD,List.getElem?_eq_getElem h]
  show _+(List.filter _ [_]).length=_
  cases hb:rmB c sex frm to (bunksL c.cabins)[j] <;> simp [hb]
theorem rmN_le (c:Chart) (sex frm to:Int) (j:Nat):rmN c sex frm to j≤j:=by
  unfold rmN
  exact Nat.le_trans (List.length_filter_le _ _) (by rw [List.length_take];omega)
def roomN (c:Chart) (sex frm to:Int):Nat:=rmN c sex frm to (bunksL c.cabins).length
def roomA (c:Chart) (sex frm to:Int):Int × Int:=if checkE c ≠ 0 then (0,checkE c) else if inB sex 1 2=false then (0,8) else if wayE c.secs frm to ≠ 0 then (0,wayE c.secs frm to) else ((roomN c sex frm to:Int),0)
theorem bunks_3 {cs:List Cabin} (h2:∀ x ∈ cs,1≤x.beds∧x.beds≤3):(bunksL cs).length≤3 * cs.length:=by
  rw [bunks_len]
  induction cs with
  |nil=>simp [bdsL]
  |cons x l ih =>
    have h3:=ih fun y hy=>h2 y (List.mem_cons_of_mem _ hy)
    have h4:=h2 x (List.mem_cons_self ..)
    simp only [bdsL,List.map_cons,List.sum_cons,List.length_cons] at h3 ⊢
    omega
theorem bunks_n {cs:List Cabin} (h1:cs.length≤3) (h2:∀ x ∈ cs,1≤x.beds∧x.beds≤3):(bunksL cs).length≤9:=by
  have:=bunks_3 h2
  omega
def rmL:List (Nat × AV):=[(5,.ptr 1 0),(6,.ptr 2 0),(7,.ptr 3 0),(12,.ptr 6 0),(13,.ptr 7 0),(33,.clo 123 [.ptr 8 0])]
def rmH (c:Chart) (sex frm to:Int) (j:Nat):List (Nat × AObj):=[(1,.cells [aI sex]),(2,.cells [aI frm]),(3,.cells [aI to]),(4,carC c.cabins c.secs 5),(5,rowT c.sold),(6,.cells [.ptr 4 0]),(7,.cells [aI (rmN c sex frm to j)])]
theorem rm_lent (cs:List Cabin) (s:Int):lentA [8] 10 0 [buO cs s]=[(8,buO cs s)]:=rfl
def tbE8_Room:=vj @ty3 (vj @ty28 (vj @ty34 (vj @ty49 (vj @ty81 (vj @ty106 (vj @ti3.eq_1 (vj @ti28.eq_1 (vj @ti34.eq_1 (vj @ti49.eq_1 (vj @ti81.eq_1 @ti106.eq_1))))))))))
def xbE8_1:=vj @aI.eq_1 (vj @aB.eq_1 (vj @mInt (@gInt)))
set_option maxHeartbeats 4000000 in
theorem Room_fn (c:Chart) (sex frm to:Int) (hc:c.cabins.length≤maxLen):FnV Try.prog 42 [aChart c,aI sex,aI frm,aI to] (.tup [aI (roomA c sex frm to).1,aI (roomA c sex frm to).2]):=by
  have env:Env (fun F=>F.r=none) Try.prog tyB (tab [(44,valE true scheck),(91,valE true sin),(92,valE true sway),(93,fnE pCarOf),(94,fnE pBunks)]):=mkEnv ⟨echeck,ein,eway,eCarOf,eBunksF,trivial⟩
  refine Fn.of (A:=fun F=>F.r=none) (n0:=0) (D:=noD) (Fn0 Try.func42 rfl (fun vs w=>by kernel_rfl) (by kernel_rfl)) (by simp) (by simp [AV.ids,AV.idsL,aChart,cChart,aI]) (fun i o h=>by cases h) (fun _ _ _ h=>h) noD_ok ?_
  have ec:(⟨c.cabins,c.secs,c.sold⟩:Chart)=c:=rfl
  by_cases h0:checkE c=0
  · cases h1:inB sex 1 2 with
    |false =>
      have hr:roomA c sex frm to=(0,8):=by unfold roomA;rw [if_neg (fun h=>h h0),if_pos h1]
      rw [hr]
      repeat' (first|(apply nx;with_reducible constructor)|refine uq (by decide) ?_|refine sym_scope ?_|refine scopeK_n ?_|refine scopeK_x ?_|refine scopeK_r ?_|((first|refine vx env fun Q hQ=>?_|refine vz fun Q hQ=>?_);simp only [vkt,seval,tbE8_Room,xbE8_1,aBunk,aTk,cTk,mTk,mCabin,aChart,cChart,carC,rowT,lent2,buO,rmL,rmH,scheck,sin,sway,pCarOf,pBunks,pFits,List.length_map,ec,h0,h1,decide_true];(try simp only [ite_and]);(repeat' (first|with_reducible assumption|refine And.intro ?_ ?_|intro hp));all_goals (first|(refine hQ _ ?_;clear hQ Q)|(refine hQ _ (fun h=>?_) (fun h=>?_) <;> clear hQ Q <;> (try simp only [vki,reduceCtorEq] at h))|(refine vq ?_;kernel_rfl)|omega|assumption|with_reducible rfl|skip)))
      (simp only [vrt,Try.results42,vkt,seval,tbE8_Room,xbE8_1,aBunk,aTk,cTk,mTk,mCabin,aChart,cChart,carC,rowT,lent2,buO,rmL,rmH,scheck,sin,sway,pCarOf,pBunks,pFits,List.length_map];refine Fin.val rfl ?_;(try simp only [AV.le,AV.leL]))
      all_goals first|rfl|(simp;done)
    |true =>
      obtain ⟨w,hw⟩:∃ w,wayE c.secs frm to=w:=⟨_,rfl⟩
      by_cases h2:w=0
      · rw [h2] at hw
        have hr:roomA c sex frm to=((roomN c sex frm to:Int),0):=by unfold roomA;rw [if_neg (fun h=>h h0),if_neg (by rw [h1];decide),if_neg (fun h=>h hw)]
        rw [hr]
        have hv:=val_of h0
        have b1:=hv.car.cabs
        have b2:=hv.many
        have b3:c.sold.length≤100000:=by omega
        have b4:c.cabins.length≤100000:=by omega
        have b5:c.sold.length≤100:=by omega
        have b6:=bunks_n b1.2 hv.car.beds
        repeat' (first|(apply nx;with_reducible constructor)|refine uq (by decide) ?_|refine sym_scope ?_|refine scopeK_n ?_|refine scopeK_x ?_|refine scopeK_r ?_|((first|refine vx env fun Q hQ=>?_|refine vz fun Q hQ=>?_);simp only [vkt,seval,tbE8_Room,xbE8_1,aBunk,aTk,cTk,mTk,mCabin,aChart,cChart,carC,rowT,lent2,buO,rmL,rmH,scheck,sin,sway,pCarOf,pBunks,pFits,List.length_map,ec,h0,h1,hw,b3,b4,decide_true];(try simp only [ite_and]);(repeat' (first|with_reducible assumption|refine And.intro ?_ ?_|intro hp));all_goals (first|(refine hQ _ ?_;clear hQ Q)|(refine hQ _ (fun h=>?_) (fun h=>?_) <;> clear hQ Q <;> (try simp only [vki,reduceCtorEq] at h))|(refine vq ?_;kernel_rfl)|omega|assumption|with_reducible rfl|skip)))
        refine sym_le (S':={ t:=asg rmL,h:=hasg (rmH c sex frm to 0++[(8,buO c.cabins c.secs)]),n:=9,j:=0,d:=[],m:=0 }) ?_ ?_
        · show Le _ { t:=asg [(5,.ptr 1 0),(6,.ptr 2 0),(7,.ptr 3 0),(12,.ptr 6 0),(13,.ptr 7 0),(33,.clo 123 [.ptr 8 0])],h:=hasg [(1,.cells [aI sex]),(2,.cells [aI frm]),(3,.cells [aI to]),(4,carC c.cabins c.secs 5),(5,rowT c.sold),(6,.cells [.ptr 4 0]),(7,.cells [aI 0]),(8,buO c.cabins c.secs)],n:=9,j:=0,d:=[],m:=0 }
          (refine Le.ok some [] ?_;constructor;all_goals (try simp only [vle,vkt,seval,tbE8_Room,xbE8_1,aBunk,aTk,cTk,mTk,mCabin,aChart,cChart,carC,rowT,lent2,buO,rmL,rmH,scheck,sin,sway,pCarOf,pBunks,pFits,List.length_map]))
          all_goals first|rfl|(simp;done)
        rw [← rm_lent c.cabins c.secs]
        have hRo:Rounds (fun _=>true) (bunksL c.cabins).length (bunksL c.cabins).length:=⟨Nat.le_refl _,fun _ _=>rfl,fun h=>absurd h (Nat.lt_irrefl _)⟩
        refine sym_rangeP (fun F h=>h) 1 (L:=rmL) (L':=rmL) (xs:=[]) (hs:=[8]) (n:=9) (nl:=0) (hc:=rmH c sex frm to) (Lp:=[buO c.cabins c.secs]) (jj:=fun _=>0) (d:=[]) (ys:=buY c.cabins) (hl:=fun _=>[buO c.cabins c.secs]) (ans:=fun _=>true) (ex:=.ret) (caps:=[.ptr 8 0]) (caps0:=[.ptr 0 0]) (N:=(bunksL c.cabins).length) (R:=(bunksL c.cabins).length) (A':=fun _ _=>True) rfl (bunks_it c.cabins c.secs ⟨by omega,fun x hx=>by have:=hv.car.beds x hx;omega⟩) hRo (.inl rfl) ?_ ?_ ?_ rfl (by simp) ?_ (by simp) (fun _ _ _ _ _ _=>trivial) ?_ ?_ (fun _ _=>rfl) (fun x hx=>by cases hx) (fun j hj p _ h=>by cases h) ?_ (fun j hj=>?_) ?_ (fun j hj=>?_) (fun hall=>?_) (fun hpos hlast=>by cases hlast)
        · simp [AV.leL,AV.le]
        · simp [AV.nocbL,AV.nocb]
        · simp [lentP,buO,AObj.nocb,AV.nocbL,AV.nocb,AObj.ids,AV.ids,AV.idsL,AObj.ren,AV.renL,AV.ren,AObj.le,AV.leL,AV.le,oneB]
        · simp [rmH,hasg]
        · simp [rmH,hasg]
        · simp [rmH,AObj.ids,AV.ids,AV.idsL,carC,rowT,aI]
        · simp [idsT,rmL,AV.ids,AV.idsL]
        · refine ⟨?_,rfl, ?_, ?_,rfl, ?_⟩
          · simp [idsH,rmH,AObj.ids,AV.ids,AV.idsL,carC,rowT,aI]
          · simp [lentQ,buO,AObj.nocb,AV.nocbL,AV.nocb,AObj.ids,AV.ids,AV.idsL]
          · simp [argQ,buY,aBunk,AV.nocb,AV.nocbL,AV.ids,AV.idsL]
          · simp [keysIn,keyIn,lentA,callRen,rmH,rmL,idsTL,AV.ids,AV.idsL,ADf.ids,List.range_succ]
        · simp [idsH,rmH,AObj.ids,AV.ids,AV.idsL,carC,rowT,aI]
        · have env:Env (fun _:Frm=>True) Try.prog tyB (tab [(95,fnE pFits)]):=mkEnv ⟨eFits,trivial⟩
          have hs:=rmN_succ c sex frm to hj
          have hle:=rmN_le c sex frm to j
          obtain ⟨b,hb⟩:∃ b,(bunksL c.cabins).getD j default=b:=⟨_,rfl⟩
          obtain ⟨n,hn⟩:∃ n,rmN c sex frm to j=n:=⟨_,rfl⟩
          rw [hb,hn] at hs
          rw [hn] at hle
          have et:(⟨0,sex,b.cab,b.bed,frm,to,false⟩:Tk)=rmT sex frm to b:=rfl
          have hrb:rmB c sex frm to b=decide (besideE (rmT sex frm to b) c.sold=0):=rfl
          have w1:IntKind.wrap .i64 ((n:Int)+1)=((n+1:Nat):Int):=by rw [wrap64 (by omega) (by omega)];rfl
          have hst:rStart rmL [34] [8] 9 0 (buY c.cabins j) (rmH c sex frm to j) [buO c.cabins c.secs]={ t:=asg [(34,aBunk b),(5,.ptr 1 0),(6,.ptr 2 0),(7,.ptr 3 0),(12,.ptr 6 0),(13,.ptr 7 0),(33,.clo 123 [.ptr 8 0])],h:=hasg [(9,.mark),(1,.cells [aI sex]),(2,.cells [aI frm]),(3,.cells [aI to]),(4,carC c.cabins c.secs 5),(5,rowT c.sold),(6,.cells [.ptr 4 0]),(7,.cells [aI n]),(8,buO c.cabins c.secs)],n:=10,m:=10 }:=by
            simp only [rStart,buY,hb,aBunk,List.map_cons,List.map_nil,AV.ren,AV.renL,List.zip_cons_cons,List.zip_nil_right,rmH,hn,rmL,putsL,List.cons_append,List.nil_append,rm_lent]
            rfl
          show Sym _ _ _ (rStart rmL [34] [8] 9 0 (buY c.cabins j) (rmH c sex frm to j) [buO c.cabins c.secs]) _
          rw [hst]
          cases hq:rmB c sex frm to b with
          |true =>
            rw [hq] at hs hrb
            have hrb:=hrb.symm
            have hs:rmN c sex frm to (j+1)=n+1:=hs
            repeat' (first|(apply nx;with_reducible constructor)|refine uq (by decide) ?_|refine sym_scope ?_|refine scopeK_n ?_|refine scopeK_x ?_|refine scopeK_r ?_|((first|refine vx env fun Q hQ=>?_|refine vz fun Q hQ=>?_);simp only [vkt,seval,tbE8_Room,xbE8_1,aBunk,aTk,cTk,mTk,mCabin,aChart,cChart,carC,rowT,lent2,buO,rmL,rmH,scheck,sin,sway,pCarOf,pBunks,pFits,List.length_map,et,hrb,b5,w1];(try simp only [ite_and]);(repeat' (first|with_reducible assumption|refine And.intro ?_ ?_|intro hp));all_goals (first|(refine hQ _ ?_;clear hQ Q)|(refine hQ _ (fun h=>?_) (fun h=>?_) <;> clear hQ Q <;> (try simp only [vki,reduceCtorEq] at h))|(refine vq ?_;kernel_rfl)|omega|assumption|with_reducible rfl|skip)))
            refine ⟨rfl,rfl,some,_,RFin.okQ some [] ?_⟩
            constructor
            all_goals (try simp only [vle,lentR,rensL,callRen,hs,vkt,seval,tbE8_Room,xbE8_1,aBunk,aTk,cTk,mTk,mCabin,aChart,cChart,carC,rowT,lent2,buO,rmL,rmH,scheck,sin,sway,pCarOf,pBunks,pFits,List.length_map])
            all_goals first|rfl|(simp;done)
          |false =>
            rw [hq] at hs hrb
            have hrb:=hrb.symm
            have hs:rmN c sex frm to (j+1)=n:=hs
            repeat' (first|(apply nx;with_reducible constructor)|refine uq (by decide) ?_|refine sym_scope ?_|refine scopeK_n ?_|refine scopeK_x ?_|refine scopeK_r ?_|((first|refine vx env fun Q hQ=>?_|refine vz fun Q hQ=>?_);simp only [vkt,seval,tbE8_Room,xbE8_1,aBunk,aTk,cTk,mTk,mCabin,aChart,cChart,carC,rowT,lent2,buO,rmL,rmH,scheck,sin,sway,pCarOf,pBunks,pFits,List.length_map,et,hrb,b5];(try simp only [ite_and]);(repeat' (first|with_reducible assumption|refine And.intro ?_ ?_|intro hp));all_goals (first|(refine hQ _ ?_;clear hQ Q)|(refine hQ _ (fun h=>?_) (fun h=>?_) <;> clear hQ Q <;> (try simp only [vki,reduceCtorEq] at h))|(refine vq ?_;kernel_rfl)|omega|assumption|with_reducible rfl|skip)))
            refine ⟨rfl,rfl,some,_,RFin.okQ some [] ?_⟩
            constructor
            all_goals (try simp only [vle,lentR,rensL,callRen,hs,vkt,seval,tbE8_Room,xbE8_1,aBunk,aTk,cTk,mTk,mCabin,aChart,cChart,carC,rowT,lent2,buO,rmL,rmH,scheck,sin,sway,pCarOf,pBunks,pFits,List.length_map])
            all_goals first|rfl|(simp;done)
        · have eh:hasg ((9,AObj.mark) :: rmH c sex frm to (bunksL c.cabins).length++lentA [8] (9+1) 0 [buO c.cabins c.secs])=hasg [(9,.mark),(7,.cells [aI (roomN c sex frm to)]),(1,.cells [aI sex]),(2,.cells [aI frm]),(3,.cells [aI to]),(4,carC c.cabins c.secs 5),(5,rowT c.sold),(6,.cells [.ptr 4 0]),(8,buO c.cabins c.secs)]:=by
            rw [show lentA [8] (9+1) 0 [buO c.cabins c.secs]=lentA [8] 10 0 [buO c.cabins c.secs] from rfl,rm_lent]
            funext i
            simp only [rmH,List.cons_append,List.nil_append,hasg,roomN]
            repeat' split
            all_goals first|rfl|omega
          rw [eh]
          simp only [rmL]
          repeat' (first|(apply nx;with_reducible constructor)|refine uq (by decide) ?_|refine sym_scope ?_|refine scopeK_n ?_|refine scopeK_x ?_|refine scopeK_r ?_|((first|refine vx env fun Q hQ=>?_|refine vz fun Q hQ=>?_);simp only [vkt,seval,tbE8_Room,xbE8_1,aBunk,aTk,cTk,mTk,mCabin,aChart,cChart,carC,rowT,lent2,buO,rmL,rmH,scheck,sin,sway,pCarOf,pBunks,pFits,List.length_map];(try simp only [ite_and]);(repeat' (first|with_reducible assumption|refine And.intro ?_ ?_|intro hp));all_goals (first|(refine hQ _ ?_;clear hQ Q)|(refine hQ _ (fun h=>?_) (fun h=>?_) <;> clear hQ Q <;> (try simp only [vki,reduceCtorEq] at h))|(refine vq ?_;kernel_rfl)|omega|assumption|with_reducible rfl|skip)))
          (simp only [vrt,Try.results42,vkt,seval,tbE8_Room,xbE8_1,aBunk,aTk,cTk,mTk,mCabin,aChart,cChart,carC,rowT,lent2,buO,rmL,rmH,scheck,sin,sway,pCarOf,pBunks,pFits,List.length_map];refine Fin.val rfl ?_;(try simp only [AV.le,AV.leL]))
          all_goals first|rfl|(simp;done)
      · have hr:roomA c sex frm to=(0,w):=by unfold roomA;rw [if_neg (fun h=>h h0),if_neg (by rw [h1];decide),hw,if_pos h2]
        rw [hr]
        have d2:decide (w=0)=false:=decide_eq_false h2
        repeat' (first|(apply nx;with_reducible constructor)|refine uq (by decide) ?_|refine sym_scope ?_|refine scopeK_n ?_|refine scopeK_x ?_|refine scopeK_r ?_|((first|refine vx env fun Q hQ=>?_|refine vz fun Q hQ=>?_);simp only [vkt,seval,tbE8_Room,xbE8_1,aBunk,aTk,cTk,mTk,mCabin,aChart,cChart,carC,rowT,lent2,buO,rmL,rmH,scheck,sin,sway,pCarOf,pBunks,pFits,List.length_map,ec,h0,h1,hw,d2,decide_true];(try simp only [ite_and]);(repeat' (first|with_reducible assumption|refine And.intro ?_ ?_|intro hp));all_goals (first|(refine hQ _ ?_;clear hQ Q)|(refine hQ _ (fun h=>?_) (fun h=>?_) <;> clear hQ Q <;> (try simp only [vki,reduceCtorEq] at h))|(refine vq ?_;kernel_rfl)|omega|assumption|with_reducible rfl|skip)))
        (simp only [vrt,Try.results42,vkt,seval,tbE8_Room,xbE8_1,aBunk,aTk,cTk,mTk,mCabin,aChart,cChart,carC,rowT,lent2,buO,rmL,rmH,scheck,sin,sway,pCarOf,pBunks,pFits,List.length_map];refine Fin.val rfl ?_;(try simp only [AV.le,AV.leL]))
        all_goals first|rfl|(simp;done)
  · obtain ⟨e,he⟩:∃ e,checkE c=e:=⟨_,rfl⟩
    rw [he] at h0
    have hr:roomA c sex frm to=(0,e):=by unfold roomA;rw [he,if_pos h0]
    rw [hr]
    have d0:decide (e=0)=false:=decide_eq_false h0
    repeat' (first|(apply nx;with_reducible constructor)|refine uq (by decide) ?_|refine sym_scope ?_|refine scopeK_n ?_|refine scopeK_x ?_|refine scopeK_r ?_|((first|refine vx env fun Q hQ=>?_|refine vz fun Q hQ=>?_);simp only [vkt,seval,tbE8_Room,xbE8_1,aBunk,aTk,cTk,mTk,mCabin,aChart,cChart,carC,rowT,lent2,buO,rmL,rmH,scheck,sin,sway,pCarOf,pBunks,pFits,List.length_map,ec,he,d0];(try simp only [ite_and]);(repeat' (first|with_reducible assumption|refine And.intro ?_ ?_|intro hp));all_goals (first|(refine hQ _ ?_;clear hQ Q)|(refine hQ _ (fun h=>?_) (fun h=>?_) <;> clear hQ Q <;> (try simp only [vki,reduceCtorEq] at h))|(refine vq ?_;kernel_rfl)|omega|assumption|with_reducible rfl|skip)))
    (simp only [vrt,Try.results42,vkt,seval,tbE8_Room,xbE8_1,aBunk,aTk,cTk,mTk,mCabin,aChart,cChart,carC,rowT,lent2,buO,rmL,rmH,scheck,sin,sway,pCarOf,pBunks,pFits,List.length_map];refine Fin.val rfl ?_;(try simp only [AV.le,AV.leL]))
    all_goals first|rfl|(simp;done)
end Go.Sym.B
namespace Go.Sym.B
open Go Go.Sym Go.Proofs Go.Sym.C
theorem bunks_nd (cs:List Cabin):(bunksL cs).Nodup:=by
  unfold bunksL List.Nodup
  rw [List.pairwise_flatMap]
  refine ⟨fun i _=>?_, ?_⟩
  · rw [List.pairwise_map]
    refine List.Pairwise.imp (fun {a b} h=>?_) List.pairwise_lt_range
    intro e
    have e:=congrArg Bunk.bed e
    simp only at e
    omega
  · refine List.Pairwise.imp (fun {a b} h=>?_) List.pairwise_lt_range
    intro x hx y hy e
    obtain ⟨k,_,rfl⟩:=List.mem_map.1 hx
    obtain ⟨m,_,rfl⟩:=List.mem_map.1 hy
    have e:=congrArg Bunk.cab e
    simp only at e
    omega
theorem filter_less {α:Type} [DecidableEq α] {l:List α} (hn:l.Nodup) {p:α→Bool} {b:α} (hb:b ∈ l) (hp:p b=true):(l.filter fun x=>p x && !decide (b=x)).length+1=(l.filter p).length:=by
  induction l with
  |nil=>simp at hb
  |cons x l ih =>
    have h1:=(List.nodup_cons.1 hn)
    by_cases hx:x=b
    · subst hx
      have:(l.filter fun y=>p y && !decide (x=y))=l.filter p:=by
        refine List.filter_congr fun y hy=>?_
        have:¬ x=y:=fun e=>h1.1 (e ▸ hy)
        simp [this]
      rw [List.filter_cons_of_neg (by simp),List.filter_cons_of_pos hp,this,List.length_cons]
    · have hbl:b ∈ l:=by
        rcases List.mem_cons.1 hb with h|h
        · exact absurd h.symm hx
        · exact h
      have ih:=ih h1.2 hbl
      have hne:¬ b=x:=fun e=>hx e.symm
      cases hq:p x with
      |true =>
        rw [List.filter_cons_of_pos (by simp [hq,hne]),List.filter_cons_of_pos hq,List.length_cons,List.length_cons]
        omega
      |false =>
        rw [List.filter_cons_of_neg (by simp [hq]),List.filter_cons_of_neg (by simp [hq])]
        exact ih
theorem beside_zero {t:Tk} {l:List Tk}:besideE t l=0 ↔ ∀ x ∈ l,twiceB t x=false∧togB x t=true:=by
  unfold besideE
  constructor
  · intro h x hx
    split at h
    · exact absurd h (by decide)
    rename_i h1
    split at h
    · exact absurd h (by decide)
    rename_i h2
    refine ⟨?_, ?_⟩
    · cases hq:twiceB t x with
      |false=>rfl
      |true=>exact absurd (List.any_eq_true.2 ⟨x,hx,hq⟩) h1
    · cases hq:togB x t with
      |true=>rfl
      |false=>exact absurd (List.any_eq_true.2 ⟨x,hx,by rw [hq];rfl⟩) h2
  · intro h
    rw [if_neg,if_neg]
    · rw [List.any_eq_true]
      rintro ⟨x,hx,h1⟩
      rw [(h x hx).2] at h1
      exact absurd h1 (by decide)
    · rw [List.any_eq_true]
      rintro ⟨x,hx,h1⟩
      rw [(h x hx).1] at h1
      exact absurd h1 (by decide)
theorem beside_nobody {P sex frm to:Int} {l:List Tk} (hP:∀ t ∈ l,t.party ≠ P∧t.party ≠ 0) (b:Bunk):besideE ⟨P,sex,b.cab,b.bed,frm,to,false⟩ l=0 ↔ besideE (rmT sex frm to b) l=0:=by
  rw [beside_zero,beside_zero]
  refine forall_congr' fun x=>forall_congr' fun hx=>?_
  obtain ⟨h1,h2⟩:=hP x hx
  unfold togB rmT twiceB meetB
  simp only [decide_eq_false h1,decide_eq_false h2]
theorem near_one (cs:List Cabin) (b:Bunk):nearB cs [b]=true:=by
  unfold nearB
  simp
def askN (a:Ask) (P:Int):Ask:=⟨P,a.frm,a.to,a.sexes,false⟩
theorem askN_ok {c c':Chart} {a:Ask} {P:Int} (h:bothE c a=0) (hs:c'.secs=c.secs) (h':checkE c'=0) (hP:1≤P∧P≤99) (hn:∀ t ∈ c'.sold,t.party ≠ P):bothE c' (askN a P)=0:=by
  have h:=(both_ok h).2
  unfold bothE
  rw [h',if_neg (by decide)]
  unfold askE askN at *
  simp only [hs]
  split at h
  · exact absurd h (by decide)
  split at h
  · exact absurd h (by decide)
  have b1:inB P 1 99=true:=inB_iff.2 hP
  have b2:c'.sold.any (fun t=>decide (t.party=P))=false:=List.any_eq_false.2 fun t ht=>by simpa using hn t ht
  rw [b1,b2]
  exact h
theorem check_app {c:Chart} {t:Tk} (h:checkE c=0) (hl:c.sold.length+1≤8) (ht:ticketE c t c.sold=0):checkE ⟨c.cabins,c.secs,c.sold++[t]⟩=0:=by
  unfold checkE at h ⊢
  split at h
  · exact absurd h ‹_›
  rename_i h1
  have h1:=Decidable.not_not.1 h1
  have h2:carE ⟨c.cabins,c.secs,c.sold++[t]⟩=0:=by
    unfold carE at h1 ⊢
    split at h1
    · exact absurd h1 ‹_›
    split at h1
    · exact absurd h1 ‹_›
    split at h1
    · exact absurd h1 (by decide)
    rename_i g1 g2 g3
    simp only [g1,g2,g3,if_false,Bool.false_eq_true]
    unfold countedE
    rw [if_neg (by simp only [List.length_append,List.length_singleton];omega),if_neg (by simp only [List.length_append,List.length_singleton];omega)]
  rw [h2,if_neg (by decide)]
  unfold ticketsE at h ⊢
  simp only
  rw [List.length_append,List.length_singleton,List.range_succ,List.map_append]
  have e1:(List.range c.sold.length).map (fun i=>ticketE ⟨c.cabins,c.secs,c.sold++[t]⟩ ((c.sold++[t]).getD i default) ((c.sold++[t]).take i))=(List.range c.sold.length).map (fun i=>ticketE c (c.sold.getD i default) (c.sold.take i)):=by
    refine List.map_congr_left fun i hi=>?_
    have hi:=List.mem_range.1 hi
    rw [List.getD_eq_getElem?_getD,List.getElem?_append_left hi,← List.getD_eq_getElem?_getD,List.take_append_of_le_length (by omega)]
    rfl
  rw [e1]
  refine firstE_all fun j hj=>?_
  have hz:=firstE_zero h
  simp only [List.length_append,List.length_map,List.length_range,List.length_singleton] at hj
  by_cases hlt:j < c.sold.length
  · rw [List.getD_eq_getElem?_getD,List.getElem?_append_left (by simpa using hlt),← List.getD_eq_getElem?_getD]
    exact hz _ (gMem (by simpa using hlt))
  · obtain rfl:j=c.sold.length:=by omega
    rw [List.getD_eq_getElem?_getD,List.getElem?_append_right (by simp)]
    simp only [List.length_map,List.length_range,Nat.sub_self,List.map_cons,List.map_nil,List.getElem?_cons_zero,Option.getD_some]
    rw [show (c.sold++[t]).getD c.sold.length default=t by simp [List.getD_eq_getElem?_getD],List.take_append_of_le_length (Nat.le_refl _),List.take_length]
    exact ht
structure RmInv (C:Chart) (a:Ask) (i:Nat) (c:Chart):Prop where
  chk:checkE c=0
  cabs:c.cabins=C.cabins
  secs:c.secs=C.secs
  len:c.sold.length=C.sold.length+i
  lt:∀ t ∈ c.sold,t.party < 60+(i:Int)
theorem room_next {C:Chart} {a:Ask} {s:Int} {i:Nat} {c:Chart} (hA:bothE C a=0) (hs:a.sexes=[s]) (inv:RmInv C a i c) (h8:C.sold.length+roomN c s a.frm a.to+i≤8) (hi:i≤9) :
    (roomN c s a.frm a.to=0→(sellA c (askN a (60+i))).2=11)∧(0 < roomN c s a.frm a.to→(sellA c (askN a (60+i))).2=0∧RmInv C a (i+1) (sellA c (askN a (60+i))).1∧roomN (sellA c (askN a (60+i))).1 s a.frm a.to+1=roomN c s a.frm a.to):=by
  obtain ⟨A,hAe⟩:∃ A,askN a (60+i)=A:=⟨_,rfl⟩
  rw [hAe]
  have hv:=val_of inv.chk
  have hb:bothE c A=0:=by
    rw [← hAe]
    exact askN_ok hA inv.secs inv.chk (by omega) fun t ht=>by have:=inv.lt t ht;omega
  have hway:=ask_way hb
  have hA1:A.sexes=[s]:=by rw [← hAe];exact hs
  have hA2:A.frm=a.frm:=by rw [← hAe];rfl
  have hA3:A.to=a.to:=by rw [← hAe];rfl
  have hA4:A.party=60+(i:Int):=by rw [← hAe];rfl
  have hA5:A.dog=false:=by rw [← hAe];rfl
  have htk:∀ b,tkOf A 0 b=⟨60+(i:Int),s,b.cab,b.bed,a.frm,a.to,false⟩:=fun b=>by unfold tkOf;rw [hA1,hA2,hA3,hA4,hA5];rfl
  have hnp:∀ t ∈ c.sold,t.party ≠ 60+(i:Int)∧t.party ≠ 0:=fun t ht=>by
    have h1:=inv.lt t ht
    have h2:=(hv.tk t ht).party
    omega
  have hgo:∀ b,goB c.cabins A c.sold [] b=rmB c s a.frm a.to b:=fun b=>by
    unfold goB rmB
    rw [show ([]:List Bunk)++[b]=[b] from rfl,near_one,show ([]:List Bunk).length=0 from rfl,htk]
    simp only [List.contains_nil,Bool.not_false,Bool.true_and]
    rw [decide_eq_decide]
    exact beside_nobody hnp b
  have hpl:∀ p,p ∈ placesA c A ↔ ∃ b ∈ bunksL c.cabins,rmB c s a.frm a.to b=true∧p=[b]:=fun p=>by
    unfold placesA
    rw [if_pos hb]
    unfold plP
    rw [hA1,show ([s]:List Int).length=0+1 from rfl,growP_succ]
    rw [List.mem_map]
    constructor
    · rintro ⟨x,hx,rfl⟩
      obtain ⟨b,hbm,hx⟩:=List.mem_flatMap.1 hx
      unfold gbL at hx
      rw [hgo] at hx
      split at hx
      · rename_i h
        simp only [growP,List.nil_append,List.mem_singleton] at hx
        exact ⟨b,hbm,h,by rw [hx]⟩
      · simp at hx
    · rintro ⟨b,hbm,h,rfl⟩
      refine ⟨([b],c.sold++[tkOf A 0 b]),List.mem_flatMap.2 ⟨b,hbm, ?_⟩,rfl⟩
      unfold gbL
      rw [hgo,if_pos h]
      simp [growP]
  have hrn:roomN c s a.frm a.to=((bunksL c.cabins).filter (rmB c s a.frm a.to)).length:=by unfold roomN rmN;rw [List.take_length]
  have hPl:placesA c A=(plP c A).map (·.1):=by unfold placesA;rw [if_pos hb]
  constructor
  · intro h0
    rw [hrn] at h0
    have h0:=List.eq_nil_of_length_eq_zero h0
    rcases bs_mx hb (plP c A).length (Nat.le_refl _) with ⟨h1,h2⟩|⟨h1,h2⟩
    · have hb2:(bestA c A).2=11:=by unfold bestA;rw [if_pos hb,h2];rfl
      unfold sellA
      rw [if_pos (by rw [hb2];decide),hb2]
    · exfalso
      have hm:((plP c A).getD (mxK (rsF c A) (plP c A).length).2 default).1 ∈ placesA c A:=by rw [hPl];exact List.mem_map.2 ⟨_,gMem h2,rfl⟩
      obtain ⟨b,hb1,hb2,_⟩:=(hpl _).1 hm
      have:b ∈ (bunksL c.cabins).filter (rmB c s a.frm a.to):=List.mem_filter.2 ⟨hb1,hb2⟩
      rw [h0] at this
      simp at this
  · intro hpos
    have hne:(bestA c A).2=0:=by
      rcases bs_mx hb (plP c A).length (Nat.le_refl _) with ⟨h1,h2⟩|⟨h1,h2⟩
      · exfalso
        have hp0:plP c A=[]:=List.eq_nil_of_length_eq_zero (by omega)
        rw [hrn] at hpos
        obtain ⟨b,hbm⟩:=List.exists_mem_of_length_pos hpos
        obtain ⟨hb1,hb2⟩:=List.mem_filter.1 hbm
        have:=(hpl [b]).2 ⟨b,hb1,hb2,rfl⟩
        rw [hPl,hp0] at this
        simp at this
      · unfold bestA;rw [if_pos hb,h1];rfl
    obtain ⟨_,_,hmem⟩:=best_ok hne
    obtain ⟨b,hb1,hb2,hbe⟩:=(hpl _).1 hmem
    have hsl:sellA c A=(⟨c.cabins,c.secs,c.sold++[tkOf A 0 b]⟩,0):=by
      unfold sellA
      rw [if_neg (by rw [hne];decide),hbe]
      have hl:=inv.len
      rw [if_neg (by simp only [List.length_singleton];omega)]
      rfl
    rw [hsl]
    refine ⟨rfl,⟨?_,inv.cabs,inv.secs, ?_, ?_⟩, ?_⟩
    · refine check_app inv.chk (by have:=inv.len;omega) ?_
      have hT:=ask_tk hb (i:=0) (by rw [hA1];simp) hb1
      rw [htk] at hT
      rw [htk]
      have hz:besideE ⟨60+(i:Int),s,b.cab,b.bed,a.frm,a.to,false⟩ c.sold=0:=(beside_nobody hnp b).2 (by simpa [rmB] using hb2)
      have:=ticket_zero (cs:=c.cabins) (secs:=c.secs) (t:=⟨60+(i:Int),s,b.cab,b.bed,a.frm,a.to,false⟩) (l:=c.sold) hT.party hT.sex hT.cab hT.bed ⟨hT.frm,hT.way,hT.to⟩ hz
      exact this
    · rw [List.length_append,inv.len];rfl
    · intro t ht
      rcases List.mem_append.1 ht with ht|ht
      · have:=inv.lt t ht;omega
      · rw [List.mem_singleton.1 ht,htk];simp only;omega
    · rw [hrn]
      have e1:roomN ⟨c.cabins,c.secs,c.sold++[tkOf A 0 b]⟩ s a.frm a.to=((bunksL c.cabins).filter fun x=>rmB c s a.frm a.to x && !decide (b=x)).length:=by
        unfold roomN rmN
        rw [List.take_length]
        congr 1
        refine List.filter_congr fun x _=>?_
        unfold rmB
        simp only
        rw [Bool.eq_iff_iff,Bool.and_eq_true,decide_eq_true_eq,decide_eq_true_eq,beside_zero,beside_zero,htk]
        have hw:a.frm < a.to:=by rw [← hA2,← hA3];omega
        have e2:twiceB (rmT s a.frm a.to x) ⟨60+(i:Int),s,b.cab,b.bed,a.frm,a.to,false⟩=decide (b=x):=by
          unfold twiceB rmT meetB
          simp only [decide_eq_true hw,Bool.and_true]
          rw [Bool.eq_iff_iff,Bool.and_eq_true,decide_eq_true_eq,decide_eq_true_eq,decide_eq_true_eq]
          cases b;cases x
          simp
        have e3:togB ⟨60+(i:Int),s,b.cab,b.bed,a.frm,a.to,false⟩ (rmT s a.frm a.to x)=true:=by
          unfold togB rmT
          simp
        constructor
        · intro h
          refine ⟨fun y hy=>h y (List.mem_append.2 (.inl hy)), ?_⟩
          have:=(h _ (List.mem_append.2 (.inr (List.mem_singleton.2 rfl)))).1
          rw [e2] at this
          rw [this];rfl
        · rintro ⟨h1,h2⟩ y hy
          rcases List.mem_append.1 hy with hy|hy
          · exact h1 y hy
          · rw [List.mem_singleton.1 hy,e2,e3]
            exact ⟨by simpa using h2,rfl⟩
      rw [e1]
      exact filter_less (bunks_nd _) hb1 hb2
def rmC (C:Chart) (a:Ask):Nat→Chart
  |0=>C
  |i+1=>(sellA (rmC C a i) (askN a (60+i))).1
theorem room_inv {C:Chart} {a:Ask} {s:Int} {n:Nat} (hA:bothE C a=0) (hs:a.sexes=[s]) (hp:∀ t ∈ C.sold,t.party < 60) (hn:roomN C s a.frm a.to=n) (h8:C.sold.length+n≤8):∀ i,i≤n→RmInv C a i (rmC C a i)∧roomN (rmC C a i) s a.frm a.to=n - i
  |0,_=>⟨⟨(both_ok hA).1,rfl,rfl,rfl,fun t ht=>by have:=hp t ht;simpa using this⟩,hn⟩
  |i+1,hi=>by
    obtain ⟨h1,h2⟩:=room_inv hA hs hp hn h8 i (by omega)
    obtain ⟨_,h3⟩:=room_next hA hs h1 (by omega) (by omega)
    obtain ⟨h4,h5,h6⟩:=h3 (by omega)
    exact ⟨h5,by show roomN (sellA (rmC C a i) (askN a (60+i))).1 s a.frm a.to=_;omega⟩
theorem room_go {C:Chart} {a:Ask} {s:Int} {n:Nat} (hA:bothE C a=0) (hs:a.sexes=[s]) (hp:∀ t ∈ C.sold,t.party < 60) (hn:roomN C s a.frm a.to=n) (h8:C.sold.length+n≤8) {i:Nat} (hi:i≤n) :
    (i < n→sellA (rmC C a i) (askN a (60+i))=(rmC C a (i+1),0))∧(i=n→(sellA (rmC C a i) (askN a (60+i))).2=11):=by
  obtain ⟨h1,h2⟩:=room_inv hA hs hp hn h8 i hi
  obtain ⟨h3,h4⟩:=room_next hA hs h1 (by omega) (by omega)
  refine ⟨fun h=>?_,fun h=>h3 (by omega)⟩
  obtain ⟨h5,_⟩:=h4 (by omega)
  exact Prod.ext rfl h5
end Go.Sym.B
namespace Go.Sym.B
open Go Go.Sym Go.Proofs Go.Sym.C
def sRoomF:List AV→Prop × AV
  |[.agg [.sl c0,.v (.int .i64 c1),.sl c2],.v (.int .i64 x),.v (.int .i64 f),.v (.int .i64 t)]=>(c0=(c0.map dCabin).map eCabin∧c2=(c2.map dTk).map eTk∧((⟨(c0.map dCabin),c1,(c2.map dTk)⟩:Chart)).cabins.length≤maxLen,.tup [aI (roomA ((⟨(c0.map dCabin),c1,(c2.map dTk)⟩:Chart)) x f t).1,aI (roomA ((⟨(c0.map dCabin),c1,(c2.map dTk)⟩:Chart)) x f t).2])
  |_=>(False,.junk)
theorem eRoomF {A:Frm→Prop}:EntryOK A Try.prog 42 (valE false sRoomF):=valE_ok fun vs hv h=>by
  clear hv
  unfold sRoomF at h ⊢
  split at h
  · rename_i c0 c1 c2 x f t;obtain ⟨q0,q1,k0⟩:=h
    refine ⟨by first|trivial|(simp [AV.plain,AV.plainL,aI,aB,aInts,aBunks,aTks,aBunk,aTk,cTk];done)|(repeat' split) <;> simp [AV.plain,AV.plainL,aI,aB,aInts,aBunks,aTks,aBunk,aTk,cTk],fun h=>absurd h (by decide), ?_⟩
    have:=Room_fn ((⟨(c0.map dCabin),c1,(c2.map dTk)⟩:Chart)) x f t k0
    simp only [aCabins,aChart,aI,aTks,cChart,← q0,← q1] at this
    first|exact this|(simp only [aCabins,aChart,aI,aTks,cChart,← q0,← q1];exact this)
  · exact h.elim
def sSellF:List AV→Prop × AV
  |[.agg [.sl c0,.v (.int .i64 c1),.sl c2],.agg [.v (.int .i64 a0),.v (.int .i64 a1),.v (.int .i64 a2),.sl a3,.v (.bool a4)]]=>(c0=(c0.map dCabin).map eCabin∧c2=(c2.map dTk).map eTk∧a3=(a3.map dInt).map eInt∧((⟨(c0.map dCabin),c1,(c2.map dTk)⟩:Chart)).cabins.length≤maxLen∧((⟨a0,a1,a2,(a3.map dInt),a4⟩:Ask)).sexes.length≤maxLen,.tup [aChart (sellA ((⟨(c0.map dCabin),c1,(c2.map dTk)⟩:Chart)) ((⟨a0,a1,a2,(a3.map dInt),a4⟩:Ask))).1,aI (sellA ((⟨(c0.map dCabin),c1,(c2.map dTk)⟩:Chart)) ((⟨a0,a1,a2,(a3.map dInt),a4⟩:Ask))).2])
  |_=>(False,.junk)
theorem eSellF {A:Frm→Prop}:EntryOK A Try.prog 43 (valE false sSellF):=valE_ok fun vs hv h=>by
  clear hv
  unfold sSellF at h ⊢
  split at h
  · rename_i c0 c1 c2 a0 a1 a2 a3 a4;obtain ⟨q0,q1,q2,k0,k1⟩:=h
    refine ⟨by first|trivial|(simp [AV.plain,AV.plainL,aI,aB,aInts,aBunks,aTks,aBunk,aTk,cTk];done)|(repeat' split) <;> simp [AV.plain,AV.plainL,aI,aB,aInts,aBunks,aTks,aBunk,aTk,cTk],fun h=>absurd h (by decide), ?_⟩
    have:=Sell_fn ((⟨(c0.map dCabin),c1,(c2.map dTk)⟩:Chart)) ((⟨a0,a1,a2,(a3.map dInt),a4⟩:Ask)) k0 k1
    simp only [aAsk,aB,aCabins,aChart,aI,aInts,aTks,cAsk,cChart,← q0,← q1,← q2] at this
    first|exact this|(simp only [aAsk,aB,aCabins,aChart,aI,aInts,aTks,cAsk,cChart,← q0,← q1,← q2];exact this)
  · exact h.elim
theorem room_val {c:Chart} {a:Ask} {s:Int} (hA:bothE c a=0) (hs:a.sexes=[s]):roomA c s a.frm a.to=((roomN c s a.frm a.to:Int),0):=by
  obtain ⟨h1,h2⟩:=both_ok hA
  have h3:inB s 1 2=true∧wayE c.secs a.frm a.to=0:=by
    unfold askE at h2
    split at h2
    · exact absurd h2 (by decide)
    split at h2
    · exact absurd h2 (by decide)
    split at h2
    · exact absurd h2 ‹_›
    rename_i g1
    split at h2
    · exact absurd h2 ‹_›
    refine ⟨?_,Decidable.not_not.1 g1⟩
    rw [hs] at h2
    have:=firstE_zero h2 _ (List.mem_map.2 ⟨s,by simp,rfl⟩)
    cases hq:inB s 1 2 with
    |true=>rfl
    |false=>rw [hq] at this;exact absurd this (by decide)
  unfold roomA
  rw [if_neg (fun h=>h h1),if_neg (by rw [h3.1];decide),if_neg (fun h=>h h3.2)]
def rmS (C c:Chart) (f t s:Int) (n i:Nat):St:={ t:=asg [(4,.ptr 1 0),(5,.ptr 2 0),(6,aI n),(8,aI i)],h:=hasg [(1,.cells (cChart c)),(2,.cells [.any,aI f,aI t,.sl [[.v (.int .i64 s)]],aB false])],n:=3 }
def tbE9_law:=vj @ty3 (vj @ty4 (vj @ty22 (vj @ty26 (vj @ty28 (vj @ty31 (vj @ty34 (vj @ty81 (vj @ti3.eq_1 (vj @ti4.eq_1 (vj @ti22.eq_1 (vj @ti26.eq_1 (vj @ti28.eq_1 (vj @ti31.eq_1 (vj @ti34.eq_1 @ti81.eq_1))))))))))))))
def xbE9_1:=vj @aI.eq_1 (vj @aB.eq_1 (vj @aInts.eq_1 (vj @eInt.eq_1 (@mInt))))
set_option maxHeartbeats 40000000 in
theorem roomLaw_fn (nums:List Int) (hnums:nums.length≤maxLen):FnV Try.prog 9 [aInts nums] (aB true):=by
  have env:Env (fun _=>True) Try.prog tyB (tab [(15,fnE pBag),(16,fnE pChartOf),(17,fnE pAskedOf),(42,valE false sRoomF),(43,valE false sSellF),(44,valE true scheck),(25,valE true sselling)]):=mkEnv ⟨eBag,eChartOf,eAskedOf,eRoomF,eSellF,echeck,eselling,trivial⟩
  refine Fn.of (A:=fun _=>True) (n0:=0) (D:=noD) (Fn0 Try.func9 rfl (fun vs w=>by kernel_rfl) (by kernel_rfl)) (by simp) (by simp [AV.ids,AV.idsL,aInts]) (fun i o h=>by cases h) (fun _ _ _ _=>trivial) noD_ok ?_
  obtain ⟨x0,hx0⟩:∃ x,nbS nums=x:=⟨_,rfl⟩
  obtain ⟨hC0,hCp,hCs,hCc,hCg⟩:=co_ok (x:=x0) (a:=2) (g:=4) (s:=2) (by decide) (by decide) (by decide)
  obtain ⟨C,hC⟩:∃ C,coC x0 2 4 2=C:=⟨_,rfl⟩
  obtain ⟨x1,hx1⟩:∃ x,coX x0 2 4 2=x:=⟨_,rfl⟩
  rw [hC] at hC0 hCp hCs hCc hCg
  obtain ⟨hA0,hA1,hA2⟩:=ao_ok (x:=x1) (n:=1) hC0 hCp (by decide)
  obtain ⟨⟨P,f,t,l,d⟩,hA⟩:∃ A,aoA x1 C.secs 1=A:=⟨_,rfl⟩
  rw [hA] at hA0 hA1 hA2
  simp only at hA1 hA2
  obtain ⟨s,rfl⟩:∃ s,l=[s]:=by
    match l,hA1,hA2 with
    |[s],_,_=>exact ⟨s,rfl⟩
    |[],_,h=>simp at h
    |_ :: _ :: _,h,_=>simp at h;omega
  have hv:=val_of hC0
  have hsec:=hv.car.secs
  have hcab:=hv.car.cabs
  have hbds:=hv.car.beds
  have eC:(⟨C.cabins,C.secs,C.sold⟩:Chart)=C:=rfl
  have hmx:(100000:Nat)≤maxLen:=by decide
  have c1:C.cabins.length≤maxLen:=by omega
  have c2:(1:Nat)≤maxLen:=by omega
  have hR:=room_val hA0 rfl
  obtain ⟨n,hn⟩:∃ n,roomN C s f t=n:=⟨_,rfl⟩
  simp only [hn] at hR
  have hn6:n≤6:=by
    have h1:=rmN_le C s f t (bunksL C.cabins).length
    have h2:(bunksL C.cabins).length≤3 * C.cabins.length:=bunks_3 hbds
    rw [← hn]
    unfold roomN
    omega
  have hgo:=fun {i:Nat} (hi:i≤n)=>room_go (C:=C) (a:=⟨P,f,t,[s],d⟩) hA0 rfl (fun t ht=>by have:=hCp t ht;omega) hn (by omega) hi
  have hinv:=room_inv (C:=C) (a:=⟨P,f,t,[s],d⟩) hA0 rfl (fun t ht=>by have:=hCp t ht;omega) hn (by omega)
  have q1:decide ((n:Int) < 0)=false:=decide_eq_false (by omega)
  have q2:decide ((9:Int) < (n:Int))=false:=decide_eq_false (by omega)
  repeat' (first|(apply nx;with_reducible constructor)|refine uq (by decide) ?_)
  ((first|refine vx env fun Q hQ=>?_|refine vz fun Q hQ=>?_);simp only [vkt,seval,tbE9_law,xbE9_1,eCabin,eTk,mBunk,mCabin,mTk,aChart,cChart,aAsk,cAsk,rmS,pBag,pChartOf,pAskedOf,sRoomF,sSellF,scheck,sselling,List.length_map];(try simp only [ite_and]);(repeat' (first|with_reducible assumption|refine And.intro ?_ ?_|intro hp));all_goals (first|(refine hQ _ ?_;clear hQ Q)|(refine hQ _ (fun h=>?_) (fun h=>?_) <;> clear hQ Q <;> (try simp only [vki,reduceCtorEq] at h))|(refine vq ?_;kernel_rfl)|omega|assumption|with_reducible rfl|skip))
  repeat' (first|(apply nx;with_reducible constructor)|refine uq (by decide) ?_)
  ((first|refine vx env fun Q hQ=>?_|refine vz fun Q hQ=>?_);simp only [vkt,seval,tbE9_law,xbE9_1,eCabin,eTk,mBunk,mCabin,mTk,aChart,cChart,aAsk,cAsk,rmS,pBag,pChartOf,pAskedOf,sRoomF,sSellF,scheck,sselling,List.length_map,hx0];(try simp only [ite_and]);(repeat' (first|with_reducible assumption|refine And.intro ?_ ?_|intro hp));all_goals (first|(refine hQ _ ?_;clear hQ Q)|(refine hQ _ (fun h=>?_) (fun h=>?_) <;> clear hQ Q <;> (try simp only [vki,reduceCtorEq] at h))|(refine vq ?_;kernel_rfl)|omega|assumption|with_reducible rfl|skip))
  repeat' (first|(apply nx;with_reducible constructor)|refine uq (by decide) ?_)
  ((first|refine vx env fun Q hQ=>?_|refine vz fun Q hQ=>?_);simp only [vkt,seval,tbE9_law,xbE9_1,eCabin,eTk,mBunk,mCabin,mTk,aChart,cChart,aAsk,cAsk,rmS,pBag,pChartOf,pAskedOf,sRoomF,sSellF,scheck,sselling,List.length_map,hC,hx1];(try simp only [ite_and]);(repeat' (first|with_reducible assumption|refine And.intro ?_ ?_|intro hp));all_goals (first|(refine hQ _ ?_;clear hQ Q)|(refine hQ _ (fun h=>?_) (fun h=>?_) <;> clear hQ Q <;> (try simp only [vki,reduceCtorEq] at h))|(refine vq ?_;kernel_rfl)|omega|assumption|with_reducible rfl|skip))
  repeat' (first|(apply nx;with_reducible constructor)|refine uq (by decide) ?_)
  ((first|refine vx env fun Q hQ=>?_|refine vz fun Q hQ=>?_);simp only [vkt,seval,tbE9_law,xbE9_1,eCabin,eTk,mBunk,mCabin,mTk,aChart,cChart,aAsk,cAsk,rmS,pBag,pChartOf,pAskedOf,sRoomF,sSellF,scheck,sselling,List.length_map,hA,hsec];(try simp only [ite_and]);(repeat' (first|with_reducible assumption|refine And.intro ?_ ?_|intro hp));all_goals (first|(refine hQ _ ?_;clear hQ Q)|(refine hQ _ (fun h=>?_) (fun h=>?_) <;> clear hQ Q <;> (try simp only [vki,reduceCtorEq] at h))|(refine vq ?_;kernel_rfl)|omega|assumption|with_reducible rfl|skip))
  repeat' (first|(apply nx;with_reducible constructor)|refine uq (by decide) ?_)
  ((first|refine vx env fun Q hQ=>?_|refine vz fun Q hQ=>?_);simp only [vkt,seval,tbE9_law,xbE9_1,eCabin,eTk,mBunk,mCabin,mTk,aChart,cChart,aAsk,cAsk,rmS,pBag,pChartOf,pAskedOf,sRoomF,sSellF,scheck,sselling,List.length_map,eC,c1,c2,hR,q1,q2,List.getD_cons_zero];(try simp only [ite_and]);(repeat' (first|with_reducible assumption|refine And.intro ?_ ?_|intro hp));all_goals (first|(refine hQ _ ?_;clear hQ Q)|(refine hQ _ (fun h=>?_) (fun h=>?_) <;> clear hQ Q <;> (try simp only [vki,reduceCtorEq] at h))|(refine vq ?_;kernel_rfl)|omega|assumption|with_reducible rfl|skip))
  repeat' (first|(apply nx;with_reducible constructor)|refine uq (by decide) ?_|((first|refine vx env fun Q hQ=>?_|refine vz fun Q hQ=>?_);simp only [vkt,seval,tbE9_law,xbE9_1,eCabin,eTk,mBunk,mCabin,mTk,aChart,cChart,aAsk,cAsk,rmS,pBag,pChartOf,pAskedOf,sRoomF,sSellF,scheck,sselling,List.length_map,eC,c1,c2,hR,q1,q2,List.getD_cons_zero];(try simp only [ite_and]);(repeat' (first|with_reducible assumption|refine And.intro ?_ ?_|intro hp));all_goals (first|(refine hQ _ ?_;clear hQ Q)|(refine hQ _ (fun h=>?_) (fun h=>?_) <;> clear hQ Q <;> (try simp only [vki,reduceCtorEq] at h))|(refine vq ?_;kernel_rfl)|omega|assumption|with_reducible rfl|skip)))
  refine sym_loop (fun i:{ i:Nat // i≤n }=>rmS C (rmC C ⟨P,f,t,[s],d⟩ i.1) f t s n i.1) (fun i=>n - i.1) ⟨0,Nat.zero_le _⟩ ?_ fun ⟨i,hi⟩=>?_
  · simp only [rmS,rmC]
    (refine Le.ok some [] ?_;constructor;all_goals (try simp only [vle,vkt,seval,tbE9_law,xbE9_1,eCabin,eTk,mBunk,mCabin,mTk,aChart,cChart,aAsk,cAsk,rmS,pBag,pChartOf,pAskedOf,sRoomF,sSellF,scheck,sselling,List.length_map]))
    all_goals first|rfl|(simp;done)
  simp only at hi ⊢
  obtain ⟨hI,_⟩:=hinv i hi
  obtain ⟨g1,g2⟩:=hgo hi
  obtain ⟨c,hc⟩:∃ c,rmC C ⟨P,f,t,[s],d⟩ i=c:=⟨_,rfl⟩
  rw [hc] at hI g1 g2 ⊢
  have ec:(⟨c.cabins,c.secs,c.sold⟩:Chart)=c:=rfl
  have b1:c.cabins.length≤maxLen:=by rw [hI.cabs];exact c1
  have b2:=(val_of hI.chk).many
  have d1:decide ((i:Int)≤(n:Int))=true:=decide_eq_true (by omega)
  have w0:IntKind.wrap .i64 (60+(i:Int))=60+(i:Int):=wrap64 (by omega) (by omega)
  obtain ⟨A,hAe⟩:∃ A,askN ⟨P,f,t,[s],d⟩ (60+(i:Int))=A:=⟨_,rfl⟩
  have eA:(⟨60+(i:Int),f,t,[s],false⟩:Ask)=A:=hAe
  rw [hAe] at g1 g2
  have ds:dInt [DV.v (Value.int .i64 s)]=s:=rfl
  simp only [rmS]
  by_cases hin:i=n
  · have g2:=g2 hin
    have d2:decide ((i:Int)=(n:Int))=true:=decide_eq_true (by omega)
    obtain ⟨X,hX⟩:∃ X,(sellA c A).1=X:=⟨_,rfl⟩
    repeat' (first|(apply nx;with_reducible constructor)|refine uq (by decide) ?_|((first|refine vx env fun Q hQ=>?_|refine vz fun Q hQ=>?_);simp only [vkt,seval,tbE9_law,xbE9_1,eCabin,eTk,mBunk,mCabin,mTk,aChart,cChart,aAsk,cAsk,rmS,pBag,pChartOf,pAskedOf,sRoomF,sSellF,scheck,sselling,List.length_map,ec,ds,eA,b1,c2,d1,d2,w0,g2,hX,decide_true];(try simp only [ite_and]);(repeat' (first|with_reducible assumption|refine And.intro ?_ ?_|intro hp));all_goals (first|(refine hQ _ ?_;clear hQ Q)|(refine hQ _ (fun h=>?_) (fun h=>?_) <;> clear hQ Q <;> (try simp only [vki,reduceCtorEq] at h))|(refine vq ?_;kernel_rfl)|omega|assumption|with_reducible rfl|skip)))
    (simp only [vrt,Try.results9,vkt,seval,tbE9_law,xbE9_1,eCabin,eTk,mBunk,mCabin,mTk,aChart,cChart,aAsk,cAsk,rmS,pBag,pChartOf,pAskedOf,sRoomF,sSellF,scheck,sselling,List.length_map];refine Fin.val rfl ?_;(try simp only [AV.le,AV.leL]))
    all_goals first|rfl|(simp;done)
  · have g1:=g1 (by omega)
    have d2:decide ((i:Int)=(n:Int))=false:=decide_eq_false (by omega)
    obtain ⟨hJ,_⟩:=hinv (i+1) (by omega)
    obtain ⟨X,hX⟩:∃ X,rmC C ⟨P,f,t,[s],d⟩ (i+1)=X:=⟨_,rfl⟩
    rw [hX] at hJ g1
    have eX:(⟨X.cabins,X.secs,X.sold⟩:Chart)=X:=rfl
    have hXl:X.sold.length=c.sold.length+1:=by rw [hJ.len,hI.len];omega
    have hXc:checkE X=0:=hJ.chk
    have b3:X.cabins.length≤maxLen:=by rw [hJ.cabs];exact c1
    have w1:IntKind.wrap .i64 ((c.sold.length:Int)+1)=((c.sold.length+1:Nat):Int):=by rw [wrap64 (by omega) (by omega)];rfl
    have w2:IntKind.wrap .i64 ((i:Int)+1)=((i+1:Nat):Int):=by rw [wrap64 (by omega) (by omega)];rfl
    repeat' (first|(apply nx;with_reducible constructor)|refine uq (by decide) ?_|((first|refine vx env fun Q hQ=>?_|refine vz fun Q hQ=>?_);simp only [vkt,seval,tbE9_law,xbE9_1,eCabin,eTk,mBunk,mCabin,mTk,aChart,cChart,aAsk,cAsk,rmS,pBag,pChartOf,pAskedOf,sRoomF,sSellF,scheck,sselling,List.length_map,ec,ds,eA,eX,b1,b3,c2,d1,d2,w0,w1,w2,g1,hXl,hXc,decide_true];(try simp only [ite_and]);(repeat' (first|with_reducible assumption|refine And.intro ?_ ?_|intro hp));all_goals (first|(refine hQ _ ?_;clear hQ Q)|(refine hQ _ (fun h=>?_) (fun h=>?_) <;> clear hQ Q <;> (try simp only [vki,reduceCtorEq] at h))|(refine vq ?_;kernel_rfl)|omega|assumption|with_reducible rfl|skip)))
    refine ⟨⟨i+1,by omega⟩,by show n - (i+1) < n - i;omega, ?_⟩
    simp only [rmS,hX]
    (refine Le.ok some [] ?_;constructor;all_goals (try simp only [vle,vkt,seval,tbE9_law,xbE9_1,eCabin,eTk,mBunk,mCabin,mTk,aChart,cChart,aAsk,cAsk,rmS,pBag,pChartOf,pAskedOf,sRoomF,sSellF,scheck,sselling,List.length_map]))
    all_goals first|rfl|(simp;done)
end Go.Sym.B
