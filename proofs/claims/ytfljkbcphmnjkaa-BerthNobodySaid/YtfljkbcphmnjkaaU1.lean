/- Walks and what they compute, joined: part 1. -/
import Derived.Test.YtfljkbcphmnjkaaB3
set_option linter.all false
namespace Go.Sym.B
open Go Go.Sym Go.Proofs Go.Sym.C
theorem _root_.Go.Sym.vj {a b:Prop} (x:a) (y:b):a∧b:=⟨x,y⟩
def _root_.Go.Sym.uq:=@blockK_miss
def _root_.Go.Sym.ux:=@blockK_hit
def _root_.Go.Sym.uz:=@blockK_n
def _root_.Go.Sym.uj:=@blockK_r
def _root_.Go.Sym.uk:=@thenK_x
def _root_.Go.Sym.uw:=@thenK_r
def _root_.Go.Sym.uv:=@thenK_n
def _root_.Go.Sym.vq:=@drawB_of
def _root_.Go.Sym.vx:=@sym_reg
def _root_.Go.Sym.vz:=@sym_cz
def mineB (p:List Bunk) (k:Int):Bool:=p.any fun b=>decide (b.cab=k)
def emH (c:Chart) (s:Int) (k:Nat) (m:Nat):Bool:=(List.range m).all fun (j:Nat)=>!heldB c.sold ⟨(k:Int),(j:Int)⟩ s
def ltB (c:Chart) (p:List Bunk) (s:Int) (k:Nat):Bool:=mineB p k && emH c s k (c.cabins.getD k default).beds.toNat
def ltC (c:Chart) (p:List Bunk) (s:Int):Nat→Nat
  |0=>0
  |k+1=>ltC c p s k+if ltB c p s k then 1 else 0
def ltS (c:Chart) (a:Ask) (p:List Bunk):Nat→Nat
  |0=>0
  |j+1=>ltS c a p j+ltC c p (a.frm+(j:Int)) c.cabins.length
def lostN (c:Chart) (a:Ask) (p:List Bunk):Nat:=ltS c a p (a.to - a.frm).toNat
def mxK (f:Nat→Int):Nat→Int × Nat
  |0=>(-1,0)
  |i+1=>if (mxK f i).1 < f i then (f i,i) else mxK f i
theorem empty_app (l:List Tk) (t:Tk) (s i:Int):emptyB (l++[t]) s i=(emptyB l s i && !(atB s t && decide (t.cab=i))):=by
  unfold emptyB
  rw [List.all_append]
  simp
theorem growP_empty {cs:List Cabin} {a:Ask}:∀ (m:Nat) (sold:List Tk) (begun:List Bunk),∀ x ∈ growP cs a m sold begun,∃ new:List Bunk,x.1=begun++new∧∀ s i:Int,emptyB x.2 s i=(emptyB sold s i && new.all fun b=>!((decide (a.frm≤s) && decide (s < a.to)) && decide (b.cab=i)))
  |0,sold,begun,x,hx=>by
    simp only [growP,List.mem_singleton] at hx
    subst hx
    exact ⟨[],by simp,fun s i=>by simp⟩
  |m+1,sold,begun,x,hx=>by
    rw [growP_succ,List.mem_flatMap] at hx
    obtain ⟨b,hb,hx⟩:=hx
    unfold gbL at hx
    split at hx
    · obtain ⟨new,h1,h2⟩:=growP_empty m _ _ x hx
      refine ⟨b :: new,by rw [h1];simp,fun s i=>?_⟩
      rw [h2,empty_app,List.all_cons,Bool.and_assoc]
      rfl
    · simp at hx
theorem inB_at {s:Int} {t:Tk}:inB s t.frm (t.to - 1)=atB s t:=by
  unfold inB atB
  congr 1
  rw [decide_eq_decide];omega
theorem emp_held {c:Chart} (hv:Val c) {k:Nat} (s:Int):emH c s k (c.cabins.getD k default).beds.toNat=emptyB c.sold s k:=by
  rw [Bool.eq_iff_iff]
  unfold emH emptyB
  rw [List.all_eq_true,List.all_eq_true]
  constructor
  · intro h t ht
    cases hq:(atB s t && decide (t.cab=(k:Int))) with
    |false=>rfl
    |true =>
      rw [Bool.and_eq_true,decide_eq_true_eq] at hq
      obtain ⟨h1,h2⟩:=hq
      have hk:=hv.tk t ht
      have hb:=hk.bed
      rw [h2] at hb
      have hb:0≤t.bed∧t.bed < (c.cabins.getD k default).beds:=hb
      have:=h t.bed.toNat (List.mem_range.2 (by omega))
      rw [Int.toNat_of_nonneg hb.1] at this
      have hh:heldB c.sold ⟨k,t.bed⟩ s=true:=List.any_eq_true.2 ⟨t,ht,by unfold onB;rw [inB_at,h1,decide_eq_true h2,decide_eq_true rfl];rfl⟩
      rw [hh] at this
      exact absurd this (by decide)
  · intro h j hj
    cases hq:heldB c.sold ⟨(k:Int),(j:Int)⟩ s with
    |false=>rfl
    |true =>
      obtain ⟨t,ht,h1⟩:=List.any_eq_true.1 hq
      unfold onB at h1
      rw [inB_at,Bool.and_eq_true,Bool.and_eq_true,decide_eq_true_eq] at h1
      have:=h t ht
      rw [h1.2,decide_eq_true h1.1.1] at this
      exact absurd this (by decide)
def cntE (sold:List Tk) (s:Int) (n:Nat):Nat:=((List.range n).filter fun (i:Nat)=>emptyB sold s i).length
theorem cntE_succ (sold:List Tk) (s:Int) (n:Nat):cntE sold s (n+1)=cntE sold s n+if emptyB sold s n then 1 else 0:=by
  unfold cntE
  rw [List.range_succ,List.filter_append,List.length_append]
  cases h:emptyB sold s n <;> simp [h]
def sumE (sold:List Tk) (n:Nat):Nat→Nat
  |0=>0
  |s+1=>sumE sold n s+cntE sold s n
theorem rest_sum (cs:List Cabin) (secs:Int) (sold:List Tk):restN cs secs sold=(sumE sold cs.length secs.toNat:Int):=by
  unfold restN
  have:∀ k,((List.range k).flatMap fun (s:Nat)=>(List.range cs.length).filter fun (i:Nat)=>emptyB sold s i).length=sumE sold cs.length k:=by
    intro k
    induction k with
    |zero=>rfl
    |succ k ih =>
      rw [List.range_succ,List.flatMap_append,List.length_append,ih,sumE]
      simp [cntE]
  rw [this]
theorem cnt_after {c:Chart} {a:Ask} (hv:Val c) {sold2:List Tk} {p:List Bunk} {s:Int} (h:∀ i:Int,emptyB sold2 s i=(emptyB c.sold s i && p.all fun b=>!((decide (a.frm≤s) && decide (s < a.to)) && decide (b.cab=i)))) :
    ∀ n,cntE c.sold s n=cntE sold2 s n+if a.frm≤s∧s < a.to then ltC c p s n else 0
  |0=>by
    have:∀ l:List Tk,cntE l s 0=0:=fun l=>rfl
    rw [this,this]
    split <;> rfl
  |n+1=>by
    have ih:=cnt_after hv h n
    rw [cntE_succ,cntE_succ,ih,h n]
    by_cases hs:a.frm≤s∧s < a.to
    · rw [if_pos hs,if_pos hs,ltC]
      have hm:(p.all fun b=>!((decide (a.frm≤s) && decide (s < a.to)) && decide (b.cab=(n:Int))))=!mineB p n:=by
        unfold mineB
        rw [decide_eq_true hs.1,decide_eq_true hs.2,List.not_any_eq_all_not]
        rfl
      have hl:ltB c p s n=(mineB p n && emptyB c.sold s n):=by unfold ltB;rw [emp_held hv]
      rw [hm,hl]
      cases mineB p n <;> cases emptyB c.sold s n <;> simp <;> omega
    · rw [if_neg hs,if_neg hs]
      have hm:(p.all fun b=>!((decide (a.frm≤s) && decide (s < a.to)) && decide (b.cab=(n:Int))))=true:=by
        rw [show (decide (a.frm≤s) && decide (s < a.to))=false by rw [Bool.and_eq_false_iff];by_cases h1:a.frm≤s;right;simpa using fun h=>hs ⟨h1,h⟩;left;simpa using h1]
        simp
      rw [hm]
      cases emptyB c.sold s n <;> simp
theorem sum_after {c:Chart} {a:Ask} (hv:Val c) {sold2:List Tk} {p:List Bunk} (h:∀ s i:Int,emptyB sold2 s i=(emptyB c.sold s i && p.all fun b=>!((decide (a.frm≤s) && decide (s < a.to)) && decide (b.cab=i)))) {f t:Nat} (hf:a.frm=f) (ht:a.to=t) :
    ∀ k,sumE c.sold c.cabins.length k=sumE sold2 c.cabins.length k+ltS c a p (min k t - f)
  |0=>by simp [sumE,ltS]
  |k+1=>by
    rw [sumE,sumE,sum_after hv h hf ht k,cnt_after hv (h k)]
    rw [hf,ht]
    by_cases hk:f≤k∧k < t
    · rw [if_pos (by omega),show min (k+1) t - f=(min k t - f)+1 by omega,ltS,hf,show (f:Int)+((min k t - f:Nat):Int)=(k:Int) by omega]
      omega
    · rw [if_neg (by omega),show min (k+1) t - f=min k t - f by omega]
      omega
theorem rest_after {c:Chart} {a:Ask} (h:bothE c a=0) {x:List Bunk × List Tk} (hx:x ∈ plP c a):restN c.cabins c.secs x.2=restN c.cabins c.secs c.sold - lostN c a x.1:=by
  have hv:=(plOk_of h).val
  have hw:=ask_way h
  obtain ⟨new,h1,h2⟩:=growP_empty _ _ _ x hx
  rw [List.nil_append] at h1
  rw [rest_sum,rest_sum]
  obtain ⟨f,hf⟩:∃ f:Nat,a.frm=f:=⟨a.frm.toNat,by omega⟩
  obtain ⟨t,ht⟩:∃ t:Nat,a.to=t:=⟨a.to.toNat,by omega⟩
  have:=sum_after hv h2 hf ht c.secs.toNat
  rw [this,← h1]
  unfold lostN
  rw [show min c.secs.toNat t - f=(a.to - a.frm).toNat by omega]
  omega
theorem rest_nn (cs:List Cabin) (secs:Int) (sold:List Tk):0≤restN cs secs sold:=by rw [rest_sum];omega
def rsF (c:Chart) (a:Ask) (i:Nat):Int:=restN c.cabins c.secs c.sold - lostN c a ((plP c a).getD i default).1
theorem bs_mx {c:Chart} {a:Ask} (h:bothE c a=0):∀ j,j≤(plP c a).length→(j=0∧bsK c a j=(false,[],0))∨(bsK c a j=(true,((plP c a).getD (mxK (rsF c a) j).2 default).1,(mxK (rsF c a) j).1)∧(mxK (rsF c a) j).2 < j)
  |0,_=>.inl ⟨rfl,rfl⟩
  |j+1,hj=>by
    right
    have hm:restN c.cabins c.secs ((plP c a).getD j default).2=rsF c a j:=rest_after h (gMem (by omega))
    have h0:0≤rsF c a j:=by rw [← hm];exact rest_nn _ _ _
    rw [bsK,hm]
    rcases bs_mx h j (by omega) with ⟨h1,h2⟩|⟨h1,h2⟩
    · subst h1
      rw [h2,mxK,mxK]
      simp only [Bool.not_false,Bool.true_or,if_true]
      rw [if_pos (by omega)]
      exact ⟨rfl,by simp only;omega⟩
    · rw [h1,mxK]
      simp only [Bool.not_true,Bool.false_or,decide_eq_true_eq]
      split
      · exact ⟨rfl,by simp only;omega⟩
      · exact ⟨rfl,by omega⟩
end Go.Sym.B
namespace Go.Sym.B
open Go Go.Sym Go.Proofs Go.Sym.C
theorem pl_len {c:Chart} {a:Ask} {j:Nat} (hj:j < (plP c a).length):((plP c a).getD j default).1.length=a.sexes.length:=by
  have:=growP_one a.sexes.length c.sold [] _ (gMem (l:=plP c a) (d:=default) hj)
  simpa using this
end Go.Sym.B
namespace Go.Sym.B
open Go Go.Sym Go.Proofs Go.Sym.C
def slTk (a:Ask) (l:List Bunk) (k:Nat):List Tk:=(List.range k).map fun i=>tkOf a i (l.getD i default)
theorem tks_succ (a:Ask) (l:List Bunk) (k:Nat):slTk a l (k+1)=slTk a l k++[tkOf a k (l.getD k default)]:=by
  unfold slTk
  rw [List.range_succ,List.map_append];rfl
theorem tks_len (a:Ask) (l:List Bunk) (k:Nat):(slTk a l k).length=k:=by simp [slTk]
theorem best_ok {c:Chart} {a:Ask} (h:(bestA c a).2=0):bothE c a=0∧(bestA c a).1.length=a.sexes.length∧(bestA c a).1 ∈ placesA c a:=by
  have h0:bothE c a=0:=by
    unfold bestA at h
    split at h
    · assumption
    · exact absurd h (by assumption)
  have hP:placesA c a=(plP c a).map (·.1):=by unfold placesA;rw [if_pos h0]
  rcases bs_mx h0 (plP c a).length (Nat.le_refl _) with ⟨h1,h2⟩|⟨h1,h2⟩
  · have:(bestA c a).2=11:=by unfold bestA;rw [if_pos h0,h2];rfl
    omega
  · have hb:(bestA c a).1=((plP c a).getD (mxK (rsF c a) (plP c a).length).2 default).1:=by
      unfold bestA;rw [if_pos h0,h1];rfl
    refine ⟨h0,by rw [hb,pl_len h2], ?_⟩
    rw [hb,hP]
    exact List.mem_map.2 ⟨_,gMem h2,rfl⟩
end Go.Sym.B
namespace Go.Sym.B
open Go Go.Sym Go.Proofs Go.Sym.C
theorem bunks_3 {cs:List Cabin} (h2:∀ x ∈ cs,1≤x.beds∧x.beds≤3):(bunksL cs).length≤3 * cs.length:=by
  rw [bunks_len]
  induction cs with
  |nil=>simp [bdsL]
  |cons x l ih =>
    have h3:=ih fun y hy=>h2 y (List.mem_cons_of_mem _ hy)
    have h4:=h2 x (List.mem_cons_self ..)
    simp only [bdsL,List.map_cons,List.sum_cons,List.length_cons] at h3 ⊢
    omega
theorem bunks_n {cs:List Cabin} (h1:cs.length≤3) (h2:∀ x ∈ cs,1≤x.beds∧x.beds≤3):(bunksL cs).length≤9:=by
  have:=bunks_3 h2
  omega
end Go.Sym.B
namespace Go.Sym.B
open Go Go.Sym Go.Proofs Go.Sym.C
theorem beside_zero {t:Tk} {l:List Tk}:besideE t l=0 ↔ ∀ x ∈ l,twiceB t x=false∧togB x t=true:=by
  unfold besideE
  constructor
  · intro h x hx
    split at h
    · exact absurd h (by decide)
    rename_i h1
    split at h
    · exact absurd h (by decide)
    rename_i h2
    refine ⟨?_, ?_⟩
    · cases hq:twiceB t x with
      |false=>rfl
      |true=>exact absurd (List.any_eq_true.2 ⟨x,hx,hq⟩) h1
    · cases hq:togB x t with
      |true=>rfl
      |false=>exact absurd (List.any_eq_true.2 ⟨x,hx,by rw [hq];rfl⟩) h2
  · intro h
    rw [if_neg,if_neg]
    · rw [List.any_eq_true]
      rintro ⟨x,hx,h1⟩
      rw [(h x hx).2] at h1
      exact absurd h1 (by decide)
    · rw [List.any_eq_true]
      rintro ⟨x,hx,h1⟩
      rw [(h x hx).1] at h1
      exact absurd h1 (by decide)
structure RmInv (C:Chart) (a:Ask) (i:Nat) (c:Chart):Prop where
  chk:checkE c=0
  cabs:c.cabins=C.cabins
  secs:c.secs=C.secs
  len:c.sold.length=C.sold.length+i
  lt:∀ t ∈ c.sold,t.party < 60+(i:Int)
end Go.Sym.B
namespace Go.Sym.B
open Go Go.Sym Go.Proofs Go.Sym.C
def bkF (i k:Nat):List Bunk:=(List.range k).map fun (m:Nat)=>⟨(i:Int),(m:Int)⟩
def bkP (cs:List Cabin) (i:Nat):List Bunk:=(List.range i).flatMap fun i=>bkF i (cs.getD i default).beds.toNat
theorem bkF_succ (i k:Nat):bkF i (k+1)=bkF i k++[⟨(i:Int),(k:Int)⟩]:=by
  unfold bkF
  rw [List.range_succ,List.map_append];rfl
theorem bkF_len (i k:Nat):(bkF i k).length=k:=by simp [bkF]
theorem bkP_succ (cs:List Cabin) (i:Nat):bkP cs (i+1)=bkP cs i++bkF i (cs.getD i default).beds.toNat:=by
  unfold bkP
  rw [List.range_succ,List.flatMap_append]
  simp
theorem bkP_len {cs:List Cabin} (hb:∀ x ∈ cs,x.beds≤3):∀ i,i≤cs.length→(bkP cs i).length≤3 * i
  |0,_=>by simp [bkP]
  |i+1,h=>by
    have h1:=bkP_len hb i (by omega)
    have h2:=hb _ (gMem (d:=default) (show i < cs.length by omega))
    rw [bkP_succ,List.length_append,bkF_len]
    omega
def bkS (c:Chart) (T:List (Nat × AV)) (l:List Bunk):St:={ t:=asg (T++[(1,.ptr 0 0),(3,.row 1)]),h:=hasg [(0,.cells (cChart c)),(1,.row 49 2 (l.map eBunk))],n:=2 }
def tbE10_rBunks:=vj @ty3 (vj @ty25 (vj @ty28 (vj @ty37 (vj @ty49 (vj @ty51 (vj @ti3.eq_1 (vj @ti25.eq_1 (vj @ti28.eq_1 (vj @ti37.eq_1 (vj @ti49.eq_1 @ti51.eq_1))))))))))
def xbE10_1:=vj @aI.eq_1 (@aB.eq_1)
theorem rBunks_fn (c:Chart) (hc:c.cabins.length≤3) (hb:∀ x ∈ c.cabins,x.beds≤3):FnV Try.prog 22 [aChart c] (aBunks (bunksL c.cabins)):=by
  have env:Env (fun _=>True) Try.prog tyB (tab []):=mkEnv trivial
  refine Fn.of (A:=fun _=>True) (n0:=0) (D:=noD) (Fn0 Try.func22 rfl (fun vs w=>by kernel_rfl) (by kernel_rfl)) (by simp) (by simp [AV.ids,AV.idsL,aChart,cChart]) (fun i o h=>by cases h) (fun _ _ _ _=>trivial) noD_ok ?_
  have hmx:(100000:Nat)≤maxLen:=by decide
  rw [show bunksL c.cabins=bkP c.cabins c.cabins.length from rfl]
  repeat' (first|(apply nx;with_reducible constructor)|refine uq (by decide) ?_|((first|refine vx env fun Q hQ=>?_|refine vz fun Q hQ=>?_);simp only [vkt,seval,tbE10_rBunks,xbE10_1,aBunk,aBunks,eBunk,gBunk,rBunk,eCabin,gCabin,mBunk,mCabin,mTk,aChart,cChart,bkS,List.length_map];(try simp only [ite_and]);(repeat' (first|with_reducible assumption|refine And.intro ?_ ?_|intro hp));all_goals (first|(refine hQ _ ?_;clear hQ Q)|(refine hQ _ (fun h=>?_) (fun h=>?_) <;> clear hQ Q <;> (try simp only [vki,reduceCtorEq] at h))|(refine vq ?_;kernel_rfl)|omega|assumption|with_reducible rfl|skip)))
  refine sym_loop (fun i:{ i:Nat // i≤c.cabins.length }=>bkS c [(4,aI i.1)] (bkP c.cabins i.1)) (fun i=>c.cabins.length - i.1) ⟨0,Nat.zero_le _⟩ ?_ fun ⟨i,hi⟩=>?_
  · simp only [bkS,show bkP c.cabins 0=[] from rfl,List.cons_append,List.nil_append]
    (refine Le.ok (fun i=>if i=1 then none else some i) [] ?_;constructor;all_goals (try simp only [vle,vkt,seval,tbE10_rBunks,xbE10_1,aBunk,aBunks,eBunk,gBunk,rBunk,eCabin,gCabin,mBunk,mCabin,mTk,aChart,cChart,bkS,List.length_map]))
    all_goals first|rfl|(simp;done)
  simp only at hi ⊢
  have hL:=bkP_len hb i hi
  have hS:=bkP_succ c.cabins i
  obtain ⟨L,hLe⟩:∃ L,bkP c.cabins i=L:=⟨_,rfl⟩
  rw [hLe] at hL hS
  rw [hLe]
  by_cases hil:i < c.cabins.length
  · have d1:decide ((i:Int) < (c.cabins.length:Int))=true:=decide_eq_true (by omega)
    have e9:IntKind.wrap .i64 ((i:Int)+1)=((i+1:Nat):Int):=by rw [wrap64 (by omega) (by omega)];rfl
    have i0:((i:Int)).toNat=i:=rfl
    obtain ⟨x,hx⟩:∃ x,c.cabins.getD i default=x:=⟨_,rfl⟩
    have hxb:=hb x (by rw [← hx];exact gMem hil)
    rw [hx] at hS
    simp only [bkS,List.cons_append,List.nil_append]
    repeat' (first|(apply nx;with_reducible constructor)|refine uq (by decide) ?_|((first|refine vx env fun Q hQ=>?_|refine vz fun Q hQ=>?_);simp only [vkt,seval,tbE10_rBunks,xbE10_1,aBunk,aBunks,eBunk,gBunk,rBunk,eCabin,gCabin,mBunk,mCabin,mTk,aChart,cChart,bkS,List.length_map,d1,i0];(try simp only [ite_and]);(repeat' (first|with_reducible assumption|refine And.intro ?_ ?_|intro hp));all_goals (first|(refine hQ _ ?_;clear hQ Q)|(refine hQ _ (fun h=>?_) (fun h=>?_) <;> clear hQ Q <;> (try simp only [vki,reduceCtorEq] at h))|(refine vq ?_;kernel_rfl)|omega|assumption|with_reducible rfl|skip)))
    refine sym_loop (fun k:{ k:Nat // k≤x.beds.toNat }=>bkS c [(4,aI i),(5,aI k.1)] (L++bkF i k.1)) (fun k=>x.beds.toNat - k.1) ⟨0,Nat.zero_le _⟩ ?_ fun ⟨k,hk⟩=>?_
    · simp only [bkS,show bkF i 0=[] from rfl,List.append_nil,List.cons_append,List.nil_append]
      (refine Le.ok some [] ?_;constructor;all_goals (try simp only [vle,vkt,seval,tbE10_rBunks,xbE10_1,aBunk,aBunks,eBunk,gBunk,rBunk,eCabin,gCabin,mBunk,mCabin,mTk,aChart,cChart,bkS,List.length_map]))
      all_goals first|rfl|(simp;done)
    simp only at hk ⊢
    have hF:=bkF_succ i k
    have hFl:(L++bkF i k).length≤100:=by rw [List.length_append,bkF_len];omega
    obtain ⟨M,hM⟩:∃ M,L++bkF i k=M:=⟨_,rfl⟩
    have hMS:L++bkF i (k+1)=M++[⟨(i:Int),(k:Int)⟩]:=by rw [hF,← List.append_assoc,hM]
    rw [hM] at hFl
    simp only [bkS,hM,List.cons_append,List.nil_append]
    by_cases hkl:k < x.beds.toNat
    · have d2:decide ((k:Int) < x.beds)=true:=decide_eq_true (by omega)
      have e8:IntKind.wrap .i64 ((k:Int)+1)=((k+1:Nat):Int):=by rw [wrap64 (by omega) (by omega)];rfl
      have hm:M.length+1≤maxLen:=by omega
      repeat' (first|(apply nx;with_reducible constructor)|refine uq (by decide) ?_|((first|refine vx env fun Q hQ=>?_|refine vz fun Q hQ=>?_);simp only [vkt,seval,tbE10_rBunks,xbE10_1,aBunk,aBunks,eBunk,gBunk,rBunk,eCabin,gCabin,mBunk,mCabin,mTk,aChart,cChart,bkS,List.length_map,i0,hil,hx,d2,e8,hm];(try simp only [ite_and]);(repeat' (first|with_reducible assumption|refine And.intro ?_ ?_|intro hp));all_goals (first|(refine hQ _ ?_;clear hQ Q)|(refine hQ _ (fun h=>?_) (fun h=>?_) <;> clear hQ Q <;> (try simp only [vki,reduceCtorEq] at h))|(refine vq ?_;kernel_rfl)|omega|assumption|with_reducible rfl|skip)))
      refine ⟨⟨k+1,hkl⟩,by show x.beds.toNat - (k+1) < x.beds.toNat - k;omega, ?_⟩
      simp only [bkS,hMS,List.cons_append,List.nil_append]
      (refine Le.ok (fun i=>if i=1 then some 3 else some i) [] ?_;constructor;all_goals (try simp only [vle,vkt,seval,tbE10_rBunks,xbE10_1,aBunk,aBunks,eBunk,gBunk,rBunk,eCabin,gCabin,mBunk,mCabin,mTk,aChart,cChart,bkS,List.length_map]))
      all_goals first|rfl|(rw [List.map_append];rfl)|(simp;done)|(intro i hi;rw [if_neg (by omega)];done)
    · have d2:decide ((k:Int) < x.beds)=false:=decide_eq_false (by omega)
      obtain rfl:k=x.beds.toNat:=by omega
      repeat' (first|(apply nx;with_reducible constructor)|refine uq (by decide) ?_|((first|refine vx env fun Q hQ=>?_|refine vz fun Q hQ=>?_);simp only [vkt,seval,tbE10_rBunks,xbE10_1,aBunk,aBunks,eBunk,gBunk,rBunk,eCabin,gCabin,mBunk,mCabin,mTk,aChart,cChart,bkS,List.length_map,i0,hil,hx,d2,e9];(try simp only [ite_and]);(repeat' (first|with_reducible assumption|refine And.intro ?_ ?_|intro hp));all_goals (first|(refine hQ _ ?_;clear hQ Q)|(refine hQ _ (fun h=>?_) (fun h=>?_) <;> clear hQ Q <;> (try simp only [vki,reduceCtorEq] at h))|(refine vq ?_;kernel_rfl)|omega|assumption|with_reducible rfl|skip)))
      refine ⟨⟨i+1,hil⟩,by show c.cabins.length - (i+1) < c.cabins.length - i;omega, ?_⟩
      simp only [bkS,hS,hM,List.cons_append,List.nil_append]
      (refine Le.ok some [] ?_;constructor;all_goals (try simp only [vle,vkt,seval,tbE10_rBunks,xbE10_1,aBunk,aBunks,eBunk,gBunk,rBunk,eCabin,gCabin,mBunk,mCabin,mTk,aChart,cChart,bkS,List.length_map]))
      all_goals first|rfl|(simp;done)
  · have d1:decide ((i:Int) < (c.cabins.length:Int))=false:=decide_eq_false (by omega)
    obtain rfl:i=c.cabins.length:=by omega
    rw [hLe]
    simp only [bkS,List.cons_append,List.nil_append]
    repeat' (first|(apply nx;with_reducible constructor)|refine uq (by decide) ?_|((first|refine vx env fun Q hQ=>?_|refine vz fun Q hQ=>?_);simp only [vkt,seval,tbE10_rBunks,xbE10_1,aBunk,aBunks,eBunk,gBunk,rBunk,eCabin,gCabin,mBunk,mCabin,mTk,aChart,cChart,bkS,List.length_map,d1];(try simp only [ite_and]);(repeat' (first|with_reducible assumption|refine And.intro ?_ ?_|intro hp));all_goals (first|(refine hQ _ ?_;clear hQ Q)|(refine hQ _ (fun h=>?_) (fun h=>?_) <;> clear hQ Q <;> (try simp only [vki,reduceCtorEq] at h))|(refine vq ?_;kernel_rfl)|omega|assumption|with_reducible rfl|skip)))
    (simp only [vrt,Try.results22,vkt,seval,tbE10_rBunks,xbE10_1,aBunk,aBunks,eBunk,gBunk,rBunk,eCabin,gCabin,mBunk,mCabin,mTk,aChart,cChart,bkS,List.length_map];refine Fin.val rfl ?_;(try simp only [AV.le,AV.leL]))
    all_goals first|rfl|(simp;done)|exact ⟨_,_,rfl⟩
def srBunks:List AV→Prop × AV
  |[.agg [.sl c0,.v (.int .i64 c1),.sl c2]]=>(c0=(c0.map dCabin).map eCabin∧c2=(c2.map dTk).map eTk∧((⟨(c0.map dCabin),c1,(c2.map dTk)⟩:Chart)).cabins.length≤3∧∀ x ∈ ((⟨(c0.map dCabin),c1,(c2.map dTk)⟩:Chart)).cabins,x.beds≤3,aBunks (bunksL ((⟨(c0.map dCabin),c1,(c2.map dTk)⟩:Chart)).cabins))
  |_=>(False,.junk)
theorem erBunks {A:Frm→Prop}:EntryOK A Try.prog 22 (valE false srBunks):=valE_ok fun vs hv h=>by
  clear hv
  unfold srBunks at h ⊢
  split at h
  · rename_i c0 c1 c2;obtain ⟨q0,q1,k0,k1⟩:=h
    refine ⟨by first|trivial|(simp [AV.plain,AV.plainL,aI,aB,aInts,aBunks,aTks,aBunk,aTk,cTk];done)|(repeat' split) <;> simp [AV.plain,AV.plainL,aI,aB,aInts,aBunks,aTks,aBunk,aTk,cTk],fun h=>absurd h (by decide), ?_⟩
    have:=rBunks_fn ((⟨(c0.map dCabin),c1,(c2.map dTk)⟩:Chart)) k0 k1
    simp only [aCabins,aChart,aI,aTks,cChart,← q0,← q1] at this
    first|exact this|(simp only [aCabins,aChart,aI,aTks,cChart,← q0,← q1];exact this)
  · exact h.elim
def alL (bs:List Bunk):Nat→List (List Bunk)
  |0=>[[]]
  |m+1=>bs.flatMap fun b=>(alL bs m).map (b :: ·)
theorem alL_len (bs:List Bunk):∀ m,(alL bs m).length=bs.length ^ m
  |0=>rfl
  |m+1=>by
    rw [alL,List.length_flatMap]
    simp only [List.length_map,alL_len bs m]
    rw [List.map_const',List.sum_replicate_nat,Nat.pow_succ,Nat.mul_comm]
theorem alL_one {bs:List Bunk}:∀ {m},∀ p ∈ alL bs m,p.length=m
  |0,p,hp=>by rw [List.mem_singleton.1 hp];rfl
  |m+1,p,hp=>by
    obtain ⟨b,_,hp⟩:=List.mem_flatMap.1 hp
    obtain ⟨q,hq,rfl⟩:=List.mem_map.1 hp
    rw [List.length_cons,alL_one q hq]
def alP (bs:List Bunk) (R:List (List Bunk)) (i:Nat):List (List Bunk):=(bs.take i).flatMap fun b=>R.map (b :: ·)
theorem alP_succ {bs:List Bunk} (R:List (List Bunk)) {i:Nat} (h:i < bs.length):alP bs R (i+1)=alP bs R i++R.map ((bs.getD i default) :: ·):=by
  unfold alP
  rw [List.take_succ_eq_append_getElem h,List.flatMap_append,List.getD_eq_getElem?_getD,List.getElem?_eq_getElem h]
  simp
theorem alP_len (bs:List Bunk) (R:List (List Bunk)) (i:Nat):(alP bs R i).length≤i * R.length:=by
  unfold alP
  rw [List.length_flatMap]
  simp only [List.length_map]
  rw [List.map_const',List.sum_replicate_nat]
  exact Nat.mul_le_mul_right _ (by rw [List.length_take];omega)
def AlFn (m:Nat):Prop:=∀ bs:List Bunk,bs.length≤9→m≤3→Fn noB Try.prog 21 [aBunks bs,aI m] noH (.row 0) (hasg [(0,.row 37 1 ((alL bs m).map eBunks))]) 0
def pAl (m:Nat) (_:St):List AV→Option Pk
  |[.sl bs,.v (.int .i64 n)]=>some { pre:=bs=(bs.map dBunk).map eBunk∧n=m∧bs.length≤9∧m≤3,ar:=[.sl bs,.v (.int .i64 n)],v:=.row 0,L1:=[some (.row 37 1 ((alL (bs.map dBunk) m).map eBunks))] }
  |_=>none
theorem eAl {A:Frm→Prop} {m:Nat} (ih:AlFn m):EntryOK A Try.prog 21 (fnE (pAl m)):=fnE_ok fun S bs q h hp=>by
  unfold pAl at h
  split at h
  · rename_i bs n
    cases h
    obtain ⟨h1,rfl,h3,h4⟩:=hp
    have:=ih (bs.map dBunk) (by rw [List.length_map];exact h3) h4
    rw [aBunks,← h1] at this
    exact this
  · cases h
def alS (bs:List Bunk) (R M:List (List Bunk)) (T:List (Nat × AV)):St:={ t:=asg (T++[(0,aBunks bs),(5,.row 1),(6,.row 0)]),h:=hasg [(0,.row 37 1 (R.map eBunks)),(1,.row 37 1 (M.map eBunks))],n:=2 }
def tbE10_rLists:=vj @ty3 (vj @ty33 (vj @ty37 (vj @ty49 (vj @ti3.eq_1 (vj @ti33.eq_1 (vj @ti37.eq_1 @ti49.eq_1))))))
def xbE10_2:=vj @aI.eq_1 (@aB.eq_1)
theorem al_zero:AlFn 0:=by
  intro bs _ _
  have env:Env (fun _=>True) Try.prog tyB (tab []):=mkEnv trivial
  refine Fn.of (A:=fun _=>True) (n0:=0) (D:=noD) (Fn0 Try.func21 rfl (fun vs w=>by kernel_rfl) (by kernel_rfl)) (by simp) (by simp [AV.ids,AV.idsL,aBunks,aI]) (fun i o h=>by cases h) (fun _ _ _ _=>trivial) noD_ok ?_
  show Sym _ _ _ (startS [aBunks bs,aI 0] 0 noH) (retK tyB noD Try.f21 fun S rv=>Fin S rv (.row 0) 0 (hasg [(0,.row 37 1 [eBunks []])]) 0)
  repeat' (first|(apply nx;with_reducible constructor)|refine uq (by decide) ?_|((first|refine vx env fun Q hQ=>?_|refine vz fun Q hQ=>?_);simp only [vkt,seval,tbE10_rLists,xbE10_2,aBunk,aBunks,eBunk,eBunks,gBunk,gBunks,rBunk,rBunks,mBunk,pAl,alS,List.length_map,decide_true];(try simp only [ite_and]);(repeat' (first|with_reducible assumption|refine And.intro ?_ ?_|intro hp));all_goals (first|(refine hQ _ ?_;clear hQ Q)|(refine hQ _ (fun h=>?_) (fun h=>?_) <;> clear hQ Q <;> (try simp only [vki,reduceCtorEq] at h))|(refine vq ?_;kernel_rfl)|omega|assumption|with_reducible rfl|skip)))
  (simp only [vrt,Try.results21,vkt,seval,tbE10_rLists,xbE10_2,aBunk,aBunks,eBunk,eBunks,gBunk,gBunks,rBunk,rBunks,mBunk,pAl,alS,List.length_map];refine Fin.ok some [] ?_ ?_ ?_ ?_ ?_ rfl;all_goals (try simp only [vle,vkt,seval,tbE10_rLists,xbE10_2,aBunk,aBunks,eBunk,eBunks,gBunk,gBunks,rBunk,rBunks,mBunk,pAl,alS,List.length_map]))
  all_goals first|rfl|(simp;done)
theorem al_succ (m:Nat) (ih:AlFn m):AlFn (m+1):=by
  intro bs hbs hm3
  have env:Env (fun _=>True) Try.prog tyB (tab [(21,fnE (pAl m))]):=mkEnv ⟨eAl ih,trivial⟩
  refine Fn.of (A:=fun _=>True) (n0:=0) (D:=noD) (Fn0 Try.func21 rfl (fun vs w=>by kernel_rfl) (by kernel_rfl)) (by simp) (by simp [AV.ids,AV.idsL,aBunks,aI]) (fun i o h=>by cases h) (fun _ _ _ _=>trivial) noD_ok ?_
  have hmx:(100000:Nat)≤maxLen:=by decide
  obtain ⟨R,hR⟩:∃ R,alL bs m=R:=⟨_,rfl⟩
  have hRl:R.length≤1000:=by
    rw [← hR,alL_len]
    have h1:bs.length ^ m≤9 ^ m:=Nat.pow_le_pow_left hbs m
    have h2:9 ^ m≤9 ^ 3:=Nat.pow_le_pow_right (by decide) (by omega)
    omega
  have hR1:∀ p ∈ R,p.length≤3:=fun p hp=>by
    rw [← hR] at hp
    have:=alL_one p hp
    omega
  have hF:alL bs (m+1)=alP bs R bs.length:=by unfold alP;rw [List.take_length,← hR];rfl
  rw [hF]
  have d0:decide (((m+1:Nat):Int)=0)=false:=decide_eq_false (by omega)
  have w0:IntKind.wrap .i64 (((m+1:Nat):Int) - 1)=(m:Int):=by rw [wrap64 (by omega) (by omega)];omega
  have hm3':m≤3:=by omega
  repeat' (first|(apply nx;with_reducible constructor)|refine uq (by decide) ?_|((first|refine vx env fun Q hQ=>?_|refine vz fun Q hQ=>?_);simp only [vkt,seval,tbE10_rLists,xbE10_2,aBunk,aBunks,eBunk,eBunks,gBunk,gBunks,rBunk,rBunks,mBunk,pAl,alS,List.length_map,d0,w0,hbs,hm3',hR];(try simp only [ite_and]);(repeat' (first|with_reducible assumption|refine And.intro ?_ ?_|intro hp));all_goals (first|(refine hQ _ ?_;clear hQ Q)|(refine hQ _ (fun h=>?_) (fun h=>?_) <;> clear hQ Q <;> (try simp only [vki,reduceCtorEq] at h))|(refine vq ?_;kernel_rfl)|omega|assumption|with_reducible rfl|skip)))
  refine sym_loop (fun i:{ i:Nat // i≤bs.length }=>alS bs R (alP bs R i.1) [(7,aI i.1)]) (fun i=>bs.length - i.1) ⟨0,Nat.zero_le _⟩ ?_ fun ⟨i,hi⟩=>?_
  · simp only [alS,show alP bs R 0=[] from rfl,List.cons_append,List.nil_append]
    (refine Le.ok (fun i=>if i=1 then none else some i) [] ?_;constructor;all_goals (try simp only [vle,vkt,seval,tbE10_rLists,xbE10_2,aBunk,aBunks,eBunk,eBunks,gBunk,gBunks,rBunk,rBunks,mBunk,pAl,alS,List.length_map]))
    all_goals first|rfl|(simp;done)
  simp only at hi ⊢
  have hL:=alP_len bs R i
  have hL2:i * R.length≤9 * 1000:=Nat.mul_le_mul (by omega) hRl
  obtain ⟨L,hLe⟩:∃ L,alP bs R i=L:=⟨_,rfl⟩
  rw [hLe] at hL
  rw [hLe]
  by_cases hil:i < bs.length
  · have d1:decide ((i:Int) < (bs.length:Int))=true:=decide_eq_true (by omega)
    have e9:IntKind.wrap .i64 ((i:Int)+1)=((i+1:Nat):Int):=by rw [wrap64 (by omega) (by omega)];rfl
    have i0:((i:Int)).toNat=i:=rfl
    obtain ⟨b,hbe⟩:∃ b,bs.getD i default=b:=⟨_,rfl⟩
    have hS:=alP_succ R hil
    rw [hLe,hbe] at hS
    simp only [alS,List.cons_append,List.nil_append]
    repeat' (first|(apply nx;with_reducible constructor)|refine uq (by decide) ?_|((first|refine vx env fun Q hQ=>?_|refine vz fun Q hQ=>?_);simp only [vkt,seval,tbE10_rLists,xbE10_2,aBunk,aBunks,eBunk,eBunks,gBunk,gBunks,rBunk,rBunks,mBunk,pAl,alS,List.length_map,d1,i0];(try simp only [ite_and]);(repeat' (first|with_reducible assumption|refine And.intro ?_ ?_|intro hp));all_goals (first|(refine hQ _ ?_;clear hQ Q)|(refine hQ _ (fun h=>?_) (fun h=>?_) <;> clear hQ Q <;> (try simp only [vki,reduceCtorEq] at h))|(refine vq ?_;kernel_rfl)|omega|assumption|with_reducible rfl|skip)))
    refine sym_loop (fun k:{ k:Nat // k≤R.length }=>alS bs R (L++(R.take k.1).map (b :: ·)) [(7,aI i),(8,aI k.1)]) (fun k=>R.length - k.1) ⟨0,Nat.zero_le _⟩ ?_ fun ⟨k,hk⟩=>?_
    · simp only [alS,List.take_zero,List.map_nil,List.append_nil,List.cons_append,List.nil_append]
      (refine Le.ok some [] ?_;constructor;all_goals (try simp only [vle,vkt,seval,tbE10_rLists,xbE10_2,aBunk,aBunks,eBunk,eBunks,gBunk,gBunks,rBunk,rBunks,mBunk,pAl,alS,List.length_map]))
      all_goals first|rfl|(simp;done)
    simp only at hk ⊢
    obtain ⟨M,hM⟩:∃ M,L++(R.take k).map (b :: ·)=M:=⟨_,rfl⟩
    have hMl:M.length≤10000:=by rw [← hM,List.length_append,List.length_map,List.length_take];omega
    simp only [alS,hM,List.cons_append,List.nil_append]
    by_cases hkl:k < R.length
    · have d2:decide ((k:Int) < (R.length:Int))=true:=decide_eq_true (by omega)
      have e8:IntKind.wrap .i64 ((k:Int)+1)=((k+1:Nat):Int):=by rw [wrap64 (by omega) (by omega)];rfl
      have k0:((k:Int)).toNat=k:=rfl
      have hm:M.length+1≤maxLen:=by omega
      obtain ⟨p,hp⟩:∃ p,R.getD k []=p:=⟨_,rfl⟩
      have hg:=hBunks hkl
      rw [hp] at hg
      have hpl:=hR1 p (by rw [← hp];exact gMem hkl)
      have hpm:1+p.length≤maxLen:=by omega
      have hMS:L++(R.take (k+1)).map (b :: ·)=M++[b :: p]:=by
        rw [List.take_succ_eq_append_getElem hkl,List.map_append,← List.append_assoc,hM,← hp]
        simp [List.getD_eq_getElem?_getD,hkl]
      repeat' (first|(apply nx;with_reducible constructor)|refine uq (by decide) ?_|((first|refine vx env fun Q hQ=>?_|refine vz fun Q hQ=>?_);simp only [vkt,seval,tbE10_rLists,xbE10_2,aBunk,aBunks,eBunk,eBunks,gBunk,gBunks,rBunk,rBunks,mBunk,pAl,alS,List.length_map,i0,k0,hil,hkl,hbe,hp,hg,d2,e8,hm,hpm];(try simp only [ite_and]);(repeat' (first|with_reducible assumption|refine And.intro ?_ ?_|intro hp));all_goals (first|(refine hQ _ ?_;clear hQ Q)|(refine hQ _ (fun h=>?_) (fun h=>?_) <;> clear hQ Q <;> (try simp only [vki,reduceCtorEq] at h))|(refine vq ?_;kernel_rfl)|omega|assumption|with_reducible rfl|skip)))
      refine ⟨⟨k+1,hkl⟩,by show R.length - (k+1) < R.length - k;omega, ?_⟩
      simp only [alS,hMS,List.cons_append,List.nil_append]
      (refine Le.ok (fun i=>if i=1 then some 5 else some i) [] ?_;constructor;all_goals (try simp only [vle,vkt,seval,tbE10_rLists,xbE10_2,aBunk,aBunks,eBunk,eBunks,gBunk,gBunks,rBunk,rBunks,mBunk,pAl,alS,List.length_map]))
      all_goals first|rfl|(rw [List.map_append];rfl)|(simp;done)|(intro i hi;rw [if_neg (by omega)];done)
    · have d2:decide ((k:Int) < (R.length:Int))=false:=decide_eq_false (by omega)
      obtain rfl:k=R.length:=by omega
      rw [List.take_length] at hM
      repeat' (first|(apply nx;with_reducible constructor)|refine uq (by decide) ?_|((first|refine vx env fun Q hQ=>?_|refine vz fun Q hQ=>?_);simp only [vkt,seval,tbE10_rLists,xbE10_2,aBunk,aBunks,eBunk,eBunks,gBunk,gBunks,rBunk,rBunks,mBunk,pAl,alS,List.length_map,d2,e9];(try simp only [ite_and]);(repeat' (first|with_reducible assumption|refine And.intro ?_ ?_|intro hp));all_goals (first|(refine hQ _ ?_;clear hQ Q)|(refine hQ _ (fun h=>?_) (fun h=>?_) <;> clear hQ Q <;> (try simp only [vki,reduceCtorEq] at h))|(refine vq ?_;kernel_rfl)|omega|assumption|with_reducible rfl|skip)))
      refine ⟨⟨i+1,hil⟩,by show bs.length - (i+1) < bs.length - i;omega, ?_⟩
      simp only [alS,hS,hM,List.cons_append,List.nil_append]
      (refine Le.ok some [] ?_;constructor;all_goals (try simp only [vle,vkt,seval,tbE10_rLists,xbE10_2,aBunk,aBunks,eBunk,eBunks,gBunk,gBunks,rBunk,rBunks,mBunk,pAl,alS,List.length_map]))
      all_goals first|rfl|(simp;done)
  · have d1:decide ((i:Int) < (bs.length:Int))=false:=decide_eq_false (by omega)
    obtain rfl:i=bs.length:=by omega
    rw [hLe]
    simp only [alS,List.cons_append,List.nil_append]
    repeat' (first|(apply nx;with_reducible constructor)|refine uq (by decide) ?_|((first|refine vx env fun Q hQ=>?_|refine vz fun Q hQ=>?_);simp only [vkt,seval,tbE10_rLists,xbE10_2,aBunk,aBunks,eBunk,eBunks,gBunk,gBunks,rBunk,rBunks,mBunk,pAl,alS,List.length_map,d1];(try simp only [ite_and]);(repeat' (first|with_reducible assumption|refine And.intro ?_ ?_|intro hp));all_goals (first|(refine hQ _ ?_;clear hQ Q)|(refine hQ _ (fun h=>?_) (fun h=>?_) <;> clear hQ Q <;> (try simp only [vki,reduceCtorEq] at h))|(refine vq ?_;kernel_rfl)|omega|assumption|with_reducible rfl|skip)))
    (simp only [vrt,Try.results21,vkt,seval,tbE10_rLists,xbE10_2,aBunk,aBunks,eBunk,eBunks,gBunk,gBunks,rBunk,rBunks,mBunk,pAl,alS,List.length_map];refine Fin.ok (fun j=>[1][j]?) [] ?_ ?_ ?_ ?_ ?_ rfl;all_goals (try simp only [vle,vkt,seval,tbE10_rLists,xbE10_2,aBunk,aBunks,eBunk,eBunks,gBunk,gBunks,rBunk,rBunks,mBunk,pAl,alS,List.length_map]))
    all_goals first|rfl|(simp;done)
theorem al_all:∀ m,AlFn m
  |0=>al_zero
  |m+1=>al_succ m (al_all m)
end Go.Sym.B
namespace Go.Sym.B
open Go Go.Sym Go.Proofs Go.Sym.C
def tbE11_isBunk:=vj @ty3 (vj @ty25 (vj @ty28 (vj @ty49 (vj @ty51 (vj @ti3.eq_1 (vj @ti25.eq_1 (vj @ti28.eq_1 (vj @ti49.eq_1 @ti51.eq_1))))))))
def xbE11_1:=vj @aI.eq_1 (@aB.eq_1)
theorem isBunk_fn (c:Chart) (b:Bunk) (hc:CarOk c):FnV Try.prog 73 [aChart c,aBunk b] (aB (isBunkB c.cabins b.cab b.bed)):=by
  have env:Env (fun _=>True) Try.prog tyB (tab [(81,valE true sbetw)]):=mkEnv ⟨ebetw,trivial⟩
  refine Fn.of (A:=fun _=>True) (n0:=0) (D:=noD) (Fn0 Try.func73 rfl (fun vs w=>by kernel_rfl) (by kernel_rfl)) (by simp) (by simp [AV.ids,AV.idsL,aChart,cChart,aBunk]) (fun i o h=>by cases h) (fun _ _ _ _=>trivial) noD_ok ?_
  have hcl:=hc.cabs
  have w1:IntKind.wrap .i64 ((c.cabins.length:Int) - 1)=(c.cabins.length:Int) - 1:=wrap64 (by omega) (by omega)
  have hE:isBunkB c.cabins b.cab b.bed=(inB b.cab 0 ((c.cabins.length:Int) - 1) && inB b.bed 0 ((c.cabins.getD b.cab.toNat default).beds - 1)):=rfl
  cases h3:inB b.cab 0 ((c.cabins.length:Int) - 1) with
  |false =>
    rw [hE,h3]
    repeat' (first|(apply nx;with_reducible constructor)|refine uq (by decide) ?_|((first|refine vx env fun Q hQ=>?_|refine vz fun Q hQ=>?_);simp only [vkt,seval,tbE11_isBunk,xbE11_1,aBunk,eBunk,aChart,cChart,eCabin,gCabin,mCabin,sbetw,List.length_map,h3,w1];(try simp only [ite_and]);(repeat' (first|with_reducible assumption|refine And.intro ?_ ?_|intro hp));all_goals (first|(refine hQ _ ?_;clear hQ Q)|(refine hQ _ (fun h=>?_) (fun h=>?_) <;> clear hQ Q <;> (try simp only [vki,reduceCtorEq] at h))|(refine vq ?_;kernel_rfl)|omega|assumption|with_reducible rfl|skip)))
    (simp only [vrt,Try.results73,vkt,seval,tbE11_isBunk,xbE11_1,aBunk,eBunk,aChart,cChart,eCabin,gCabin,mCabin,sbetw,List.length_map];refine Fin.val rfl ?_;(try simp only [AV.le,AV.leL]))
    all_goals first|rfl|(simp;done)
  |true =>
    have b3:=inB_iff.1 h3
    have g1:0≤b.cab:=b3.1
    have g2:b.cab.toNat < c.cabins.length:=by omega
    obtain ⟨x,hx⟩:∃ x,c.cabins.getD b.cab.toNat default=x:=⟨_,rfl⟩
    have hxb:=hc.beds _ (gMem (d:=default) g2)
    rw [hx] at hxb
    have w2:IntKind.wrap .i64 (x.beds - 1)=x.beds - 1:=wrap64 (by omega) (by omega)
    rw [hE,h3,hx,Bool.true_and]
    repeat' (first|(apply nx;with_reducible constructor)|refine uq (by decide) ?_|((first|refine vx env fun Q hQ=>?_|refine vz fun Q hQ=>?_);simp only [vkt,seval,tbE11_isBunk,xbE11_1,aBunk,eBunk,aChart,cChart,eCabin,gCabin,mCabin,sbetw,List.length_map,h3,w1,w2,hx,g1,g2];(try simp only [ite_and]);(repeat' (first|with_reducible assumption|refine And.intro ?_ ?_|intro hp));all_goals (first|(refine hQ _ ?_;clear hQ Q)|(refine hQ _ (fun h=>?_) (fun h=>?_) <;> clear hQ Q <;> (try simp only [vki,reduceCtorEq] at h))|(refine vq ?_;kernel_rfl)|omega|assumption|with_reducible rfl|skip)))
    (simp only [vrt,Try.results73,vkt,seval,tbE11_isBunk,xbE11_1,aBunk,eBunk,aChart,cChart,eCabin,gCabin,mCabin,sbetw,List.length_map];refine Fin.val rfl ?_;(try simp only [AV.le,AV.leL]))
    all_goals first|rfl|(simp;done)
def sisBunk:List AV→Prop × AV
  |[.agg [.sl c0,.v (.int .i64 c1),.sl c2],.agg [.v (.int .i64 b0),.v (.int .i64 b1)]]=>(c0=(c0.map dCabin).map eCabin∧c2=(c2.map dTk).map eTk∧CarOk ((⟨(c0.map dCabin),c1,(c2.map dTk)⟩:Chart)),aB (isBunkB ((⟨(c0.map dCabin),c1,(c2.map dTk)⟩:Chart)).cabins ((⟨b0,b1⟩:Bunk)).cab ((⟨b0,b1⟩:Bunk)).bed))
  |_=>(False,.junk)
theorem eisBunk {A:Frm→Prop}:EntryOK A Try.prog 73 (valE true sisBunk):=valE_ok fun vs hv h=>by
  clear hv
  unfold sisBunk at h ⊢
  split at h
  · rename_i c0 c1 c2 b0 b1;obtain ⟨q0,q1,k0⟩:=h
    refine ⟨by first|trivial|(simp [AV.plain,AV.plainL,aI,aB,aInts,aBunks,aTks,aBunk,aTk,cTk];done)|(repeat' split) <;> simp [AV.plain,AV.plainL,aI,aB,aInts,aBunks,aTks,aBunk,aTk,cTk],fun _=>(by simp [AV.flat,AV.flatL,aI,aB]), ?_⟩
    have:=isBunk_fn ((⟨(c0.map dCabin),c1,(c2.map dTk)⟩:Chart)) ((⟨b0,b1⟩:Bunk)) k0
    simp only [aBunk,aCabins,aChart,aI,aTks,cChart,← q0,← q1] at this
    first|exact this|(simp only [aBunk,aCabins,aChart,aI,aTks,cChart,← q0,← q1];exact this)
  · exact h.elim
def rnS (c:Chart) (l:List Bunk) (k:Nat) (lo hi:Int):St:={ t:=asg [(1,aBunks l),(2,.ptr 0 0),(4,aB false),(5,aI lo),(6,aI hi),(7,aI k)],h:=hasg [(0,.cells (cChart c))],n:=1 }
def tbE11_rnear:=vj @ty3 (vj @ty4 (vj @ty25 (vj @ty28 (vj @ty37 (vj @ty49 (vj @ty51 (vj @ti3.eq_1 (vj @ti4.eq_1 (vj @ti25.eq_1 (vj @ti28.eq_1 (vj @ti37.eq_1 (vj @ti49.eq_1 @ti51.eq_1))))))))))))
def xbE11_2:=vj @aI.eq_1 (@aB.eq_1)
theorem rnear_fn (c:Chart) (l:List Bunk) (ok:NearOk c.cabins l):FnV Try.prog 76 [aChart c,aBunks l] (aB (nearB c.cabins l)):=by
  have env:Env (fun _=>True) Try.prog tyB (tab []):=mkEnv trivial
  refine Fn.of (A:=fun _=>True) (n0:=0) (D:=noD) (Fn0 Try.func76 rfl (fun vs w=>by kernel_rfl) (by kernel_rfl)) (by simp) (by simp [AV.ids,AV.idsL,aChart,cChart,aBunks]) (fun i o h=>by cases h) (fun _ _ _ _=>trivial) noD_ok ?_
  have hne:=ok.ne
  have hll:=ok.len
  have hcl:=ok.cabs
  have hbd:=nearOk_bd ok
  obtain ⟨x0,hx0⟩:∃ x,l.getD 0 default=x:=⟨_,rfl⟩
  have l0:loK l 0=x0.cab:=by rw [← hx0];rfl
  have h0:hiK l 0=x0.cab:=by rw [← hx0];rfl
  rw [near_eq]
  repeat' (first|(apply nx;with_reducible constructor)|refine uq (by decide) ?_|((first|refine vx env fun Q hQ=>?_|refine vz fun Q hQ=>?_);simp only [vkt,seval,tbE11_rnear,xbE11_2,aBunk,aBunks,eBunk,gBunk,eCabin,gCabin,aChart,cChart,rnS,List.length_map,hx0,hne];(try simp only [ite_and]);(repeat' (first|with_reducible assumption|refine And.intro ?_ ?_|intro hp));all_goals (first|(refine hQ _ ?_;clear hQ Q)|(refine hQ _ (fun h=>?_) (fun h=>?_) <;> clear hQ Q <;> (try simp only [vki,reduceCtorEq] at h))|(refine vq ?_;kernel_rfl)|omega|assumption|with_reducible rfl|skip)))
  refine sym_loop (fun k:{ k:Nat // k≤l.length }=>rnS c l k.1 (loK l k.1) (hiK l k.1)) (fun k=>l.length - k.1) ⟨0,Nat.zero_le _⟩ ?_ fun ⟨k,hk⟩=>?_
  · simp only [l0,h0]
    (refine Le.ok some [] ?_;constructor;all_goals (try simp only [vle,vkt,seval,tbE11_rnear,xbE11_2,aBunk,aBunks,eBunk,gBunk,eCabin,gCabin,aChart,cChart,rnS,List.length_map]))
    all_goals first|rfl|(simp;done)
  simp only at hk ⊢
  by_cases hlt:k < l.length
  · have d1:decide ((k:Int) < (l.length:Int))=true:=decide_eq_true (by omega)
    have e9:IntKind.wrap .i64 ((k:Int)+1)=((k+1:Nat):Int):=by rw [wrap64 (by omega) (by omega)];rfl
    have k0:((k:Int)).toNat=k:=rfl
    obtain ⟨x,hx⟩:∃ x,l.getD k default=x:=⟨_,rfl⟩
    have hl1:=loK_succ hlt
    have hh1:=hiK_succ hlt
    rw [hx] at hl1 hh1
    repeat' (first|(apply nx;with_reducible constructor)|refine uq (by decide) ?_|((first|refine vx env fun Q hQ=>?_|refine vz fun Q hQ=>?_);simp only [vkt,seval,tbE11_rnear,xbE11_2,aBunk,aBunks,eBunk,gBunk,eCabin,gCabin,aChart,cChart,rnS,List.length_map,d1,k0,hx,hlt,e9];(try simp only [ite_and]);(repeat' (first|with_reducible assumption|refine And.intro ?_ ?_|intro hp));all_goals (first|(refine hQ _ ?_;clear hQ Q)|(refine hQ _ (fun h=>?_) (fun h=>?_) <;> clear hQ Q <;> (try simp only [vki,reduceCtorEq] at h))|(refine vq ?_;kernel_rfl)|omega|assumption|with_reducible rfl|skip)))
    refine ⟨⟨k+1,hlt⟩,by show l.length - (k+1) < l.length - k;omega, ?_⟩
    simp only [hl1,hh1]
    (refine Le.ok some [] ?_;constructor;all_goals (try simp only [vle,vkt,seval,tbE11_rnear,xbE11_2,aBunk,aBunks,eBunk,gBunk,eCabin,gCabin,aChart,cChart,rnS,List.length_map]))
    all_goals first|rfl|(simp;done)
  · have d0:decide ((k:Int) < (l.length:Int))=false:=decide_eq_false (by omega)
    have hke:k=l.length:=by omega
    subst hke
    obtain ⟨g1,g2,g3,g4⟩:=hbd l.length (Nat.le_refl _)
    obtain ⟨lo,hlo⟩:∃ x,loK l l.length=x:=⟨_,rfl⟩
    obtain ⟨hi,hhi⟩:∃ x,hiK l l.length=x:=⟨_,rfl⟩
    rw [hlo] at g1 g2
    rw [hhi] at g3 g4
    obtain ⟨x,hx⟩:∃ x,c.cabins.getD lo.toNat default=x:=⟨_,rfl⟩
    have w1:IntKind.wrap .i64 (lo+1)=lo+1:=wrap64 (by omega) (by omega)
    simp only [hlo,hhi]
    by_cases c1:lo=hi
    · rw [show (decide (lo=hi) || (decide (lo+1=hi) && (c.cabins.getD lo.toNat default).door))=true by simp [c1]]
      have d1:decide (lo=hi)=true:=decide_eq_true c1
      have d1':(lo == hi)=true:=by simpa using c1
      repeat' (first|(apply nx;with_reducible constructor)|refine uq (by decide) ?_|((first|refine vx env fun Q hQ=>?_|refine vz fun Q hQ=>?_);simp only [vkt,seval,tbE11_rnear,xbE11_2,aBunk,aBunks,eBunk,gBunk,eCabin,gCabin,aChart,cChart,rnS,List.length_map,d0,d1,d1',w1,hx,g1,g2];(try simp only [ite_and]);(repeat' (first|with_reducible assumption|refine And.intro ?_ ?_|intro hp));all_goals (first|(refine hQ _ ?_;clear hQ Q)|(refine hQ _ (fun h=>?_) (fun h=>?_) <;> clear hQ Q <;> (try simp only [vki,reduceCtorEq] at h))|(refine vq ?_;kernel_rfl)|omega|assumption|with_reducible rfl|skip)))
      (simp only [vrt,Try.results76,vkt,seval,tbE11_rnear,xbE11_2,aBunk,aBunks,eBunk,gBunk,eCabin,gCabin,aChart,cChart,rnS,List.length_map];refine Fin.val rfl ?_;(try simp only [AV.le,AV.leL]))
      all_goals first|rfl|(simp;done)
    · have d1:decide (lo=hi)=false:=decide_eq_false c1
      have d1':(lo == hi)=false:=by simpa using c1
      by_cases c2:lo+1=hi
      · rw [show (decide (lo=hi) || (decide (lo+1=hi) && (c.cabins.getD lo.toNat default).door))=x.door by rw [d1,hx,decide_eq_true c2];simp]
        have d2:decide (hi=lo+1)=true:=decide_eq_true c2.symm
        repeat' (first|(apply nx;with_reducible constructor)|refine uq (by decide) ?_|((first|refine vx env fun Q hQ=>?_|refine vz fun Q hQ=>?_);simp only [vkt,seval,tbE11_rnear,xbE11_2,aBunk,aBunks,eBunk,gBunk,eCabin,gCabin,aChart,cChart,rnS,List.length_map,d0,d1,d1',d2,w1,hx,g1,g2];(try simp only [ite_and]);(repeat' (first|with_reducible assumption|refine And.intro ?_ ?_|intro hp));all_goals (first|(refine hQ _ ?_;clear hQ Q)|(refine hQ _ (fun h=>?_) (fun h=>?_) <;> clear hQ Q <;> (try simp only [vki,reduceCtorEq] at h))|(refine vq ?_;kernel_rfl)|omega|assumption|with_reducible rfl|skip)))
        (simp only [vrt,Try.results76,vkt,seval,tbE11_rnear,xbE11_2,aBunk,aBunks,eBunk,gBunk,eCabin,gCabin,aChart,cChart,rnS,List.length_map];refine Fin.val rfl ?_;(try simp only [AV.le,AV.leL]))
        all_goals first|rfl|(simp;done)
      · rw [show (decide (lo=hi) || (decide (lo+1=hi) && (c.cabins.getD lo.toNat default).door))=false by rw [d1,decide_eq_false c2];simp]
        have d2:decide (hi=lo+1)=false:=decide_eq_false fun h=>c2 h.symm
        repeat' (first|(apply nx;with_reducible constructor)|refine uq (by decide) ?_|((first|refine vx env fun Q hQ=>?_|refine vz fun Q hQ=>?_);simp only [vkt,seval,tbE11_rnear,xbE11_2,aBunk,aBunks,eBunk,gBunk,eCabin,gCabin,aChart,cChart,rnS,List.length_map,d0,d1,d1',d2,w1,hx,g1,g2];(try simp only [ite_and]);(repeat' (first|with_reducible assumption|refine And.intro ?_ ?_|intro hp));all_goals (first|(refine hQ _ ?_;clear hQ Q)|(refine hQ _ (fun h=>?_) (fun h=>?_) <;> clear hQ Q <;> (try simp only [vki,reduceCtorEq] at h))|(refine vq ?_;kernel_rfl)|omega|assumption|with_reducible rfl|skip)))
        (simp only [vrt,Try.results76,vkt,seval,tbE11_rnear,xbE11_2,aBunk,aBunks,eBunk,gBunk,eCabin,gCabin,aChart,cChart,rnS,List.length_map];refine Fin.val rfl ?_;(try simp only [AV.le,AV.leL]))
        all_goals first|rfl|(simp;done)
def srnear:List AV→Prop × AV
  |[.agg [.sl c0,.v (.int .i64 c1),.sl c2],.sl l]=>(c0=(c0.map dCabin).map eCabin∧c2=(c2.map dTk).map eTk∧l=(l.map dBunk).map eBunk∧NearOk ((⟨(c0.map dCabin),c1,(c2.map dTk)⟩:Chart)).cabins (l.map dBunk),aB (nearB ((⟨(c0.map dCabin),c1,(c2.map dTk)⟩:Chart)).cabins (l.map dBunk)))
  |_=>(False,.junk)
theorem ernear {A:Frm→Prop}:EntryOK A Try.prog 76 (valE true srnear):=valE_ok fun vs hv h=>by
  clear hv
  unfold srnear at h ⊢
  split at h
  · rename_i c0 c1 c2 l;obtain ⟨q0,q1,q2,k0⟩:=h
    refine ⟨by first|trivial|(simp [AV.plain,AV.plainL,aI,aB,aInts,aBunks,aTks,aBunk,aTk,cTk];done)|(repeat' split) <;> simp [AV.plain,AV.plainL,aI,aB,aInts,aBunks,aTks,aBunk,aTk,cTk],fun _=>(by simp [AV.flat,AV.flatL,aI,aB]), ?_⟩
    have:=rnear_fn ((⟨(c0.map dCabin),c1,(c2.map dTk)⟩:Chart)) (l.map dBunk) k0
    simp only [aBunks,aCabins,aChart,aI,aTks,cChart,← q0,← q1,← q2] at this
    first|exact this|(simp only [aBunks,aCabins,aChart,aI,aTks,cChart,← q0,← q1,← q2];exact this)
  · exact h.elim
def rtS (a:Ask) (l:List Bunk) (k:Nat):St:={ t:=asg [(1,aBunks l),(2,.ptr 0 0),(5,.row 1),(6,aI k)],h:=hasg [(0,.cells (cAsk a)),(1,rowT (slTk a l k))],n:=2 }
def tbE11_rTks:=vj @ty3 (vj @ty4 (vj @ty22 (vj @ty26 (vj @ty31 (vj @ty37 (vj @ty49 (vj @ty81 (vj @ti3.eq_1 (vj @ti4.eq_1 (vj @ti22.eq_1 (vj @ti26.eq_1 (vj @ti31.eq_1 (vj @ti37.eq_1 (vj @ti49.eq_1 @ti81.eq_1))))))))))))))
def xbE11_3:=vj @aI.eq_1 (vj @aB.eq_1 (vj @eInt.eq_1 (vj @gInt (@mInt))))
theorem rTks_fn (a:Ask) (l:List Bunk) (hl:l.length≤100) (ha:a.sexes.length=l.length):FnV Try.prog 75 [aAsk a,aBunks l] (aTks (slTk a l l.length)):=by
  have env:Env (fun _=>True) Try.prog tyB (tab []):=mkEnv trivial
  refine Fn.of (A:=fun _=>True) (n0:=0) (D:=noD) (Fn0 Try.func75 rfl (fun vs w=>by kernel_rfl) (by kernel_rfl)) (by simp) (by simp [AV.ids,AV.idsL,aAsk,cAsk,aBunks]) (fun i o h=>by cases h) (fun _ _ _ _=>trivial) noD_ok ?_
  have hmx:(100000:Nat)≤maxLen:=by decide
  repeat' (first|(apply nx;with_reducible constructor)|refine uq (by decide) ?_|((first|refine vx env fun Q hQ=>?_|refine vz fun Q hQ=>?_);simp only [vkt,seval,tbE11_rTks,xbE11_3,aBunk,aBunks,eBunk,gBunk,aTk,cTk,aTks,eTk,rTk,aAsk,cAsk,rowT,rtS,List.length_map];(try simp only [ite_and]);(repeat' (first|with_reducible assumption|refine And.intro ?_ ?_|intro hp));all_goals (first|(refine hQ _ ?_;clear hQ Q)|(refine hQ _ (fun h=>?_) (fun h=>?_) <;> clear hQ Q <;> (try simp only [vki,reduceCtorEq] at h))|(refine vq ?_;kernel_rfl)|omega|assumption|with_reducible rfl|skip)))
  refine sym_loop (fun k:{ k:Nat // k≤l.length }=>rtS a l k.1) (fun k=>l.length - k.1) ⟨0,Nat.zero_le _⟩ ?_ fun ⟨k,hk⟩=>?_
  · simp only [rtS,show slTk a l 0=[] from rfl]
    (refine Le.ok (fun i=>if i=1 then none else some i) [] ?_;constructor;all_goals (try simp only [vle,vkt,seval,tbE11_rTks,xbE11_3,aBunk,aBunks,eBunk,gBunk,aTk,cTk,aTks,eTk,rTk,aAsk,cAsk,rowT,rtS,List.length_map]))
    all_goals first|rfl|(simp;done)
  simp only at hk ⊢
  have hS:=tks_succ a l k
  have hT:=tks_len a l k
  obtain ⟨T,hTe⟩:∃ T,slTk a l k=T:=⟨_,rfl⟩
  rw [hTe] at hS hT
  simp only [rtS,hTe]
  by_cases hkl:k < l.length
  · have d1:decide ((k:Int) < (l.length:Int))=true:=decide_eq_true (by omega)
    have d2:decide ((k:Int) < (a.sexes.length:Int))=true:=decide_eq_true (by omega)
    have e9:IntKind.wrap .i64 ((k:Int)+1)=((k+1:Nat):Int):=by rw [wrap64 (by omega) (by omega)];rfl
    have k0:((k:Int)).toNat=k:=rfl
    have hka:k < a.sexes.length:=by omega
    obtain ⟨b,hb⟩:∃ b,l.getD k default=b:=⟨_,rfl⟩
    rw [hb] at hS
    have hm:T.length+1≤maxLen:=by omega
    repeat' (first|(apply nx;with_reducible constructor)|refine uq (by decide) ?_|((first|refine vx env fun Q hQ=>?_|refine vz fun Q hQ=>?_);simp only [vkt,seval,tbE11_rTks,xbE11_3,aBunk,aBunks,eBunk,gBunk,aTk,cTk,aTks,eTk,rTk,aAsk,cAsk,rowT,rtS,List.length_map,d1,d2,e9,k0,hkl,hka,hb,hm];(try simp only [ite_and]);(repeat' (first|with_reducible assumption|refine And.intro ?_ ?_|intro hp));all_goals (first|(refine hQ _ ?_;clear hQ Q)|(refine hQ _ (fun h=>?_) (fun h=>?_) <;> clear hQ Q <;> (try simp only [vki,reduceCtorEq] at h))|(refine vq ?_;kernel_rfl)|omega|assumption|with_reducible rfl|skip)))
    refine ⟨⟨k+1,hkl⟩,by show l.length - (k+1) < l.length - k;omega, ?_⟩
    simp only [rtS,hS]
    (refine Le.ok (fun i=>if i=1 then some 3 else some i) [] ?_;constructor;all_goals (try simp only [vle,vkt,seval,tbE11_rTks,xbE11_3,aBunk,aBunks,eBunk,gBunk,aTk,cTk,aTks,eTk,rTk,aAsk,cAsk,rowT,rtS,List.length_map]))
    all_goals first|rfl|(rw [List.map_append];rfl)|(simp;done)|(intro i hi;rw [if_neg (by omega)];done)
  · have d1:decide ((k:Int) < (l.length:Int))=false:=decide_eq_false (by omega)
    obtain rfl:k=l.length:=by omega
    rw [hTe]
    repeat' (first|(apply nx;with_reducible constructor)|refine uq (by decide) ?_|((first|refine vx env fun Q hQ=>?_|refine vz fun Q hQ=>?_);simp only [vkt,seval,tbE11_rTks,xbE11_3,aBunk,aBunks,eBunk,gBunk,aTk,cTk,aTks,eTk,rTk,aAsk,cAsk,rowT,rtS,List.length_map,d1];(try simp only [ite_and]);(repeat' (first|with_reducible assumption|refine And.intro ?_ ?_|intro hp));all_goals (first|(refine hQ _ ?_;clear hQ Q)|(refine hQ _ (fun h=>?_) (fun h=>?_) <;> clear hQ Q <;> (try simp only [vki,reduceCtorEq] at h))|(refine vq ?_;kernel_rfl)|omega|assumption|with_reducible rfl|skip)))
    (simp only [vrt,Try.results75,vkt,seval,tbE11_rTks,xbE11_3,aBunk,aBunks,eBunk,gBunk,aTk,cTk,aTks,eTk,rTk,aAsk,cAsk,rowT,rtS,List.length_map];refine Fin.val rfl ?_;(try simp only [AV.le,AV.leL]))
    all_goals first|rfl|(simp;done)|exact ⟨_,_,rfl⟩
def srTks:List AV→Prop × AV
  |[.agg [.v (.int .i64 a0),.v (.int .i64 a1),.v (.int .i64 a2),.sl a3,.v (.bool a4)],.sl l]=>(a3=(a3.map dInt).map eInt∧l=(l.map dBunk).map eBunk∧(l.map dBunk).length≤100∧((⟨a0,a1,a2,(a3.map dInt),a4⟩:Ask)).sexes.length=(l.map dBunk).length,aTks (slTk ((⟨a0,a1,a2,(a3.map dInt),a4⟩:Ask)) (l.map dBunk) (l.map dBunk).length))
  |_=>(False,.junk)
theorem erTks {A:Frm→Prop}:EntryOK A Try.prog 75 (valE false srTks):=valE_ok fun vs hv h=>by
  clear hv
  unfold srTks at h ⊢
  split at h
  · rename_i a0 a1 a2 a3 a4 l;obtain ⟨q0,q1,k0,k1⟩:=h
    refine ⟨by first|trivial|(simp [AV.plain,AV.plainL,aI,aB,aInts,aBunks,aTks,aBunk,aTk,cTk];done)|(repeat' split) <;> simp [AV.plain,AV.plainL,aI,aB,aInts,aBunks,aTks,aBunk,aTk,cTk],fun h=>absurd h (by decide), ?_⟩
    have:=rTks_fn ((⟨a0,a1,a2,(a3.map dInt),a4⟩:Ask)) (l.map dBunk) k0 k1
    simp only [aAsk,aB,aBunks,aI,aInts,cAsk,← q0,← q1] at this
    first|exact this|(simp only [aAsk,aB,aBunks,aI,aInts,cAsk,← q0,← q1];exact this)
  · exact h.elim
end Go.Sym.B
namespace Go.Sym.B
open Go Go.Sym Go.Proofs Go.Sym.C
theorem anyNo {α:Type} [Inhabited α] {l:List α} {p:α→Bool} (h:∀ j,j < l.length→p (l.getD j default)=false):l.any p=false:=List.any_eq_false.2 fun x hx=>by
  obtain ⟨j,hj,rfl⟩:=List.mem_iff_getElem.1 hx
  have:=h j hj
  rw [show l.getD j default=l[j] by simp [List.getD_eq_getElem?_getD,hj]] at this
  rw [this];simp
theorem anyHit {α:Type} [Inhabited α] {l:List α} {p:α→Bool} {k:Nat} (hk:k < l.length) (h:p (l.getD k default)=true):l.any p=true:=List.any_eq_true.2 ⟨_,gMem hk,h⟩
def rsA (c:Chart) (t:Tk) (l:List Tk) (T:List (Nat × AV)):St:={ t:=asg (T++[(2,aTks l),(4,.ptr 1 0),(6,aI 0)]),h:=hasg [(0,.cells (cChart c)),(1,.cells (cTk t))],n:=2 }
def tbE12_rsold:=vj @ty3 (vj @ty26 (vj @ty28 (vj @ty34 (vj @ty49 (vj @ty81 (vj @ti3.eq_1 (vj @ti26.eq_1 (vj @ti28.eq_1 (vj @ti34.eq_1 (vj @ti49.eq_1 @ti81.eq_1))))))))))
def xbE12_1:=vj @aI.eq_1 (@aB.eq_1)
theorem rsold_fn (c:Chart) (t:Tk) (l:List Tk) (hc:CarOk c) (hl:l.length≤100):FnV Try.prog 116 [aChart c,aTk t,aTks l] (aI (ticketE c t l)):=by
  have env:Env (fun _=>True) Try.prog tyB (tab [(81,valE true sbetw),(73,valE true sisBunk),(137,valE true srway),(138,valE true srmeet),(139,valE true srtog)]):=mkEnv ⟨ebetw,eisBunk,erway,ermeet,ertog,trivial⟩
  refine Fn.of (A:=fun _=>True) (n0:=0) (D:=noD) (Fn0 Try.func116 rfl (fun vs w=>by kernel_rfl) (by kernel_rfl)) (by simp) (by simp [AV.ids,AV.idsL,aChart,cChart,aTk,cTk,aTks]) (fun i o h=>by cases h) (fun _ _ _ _=>trivial) noD_ok ?_
  have et:(⟨t.party,t.sex,t.cab,t.bed,t.frm,t.to,t.dog⟩:Tk)=t:=rfl
  have ec:(⟨c.cabins,c.secs,c.sold⟩:Chart)=c:=rfl
  have eb:(⟨t.cab,t.bed⟩:Bunk)=⟨t.cab,t.bed⟩:=rfl
  have hc':=hc
  cases h1:inB t.party 1 99
  · rw [show ticketE c t l=1 by simp [ticketE,h1]]
    repeat' (first|(apply nx;with_reducible constructor)|refine uq (by decide) ?_|((first|refine vx env fun Q hQ=>?_|refine vz fun Q hQ=>?_);simp only [vkt,seval,tbE12_rsold,xbE12_1,aBunk,aTk,cTk,aTks,eTk,gTk,mTk,mCabin,aChart,cChart,rsA,sbetw,sisBunk,srway,srmeet,srtog,List.length_map,h1,et,ec];(try simp only [ite_and]);(repeat' (first|with_reducible assumption|refine And.intro ?_ ?_|intro hp));all_goals (first|(refine hQ _ ?_;clear hQ Q)|(refine hQ _ (fun h=>?_) (fun h=>?_) <;> clear hQ Q <;> (try simp only [vki,reduceCtorEq] at h))|(refine vq ?_;kernel_rfl)|omega|assumption|with_reducible rfl|skip)))
    (simp only [vrt,Try.results116,vkt,seval,tbE12_rsold,xbE12_1,aBunk,aTk,cTk,aTks,eTk,gTk,mTk,mCabin,aChart,cChart,rsA,sbetw,sisBunk,srway,srmeet,srtog,List.length_map];refine Fin.val rfl ?_;(try simp only [AV.le,AV.leL]))
    all_goals first|rfl|(simp;done)
  cases h2:inB t.sex 1 2
  · rw [show ticketE c t l=8 by simp [ticketE,h1,h2]]
    repeat' (first|(apply nx;with_reducible constructor)|refine uq (by decide) ?_|((first|refine vx env fun Q hQ=>?_|refine vz fun Q hQ=>?_);simp only [vkt,seval,tbE12_rsold,xbE12_1,aBunk,aTk,cTk,aTks,eTk,gTk,mTk,mCabin,aChart,cChart,rsA,sbetw,sisBunk,srway,srmeet,srtog,List.length_map,h1,h2,et,ec];(try simp only [ite_and]);(repeat' (first|with_reducible assumption|refine And.intro ?_ ?_|intro hp));all_goals (first|(refine hQ _ ?_;clear hQ Q)|(refine hQ _ (fun h=>?_) (fun h=>?_) <;> clear hQ Q <;> (try simp only [vki,reduceCtorEq] at h))|(refine vq ?_;kernel_rfl)|omega|assumption|with_reducible rfl|skip)))
    (simp only [vrt,Try.results116,vkt,seval,tbE12_rsold,xbE12_1,aBunk,aTk,cTk,aTks,eTk,gTk,mTk,mCabin,aChart,cChart,rsA,sbetw,sisBunk,srway,srmeet,srtog,List.length_map];refine Fin.val rfl ?_;(try simp only [AV.le,AV.leL]))
    all_goals first|rfl|(simp;done)
  cases h3:isBunkB c.cabins t.cab t.bed
  · rw [show ticketE c t l=3 by simp [ticketE,h1,h2,h3]]
    repeat' (first|(apply nx;with_reducible constructor)|refine uq (by decide) ?_|((first|refine vx env fun Q hQ=>?_|refine vz fun Q hQ=>?_);simp only [vkt,seval,tbE12_rsold,xbE12_1,aBunk,aTk,cTk,aTks,eTk,gTk,mTk,mCabin,aChart,cChart,rsA,sbetw,sisBunk,srway,srmeet,srtog,List.length_map,h1,h2,h3,et,ec];(try simp only [ite_and]);(repeat' (first|with_reducible assumption|refine And.intro ?_ ?_|intro hp));all_goals (first|(refine hQ _ ?_;clear hQ Q)|(refine hQ _ (fun h=>?_) (fun h=>?_) <;> clear hQ Q <;> (try simp only [vki,reduceCtorEq] at h))|(refine vq ?_;kernel_rfl)|omega|assumption|with_reducible rfl|skip)))
    (simp only [vrt,Try.results116,vkt,seval,tbE12_rsold,xbE12_1,aBunk,aTk,cTk,aTks,eTk,gTk,mTk,mCabin,aChart,cChart,rsA,sbetw,sisBunk,srway,srmeet,srtog,List.length_map];refine Fin.val rfl ?_;(try simp only [AV.le,AV.leL]))
    all_goals first|rfl|(simp;done)
  have hr:ticketE c t l=if wayE c.secs t.frm t.to ≠ 0 then wayE c.secs t.frm t.to else besideE t l:=by unfold ticketE;simp [h1,h2,h3]
  rw [hr]
  obtain ⟨w,hw⟩:∃ w,wayE c.secs t.frm t.to=w:=⟨_,rfl⟩
  rw [hw]
  by_cases h5:w=0
  · rw [if_neg (fun h=>h h5)]
    rw [h5] at hw
    unfold besideE
    repeat' (first|(apply nx;with_reducible constructor)|refine uq (by decide) ?_|((first|refine vx env fun Q hQ=>?_|refine vz fun Q hQ=>?_);simp only [vkt,seval,tbE12_rsold,xbE12_1,aBunk,aTk,cTk,aTks,eTk,gTk,mTk,mCabin,aChart,cChart,rsA,sbetw,sisBunk,srway,srmeet,srtog,List.length_map,h1,h2,h3,hw,et,ec,decide_true];(try simp only [ite_and]);(repeat' (first|with_reducible assumption|refine And.intro ?_ ?_|intro hp));all_goals (first|(refine hQ _ ?_;clear hQ Q)|(refine hQ _ (fun h=>?_) (fun h=>?_) <;> clear hQ Q <;> (try simp only [vki,reduceCtorEq] at h))|(refine vq ?_;kernel_rfl)|omega|assumption|with_reducible rfl|skip)))
    refine sym_loop (fun k:{ k:Nat // k≤l.length∧∀ j,j < k→twiceB t (l.getD j default)=false }=>rsA c t l [(8,aI k.1)]) (fun k=>l.length - k.1) ⟨0,Nat.zero_le _,fun j h=>absurd h (Nat.not_lt_zero _)⟩ ?_ fun ⟨k,hk,hno⟩=>?_
    · simp only [rsA,List.cons_append,List.nil_append]
      (refine Le.ok some [] ?_;constructor;all_goals (try simp only [vle,vkt,seval,tbE12_rsold,xbE12_1,aBunk,aTk,cTk,aTks,eTk,gTk,mTk,mCabin,aChart,cChart,rsA,sbetw,sisBunk,srway,srmeet,srtog,List.length_map]))
      all_goals first|rfl|(simp;done)
    simp only at hk hno ⊢
    simp only [rsA,List.cons_append,List.nil_append]
    by_cases hkl:k < l.length
    · have d1:decide ((k:Int) < (l.length:Int))=true:=decide_eq_true (by omega)
      have e9:IntKind.wrap .i64 ((k:Int)+1)=((k+1:Nat):Int):=by rw [wrap64 (by omega) (by omega)];rfl
      have k0:((k:Int)).toNat=k:=rfl
      obtain ⟨x,hx⟩:∃ x,l.getD k default=x:=⟨_,rfl⟩
      have ex:(⟨x.party,x.sex,x.cab,x.bed,x.frm,x.to,x.dog⟩:Tk)=x:=rfl
      have hT:twiceB t x=(decide (x.cab=t.cab) && decide (x.bed=t.bed) && meetB x t):=rfl
      cases q1:(decide (x.cab=t.cab) && decide (x.bed=t.bed)) with
      |false =>
        rw [q1,Bool.false_and] at hT
        repeat' (first|(apply nx;with_reducible constructor)|refine uq (by decide) ?_|((first|refine vx env fun Q hQ=>?_|refine vz fun Q hQ=>?_);simp only [vkt,seval,tbE12_rsold,xbE12_1,aBunk,aTk,cTk,aTks,eTk,gTk,mTk,mCabin,aChart,cChart,rsA,sbetw,sisBunk,srway,srmeet,srtog,List.length_map,d1,e9,k0,hkl,hx,q1,et,ex];(try simp only [ite_and]);(repeat' (first|with_reducible assumption|refine And.intro ?_ ?_|intro hp));all_goals (first|(refine hQ _ ?_;clear hQ Q)|(refine hQ _ (fun h=>?_) (fun h=>?_) <;> clear hQ Q <;> (try simp only [vki,reduceCtorEq] at h))|(refine vq ?_;kernel_rfl)|omega|assumption|with_reducible rfl|skip)))
        refine ⟨⟨k+1,hkl,fun j hj=>?_⟩,by show l.length - (k+1) < l.length - k;omega, ?_⟩
        · rcases Nat.lt_or_eq_of_le (Nat.le_of_lt_succ hj) with h|h
          · exact hno j h
          · rw [h,hx];exact hT
        simp only [rsA,List.cons_append,List.nil_append]
        (refine Le.ok some [] ?_;constructor;all_goals (try simp only [vle,vkt,seval,tbE12_rsold,xbE12_1,aBunk,aTk,cTk,aTks,eTk,gTk,mTk,mCabin,aChart,cChart,rsA,sbetw,sisBunk,srway,srmeet,srtog,List.length_map]))
        all_goals first|rfl|(simp;done)
      |true =>
        cases q2:meetB x t with
        |false =>
          rw [q1,q2,Bool.true_and] at hT
          repeat' (first|(apply nx;with_reducible constructor)|refine uq (by decide) ?_|((first|refine vx env fun Q hQ=>?_|refine vz fun Q hQ=>?_);simp only [vkt,seval,tbE12_rsold,xbE12_1,aBunk,aTk,cTk,aTks,eTk,gTk,mTk,mCabin,aChart,cChart,rsA,sbetw,sisBunk,srway,srmeet,srtog,List.length_map,d1,e9,k0,hkl,hx,q1,q2,et,ex];(try simp only [ite_and]);(repeat' (first|with_reducible assumption|refine And.intro ?_ ?_|intro hp));all_goals (first|(refine hQ _ ?_;clear hQ Q)|(refine hQ _ (fun h=>?_) (fun h=>?_) <;> clear hQ Q <;> (try simp only [vki,reduceCtorEq] at h))|(refine vq ?_;kernel_rfl)|omega|assumption|with_reducible rfl|skip)))
          refine ⟨⟨k+1,hkl,fun j hj=>?_⟩,by show l.length - (k+1) < l.length - k;omega, ?_⟩
          · rcases Nat.lt_or_eq_of_le (Nat.le_of_lt_succ hj) with h|h
            · exact hno j h
            · rw [h,hx];exact hT
          simp only [rsA,List.cons_append,List.nil_append]
          (refine Le.ok some [] ?_;constructor;all_goals (try simp only [vle,vkt,seval,tbE12_rsold,xbE12_1,aBunk,aTk,cTk,aTks,eTk,gTk,mTk,mCabin,aChart,cChart,rsA,sbetw,sisBunk,srway,srmeet,srtog,List.length_map]))
          all_goals first|rfl|(simp;done)
        |true =>
          rw [q1,q2,Bool.true_and] at hT
          rw [if_pos (anyHit hkl (by rw [hx];exact hT))]
          repeat' (first|(apply nx;with_reducible constructor)|refine uq (by decide) ?_|((first|refine vx env fun Q hQ=>?_|refine vz fun Q hQ=>?_);simp only [vkt,seval,tbE12_rsold,xbE12_1,aBunk,aTk,cTk,aTks,eTk,gTk,mTk,mCabin,aChart,cChart,rsA,sbetw,sisBunk,srway,srmeet,srtog,List.length_map,d1,e9,k0,hkl,hx,q1,q2,et,ex];(try simp only [ite_and]);(repeat' (first|with_reducible assumption|refine And.intro ?_ ?_|intro hp));all_goals (first|(refine hQ _ ?_;clear hQ Q)|(refine hQ _ (fun h=>?_) (fun h=>?_) <;> clear hQ Q <;> (try simp only [vki,reduceCtorEq] at h))|(refine vq ?_;kernel_rfl)|omega|assumption|with_reducible rfl|skip)))
          (simp only [vrt,Try.results116,vkt,seval,tbE12_rsold,xbE12_1,aBunk,aTk,cTk,aTks,eTk,gTk,mTk,mCabin,aChart,cChart,rsA,sbetw,sisBunk,srway,srmeet,srtog,List.length_map];refine Fin.val rfl ?_;(try simp only [AV.le,AV.leL]))
          all_goals first|rfl|(simp;done)
    · have d1:decide ((k:Int) < (l.length:Int))=false:=decide_eq_false (by omega)
      obtain rfl:k=l.length:=by omega
      rw [if_neg (by rw [anyNo hno];decide)]
      repeat' (first|(apply nx;with_reducible constructor)|refine uq (by decide) ?_|((first|refine vx env fun Q hQ=>?_|refine vz fun Q hQ=>?_);simp only [vkt,seval,tbE12_rsold,xbE12_1,aBunk,aTk,cTk,aTks,eTk,gTk,mTk,mCabin,aChart,cChart,rsA,sbetw,sisBunk,srway,srmeet,srtog,List.length_map,d1];(try simp only [ite_and]);(repeat' (first|with_reducible assumption|refine And.intro ?_ ?_|intro hp));all_goals (first|(refine hQ _ ?_;clear hQ Q)|(refine hQ _ (fun h=>?_) (fun h=>?_) <;> clear hQ Q <;> (try simp only [vki,reduceCtorEq] at h))|(refine vq ?_;kernel_rfl)|omega|assumption|with_reducible rfl|skip)))
      refine sym_loop (fun k:{ k:Nat // k≤l.length∧∀ j,j < k→(!togB (l.getD j default) t)=false }=>rsA c t l [(9,aI k.1)]) (fun k=>l.length - k.1) ⟨0,Nat.zero_le _,fun j h=>absurd h (Nat.not_lt_zero _)⟩ ?_ fun ⟨k,hk,hno⟩=>?_
      · simp only [rsA,List.cons_append,List.nil_append]
        (refine Le.ok some [] ?_;constructor;all_goals (try simp only [vle,vkt,seval,tbE12_rsold,xbE12_1,aBunk,aTk,cTk,aTks,eTk,gTk,mTk,mCabin,aChart,cChart,rsA,sbetw,sisBunk,srway,srmeet,srtog,List.length_map]))
        all_goals first|rfl|(simp;done)
      simp only at hk hno ⊢
      simp only [rsA,List.cons_append,List.nil_append]
      by_cases hkl:k < l.length
      · have d1:decide ((k:Int) < (l.length:Int))=true:=decide_eq_true (by omega)
        have e9:IntKind.wrap .i64 ((k:Int)+1)=((k+1:Nat):Int):=by rw [wrap64 (by omega) (by omega)];rfl
        have k0:((k:Int)).toNat=k:=rfl
        obtain ⟨x,hx⟩:∃ x,l.getD k default=x:=⟨_,rfl⟩
        have ex:(⟨x.party,x.sex,x.cab,x.bed,x.frm,x.to,x.dog⟩:Tk)=x:=rfl
        cases q2:togB x t with
        |true =>
          repeat' (first|(apply nx;with_reducible constructor)|refine uq (by decide) ?_|((first|refine vx env fun Q hQ=>?_|refine vz fun Q hQ=>?_);simp only [vkt,seval,tbE12_rsold,xbE12_1,aBunk,aTk,cTk,aTks,eTk,gTk,mTk,mCabin,aChart,cChart,rsA,sbetw,sisBunk,srway,srmeet,srtog,List.length_map,d1,e9,k0,hkl,hx,q2,et,ex];(try simp only [ite_and]);(repeat' (first|with_reducible assumption|refine And.intro ?_ ?_|intro hp));all_goals (first|(refine hQ _ ?_;clear hQ Q)|(refine hQ _ (fun h=>?_) (fun h=>?_) <;> clear hQ Q <;> (try simp only [vki,reduceCtorEq] at h))|(refine vq ?_;kernel_rfl)|omega|assumption|with_reducible rfl|skip)))
          refine ⟨⟨k+1,hkl,fun j hj=>?_⟩,by show l.length - (k+1) < l.length - k;omega, ?_⟩
          · rcases Nat.lt_or_eq_of_le (Nat.le_of_lt_succ hj) with h|h
            · exact hno j h
            · rw [h,hx,q2];rfl
          simp only [rsA,List.cons_append,List.nil_append]
          (refine Le.ok some [] ?_;constructor;all_goals (try simp only [vle,vkt,seval,tbE12_rsold,xbE12_1,aBunk,aTk,cTk,aTks,eTk,gTk,mTk,mCabin,aChart,cChart,rsA,sbetw,sisBunk,srway,srmeet,srtog,List.length_map]))
          all_goals first|rfl|(simp;done)
        |false =>
          rw [if_pos (anyHit (p:=fun x=>!togB x t) hkl (by rw [hx,q2];rfl))]
          repeat' (first|(apply nx;with_reducible constructor)|refine uq (by decide) ?_|((first|refine vx env fun Q hQ=>?_|refine vz fun Q hQ=>?_);simp only [vkt,seval,tbE12_rsold,xbE12_1,aBunk,aTk,cTk,aTks,eTk,gTk,mTk,mCabin,aChart,cChart,rsA,sbetw,sisBunk,srway,srmeet,srtog,List.length_map,d1,e9,k0,hkl,hx,q2,et,ex];(try simp only [ite_and]);(repeat' (first|with_reducible assumption|refine And.intro ?_ ?_|intro hp));all_goals (first|(refine hQ _ ?_;clear hQ Q)|(refine hQ _ (fun h=>?_) (fun h=>?_) <;> clear hQ Q <;> (try simp only [vki,reduceCtorEq] at h))|(refine vq ?_;kernel_rfl)|omega|assumption|with_reducible rfl|skip)))
          (simp only [vrt,Try.results116,vkt,seval,tbE12_rsold,xbE12_1,aBunk,aTk,cTk,aTks,eTk,gTk,mTk,mCabin,aChart,cChart,rsA,sbetw,sisBunk,srway,srmeet,srtog,List.length_map];refine Fin.val rfl ?_;(try simp only [AV.le,AV.leL]))
          all_goals first|rfl|(simp;done)
      · have d1:decide ((k:Int) < (l.length:Int))=false:=decide_eq_false (by omega)
        obtain rfl:k=l.length:=by omega
        rw [if_neg (by rw [anyNo (p:=fun x=>!togB x t) hno];decide)]
        repeat' (first|(apply nx;with_reducible constructor)|refine uq (by decide) ?_|((first|refine vx env fun Q hQ=>?_|refine vz fun Q hQ=>?_);simp only [vkt,seval,tbE12_rsold,xbE12_1,aBunk,aTk,cTk,aTks,eTk,gTk,mTk,mCabin,aChart,cChart,rsA,sbetw,sisBunk,srway,srmeet,srtog,List.length_map,d1];(try simp only [ite_and]);(repeat' (first|with_reducible assumption|refine And.intro ?_ ?_|intro hp));all_goals (first|(refine hQ _ ?_;clear hQ Q)|(refine hQ _ (fun h=>?_) (fun h=>?_) <;> clear hQ Q <;> (try simp only [vki,reduceCtorEq] at h))|(refine vq ?_;kernel_rfl)|omega|assumption|with_reducible rfl|skip)))
        (simp only [vrt,Try.results116,vkt,seval,tbE12_rsold,xbE12_1,aBunk,aTk,cTk,aTks,eTk,gTk,mTk,mCabin,aChart,cChart,rsA,sbetw,sisBunk,srway,srmeet,srtog,List.length_map];refine Fin.val rfl ?_;(try simp only [AV.le,AV.leL]))
        all_goals first|rfl|(simp;done)
  · rw [if_pos h5]
    have d5:decide (w=0)=false:=decide_eq_false h5
    repeat' (first|(apply nx;with_reducible constructor)|refine uq (by decide) ?_|((first|refine vx env fun Q hQ=>?_|refine vz fun Q hQ=>?_);simp only [vkt,seval,tbE12_rsold,xbE12_1,aBunk,aTk,cTk,aTks,eTk,gTk,mTk,mCabin,aChart,cChart,rsA,sbetw,sisBunk,srway,srmeet,srtog,List.length_map,h1,h2,h3,hw,d5,et,ec];(try simp only [ite_and]);(repeat' (first|with_reducible assumption|refine And.intro ?_ ?_|intro hp));all_goals (first|(refine hQ _ ?_;clear hQ Q)|(refine hQ _ (fun h=>?_) (fun h=>?_) <;> clear hQ Q <;> (try simp only [vki,reduceCtorEq] at h))|(refine vq ?_;kernel_rfl)|omega|assumption|with_reducible rfl|skip)))
    (simp only [vrt,Try.results116,vkt,seval,tbE12_rsold,xbE12_1,aBunk,aTk,cTk,aTks,eTk,gTk,mTk,mCabin,aChart,cChart,rsA,sbetw,sisBunk,srway,srmeet,srtog,List.length_map];refine Fin.val rfl ?_;(try simp only [AV.le,AV.leL]))
    all_goals first|rfl|(simp;done)
def srsold:List AV→Prop × AV
  |[.agg [.sl c0,.v (.int .i64 c1),.sl c2],.agg [.v (.int .i64 t0),.v (.int .i64 t1),.v (.int .i64 t2),.v (.int .i64 t3),.v (.int .i64 t4),.v (.int .i64 t5),.v (.bool t6)],.sl l]=>(c0=(c0.map dCabin).map eCabin∧c2=(c2.map dTk).map eTk∧l=(l.map dTk).map eTk∧CarOk ((⟨(c0.map dCabin),c1,(c2.map dTk)⟩:Chart))∧(l.map dTk).length≤100,aI (ticketE ((⟨(c0.map dCabin),c1,(c2.map dTk)⟩:Chart)) (⟨t0,t1,t2,t3,t4,t5,t6⟩:Tk) (l.map dTk)))
  |_=>(False,.junk)
theorem ersold {A:Frm→Prop}:EntryOK A Try.prog 116 (valE true srsold):=valE_ok fun vs hv h=>by
  clear hv
  unfold srsold at h ⊢
  split at h
  · rename_i c0 c1 c2 t0 t1 t2 t3 t4 t5 t6 l;obtain ⟨q0,q1,q2,k0,k1⟩:=h
    refine ⟨by first|trivial|(simp [AV.plain,AV.plainL,aI,aB,aInts,aBunks,aTks,aBunk,aTk,cTk];done)|(repeat' split) <;> simp [AV.plain,AV.plainL,aI,aB,aInts,aBunks,aTks,aBunk,aTk,cTk],fun _=>(by simp [AV.flat,AV.flatL,aI,aB]), ?_⟩
    have:=rsold_fn ((⟨(c0.map dCabin),c1,(c2.map dTk)⟩:Chart)) (⟨t0,t1,t2,t3,t4,t5,t6⟩:Tk) (l.map dTk) k0 k1
    simp only [aB,aCabins,aChart,aI,aTk,aTks,cChart,cTk,← q0,← q1,← q2] at this
    first|exact this|(simp only [aB,aCabins,aChart,aI,aTk,aTks,cChart,cTk,← q0,← q1,← q2];exact this)
  · exact h.elim
def rkS (c:Chart) (l:List Tk) (k:Nat):St:={ t:=asg [(1,aTks l),(2,.ptr 0 0),(4,aI 0),(5,aI k)],h:=hasg [(0,.cells (cChart c))],n:=1 }
def tbE12_rtks:=vj @ty3 (vj @ty26 (vj @ty28 (vj @ty34 (vj @ty81 (vj @ti3.eq_1 (vj @ti26.eq_1 (vj @ti28.eq_1 (vj @ti34.eq_1 @ti81.eq_1))))))))
def xbE12_2:=vj @aI.eq_1 (@aB.eq_1)
theorem rtks_fn (c:Chart) (l:List Tk) (hc:CarOk c) (hl:l.length≤100):FnV Try.prog 74 [aChart c,aTks l] (aI (ticketsE c l)):=by
  have env:Env (fun _=>True) Try.prog tyB (tab [(116,valE true srsold)]):=mkEnv ⟨ersold,trivial⟩
  refine Fn.of (A:=fun _=>True) (n0:=0) (D:=noD) (Fn0 Try.func74 rfl (fun vs w=>by kernel_rfl) (by kernel_rfl)) (by simp) (by simp [AV.ids,AV.idsL,aChart,cChart,aTks]) (fun i o h=>by cases h) (fun _ _ _ _=>trivial) noD_ok ?_
  have ec:(⟨c.cabins,c.secs,c.sold⟩:Chart)=c:=rfl
  repeat' (first|(apply nx;with_reducible constructor)|refine uq (by decide) ?_|((first|refine vx env fun Q hQ=>?_|refine vz fun Q hQ=>?_);simp only [vkt,seval,tbE12_rtks,xbE12_2,aTk,cTk,aTks,eTk,gTk,rTk,mTk,mCabin,aChart,cChart,rkS,srsold,List.length_map];(try simp only [ite_and]);(repeat' (first|with_reducible assumption|refine And.intro ?_ ?_|intro hp));all_goals (first|(refine hQ _ ?_;clear hQ Q)|(refine hQ _ (fun h=>?_) (fun h=>?_) <;> clear hQ Q <;> (try simp only [vki,reduceCtorEq] at h))|(refine vq ?_;kernel_rfl)|omega|assumption|with_reducible rfl|skip)))
  refine sym_loop (fun k:{ k:Nat // k≤l.length∧∀ j,j < k→ticketE c (l.getD j default) (l.take j)=0 }=>rkS c l k.1) (fun k=>l.length - k.1) ⟨0,Nat.zero_le _,fun j h=>absurd h (Nat.not_lt_zero _)⟩ ?_ fun ⟨k,hk,hno⟩=>?_
  · (refine Le.ok some [] ?_;constructor;all_goals (try simp only [vle,vkt,seval,tbE12_rtks,xbE12_2,aTk,cTk,aTks,eTk,gTk,rTk,mTk,mCabin,aChart,cChart,rkS,srsold,List.length_map]))
    all_goals first|rfl|(simp;done)
  simp only at hk hno ⊢
  simp only [rkS]
  by_cases hlt:k < l.length
  · have d1:decide ((k:Int) < (l.length:Int))=true:=decide_eq_true (by omega)
    have e9:IntKind.wrap .i64 ((k:Int)+1)=((k+1:Nat):Int):=by rw [wrap64 (by omega) (by omega)];rfl
    have k0:((k:Int)).toNat=k:=rfl
    obtain ⟨x,hx⟩:∃ x,l.getD k default=x:=⟨_,rfl⟩
    have ex:(⟨x.party,x.sex,x.cab,x.bed,x.frm,x.to,x.dog⟩:Tk)=x:=rfl
    have tk:List.take k (l.map eTk)=(l.take k).map eTk:=List.map_take.symm
    have t100:(l.take k).length≤100:=by rw [List.length_take];omega
    have hkl:k≤l.length:=hk
    have hg:=rngD (f:=fun i=>ticketE c (l.getD i default) (l.take i)) hlt
    obtain ⟨e,he⟩:∃ e,ticketE c x (l.take k)=e:=⟨_,rfl⟩
    by_cases h2:e=0
    · rw [h2] at he
      repeat' (first|(apply nx;with_reducible constructor)|refine uq (by decide) ?_|((first|refine vx env fun Q hQ=>?_|refine vz fun Q hQ=>?_);simp only [vkt,seval,tbE12_rtks,xbE12_2,aTk,cTk,aTks,eTk,gTk,rTk,mTk,mCabin,aChart,cChart,rkS,srsold,List.length_map,d1,k0,hlt,hkl,hx,ex,ec,tk,he,e9,decide_true];(try simp only [ite_and]);(repeat' (first|with_reducible assumption|refine And.intro ?_ ?_|intro hp));all_goals (first|(refine hQ _ ?_;clear hQ Q)|(refine hQ _ (fun h=>?_) (fun h=>?_) <;> clear hQ Q <;> (try simp only [vki,reduceCtorEq] at h))|(refine vq ?_;kernel_rfl)|omega|assumption|with_reducible rfl|skip)))
      refine ⟨⟨k+1,hlt,fun j hj=>?_⟩,by show l.length - (k+1) < l.length - k;omega, ?_⟩
      · rcases Nat.lt_or_eq_of_le (Nat.le_of_lt_succ hj) with h3|h3
        · exact hno j h3
        · rw [h3,hx];exact he
      · (refine Le.ok some [] ?_;constructor;all_goals (try simp only [vle,vkt,seval,tbE12_rtks,xbE12_2,aTk,cTk,aTks,eTk,gTk,rTk,mTk,mCabin,aChart,cChart,rkS,srsold,List.length_map]))
        all_goals first|rfl|(simp;done)
    · have hf:ticketsE c l=e:=by
        unfold ticketsE
        rw [firstE_take (k:=k) (fun j hj=>by rw [rngD (by omega)];exact hno j hj) (by simpa using hlt) (by rw [hg,hx,he];exact h2),hg,hx,he]
      rw [hf]
      have d2:decide (e=0)=false:=decide_eq_false h2
      repeat' (first|(apply nx;with_reducible constructor)|refine uq (by decide) ?_|((first|refine vx env fun Q hQ=>?_|refine vz fun Q hQ=>?_);simp only [vkt,seval,tbE12_rtks,xbE12_2,aTk,cTk,aTks,eTk,gTk,rTk,mTk,mCabin,aChart,cChart,rkS,srsold,List.length_map,d1,k0,hlt,hkl,hx,ex,ec,tk,he,d2];(try simp only [ite_and]);(repeat' (first|with_reducible assumption|refine And.intro ?_ ?_|intro hp));all_goals (first|(refine hQ _ ?_;clear hQ Q)|(refine hQ _ (fun h=>?_) (fun h=>?_) <;> clear hQ Q <;> (try simp only [vki,reduceCtorEq] at h))|(refine vq ?_;kernel_rfl)|omega|assumption|with_reducible rfl|skip)))
      (simp only [vrt,Try.results74,vkt,seval,tbE12_rtks,xbE12_2,aTk,cTk,aTks,eTk,gTk,rTk,mTk,mCabin,aChart,cChart,rkS,srsold,List.length_map];refine Fin.val rfl ?_;(try simp only [AV.le,AV.leL]))
      all_goals first|rfl|(simp;done)
  · have d1:decide ((k:Int) < (l.length:Int))=false:=decide_eq_false (by omega)
    have hke:k=l.length:=by omega
    subst hke
    rw [show ticketsE c l=0 from firstE_all fun j hj=>by
      have hj':j < l.length:=by simpa using hj
      rw [rngD hj'];exact hno j hj']
    repeat' (first|(apply nx;with_reducible constructor)|refine uq (by decide) ?_|((first|refine vx env fun Q hQ=>?_|refine vz fun Q hQ=>?_);simp only [vkt,seval,tbE12_rtks,xbE12_2,aTk,cTk,aTks,eTk,gTk,rTk,mTk,mCabin,aChart,cChart,rkS,srsold,List.length_map,d1];(try simp only [ite_and]);(repeat' (first|with_reducible assumption|refine And.intro ?_ ?_|intro hp));all_goals (first|(refine hQ _ ?_;clear hQ Q)|(refine hQ _ (fun h=>?_) (fun h=>?_) <;> clear hQ Q <;> (try simp only [vki,reduceCtorEq] at h))|(refine vq ?_;kernel_rfl)|omega|assumption|with_reducible rfl|skip)))
    (simp only [vrt,Try.results74,vkt,seval,tbE12_rtks,xbE12_2,aTk,cTk,aTks,eTk,gTk,rTk,mTk,mCabin,aChart,cChart,rkS,srsold,List.length_map];refine Fin.val rfl ?_;(try simp only [AV.le,AV.leL]))
    all_goals first|rfl|(simp;done)
def srtks:List AV→Prop × AV
  |[.agg [.sl c0,.v (.int .i64 c1),.sl c2],.sl l]=>(c0=(c0.map dCabin).map eCabin∧c2=(c2.map dTk).map eTk∧l=(l.map dTk).map eTk∧CarOk ((⟨(c0.map dCabin),c1,(c2.map dTk)⟩:Chart))∧(l.map dTk).length≤100,aI (ticketsE ((⟨(c0.map dCabin),c1,(c2.map dTk)⟩:Chart)) (l.map dTk)))
  |_=>(False,.junk)
theorem ertks {A:Frm→Prop}:EntryOK A Try.prog 74 (valE true srtks):=valE_ok fun vs hv h=>by
  clear hv
  unfold srtks at h ⊢
  split at h
  · rename_i c0 c1 c2 l;obtain ⟨q0,q1,q2,k0,k1⟩:=h
    refine ⟨by first|trivial|(simp [AV.plain,AV.plainL,aI,aB,aInts,aBunks,aTks,aBunk,aTk,cTk];done)|(repeat' split) <;> simp [AV.plain,AV.plainL,aI,aB,aInts,aBunks,aTks,aBunk,aTk,cTk],fun _=>(by simp [AV.flat,AV.flatL,aI,aB]), ?_⟩
    have:=rtks_fn ((⟨(c0.map dCabin),c1,(c2.map dTk)⟩:Chart)) (l.map dTk) k0 k1
    simp only [aCabins,aChart,aI,aTks,cChart,← q0,← q1,← q2] at this
    first|exact this|(simp only [aCabins,aChart,aI,aTks,cChart,← q0,← q1,← q2];exact this)
  · exact h.elim
def isPlaceB (c:Chart) (a:Ask) (l:List Bunk):Bool:=decide (l.length=a.sexes.length) && l.all (fun b=>isBunkB c.cabins b.cab b.bed) && decide (ticketsE c (c.sold++slTk a l l.length)=0) && nearB c.cabins l
theorem isPlace_no {c:Chart} {a:Ask} {l:List Bunk} {k:Nat} (hk:k < l.length) (h:isBunkB c.cabins (l.getD k default).cab (l.getD k default).bed=false):isPlaceB c a l=false:=by
  have:l.all (fun b=>isBunkB c.cabins b.cab b.bed)=false:=by
    rw [List.all_eq_false]
    exact ⟨_,gMem hk,by rw [h];decide⟩
  unfold isPlaceB
  rw [this];simp
def ipS (c:Chart) (a:Ask) (l:List Bunk) (k:Nat):St:={ t:=asg [(2,aBunks l),(3,.ptr 0 0),(4,.ptr 1 0),(6,aB false),(7,aI k)],h:=hasg [(0,.cells (cChart c)),(1,.cells (cAsk a))],n:=2 }
def tbE12_isPlace:=vj @ty3 (vj @ty22 (vj @ty26 (vj @ty28 (vj @ty31 (vj @ty34 (vj @ty37 (vj @ty49 (vj @ty81 (vj @ti3.eq_1 (vj @ti22.eq_1 (vj @ti26.eq_1 (vj @ti28.eq_1 (vj @ti31.eq_1 (vj @ti34.eq_1 (vj @ti37.eq_1 (vj @ti49.eq_1 @ti81.eq_1))))))))))))))))
def xbE12_3:=vj @aI.eq_1 (vj @aB.eq_1 (@mInt))
theorem isPlace_fn (c:Chart) (a:Ask) (l:List Bunk) (hc:CarOk c) (hs:c.sold.length≤20) (ha:0 < a.sexes.length∧a.sexes.length≤20) (hl:l.length≤maxLen):FnV Try.prog 20 [aChart c,aAsk a,aBunks l] (aB (isPlaceB c a l)):=by
  have env:Env (fun _=>True) Try.prog tyB (tab [(73,valE true sisBunk),(75,valE false srTks),(74,valE true srtks),(76,valE true srnear)]):=mkEnv ⟨eisBunk,erTks,ertks,ernear,trivial⟩
  refine Fn.of (A:=fun _=>True) (n0:=0) (D:=noD) (Fn0 Try.func20 rfl (fun vs w=>by kernel_rfl) (by kernel_rfl)) (by simp) (by simp [AV.ids,AV.idsL,aChart,cChart,aAsk,cAsk,aBunks]) (fun i o h=>by cases h) (fun _ _ _ _=>trivial) noD_ok ?_
  have ec:(⟨c.cabins,c.secs,c.sold⟩:Chart)=c:=rfl
  have ea:(⟨a.party,a.frm,a.to,a.sexes,a.dog⟩:Ask)=a:=rfl
  have hmx:(100000:Nat)≤maxLen:=by decide
  by_cases hn:l.length=a.sexes.length
  · have d0:decide ((l.length:Int)=(a.sexes.length:Int))=true:=decide_eq_true (by omega)
    repeat' (first|(apply nx;with_reducible constructor)|refine uq (by decide) ?_|((first|refine vx env fun Q hQ=>?_|refine vz fun Q hQ=>?_);simp only [vkt,seval,tbE12_isPlace,xbE12_3,aBunk,aBunks,eBunk,gBunk,mBunk,aTks,eTk,rTk,mTk,mCabin,aChart,cChart,aAsk,cAsk,ipS,sisBunk,srTks,srtks,srnear,List.length_map,d0];(try simp only [ite_and]);(repeat' (first|with_reducible assumption|refine And.intro ?_ ?_|intro hp));all_goals (first|(refine hQ _ ?_;clear hQ Q)|(refine hQ _ (fun h=>?_) (fun h=>?_) <;> clear hQ Q <;> (try simp only [vki,reduceCtorEq] at h))|(refine vq ?_;kernel_rfl)|omega|assumption|with_reducible rfl|skip)))
    refine sym_loop (fun k:{ k:Nat // k≤l.length∧∀ j,j < k→isBunkB c.cabins (l.getD j default).cab (l.getD j default).bed=true }=>ipS c a l k.1) (fun k=>l.length - k.1) ⟨0,Nat.zero_le _,fun j h=>absurd h (Nat.not_lt_zero _)⟩ ?_ fun ⟨k,hk,hno⟩=>?_
    · (refine Le.ok some [] ?_;constructor;all_goals (try simp only [vle,vkt,seval,tbE12_isPlace,xbE12_3,aBunk,aBunks,eBunk,gBunk,mBunk,aTks,eTk,rTk,mTk,mCabin,aChart,cChart,aAsk,cAsk,ipS,sisBunk,srTks,srtks,srnear,List.length_map]))
      all_goals first|rfl|(simp;done)
    simp only at hk hno ⊢
    simp only [ipS]
    by_cases hlt:k < l.length
    · have d1:decide ((k:Int) < (l.length:Int))=true:=decide_eq_true (by omega)
      have e9:IntKind.wrap .i64 ((k:Int)+1)=((k+1:Nat):Int):=by rw [wrap64 (by omega) (by omega)];rfl
      have k0:((k:Int)).toNat=k:=rfl
      have hP:=isPlace_no (c:=c) (a:=a) hlt
      have hnk:=hno
      obtain ⟨x,hx⟩:∃ x,l.getD k default=x:=⟨_,rfl⟩
      rw [hx] at hP
      cases q:isBunkB c.cabins x.cab x.bed with
      |true =>
        repeat' (first|(apply nx;with_reducible constructor)|refine uq (by decide) ?_|((first|refine vx env fun Q hQ=>?_|refine vz fun Q hQ=>?_);simp only [vkt,seval,tbE12_isPlace,xbE12_3,aBunk,aBunks,eBunk,gBunk,mBunk,aTks,eTk,rTk,mTk,mCabin,aChart,cChart,aAsk,cAsk,ipS,sisBunk,srTks,srtks,srnear,List.length_map,d1,k0,hlt,hx,ec,q,e9];(try simp only [ite_and]);(repeat' (first|with_reducible assumption|refine And.intro ?_ ?_|intro hp));all_goals (first|(refine hQ _ ?_;clear hQ Q)|(refine hQ _ (fun h=>?_) (fun h=>?_) <;> clear hQ Q <;> (try simp only [vki,reduceCtorEq] at h))|(refine vq ?_;kernel_rfl)|omega|assumption|with_reducible rfl|skip)))
        refine ⟨⟨k+1,hlt,fun j hj=>?_⟩,by show l.length - (k+1) < l.length - k;omega, ?_⟩
        · rcases Nat.lt_or_eq_of_le (Nat.le_of_lt_succ hj) with h3|h3
          · exact hno j h3
          · rw [h3,hx];exact q
        · (refine Le.ok some [] ?_;constructor;all_goals (try simp only [vle,vkt,seval,tbE12_isPlace,xbE12_3,aBunk,aBunks,eBunk,gBunk,mBunk,aTks,eTk,rTk,mTk,mCabin,aChart,cChart,aAsk,cAsk,ipS,sisBunk,srTks,srtks,srnear,List.length_map]))
          all_goals first|rfl|(simp;done)
      |false =>
        rw [hP q]
        repeat' (first|(apply nx;with_reducible constructor)|refine uq (by decide) ?_|((first|refine vx env fun Q hQ=>?_|refine vz fun Q hQ=>?_);simp only [vkt,seval,tbE12_isPlace,xbE12_3,aBunk,aBunks,eBunk,gBunk,mBunk,aTks,eTk,rTk,mTk,mCabin,aChart,cChart,aAsk,cAsk,ipS,sisBunk,srTks,srtks,srnear,List.length_map,d1,k0,hlt,hx,ec,q];(try simp only [ite_and]);(repeat' (first|with_reducible assumption|refine And.intro ?_ ?_|intro hp));all_goals (first|(refine hQ _ ?_;clear hQ Q)|(refine hQ _ (fun h=>?_) (fun h=>?_) <;> clear hQ Q <;> (try simp only [vki,reduceCtorEq] at h))|(refine vq ?_;kernel_rfl)|omega|assumption|with_reducible rfl|skip)))
        (simp only [vrt,Try.results20,vkt,seval,tbE12_isPlace,xbE12_3,aBunk,aBunks,eBunk,gBunk,mBunk,aTks,eTk,rTk,mTk,mCabin,aChart,cChart,aAsk,cAsk,ipS,sisBunk,srTks,srtks,srnear,List.length_map];refine Fin.val rfl ?_;(try simp only [AV.le,AV.leL]))
        all_goals first|rfl|(simp;done)
    · have d1:decide ((k:Int) < (l.length:Int))=false:=decide_eq_false (by omega)
      obtain rfl:k=l.length:=by omega
      have hall:l.all (fun b=>isBunkB c.cabins b.cab b.bed)=true:=by
        rw [List.all_eq_true]
        intro b hb
        obtain ⟨j,hj,rfl⟩:=List.mem_iff_getElem.1 hb
        have:=hno j hj
        rw [show l.getD j default=l[j] by simp [List.getD_eq_getElem?_getD,hj]] at this
        exact this
      have hcl:=hc.cabs
      have hnear:NearOk c.cabins l:=⟨by omega,by omega,by omega,fun b hb=>by
        have:=List.all_eq_true.1 hall b hb
        have:=isBunk_ok this
        exact ⟨this.1,this.2.1⟩⟩
      have b1:l.length≤100:=by omega
      have b2:a.sexes.length=l.length:=hn.symm
      have hTl:=tks_len a l l.length
      obtain ⟨T,hT⟩:∃ T,slTk a l l.length=T:=⟨_,rfl⟩
      rw [hT] at hTl
      have b3:c.sold.length≤maxLen:=by omega
      have b4:c.sold.length+T.length≤maxLen:=by omega
      have b5:(c.sold++T).length≤100:=by rw [List.length_append];omega
      have hE:isPlaceB c a l=(decide (ticketsE c (c.sold++T)=0) && nearB c.cabins l):=by
        unfold isPlaceB
        rw [hall,decide_eq_true hn,hT];rfl
      rw [hE]
      have ma:List.map eTk c.sold++List.map eTk T=List.map eTk (c.sold++T):=by rw [List.map_append]
      cases q:decide (ticketsE c (c.sold++T)=0) with
      |true =>
        repeat' (first|(apply nx;with_reducible constructor)|refine uq (by decide) ?_|((first|refine vx env fun Q hQ=>?_|refine vz fun Q hQ=>?_);simp only [vkt,seval,tbE12_isPlace,xbE12_3,aBunk,aBunks,eBunk,gBunk,mBunk,aTks,eTk,rTk,mTk,mCabin,aChart,cChart,aAsk,cAsk,ipS,sisBunk,srTks,srtks,srnear,List.length_map,d1,ec,ea,b1,b2,hT,b3,b4,b5,ma,q,hnear];(try simp only [ite_and]);(repeat' (first|with_reducible assumption|refine And.intro ?_ ?_|intro hp));all_goals (first|(refine hQ _ ?_;clear hQ Q)|(refine hQ _ (fun h=>?_) (fun h=>?_) <;> clear hQ Q <;> (try simp only [vki,reduceCtorEq] at h))|(refine vq ?_;kernel_rfl)|omega|assumption|with_reducible rfl|skip)))
        (simp only [vrt,Try.results20,vkt,seval,tbE12_isPlace,xbE12_3,aBunk,aBunks,eBunk,gBunk,mBunk,aTks,eTk,rTk,mTk,mCabin,aChart,cChart,aAsk,cAsk,ipS,sisBunk,srTks,srtks,srnear,List.length_map];refine Fin.val rfl ?_;(try simp only [AV.le,AV.leL]))
        all_goals first|rfl|(simp;done)
      |false =>
        repeat' (first|(apply nx;with_reducible constructor)|refine uq (by decide) ?_|((first|refine vx env fun Q hQ=>?_|refine vz fun Q hQ=>?_);simp only [vkt,seval,tbE12_isPlace,xbE12_3,aBunk,aBunks,eBunk,gBunk,mBunk,aTks,eTk,rTk,mTk,mCabin,aChart,cChart,aAsk,cAsk,ipS,sisBunk,srTks,srtks,srnear,List.length_map,d1,ec,ea,b1,b2,hT,b3,b4,b5,ma,q,hnear];(try simp only [ite_and]);(repeat' (first|with_reducible assumption|refine And.intro ?_ ?_|intro hp));all_goals (first|(refine hQ _ ?_;clear hQ Q)|(refine hQ _ (fun h=>?_) (fun h=>?_) <;> clear hQ Q <;> (try simp only [vki,reduceCtorEq] at h))|(refine vq ?_;kernel_rfl)|omega|assumption|with_reducible rfl|skip)))
        (simp only [vrt,Try.results20,vkt,seval,tbE12_isPlace,xbE12_3,aBunk,aBunks,eBunk,gBunk,mBunk,aTks,eTk,rTk,mTk,mCabin,aChart,cChart,aAsk,cAsk,ipS,sisBunk,srTks,srtks,srnear,List.length_map];refine Fin.val rfl ?_;(try simp only [AV.le,AV.leL]))
        all_goals first|rfl|(simp;done)
  · have d0:decide ((l.length:Int)=(a.sexes.length:Int))=false:=decide_eq_false (by omega)
    have hE:isPlaceB c a l=false:=by unfold isPlaceB;rw [decide_eq_false hn];rfl
    rw [hE]
    repeat' (first|(apply nx;with_reducible constructor)|refine uq (by decide) ?_|((first|refine vx env fun Q hQ=>?_|refine vz fun Q hQ=>?_);simp only [vkt,seval,tbE12_isPlace,xbE12_3,aBunk,aBunks,eBunk,gBunk,mBunk,aTks,eTk,rTk,mTk,mCabin,aChart,cChart,aAsk,cAsk,ipS,sisBunk,srTks,srtks,srnear,List.length_map,d0];(try simp only [ite_and]);(repeat' (first|with_reducible assumption|refine And.intro ?_ ?_|intro hp));all_goals (first|(refine hQ _ ?_;clear hQ Q)|(refine hQ _ (fun h=>?_) (fun h=>?_) <;> clear hQ Q <;> (try simp only [vki,reduceCtorEq] at h))|(refine vq ?_;kernel_rfl)|omega|assumption|with_reducible rfl|skip)))
    (simp only [vrt,Try.results20,vkt,seval,tbE12_isPlace,xbE12_3,aBunk,aBunks,eBunk,gBunk,mBunk,aTks,eTk,rTk,mTk,mCabin,aChart,cChart,aAsk,cAsk,ipS,sisBunk,srTks,srtks,srnear,List.length_map];refine Fin.val rfl ?_;(try simp only [AV.le,AV.leL]))
    all_goals first|rfl|(simp;done)
def sisPlace:List AV→Prop × AV
  |[.agg [.sl c0,.v (.int .i64 c1),.sl c2],.agg [.v (.int .i64 a0),.v (.int .i64 a1),.v (.int .i64 a2),.sl a3,.v (.bool a4)],.sl l]=>(c0=(c0.map dCabin).map eCabin∧c2=(c2.map dTk).map eTk∧a3=(a3.map dInt).map eInt∧l=(l.map dBunk).map eBunk∧CarOk ((⟨(c0.map dCabin),c1,(c2.map dTk)⟩:Chart))∧((⟨(c0.map dCabin),c1,(c2.map dTk)⟩:Chart)).sold.length≤20∧0 < ((⟨a0,a1,a2,(a3.map dInt),a4⟩:Ask)).sexes.length∧((⟨a0,a1,a2,(a3.map dInt),a4⟩:Ask)).sexes.length≤20∧(l.map dBunk).length≤maxLen,aB (isPlaceB ((⟨(c0.map dCabin),c1,(c2.map dTk)⟩:Chart)) ((⟨a0,a1,a2,(a3.map dInt),a4⟩:Ask)) (l.map dBunk)))
  |_=>(False,.junk)
theorem eisPlace {A:Frm→Prop}:EntryOK A Try.prog 20 (valE true sisPlace):=valE_ok fun vs hv h=>by
  clear hv
  unfold sisPlace at h ⊢
  split at h
  · rename_i c0 c1 c2 a0 a1 a2 a3 a4 l;obtain ⟨q0,q1,q2,q3,k0,k1,k2,k3,k4⟩:=h
    refine ⟨by first|trivial|(simp [AV.plain,AV.plainL,aI,aB,aInts,aBunks,aTks,aBunk,aTk,cTk];done)|(repeat' split) <;> simp [AV.plain,AV.plainL,aI,aB,aInts,aBunks,aTks,aBunk,aTk,cTk],fun _=>(by simp [AV.flat,AV.flatL,aI,aB]), ?_⟩
    have:=isPlace_fn ((⟨(c0.map dCabin),c1,(c2.map dTk)⟩:Chart)) ((⟨a0,a1,a2,(a3.map dInt),a4⟩:Ask)) (l.map dBunk) k0 k1 ⟨k2,k3⟩ k4
    simp only [aAsk,aB,aBunks,aCabins,aChart,aI,aInts,aTks,cAsk,cChart,← q0,← q1,← q2,← q3] at this
    first|exact this|(simp only [aAsk,aB,aBunks,aCabins,aChart,aI,aInts,aTks,cAsk,cChart,← q0,← q1,← q2,← q3];exact this)
  · exact h.elim
end Go.Sym.B
namespace Go.Sym.B
open Go Go.Sym Go.Proofs Go.Sym.C
def stB (a b:Tk) (s:Int):Bool:=decide (a.cab=b.cab) && !decide (s < a.frm) && !decide (a.to≤s) && !decide (s < b.frm) && !decide (b.to≤s) && (decide (a.bed=b.bed) || (!decide (a.party=b.party) && (!decide (a.sex=b.sex) || a.dog || b.dog)))
def prB (c:Chart) (a b:Tk):Bool:=(List.range c.secs.toNat).any fun (s:Nat)=>stB a b s
def rwB (c:Chart) (i:Nat):Bool:=(List.range i).any fun k=>prB c (c.sold.getD i default) (c.sold.getD k default)
def strB (c:Chart):Bool:=(List.range c.sold.length).any (rwB c)
theorem rngNo {n:Nat} {p:Nat→Bool} (h:∀ j,j < n→p j=false):(List.range n).any p=false:=List.any_eq_false.2 fun j hj=>by rw [h j (List.mem_range.1 hj)];simp
theorem rngHit {n k:Nat} {p:Nat→Bool} (hk:k < n) (h:p k=true):(List.range n).any p=true:=List.any_eq_true.2 ⟨k,List.mem_range.2 hk,h⟩
def stS (c:Chart) (T:List (Nat × AV)) (H:List (Nat × AObj)) (n:Nat):St:={ t:=asg (T++[(1,.ptr 0 0),(2,aB false)]),h:=hasg (H++[(0,.cells (cChart c))]),n:=n }
def tbE13_strangers:=vj @ty3 (vj @ty4 (vj @ty26 (vj @ty28 (vj @ty49 (vj @ty81 (vj @ti3.eq_1 (vj @ti4.eq_1 (vj @ti26.eq_1 (vj @ti28.eq_1 (vj @ti49.eq_1 @ti81.eq_1))))))))))
def xbE13_1:=vj @aI.eq_1 (@aB.eq_1)
set_option maxHeartbeats 2000000 in
theorem strangers_fn (c:Chart) (hl:c.sold.length≤100) (hs:c.secs≤1000):FnV Try.prog 47 [aChart c] (aB (strB c)):=by
  have env:Env (fun _=>True) Try.prog tyB (tab []):=mkEnv trivial
  refine Fn.of (A:=fun _=>True) (n0:=0) (D:=noD) (Fn0 Try.func47 rfl (fun vs w=>by kernel_rfl) (by kernel_rfl)) (by simp) (by simp [AV.ids,AV.idsL,aChart,cChart]) (fun i o h=>by cases h) (fun _ _ _ _=>trivial) noD_ok ?_
  repeat' (first|(apply nx;with_reducible constructor)|refine uq (by decide) ?_|((first|refine vx env fun Q hQ=>?_|refine vz fun Q hQ=>?_);simp only [vkt,seval,tbE13_strangers,xbE13_1,aTk,cTk,aTks,eTk,gTk,mTk,aChart,cChart,stS,List.length_map];(try simp only [ite_and]);(repeat' (first|with_reducible assumption|refine And.intro ?_ ?_|intro hp));all_goals (first|(refine hQ _ ?_;clear hQ Q)|(refine hQ _ (fun h=>?_) (fun h=>?_) <;> clear hQ Q <;> (try simp only [vki,reduceCtorEq] at h))|(refine vq ?_;kernel_rfl)|omega|assumption|with_reducible rfl|skip)))
  refine sym_loop (fun i:{ i:Nat // i≤c.sold.length∧∀ j,j < i→rwB c j=false }=>stS c [(3,aI i.1)] [] 1) (fun i=>c.sold.length - i.1) ⟨0,Nat.zero_le _,fun j h=>absurd h (Nat.not_lt_zero _)⟩ ?_ fun ⟨i,hi,hno⟩=>?_
  · simp only [stS,List.cons_append,List.nil_append]
    (refine Le.ok some [] ?_;constructor;all_goals (try simp only [vle,vkt,seval,tbE13_strangers,xbE13_1,aTk,cTk,aTks,eTk,gTk,mTk,aChart,cChart,stS,List.length_map]))
    all_goals first|rfl|(simp;done)
  simp only at hi hno ⊢
  simp only [stS,List.cons_append,List.nil_append]
  by_cases hil:i < c.sold.length
  · have d1:decide ((i:Int) < (c.sold.length:Int))=true:=decide_eq_true (by omega)
    have e9:IntKind.wrap .i64 ((i:Int)+1)=((i+1:Nat):Int):=by rw [wrap64 (by omega) (by omega)];rfl
    have i0:((i:Int)).toNat=i:=rfl
    obtain ⟨a,ha⟩:∃ a,c.sold.getD i default=a:=⟨_,rfl⟩
    have hrw:rwB c i=(List.range i).any fun k=>prB c a (c.sold.getD k default):=by unfold rwB;rw [ha]
    repeat' (first|(apply nx;with_reducible constructor)|refine uq (by decide) ?_|((first|refine vx env fun Q hQ=>?_|refine vz fun Q hQ=>?_);simp only [vkt,seval,tbE13_strangers,xbE13_1,aTk,cTk,aTks,eTk,gTk,mTk,aChart,cChart,stS,List.length_map,d1];(try simp only [ite_and]);(repeat' (first|with_reducible assumption|refine And.intro ?_ ?_|intro hp));all_goals (first|(refine hQ _ ?_;clear hQ Q)|(refine hQ _ (fun h=>?_) (fun h=>?_) <;> clear hQ Q <;> (try simp only [vki,reduceCtorEq] at h))|(refine vq ?_;kernel_rfl)|omega|assumption|with_reducible rfl|skip)))
    refine sym_loop (fun k:{ k:Nat // k≤i∧∀ j,j < k→prB c a (c.sold.getD j default)=false }=>stS c [(3,aI i),(4,aI k.1)] [] 1) (fun k=>i - k.1) ⟨0,Nat.zero_le _,fun j h=>absurd h (Nat.not_lt_zero _)⟩ ?_ fun ⟨k,hk,hno2⟩=>?_
    · simp only [stS,List.cons_append,List.nil_append]
      (refine Le.ok some [] ?_;constructor;all_goals (try simp only [vle,vkt,seval,tbE13_strangers,xbE13_1,aTk,cTk,aTks,eTk,gTk,mTk,aChart,cChart,stS,List.length_map]))
      all_goals first|rfl|(simp;done)
    simp only at hk hno2 ⊢
    simp only [stS,List.cons_append,List.nil_append]
    by_cases hkl:k < i
    · have d2:decide ((k:Int) < (i:Int))=true:=decide_eq_true (by omega)
      have e8:IntKind.wrap .i64 ((k:Int)+1)=((k+1:Nat):Int):=by rw [wrap64 (by omega) (by omega)];rfl
      have k0:((k:Int)).toNat=k:=rfl
      have hkc:k < c.sold.length:=by omega
      obtain ⟨b,hb⟩:∃ b,c.sold.getD k default=b:=⟨_,rfl⟩
      repeat' (first|(apply nx;with_reducible constructor)|refine uq (by decide) ?_|((first|refine vx env fun Q hQ=>?_|refine vz fun Q hQ=>?_);simp only [vkt,seval,tbE13_strangers,xbE13_1,aTk,cTk,aTks,eTk,gTk,mTk,aChart,cChart,stS,List.length_map,d2,i0,k0,hil,hkc,ha,hb];(try simp only [ite_and]);(repeat' (first|with_reducible assumption|refine And.intro ?_ ?_|intro hp));all_goals (first|(refine hQ _ ?_;clear hQ Q)|(refine hQ _ (fun h=>?_) (fun h=>?_) <;> clear hQ Q <;> (try simp only [vki,reduceCtorEq] at h))|(refine vq ?_;kernel_rfl)|omega|assumption|with_reducible rfl|skip)))
      refine sym_loop (fun s:{ s:Nat // s≤c.secs.toNat∧∀ j:Nat,j < s→stB a b j=false }=>stS c [(3,aI i),(4,aI k),(5,.ptr 1 0),(6,.ptr 2 0),(7,aI s.1)] [(1,.cells (cTk a)),(2,.cells (cTk b))] 3) (fun s=>c.secs.toNat - s.1) ⟨0,Nat.zero_le _,fun j h=>absurd h (Nat.not_lt_zero _)⟩ ?_ fun ⟨s,hs1,hno3⟩=>?_
      · simp only [stS,List.cons_append,List.nil_append]
        (refine Le.ok some [] ?_;constructor;all_goals (try simp only [vle,vkt,seval,tbE13_strangers,xbE13_1,aTk,cTk,aTks,eTk,gTk,mTk,aChart,cChart,stS,List.length_map]))
        all_goals first|rfl|(simp;done)
      simp only at hs1 hno3 ⊢
      simp only [stS,List.cons_append,List.nil_append]
      by_cases hsl:s < c.secs.toNat
      · have d3:decide ((s:Int) < c.secs)=true:=decide_eq_true (by omega)
        have e7:IntKind.wrap .i64 ((s:Int)+1)=((s+1:Nat):Int):=by rw [wrap64 (by omega) (by omega)];rfl
        have nxt:stB a b s=false→∀ S,Le S (stS c [(3,aI i),(4,aI k),(5,.ptr 1 0),(6,.ptr 2 0),(7,aI (s+1:Nat))] [(1,.cells (cTk a)),(2,.cells (cTk b))] 3)→∃ y:{ s:Nat // s≤c.secs.toNat∧∀ j:Nat,j < s→stB a b j=false },(c.secs.toNat - y.1 < c.secs.toNat - s)∧Le S (stS c [(3,aI i),(4,aI k),(5,.ptr 1 0),(6,.ptr 2 0),(7,aI y.1)] [(1,.cells (cTk a)),(2,.cells (cTk b))] 3):=fun hb S hS=>⟨⟨s+1,hsl,fun j hj=>by
          rcases Nat.lt_or_eq_of_le (Nat.le_of_lt_succ hj) with h1|h1
          · exact hno3 j h1
          · rw [h1];exact hb⟩,by show c.secs.toNat - (s+1) < c.secs.toNat - s;omega,hS⟩
        have fin:stB a b s=true→strB c=true:=fun h=>rngHit hil (by rw [hrw];exact rngHit hkl (by rw [hb];exact rngHit hsl h))
        have hst:stB a b s=(decide (a.cab=b.cab) && !decide ((s:Int) < a.frm) && !decide (a.to≤(s:Int)) && !decide ((s:Int) < b.frm) && !decide (b.to≤(s:Int)) && (decide (a.bed=b.bed) || (!decide (a.party=b.party) && (!decide (a.sex=b.sex) || a.dog || b.dog)))):=rfl
        have hs:=hsl
        cases q1:decide (a.cab=b.cab)
        case false =>
          repeat' (first|(apply nx;with_reducible constructor)|refine uq (by decide) ?_|((first|refine vx env fun Q hQ=>?_|refine vz fun Q hQ=>?_);simp only [vkt,seval,tbE13_strangers,xbE13_1,aTk,cTk,aTks,eTk,gTk,mTk,aChart,cChart,stS,List.length_map,d3,e7,hs,q1,Bool.not_true,Bool.not_false];(try simp only [ite_and]);(repeat' (first|with_reducible assumption|refine And.intro ?_ ?_|intro hp));all_goals (first|(refine hQ _ ?_;clear hQ Q)|(refine hQ _ (fun h=>?_) (fun h=>?_) <;> clear hQ Q <;> (try simp only [vki,reduceCtorEq] at h))|(refine vq ?_;kernel_rfl)|omega|assumption|with_reducible rfl|skip)))
          refine nxt (by rw [hst,q1];rfl) _ ?_
          simp only [stS,List.cons_append,List.nil_append]
          (refine Le.ok some [] ?_;constructor;all_goals (try simp only [vle,vkt,seval,tbE13_strangers,xbE13_1,aTk,cTk,aTks,eTk,gTk,mTk,aChart,cChart,stS,List.length_map]))
          all_goals first|rfl|(simp;done)|(simp [*];done)
        cases q2:decide ((s:Int) < a.frm)
        case true =>
          repeat' (first|(apply nx;with_reducible constructor)|refine uq (by decide) ?_|((first|refine vx env fun Q hQ=>?_|refine vz fun Q hQ=>?_);simp only [vkt,seval,tbE13_strangers,xbE13_1,aTk,cTk,aTks,eTk,gTk,mTk,aChart,cChart,stS,List.length_map,d3,e7,hs,q1,q2,Bool.not_true,Bool.not_false];(try simp only [ite_and]);(repeat' (first|with_reducible assumption|refine And.intro ?_ ?_|intro hp));all_goals (first|(refine hQ _ ?_;clear hQ Q)|(refine hQ _ (fun h=>?_) (fun h=>?_) <;> clear hQ Q <;> (try simp only [vki,reduceCtorEq] at h))|(refine vq ?_;kernel_rfl)|omega|assumption|with_reducible rfl|skip)))
          refine nxt (by rw [hst,q1,q2];rfl) _ ?_
          simp only [stS,List.cons_append,List.nil_append]
          (refine Le.ok some [] ?_;constructor;all_goals (try simp only [vle,vkt,seval,tbE13_strangers,xbE13_1,aTk,cTk,aTks,eTk,gTk,mTk,aChart,cChart,stS,List.length_map]))
          all_goals first|rfl|(simp;done)|(simp [*];done)
        cases q3:decide (a.to≤(s:Int))
        case true =>
          repeat' (first|(apply nx;with_reducible constructor)|refine uq (by decide) ?_|((first|refine vx env fun Q hQ=>?_|refine vz fun Q hQ=>?_);simp only [vkt,seval,tbE13_strangers,xbE13_1,aTk,cTk,aTks,eTk,gTk,mTk,aChart,cChart,stS,List.length_map,d3,e7,hs,q1,q2,q3,Bool.not_true,Bool.not_false];(try simp only [ite_and]);(repeat' (first|with_reducible assumption|refine And.intro ?_ ?_|intro hp));all_goals (first|(refine hQ _ ?_;clear hQ Q)|(refine hQ _ (fun h=>?_) (fun h=>?_) <;> clear hQ Q <;> (try simp only [vki,reduceCtorEq] at h))|(refine vq ?_;kernel_rfl)|omega|assumption|with_reducible rfl|skip)))
          refine nxt (by rw [hst,q1,q2,q3];rfl) _ ?_
          simp only [stS,List.cons_append,List.nil_append]
          (refine Le.ok some [] ?_;constructor;all_goals (try simp only [vle,vkt,seval,tbE13_strangers,xbE13_1,aTk,cTk,aTks,eTk,gTk,mTk,aChart,cChart,stS,List.length_map]))
          all_goals first|rfl|(simp;done)|(simp [*];done)
        cases q4:decide ((s:Int) < b.frm)
        case true =>
          repeat' (first|(apply nx;with_reducible constructor)|refine uq (by decide) ?_|((first|refine vx env fun Q hQ=>?_|refine vz fun Q hQ=>?_);simp only [vkt,seval,tbE13_strangers,xbE13_1,aTk,cTk,aTks,eTk,gTk,mTk,aChart,cChart,stS,List.length_map,d3,e7,hs,q1,q2,q3,q4,Bool.not_true,Bool.not_false];(try simp only [ite_and]);(repeat' (first|with_reducible assumption|refine And.intro ?_ ?_|intro hp));all_goals (first|(refine hQ _ ?_;clear hQ Q)|(refine hQ _ (fun h=>?_) (fun h=>?_) <;> clear hQ Q <;> (try simp only [vki,reduceCtorEq] at h))|(refine vq ?_;kernel_rfl)|omega|assumption|with_reducible rfl|skip)))
          refine nxt (by rw [hst,q1,q2,q3,q4];rfl) _ ?_
          simp only [stS,List.cons_append,List.nil_append]
          (refine Le.ok some [] ?_;constructor;all_goals (try simp only [vle,vkt,seval,tbE13_strangers,xbE13_1,aTk,cTk,aTks,eTk,gTk,mTk,aChart,cChart,stS,List.length_map]))
          all_goals first|rfl|(simp;done)|(simp [*];done)
        cases q5:decide (b.to≤(s:Int))
        case true =>
          repeat' (first|(apply nx;with_reducible constructor)|refine uq (by decide) ?_|((first|refine vx env fun Q hQ=>?_|refine vz fun Q hQ=>?_);simp only [vkt,seval,tbE13_strangers,xbE13_1,aTk,cTk,aTks,eTk,gTk,mTk,aChart,cChart,stS,List.length_map,d3,e7,hs,q1,q2,q3,q4,q5,Bool.not_true,Bool.not_false];(try simp only [ite_and]);(repeat' (first|with_reducible assumption|refine And.intro ?_ ?_|intro hp));all_goals (first|(refine hQ _ ?_;clear hQ Q)|(refine hQ _ (fun h=>?_) (fun h=>?_) <;> clear hQ Q <;> (try simp only [vki,reduceCtorEq] at h))|(refine vq ?_;kernel_rfl)|omega|assumption|with_reducible rfl|skip)))
          refine nxt (by rw [hst,q1,q2,q3,q4,q5];rfl) _ ?_
          simp only [stS,List.cons_append,List.nil_append]
          (refine Le.ok some [] ?_;constructor;all_goals (try simp only [vle,vkt,seval,tbE13_strangers,xbE13_1,aTk,cTk,aTks,eTk,gTk,mTk,aChart,cChart,stS,List.length_map]))
          all_goals first|rfl|(simp;done)|(simp [*];done)
        cases q6:decide (a.bed=b.bed)
        case true =>
          rw [fin (by rw [hst,q1,q2,q3,q4,q5,q6];rfl)]
          repeat' (first|(apply nx;with_reducible constructor)|refine uq (by decide) ?_|((first|refine vx env fun Q hQ=>?_|refine vz fun Q hQ=>?_);simp only [vkt,seval,tbE13_strangers,xbE13_1,aTk,cTk,aTks,eTk,gTk,mTk,aChart,cChart,stS,List.length_map,d3,e7,hs,q1,q2,q3,q4,q5,q6,Bool.not_true,Bool.not_false];(try simp only [ite_and]);(repeat' (first|with_reducible assumption|refine And.intro ?_ ?_|intro hp));all_goals (first|(refine hQ _ ?_;clear hQ Q)|(refine hQ _ (fun h=>?_) (fun h=>?_) <;> clear hQ Q <;> (try simp only [vki,reduceCtorEq] at h))|(refine vq ?_;kernel_rfl)|omega|assumption|with_reducible rfl|skip)))
          (simp only [vrt,Try.results47,vkt,seval,tbE13_strangers,xbE13_1,aTk,cTk,aTks,eTk,gTk,mTk,aChart,cChart,stS,List.length_map];refine Fin.val rfl ?_;(try simp only [AV.le,AV.leL]))
          all_goals first|rfl|(simp;done)
        cases q7:decide (a.party=b.party)
        case true =>
          repeat' (first|(apply nx;with_reducible constructor)|refine uq (by decide) ?_|((first|refine vx env fun Q hQ=>?_|refine vz fun Q hQ=>?_);simp only [vkt,seval,tbE13_strangers,xbE13_1,aTk,cTk,aTks,eTk,gTk,mTk,aChart,cChart,stS,List.length_map,d3,e7,hs,q1,q2,q3,q4,q5,q6,q7,Bool.not_true,Bool.not_false];(try simp only [ite_and]);(repeat' (first|with_reducible assumption|refine And.intro ?_ ?_|intro hp));all_goals (first|(refine hQ _ ?_;clear hQ Q)|(refine hQ _ (fun h=>?_) (fun h=>?_) <;> clear hQ Q <;> (try simp only [vki,reduceCtorEq] at h))|(refine vq ?_;kernel_rfl)|omega|assumption|with_reducible rfl|skip)))
          refine nxt (by rw [hst,q1,q2,q3,q4,q5,q6,q7];rfl) _ ?_
          simp only [stS,List.cons_append,List.nil_append]
          (refine Le.ok some [] ?_;constructor;all_goals (try simp only [vle,vkt,seval,tbE13_strangers,xbE13_1,aTk,cTk,aTks,eTk,gTk,mTk,aChart,cChart,stS,List.length_map]))
          all_goals first|rfl|(simp;done)|(simp [*];done)
        cases q8:decide (a.sex=b.sex)
        case false =>
          rw [fin (by rw [hst,q1,q2,q3,q4,q5,q6,q7,q8];rfl)]
          repeat' (first|(apply nx;with_reducible constructor)|refine uq (by decide) ?_|((first|refine vx env fun Q hQ=>?_|refine vz fun Q hQ=>?_);simp only [vkt,seval,tbE13_strangers,xbE13_1,aTk,cTk,aTks,eTk,gTk,mTk,aChart,cChart,stS,List.length_map,d3,e7,hs,q1,q2,q3,q4,q5,q6,q7,q8,Bool.not_true,Bool.not_false];(try simp only [ite_and]);(repeat' (first|with_reducible assumption|refine And.intro ?_ ?_|intro hp));all_goals (first|(refine hQ _ ?_;clear hQ Q)|(refine hQ _ (fun h=>?_) (fun h=>?_) <;> clear hQ Q <;> (try simp only [vki,reduceCtorEq] at h))|(refine vq ?_;kernel_rfl)|omega|assumption|with_reducible rfl|skip)))
          (simp only [vrt,Try.results47,vkt,seval,tbE13_strangers,xbE13_1,aTk,cTk,aTks,eTk,gTk,mTk,aChart,cChart,stS,List.length_map];refine Fin.val rfl ?_;(try simp only [AV.le,AV.leL]))
          all_goals first|rfl|(simp;done)
        cases q9:a.dog
        case true =>
          rw [fin (by rw [hst,q1,q2,q3,q4,q5,q6,q7,q8,q9];rfl)]
          repeat' (first|(apply nx;with_reducible constructor)|refine uq (by decide) ?_|((first|refine vx env fun Q hQ=>?_|refine vz fun Q hQ=>?_);simp only [vkt,seval,tbE13_strangers,xbE13_1,aTk,cTk,aTks,eTk,gTk,mTk,aChart,cChart,stS,List.length_map,d3,e7,hs,q1,q2,q3,q4,q5,q6,q7,q8,q9,Bool.not_true,Bool.not_false];(try simp only [ite_and]);(repeat' (first|with_reducible assumption|refine And.intro ?_ ?_|intro hp));all_goals (first|(refine hQ _ ?_;clear hQ Q)|(refine hQ _ (fun h=>?_) (fun h=>?_) <;> clear hQ Q <;> (try simp only [vki,reduceCtorEq] at h))|(refine vq ?_;kernel_rfl)|omega|assumption|with_reducible rfl|skip)))
          (simp only [vrt,Try.results47,vkt,seval,tbE13_strangers,xbE13_1,aTk,cTk,aTks,eTk,gTk,mTk,aChart,cChart,stS,List.length_map];refine Fin.val rfl ?_;(try simp only [AV.le,AV.leL]))
          all_goals first|rfl|(simp;done)
        cases q10:b.dog
        case false =>
          repeat' (first|(apply nx;with_reducible constructor)|refine uq (by decide) ?_|((first|refine vx env fun Q hQ=>?_|refine vz fun Q hQ=>?_);simp only [vkt,seval,tbE13_strangers,xbE13_1,aTk,cTk,aTks,eTk,gTk,mTk,aChart,cChart,stS,List.length_map,d3,e7,hs,q1,q2,q3,q4,q5,q6,q7,q8,q9,q10,Bool.not_true,Bool.not_false];(try simp only [ite_and]);(repeat' (first|with_reducible assumption|refine And.intro ?_ ?_|intro hp));all_goals (first|(refine hQ _ ?_;clear hQ Q)|(refine hQ _ (fun h=>?_) (fun h=>?_) <;> clear hQ Q <;> (try simp only [vki,reduceCtorEq] at h))|(refine vq ?_;kernel_rfl)|omega|assumption|with_reducible rfl|skip)))
          refine nxt (by rw [hst,q1,q2,q3,q4,q5,q6,q7,q8,q9,q10];rfl) _ ?_
          simp only [stS,List.cons_append,List.nil_append]
          (refine Le.ok some [] ?_;constructor;all_goals (try simp only [vle,vkt,seval,tbE13_strangers,xbE13_1,aTk,cTk,aTks,eTk,gTk,mTk,aChart,cChart,stS,List.length_map]))
          all_goals first|rfl|(simp;done)|(simp [*];done)
        case true =>
          rw [fin (by rw [hst,q1,q2,q3,q4,q5,q6,q7,q8,q9,q10];rfl)]
          repeat' (first|(apply nx;with_reducible constructor)|refine uq (by decide) ?_|((first|refine vx env fun Q hQ=>?_|refine vz fun Q hQ=>?_);simp only [vkt,seval,tbE13_strangers,xbE13_1,aTk,cTk,aTks,eTk,gTk,mTk,aChart,cChart,stS,List.length_map,d3,e7,hs,q1,q2,q3,q4,q5,q6,q7,q8,q9,q10,Bool.not_true,Bool.not_false];(try simp only [ite_and]);(repeat' (first|with_reducible assumption|refine And.intro ?_ ?_|intro hp));all_goals (first|(refine hQ _ ?_;clear hQ Q)|(refine hQ _ (fun h=>?_) (fun h=>?_) <;> clear hQ Q <;> (try simp only [vki,reduceCtorEq] at h))|(refine vq ?_;kernel_rfl)|omega|assumption|with_reducible rfl|skip)))
          (simp only [vrt,Try.results47,vkt,seval,tbE13_strangers,xbE13_1,aTk,cTk,aTks,eTk,gTk,mTk,aChart,cChart,stS,List.length_map];refine Fin.val rfl ?_;(try simp only [AV.le,AV.leL]))
          all_goals first|rfl|(simp;done)
      · have d3:decide ((s:Int) < c.secs)=false:=decide_eq_false (by omega)
        have hp:prB c a b=false:=rngNo fun j hj=>hno3 j (by omega)
        repeat' (first|(apply nx;with_reducible constructor)|refine uq (by decide) ?_|((first|refine vx env fun Q hQ=>?_|refine vz fun Q hQ=>?_);simp only [vkt,seval,tbE13_strangers,xbE13_1,aTk,cTk,aTks,eTk,gTk,mTk,aChart,cChart,stS,List.length_map,d3,e8];(try simp only [ite_and]);(repeat' (first|with_reducible assumption|refine And.intro ?_ ?_|intro hp));all_goals (first|(refine hQ _ ?_;clear hQ Q)|(refine hQ _ (fun h=>?_) (fun h=>?_) <;> clear hQ Q <;> (try simp only [vki,reduceCtorEq] at h))|(refine vq ?_;kernel_rfl)|omega|assumption|with_reducible rfl|skip)))
        refine ⟨⟨k+1,hkl,fun j hj=>by
          rcases Nat.lt_or_eq_of_le (Nat.le_of_lt_succ hj) with h1|h1
          · exact hno2 j h1
          · rw [h1,hb];exact hp⟩,by show i - (k+1) < i - k;omega, ?_⟩
        simp only [stS,List.cons_append,List.nil_append]
        (refine Le.ok some [] ?_;constructor;all_goals (try simp only [vle,vkt,seval,tbE13_strangers,xbE13_1,aTk,cTk,aTks,eTk,gTk,mTk,aChart,cChart,stS,List.length_map]))
        all_goals first|rfl|(simp;done)
    · have d2:decide ((k:Int) < (i:Int))=false:=decide_eq_false (by omega)
      have hp:rwB c i=false:=by rw [hrw];exact rngNo fun j hj=>hno2 j (by omega)
      repeat' (first|(apply nx;with_reducible constructor)|refine uq (by decide) ?_|((first|refine vx env fun Q hQ=>?_|refine vz fun Q hQ=>?_);simp only [vkt,seval,tbE13_strangers,xbE13_1,aTk,cTk,aTks,eTk,gTk,mTk,aChart,cChart,stS,List.length_map,d2,e9];(try simp only [ite_and]);(repeat' (first|with_reducible assumption|refine And.intro ?_ ?_|intro hp));all_goals (first|(refine hQ _ ?_;clear hQ Q)|(refine hQ _ (fun h=>?_) (fun h=>?_) <;> clear hQ Q <;> (try simp only [vki,reduceCtorEq] at h))|(refine vq ?_;kernel_rfl)|omega|assumption|with_reducible rfl|skip)))
      refine ⟨⟨i+1,hil,fun j hj=>by
        rcases Nat.lt_or_eq_of_le (Nat.le_of_lt_succ hj) with h1|h1
        · exact hno j h1
        · rw [h1];exact hp⟩,by show c.sold.length - (i+1) < c.sold.length - i;omega, ?_⟩
      simp only [stS,List.cons_append,List.nil_append]
      (refine Le.ok some [] ?_;constructor;all_goals (try simp only [vle,vkt,seval,tbE13_strangers,xbE13_1,aTk,cTk,aTks,eTk,gTk,mTk,aChart,cChart,stS,List.length_map]))
      all_goals first|rfl|(simp;done)
  · have d1:decide ((i:Int) < (c.sold.length:Int))=false:=decide_eq_false (by omega)
    rw [show strB c=false from rngNo fun j hj=>hno j (by omega)]
    repeat' (first|(apply nx;with_reducible constructor)|refine uq (by decide) ?_|((first|refine vx env fun Q hQ=>?_|refine vz fun Q hQ=>?_);simp only [vkt,seval,tbE13_strangers,xbE13_1,aTk,cTk,aTks,eTk,gTk,mTk,aChart,cChart,stS,List.length_map,d1];(try simp only [ite_and]);(repeat' (first|with_reducible assumption|refine And.intro ?_ ?_|intro hp));all_goals (first|(refine hQ _ ?_;clear hQ Q)|(refine hQ _ (fun h=>?_) (fun h=>?_) <;> clear hQ Q <;> (try simp only [vki,reduceCtorEq] at h))|(refine vq ?_;kernel_rfl)|omega|assumption|with_reducible rfl|skip)))
    (simp only [vrt,Try.results47,vkt,seval,tbE13_strangers,xbE13_1,aTk,cTk,aTks,eTk,gTk,mTk,aChart,cChart,stS,List.length_map];refine Fin.val rfl ?_;(try simp only [AV.le,AV.leL]))
    all_goals first|rfl|(simp;done)
def sstrangers:List AV→Prop × AV
  |[.agg [.sl c0,.v (.int .i64 c1),.sl c2]]=>(c0=(c0.map dCabin).map eCabin∧c2=(c2.map dTk).map eTk∧((⟨(c0.map dCabin),c1,(c2.map dTk)⟩:Chart)).sold.length≤100∧((⟨(c0.map dCabin),c1,(c2.map dTk)⟩:Chart)).secs≤1000,aB (strB ((⟨(c0.map dCabin),c1,(c2.map dTk)⟩:Chart))))
  |_=>(False,.junk)
theorem estrangers {A:Frm→Prop}:EntryOK A Try.prog 47 (valE true sstrangers):=valE_ok fun vs hv h=>by
  clear hv
  unfold sstrangers at h ⊢
  split at h
  · rename_i c0 c1 c2;obtain ⟨q0,q1,k0,k1⟩:=h
    refine ⟨by first|trivial|(simp [AV.plain,AV.plainL,aI,aB,aInts,aBunks,aTks,aBunk,aTk,cTk];done)|(repeat' split) <;> simp [AV.plain,AV.plainL,aI,aB,aInts,aBunks,aTks,aBunk,aTk,cTk],fun _=>(by simp [AV.flat,AV.flatL,aI,aB]), ?_⟩
    have:=strangers_fn ((⟨(c0.map dCabin),c1,(c2.map dTk)⟩:Chart)) k0 k1
    simp only [aCabins,aChart,aI,aTks,cChart,← q0,← q1] at this
    first|exact this|(simp only [aCabins,aChart,aI,aTks,cChart,← q0,← q1];exact this)
  · exact h.elim
def isFreeB (c:Chart) (a:Ask) (l:List Bunk):Bool:=nearB c.cabins l && !strB ⟨c.cabins,c.secs,c.sold++slTk a l l.length⟩
def ifS (c:Chart) (a:Ask) (l:List Bunk) (k:Nat) (lo hi:Int) (T:List Tk):St:={ t:=asg [(2,aBunks l),(3,.ptr 0 0),(4,.ptr 1 0),(6,aB false),(7,aI lo),(8,aI hi),(9,.ptr 2 0),(10,aI k)],h:=hasg [(0,.cells (cChart c)),(1,.cells (cAsk a)),(2,.cells [.sl (c.cabins.map eCabin),aI c.secs,.row 3]),(3,rowT T)],n:=4 }
def tbE13_isFree:=vj @ty3 (vj @ty4 (vj @ty22 (vj @ty25 (vj @ty26 (vj @ty28 (vj @ty31 (vj @ty37 (vj @ty49 (vj @ty51 (vj @ty81 (vj @ti3.eq_1 (vj @ti4.eq_1 (vj @ti22.eq_1 (vj @ti25.eq_1 (vj @ti26.eq_1 (vj @ti28.eq_1 (vj @ti31.eq_1 (vj @ti37.eq_1 (vj @ti49.eq_1 (vj @ti51.eq_1 @ti81.eq_1))))))))))))))))))))
def xbE13_2:=vj @aI.eq_1 (vj @aB.eq_1 (vj @eInt.eq_1 (@gInt)))
set_option maxHeartbeats 2000000 in
theorem isFree_fn (c:Chart) (a:Ask) (l:List Bunk) (ok:NearOk c.cabins l) (hl:l.length≤20) (ha:a.sexes.length=l.length) (hs:c.sold.length≤50) (hsc:c.secs≤1000):FnV Try.prog 23 [aChart c,aAsk a,aBunks l] (aB (isFreeB c a l)):=by
  have env:Env (fun _=>True) Try.prog tyB (tab [(47,valE true sstrangers)]):=mkEnv ⟨estrangers,trivial⟩
  refine Fn.of (A:=fun _=>True) (n0:=0) (D:=noD) (Fn0 Try.func23 rfl (fun vs w=>by kernel_rfl) (by kernel_rfl)) (by simp) (by simp [AV.ids,AV.idsL,aChart,cChart,aAsk,cAsk,aBunks]) (fun i o h=>by cases h) (fun _ _ _ _=>trivial) noD_ok ?_
  have hmx:(100000:Nat)≤maxLen:=by decide
  have hne:=ok.ne
  have hcl:=ok.cabs
  have hbd:=nearOk_bd ok
  have b1:c.sold.length≤maxLen:=by omega
  obtain ⟨x0,hx0⟩:∃ x,l.getD 0 default=x:=⟨_,rfl⟩
  have l0:loK l 0=x0.cab:=by rw [← hx0];rfl
  have h0:hiK l 0=x0.cab:=by rw [← hx0];rfl
  unfold isFreeB
  rw [near_eq]
  repeat' (first|(apply nx;with_reducible constructor)|refine uq (by decide) ?_|((first|refine vx env fun Q hQ=>?_|refine vz fun Q hQ=>?_);simp only [vkt,seval,tbE13_isFree,xbE13_2,aBunk,aBunks,eBunk,gBunk,eCabin,gCabin,mCabin,aTk,cTk,aTks,eTk,rTk,mTk,rowT,aChart,cChart,aAsk,cAsk,ifS,sstrangers,List.length_map,hx0,hne,b1];(try simp only [ite_and]);(repeat' (first|with_reducible assumption|refine And.intro ?_ ?_|intro hp));all_goals (first|(refine hQ _ ?_;clear hQ Q)|(refine hQ _ (fun h=>?_) (fun h=>?_) <;> clear hQ Q <;> (try simp only [vki,reduceCtorEq] at h))|(refine vq ?_;kernel_rfl)|omega|assumption|with_reducible rfl|skip)))
  refine sym_loop (fun k:{ k:Nat // k≤l.length }=>ifS c a l k.1 (loK l k.1) (hiK l k.1) (c.sold++slTk a l k.1)) (fun k=>l.length - k.1) ⟨0,Nat.zero_le _⟩ ?_ fun ⟨k,hk⟩=>?_
  · simp only [ifS,l0,h0,show slTk a l 0=[] from rfl,List.append_nil]
    (refine Le.ok (fun j=>[0,1,3,2][j]?) [] ?_;constructor;all_goals (try simp only [vle,vkt,seval,tbE13_isFree,xbE13_2,aBunk,aBunks,eBunk,gBunk,eCabin,gCabin,mCabin,aTk,cTk,aTks,eTk,rTk,mTk,rowT,aChart,cChart,aAsk,cAsk,ifS,sstrangers,List.length_map]))
    all_goals first|rfl|(simp;done)
  simp only at hk ⊢
  have hS:=tks_succ a l k
  have hT:=tks_len a l k
  obtain ⟨T,hTe⟩:∃ T,c.sold++slTk a l k=T:=⟨_,rfl⟩
  have hTl:T.length=c.sold.length+k:=by rw [← hTe,List.length_append,hT]
  have hTs:c.sold++slTk a l (k+1)=T++[tkOf a k (l.getD k default)]:=by rw [hS,← List.append_assoc,hTe]
  simp only [ifS,hTe]
  by_cases hlt:k < l.length
  · have d1:decide ((k:Int) < (l.length:Int))=true:=decide_eq_true (by omega)
    have e9:IntKind.wrap .i64 ((k:Int)+1)=((k+1:Nat):Int):=by rw [wrap64 (by omega) (by omega)];rfl
    have k0:((k:Int)).toNat=k:=rfl
    have hka:k < a.sexes.length:=by omega
    have hm:T.length+1≤maxLen:=by omega
    obtain ⟨x,hx⟩:∃ x,l.getD k default=x:=⟨_,rfl⟩
    have hl1:=loK_succ hlt
    have hh1:=hiK_succ hlt
    rw [hx] at hl1 hh1 hTs
    repeat' (first|(apply nx;with_reducible constructor)|refine uq (by decide) ?_|((first|refine vx env fun Q hQ=>?_|refine vz fun Q hQ=>?_);simp only [vkt,seval,tbE13_isFree,xbE13_2,aBunk,aBunks,eBunk,gBunk,eCabin,gCabin,mCabin,aTk,cTk,aTks,eTk,rTk,mTk,rowT,aChart,cChart,aAsk,cAsk,ifS,sstrangers,List.length_map,d1,k0,hx,hlt,hka,hm,e9];(try simp only [ite_and]);(repeat' (first|with_reducible assumption|refine And.intro ?_ ?_|intro hp));all_goals (first|(refine hQ _ ?_;clear hQ Q)|(refine hQ _ (fun h=>?_) (fun h=>?_) <;> clear hQ Q <;> (try simp only [vki,reduceCtorEq] at h))|(refine vq ?_;kernel_rfl)|omega|assumption|with_reducible rfl|skip)))
    refine ⟨⟨k+1,hlt⟩,by show l.length - (k+1) < l.length - k;omega, ?_⟩
    simp only [ifS,hl1,hh1,hTs]
    (refine Le.ok (fun i=>if i=3 then some 5 else some i) [] ?_;constructor;all_goals (try simp only [vle,vkt,seval,tbE13_isFree,xbE13_2,aBunk,aBunks,eBunk,gBunk,eCabin,gCabin,mCabin,aTk,cTk,aTks,eTk,rTk,mTk,rowT,aChart,cChart,aAsk,cAsk,ifS,sstrangers,List.length_map]))
    all_goals first|rfl|(rw [List.map_append];rfl)|(simp;done)|(intro i hi;rw [if_neg (by omega)];done)
  · have d0:decide ((k:Int) < (l.length:Int))=false:=decide_eq_false (by omega)
    have hke:k=l.length:=by omega
    subst hke
    rw [hTe]
    have b2:T.length≤100:=by omega
    obtain ⟨g1,g2,g3,g4⟩:=hbd l.length (Nat.le_refl _)
    obtain ⟨lo,hlo⟩:∃ x,loK l l.length=x:=⟨_,rfl⟩
    obtain ⟨hi,hhi⟩:∃ x,hiK l l.length=x:=⟨_,rfl⟩
    rw [hlo] at g1 g2
    rw [hhi] at g3 g4
    obtain ⟨x,hx⟩:∃ x,c.cabins.getD lo.toNat default=x:=⟨_,rfl⟩
    obtain ⟨X,hX⟩:∃ X:Chart,(⟨c.cabins,c.secs,T⟩:Chart)=X:=⟨_,rfl⟩
    have b3:X.sold.length≤100:=by rw [← hX];exact b2
    have b4:X.secs≤1000:=by rw [← hX];exact hsc
    have w1:IntKind.wrap .i64 (lo+1)=lo+1:=wrap64 (by omega) (by omega)
    simp only [hlo,hhi,hx,hX]
    cases q1:decide (lo=hi) with
    |true =>
      repeat' (first|(apply nx;with_reducible constructor)|refine uq (by decide) ?_|((first|refine vx env fun Q hQ=>?_|refine vz fun Q hQ=>?_);simp only [vkt,seval,tbE13_isFree,xbE13_2,aBunk,aBunks,eBunk,gBunk,eCabin,gCabin,mCabin,aTk,cTk,aTks,eTk,rTk,mTk,rowT,aChart,cChart,aAsk,cAsk,ifS,sstrangers,List.length_map,d0,q1,hX,b3,b4];(try simp only [ite_and]);(repeat' (first|with_reducible assumption|refine And.intro ?_ ?_|intro hp));all_goals (first|(refine hQ _ ?_;clear hQ Q)|(refine hQ _ (fun h=>?_) (fun h=>?_) <;> clear hQ Q <;> (try simp only [vki,reduceCtorEq] at h))|(refine vq ?_;kernel_rfl)|omega|assumption|with_reducible rfl|skip)))
      (simp only [vrt,Try.results23,vkt,seval,tbE13_isFree,xbE13_2,aBunk,aBunks,eBunk,gBunk,eCabin,gCabin,mCabin,aTk,cTk,aTks,eTk,rTk,mTk,rowT,aChart,cChart,aAsk,cAsk,ifS,sstrangers,List.length_map];refine Fin.val rfl ?_;(try simp only [AV.le,AV.leL]))
      all_goals first|rfl|(simp;done)
    |false =>
      have q2':decide (lo+1=hi)=decide (hi=lo+1):=by rw [decide_eq_decide];omega
      rw [q2']
      cases q2:decide (hi=lo+1) with
      |false =>
        repeat' (first|(apply nx;with_reducible constructor)|refine uq (by decide) ?_|((first|refine vx env fun Q hQ=>?_|refine vz fun Q hQ=>?_);simp only [vkt,seval,tbE13_isFree,xbE13_2,aBunk,aBunks,eBunk,gBunk,eCabin,gCabin,mCabin,aTk,cTk,aTks,eTk,rTk,mTk,rowT,aChart,cChart,aAsk,cAsk,ifS,sstrangers,List.length_map,d0,q1,q2,w1,hX,b3,b4];(try simp only [ite_and]);(repeat' (first|with_reducible assumption|refine And.intro ?_ ?_|intro hp));all_goals (first|(refine hQ _ ?_;clear hQ Q)|(refine hQ _ (fun h=>?_) (fun h=>?_) <;> clear hQ Q <;> (try simp only [vki,reduceCtorEq] at h))|(refine vq ?_;kernel_rfl)|omega|assumption|with_reducible rfl|skip)))
        (simp only [vrt,Try.results23,vkt,seval,tbE13_isFree,xbE13_2,aBunk,aBunks,eBunk,gBunk,eCabin,gCabin,mCabin,aTk,cTk,aTks,eTk,rTk,mTk,rowT,aChart,cChart,aAsk,cAsk,ifS,sstrangers,List.length_map];refine Fin.val rfl ?_;(try simp only [AV.le,AV.leL]))
        all_goals first|rfl|(simp;done)
      |true =>
        cases q3:x.door with
        |false =>
          repeat' (first|(apply nx;with_reducible constructor)|refine uq (by decide) ?_|((first|refine vx env fun Q hQ=>?_|refine vz fun Q hQ=>?_);simp only [vkt,seval,tbE13_isFree,xbE13_2,aBunk,aBunks,eBunk,gBunk,eCabin,gCabin,mCabin,aTk,cTk,aTks,eTk,rTk,mTk,rowT,aChart,cChart,aAsk,cAsk,ifS,sstrangers,List.length_map,d0,q1,q2,q3,w1,hx,g1,g2,hX,b3,b4];(try simp only [ite_and]);(repeat' (first|with_reducible assumption|refine And.intro ?_ ?_|intro hp));all_goals (first|(refine hQ _ ?_;clear hQ Q)|(refine hQ _ (fun h=>?_) (fun h=>?_) <;> clear hQ Q <;> (try simp only [vki,reduceCtorEq] at h))|(refine vq ?_;kernel_rfl)|omega|assumption|with_reducible rfl|skip)))
          (simp only [vrt,Try.results23,vkt,seval,tbE13_isFree,xbE13_2,aBunk,aBunks,eBunk,gBunk,eCabin,gCabin,mCabin,aTk,cTk,aTks,eTk,rTk,mTk,rowT,aChart,cChart,aAsk,cAsk,ifS,sstrangers,List.length_map];refine Fin.val rfl ?_;(try simp only [AV.le,AV.leL]))
          all_goals first|rfl|(simp;done)
        |true =>
          repeat' (first|(apply nx;with_reducible constructor)|refine uq (by decide) ?_|((first|refine vx env fun Q hQ=>?_|refine vz fun Q hQ=>?_);simp only [vkt,seval,tbE13_isFree,xbE13_2,aBunk,aBunks,eBunk,gBunk,eCabin,gCabin,mCabin,aTk,cTk,aTks,eTk,rTk,mTk,rowT,aChart,cChart,aAsk,cAsk,ifS,sstrangers,List.length_map,d0,q1,q2,q3,w1,hx,g1,g2,hX,b3,b4];(try simp only [ite_and]);(repeat' (first|with_reducible assumption|refine And.intro ?_ ?_|intro hp));all_goals (first|(refine hQ _ ?_;clear hQ Q)|(refine hQ _ (fun h=>?_) (fun h=>?_) <;> clear hQ Q <;> (try simp only [vki,reduceCtorEq] at h))|(refine vq ?_;kernel_rfl)|omega|assumption|with_reducible rfl|skip)))
          (simp only [vrt,Try.results23,vkt,seval,tbE13_isFree,xbE13_2,aBunk,aBunks,eBunk,gBunk,eCabin,gCabin,mCabin,aTk,cTk,aTks,eTk,rTk,mTk,rowT,aChart,cChart,aAsk,cAsk,ifS,sstrangers,List.length_map];refine Fin.val rfl ?_;(try simp only [AV.le,AV.leL]))
          all_goals first|rfl|(simp;done)
def sisFree:List AV→Prop × AV
  |[.agg [.sl c0,.v (.int .i64 c1),.sl c2],.agg [.v (.int .i64 a0),.v (.int .i64 a1),.v (.int .i64 a2),.sl a3,.v (.bool a4)],.sl l]=>(c0=(c0.map dCabin).map eCabin∧c2=(c2.map dTk).map eTk∧a3=(a3.map dInt).map eInt∧l=(l.map dBunk).map eBunk∧NearOk ((⟨(c0.map dCabin),c1,(c2.map dTk)⟩:Chart)).cabins (l.map dBunk)∧(l.map dBunk).length≤20∧((⟨a0,a1,a2,(a3.map dInt),a4⟩:Ask)).sexes.length=(l.map dBunk).length∧((⟨(c0.map dCabin),c1,(c2.map dTk)⟩:Chart)).sold.length≤50∧((⟨(c0.map dCabin),c1,(c2.map dTk)⟩:Chart)).secs≤1000,aB (isFreeB ((⟨(c0.map dCabin),c1,(c2.map dTk)⟩:Chart)) ((⟨a0,a1,a2,(a3.map dInt),a4⟩:Ask)) (l.map dBunk)))
  |_=>(False,.junk)
theorem eisFree {A:Frm→Prop}:EntryOK A Try.prog 23 (valE true sisFree):=valE_ok fun vs hv h=>by
  clear hv
  unfold sisFree at h ⊢
  split at h
  · rename_i c0 c1 c2 a0 a1 a2 a3 a4 l;obtain ⟨q0,q1,q2,q3,k0,k1,k2,k3,k4⟩:=h
    refine ⟨by first|trivial|(simp [AV.plain,AV.plainL,aI,aB,aInts,aBunks,aTks,aBunk,aTk,cTk];done)|(repeat' split) <;> simp [AV.plain,AV.plainL,aI,aB,aInts,aBunks,aTks,aBunk,aTk,cTk],fun _=>(by simp [AV.flat,AV.flatL,aI,aB]), ?_⟩
    have:=isFree_fn ((⟨(c0.map dCabin),c1,(c2.map dTk)⟩:Chart)) ((⟨a0,a1,a2,(a3.map dInt),a4⟩:Ask)) (l.map dBunk) k0 k1 k2 k3 k4
    simp only [aAsk,aB,aBunks,aCabins,aChart,aI,aInts,aTks,cAsk,cChart,← q0,← q1,← q2,← q3] at this
    first|exact this|(simp only [aAsk,aB,aBunks,aCabins,aChart,aI,aInts,aTks,cAsk,cChart,← q0,← q1,← q2,← q3];exact this)
  · exact h.elim
end Go.Sym.B
namespace Go.Sym.B
open Go Go.Sym Go.Proofs Go.Sym.C
def stpB (cs:List Cabin) (a:Ask):List Tk→List Bunk→List Bunk→Bool
  |_,_,[]=>true
  |sold,begun,b :: r=>goB cs a sold begun b && stpB cs a (sold++[tkOf a begun.length b]) (begun++[b]) r
theorem grow_stp (cs:List Cabin) (a:Ask):∀ (m:Nat) (sold:List Tk) (begun:List Bunk),(growP cs a m sold begun).map (·.1)=((alL (bunksL cs) m).filter (stpB cs a sold begun)).map (begun++·)
  |0,sold,begun=>by
    show [begun]=(([[]]:List (List Bunk)).filter (stpB cs a sold begun)).map (begun++·)
    rw [List.filter_cons_of_pos (by rfl)]
    simp
  |m+1,sold,begun=>by
    rw [growP_succ,alL,List.map_flatMap,List.filter_flatMap,List.map_flatMap]
    refine congrArg (List.flatMap · (bunksL cs)) (funext fun b=>?_)
    unfold gbL
    cases h:goB cs a sold begun b with
    |true =>
      rw [if_pos rfl,grow_stp cs a m,List.filter_map,List.map_map]
      have e1:(stpB cs a sold begun ∘ fun x=>b :: x)=stpB cs a (sold++[tkOf a begun.length b]) (begun++[b]):=funext fun r=>by
        show stpB cs a sold begun (b :: r)=_
        rw [stpB,h,Bool.true_and]
      rw [e1]
      refine congrArg (List.map · _) (funext fun r=>?_)
      show (begun++[b])++r=begun++b :: r
      simp
    |false =>
      rw [if_neg (by decide),List.filter_map]
      have e1:(stpB cs a sold begun ∘ fun x=>b :: x)=fun _=>false:=funext fun r=>by
        show stpB cs a sold begun (b :: r)=_
        rw [stpB,h,Bool.false_and]
      rw [e1]
      simp
def PWr:List Tk→List Tk→Prop
  |_,[]=>True
  |s,t :: ts=>besideE t s=0∧PWr (s++[t]) ts
theorem pwr_app:∀ (s l r:List Tk),PWr s (l++r) ↔ PWr s l∧PWr (s++l) r
  |s,[],r=>by simp [PWr]
  |s,t :: l,r=>by
    show besideE t s=0∧PWr (s++[t]) (l++r) ↔ (besideE t s=0∧PWr (s++[t]) l)∧PWr (s++t :: l) r
    rw [pwr_app (s++[t]) l r,and_assoc]
    simp
theorem pwr_iff:∀ (s l:List Tk),PWr s l ↔ ∀ i,i < l.length→besideE (l.getD i default) (s++l.take i)=0
  |s,[]=>by simp [PWr]
  |s,t :: l=>by
    show besideE t s=0∧PWr (s++[t]) l ↔ _
    rw [pwr_iff (s++[t]) l]
    constructor
    · rintro ⟨h1,h2⟩ i hi
      cases i with
      |zero=>simpa using h1
      |succ i =>
        have:=h2 i (by simpa using hi)
        simpa using this
    · intro h
      refine ⟨by simpa using h 0 (by simp),fun i hi=>?_⟩
      have:=h (i+1) (by simpa using hi)
      simpa using this
def tkR (a:Ask):Nat→List Bunk→List Tk
  |_,[]=>[]
  |n,b :: r=>tkOf a n b :: tkR a (n+1) r
theorem tkR_app (a:Ask):∀ (n:Nat) (l r:List Bunk),tkR a n (l++r)=tkR a n l++tkR a (n+l.length) r
  |n,[],r=>by simp [tkR]
  |n,b :: l,r=>by
    show tkOf a n b :: tkR a (n+1) (l++r)=_
    rw [tkR_app a (n+1) l r]
    simp [tkR,Nat.add_assoc,Nat.add_comm 1]
theorem tkR_sl (a:Ask) (l:List Bunk):∀ k,k≤l.length→slTk a l k=tkR a 0 (l.take k)
  |0,_=>by simp [slTk,tkR]
  |k+1,h=>by
    rw [tks_succ,tkR_sl a l k (by omega),List.take_succ_eq_append_getElem h,tkR_app,List.length_take]
    have hk:k < l.length:=h
    simp [tkR,List.getD_eq_getElem?_getD,hk,Nat.min_eq_left (show k≤l.length by omega)]
theorem mem_tkR {a:Ask} {t:Tk}:∀ {n:Nat} {l:List Bunk},t ∈ tkR a n l→∃ i b,i < l.length∧b ∈ l∧t=tkOf a (n+i) b
  |n,[],h=>by simp [tkR] at h
  |n,b :: l,h=>by
    rcases List.mem_cons.1 h with rfl|h
    · exact ⟨0,b,by simp,by simp,rfl⟩
    · obtain ⟨i,b',h1,h2,h3⟩:=mem_tkR h
      exact ⟨i+1,b',by simpa using h1,List.mem_cons_of_mem _ h2,by rw [h3,show n+1+i=n+(i+1) by omega]⟩
theorem fmin_le (l:List Bunk):∀ m:Int,l.foldl (fun m b=>min m b.cab) m≤m:=by
  induction l with
  |nil=>intro m;exact Int.le_refl _
  |cons b l ih=>intro m;have:=ih (min m b.cab);rw [List.foldl_cons];omega
theorem fmax_le (l:List Bunk):∀ m:Int,m≤l.foldl (fun m b=>max m b.cab) m:=by
  induction l with
  |nil=>intro m;exact Int.le_refl _
  |cons b l ih=>intro m;have:=ih (max m b.cab);rw [List.foldl_cons];omega
theorem near_pre {cs:List Cabin} {l r:List Bunk} (h:nearB cs (l++r)=true) (hl:l ≠ []):nearB cs l=true:=by
  have h0:(l++r).getD 0 default=l.getD 0 default:=by
    cases l with
    |nil=>exact absurd rfl hl
    |cons b l=>rfl
  unfold nearB at h ⊢
  simp only [h0,List.foldl_append] at h ⊢
  have g1:=fmin_le r (l.foldl (fun m b=>min m b.cab) (l.getD 0 default).cab)
  have g2:=fmax_le r (l.foldl (fun m b=>max m b.cab) (l.getD 0 default).cab)
  have g3:=fmin_le l (l.getD 0 default).cab
  have g4:=fmax_le l (l.getD 0 default).cab
  generalize l.foldl (fun m b=>min m b.cab) (l.getD 0 default).cab=lo at *
  generalize l.foldl (fun m b=>max m b.cab) (l.getD 0 default).cab=hi at *
  generalize r.foldl (fun m b=>min m b.cab) lo=lo2 at *
  generalize r.foldl (fun m b=>max m b.cab) hi=hi2 at *
  rw [Bool.or_eq_true,Bool.and_eq_true,decide_eq_true_eq,decide_eq_true_eq] at h ⊢
  rcases h with h|⟨h,hd⟩
  · exact .inl (by omega)
  · by_cases he:lo=hi
    · exact .inl he
    · have:lo=lo2:=by omega
      exact .inr ⟨by omega,by rw [this];exact hd⟩
theorem stp_iff {cs:List Cabin} {a:Ask} (hw:a.frm < a.to):∀ (r:List Bunk) (sold:List Tk) (begun:List Bunk),(∀ b ∈ begun,∃ x ∈ sold,x.cab=b.cab∧x.bed=b.bed∧x.frm=a.frm∧x.to=a.to) →
    (stpB cs a sold begun r=true ↔ PWr sold (tkR a begun.length r)∧(r ≠ []→nearB cs (begun++r)=true))
  |[],sold,begun,_=>by simp [stpB,tkR,PWr]
  |b :: r,sold,begun,hb=>by
    have hb':∀ b' ∈ begun++[b],∃ x ∈ sold++[tkOf a begun.length b],x.cab=b'.cab∧x.bed=b'.bed∧x.frm=a.frm∧x.to=a.to:=fun b' h=>by
      rcases List.mem_append.1 h with h|h
      · obtain ⟨x,h1,h2⟩:=hb b' h
        exact ⟨x,List.mem_append.2 (.inl h1),h2⟩
      · rw [List.mem_singleton.1 h]
        exact ⟨_,List.mem_append.2 (.inr (List.mem_singleton.2 rfl)),rfl,rfl,rfl,rfl⟩
    have ih:=stp_iff (cs:=cs) hw r (sold++[tkOf a begun.length b]) (begun++[b]) hb'
    rw [stpB,Bool.and_eq_true,ih]
    have el:(begun++[b]).length=begun.length+1:=by simp
    rw [el]
    show _ ↔ (besideE (tkOf a begun.length b) sold=0∧PWr (sold++[tkOf a begun.length b]) (tkR a (begun.length+1) r))∧_
    have ea:begun++[b]++r=begun++b :: r:=by simp
    rw [ea]
    unfold goB
    rw [Bool.and_eq_true,Bool.and_eq_true,decide_eq_true_eq]
    constructor
    · rintro ⟨⟨⟨_,h2⟩,h3⟩,h4,h5⟩
      refine ⟨⟨h3,h4⟩,fun _=>?_⟩
      cases r with
      |nil=>exact h2
      |cons b2 r=>exact h5 (by simp)
    · rintro ⟨⟨h3,h4⟩,h5⟩
      have h5:=h5 (by simp)
      refine ⟨⟨⟨?_, ?_⟩,h3⟩,h4,fun _=>h5⟩
      · cases hc:begun.contains b with
        |false=>rfl
        |true =>
          obtain ⟨x,hx,g1,g2,g3,g4⟩:=hb b (by simpa using hc)
          have:=(beside_zero.1 h3 x hx).1
          unfold twiceB meetB tkOf at this
          simp [g1,g2,g3,g4,hw] at this
      · refine near_pre (r:=r) ?_ (by simp)
        rw [ea];exact h5
theorem st_no {secs:Int} {t x:Tk} (ht:0≤t.frm∧t.frm < t.to∧t.to≤secs) (hx:0≤x.frm∧x.frm < x.to∧x.to≤secs):(∀ s:Nat,s < secs.toNat→stB t x s=false) ↔ twiceB t x=false∧togB x t=true:=by
  constructor
  · intro h
    cases hm:meetB x t with
    |false =>
      unfold twiceB togB
      rw [hm];simp
    |true =>
      have hm2:=hm
      unfold meetB at hm2
      rw [Bool.and_eq_true,decide_eq_true_eq,decide_eq_true_eq] at hm2
      obtain ⟨s,hs⟩:∃ s:Nat,(s:Int)=max t.frm x.frm:=⟨(max t.frm x.frm).toNat,by omega⟩
      have:=h s (by omega)
      unfold stB at this
      rw [decide_eq_false (show ¬ (s:Int) < t.frm by omega),decide_eq_false (show ¬ t.to≤(s:Int) by omega),decide_eq_false (show ¬ (s:Int) < x.frm by omega),decide_eq_false (show ¬ x.to≤(s:Int) by omega)] at this
      have e1:decide (x.cab=t.cab)=decide (t.cab=x.cab):=by rw [decide_eq_decide];exact eq_comm
      have e2:decide (x.bed=t.bed)=decide (t.bed=x.bed):=by rw [decide_eq_decide];exact eq_comm
      have e3:decide (x.party=t.party)=decide (t.party=x.party):=by rw [decide_eq_decide];exact eq_comm
      have e4:decide (x.sex=t.sex)=decide (t.sex=x.sex):=by rw [decide_eq_decide];exact eq_comm
      have e5:decide (x.cab ≠ t.cab)=!decide (t.cab=x.cab):=by rw [decide_not,e1]
      unfold twiceB togB
      rw [hm,e5,e1,e2,e3,e4]
      revert this
      generalize decide (t.cab=x.cab)=A
      generalize decide (t.bed=x.bed)=B
      generalize decide (t.party=x.party)=C
      generalize decide (t.sex=x.sex)=D
      generalize x.dog=E
      generalize t.dog=F
      revert A B C D E F
      decide
  · rintro ⟨h1,h2⟩ s _
    have e1:decide (x.cab=t.cab)=decide (t.cab=x.cab):=by rw [decide_eq_decide];exact eq_comm
    have e2:decide (x.bed=t.bed)=decide (t.bed=x.bed):=by rw [decide_eq_decide];exact eq_comm
    have e3:decide (x.party=t.party)=decide (t.party=x.party):=by rw [decide_eq_decide];exact eq_comm
    have e4:decide (x.sex=t.sex)=decide (t.sex=x.sex):=by rw [decide_eq_decide];exact eq_comm
    have e5:decide (x.cab ≠ t.cab)=!decide (t.cab=x.cab):=by rw [decide_not,e1]
    cases hm:meetB x t with
    |false =>
      unfold stB
      by_cases g1:(s:Int) < t.frm
      · simp [g1]
      by_cases g2:t.to≤(s:Int)
      · simp [g2]
      by_cases g3:(s:Int) < x.frm
      · simp [g3]
      by_cases g4:x.to≤(s:Int)
      · simp [g4]
      exfalso
      unfold meetB at hm
      rw [decide_eq_true (show x.frm < t.to by omega),decide_eq_true (show t.frm < x.to by omega)] at hm
      exact absurd hm (by decide)
    |true =>
      unfold twiceB at h1
      unfold togB at h2
      rw [hm,e1,e2] at h1
      rw [hm,e5,e3,e4] at h2
      unfold stB
      generalize decide ((s:Int) < t.frm)=G
      generalize decide (t.to≤(s:Int))=H
      generalize decide ((s:Int) < x.frm)=I
      generalize decide (x.to≤(s:Int))=J
      revert h1 h2
      generalize decide (t.cab=x.cab)=A
      generalize decide (t.bed=x.bed)=B
      generalize decide (t.party=x.party)=C
      generalize decide (t.sex=x.sex)=D
      generalize x.dog=E
      generalize t.dog=F
      revert A B C D E F G H I J
      decide
theorem str_iff {cs:List Cabin} {secs:Int} {l:List Tk} (h:∀ t ∈ l,0≤t.frm∧t.frm < t.to∧t.to≤secs):strB ⟨cs,secs,l⟩=false ↔ PWr [] l:=by
  rw [pwr_iff]
  unfold strB
  rw [List.any_eq_false]
  have hg:∀ {i:Nat},i < l.length→l.getD i default ∈ l:=fun hi=>gMem hi
  constructor
  · intro hs i hi
    rw [List.nil_append,beside_zero]
    intro x hx
    obtain ⟨k,hk,rfl⟩:=List.mem_iff_getElem.1 hx
    rw [List.length_take] at hk
    have h1:=hs i (List.mem_range.2 hi)
    unfold rwB at h1
    rw [Bool.not_eq_true,List.any_eq_false] at h1
    have h2:=h1 k (List.mem_range.2 (by omega))
    have ek:l.getD k default=(l.take i)[k]'(by rw [List.length_take];omega):=by simp [List.getD_eq_getElem?_getD,show k < l.length by omega]
    unfold prB at h2
    rw [Bool.not_eq_true,List.any_eq_false] at h2
    simp only at h2
    rw [← ek]
    refine (st_no (h _ (hg hi)) (h _ (hg (show k < l.length by omega)))).1 fun s hs=>?_
    have:=h2 s (List.mem_range.2 hs)
    simpa using this
  · intro hp i hi
    have hi:=List.mem_range.1 hi
    unfold rwB
    rw [Bool.not_eq_true,List.any_eq_false]
    intro k hk
    have hk:=List.mem_range.1 hk
    unfold prB
    rw [Bool.not_eq_true,List.any_eq_false]
    intro s hs
    have hi':i < l.length:=hi
    have h1:=hp i hi'
    rw [List.nil_append,beside_zero] at h1
    have hkl:k < l.length:=by omega
    have h2:=h1 (l.getD k default) (by
      rw [List.mem_iff_getElem]
      exact ⟨k,by rw [List.length_take];omega,by simp [List.getD_eq_getElem?_getD,hkl]⟩)
    have:=(st_no (h _ (hg hi')) (h _ (hg hkl))).2 h2 s (List.mem_range.1 hs)
    simpa using this
theorem val_ways {c:Chart} (hv:Val c):∀ t ∈ c.sold,0≤t.frm∧t.frm < t.to∧t.to≤c.secs:=fun t ht=>by
  have:=hv.tk t ht
  exact ⟨this.frm,this.way,this.to⟩
theorem val_pwr {c:Chart} (h:checkE c=0):PWr [] c.sold:=by
  rw [pwr_iff]
  intro i hi
  unfold checkE at h
  split at h
  · exact absurd h ‹_›
  rw [List.nil_append]
  exact (tickets_ok h i hi).2
theorem al_mem {bs:List Bunk}:∀ {m:Nat} {l:List Bunk},l ∈ alL bs m→∀ b ∈ l,b ∈ bs
  |0,l,hl,b,hb=>by rw [List.mem_singleton.1 hl] at hb;simp at hb
  |m+1,l,hl,b,hb=>by
    obtain ⟨b0,h0,hl⟩:=List.mem_flatMap.1 hl
    obtain ⟨q,hq,rfl⟩:=List.mem_map.1 hl
    rcases List.mem_cons.1 hb with rfl|hb
    · exact h0
    · exact al_mem hq b hb
theorem stp_free {c:Chart} {a:Ask} (h:bothE c a=0) {l:List Bunk} (hl:l ∈ alL (bunksL c.cabins) a.sexes.length) (hne:l ≠ []):stpB c.cabins a c.sold [] l=isFreeB c a l:=by
  have hc:=(both_ok h).1
  have hv:=val_of hc
  have hw:=ask_way h
  have hll:=alL_one l hl
  have hT:slTk a l l.length=tkR a 0 l:=by rw [tkR_sl a l l.length (Nat.le_refl _),List.take_length]
  have hways:∀ t ∈ c.sold++slTk a l l.length,0≤t.frm∧t.frm < t.to∧t.to≤c.secs:=fun t ht=>by
    rcases List.mem_append.1 ht with ht|ht
    · exact val_ways hv t ht
    · rw [hT] at ht
      obtain ⟨i,b,_,_,rfl⟩:=mem_tkR ht
      exact hw
  rw [Bool.eq_iff_iff,stp_iff hw.2.1 l c.sold [] (fun b hb=>by simp at hb)]
  unfold isFreeB
  rw [Bool.and_eq_true]
  have e1:(!strB ⟨c.cabins,c.secs,c.sold++slTk a l l.length⟩)=true ↔ PWr [] (c.sold++slTk a l l.length):=by
    rw [← str_iff (cs:=c.cabins) hways]
    simp
  rw [e1,pwr_app,hT]
  simp only [List.nil_append]
  constructor
  · rintro ⟨h1,h2⟩
    exact ⟨h2 hne,val_pwr hc,h1⟩
  · rintro ⟨h1,_,h3⟩
    exact ⟨h3,fun _=>h1⟩
theorem places_free {c:Chart} {a:Ask} (h:bothE c a=0) (hs:1≤a.sexes.length):placesA c a=(alL (bunksL c.cabins) a.sexes.length).filter (isFreeB c a):=by
  have e1:placesA c a=(plP c a).map (·.1):=by unfold placesA;rw [if_pos h]
  rw [e1]
  unfold plP
  rw [grow_stp]
  simp only [List.nil_append,List.map_id']
  refine List.filter_congr fun l hl=>stp_free h hl ?_
  rintro rfl
  have:=alL_one _ hl
  simp at this
  omega
theorem isPlace_of {c:Chart} {a:Ask} (h:bothE c a=0) (hs:1≤a.sexes.length) {l:List Bunk} (hl:l ∈ placesA c a):isPlaceB c a l=true:=by
  rw [places_free h hs] at hl
  obtain ⟨h1,h2⟩:=List.mem_filter.1 hl
  have hll:=alL_one l h1
  have hc:=(both_ok h).1
  have hv:=val_of hc
  have hw:=ask_way h
  have hT:slTk a l l.length=tkR a 0 l:=by rw [tkR_sl a l l.length (Nat.le_refl _),List.take_length]
  have hway:∀ t ∈ c.sold++slTk a l l.length,TkOk c t:=fun t ht=>by
    rcases List.mem_append.1 ht with ht|ht
    · exact hv.tk t ht
    · rw [hT] at ht
      obtain ⟨i,b,hi,hb,rfl⟩:=mem_tkR ht
      exact ask_tk h (by omega) (al_mem h1 b hb)
  unfold isFreeB at h2
  rw [Bool.and_eq_true] at h2
  have hp:PWr [] (c.sold++slTk a l l.length):=(str_iff (cs:=c.cabins) (secs:=c.secs) (fun t ht=>⟨(hway t ht).frm,(hway t ht).way,(hway t ht).to⟩)).1 (by simpa using h2.2)
  rw [pwr_iff] at hp
  unfold isPlaceB
  rw [h2.1,decide_eq_true hll,Bool.and_true,Bool.true_and,Bool.and_eq_true,List.all_eq_true,decide_eq_true_eq]
  refine ⟨fun b hb=>?_, ?_⟩
  · obtain ⟨i,k,g1,g2,rfl⟩:=bunk_mem.1 (al_mem h1 b hb)
    unfold isBunkB
    rw [Bool.and_eq_true,inB_iff,inB_iff]
    refine ⟨⟨by simp only;omega,by simp only;omega⟩,by simp only;omega, ?_⟩
    simp only [Int.toNat_natCast]
    omega
  · unfold ticketsE
    refine firstE_all fun j hj=>?_
    rw [List.length_map,List.length_range] at hj
    rw [List.getD_eq_getElem?_getD,List.getElem?_map,List.getElem?_range hj]
    have hk:=hway _ (gMem (d:=default) hj)
    exact ticket_zero (cs:=c.cabins) (secs:=c.secs) hk.party hk.sex hk.cab hk.bed ⟨hk.frm,hk.way,hk.to⟩ (by have:=hp j hj;rwa [List.nil_append] at this)
theorem filt_get {α:Type} {p:α→Bool} {d:α}:∀ {l:List α} {i:Nat},i < l.length→p (l.getD i d)=true→((l.take i).filter p).length < (l.filter p).length∧(l.filter p).getD ((l.take i).filter p).length d=l.getD i d
  |[],_,h,_=>by simp at h
  |x :: l,0,_,hp=>by
    have hp:p x=true:=hp
    rw [List.filter_cons_of_pos hp]
    simp
  |x :: l,i+1,h,hp=>by
    have ih:=filt_get (p:=p) (d:=d) (l:=l) (i:=i) (by simpa using h) (by simpa using hp)
    rw [List.take_succ_cons]
    cases hx:p x with
    |true =>
      rw [List.filter_cons_of_pos hx,List.filter_cons_of_pos hx,List.length_cons,List.length_cons]
      exact ⟨by omega,by simpa using ih.2⟩
    |false =>
      rw [List.filter_cons_of_neg (by simp [hx]),List.filter_cons_of_neg (by simp [hx])]
      exact ⟨ih.1,by simpa using ih.2⟩
theorem filt_succ {α:Type} {p:α→Bool} {d:α} {l:List α} {i:Nat} (h:i < l.length):((l.take (i+1)).filter p).length=((l.take i).filter p).length+if p (l.getD i d) then 1 else 0:=by
  rw [List.take_succ_eq_append_getElem h,List.filter_append,List.length_append,List.getD_eq_getElem?_getD,List.getElem?_eq_getElem h]
  cases hp:p l[i] <;> simp [hp]
end Go.Sym.B
namespace Go.Sym.B
open Go Go.Sym Go.Proofs Go.Sym.C
def nyS (C:Chart) (A:Ask) (L:List (List Bunk)) (T:List (Nat × AV)) (H:List (Nat × AObj)) (n:Nat):St:={ t:=asg (T++[(4,.ptr 1 0),(5,.ptr 2 0),(6,.row 3)]),h:=hasg (H++[(1,.cells (cChart C)),(2,.cells (cAsk A)),(3,.row 37 1 (L.map eBunks))]),n:=n }
def tbE14_law:=vj @ty3 (vj @ty4 (vj @ty22 (vj @ty28 (vj @ty31 (vj @ty33 (vj @ty34 (vj @ty37 (vj @ty49 (vj @ti3.eq_1 (vj @ti4.eq_1 (vj @ti22.eq_1 (vj @ti28.eq_1 (vj @ti31.eq_1 (vj @ti33.eq_1 (vj @ti34.eq_1 (vj @ti37.eq_1 @ti49.eq_1))))))))))))))))
def xbE14_1:=vj @aI.eq_1 (vj @aB.eq_1 (vj @aInts.eq_1 (@mInt)))
set_option maxRecDepth 100000 in
set_option maxHeartbeats 40000000 in
theorem nobodyLaw_fn (nums:List Int) (hnums:nums.length≤maxLen):FnV Try.prog 3 [aInts nums] (aB true):=by
  obtain ⟨x0,hx0⟩:∃ x,nbS nums=x:=⟨_,rfl⟩
  obtain ⟨hC0,hCp,hCs,hCc,hCg⟩:=co_ok (x:=x0) (a:=3) (g:=4) (s:=8) (by decide) (by decide) (by decide)
  obtain ⟨C,hC⟩:∃ C,coC x0 3 4 8=C:=⟨_,rfl⟩
  obtain ⟨x1,hx1⟩:∃ x,coX x0 3 4 8=x:=⟨_,rfl⟩
  rw [hC] at hC0 hCp hCs hCc hCg
  obtain ⟨hA0,hA1,hA2⟩:=ao_ok (x:=x1) (n:=2) hC0 hCp (by decide)
  obtain ⟨A,hA⟩:∃ A,aoA x1 C.secs 2=A:=⟨_,rfl⟩
  rw [hA] at hA0 hA1 hA2
  have env:Env (fun _=>True) Try.prog tyB (tab [(15,fnE pBag),(16,fnE pChartOf),(17,fnE pAskedOf),(18,fnE pPlacesF),(19,valE false sBestF),(20,valE true sisPlace),(22,valE false srBunks),(21,fnE (pAl A.sexes.length)),(23,valE true sisFree),(24,valE true seqB),(25,valE true sselling)]):=mkEnv ⟨eBag,eChartOf,eAskedOf,ePlacesF,eBestF,eisPlace,erBunks,eAl (al_all _),eisFree,eeqB,eselling,trivial⟩
  refine Fn.of (A:=fun _=>True) (n0:=0) (D:=noD) (Fn0 Try.func3 rfl (fun vs w=>by kernel_rfl) (by kernel_rfl)) (by simp) (by simp [AV.ids,AV.idsL,aInts]) (fun i o h=>by cases h) (fun _ _ _ _=>trivial) noD_ok ?_
  have hv:=val_of hC0
  have hsec:=hv.car.secs
  have hcab:=hv.car.cabs
  have hbds:=hv.car.beds
  have hCar:=hv.car
  have eC:(⟨C.cabins,C.secs,C.sold⟩:Chart)=C:=rfl
  have eA:(⟨A.party,A.frm,A.to,A.sexes,A.dog⟩:Ask)=A:=rfl
  have hmx:(100000:Nat)≤maxLen:=by decide
  have c1:C.cabins.length≤maxLen:=by omega
  have c2:A.sexes.length≤maxLen:=by omega
  have c3:C.sold.length≤20:=by omega
  have c4:0 < A.sexes.length:=by omega
  have c5:A.sexes.length≤20:=by omega
  have c6:C.cabins.length≤3:=by omega
  have c7:∀ x ∈ C.cabins,x.beds≤3:=fun x hx=>(hbds x hx).2
  have c8:(bunksL C.cabins).length≤9:=bunks_n c6 hbds
  have c9:A.sexes.length≤3:=by omega
  have c10:C.sold.length≤50:=by omega
  have c11:C.secs≤1000:=by omega
  have hPf:=places_free hA0 (by omega)
  obtain ⟨L,hL⟩:∃ L,placesA C A=L:=⟨_,rfl⟩
  obtain ⟨Al,hAl⟩:∃ Al,alL (bunksL C.cabins) A.sexes.length=Al:=⟨_,rfl⟩
  have hAll:Al.length≤1000:=by
    rw [← hAl,alL_len]
    have h1:(bunksL C.cabins).length ^ A.sexes.length≤9 ^ A.sexes.length:=Nat.pow_le_pow_left c8 _
    have h2:9 ^ A.sexes.length≤9 ^ 3:=Nat.pow_le_pow_right (by decide) c9
    omega
  have hA1':∀ p ∈ Al,p.length=A.sexes.length∧∀ b ∈ p,b ∈ bunksL C.cabins:=fun p hp=>by
    rw [← hAl] at hp
    exact ⟨alL_one p hp,al_mem hp⟩
  rw [hL,hAl] at hPf
  have hLl:L.length≤Al.length:=by rw [hPf];exact List.length_filter_le _ _
  have hP:L=(plP C A).map (·.1):=by rw [← hL];unfold placesA;rw [if_pos hA0]
  have hLl2:L.length=(plP C A).length:=by rw [hP,List.length_map]
  have hBa:∃ (B:List Bunk) (f:Int),bestA C A=(B,f)∧B.length≤maxLen∧((L.length=0∧f=11)∨(0 < L.length∧f=0∧isPlaceB C A B=true)):=by
    rcases bs_mx hA0 (plP C A).length (Nat.le_refl _) with ⟨h1,h2⟩|⟨h1,h2⟩
    · refine ⟨[],11, ?_,by simp,.inl ⟨by omega,rfl⟩⟩
      unfold bestA;rw [if_pos hA0,h2];rfl
    · have h0:(bestA C A).2=0:=by unfold bestA;rw [if_pos hA0,h1];rfl
      obtain ⟨_,g1,g2⟩:=best_ok h0
      exact ⟨(bestA C A).1,0,Prod.ext rfl h0,by omega,.inr ⟨by omega,rfl,isPlace_of hA0 (by omega) g2⟩⟩
  obtain ⟨B,f,hB,hBl,hBf⟩:=hBa
  repeat' (first|(apply nx;with_reducible constructor)|refine uq (by decide) ?_)
  ((first|refine vx env fun Q hQ=>?_|refine vz fun Q hQ=>?_);simp only [vkt,seval,tbE14_law,xbE14_1,aBunk,aBunks,eBunk,eBunks,gBunk,gBunks,eCabin,gCabin,mBunk,mCabin,mTk,aChart,cChart,aAsk,cAsk,nyS,pBag,pChartOf,pAskedOf,pPlacesF,sBestF,sisPlace,srBunks,pAl,sisFree,seqB,sselling,List.length_map];(try simp only [ite_and]);(repeat' (first|with_reducible assumption|refine And.intro ?_ ?_|intro hp));all_goals (first|(refine hQ _ ?_;clear hQ Q)|(refine hQ _ (fun h=>?_) (fun h=>?_) <;> clear hQ Q <;> (try simp only [vki,reduceCtorEq] at h))|(refine vq ?_;kernel_rfl)|omega|assumption|with_reducible rfl|skip))
  repeat' (first|(apply nx;with_reducible constructor)|refine uq (by decide) ?_)
  ((first|refine vx env fun Q hQ=>?_|refine vz fun Q hQ=>?_);simp only [vkt,seval,tbE14_law,xbE14_1,aBunk,aBunks,eBunk,eBunks,gBunk,gBunks,eCabin,gCabin,mBunk,mCabin,mTk,aChart,cChart,aAsk,cAsk,nyS,pBag,pChartOf,pAskedOf,pPlacesF,sBestF,sisPlace,srBunks,pAl,sisFree,seqB,sselling,List.length_map,hx0];(try simp only [ite_and]);(repeat' (first|with_reducible assumption|refine And.intro ?_ ?_|intro hp));all_goals (first|(refine hQ _ ?_;clear hQ Q)|(refine hQ _ (fun h=>?_) (fun h=>?_) <;> clear hQ Q <;> (try simp only [vki,reduceCtorEq] at h))|(refine vq ?_;kernel_rfl)|omega|assumption|with_reducible rfl|skip))
  repeat' (first|(apply nx;with_reducible constructor)|refine uq (by decide) ?_)
  ((first|refine vx env fun Q hQ=>?_|refine vz fun Q hQ=>?_);simp only [vkt,seval,tbE14_law,xbE14_1,aBunk,aBunks,eBunk,eBunks,gBunk,gBunks,eCabin,gCabin,mBunk,mCabin,mTk,aChart,cChart,aAsk,cAsk,nyS,pBag,pChartOf,pAskedOf,pPlacesF,sBestF,sisPlace,srBunks,pAl,sisFree,seqB,sselling,List.length_map,hC,hx1];(try simp only [ite_and]);(repeat' (first|with_reducible assumption|refine And.intro ?_ ?_|intro hp));all_goals (first|(refine hQ _ ?_;clear hQ Q)|(refine hQ _ (fun h=>?_) (fun h=>?_) <;> clear hQ Q <;> (try simp only [vki,reduceCtorEq] at h))|(refine vq ?_;kernel_rfl)|omega|assumption|with_reducible rfl|skip))
  repeat' (first|(apply nx;with_reducible constructor)|refine uq (by decide) ?_)
  ((first|refine vx env fun Q hQ=>?_|refine vz fun Q hQ=>?_);simp only [vkt,seval,tbE14_law,xbE14_1,aBunk,aBunks,eBunk,eBunks,gBunk,gBunks,eCabin,gCabin,mBunk,mCabin,mTk,aChart,cChart,aAsk,cAsk,nyS,pBag,pChartOf,pAskedOf,pPlacesF,sBestF,sisPlace,srBunks,pAl,sisFree,seqB,sselling,List.length_map,hA,hsec];(try simp only [ite_and]);(repeat' (first|with_reducible assumption|refine And.intro ?_ ?_|intro hp));all_goals (first|(refine hQ _ ?_;clear hQ Q)|(refine hQ _ (fun h=>?_) (fun h=>?_) <;> clear hQ Q <;> (try simp only [vki,reduceCtorEq] at h))|(refine vq ?_;kernel_rfl)|omega|assumption|with_reducible rfl|skip))
  repeat' (first|(apply nx;with_reducible constructor)|refine uq (by decide) ?_)
  ((first|refine vx env fun Q hQ=>?_|refine vz fun Q hQ=>?_);simp only [vkt,seval,tbE14_law,xbE14_1,aBunk,aBunks,eBunk,eBunks,gBunk,gBunks,eCabin,gCabin,mBunk,mCabin,mTk,aChart,cChart,aAsk,cAsk,nyS,pBag,pChartOf,pAskedOf,pPlacesF,sBestF,sisPlace,srBunks,pAl,sisFree,seqB,sselling,List.length_map,eC,eA,c1,c2,hL,hA0];(try simp only [ite_and]);(repeat' (first|with_reducible assumption|refine And.intro ?_ ?_|intro hp));all_goals (first|(refine hQ _ ?_;clear hQ Q)|(refine hQ _ (fun h=>?_) (fun h=>?_) <;> clear hQ Q <;> (try simp only [vki,reduceCtorEq] at h))|(refine vq ?_;kernel_rfl)|omega|assumption|with_reducible rfl|skip))
  repeat' (first|(apply nx;with_reducible constructor)|refine uq (by decide) ?_)
  ((first|refine vx env fun Q hQ=>?_|refine vz fun Q hQ=>?_);simp only [vkt,seval,tbE14_law,xbE14_1,aBunk,aBunks,eBunk,eBunks,gBunk,gBunks,eCabin,gCabin,mBunk,mCabin,mTk,aChart,cChart,aAsk,cAsk,nyS,pBag,pChartOf,pAskedOf,pPlacesF,sBestF,sisPlace,srBunks,pAl,sisFree,seqB,sselling,List.length_map,eC,eA,c1,c2,hB];(try simp only [ite_and]);(repeat' (first|with_reducible assumption|refine And.intro ?_ ?_|intro hp));all_goals (first|(refine hQ _ ?_;clear hQ Q)|(refine hQ _ (fun h=>?_) (fun h=>?_) <;> clear hQ Q <;> (try simp only [vki,reduceCtorEq] at h))|(refine vq ?_;kernel_rfl)|omega|assumption|with_reducible rfl|skip))
  repeat' (first|(apply nx;with_reducible constructor)|refine uq (by decide) ?_)
  refine Sym.mono (K:=fun e S1=>e=.normal∧Le S1 (nyS C A L [(60,aB false)] [] 4)) ?_ ?_
  · rcases hBf with ⟨h1,h2⟩|⟨h1,h2,h3⟩
    · have q1:decide (f=0)=false:=decide_eq_false (by omega)
      have q2:decide (f=11)=true:=decide_eq_true h2
      have q3:decide ((L.length:Int)=0)=true:=decide_eq_true (by omega)
      ((first|refine vx env fun Q hQ=>?_|refine vz fun Q hQ=>?_);simp only [vkt,seval,tbE14_law,xbE14_1,aBunk,aBunks,eBunk,eBunks,gBunk,gBunks,eCabin,gCabin,mBunk,mCabin,mTk,aChart,cChart,aAsk,cAsk,nyS,pBag,pChartOf,pAskedOf,pPlacesF,sBestF,sisPlace,srBunks,pAl,sisFree,seqB,sselling,List.length_map,q1,q2,q3,decide_true,Bool.not_true,Bool.not_false];(try simp only [ite_and]);(repeat' (first|with_reducible assumption|refine And.intro ?_ ?_|intro hp));all_goals (first|(refine hQ _ ?_;clear hQ Q)|(refine hQ _ (fun h=>?_) (fun h=>?_) <;> clear hQ Q <;> (try simp only [vki,reduceCtorEq] at h))|(refine vq ?_;kernel_rfl)|omega|assumption|with_reducible rfl|skip))
      refine ⟨rfl, ?_⟩
      simp only [nyS,List.cons_append,List.nil_append]
      (refine Le.ok some [] ?_;constructor;all_goals (try simp only [vle,vkt,seval,tbE14_law,xbE14_1,aBunk,aBunks,eBunk,eBunks,gBunk,gBunks,eCabin,gCabin,mBunk,mCabin,mTk,aChart,cChart,aAsk,cAsk,nyS,pBag,pChartOf,pAskedOf,pPlacesF,sBestF,sisPlace,srBunks,pAl,sisFree,seqB,sselling,List.length_map]))
      all_goals first|rfl|(simp;done)
    · have q1:decide (f=0)=true:=decide_eq_true h2
      have q2:decide (f=11)=false:=decide_eq_false (by omega)
      have q3:decide ((L.length:Int)=0)=false:=decide_eq_false (by omega)
      ((first|refine vx env fun Q hQ=>?_|refine vz fun Q hQ=>?_);simp only [vkt,seval,tbE14_law,xbE14_1,aBunk,aBunks,eBunk,eBunks,gBunk,gBunks,eCabin,gCabin,mBunk,mCabin,mTk,aChart,cChart,aAsk,cAsk,nyS,pBag,pChartOf,pAskedOf,pPlacesF,sBestF,sisPlace,srBunks,pAl,sisFree,seqB,sselling,List.length_map,q1,q2,q3,eC,eA,c3,c4,c5,hBl,h3,hCar,decide_true,Bool.not_true,Bool.not_false];(try simp only [ite_and]);(repeat' (first|with_reducible assumption|refine And.intro ?_ ?_|intro hp));all_goals (first|(refine hQ _ ?_;clear hQ Q)|(refine hQ _ (fun h=>?_) (fun h=>?_) <;> clear hQ Q <;> (try simp only [vki,reduceCtorEq] at h))|(refine vq ?_;kernel_rfl)|omega|assumption|with_reducible rfl|skip))
      refine ⟨rfl, ?_⟩
      simp only [nyS,List.cons_append,List.nil_append]
      (refine Le.ok some [] ?_;constructor;all_goals (try simp only [vle,vkt,seval,tbE14_law,xbE14_1,aBunk,aBunks,eBunk,eBunks,gBunk,gBunks,eCabin,gCabin,mBunk,mCabin,mTk,aChart,cChart,aAsk,cAsk,nyS,pBag,pChartOf,pAskedOf,pPlacesF,sBestF,sisPlace,srBunks,pAl,sisFree,seqB,sselling,List.length_map]))
      all_goals first|rfl|(simp;done)
  rintro e S1 ⟨rfl,hle⟩
  refine (sym_le hle ?_:Sym _ _ _ S1 _)
  clear hle S1
  simp only [nyS,List.cons_append,List.nil_append]
  repeat' (first|(apply nx;with_reducible constructor)|refine uq (by decide) ?_|((first|refine vx env fun Q hQ=>?_|refine vz fun Q hQ=>?_);simp only [vkt,seval,tbE14_law,xbE14_1,aBunk,aBunks,eBunk,eBunks,gBunk,gBunks,eCabin,gCabin,mBunk,mCabin,mTk,aChart,cChart,aAsk,cAsk,nyS,pBag,pChartOf,pAskedOf,pPlacesF,sBestF,sisPlace,srBunks,pAl,sisFree,seqB,sselling,List.length_map,eC,eA,c6,c7,c8,c9,hAl];(try simp only [ite_and]);(repeat' (first|with_reducible assumption|refine And.intro ?_ ?_|intro hp));all_goals (first|(refine hQ _ ?_;clear hQ Q)|(refine hQ _ (fun h=>?_) (fun h=>?_) <;> clear hQ Q <;> (try simp only [vki,reduceCtorEq] at h))|(refine vq ?_;kernel_rfl)|omega|assumption|with_reducible rfl|skip)))
  refine sym_loop (fun i:{ i:Nat // i≤Al.length }=>nyS C A L [(10,aI ((Al.take i.1).filter (isFreeB C A)).length),(11,.row 4),(12,aI i.1)] [(4,.row 37 1 (Al.map eBunks))] 5) (fun i=>Al.length - i.1) ⟨0,Nat.zero_le _⟩ ?_ fun ⟨i,hi⟩=>?_
  · simp only [nyS,List.take_zero,List.filter_nil,List.cons_append,List.nil_append]
    (refine Le.ok some [] ?_;constructor;all_goals (try simp only [vle,vkt,seval,tbE14_law,xbE14_1,aBunk,aBunks,eBunk,eBunks,gBunk,gBunks,eCabin,gCabin,mBunk,mCabin,mTk,aChart,cChart,aAsk,cAsk,nyS,pBag,pChartOf,pAskedOf,pPlacesF,sBestF,sisPlace,srBunks,pAl,sisFree,seqB,sselling,List.length_map]))
    all_goals first|rfl|(simp;done)
  simp only at hi ⊢
  obtain ⟨n,hn⟩:∃ n,((Al.take i).filter (isFreeB C A)).length=n:=⟨_,rfl⟩
  simp only [nyS,hn,List.cons_append,List.nil_append]
  by_cases hil:i < Al.length
  · have d1:decide ((i:Int) < (Al.length:Int))=true:=decide_eq_true (by omega)
    have e9:IntKind.wrap .i64 ((i:Int)+1)=((i+1:Nat):Int):=by rw [wrap64 (by omega) (by omega)];rfl
    have i0:((i:Int)).toNat=i:=rfl
    have n0:((n:Int)).toNat=n:=rfl
    have hS:=filt_succ (p:=isFreeB C A) (d:=[]) hil
    have hG:=filt_get (p:=isFreeB C A) (d:=[]) hil
    rw [hn,← hPf] at hG
    rw [hn] at hS
    obtain ⟨p,hp⟩:∃ p,Al.getD i []=p:=⟨_,rfl⟩
    have hg:=hBunks hil
    rw [hp] at hg hS hG
    obtain ⟨p1,p2⟩:=hA1' p (by rw [← hp];exact gMem hil)
    have hnr:NearOk C.cabins p:=⟨by omega,by omega,by omega,fun b hb=>by
      obtain ⟨j,hj,hjb⟩:=List.mem_iff_getElem.1 (p2 b hb)
      have:=bunk_in (cs:=C.cabins) hj
      rwa [show (bunksL C.cabins).getD j default=b by rw [← hjb];simp [List.getD_eq_getElem?_getD,hj]] at this⟩
    have p3:p.length≤20:=by omega
    have p4:A.sexes.length=p.length:=by omega
    have p5:p.length≤1000:=by omega
    cases q:isFreeB C A p with
    |false =>
      rw [q] at hS
      have hS:((Al.take (i+1)).filter (isFreeB C A)).length=n:=hS
      repeat' (first|(apply nx;with_reducible constructor)|refine uq (by decide) ?_|((first|refine vx env fun Q hQ=>?_|refine vz fun Q hQ=>?_);simp only [vkt,seval,tbE14_law,xbE14_1,aBunk,aBunks,eBunk,eBunks,gBunk,gBunks,eCabin,gCabin,mBunk,mCabin,mTk,aChart,cChart,aAsk,cAsk,nyS,pBag,pChartOf,pAskedOf,pPlacesF,sBestF,sisPlace,srBunks,pAl,sisFree,seqB,sselling,List.length_map,d1,e9,i0,hil,hp,hg,eC,eA,hnr,p3,p4,c10,c11,q];(try simp only [ite_and]);(repeat' (first|with_reducible assumption|refine And.intro ?_ ?_|intro hp));all_goals (first|(refine hQ _ ?_;clear hQ Q)|(refine hQ _ (fun h=>?_) (fun h=>?_) <;> clear hQ Q <;> (try simp only [vki,reduceCtorEq] at h))|(refine vq ?_;kernel_rfl)|omega|assumption|with_reducible rfl|skip)))
      refine ⟨⟨i+1,hil⟩,by show Al.length - (i+1) < Al.length - i;omega, ?_⟩
      simp only [nyS,hS,List.cons_append,List.nil_append]
      (refine Le.ok some [] ?_;constructor;all_goals (try simp only [vle,vkt,seval,tbE14_law,xbE14_1,aBunk,aBunks,eBunk,eBunks,gBunk,gBunks,eCabin,gCabin,mBunk,mCabin,mTk,aChart,cChart,aAsk,cAsk,nyS,pBag,pChartOf,pAskedOf,pPlacesF,sBestF,sisPlace,srBunks,pAl,sisFree,seqB,sselling,List.length_map]))
      all_goals first|rfl|(simp;done)
    |true =>
      rw [q] at hS
      have hS:((Al.take (i+1)).filter (isFreeB C A)).length=n+1:=hS
      obtain ⟨g1,g2⟩:=hG q
      have hg2:=hBunks g1
      rw [g2] at hg2
      have d2:decide ((L.length:Int)≤(n:Int))=false:=decide_eq_false (by omega)
      have e8:IntKind.wrap .i64 ((n:Int)+1)=((n+1:Nat):Int):=by rw [wrap64 (by omega) (by omega)];rfl
      repeat' (first|(apply nx;with_reducible constructor)|refine uq (by decide) ?_|((first|refine vx env fun Q hQ=>?_|refine vz fun Q hQ=>?_);simp only [vkt,seval,tbE14_law,xbE14_1,aBunk,aBunks,eBunk,eBunks,gBunk,gBunks,eCabin,gCabin,mBunk,mCabin,mTk,aChart,cChart,aAsk,cAsk,nyS,pBag,pChartOf,pAskedOf,pPlacesF,sBestF,sisPlace,srBunks,pAl,sisFree,seqB,sselling,List.length_map,d1,e9,i0,hil,hp,hg,eC,eA,hnr,p3,p4,c10,c11,q,d2,n0,g1,g2,hg2,p5,e8,decide_true];(try simp only [ite_and]);(repeat' (first|with_reducible assumption|refine And.intro ?_ ?_|intro hp));all_goals (first|(refine hQ _ ?_;clear hQ Q)|(refine hQ _ (fun h=>?_) (fun h=>?_) <;> clear hQ Q <;> (try simp only [vki,reduceCtorEq] at h))|(refine vq ?_;kernel_rfl)|omega|assumption|with_reducible rfl|skip)))
      refine ⟨⟨i+1,hil⟩,by show Al.length - (i+1) < Al.length - i;omega, ?_⟩
      simp only [nyS,hS,List.cons_append,List.nil_append]
      (refine Le.ok some [] ?_;constructor;all_goals (try simp only [vle,vkt,seval,tbE14_law,xbE14_1,aBunk,aBunks,eBunk,eBunks,gBunk,gBunks,eCabin,gCabin,mBunk,mCabin,mTk,aChart,cChart,aAsk,cAsk,nyS,pBag,pChartOf,pAskedOf,pPlacesF,sBestF,sisPlace,srBunks,pAl,sisFree,seqB,sselling,List.length_map]))
      all_goals first|rfl|(simp;done)
  · have d1:decide ((i:Int) < (Al.length:Int))=false:=decide_eq_false (by omega)
    obtain rfl:i=Al.length:=by omega
    rw [List.take_length,← hPf] at hn
    have d2:decide ((n:Int)=(L.length:Int))=true:=decide_eq_true (by omega)
    repeat' (first|(apply nx;with_reducible constructor)|refine uq (by decide) ?_|((first|refine vx env fun Q hQ=>?_|refine vz fun Q hQ=>?_);simp only [vkt,seval,tbE14_law,xbE14_1,aBunk,aBunks,eBunk,eBunks,gBunk,gBunks,eCabin,gCabin,mBunk,mCabin,mTk,aChart,cChart,aAsk,cAsk,nyS,pBag,pChartOf,pAskedOf,pPlacesF,sBestF,sisPlace,srBunks,pAl,sisFree,seqB,sselling,List.length_map,d1,d2];(try simp only [ite_and]);(repeat' (first|with_reducible assumption|refine And.intro ?_ ?_|intro hp));all_goals (first|(refine hQ _ ?_;clear hQ Q)|(refine hQ _ (fun h=>?_) (fun h=>?_) <;> clear hQ Q <;> (try simp only [vki,reduceCtorEq] at h))|(refine vq ?_;kernel_rfl)|omega|assumption|with_reducible rfl|skip)))
    (simp only [vrt,Try.results3,vkt,seval,tbE14_law,xbE14_1,aBunk,aBunks,eBunk,eBunks,gBunk,gBunks,eCabin,gCabin,mBunk,mCabin,mTk,aChart,cChart,aAsk,cAsk,nyS,pBag,pChartOf,pAskedOf,pPlacesF,sBestF,sisPlace,srBunks,pAl,sisFree,seqB,sselling,List.length_map];refine Fin.val rfl ?_;(try simp only [AV.le,AV.leL]))
    all_goals first|rfl|(simp;done)
end Go.Sym.B
