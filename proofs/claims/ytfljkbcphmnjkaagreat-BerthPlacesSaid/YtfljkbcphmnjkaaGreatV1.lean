/- Walks and what they compute, joined: part 1. -/
import Derived.Test.YtfljkbcphmnjkaaGreatVB3
set_option linter.all false
namespace Go.Sym.B
open Go Go.Sym Go.Proofs Go.Sym.C
theorem _root_.Go.Sym.vj {a b:Prop} (x:a) (y:b):a∧b:=⟨x,y⟩
def _root_.Go.Sym.uq:=@Vv
def _root_.Go.Sym.ux:=@JR
def _root_.Go.Sym.uz:=@V5
def _root_.Go.Sym.uj:=@XG
def _root_.Go.Sym.uk:=@R7
def _root_.Go.Sym.uw:=@UO
def _root_.Go.Sym.uv:=@Uw
def _root_.Go.Sym.vq:=@LF
def _root_.Go.Sym.vx:=@Qdg
def _root_.Go.Sym.vz:=@Qgh
def UY (p:List Bunk) (k:Int):Bool:=p.any fun b=>decide (b.cab=k)
def emH (c:Chart) (s:Int) (k:Nat) (m:Nat):Bool:=(List.range m).all fun (j:Nat)=>!WJ c.sold ⟨(k:Int),(j:Int)⟩ s
def ltB (c:Chart) (p:List Bunk) (s:Int) (k:Nat):Bool:=UY p k && emH c s k (c.cabins.getD k default).beds.toNat
def ltC (c:Chart) (p:List Bunk) (s:Int):Nat→Nat
  |0=>0
  |k+1=>ltC c p s k+if ltB c p s k then 1 else 0
def ltS (c:Chart) (a:Ask) (p:List Bunk):Nat→Nat
  |0=>0
  |j+1=>ltS c a p j+ltC c p (a.frm+(j:Int)) c.cabins.length
def QeU (c:Chart) (a:Ask) (p:List Bunk):Nat:=ltS c a p (a.to - a.frm).toNat
def mxK (f:Nat→Int):Nat→Int × Nat
  |0=>(-1,0)
  |i+1=>if (mxK f i).1 < f i then (f i,i) else mxK f i
theorem QeA (l:List Tk) (t:Tk) (s i:Int):jl (l++[t]) s i=(jl l s i && !(atB s t && decide (t.cab=i))):=by
  unfold jl
  rw [List.all_append]
  simp
theorem Vr {cs:List Cabin} {a:Ask}:∀ (m:Nat) (sold:List Tk) (begun:List Bunk),∀ x ∈ wz cs a m sold begun,∃ new:List Bunk,x.1=begun++new∧∀ s i:Int,jl x.2 s i=(jl sold s i && new.all fun b=>!((decide (a.frm≤s) && decide (s < a.to)) && decide (b.cab=i)))
  |0,sold,begun,x,hx=>by
    simp only [wz,List.mem_singleton] at hx
    subst hx
    exact ⟨[],by simp,fun s i=>by simp⟩
  |m+1,sold,begun,x,hx=>by
    rw [xV,List.mem_flatMap] at hx
    obtain ⟨b,hb,hx⟩:=hx
    unfold gbL at hx
    split at hx
    · obtain ⟨new,h1,h2⟩:=Vr m _ _ x hx
      refine ⟨b :: new,by rw [h1];simp,fun s i=>?_⟩
      rw [h2,QeA,List.all_cons,Bool.and_assoc]
      rfl
    · simp at hx
theorem Um {s:Int} {t:Tk}:inB s t.frm (t.to - 1)=atB s t:=by
  unfold inB atB
  congr 1
  rw [decide_eq_decide];omega
theorem Qf9 {c:Chart} (hv:Val c) {k:Nat} (s:Int):emH c s k (c.cabins.getD k default).beds.toNat=jl c.sold s k:=by
  rw [Bool.eq_iff_iff]
  unfold emH jl
  rw [List.all_eq_true,List.all_eq_true]
  constructor
  · intro h t ht
    cases hq:(atB s t && decide (t.cab=(k:Int))) with
    |false=>rfl
    |true =>
      rw [Bool.and_eq_true,decide_eq_true_eq] at hq
      obtain ⟨h1,h2⟩:=hq
      have hk:=hv.tk t ht
      have hb:=hk.bed
      rw [h2] at hb
      have hb:0≤t.bed∧t.bed < (c.cabins.getD k default).beds:=hb
      have:=h t.bed.toNat (List.mem_range.2 (by omega))
      rw [Int.toNat_of_nonneg hb.1] at this
      have hh:WJ c.sold ⟨k,t.bed⟩ s=true:=List.any_eq_true.2 ⟨t,ht,by unfold onB;rw [Um,h1,decide_eq_true h2,decide_eq_true rfl];rfl⟩
      rw [hh] at this
      exact absurd this (by decide)
  · intro h j hj
    cases hq:WJ c.sold ⟨(k:Int),(j:Int)⟩ s with
    |false=>rfl
    |true =>
      obtain ⟨t,ht,h1⟩:=List.any_eq_true.1 hq
      unfold onB at h1
      rw [Um,Bool.and_eq_true,Bool.and_eq_true,decide_eq_true_eq] at h1
      have:=h t ht
      rw [h1.2,decide_eq_true h1.1.1] at this
      exact absurd this (by decide)
def UW (sold:List Tk) (s:Int) (n:Nat):Nat:=((List.range n).filter fun (i:Nat)=>jl sold s i).length
theorem Ku (sold:List Tk) (s:Int) (n:Nat):UW sold s (n+1)=UW sold s n+if jl sold s n then 1 else 0:=by
  unfold UW
  rw [List.range_succ,List.filter_append,List.length_append]
  cases h:jl sold s n <;> simp [h]
def Xn (sold:List Tk) (n:Nat):Nat→Nat
  |0=>0
  |s+1=>Xn sold n s+UW sold s n
theorem Yf (cs:List Cabin) (secs:Int) (sold:List Tk):vS cs secs sold=(Xn sold cs.length secs.toNat:Int):=by
  unfold vS
  have:∀ k,((List.range k).flatMap fun (s:Nat)=>(List.range cs.length).filter fun (i:Nat)=>jl sold s i).length=Xn sold cs.length k:=by
    intro k
    induction k with
    |zero=>rfl
    |succ k ih =>
      rw [List.range_succ,List.flatMap_append,List.length_append,ih,Xn]
      simp [UW]
  rw [this]
theorem KX {c:Chart} {a:Ask} (hv:Val c) {sold2:List Tk} {p:List Bunk} {s:Int} (h:∀ i:Int,jl sold2 s i=(jl c.sold s i && p.all fun b=>!((decide (a.frm≤s) && decide (s < a.to)) && decide (b.cab=i)))) :
    ∀ n,UW c.sold s n=UW sold2 s n+if a.frm≤s∧s < a.to then ltC c p s n else 0
  |0=>by
    have:∀ l:List Tk,UW l s 0=0:=fun l=>rfl
    rw [this,this]
    split <;> rfl
  |n+1=>by
    have ih:=KX hv h n
    rw [Ku,Ku,ih,h n]
    by_cases hs:a.frm≤s∧s < a.to
    · rw [if_pos hs,if_pos hs,ltC]
      have hm:(p.all fun b=>!((decide (a.frm≤s) && decide (s < a.to)) && decide (b.cab=(n:Int))))=!UY p n:=by
        unfold UY
        rw [decide_eq_true hs.1,decide_eq_true hs.2,List.not_any_eq_all_not]
        rfl
      have hl:ltB c p s n=(UY p n && jl c.sold s n):=by unfold ltB;rw [Qf9 hv]
      rw [hm,hl]
      cases UY p n <;> cases jl c.sold s n <;> simp <;> omega
    · rw [if_neg hs,if_neg hs]
      have hm:(p.all fun b=>!((decide (a.frm≤s) && decide (s < a.to)) && decide (b.cab=(n:Int))))=true:=by
        rw [show (decide (a.frm≤s) && decide (s < a.to))=false by rw [Bool.and_eq_false_iff];by_cases h1:a.frm≤s;right;simpa using fun h=>hs ⟨h1,h⟩;left;simpa using h1]
        simp
      rw [hm]
      cases jl c.sold s n <;> simp
theorem Ri {c:Chart} {a:Ask} (hv:Val c) {sold2:List Tk} {p:List Bunk} (h:∀ s i:Int,jl sold2 s i=(jl c.sold s i && p.all fun b=>!((decide (a.frm≤s) && decide (s < a.to)) && decide (b.cab=i)))) {f t:Nat} (hf:a.frm=f) (ht:a.to=t) :
    ∀ k,Xn c.sold c.cabins.length k=Xn sold2 c.cabins.length k+ltS c a p (min k t - f)
  |0=>by simp [Xn,ltS]
  |k+1=>by
    rw [Xn,Xn,Ri hv h hf ht k,KX hv (h k)]
    rw [hf,ht]
    by_cases hk:f≤k∧k < t
    · rw [if_pos (by omega),show min (k+1) t - f=(min k t - f)+1 by omega,ltS,hf,show (f:Int)+((min k t - f:Nat):Int)=(k:Int) by omega]
      omega
    · rw [if_neg (by omega),show min (k+1) t - f=min k t - f by omega]
      omega
theorem Xy {c:Chart} {a:Ask} (h:zu c a=0) {x:List Bunk × List Tk} (hx:x ∈ plP c a):vS c.cabins c.secs x.2=vS c.cabins c.secs c.sold - QeU c a x.1:=by
  have hv:=(Qq h).val
  have hw:=VG h
  obtain ⟨new,h1,h2⟩:=Vr _ _ _ x hx
  rw [List.nil_append] at h1
  rw [Yf,Yf]
  obtain ⟨f,hf⟩:∃ f:Nat,a.frm=f:=⟨a.frm.toNat,by omega⟩
  obtain ⟨t,ht⟩:∃ t:Nat,a.to=t:=⟨a.to.toNat,by omega⟩
  have:=Ri hv h2 hf ht c.secs.toNat
  rw [this,← h1]
  unfold QeU
  rw [show min c.secs.toNat t - f=(a.to - a.frm).toNat by omega]
  omega
theorem QiG (cs:List Cabin) (secs:Int) (sold:List Tk):0≤vS cs secs sold:=by rw [Yf];omega
def rsF (c:Chart) (a:Ask) (i:Nat):Int:=vS c.cabins c.secs c.sold - QeU c a ((plP c a).getD i default).1
theorem Qfk {c:Chart} {a:Ask} (h:zu c a=0):∀ j,j≤(plP c a).length→(j=0∧bsK c a j=(false,[],0))∨(bsK c a j=(true,((plP c a).getD (mxK (rsF c a) j).2 default).1,(mxK (rsF c a) j).1)∧(mxK (rsF c a) j).2 < j)
  |0,_=>.inl ⟨rfl,rfl⟩
  |j+1,hj=>by
    right
    have hm:vS c.cabins c.secs ((plP c a).getD j default).2=rsF c a j:=Xy h (yL (by omega))
    have h0:0≤rsF c a j:=by rw [← hm];exact QiG _ _ _
    rw [bsK,hm]
    rcases Qfk h j (by omega) with ⟨h1,h2⟩|⟨h1,h2⟩
    · subst h1
      rw [h2,mxK,mxK]
      simp only [Bool.not_false,Bool.true_or,if_true]
      rw [if_pos (by omega)]
      exact ⟨rfl,by simp only;omega⟩
    · rw [h1,mxK]
      simp only [Bool.not_true,Bool.false_or,decide_eq_true_eq]
      split
      · exact ⟨rfl,by simp only;omega⟩
      · exact ⟨rfl,by omega⟩
end Go.Sym.B
namespace Go.Sym.B
open Go Go.Sym Go.Proofs Go.Sym.C
theorem QjE {c:Chart} {a:Ask} {j:Nat} (hj:j < (plP c a).length):((plP c a).getD j default).1.length=a.sexes.length:=by
  have:=Vk a.sexes.length c.sold [] _ (yL (l:=plP c a) (d:=default) hj)
  simpa using this
theorem QgY (c:Chart) (s:Int) (k m:Nat):emH c s k (m+1)=(emH c s k m && !WJ c.sold ⟨(k:Int),(m:Int)⟩ s):=by
  unfold emH
  rw [List.range_succ,List.all_append]
  simp
end Go.Sym.B
namespace Go.Sym.B
open Go Go.Sym Go.Proofs Go.Sym.C
def xE (a:Ask) (l:List Bunk) (k:Nat):List Tk:=(List.range k).map fun i=>kW a i (l.getD i default)
theorem QaH (a:Ask) (l:List Bunk) (k:Nat):xE a l (k+1)=xE a l k++[kW a k (l.getD k default)]:=by
  unfold xE
  rw [List.range_succ,List.map_append];rfl
theorem VQ (a:Ask) (l:List Bunk) (k:Nat):(xE a l k).length=k:=by simp [xE]
end Go.Sym.B
namespace Go.Sym.B
open Go Go.Sym Go.Proofs Go.Sym.C
theorem Qhn {cs:List Cabin} (h2:∀ x ∈ cs,1≤x.beds∧x.beds≤3):(qY cs).length≤3 * cs.length:=by
  rw [KN]
  induction cs with
  |nil=>simp [ZJ]
  |cons x l ih =>
    have h3:=ih fun y hy=>h2 y (List.mem_cons_of_mem _ hy)
    have h4:=h2 x (List.mem_cons_self ..)
    simp only [ZJ,List.map_cons,List.sum_cons,List.length_cons] at h3 ⊢
    omega
theorem Qh3 {cs:List Cabin} (h1:cs.length≤3) (h2:∀ x ∈ cs,1≤x.beds∧x.beds≤3):(qY cs).length≤9:=by
  have:=Qhn h2
  omega
end Go.Sym.B
namespace Go.Sym.B
open Go Go.Sym Go.Proofs Go.Sym.C
theorem Jg {t:Tk} {l:List Tk}:zX t l=0 ↔ ∀ x ∈ l,vV t x=false∧QB x t=true:=by
  unfold zX
  constructor
  · intro h x hx
    split at h
    · exact absurd h (by decide)
    rename_i h1
    split at h
    · exact absurd h (by decide)
    rename_i h2
    refine ⟨?_, ?_⟩
    · cases hq:vV t x with
      |false=>rfl
      |true=>exact absurd (List.any_eq_true.2 ⟨x,hx,hq⟩) h1
    · cases hq:QB x t with
      |true=>rfl
      |false=>exact absurd (List.any_eq_true.2 ⟨x,hx,by rw [hq];rfl⟩) h2
  · intro h
    rw [if_neg,if_neg]
    · rw [List.any_eq_true]
      rintro ⟨x,hx,h1⟩
      rw [(h x hx).2] at h1
      exact absurd h1 (by decide)
    · rw [List.any_eq_true]
      rintro ⟨x,hx,h1⟩
      rw [(h x hx).1] at h1
      exact absurd h1 (by decide)
structure RmInv (C:Chart) (a:Ask) (i:Nat) (c:Chart):Prop where
  chk:wH c=0
  cabs:c.cabins=C.cabins
  secs:c.secs=C.secs
  len:c.sold.length=C.sold.length+i
  lt:∀ t ∈ c.sold,t.party < 60+(i:Int)
end Go.Sym.B
namespace Go.Sym.B
open Go Go.Sym Go.Proofs Go.Sym.C
def bkF (i k:Nat):List Bunk:=(List.range k).map fun (m:Nat)=>⟨(i:Int),(m:Int)⟩
def bkP (cs:List Cabin) (i:Nat):List Bunk:=(List.range i).flatMap fun i=>bkF i (cs.getD i default).beds.toNat
theorem Qfw (i k:Nat):bkF i (k+1)=bkF i k++[⟨(i:Int),(k:Int)⟩]:=by
  unfold bkF
  rw [List.range_succ,List.map_append];rfl
theorem Qda (i k:Nat):(bkF i k).length=k:=by simp [bkF]
theorem L6 (cs:List Cabin) (i:Nat):bkP cs (i+1)=bkP cs i++bkF i (cs.getD i default).beds.toNat:=by
  unfold bkP
  rw [List.range_succ,List.flatMap_append]
  simp
theorem Qcu {cs:List Cabin} (hb:∀ x ∈ cs,x.beds≤3):∀ i,i≤cs.length→(bkP cs i).length≤3 * i
  |0,_=>by simp [bkP]
  |i+1,h=>by
    have h1:=Qcu hb i (by omega)
    have h2:=hb _ (yL (d:=default) (show i < cs.length by omega))
    rw [L6,List.length_append,Qda]
    omega
def bkS (c:Chart) (T:List (Nat × AV)) (l:List Bunk):St:={ t:=asg (T++[(1,.ptr 0 0),(3,.row 1)]),h:=qj [(0,.cells (qb c)),(1,.row 62 2 (l.map qm))],n:=2 }
def jr:=vj @ty3 (vj @WM (vj @jO (vj @Wp (vj @xf (vj @WL (vj @ti3.eq_1 (vj @ZG.eq_1 (vj @jo.eq_1 (vj @Zl.eq_1 (vj @vB.eq_1 @ZC.eq_1))))))))))
def Qo:=vj @aI.eq_1 (@aB.eq_1)
theorem Qec (c:Chart) (hc:c.cabins.length≤3) (hb:∀ x ∈ c.cabins,x.beds≤3):FnV Tryz.prog 70 [qa c] (qc (qY c.cabins)):=by
  have env:Env (fun _=>True) Tryz.prog tyB (tab []):=qL trivial
  refine Fn.of (A:=fun _=>True) (n0:=0) (D:=noD) (Fn0 Tryz.func70 rfl (fun vs w=>by kernel_rfl) (by kernel_rfl)) (by simp) (by simp [AV.ids,AV.idsL,qa,qb]) (fun i o h=>by cases h) (fun _ _ _ _=>trivial) qF ?_
  have hmx:(100000:Nat)≤maxLen:=by decide
  rw [show qY c.cabins=bkP c.cabins c.cabins.length from rfl]
  repeat' (first|(apply nx;with_reducible constructor)|refine uq (by decide) ?_|((first|refine vx env fun Q hQ=>?_|refine vz fun Q hQ=>?_);simp only [vkt,seval,jr,Qo,qf,qc,qm,qD,qP,qg,qz,qJ,qd,mTk,qa,qb,bkS,List.length_map];(try simp only [ite_and]);(repeat' (first|with_reducible assumption|refine And.intro ?_ ?_|intro hp));all_goals (first|(refine hQ _ ?_;clear hQ Q)|(refine hQ _ (fun h=>?_) (fun h=>?_) <;> clear hQ Q <;> (try simp only [vki,reduceCtorEq] at h))|(refine vq ?_;kernel_rfl)|omega|assumption|with_reducible rfl|skip)))
  refine qO (fun i:{ i:Nat // i≤c.cabins.length }=>bkS c [(4,aI i.1)] (bkP c.cabins i.1)) (fun i=>c.cabins.length - i.1) ⟨0,Nat.zero_le _⟩ ?_ fun ⟨i,hi⟩=>?_
  · simp only [bkS,show bkP c.cabins 0=[] from rfl,List.cons_append,List.nil_append]
    (refine Le.ok (fun i=>if i=1 then none else some i) [] ?_;constructor;all_goals (try simp only [vle,vkt,seval,jr,Qo,qf,qc,qm,qD,qP,qg,qz,qJ,qd,mTk,qa,qb,bkS,List.length_map]))
    all_goals first|rfl|(simp;done)
  simp only at hi ⊢
  have hL:=Qcu hb i hi
  have hS:=L6 c.cabins i
  obtain ⟨L,hLe⟩:∃ L,bkP c.cabins i=L:=⟨_,rfl⟩
  rw [hLe] at hL hS
  rw [hLe]
  by_cases hil:i < c.cabins.length
  · have d1:decide ((i:Int) < (c.cabins.length:Int))=true:=decide_eq_true (by omega)
    have e9:IntKind.wrap .i64 ((i:Int)+1)=((i+1:Nat):Int):=by rw [wrap64 (by omega) (by omega)];rfl
    have i0:((i:Int)).toNat=i:=rfl
    obtain ⟨x,hx⟩:∃ x,c.cabins.getD i default=x:=⟨_,rfl⟩
    have hxb:=hb x (by rw [← hx];exact yL hil)
    rw [hx] at hS
    simp only [bkS,List.cons_append,List.nil_append]
    repeat' (first|(apply nx;with_reducible constructor)|refine uq (by decide) ?_|((first|refine vx env fun Q hQ=>?_|refine vz fun Q hQ=>?_);simp only [vkt,seval,jr,Qo,qf,qc,qm,qD,qP,qg,qz,qJ,qd,mTk,qa,qb,bkS,List.length_map,d1,i0];(try simp only [ite_and]);(repeat' (first|with_reducible assumption|refine And.intro ?_ ?_|intro hp));all_goals (first|(refine hQ _ ?_;clear hQ Q)|(refine hQ _ (fun h=>?_) (fun h=>?_) <;> clear hQ Q <;> (try simp only [vki,reduceCtorEq] at h))|(refine vq ?_;kernel_rfl)|omega|assumption|with_reducible rfl|skip)))
    refine qO (fun k:{ k:Nat // k≤x.beds.toNat }=>bkS c [(4,aI i),(5,aI k.1)] (L++bkF i k.1)) (fun k=>x.beds.toNat - k.1) ⟨0,Nat.zero_le _⟩ ?_ fun ⟨k,hk⟩=>?_
    · simp only [bkS,show bkF i 0=[] from rfl,List.append_nil,List.cons_append,List.nil_append]
      (refine Le.ok some [] ?_;constructor;all_goals (try simp only [vle,vkt,seval,jr,Qo,qf,qc,qm,qD,qP,qg,qz,qJ,qd,mTk,qa,qb,bkS,List.length_map]))
      all_goals first|rfl|(simp;done)
    simp only at hk ⊢
    have hF:=Qfw i k
    have hFl:(L++bkF i k).length≤100:=by rw [List.length_append,Qda];omega
    obtain ⟨M,hM⟩:∃ M,L++bkF i k=M:=⟨_,rfl⟩
    have hMS:L++bkF i (k+1)=M++[⟨(i:Int),(k:Int)⟩]:=by rw [hF,← List.append_assoc,hM]
    rw [hM] at hFl
    simp only [bkS,hM,List.cons_append,List.nil_append]
    by_cases hkl:k < x.beds.toNat
    · have d2:decide ((k:Int) < x.beds)=true:=decide_eq_true (by omega)
      have e8:IntKind.wrap .i64 ((k:Int)+1)=((k+1:Nat):Int):=by rw [wrap64 (by omega) (by omega)];rfl
      have hm:M.length+1≤maxLen:=by omega
      repeat' (first|(apply nx;with_reducible constructor)|refine uq (by decide) ?_|((first|refine vx env fun Q hQ=>?_|refine vz fun Q hQ=>?_);simp only [vkt,seval,jr,Qo,qf,qc,qm,qD,qP,qg,qz,qJ,qd,mTk,qa,qb,bkS,List.length_map,i0,hil,hx,d2,e8,hm];(try simp only [ite_and]);(repeat' (first|with_reducible assumption|refine And.intro ?_ ?_|intro hp));all_goals (first|(refine hQ _ ?_;clear hQ Q)|(refine hQ _ (fun h=>?_) (fun h=>?_) <;> clear hQ Q <;> (try simp only [vki,reduceCtorEq] at h))|(refine vq ?_;kernel_rfl)|omega|assumption|with_reducible rfl|skip)))
      refine ⟨⟨k+1,hkl⟩,by show x.beds.toNat - (k+1) < x.beds.toNat - k;omega, ?_⟩
      simp only [bkS,hMS,List.cons_append,List.nil_append]
      (refine Le.ok (fun i=>if i=1 then some 3 else some i) [] ?_;constructor;all_goals (try simp only [vle,vkt,seval,jr,Qo,qf,qc,qm,qD,qP,qg,qz,qJ,qd,mTk,qa,qb,bkS,List.length_map]))
      all_goals first|rfl|(rw [List.map_append];rfl)|(simp;done)|(intro i hi;rw [if_neg (by omega)];done)
    · have d2:decide ((k:Int) < x.beds)=false:=decide_eq_false (by omega)
      obtain rfl:k=x.beds.toNat:=by omega
      repeat' (first|(apply nx;with_reducible constructor)|refine uq (by decide) ?_|((first|refine vx env fun Q hQ=>?_|refine vz fun Q hQ=>?_);simp only [vkt,seval,jr,Qo,qf,qc,qm,qD,qP,qg,qz,qJ,qd,mTk,qa,qb,bkS,List.length_map,i0,hil,hx,d2,e9];(try simp only [ite_and]);(repeat' (first|with_reducible assumption|refine And.intro ?_ ?_|intro hp));all_goals (first|(refine hQ _ ?_;clear hQ Q)|(refine hQ _ (fun h=>?_) (fun h=>?_) <;> clear hQ Q <;> (try simp only [vki,reduceCtorEq] at h))|(refine vq ?_;kernel_rfl)|omega|assumption|with_reducible rfl|skip)))
      refine ⟨⟨i+1,hil⟩,by show c.cabins.length - (i+1) < c.cabins.length - i;omega, ?_⟩
      simp only [bkS,hS,hM,List.cons_append,List.nil_append]
      (refine Le.ok some [] ?_;constructor;all_goals (try simp only [vle,vkt,seval,jr,Qo,qf,qc,qm,qD,qP,qg,qz,qJ,qd,mTk,qa,qb,bkS,List.length_map]))
      all_goals first|rfl|(simp;done)
  · have d1:decide ((i:Int) < (c.cabins.length:Int))=false:=decide_eq_false (by omega)
    obtain rfl:i=c.cabins.length:=by omega
    rw [hLe]
    simp only [bkS,List.cons_append,List.nil_append]
    repeat' (first|(apply nx;with_reducible constructor)|refine uq (by decide) ?_|((first|refine vx env fun Q hQ=>?_|refine vz fun Q hQ=>?_);simp only [vkt,seval,jr,Qo,qf,qc,qm,qD,qP,qg,qz,qJ,qd,mTk,qa,qb,bkS,List.length_map,d1];(try simp only [ite_and]);(repeat' (first|with_reducible assumption|refine And.intro ?_ ?_|intro hp));all_goals (first|(refine hQ _ ?_;clear hQ Q)|(refine hQ _ (fun h=>?_) (fun h=>?_) <;> clear hQ Q <;> (try simp only [vki,reduceCtorEq] at h))|(refine vq ?_;kernel_rfl)|omega|assumption|with_reducible rfl|skip)))
    (simp only [vrt,Tryz.results70,vkt,seval,jr,Qo,qf,qc,qm,qD,qP,qg,qz,qJ,qd,mTk,qa,qb,bkS,List.length_map];refine Fin.val rfl ?_;(try simp only [AV.le,AV.leL]))
    all_goals first|rfl|(simp;done)|exact ⟨_,_,rfl⟩
def kR:List AV→Prop × AV
  |[.agg [.sl c0,.v (.int .i64 c1),.sl c2]]=>(c0=(c0.map qp).map qg∧c2=(c2.map dTk).map eTk∧((⟨(c0.map qp),c1,(c2.map dTk)⟩:Chart)).cabins.length≤3∧∀ x ∈ ((⟨(c0.map qp),c1,(c2.map dTk)⟩:Chart)).cabins,x.beds≤3,qc (qY ((⟨(c0.map qp),c1,(c2.map dTk)⟩:Chart)).cabins))
  |_=>(False,.junk)
theorem Qiy {A:Frm→Prop}:qE A Tryz.prog 70 (qU false kR):=qW fun vs hv h=>by
  clear hv
  unfold kR at h ⊢
  split at h
  · rename_i c0 c1 c2;obtain ⟨q0,q1,k0,k1⟩:=h
    refine ⟨by first|trivial|(simp [AV.plain,AV.plainL,aI,aB,qB,qc,ql,qf,aTk,cTk];done)|(repeat' split) <;> simp [AV.plain,AV.plainL,aI,aB,qB,qc,ql,qf,aTk,cTk],fun h=>absurd h (by decide), ?_⟩
    have:=Qec ((⟨(c0.map qp),c1,(c2.map dTk)⟩:Chart)) k0 k1
    simp only [qR,qa,aI,ql,qb,← q0,← q1] at this
    first|exact this|(simp only [qR,qa,aI,ql,qb,← q0,← q1];exact this)
  · exact h.elim
def alL (bs:List Bunk):Nat→List (List Bunk)
  |0=>[[]]
  |m+1=>bs.flatMap fun b=>(alL bs m).map (b :: ·)
theorem Ro (bs:List Bunk):∀ m,(alL bs m).length=bs.length ^ m
  |0=>rfl
  |m+1=>by
    rw [alL,List.length_flatMap]
    simp only [List.length_map,Ro bs m]
    rw [List.map_const',List.sum_replicate_nat,Nat.pow_succ,Nat.mul_comm]
theorem QO {bs:List Bunk}:∀ {m},∀ p ∈ alL bs m,p.length=m
  |0,p,hp=>by rw [List.mem_singleton.1 hp];rfl
  |m+1,p,hp=>by
    obtain ⟨b,_,hp⟩:=List.mem_flatMap.1 hp
    obtain ⟨q,hq,rfl⟩:=List.mem_map.1 hp
    rw [List.length_cons,QO q hq]
def alP (bs:List Bunk) (R:List (List Bunk)) (i:Nat):List (List Bunk):=(bs.take i).flatMap fun b=>R.map (b :: ·)
theorem QgW {bs:List Bunk} (R:List (List Bunk)) {i:Nat} (h:i < bs.length):alP bs R (i+1)=alP bs R i++R.map ((bs.getD i default) :: ·):=by
  unfold alP
  rw [List.take_succ_eq_append_getElem h,List.flatMap_append,List.getD_eq_getElem?_getD,List.getElem?_eq_getElem h]
  simp
theorem QhY (bs:List Bunk) (R:List (List Bunk)) (i:Nat):(alP bs R i).length≤i * R.length:=by
  unfold alP
  rw [List.length_flatMap]
  simp only [List.length_map]
  rw [List.map_const',List.sum_replicate_nat]
  exact Nat.mul_le_mul_right _ (by rw [List.length_take];omega)
def Qgz (m:Nat):Prop:=∀ bs:List Bunk,bs.length≤9→m≤3→Fn noB Tryz.prog 69 [qc bs,aI m] noH (.row 0) (qj [(0,.row 44 1 ((alL bs m).map qA))]) 0
def pAl (m:Nat) (_:St):List AV→Option Pk
  |[.sl bs,.v (.int .i64 n)]=>some { pre:=bs=(bs.map zB).map qm∧n=m∧bs.length≤9∧m≤3,ar:=[.sl bs,.v (.int .i64 n)],v:=.row 0,L1:=[some (.row 44 1 ((alL (bs.map zB) m).map qA))] }
  |_=>none
theorem eAl {A:Frm→Prop} {m:Nat} (ih:Qgz m):qE A Tryz.prog 69 (fnE (pAl m)):=wh fun S bs q h hp=>by
  unfold pAl at h
  split at h
  · rename_i bs n
    cases h
    obtain ⟨h1,rfl,h3,h4⟩:=hp
    have:=ih (bs.map zB) (by rw [List.length_map];exact h3) h4
    rw [qc,← h1] at this
    exact this
  · cases h
def alS (bs:List Bunk) (R M:List (List Bunk)) (T:List (Nat × AV)):St:={ t:=asg (T++[(0,qc bs),(5,.row 1),(6,.row 0)]),h:=qj [(0,.row 44 1 (R.map qA)),(1,.row 44 1 (M.map qA))],n:=2 }
def zV:=vj @ty3 (vj @LU (vj @Wp (vj @xf (vj @ti3.eq_1 (vj @Xd.eq_1 (vj @Zl.eq_1 @vB.eq_1))))))
def vP:=vj @aI.eq_1 (@aB.eq_1)
theorem QhO:Qgz 0:=by
  intro bs _ _
  have env:Env (fun _=>True) Tryz.prog tyB (tab []):=qL trivial
  refine Fn.of (A:=fun _=>True) (n0:=0) (D:=noD) (Fn0 Tryz.func69 rfl (fun vs w=>by kernel_rfl) (by kernel_rfl)) (by simp) (by simp [AV.ids,AV.idsL,qc,aI]) (fun i o h=>by cases h) (fun _ _ _ _=>trivial) qF ?_
  show Sym _ _ _ (zT [qc bs,aI 0] 0 noH) (xG tyB noD Tryz.f69 fun S rv=>Fin S rv (.row 0) 0 (qj [(0,.row 44 1 [qA []])]) 0)
  repeat' (first|(apply nx;with_reducible constructor)|refine uq (by decide) ?_|((first|refine vx env fun Q hQ=>?_|refine vz fun Q hQ=>?_);simp only [vkt,seval,zV,vP,qf,qc,qm,qA,qD,qG,qP,qI,qJ,pAl,alS,List.length_map,decide_true];(try simp only [ite_and]);(repeat' (first|with_reducible assumption|refine And.intro ?_ ?_|intro hp));all_goals (first|(refine hQ _ ?_;clear hQ Q)|(refine hQ _ (fun h=>?_) (fun h=>?_) <;> clear hQ Q <;> (try simp only [vki,reduceCtorEq] at h))|(refine vq ?_;kernel_rfl)|omega|assumption|with_reducible rfl|skip)))
  (simp only [vrt,Tryz.results69,vkt,seval,zV,vP,qf,qc,qm,qA,qD,qG,qP,qI,qJ,pAl,alS,List.length_map];refine Fin.ok some [] ?_ ?_ ?_ ?_ ?_ rfl;all_goals (try simp only [vle,vkt,seval,zV,vP,qf,qc,qm,qA,qD,qG,qP,qI,qJ,pAl,alS,List.length_map]))
  all_goals first|rfl|(simp;done)
theorem Qhy (m:Nat) (ih:Qgz m):Qgz (m+1):=by
  intro bs hbs hm3
  have env:Env (fun _=>True) Tryz.prog tyB (tab [(69,fnE (pAl m))]):=qL ⟨eAl ih,trivial⟩
  refine Fn.of (A:=fun _=>True) (n0:=0) (D:=noD) (Fn0 Tryz.func69 rfl (fun vs w=>by kernel_rfl) (by kernel_rfl)) (by simp) (by simp [AV.ids,AV.idsL,qc,aI]) (fun i o h=>by cases h) (fun _ _ _ _=>trivial) qF ?_
  have hmx:(100000:Nat)≤maxLen:=by decide
  obtain ⟨R,hR⟩:∃ R,alL bs m=R:=⟨_,rfl⟩
  have hRl:R.length≤1000:=by
    rw [← hR,Ro]
    have h1:bs.length ^ m≤9 ^ m:=Nat.pow_le_pow_left hbs m
    have h2:9 ^ m≤9 ^ 3:=Nat.pow_le_pow_right (by decide) (by omega)
    omega
  have hR1:∀ p ∈ R,p.length≤3:=fun p hp=>by
    rw [← hR] at hp
    have:=QO p hp
    omega
  have hF:alL bs (m+1)=alP bs R bs.length:=by unfold alP;rw [List.take_length,← hR];rfl
  rw [hF]
  have d0:decide (((m+1:Nat):Int)=0)=false:=decide_eq_false (by omega)
  have w0:IntKind.wrap .i64 (((m+1:Nat):Int) - 1)=(m:Int):=by rw [wrap64 (by omega) (by omega)];omega
  have hm3':m≤3:=by omega
  repeat' (first|(apply nx;with_reducible constructor)|refine uq (by decide) ?_|((first|refine vx env fun Q hQ=>?_|refine vz fun Q hQ=>?_);simp only [vkt,seval,zV,vP,qf,qc,qm,qA,qD,qG,qP,qI,qJ,pAl,alS,List.length_map,d0,w0,hbs,hm3',hR];(try simp only [ite_and]);(repeat' (first|with_reducible assumption|refine And.intro ?_ ?_|intro hp));all_goals (first|(refine hQ _ ?_;clear hQ Q)|(refine hQ _ (fun h=>?_) (fun h=>?_) <;> clear hQ Q <;> (try simp only [vki,reduceCtorEq] at h))|(refine vq ?_;kernel_rfl)|omega|assumption|with_reducible rfl|skip)))
  refine qO (fun i:{ i:Nat // i≤bs.length }=>alS bs R (alP bs R i.1) [(7,aI i.1)]) (fun i=>bs.length - i.1) ⟨0,Nat.zero_le _⟩ ?_ fun ⟨i,hi⟩=>?_
  · simp only [alS,show alP bs R 0=[] from rfl,List.cons_append,List.nil_append]
    (refine Le.ok (fun i=>if i=1 then none else some i) [] ?_;constructor;all_goals (try simp only [vle,vkt,seval,zV,vP,qf,qc,qm,qA,qD,qG,qP,qI,qJ,pAl,alS,List.length_map]))
    all_goals first|rfl|(simp;done)
  simp only at hi ⊢
  have hL:=QhY bs R i
  have hL2:i * R.length≤9 * 1000:=Nat.mul_le_mul (by omega) hRl
  obtain ⟨L,hLe⟩:∃ L,alP bs R i=L:=⟨_,rfl⟩
  rw [hLe] at hL
  rw [hLe]
  by_cases hil:i < bs.length
  · have d1:decide ((i:Int) < (bs.length:Int))=true:=decide_eq_true (by omega)
    have e9:IntKind.wrap .i64 ((i:Int)+1)=((i+1:Nat):Int):=by rw [wrap64 (by omega) (by omega)];rfl
    have i0:((i:Int)).toNat=i:=rfl
    obtain ⟨b,hbe⟩:∃ b,bs.getD i default=b:=⟨_,rfl⟩
    have hS:=QgW R hil
    rw [hLe,hbe] at hS
    simp only [alS,List.cons_append,List.nil_append]
    repeat' (first|(apply nx;with_reducible constructor)|refine uq (by decide) ?_|((first|refine vx env fun Q hQ=>?_|refine vz fun Q hQ=>?_);simp only [vkt,seval,zV,vP,qf,qc,qm,qA,qD,qG,qP,qI,qJ,pAl,alS,List.length_map,d1,i0];(try simp only [ite_and]);(repeat' (first|with_reducible assumption|refine And.intro ?_ ?_|intro hp));all_goals (first|(refine hQ _ ?_;clear hQ Q)|(refine hQ _ (fun h=>?_) (fun h=>?_) <;> clear hQ Q <;> (try simp only [vki,reduceCtorEq] at h))|(refine vq ?_;kernel_rfl)|omega|assumption|with_reducible rfl|skip)))
    refine qO (fun k:{ k:Nat // k≤R.length }=>alS bs R (L++(R.take k.1).map (b :: ·)) [(7,aI i),(8,aI k.1)]) (fun k=>R.length - k.1) ⟨0,Nat.zero_le _⟩ ?_ fun ⟨k,hk⟩=>?_
    · simp only [alS,List.take_zero,List.map_nil,List.append_nil,List.cons_append,List.nil_append]
      (refine Le.ok some [] ?_;constructor;all_goals (try simp only [vle,vkt,seval,zV,vP,qf,qc,qm,qA,qD,qG,qP,qI,qJ,pAl,alS,List.length_map]))
      all_goals first|rfl|(simp;done)
    simp only at hk ⊢
    obtain ⟨M,hM⟩:∃ M,L++(R.take k).map (b :: ·)=M:=⟨_,rfl⟩
    have hMl:M.length≤10000:=by rw [← hM,List.length_append,List.length_map,List.length_take];omega
    simp only [alS,hM,List.cons_append,List.nil_append]
    by_cases hkl:k < R.length
    · have d2:decide ((k:Int) < (R.length:Int))=true:=decide_eq_true (by omega)
      have e8:IntKind.wrap .i64 ((k:Int)+1)=((k+1:Nat):Int):=by rw [wrap64 (by omega) (by omega)];rfl
      have k0:((k:Int)).toNat=k:=rfl
      have hm:M.length+1≤maxLen:=by omega
      obtain ⟨p,hp⟩:∃ p,R.getD k []=p:=⟨_,rfl⟩
      have hg:=Ye hkl
      rw [hp] at hg
      have hpl:=hR1 p (by rw [← hp];exact yL hkl)
      have hpm:1+p.length≤maxLen:=by omega
      have hMS:L++(R.take (k+1)).map (b :: ·)=M++[b :: p]:=by
        rw [List.take_succ_eq_append_getElem hkl,List.map_append,← List.append_assoc,hM,← hp]
        simp [List.getD_eq_getElem?_getD,hkl]
      repeat' (first|(apply nx;with_reducible constructor)|refine uq (by decide) ?_|((first|refine vx env fun Q hQ=>?_|refine vz fun Q hQ=>?_);simp only [vkt,seval,zV,vP,qf,qc,qm,qA,qD,qG,qP,qI,qJ,pAl,alS,List.length_map,i0,k0,hil,hkl,hbe,hp,hg,d2,e8,hm,hpm];(try simp only [ite_and]);(repeat' (first|with_reducible assumption|refine And.intro ?_ ?_|intro hp));all_goals (first|(refine hQ _ ?_;clear hQ Q)|(refine hQ _ (fun h=>?_) (fun h=>?_) <;> clear hQ Q <;> (try simp only [vki,reduceCtorEq] at h))|(refine vq ?_;kernel_rfl)|omega|assumption|with_reducible rfl|skip)))
      refine ⟨⟨k+1,hkl⟩,by show R.length - (k+1) < R.length - k;omega, ?_⟩
      simp only [alS,hMS,List.cons_append,List.nil_append]
      (refine Le.ok (fun i=>if i=1 then some 5 else some i) [] ?_;constructor;all_goals (try simp only [vle,vkt,seval,zV,vP,qf,qc,qm,qA,qD,qG,qP,qI,qJ,pAl,alS,List.length_map]))
      all_goals first|rfl|(rw [List.map_append];rfl)|(simp;done)|(intro i hi;rw [if_neg (by omega)];done)
    · have d2:decide ((k:Int) < (R.length:Int))=false:=decide_eq_false (by omega)
      obtain rfl:k=R.length:=by omega
      rw [List.take_length] at hM
      repeat' (first|(apply nx;with_reducible constructor)|refine uq (by decide) ?_|((first|refine vx env fun Q hQ=>?_|refine vz fun Q hQ=>?_);simp only [vkt,seval,zV,vP,qf,qc,qm,qA,qD,qG,qP,qI,qJ,pAl,alS,List.length_map,d2,e9];(try simp only [ite_and]);(repeat' (first|with_reducible assumption|refine And.intro ?_ ?_|intro hp));all_goals (first|(refine hQ _ ?_;clear hQ Q)|(refine hQ _ (fun h=>?_) (fun h=>?_) <;> clear hQ Q <;> (try simp only [vki,reduceCtorEq] at h))|(refine vq ?_;kernel_rfl)|omega|assumption|with_reducible rfl|skip)))
      refine ⟨⟨i+1,hil⟩,by show bs.length - (i+1) < bs.length - i;omega, ?_⟩
      simp only [alS,hS,hM,List.cons_append,List.nil_append]
      (refine Le.ok some [] ?_;constructor;all_goals (try simp only [vle,vkt,seval,zV,vP,qf,qc,qm,qA,qD,qG,qP,qI,qJ,pAl,alS,List.length_map]))
      all_goals first|rfl|(simp;done)
  · have d1:decide ((i:Int) < (bs.length:Int))=false:=decide_eq_false (by omega)
    obtain rfl:i=bs.length:=by omega
    rw [hLe]
    simp only [alS,List.cons_append,List.nil_append]
    repeat' (first|(apply nx;with_reducible constructor)|refine uq (by decide) ?_|((first|refine vx env fun Q hQ=>?_|refine vz fun Q hQ=>?_);simp only [vkt,seval,zV,vP,qf,qc,qm,qA,qD,qG,qP,qI,qJ,pAl,alS,List.length_map,d1];(try simp only [ite_and]);(repeat' (first|with_reducible assumption|refine And.intro ?_ ?_|intro hp));all_goals (first|(refine hQ _ ?_;clear hQ Q)|(refine hQ _ (fun h=>?_) (fun h=>?_) <;> clear hQ Q <;> (try simp only [vki,reduceCtorEq] at h))|(refine vq ?_;kernel_rfl)|omega|assumption|with_reducible rfl|skip)))
    (simp only [vrt,Tryz.results69,vkt,seval,zV,vP,qf,qc,qm,qA,qD,qG,qP,qI,qJ,pAl,alS,List.length_map];refine Fin.ok (fun j=>[1][j]?) [] ?_ ?_ ?_ ?_ ?_ rfl;all_goals (try simp only [vle,vkt,seval,zV,vP,qf,qc,qm,qA,qD,qG,qP,qI,qJ,pAl,alS,List.length_map]))
    all_goals first|rfl|(simp;done)
theorem Qfx:∀ m,Qgz m
  |0=>QhO
  |m+1=>Qhy m (Qfx m)
end Go.Sym.B
namespace Go.Sym.B
open Go Go.Sym Go.Proofs Go.Sym.C
def QP:=vj @ty3 (vj @WM (vj @jO (vj @xf (vj @WL (vj @ti3.eq_1 (vj @ZG.eq_1 (vj @jo.eq_1 (vj @vB.eq_1 @ZC.eq_1))))))))
def VK:=vj @aI.eq_1 (@aB.eq_1)
theorem Qez (c:Chart) (b:Bunk) (hc:CarOk c):FnV Tryz.prog 133 [qa c,qf b] (aB (jF c.cabins b.cab b.bed)):=by
  have env:Env (fun _=>True) Tryz.prog tyB (tab [(83,qU true zb)]):=qL ⟨QaD,trivial⟩
  refine Fn.of (A:=fun _=>True) (n0:=0) (D:=noD) (Fn0 Tryz.func133 rfl (fun vs w=>by kernel_rfl) (by kernel_rfl)) (by simp) (by simp [AV.ids,AV.idsL,qa,qb,qf]) (fun i o h=>by cases h) (fun _ _ _ _=>trivial) qF ?_
  have hcl:=hc.cabs
  have w1:IntKind.wrap .i64 ((c.cabins.length:Int) - 1)=(c.cabins.length:Int) - 1:=wrap64 (by omega) (by omega)
  have hE:jF c.cabins b.cab b.bed=(inB b.cab 0 ((c.cabins.length:Int) - 1) && inB b.bed 0 ((c.cabins.getD b.cab.toNat default).beds - 1)):=rfl
  cases h3:inB b.cab 0 ((c.cabins.length:Int) - 1) with
  |false =>
    rw [hE,h3]
    repeat' (first|(apply nx;with_reducible constructor)|refine uq (by decide) ?_|((first|refine vx env fun Q hQ=>?_|refine vz fun Q hQ=>?_);simp only [vkt,seval,QP,VK,qf,qm,qa,qb,qg,qz,qd,zb,List.length_map,h3,w1];(try simp only [ite_and]);(repeat' (first|with_reducible assumption|refine And.intro ?_ ?_|intro hp));all_goals (first|(refine hQ _ ?_;clear hQ Q)|(refine hQ _ (fun h=>?_) (fun h=>?_) <;> clear hQ Q <;> (try simp only [vki,reduceCtorEq] at h))|(refine vq ?_;kernel_rfl)|omega|assumption|with_reducible rfl|skip)))
    (simp only [vrt,Tryz.results133,vkt,seval,QP,VK,qf,qm,qa,qb,qg,qz,qd,zb,List.length_map];refine Fin.val rfl ?_;(try simp only [AV.le,AV.leL]))
    all_goals first|rfl|(simp;done)
  |true =>
    have b3:=jc.1 h3
    have g1:0≤b.cab:=b3.1
    have g2:b.cab.toNat < c.cabins.length:=by omega
    obtain ⟨x,hx⟩:∃ x,c.cabins.getD b.cab.toNat default=x:=⟨_,rfl⟩
    have hxb:=hc.beds _ (yL (d:=default) g2)
    rw [hx] at hxb
    have w2:IntKind.wrap .i64 (x.beds - 1)=x.beds - 1:=wrap64 (by omega) (by omega)
    rw [hE,h3,hx,Bool.true_and]
    repeat' (first|(apply nx;with_reducible constructor)|refine uq (by decide) ?_|((first|refine vx env fun Q hQ=>?_|refine vz fun Q hQ=>?_);simp only [vkt,seval,QP,VK,qf,qm,qa,qb,qg,qz,qd,zb,List.length_map,h3,w1,w2,hx,g1,g2];(try simp only [ite_and]);(repeat' (first|with_reducible assumption|refine And.intro ?_ ?_|intro hp));all_goals (first|(refine hQ _ ?_;clear hQ Q)|(refine hQ _ (fun h=>?_) (fun h=>?_) <;> clear hQ Q <;> (try simp only [vki,reduceCtorEq] at h))|(refine vq ?_;kernel_rfl)|omega|assumption|with_reducible rfl|skip)))
    (simp only [vrt,Tryz.results133,vkt,seval,QP,VK,qf,qm,qa,qb,qg,qz,qd,zb,List.length_map];refine Fin.val rfl ?_;(try simp only [AV.le,AV.leL]))
    all_goals first|rfl|(simp;done)
def zq:List AV→Prop × AV
  |[.agg [.sl c0,.v (.int .i64 c1),.sl c2],.agg [.v (.int .i64 b0),.v (.int .i64 b1)]]=>(c0=(c0.map qp).map qg∧c2=(c2.map dTk).map eTk∧CarOk ((⟨(c0.map qp),c1,(c2.map dTk)⟩:Chart)),aB (jF ((⟨(c0.map qp),c1,(c2.map dTk)⟩:Chart)).cabins ((⟨b0,b1⟩:Bunk)).cab ((⟨b0,b1⟩:Bunk)).bed))
  |_=>(False,.junk)
theorem QcN {A:Frm→Prop}:qE A Tryz.prog 133 (qU true zq):=qW fun vs hv h=>by
  clear hv
  unfold zq at h ⊢
  split at h
  · rename_i c0 c1 c2 b0 b1;obtain ⟨q0,q1,k0⟩:=h
    refine ⟨by first|trivial|(simp [AV.plain,AV.plainL,aI,aB,qB,qc,ql,qf,aTk,cTk];done)|(repeat' split) <;> simp [AV.plain,AV.plainL,aI,aB,qB,qc,ql,qf,aTk,cTk],fun _=>(by simp [AV.flat,AV.flatL,aI,aB]), ?_⟩
    have:=Qez ((⟨(c0.map qp),c1,(c2.map dTk)⟩:Chart)) ((⟨b0,b1⟩:Bunk)) k0
    simp only [qf,qR,qa,aI,ql,qb,← q0,← q1] at this
    first|exact this|(simp only [qf,qR,qa,aI,ql,qb,← q0,← q1];exact this)
  · exact h.elim
def rnS (c:Chart) (l:List Bunk) (k:Nat) (lo hi:Int):St:={ t:=asg [(1,qc l),(2,.ptr 0 0),(4,aB false),(5,aI lo),(6,aI hi),(7,aI k)],h:=qj [(0,.cells (qb c))],n:=1 }
def jW:=vj @ty3 (vj @ty4 (vj @WM (vj @jO (vj @Wp (vj @xf (vj @WL (vj @ti3.eq_1 (vj @ti4.eq_1 (vj @ZG.eq_1 (vj @jo.eq_1 (vj @Zl.eq_1 (vj @vB.eq_1 @ZC.eq_1))))))))))))
def Qk:=vj @aI.eq_1 (@aB.eq_1)
theorem Qf8 (c:Chart) (l:List Bunk) (ok:NearOk c.cabins l):FnV Tryz.prog 134 [qa c,qc l] (aB (Q7 c.cabins l)):=by
  have env:Env (fun _=>True) Tryz.prog tyB (tab []):=qL trivial
  refine Fn.of (A:=fun _=>True) (n0:=0) (D:=noD) (Fn0 Tryz.func134 rfl (fun vs w=>by kernel_rfl) (by kernel_rfl)) (by simp) (by simp [AV.ids,AV.idsL,qa,qb,qc]) (fun i o h=>by cases h) (fun _ _ _ _=>trivial) qF ?_
  have hne:=ok.ne
  have hll:=ok.len
  have hcl:=ok.cabs
  have hbd:=KO ok
  obtain ⟨x0,hx0⟩:∃ x,l.getD 0 default=x:=⟨_,rfl⟩
  have l0:loK l 0=x0.cab:=by rw [← hx0];rfl
  have h0:hiK l 0=x0.cab:=by rw [← hx0];rfl
  rw [Qc7]
  repeat' (first|(apply nx;with_reducible constructor)|refine uq (by decide) ?_|((first|refine vx env fun Q hQ=>?_|refine vz fun Q hQ=>?_);simp only [vkt,seval,jW,Qk,qf,qc,qm,qD,qg,qz,qa,qb,rnS,List.length_map,hx0,hne];(try simp only [ite_and]);(repeat' (first|with_reducible assumption|refine And.intro ?_ ?_|intro hp));all_goals (first|(refine hQ _ ?_;clear hQ Q)|(refine hQ _ (fun h=>?_) (fun h=>?_) <;> clear hQ Q <;> (try simp only [vki,reduceCtorEq] at h))|(refine vq ?_;kernel_rfl)|omega|assumption|with_reducible rfl|skip)))
  refine qO (fun k:{ k:Nat // k≤l.length }=>rnS c l k.1 (loK l k.1) (hiK l k.1)) (fun k=>l.length - k.1) ⟨0,Nat.zero_le _⟩ ?_ fun ⟨k,hk⟩=>?_
  · simp only [l0,h0]
    (refine Le.ok some [] ?_;constructor;all_goals (try simp only [vle,vkt,seval,jW,Qk,qf,qc,qm,qD,qg,qz,qa,qb,rnS,List.length_map]))
    all_goals first|rfl|(simp;done)
  simp only at hk ⊢
  by_cases hlt:k < l.length
  · have d1:decide ((k:Int) < (l.length:Int))=true:=decide_eq_true (by omega)
    have e9:IntKind.wrap .i64 ((k:Int)+1)=((k+1:Nat):Int):=by rw [wrap64 (by omega) (by omega)];rfl
    have k0:((k:Int)).toNat=k:=rfl
    obtain ⟨x,hx⟩:∃ x,l.getD k default=x:=⟨_,rfl⟩
    have hl1:=VS hlt
    have hh1:=XL hlt
    rw [hx] at hl1 hh1
    repeat' (first|(apply nx;with_reducible constructor)|refine uq (by decide) ?_|((first|refine vx env fun Q hQ=>?_|refine vz fun Q hQ=>?_);simp only [vkt,seval,jW,Qk,qf,qc,qm,qD,qg,qz,qa,qb,rnS,List.length_map,d1,k0,hx,hlt,e9];(try simp only [ite_and]);(repeat' (first|with_reducible assumption|refine And.intro ?_ ?_|intro hp));all_goals (first|(refine hQ _ ?_;clear hQ Q)|(refine hQ _ (fun h=>?_) (fun h=>?_) <;> clear hQ Q <;> (try simp only [vki,reduceCtorEq] at h))|(refine vq ?_;kernel_rfl)|omega|assumption|with_reducible rfl|skip)))
    refine ⟨⟨k+1,hlt⟩,by show l.length - (k+1) < l.length - k;omega, ?_⟩
    simp only [hl1,hh1]
    (refine Le.ok some [] ?_;constructor;all_goals (try simp only [vle,vkt,seval,jW,Qk,qf,qc,qm,qD,qg,qz,qa,qb,rnS,List.length_map]))
    all_goals first|rfl|(simp;done)
  · have d0:decide ((k:Int) < (l.length:Int))=false:=decide_eq_false (by omega)
    have hke:k=l.length:=by omega
    subst hke
    obtain ⟨g1,g2,g3,g4⟩:=hbd l.length (Nat.le_refl _)
    obtain ⟨lo,hlo⟩:∃ x,loK l l.length=x:=⟨_,rfl⟩
    obtain ⟨hi,hhi⟩:∃ x,hiK l l.length=x:=⟨_,rfl⟩
    rw [hlo] at g1 g2
    rw [hhi] at g3 g4
    obtain ⟨x,hx⟩:∃ x,c.cabins.getD lo.toNat default=x:=⟨_,rfl⟩
    have w1:IntKind.wrap .i64 (lo+1)=lo+1:=wrap64 (by omega) (by omega)
    simp only [hlo,hhi]
    by_cases c1:lo=hi
    · rw [show (decide (lo=hi) || (decide (lo+1=hi) && (c.cabins.getD lo.toNat default).door))=true by simp [c1]]
      have d1:decide (lo=hi)=true:=decide_eq_true c1
      have d1':(lo == hi)=true:=by simpa using c1
      repeat' (first|(apply nx;with_reducible constructor)|refine uq (by decide) ?_|((first|refine vx env fun Q hQ=>?_|refine vz fun Q hQ=>?_);simp only [vkt,seval,jW,Qk,qf,qc,qm,qD,qg,qz,qa,qb,rnS,List.length_map,d0,d1,d1',w1,hx,g1,g2];(try simp only [ite_and]);(repeat' (first|with_reducible assumption|refine And.intro ?_ ?_|intro hp));all_goals (first|(refine hQ _ ?_;clear hQ Q)|(refine hQ _ (fun h=>?_) (fun h=>?_) <;> clear hQ Q <;> (try simp only [vki,reduceCtorEq] at h))|(refine vq ?_;kernel_rfl)|omega|assumption|with_reducible rfl|skip)))
      (simp only [vrt,Tryz.results134,vkt,seval,jW,Qk,qf,qc,qm,qD,qg,qz,qa,qb,rnS,List.length_map];refine Fin.val rfl ?_;(try simp only [AV.le,AV.leL]))
      all_goals first|rfl|(simp;done)
    · have d1:decide (lo=hi)=false:=decide_eq_false c1
      have d1':(lo == hi)=false:=by simpa using c1
      by_cases c2:lo+1=hi
      · rw [show (decide (lo=hi) || (decide (lo+1=hi) && (c.cabins.getD lo.toNat default).door))=x.door by rw [d1,hx,decide_eq_true c2];simp]
        have d2:decide (hi=lo+1)=true:=decide_eq_true c2.symm
        repeat' (first|(apply nx;with_reducible constructor)|refine uq (by decide) ?_|((first|refine vx env fun Q hQ=>?_|refine vz fun Q hQ=>?_);simp only [vkt,seval,jW,Qk,qf,qc,qm,qD,qg,qz,qa,qb,rnS,List.length_map,d0,d1,d1',d2,w1,hx,g1,g2];(try simp only [ite_and]);(repeat' (first|with_reducible assumption|refine And.intro ?_ ?_|intro hp));all_goals (first|(refine hQ _ ?_;clear hQ Q)|(refine hQ _ (fun h=>?_) (fun h=>?_) <;> clear hQ Q <;> (try simp only [vki,reduceCtorEq] at h))|(refine vq ?_;kernel_rfl)|omega|assumption|with_reducible rfl|skip)))
        (simp only [vrt,Tryz.results134,vkt,seval,jW,Qk,qf,qc,qm,qD,qg,qz,qa,qb,rnS,List.length_map];refine Fin.val rfl ?_;(try simp only [AV.le,AV.leL]))
        all_goals first|rfl|(simp;done)
      · rw [show (decide (lo=hi) || (decide (lo+1=hi) && (c.cabins.getD lo.toNat default).door))=false by rw [d1,decide_eq_false c2];simp]
        have d2:decide (hi=lo+1)=false:=decide_eq_false fun h=>c2 h.symm
        repeat' (first|(apply nx;with_reducible constructor)|refine uq (by decide) ?_|((first|refine vx env fun Q hQ=>?_|refine vz fun Q hQ=>?_);simp only [vkt,seval,jW,Qk,qf,qc,qm,qD,qg,qz,qa,qb,rnS,List.length_map,d0,d1,d1',d2,w1,hx,g1,g2];(try simp only [ite_and]);(repeat' (first|with_reducible assumption|refine And.intro ?_ ?_|intro hp));all_goals (first|(refine hQ _ ?_;clear hQ Q)|(refine hQ _ (fun h=>?_) (fun h=>?_) <;> clear hQ Q <;> (try simp only [vki,reduceCtorEq] at h))|(refine vq ?_;kernel_rfl)|omega|assumption|with_reducible rfl|skip)))
        (simp only [vrt,Tryz.results134,vkt,seval,jW,Qk,qf,qc,qm,qD,qg,qz,qa,qb,rnS,List.length_map];refine Fin.val rfl ?_;(try simp only [AV.le,AV.leL]))
        all_goals first|rfl|(simp;done)
def ko:List AV→Prop × AV
  |[.agg [.sl c0,.v (.int .i64 c1),.sl c2],.sl l]=>(c0=(c0.map qp).map qg∧c2=(c2.map dTk).map eTk∧l=(l.map zB).map qm∧NearOk ((⟨(c0.map qp),c1,(c2.map dTk)⟩:Chart)).cabins (l.map zB),aB (Q7 ((⟨(c0.map qp),c1,(c2.map dTk)⟩:Chart)).cabins (l.map zB)))
  |_=>(False,.junk)
theorem QjI {A:Frm→Prop}:qE A Tryz.prog 134 (qU true ko):=qW fun vs hv h=>by
  clear hv
  unfold ko at h ⊢
  split at h
  · rename_i c0 c1 c2 l;obtain ⟨q0,q1,q2,k0⟩:=h
    refine ⟨by first|trivial|(simp [AV.plain,AV.plainL,aI,aB,qB,qc,ql,qf,aTk,cTk];done)|(repeat' split) <;> simp [AV.plain,AV.plainL,aI,aB,qB,qc,ql,qf,aTk,cTk],fun _=>(by simp [AV.flat,AV.flatL,aI,aB]), ?_⟩
    have:=Qf8 ((⟨(c0.map qp),c1,(c2.map dTk)⟩:Chart)) (l.map zB) k0
    simp only [qc,qR,qa,aI,ql,qb,← q0,← q1,← q2] at this
    first|exact this|(simp only [qc,qR,qa,aI,ql,qb,← q0,← q1,← q2];exact this)
  · exact h.elim
def rtS (a:Ask) (l:List Bunk) (k:Nat):St:={ t:=asg [(1,qc l),(2,.ptr 0 0),(5,.row 1),(6,aI k)],h:=qj [(0,.cells (qh a)),(1,qw (xE a l k))],n:=2 }
def Qi:=vj @ty3 (vj @ty4 (vj @x8 (vj @QG (vj @Qy (vj @Wp (vj @xf (vj @yK (vj @ti3.eq_1 (vj @ti4.eq_1 (vj @xw.eq_1 (vj @kX.eq_1 (vj @kU.eq_1 (vj @Zl.eq_1 (vj @vB.eq_1 @yn.eq_1))))))))))))))
def Jy:=vj @aI.eq_1 (vj @aB.eq_1 (vj @zJ.eq_1 (vj @Ud (@QT))))
theorem Qid (a:Ask) (l:List Bunk) (hl:l.length≤100) (ha:a.sexes.length=l.length):FnV Tryz.prog 61 [qx a,qc l] (ql (xE a l l.length)):=by
  have env:Env (fun _=>True) Tryz.prog tyB (tab []):=qL trivial
  refine Fn.of (A:=fun _=>True) (n0:=0) (D:=noD) (Fn0 Tryz.func61 rfl (fun vs w=>by kernel_rfl) (by kernel_rfl)) (by simp) (by simp [AV.ids,AV.idsL,qx,qh,qc]) (fun i o h=>by cases h) (fun _ _ _ _=>trivial) qF ?_
  have hmx:(100000:Nat)≤maxLen:=by decide
  repeat' (first|(apply nx;with_reducible constructor)|refine uq (by decide) ?_|((first|refine vx env fun Q hQ=>?_|refine vz fun Q hQ=>?_);simp only [vkt,seval,Qi,Jy,qf,qc,qm,qD,aTk,cTk,ql,eTk,rTk,qx,qh,qw,rtS,List.length_map];(try simp only [ite_and]);(repeat' (first|with_reducible assumption|refine And.intro ?_ ?_|intro hp));all_goals (first|(refine hQ _ ?_;clear hQ Q)|(refine hQ _ (fun h=>?_) (fun h=>?_) <;> clear hQ Q <;> (try simp only [vki,reduceCtorEq] at h))|(refine vq ?_;kernel_rfl)|omega|assumption|with_reducible rfl|skip)))
  refine qO (fun k:{ k:Nat // k≤l.length }=>rtS a l k.1) (fun k=>l.length - k.1) ⟨0,Nat.zero_le _⟩ ?_ fun ⟨k,hk⟩=>?_
  · simp only [rtS,show xE a l 0=[] from rfl]
    (refine Le.ok (fun i=>if i=1 then none else some i) [] ?_;constructor;all_goals (try simp only [vle,vkt,seval,Qi,Jy,qf,qc,qm,qD,aTk,cTk,ql,eTk,rTk,qx,qh,qw,rtS,List.length_map]))
    all_goals first|rfl|(simp;done)
  simp only at hk ⊢
  have hS:=QaH a l k
  have hT:=VQ a l k
  obtain ⟨T,hTe⟩:∃ T,xE a l k=T:=⟨_,rfl⟩
  rw [hTe] at hS hT
  simp only [rtS,hTe]
  by_cases hkl:k < l.length
  · have d1:decide ((k:Int) < (l.length:Int))=true:=decide_eq_true (by omega)
    have d2:decide ((k:Int) < (a.sexes.length:Int))=true:=decide_eq_true (by omega)
    have e9:IntKind.wrap .i64 ((k:Int)+1)=((k+1:Nat):Int):=by rw [wrap64 (by omega) (by omega)];rfl
    have k0:((k:Int)).toNat=k:=rfl
    have hka:k < a.sexes.length:=by omega
    obtain ⟨b,hb⟩:∃ b,l.getD k default=b:=⟨_,rfl⟩
    rw [hb] at hS
    have hm:T.length+1≤maxLen:=by omega
    repeat' (first|(apply nx;with_reducible constructor)|refine uq (by decide) ?_|((first|refine vx env fun Q hQ=>?_|refine vz fun Q hQ=>?_);simp only [vkt,seval,Qi,Jy,qf,qc,qm,qD,aTk,cTk,ql,eTk,rTk,qx,qh,qw,rtS,List.length_map,d1,d2,e9,k0,hkl,hka,hb,hm];(try simp only [ite_and]);(repeat' (first|with_reducible assumption|refine And.intro ?_ ?_|intro hp));all_goals (first|(refine hQ _ ?_;clear hQ Q)|(refine hQ _ (fun h=>?_) (fun h=>?_) <;> clear hQ Q <;> (try simp only [vki,reduceCtorEq] at h))|(refine vq ?_;kernel_rfl)|omega|assumption|with_reducible rfl|skip)))
    refine ⟨⟨k+1,hkl⟩,by show l.length - (k+1) < l.length - k;omega, ?_⟩
    simp only [rtS,hS]
    (refine Le.ok (fun i=>if i=1 then some 3 else some i) [] ?_;constructor;all_goals (try simp only [vle,vkt,seval,Qi,Jy,qf,qc,qm,qD,aTk,cTk,ql,eTk,rTk,qx,qh,qw,rtS,List.length_map]))
    all_goals first|rfl|(rw [List.map_append];rfl)|(simp;done)|(intro i hi;rw [if_neg (by omega)];done)
  · have d1:decide ((k:Int) < (l.length:Int))=false:=decide_eq_false (by omega)
    obtain rfl:k=l.length:=by omega
    rw [hTe]
    repeat' (first|(apply nx;with_reducible constructor)|refine uq (by decide) ?_|((first|refine vx env fun Q hQ=>?_|refine vz fun Q hQ=>?_);simp only [vkt,seval,Qi,Jy,qf,qc,qm,qD,aTk,cTk,ql,eTk,rTk,qx,qh,qw,rtS,List.length_map,d1];(try simp only [ite_and]);(repeat' (first|with_reducible assumption|refine And.intro ?_ ?_|intro hp));all_goals (first|(refine hQ _ ?_;clear hQ Q)|(refine hQ _ (fun h=>?_) (fun h=>?_) <;> clear hQ Q <;> (try simp only [vki,reduceCtorEq] at h))|(refine vq ?_;kernel_rfl)|omega|assumption|with_reducible rfl|skip)))
    (simp only [vrt,Tryz.results61,vkt,seval,Qi,Jy,qf,qc,qm,qD,aTk,cTk,ql,eTk,rTk,qx,qh,qw,rtS,List.length_map];refine Fin.val rfl ?_;(try simp only [AV.le,AV.leL]))
    all_goals first|rfl|(simp;done)|exact ⟨_,_,rfl⟩
def yI:List AV→Prop × AV
  |[.agg [.v (.int .i64 a0),.v (.int .i64 a1),.v (.int .i64 a2),.sl a3,.v (.bool a4)],.sl l]=>(a3=(a3.map za).map zJ∧l=(l.map zB).map qm∧(l.map zB).length≤100∧((⟨a0,a1,a2,(a3.map za),a4⟩:Ask)).sexes.length=(l.map zB).length,ql (xE ((⟨a0,a1,a2,(a3.map za),a4⟩:Ask)) (l.map zB) (l.map zB).length))
  |_=>(False,.junk)
theorem QiR {A:Frm→Prop}:qE A Tryz.prog 61 (qU false yI):=qW fun vs hv h=>by
  clear hv
  unfold yI at h ⊢
  split at h
  · rename_i a0 a1 a2 a3 a4 l;obtain ⟨q0,q1,k0,k1⟩:=h
    refine ⟨by first|trivial|(simp [AV.plain,AV.plainL,aI,aB,qB,qc,ql,qf,aTk,cTk];done)|(repeat' split) <;> simp [AV.plain,AV.plainL,aI,aB,qB,qc,ql,qf,aTk,cTk],fun h=>absurd h (by decide), ?_⟩
    have:=Qid ((⟨a0,a1,a2,(a3.map za),a4⟩:Ask)) (l.map zB) k0 k1
    simp only [qx,aB,qc,aI,qB,qh,← q0,← q1] at this
    first|exact this|(simp only [qx,aB,qc,aI,qB,qh,← q0,← q1];exact this)
  · exact h.elim
end Go.Sym.B
namespace Go.Sym.B
open Go Go.Sym Go.Proofs Go.Sym.C
theorem Qi8 {α:Type} [Inhabited α] {l:List α} {p:α→Bool} (h:∀ j,j < l.length→p (l.getD j default)=false):l.any p=false:=List.any_eq_false.2 fun x hx=>by
  obtain ⟨j,hj,rfl⟩:=List.mem_iff_getElem.1 hx
  have:=h j hj
  rw [show l.getD j default=l[j] by simp [List.getD_eq_getElem?_getD,hj]] at this
  rw [this];simp
theorem QgN {α:Type} [Inhabited α] {l:List α} {p:α→Bool} {k:Nat} (hk:k < l.length) (h:p (l.getD k default)=true):l.any p=true:=List.any_eq_true.2 ⟨_,yL hk,h⟩
def rsA (c:Chart) (t:Tk) (l:List Tk) (T:List (Nat × AV)):St:={ t:=asg (T++[(2,ql l),(4,.ptr 1 0),(6,aI 0)]),h:=qj [(0,.cells (qb c)),(1,.cells (cTk t))],n:=2 }
def zh:=vj @ty3 (vj @x8 (vj @jO (vj @Zi (vj @xf (vj @yK (vj @ti3.eq_1 (vj @xw.eq_1 (vj @jo.eq_1 (vj @Qt.eq_1 (vj @vB.eq_1 @yn.eq_1))))))))))
def wR:=vj @aI.eq_1 (@aB.eq_1)
theorem QfE (c:Chart) (t:Tk) (l:List Tk) (hc:CarOk c) (hl:l.length≤100):FnV Tryz.prog 135 [qa c,aTk t,ql l] (aI (zD c t l)):=by
  have env:Env (fun _=>True) Tryz.prog tyB (tab [(83,qU true zb),(133,qU true zq),(84,qU true zU),(120,qU true wK),(121,qU true yN)]):=qL ⟨QaD,QcN,Qjb,Qf3,ertog,trivial⟩
  refine Fn.of (A:=fun _=>True) (n0:=0) (D:=noD) (Fn0 Tryz.func135 rfl (fun vs w=>by kernel_rfl) (by kernel_rfl)) (by simp) (by simp [AV.ids,AV.idsL,qa,qb,aTk,cTk,ql]) (fun i o h=>by cases h) (fun _ _ _ _=>trivial) qF ?_
  have et:(⟨t.party,t.sex,t.cab,t.bed,t.frm,t.to,t.dog⟩:Tk)=t:=rfl
  have ec:(⟨c.cabins,c.secs,c.sold⟩:Chart)=c:=rfl
  have eb:(⟨t.cab,t.bed⟩:Bunk)=⟨t.cab,t.bed⟩:=rfl
  have hc':=hc
  cases h1:inB t.party 1 99
  · rw [show zD c t l=1 by simp [zD,h1]]
    repeat' (first|(apply nx;with_reducible constructor)|refine uq (by decide) ?_|((first|refine vx env fun Q hQ=>?_|refine vz fun Q hQ=>?_);simp only [vkt,seval,zh,wR,qf,aTk,cTk,ql,eTk,gTk,mTk,qd,qa,qb,rsA,zb,zq,zU,wK,yN,List.length_map,h1,et,ec];(try simp only [ite_and]);(repeat' (first|with_reducible assumption|refine And.intro ?_ ?_|intro hp));all_goals (first|(refine hQ _ ?_;clear hQ Q)|(refine hQ _ (fun h=>?_) (fun h=>?_) <;> clear hQ Q <;> (try simp only [vki,reduceCtorEq] at h))|(refine vq ?_;kernel_rfl)|omega|assumption|with_reducible rfl|skip)))
    (simp only [vrt,Tryz.results135,vkt,seval,zh,wR,qf,aTk,cTk,ql,eTk,gTk,mTk,qd,qa,qb,rsA,zb,zq,zU,wK,yN,List.length_map];refine Fin.val rfl ?_;(try simp only [AV.le,AV.leL]))
    all_goals first|rfl|(simp;done)
  cases h2:inB t.sex 1 2
  · rw [show zD c t l=8 by simp [zD,h1,h2]]
    repeat' (first|(apply nx;with_reducible constructor)|refine uq (by decide) ?_|((first|refine vx env fun Q hQ=>?_|refine vz fun Q hQ=>?_);simp only [vkt,seval,zh,wR,qf,aTk,cTk,ql,eTk,gTk,mTk,qd,qa,qb,rsA,zb,zq,zU,wK,yN,List.length_map,h1,h2,et,ec];(try simp only [ite_and]);(repeat' (first|with_reducible assumption|refine And.intro ?_ ?_|intro hp));all_goals (first|(refine hQ _ ?_;clear hQ Q)|(refine hQ _ (fun h=>?_) (fun h=>?_) <;> clear hQ Q <;> (try simp only [vki,reduceCtorEq] at h))|(refine vq ?_;kernel_rfl)|omega|assumption|with_reducible rfl|skip)))
    (simp only [vrt,Tryz.results135,vkt,seval,zh,wR,qf,aTk,cTk,ql,eTk,gTk,mTk,qd,qa,qb,rsA,zb,zq,zU,wK,yN,List.length_map];refine Fin.val rfl ?_;(try simp only [AV.le,AV.leL]))
    all_goals first|rfl|(simp;done)
  cases h3:jF c.cabins t.cab t.bed
  · rw [show zD c t l=3 by simp [zD,h1,h2,h3]]
    repeat' (first|(apply nx;with_reducible constructor)|refine uq (by decide) ?_|((first|refine vx env fun Q hQ=>?_|refine vz fun Q hQ=>?_);simp only [vkt,seval,zh,wR,qf,aTk,cTk,ql,eTk,gTk,mTk,qd,qa,qb,rsA,zb,zq,zU,wK,yN,List.length_map,h1,h2,h3,et,ec];(try simp only [ite_and]);(repeat' (first|with_reducible assumption|refine And.intro ?_ ?_|intro hp));all_goals (first|(refine hQ _ ?_;clear hQ Q)|(refine hQ _ (fun h=>?_) (fun h=>?_) <;> clear hQ Q <;> (try simp only [vki,reduceCtorEq] at h))|(refine vq ?_;kernel_rfl)|omega|assumption|with_reducible rfl|skip)))
    (simp only [vrt,Tryz.results135,vkt,seval,zh,wR,qf,aTk,cTk,ql,eTk,gTk,mTk,qd,qa,qb,rsA,zb,zq,zU,wK,yN,List.length_map];refine Fin.val rfl ?_;(try simp only [AV.le,AV.leL]))
    all_goals first|rfl|(simp;done)
  have hr:zD c t l=if QI c.secs t.frm t.to ≠ 0 then QI c.secs t.frm t.to else zX t l:=by unfold zD;simp [h1,h2,h3]
  rw [hr]
  obtain ⟨w,hw⟩:∃ w,QI c.secs t.frm t.to=w:=⟨_,rfl⟩
  rw [hw]
  by_cases h5:w=0
  · rw [if_neg (fun h=>h h5)]
    rw [h5] at hw
    unfold zX
    repeat' (first|(apply nx;with_reducible constructor)|refine uq (by decide) ?_|((first|refine vx env fun Q hQ=>?_|refine vz fun Q hQ=>?_);simp only [vkt,seval,zh,wR,qf,aTk,cTk,ql,eTk,gTk,mTk,qd,qa,qb,rsA,zb,zq,zU,wK,yN,List.length_map,h1,h2,h3,hw,et,ec,decide_true];(try simp only [ite_and]);(repeat' (first|with_reducible assumption|refine And.intro ?_ ?_|intro hp));all_goals (first|(refine hQ _ ?_;clear hQ Q)|(refine hQ _ (fun h=>?_) (fun h=>?_) <;> clear hQ Q <;> (try simp only [vki,reduceCtorEq] at h))|(refine vq ?_;kernel_rfl)|omega|assumption|with_reducible rfl|skip)))
    refine qO (fun k:{ k:Nat // k≤l.length∧∀ j,j < k→vV t (l.getD j default)=false }=>rsA c t l [(8,aI k.1)]) (fun k=>l.length - k.1) ⟨0,Nat.zero_le _,fun j h=>absurd h (Nat.not_lt_zero _)⟩ ?_ fun ⟨k,hk,hno⟩=>?_
    · simp only [rsA,List.cons_append,List.nil_append]
      (refine Le.ok some [] ?_;constructor;all_goals (try simp only [vle,vkt,seval,zh,wR,qf,aTk,cTk,ql,eTk,gTk,mTk,qd,qa,qb,rsA,zb,zq,zU,wK,yN,List.length_map]))
      all_goals first|rfl|(simp;done)
    simp only at hk hno ⊢
    simp only [rsA,List.cons_append,List.nil_append]
    by_cases hkl:k < l.length
    · have d1:decide ((k:Int) < (l.length:Int))=true:=decide_eq_true (by omega)
      have e9:IntKind.wrap .i64 ((k:Int)+1)=((k+1:Nat):Int):=by rw [wrap64 (by omega) (by omega)];rfl
      have k0:((k:Int)).toNat=k:=rfl
      obtain ⟨x,hx⟩:∃ x,l.getD k default=x:=⟨_,rfl⟩
      have ex:(⟨x.party,x.sex,x.cab,x.bed,x.frm,x.to,x.dog⟩:Tk)=x:=rfl
      have hT:vV t x=(decide (x.cab=t.cab) && decide (x.bed=t.bed) && xz x t):=rfl
      cases q1:(decide (x.cab=t.cab) && decide (x.bed=t.bed)) with
      |false =>
        rw [q1,Bool.false_and] at hT
        repeat' (first|(apply nx;with_reducible constructor)|refine uq (by decide) ?_|((first|refine vx env fun Q hQ=>?_|refine vz fun Q hQ=>?_);simp only [vkt,seval,zh,wR,qf,aTk,cTk,ql,eTk,gTk,mTk,qd,qa,qb,rsA,zb,zq,zU,wK,yN,List.length_map,d1,e9,k0,hkl,hx,q1,et,ex];(try simp only [ite_and]);(repeat' (first|with_reducible assumption|refine And.intro ?_ ?_|intro hp));all_goals (first|(refine hQ _ ?_;clear hQ Q)|(refine hQ _ (fun h=>?_) (fun h=>?_) <;> clear hQ Q <;> (try simp only [vki,reduceCtorEq] at h))|(refine vq ?_;kernel_rfl)|omega|assumption|with_reducible rfl|skip)))
        refine ⟨⟨k+1,hkl,fun j hj=>?_⟩,by show l.length - (k+1) < l.length - k;omega, ?_⟩
        · rcases Nat.lt_or_eq_of_le (Nat.le_of_lt_succ hj) with h|h
          · exact hno j h
          · rw [h,hx];exact hT
        simp only [rsA,List.cons_append,List.nil_append]
        (refine Le.ok some [] ?_;constructor;all_goals (try simp only [vle,vkt,seval,zh,wR,qf,aTk,cTk,ql,eTk,gTk,mTk,qd,qa,qb,rsA,zb,zq,zU,wK,yN,List.length_map]))
        all_goals first|rfl|(simp;done)
      |true =>
        cases q2:xz x t with
        |false =>
          rw [q1,q2,Bool.true_and] at hT
          repeat' (first|(apply nx;with_reducible constructor)|refine uq (by decide) ?_|((first|refine vx env fun Q hQ=>?_|refine vz fun Q hQ=>?_);simp only [vkt,seval,zh,wR,qf,aTk,cTk,ql,eTk,gTk,mTk,qd,qa,qb,rsA,zb,zq,zU,wK,yN,List.length_map,d1,e9,k0,hkl,hx,q1,q2,et,ex];(try simp only [ite_and]);(repeat' (first|with_reducible assumption|refine And.intro ?_ ?_|intro hp));all_goals (first|(refine hQ _ ?_;clear hQ Q)|(refine hQ _ (fun h=>?_) (fun h=>?_) <;> clear hQ Q <;> (try simp only [vki,reduceCtorEq] at h))|(refine vq ?_;kernel_rfl)|omega|assumption|with_reducible rfl|skip)))
          refine ⟨⟨k+1,hkl,fun j hj=>?_⟩,by show l.length - (k+1) < l.length - k;omega, ?_⟩
          · rcases Nat.lt_or_eq_of_le (Nat.le_of_lt_succ hj) with h|h
            · exact hno j h
            · rw [h,hx];exact hT
          simp only [rsA,List.cons_append,List.nil_append]
          (refine Le.ok some [] ?_;constructor;all_goals (try simp only [vle,vkt,seval,zh,wR,qf,aTk,cTk,ql,eTk,gTk,mTk,qd,qa,qb,rsA,zb,zq,zU,wK,yN,List.length_map]))
          all_goals first|rfl|(simp;done)
        |true =>
          rw [q1,q2,Bool.true_and] at hT
          rw [if_pos (QgN hkl (by rw [hx];exact hT))]
          repeat' (first|(apply nx;with_reducible constructor)|refine uq (by decide) ?_|((first|refine vx env fun Q hQ=>?_|refine vz fun Q hQ=>?_);simp only [vkt,seval,zh,wR,qf,aTk,cTk,ql,eTk,gTk,mTk,qd,qa,qb,rsA,zb,zq,zU,wK,yN,List.length_map,d1,e9,k0,hkl,hx,q1,q2,et,ex];(try simp only [ite_and]);(repeat' (first|with_reducible assumption|refine And.intro ?_ ?_|intro hp));all_goals (first|(refine hQ _ ?_;clear hQ Q)|(refine hQ _ (fun h=>?_) (fun h=>?_) <;> clear hQ Q <;> (try simp only [vki,reduceCtorEq] at h))|(refine vq ?_;kernel_rfl)|omega|assumption|with_reducible rfl|skip)))
          (simp only [vrt,Tryz.results135,vkt,seval,zh,wR,qf,aTk,cTk,ql,eTk,gTk,mTk,qd,qa,qb,rsA,zb,zq,zU,wK,yN,List.length_map];refine Fin.val rfl ?_;(try simp only [AV.le,AV.leL]))
          all_goals first|rfl|(simp;done)
    · have d1:decide ((k:Int) < (l.length:Int))=false:=decide_eq_false (by omega)
      obtain rfl:k=l.length:=by omega
      rw [if_neg (by rw [Qi8 hno];decide)]
      repeat' (first|(apply nx;with_reducible constructor)|refine uq (by decide) ?_|((first|refine vx env fun Q hQ=>?_|refine vz fun Q hQ=>?_);simp only [vkt,seval,zh,wR,qf,aTk,cTk,ql,eTk,gTk,mTk,qd,qa,qb,rsA,zb,zq,zU,wK,yN,List.length_map,d1];(try simp only [ite_and]);(repeat' (first|with_reducible assumption|refine And.intro ?_ ?_|intro hp));all_goals (first|(refine hQ _ ?_;clear hQ Q)|(refine hQ _ (fun h=>?_) (fun h=>?_) <;> clear hQ Q <;> (try simp only [vki,reduceCtorEq] at h))|(refine vq ?_;kernel_rfl)|omega|assumption|with_reducible rfl|skip)))
      refine qO (fun k:{ k:Nat // k≤l.length∧∀ j,j < k→(!QB (l.getD j default) t)=false }=>rsA c t l [(9,aI k.1)]) (fun k=>l.length - k.1) ⟨0,Nat.zero_le _,fun j h=>absurd h (Nat.not_lt_zero _)⟩ ?_ fun ⟨k,hk,hno⟩=>?_
      · simp only [rsA,List.cons_append,List.nil_append]
        (refine Le.ok some [] ?_;constructor;all_goals (try simp only [vle,vkt,seval,zh,wR,qf,aTk,cTk,ql,eTk,gTk,mTk,qd,qa,qb,rsA,zb,zq,zU,wK,yN,List.length_map]))
        all_goals first|rfl|(simp;done)
      simp only at hk hno ⊢
      simp only [rsA,List.cons_append,List.nil_append]
      by_cases hkl:k < l.length
      · have d1:decide ((k:Int) < (l.length:Int))=true:=decide_eq_true (by omega)
        have e9:IntKind.wrap .i64 ((k:Int)+1)=((k+1:Nat):Int):=by rw [wrap64 (by omega) (by omega)];rfl
        have k0:((k:Int)).toNat=k:=rfl
        obtain ⟨x,hx⟩:∃ x,l.getD k default=x:=⟨_,rfl⟩
        have ex:(⟨x.party,x.sex,x.cab,x.bed,x.frm,x.to,x.dog⟩:Tk)=x:=rfl
        cases q2:QB x t with
        |true =>
          repeat' (first|(apply nx;with_reducible constructor)|refine uq (by decide) ?_|((first|refine vx env fun Q hQ=>?_|refine vz fun Q hQ=>?_);simp only [vkt,seval,zh,wR,qf,aTk,cTk,ql,eTk,gTk,mTk,qd,qa,qb,rsA,zb,zq,zU,wK,yN,List.length_map,d1,e9,k0,hkl,hx,q2,et,ex];(try simp only [ite_and]);(repeat' (first|with_reducible assumption|refine And.intro ?_ ?_|intro hp));all_goals (first|(refine hQ _ ?_;clear hQ Q)|(refine hQ _ (fun h=>?_) (fun h=>?_) <;> clear hQ Q <;> (try simp only [vki,reduceCtorEq] at h))|(refine vq ?_;kernel_rfl)|omega|assumption|with_reducible rfl|skip)))
          refine ⟨⟨k+1,hkl,fun j hj=>?_⟩,by show l.length - (k+1) < l.length - k;omega, ?_⟩
          · rcases Nat.lt_or_eq_of_le (Nat.le_of_lt_succ hj) with h|h
            · exact hno j h
            · rw [h,hx,q2];rfl
          simp only [rsA,List.cons_append,List.nil_append]
          (refine Le.ok some [] ?_;constructor;all_goals (try simp only [vle,vkt,seval,zh,wR,qf,aTk,cTk,ql,eTk,gTk,mTk,qd,qa,qb,rsA,zb,zq,zU,wK,yN,List.length_map]))
          all_goals first|rfl|(simp;done)
        |false =>
          rw [if_pos (QgN (p:=fun x=>!QB x t) hkl (by rw [hx,q2];rfl))]
          repeat' (first|(apply nx;with_reducible constructor)|refine uq (by decide) ?_|((first|refine vx env fun Q hQ=>?_|refine vz fun Q hQ=>?_);simp only [vkt,seval,zh,wR,qf,aTk,cTk,ql,eTk,gTk,mTk,qd,qa,qb,rsA,zb,zq,zU,wK,yN,List.length_map,d1,e9,k0,hkl,hx,q2,et,ex];(try simp only [ite_and]);(repeat' (first|with_reducible assumption|refine And.intro ?_ ?_|intro hp));all_goals (first|(refine hQ _ ?_;clear hQ Q)|(refine hQ _ (fun h=>?_) (fun h=>?_) <;> clear hQ Q <;> (try simp only [vki,reduceCtorEq] at h))|(refine vq ?_;kernel_rfl)|omega|assumption|with_reducible rfl|skip)))
          (simp only [vrt,Tryz.results135,vkt,seval,zh,wR,qf,aTk,cTk,ql,eTk,gTk,mTk,qd,qa,qb,rsA,zb,zq,zU,wK,yN,List.length_map];refine Fin.val rfl ?_;(try simp only [AV.le,AV.leL]))
          all_goals first|rfl|(simp;done)
      · have d1:decide ((k:Int) < (l.length:Int))=false:=decide_eq_false (by omega)
        obtain rfl:k=l.length:=by omega
        rw [if_neg (by rw [Qi8 (p:=fun x=>!QB x t) hno];decide)]
        repeat' (first|(apply nx;with_reducible constructor)|refine uq (by decide) ?_|((first|refine vx env fun Q hQ=>?_|refine vz fun Q hQ=>?_);simp only [vkt,seval,zh,wR,qf,aTk,cTk,ql,eTk,gTk,mTk,qd,qa,qb,rsA,zb,zq,zU,wK,yN,List.length_map,d1];(try simp only [ite_and]);(repeat' (first|with_reducible assumption|refine And.intro ?_ ?_|intro hp));all_goals (first|(refine hQ _ ?_;clear hQ Q)|(refine hQ _ (fun h=>?_) (fun h=>?_) <;> clear hQ Q <;> (try simp only [vki,reduceCtorEq] at h))|(refine vq ?_;kernel_rfl)|omega|assumption|with_reducible rfl|skip)))
        (simp only [vrt,Tryz.results135,vkt,seval,zh,wR,qf,aTk,cTk,ql,eTk,gTk,mTk,qd,qa,qb,rsA,zb,zq,zU,wK,yN,List.length_map];refine Fin.val rfl ?_;(try simp only [AV.le,AV.leL]))
        all_goals first|rfl|(simp;done)
  · rw [if_pos h5]
    have d5:decide (w=0)=false:=decide_eq_false h5
    repeat' (first|(apply nx;with_reducible constructor)|refine uq (by decide) ?_|((first|refine vx env fun Q hQ=>?_|refine vz fun Q hQ=>?_);simp only [vkt,seval,zh,wR,qf,aTk,cTk,ql,eTk,gTk,mTk,qd,qa,qb,rsA,zb,zq,zU,wK,yN,List.length_map,h1,h2,h3,hw,d5,et,ec];(try simp only [ite_and]);(repeat' (first|with_reducible assumption|refine And.intro ?_ ?_|intro hp));all_goals (first|(refine hQ _ ?_;clear hQ Q)|(refine hQ _ (fun h=>?_) (fun h=>?_) <;> clear hQ Q <;> (try simp only [vki,reduceCtorEq] at h))|(refine vq ?_;kernel_rfl)|omega|assumption|with_reducible rfl|skip)))
    (simp only [vrt,Tryz.results135,vkt,seval,zh,wR,qf,aTk,cTk,ql,eTk,gTk,mTk,qd,qa,qb,rsA,zb,zq,zU,wK,yN,List.length_map];refine Fin.val rfl ?_;(try simp only [AV.le,AV.leL]))
    all_goals first|rfl|(simp;done)
def Zf:List AV→Prop × AV
  |[.agg [.sl c0,.v (.int .i64 c1),.sl c2],.agg [.v (.int .i64 t0),.v (.int .i64 t1),.v (.int .i64 t2),.v (.int .i64 t3),.v (.int .i64 t4),.v (.int .i64 t5),.v (.bool t6)],.sl l]=>(c0=(c0.map qp).map qg∧c2=(c2.map dTk).map eTk∧l=(l.map dTk).map eTk∧CarOk ((⟨(c0.map qp),c1,(c2.map dTk)⟩:Chart))∧(l.map dTk).length≤100,aI (zD ((⟨(c0.map qp),c1,(c2.map dTk)⟩:Chart)) (⟨t0,t1,t2,t3,t4,t5,t6⟩:Tk) (l.map dTk)))
  |_=>(False,.junk)
theorem Qjk {A:Frm→Prop}:qE A Tryz.prog 135 (qU true Zf):=qW fun vs hv h=>by
  clear hv
  unfold Zf at h ⊢
  split at h
  · rename_i c0 c1 c2 t0 t1 t2 t3 t4 t5 t6 l;obtain ⟨q0,q1,q2,k0,k1⟩:=h
    refine ⟨by first|trivial|(simp [AV.plain,AV.plainL,aI,aB,qB,qc,ql,qf,aTk,cTk];done)|(repeat' split) <;> simp [AV.plain,AV.plainL,aI,aB,qB,qc,ql,qf,aTk,cTk],fun _=>(by simp [AV.flat,AV.flatL,aI,aB]), ?_⟩
    have:=QfE ((⟨(c0.map qp),c1,(c2.map dTk)⟩:Chart)) (⟨t0,t1,t2,t3,t4,t5,t6⟩:Tk) (l.map dTk) k0 k1
    simp only [aB,qR,qa,aI,aTk,ql,qb,cTk,← q0,← q1,← q2] at this
    first|exact this|(simp only [aB,qR,qa,aI,aTk,ql,qb,cTk,← q0,← q1,← q2];exact this)
  · exact h.elim
def rkS (c:Chart) (l:List Tk) (k:Nat):St:={ t:=asg [(1,ql l),(2,.ptr 0 0),(4,aI 0),(5,aI k)],h:=qj [(0,.cells (qb c))],n:=1 }
def vZ:=vj @ty3 (vj @x8 (vj @jO (vj @Zi (vj @yK (vj @ti3.eq_1 (vj @xw.eq_1 (vj @jo.eq_1 (vj @Qt.eq_1 @yn.eq_1))))))))
def ZA:=vj @aI.eq_1 (@aB.eq_1)
theorem Qhi (c:Chart) (l:List Tk) (hc:CarOk c) (hl:l.length≤100):FnV Tryz.prog 112 [qa c,ql l] (aI (jC c l)):=by
  have env:Env (fun _=>True) Tryz.prog tyB (tab [(135,qU true Zf)]):=qL ⟨Qjk,trivial⟩
  refine Fn.of (A:=fun _=>True) (n0:=0) (D:=noD) (Fn0 Tryz.func112 rfl (fun vs w=>by kernel_rfl) (by kernel_rfl)) (by simp) (by simp [AV.ids,AV.idsL,qa,qb,ql]) (fun i o h=>by cases h) (fun _ _ _ _=>trivial) qF ?_
  have ec:(⟨c.cabins,c.secs,c.sold⟩:Chart)=c:=rfl
  repeat' (first|(apply nx;with_reducible constructor)|refine uq (by decide) ?_|((first|refine vx env fun Q hQ=>?_|refine vz fun Q hQ=>?_);simp only [vkt,seval,vZ,ZA,aTk,cTk,ql,eTk,gTk,rTk,mTk,qd,qa,qb,rkS,Zf,List.length_map];(try simp only [ite_and]);(repeat' (first|with_reducible assumption|refine And.intro ?_ ?_|intro hp));all_goals (first|(refine hQ _ ?_;clear hQ Q)|(refine hQ _ (fun h=>?_) (fun h=>?_) <;> clear hQ Q <;> (try simp only [vki,reduceCtorEq] at h))|(refine vq ?_;kernel_rfl)|omega|assumption|with_reducible rfl|skip)))
  refine qO (fun k:{ k:Nat // k≤l.length∧∀ j,j < k→zD c (l.getD j default) (l.take j)=0 }=>rkS c l k.1) (fun k=>l.length - k.1) ⟨0,Nat.zero_le _,fun j h=>absurd h (Nat.not_lt_zero _)⟩ ?_ fun ⟨k,hk,hno⟩=>?_
  · (refine Le.ok some [] ?_;constructor;all_goals (try simp only [vle,vkt,seval,vZ,ZA,aTk,cTk,ql,eTk,gTk,rTk,mTk,qd,qa,qb,rkS,Zf,List.length_map]))
    all_goals first|rfl|(simp;done)
  simp only at hk hno ⊢
  simp only [rkS]
  by_cases hlt:k < l.length
  · have d1:decide ((k:Int) < (l.length:Int))=true:=decide_eq_true (by omega)
    have e9:IntKind.wrap .i64 ((k:Int)+1)=((k+1:Nat):Int):=by rw [wrap64 (by omega) (by omega)];rfl
    have k0:((k:Int)).toNat=k:=rfl
    obtain ⟨x,hx⟩:∃ x,l.getD k default=x:=⟨_,rfl⟩
    have ex:(⟨x.party,x.sex,x.cab,x.bed,x.frm,x.to,x.dog⟩:Tk)=x:=rfl
    have tk:List.take k (l.map eTk)=(l.take k).map eTk:=List.map_take.symm
    have t100:(l.take k).length≤100:=by rw [List.length_take];omega
    have hkl:k≤l.length:=hk
    have hg:=Qdz (f:=fun i=>zD c (l.getD i default) (l.take i)) hlt
    obtain ⟨e,he⟩:∃ e,zD c x (l.take k)=e:=⟨_,rfl⟩
    by_cases h2:e=0
    · rw [h2] at he
      repeat' (first|(apply nx;with_reducible constructor)|refine uq (by decide) ?_|((first|refine vx env fun Q hQ=>?_|refine vz fun Q hQ=>?_);simp only [vkt,seval,vZ,ZA,aTk,cTk,ql,eTk,gTk,rTk,mTk,qd,qa,qb,rkS,Zf,List.length_map,d1,k0,hlt,hkl,hx,ex,ec,tk,he,e9,decide_true];(try simp only [ite_and]);(repeat' (first|with_reducible assumption|refine And.intro ?_ ?_|intro hp));all_goals (first|(refine hQ _ ?_;clear hQ Q)|(refine hQ _ (fun h=>?_) (fun h=>?_) <;> clear hQ Q <;> (try simp only [vki,reduceCtorEq] at h))|(refine vq ?_;kernel_rfl)|omega|assumption|with_reducible rfl|skip)))
      refine ⟨⟨k+1,hlt,fun j hj=>?_⟩,by show l.length - (k+1) < l.length - k;omega, ?_⟩
      · rcases Nat.lt_or_eq_of_le (Nat.le_of_lt_succ hj) with h3|h3
        · exact hno j h3
        · rw [h3,hx];exact he
      · (refine Le.ok some [] ?_;constructor;all_goals (try simp only [vle,vkt,seval,vZ,ZA,aTk,cTk,ql,eTk,gTk,rTk,mTk,qd,qa,qb,rkS,Zf,List.length_map]))
        all_goals first|rfl|(simp;done)
    · have hf:jC c l=e:=by
        unfold jC
        rw [kw (k:=k) (fun j hj=>by rw [Qdz (by omega)];exact hno j hj) (by simpa using hlt) (by rw [hg,hx,he];exact h2),hg,hx,he]
      rw [hf]
      have d2:decide (e=0)=false:=decide_eq_false h2
      repeat' (first|(apply nx;with_reducible constructor)|refine uq (by decide) ?_|((first|refine vx env fun Q hQ=>?_|refine vz fun Q hQ=>?_);simp only [vkt,seval,vZ,ZA,aTk,cTk,ql,eTk,gTk,rTk,mTk,qd,qa,qb,rkS,Zf,List.length_map,d1,k0,hlt,hkl,hx,ex,ec,tk,he,d2];(try simp only [ite_and]);(repeat' (first|with_reducible assumption|refine And.intro ?_ ?_|intro hp));all_goals (first|(refine hQ _ ?_;clear hQ Q)|(refine hQ _ (fun h=>?_) (fun h=>?_) <;> clear hQ Q <;> (try simp only [vki,reduceCtorEq] at h))|(refine vq ?_;kernel_rfl)|omega|assumption|with_reducible rfl|skip)))
      (simp only [vrt,Tryz.results112,vkt,seval,vZ,ZA,aTk,cTk,ql,eTk,gTk,rTk,mTk,qd,qa,qb,rkS,Zf,List.length_map];refine Fin.val rfl ?_;(try simp only [AV.le,AV.leL]))
      all_goals first|rfl|(simp;done)
  · have d1:decide ((k:Int) < (l.length:Int))=false:=decide_eq_false (by omega)
    have hke:k=l.length:=by omega
    subst hke
    rw [show jC c l=0 from yD fun j hj=>by
      have hj':j < l.length:=by simpa using hj
      rw [Qdz hj'];exact hno j hj']
    repeat' (first|(apply nx;with_reducible constructor)|refine uq (by decide) ?_|((first|refine vx env fun Q hQ=>?_|refine vz fun Q hQ=>?_);simp only [vkt,seval,vZ,ZA,aTk,cTk,ql,eTk,gTk,rTk,mTk,qd,qa,qb,rkS,Zf,List.length_map,d1];(try simp only [ite_and]);(repeat' (first|with_reducible assumption|refine And.intro ?_ ?_|intro hp));all_goals (first|(refine hQ _ ?_;clear hQ Q)|(refine hQ _ (fun h=>?_) (fun h=>?_) <;> clear hQ Q <;> (try simp only [vki,reduceCtorEq] at h))|(refine vq ?_;kernel_rfl)|omega|assumption|with_reducible rfl|skip)))
    (simp only [vrt,Tryz.results112,vkt,seval,vZ,ZA,aTk,cTk,ql,eTk,gTk,rTk,mTk,qd,qa,qb,rkS,Zf,List.length_map];refine Fin.val rfl ?_;(try simp only [AV.le,AV.leL]))
    all_goals first|rfl|(simp;done)
def xA:List AV→Prop × AV
  |[.agg [.sl c0,.v (.int .i64 c1),.sl c2],.sl l]=>(c0=(c0.map qp).map qg∧c2=(c2.map dTk).map eTk∧l=(l.map dTk).map eTk∧CarOk ((⟨(c0.map qp),c1,(c2.map dTk)⟩:Chart))∧(l.map dTk).length≤100,aI (jC ((⟨(c0.map qp),c1,(c2.map dTk)⟩:Chart)) (l.map dTk)))
  |_=>(False,.junk)
theorem Qi4 {A:Frm→Prop}:qE A Tryz.prog 112 (qU true xA):=qW fun vs hv h=>by
  clear hv
  unfold xA at h ⊢
  split at h
  · rename_i c0 c1 c2 l;obtain ⟨q0,q1,q2,k0,k1⟩:=h
    refine ⟨by first|trivial|(simp [AV.plain,AV.plainL,aI,aB,qB,qc,ql,qf,aTk,cTk];done)|(repeat' split) <;> simp [AV.plain,AV.plainL,aI,aB,qB,qc,ql,qf,aTk,cTk],fun _=>(by simp [AV.flat,AV.flatL,aI,aB]), ?_⟩
    have:=Qhi ((⟨(c0.map qp),c1,(c2.map dTk)⟩:Chart)) (l.map dTk) k0 k1
    simp only [qR,qa,aI,ql,qb,← q0,← q1,← q2] at this
    first|exact this|(simp only [qR,qa,aI,ql,qb,← q0,← q1,← q2];exact this)
  · exact h.elim
def wD (c:Chart) (a:Ask) (l:List Bunk):Bool:=decide (l.length=a.sexes.length) && l.all (fun b=>jF c.cabins b.cab b.bed) && decide (jC c (c.sold++xE a l l.length)=0) && Q7 c.cabins l
theorem Qa6 {c:Chart} {a:Ask} {l:List Bunk} {k:Nat} (hk:k < l.length) (h:jF c.cabins (l.getD k default).cab (l.getD k default).bed=false):wD c a l=false:=by
  have:l.all (fun b=>jF c.cabins b.cab b.bed)=false:=by
    rw [List.all_eq_false]
    exact ⟨_,yL hk,by rw [h];decide⟩
  unfold wD
  rw [this];simp
def ipS (c:Chart) (a:Ask) (l:List Bunk) (k:Nat):St:={ t:=asg [(2,qc l),(3,.ptr 0 0),(4,.ptr 1 0),(6,aB false),(7,aI k)],h:=qj [(0,.cells (qb c)),(1,.cells (qh a))],n:=2 }
def wy:=vj @ty3 (vj @x8 (vj @jO (vj @QG (vj @Qy (vj @Zi (vj @Wp (vj @xf (vj @yK (vj @ti3.eq_1 (vj @xw.eq_1 (vj @jo.eq_1 (vj @kX.eq_1 (vj @kU.eq_1 (vj @Qt.eq_1 (vj @Zl.eq_1 (vj @vB.eq_1 @yn.eq_1))))))))))))))))
def xR:=vj @aI.eq_1 (vj @aB.eq_1 (@QT))
theorem QbT (c:Chart) (a:Ask) (l:List Bunk) (hc:CarOk c) (hs:c.sold.length≤20) (ha:0 < a.sexes.length∧a.sexes.length≤20) (hl:l.length≤maxLen):FnV Tryz.prog 106 [qa c,qx a,qc l] (aB (wD c a l)):=by
  have env:Env (fun _=>True) Tryz.prog tyB (tab [(133,qU true zq),(61,qU false yI),(112,qU true xA),(134,qU true ko)]):=qL ⟨QcN,QiR,Qi4,QjI,trivial⟩
  refine Fn.of (A:=fun _=>True) (n0:=0) (D:=noD) (Fn0 Tryz.func106 rfl (fun vs w=>by kernel_rfl) (by kernel_rfl)) (by simp) (by simp [AV.ids,AV.idsL,qa,qb,qx,qh,qc]) (fun i o h=>by cases h) (fun _ _ _ _=>trivial) qF ?_
  have ec:(⟨c.cabins,c.secs,c.sold⟩:Chart)=c:=rfl
  have ea:(⟨a.party,a.frm,a.to,a.sexes,a.dog⟩:Ask)=a:=rfl
  have hmx:(100000:Nat)≤maxLen:=by decide
  by_cases hn:l.length=a.sexes.length
  · have d0:decide ((l.length:Int)=(a.sexes.length:Int))=true:=decide_eq_true (by omega)
    repeat' (first|(apply nx;with_reducible constructor)|refine uq (by decide) ?_|((first|refine vx env fun Q hQ=>?_|refine vz fun Q hQ=>?_);simp only [vkt,seval,wy,xR,qf,qc,qm,qD,qJ,ql,eTk,rTk,mTk,qd,qa,qb,qx,qh,ipS,zq,yI,xA,ko,List.length_map,d0];(try simp only [ite_and]);(repeat' (first|with_reducible assumption|refine And.intro ?_ ?_|intro hp));all_goals (first|(refine hQ _ ?_;clear hQ Q)|(refine hQ _ (fun h=>?_) (fun h=>?_) <;> clear hQ Q <;> (try simp only [vki,reduceCtorEq] at h))|(refine vq ?_;kernel_rfl)|omega|assumption|with_reducible rfl|skip)))
    refine qO (fun k:{ k:Nat // k≤l.length∧∀ j,j < k→jF c.cabins (l.getD j default).cab (l.getD j default).bed=true }=>ipS c a l k.1) (fun k=>l.length - k.1) ⟨0,Nat.zero_le _,fun j h=>absurd h (Nat.not_lt_zero _)⟩ ?_ fun ⟨k,hk,hno⟩=>?_
    · (refine Le.ok some [] ?_;constructor;all_goals (try simp only [vle,vkt,seval,wy,xR,qf,qc,qm,qD,qJ,ql,eTk,rTk,mTk,qd,qa,qb,qx,qh,ipS,zq,yI,xA,ko,List.length_map]))
      all_goals first|rfl|(simp;done)
    simp only at hk hno ⊢
    simp only [ipS]
    by_cases hlt:k < l.length
    · have d1:decide ((k:Int) < (l.length:Int))=true:=decide_eq_true (by omega)
      have e9:IntKind.wrap .i64 ((k:Int)+1)=((k+1:Nat):Int):=by rw [wrap64 (by omega) (by omega)];rfl
      have k0:((k:Int)).toNat=k:=rfl
      have hP:=Qa6 (c:=c) (a:=a) hlt
      have hnk:=hno
      obtain ⟨x,hx⟩:∃ x,l.getD k default=x:=⟨_,rfl⟩
      rw [hx] at hP
      cases q:jF c.cabins x.cab x.bed with
      |true =>
        repeat' (first|(apply nx;with_reducible constructor)|refine uq (by decide) ?_|((first|refine vx env fun Q hQ=>?_|refine vz fun Q hQ=>?_);simp only [vkt,seval,wy,xR,qf,qc,qm,qD,qJ,ql,eTk,rTk,mTk,qd,qa,qb,qx,qh,ipS,zq,yI,xA,ko,List.length_map,d1,k0,hlt,hx,ec,q,e9];(try simp only [ite_and]);(repeat' (first|with_reducible assumption|refine And.intro ?_ ?_|intro hp));all_goals (first|(refine hQ _ ?_;clear hQ Q)|(refine hQ _ (fun h=>?_) (fun h=>?_) <;> clear hQ Q <;> (try simp only [vki,reduceCtorEq] at h))|(refine vq ?_;kernel_rfl)|omega|assumption|with_reducible rfl|skip)))
        refine ⟨⟨k+1,hlt,fun j hj=>?_⟩,by show l.length - (k+1) < l.length - k;omega, ?_⟩
        · rcases Nat.lt_or_eq_of_le (Nat.le_of_lt_succ hj) with h3|h3
          · exact hno j h3
          · rw [h3,hx];exact q
        · (refine Le.ok some [] ?_;constructor;all_goals (try simp only [vle,vkt,seval,wy,xR,qf,qc,qm,qD,qJ,ql,eTk,rTk,mTk,qd,qa,qb,qx,qh,ipS,zq,yI,xA,ko,List.length_map]))
          all_goals first|rfl|(simp;done)
      |false =>
        rw [hP q]
        repeat' (first|(apply nx;with_reducible constructor)|refine uq (by decide) ?_|((first|refine vx env fun Q hQ=>?_|refine vz fun Q hQ=>?_);simp only [vkt,seval,wy,xR,qf,qc,qm,qD,qJ,ql,eTk,rTk,mTk,qd,qa,qb,qx,qh,ipS,zq,yI,xA,ko,List.length_map,d1,k0,hlt,hx,ec,q];(try simp only [ite_and]);(repeat' (first|with_reducible assumption|refine And.intro ?_ ?_|intro hp));all_goals (first|(refine hQ _ ?_;clear hQ Q)|(refine hQ _ (fun h=>?_) (fun h=>?_) <;> clear hQ Q <;> (try simp only [vki,reduceCtorEq] at h))|(refine vq ?_;kernel_rfl)|omega|assumption|with_reducible rfl|skip)))
        (simp only [vrt,Tryz.results106,vkt,seval,wy,xR,qf,qc,qm,qD,qJ,ql,eTk,rTk,mTk,qd,qa,qb,qx,qh,ipS,zq,yI,xA,ko,List.length_map];refine Fin.val rfl ?_;(try simp only [AV.le,AV.leL]))
        all_goals first|rfl|(simp;done)
    · have d1:decide ((k:Int) < (l.length:Int))=false:=decide_eq_false (by omega)
      obtain rfl:k=l.length:=by omega
      have hall:l.all (fun b=>jF c.cabins b.cab b.bed)=true:=by
        rw [List.all_eq_true]
        intro b hb
        obtain ⟨j,hj,rfl⟩:=List.mem_iff_getElem.1 hb
        have:=hno j hj
        rw [show l.getD j default=l[j] by simp [List.getD_eq_getElem?_getD,hj]] at this
        exact this
      have hcl:=hc.cabs
      have hnear:NearOk c.cabins l:=⟨by omega,by omega,by omega,fun b hb=>by
        have:=List.all_eq_true.1 hall b hb
        have:=KJ this
        exact ⟨this.1,this.2.1⟩⟩
      have b1:l.length≤100:=by omega
      have b2:a.sexes.length=l.length:=hn.symm
      have hTl:=VQ a l l.length
      obtain ⟨T,hT⟩:∃ T,xE a l l.length=T:=⟨_,rfl⟩
      rw [hT] at hTl
      have b3:c.sold.length≤maxLen:=by omega
      have b4:c.sold.length+T.length≤maxLen:=by omega
      have b5:(c.sold++T).length≤100:=by rw [List.length_append];omega
      have hE:wD c a l=(decide (jC c (c.sold++T)=0) && Q7 c.cabins l):=by
        unfold wD
        rw [hall,decide_eq_true hn,hT];rfl
      rw [hE]
      have ma:List.map eTk c.sold++List.map eTk T=List.map eTk (c.sold++T):=by rw [List.map_append]
      cases q:decide (jC c (c.sold++T)=0) with
      |true =>
        repeat' (first|(apply nx;with_reducible constructor)|refine uq (by decide) ?_|((first|refine vx env fun Q hQ=>?_|refine vz fun Q hQ=>?_);simp only [vkt,seval,wy,xR,qf,qc,qm,qD,qJ,ql,eTk,rTk,mTk,qd,qa,qb,qx,qh,ipS,zq,yI,xA,ko,List.length_map,d1,ec,ea,b1,b2,hT,b3,b4,b5,ma,q,hnear];(try simp only [ite_and]);(repeat' (first|with_reducible assumption|refine And.intro ?_ ?_|intro hp));all_goals (first|(refine hQ _ ?_;clear hQ Q)|(refine hQ _ (fun h=>?_) (fun h=>?_) <;> clear hQ Q <;> (try simp only [vki,reduceCtorEq] at h))|(refine vq ?_;kernel_rfl)|omega|assumption|with_reducible rfl|skip)))
        (simp only [vrt,Tryz.results106,vkt,seval,wy,xR,qf,qc,qm,qD,qJ,ql,eTk,rTk,mTk,qd,qa,qb,qx,qh,ipS,zq,yI,xA,ko,List.length_map];refine Fin.val rfl ?_;(try simp only [AV.le,AV.leL]))
        all_goals first|rfl|(simp;done)
      |false =>
        repeat' (first|(apply nx;with_reducible constructor)|refine uq (by decide) ?_|((first|refine vx env fun Q hQ=>?_|refine vz fun Q hQ=>?_);simp only [vkt,seval,wy,xR,qf,qc,qm,qD,qJ,ql,eTk,rTk,mTk,qd,qa,qb,qx,qh,ipS,zq,yI,xA,ko,List.length_map,d1,ec,ea,b1,b2,hT,b3,b4,b5,ma,q,hnear];(try simp only [ite_and]);(repeat' (first|with_reducible assumption|refine And.intro ?_ ?_|intro hp));all_goals (first|(refine hQ _ ?_;clear hQ Q)|(refine hQ _ (fun h=>?_) (fun h=>?_) <;> clear hQ Q <;> (try simp only [vki,reduceCtorEq] at h))|(refine vq ?_;kernel_rfl)|omega|assumption|with_reducible rfl|skip)))
        (simp only [vrt,Tryz.results106,vkt,seval,wy,xR,qf,qc,qm,qD,qJ,ql,eTk,rTk,mTk,qd,qa,qb,qx,qh,ipS,zq,yI,xA,ko,List.length_map];refine Fin.val rfl ?_;(try simp only [AV.le,AV.leL]))
        all_goals first|rfl|(simp;done)
  · have d0:decide ((l.length:Int)=(a.sexes.length:Int))=false:=decide_eq_false (by omega)
    have hE:wD c a l=false:=by unfold wD;rw [decide_eq_false hn];rfl
    rw [hE]
    repeat' (first|(apply nx;with_reducible constructor)|refine uq (by decide) ?_|((first|refine vx env fun Q hQ=>?_|refine vz fun Q hQ=>?_);simp only [vkt,seval,wy,xR,qf,qc,qm,qD,qJ,ql,eTk,rTk,mTk,qd,qa,qb,qx,qh,ipS,zq,yI,xA,ko,List.length_map,d0];(try simp only [ite_and]);(repeat' (first|with_reducible assumption|refine And.intro ?_ ?_|intro hp));all_goals (first|(refine hQ _ ?_;clear hQ Q)|(refine hQ _ (fun h=>?_) (fun h=>?_) <;> clear hQ Q <;> (try simp only [vki,reduceCtorEq] at h))|(refine vq ?_;kernel_rfl)|omega|assumption|with_reducible rfl|skip)))
    (simp only [vrt,Tryz.results106,vkt,seval,wy,xR,qf,qc,qm,qD,qJ,ql,eTk,rTk,mTk,qd,qa,qb,qx,qh,ipS,zq,yI,xA,ko,List.length_map];refine Fin.val rfl ?_;(try simp only [AV.le,AV.leL]))
    all_goals first|rfl|(simp;done)
def vW:List AV→Prop × AV
  |[.agg [.sl c0,.v (.int .i64 c1),.sl c2],.agg [.v (.int .i64 a0),.v (.int .i64 a1),.v (.int .i64 a2),.sl a3,.v (.bool a4)],.sl l]=>(c0=(c0.map qp).map qg∧c2=(c2.map dTk).map eTk∧a3=(a3.map za).map zJ∧l=(l.map zB).map qm∧CarOk ((⟨(c0.map qp),c1,(c2.map dTk)⟩:Chart))∧((⟨(c0.map qp),c1,(c2.map dTk)⟩:Chart)).sold.length≤20∧0 < ((⟨a0,a1,a2,(a3.map za),a4⟩:Ask)).sexes.length∧((⟨a0,a1,a2,(a3.map za),a4⟩:Ask)).sexes.length≤20∧(l.map zB).length≤maxLen,aB (wD ((⟨(c0.map qp),c1,(c2.map dTk)⟩:Chart)) ((⟨a0,a1,a2,(a3.map za),a4⟩:Ask)) (l.map zB)))
  |_=>(False,.junk)
theorem Qhb {A:Frm→Prop}:qE A Tryz.prog 106 (qU true vW):=qW fun vs hv h=>by
  clear hv
  unfold vW at h ⊢
  split at h
  · rename_i c0 c1 c2 a0 a1 a2 a3 a4 l;obtain ⟨q0,q1,q2,q3,k0,k1,k2,k3,k4⟩:=h
    refine ⟨by first|trivial|(simp [AV.plain,AV.plainL,aI,aB,qB,qc,ql,qf,aTk,cTk];done)|(repeat' split) <;> simp [AV.plain,AV.plainL,aI,aB,qB,qc,ql,qf,aTk,cTk],fun _=>(by simp [AV.flat,AV.flatL,aI,aB]), ?_⟩
    have:=QbT ((⟨(c0.map qp),c1,(c2.map dTk)⟩:Chart)) ((⟨a0,a1,a2,(a3.map za),a4⟩:Ask)) (l.map zB) k0 k1 ⟨k2,k3⟩ k4
    simp only [qx,aB,qc,qR,qa,aI,qB,ql,qh,qb,← q0,← q1,← q2,← q3] at this
    first|exact this|(simp only [qx,aB,qc,qR,qa,aI,qB,ql,qh,qb,← q0,← q1,← q2,← q3];exact this)
  · exact h.elim
end Go.Sym.B
namespace Go.Sym.B
open Go Go.Sym Go.Proofs Go.Sym.C
def stB (a b:Tk) (s:Int):Bool:=decide (a.cab=b.cab) && !decide (s < a.frm) && !decide (a.to≤s) && !decide (s < b.frm) && !decide (b.to≤s) && (decide (a.bed=b.bed) || (!decide (a.party=b.party) && (!decide (a.sex=b.sex) || a.dog || b.dog)))
def prB (c:Chart) (a b:Tk):Bool:=(List.range c.secs.toNat).any fun (s:Nat)=>stB a b s
def rwB (c:Chart) (i:Nat):Bool:=(List.range i).any fun k=>prB c (c.sold.getD i default) (c.sold.getD k default)
def strB (c:Chart):Bool:=(List.range c.sold.length).any (rwB c)
def Wm (c:Chart) (a:Ask) (l:List Bunk):Bool:=Q7 c.cabins l && !strB ⟨c.cabins,c.secs,c.sold++xE a l l.length⟩
end Go.Sym.B
namespace Go.Sym.B
open Go Go.Sym Go.Proofs Go.Sym.C
def Yw (cs:List Cabin) (a:Ask):List Tk→List Bunk→List Bunk→Bool
  |_,_,[]=>true
  |sold,begun,b :: r=>goB cs a sold begun b && Yw cs a (sold++[kW a begun.length b]) (begun++[b]) r
theorem Qag (cs:List Cabin) (a:Ask):∀ (m:Nat) (sold:List Tk) (begun:List Bunk),(wz cs a m sold begun).map (·.1)=((alL (qY cs) m).filter (Yw cs a sold begun)).map (begun++·)
  |0,sold,begun=>by
    show [begun]=(([[]]:List (List Bunk)).filter (Yw cs a sold begun)).map (begun++·)
    rw [List.filter_cons_of_pos (by rfl)]
    simp
  |m+1,sold,begun=>by
    rw [xV,alL,List.map_flatMap,List.filter_flatMap,List.map_flatMap]
    refine congrArg (List.flatMap · (qY cs)) (funext fun b=>?_)
    unfold gbL
    cases h:goB cs a sold begun b with
    |true =>
      rw [if_pos rfl,Qag cs a m,List.filter_map,List.map_map]
      have e1:(Yw cs a sold begun ∘ fun x=>b :: x)=Yw cs a (sold++[kW a begun.length b]) (begun++[b]):=funext fun r=>by
        show Yw cs a sold begun (b :: r)=_
        rw [Yw,h,Bool.true_and]
      rw [e1]
      refine congrArg (List.map · _) (funext fun r=>?_)
      show (begun++[b])++r=begun++b :: r
      simp
    |false =>
      rw [if_neg (by decide),List.filter_map]
      have e1:(Yw cs a sold begun ∘ fun x=>b :: x)=fun _=>false:=funext fun r=>by
        show Yw cs a sold begun (b :: r)=_
        rw [Yw,h,Bool.false_and]
      rw [e1]
      simp
def PWr:List Tk→List Tk→Prop
  |_,[]=>True
  |s,t :: ts=>zX t s=0∧PWr (s++[t]) ts
theorem Qcl:∀ (s l r:List Tk),PWr s (l++r) ↔ PWr s l∧PWr (s++l) r
  |s,[],r=>by simp [PWr]
  |s,t :: l,r=>by
    show zX t s=0∧PWr (s++[t]) (l++r) ↔ (zX t s=0∧PWr (s++[t]) l)∧PWr (s++t :: l) r
    rw [Qcl (s++[t]) l r,and_assoc]
    simp
theorem Yy:∀ (s l:List Tk),PWr s l ↔ ∀ i,i < l.length→zX (l.getD i default) (s++l.take i)=0
  |s,[]=>by simp [PWr]
  |s,t :: l=>by
    show zX t s=0∧PWr (s++[t]) l ↔ _
    rw [Yy (s++[t]) l]
    constructor
    · rintro ⟨h1,h2⟩ i hi
      cases i with
      |zero=>simpa using h1
      |succ i =>
        have:=h2 i (by simpa using hi)
        simpa using this
    · intro h
      refine ⟨by simpa using h 0 (by simp),fun i hi=>?_⟩
      have:=h (i+1) (by simpa using hi)
      simpa using this
def tkR (a:Ask):Nat→List Bunk→List Tk
  |_,[]=>[]
  |n,b :: r=>kW a n b :: tkR a (n+1) r
theorem Qdd (a:Ask):∀ (n:Nat) (l r:List Bunk),tkR a n (l++r)=tkR a n l++tkR a (n+l.length) r
  |n,[],r=>by simp [tkR]
  |n,b :: l,r=>by
    show kW a n b :: tkR a (n+1) (l++r)=_
    rw [Qdd a (n+1) l r]
    simp [tkR,Nat.add_assoc,Nat.add_comm 1]
theorem Xk (a:Ask) (l:List Bunk):∀ k,k≤l.length→xE a l k=tkR a 0 (l.take k)
  |0,_=>by simp [xE,tkR]
  |k+1,h=>by
    rw [QaH,Xk a l k (by omega),List.take_succ_eq_append_getElem h,Qdd,List.length_take]
    have hk:k < l.length:=h
    simp [tkR,List.getD_eq_getElem?_getD,hk,Nat.min_eq_left (show k≤l.length by omega)]
theorem VI {a:Ask} {t:Tk}:∀ {n:Nat} {l:List Bunk},t ∈ tkR a n l→∃ i b,i < l.length∧b ∈ l∧t=kW a (n+i) b
  |n,[],h=>by simp [tkR] at h
  |n,b :: l,h=>by
    rcases List.mem_cons.1 h with rfl|h
    · exact ⟨0,b,by simp,by simp,rfl⟩
    · obtain ⟨i,b',h1,h2,h3⟩:=VI h
      exact ⟨i+1,b',by simpa using h1,List.mem_cons_of_mem _ h2,by rw [h3,show n+1+i=n+(i+1) by omega]⟩
theorem Qc0 (l:List Bunk):∀ m:Int,l.foldl (fun m b=>min m b.cab) m≤m:=by
  induction l with
  |nil=>intro m;exact Int.le_refl _
  |cons b l ih=>intro m;have:=ih (min m b.cab);rw [List.foldl_cons];omega
theorem QcF (l:List Bunk):∀ m:Int,m≤l.foldl (fun m b=>max m b.cab) m:=by
  induction l with
  |nil=>intro m;exact Int.le_refl _
  |cons b l ih=>intro m;have:=ih (max m b.cab);rw [List.foldl_cons];omega
theorem Qgs {cs:List Cabin} {l r:List Bunk} (h:Q7 cs (l++r)=true) (hl:l ≠ []):Q7 cs l=true:=by
  have h0:(l++r).getD 0 default=l.getD 0 default:=by
    cases l with
    |nil=>exact absurd rfl hl
    |cons b l=>rfl
  unfold Q7 at h ⊢
  simp only [h0,List.foldl_append] at h ⊢
  have g1:=Qc0 r (l.foldl (fun m b=>min m b.cab) (l.getD 0 default).cab)
  have g2:=QcF r (l.foldl (fun m b=>max m b.cab) (l.getD 0 default).cab)
  have g3:=Qc0 l (l.getD 0 default).cab
  have g4:=QcF l (l.getD 0 default).cab
  generalize l.foldl (fun m b=>min m b.cab) (l.getD 0 default).cab=lo at *
  generalize l.foldl (fun m b=>max m b.cab) (l.getD 0 default).cab=hi at *
  generalize r.foldl (fun m b=>min m b.cab) lo=lo2 at *
  generalize r.foldl (fun m b=>max m b.cab) hi=hi2 at *
  rw [Bool.or_eq_true,Bool.and_eq_true,decide_eq_true_eq,decide_eq_true_eq] at h ⊢
  rcases h with h|⟨h,hd⟩
  · exact .inl (by omega)
  · by_cases he:lo=hi
    · exact .inl he
    · have:lo=lo2:=by omega
      exact .inr ⟨by omega,by rw [this];exact hd⟩
theorem Qcm {cs:List Cabin} {a:Ask} (hw:a.frm < a.to):∀ (r:List Bunk) (sold:List Tk) (begun:List Bunk),(∀ b ∈ begun,∃ x ∈ sold,x.cab=b.cab∧x.bed=b.bed∧x.frm=a.frm∧x.to=a.to) →
    (Yw cs a sold begun r=true ↔ PWr sold (tkR a begun.length r)∧(r ≠ []→Q7 cs (begun++r)=true))
  |[],sold,begun,_=>by simp [Yw,tkR,PWr]
  |b :: r,sold,begun,hb=>by
    have hb':∀ b' ∈ begun++[b],∃ x ∈ sold++[kW a begun.length b],x.cab=b'.cab∧x.bed=b'.bed∧x.frm=a.frm∧x.to=a.to:=fun b' h=>by
      rcases List.mem_append.1 h with h|h
      · obtain ⟨x,h1,h2⟩:=hb b' h
        exact ⟨x,List.mem_append.2 (.inl h1),h2⟩
      · rw [List.mem_singleton.1 h]
        exact ⟨_,List.mem_append.2 (.inr (List.mem_singleton.2 rfl)),rfl,rfl,rfl,rfl⟩
    have ih:=Qcm (cs:=cs) hw r (sold++[kW a begun.length b]) (begun++[b]) hb'
    rw [Yw,Bool.and_eq_true,ih]
    have el:(begun++[b]).length=begun.length+1:=by simp
    rw [el]
    show _ ↔ (zX (kW a begun.length b) sold=0∧PWr (sold++[kW a begun.length b]) (tkR a (begun.length+1) r))∧_
    have ea:begun++[b]++r=begun++b :: r:=by simp
    rw [ea]
    unfold goB
    rw [Bool.and_eq_true,Bool.and_eq_true,decide_eq_true_eq]
    constructor
    · rintro ⟨⟨⟨_,h2⟩,h3⟩,h4,h5⟩
      refine ⟨⟨h3,h4⟩,fun _=>?_⟩
      cases r with
      |nil=>exact h2
      |cons b2 r=>exact h5 (by simp)
    · rintro ⟨⟨h3,h4⟩,h5⟩
      have h5:=h5 (by simp)
      refine ⟨⟨⟨?_, ?_⟩,h3⟩,h4,fun _=>h5⟩
      · cases hc:begun.contains b with
        |false=>rfl
        |true =>
          obtain ⟨x,hx,g1,g2,g3,g4⟩:=hb b (by simpa using hc)
          have:=(Jg.1 h3 x hx).1
          unfold vV xz kW at this
          simp [g1,g2,g3,g4,hw] at this
      · refine Qgs (r:=r) ?_ (by simp)
        rw [ea];exact h5
theorem QiN {secs:Int} {t x:Tk} (ht:0≤t.frm∧t.frm < t.to∧t.to≤secs) (hx:0≤x.frm∧x.frm < x.to∧x.to≤secs):(∀ s:Nat,s < secs.toNat→stB t x s=false) ↔ vV t x=false∧QB x t=true:=by
  constructor
  · intro h
    cases hm:xz x t with
    |false =>
      unfold vV QB
      rw [hm];simp
    |true =>
      have hm2:=hm
      unfold xz at hm2
      rw [Bool.and_eq_true,decide_eq_true_eq,decide_eq_true_eq] at hm2
      obtain ⟨s,hs⟩:∃ s:Nat,(s:Int)=max t.frm x.frm:=⟨(max t.frm x.frm).toNat,by omega⟩
      have:=h s (by omega)
      unfold stB at this
      rw [decide_eq_false (show ¬ (s:Int) < t.frm by omega),decide_eq_false (show ¬ t.to≤(s:Int) by omega),decide_eq_false (show ¬ (s:Int) < x.frm by omega),decide_eq_false (show ¬ x.to≤(s:Int) by omega)] at this
      have e1:decide (x.cab=t.cab)=decide (t.cab=x.cab):=by rw [decide_eq_decide];exact eq_comm
      have e2:decide (x.bed=t.bed)=decide (t.bed=x.bed):=by rw [decide_eq_decide];exact eq_comm
      have e3:decide (x.party=t.party)=decide (t.party=x.party):=by rw [decide_eq_decide];exact eq_comm
      have e4:decide (x.sex=t.sex)=decide (t.sex=x.sex):=by rw [decide_eq_decide];exact eq_comm
      have e5:decide (x.cab ≠ t.cab)=!decide (t.cab=x.cab):=by rw [decide_not,e1]
      unfold vV QB
      rw [hm,e5,e1,e2,e3,e4]
      revert this
      generalize decide (t.cab=x.cab)=A
      generalize decide (t.bed=x.bed)=B
      generalize decide (t.party=x.party)=C
      generalize decide (t.sex=x.sex)=D
      generalize x.dog=E
      generalize t.dog=F
      revert A B C D E F
      decide
  · rintro ⟨h1,h2⟩ s _
    have e1:decide (x.cab=t.cab)=decide (t.cab=x.cab):=by rw [decide_eq_decide];exact eq_comm
    have e2:decide (x.bed=t.bed)=decide (t.bed=x.bed):=by rw [decide_eq_decide];exact eq_comm
    have e3:decide (x.party=t.party)=decide (t.party=x.party):=by rw [decide_eq_decide];exact eq_comm
    have e4:decide (x.sex=t.sex)=decide (t.sex=x.sex):=by rw [decide_eq_decide];exact eq_comm
    have e5:decide (x.cab ≠ t.cab)=!decide (t.cab=x.cab):=by rw [decide_not,e1]
    cases hm:xz x t with
    |false =>
      unfold stB
      by_cases g1:(s:Int) < t.frm
      · simp [g1]
      by_cases g2:t.to≤(s:Int)
      · simp [g2]
      by_cases g3:(s:Int) < x.frm
      · simp [g3]
      by_cases g4:x.to≤(s:Int)
      · simp [g4]
      exfalso
      unfold xz at hm
      rw [decide_eq_true (show x.frm < t.to by omega),decide_eq_true (show t.frm < x.to by omega)] at hm
      exact absurd hm (by decide)
    |true =>
      unfold vV at h1
      unfold QB at h2
      rw [hm,e1,e2] at h1
      rw [hm,e5,e3,e4] at h2
      unfold stB
      generalize decide ((s:Int) < t.frm)=G
      generalize decide (t.to≤(s:Int))=H
      generalize decide ((s:Int) < x.frm)=I
      generalize decide (x.to≤(s:Int))=J
      revert h1 h2
      generalize decide (t.cab=x.cab)=A
      generalize decide (t.bed=x.bed)=B
      generalize decide (t.party=x.party)=C
      generalize decide (t.sex=x.sex)=D
      generalize x.dog=E
      generalize t.dog=F
      revert A B C D E F G H I J
      decide
theorem RP {cs:List Cabin} {secs:Int} {l:List Tk} (h:∀ t ∈ l,0≤t.frm∧t.frm < t.to∧t.to≤secs):strB ⟨cs,secs,l⟩=false ↔ PWr [] l:=by
  rw [Yy]
  unfold strB
  rw [List.any_eq_false]
  have hg:∀ {i:Nat},i < l.length→l.getD i default ∈ l:=fun hi=>yL hi
  constructor
  · intro hs i hi
    rw [List.nil_append,Jg]
    intro x hx
    obtain ⟨k,hk,rfl⟩:=List.mem_iff_getElem.1 hx
    rw [List.length_take] at hk
    have h1:=hs i (List.mem_range.2 hi)
    unfold rwB at h1
    rw [Bool.not_eq_true,List.any_eq_false] at h1
    have h2:=h1 k (List.mem_range.2 (by omega))
    have ek:l.getD k default=(l.take i)[k]'(by rw [List.length_take];omega):=by simp [List.getD_eq_getElem?_getD,show k < l.length by omega]
    unfold prB at h2
    rw [Bool.not_eq_true,List.any_eq_false] at h2
    simp only at h2
    rw [← ek]
    refine (QiN (h _ (hg hi)) (h _ (hg (show k < l.length by omega)))).1 fun s hs=>?_
    have:=h2 s (List.mem_range.2 hs)
    simpa using this
  · intro hp i hi
    have hi:=List.mem_range.1 hi
    unfold rwB
    rw [Bool.not_eq_true,List.any_eq_false]
    intro k hk
    have hk:=List.mem_range.1 hk
    unfold prB
    rw [Bool.not_eq_true,List.any_eq_false]
    intro s hs
    have hi':i < l.length:=hi
    have h1:=hp i hi'
    rw [List.nil_append,Jg] at h1
    have hkl:k < l.length:=by omega
    have h2:=h1 (l.getD k default) (by
      rw [List.mem_iff_getElem]
      exact ⟨k,by rw [List.length_take];omega,by simp [List.getD_eq_getElem?_getD,hkl]⟩)
    have:=(QiN (h _ (hg hi')) (h _ (hg hkl))).2 h2 s (List.mem_range.1 hs)
    simpa using this
theorem Qf0 {c:Chart} (hv:Val c):∀ t ∈ c.sold,0≤t.frm∧t.frm < t.to∧t.to≤c.secs:=fun t ht=>by
  have:=hv.tk t ht
  exact ⟨this.frm,this.way,this.to⟩
theorem Qh1 {c:Chart} (h:wH c=0):PWr [] c.sold:=by
  rw [Yy]
  intro i hi
  unfold wH at h
  split at h
  · exact absurd h ‹_›
  rw [List.nil_append]
  exact (JU h i hi).2
theorem UM {bs:List Bunk}:∀ {m:Nat} {l:List Bunk},l ∈ alL bs m→∀ b ∈ l,b ∈ bs
  |0,l,hl,b,hb=>by rw [List.mem_singleton.1 hl] at hb;simp at hb
  |m+1,l,hl,b,hb=>by
    obtain ⟨b0,h0,hl⟩:=List.mem_flatMap.1 hl
    obtain ⟨q,hq,rfl⟩:=List.mem_map.1 hl
    rcases List.mem_cons.1 hb with rfl|hb
    · exact h0
    · exact UM hq b hb
theorem Qe9 {c:Chart} {a:Ask} (h:zu c a=0) {l:List Bunk} (hl:l ∈ alL (qY c.cabins) a.sexes.length) (hne:l ≠ []):Yw c.cabins a c.sold [] l=Wm c a l:=by
  have hc:=(yz h).1
  have hv:=Qg hc
  have hw:=VG h
  have hll:=QO l hl
  have hT:xE a l l.length=tkR a 0 l:=by rw [Xk a l l.length (Nat.le_refl _),List.take_length]
  have hways:∀ t ∈ c.sold++xE a l l.length,0≤t.frm∧t.frm < t.to∧t.to≤c.secs:=fun t ht=>by
    rcases List.mem_append.1 ht with ht|ht
    · exact Qf0 hv t ht
    · rw [hT] at ht
      obtain ⟨i,b,_,_,rfl⟩:=VI ht
      exact hw
  rw [Bool.eq_iff_iff,Qcm hw.2.1 l c.sold [] (fun b hb=>by simp at hb)]
  unfold Wm
  rw [Bool.and_eq_true]
  have e1:(!strB ⟨c.cabins,c.secs,c.sold++xE a l l.length⟩)=true ↔ PWr [] (c.sold++xE a l l.length):=by
    rw [← RP (cs:=c.cabins) hways]
    simp
  rw [e1,Qcl,hT]
  simp only [List.nil_append]
  constructor
  · rintro ⟨h1,h2⟩
    exact ⟨h2 hne,Qh1 hc,h1⟩
  · rintro ⟨h1,_,h3⟩
    exact ⟨h3,fun _=>h1⟩
theorem Zp {c:Chart} {a:Ask} (h:zu c a=0) (hs:1≤a.sexes.length):zg c a=(alL (qY c.cabins) a.sexes.length).filter (Wm c a):=by
  have e1:zg c a=(plP c a).map (·.1):=by unfold zg;rw [if_pos h]
  rw [e1]
  unfold plP
  rw [Qag]
  simp only [List.nil_append,List.map_id']
  refine List.filter_congr fun l hl=>Qe9 h hl ?_
  rintro rfl
  have:=QO _ hl
  simp at this
  omega
theorem QbI {c:Chart} {a:Ask} (h:zu c a=0) (hs:1≤a.sexes.length) {l:List Bunk} (hl:l ∈ zg c a):wD c a l=true:=by
  rw [Zp h hs] at hl
  obtain ⟨h1,h2⟩:=List.mem_filter.1 hl
  have hll:=QO l h1
  have hc:=(yz h).1
  have hv:=Qg hc
  have hw:=VG h
  have hT:xE a l l.length=tkR a 0 l:=by rw [Xk a l l.length (Nat.le_refl _),List.take_length]
  have hway:∀ t ∈ c.sold++xE a l l.length,TkOk c t:=fun t ht=>by
    rcases List.mem_append.1 ht with ht|ht
    · exact hv.tk t ht
    · rw [hT] at ht
      obtain ⟨i,b,hi,hb,rfl⟩:=VI ht
      exact QbH h (by omega) (UM h1 b hb)
  unfold Wm at h2
  rw [Bool.and_eq_true] at h2
  have hp:PWr [] (c.sold++xE a l l.length):=(RP (cs:=c.cabins) (secs:=c.secs) (fun t ht=>⟨(hway t ht).frm,(hway t ht).way,(hway t ht).to⟩)).1 (by simpa using h2.2)
  rw [Yy] at hp
  unfold wD
  rw [h2.1,decide_eq_true hll,Bool.and_true,Bool.true_and,Bool.and_eq_true,List.all_eq_true,decide_eq_true_eq]
  refine ⟨fun b hb=>?_, ?_⟩
  · obtain ⟨i,k,g1,g2,rfl⟩:=XN.1 (UM h1 b hb)
    unfold jF
    rw [Bool.and_eq_true,jc,jc]
    refine ⟨⟨by simp only;omega,by simp only;omega⟩,by simp only;omega, ?_⟩
    simp only [Int.toNat_natCast]
    omega
  · unfold jC
    refine yD fun j hj=>?_
    rw [List.length_map,List.length_range] at hj
    rw [List.getD_eq_getElem?_getD,List.getElem?_map,List.getElem?_range hj]
    have hk:=hway _ (yL (d:=default) hj)
    exact Vy (cs:=c.cabins) (secs:=c.secs) hk.party hk.sex hk.cab hk.bed ⟨hk.frm,hk.way,hk.to⟩ (by have:=hp j hj;rwa [List.nil_append] at this)
end Go.Sym.B
namespace Go.Sym.B
open Go Go.Sym Go.Proofs Go.Sym.C
end Go.Sym.B
namespace Go.Sym.B
open Go Go.Sym Go.Proofs Go.Sym.C
theorem Qef {l m:List Int} (h0:l.length=m.length) (h:∀ j,j < l.length→l.getD j 0=m.getD j 0):l=m:=WN h0 h
theorem Qh6 {a b c d e f:Int} {g:Bool} {a' b' c' d' e' f':Int} {g':Bool}:decide ((⟨a,b,c,d,e,f,g⟩:Tk)=⟨a',b',c',d',e',f',g'⟩)=(decide (a=a') && (decide (b=b') && (decide (c=c') && (decide (d=d') && (decide (e=e') && (decide (f=f') && (g == g'))))))):=by
  rw [Bool.eq_iff_iff];simp
theorem Qhh {a:Int} {g:Bool} {a':Int} {g':Bool}:decide ((⟨a,g⟩:Cabin)=⟨a',g'⟩)=(decide (a=a') && (g == g')):=by
  rw [Bool.eq_iff_iff];simp
def VC (l m:List Int) (k:Nat):St:={ t:=asg [(0,qB l),(1,qB m),(4,aB false),(5,aI k)],h:=qj [],n:=0 }
def vK:=vj @ty3 (vj @QG (vj @ti3.eq_1 @kX.eq_1))
def Qs:=vj @aI.eq_1 (vj @aB.eq_1 (vj @qB.eq_1 (vj @zJ.eq_1 (@Ud))))
theorem Qjp (l m:List Int) (hl:l.length≤maxLen) (hm:m.length≤maxLen):FnV Tryz.prog 41 [qB l,qB m] (aB (decide (l=m))):=by
  have env:Env (fun _=>True) Tryz.prog tyB (tab []):=qL trivial
  refine Fn.of (A:=fun _=>True) (n0:=0) (D:=noD) (Fn0 Tryz.func41 rfl (fun vs w=>by kernel_rfl) (by kernel_rfl)) (by simp) (by simp [AV.ids,qB]) (fun i o h=>by cases h) (fun _ _ _ _=>trivial) qF ?_
  have hmx:maxLen=9223372036854775807:=by decide
  by_cases h0:l.length=m.length
  · have d0:decide ((l.length:Int)=(m.length:Int))=true:=decide_eq_true (by omega)
    repeat' (first|(apply nx;with_reducible constructor)|refine uq (by decide) ?_|((first|refine vx env fun Q hQ=>?_|refine vz fun Q hQ=>?_);simp only [vkt,seval,vK,Qs,VC,Bool.true_and,Bool.false_and,d0];(try simp only [ite_and]);(repeat' (first|with_reducible assumption|refine And.intro ?_ ?_|intro hp));all_goals (first|(refine hQ _ ?_;clear hQ Q)|(refine hQ _ (fun h=>?_) (fun h=>?_) <;> clear hQ Q <;> (try simp only [vki,reduceCtorEq] at h))|(refine vq ?_;kernel_rfl)|omega|assumption|with_reducible rfl|skip)))
    refine qO (fun k:{ k:Nat // k≤l.length∧∀ j,j < k→l.getD j 0=m.getD j 0 }=>VC l m k.1) (fun k=>l.length - k.1) ⟨0,Nat.zero_le _,fun j h=>absurd h (Nat.not_lt_zero _)⟩ ?_ fun ⟨k,hk,hno⟩=>?_
    · (refine Le.ok some [] ?_;constructor;all_goals (try simp only [vle,vkt,seval,vK,Qs,VC,Bool.true_and,Bool.false_and]))
      all_goals first|rfl|(simp;done)
    simp only at hk hno ⊢
    simp only [VC]
    by_cases hlt:k < l.length
    · have d1:decide ((k:Int) < (l.length:Int))=true:=decide_eq_true (by omega)
      have hlm:k < m.length:=by omega
      have k0:((k:Int)).toNat=k:=rfl
      have e9:IntKind.wrap .i64 ((k:Int)+1)=((k+1:Nat):Int):=by rw [wrap64 (by omega) (by omega)];rfl
      obtain ⟨x,hx⟩:∃ x,l.getD k 0=x:=⟨_,rfl⟩
      obtain ⟨y,hy⟩:∃ x,m.getD k 0=x:=⟨_,rfl⟩
      have hxy:(decide (x=y))=decide (x=y):=by rfl
      have hne:¬ x=y→decide (l=m)=false:=fun h=>decide_eq_false fun e=>h (by rw [← hx,← hy,e])
      cases q:decide (x=y) with
      |false =>
        rw [hne (of_decide_eq_false q)]
        repeat' (first|(apply nx;with_reducible constructor)|refine uq (by decide) ?_|((first|refine vx env fun Q hQ=>?_|refine vz fun Q hQ=>?_);simp only [vkt,seval,vK,Qs,VC,Bool.true_and,Bool.false_and,d1,k0,hlt,hlm,hx,hy,hxy,q];(try simp only [ite_and]);(repeat' (first|with_reducible assumption|refine And.intro ?_ ?_|intro hp));all_goals (first|(refine hQ _ ?_;clear hQ Q)|(refine hQ _ (fun h=>?_) (fun h=>?_) <;> clear hQ Q <;> (try simp only [vki,reduceCtorEq] at h))|(refine vq ?_;kernel_rfl)|omega|assumption|with_reducible rfl|skip)))
        (simp only [vrt,Tryz.results41,vkt,seval,vK,Qs,VC,Bool.true_and,Bool.false_and];refine Fin.val rfl ?_;(try simp only [AV.le,AV.leL]))
        all_goals first|rfl|(simp;done)
      |true =>
        repeat' (first|(apply nx;with_reducible constructor)|refine uq (by decide) ?_|((first|refine vx env fun Q hQ=>?_|refine vz fun Q hQ=>?_);simp only [vkt,seval,vK,Qs,VC,Bool.true_and,Bool.false_and,d1,k0,hlt,hlm,hx,hy,hxy,q,e9];(try simp only [ite_and]);(repeat' (first|with_reducible assumption|refine And.intro ?_ ?_|intro hp));all_goals (first|(refine hQ _ ?_;clear hQ Q)|(refine hQ _ (fun h=>?_) (fun h=>?_) <;> clear hQ Q <;> (try simp only [vki,reduceCtorEq] at h))|(refine vq ?_;kernel_rfl)|omega|assumption|with_reducible rfl|skip)))
        refine ⟨⟨k+1,hlt,fun j hj=>?_⟩,by show l.length - (k+1) < l.length - k;omega, ?_⟩
        · rcases Nat.lt_or_eq_of_le (Nat.le_of_lt_succ hj) with h1|h1
          · exact hno j h1
          · rw [h1,hx,hy];exact of_decide_eq_true q
        · (refine Le.ok some [] ?_;constructor;all_goals (try simp only [vle,vkt,seval,vK,Qs,VC,Bool.true_and,Bool.false_and]))
          all_goals first|rfl|(simp;done)
    · have d1:decide ((k:Int) < (l.length:Int))=false:=decide_eq_false (by omega)
      obtain rfl:k=l.length:=by omega
      rw [decide_eq_true (Qef h0 hno)]
      repeat' (first|(apply nx;with_reducible constructor)|refine uq (by decide) ?_|((first|refine vx env fun Q hQ=>?_|refine vz fun Q hQ=>?_);simp only [vkt,seval,vK,Qs,VC,Bool.true_and,Bool.false_and,d1];(try simp only [ite_and]);(repeat' (first|with_reducible assumption|refine And.intro ?_ ?_|intro hp));all_goals (first|(refine hQ _ ?_;clear hQ Q)|(refine hQ _ (fun h=>?_) (fun h=>?_) <;> clear hQ Q <;> (try simp only [vki,reduceCtorEq] at h))|(refine vq ?_;kernel_rfl)|omega|assumption|with_reducible rfl|skip)))
      (simp only [vrt,Tryz.results41,vkt,seval,vK,Qs,VC,Bool.true_and,Bool.false_and];refine Fin.val rfl ?_;(try simp only [AV.le,AV.leL]))
      all_goals first|rfl|(simp;done)
  · have d0:decide ((l.length:Int)=(m.length:Int))=false:=decide_eq_false (by omega)
    rw [decide_eq_false (fun e=>h0 (by rw [e]))]
    repeat' (first|(apply nx;with_reducible constructor)|refine uq (by decide) ?_|((first|refine vx env fun Q hQ=>?_|refine vz fun Q hQ=>?_);simp only [vkt,seval,vK,Qs,VC,Bool.true_and,Bool.false_and,d0];(try simp only [ite_and]);(repeat' (first|with_reducible assumption|refine And.intro ?_ ?_|intro hp));all_goals (first|(refine hQ _ ?_;clear hQ Q)|(refine hQ _ (fun h=>?_) (fun h=>?_) <;> clear hQ Q <;> (try simp only [vki,reduceCtorEq] at h))|(refine vq ?_;kernel_rfl)|omega|assumption|with_reducible rfl|skip)))
    (simp only [vrt,Tryz.results41,vkt,seval,vK,Qs,VC,Bool.true_and,Bool.false_and];refine Fin.val rfl ?_;(try simp only [AV.le,AV.leL]))
    all_goals first|rfl|(simp;done)
def YO:List AV→Prop × AV
  |[.sl l,.sl m]=>(l=(l.map za).map zJ∧m=(m.map za).map zJ∧(l.map za).length≤maxLen∧(m.map za).length≤maxLen,aB (decide ((l.map za)=(m.map za))))
  |_=>(False,.junk)
theorem eeqI {A:Frm→Prop}:qE A Tryz.prog 41 (qU true YO):=qW fun vs hv h=>by
  clear hv
  unfold YO at h ⊢
  split at h
  · rename_i l m;obtain ⟨q0,q1,k0,k1⟩:=h
    refine ⟨by first|trivial|(simp [AV.plain,AV.plainL,aI,aB,qB,qc,ql,qf,aTk,cTk];done)|(repeat' split) <;> simp [AV.plain,AV.plainL,aI,aB,qB,qc,ql,qf,aTk,cTk],fun _=>(by simp [AV.flat,AV.flatL,aI,aB]), ?_⟩
    have:=Qjp (l.map za) (m.map za) k0 k1
    simp only [qB,← q0,← q1] at this
    first|exact this|(simp only [qB,← q0,← q1];exact this)
  · exact h.elim
def VD (l m:List Tk) (k:Nat):St:={ t:=asg [(0,ql l),(1,ql m),(4,aB false),(5,aI k)],h:=qj [],n:=0 }
def vH:=vj @ty3 (vj @x8 (vj @yK (vj @ti3.eq_1 (vj @xw.eq_1 @yn.eq_1))))
def Qn:=vj @aI.eq_1 (@aB.eq_1)
theorem Qjx (l m:List Tk) (hl:l.length≤maxLen) (hm:m.length≤maxLen):FnV Tryz.prog 62 [ql l,ql m] (aB (decide (l=m))):=by
  have env:Env (fun _=>True) Tryz.prog tyB (tab []):=qL trivial
  refine Fn.of (A:=fun _=>True) (n0:=0) (D:=noD) (Fn0 Tryz.func62 rfl (fun vs w=>by kernel_rfl) (by kernel_rfl)) (by simp) (by simp [AV.ids,ql]) (fun i o h=>by cases h) (fun _ _ _ _=>trivial) qF ?_
  have hmx:maxLen=9223372036854775807:=by decide
  by_cases h0:l.length=m.length
  · have d0:decide ((l.length:Int)=(m.length:Int))=true:=decide_eq_true (by omega)
    repeat' (first|(apply nx;with_reducible constructor)|refine uq (by decide) ?_|((first|refine vx env fun Q hQ=>?_|refine vz fun Q hQ=>?_);simp only [vkt,seval,vH,Qn,ql,eTk,gTk,VD,Bool.true_and,Bool.false_and,d0];(try simp only [ite_and]);(repeat' (first|with_reducible assumption|refine And.intro ?_ ?_|intro hp));all_goals (first|(refine hQ _ ?_;clear hQ Q)|(refine hQ _ (fun h=>?_) (fun h=>?_) <;> clear hQ Q <;> (try simp only [vki,reduceCtorEq] at h))|(refine vq ?_;kernel_rfl)|omega|assumption|with_reducible rfl|skip)))
    refine qO (fun k:{ k:Nat // k≤l.length∧∀ j,j < k→l.getD j default=m.getD j default }=>VD l m k.1) (fun k=>l.length - k.1) ⟨0,Nat.zero_le _,fun j h=>absurd h (Nat.not_lt_zero _)⟩ ?_ fun ⟨k,hk,hno⟩=>?_
    · (refine Le.ok some [] ?_;constructor;all_goals (try simp only [vle,vkt,seval,vH,Qn,ql,eTk,gTk,VD,Bool.true_and,Bool.false_and]))
      all_goals first|rfl|(simp;done)
    simp only at hk hno ⊢
    simp only [VD]
    by_cases hlt:k < l.length
    · have d1:decide ((k:Int) < (l.length:Int))=true:=decide_eq_true (by omega)
      have hlm:k < m.length:=by omega
      have k0:((k:Int)).toNat=k:=rfl
      have e9:IntKind.wrap .i64 ((k:Int)+1)=((k+1:Nat):Int):=by rw [wrap64 (by omega) (by omega)];rfl
      obtain ⟨x,hx⟩:∃ x,l.getD k default=x:=⟨_,rfl⟩
      obtain ⟨y,hy⟩:∃ x,m.getD k default=x:=⟨_,rfl⟩
      have hxy:(decide (x.party=y.party) && (decide (x.sex=y.sex) && (decide (x.cab=y.cab) && (decide (x.bed=y.bed) && (decide (x.frm=y.frm) && (decide (x.to=y.to) && ((x.dog == y.dog))))))))=decide (x=y):=by cases x;cases y;rw [Qh6]
      have hne:¬ x=y→decide (l=m)=false:=fun h=>decide_eq_false fun e=>h (by rw [← hx,← hy,e])
      cases q:decide (x=y) with
      |false =>
        rw [hne (of_decide_eq_false q)]
        repeat' (first|(apply nx;with_reducible constructor)|refine uq (by decide) ?_|((first|refine vx env fun Q hQ=>?_|refine vz fun Q hQ=>?_);simp only [vkt,seval,vH,Qn,ql,eTk,gTk,VD,Bool.true_and,Bool.false_and,d1,k0,hlt,hlm,hx,hy,hxy,q];(try simp only [ite_and]);(repeat' (first|with_reducible assumption|refine And.intro ?_ ?_|intro hp));all_goals (first|(refine hQ _ ?_;clear hQ Q)|(refine hQ _ (fun h=>?_) (fun h=>?_) <;> clear hQ Q <;> (try simp only [vki,reduceCtorEq] at h))|(refine vq ?_;kernel_rfl)|omega|assumption|with_reducible rfl|skip)))
        (simp only [vrt,Tryz.results62,vkt,seval,vH,Qn,ql,eTk,gTk,VD,Bool.true_and,Bool.false_and];refine Fin.val rfl ?_;(try simp only [AV.le,AV.leL]))
        all_goals first|rfl|(simp;done)
      |true =>
        repeat' (first|(apply nx;with_reducible constructor)|refine uq (by decide) ?_|((first|refine vx env fun Q hQ=>?_|refine vz fun Q hQ=>?_);simp only [vkt,seval,vH,Qn,ql,eTk,gTk,VD,Bool.true_and,Bool.false_and,d1,k0,hlt,hlm,hx,hy,hxy,q,e9];(try simp only [ite_and]);(repeat' (first|with_reducible assumption|refine And.intro ?_ ?_|intro hp));all_goals (first|(refine hQ _ ?_;clear hQ Q)|(refine hQ _ (fun h=>?_) (fun h=>?_) <;> clear hQ Q <;> (try simp only [vki,reduceCtorEq] at h))|(refine vq ?_;kernel_rfl)|omega|assumption|with_reducible rfl|skip)))
        refine ⟨⟨k+1,hlt,fun j hj=>?_⟩,by show l.length - (k+1) < l.length - k;omega, ?_⟩
        · rcases Nat.lt_or_eq_of_le (Nat.le_of_lt_succ hj) with h1|h1
          · exact hno j h1
          · rw [h1,hx,hy];exact of_decide_eq_true q
        · (refine Le.ok some [] ?_;constructor;all_goals (try simp only [vle,vkt,seval,vH,Qn,ql,eTk,gTk,VD,Bool.true_and,Bool.false_and]))
          all_goals first|rfl|(simp;done)
    · have d1:decide ((k:Int) < (l.length:Int))=false:=decide_eq_false (by omega)
      obtain rfl:k=l.length:=by omega
      rw [decide_eq_true (WN h0 hno)]
      repeat' (first|(apply nx;with_reducible constructor)|refine uq (by decide) ?_|((first|refine vx env fun Q hQ=>?_|refine vz fun Q hQ=>?_);simp only [vkt,seval,vH,Qn,ql,eTk,gTk,VD,Bool.true_and,Bool.false_and,d1];(try simp only [ite_and]);(repeat' (first|with_reducible assumption|refine And.intro ?_ ?_|intro hp));all_goals (first|(refine hQ _ ?_;clear hQ Q)|(refine hQ _ (fun h=>?_) (fun h=>?_) <;> clear hQ Q <;> (try simp only [vki,reduceCtorEq] at h))|(refine vq ?_;kernel_rfl)|omega|assumption|with_reducible rfl|skip)))
      (simp only [vrt,Tryz.results62,vkt,seval,vH,Qn,ql,eTk,gTk,VD,Bool.true_and,Bool.false_and];refine Fin.val rfl ?_;(try simp only [AV.le,AV.leL]))
      all_goals first|rfl|(simp;done)
  · have d0:decide ((l.length:Int)=(m.length:Int))=false:=decide_eq_false (by omega)
    rw [decide_eq_false (fun e=>h0 (by rw [e]))]
    repeat' (first|(apply nx;with_reducible constructor)|refine uq (by decide) ?_|((first|refine vx env fun Q hQ=>?_|refine vz fun Q hQ=>?_);simp only [vkt,seval,vH,Qn,ql,eTk,gTk,VD,Bool.true_and,Bool.false_and,d0];(try simp only [ite_and]);(repeat' (first|with_reducible assumption|refine And.intro ?_ ?_|intro hp));all_goals (first|(refine hQ _ ?_;clear hQ Q)|(refine hQ _ (fun h=>?_) (fun h=>?_) <;> clear hQ Q <;> (try simp only [vki,reduceCtorEq] at h))|(refine vq ?_;kernel_rfl)|omega|assumption|with_reducible rfl|skip)))
    (simp only [vrt,Tryz.results62,vkt,seval,vH,Qn,ql,eTk,gTk,VD,Bool.true_and,Bool.false_and];refine Fin.val rfl ?_;(try simp only [AV.le,AV.leL]))
    all_goals first|rfl|(simp;done)
def Yb:List AV→Prop × AV
  |[.sl l,.sl m]=>(l=(l.map dTk).map eTk∧m=(m.map dTk).map eTk∧(l.map dTk).length≤maxLen∧(m.map dTk).length≤maxLen,aB (decide ((l.map dTk)=(m.map dTk))))
  |_=>(False,.junk)
theorem eeqK {A:Frm→Prop}:qE A Tryz.prog 62 (qU true Yb):=qW fun vs hv h=>by
  clear hv
  unfold Yb at h ⊢
  split at h
  · rename_i l m;obtain ⟨q0,q1,k0,k1⟩:=h
    refine ⟨by first|trivial|(simp [AV.plain,AV.plainL,aI,aB,qB,qc,ql,qf,aTk,cTk];done)|(repeat' split) <;> simp [AV.plain,AV.plainL,aI,aB,qB,qc,ql,qf,aTk,cTk],fun _=>(by simp [AV.flat,AV.flatL,aI,aB]), ?_⟩
    have:=Qjx (l.map dTk) (m.map dTk) k0 k1
    simp only [ql,← q0,← q1] at this
    first|exact this|(simp only [ql,← q0,← q1];exact this)
  · exact h.elim
def ecS (c d:Chart) (k:Nat):St:={ t:=asg [(2,.ptr 0 0),(3,.ptr 1 0),(4,aB false),(5,aI k)],h:=qj [(0,.cells (qb c)),(1,.cells (qb d))],n:=2 }
def yu:=vj @ty3 (vj @WM (vj @x8 (vj @jO (vj @yK (vj @WL (vj @ti3.eq_1 (vj @ZG.eq_1 (vj @xw.eq_1 (vj @jo.eq_1 (vj @yn.eq_1 @ZC.eq_1))))))))))
def xN:=vj @aI.eq_1 (@aB.eq_1)
theorem Qjd (c d:Chart) (h1:c.cabins.length≤maxLen) (h2:c.sold.length≤maxLen) (h4:d.sold.length≤maxLen):FnV Tryz.prog 21 [qa c,qa d] (aB (decide (c=d))):=by
  have env:Env (fun _=>True) Tryz.prog tyB (tab [(62,qU true Yb)]):=qL ⟨eeqK,trivial⟩
  refine Fn.of (A:=fun _=>True) (n0:=0) (D:=noD) (Fn0 Tryz.func21 rfl (fun vs w=>by kernel_rfl) (by kernel_rfl)) (by simp) (by simp [AV.ids,AV.idsL,qa,qb]) (fun i o h=>by cases h) (fun _ _ _ _=>trivial) qF ?_
  have hmx:maxLen=9223372036854775807:=by decide
  have hE:decide (c=d)=(decide (c.cabins=d.cabins) && (decide (c.secs=d.secs) && decide (c.sold=d.sold))):=by
    cases c;cases d;rw [Bool.eq_iff_iff];simp
  rw [hE]
  by_cases h0:c.cabins.length=d.cabins.length
  · have d0:decide ((c.cabins.length:Int)=(d.cabins.length:Int))=true:=decide_eq_true (by omega)
    cases q0:decide (c.secs=d.secs) with
    |false =>
      rw [Bool.false_and,Bool.and_false]
      repeat' (first|(apply nx;with_reducible constructor)|refine uq (by decide) ?_|((first|refine vx env fun Q hQ=>?_|refine vz fun Q hQ=>?_);simp only [vkt,seval,yu,xN,ql,qa,qb,qg,qz,mTk,ecS,Yb,Bool.true_and,Bool.false_and,List.length_map,d0,q0];(try simp only [ite_and]);(repeat' (first|with_reducible assumption|refine And.intro ?_ ?_|intro hp));all_goals (first|(refine hQ _ ?_;clear hQ Q)|(refine hQ _ (fun h=>?_) (fun h=>?_) <;> clear hQ Q <;> (try simp only [vki,reduceCtorEq] at h))|(refine vq ?_;kernel_rfl)|omega|assumption|with_reducible rfl|skip)))
      (simp only [vrt,Tryz.results21,vkt,seval,yu,xN,ql,qa,qb,qg,qz,mTk,ecS,Yb,Bool.true_and,Bool.false_and,List.length_map];refine Fin.val rfl ?_;(try simp only [AV.le,AV.leL]))
      all_goals first|rfl|(simp;done)
    |true =>
      rw [Bool.true_and]
      repeat' (first|(apply nx;with_reducible constructor)|refine uq (by decide) ?_|((first|refine vx env fun Q hQ=>?_|refine vz fun Q hQ=>?_);simp only [vkt,seval,yu,xN,ql,qa,qb,qg,qz,mTk,ecS,Yb,Bool.true_and,Bool.false_and,List.length_map,d0,q0];(try simp only [ite_and]);(repeat' (first|with_reducible assumption|refine And.intro ?_ ?_|intro hp));all_goals (first|(refine hQ _ ?_;clear hQ Q)|(refine hQ _ (fun h=>?_) (fun h=>?_) <;> clear hQ Q <;> (try simp only [vki,reduceCtorEq] at h))|(refine vq ?_;kernel_rfl)|omega|assumption|with_reducible rfl|skip)))
      refine qO (fun k:{ k:Nat // k≤c.cabins.length∧∀ j,j < k→c.cabins.getD j default=d.cabins.getD j default }=>ecS c d k.1) (fun k=>c.cabins.length - k.1) ⟨0,Nat.zero_le _,fun j h=>absurd h (Nat.not_lt_zero _)⟩ ?_ fun ⟨k,hk,hno⟩=>?_
      · simp only [ecS]
        (refine Le.ok some [] ?_;constructor;all_goals (try simp only [vle,vkt,seval,yu,xN,ql,qa,qb,qg,qz,mTk,ecS,Yb,Bool.true_and,Bool.false_and,List.length_map]))
        all_goals first|rfl|(simp;done)
      simp only at hk hno ⊢
      simp only [ecS]
      by_cases hlt:k < c.cabins.length
      · have d1:decide ((k:Int) < (c.cabins.length:Int))=true:=decide_eq_true (by omega)
        have hlm:k < d.cabins.length:=by omega
        have k0:((k:Int)).toNat=k:=rfl
        have e9:IntKind.wrap .i64 ((k:Int)+1)=((k+1:Nat):Int):=by rw [wrap64 (by omega) (by omega)];rfl
        obtain ⟨x,hx⟩:∃ x,c.cabins.getD k default=x:=⟨_,rfl⟩
        obtain ⟨y,hy⟩:∃ x,d.cabins.getD k default=x:=⟨_,rfl⟩
        have hxy:(decide (x.beds=y.beds) && (x.door == y.door))=decide (x=y):=by cases x;cases y;rw [Qhh]
        have hne:¬ x=y→decide (c.cabins=d.cabins)=false:=fun h=>decide_eq_false fun e=>h (by rw [← hx,← hy,e])
        cases q:decide (x=y) with
        |false =>
          rw [hne (of_decide_eq_false q),Bool.false_and]
          repeat' (first|(apply nx;with_reducible constructor)|refine uq (by decide) ?_|((first|refine vx env fun Q hQ=>?_|refine vz fun Q hQ=>?_);simp only [vkt,seval,yu,xN,ql,qa,qb,qg,qz,mTk,ecS,Yb,Bool.true_and,Bool.false_and,List.length_map,d1,k0,hlt,hlm,hx,hy,hxy,q];(try simp only [ite_and]);(repeat' (first|with_reducible assumption|refine And.intro ?_ ?_|intro hp));all_goals (first|(refine hQ _ ?_;clear hQ Q)|(refine hQ _ (fun h=>?_) (fun h=>?_) <;> clear hQ Q <;> (try simp only [vki,reduceCtorEq] at h))|(refine vq ?_;kernel_rfl)|omega|assumption|with_reducible rfl|skip)))
          (simp only [vrt,Tryz.results21,vkt,seval,yu,xN,ql,qa,qb,qg,qz,mTk,ecS,Yb,Bool.true_and,Bool.false_and,List.length_map];refine Fin.val rfl ?_;(try simp only [AV.le,AV.leL]))
          all_goals first|rfl|(simp;done)
        |true =>
          repeat' (first|(apply nx;with_reducible constructor)|refine uq (by decide) ?_|((first|refine vx env fun Q hQ=>?_|refine vz fun Q hQ=>?_);simp only [vkt,seval,yu,xN,ql,qa,qb,qg,qz,mTk,ecS,Yb,Bool.true_and,Bool.false_and,List.length_map,d1,k0,hlt,hlm,hx,hy,hxy,q,e9];(try simp only [ite_and]);(repeat' (first|with_reducible assumption|refine And.intro ?_ ?_|intro hp));all_goals (first|(refine hQ _ ?_;clear hQ Q)|(refine hQ _ (fun h=>?_) (fun h=>?_) <;> clear hQ Q <;> (try simp only [vki,reduceCtorEq] at h))|(refine vq ?_;kernel_rfl)|omega|assumption|with_reducible rfl|skip)))
          refine ⟨⟨k+1,hlt,fun j hj=>?_⟩,by show c.cabins.length - (k+1) < c.cabins.length - k;omega, ?_⟩
          · rcases Nat.lt_or_eq_of_le (Nat.le_of_lt_succ hj) with h1|h1
            · exact hno j h1
            · rw [h1,hx,hy];exact of_decide_eq_true q
          · simp only [ecS]
            (refine Le.ok some [] ?_;constructor;all_goals (try simp only [vle,vkt,seval,yu,xN,ql,qa,qb,qg,qz,mTk,ecS,Yb,Bool.true_and,Bool.false_and,List.length_map]))
            all_goals first|rfl|(simp;done)
      · have d1:decide ((k:Int) < (c.cabins.length:Int))=false:=decide_eq_false (by omega)
        obtain rfl:k=c.cabins.length:=by omega
        rw [decide_eq_true (WN h0 hno),Bool.true_and]
        repeat' (first|(apply nx;with_reducible constructor)|refine uq (by decide) ?_|((first|refine vx env fun Q hQ=>?_|refine vz fun Q hQ=>?_);simp only [vkt,seval,yu,xN,ql,qa,qb,qg,qz,mTk,ecS,Yb,Bool.true_and,Bool.false_and,List.length_map,d1,h2,h4];(try simp only [ite_and]);(repeat' (first|with_reducible assumption|refine And.intro ?_ ?_|intro hp));all_goals (first|(refine hQ _ ?_;clear hQ Q)|(refine hQ _ (fun h=>?_) (fun h=>?_) <;> clear hQ Q <;> (try simp only [vki,reduceCtorEq] at h))|(refine vq ?_;kernel_rfl)|omega|assumption|with_reducible rfl|skip)))
        (simp only [vrt,Tryz.results21,vkt,seval,yu,xN,ql,qa,qb,qg,qz,mTk,ecS,Yb,Bool.true_and,Bool.false_and,List.length_map];refine Fin.val rfl ?_;(try simp only [AV.le,AV.leL]))
        all_goals first|rfl|(simp;done)
  · have d0:decide ((c.cabins.length:Int)=(d.cabins.length:Int))=false:=decide_eq_false (by omega)
    rw [decide_eq_false (fun e:c.cabins=d.cabins=>h0 (by rw [e])),Bool.false_and]
    repeat' (first|(apply nx;with_reducible constructor)|refine uq (by decide) ?_|((first|refine vx env fun Q hQ=>?_|refine vz fun Q hQ=>?_);simp only [vkt,seval,yu,xN,ql,qa,qb,qg,qz,mTk,ecS,Yb,Bool.true_and,Bool.false_and,List.length_map,d0];(try simp only [ite_and]);(repeat' (first|with_reducible assumption|refine And.intro ?_ ?_|intro hp));all_goals (first|(refine hQ _ ?_;clear hQ Q)|(refine hQ _ (fun h=>?_) (fun h=>?_) <;> clear hQ Q <;> (try simp only [vki,reduceCtorEq] at h))|(refine vq ?_;kernel_rfl)|omega|assumption|with_reducible rfl|skip)))
    (simp only [vrt,Tryz.results21,vkt,seval,yu,xN,ql,qa,qb,qg,qz,mTk,ecS,Yb,Bool.true_and,Bool.false_and,List.length_map];refine Fin.val rfl ?_;(try simp only [AV.le,AV.leL]))
    all_goals first|rfl|(simp;done)
def Wh:List AV→Prop × AV
  |[.agg [.sl c0,.v (.int .i64 c1),.sl c2],.agg [.sl d0,.v (.int .i64 d1),.sl d2]]=>(c0=(c0.map qp).map qg∧c2=(c2.map dTk).map eTk∧d0=(d0.map qp).map qg∧d2=(d2.map dTk).map eTk∧((⟨(c0.map qp),c1,(c2.map dTk)⟩:Chart)).cabins.length≤maxLen∧((⟨(c0.map qp),c1,(c2.map dTk)⟩:Chart)).sold.length≤maxLen∧((⟨(d0.map qp),d1,(d2.map dTk)⟩:Chart)).sold.length≤maxLen,aB (decide (((⟨(c0.map qp),c1,(c2.map dTk)⟩:Chart))=((⟨(d0.map qp),d1,(d2.map dTk)⟩:Chart)))))
  |_=>(False,.junk)
theorem eeqC {A:Frm→Prop}:qE A Tryz.prog 21 (qU true Wh):=qW fun vs hv h=>by
  clear hv
  unfold Wh at h ⊢
  split at h
  · rename_i c0 c1 c2 d0 d1 d2;obtain ⟨q0,q1,q2,q3,k0,k1,k2⟩:=h
    refine ⟨by first|trivial|(simp [AV.plain,AV.plainL,aI,aB,qB,qc,ql,qf,aTk,cTk];done)|(repeat' split) <;> simp [AV.plain,AV.plainL,aI,aB,qB,qc,ql,qf,aTk,cTk],fun _=>(by simp [AV.flat,AV.flatL,aI,aB]), ?_⟩
    have:=Qjd ((⟨(c0.map qp),c1,(c2.map dTk)⟩:Chart)) ((⟨(d0.map qp),d1,(d2.map dTk)⟩:Chart)) k0 k1 k2
    simp only [qR,qa,aI,ql,qb,← q0,← q1,← q2,← q3] at this
    first|exact this|(simp only [qR,qa,aI,ql,qb,← q0,← q1,← q2,← q3];exact this)
  · exact h.elim
end Go.Sym.B
namespace Go.Sym.B
open Go Go.Sym Go.Proofs Go.Sym.C
end Go.Sym.B
namespace Go.Sym.B
open Go Go.Sym Go.Proofs Go.Sym.C
end Go.Sym.B
namespace Go.Sym.B
open Go Go.Sym Go.Proofs Go.Sym.C
end Go.Sym.B
namespace Go.Sym.B
open Go Go.Sym Go.Proofs Go.Sym.C
end Go.Sym.B
namespace Go.Sym.B
open Go Go.Sym Go.Proofs Go.Sym.C
end Go.Sym.B
namespace Go.Sym.B
open Go Go.Sym Go.Proofs Go.Sym.C
end Go.Sym.B
namespace Go.Sym.B
open Go Go.Sym Go.Proofs Go.Sym.C
def ZF (p:Nat→Bool) (n:Nat):Nat:=((List.range n).filter p).length
theorem Y5 (p:Nat→Bool) (n:Nat):ZF p (n+1)=ZF p n+if p n then 1 else 0:=by
  unfold ZF
  rw [List.range_succ,List.filter_append,List.length_append]
  cases h:p n <;> simp [h]
theorem QcX (p:Nat→Bool) (n:Nat):ZF p n≤n:=by
  unfold ZF;exact Nat.le_trans (List.length_filter_le _ _) (by simp)
def QS (f:Nat→Nat):Nat→Nat
  |0=>0
  |k+1=>QS f k+f k
theorem QcJ {f:Nat→Nat} {m:Nat} (h:∀ i,f i≤m):∀ n,QS f n≤n * m
  |0=>by simp [QS]
  |n+1=>by
    have:=QcJ h n
    have:=h n
    rw [QS,Nat.succ_mul];omega
theorem Ls (f g:Nat→Nat):∀ n,QS (fun i=>f i+g i) n=QS f n+QS g n
  |0=>rfl
  |n+1=>by rw [QS,QS,QS,Ls f g n];omega
theorem VL (p:Nat→Bool):∀ n,QS (fun i=>if p i then 1 else 0) n=ZF p n
  |0=>rfl
  |n+1=>by rw [QS,VL p n,Y5]
theorem JV {f g:Nat→Nat}:∀ n,(∀ i,i < n→f i=g i)→QS f n=QS g n
  |0,_=>rfl
  |n+1,h=>by rw [QS,QS,JV n fun i hi=>h i (by omega),h n (by omega)]
theorem Qa7 {p q:Nat→Bool} (n:Nat) (h:∀ i,i < n→p i=q i):ZF p n=ZF q n:=by
  rw [← VL,← VL]
  exact JV n fun i hi=>by rw [h i hi]
theorem LB (p:Nat→Nat→Bool) (m:Nat):∀ n,QS (fun i=>ZF (fun s=>p i s) m) n=QS (fun s=>ZF (fun i=>p i s) n) m
  |0=>by
    have:∀ m,QS (fun s=>ZF (fun i=>p i s) 0) m=0:=fun m=>by
      induction m with
      |zero=>rfl
      |succ m ih=>rw [QS,ih];rfl
    rw [this];rfl
  |n+1=>by
    rw [QS,LB p m n]
    have:(fun s=>ZF (fun i=>p i s) (n+1))=fun s=>ZF (fun i=>p i s) n+if p n s then 1 else 0:=funext fun s=>Y5 _ _
    rw [this,Ls,VL]
def emR (c:Chart) (i s:Nat):Bool:=emH c s i (c.cabins.getD i default).beds.toNat
def rrN (c:Chart) (i:Nat):Nat:=QS (fun i=>ZF (fun s=>emR c i s) c.secs.toNat) i
theorem Lj (sold:List Tk) (n:Nat):∀ k,Xn sold n k=QS (fun s=>ZF (fun i=>jl sold s i) n) k
  |0=>rfl
  |k+1=>by rw [Xn,QS,Lj sold n k];rfl
theorem QhU {c:Chart} (hv:Van c) {k:Nat} (s:Int):emH c s k (c.cabins.getD k default).beds.toNat=jl c.sold s k:=by
  rw [Bool.eq_iff_iff]
  unfold emH jl
  rw [List.all_eq_true,List.all_eq_true]
  constructor
  · intro h t ht
    cases hq:(atB s t && decide (t.cab=(k:Int))) with
    |false=>rfl
    |true =>
      rw [Bool.and_eq_true,decide_eq_true_eq] at hq
      obtain ⟨h1,h2⟩:=hq
      have hk:=hv.tk t ht
      have hb:=hk.bed
      rw [h2] at hb
      have hb:0≤t.bed∧t.bed < (c.cabins.getD k default).beds:=hb
      have:=h t.bed.toNat (List.mem_range.2 (by omega))
      rw [Int.toNat_of_nonneg hb.1] at this
      have hh:WJ c.sold ⟨k,t.bed⟩ s=true:=List.any_eq_true.2 ⟨t,ht,by unfold onB;rw [Um,h1,decide_eq_true h2,decide_eq_true rfl];rfl⟩
      rw [hh] at this
      exact absurd this (by decide)
  · intro h j hj
    cases hq:WJ c.sold ⟨(k:Int),(j:Int)⟩ s with
    |false=>rfl
    |true =>
      obtain ⟨t,ht,h1⟩:=List.any_eq_true.1 hq
      unfold onB at h1
      rw [Um,Bool.and_eq_true,Bool.and_eq_true,decide_eq_true_eq] at h1
      have:=h t ht
      rw [h1.2,decide_eq_true h1.1.1] at this
      exact absurd this (by decide)
theorem QiI {c:Chart} (hv:Van c):(rrN c c.cabins.length:Int)=vS c.cabins c.secs c.sold:=by
  unfold rrN
  rw [Yf,Lj,LB]
  refine congrArg _ (JV _ fun s _=>Qa7 _ fun i _=>?_)
  unfold emR
  rw [QhU hv]
theorem rr_bd {c:Chart} (hv:Van c) (i:Nat) (hi:i≤3):rrN c i≤15:=by
  have h1:=QcJ (f:=fun i=>ZF (fun s=>emR c i s) c.secs.toNat) (m:=5) (fun i=>Nat.le_trans (QcX _ _) (by have:=hv.car.secs;omega)) i
  unfold rrN
  omega
end Go.Sym.B
namespace Go.Sym.B
open Go Go.Sym Go.Proofs Go.Sym.C
theorem WH {c:Chart} {a:Ask} (h:zu c a=0) {l:List Bunk} (hl:l ∈ alL (qY c.cabins) a.sexes.length):∀ t ∈ c.sold++xE a l l.length,TkOk c t:=fun t ht=>by
  have hll:=QO l hl
  have hT:xE a l l.length=tkR a 0 l:=by rw [Xk a l l.length (Nat.le_refl _),List.take_length]
  rcases List.mem_append.1 ht with ht|ht
  · exact (Qg (yz h).1).tk t ht
  · rw [hT] at ht
    obtain ⟨i,b,hi,hb,rfl⟩:=VI ht
    exact QbH h (by omega) (UM hl b hb)
theorem Qbm {c:Chart} {a:Ask} (h:zu c a=0) (hs:1≤a.sexes.length) {l:List Bunk} (hl:l ∈ alL (qY c.cabins) a.sexes.length):wD c a l=Wm c a l:=by
  cases hq:Wm c a l with
  |true=>exact QbI h hs (by rw [Zp h hs];exact List.mem_filter.2 ⟨hl,hq⟩)
  |false =>
    cases hp:wD c a l with
    |false=>rfl
    |true =>
      have hway:=WH h hl
      unfold wD at hp
      simp only [Bool.and_eq_true,decide_eq_true_eq] at hp
      obtain ⟨⟨_,h3⟩,h4⟩:=hp
      have h5:=JU h3
      have hpw:PWr [] (c.sold++xE a l l.length):=(Yy _ _).2 fun i hi=>by rw [List.nil_append];exact (h5 i hi).2
      have hst:=(RP (cs:=c.cabins) (secs:=c.secs) (fun t ht=>⟨(hway t ht).frm,(hway t ht).way,(hway t ht).to⟩)).2 hpw
      unfold Wm at hq
      rw [h4,hst] at hq
      exact absurd hq (by decide)
theorem Yv {c:Chart} {a:Ask} (h:zu c a=0) (hs:1≤a.sexes.length):zg c a=(alL (qY c.cabins) a.sexes.length).filter (wD c a):=by
  rw [Zp h hs]
  exact List.filter_congr fun l hl=>(Qbm h hs hl).symm
theorem Qas {cs:List Cabin} {a:Ask}:∀ (m:Nat) (sold:List Tk) (begun:List Bunk),∀ x ∈ wz cs a m sold begun,∃ new:List Bunk,x.1=begun++new∧x.2=sold++tkR a begun.length new
  |0,sold,begun,x,hx=>by
    simp only [wz,List.mem_singleton] at hx
    subst hx
    exact ⟨[],by simp,by simp [tkR]⟩
  |m+1,sold,begun,x,hx=>by
    rw [xV,List.mem_flatMap] at hx
    obtain ⟨b,hb,hx⟩:=hx
    unfold gbL at hx
    split at hx
    · obtain ⟨new,h1,h2⟩:=Qas m _ _ x hx
      refine ⟨b :: new,by rw [h1];simp, ?_⟩
      rw [h2,List.length_append,List.length_singleton]
      simp [tkR]
    · simp at hx
theorem QiD {c:Chart} {a:Ask} {x:List Bunk × List Tk} (hx:x ∈ plP c a):x.2=c.sold++xE a x.1 x.1.length:=by
  obtain ⟨new,h1,h2⟩:=Qas _ _ _ x hx
  rw [List.nil_append] at h1
  rw [h2,h1,Xk a new new.length (Nat.le_refl _),List.take_length];rfl
def rdF (c:Chart) (a:Ask) (j:Nat):Int:=vS c.cabins c.secs (c.sold++xE a ((zg c a).getD j default) ((zg c a).getD j default).length)
theorem KH {f g:Nat→Int}:∀ n,(∀ i,i < n→f i=g i)→mxK f n=mxK g n
  |0,_=>rfl
  |n+1,h=>by rw [mxK,mxK,KH n fun i hi=>h i (by omega),h n (by omega)]
theorem rd_rs {c:Chart} {a:Ask} (h:zu c a=0) {j:Nat} (hj:j < (plP c a).length):rdF c a j=rsF c a j:=by
  have hm:=yL (d:=default) hj
  have hP:zg c a=(plP c a).map (·.1):=by unfold zg;rw [if_pos h]
  have hg:(zg c a).getD j default=((plP c a).getD j default).1:=by
    rw [hP]
    simp [List.getD_eq_getElem?_getD,hj]
  unfold rdF rsF
  rw [hg,← QiD hm]
  exact Xy h hm
def rbA (c:Chart) (a:Ask):List Bunk × Int:=if zu c a=0 then (if zg c a=[] then ([],11) else ((zg c a).getD (mxK (rdF c a) (zg c a).length).2 default,0)) else ([],zu c a)
theorem QiA (c:Chart) (a:Ask):rbA c a=vD c a:=by
  unfold rbA vD
  by_cases h:zu c a=0
  · rw [if_pos h,if_pos h]
    have hP:zg c a=(plP c a).map (·.1):=by unfold zg;rw [if_pos h]
    have hl:(zg c a).length=(plP c a).length:=by rw [hP,List.length_map]
    rw [hl,KH _ fun j hj=>rd_rs h hj]
    rcases Qfk h (plP c a).length (Nat.le_refl _) with ⟨h1,h2⟩|⟨h1,h2⟩
    · rw [if_pos (List.eq_nil_of_length_eq_zero (by omega)),h2];rfl
    · have hne:zg c a ≠ []:=fun h0=>by rw [h0] at hl;simp at hl;omega
      rw [if_neg hne,h1]
      have hg:(zg c a).getD (mxK (rsF c a) (plP c a).length).2 default=((plP c a).getD (mxK (rsF c a) (plP c a).length).2 default).1:=by
        rw [hP]
        simp [List.getD_eq_getElem?_getD,h2]
      rw [hg];rfl
  · rw [if_neg h,if_neg h]
end Go.Sym.B
namespace Go.Sym.B
open Go Go.Sym Go.Proofs Go.Sym.C
end Go.Sym.B
namespace Go.Sym.B
open Go Go.Sym Go.Proofs Go.Sym.C
def rpS (c:Chart) (a:Ask) (Al M:List (List Bunk)) (T:List (Nat × AV)):St:={ t:=asg (T++[(2,.ptr 0 0),(3,.ptr 1 0),(5,.row 3),(6,.row 2)]),h:=qj [(0,.cells (qb c)),(1,.cells (qh a)),(2,.row 44 1 (Al.map qA)),(3,.row 44 1 (M.map qA))],n:=4 }
theorem QdF {α:Type} {p:α→Bool} {d:α} {l:List α} {i:Nat} (h:i < l.length):(l.take (i+1)).filter p=(l.take i).filter p++if p (l.getD i d) then [l.getD i d] else []:=by
  rw [List.take_succ_eq_append_getElem h,List.filter_append,List.getD_eq_getElem?_getD,List.getElem?_eq_getElem h]
  cases hp:p l[i] <;> simp [hp]
def jZ:=vj @ty3 (vj @jO (vj @QG (vj @Qy (vj @LU (vj @Wp (vj @xf (vj @ti3.eq_1 (vj @jo.eq_1 (vj @kX.eq_1 (vj @kU.eq_1 (vj @Xd.eq_1 (vj @Zl.eq_1 @vB.eq_1))))))))))))
def Zu:=vj @aI.eq_1 (vj @aB.eq_1 (@QT))
theorem Qbh (c:Chart) (a:Ask) (hc:CarOk c) (hs:c.sold.length≤20) (ha:0 < a.sexes.length∧a.sexes.length≤3):FnV Tryz.prog 54 [qa c,qx a] (ze ((alL (qY c.cabins) a.sexes.length).filter (wD c a))):=by
  have env:Env (fun _=>True) Tryz.prog tyB (tab [(70,qU false kR),(69,fnE (pAl a.sexes.length)),(106,qU true vW)]):=qL ⟨Qiy,eAl (Qfx _),Qhb,trivial⟩
  refine Fn.of (A:=fun _=>True) (n0:=0) (D:=noD) (Fn0 Tryz.func54 rfl (fun vs w=>by kernel_rfl) (by kernel_rfl)) (by simp) (by simp [AV.ids,AV.idsL,qa,qb,qx,qh]) (fun i o h=>by cases h) (fun _ _ _ _=>trivial) qF ?_
  have eC:(⟨c.cabins,c.secs,c.sold⟩:Chart)=c:=rfl
  have eA:(⟨a.party,a.frm,a.to,a.sexes,a.dog⟩:Ask)=a:=rfl
  have hmx:(100000:Nat)≤maxLen:=by decide
  have hbds:=hc.beds
  have hCar:=hc
  obtain ⟨ha1,ha2⟩:=ha
  have c6:c.cabins.length≤3:=hc.cabs.2
  have c7:∀ x ∈ c.cabins,x.beds≤3:=fun x hx=>(hbds x hx).2
  have c8:(qY c.cabins).length≤9:=Qh3 c6 hbds
  have c5:a.sexes.length≤20:=by omega
  have hA1:∀ p ∈ alL (qY c.cabins) a.sexes.length,p.length=a.sexes.length:=fun p hp=>QO p hp
  obtain ⟨Al,hAl⟩:∃ Al,alL (qY c.cabins) a.sexes.length=Al:=⟨_,rfl⟩
  have hAll:Al.length≤1000:=by
    rw [← hAl,Ro]
    have h1:(qY c.cabins).length ^ a.sexes.length≤9 ^ a.sexes.length:=Nat.pow_le_pow_left c8 _
    have h2:9 ^ a.sexes.length≤9 ^ 3:=Nat.pow_le_pow_right (by decide) ha2
    omega
  rw [hAl] at hA1
  rw [hAl]
  repeat' (first|(apply nx;with_reducible constructor)|refine uq (by decide) ?_|((first|refine vx env fun Q hQ=>?_|refine vz fun Q hQ=>?_);simp only [vkt,seval,jZ,Zu,qf,qc,ze,qm,qA,qD,qG,qP,qI,qg,qz,qJ,qd,mTk,qa,qb,qx,qh,rpS,kR,pAl,vW,List.length_map,eC,eA,c6,c7,c8,ha2,hAl];(try simp only [ite_and]);(repeat' (first|with_reducible assumption|refine And.intro ?_ ?_|intro hp));all_goals (first|(refine hQ _ ?_;clear hQ Q)|(refine hQ _ (fun h=>?_) (fun h=>?_) <;> clear hQ Q <;> (try simp only [vki,reduceCtorEq] at h))|(refine vq ?_;kernel_rfl)|omega|assumption|with_reducible rfl|skip)))
  refine qO (fun i:{ i:Nat // i≤Al.length }=>rpS c a Al ((Al.take i.1).filter (wD c a)) [(7,aI i.1)]) (fun i=>Al.length - i.1) ⟨0,Nat.zero_le _⟩ ?_ fun ⟨i,hi⟩=>?_
  · simp only [rpS,List.take_zero,List.filter_nil,List.cons_append,List.nil_append]
    (refine Le.ok (fun i=>if i=3 then none else some i) [] ?_;constructor;all_goals (try simp only [vle,vkt,seval,jZ,Zu,qf,qc,ze,qm,qA,qD,qG,qP,qI,qg,qz,qJ,qd,mTk,qa,qb,qx,qh,rpS,kR,pAl,vW,List.length_map]))
    all_goals first|rfl|(simp;done)|(intro i hi;rw [if_neg (by omega)];done)
  simp only at hi ⊢
  have hMl:((Al.take i).filter (wD c a)).length≤i:=Nat.le_trans (List.length_filter_le _ _) (by rw [List.length_take];omega)
  by_cases hil:i < Al.length
  · have d1:decide ((i:Int) < (Al.length:Int))=true:=decide_eq_true (by omega)
    have e9:IntKind.wrap .i64 ((i:Int)+1)=((i+1:Nat):Int):=by rw [wrap64 (by omega) (by omega)];rfl
    have i0:((i:Int)).toNat=i:=rfl
    have hS:=QdF (p:=wD c a) (d:=[]) hil
    have hg:=Ye hil
    have hpl:=hA1 (Al.getD i []) (yL hil)
    obtain ⟨p,hp⟩:∃ p,Al.getD i []=p:=⟨_,rfl⟩
    obtain ⟨M,hM⟩:∃ M,(Al.take i).filter (wD c a)=M:=⟨_,rfl⟩
    rw [hp] at hg hS hpl
    rw [hM] at hS hMl
    have hm:M.length+1≤maxLen:=by omega
    have p1:p.length≤maxLen:=by omega
    simp only [rpS,hM,List.cons_append,List.nil_append]
    cases q:wD c a p with
    |true =>
      rw [q,if_pos rfl] at hS
      repeat' (first|(apply nx;with_reducible constructor)|refine uq (by decide) ?_|((first|refine vx env fun Q hQ=>?_|refine vz fun Q hQ=>?_);simp only [vkt,seval,jZ,Zu,qf,qc,ze,qm,qA,qD,qG,qP,qI,qg,qz,qJ,qd,mTk,qa,qb,qx,qh,rpS,kR,pAl,vW,List.length_map,d1,i0,hil,hp,hg,eC,eA,hCar,hs,ha1,c5,p1,q,e9,hm];(try simp only [ite_and]);(repeat' (first|with_reducible assumption|refine And.intro ?_ ?_|intro hp));all_goals (first|(refine hQ _ ?_;clear hQ Q)|(refine hQ _ (fun h=>?_) (fun h=>?_) <;> clear hQ Q <;> (try simp only [vki,reduceCtorEq] at h))|(refine vq ?_;kernel_rfl)|omega|assumption|with_reducible rfl|skip)))
      refine ⟨⟨i+1,hil⟩,by show Al.length - (i+1) < Al.length - i;omega, ?_⟩
      simp only [rpS,hS,List.cons_append,List.nil_append]
      (refine Le.ok (fun i=>if i=3 then some 5 else some i) [] ?_;constructor;all_goals (try simp only [vle,vkt,seval,jZ,Zu,qf,qc,ze,qm,qA,qD,qG,qP,qI,qg,qz,qJ,qd,mTk,qa,qb,qx,qh,rpS,kR,pAl,vW,List.length_map]))
      all_goals first|rfl|(rw [List.map_append];rfl)|(simp;done)|(intro i hi;rw [if_neg (by omega)];done)
    |false =>
      rw [q,if_neg (by decide),List.append_nil] at hS
      repeat' (first|(apply nx;with_reducible constructor)|refine uq (by decide) ?_|((first|refine vx env fun Q hQ=>?_|refine vz fun Q hQ=>?_);simp only [vkt,seval,jZ,Zu,qf,qc,ze,qm,qA,qD,qG,qP,qI,qg,qz,qJ,qd,mTk,qa,qb,qx,qh,rpS,kR,pAl,vW,List.length_map,d1,i0,hil,hp,hg,eC,eA,hCar,hs,ha1,c5,p1,q,e9];(try simp only [ite_and]);(repeat' (first|with_reducible assumption|refine And.intro ?_ ?_|intro hp));all_goals (first|(refine hQ _ ?_;clear hQ Q)|(refine hQ _ (fun h=>?_) (fun h=>?_) <;> clear hQ Q <;> (try simp only [vki,reduceCtorEq] at h))|(refine vq ?_;kernel_rfl)|omega|assumption|with_reducible rfl|skip)))
      refine ⟨⟨i+1,hil⟩,by show Al.length - (i+1) < Al.length - i;omega, ?_⟩
      simp only [rpS,hS,List.cons_append,List.nil_append]
      (refine Le.ok some [] ?_;constructor;all_goals (try simp only [vle,vkt,seval,jZ,Zu,qf,qc,ze,qm,qA,qD,qG,qP,qI,qg,qz,qJ,qd,mTk,qa,qb,qx,qh,rpS,kR,pAl,vW,List.length_map]))
      all_goals first|rfl|(simp;done)
  · have d1:decide ((i:Int) < (Al.length:Int))=false:=decide_eq_false (by omega)
    obtain rfl:i=Al.length:=by omega
    rw [List.take_length]
    simp only [rpS,List.cons_append,List.nil_append]
    repeat' (first|(apply nx;with_reducible constructor)|refine uq (by decide) ?_|((first|refine vx env fun Q hQ=>?_|refine vz fun Q hQ=>?_);simp only [vkt,seval,jZ,Zu,qf,qc,ze,qm,qA,qD,qG,qP,qI,qg,qz,qJ,qd,mTk,qa,qb,qx,qh,rpS,kR,pAl,vW,List.length_map,d1];(try simp only [ite_and]);(repeat' (first|with_reducible assumption|refine And.intro ?_ ?_|intro hp));all_goals (first|(refine hQ _ ?_;clear hQ Q)|(refine hQ _ (fun h=>?_) (fun h=>?_) <;> clear hQ Q <;> (try simp only [vki,reduceCtorEq] at h))|(refine vq ?_;kernel_rfl)|omega|assumption|with_reducible rfl|skip)))
    (simp only [vrt,Tryz.results54,vkt,seval,jZ,Zu,qf,qc,ze,qm,qA,qD,qG,qP,qI,qg,qz,qJ,qd,mTk,qa,qb,qx,qh,rpS,kR,pAl,vW,List.length_map];refine Fin.val rfl ?_;(try simp only [AV.le,AV.leL]))
    all_goals first|rfl|(simp;done)|exact ⟨_,_,rfl⟩
def wO:List AV→Prop × AV
  |[.agg [.sl c0,.v (.int .i64 c1),.sl c2],.agg [.v (.int .i64 a0),.v (.int .i64 a1),.v (.int .i64 a2),.sl a3,.v (.bool a4)]]=>(c0=(c0.map qp).map qg∧c2=(c2.map dTk).map eTk∧a3=(a3.map za).map zJ∧CarOk ((⟨(c0.map qp),c1,(c2.map dTk)⟩:Chart))∧((⟨(c0.map qp),c1,(c2.map dTk)⟩:Chart)).sold.length≤20∧0 < ((⟨a0,a1,a2,(a3.map za),a4⟩:Ask)).sexes.length∧((⟨a0,a1,a2,(a3.map za),a4⟩:Ask)).sexes.length≤3,ze ((alL (qY ((⟨(c0.map qp),c1,(c2.map dTk)⟩:Chart)).cabins) ((⟨a0,a1,a2,(a3.map za),a4⟩:Ask)).sexes.length).filter (wD ((⟨(c0.map qp),c1,(c2.map dTk)⟩:Chart)) ((⟨a0,a1,a2,(a3.map za),a4⟩:Ask)))))
  |_=>(False,.junk)
theorem Qan {A:Frm→Prop}:qE A Tryz.prog 54 (qU false wO):=qW fun vs hv h=>by
  clear hv
  unfold wO at h ⊢
  split at h
  · rename_i c0 c1 c2 a0 a1 a2 a3 a4;obtain ⟨q0,q1,q2,k0,k1,k2,k3⟩:=h
    refine ⟨by first|trivial|(simp [AV.plain,AV.plainL,aI,aB,qB,qc,ql,qf,aTk,cTk];done)|(repeat' split) <;> simp [AV.plain,AV.plainL,aI,aB,qB,qc,ql,qf,aTk,cTk],fun h=>absurd h (by decide), ?_⟩
    have:=Qbh ((⟨(c0.map qp),c1,(c2.map dTk)⟩:Chart)) ((⟨a0,a1,a2,(a3.map za),a4⟩:Ask)) k0 k1 ⟨k2,k3⟩
    simp only [qx,aB,qR,qa,aI,qB,ql,qh,qb,← q0,← q1,← q2] at this
    first|exact this|(simp only [qx,aB,qR,qa,aI,qB,ql,qh,qb,← q0,← q1,← q2];exact this)
  · exact h.elim
end Go.Sym.B
namespace Go.Sym.B
open Go Go.Sym Go.Proofs Go.Sym.C
def rcS (c:Chart) (k:Nat):St:={ t:=asg [(1,.ptr 0 0),(2,aI 0),(3,aI k)],h:=qj [(0,.cells (qb c))],n:=1 }
def Zt (c:Chart):Int:=if c.cabins.length=0 then 7 else if 3 < c.cabins.length then 6 else if yo (c.cabins.map kY) ≠ 0 then yo (c.cabins.map kY) else if !inB c.secs 1 5 then 1 else 0
theorem QaV (c:Chart):wH c=if Zt c ≠ 0 then Zt c else if 8 < c.sold.length then 6 else jC c c.sold:=by
  unfold wH Wi Zt zG
  by_cases h1:c.cabins.length=0
  · rw [if_pos (show (c.cabins.length:Int) < 1 by omega),if_pos h1];simp
  rw [if_neg (show ¬ (c.cabins.length:Int) < 1 by omega),if_neg h1]
  by_cases h2:3 < c.cabins.length
  · rw [if_pos (show (3:Int) < (c.cabins.length:Int) by omega),if_pos h2];simp
  rw [if_neg (show ¬ (3:Int) < (c.cabins.length:Int) by omega),if_neg h2]
  simp only [ne_eq,not_true_eq_false,if_false]
  by_cases h3:yo (c.cabins.map kY)=0
  · rw [h3]
    simp only [not_true_eq_false,if_false]
    cases inB c.secs 1 5 with
    |false=>simp
    |true =>
      simp only [Bool.not_true,Bool.false_eq_true,if_false,not_true_eq_false]
      by_cases h4:8 < c.sold.length
      · rw [if_neg (show ¬ (c.sold.length:Int) < 0 by omega),if_pos (show (8:Int) < (c.sold.length:Int) by omega),if_pos h4];simp
      · rw [if_neg (show ¬ (c.sold.length:Int) < 0 by omega),if_neg (show ¬ (8:Int) < (c.sold.length:Int) by omega),if_neg h4];simp
  · simp [h3]
theorem QiF {c:Chart} (h:Zt c=0):CarOk c:=by
  unfold Zt at h
  split at h
  · exact absurd h (by decide)
  split at h
  · exact absurd h (by decide)
  split at h
  · exact absurd h ‹_›
  rename_i h3
  split at h
  · exact absurd h (by decide)
  rename_i h4
  refine ⟨by omega,fun x hx=>?_,jc.1 (by simpa using h4)⟩
  have:=Zr (Decidable.not_not.1 h3) _ (List.mem_map.2 ⟨x,hx,rfl⟩)
  unfold kY at this
  split at this
  · exact absurd this (by decide)
  · rename_i h5;exact jc.1 (by simpa using h5)
def wT:=vj @ty3 (vj @WM (vj @jO (vj @WL (vj @ti3.eq_1 (vj @ZG.eq_1 (vj @jo.eq_1 @ZC.eq_1))))))
def vR:=vj @aI.eq_1 (@aB.eq_1)
theorem QhZ (c:Chart) (hc:c.cabins.length≤maxLen):FnV Tryz.prog 119 [qa c] (aI (Zt c)):=by
  have env:Env (fun _=>True) Tryz.prog tyB (tab [(83,qU true zb)]):=qL ⟨QaD,trivial⟩
  refine Fn.of (A:=fun _=>True) (n0:=0) (D:=noD) (Fn0 Tryz.func119 rfl (fun vs w=>by kernel_rfl) (by kernel_rfl)) (by simp) (by simp [AV.ids,AV.idsL,qa,qb]) (fun i o h=>by cases h) (fun _ _ _ _=>trivial) qF ?_
  by_cases h1:c.cabins.length=0
  · rw [show Zt c=7 by unfold Zt;rw [if_pos h1]]
    have d1:decide ((c.cabins.length:Int)=0)=true:=decide_eq_true (by omega)
    repeat' (first|(apply nx;with_reducible constructor)|refine uq (by decide) ?_|((first|refine vx env fun Q hQ=>?_|refine vz fun Q hQ=>?_);simp only [vkt,seval,wT,vR,qa,qb,qg,qz,rcS,zb,List.length_map,d1];(try simp only [ite_and]);(repeat' (first|with_reducible assumption|refine And.intro ?_ ?_|intro hp));all_goals (first|(refine hQ _ ?_;clear hQ Q)|(refine hQ _ (fun h=>?_) (fun h=>?_) <;> clear hQ Q <;> (try simp only [vki,reduceCtorEq] at h))|(refine vq ?_;kernel_rfl)|omega|assumption|with_reducible rfl|skip)))
    (simp only [vrt,Tryz.results119,vkt,seval,wT,vR,qa,qb,qg,qz,rcS,zb,List.length_map];refine Fin.val rfl ?_;(try simp only [AV.le,AV.leL]))
    all_goals first|rfl|(simp;done)
  have d1:decide ((c.cabins.length:Int)=0)=false:=decide_eq_false (by omega)
  by_cases h2:3 < c.cabins.length
  · rw [show Zt c=6 by unfold Zt;rw [if_neg h1,if_pos h2]]
    have d2:decide ((3:Int) < (c.cabins.length:Int))=true:=decide_eq_true (by omega)
    repeat' (first|(apply nx;with_reducible constructor)|refine uq (by decide) ?_|((first|refine vx env fun Q hQ=>?_|refine vz fun Q hQ=>?_);simp only [vkt,seval,wT,vR,qa,qb,qg,qz,rcS,zb,List.length_map,d1,d2];(try simp only [ite_and]);(repeat' (first|with_reducible assumption|refine And.intro ?_ ?_|intro hp));all_goals (first|(refine hQ _ ?_;clear hQ Q)|(refine hQ _ (fun h=>?_) (fun h=>?_) <;> clear hQ Q <;> (try simp only [vki,reduceCtorEq] at h))|(refine vq ?_;kernel_rfl)|omega|assumption|with_reducible rfl|skip)))
    (simp only [vrt,Tryz.results119,vkt,seval,wT,vR,qa,qb,qg,qz,rcS,zb,List.length_map];refine Fin.val rfl ?_;(try simp only [AV.le,AV.leL]))
    all_goals first|rfl|(simp;done)
  have d2:decide ((3:Int) < (c.cabins.length:Int))=false:=decide_eq_false (by omega)
  have hE:Zt c=if yo (c.cabins.map kY) ≠ 0 then yo (c.cabins.map kY) else if !inB c.secs 1 5 then 1 else 0:=by unfold Zt;rw [if_neg h1,if_neg h2]
  rw [hE]
  repeat' (first|(apply nx;with_reducible constructor)|refine uq (by decide) ?_|((first|refine vx env fun Q hQ=>?_|refine vz fun Q hQ=>?_);simp only [vkt,seval,wT,vR,qa,qb,qg,qz,rcS,zb,List.length_map,d1,d2];(try simp only [ite_and]);(repeat' (first|with_reducible assumption|refine And.intro ?_ ?_|intro hp));all_goals (first|(refine hQ _ ?_;clear hQ Q)|(refine hQ _ (fun h=>?_) (fun h=>?_) <;> clear hQ Q <;> (try simp only [vki,reduceCtorEq] at h))|(refine vq ?_;kernel_rfl)|omega|assumption|with_reducible rfl|skip)))
  refine qO (fun k:{ k:Nat // k≤c.cabins.length∧∀ j,j < k→(c.cabins.map kY).getD j 0=0 }=>rcS c k.1) (fun k=>c.cabins.length - k.1) ⟨0,Nat.zero_le _,fun j h=>absurd h (Nat.not_lt_zero _)⟩ ?_ fun ⟨k,hk,hno⟩=>?_
  · simp only [rcS]
    (refine Le.ok some [] ?_;constructor;all_goals (try simp only [vle,vkt,seval,wT,vR,qa,qb,qg,qz,rcS,zb,List.length_map]))
    all_goals first|rfl|(simp;done)
  simp only at hk hno ⊢
  simp only [rcS]
  by_cases hlt:k < c.cabins.length
  · have d3:decide ((k:Int) < (c.cabins.length:Int))=true:=decide_eq_true (by omega)
    have k0:((k:Int)).toNat=k:=rfl
    have e9:IntKind.wrap .i64 ((k:Int)+1)=((k+1:Nat):Int):=by rw [wrap64 (by omega) (by omega)];rfl
    obtain ⟨x,hx⟩:∃ x,c.cabins.getD k default=x:=⟨_,rfl⟩
    have hm:(c.cabins.map kY).getD k 0=kY x:=by rw [mapD hlt,hx]
    cases hb:inB x.beds 1 3 with
    |false =>
      have hE:kY x=1:=by simp [kY,hb]
      have hf:=kw hno (by simpa using hlt) (by rw [hm,hE];decide)
      rw [hm,hE] at hf
      rw [hf,if_pos (by decide)]
      repeat' (first|(apply nx;with_reducible constructor)|refine uq (by decide) ?_|((first|refine vx env fun Q hQ=>?_|refine vz fun Q hQ=>?_);simp only [vkt,seval,wT,vR,qa,qb,qg,qz,rcS,zb,List.length_map,d3,k0,hlt,hx,hb];(try simp only [ite_and]);(repeat' (first|with_reducible assumption|refine And.intro ?_ ?_|intro hp));all_goals (first|(refine hQ _ ?_;clear hQ Q)|(refine hQ _ (fun h=>?_) (fun h=>?_) <;> clear hQ Q <;> (try simp only [vki,reduceCtorEq] at h))|(refine vq ?_;kernel_rfl)|omega|assumption|with_reducible rfl|skip)))
      (simp only [vrt,Tryz.results119,vkt,seval,wT,vR,qa,qb,qg,qz,rcS,zb,List.length_map];refine Fin.val rfl ?_;(try simp only [AV.le,AV.leL]))
      all_goals first|rfl|(simp;done)
    |true =>
      have hE:kY x=0:=by simp [kY,hb]
      repeat' (first|(apply nx;with_reducible constructor)|refine uq (by decide) ?_|((first|refine vx env fun Q hQ=>?_|refine vz fun Q hQ=>?_);simp only [vkt,seval,wT,vR,qa,qb,qg,qz,rcS,zb,List.length_map,d3,k0,hlt,hx,hb,e9];(try simp only [ite_and]);(repeat' (first|with_reducible assumption|refine And.intro ?_ ?_|intro hp));all_goals (first|(refine hQ _ ?_;clear hQ Q)|(refine hQ _ (fun h=>?_) (fun h=>?_) <;> clear hQ Q <;> (try simp only [vki,reduceCtorEq] at h))|(refine vq ?_;kernel_rfl)|omega|assumption|with_reducible rfl|skip)))
      refine ⟨⟨k+1,hlt,fun j hj=>?_⟩,by show c.cabins.length - (k+1) < c.cabins.length - k;omega, ?_⟩
      · rcases Nat.lt_or_eq_of_le (Nat.le_of_lt_succ hj) with h2|h2
        · exact hno j h2
        · rw [h2,hm,hE]
      · simp only [rcS]
        (refine Le.ok some [] ?_;constructor;all_goals (try simp only [vle,vkt,seval,wT,vR,qa,qb,qg,qz,rcS,zb,List.length_map]))
        all_goals first|rfl|(simp;done)
  · have d3:decide ((k:Int) < (c.cabins.length:Int))=false:=decide_eq_false (by omega)
    obtain rfl:k=c.cabins.length:=by omega
    have hf:yo (c.cabins.map kY)=0:=yD (by simpa using hno)
    rw [hf,if_neg (by decide)]
    cases hs:inB c.secs 1 5 with
    |false =>
      repeat' (first|(apply nx;with_reducible constructor)|refine uq (by decide) ?_|((first|refine vx env fun Q hQ=>?_|refine vz fun Q hQ=>?_);simp only [vkt,seval,wT,vR,qa,qb,qg,qz,rcS,zb,List.length_map,d3,hs];(try simp only [ite_and]);(repeat' (first|with_reducible assumption|refine And.intro ?_ ?_|intro hp));all_goals (first|(refine hQ _ ?_;clear hQ Q)|(refine hQ _ (fun h=>?_) (fun h=>?_) <;> clear hQ Q <;> (try simp only [vki,reduceCtorEq] at h))|(refine vq ?_;kernel_rfl)|omega|assumption|with_reducible rfl|skip)))
      (simp only [vrt,Tryz.results119,vkt,seval,wT,vR,qa,qb,qg,qz,rcS,zb,List.length_map];refine Fin.val rfl ?_;(try simp only [AV.le,AV.leL]))
      all_goals first|rfl|(simp;done)
    |true =>
      repeat' (first|(apply nx;with_reducible constructor)|refine uq (by decide) ?_|((first|refine vx env fun Q hQ=>?_|refine vz fun Q hQ=>?_);simp only [vkt,seval,wT,vR,qa,qb,qg,qz,rcS,zb,List.length_map,d3,hs];(try simp only [ite_and]);(repeat' (first|with_reducible assumption|refine And.intro ?_ ?_|intro hp));all_goals (first|(refine hQ _ ?_;clear hQ Q)|(refine hQ _ (fun h=>?_) (fun h=>?_) <;> clear hQ Q <;> (try simp only [vki,reduceCtorEq] at h))|(refine vq ?_;kernel_rfl)|omega|assumption|with_reducible rfl|skip)))
      (simp only [vrt,Tryz.results119,vkt,seval,wT,vR,qa,qb,qg,qz,rcS,zb,List.length_map];refine Fin.val rfl ?_;(try simp only [AV.le,AV.leL]))
      all_goals first|rfl|(simp;done)
def Yg:List AV→Prop × AV
  |[.agg [.sl c0,.v (.int .i64 c1),.sl c2]]=>(c0=(c0.map qp).map qg∧c2=(c2.map dTk).map eTk∧((⟨(c0.map qp),c1,(c2.map dTk)⟩:Chart)).cabins.length≤maxLen,aI (Zt ((⟨(c0.map qp),c1,(c2.map dTk)⟩:Chart))))
  |_=>(False,.junk)
theorem ercar {A:Frm→Prop}:qE A Tryz.prog 119 (qU true Yg):=qW fun vs hv h=>by
  clear hv
  unfold Yg at h ⊢
  split at h
  · rename_i c0 c1 c2;obtain ⟨q0,q1,k0⟩:=h
    refine ⟨by first|trivial|(simp [AV.plain,AV.plainL,aI,aB,qB,qc,ql,qf,aTk,cTk];done)|(repeat' split) <;> simp [AV.plain,AV.plainL,aI,aB,qB,qc,ql,qf,aTk,cTk],fun _=>(by simp [AV.flat,AV.flatL,aI,aB]), ?_⟩
    have:=QhZ ((⟨(c0.map qp),c1,(c2.map dTk)⟩:Chart)) k0
    simp only [qR,qa,aI,ql,qb,← q0,← q1] at this
    first|exact this|(simp only [qR,qa,aI,ql,qb,← q0,← q1];exact this)
  · exact h.elim
def xm:=vj @ty3 (vj @x8 (vj @jO (vj @Zi (vj @yK (vj @ti3.eq_1 (vj @xw.eq_1 (vj @jo.eq_1 (vj @Qt.eq_1 @yn.eq_1))))))))
def JC:=vj @aI.eq_1 (@aB.eq_1)
theorem Qen (c:Chart) (hc:c.cabins.length≤maxLen) (hs:c.sold.length≤100000):FnV Tryz.prog 82 [qa c] (aI (wH c)):=by
  have env:Env (fun _=>True) Tryz.prog tyB (tab [(119,qU true Yg),(112,qU true xA)]):=qL ⟨ercar,Qi4,trivial⟩
  refine Fn.of (A:=fun _=>True) (n0:=0) (D:=noD) (Fn0 Tryz.func82 rfl (fun vs w=>by kernel_rfl) (by kernel_rfl)) (by simp) (by simp [AV.ids,AV.idsL,qa,qb]) (fun i o h=>by cases h) (fun _ _ _ _=>trivial) qF ?_
  have ec:(⟨c.cabins,c.secs,c.sold⟩:Chart)=c:=rfl
  rw [QaV]
  obtain ⟨e,he⟩:∃ e,Zt c=e:=⟨_,rfl⟩
  by_cases h0:e=0
  · have hok:=QiF (he.trans h0)
    rw [h0] at he
    rw [he,if_neg (by decide)]
    by_cases h8:8 < c.sold.length
    · rw [if_pos h8]
      have d1:decide ((8:Int) < (c.sold.length:Int))=true:=decide_eq_true (by omega)
      repeat' (first|(apply nx;with_reducible constructor)|refine uq (by decide) ?_|((first|refine vx env fun Q hQ=>?_|refine vz fun Q hQ=>?_);simp only [vkt,seval,xm,JC,qa,qb,ql,mTk,qd,Yg,xA,List.length_map,hc,ec,he,d1,decide_true];(try simp only [ite_and]);(repeat' (first|with_reducible assumption|refine And.intro ?_ ?_|intro hp));all_goals (first|(refine hQ _ ?_;clear hQ Q)|(refine hQ _ (fun h=>?_) (fun h=>?_) <;> clear hQ Q <;> (try simp only [vki,reduceCtorEq] at h))|(refine vq ?_;kernel_rfl)|omega|assumption|with_reducible rfl|skip)))
      (simp only [vrt,Tryz.results82,vkt,seval,xm,JC,qa,qb,ql,mTk,qd,Yg,xA,List.length_map];refine Fin.val rfl ?_;(try simp only [AV.le,AV.leL]))
      all_goals first|rfl|(simp;done)
    · rw [if_neg h8]
      have d1:decide ((8:Int) < (c.sold.length:Int))=false:=decide_eq_false (by omega)
      have h100:c.sold.length≤100:=by omega
      repeat' (first|(apply nx;with_reducible constructor)|refine uq (by decide) ?_|((first|refine vx env fun Q hQ=>?_|refine vz fun Q hQ=>?_);simp only [vkt,seval,xm,JC,qa,qb,ql,mTk,qd,Yg,xA,List.length_map,hc,ec,he,d1,hok,h100,decide_true];(try simp only [ite_and]);(repeat' (first|with_reducible assumption|refine And.intro ?_ ?_|intro hp));all_goals (first|(refine hQ _ ?_;clear hQ Q)|(refine hQ _ (fun h=>?_) (fun h=>?_) <;> clear hQ Q <;> (try simp only [vki,reduceCtorEq] at h))|(refine vq ?_;kernel_rfl)|omega|assumption|with_reducible rfl|skip)))
      (simp only [vrt,Tryz.results82,vkt,seval,xm,JC,qa,qb,ql,mTk,qd,Yg,xA,List.length_map];refine Fin.val rfl ?_;(try simp only [AV.le,AV.leL]))
      all_goals first|rfl|(simp;done)
  · rw [he,if_pos h0]
    have d0:decide (e=0)=false:=decide_eq_false h0
    repeat' (first|(apply nx;with_reducible constructor)|refine uq (by decide) ?_|((first|refine vx env fun Q hQ=>?_|refine vz fun Q hQ=>?_);simp only [vkt,seval,xm,JC,qa,qb,ql,mTk,qd,Yg,xA,List.length_map,hc,ec,he,d0];(try simp only [ite_and]);(repeat' (first|with_reducible assumption|refine And.intro ?_ ?_|intro hp));all_goals (first|(refine hQ _ ?_;clear hQ Q)|(refine hQ _ (fun h=>?_) (fun h=>?_) <;> clear hQ Q <;> (try simp only [vki,reduceCtorEq] at h))|(refine vq ?_;kernel_rfl)|omega|assumption|with_reducible rfl|skip)))
    (simp only [vrt,Tryz.results82,vkt,seval,xm,JC,qa,qb,ql,mTk,qd,Yg,xA,List.length_map];refine Fin.val rfl ?_;(try simp only [AV.le,AV.leL]))
    all_goals first|rfl|(simp;done)
def ZZ:List AV→Prop × AV
  |[.agg [.sl c0,.v (.int .i64 c1),.sl c2]]=>(c0=(c0.map qp).map qg∧c2=(c2.map dTk).map eTk∧((⟨(c0.map qp),c1,(c2.map dTk)⟩:Chart)).cabins.length≤maxLen∧((⟨(c0.map qp),c1,(c2.map dTk)⟩:Chart)).sold.length≤100000,aI (wH ((⟨(c0.map qp),c1,(c2.map dTk)⟩:Chart))))
  |_=>(False,.junk)
theorem Qir {A:Frm→Prop}:qE A Tryz.prog 82 (qU true ZZ):=qW fun vs hv h=>by
  clear hv
  unfold ZZ at h ⊢
  split at h
  · rename_i c0 c1 c2;obtain ⟨q0,q1,k0,k1⟩:=h
    refine ⟨by first|trivial|(simp [AV.plain,AV.plainL,aI,aB,qB,qc,ql,qf,aTk,cTk];done)|(repeat' split) <;> simp [AV.plain,AV.plainL,aI,aB,qB,qc,ql,qf,aTk,cTk],fun _=>(by simp [AV.flat,AV.flatL,aI,aB]), ?_⟩
    have:=Qen ((⟨(c0.map qp),c1,(c2.map dTk)⟩:Chart)) k0 k1
    simp only [qR,qa,aI,ql,qb,← q0,← q1] at this
    first|exact this|(simp only [qR,qa,aI,ql,qb,← q0,← q1];exact this)
  · exact h.elim
def Vx:=vj @WM (vj @x8 (vj @jO (vj @yK (vj @WL (vj @ZG.eq_1 (vj @xw.eq_1 (vj @jo.eq_1 (vj @yn.eq_1 @ZC.eq_1))))))))
def Qc3:=vj @aI.eq_1 (@aB.eq_1)
theorem QfV (c:Chart) (h3:c.cabins.length≤100000) (h4:c.sold.length≤100000):FnV Tryz.prog 14 [qa c] (qa c):=by
  have env:Env (fun _=>True) Tryz.prog tyB (tab []):=qL trivial
  obtain ⟨b1,b2,b3,b5,b4⟩:=b47 h3
  obtain ⟨c1,c2,c3,c5,c4⟩:=b47 h4
  refine Fn.of (A:=fun _=>True) (n0:=0) (D:=noD) (Fn0 Tryz.func14 rfl (fun vs w=>by kernel_rfl) (by kernel_rfl)) (by simp) (by simp [AV.ids,AV.idsL,qa,qb]) (fun i o h=>by cases h) (fun _ _ _ _=>trivial) qF ?_
  repeat' (first|(apply nx;with_reducible constructor)|refine uq (by decide) ?_|((first|refine vx env fun Q hQ=>?_|refine vz fun Q hQ=>?_);simp only [vkt,seval,Vx,Qc3,qa,qb,rTk,zo,mTk,qd,List.nil_append,List.length_map,b4,c4];(try simp only [ite_and]);(repeat' (first|with_reducible assumption|refine And.intro ?_ ?_|intro hp));all_goals (first|(refine hQ _ ?_;clear hQ Q)|(refine hQ _ (fun h=>?_) (fun h=>?_) <;> clear hQ Q <;> (try simp only [vki,reduceCtorEq] at h))|(refine vq ?_;kernel_rfl)|omega|assumption|with_reducible rfl|skip)))
  (simp only [vrt,Tryz.results14,vkt,seval,Vx,Qc3,qa,qb,rTk,zo,mTk,qd,List.nil_append,List.length_map];refine Fin.val rfl ?_;(try simp only [AV.le,AV.leL]))
  all_goals first|rfl|(simp;done)|exact ⟨⟨_,_,rfl⟩,trivial,⟨_,_,rfl⟩,trivial⟩
def yX:List AV→Prop × AV
  |[.agg [.sl c0,.v (.int .i64 c1),.sl c2]]=>(c0=(c0.map qp).map qg∧c2=(c2.map dTk).map eTk∧((⟨(c0.map qp),c1,(c2.map dTk)⟩:Chart)).cabins.length≤100000∧((⟨(c0.map qp),c1,(c2.map dTk)⟩:Chart)).sold.length≤100000,qa ((⟨(c0.map qp),c1,(c2.map dTk)⟩:Chart)))
  |_=>(False,.junk)
theorem QjF {A:Frm→Prop}:qE A Tryz.prog 14 (qU false yX):=qW fun vs hv h=>by
  clear hv
  unfold yX at h ⊢
  split at h
  · rename_i c0 c1 c2;obtain ⟨q0,q1,k0,k1⟩:=h
    refine ⟨by first|trivial|(simp [AV.plain,AV.plainL,aI,aB,qB,qc,ql,qf,aTk,cTk];done)|(repeat' split) <;> simp [AV.plain,AV.plainL,aI,aB,qB,qc,ql,qf,aTk,cTk],fun h=>absurd h (by decide), ?_⟩
    have:=QfV ((⟨(c0.map qp),c1,(c2.map dTk)⟩:Chart)) k0 k1
    simp only [qR,qa,aI,ql,qb,← q0,← q1] at this
    first|exact this|(simp only [qR,qa,aI,ql,qb,← q0,← q1];exact this)
  · exact h.elim
def Wy:=vj @WM (vj @x8 (vj @jO (vj @yK (vj @WL (vj @ZG.eq_1 (vj @xw.eq_1 (vj @jo.eq_1 (vj @yn.eq_1 @ZC.eq_1))))))))
def Uz:=vj @aI.eq_1 (@aB.eq_1)
theorem Qem (cs ts:List (List DV)) (s:Int) (h1:zK 2 cs) (h2:zK 7 ts) (h3:cs.length≤100000) (h4:ts.length≤100000):Fn noB Tryz.prog 90 [.agg [.sl cs,.v (.int .i64 s),.sl ts]] noH (.agg [.row 0,.v (.int .i64 s),.row 1]) (qj [(0,.row 89 2 cs),(1,.row 64 7 ts)]) 0:=by
  have env:Env (fun _=>True) Tryz.prog tyB (tab []):=qL trivial
  obtain ⟨b1,b2,b3,b5,b4⟩:=b47 h3
  obtain ⟨c1,c2,c3,c5,c4⟩:=b47 h4
  refine Fn.of (A:=fun _=>True) (n0:=0) (D:=noD) (Fn0 Tryz.func90 rfl (fun vs w=>by kernel_rfl) (by kernel_rfl)) (by simp) (by simp [AV.ids,AV.idsL]) (fun i o h=>by cases h) (fun _ _ _ _=>trivial) qF ?_
  repeat' (first|(apply nx;with_reducible constructor)|refine uq (by decide) ?_|((first|refine vx env fun Q hQ=>?_|refine vz fun Q hQ=>?_);simp only [vkt,seval,Wy,Uz,qa,qb,rTk,zo,List.nil_append,h1,h2];(try simp only [ite_and]);(repeat' (first|with_reducible assumption|refine And.intro ?_ ?_|intro hp));all_goals (first|(refine hQ _ ?_;clear hQ Q)|(refine hQ _ (fun h=>?_) (fun h=>?_) <;> clear hQ Q <;> (try simp only [vki,reduceCtorEq] at h))|(refine vq ?_;kernel_rfl)|omega|assumption|with_reducible rfl|skip)))
  (simp only [vrt,Tryz.results90,vkt,seval,Wy,Uz,qa,qb,rTk,zo,List.nil_append];refine Fin.ok (fun j=>[2,3][j]?) [] ?_ ?_ ?_ ?_ ?_ rfl;all_goals (try simp only [vle,vkt,seval,Wy,Uz,qa,qb,rTk,zo,List.nil_append]))
  all_goals first|rfl|(simp;done)
def YJ (_:St):List AV→Option Pk
  |[.agg [.sl cs,.v (.int .i64 s),.sl ts]]=>some { pre:=zK 2 cs∧zK 7 ts∧cs.length≤100000∧ts.length≤100000,ar:=[.agg [.sl cs,.v (.int .i64 s),.sl ts]],v:=.agg [.row 0,.v (.int .i64 s),.row 1],L1:=[some (.row 89 2 cs),some (.row 64 7 ts)] }
  |_=>none
theorem Qic {A:Frm→Prop}:qE A Tryz.prog 90 (fnE YJ):=wh fun S bs q h hp=>by
  unfold YJ at h
  split at h
  · cases h;exact Qem _ _ _ hp.1 hp.2.1 hp.2.2.1 hp.2.2.2
  · cases h
def Vq:=vj @x8 (vj @jO (vj @yK (vj @xw.eq_1 (vj @jo.eq_1 @yn.eq_1))))
def QcM:=vj @aI.eq_1 (@aB.eq_1)
theorem QfJ (c:Chart) (l:List Tk) (h1:c.cabins.length≤100000) (h2:c.sold.length≤1000) (h3:l.length≤1000):FnV Tryz.prog 60 [qa c,ql l] (qa ⟨c.cabins,c.secs,c.sold++l⟩):=by
  have env:Env (fun _=>True) Tryz.prog tyB (tab [(90,fnE YJ)]):=qL ⟨Qic,trivial⟩
  refine Fn.of (A:=fun _=>True) (n0:=0) (D:=noD) (Fn0 Tryz.func60 rfl (fun vs w=>by kernel_rfl) (by kernel_rfl)) (by simp) (by simp [AV.ids,AV.idsL,qa,qb,ql]) (fun i o h=>by cases h) (fun _ _ _ _=>trivial) qF ?_
  have hmx:(100000:Nat)≤maxLen:=by decide
  have h4:c.sold.length≤100000:=by omega
  have h5:c.sold.length+l.length≤maxLen:=by omega
  have hA:qa ⟨c.cabins,c.secs,c.sold++l⟩=.agg [.sl (c.cabins.map qg),.v (.int .i64 c.secs),.sl (c.sold.map eTk++l.map eTk)]:=by
    unfold qa qb
    rw [List.map_append]
  rw [hA]
  repeat' (first|(apply nx;with_reducible constructor)|refine uq (by decide) ?_|((first|refine vx env fun Q hQ=>?_|refine vz fun Q hQ=>?_);simp only [vkt,seval,Vq,QcM,qa,qb,ql,rTk,zo,mTk,qd,YJ,List.length_map,h1,h4,h5];(try simp only [ite_and]);(repeat' (first|with_reducible assumption|refine And.intro ?_ ?_|intro hp));all_goals (first|(refine hQ _ ?_;clear hQ Q)|(refine hQ _ (fun h=>?_) (fun h=>?_) <;> clear hQ Q <;> (try simp only [vki,reduceCtorEq] at h))|(refine vq ?_;kernel_rfl)|omega|assumption|with_reducible rfl|skip)))
  (simp only [vrt,Tryz.results60,vkt,seval,Vq,QcM,qa,qb,ql,rTk,zo,mTk,qd,YJ,List.length_map];refine Fin.val rfl ?_;(try simp only [AV.le,AV.leL]))
  all_goals first|rfl|(simp;done)|exact ⟨⟨_,_,rfl⟩,trivial,⟨_,_,rfl⟩,trivial⟩
def xU:List AV→Prop × AV
  |[.agg [.sl c0,.v (.int .i64 c1),.sl c2],.sl l]=>(c0=(c0.map qp).map qg∧c2=(c2.map dTk).map eTk∧l=(l.map dTk).map eTk∧((⟨(c0.map qp),c1,(c2.map dTk)⟩:Chart)).cabins.length≤100000∧((⟨(c0.map qp),c1,(c2.map dTk)⟩:Chart)).sold.length≤1000∧(l.map dTk).length≤1000,qa ⟨((⟨(c0.map qp),c1,(c2.map dTk)⟩:Chart)).cabins,((⟨(c0.map qp),c1,(c2.map dTk)⟩:Chart)).secs,((⟨(c0.map qp),c1,(c2.map dTk)⟩:Chart)).sold++(l.map dTk)⟩)
  |_=>(False,.junk)
theorem QjQ {A:Frm→Prop}:qE A Tryz.prog 60 (qU false xU):=qW fun vs hv h=>by
  clear hv
  unfold xU at h ⊢
  split at h
  · rename_i c0 c1 c2 l;obtain ⟨q0,q1,q2,k0,k1,k2⟩:=h
    refine ⟨by first|trivial|(simp [AV.plain,AV.plainL,aI,aB,qB,qc,ql,qf,aTk,cTk];done)|(repeat' split) <;> simp [AV.plain,AV.plainL,aI,aB,qB,qc,ql,qf,aTk,cTk],fun h=>absurd h (by decide), ?_⟩
    have:=QfJ ((⟨(c0.map qp),c1,(c2.map dTk)⟩:Chart)) (l.map dTk) k0 k1 k2
    simp only [qR,qa,aI,ql,qb,← q0,← q1,← q2] at this
    first|exact this|(simp only [qR,qa,aI,ql,qb,← q0,← q1,← q2];exact this)
  · exact h.elim
def Vu:=vj @ty3 (vj @QG (vj @ti3.eq_1 @kX.eq_1))
def QcP:=vj @aI.eq_1 (vj @aB.eq_1 (vj @qB.eq_1 (@QbF)))
theorem Qgc (l:List Int) (h:l.length≤100000):FnV Tryz.prog 49 [qB l] (qB l):=by
  have env:Env (fun _=>True) Tryz.prog tyB (tab []):=qL trivial
  refine Fn.of (A:=fun _=>True) (n0:=0) (D:=noD) (Fn0 Tryz.func49 rfl (fun vs w=>by kernel_rfl) (by kernel_rfl)) (by simp) (by simp [AV.ids,qB]) (fun i o h=>by cases h) (fun _ _ _ _=>trivial) qF ?_
  have hmx:(100000:Nat)≤maxLen:=by decide
  have h5:l.length≤maxLen:=by omega
  repeat' (first|(apply nx;with_reducible constructor)|refine uq (by decide) ?_|((first|refine vx env fun Q hQ=>?_|refine vz fun Q hQ=>?_);simp only [vkt,seval,Vu,QcP,List.nil_append,List.length_map,h,h5];(try simp only [ite_and]);(repeat' (first|with_reducible assumption|refine And.intro ?_ ?_|intro hp));all_goals (first|(refine hQ _ ?_;clear hQ Q)|(refine hQ _ (fun h=>?_) (fun h=>?_) <;> clear hQ Q <;> (try simp only [vki,reduceCtorEq] at h))|(refine vq ?_;kernel_rfl)|omega|assumption|with_reducible rfl|skip)))
  (simp only [vrt,Tryz.results49,vkt,seval,Vu,QcP,List.nil_append,List.length_map];refine Fin.val rfl ?_;(try simp only [AV.le,AV.leL]))
  all_goals first|rfl|(simp;done)|exact ⟨_,_,rfl⟩
def Xi:List AV→Prop × AV
  |[.sl l]=>(l=(l.map za).map zJ∧(l.map za).length≤100000,qB (l.map za))
  |_=>(False,.junk)
theorem Qjy {A:Frm→Prop}:qE A Tryz.prog 49 (qU false Xi):=qW fun vs hv h=>by
  clear hv
  unfold Xi at h ⊢
  split at h
  · rename_i l;obtain ⟨q0,k0⟩:=h
    refine ⟨by first|trivial|(simp [AV.plain,AV.plainL,aI,aB,qB,qc,ql,qf,aTk,cTk];done)|(repeat' split) <;> simp [AV.plain,AV.plainL,aI,aB,qB,qc,ql,qf,aTk,cTk],fun h=>absurd h (by decide), ?_⟩
    have:=Qgc (l.map za) k0
    simp only [qB,← q0] at this
    first|exact this|(simp only [qB,← q0];exact this)
  · exact h.elim
def Vs:=vj @ty3 (vj @QG (vj @Qy (vj @ti3.eq_1 (vj @kX.eq_1 @kU.eq_1))))
def QcO:=vj @aI.eq_1 (vj @aB.eq_1 (vj @qB.eq_1 (@QT)))
theorem QeX (a:Ask) (h:a.sexes.length≤100000):FnV Tryz.prog 15 [qx a] (qx a):=by
  have env:Env (fun _=>True) Tryz.prog tyB (tab [(49,qU false Xi)]):=qL ⟨Qjy,trivial⟩
  refine Fn.of (A:=fun _=>True) (n0:=0) (D:=noD) (Fn0 Tryz.func15 rfl (fun vs w=>by kernel_rfl) (by kernel_rfl)) (by simp) (by simp [AV.ids,AV.idsL,qx,qh]) (fun i o h=>by cases h) (fun _ _ _ _=>trivial) qF ?_
  repeat' (first|(apply nx;with_reducible constructor)|refine uq (by decide) ?_|((first|refine vx env fun Q hQ=>?_|refine vz fun Q hQ=>?_);simp only [vkt,seval,Vs,QcO,qx,qh,Xi,List.length_map,h];(try simp only [ite_and]);(repeat' (first|with_reducible assumption|refine And.intro ?_ ?_|intro hp));all_goals (first|(refine hQ _ ?_;clear hQ Q)|(refine hQ _ (fun h=>?_) (fun h=>?_) <;> clear hQ Q <;> (try simp only [vki,reduceCtorEq] at h))|(refine vq ?_;kernel_rfl)|omega|assumption|with_reducible rfl|skip)))
  (simp only [vrt,Tryz.results15,vkt,seval,Vs,QcO,qx,qh,Xi,List.length_map];refine Fin.val rfl ?_;(try simp only [AV.le,AV.leL]))
  all_goals first|rfl|(simp;done)|exact ⟨_,_,rfl⟩
def yY:List AV→Prop × AV
  |[.agg [.v (.int .i64 a0),.v (.int .i64 a1),.v (.int .i64 a2),.sl a3,.v (.bool a4)]]=>(a3=(a3.map za).map zJ∧((⟨a0,a1,a2,(a3.map za),a4⟩:Ask)).sexes.length≤100000,qx ((⟨a0,a1,a2,(a3.map za),a4⟩:Ask)))
  |_=>(False,.junk)
theorem Qka {A:Frm→Prop}:qE A Tryz.prog 15 (qU false yY):=qW fun vs hv h=>by
  clear hv
  unfold yY at h ⊢
  split at h
  · rename_i a0 a1 a2 a3 a4;obtain ⟨q0,k0⟩:=h
    refine ⟨by first|trivial|(simp [AV.plain,AV.plainL,aI,aB,qB,qc,ql,qf,aTk,cTk];done)|(repeat' split) <;> simp [AV.plain,AV.plainL,aI,aB,qB,qc,ql,qf,aTk,cTk],fun h=>absurd h (by decide), ?_⟩
    have:=QeX ((⟨a0,a1,a2,(a3.map za),a4⟩:Ask)) k0
    simp only [qx,aB,aI,qB,qh,← q0] at this
    first|exact this|(simp only [qx,aB,aI,qB,qh,← q0];exact this)
  · exact h.elim
def Zw:=vj @ty3 (vj @WM (vj @x8 (vj @jO (vj @yK (vj @WL (vj @ti3.eq_1 (vj @ZG.eq_1 (vj @xw.eq_1 (vj @jo.eq_1 (vj @yn.eq_1 @ZC.eq_1))))))))))
def VH:=vj @aI.eq_1 (@aB.eq_1)
theorem QgK (c:Chart):FnV Tryz.prog 8 [qa c] (aB (decide (20 < (c.cabins.length:Int)) || decide (20 < (c.sold.length:Int)))):=by
  have env:Env (fun _=>True) Tryz.prog tyB (tab []):=qL trivial
  refine Fn.of (A:=fun _=>True) (n0:=0) (D:=noD) (Fn0 Tryz.func8 rfl (fun vs w=>by kernel_rfl) (by kernel_rfl)) (by simp) (by simp [AV.ids,AV.idsL,qa,qb]) (fun i o h=>by cases h) (fun _ _ _ _=>trivial) qF ?_
  cases q:decide (20 < (c.cabins.length:Int)) with
  |true =>
    repeat' (first|(apply nx;with_reducible constructor)|refine uq (by decide) ?_|((first|refine vx env fun Q hQ=>?_|refine vz fun Q hQ=>?_);simp only [vkt,seval,Zw,VH,qa,qb,List.length_map,q];(try simp only [ite_and]);(repeat' (first|with_reducible assumption|refine And.intro ?_ ?_|intro hp));all_goals (first|(refine hQ _ ?_;clear hQ Q)|(refine hQ _ (fun h=>?_) (fun h=>?_) <;> clear hQ Q <;> (try simp only [vki,reduceCtorEq] at h))|(refine vq ?_;kernel_rfl)|omega|assumption|with_reducible rfl|skip)))
    (simp only [vrt,Tryz.results8,vkt,seval,Zw,VH,qa,qb,List.length_map];refine Fin.val rfl ?_;(try simp only [AV.le,AV.leL]))
    all_goals first|rfl|(simp;done)
  |false =>
    repeat' (first|(apply nx;with_reducible constructor)|refine uq (by decide) ?_|((first|refine vx env fun Q hQ=>?_|refine vz fun Q hQ=>?_);simp only [vkt,seval,Zw,VH,qa,qb,List.length_map,q];(try simp only [ite_and]);(repeat' (first|with_reducible assumption|refine And.intro ?_ ?_|intro hp));all_goals (first|(refine hQ _ ?_;clear hQ Q)|(refine hQ _ (fun h=>?_) (fun h=>?_) <;> clear hQ Q <;> (try simp only [vki,reduceCtorEq] at h))|(refine vq ?_;kernel_rfl)|omega|assumption|with_reducible rfl|skip)))
    (simp only [vrt,Tryz.results8,vkt,seval,Zw,VH,qa,qb,List.length_map];refine Fin.val rfl ?_;(try simp only [AV.le,AV.leL]))
    all_goals first|rfl|(simp;done)
def yV:List AV→Prop × AV
  |[.agg [.sl c0,.v (.int .i64 c1),.sl c2]]=>(c0=(c0.map qp).map qg∧c2=(c2.map dTk).map eTk,aB (decide (20 < ((((⟨(c0.map qp),c1,(c2.map dTk)⟩:Chart)).cabins.length:Nat):Int)) || decide (20 < ((((⟨(c0.map qp),c1,(c2.map dTk)⟩:Chart)).sold.length:Nat):Int))))
  |_=>(False,.junk)
theorem QjB {A:Frm→Prop}:qE A Tryz.prog 8 (qU true yV):=qW fun vs hv h=>by
  clear hv
  unfold yV at h ⊢
  split at h
  · rename_i c0 c1 c2;obtain ⟨q0,q1⟩:=h
    refine ⟨by first|trivial|(simp [AV.plain,AV.plainL,aI,aB,qB,qc,ql,qf,aTk,cTk];done)|(repeat' split) <;> simp [AV.plain,AV.plainL,aI,aB,qB,qc,ql,qf,aTk,cTk],fun _=>(by simp [AV.flat,AV.flatL,aI,aB]), ?_⟩
    have:=QgK ((⟨(c0.map qp),c1,(c2.map dTk)⟩:Chart))
    simp only [qR,qa,aI,ql,qb,← q0,← q1] at this
    first|exact this|(simp only [qR,qa,aI,ql,qb,← q0,← q1];exact this)
  · exact h.elim
end Go.Sym.B
namespace Go.Sym.B
open Go Go.Sym Go.Proofs Go.Sym.C
def rrS (c:Chart) (n i:Nat) (T:List (Nat × AV)):St:={ t:=asg (T++[(1,.ptr 0 0),(3,aI n),(4,aI i)]),h:=qj [(0,.cells (qb c))],n:=1 }
def zM:=vj @ty3 (vj @WM (vj @jO (vj @xf (vj @WL (vj @ti3.eq_1 (vj @ZG.eq_1 (vj @jo.eq_1 (vj @vB.eq_1 @ZC.eq_1))))))))
def yg:=vj @aI.eq_1 (@aB.eq_1)
theorem Qe2 (c:Chart) (hv:Van c) (hsm:YM c.sold):FnV Tryz.prog 59 [qa c] (aI (vS c.cabins c.secs c.sold)):=by
  have env:Env (fun _=>True) Tryz.prog tyB (tab [(108,qU true xJ)]):=qL ⟨eheld,trivial⟩
  refine Fn.of (A:=fun _=>True) (n0:=0) (D:=noD) (Fn0 Tryz.func59 rfl (fun vs w=>by kernel_rfl) (by kernel_rfl)) (by simp) (by simp [AV.ids,AV.idsL,qa,qb]) (fun i o h=>by cases h) (fun _ _ _ _=>trivial) qF ?_
  have ec:(⟨c.cabins,c.secs,c.sold⟩:Chart)=c:=rfl
  rw [← QiI hv]
  have hsec:=hv.car.secs
  have hcab:=hv.car.cabs
  have hbds:=hv.car.beds
  have b3:=hv.many
  repeat' (first|(apply nx;with_reducible constructor)|refine uq (by decide) ?_|((first|refine vx env fun Q hQ=>?_|refine vz fun Q hQ=>?_);simp only [vkt,seval,zM,yg,qf,qg,qz,qa,qb,mTk,qd,rrS,xJ,List.length_map];(try simp only [ite_and]);(repeat' (first|with_reducible assumption|refine And.intro ?_ ?_|intro hp));all_goals (first|(refine hQ _ ?_;clear hQ Q)|(refine hQ _ (fun h=>?_) (fun h=>?_) <;> clear hQ Q <;> (try simp only [vki,reduceCtorEq] at h))|(refine vq ?_;kernel_rfl)|omega|assumption|with_reducible rfl|skip)))
  refine qO (fun i:{ i:Nat // i≤c.cabins.length }=>rrS c (rrN c i.1) i.1 []) (fun i=>c.cabins.length - i.1) ⟨0,Nat.zero_le _⟩ ?_ fun ⟨i,hi⟩=>?_
  · simp only [rrS,show rrN c 0=0 from rfl,List.cons_append,List.nil_append]
    (refine Le.ok some [] ?_;constructor;all_goals (try simp only [vle,vkt,seval,zM,yg,qf,qg,qz,qa,qb,mTk,qd,rrS,xJ,List.length_map]))
    all_goals first|rfl|(simp;done)
  simp only at hi ⊢
  have hbd:=rr_bd hv i (by omega)
  have hS:rrN c (i+1)=rrN c i+ZF (fun s=>emR c i s) c.secs.toNat:=rfl
  obtain ⟨R,hR⟩:∃ R,rrN c i=R:=⟨_,rfl⟩
  rw [hR] at hbd hS
  simp only [rrS,hR,List.nil_append]
  by_cases hil:i < c.cabins.length
  · have d1:decide ((i:Int) < (c.cabins.length:Int))=true:=decide_eq_true (by omega)
    have e9:IntKind.wrap .i64 ((i:Int)+1)=((i+1:Nat):Int):=by rw [wrap64 (by omega) (by omega)];rfl
    have i0:((i:Int)).toNat=i:=rfl
    obtain ⟨x,hx⟩:∃ x,c.cabins.getD i default=x:=⟨_,rfl⟩
    have hxb:=hbds x (by rw [← hx];exact yL hil)
    repeat' (first|(apply nx;with_reducible constructor)|refine uq (by decide) ?_|((first|refine vx env fun Q hQ=>?_|refine vz fun Q hQ=>?_);simp only [vkt,seval,zM,yg,qf,qg,qz,qa,qb,mTk,qd,rrS,xJ,List.length_map,d1];(try simp only [ite_and]);(repeat' (first|with_reducible assumption|refine And.intro ?_ ?_|intro hp));all_goals (first|(refine hQ _ ?_;clear hQ Q)|(refine hQ _ (fun h=>?_) (fun h=>?_) <;> clear hQ Q <;> (try simp only [vki,reduceCtorEq] at h))|(refine vq ?_;kernel_rfl)|omega|assumption|with_reducible rfl|skip)))
    refine qO (fun s:{ s:Nat // s≤c.secs.toNat }=>rrS c (R+ZF (fun s=>emR c i s) s.1) i [(5,aI s.1)]) (fun s=>c.secs.toNat - s.1) ⟨0,Nat.zero_le _⟩ ?_ fun ⟨s,hs⟩=>?_
    · simp only [rrS,show ZF (fun s=>emR c i s) 0=0 from rfl,Nat.add_zero,List.cons_append,List.nil_append]
      (refine Le.ok some [] ?_;constructor;all_goals (try simp only [vle,vkt,seval,zM,yg,qf,qg,qz,qa,qb,mTk,qd,rrS,xJ,List.length_map]))
      all_goals first|rfl|(simp;done)
    simp only at hs ⊢
    have hCl:=QcX (fun s=>emR c i s) s
    have hC:=Y5 (fun s=>emR c i s) s
    obtain ⟨Q,hQ⟩:∃ Q,ZF (fun s=>emR c i s) s=Q:=⟨_,rfl⟩
    rw [hQ] at hCl hC
    simp only [rrS,hQ,List.cons_append,List.nil_append]
    obtain ⟨N,hN⟩:∃ N,R+Q=N:=⟨_,rfl⟩
    simp only [hN]
    by_cases hsl:s < c.secs.toNat
    · have d2:decide ((s:Int) < c.secs)=true:=decide_eq_true (by omega)
      have e8:IntKind.wrap .i64 ((s:Int)+1)=((s+1:Nat):Int):=by rw [wrap64 (by omega) (by omega)];rfl
      have w1:IntKind.wrap .i64 ((N:Int)+1)=((N+1:Nat):Int):=by rw [wrap64 (by omega) (by omega)];rfl
      have hER:emR c i s=emH c s i x.beds.toNat:=by unfold emR;rw [hx]
      repeat' (first|(apply nx;with_reducible constructor)|refine uq (by decide) ?_|((first|refine vx env fun Q hQ=>?_|refine vz fun Q hQ=>?_);simp only [vkt,seval,zM,yg,qf,qg,qz,qa,qb,mTk,qd,rrS,xJ,List.length_map,d2];(try simp only [ite_and]);(repeat' (first|with_reducible assumption|refine And.intro ?_ ?_|intro hp));all_goals (first|(refine hQ _ ?_;clear hQ Q)|(refine hQ _ (fun h=>?_) (fun h=>?_) <;> clear hQ Q <;> (try simp only [vki,reduceCtorEq] at h))|(refine vq ?_;kernel_rfl)|omega|assumption|with_reducible rfl|skip)))
      refine qO (fun k:{ k:Nat // k≤x.beds.toNat }=>rrS c N i [(5,aI s),(6,aB (emH c s i k.1)),(7,aI k.1)]) (fun k=>x.beds.toNat - k.1) ⟨0,Nat.zero_le _⟩ ?_ fun ⟨k,hk⟩=>?_
      · simp only [rrS,show emH c s i 0=true from rfl,List.cons_append,List.nil_append]
        (refine Le.ok some [] ?_;constructor;all_goals (try simp only [vle,vkt,seval,zM,yg,qf,qg,qz,qa,qb,mTk,qd,rrS,xJ,List.length_map]))
        all_goals first|rfl|(simp;done)
      simp only at hk ⊢
      have hSk:=QgY c s i k
      obtain ⟨em,hem⟩:∃ em,emH c s i k=em:=⟨_,rfl⟩
      rw [hem] at hSk
      simp only [rrS,hem,List.cons_append,List.nil_append]
      by_cases hkl:k < x.beds.toNat
      · have d3:decide ((k:Int) < x.beds)=true:=decide_eq_true (by omega)
        have e7:IntKind.wrap .i64 ((k:Int)+1)=((k+1:Nat):Int):=by rw [wrap64 (by omega) (by omega)];rfl
        cases em with
        |true =>
          rw [Bool.true_and] at hSk
          obtain ⟨hh,hhe⟩:∃ hh,WJ c.sold ⟨(i:Int),(k:Int)⟩ s=hh:=⟨_,rfl⟩
          rw [hhe] at hSk
          repeat' (first|(apply nx;with_reducible constructor)|refine uq (by decide) ?_|((first|refine vx env fun Q hQ=>?_|refine vz fun Q hQ=>?_);simp only [vkt,seval,zM,yg,qf,qg,qz,qa,qb,mTk,qd,rrS,xJ,List.length_map,d3,i0,hil,hx,ec,b3,hsm,hhe,e7];(try simp only [ite_and]);(repeat' (first|with_reducible assumption|refine And.intro ?_ ?_|intro hp));all_goals (first|(refine hQ _ ?_;clear hQ Q)|(refine hQ _ (fun h=>?_) (fun h=>?_) <;> clear hQ Q <;> (try simp only [vki,reduceCtorEq] at h))|(refine vq ?_;kernel_rfl)|omega|assumption|with_reducible rfl|skip)))
          refine ⟨⟨k+1,hkl⟩,by show x.beds.toNat - (k+1) < x.beds.toNat - k;omega, ?_⟩
          simp only [rrS,hSk,List.cons_append,List.nil_append]
          (refine Le.ok some [] ?_;constructor;all_goals (try simp only [vle,vkt,seval,zM,yg,qf,qg,qz,qa,qb,mTk,qd,rrS,xJ,List.length_map]))
          all_goals first|rfl|(simp;done)
        |false =>
          rw [Bool.false_and] at hSk
          repeat' (first|(apply nx;with_reducible constructor)|refine uq (by decide) ?_|((first|refine vx env fun Q hQ=>?_|refine vz fun Q hQ=>?_);simp only [vkt,seval,zM,yg,qf,qg,qz,qa,qb,mTk,qd,rrS,xJ,List.length_map,d3,i0,hil,hx,e7];(try simp only [ite_and]);(repeat' (first|with_reducible assumption|refine And.intro ?_ ?_|intro hp));all_goals (first|(refine hQ _ ?_;clear hQ Q)|(refine hQ _ (fun h=>?_) (fun h=>?_) <;> clear hQ Q <;> (try simp only [vki,reduceCtorEq] at h))|(refine vq ?_;kernel_rfl)|omega|assumption|with_reducible rfl|skip)))
          refine ⟨⟨k+1,hkl⟩,by show x.beds.toNat - (k+1) < x.beds.toNat - k;omega, ?_⟩
          simp only [rrS,hSk,List.cons_append,List.nil_append]
          (refine Le.ok some [] ?_;constructor;all_goals (try simp only [vle,vkt,seval,zM,yg,qf,qg,qz,qa,qb,mTk,qd,rrS,xJ,List.length_map]))
          all_goals first|rfl|(simp;done)
      · have d3:decide ((k:Int) < x.beds)=false:=decide_eq_false (by omega)
        obtain rfl:k=x.beds.toNat:=by omega
        rw [hem] at hER
        cases em with
        |true =>
          rw [hER,if_pos rfl] at hC
          repeat' (first|(apply nx;with_reducible constructor)|refine uq (by decide) ?_|((first|refine vx env fun Q hQ=>?_|refine vz fun Q hQ=>?_);simp only [vkt,seval,zM,yg,qf,qg,qz,qa,qb,mTk,qd,rrS,xJ,List.length_map,d3,i0,hil,hx,e8,w1];(try simp only [ite_and]);(repeat' (first|with_reducible assumption|refine And.intro ?_ ?_|intro hp));all_goals (first|(refine hQ _ ?_;clear hQ Q)|(refine hQ _ (fun h=>?_) (fun h=>?_) <;> clear hQ Q <;> (try simp only [vki,reduceCtorEq] at h))|(refine vq ?_;kernel_rfl)|omega|assumption|with_reducible rfl|skip)))
          refine ⟨⟨s+1,hsl⟩,by show c.secs.toNat - (s+1) < c.secs.toNat - s;omega, ?_⟩
          simp only [rrS,hC,← Nat.add_assoc,hN,List.cons_append,List.nil_append]
          (refine Le.ok some [] ?_;constructor;all_goals (try simp only [vle,vkt,seval,zM,yg,qf,qg,qz,qa,qb,mTk,qd,rrS,xJ,List.length_map]))
          all_goals first|rfl|(simp;done)
        |false =>
          have hC:ZF (fun s=>emR c i s) (s+1)=Q:=by rw [hC,hER];rfl
          repeat' (first|(apply nx;with_reducible constructor)|refine uq (by decide) ?_|((first|refine vx env fun Q hQ=>?_|refine vz fun Q hQ=>?_);simp only [vkt,seval,zM,yg,qf,qg,qz,qa,qb,mTk,qd,rrS,xJ,List.length_map,d3,i0,hil,hx,e8];(try simp only [ite_and]);(repeat' (first|with_reducible assumption|refine And.intro ?_ ?_|intro hp));all_goals (first|(refine hQ _ ?_;clear hQ Q)|(refine hQ _ (fun h=>?_) (fun h=>?_) <;> clear hQ Q <;> (try simp only [vki,reduceCtorEq] at h))|(refine vq ?_;kernel_rfl)|omega|assumption|with_reducible rfl|skip)))
          refine ⟨⟨s+1,hsl⟩,by show c.secs.toNat - (s+1) < c.secs.toNat - s;omega, ?_⟩
          simp only [rrS,hC,hN,List.cons_append,List.nil_append]
          (refine Le.ok some [] ?_;constructor;all_goals (try simp only [vle,vkt,seval,zM,yg,qf,qg,qz,qa,qb,mTk,qd,rrS,xJ,List.length_map]))
          all_goals first|rfl|(simp;done)
    · have d2:decide ((s:Int) < c.secs)=false:=decide_eq_false (by omega)
      obtain rfl:s=c.secs.toNat:=by omega
      rw [hQ,hN] at hS
      repeat' (first|(apply nx;with_reducible constructor)|refine uq (by decide) ?_|((first|refine vx env fun Q hQ=>?_|refine vz fun Q hQ=>?_);simp only [vkt,seval,zM,yg,qf,qg,qz,qa,qb,mTk,qd,rrS,xJ,List.length_map,d2,e9];(try simp only [ite_and]);(repeat' (first|with_reducible assumption|refine And.intro ?_ ?_|intro hp));all_goals (first|(refine hQ _ ?_;clear hQ Q)|(refine hQ _ (fun h=>?_) (fun h=>?_) <;> clear hQ Q <;> (try simp only [vki,reduceCtorEq] at h))|(refine vq ?_;kernel_rfl)|omega|assumption|with_reducible rfl|skip)))
      refine ⟨⟨i+1,hil⟩,by show c.cabins.length - (i+1) < c.cabins.length - i;omega, ?_⟩
      simp only [rrS,hS,List.cons_append,List.nil_append]
      (refine Le.ok some [] ?_;constructor;all_goals (try simp only [vle,vkt,seval,zM,yg,qf,qg,qz,qa,qb,mTk,qd,rrS,xJ,List.length_map]))
      all_goals first|rfl|(simp;done)
  · have d1:decide ((i:Int) < (c.cabins.length:Int))=false:=decide_eq_false (by omega)
    obtain rfl:i=c.cabins.length:=by omega
    rw [hR]
    repeat' (first|(apply nx;with_reducible constructor)|refine uq (by decide) ?_|((first|refine vx env fun Q hQ=>?_|refine vz fun Q hQ=>?_);simp only [vkt,seval,zM,yg,qf,qg,qz,qa,qb,mTk,qd,rrS,xJ,List.length_map,d1];(try simp only [ite_and]);(repeat' (first|with_reducible assumption|refine And.intro ?_ ?_|intro hp));all_goals (first|(refine hQ _ ?_;clear hQ Q)|(refine hQ _ (fun h=>?_) (fun h=>?_) <;> clear hQ Q <;> (try simp only [vki,reduceCtorEq] at h))|(refine vq ?_;kernel_rfl)|omega|assumption|with_reducible rfl|skip)))
    (simp only [vrt,Tryz.results59,vkt,seval,zM,yg,qf,qg,qz,qa,qb,mTk,qd,rrS,xJ,List.length_map];refine Fin.val rfl ?_;(try simp only [AV.le,AV.leL]))
    all_goals first|rfl|(simp;done)
def xY:List AV→Prop × AV
  |[.agg [.sl c0,.v (.int .i64 c1),.sl c2]]=>(c0=(c0.map qp).map qg∧c2=(c2.map dTk).map eTk∧Van ((⟨(c0.map qp),c1,(c2.map dTk)⟩:Chart))∧YM ((⟨(c0.map qp),c1,(c2.map dTk)⟩:Chart)).sold,aI (vS ((⟨(c0.map qp),c1,(c2.map dTk)⟩:Chart)).cabins ((⟨(c0.map qp),c1,(c2.map dTk)⟩:Chart)).secs ((⟨(c0.map qp),c1,(c2.map dTk)⟩:Chart)).sold))
  |_=>(False,.junk)
theorem Qke {A:Frm→Prop}:qE A Tryz.prog 59 (qU true xY):=qW fun vs hv h=>by
  clear hv
  unfold xY at h ⊢
  split at h
  · rename_i c0 c1 c2;obtain ⟨q0,q1,k0,k1⟩:=h
    refine ⟨by first|trivial|(simp [AV.plain,AV.plainL,aI,aB,qB,qc,ql,qf,aTk,cTk];done)|(repeat' split) <;> simp [AV.plain,AV.plainL,aI,aB,qB,qc,ql,qf,aTk,cTk],fun _=>(by simp [AV.flat,AV.flatL,aI,aB]), ?_⟩
    have:=Qe2 ((⟨(c0.map qp),c1,(c2.map dTk)⟩:Chart)) k0 k1
    simp only [qR,qa,aI,ql,qb,← q0,← q1] at this
    first|exact this|(simp only [qR,qa,aI,ql,qb,← q0,← q1];exact this)
  · exact h.elim
end Go.Sym.B
namespace Go.Sym.B
open Go Go.Sym Go.Proofs Go.Sym.C
end Go.Sym.B
namespace Go.Sym.B
open Go Go.Sym Go.Proofs Go.Sym.C
end Go.Sym.B
namespace Go.Sym.B
open Go Go.Sym Go.Proofs Go.Sym.C
theorem TkOk.to' {c:Chart} {t:Tk} (h:TkOk c t) (l:List Tk):TkOk ⟨c.cabins,c.secs,l⟩ t:=⟨h.party,h.sex,h.cab,h.bed,h.frm,h.way,h.to⟩
theorem CarOk.to' {c:Chart} (h:CarOk c) (l:List Tk):CarOk ⟨c.cabins,c.secs,l⟩:=⟨h.cabs,h.beds,h.secs⟩
end Go.Sym.B
namespace Go.Sym.B
open Go Go.Sym Go.Proofs Go.Sym.C
def raS (c:Chart) (a:Ask) (T:List (Nat × AV)):St:={ t:=asg (T++[(2,.ptr 0 0),(3,.ptr 1 0),(4,aI 0)]),h:=qj [(0,.cells (qb c)),(1,.cells (qh a))],n:=2 }
theorem Qgu {α:Type} {p:α→Bool} {l:List α} {k:Nat} {d:α} (h:k < l.length) (hp:p (l.getD k d)=true):l.any p=true:=List.any_eq_true.2 ⟨_,yL h,hp⟩
theorem Qgk {α:Type} {p:α→Bool} {l:List α} {d:α} (h:∀ j,j < l.length→p (l.getD j d)=false):l.any p=false:=by
  rw [List.any_eq_false]
  intro x hx
  obtain ⟨j,hj,rfl⟩:=List.getElem_of_mem hx
  have:=h j hj
  rw [List.getD_eq_getElem?_getD,List.getElem?_eq_getElem hj] at this
  simpa using this
def zS:=vj @ty3 (vj @x8 (vj @jO (vj @QG (vj @Qy (vj @Zi (vj @yK (vj @ti3.eq_1 (vj @xw.eq_1 (vj @jo.eq_1 (vj @kX.eq_1 (vj @kU.eq_1 (vj @Qt.eq_1 @yn.eq_1))))))))))))
def ym:=vj @aI.eq_1 (vj @aB.eq_1 (vj @qB.eq_1 (vj @zJ.eq_1 (vj @Ud (@QT)))))
theorem Qix (c:Chart) (a:Ask) (hs:c.sold.length≤100) (ha:a.sexes.length≤maxLen):FnV Tryz.prog 105 [qa c,qx a] (aI (xg c a)):=by
  have env:Env (fun _=>True) Tryz.prog tyB (tab [(83,qU true zb),(84,qU true zU)]):=qL ⟨QaD,Qjb,trivial⟩
  refine Fn.of (A:=fun _=>True) (n0:=0) (D:=noD) (Fn0 Tryz.func105 rfl (fun vs w=>by kernel_rfl) (by kernel_rfl)) (by simp) (by simp [AV.ids,AV.idsL,qa,qb,qx,qh]) (fun i o h=>by cases h) (fun _ _ _ _=>trivial) qF ?_
  have ec:(⟨c.cabins,c.secs,c.sold⟩:Chart)=c:=rfl
  have hmx:maxLen=9223372036854775807:=by decide
  cases h1:inB a.party 1 99 with
  |false =>
    rw [show xg c a=1 by simp [xg,h1]]
    repeat' (first|(apply nx;with_reducible constructor)|refine uq (by decide) ?_|((first|refine vx env fun Q hQ=>?_|refine vz fun Q hQ=>?_);simp only [vkt,seval,zS,ym,aTk,cTk,gTk,eTk,mTk,qd,qa,qb,qx,qh,raS,zb,zU,List.length_map,h1];(try simp only [ite_and]);(repeat' (first|with_reducible assumption|refine And.intro ?_ ?_|intro hp));all_goals (first|(refine hQ _ ?_;clear hQ Q)|(refine hQ _ (fun h=>?_) (fun h=>?_) <;> clear hQ Q <;> (try simp only [vki,reduceCtorEq] at h))|(refine vq ?_;kernel_rfl)|omega|assumption|with_reducible rfl|skip)))
    (simp only [vrt,Tryz.results105,vkt,seval,zS,ym,aTk,cTk,gTk,eTk,mTk,qd,qa,qb,qx,qh,raS,zb,zU,List.length_map];refine Fin.val rfl ?_;(try simp only [AV.le,AV.leL]))
    all_goals first|rfl|(simp;done)
  |true =>
  repeat' (first|(apply nx;with_reducible constructor)|refine uq (by decide) ?_|((first|refine vx env fun Q hQ=>?_|refine vz fun Q hQ=>?_);simp only [vkt,seval,zS,ym,aTk,cTk,gTk,eTk,mTk,qd,qa,qb,qx,qh,raS,zb,zU,List.length_map,h1];(try simp only [ite_and]);(repeat' (first|with_reducible assumption|refine And.intro ?_ ?_|intro hp));all_goals (first|(refine hQ _ ?_;clear hQ Q)|(refine hQ _ (fun h=>?_) (fun h=>?_) <;> clear hQ Q <;> (try simp only [vki,reduceCtorEq] at h))|(refine vq ?_;kernel_rfl)|omega|assumption|with_reducible rfl|skip)))
  refine qO (fun k:{ k:Nat // k≤c.sold.length∧∀ j,j < k→decide ((c.sold.getD j default).party=a.party)=false }=>raS c a [(5,aI k.1)]) (fun k=>c.sold.length - k.1) ⟨0,Nat.zero_le _,fun j h=>absurd h (Nat.not_lt_zero _)⟩ ?_ fun ⟨k,hk,hno⟩=>?_
  · simp only [raS,List.cons_append,List.nil_append]
    (refine Le.ok some [] ?_;constructor;all_goals (try simp only [vle,vkt,seval,zS,ym,aTk,cTk,gTk,eTk,mTk,qd,qa,qb,qx,qh,raS,zb,zU,List.length_map]))
    all_goals first|rfl|(simp;done)
  simp only at hk hno ⊢
  simp only [raS,List.cons_append,List.nil_append]
  by_cases hlt:k < c.sold.length
  · have d1:decide ((k:Int) < (c.sold.length:Int))=true:=decide_eq_true (by omega)
    have k0:((k:Int)).toNat=k:=rfl
    have e9:IntKind.wrap .i64 ((k:Int)+1)=((k+1:Nat):Int):=by rw [wrap64 (by omega) (by omega)];rfl
    have hg:=hTk hlt
    obtain ⟨x,hx⟩:∃ x,c.sold.getD k default=x:=⟨_,rfl⟩
    rw [hx] at hg
    cases hp:decide (x.party=a.party) with
    |true =>
      have h2:c.sold.any (fun t=>decide (t.party=a.party))=true:=Qgu (d:=default) hlt (by rw [hx];exact hp)
      rw [show xg c a=4 by simp only [xg,h1,h2];rfl]
      repeat' (first|(apply nx;with_reducible constructor)|refine uq (by decide) ?_|((first|refine vx env fun Q hQ=>?_|refine vz fun Q hQ=>?_);simp only [vkt,seval,zS,ym,aTk,cTk,gTk,eTk,mTk,qd,qa,qb,qx,qh,raS,zb,zU,List.length_map,d1,k0,hlt,hg,hx,hp];(try simp only [ite_and]);(repeat' (first|with_reducible assumption|refine And.intro ?_ ?_|intro hp));all_goals (first|(refine hQ _ ?_;clear hQ Q)|(refine hQ _ (fun h=>?_) (fun h=>?_) <;> clear hQ Q <;> (try simp only [vki,reduceCtorEq] at h))|(refine vq ?_;kernel_rfl)|omega|assumption|with_reducible rfl|skip)))
      (simp only [vrt,Tryz.results105,vkt,seval,zS,ym,aTk,cTk,gTk,eTk,mTk,qd,qa,qb,qx,qh,raS,zb,zU,List.length_map];refine Fin.val rfl ?_;(try simp only [AV.le,AV.leL]))
      all_goals first|rfl|(simp;done)
    |false =>
      repeat' (first|(apply nx;with_reducible constructor)|refine uq (by decide) ?_|((first|refine vx env fun Q hQ=>?_|refine vz fun Q hQ=>?_);simp only [vkt,seval,zS,ym,aTk,cTk,gTk,eTk,mTk,qd,qa,qb,qx,qh,raS,zb,zU,List.length_map,d1,k0,hlt,hg,hx,hp,e9];(try simp only [ite_and]);(repeat' (first|with_reducible assumption|refine And.intro ?_ ?_|intro hp));all_goals (first|(refine hQ _ ?_;clear hQ Q)|(refine hQ _ (fun h=>?_) (fun h=>?_) <;> clear hQ Q <;> (try simp only [vki,reduceCtorEq] at h))|(refine vq ?_;kernel_rfl)|omega|assumption|with_reducible rfl|skip)))
      refine ⟨⟨k+1,hlt,fun j hj=>?_⟩,by show c.sold.length - (k+1) < c.sold.length - k;omega, ?_⟩
      · rcases Nat.lt_or_eq_of_le (Nat.le_of_lt_succ hj) with h2|h2
        · exact hno j h2
        · rw [h2,hx];exact hp
      · simp only [raS,List.cons_append,List.nil_append]
        (refine Le.ok some [] ?_;constructor;all_goals (try simp only [vle,vkt,seval,zS,ym,aTk,cTk,gTk,eTk,mTk,qd,qa,qb,qx,qh,raS,zb,zU,List.length_map]))
        all_goals first|rfl|(simp;done)
  · have d1:decide ((k:Int) < (c.sold.length:Int))=false:=decide_eq_false (by omega)
    obtain rfl:k=c.sold.length:=by omega
    have h2:c.sold.any (fun t=>decide (t.party=a.party))=false:=Qgk hno
    obtain ⟨w,hw⟩:∃ w,QI c.secs a.frm a.to=w:=⟨_,rfl⟩
    by_cases hw0:w=0
    case neg =>
      rw [show xg c a=w by unfold xg;rw [h1,h2,hw];simp [hw0]]
      have d2:decide (w=0)=false:=decide_eq_false hw0
      repeat' (first|(apply nx;with_reducible constructor)|refine uq (by decide) ?_|((first|refine vx env fun Q hQ=>?_|refine vz fun Q hQ=>?_);simp only [vkt,seval,zS,ym,aTk,cTk,gTk,eTk,mTk,qd,qa,qb,qx,qh,raS,zb,zU,List.length_map,d1,ec,hw,d2];(try simp only [ite_and]);(repeat' (first|with_reducible assumption|refine And.intro ?_ ?_|intro hp));all_goals (first|(refine hQ _ ?_;clear hQ Q)|(refine hQ _ (fun h=>?_) (fun h=>?_) <;> clear hQ Q <;> (try simp only [vki,reduceCtorEq] at h))|(refine vq ?_;kernel_rfl)|omega|assumption|with_reducible rfl|skip)))
      (simp only [vrt,Tryz.results105,vkt,seval,zS,ym,aTk,cTk,gTk,eTk,mTk,qd,qa,qb,qx,qh,raS,zb,zU,List.length_map];refine Fin.val rfl ?_;(try simp only [AV.le,AV.leL]))
      all_goals first|rfl|(simp;done)
    rw [hw0] at hw
    by_cases h0:a.sexes.length=0
    · rw [show xg c a=7 by unfold xg;rw [h1,h2,hw];simp [zG,h0]]
      have d3:decide ((a.sexes.length:Int)=0)=true:=decide_eq_true (by omega)
      repeat' (first|(apply nx;with_reducible constructor)|refine uq (by decide) ?_|((first|refine vx env fun Q hQ=>?_|refine vz fun Q hQ=>?_);simp only [vkt,seval,zS,ym,aTk,cTk,gTk,eTk,mTk,qd,qa,qb,qx,qh,raS,zb,zU,List.length_map,d1,ec,hw,d3,decide_true,Bool.not_true];(try simp only [ite_and]);(repeat' (first|with_reducible assumption|refine And.intro ?_ ?_|intro hp));all_goals (first|(refine hQ _ ?_;clear hQ Q)|(refine hQ _ (fun h=>?_) (fun h=>?_) <;> clear hQ Q <;> (try simp only [vki,reduceCtorEq] at h))|(refine vq ?_;kernel_rfl)|omega|assumption|with_reducible rfl|skip)))
      (simp only [vrt,Tryz.results105,vkt,seval,zS,ym,aTk,cTk,gTk,eTk,mTk,qd,qa,qb,qx,qh,raS,zb,zU,List.length_map];refine Fin.val rfl ?_;(try simp only [AV.le,AV.leL]))
      all_goals first|rfl|(simp;done)
    have d3:decide ((a.sexes.length:Int)=0)=false:=decide_eq_false (by omega)
    by_cases h3:3 < a.sexes.length
    · have d4:decide ((3:Int) < (a.sexes.length:Int))=true:=decide_eq_true (by omega)
      have hcnt:zG a.sexes.length 1 3=6:=by unfold zG;rw [if_neg (by omega),if_pos (by omega)]
      rw [show xg c a=6 by unfold xg;rw [h1,h2,hw,hcnt];rfl]
      repeat' (first|(apply nx;with_reducible constructor)|refine uq (by decide) ?_|((first|refine vx env fun Q hQ=>?_|refine vz fun Q hQ=>?_);simp only [vkt,seval,zS,ym,aTk,cTk,gTk,eTk,mTk,qd,qa,qb,qx,qh,raS,zb,zU,List.length_map,d1,ec,hw,d3,d4,decide_true,Bool.not_true];(try simp only [ite_and]);(repeat' (first|with_reducible assumption|refine And.intro ?_ ?_|intro hp));all_goals (first|(refine hQ _ ?_;clear hQ Q)|(refine hQ _ (fun h=>?_) (fun h=>?_) <;> clear hQ Q <;> (try simp only [vki,reduceCtorEq] at h))|(refine vq ?_;kernel_rfl)|omega|assumption|with_reducible rfl|skip)))
      (simp only [vrt,Tryz.results105,vkt,seval,zS,ym,aTk,cTk,gTk,eTk,mTk,qd,qa,qb,qx,qh,raS,zb,zU,List.length_map];refine Fin.val rfl ?_;(try simp only [AV.le,AV.leL]))
      all_goals first|rfl|(simp;done)
    have d4:decide ((3:Int) < (a.sexes.length:Int))=false:=decide_eq_false (by omega)
    have hcnt:zG a.sexes.length 1 3=0:=by unfold zG;rw [if_neg (by omega),if_neg (by omega)]
    rw [show xg c a=yo (a.sexes.map ZT) by unfold xg;rw [h1,h2,hw,hcnt];rfl]
    repeat' (first|(apply nx;with_reducible constructor)|refine uq (by decide) ?_|((first|refine vx env fun Q hQ=>?_|refine vz fun Q hQ=>?_);simp only [vkt,seval,zS,ym,aTk,cTk,gTk,eTk,mTk,qd,qa,qb,qx,qh,raS,zb,zU,List.length_map,d1,ec,hw,d3,d4,decide_true,Bool.not_true];(try simp only [ite_and]);(repeat' (first|with_reducible assumption|refine And.intro ?_ ?_|intro hp));all_goals (first|(refine hQ _ ?_;clear hQ Q)|(refine hQ _ (fun h=>?_) (fun h=>?_) <;> clear hQ Q <;> (try simp only [vki,reduceCtorEq] at h))|(refine vq ?_;kernel_rfl)|omega|assumption|with_reducible rfl|skip)))
    refine qO (fun k:{ k:Nat // k≤a.sexes.length∧∀ j,j < k→(a.sexes.map ZT).getD j 0=0 }=>raS c a [(7,aI k.1)]) (fun k=>a.sexes.length - k.1) ⟨0,Nat.zero_le _,fun j h=>absurd h (Nat.not_lt_zero _)⟩ ?_ fun ⟨k,hk,hno⟩=>?_
    · simp only [raS,List.cons_append,List.nil_append]
      (refine Le.ok some [] ?_;constructor;all_goals (try simp only [vle,vkt,seval,zS,ym,aTk,cTk,gTk,eTk,mTk,qd,qa,qb,qx,qh,raS,zb,zU,List.length_map]))
      all_goals first|rfl|(simp;done)
    simp only at hk hno ⊢
    simp only [raS,List.cons_append,List.nil_append]
    by_cases hlt:k < a.sexes.length
    · have d5:decide ((k:Int) < (a.sexes.length:Int))=true:=decide_eq_true (by omega)
      have k0:((k:Int)).toNat=k:=rfl
      have e9:IntKind.wrap .i64 ((k:Int)+1)=((k+1:Nat):Int):=by rw [wrap64 (by omega) (by omega)];rfl
      have hg:=hInt hlt
      obtain ⟨x,hx⟩:∃ x,a.sexes.getD k 0=x:=⟨_,rfl⟩
      rw [hx] at hg
      have hm:(a.sexes.map ZT).getD k 0=ZT x:=by rw [mapD hlt];exact congrArg ZT hx
      cases hb:inB x 1 2 with
      |false =>
        have hE:ZT x=8:=by simp [ZT,hb]
        have hf:=kw hno (by simpa using hlt) (by rw [hm,hE];decide)
        rw [hm,hE] at hf
        rw [hf]
        repeat' (first|(apply nx;with_reducible constructor)|refine uq (by decide) ?_|((first|refine vx env fun Q hQ=>?_|refine vz fun Q hQ=>?_);simp only [vkt,seval,zS,ym,aTk,cTk,gTk,eTk,mTk,qd,qa,qb,qx,qh,raS,zb,zU,List.length_map,d5,k0,hlt,hg,hx,hb];(try simp only [ite_and]);(repeat' (first|with_reducible assumption|refine And.intro ?_ ?_|intro hp));all_goals (first|(refine hQ _ ?_;clear hQ Q)|(refine hQ _ (fun h=>?_) (fun h=>?_) <;> clear hQ Q <;> (try simp only [vki,reduceCtorEq] at h))|(refine vq ?_;kernel_rfl)|omega|assumption|with_reducible rfl|skip)))
        (simp only [vrt,Tryz.results105,vkt,seval,zS,ym,aTk,cTk,gTk,eTk,mTk,qd,qa,qb,qx,qh,raS,zb,zU,List.length_map];refine Fin.val rfl ?_;(try simp only [AV.le,AV.leL]))
        all_goals first|rfl|(simp;done)
      |true =>
        have hE:ZT x=0:=by simp [ZT,hb]
        repeat' (first|(apply nx;with_reducible constructor)|refine uq (by decide) ?_|((first|refine vx env fun Q hQ=>?_|refine vz fun Q hQ=>?_);simp only [vkt,seval,zS,ym,aTk,cTk,gTk,eTk,mTk,qd,qa,qb,qx,qh,raS,zb,zU,List.length_map,d5,k0,hlt,hg,hx,hb,e9];(try simp only [ite_and]);(repeat' (first|with_reducible assumption|refine And.intro ?_ ?_|intro hp));all_goals (first|(refine hQ _ ?_;clear hQ Q)|(refine hQ _ (fun h=>?_) (fun h=>?_) <;> clear hQ Q <;> (try simp only [vki,reduceCtorEq] at h))|(refine vq ?_;kernel_rfl)|omega|assumption|with_reducible rfl|skip)))
        refine ⟨⟨k+1,hlt,fun j hj=>?_⟩,by show a.sexes.length - (k+1) < a.sexes.length - k;omega, ?_⟩
        · rcases Nat.lt_or_eq_of_le (Nat.le_of_lt_succ hj) with h2|h2
          · exact hno j h2
          · rw [h2,hm,hE]
        · simp only [raS,List.cons_append,List.nil_append]
          (refine Le.ok some [] ?_;constructor;all_goals (try simp only [vle,vkt,seval,zS,ym,aTk,cTk,gTk,eTk,mTk,qd,qa,qb,qx,qh,raS,zb,zU,List.length_map]))
          all_goals first|rfl|(simp;done)
    · have d5:decide ((k:Int) < (a.sexes.length:Int))=false:=decide_eq_false (by omega)
      obtain rfl:k=a.sexes.length:=by omega
      rw [yD (l:=a.sexes.map ZT) (by simpa using hno)]
      repeat' (first|(apply nx;with_reducible constructor)|refine uq (by decide) ?_|((first|refine vx env fun Q hQ=>?_|refine vz fun Q hQ=>?_);simp only [vkt,seval,zS,ym,aTk,cTk,gTk,eTk,mTk,qd,qa,qb,qx,qh,raS,zb,zU,List.length_map,d5];(try simp only [ite_and]);(repeat' (first|with_reducible assumption|refine And.intro ?_ ?_|intro hp));all_goals (first|(refine hQ _ ?_;clear hQ Q)|(refine hQ _ (fun h=>?_) (fun h=>?_) <;> clear hQ Q <;> (try simp only [vki,reduceCtorEq] at h))|(refine vq ?_;kernel_rfl)|omega|assumption|with_reducible rfl|skip)))
      (simp only [vrt,Tryz.results105,vkt,seval,zS,ym,aTk,cTk,gTk,eTk,mTk,qd,qa,qb,qx,qh,raS,zb,zU,List.length_map];refine Fin.val rfl ?_;(try simp only [AV.le,AV.leL]))
      all_goals first|rfl|(simp;done)
def XW:List AV→Prop × AV
  |[.agg [.sl c0,.v (.int .i64 c1),.sl c2],.agg [.v (.int .i64 a0),.v (.int .i64 a1),.v (.int .i64 a2),.sl a3,.v (.bool a4)]]=>(c0=(c0.map qp).map qg∧c2=(c2.map dTk).map eTk∧a3=(a3.map za).map zJ∧((⟨(c0.map qp),c1,(c2.map dTk)⟩:Chart)).sold.length≤100∧((⟨a0,a1,a2,(a3.map za),a4⟩:Ask)).sexes.length≤maxLen,aI (xg ((⟨(c0.map qp),c1,(c2.map dTk)⟩:Chart)) ((⟨a0,a1,a2,(a3.map za),a4⟩:Ask))))
  |_=>(False,.junk)
theorem erask {A:Frm→Prop}:qE A Tryz.prog 105 (qU true XW):=qW fun vs hv h=>by
  clear hv
  unfold XW at h ⊢
  split at h
  · rename_i c0 c1 c2 a0 a1 a2 a3 a4;obtain ⟨q0,q1,q2,k0,k1⟩:=h
    refine ⟨by first|trivial|(simp [AV.plain,AV.plainL,aI,aB,qB,qc,ql,qf,aTk,cTk];done)|(repeat' split) <;> simp [AV.plain,AV.plainL,aI,aB,qB,qc,ql,qf,aTk,cTk],fun _=>(by simp [AV.flat,AV.flatL,aI,aB]), ?_⟩
    have:=Qix ((⟨(c0.map qp),c1,(c2.map dTk)⟩:Chart)) ((⟨a0,a1,a2,(a3.map za),a4⟩:Ask)) k0 k1
    simp only [qx,aB,qR,qa,aI,qB,ql,qh,qb,← q0,← q1,← q2] at this
    first|exact this|(simp only [qx,aB,qR,qa,aI,qB,ql,qh,qb,← q0,← q1,← q2];exact this)
  · exact h.elim
def Z0:=vj @jO (vj @Qy (vj @Zi (vj @jo.eq_1 (vj @kU.eq_1 @Qt.eq_1))))
def Ug:=vj @aI.eq_1 (vj @aB.eq_1 (vj @qB.eq_1 (@QT)))
theorem QeQ (c:Chart) (a:Ask) (hc:c.cabins.length≤maxLen) (hs:c.sold.length≤100) (ha:a.sexes.length≤maxLen):FnV Tryz.prog 53 [qa c,qx a] (aI (zu c a)):=by
  have env:Env (fun _=>True) Tryz.prog tyB (tab [(82,qU true ZZ),(105,qU true XW)]):=qL ⟨Qir,erask,trivial⟩
  refine Fn.of (A:=fun _=>True) (n0:=0) (D:=noD) (Fn0 Tryz.func53 rfl (fun vs w=>by kernel_rfl) (by kernel_rfl)) (by simp) (by simp [AV.ids,AV.idsL,qa,qb,qx,qh]) (fun i o h=>by cases h) (fun _ _ _ _=>trivial) qF ?_
  have ec:(⟨c.cabins,c.secs,c.sold⟩:Chart)=c:=rfl
  have ea:(⟨a.party,a.frm,a.to,a.sexes,a.dog⟩:Ask)=a:=rfl
  have hs2:c.sold.length≤100000:=by omega
  obtain ⟨e,he⟩:∃ e,wH c=e:=⟨_,rfl⟩
  by_cases h0:e=0
  · rw [show zu c a=xg c a by unfold zu;rw [he,h0];rfl]
    rw [h0] at he
    repeat' (first|(apply nx;with_reducible constructor)|refine uq (by decide) ?_|((first|refine vx env fun Q hQ=>?_|refine vz fun Q hQ=>?_);simp only [vkt,seval,Z0,Ug,mTk,qd,qa,qb,qx,qh,ZZ,XW,List.length_map,ec,ea,hc,hs,hs2,ha,he,decide_true];(try simp only [ite_and]);(repeat' (first|with_reducible assumption|refine And.intro ?_ ?_|intro hp));all_goals (first|(refine hQ _ ?_;clear hQ Q)|(refine hQ _ (fun h=>?_) (fun h=>?_) <;> clear hQ Q <;> (try simp only [vki,reduceCtorEq] at h))|(refine vq ?_;kernel_rfl)|omega|assumption|with_reducible rfl|skip)))
    (simp only [vrt,Tryz.results53,vkt,seval,Z0,Ug,mTk,qd,qa,qb,qx,qh,ZZ,XW,List.length_map];refine Fin.val rfl ?_;(try simp only [AV.le,AV.leL]))
    all_goals first|rfl|(simp;done)
  · rw [show zu c a=e by unfold zu;rw [he,if_pos h0]]
    have d0:decide (e=0)=false:=decide_eq_false h0
    repeat' (first|(apply nx;with_reducible constructor)|refine uq (by decide) ?_|((first|refine vx env fun Q hQ=>?_|refine vz fun Q hQ=>?_);simp only [vkt,seval,Z0,Ug,mTk,qd,qa,qb,qx,qh,ZZ,XW,List.length_map,ec,ea,hc,hs2,ha,he,d0];(try simp only [ite_and]);(repeat' (first|with_reducible assumption|refine And.intro ?_ ?_|intro hp));all_goals (first|(refine hQ _ ?_;clear hQ Q)|(refine hQ _ (fun h=>?_) (fun h=>?_) <;> clear hQ Q <;> (try simp only [vki,reduceCtorEq] at h))|(refine vq ?_;kernel_rfl)|omega|assumption|with_reducible rfl|skip)))
    (simp only [vrt,Tryz.results53,vkt,seval,Z0,Ug,mTk,qd,qa,qb,qx,qh,ZZ,XW,List.length_map];refine Fin.val rfl ?_;(try simp only [AV.le,AV.leL]))
    all_goals first|rfl|(simp;done)
def yR:List AV→Prop × AV
  |[.agg [.sl c0,.v (.int .i64 c1),.sl c2],.agg [.v (.int .i64 a0),.v (.int .i64 a1),.v (.int .i64 a2),.sl a3,.v (.bool a4)]]=>(c0=(c0.map qp).map qg∧c2=(c2.map dTk).map eTk∧a3=(a3.map za).map zJ∧((⟨(c0.map qp),c1,(c2.map dTk)⟩:Chart)).cabins.length≤maxLen∧((⟨(c0.map qp),c1,(c2.map dTk)⟩:Chart)).sold.length≤100∧((⟨a0,a1,a2,(a3.map za),a4⟩:Ask)).sexes.length≤maxLen,aI (zu ((⟨(c0.map qp),c1,(c2.map dTk)⟩:Chart)) ((⟨a0,a1,a2,(a3.map za),a4⟩:Ask))))
  |_=>(False,.junk)
theorem Qgm {A:Frm→Prop}:qE A Tryz.prog 53 (qU true yR):=qW fun vs hv h=>by
  clear hv
  unfold yR at h ⊢
  split at h
  · rename_i c0 c1 c2 a0 a1 a2 a3 a4;obtain ⟨q0,q1,q2,k0,k1,k2⟩:=h
    refine ⟨by first|trivial|(simp [AV.plain,AV.plainL,aI,aB,qB,qc,ql,qf,aTk,cTk];done)|(repeat' split) <;> simp [AV.plain,AV.plainL,aI,aB,qB,qc,ql,qf,aTk,cTk],fun _=>(by simp [AV.flat,AV.flatL,aI,aB]), ?_⟩
    have:=QeQ ((⟨(c0.map qp),c1,(c2.map dTk)⟩:Chart)) ((⟨a0,a1,a2,(a3.map za),a4⟩:Ask)) k0 k1 k2
    simp only [qx,aB,qR,qa,aI,qB,ql,qh,qb,← q0,← q1,← q2] at this
    first|exact this|(simp only [qx,aB,qR,qa,aI,qB,ql,qh,qb,← q0,← q1,← q2];exact this)
  · exact h.elim
def QU:=vj @jO (vj @Qy (vj @Zi (vj @jo.eq_1 (vj @kU.eq_1 @Qt.eq_1))))
def UD:=vj @aI.eq_1 (vj @aB.eq_1 (vj @qB.eq_1 (@QT)))
theorem Qck (c:Chart) (a:Ask) (hc:c.cabins.length≤maxLen) (hs:c.sold.length≤20) (ha:a.sexes.length≤maxLen):FnV Tryz.prog 17 [qa c,qx a] (.tup [ze (zg c a),aI (zu c a)]):=by
  have env:Env (fun _=>True) Tryz.prog tyB (tab [(53,qU true yR),(54,qU false wO)]):=qL ⟨Qgm,Qan,trivial⟩
  refine Fn.of (A:=fun _=>True) (n0:=0) (D:=noD) (Fn0 Tryz.func17 rfl (fun vs w=>by kernel_rfl) (by kernel_rfl)) (by simp) (by simp [AV.ids,AV.idsL,qa,qb,qx,qh]) (fun i o h=>by cases h) (fun _ _ _ _=>trivial) qF ?_
  have ec:(⟨c.cabins,c.secs,c.sold⟩:Chart)=c:=rfl
  have ea:(⟨a.party,a.frm,a.to,a.sexes,a.dog⟩:Ask)=a:=rfl
  have hs2:c.sold.length≤100:=by omega
  obtain ⟨e,he⟩:∃ e,zu c a=e:=⟨_,rfl⟩
  rw [he]
  by_cases h0:e=0
  · rw [h0] at he ⊢
    obtain ⟨hx1,hx2⟩:=XJ (yz he).2
    have hP:=Yv he hx2
    have hCar:=(Qg (yz he).1).car
    have a1:0 < a.sexes.length:=by omega
    have a2:a.sexes.length≤3:=by omega
    rw [hP]
    repeat' (first|(apply nx;with_reducible constructor)|refine uq (by decide) ?_|((first|refine vx env fun Q hQ=>?_|refine vz fun Q hQ=>?_);simp only [vkt,seval,QU,UD,ze,mTk,qd,qa,qb,qx,qh,yR,wO,List.length_map,ec,ea,hc,hs,hs2,ha,he,hCar,a1,a2,decide_true];(try simp only [ite_and]);(repeat' (first|with_reducible assumption|refine And.intro ?_ ?_|intro hp));all_goals (first|(refine hQ _ ?_;clear hQ Q)|(refine hQ _ (fun h=>?_) (fun h=>?_) <;> clear hQ Q <;> (try simp only [vki,reduceCtorEq] at h))|(refine vq ?_;kernel_rfl)|omega|assumption|with_reducible rfl|skip)))
    (simp only [vrt,Tryz.results17,vkt,seval,QU,UD,ze,mTk,qd,qa,qb,qx,qh,yR,wO,List.length_map];refine Fin.val rfl ?_;(try simp only [AV.le,AV.leL]))
    all_goals first|rfl|(simp;done)|exact ⟨⟨_,_,rfl⟩,trivial,trivial⟩
  · have d0:decide (e=0)=false:=decide_eq_false h0
    rw [show zg c a=[] by unfold zg;rw [if_neg (by rw [he];exact h0)]]
    repeat' (first|(apply nx;with_reducible constructor)|refine uq (by decide) ?_|((first|refine vx env fun Q hQ=>?_|refine vz fun Q hQ=>?_);simp only [vkt,seval,QU,UD,ze,mTk,qd,qa,qb,qx,qh,yR,wO,List.length_map,ec,ea,hc,hs2,ha,he,d0];(try simp only [ite_and]);(repeat' (first|with_reducible assumption|refine And.intro ?_ ?_|intro hp));all_goals (first|(refine hQ _ ?_;clear hQ Q)|(refine hQ _ (fun h=>?_) (fun h=>?_) <;> clear hQ Q <;> (try simp only [vki,reduceCtorEq] at h))|(refine vq ?_;kernel_rfl)|omega|assumption|with_reducible rfl|skip)))
    (simp only [vrt,Tryz.results17,vkt,seval,QU,UD,ze,mTk,qd,qa,qb,qx,qh,yR,wO,List.length_map];refine Fin.val rfl ?_;(try simp only [AV.le,AV.leL]))
    all_goals first|rfl|(simp;done)
def wW:List AV→Prop × AV
  |[.agg [.sl c0,.v (.int .i64 c1),.sl c2],.agg [.v (.int .i64 a0),.v (.int .i64 a1),.v (.int .i64 a2),.sl a3,.v (.bool a4)]]=>(c0=(c0.map qp).map qg∧c2=(c2.map dTk).map eTk∧a3=(a3.map za).map zJ∧((⟨(c0.map qp),c1,(c2.map dTk)⟩:Chart)).cabins.length≤maxLen∧((⟨(c0.map qp),c1,(c2.map dTk)⟩:Chart)).sold.length≤20∧((⟨a0,a1,a2,(a3.map za),a4⟩:Ask)).sexes.length≤maxLen,.tup [ze (zg ((⟨(c0.map qp),c1,(c2.map dTk)⟩:Chart)) ((⟨a0,a1,a2,(a3.map za),a4⟩:Ask))),aI (zu ((⟨(c0.map qp),c1,(c2.map dTk)⟩:Chart)) ((⟨a0,a1,a2,(a3.map za),a4⟩:Ask)))])
  |_=>(False,.junk)
theorem Qfv {A:Frm→Prop}:qE A Tryz.prog 17 (qU false wW):=qW fun vs hv h=>by
  clear hv
  unfold wW at h ⊢
  split at h
  · rename_i c0 c1 c2 a0 a1 a2 a3 a4;obtain ⟨q0,q1,q2,k0,k1,k2⟩:=h
    refine ⟨by first|trivial|(simp [AV.plain,AV.plainL,aI,aB,qB,qc,ql,qf,aTk,cTk];done)|(repeat' split) <;> simp [AV.plain,AV.plainL,aI,aB,qB,qc,ql,qf,aTk,cTk],fun h=>absurd h (by decide), ?_⟩
    have:=Qck ((⟨(c0.map qp),c1,(c2.map dTk)⟩:Chart)) ((⟨a0,a1,a2,(a3.map za),a4⟩:Ask)) k0 k1 k2
    simp only [qx,aB,qR,qa,aI,qB,ql,qh,qb,← q0,← q1,← q2] at this
    first|exact this|(simp only [qx,aB,qR,qa,aI,qB,ql,qh,qb,← q0,← q1,← q2];exact this)
  · exact h.elim
def xF:=vj @ty3 (vj @ty4 (vj @QG (vj @Qy (vj @ti3.eq_1 (vj @ti4.eq_1 (vj @kX.eq_1 @kU.eq_1))))))
def ZB:=vj @aI.eq_1 (vj @aB.eq_1 (vj @qB.eq_1 (@QT)))
theorem Qjo (a b:Ask) (h1:a.sexes.length≤maxLen) (h2:b.sexes.length≤maxLen):FnV Tryz.prog 22 [qx a,qx b] (aB (decide (a=b))):=by
  have env:Env (fun _=>True) Tryz.prog tyB (tab [(41,qU true YO)]):=qL ⟨eeqI,trivial⟩
  refine Fn.of (A:=fun _=>True) (n0:=0) (D:=noD) (Fn0 Tryz.func22 rfl (fun vs w=>by kernel_rfl) (by kernel_rfl)) (by simp) (by simp [AV.ids,AV.idsL,qx,qh]) (fun i o h=>by cases h) (fun _ _ _ _=>trivial) qF ?_
  have hE:decide (a=b)=(decide (a.party=b.party) && (decide (a.frm=b.frm) && (decide (a.to=b.to) && ((a.dog == b.dog) && decide (a.sexes=b.sexes))))):=by
    cases a with|mk p f t s d=>cases b with|mk p' f' t' s' d' =>
    rw [Bool.eq_iff_iff]
    simp only [decide_eq_true_eq,Bool.and_eq_true,beq_iff_eq,Ask.mk.injEq]
    exact ⟨fun ⟨x1,x2,x3,x4,x5⟩=>⟨x1,x2,x3,x5,x4⟩,fun ⟨x1,x2,x3,x5,x4⟩=>⟨x1,x2,x3,x4,x5⟩⟩
  rw [hE]
  cases q0:decide (a.party=b.party) with
  |false =>
    rw [Bool.false_and]
    repeat' (first|(apply nx;with_reducible constructor)|refine uq (by decide) ?_|((first|refine vx env fun Q hQ=>?_|refine vz fun Q hQ=>?_);simp only [vkt,seval,xF,ZB,qx,qh,YO,Bool.true_and,Bool.false_and,List.length_map,q0];(try simp only [ite_and]);(repeat' (first|with_reducible assumption|refine And.intro ?_ ?_|intro hp));all_goals (first|(refine hQ _ ?_;clear hQ Q)|(refine hQ _ (fun h=>?_) (fun h=>?_) <;> clear hQ Q <;> (try simp only [vki,reduceCtorEq] at h))|(refine vq ?_;kernel_rfl)|omega|assumption|with_reducible rfl|skip)))
    (simp only [vrt,Tryz.results22,vkt,seval,xF,ZB,qx,qh,YO,Bool.true_and,Bool.false_and,List.length_map];refine Fin.val rfl ?_;(try simp only [AV.le,AV.leL]))
    all_goals first|rfl|(simp;done)
  |true =>
  cases q1:decide (a.frm=b.frm) with
  |false =>
    rw [Bool.false_and,Bool.and_false]
    repeat' (first|(apply nx;with_reducible constructor)|refine uq (by decide) ?_|((first|refine vx env fun Q hQ=>?_|refine vz fun Q hQ=>?_);simp only [vkt,seval,xF,ZB,qx,qh,YO,Bool.true_and,Bool.false_and,List.length_map,q0,q1];(try simp only [ite_and]);(repeat' (first|with_reducible assumption|refine And.intro ?_ ?_|intro hp));all_goals (first|(refine hQ _ ?_;clear hQ Q)|(refine hQ _ (fun h=>?_) (fun h=>?_) <;> clear hQ Q <;> (try simp only [vki,reduceCtorEq] at h))|(refine vq ?_;kernel_rfl)|omega|assumption|with_reducible rfl|skip)))
    (simp only [vrt,Tryz.results22,vkt,seval,xF,ZB,qx,qh,YO,Bool.true_and,Bool.false_and,List.length_map];refine Fin.val rfl ?_;(try simp only [AV.le,AV.leL]))
    all_goals first|rfl|(simp;done)
  |true =>
  cases q2:decide (a.to=b.to) with
  |false =>
    rw [Bool.false_and,Bool.and_false,Bool.and_false]
    repeat' (first|(apply nx;with_reducible constructor)|refine uq (by decide) ?_|((first|refine vx env fun Q hQ=>?_|refine vz fun Q hQ=>?_);simp only [vkt,seval,xF,ZB,qx,qh,YO,Bool.true_and,Bool.false_and,List.length_map,q0,q1,q2];(try simp only [ite_and]);(repeat' (first|with_reducible assumption|refine And.intro ?_ ?_|intro hp));all_goals (first|(refine hQ _ ?_;clear hQ Q)|(refine hQ _ (fun h=>?_) (fun h=>?_) <;> clear hQ Q <;> (try simp only [vki,reduceCtorEq] at h))|(refine vq ?_;kernel_rfl)|omega|assumption|with_reducible rfl|skip)))
    (simp only [vrt,Tryz.results22,vkt,seval,xF,ZB,qx,qh,YO,Bool.true_and,Bool.false_and,List.length_map];refine Fin.val rfl ?_;(try simp only [AV.le,AV.leL]))
    all_goals first|rfl|(simp;done)
  |true =>
  cases q3:(a.dog == b.dog) with
  |false =>
    rw [Bool.false_and,Bool.and_false,Bool.and_false,Bool.and_false]
    repeat' (first|(apply nx;with_reducible constructor)|refine uq (by decide) ?_|((first|refine vx env fun Q hQ=>?_|refine vz fun Q hQ=>?_);simp only [vkt,seval,xF,ZB,qx,qh,YO,Bool.true_and,Bool.false_and,List.length_map,q0,q1,q2,q3];(try simp only [ite_and]);(repeat' (first|with_reducible assumption|refine And.intro ?_ ?_|intro hp));all_goals (first|(refine hQ _ ?_;clear hQ Q)|(refine hQ _ (fun h=>?_) (fun h=>?_) <;> clear hQ Q <;> (try simp only [vki,reduceCtorEq] at h))|(refine vq ?_;kernel_rfl)|omega|assumption|with_reducible rfl|skip)))
    (simp only [vrt,Tryz.results22,vkt,seval,xF,ZB,qx,qh,YO,Bool.true_and,Bool.false_and,List.length_map];refine Fin.val rfl ?_;(try simp only [AV.le,AV.leL]))
    all_goals first|rfl|(simp;done)
  |true =>
  rw [Bool.true_and,Bool.true_and,Bool.true_and,Bool.true_and]
  repeat' (first|(apply nx;with_reducible constructor)|refine uq (by decide) ?_|((first|refine vx env fun Q hQ=>?_|refine vz fun Q hQ=>?_);simp only [vkt,seval,xF,ZB,qx,qh,YO,Bool.true_and,Bool.false_and,List.length_map,q0,q1,q2,q3,h1,h2];(try simp only [ite_and]);(repeat' (first|with_reducible assumption|refine And.intro ?_ ?_|intro hp));all_goals (first|(refine hQ _ ?_;clear hQ Q)|(refine hQ _ (fun h=>?_) (fun h=>?_) <;> clear hQ Q <;> (try simp only [vki,reduceCtorEq] at h))|(refine vq ?_;kernel_rfl)|omega|assumption|with_reducible rfl|skip)))
  (simp only [vrt,Tryz.results22,vkt,seval,xF,ZB,qx,qh,YO,Bool.true_and,Bool.false_and,List.length_map];refine Fin.val rfl ?_;(try simp only [AV.le,AV.leL]))
  all_goals first|rfl|(simp;done)
def WC:List AV→Prop × AV
  |[.agg [.v (.int .i64 a0),.v (.int .i64 a1),.v (.int .i64 a2),.sl a3,.v (.bool a4)],.agg [.v (.int .i64 b0),.v (.int .i64 b1),.v (.int .i64 b2),.sl b3,.v (.bool b4)]]=>(a3=(a3.map za).map zJ∧b3=(b3.map za).map zJ∧((⟨a0,a1,a2,(a3.map za),a4⟩:Ask)).sexes.length≤maxLen∧((⟨b0,b1,b2,(b3.map za),b4⟩:Ask)).sexes.length≤maxLen,aB (decide (((⟨a0,a1,a2,(a3.map za),a4⟩:Ask))=((⟨b0,b1,b2,(b3.map za),b4⟩:Ask)))))
  |_=>(False,.junk)
theorem eeqA {A:Frm→Prop}:qE A Tryz.prog 22 (qU true WC):=qW fun vs hv h=>by
  clear hv
  unfold WC at h ⊢
  split at h
  · rename_i a0 a1 a2 a3 a4 b0 b1 b2 b3 b4;obtain ⟨q0,q1,k0,k1⟩:=h
    refine ⟨by first|trivial|(simp [AV.plain,AV.plainL,aI,aB,qB,qc,ql,qf,aTk,cTk];done)|(repeat' split) <;> simp [AV.plain,AV.plainL,aI,aB,qB,qc,ql,qf,aTk,cTk],fun _=>(by simp [AV.flat,AV.flatL,aI,aB]), ?_⟩
    have:=Qjo ((⟨a0,a1,a2,(a3.map za),a4⟩:Ask)) ((⟨b0,b1,b2,(b3.map za),b4⟩:Ask)) k0 k1
    simp only [qx,aB,aI,qB,qh,← q0,← q1] at this
    first|exact this|(simp only [qx,aB,aI,qB,qh,← q0,← q1];exact this)
  · exact h.elim
theorem QgC (f:Nat→Int):∀ n,(mxK f n).2 < n+1∧(0 < n→(mxK f n).2 < n)
  |0=>⟨by simp [mxK],fun h=>absurd h (Nat.lt_irrefl _)⟩
  |n+1=>by
    have ih:=QgC f n
    rw [mxK]
    split
    · exact ⟨by show n < n+1+1;omega,fun _=>Nat.lt_succ_self n⟩
    · exact ⟨by omega,fun _=>by omega⟩
def rbS (c:Chart) (a:Ask) (PL:List (List Bunk)) (at' most:Int) (i:Nat):St:={ t:=asg [(2,.ptr 0 0),(3,.ptr 1 0),(7,ze PL),(8,aI at'),(9,aI most),(10,aI i)],h:=qj [(0,.cells (qb c)),(1,.cells (qh a))],n:=2 }
def jK:=vj @ty3 (vj @jO (vj @Qy (vj @LU (vj @Zi (vj @Wp (vj @xf (vj @ti3.eq_1 (vj @jo.eq_1 (vj @kU.eq_1 (vj @Xd.eq_1 (vj @Qt.eq_1 (vj @Zl.eq_1 @vB.eq_1))))))))))))
def QL:=vj @aI.eq_1 (vj @aB.eq_1 (vj @qB.eq_1 (@QT)))
set_option maxRecDepth 100000 in
set_option maxHeartbeats 4000000 in
theorem Qfb (c:Chart) (a:Ask) (hc:c.cabins.length≤maxLen) (hs:c.sold.length≤20) (ha:a.sexes.length≤maxLen):FnV Tryz.prog 19 [qa c,qx a] (.tup [qc (vD c a).1,aI (vD c a).2]):=by
  have env:Env (fun _=>True) Tryz.prog tyB (tab [(53,qU true yR),(54,qU false wO),(61,qU false yI),(60,qU false xU),(59,qU true xY)]):=qL ⟨Qgm,Qan,QiR,QjQ,Qke,trivial⟩
  refine Fn.of (A:=fun _=>True) (n0:=0) (D:=noD) (Fn0 Tryz.func19 rfl (fun vs w=>by kernel_rfl) (by kernel_rfl)) (by simp) (by simp [AV.ids,AV.idsL,qa,qb,qx,qh]) (fun i o h=>by cases h) (fun _ _ _ _=>trivial) qF ?_
  have ec:(⟨c.cabins,c.secs,c.sold⟩:Chart)=c:=rfl
  have ea:(⟨a.party,a.frm,a.to,a.sexes,a.dog⟩:Ask)=a:=rfl
  have hmx:(100000:Nat)≤maxLen:=by decide
  have hs2:c.sold.length≤100:=by omega
  rw [← QiA]
  obtain ⟨e,he⟩:∃ e,zu c a=e:=⟨_,rfl⟩
  by_cases h0:e=0
  · rw [h0] at he
    obtain ⟨hx1,hx2⟩:=XJ (yz he).2
    have hP:=Yv he hx2
    have hV:=Qg (yz he).1
    have hCar:=hV.car
    have hb:=Xl (Qq he)
    have hPl:(zg c a).length≤1000:=by rw [show zg c a=(plP c a).map (·.1) by unfold zg;rw [if_pos he],List.length_map];omega
    have a1:0 < a.sexes.length:=by omega
    have a2:a.sexes.length≤3:=by omega
    have hlen:∀ p ∈ zg c a,p.length=a.sexes.length:=fun p hp=>by
      rw [hP] at hp
      exact QO p (List.mem_filter.1 hp).1
    have hTk:∀ p ∈ zg c a,Van ⟨c.cabins,c.secs,c.sold++xE a p p.length⟩∧YM (c.sold++xE a p p.length):=fun p hp=>by
      have hl:=hlen p hp
      have hway:=WH he (by rw [hP] at hp;exact (List.mem_filter.1 hp).1)
      have h5:=hCar.secs
      refine ⟨⟨⟨hCar.cabs,hCar.beds,hCar.secs⟩, ?_,fun t ht=>?_⟩,fun t ht=>?_⟩
      · show (c.sold++xE a p p.length).length≤100
        rw [List.length_append,VQ];omega
      · exact (hway t ht).to' _
      · have:=(hway t ht).frm
        have:=(hway t ht).way
        have:=(hway t ht).to
        omega
    have hR:rbA c a=if zg c a=[] then ([],11) else ((zg c a).getD (mxK (rdF c a) (zg c a).length).2 default,0):=by unfold rbA;rw [if_pos he]
    have hrd:∀ j,rdF c a j=vS c.cabins c.secs (c.sold++xE a ((zg c a).getD j default) ((zg c a).getD j default).length):=fun j=>rfl
    obtain ⟨f,hf⟩:∃ f,rdF c a=f:=⟨_,rfl⟩
    rw [hf] at hR hrd
    obtain ⟨PL,hPL⟩:∃ l,zg c a=l:=⟨_,rfl⟩
    have hPL2:(alL (qY c.cabins) a.sexes.length).filter (wD c a)=PL:=by rw [← hP,hPL]
    rw [hPL] at hR hPl hlen hTk hrd
    rw [hR]
    by_cases hn:PL=[]
    · rw [if_pos hn]
      have hPL3:=hPL2.trans hn
      repeat' (first|(apply nx;with_reducible constructor)|refine uq (by decide) ?_|((first|refine vx env fun Q hQ=>?_|refine vz fun Q hQ=>?_);simp only [vkt,seval,jK,QL,qf,qc,ze,qm,qA,qD,qG,ql,eTk,qJ,mTk,qd,qa,qb,qx,qh,rbS,yR,wO,yI,xU,xY,List.length_map,ec,ea,hc,hs,hs2,ha,he,hCar,a1,a2,hPL3,decide_true,List.length_nil];(try simp only [ite_and]);(repeat' (first|with_reducible assumption|refine And.intro ?_ ?_|intro hp));all_goals (first|(refine hQ _ ?_;clear hQ Q)|(refine hQ _ (fun h=>?_) (fun h=>?_) <;> clear hQ Q <;> (try simp only [vki,reduceCtorEq] at h))|(refine vq ?_;kernel_rfl)|omega|assumption|with_reducible rfl|skip)))
      (simp only [vrt,Tryz.results19,vkt,seval,jK,QL,qf,qc,ze,qm,qA,qD,qG,ql,eTk,qJ,mTk,qd,qa,qb,qx,qh,rbS,yR,wO,yI,xU,xY,List.length_map];refine Fin.val rfl ?_;(try simp only [AV.le,AV.leL]))
      all_goals first|rfl|(simp;done)
    have hp0:0 < PL.length:=by
      rcases Nat.eq_zero_or_pos PL.length with h|h
      · exact absurd (List.eq_nil_of_length_eq_zero h) hn
      · exact h
    have d0:decide ((PL.length:Int)=0)=false:=decide_eq_false (by omega)
    rw [if_neg hn]
    obtain ⟨r,hr⟩:∃ r,PL.getD (mxK f PL.length).2 default=r:=⟨_,rfl⟩
    rw [hr]
    repeat' (first|(apply nx;with_reducible constructor)|refine uq (by decide) ?_|((first|refine vx env fun Q hQ=>?_|refine vz fun Q hQ=>?_);simp only [vkt,seval,jK,QL,qf,qc,ze,qm,qA,qD,qG,ql,eTk,qJ,mTk,qd,qa,qb,qx,qh,rbS,yR,wO,yI,xU,xY,List.length_map,ec,ea,hc,hs,hs2,ha,he,hCar,a1,a2,hPL2,d0,decide_true];(try simp only [ite_and]);(repeat' (first|with_reducible assumption|refine And.intro ?_ ?_|intro hp));all_goals (first|(refine hQ _ ?_;clear hQ Q)|(refine hQ _ (fun h=>?_) (fun h=>?_) <;> clear hQ Q <;> (try simp only [vki,reduceCtorEq] at h))|(refine vq ?_;kernel_rfl)|omega|assumption|with_reducible rfl|skip)))
    refine qO (fun i:{ i:Nat // i≤PL.length }=>rbS c a PL (mxK f i.1).2 (mxK f i.1).1 i.1) (fun i=>PL.length - i.1) ⟨0,Nat.zero_le _⟩ ?_ fun ⟨i,hi⟩=>?_
    · simp only [rbS,show mxK f 0=(-1,0) from rfl]
      (refine Le.ok some [] ?_;constructor;all_goals (try simp only [vle,vkt,seval,jK,QL,qf,qc,ze,qm,qA,qD,qG,ql,eTk,qJ,mTk,qd,qa,qb,qx,qh,rbS,yR,wO,yI,xU,xY,List.length_map]))
      all_goals first|rfl|(simp;done)
    simp only at hi ⊢
    have hK:=QgC f i
    have hS:mxK f (i+1)=if (mxK f i).1 < f i then (f i,i) else mxK f i:=rfl
    obtain ⟨⟨M,K⟩,hMK⟩:∃ p,mxK f i=p:=⟨_,rfl⟩
    rw [hMK] at hK hS
    simp only [rbS,hMK] at hK hS ⊢
    by_cases hil:i < PL.length
    · have d1:decide ((i:Int) < (PL.length:Int))=true:=decide_eq_true (by omega)
      have e9:IntKind.wrap .i64 ((i:Int)+1)=((i+1:Nat):Int):=by rw [wrap64 (by omega) (by omega)];rfl
      have i0:((i:Int)).toNat=i:=rfl
      have hg:=Ye hil
      have hm:=yL (d:=[]) hil
      have hl:=hlen _ hm
      obtain ⟨hv1,hv2⟩:=hTk _ hm
      have hri:=hrd i
      rw [show PL.getD i default=PL.getD i [] from rfl] at hri
      obtain ⟨p,hp⟩:∃ p,PL.getD i []=p:=⟨_,rfl⟩
      rw [hp] at hg hl hv1 hv2 hri
      have b1:p.length≤100:=by omega
      have b2:p.length≤maxLen:=by omega
      have b3:a.sexes.length=p.length:=by omega
      have b4:c.cabins.length≤100000:=by have:=hCar.cabs;omega
      have b5:c.sold.length≤1000:=by omega
      have b6:(xE a p p.length).length≤1000:=by rw [VQ];omega
      obtain ⟨n,hn⟩:∃ n,f i=n:=⟨_,rfl⟩
      rw [hn] at hri hS
      have hri:=hri.symm
      by_cases q:M < n
      · have d2:decide (M < n)=true:=decide_eq_true q
        rw [if_pos q] at hS
        repeat' (first|(apply nx;with_reducible constructor)|refine uq (by decide) ?_|((first|refine vx env fun Q hQ=>?_|refine vz fun Q hQ=>?_);simp only [vkt,seval,jK,QL,qf,qc,ze,qm,qA,qD,qG,ql,eTk,qJ,mTk,qd,qa,qb,qx,qh,rbS,yR,wO,yI,xU,xY,List.length_map,d1,e9,i0,hil,hg,hp,ec,ea,b1,b2,b3,b4,b5,b6,hv1,hv2,hri,d2];(try simp only [ite_and]);(repeat' (first|with_reducible assumption|refine And.intro ?_ ?_|intro hp));all_goals (first|(refine hQ _ ?_;clear hQ Q)|(refine hQ _ (fun h=>?_) (fun h=>?_) <;> clear hQ Q <;> (try simp only [vki,reduceCtorEq] at h))|(refine vq ?_;kernel_rfl)|omega|assumption|with_reducible rfl|skip)))
        refine ⟨⟨i+1,hil⟩,by show PL.length - (i+1) < PL.length - i;omega, ?_⟩
        simp only [rbS,hS]
        (refine Le.ok some [] ?_;constructor;all_goals (try simp only [vle,vkt,seval,jK,QL,qf,qc,ze,qm,qA,qD,qG,ql,eTk,qJ,mTk,qd,qa,qb,qx,qh,rbS,yR,wO,yI,xU,xY,List.length_map]))
        all_goals first|rfl|(simp;done)
      · have d2:decide (M < n)=false:=decide_eq_false q
        rw [if_neg q] at hS
        repeat' (first|(apply nx;with_reducible constructor)|refine uq (by decide) ?_|((first|refine vx env fun Q hQ=>?_|refine vz fun Q hQ=>?_);simp only [vkt,seval,jK,QL,qf,qc,ze,qm,qA,qD,qG,ql,eTk,qJ,mTk,qd,qa,qb,qx,qh,rbS,yR,wO,yI,xU,xY,List.length_map,d1,e9,i0,hil,hg,hp,ec,ea,b1,b2,b3,b4,b5,b6,hv1,hv2,hri,d2];(try simp only [ite_and]);(repeat' (first|with_reducible assumption|refine And.intro ?_ ?_|intro hp));all_goals (first|(refine hQ _ ?_;clear hQ Q)|(refine hQ _ (fun h=>?_) (fun h=>?_) <;> clear hQ Q <;> (try simp only [vki,reduceCtorEq] at h))|(refine vq ?_;kernel_rfl)|omega|assumption|with_reducible rfl|skip)))
        refine ⟨⟨i+1,hil⟩,by show PL.length - (i+1) < PL.length - i;omega, ?_⟩
        simp only [rbS,hS]
        (refine Le.ok some [] ?_;constructor;all_goals (try simp only [vle,vkt,seval,jK,QL,qf,qc,ze,qm,qA,qD,qG,ql,eTk,qJ,mTk,qd,qa,qb,qx,qh,rbS,yR,wO,yI,xU,xY,List.length_map]))
        all_goals first|rfl|(simp;done)
    · have d1:decide ((i:Int) < (PL.length:Int))=false:=decide_eq_false (by omega)
      obtain rfl:i=PL.length:=by omega
      have hKl:=hK.2 hp0
      have k0:((K:Int)).toNat=K:=rfl
      have hg:=Ye hKl
      have hm:=hlen _ (yL (d:=[]) hKl)
      rw [hMK] at hr
      have hr:PL.getD K []=r:=hr
      rw [hr] at hg hm
      have b2:r.length≤maxLen:=by omega
      repeat' (first|(apply nx;with_reducible constructor)|refine uq (by decide) ?_|((first|refine vx env fun Q hQ=>?_|refine vz fun Q hQ=>?_);simp only [vkt,seval,jK,QL,qf,qc,ze,qm,qA,qD,qG,ql,eTk,qJ,mTk,qd,qa,qb,qx,qh,rbS,yR,wO,yI,xU,xY,List.length_map,d1,hKl,k0,hg,hr,b2];(try simp only [ite_and]);(repeat' (first|with_reducible assumption|refine And.intro ?_ ?_|intro hp));all_goals (first|(refine hQ _ ?_;clear hQ Q)|(refine hQ _ (fun h=>?_) (fun h=>?_) <;> clear hQ Q <;> (try simp only [vki,reduceCtorEq] at h))|(refine vq ?_;kernel_rfl)|omega|assumption|with_reducible rfl|skip)))
      (simp only [vrt,Tryz.results19,vkt,seval,jK,QL,qf,qc,ze,qm,qA,qD,qG,ql,eTk,qJ,mTk,qd,qa,qb,qx,qh,rbS,yR,wO,yI,xU,xY,List.length_map];refine Fin.val rfl ?_;(try simp only [AV.le,AV.leL]))
      all_goals first|rfl|(simp;done)
  · have d0:decide (e=0)=false:=decide_eq_false h0
    rw [show rbA c a=([],e) by unfold rbA;rw [if_neg (by rw [he];exact h0),he]]
    repeat' (first|(apply nx;with_reducible constructor)|refine uq (by decide) ?_|((first|refine vx env fun Q hQ=>?_|refine vz fun Q hQ=>?_);simp only [vkt,seval,jK,QL,qf,qc,ze,qm,qA,qD,qG,ql,eTk,qJ,mTk,qd,qa,qb,qx,qh,rbS,yR,wO,yI,xU,xY,List.length_map,ec,ea,hc,hs2,ha,he,d0];(try simp only [ite_and]);(repeat' (first|with_reducible assumption|refine And.intro ?_ ?_|intro hp));all_goals (first|(refine hQ _ ?_;clear hQ Q)|(refine hQ _ (fun h=>?_) (fun h=>?_) <;> clear hQ Q <;> (try simp only [vki,reduceCtorEq] at h))|(refine vq ?_;kernel_rfl)|omega|assumption|with_reducible rfl|skip)))
    (simp only [vrt,Tryz.results19,vkt,seval,jK,QL,qf,qc,ze,qm,qA,qD,qG,ql,eTk,qJ,mTk,qd,qa,qb,qx,qh,rbS,yR,wO,yI,xU,xY,List.length_map];refine Fin.val rfl ?_;(try simp only [AV.le,AV.leL]))
    all_goals first|rfl|(simp;done)
def yZ:List AV→Prop × AV
  |[.agg [.sl c0,.v (.int .i64 c1),.sl c2],.agg [.v (.int .i64 a0),.v (.int .i64 a1),.v (.int .i64 a2),.sl a3,.v (.bool a4)]]=>(c0=(c0.map qp).map qg∧c2=(c2.map dTk).map eTk∧a3=(a3.map za).map zJ∧((⟨(c0.map qp),c1,(c2.map dTk)⟩:Chart)).cabins.length≤maxLen∧((⟨(c0.map qp),c1,(c2.map dTk)⟩:Chart)).sold.length≤20∧((⟨a0,a1,a2,(a3.map za),a4⟩:Ask)).sexes.length≤maxLen,.tup [qc (vD ((⟨(c0.map qp),c1,(c2.map dTk)⟩:Chart)) ((⟨a0,a1,a2,(a3.map za),a4⟩:Ask))).1,aI (vD ((⟨(c0.map qp),c1,(c2.map dTk)⟩:Chart)) ((⟨a0,a1,a2,(a3.map za),a4⟩:Ask))).2])
  |_=>(False,.junk)
theorem Qkj {A:Frm→Prop}:qE A Tryz.prog 19 (qU false yZ):=qW fun vs hv h=>by
  clear hv
  unfold yZ at h ⊢
  split at h
  · rename_i c0 c1 c2 a0 a1 a2 a3 a4;obtain ⟨q0,q1,q2,k0,k1,k2⟩:=h
    refine ⟨by first|trivial|(simp [AV.plain,AV.plainL,aI,aB,qB,qc,ql,qf,aTk,cTk];done)|(repeat' split) <;> simp [AV.plain,AV.plainL,aI,aB,qB,qc,ql,qf,aTk,cTk],fun h=>absurd h (by decide), ?_⟩
    have:=Qfb ((⟨(c0.map qp),c1,(c2.map dTk)⟩:Chart)) ((⟨a0,a1,a2,(a3.map za),a4⟩:Ask)) k0 k1 k2
    simp only [qx,aB,qR,qa,aI,qB,ql,qh,qb,← q0,← q1,← q2] at this
    first|exact this|(simp only [qx,aB,qR,qa,aI,qB,ql,qh,qb,← q0,← q1,← q2];exact this)
  · exact h.elim
end Go.Sym.B
namespace Go.Sym.B
open Go Go.Sym Go.Proofs Go.RowKit
def spI:Sp:=.int .i64
def spB:Sp:=.bool
theorem Qi9 (r:List DV) (h:r.length=1) (hs:∀ (j:Nat) (s:Sp) (d:DV),[spI][j]?=some s→r[j]?=some d→D1 s d):∃ a,r=zJ a:=by
  obtain ⟨d,rfl⟩:=List.length_eq_one_iff.1 h
  obtain ⟨n,rfl,_⟩:=(hs 0 spI d rfl rfl).int_inv
  exact ⟨n,rfl⟩
theorem QjN (r:List DV) (h:r.length=2) (hs:∀ (j:Nat) (s:Sp) (d:DV),[spI,spB][j]?=some s→r[j]?=some d→D1 s d):∃ a,r=qg a:=by
  match r,h with
  |[a,b],_ =>
    obtain ⟨n,rfl,_⟩:=(hs 0 spI a rfl rfl).int_inv
    obtain ⟨m,rfl⟩:=(hs 1 spB b rfl rfl).bool_inv
    exact ⟨⟨n,m⟩,rfl⟩
theorem eT_of (r:List DV) (h:r.length=7) (hs:∀ (j:Nat) (s:Sp) (d:DV),[spI,spI,spI,spI,spI,spI,spB][j]?=some s→r[j]?=some d→D1 s d):∃ a,r=eTk a:=by
  match r,h with
  |[a,b,c,d,e,f,g],_ =>
    obtain ⟨n1,rfl,_⟩:=(hs 0 spI a rfl rfl).int_inv
    obtain ⟨n2,rfl,_⟩:=(hs 1 spI b rfl rfl).int_inv
    obtain ⟨n3,rfl,_⟩:=(hs 2 spI c rfl rfl).int_inv
    obtain ⟨n4,rfl,_⟩:=(hs 3 spI d rfl rfl).int_inv
    obtain ⟨n5,rfl,_⟩:=(hs 4 spI e rfl rfl).int_inv
    obtain ⟨n6,rfl,_⟩:=(hs 5 spI f rfl rfl).int_inv
    obtain ⟨n7,rfl⟩:=(hs 6 spB g rfl rfl).bool_inv
    exact ⟨⟨n1,n2,n3,n4,n5,n6,n7⟩,rfl⟩
def spC:List Sp:=[.sl [spI,spB],spI,.sl [spI,spI,spI,spI,spI,spI,spB]]
def spA:List Sp:=[spI,spI,spI,.sl [spI],spB]
theorem flN:Fl Tryz.prog 26 [.sl [spI]]:=ZP (n:=6) (by kernel_rfl)
theorem flC:Fl Tryz.prog 25 spC:=ZP (n:=6) (by kernel_rfl)
theorem flA:Fl Tryz.prog 28 spA:=ZP (n:=6) (by kernel_rfl)
variable {H : Type} {enc : TypeId × Value → H} {W : World} {base : Nat} {spare : Nat → Bool} {held : Bool}
theorem QgO {fuel:Nat} {v:Value} {x:DataW H × List MemPlace} (h:DataW.trod enc Tryz.prog W base spare held fuel 26 [v]=some x):∃ l:List Int,ARel W (okW W) Ry undef (qB l) v∧l.length≤maxLen:=by
  obtain ⟨ds,hd⟩:=YE flN h
  obtain ⟨d,rfl,h1,h2⟩:=hd.one_inv
  obtain ⟨l,rfl,hl⟩:=h1.sl_inv zJ Qi9
  exact ⟨l,Lr h2,hl⟩
theorem QdW {fuel:Nat} {cs:Array Value} {x:DataW H × List MemPlace} (h:DataW.trod enc Tryz.prog W base spare held fuel 25 cs.toList=some x):∃ l:Chart,ARel W (okW W) Ry undef (qa l) (.agg cs):=by
  obtain ⟨ds,hd⟩:=YE flC h
  match ds,hd with
  |[a,b,c],hd =>
    obtain ⟨l1,rfl,_⟩:=(hd.shape 0 _ a rfl rfl).sl_inv qg QjN
    obtain ⟨n,rfl,_⟩:=(hd.shape 1 _ b rfl rfl).int_inv
    obtain ⟨l3,rfl,_⟩:=(hd.shape 2 _ c rfl rfl).sl_inv eTk eT_of
    exact ⟨⟨l1,n,l3⟩,hd.agg⟩
  |[],hd=>exact absurd hd.len (by simp [spC])
  |[_],hd=>exact absurd hd.len (by simp [spC])
  |[_,_],hd=>exact absurd hd.len (by simp [spC])
  |_ :: _ :: _ :: _ :: _,hd=>exact absurd hd.len (by simp [spC])
theorem QhG {fuel:Nat} {cs:Array Value} {x:DataW H × List MemPlace} (h:DataW.trod enc Tryz.prog W base spare held fuel 28 cs.toList=some x):∃ l:Ask,ARel W (okW W) Ry undef (qx l) (.agg cs)∧l.sexes.length≤maxLen:=by
  obtain ⟨ds,hd⟩:=YE flA h
  match ds,hd with
  |[a,b,c,d,e],hd =>
    obtain ⟨n1,rfl,_⟩:=(hd.shape 0 _ a rfl rfl).int_inv
    obtain ⟨n2,rfl,_⟩:=(hd.shape 1 _ b rfl rfl).int_inv
    obtain ⟨n3,rfl,_⟩:=(hd.shape 2 _ c rfl rfl).int_inv
    obtain ⟨l3,rfl,hl⟩:=(hd.shape 3 _ d rfl rfl).sl_inv zJ Qi9
    obtain ⟨n5,rfl⟩:=(hd.shape 4 _ e rfl rfl).bool_inv
    exact ⟨⟨n1,n2,n3,l3,n5⟩,hd.agg,hl⟩
  |[],hd=>exact absurd hd.len (by simp [spA])
  |[_],hd=>exact absurd hd.len (by simp [spA])
  |[_,_],hd=>exact absurd hd.len (by simp [spA])
  |[_,_,_],hd=>exact absurd hd.len (by simp [spA])
  |[_,_,_,_],hd=>exact absurd hd.len (by simp [spA])
  |_ :: _ :: _ :: _ :: _ :: _ :: _,hd=>exact absurd hd.len (by simp [spA])
theorem K9 {v:Value} (h:v.cells.toList.length ≠ 1):∃ cs,v=.agg cs:=by
  cases v <;> first|exact ⟨_,rfl⟩|(simp [Value.cells] at h)
theorem chart_of {v:Value} {d:DataW H} {p:List MemPlace} (h:DataW.Trod enc Tryz.prog W base spare held 25 v d p):∃ l:Chart,ARel W (okW W) Ry undef (qa l) v:=by
  obtain ⟨fuel,hf⟩:=h
  obtain ⟨ds,hd⟩:=YE flC hf
  obtain ⟨cs,rfl⟩:=K9 (v:=v) (by rw [hd.clen];simp [spC])
  exact QdW hf
theorem ask_of {v:Value} {d:DataW H} {p:List MemPlace} (h:DataW.Trod enc Tryz.prog W base spare held 28 v d p):∃ l:Ask,ARel W (okW W) Ry undef (qx l) v∧l.sexes.length≤maxLen:=by
  obtain ⟨fuel,hf⟩:=h
  obtain ⟨ds,hd⟩:=YE flA hf
  obtain ⟨cs,rfl⟩:=K9 (v:=v) (by rw [hd.clen];simp [spA])
  exact QhG hf
set_option maxRecDepth 100000 in
theorem ints_of {v:Value} {d:DataW H} {p:List MemPlace} {r:Reach} {b0:Nat} (h:DataW.Trod enc Tryz.prog W base spare held 26 v d p) (hu:Tryz.prog.underlying 26=some (.slice 3)) (hv:Value.okWide Tryz.prog W r b0 26 v):∃ l:List Int,ARel W (okW W) Ry undef (qB l) v∧l.length≤maxLen:=by
  obtain ⟨fuel,hf⟩:=h
  obtain ⟨a,n,c,rfl⟩:=WideShapes.okWide_slice hu hv
  exact QgO hf
end Go.Sym.B
namespace Go.Sym.B
open Go Go.Sym Go.Proofs Go.Sym.C
theorem Qdn (c:Chart) (a:Ask):(zg c a).length≤1000∧∀ p ∈ zg c a,p.length≤1000:=by
  by_cases h:zu c a=0
  · have hs:=(XJ (yz h).2)
    have hb:=Xl (Qq h)
    refine ⟨by rw [show zg c a=(plP c a).map (·.1) by unfold zg;rw [if_pos h],List.length_map];omega,fun p hp=>?_⟩
    rw [Zp h hs.2] at hp
    have:=QO p (List.mem_filter.1 hp).1
    omega
  · rw [show zg c a=[] by unfold zg;rw [if_neg h]]
    simp
theorem Qhl (c:Chart) (a:Ask):(vD c a).1.length≤1000:=by
  by_cases hb:zu c a=0
  · rcases Qfk hb (plP c a).length (Nat.le_refl _) with ⟨_,h2⟩|⟨h1,h2⟩
    · rw [show (vD c a).1=[] by unfold vD;rw [if_pos hb,h2];rfl];decide
    · have:=QjE h2
      have hs:=(XJ (yz hb).2)
      rw [show (vD c a).1=((plP c a).getD (mxK (rsF c a) (plP c a).length).2 default).1 by unfold vD;rw [if_pos hb,h1];rfl]
      omega
  · rw [show (vD c a).1=[] by unfold vD;rw [if_neg hb]];decide
def lpS (CL:List Chart) (AL:List Ask) (i:Nat) (T:List (Nat × AV)) (H:List (Nat × AObj)) (n:Nat):St:={ t:=asg (T++[(9,.row 9),(10,.row 10),(11,aI i)]),h:=qj (H++[(9,.row 25 3 (CL.map yG)),(10,.row 28 5 (AL.map ZE))]),n:=n }
def jR:=vj @ty3 (vj @jO (vj @QG (vj @Qy (vj @ty34 (vj @ty37 (vj @LU (vj @Zi (vj @Wp (vj @xf (vj @ti3.eq_1 (vj @jo.eq_1 (vj @kX.eq_1 (vj @kU.eq_1 (vj @ti34.eq_1 (vj @ti37.eq_1 (vj @Xd.eq_1 (vj @Qt.eq_1 (vj @Zl.eq_1 @vB.eq_1))))))))))))))))))
def xC:=vj @aI.eq_1 (vj @aB.eq_1 (vj @qB.eq_1 (vj @zJ.eq_1 (@QT))))
end Go.Sym.B
