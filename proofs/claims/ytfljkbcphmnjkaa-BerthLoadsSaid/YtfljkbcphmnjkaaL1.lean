/- Walks and what they compute, joined: part 1. -/
import Derived.Test.YtfljkbcphmnjkaaLB3
set_option linter.all false
namespace Go.Sym.B
open Go Go.Sym Go.Proofs Go.Sym.C
theorem _root_.Go.Sym.vj {a b:Prop} (x:a) (y:b):a∧b:=⟨x,y⟩
def _root_.Go.Sym.uq:=@Y6
def _root_.Go.Sym.ux:=@JC
def _root_.Go.Sym.uz:=@VF
def _root_.Go.Sym.uj:=@Xy
def _root_.Go.Sym.uk:=@KT
def _root_.Go.Sym.uw:=@KV
def _root_.Go.Sym.uv:=@Rl
def _root_.Go.Sym.vq:=@UB
def _root_.Go.Sym.vx:=@QcE
def _root_.Go.Sym.vz:=@Qfk
def emH (c:Chart) (s:Int) (k:Nat) (m:Nat):Bool:=(List.range m).all fun (j:Nat)=>!wD c.sold ⟨(k:Int),(j:Int)⟩ s
theorem Qfu {s:Int} {t:Tk}:inB s t.frm (t.to - 1)=atB s t:=by
  unfold inB atB
  congr 1
  rw [decide_eq_decide];omega
def cntE (sold:List Tk) (s:Int) (n:Nat):Nat:=((List.range n).filter fun (i:Nat)=>QJ sold s i).length
def QcM (sold:List Tk) (n:Nat):Nat→Nat
  |0=>0
  |s+1=>QcM sold n s+cntE sold s n
theorem QfE (cs:List Cabin) (secs:Int) (sold:List Tk):ky cs secs sold=(QcM sold cs.length secs.toNat:Int):=by
  unfold ky
  have:∀ k,((List.range k).flatMap fun (s:Nat)=>(List.range cs.length).filter fun (i:Nat)=>QJ sold s i).length=QcM sold cs.length k:=by
    intro k
    induction k with
    |zero=>rfl
    |succ k ih =>
      rw [List.range_succ,List.flatMap_append,List.length_append,ih,QcM]
      simp [cntE]
  rw [this]
end Go.Sym.B
namespace Go.Sym.B
open Go Go.Sym Go.Proofs Go.Sym.C
theorem QfJ (c:Chart) (s:Int) (k m:Nat):emH c s k (m+1)=(emH c s k m && !wD c.sold ⟨(k:Int),(m:Int)⟩ s):=by
  unfold emH
  rw [List.range_succ,List.all_append]
  simp
end Go.Sym.B
namespace Go.Sym.B
open Go Go.Sym Go.Proofs Go.Sym.C
end Go.Sym.B
namespace Go.Sym.B
open Go Go.Sym Go.Proofs Go.Sym.C
theorem Qhy {cs:List Cabin} (h2:∀ x ∈ cs,1≤x.beds∧x.beds≤3):(qQ cs).length≤3 * cs.length:=by
  rw [KP]
  induction cs with
  |nil=>simp [Zl]
  |cons x l ih =>
    have h3:=ih fun y hy=>h2 y (List.mem_cons_of_mem _ hy)
    have h4:=h2 x (List.mem_cons_self ..)
    simp only [Zl,List.map_cons,List.sum_cons,List.length_cons] at h3 ⊢
    omega
theorem Vt {cs:List Cabin} (h1:cs.length≤3) (h2:∀ x ∈ cs,1≤x.beds∧x.beds≤3):(qQ cs).length≤9:=by
  have:=Qhy h2
  omega
end Go.Sym.B
namespace Go.Sym.B
open Go Go.Sym Go.Proofs Go.Sym.C
structure RmInv (C:Chart) (a:Ask) (i:Nat) (c:Chart):Prop where
  chk:zV c=0
  cabs:c.cabins=C.cabins
  secs:c.secs=C.secs
  len:c.sold.length=C.sold.length+i
  lt:∀ t ∈ c.sold,t.party < 60+(i:Int)
end Go.Sym.B
namespace Go.Sym.B
open Go Go.Sym Go.Proofs Go.Sym.C
def bkF (i k:Nat):List Bunk:=(List.range k).map fun (m:Nat)=>⟨(i:Int),(m:Int)⟩
def bkP (cs:List Cabin) (i:Nat):List Bunk:=(List.range i).flatMap fun i=>bkF i (cs.getD i default).beds.toNat
theorem Uw (i k:Nat):bkF i (k+1)=bkF i k++[⟨(i:Int),(k:Int)⟩]:=by
  unfold bkF
  rw [List.range_succ,List.map_append];rfl
theorem QbO (i k:Nat):(bkF i k).length=k:=by simp [bkF]
theorem V9 (cs:List Cabin) (i:Nat):bkP cs (i+1)=bkP cs i++bkF i (cs.getD i default).beds.toNat:=by
  unfold bkP
  rw [List.range_succ,List.flatMap_append]
  simp
theorem Qb1 {cs:List Cabin} (hb:∀ x ∈ cs,x.beds≤3):∀ i,i≤cs.length→(bkP cs i).length≤3 * i
  |0,_=>by simp [bkP]
  |i+1,h=>by
    have h1:=Qb1 hb i (by omega)
    have h2:=hb _ (vK (d:=default) (show i < cs.length by omega))
    rw [V9,List.length_append,QbO]
    omega
def bkS (c:Chart) (T:List (Nat × AV)) (l:List Bunk):St:={ t:=asg (T++[(1,.ptr 0 0),(3,.row 1)]),h:=qg [(0,.cells (qb c)),(1,.row 49 2 (l.map qx))],n:=2 }
def jl:=vj @ty3 (vj @WT (vj @jO (vj @J8 (vj @xA (vj @WP (vj @ti3.eq_1 (vj @Zv.eq_1 (vj @jE.eq_1 (vj @WF.eq_1 (vj @vR.eq_1 @Zq.eq_1))))))))))
def Qa:=vj @aI.eq_1 (@aB.eq_1)
theorem QcZ (c:Chart) (hc:c.cabins.length≤3) (hb:∀ x ∈ c.cabins,x.beds≤3):FnV Try.prog 22 [qa c] (qd (qQ c.cabins)):=by
  have env:Env (fun _=>True) Try.prog tyB (tab []):=qP trivial
  refine Fn.of (A:=fun _=>True) (n0:=0) (D:=noD) (Fn0 Try.func22 rfl (fun vs w=>by kernel_rfl) (by kernel_rfl)) (by simp) (by simp [AV.ids,AV.idsL,qa,qb]) (fun i o h=>by cases h) (fun _ _ _ _=>trivial) qF ?_
  have hmx:(100000:Nat)≤maxLen:=by decide
  rw [show qQ c.cabins=bkP c.cabins c.cabins.length from rfl]
  repeat' (first|(apply nx;with_reducible constructor)|refine uq (by decide) ?_|((first|refine vx env fun Q hQ=>?_|refine vz fun Q hQ=>?_);simp only [vkt,seval,jl,Qa,qf,qd,qx,qE,zz,qj,qz,zf,qc,mTk,qa,qb,bkS,List.length_map];(try simp only [ite_and]);(repeat' (first|with_reducible assumption|refine And.intro ?_ ?_|intro hp));all_goals (first|(refine hQ _ ?_;clear hQ Q)|(refine hQ _ (fun h=>?_) (fun h=>?_) <;> clear hQ Q <;> (try simp only [vki,reduceCtorEq] at h))|(refine vq ?_;kernel_rfl)|omega|assumption|with_reducible rfl|skip)))
  refine qX (fun i:{ i:Nat // i≤c.cabins.length }=>bkS c [(4,aI i.1)] (bkP c.cabins i.1)) (fun i=>c.cabins.length - i.1) ⟨0,Nat.zero_le _⟩ ?_ fun ⟨i,hi⟩=>?_
  · simp only [bkS,show bkP c.cabins 0=[] from rfl,List.cons_append,List.nil_append]
    (refine Le.ok (fun i=>if i=1 then none else some i) [] ?_;constructor;all_goals (try simp only [vle,vkt,seval,jl,Qa,qf,qd,qx,qE,zz,qj,qz,zf,qc,mTk,qa,qb,bkS,List.length_map]))
    all_goals first|rfl|(simp;done)
  simp only at hi ⊢
  have hL:=Qb1 hb i hi
  have hS:=V9 c.cabins i
  obtain ⟨L,hLe⟩:∃ L,bkP c.cabins i=L:=⟨_,rfl⟩
  rw [hLe] at hL hS
  rw [hLe]
  by_cases hil:i < c.cabins.length
  · have d1:decide ((i:Int) < (c.cabins.length:Int))=true:=decide_eq_true (by omega)
    have e9:IntKind.wrap .i64 ((i:Int)+1)=((i+1:Nat):Int):=by rw [wrap64 (by omega) (by omega)];rfl
    have i0:((i:Int)).toNat=i:=rfl
    obtain ⟨x,hx⟩:∃ x,c.cabins.getD i default=x:=⟨_,rfl⟩
    have hxb:=hb x (by rw [← hx];exact vK hil)
    rw [hx] at hS
    simp only [bkS,List.cons_append,List.nil_append]
    repeat' (first|(apply nx;with_reducible constructor)|refine uq (by decide) ?_|((first|refine vx env fun Q hQ=>?_|refine vz fun Q hQ=>?_);simp only [vkt,seval,jl,Qa,qf,qd,qx,qE,zz,qj,qz,zf,qc,mTk,qa,qb,bkS,List.length_map,d1,i0];(try simp only [ite_and]);(repeat' (first|with_reducible assumption|refine And.intro ?_ ?_|intro hp));all_goals (first|(refine hQ _ ?_;clear hQ Q)|(refine hQ _ (fun h=>?_) (fun h=>?_) <;> clear hQ Q <;> (try simp only [vki,reduceCtorEq] at h))|(refine vq ?_;kernel_rfl)|omega|assumption|with_reducible rfl|skip)))
    refine qX (fun k:{ k:Nat // k≤x.beds.toNat }=>bkS c [(4,aI i),(5,aI k.1)] (L++bkF i k.1)) (fun k=>x.beds.toNat - k.1) ⟨0,Nat.zero_le _⟩ ?_ fun ⟨k,hk⟩=>?_
    · simp only [bkS,show bkF i 0=[] from rfl,List.append_nil,List.cons_append,List.nil_append]
      (refine Le.ok some [] ?_;constructor;all_goals (try simp only [vle,vkt,seval,jl,Qa,qf,qd,qx,qE,zz,qj,qz,zf,qc,mTk,qa,qb,bkS,List.length_map]))
      all_goals first|rfl|(simp;done)
    simp only at hk ⊢
    have hF:=Uw i k
    have hFl:(L++bkF i k).length≤100:=by rw [List.length_append,QbO];omega
    obtain ⟨M,hM⟩:∃ M,L++bkF i k=M:=⟨_,rfl⟩
    have hMS:L++bkF i (k+1)=M++[⟨(i:Int),(k:Int)⟩]:=by rw [hF,← List.append_assoc,hM]
    rw [hM] at hFl
    simp only [bkS,hM,List.cons_append,List.nil_append]
    by_cases hkl:k < x.beds.toNat
    · have d2:decide ((k:Int) < x.beds)=true:=decide_eq_true (by omega)
      have e8:IntKind.wrap .i64 ((k:Int)+1)=((k+1:Nat):Int):=by rw [wrap64 (by omega) (by omega)];rfl
      have hm:M.length+1≤maxLen:=by omega
      repeat' (first|(apply nx;with_reducible constructor)|refine uq (by decide) ?_|((first|refine vx env fun Q hQ=>?_|refine vz fun Q hQ=>?_);simp only [vkt,seval,jl,Qa,qf,qd,qx,qE,zz,qj,qz,zf,qc,mTk,qa,qb,bkS,List.length_map,i0,hil,hx,d2,e8,hm];(try simp only [ite_and]);(repeat' (first|with_reducible assumption|refine And.intro ?_ ?_|intro hp));all_goals (first|(refine hQ _ ?_;clear hQ Q)|(refine hQ _ (fun h=>?_) (fun h=>?_) <;> clear hQ Q <;> (try simp only [vki,reduceCtorEq] at h))|(refine vq ?_;kernel_rfl)|omega|assumption|with_reducible rfl|skip)))
      refine ⟨⟨k+1,hkl⟩,by show x.beds.toNat - (k+1) < x.beds.toNat - k;omega, ?_⟩
      simp only [bkS,hMS,List.cons_append,List.nil_append]
      (refine Le.ok (fun i=>if i=1 then some 3 else some i) [] ?_;constructor;all_goals (try simp only [vle,vkt,seval,jl,Qa,qf,qd,qx,qE,zz,qj,qz,zf,qc,mTk,qa,qb,bkS,List.length_map]))
      all_goals first|rfl|(rw [List.map_append];rfl)|(simp;done)|(intro i hi;rw [if_neg (by omega)];done)
    · have d2:decide ((k:Int) < x.beds)=false:=decide_eq_false (by omega)
      obtain rfl:k=x.beds.toNat:=by omega
      repeat' (first|(apply nx;with_reducible constructor)|refine uq (by decide) ?_|((first|refine vx env fun Q hQ=>?_|refine vz fun Q hQ=>?_);simp only [vkt,seval,jl,Qa,qf,qd,qx,qE,zz,qj,qz,zf,qc,mTk,qa,qb,bkS,List.length_map,i0,hil,hx,d2,e9];(try simp only [ite_and]);(repeat' (first|with_reducible assumption|refine And.intro ?_ ?_|intro hp));all_goals (first|(refine hQ _ ?_;clear hQ Q)|(refine hQ _ (fun h=>?_) (fun h=>?_) <;> clear hQ Q <;> (try simp only [vki,reduceCtorEq] at h))|(refine vq ?_;kernel_rfl)|omega|assumption|with_reducible rfl|skip)))
      refine ⟨⟨i+1,hil⟩,by show c.cabins.length - (i+1) < c.cabins.length - i;omega, ?_⟩
      simp only [bkS,hS,hM,List.cons_append,List.nil_append]
      (refine Le.ok some [] ?_;constructor;all_goals (try simp only [vle,vkt,seval,jl,Qa,qf,qd,qx,qE,zz,qj,qz,zf,qc,mTk,qa,qb,bkS,List.length_map]))
      all_goals first|rfl|(simp;done)
  · have d1:decide ((i:Int) < (c.cabins.length:Int))=false:=decide_eq_false (by omega)
    obtain rfl:i=c.cabins.length:=by omega
    rw [hLe]
    simp only [bkS,List.cons_append,List.nil_append]
    repeat' (first|(apply nx;with_reducible constructor)|refine uq (by decide) ?_|((first|refine vx env fun Q hQ=>?_|refine vz fun Q hQ=>?_);simp only [vkt,seval,jl,Qa,qf,qd,qx,qE,zz,qj,qz,zf,qc,mTk,qa,qb,bkS,List.length_map,d1];(try simp only [ite_and]);(repeat' (first|with_reducible assumption|refine And.intro ?_ ?_|intro hp));all_goals (first|(refine hQ _ ?_;clear hQ Q)|(refine hQ _ (fun h=>?_) (fun h=>?_) <;> clear hQ Q <;> (try simp only [vki,reduceCtorEq] at h))|(refine vq ?_;kernel_rfl)|omega|assumption|with_reducible rfl|skip)))
    (simp only [vrt,Try.results22,vkt,seval,jl,Qa,qf,qd,qx,qE,zz,qj,qz,zf,qc,mTk,qa,qb,bkS,List.length_map];refine Fin.val rfl ?_;(try simp only [AV.le,AV.leL]))
    all_goals first|rfl|(simp;done)|exact ⟨_,_,rfl⟩
def zB:List AV→Prop × AV
  |[.agg [.sl c0,.v (.int .i64 c1),.sl c2]]=>(c0=(c0.map qp).map qj∧c2=(c2.map dTk).map eTk∧((⟨(c0.map qp),c1,(c2.map dTk)⟩:Chart)).cabins.length≤3∧∀ x ∈ ((⟨(c0.map qp),c1,(c2.map dTk)⟩:Chart)).cabins,x.beds≤3,qd (qQ ((⟨(c0.map qp),c1,(c2.map dTk)⟩:Chart)).cabins))
  |_=>(False,.junk)
theorem Qcf {A:Frm→Prop}:qB A Try.prog 22 (qU false zB):=za fun vs hv h=>by
  clear hv
  unfold zB at h ⊢
  split at h
  · rename_i c0 c1 c2;obtain ⟨q0,q1,k0,k1⟩:=h
    refine ⟨by first|trivial|(simp [AV.plain,AV.plainL,aI,aB,qA,qd,qh,qf,aTk,cTk];done)|(repeat' split) <;> simp [AV.plain,AV.plainL,aI,aB,qA,qd,qh,qf,aTk,cTk],fun h=>absurd h (by decide), ?_⟩
    have:=QcZ ((⟨(c0.map qp),c1,(c2.map dTk)⟩:Chart)) k0 k1
    simp only [q9,qa,aI,qh,qb,← q0,← q1] at this
    first|exact this|(simp only [q9,qa,aI,qh,qb,← q0,← q1];exact this)
  · exact h.elim
end Go.Sym.B
namespace Go.Sym.B
open Go Go.Sym Go.Proofs Go.Sym.C
def Qz:=vj @ty3 (vj @WT (vj @jO (vj @xA (vj @WP (vj @ti3.eq_1 (vj @Zv.eq_1 (vj @jE.eq_1 (vj @vR.eq_1 @Zq.eq_1))))))))
def Vv:=vj @aI.eq_1 (@aB.eq_1)
theorem QdQ (c:Chart) (b:Bunk) (hc:CarOk c):FnV Try.prog 73 [qa c,qf b] (aB (vU c.cabins b.cab b.bed)):=by
  have env:Env (fun _=>True) Try.prog tyB (tab [(81,qU true zN)]):=qP ⟨QbL,trivial⟩
  refine Fn.of (A:=fun _=>True) (n0:=0) (D:=noD) (Fn0 Try.func73 rfl (fun vs w=>by kernel_rfl) (by kernel_rfl)) (by simp) (by simp [AV.ids,AV.idsL,qa,qb,qf]) (fun i o h=>by cases h) (fun _ _ _ _=>trivial) qF ?_
  have hcl:=hc.cabs
  have w1:IntKind.wrap .i64 ((c.cabins.length:Int) - 1)=(c.cabins.length:Int) - 1:=wrap64 (by omega) (by omega)
  have hE:vU c.cabins b.cab b.bed=(inB b.cab 0 ((c.cabins.length:Int) - 1) && inB b.bed 0 ((c.cabins.getD b.cab.toNat default).beds - 1)):=rfl
  cases h3:inB b.cab 0 ((c.cabins.length:Int) - 1) with
  |false =>
    rw [hE,h3]
    repeat' (first|(apply nx;with_reducible constructor)|refine uq (by decide) ?_|((first|refine vx env fun Q hQ=>?_|refine vz fun Q hQ=>?_);simp only [vkt,seval,Qz,Vv,qf,qx,qa,qb,qj,qz,qc,zN,List.length_map,h3,w1];(try simp only [ite_and]);(repeat' (first|with_reducible assumption|refine And.intro ?_ ?_|intro hp));all_goals (first|(refine hQ _ ?_;clear hQ Q)|(refine hQ _ (fun h=>?_) (fun h=>?_) <;> clear hQ Q <;> (try simp only [vki,reduceCtorEq] at h))|(refine vq ?_;kernel_rfl)|omega|assumption|with_reducible rfl|skip)))
    (simp only [vrt,Try.results73,vkt,seval,Qz,Vv,qf,qx,qa,qb,qj,qz,qc,zN,List.length_map];refine Fin.val rfl ?_;(try simp only [AV.le,AV.leL]))
    all_goals first|rfl|(simp;done)
  |true =>
    have b3:=jV.1 h3
    have g1:0≤b.cab:=b3.1
    have g2:b.cab.toNat < c.cabins.length:=by omega
    obtain ⟨x,hx⟩:∃ x,c.cabins.getD b.cab.toNat default=x:=⟨_,rfl⟩
    have hxb:=hc.beds _ (vK (d:=default) g2)
    rw [hx] at hxb
    have w2:IntKind.wrap .i64 (x.beds - 1)=x.beds - 1:=wrap64 (by omega) (by omega)
    rw [hE,h3,hx,Bool.true_and]
    repeat' (first|(apply nx;with_reducible constructor)|refine uq (by decide) ?_|((first|refine vx env fun Q hQ=>?_|refine vz fun Q hQ=>?_);simp only [vkt,seval,Qz,Vv,qf,qx,qa,qb,qj,qz,qc,zN,List.length_map,h3,w1,w2,hx,g1,g2];(try simp only [ite_and]);(repeat' (first|with_reducible assumption|refine And.intro ?_ ?_|intro hp));all_goals (first|(refine hQ _ ?_;clear hQ Q)|(refine hQ _ (fun h=>?_) (fun h=>?_) <;> clear hQ Q <;> (try simp only [vki,reduceCtorEq] at h))|(refine vq ?_;kernel_rfl)|omega|assumption|with_reducible rfl|skip)))
    (simp only [vrt,Try.results73,vkt,seval,Qz,Vv,qf,qx,qa,qb,qj,qz,qc,zN,List.length_map];refine Fin.val rfl ?_;(try simp only [AV.le,AV.leL]))
    all_goals first|rfl|(simp;done)
def wF:List AV→Prop × AV
  |[.agg [.sl c0,.v (.int .i64 c1),.sl c2],.agg [.v (.int .i64 b0),.v (.int .i64 b1)]]=>(c0=(c0.map qp).map qj∧c2=(c2.map dTk).map eTk∧CarOk ((⟨(c0.map qp),c1,(c2.map dTk)⟩:Chart)),aB (vU ((⟨(c0.map qp),c1,(c2.map dTk)⟩:Chart)).cabins ((⟨b0,b1⟩:Bunk)).cab ((⟨b0,b1⟩:Bunk)).bed))
  |_=>(False,.junk)
theorem Qgx {A:Frm→Prop}:qB A Try.prog 73 (qU true wF):=za fun vs hv h=>by
  clear hv
  unfold wF at h ⊢
  split at h
  · rename_i c0 c1 c2 b0 b1;obtain ⟨q0,q1,k0⟩:=h
    refine ⟨by first|trivial|(simp [AV.plain,AV.plainL,aI,aB,qA,qd,qh,qf,aTk,cTk];done)|(repeat' split) <;> simp [AV.plain,AV.plainL,aI,aB,qA,qd,qh,qf,aTk,cTk],fun _=>(by simp [AV.flat,AV.flatL,aI,aB]), ?_⟩
    have:=QdQ ((⟨(c0.map qp),c1,(c2.map dTk)⟩:Chart)) ((⟨b0,b1⟩:Bunk)) k0
    simp only [qf,q9,qa,aI,qh,qb,← q0,← q1] at this
    first|exact this|(simp only [qf,q9,qa,aI,qh,qb,← q0,← q1];exact this)
  · exact h.elim
end Go.Sym.B
namespace Go.Sym.B
open Go Go.Sym Go.Proofs Go.Sym.C
theorem Qib {α:Type} [Inhabited α] {l:List α} {p:α→Bool} (h:∀ j,j < l.length→p (l.getD j default)=false):l.any p=false:=List.any_eq_false.2 fun x hx=>by
  obtain ⟨j,hj,rfl⟩:=List.mem_iff_getElem.1 hx
  have:=h j hj
  rw [show l.getD j default=l[j] by simp [List.getD_eq_getElem?_getD,hj]] at this
  rw [this];simp
theorem Qgj {α:Type} [Inhabited α] {l:List α} {p:α→Bool} {k:Nat} (hk:k < l.length) (h:p (l.getD k default)=true):l.any p=true:=List.any_eq_true.2 ⟨_,vK hk,h⟩
def rsA (c:Chart) (t:Tk) (l:List Tk) (T:List (Nat × AV)):St:={ t:=asg (T++[(2,qh l),(4,.ptr 1 0),(6,aI 0)]),h:=qg [(0,.cells (qb c)),(1,.cells (cTk t))],n:=2 }
def zm:=vj @ty3 (vj @xC (vj @jO (vj @QN (vj @xA (vj @yw (vj @ti3.eq_1 (vj @vP.eq_1 (vj @jE.eq_1 (vj @Qb.eq_1 (vj @vR.eq_1 @j3.eq_1))))))))))
def wW:=vj @aI.eq_1 (@aB.eq_1)
theorem QfP (c:Chart) (t:Tk) (l:List Tk) (hc:CarOk c) (hl:l.length≤100):FnV Try.prog 116 [qa c,aTk t,qh l] (aI (zM c t l)):=by
  have env:Env (fun _=>True) Try.prog tyB (tab [(81,qU true zN),(73,qU true wF),(137,qU true yE),(138,qU true wP),(139,qU true yD)]):=qP ⟨QbL,Qgx,erway,QfR,ertog,trivial⟩
  refine Fn.of (A:=fun _=>True) (n0:=0) (D:=noD) (Fn0 Try.func116 rfl (fun vs w=>by kernel_rfl) (by kernel_rfl)) (by simp) (by simp [AV.ids,AV.idsL,qa,qb,aTk,cTk,qh]) (fun i o h=>by cases h) (fun _ _ _ _=>trivial) qF ?_
  have et:(⟨t.party,t.sex,t.cab,t.bed,t.frm,t.to,t.dog⟩:Tk)=t:=rfl
  have ec:(⟨c.cabins,c.secs,c.sold⟩:Chart)=c:=rfl
  have eb:(⟨t.cab,t.bed⟩:Bunk)=⟨t.cab,t.bed⟩:=rfl
  have hc':=hc
  cases h1:inB t.party 1 99
  · rw [show zM c t l=1 by simp [zM,h1]]
    repeat' (first|(apply nx;with_reducible constructor)|refine uq (by decide) ?_|((first|refine vx env fun Q hQ=>?_|refine vz fun Q hQ=>?_);simp only [vkt,seval,zm,wW,qf,aTk,cTk,qh,eTk,gTk,mTk,qc,qa,qb,rsA,zN,wF,yE,wP,yD,List.length_map,h1,et,ec];(try simp only [ite_and]);(repeat' (first|with_reducible assumption|refine And.intro ?_ ?_|intro hp));all_goals (first|(refine hQ _ ?_;clear hQ Q)|(refine hQ _ (fun h=>?_) (fun h=>?_) <;> clear hQ Q <;> (try simp only [vki,reduceCtorEq] at h))|(refine vq ?_;kernel_rfl)|omega|assumption|with_reducible rfl|skip)))
    (simp only [vrt,Try.results116,vkt,seval,zm,wW,qf,aTk,cTk,qh,eTk,gTk,mTk,qc,qa,qb,rsA,zN,wF,yE,wP,yD,List.length_map];refine Fin.val rfl ?_;(try simp only [AV.le,AV.leL]))
    all_goals first|rfl|(simp;done)
  cases h2:inB t.sex 1 2
  · rw [show zM c t l=8 by simp [zM,h1,h2]]
    repeat' (first|(apply nx;with_reducible constructor)|refine uq (by decide) ?_|((first|refine vx env fun Q hQ=>?_|refine vz fun Q hQ=>?_);simp only [vkt,seval,zm,wW,qf,aTk,cTk,qh,eTk,gTk,mTk,qc,qa,qb,rsA,zN,wF,yE,wP,yD,List.length_map,h1,h2,et,ec];(try simp only [ite_and]);(repeat' (first|with_reducible assumption|refine And.intro ?_ ?_|intro hp));all_goals (first|(refine hQ _ ?_;clear hQ Q)|(refine hQ _ (fun h=>?_) (fun h=>?_) <;> clear hQ Q <;> (try simp only [vki,reduceCtorEq] at h))|(refine vq ?_;kernel_rfl)|omega|assumption|with_reducible rfl|skip)))
    (simp only [vrt,Try.results116,vkt,seval,zm,wW,qf,aTk,cTk,qh,eTk,gTk,mTk,qc,qa,qb,rsA,zN,wF,yE,wP,yD,List.length_map];refine Fin.val rfl ?_;(try simp only [AV.le,AV.leL]))
    all_goals first|rfl|(simp;done)
  cases h3:vU c.cabins t.cab t.bed
  · rw [show zM c t l=3 by simp [zM,h1,h2,h3]]
    repeat' (first|(apply nx;with_reducible constructor)|refine uq (by decide) ?_|((first|refine vx env fun Q hQ=>?_|refine vz fun Q hQ=>?_);simp only [vkt,seval,zm,wW,qf,aTk,cTk,qh,eTk,gTk,mTk,qc,qa,qb,rsA,zN,wF,yE,wP,yD,List.length_map,h1,h2,h3,et,ec];(try simp only [ite_and]);(repeat' (first|with_reducible assumption|refine And.intro ?_ ?_|intro hp));all_goals (first|(refine hQ _ ?_;clear hQ Q)|(refine hQ _ (fun h=>?_) (fun h=>?_) <;> clear hQ Q <;> (try simp only [vki,reduceCtorEq] at h))|(refine vq ?_;kernel_rfl)|omega|assumption|with_reducible rfl|skip)))
    (simp only [vrt,Try.results116,vkt,seval,zm,wW,qf,aTk,cTk,qh,eTk,gTk,mTk,qc,qa,qb,rsA,zN,wF,yE,wP,yD,List.length_map];refine Fin.val rfl ?_;(try simp only [AV.le,AV.leL]))
    all_goals first|rfl|(simp;done)
  have hr:zM c t l=if QX c.secs t.frm t.to ≠ 0 then QX c.secs t.frm t.to else ji t l:=by unfold zM;simp [h1,h2,h3]
  rw [hr]
  obtain ⟨w,hw⟩:∃ w,QX c.secs t.frm t.to=w:=⟨_,rfl⟩
  rw [hw]
  by_cases h5:w=0
  · rw [if_neg (fun h=>h h5)]
    rw [h5] at hw
    unfold ji
    repeat' (first|(apply nx;with_reducible constructor)|refine uq (by decide) ?_|((first|refine vx env fun Q hQ=>?_|refine vz fun Q hQ=>?_);simp only [vkt,seval,zm,wW,qf,aTk,cTk,qh,eTk,gTk,mTk,qc,qa,qb,rsA,zN,wF,yE,wP,yD,List.length_map,h1,h2,h3,hw,et,ec,decide_true];(try simp only [ite_and]);(repeat' (first|with_reducible assumption|refine And.intro ?_ ?_|intro hp));all_goals (first|(refine hQ _ ?_;clear hQ Q)|(refine hQ _ (fun h=>?_) (fun h=>?_) <;> clear hQ Q <;> (try simp only [vki,reduceCtorEq] at h))|(refine vq ?_;kernel_rfl)|omega|assumption|with_reducible rfl|skip)))
    refine qX (fun k:{ k:Nat // k≤l.length∧∀ j,j < k→Zg t (l.getD j default)=false }=>rsA c t l [(8,aI k.1)]) (fun k=>l.length - k.1) ⟨0,Nat.zero_le _,fun j h=>absurd h (Nat.not_lt_zero _)⟩ ?_ fun ⟨k,hk,hno⟩=>?_
    · simp only [rsA,List.cons_append,List.nil_append]
      (refine Le.ok some [] ?_;constructor;all_goals (try simp only [vle,vkt,seval,zm,wW,qf,aTk,cTk,qh,eTk,gTk,mTk,qc,qa,qb,rsA,zN,wF,yE,wP,yD,List.length_map]))
      all_goals first|rfl|(simp;done)
    simp only at hk hno ⊢
    simp only [rsA,List.cons_append,List.nil_append]
    by_cases hkl:k < l.length
    · have d1:decide ((k:Int) < (l.length:Int))=true:=decide_eq_true (by omega)
      have e9:IntKind.wrap .i64 ((k:Int)+1)=((k+1:Nat):Int):=by rw [wrap64 (by omega) (by omega)];rfl
      have k0:((k:Int)).toNat=k:=rfl
      obtain ⟨x,hx⟩:∃ x,l.getD k default=x:=⟨_,rfl⟩
      have ex:(⟨x.party,x.sex,x.cab,x.bed,x.frm,x.to,x.dog⟩:Tk)=x:=rfl
      have hT:Zg t x=(decide (x.cab=t.cab) && decide (x.bed=t.bed) && Qd x t):=rfl
      cases q1:(decide (x.cab=t.cab) && decide (x.bed=t.bed)) with
      |false =>
        rw [q1,Bool.false_and] at hT
        repeat' (first|(apply nx;with_reducible constructor)|refine uq (by decide) ?_|((first|refine vx env fun Q hQ=>?_|refine vz fun Q hQ=>?_);simp only [vkt,seval,zm,wW,qf,aTk,cTk,qh,eTk,gTk,mTk,qc,qa,qb,rsA,zN,wF,yE,wP,yD,List.length_map,d1,e9,k0,hkl,hx,q1,et,ex];(try simp only [ite_and]);(repeat' (first|with_reducible assumption|refine And.intro ?_ ?_|intro hp));all_goals (first|(refine hQ _ ?_;clear hQ Q)|(refine hQ _ (fun h=>?_) (fun h=>?_) <;> clear hQ Q <;> (try simp only [vki,reduceCtorEq] at h))|(refine vq ?_;kernel_rfl)|omega|assumption|with_reducible rfl|skip)))
        refine ⟨⟨k+1,hkl,fun j hj=>?_⟩,by show l.length - (k+1) < l.length - k;omega, ?_⟩
        · rcases Nat.lt_or_eq_of_le (Nat.le_of_lt_succ hj) with h|h
          · exact hno j h
          · rw [h,hx];exact hT
        simp only [rsA,List.cons_append,List.nil_append]
        (refine Le.ok some [] ?_;constructor;all_goals (try simp only [vle,vkt,seval,zm,wW,qf,aTk,cTk,qh,eTk,gTk,mTk,qc,qa,qb,rsA,zN,wF,yE,wP,yD,List.length_map]))
        all_goals first|rfl|(simp;done)
      |true =>
        cases q2:Qd x t with
        |false =>
          rw [q1,q2,Bool.true_and] at hT
          repeat' (first|(apply nx;with_reducible constructor)|refine uq (by decide) ?_|((first|refine vx env fun Q hQ=>?_|refine vz fun Q hQ=>?_);simp only [vkt,seval,zm,wW,qf,aTk,cTk,qh,eTk,gTk,mTk,qc,qa,qb,rsA,zN,wF,yE,wP,yD,List.length_map,d1,e9,k0,hkl,hx,q1,q2,et,ex];(try simp only [ite_and]);(repeat' (first|with_reducible assumption|refine And.intro ?_ ?_|intro hp));all_goals (first|(refine hQ _ ?_;clear hQ Q)|(refine hQ _ (fun h=>?_) (fun h=>?_) <;> clear hQ Q <;> (try simp only [vki,reduceCtorEq] at h))|(refine vq ?_;kernel_rfl)|omega|assumption|with_reducible rfl|skip)))
          refine ⟨⟨k+1,hkl,fun j hj=>?_⟩,by show l.length - (k+1) < l.length - k;omega, ?_⟩
          · rcases Nat.lt_or_eq_of_le (Nat.le_of_lt_succ hj) with h|h
            · exact hno j h
            · rw [h,hx];exact hT
          simp only [rsA,List.cons_append,List.nil_append]
          (refine Le.ok some [] ?_;constructor;all_goals (try simp only [vle,vkt,seval,zm,wW,qf,aTk,cTk,qh,eTk,gTk,mTk,qc,qa,qb,rsA,zN,wF,yE,wP,yD,List.length_map]))
          all_goals first|rfl|(simp;done)
        |true =>
          rw [q1,q2,Bool.true_and] at hT
          rw [if_pos (Qgj hkl (by rw [hx];exact hT))]
          repeat' (first|(apply nx;with_reducible constructor)|refine uq (by decide) ?_|((first|refine vx env fun Q hQ=>?_|refine vz fun Q hQ=>?_);simp only [vkt,seval,zm,wW,qf,aTk,cTk,qh,eTk,gTk,mTk,qc,qa,qb,rsA,zN,wF,yE,wP,yD,List.length_map,d1,e9,k0,hkl,hx,q1,q2,et,ex];(try simp only [ite_and]);(repeat' (first|with_reducible assumption|refine And.intro ?_ ?_|intro hp));all_goals (first|(refine hQ _ ?_;clear hQ Q)|(refine hQ _ (fun h=>?_) (fun h=>?_) <;> clear hQ Q <;> (try simp only [vki,reduceCtorEq] at h))|(refine vq ?_;kernel_rfl)|omega|assumption|with_reducible rfl|skip)))
          (simp only [vrt,Try.results116,vkt,seval,zm,wW,qf,aTk,cTk,qh,eTk,gTk,mTk,qc,qa,qb,rsA,zN,wF,yE,wP,yD,List.length_map];refine Fin.val rfl ?_;(try simp only [AV.le,AV.leL]))
          all_goals first|rfl|(simp;done)
    · have d1:decide ((k:Int) < (l.length:Int))=false:=decide_eq_false (by omega)
      obtain rfl:k=l.length:=by omega
      rw [if_neg (by rw [Qib hno];decide)]
      repeat' (first|(apply nx;with_reducible constructor)|refine uq (by decide) ?_|((first|refine vx env fun Q hQ=>?_|refine vz fun Q hQ=>?_);simp only [vkt,seval,zm,wW,qf,aTk,cTk,qh,eTk,gTk,mTk,qc,qa,qb,rsA,zN,wF,yE,wP,yD,List.length_map,d1];(try simp only [ite_and]);(repeat' (first|with_reducible assumption|refine And.intro ?_ ?_|intro hp));all_goals (first|(refine hQ _ ?_;clear hQ Q)|(refine hQ _ (fun h=>?_) (fun h=>?_) <;> clear hQ Q <;> (try simp only [vki,reduceCtorEq] at h))|(refine vq ?_;kernel_rfl)|omega|assumption|with_reducible rfl|skip)))
      refine qX (fun k:{ k:Nat // k≤l.length∧∀ j,j < k→(!Zx (l.getD j default) t)=false }=>rsA c t l [(9,aI k.1)]) (fun k=>l.length - k.1) ⟨0,Nat.zero_le _,fun j h=>absurd h (Nat.not_lt_zero _)⟩ ?_ fun ⟨k,hk,hno⟩=>?_
      · simp only [rsA,List.cons_append,List.nil_append]
        (refine Le.ok some [] ?_;constructor;all_goals (try simp only [vle,vkt,seval,zm,wW,qf,aTk,cTk,qh,eTk,gTk,mTk,qc,qa,qb,rsA,zN,wF,yE,wP,yD,List.length_map]))
        all_goals first|rfl|(simp;done)
      simp only at hk hno ⊢
      simp only [rsA,List.cons_append,List.nil_append]
      by_cases hkl:k < l.length
      · have d1:decide ((k:Int) < (l.length:Int))=true:=decide_eq_true (by omega)
        have e9:IntKind.wrap .i64 ((k:Int)+1)=((k+1:Nat):Int):=by rw [wrap64 (by omega) (by omega)];rfl
        have k0:((k:Int)).toNat=k:=rfl
        obtain ⟨x,hx⟩:∃ x,l.getD k default=x:=⟨_,rfl⟩
        have ex:(⟨x.party,x.sex,x.cab,x.bed,x.frm,x.to,x.dog⟩:Tk)=x:=rfl
        cases q2:Zx x t with
        |true =>
          repeat' (first|(apply nx;with_reducible constructor)|refine uq (by decide) ?_|((first|refine vx env fun Q hQ=>?_|refine vz fun Q hQ=>?_);simp only [vkt,seval,zm,wW,qf,aTk,cTk,qh,eTk,gTk,mTk,qc,qa,qb,rsA,zN,wF,yE,wP,yD,List.length_map,d1,e9,k0,hkl,hx,q2,et,ex];(try simp only [ite_and]);(repeat' (first|with_reducible assumption|refine And.intro ?_ ?_|intro hp));all_goals (first|(refine hQ _ ?_;clear hQ Q)|(refine hQ _ (fun h=>?_) (fun h=>?_) <;> clear hQ Q <;> (try simp only [vki,reduceCtorEq] at h))|(refine vq ?_;kernel_rfl)|omega|assumption|with_reducible rfl|skip)))
          refine ⟨⟨k+1,hkl,fun j hj=>?_⟩,by show l.length - (k+1) < l.length - k;omega, ?_⟩
          · rcases Nat.lt_or_eq_of_le (Nat.le_of_lt_succ hj) with h|h
            · exact hno j h
            · rw [h,hx,q2];rfl
          simp only [rsA,List.cons_append,List.nil_append]
          (refine Le.ok some [] ?_;constructor;all_goals (try simp only [vle,vkt,seval,zm,wW,qf,aTk,cTk,qh,eTk,gTk,mTk,qc,qa,qb,rsA,zN,wF,yE,wP,yD,List.length_map]))
          all_goals first|rfl|(simp;done)
        |false =>
          rw [if_pos (Qgj (p:=fun x=>!Zx x t) hkl (by rw [hx,q2];rfl))]
          repeat' (first|(apply nx;with_reducible constructor)|refine uq (by decide) ?_|((first|refine vx env fun Q hQ=>?_|refine vz fun Q hQ=>?_);simp only [vkt,seval,zm,wW,qf,aTk,cTk,qh,eTk,gTk,mTk,qc,qa,qb,rsA,zN,wF,yE,wP,yD,List.length_map,d1,e9,k0,hkl,hx,q2,et,ex];(try simp only [ite_and]);(repeat' (first|with_reducible assumption|refine And.intro ?_ ?_|intro hp));all_goals (first|(refine hQ _ ?_;clear hQ Q)|(refine hQ _ (fun h=>?_) (fun h=>?_) <;> clear hQ Q <;> (try simp only [vki,reduceCtorEq] at h))|(refine vq ?_;kernel_rfl)|omega|assumption|with_reducible rfl|skip)))
          (simp only [vrt,Try.results116,vkt,seval,zm,wW,qf,aTk,cTk,qh,eTk,gTk,mTk,qc,qa,qb,rsA,zN,wF,yE,wP,yD,List.length_map];refine Fin.val rfl ?_;(try simp only [AV.le,AV.leL]))
          all_goals first|rfl|(simp;done)
      · have d1:decide ((k:Int) < (l.length:Int))=false:=decide_eq_false (by omega)
        obtain rfl:k=l.length:=by omega
        rw [if_neg (by rw [Qib (p:=fun x=>!Zx x t) hno];decide)]
        repeat' (first|(apply nx;with_reducible constructor)|refine uq (by decide) ?_|((first|refine vx env fun Q hQ=>?_|refine vz fun Q hQ=>?_);simp only [vkt,seval,zm,wW,qf,aTk,cTk,qh,eTk,gTk,mTk,qc,qa,qb,rsA,zN,wF,yE,wP,yD,List.length_map,d1];(try simp only [ite_and]);(repeat' (first|with_reducible assumption|refine And.intro ?_ ?_|intro hp));all_goals (first|(refine hQ _ ?_;clear hQ Q)|(refine hQ _ (fun h=>?_) (fun h=>?_) <;> clear hQ Q <;> (try simp only [vki,reduceCtorEq] at h))|(refine vq ?_;kernel_rfl)|omega|assumption|with_reducible rfl|skip)))
        (simp only [vrt,Try.results116,vkt,seval,zm,wW,qf,aTk,cTk,qh,eTk,gTk,mTk,qc,qa,qb,rsA,zN,wF,yE,wP,yD,List.length_map];refine Fin.val rfl ?_;(try simp only [AV.le,AV.leL]))
        all_goals first|rfl|(simp;done)
  · rw [if_pos h5]
    have d5:decide (w=0)=false:=decide_eq_false h5
    repeat' (first|(apply nx;with_reducible constructor)|refine uq (by decide) ?_|((first|refine vx env fun Q hQ=>?_|refine vz fun Q hQ=>?_);simp only [vkt,seval,zm,wW,qf,aTk,cTk,qh,eTk,gTk,mTk,qc,qa,qb,rsA,zN,wF,yE,wP,yD,List.length_map,h1,h2,h3,hw,d5,et,ec];(try simp only [ite_and]);(repeat' (first|with_reducible assumption|refine And.intro ?_ ?_|intro hp));all_goals (first|(refine hQ _ ?_;clear hQ Q)|(refine hQ _ (fun h=>?_) (fun h=>?_) <;> clear hQ Q <;> (try simp only [vki,reduceCtorEq] at h))|(refine vq ?_;kernel_rfl)|omega|assumption|with_reducible rfl|skip)))
    (simp only [vrt,Try.results116,vkt,seval,zm,wW,qf,aTk,cTk,qh,eTk,gTk,mTk,qc,qa,qb,rsA,zN,wF,yE,wP,yD,List.length_map];refine Fin.val rfl ?_;(try simp only [AV.le,AV.leL]))
    all_goals first|rfl|(simp;done)
def QH:List AV→Prop × AV
  |[.agg [.sl c0,.v (.int .i64 c1),.sl c2],.agg [.v (.int .i64 t0),.v (.int .i64 t1),.v (.int .i64 t2),.v (.int .i64 t3),.v (.int .i64 t4),.v (.int .i64 t5),.v (.bool t6)],.sl l]=>(c0=(c0.map qp).map qj∧c2=(c2.map dTk).map eTk∧l=(l.map dTk).map eTk∧CarOk ((⟨(c0.map qp),c1,(c2.map dTk)⟩:Chart))∧(l.map dTk).length≤100,aI (zM ((⟨(c0.map qp),c1,(c2.map dTk)⟩:Chart)) (⟨t0,t1,t2,t3,t4,t5,t6⟩:Tk) (l.map dTk)))
  |_=>(False,.junk)
theorem Qju {A:Frm→Prop}:qB A Try.prog 116 (qU true QH):=za fun vs hv h=>by
  clear hv
  unfold QH at h ⊢
  split at h
  · rename_i c0 c1 c2 t0 t1 t2 t3 t4 t5 t6 l;obtain ⟨q0,q1,q2,k0,k1⟩:=h
    refine ⟨by first|trivial|(simp [AV.plain,AV.plainL,aI,aB,qA,qd,qh,qf,aTk,cTk];done)|(repeat' split) <;> simp [AV.plain,AV.plainL,aI,aB,qA,qd,qh,qf,aTk,cTk],fun _=>(by simp [AV.flat,AV.flatL,aI,aB]), ?_⟩
    have:=QfP ((⟨(c0.map qp),c1,(c2.map dTk)⟩:Chart)) (⟨t0,t1,t2,t3,t4,t5,t6⟩:Tk) (l.map dTk) k0 k1
    simp only [aB,q9,qa,aI,aTk,qh,qb,cTk,← q0,← q1,← q2] at this
    first|exact this|(simp only [aB,q9,qa,aI,aTk,qh,qb,cTk,← q0,← q1,← q2];exact this)
  · exact h.elim
def rkS (c:Chart) (l:List Tk) (k:Nat):St:={ t:=asg [(1,qh l),(2,.ptr 0 0),(4,aI 0),(5,aI k)],h:=qg [(0,.cells (qb c))],n:=1 }
def vG:=vj @ty3 (vj @xC (vj @jO (vj @QN (vj @yw (vj @ti3.eq_1 (vj @vP.eq_1 (vj @jE.eq_1 (vj @Qb.eq_1 @j3.eq_1))))))))
def Q4:=vj @aI.eq_1 (@aB.eq_1)
theorem Qhh (c:Chart) (l:List Tk) (hc:CarOk c) (hl:l.length≤100):FnV Try.prog 74 [qa c,qh l] (aI (yC c l)):=by
  have env:Env (fun _=>True) Try.prog tyB (tab [(116,qU true QH)]):=qP ⟨Qju,trivial⟩
  refine Fn.of (A:=fun _=>True) (n0:=0) (D:=noD) (Fn0 Try.func74 rfl (fun vs w=>by kernel_rfl) (by kernel_rfl)) (by simp) (by simp [AV.ids,AV.idsL,qa,qb,qh]) (fun i o h=>by cases h) (fun _ _ _ _=>trivial) qF ?_
  have ec:(⟨c.cabins,c.secs,c.sold⟩:Chart)=c:=rfl
  repeat' (first|(apply nx;with_reducible constructor)|refine uq (by decide) ?_|((first|refine vx env fun Q hQ=>?_|refine vz fun Q hQ=>?_);simp only [vkt,seval,vG,Q4,aTk,cTk,qh,eTk,gTk,rTk,mTk,qc,qa,qb,rkS,QH,List.length_map];(try simp only [ite_and]);(repeat' (first|with_reducible assumption|refine And.intro ?_ ?_|intro hp));all_goals (first|(refine hQ _ ?_;clear hQ Q)|(refine hQ _ (fun h=>?_) (fun h=>?_) <;> clear hQ Q <;> (try simp only [vki,reduceCtorEq] at h))|(refine vq ?_;kernel_rfl)|omega|assumption|with_reducible rfl|skip)))
  refine qX (fun k:{ k:Nat // k≤l.length∧∀ j,j < k→zM c (l.getD j default) (l.take j)=0 }=>rkS c l k.1) (fun k=>l.length - k.1) ⟨0,Nat.zero_le _,fun j h=>absurd h (Nat.not_lt_zero _)⟩ ?_ fun ⟨k,hk,hno⟩=>?_
  · (refine Le.ok some [] ?_;constructor;all_goals (try simp only [vle,vkt,seval,vG,Q4,aTk,cTk,qh,eTk,gTk,rTk,mTk,qc,qa,qb,rkS,QH,List.length_map]))
    all_goals first|rfl|(simp;done)
  simp only at hk hno ⊢
  simp only [rkS]
  by_cases hlt:k < l.length
  · have d1:decide ((k:Int) < (l.length:Int))=true:=decide_eq_true (by omega)
    have e9:IntKind.wrap .i64 ((k:Int)+1)=((k+1:Nat):Int):=by rw [wrap64 (by omega) (by omega)];rfl
    have k0:((k:Int)).toNat=k:=rfl
    obtain ⟨x,hx⟩:∃ x,l.getD k default=x:=⟨_,rfl⟩
    have ex:(⟨x.party,x.sex,x.cab,x.bed,x.frm,x.to,x.dog⟩:Tk)=x:=rfl
    have tk:List.take k (l.map eTk)=(l.take k).map eTk:=List.map_take.symm
    have t100:(l.take k).length≤100:=by rw [List.length_take];omega
    have hkl:k≤l.length:=hk
    have hg:=Qbf (f:=fun i=>zM c (l.getD i default) (l.take i)) hlt
    obtain ⟨e,he⟩:∃ e,zM c x (l.take k)=e:=⟨_,rfl⟩
    by_cases h2:e=0
    · rw [h2] at he
      repeat' (first|(apply nx;with_reducible constructor)|refine uq (by decide) ?_|((first|refine vx env fun Q hQ=>?_|refine vz fun Q hQ=>?_);simp only [vkt,seval,vG,Q4,aTk,cTk,qh,eTk,gTk,rTk,mTk,qc,qa,qb,rkS,QH,List.length_map,d1,k0,hlt,hkl,hx,ex,ec,tk,he,e9,decide_true];(try simp only [ite_and]);(repeat' (first|with_reducible assumption|refine And.intro ?_ ?_|intro hp));all_goals (first|(refine hQ _ ?_;clear hQ Q)|(refine hQ _ (fun h=>?_) (fun h=>?_) <;> clear hQ Q <;> (try simp only [vki,reduceCtorEq] at h))|(refine vq ?_;kernel_rfl)|omega|assumption|with_reducible rfl|skip)))
      refine ⟨⟨k+1,hlt,fun j hj=>?_⟩,by show l.length - (k+1) < l.length - k;omega, ?_⟩
      · rcases Nat.lt_or_eq_of_le (Nat.le_of_lt_succ hj) with h3|h3
        · exact hno j h3
        · rw [h3,hx];exact he
      · (refine Le.ok some [] ?_;constructor;all_goals (try simp only [vle,vkt,seval,vG,Q4,aTk,cTk,qh,eTk,gTk,rTk,mTk,qc,qa,qb,rkS,QH,List.length_map]))
        all_goals first|rfl|(simp;done)
    · have hf:yC c l=e:=by
        unfold yC
        rw [Qi (k:=k) (fun j hj=>by rw [Qbf (by omega)];exact hno j hj) (by simpa using hlt) (by rw [hg,hx,he];exact h2),hg,hx,he]
      rw [hf]
      have d2:decide (e=0)=false:=decide_eq_false h2
      repeat' (first|(apply nx;with_reducible constructor)|refine uq (by decide) ?_|((first|refine vx env fun Q hQ=>?_|refine vz fun Q hQ=>?_);simp only [vkt,seval,vG,Q4,aTk,cTk,qh,eTk,gTk,rTk,mTk,qc,qa,qb,rkS,QH,List.length_map,d1,k0,hlt,hkl,hx,ex,ec,tk,he,d2];(try simp only [ite_and]);(repeat' (first|with_reducible assumption|refine And.intro ?_ ?_|intro hp));all_goals (first|(refine hQ _ ?_;clear hQ Q)|(refine hQ _ (fun h=>?_) (fun h=>?_) <;> clear hQ Q <;> (try simp only [vki,reduceCtorEq] at h))|(refine vq ?_;kernel_rfl)|omega|assumption|with_reducible rfl|skip)))
      (simp only [vrt,Try.results74,vkt,seval,vG,Q4,aTk,cTk,qh,eTk,gTk,rTk,mTk,qc,qa,qb,rkS,QH,List.length_map];refine Fin.val rfl ?_;(try simp only [AV.le,AV.leL]))
      all_goals first|rfl|(simp;done)
  · have d1:decide ((k:Int) < (l.length:Int))=false:=decide_eq_false (by omega)
    have hke:k=l.length:=by omega
    subst hke
    rw [show yC c l=0 from xB fun j hj=>by
      have hj':j < l.length:=by simpa using hj
      rw [Qbf hj'];exact hno j hj']
    repeat' (first|(apply nx;with_reducible constructor)|refine uq (by decide) ?_|((first|refine vx env fun Q hQ=>?_|refine vz fun Q hQ=>?_);simp only [vkt,seval,vG,Q4,aTk,cTk,qh,eTk,gTk,rTk,mTk,qc,qa,qb,rkS,QH,List.length_map,d1];(try simp only [ite_and]);(repeat' (first|with_reducible assumption|refine And.intro ?_ ?_|intro hp));all_goals (first|(refine hQ _ ?_;clear hQ Q)|(refine hQ _ (fun h=>?_) (fun h=>?_) <;> clear hQ Q <;> (try simp only [vki,reduceCtorEq] at h))|(refine vq ?_;kernel_rfl)|omega|assumption|with_reducible rfl|skip)))
    (simp only [vrt,Try.results74,vkt,seval,vG,Q4,aTk,cTk,qh,eTk,gTk,rTk,mTk,qc,qa,qb,rkS,QH,List.length_map];refine Fin.val rfl ?_;(try simp only [AV.le,AV.leL]))
    all_goals first|rfl|(simp;done)
def J2:List AV→Prop × AV
  |[.agg [.sl c0,.v (.int .i64 c1),.sl c2],.sl l]=>(c0=(c0.map qp).map qj∧c2=(c2.map dTk).map eTk∧l=(l.map dTk).map eTk∧CarOk ((⟨(c0.map qp),c1,(c2.map dTk)⟩:Chart))∧(l.map dTk).length≤100,aI (yC ((⟨(c0.map qp),c1,(c2.map dTk)⟩:Chart)) (l.map dTk)))
  |_=>(False,.junk)
theorem ertks {A:Frm→Prop}:qB A Try.prog 74 (qU true J2):=za fun vs hv h=>by
  clear hv
  unfold J2 at h ⊢
  split at h
  · rename_i c0 c1 c2 l;obtain ⟨q0,q1,q2,k0,k1⟩:=h
    refine ⟨by first|trivial|(simp [AV.plain,AV.plainL,aI,aB,qA,qd,qh,qf,aTk,cTk];done)|(repeat' split) <;> simp [AV.plain,AV.plainL,aI,aB,qA,qd,qh,qf,aTk,cTk],fun _=>(by simp [AV.flat,AV.flatL,aI,aB]), ?_⟩
    have:=Qhh ((⟨(c0.map qp),c1,(c2.map dTk)⟩:Chart)) (l.map dTk) k0 k1
    simp only [q9,qa,aI,qh,qb,← q0,← q1,← q2] at this
    first|exact this|(simp only [q9,qa,aI,qh,qb,← q0,← q1,← q2];exact this)
  · exact h.elim
end Go.Sym.B
namespace Go.Sym.B
open Go Go.Sym Go.Proofs Go.Sym.C
end Go.Sym.B
namespace Go.Sym.B
open Go Go.Sym Go.Proofs Go.Sym.C
theorem QcN {α:Type} {p:α→Bool} {d:α} {l:List α} {i:Nat} (h:i < l.length):((l.take (i+1)).filter p).length=((l.take i).filter p).length+if p (l.getD i d) then 1 else 0:=by
  rw [List.take_succ_eq_append_getElem h,List.filter_append,List.length_append,List.getD_eq_getElem?_getD,List.getElem?_eq_getElem h]
  cases hp:p l[i] <;> simp [hp]
end Go.Sym.B
namespace Go.Sym.B
open Go Go.Sym Go.Proofs Go.Sym.C
end Go.Sym.B
namespace Go.Sym.B
open Go Go.Sym Go.Proofs Go.Sym.C
theorem Qd7 {l m:List Int} (h0:l.length=m.length) (h:∀ j,j < l.length→l.getD j 0=m.getD j 0):l=m:=Wz h0 h
theorem QgK {a b c d e f:Int} {g:Bool} {a' b' c' d' e' f':Int} {g':Bool}:decide ((⟨a,b,c,d,e,f,g⟩:Tk)=⟨a',b',c',d',e',f',g'⟩)=(decide (a=a') && (decide (b=b') && (decide (c=c') && (decide (d=d') && (decide (e=e') && (decide (f=f') && (g == g'))))))):=by
  rw [Bool.eq_iff_iff];simp
theorem QhA {a:Int} {g:Bool} {a':Int} {g':Bool}:decide ((⟨a,g⟩:Cabin)=⟨a',g'⟩)=(decide (a=a') && (g == g')):=by
  rw [Bool.eq_iff_iff];simp
def Vg (l m:List Int) (k:Nat):St:={ t:=asg [(0,qA l),(1,qA m),(4,aB false),(5,aI k)],h:=qg [],n:=0 }
def yX:=vj @ty3 (vj @Wl (vj @ti3.eq_1 @Zk.eq_1))
def kW:=vj @aI.eq_1 (vj @aB.eq_1 (vj @qA.eq_1 (vj @zX.eq_1 (@U3))))
theorem Qjn (l m:List Int) (hl:l.length≤maxLen) (hm:m.length≤maxLen):FnV Try.prog 54 [qA l,qA m] (aB (decide (l=m))):=by
  have env:Env (fun _=>True) Try.prog tyB (tab []):=qP trivial
  refine Fn.of (A:=fun _=>True) (n0:=0) (D:=noD) (Fn0 Try.func54 rfl (fun vs w=>by kernel_rfl) (by kernel_rfl)) (by simp) (by simp [AV.ids,qA]) (fun i o h=>by cases h) (fun _ _ _ _=>trivial) qF ?_
  have hmx:maxLen=9223372036854775807:=by decide
  by_cases h0:l.length=m.length
  · have d0:decide ((l.length:Int)=(m.length:Int))=true:=decide_eq_true (by omega)
    repeat' (first|(apply nx;with_reducible constructor)|refine uq (by decide) ?_|((first|refine vx env fun Q hQ=>?_|refine vz fun Q hQ=>?_);simp only [vkt,seval,yX,kW,Vg,Bool.true_and,Bool.false_and,d0];(try simp only [ite_and]);(repeat' (first|with_reducible assumption|refine And.intro ?_ ?_|intro hp));all_goals (first|(refine hQ _ ?_;clear hQ Q)|(refine hQ _ (fun h=>?_) (fun h=>?_) <;> clear hQ Q <;> (try simp only [vki,reduceCtorEq] at h))|(refine vq ?_;kernel_rfl)|omega|assumption|with_reducible rfl|skip)))
    refine qX (fun k:{ k:Nat // k≤l.length∧∀ j,j < k→l.getD j 0=m.getD j 0 }=>Vg l m k.1) (fun k=>l.length - k.1) ⟨0,Nat.zero_le _,fun j h=>absurd h (Nat.not_lt_zero _)⟩ ?_ fun ⟨k,hk,hno⟩=>?_
    · (refine Le.ok some [] ?_;constructor;all_goals (try simp only [vle,vkt,seval,yX,kW,Vg,Bool.true_and,Bool.false_and]))
      all_goals first|rfl|(simp;done)
    simp only at hk hno ⊢
    simp only [Vg]
    by_cases hlt:k < l.length
    · have d1:decide ((k:Int) < (l.length:Int))=true:=decide_eq_true (by omega)
      have hlm:k < m.length:=by omega
      have k0:((k:Int)).toNat=k:=rfl
      have e9:IntKind.wrap .i64 ((k:Int)+1)=((k+1:Nat):Int):=by rw [wrap64 (by omega) (by omega)];rfl
      obtain ⟨x,hx⟩:∃ x,l.getD k 0=x:=⟨_,rfl⟩
      obtain ⟨y,hy⟩:∃ x,m.getD k 0=x:=⟨_,rfl⟩
      have hxy:(decide (x=y))=decide (x=y):=by rfl
      have hne:¬ x=y→decide (l=m)=false:=fun h=>decide_eq_false fun e=>h (by rw [← hx,← hy,e])
      cases q:decide (x=y) with
      |false =>
        rw [hne (of_decide_eq_false q)]
        repeat' (first|(apply nx;with_reducible constructor)|refine uq (by decide) ?_|((first|refine vx env fun Q hQ=>?_|refine vz fun Q hQ=>?_);simp only [vkt,seval,yX,kW,Vg,Bool.true_and,Bool.false_and,d1,k0,hlt,hlm,hx,hy,hxy,q];(try simp only [ite_and]);(repeat' (first|with_reducible assumption|refine And.intro ?_ ?_|intro hp));all_goals (first|(refine hQ _ ?_;clear hQ Q)|(refine hQ _ (fun h=>?_) (fun h=>?_) <;> clear hQ Q <;> (try simp only [vki,reduceCtorEq] at h))|(refine vq ?_;kernel_rfl)|omega|assumption|with_reducible rfl|skip)))
        (simp only [vrt,Try.results54,vkt,seval,yX,kW,Vg,Bool.true_and,Bool.false_and];refine Fin.val rfl ?_;(try simp only [AV.le,AV.leL]))
        all_goals first|rfl|(simp;done)
      |true =>
        repeat' (first|(apply nx;with_reducible constructor)|refine uq (by decide) ?_|((first|refine vx env fun Q hQ=>?_|refine vz fun Q hQ=>?_);simp only [vkt,seval,yX,kW,Vg,Bool.true_and,Bool.false_and,d1,k0,hlt,hlm,hx,hy,hxy,q,e9];(try simp only [ite_and]);(repeat' (first|with_reducible assumption|refine And.intro ?_ ?_|intro hp));all_goals (first|(refine hQ _ ?_;clear hQ Q)|(refine hQ _ (fun h=>?_) (fun h=>?_) <;> clear hQ Q <;> (try simp only [vki,reduceCtorEq] at h))|(refine vq ?_;kernel_rfl)|omega|assumption|with_reducible rfl|skip)))
        refine ⟨⟨k+1,hlt,fun j hj=>?_⟩,by show l.length - (k+1) < l.length - k;omega, ?_⟩
        · rcases Nat.lt_or_eq_of_le (Nat.le_of_lt_succ hj) with h1|h1
          · exact hno j h1
          · rw [h1,hx,hy];exact of_decide_eq_true q
        · (refine Le.ok some [] ?_;constructor;all_goals (try simp only [vle,vkt,seval,yX,kW,Vg,Bool.true_and,Bool.false_and]))
          all_goals first|rfl|(simp;done)
    · have d1:decide ((k:Int) < (l.length:Int))=false:=decide_eq_false (by omega)
      obtain rfl:k=l.length:=by omega
      rw [decide_eq_true (Qd7 h0 hno)]
      repeat' (first|(apply nx;with_reducible constructor)|refine uq (by decide) ?_|((first|refine vx env fun Q hQ=>?_|refine vz fun Q hQ=>?_);simp only [vkt,seval,yX,kW,Vg,Bool.true_and,Bool.false_and,d1];(try simp only [ite_and]);(repeat' (first|with_reducible assumption|refine And.intro ?_ ?_|intro hp));all_goals (first|(refine hQ _ ?_;clear hQ Q)|(refine hQ _ (fun h=>?_) (fun h=>?_) <;> clear hQ Q <;> (try simp only [vki,reduceCtorEq] at h))|(refine vq ?_;kernel_rfl)|omega|assumption|with_reducible rfl|skip)))
      (simp only [vrt,Try.results54,vkt,seval,yX,kW,Vg,Bool.true_and,Bool.false_and];refine Fin.val rfl ?_;(try simp only [AV.le,AV.leL]))
      all_goals first|rfl|(simp;done)
  · have d0:decide ((l.length:Int)=(m.length:Int))=false:=decide_eq_false (by omega)
    rw [decide_eq_false (fun e=>h0 (by rw [e]))]
    repeat' (first|(apply nx;with_reducible constructor)|refine uq (by decide) ?_|((first|refine vx env fun Q hQ=>?_|refine vz fun Q hQ=>?_);simp only [vkt,seval,yX,kW,Vg,Bool.true_and,Bool.false_and,d0];(try simp only [ite_and]);(repeat' (first|with_reducible assumption|refine And.intro ?_ ?_|intro hp));all_goals (first|(refine hQ _ ?_;clear hQ Q)|(refine hQ _ (fun h=>?_) (fun h=>?_) <;> clear hQ Q <;> (try simp only [vki,reduceCtorEq] at h))|(refine vq ?_;kernel_rfl)|omega|assumption|with_reducible rfl|skip)))
    (simp only [vrt,Try.results54,vkt,seval,yX,kW,Vg,Bool.true_and,Bool.false_and];refine Fin.val rfl ?_;(try simp only [AV.le,AV.leL]))
    all_goals first|rfl|(simp;done)
def Yx:List AV→Prop × AV
  |[.sl l,.sl m]=>(l=(l.map zY).map zX∧m=(m.map zY).map zX∧(l.map zY).length≤maxLen∧(m.map zY).length≤maxLen,aB (decide ((l.map zY)=(m.map zY))))
  |_=>(False,.junk)
theorem eeqI {A:Frm→Prop}:qB A Try.prog 54 (qU true Yx):=za fun vs hv h=>by
  clear hv
  unfold Yx at h ⊢
  split at h
  · rename_i l m;obtain ⟨q0,q1,k0,k1⟩:=h
    refine ⟨by first|trivial|(simp [AV.plain,AV.plainL,aI,aB,qA,qd,qh,qf,aTk,cTk];done)|(repeat' split) <;> simp [AV.plain,AV.plainL,aI,aB,qA,qd,qh,qf,aTk,cTk],fun _=>(by simp [AV.flat,AV.flatL,aI,aB]), ?_⟩
    have:=Qjn (l.map zY) (m.map zY) k0 k1
    simp only [qA,← q0,← q1] at this
    first|exact this|(simp only [qA,← q0,← q1];exact this)
  · exact h.elim
def Vd (l m:List Tk) (k:Nat):St:={ t:=asg [(0,qh l),(1,qh m),(4,aB false),(5,aI k)],h:=qg [],n:=0 }
def y7:=vj @ty3 (vj @xC (vj @yw (vj @ti3.eq_1 (vj @vP.eq_1 @j3.eq_1))))
def kX:=vj @aI.eq_1 (@aB.eq_1)
theorem Qin (l m:List Tk) (hl:l.length≤maxLen) (hm:m.length≤maxLen):FnV Try.prog 63 [qh l,qh m] (aB (decide (l=m))):=by
  have env:Env (fun _=>True) Try.prog tyB (tab []):=qP trivial
  refine Fn.of (A:=fun _=>True) (n0:=0) (D:=noD) (Fn0 Try.func63 rfl (fun vs w=>by kernel_rfl) (by kernel_rfl)) (by simp) (by simp [AV.ids,qh]) (fun i o h=>by cases h) (fun _ _ _ _=>trivial) qF ?_
  have hmx:maxLen=9223372036854775807:=by decide
  by_cases h0:l.length=m.length
  · have d0:decide ((l.length:Int)=(m.length:Int))=true:=decide_eq_true (by omega)
    repeat' (first|(apply nx;with_reducible constructor)|refine uq (by decide) ?_|((first|refine vx env fun Q hQ=>?_|refine vz fun Q hQ=>?_);simp only [vkt,seval,y7,kX,qh,eTk,gTk,Vd,Bool.true_and,Bool.false_and,d0];(try simp only [ite_and]);(repeat' (first|with_reducible assumption|refine And.intro ?_ ?_|intro hp));all_goals (first|(refine hQ _ ?_;clear hQ Q)|(refine hQ _ (fun h=>?_) (fun h=>?_) <;> clear hQ Q <;> (try simp only [vki,reduceCtorEq] at h))|(refine vq ?_;kernel_rfl)|omega|assumption|with_reducible rfl|skip)))
    refine qX (fun k:{ k:Nat // k≤l.length∧∀ j,j < k→l.getD j default=m.getD j default }=>Vd l m k.1) (fun k=>l.length - k.1) ⟨0,Nat.zero_le _,fun j h=>absurd h (Nat.not_lt_zero _)⟩ ?_ fun ⟨k,hk,hno⟩=>?_
    · (refine Le.ok some [] ?_;constructor;all_goals (try simp only [vle,vkt,seval,y7,kX,qh,eTk,gTk,Vd,Bool.true_and,Bool.false_and]))
      all_goals first|rfl|(simp;done)
    simp only at hk hno ⊢
    simp only [Vd]
    by_cases hlt:k < l.length
    · have d1:decide ((k:Int) < (l.length:Int))=true:=decide_eq_true (by omega)
      have hlm:k < m.length:=by omega
      have k0:((k:Int)).toNat=k:=rfl
      have e9:IntKind.wrap .i64 ((k:Int)+1)=((k+1:Nat):Int):=by rw [wrap64 (by omega) (by omega)];rfl
      obtain ⟨x,hx⟩:∃ x,l.getD k default=x:=⟨_,rfl⟩
      obtain ⟨y,hy⟩:∃ x,m.getD k default=x:=⟨_,rfl⟩
      have hxy:(decide (x.party=y.party) && (decide (x.sex=y.sex) && (decide (x.cab=y.cab) && (decide (x.bed=y.bed) && (decide (x.frm=y.frm) && (decide (x.to=y.to) && ((x.dog == y.dog))))))))=decide (x=y):=by cases x;cases y;rw [QgK]
      have hne:¬ x=y→decide (l=m)=false:=fun h=>decide_eq_false fun e=>h (by rw [← hx,← hy,e])
      cases q:decide (x=y) with
      |false =>
        rw [hne (of_decide_eq_false q)]
        repeat' (first|(apply nx;with_reducible constructor)|refine uq (by decide) ?_|((first|refine vx env fun Q hQ=>?_|refine vz fun Q hQ=>?_);simp only [vkt,seval,y7,kX,qh,eTk,gTk,Vd,Bool.true_and,Bool.false_and,d1,k0,hlt,hlm,hx,hy,hxy,q];(try simp only [ite_and]);(repeat' (first|with_reducible assumption|refine And.intro ?_ ?_|intro hp));all_goals (first|(refine hQ _ ?_;clear hQ Q)|(refine hQ _ (fun h=>?_) (fun h=>?_) <;> clear hQ Q <;> (try simp only [vki,reduceCtorEq] at h))|(refine vq ?_;kernel_rfl)|omega|assumption|with_reducible rfl|skip)))
        (simp only [vrt,Try.results63,vkt,seval,y7,kX,qh,eTk,gTk,Vd,Bool.true_and,Bool.false_and];refine Fin.val rfl ?_;(try simp only [AV.le,AV.leL]))
        all_goals first|rfl|(simp;done)
      |true =>
        repeat' (first|(apply nx;with_reducible constructor)|refine uq (by decide) ?_|((first|refine vx env fun Q hQ=>?_|refine vz fun Q hQ=>?_);simp only [vkt,seval,y7,kX,qh,eTk,gTk,Vd,Bool.true_and,Bool.false_and,d1,k0,hlt,hlm,hx,hy,hxy,q,e9];(try simp only [ite_and]);(repeat' (first|with_reducible assumption|refine And.intro ?_ ?_|intro hp));all_goals (first|(refine hQ _ ?_;clear hQ Q)|(refine hQ _ (fun h=>?_) (fun h=>?_) <;> clear hQ Q <;> (try simp only [vki,reduceCtorEq] at h))|(refine vq ?_;kernel_rfl)|omega|assumption|with_reducible rfl|skip)))
        refine ⟨⟨k+1,hlt,fun j hj=>?_⟩,by show l.length - (k+1) < l.length - k;omega, ?_⟩
        · rcases Nat.lt_or_eq_of_le (Nat.le_of_lt_succ hj) with h1|h1
          · exact hno j h1
          · rw [h1,hx,hy];exact of_decide_eq_true q
        · (refine Le.ok some [] ?_;constructor;all_goals (try simp only [vle,vkt,seval,y7,kX,qh,eTk,gTk,Vd,Bool.true_and,Bool.false_and]))
          all_goals first|rfl|(simp;done)
    · have d1:decide ((k:Int) < (l.length:Int))=false:=decide_eq_false (by omega)
      obtain rfl:k=l.length:=by omega
      rw [decide_eq_true (Wz h0 hno)]
      repeat' (first|(apply nx;with_reducible constructor)|refine uq (by decide) ?_|((first|refine vx env fun Q hQ=>?_|refine vz fun Q hQ=>?_);simp only [vkt,seval,y7,kX,qh,eTk,gTk,Vd,Bool.true_and,Bool.false_and,d1];(try simp only [ite_and]);(repeat' (first|with_reducible assumption|refine And.intro ?_ ?_|intro hp));all_goals (first|(refine hQ _ ?_;clear hQ Q)|(refine hQ _ (fun h=>?_) (fun h=>?_) <;> clear hQ Q <;> (try simp only [vki,reduceCtorEq] at h))|(refine vq ?_;kernel_rfl)|omega|assumption|with_reducible rfl|skip)))
      (simp only [vrt,Try.results63,vkt,seval,y7,kX,qh,eTk,gTk,Vd,Bool.true_and,Bool.false_and];refine Fin.val rfl ?_;(try simp only [AV.le,AV.leL]))
      all_goals first|rfl|(simp;done)
  · have d0:decide ((l.length:Int)=(m.length:Int))=false:=decide_eq_false (by omega)
    rw [decide_eq_false (fun e=>h0 (by rw [e]))]
    repeat' (first|(apply nx;with_reducible constructor)|refine uq (by decide) ?_|((first|refine vx env fun Q hQ=>?_|refine vz fun Q hQ=>?_);simp only [vkt,seval,y7,kX,qh,eTk,gTk,Vd,Bool.true_and,Bool.false_and,d0];(try simp only [ite_and]);(repeat' (first|with_reducible assumption|refine And.intro ?_ ?_|intro hp));all_goals (first|(refine hQ _ ?_;clear hQ Q)|(refine hQ _ (fun h=>?_) (fun h=>?_) <;> clear hQ Q <;> (try simp only [vki,reduceCtorEq] at h))|(refine vq ?_;kernel_rfl)|omega|assumption|with_reducible rfl|skip)))
    (simp only [vrt,Try.results63,vkt,seval,y7,kX,qh,eTk,gTk,Vd,Bool.true_and,Bool.false_and];refine Fin.val rfl ?_;(try simp only [AV.le,AV.leL]))
    all_goals first|rfl|(simp;done)
def Qh:List AV→Prop × AV
  |[.sl l,.sl m]=>(l=(l.map dTk).map eTk∧m=(m.map dTk).map eTk∧(l.map dTk).length≤maxLen∧(m.map dTk).length≤maxLen,aB (decide ((l.map dTk)=(m.map dTk))))
  |_=>(False,.junk)
theorem eeqK {A:Frm→Prop}:qB A Try.prog 63 (qU true Qh):=za fun vs hv h=>by
  clear hv
  unfold Qh at h ⊢
  split at h
  · rename_i l m;obtain ⟨q0,q1,k0,k1⟩:=h
    refine ⟨by first|trivial|(simp [AV.plain,AV.plainL,aI,aB,qA,qd,qh,qf,aTk,cTk];done)|(repeat' split) <;> simp [AV.plain,AV.plainL,aI,aB,qA,qd,qh,qf,aTk,cTk],fun _=>(by simp [AV.flat,AV.flatL,aI,aB]), ?_⟩
    have:=Qin (l.map dTk) (m.map dTk) k0 k1
    simp only [qh,← q0,← q1] at this
    first|exact this|(simp only [qh,← q0,← q1];exact this)
  · exact h.elim
def ecS (c d:Chart) (k:Nat):St:={ t:=asg [(2,.ptr 0 0),(3,.ptr 1 0),(4,aB false),(5,aI k)],h:=qg [(0,.cells (qb c)),(1,.cells (qb d))],n:=2 }
def j6:=vj @ty3 (vj @WT (vj @xC (vj @jO (vj @WP (vj @yw (vj @ti3.eq_1 (vj @Zv.eq_1 (vj @vP.eq_1 (vj @jE.eq_1 (vj @Zq.eq_1 @j3.eq_1))))))))))
def xm:=vj @aI.eq_1 (@aB.eq_1)
theorem QiR (c d:Chart) (h1:c.cabins.length≤maxLen) (h2:c.sold.length≤maxLen) (h4:d.sold.length≤maxLen):FnV Try.prog 48 [qa c,qa d] (aB (decide (c=d))):=by
  have env:Env (fun _=>True) Try.prog tyB (tab [(63,qU true Qh)]):=qP ⟨eeqK,trivial⟩
  refine Fn.of (A:=fun _=>True) (n0:=0) (D:=noD) (Fn0 Try.func48 rfl (fun vs w=>by kernel_rfl) (by kernel_rfl)) (by simp) (by simp [AV.ids,AV.idsL,qa,qb]) (fun i o h=>by cases h) (fun _ _ _ _=>trivial) qF ?_
  have hmx:maxLen=9223372036854775807:=by decide
  have hE:decide (c=d)=(decide (c.cabins=d.cabins) && (decide (c.secs=d.secs) && decide (c.sold=d.sold))):=by
    cases c;cases d;rw [Bool.eq_iff_iff];simp
  rw [hE]
  by_cases h0:c.cabins.length=d.cabins.length
  · have d0:decide ((c.cabins.length:Int)=(d.cabins.length:Int))=true:=decide_eq_true (by omega)
    cases q0:decide (c.secs=d.secs) with
    |false =>
      rw [Bool.false_and,Bool.and_false]
      repeat' (first|(apply nx;with_reducible constructor)|refine uq (by decide) ?_|((first|refine vx env fun Q hQ=>?_|refine vz fun Q hQ=>?_);simp only [vkt,seval,j6,xm,qh,qa,qb,qj,qz,mTk,ecS,Qh,Bool.true_and,Bool.false_and,List.length_map,d0,q0];(try simp only [ite_and]);(repeat' (first|with_reducible assumption|refine And.intro ?_ ?_|intro hp));all_goals (first|(refine hQ _ ?_;clear hQ Q)|(refine hQ _ (fun h=>?_) (fun h=>?_) <;> clear hQ Q <;> (try simp only [vki,reduceCtorEq] at h))|(refine vq ?_;kernel_rfl)|omega|assumption|with_reducible rfl|skip)))
      (simp only [vrt,Try.results48,vkt,seval,j6,xm,qh,qa,qb,qj,qz,mTk,ecS,Qh,Bool.true_and,Bool.false_and,List.length_map];refine Fin.val rfl ?_;(try simp only [AV.le,AV.leL]))
      all_goals first|rfl|(simp;done)
    |true =>
      rw [Bool.true_and]
      repeat' (first|(apply nx;with_reducible constructor)|refine uq (by decide) ?_|((first|refine vx env fun Q hQ=>?_|refine vz fun Q hQ=>?_);simp only [vkt,seval,j6,xm,qh,qa,qb,qj,qz,mTk,ecS,Qh,Bool.true_and,Bool.false_and,List.length_map,d0,q0];(try simp only [ite_and]);(repeat' (first|with_reducible assumption|refine And.intro ?_ ?_|intro hp));all_goals (first|(refine hQ _ ?_;clear hQ Q)|(refine hQ _ (fun h=>?_) (fun h=>?_) <;> clear hQ Q <;> (try simp only [vki,reduceCtorEq] at h))|(refine vq ?_;kernel_rfl)|omega|assumption|with_reducible rfl|skip)))
      refine qX (fun k:{ k:Nat // k≤c.cabins.length∧∀ j,j < k→c.cabins.getD j default=d.cabins.getD j default }=>ecS c d k.1) (fun k=>c.cabins.length - k.1) ⟨0,Nat.zero_le _,fun j h=>absurd h (Nat.not_lt_zero _)⟩ ?_ fun ⟨k,hk,hno⟩=>?_
      · simp only [ecS]
        (refine Le.ok some [] ?_;constructor;all_goals (try simp only [vle,vkt,seval,j6,xm,qh,qa,qb,qj,qz,mTk,ecS,Qh,Bool.true_and,Bool.false_and,List.length_map]))
        all_goals first|rfl|(simp;done)
      simp only at hk hno ⊢
      simp only [ecS]
      by_cases hlt:k < c.cabins.length
      · have d1:decide ((k:Int) < (c.cabins.length:Int))=true:=decide_eq_true (by omega)
        have hlm:k < d.cabins.length:=by omega
        have k0:((k:Int)).toNat=k:=rfl
        have e9:IntKind.wrap .i64 ((k:Int)+1)=((k+1:Nat):Int):=by rw [wrap64 (by omega) (by omega)];rfl
        obtain ⟨x,hx⟩:∃ x,c.cabins.getD k default=x:=⟨_,rfl⟩
        obtain ⟨y,hy⟩:∃ x,d.cabins.getD k default=x:=⟨_,rfl⟩
        have hxy:(decide (x.beds=y.beds) && (x.door == y.door))=decide (x=y):=by cases x;cases y;rw [QhA]
        have hne:¬ x=y→decide (c.cabins=d.cabins)=false:=fun h=>decide_eq_false fun e=>h (by rw [← hx,← hy,e])
        cases q:decide (x=y) with
        |false =>
          rw [hne (of_decide_eq_false q),Bool.false_and]
          repeat' (first|(apply nx;with_reducible constructor)|refine uq (by decide) ?_|((first|refine vx env fun Q hQ=>?_|refine vz fun Q hQ=>?_);simp only [vkt,seval,j6,xm,qh,qa,qb,qj,qz,mTk,ecS,Qh,Bool.true_and,Bool.false_and,List.length_map,d1,k0,hlt,hlm,hx,hy,hxy,q];(try simp only [ite_and]);(repeat' (first|with_reducible assumption|refine And.intro ?_ ?_|intro hp));all_goals (first|(refine hQ _ ?_;clear hQ Q)|(refine hQ _ (fun h=>?_) (fun h=>?_) <;> clear hQ Q <;> (try simp only [vki,reduceCtorEq] at h))|(refine vq ?_;kernel_rfl)|omega|assumption|with_reducible rfl|skip)))
          (simp only [vrt,Try.results48,vkt,seval,j6,xm,qh,qa,qb,qj,qz,mTk,ecS,Qh,Bool.true_and,Bool.false_and,List.length_map];refine Fin.val rfl ?_;(try simp only [AV.le,AV.leL]))
          all_goals first|rfl|(simp;done)
        |true =>
          repeat' (first|(apply nx;with_reducible constructor)|refine uq (by decide) ?_|((first|refine vx env fun Q hQ=>?_|refine vz fun Q hQ=>?_);simp only [vkt,seval,j6,xm,qh,qa,qb,qj,qz,mTk,ecS,Qh,Bool.true_and,Bool.false_and,List.length_map,d1,k0,hlt,hlm,hx,hy,hxy,q,e9];(try simp only [ite_and]);(repeat' (first|with_reducible assumption|refine And.intro ?_ ?_|intro hp));all_goals (first|(refine hQ _ ?_;clear hQ Q)|(refine hQ _ (fun h=>?_) (fun h=>?_) <;> clear hQ Q <;> (try simp only [vki,reduceCtorEq] at h))|(refine vq ?_;kernel_rfl)|omega|assumption|with_reducible rfl|skip)))
          refine ⟨⟨k+1,hlt,fun j hj=>?_⟩,by show c.cabins.length - (k+1) < c.cabins.length - k;omega, ?_⟩
          · rcases Nat.lt_or_eq_of_le (Nat.le_of_lt_succ hj) with h1|h1
            · exact hno j h1
            · rw [h1,hx,hy];exact of_decide_eq_true q
          · simp only [ecS]
            (refine Le.ok some [] ?_;constructor;all_goals (try simp only [vle,vkt,seval,j6,xm,qh,qa,qb,qj,qz,mTk,ecS,Qh,Bool.true_and,Bool.false_and,List.length_map]))
            all_goals first|rfl|(simp;done)
      · have d1:decide ((k:Int) < (c.cabins.length:Int))=false:=decide_eq_false (by omega)
        obtain rfl:k=c.cabins.length:=by omega
        rw [decide_eq_true (Wz h0 hno),Bool.true_and]
        repeat' (first|(apply nx;with_reducible constructor)|refine uq (by decide) ?_|((first|refine vx env fun Q hQ=>?_|refine vz fun Q hQ=>?_);simp only [vkt,seval,j6,xm,qh,qa,qb,qj,qz,mTk,ecS,Qh,Bool.true_and,Bool.false_and,List.length_map,d1,h2,h4];(try simp only [ite_and]);(repeat' (first|with_reducible assumption|refine And.intro ?_ ?_|intro hp));all_goals (first|(refine hQ _ ?_;clear hQ Q)|(refine hQ _ (fun h=>?_) (fun h=>?_) <;> clear hQ Q <;> (try simp only [vki,reduceCtorEq] at h))|(refine vq ?_;kernel_rfl)|omega|assumption|with_reducible rfl|skip)))
        (simp only [vrt,Try.results48,vkt,seval,j6,xm,qh,qa,qb,qj,qz,mTk,ecS,Qh,Bool.true_and,Bool.false_and,List.length_map];refine Fin.val rfl ?_;(try simp only [AV.le,AV.leL]))
        all_goals first|rfl|(simp;done)
  · have d0:decide ((c.cabins.length:Int)=(d.cabins.length:Int))=false:=decide_eq_false (by omega)
    rw [decide_eq_false (fun e:c.cabins=d.cabins=>h0 (by rw [e])),Bool.false_and]
    repeat' (first|(apply nx;with_reducible constructor)|refine uq (by decide) ?_|((first|refine vx env fun Q hQ=>?_|refine vz fun Q hQ=>?_);simp only [vkt,seval,j6,xm,qh,qa,qb,qj,qz,mTk,ecS,Qh,Bool.true_and,Bool.false_and,List.length_map,d0];(try simp only [ite_and]);(repeat' (first|with_reducible assumption|refine And.intro ?_ ?_|intro hp));all_goals (first|(refine hQ _ ?_;clear hQ Q)|(refine hQ _ (fun h=>?_) (fun h=>?_) <;> clear hQ Q <;> (try simp only [vki,reduceCtorEq] at h))|(refine vq ?_;kernel_rfl)|omega|assumption|with_reducible rfl|skip)))
    (simp only [vrt,Try.results48,vkt,seval,j6,xm,qh,qa,qb,qj,qz,mTk,ecS,Qh,Bool.true_and,Bool.false_and,List.length_map];refine Fin.val rfl ?_;(try simp only [AV.le,AV.leL]))
    all_goals first|rfl|(simp;done)
def YR:List AV→Prop × AV
  |[.agg [.sl c0,.v (.int .i64 c1),.sl c2],.agg [.sl d0,.v (.int .i64 d1),.sl d2]]=>(c0=(c0.map qp).map qj∧c2=(c2.map dTk).map eTk∧d0=(d0.map qp).map qj∧d2=(d2.map dTk).map eTk∧((⟨(c0.map qp),c1,(c2.map dTk)⟩:Chart)).cabins.length≤maxLen∧((⟨(c0.map qp),c1,(c2.map dTk)⟩:Chart)).sold.length≤maxLen∧((⟨(d0.map qp),d1,(d2.map dTk)⟩:Chart)).sold.length≤maxLen,aB (decide (((⟨(c0.map qp),c1,(c2.map dTk)⟩:Chart))=((⟨(d0.map qp),d1,(d2.map dTk)⟩:Chart)))))
  |_=>(False,.junk)
theorem eeqC {A:Frm→Prop}:qB A Try.prog 48 (qU true YR):=za fun vs hv h=>by
  clear hv
  unfold YR at h ⊢
  split at h
  · rename_i c0 c1 c2 d0 d1 d2;obtain ⟨q0,q1,q2,q3,k0,k1,k2⟩:=h
    refine ⟨by first|trivial|(simp [AV.plain,AV.plainL,aI,aB,qA,qd,qh,qf,aTk,cTk];done)|(repeat' split) <;> simp [AV.plain,AV.plainL,aI,aB,qA,qd,qh,qf,aTk,cTk],fun _=>(by simp [AV.flat,AV.flatL,aI,aB]), ?_⟩
    have:=QiR ((⟨(c0.map qp),c1,(c2.map dTk)⟩:Chart)) ((⟨(d0.map qp),d1,(d2.map dTk)⟩:Chart)) k0 k1 k2
    simp only [q9,qa,aI,qh,qb,← q0,← q1,← q2,← q3] at this
    first|exact this|(simp only [q9,qa,aI,qh,qb,← q0,← q1,← q2,← q3];exact this)
  · exact h.elim
end Go.Sym.B
namespace Go.Sym.B
open Go Go.Sym Go.Proofs Go.Sym.C
def rcS (c:Chart) (k:Nat):St:={ t:=asg [(1,.ptr 0 0),(2,aI 0),(3,aI k)],h:=qg [(0,.cells (qb c))],n:=1 }
def Q9 (c:Chart):Int:=if c.cabins.length=0 then 7 else if 3 < c.cabins.length then 6 else if ym (c.cabins.map ku) ≠ 0 then ym (c.cabins.map ku) else if !inB c.secs 1 5 then 1 else 0
theorem Qbg (c:Chart):zV c=if Q9 c ≠ 0 then Q9 c else if 8 < c.sold.length then 6 else yC c c.sold:=by
  unfold zV ZR Q9 wI
  by_cases h1:c.cabins.length=0
  · rw [if_pos (show (c.cabins.length:Int) < 1 by omega),if_pos h1];simp
  rw [if_neg (show ¬ (c.cabins.length:Int) < 1 by omega),if_neg h1]
  by_cases h2:3 < c.cabins.length
  · rw [if_pos (show (3:Int) < (c.cabins.length:Int) by omega),if_pos h2];simp
  rw [if_neg (show ¬ (3:Int) < (c.cabins.length:Int) by omega),if_neg h2]
  simp only [ne_eq,not_true_eq_false,if_false]
  by_cases h3:ym (c.cabins.map ku)=0
  · rw [h3]
    simp only [not_true_eq_false,if_false]
    cases inB c.secs 1 5 with
    |false=>simp
    |true =>
      simp only [Bool.not_true,Bool.false_eq_true,if_false,not_true_eq_false]
      by_cases h4:8 < c.sold.length
      · rw [if_neg (show ¬ (c.sold.length:Int) < 0 by omega),if_pos (show (8:Int) < (c.sold.length:Int) by omega),if_pos h4];simp
      · rw [if_neg (show ¬ (c.sold.length:Int) < 0 by omega),if_neg (show ¬ (8:Int) < (c.sold.length:Int) by omega),if_neg h4];simp
  · simp [h3]
theorem QhI {c:Chart} (h:Q9 c=0):CarOk c:=by
  unfold Q9 at h
  split at h
  · exact absurd h (by decide)
  split at h
  · exact absurd h (by decide)
  split at h
  · exact absurd h ‹_›
  rename_i h3
  split at h
  · exact absurd h (by decide)
  rename_i h4
  refine ⟨by omega,fun x hx=>?_,jV.1 (by simpa using h4)⟩
  have:=Q3 (Decidable.not_not.1 h3) _ (List.mem_map.2 ⟨x,hx,rfl⟩)
  unfold ku at this
  split at this
  · exact absurd this (by decide)
  · rename_i h5;exact jV.1 (by simpa using h5)
def wY:=vj @ty3 (vj @WT (vj @jO (vj @WP (vj @ti3.eq_1 (vj @Zv.eq_1 (vj @jE.eq_1 @Zq.eq_1))))))
def vw:=vj @aI.eq_1 (@aB.eq_1)
theorem Qgv (c:Chart) (hc:c.cabins.length≤maxLen):FnV Try.prog 112 [qa c] (aI (Q9 c)):=by
  have env:Env (fun _=>True) Try.prog tyB (tab [(81,qU true zN)]):=qP ⟨QbL,trivial⟩
  refine Fn.of (A:=fun _=>True) (n0:=0) (D:=noD) (Fn0 Try.func112 rfl (fun vs w=>by kernel_rfl) (by kernel_rfl)) (by simp) (by simp [AV.ids,AV.idsL,qa,qb]) (fun i o h=>by cases h) (fun _ _ _ _=>trivial) qF ?_
  by_cases h1:c.cabins.length=0
  · rw [show Q9 c=7 by unfold Q9;rw [if_pos h1]]
    have d1:decide ((c.cabins.length:Int)=0)=true:=decide_eq_true (by omega)
    repeat' (first|(apply nx;with_reducible constructor)|refine uq (by decide) ?_|((first|refine vx env fun Q hQ=>?_|refine vz fun Q hQ=>?_);simp only [vkt,seval,wY,vw,qa,qb,qj,qz,rcS,zN,List.length_map,d1];(try simp only [ite_and]);(repeat' (first|with_reducible assumption|refine And.intro ?_ ?_|intro hp));all_goals (first|(refine hQ _ ?_;clear hQ Q)|(refine hQ _ (fun h=>?_) (fun h=>?_) <;> clear hQ Q <;> (try simp only [vki,reduceCtorEq] at h))|(refine vq ?_;kernel_rfl)|omega|assumption|with_reducible rfl|skip)))
    (simp only [vrt,Try.results112,vkt,seval,wY,vw,qa,qb,qj,qz,rcS,zN,List.length_map];refine Fin.val rfl ?_;(try simp only [AV.le,AV.leL]))
    all_goals first|rfl|(simp;done)
  have d1:decide ((c.cabins.length:Int)=0)=false:=decide_eq_false (by omega)
  by_cases h2:3 < c.cabins.length
  · rw [show Q9 c=6 by unfold Q9;rw [if_neg h1,if_pos h2]]
    have d2:decide ((3:Int) < (c.cabins.length:Int))=true:=decide_eq_true (by omega)
    repeat' (first|(apply nx;with_reducible constructor)|refine uq (by decide) ?_|((first|refine vx env fun Q hQ=>?_|refine vz fun Q hQ=>?_);simp only [vkt,seval,wY,vw,qa,qb,qj,qz,rcS,zN,List.length_map,d1,d2];(try simp only [ite_and]);(repeat' (first|with_reducible assumption|refine And.intro ?_ ?_|intro hp));all_goals (first|(refine hQ _ ?_;clear hQ Q)|(refine hQ _ (fun h=>?_) (fun h=>?_) <;> clear hQ Q <;> (try simp only [vki,reduceCtorEq] at h))|(refine vq ?_;kernel_rfl)|omega|assumption|with_reducible rfl|skip)))
    (simp only [vrt,Try.results112,vkt,seval,wY,vw,qa,qb,qj,qz,rcS,zN,List.length_map];refine Fin.val rfl ?_;(try simp only [AV.le,AV.leL]))
    all_goals first|rfl|(simp;done)
  have d2:decide ((3:Int) < (c.cabins.length:Int))=false:=decide_eq_false (by omega)
  have hE:Q9 c=if ym (c.cabins.map ku) ≠ 0 then ym (c.cabins.map ku) else if !inB c.secs 1 5 then 1 else 0:=by unfold Q9;rw [if_neg h1,if_neg h2]
  rw [hE]
  repeat' (first|(apply nx;with_reducible constructor)|refine uq (by decide) ?_|((first|refine vx env fun Q hQ=>?_|refine vz fun Q hQ=>?_);simp only [vkt,seval,wY,vw,qa,qb,qj,qz,rcS,zN,List.length_map,d1,d2];(try simp only [ite_and]);(repeat' (first|with_reducible assumption|refine And.intro ?_ ?_|intro hp));all_goals (first|(refine hQ _ ?_;clear hQ Q)|(refine hQ _ (fun h=>?_) (fun h=>?_) <;> clear hQ Q <;> (try simp only [vki,reduceCtorEq] at h))|(refine vq ?_;kernel_rfl)|omega|assumption|with_reducible rfl|skip)))
  refine qX (fun k:{ k:Nat // k≤c.cabins.length∧∀ j,j < k→(c.cabins.map ku).getD j 0=0 }=>rcS c k.1) (fun k=>c.cabins.length - k.1) ⟨0,Nat.zero_le _,fun j h=>absurd h (Nat.not_lt_zero _)⟩ ?_ fun ⟨k,hk,hno⟩=>?_
  · simp only [rcS]
    (refine Le.ok some [] ?_;constructor;all_goals (try simp only [vle,vkt,seval,wY,vw,qa,qb,qj,qz,rcS,zN,List.length_map]))
    all_goals first|rfl|(simp;done)
  simp only at hk hno ⊢
  simp only [rcS]
  by_cases hlt:k < c.cabins.length
  · have d3:decide ((k:Int) < (c.cabins.length:Int))=true:=decide_eq_true (by omega)
    have k0:((k:Int)).toNat=k:=rfl
    have e9:IntKind.wrap .i64 ((k:Int)+1)=((k+1:Nat):Int):=by rw [wrap64 (by omega) (by omega)];rfl
    obtain ⟨x,hx⟩:∃ x,c.cabins.getD k default=x:=⟨_,rfl⟩
    have hm:(c.cabins.map ku).getD k 0=ku x:=by rw [mapD hlt,hx]
    cases hb:inB x.beds 1 3 with
    |false =>
      have hE:ku x=1:=by simp [ku,hb]
      have hf:=Qi hno (by simpa using hlt) (by rw [hm,hE];decide)
      rw [hm,hE] at hf
      rw [hf,if_pos (by decide)]
      repeat' (first|(apply nx;with_reducible constructor)|refine uq (by decide) ?_|((first|refine vx env fun Q hQ=>?_|refine vz fun Q hQ=>?_);simp only [vkt,seval,wY,vw,qa,qb,qj,qz,rcS,zN,List.length_map,d3,k0,hlt,hx,hb];(try simp only [ite_and]);(repeat' (first|with_reducible assumption|refine And.intro ?_ ?_|intro hp));all_goals (first|(refine hQ _ ?_;clear hQ Q)|(refine hQ _ (fun h=>?_) (fun h=>?_) <;> clear hQ Q <;> (try simp only [vki,reduceCtorEq] at h))|(refine vq ?_;kernel_rfl)|omega|assumption|with_reducible rfl|skip)))
      (simp only [vrt,Try.results112,vkt,seval,wY,vw,qa,qb,qj,qz,rcS,zN,List.length_map];refine Fin.val rfl ?_;(try simp only [AV.le,AV.leL]))
      all_goals first|rfl|(simp;done)
    |true =>
      have hE:ku x=0:=by simp [ku,hb]
      repeat' (first|(apply nx;with_reducible constructor)|refine uq (by decide) ?_|((first|refine vx env fun Q hQ=>?_|refine vz fun Q hQ=>?_);simp only [vkt,seval,wY,vw,qa,qb,qj,qz,rcS,zN,List.length_map,d3,k0,hlt,hx,hb,e9];(try simp only [ite_and]);(repeat' (first|with_reducible assumption|refine And.intro ?_ ?_|intro hp));all_goals (first|(refine hQ _ ?_;clear hQ Q)|(refine hQ _ (fun h=>?_) (fun h=>?_) <;> clear hQ Q <;> (try simp only [vki,reduceCtorEq] at h))|(refine vq ?_;kernel_rfl)|omega|assumption|with_reducible rfl|skip)))
      refine ⟨⟨k+1,hlt,fun j hj=>?_⟩,by show c.cabins.length - (k+1) < c.cabins.length - k;omega, ?_⟩
      · rcases Nat.lt_or_eq_of_le (Nat.le_of_lt_succ hj) with h2|h2
        · exact hno j h2
        · rw [h2,hm,hE]
      · simp only [rcS]
        (refine Le.ok some [] ?_;constructor;all_goals (try simp only [vle,vkt,seval,wY,vw,qa,qb,qj,qz,rcS,zN,List.length_map]))
        all_goals first|rfl|(simp;done)
  · have d3:decide ((k:Int) < (c.cabins.length:Int))=false:=decide_eq_false (by omega)
    obtain rfl:k=c.cabins.length:=by omega
    have hf:ym (c.cabins.map ku)=0:=xB (by simpa using hno)
    rw [hf,if_neg (by decide)]
    cases hs:inB c.secs 1 5 with
    |false =>
      repeat' (first|(apply nx;with_reducible constructor)|refine uq (by decide) ?_|((first|refine vx env fun Q hQ=>?_|refine vz fun Q hQ=>?_);simp only [vkt,seval,wY,vw,qa,qb,qj,qz,rcS,zN,List.length_map,d3,hs];(try simp only [ite_and]);(repeat' (first|with_reducible assumption|refine And.intro ?_ ?_|intro hp));all_goals (first|(refine hQ _ ?_;clear hQ Q)|(refine hQ _ (fun h=>?_) (fun h=>?_) <;> clear hQ Q <;> (try simp only [vki,reduceCtorEq] at h))|(refine vq ?_;kernel_rfl)|omega|assumption|with_reducible rfl|skip)))
      (simp only [vrt,Try.results112,vkt,seval,wY,vw,qa,qb,qj,qz,rcS,zN,List.length_map];refine Fin.val rfl ?_;(try simp only [AV.le,AV.leL]))
      all_goals first|rfl|(simp;done)
    |true =>
      repeat' (first|(apply nx;with_reducible constructor)|refine uq (by decide) ?_|((first|refine vx env fun Q hQ=>?_|refine vz fun Q hQ=>?_);simp only [vkt,seval,wY,vw,qa,qb,qj,qz,rcS,zN,List.length_map,d3,hs];(try simp only [ite_and]);(repeat' (first|with_reducible assumption|refine And.intro ?_ ?_|intro hp));all_goals (first|(refine hQ _ ?_;clear hQ Q)|(refine hQ _ (fun h=>?_) (fun h=>?_) <;> clear hQ Q <;> (try simp only [vki,reduceCtorEq] at h))|(refine vq ?_;kernel_rfl)|omega|assumption|with_reducible rfl|skip)))
      (simp only [vrt,Try.results112,vkt,seval,wY,vw,qa,qb,qj,qz,rcS,zN,List.length_map];refine Fin.val rfl ?_;(try simp only [AV.le,AV.leL]))
      all_goals first|rfl|(simp;done)
def Yp:List AV→Prop × AV
  |[.agg [.sl c0,.v (.int .i64 c1),.sl c2]]=>(c0=(c0.map qp).map qj∧c2=(c2.map dTk).map eTk∧((⟨(c0.map qp),c1,(c2.map dTk)⟩:Chart)).cabins.length≤maxLen,aI (Q9 ((⟨(c0.map qp),c1,(c2.map dTk)⟩:Chart))))
  |_=>(False,.junk)
theorem ercar {A:Frm→Prop}:qB A Try.prog 112 (qU true Yp):=za fun vs hv h=>by
  clear hv
  unfold Yp at h ⊢
  split at h
  · rename_i c0 c1 c2;obtain ⟨q0,q1,k0⟩:=h
    refine ⟨by first|trivial|(simp [AV.plain,AV.plainL,aI,aB,qA,qd,qh,qf,aTk,cTk];done)|(repeat' split) <;> simp [AV.plain,AV.plainL,aI,aB,qA,qd,qh,qf,aTk,cTk],fun _=>(by simp [AV.flat,AV.flatL,aI,aB]), ?_⟩
    have:=Qgv ((⟨(c0.map qp),c1,(c2.map dTk)⟩:Chart)) k0
    simp only [q9,qa,aI,qh,qb,← q0,← q1] at this
    first|exact this|(simp only [q9,qa,aI,qh,qb,← q0,← q1];exact this)
  · exact h.elim
def vQ:=vj @ty3 (vj @xC (vj @jO (vj @QN (vj @yw (vj @ti3.eq_1 (vj @vP.eq_1 (vj @jE.eq_1 (vj @Qb.eq_1 @j3.eq_1))))))))
def Jm:=vj @aI.eq_1 (@aB.eq_1)
theorem Qc2 (c:Chart) (hc:c.cabins.length≤maxLen) (hs:c.sold.length≤100000):FnV Try.prog 62 [qa c] (aI (zV c)):=by
  have env:Env (fun _=>True) Try.prog tyB (tab [(112,qU true Yp),(74,qU true J2)]):=qP ⟨ercar,ertks,trivial⟩
  refine Fn.of (A:=fun _=>True) (n0:=0) (D:=noD) (Fn0 Try.func62 rfl (fun vs w=>by kernel_rfl) (by kernel_rfl)) (by simp) (by simp [AV.ids,AV.idsL,qa,qb]) (fun i o h=>by cases h) (fun _ _ _ _=>trivial) qF ?_
  have ec:(⟨c.cabins,c.secs,c.sold⟩:Chart)=c:=rfl
  rw [Qbg]
  obtain ⟨e,he⟩:∃ e,Q9 c=e:=⟨_,rfl⟩
  by_cases h0:e=0
  · have hok:=QhI (he.trans h0)
    rw [h0] at he
    rw [he,if_neg (by decide)]
    by_cases h8:8 < c.sold.length
    · rw [if_pos h8]
      have d1:decide ((8:Int) < (c.sold.length:Int))=true:=decide_eq_true (by omega)
      repeat' (first|(apply nx;with_reducible constructor)|refine uq (by decide) ?_|((first|refine vx env fun Q hQ=>?_|refine vz fun Q hQ=>?_);simp only [vkt,seval,vQ,Jm,qa,qb,qh,mTk,qc,Yp,J2,List.length_map,hc,ec,he,d1,decide_true];(try simp only [ite_and]);(repeat' (first|with_reducible assumption|refine And.intro ?_ ?_|intro hp));all_goals (first|(refine hQ _ ?_;clear hQ Q)|(refine hQ _ (fun h=>?_) (fun h=>?_) <;> clear hQ Q <;> (try simp only [vki,reduceCtorEq] at h))|(refine vq ?_;kernel_rfl)|omega|assumption|with_reducible rfl|skip)))
      (simp only [vrt,Try.results62,vkt,seval,vQ,Jm,qa,qb,qh,mTk,qc,Yp,J2,List.length_map];refine Fin.val rfl ?_;(try simp only [AV.le,AV.leL]))
      all_goals first|rfl|(simp;done)
    · rw [if_neg h8]
      have d1:decide ((8:Int) < (c.sold.length:Int))=false:=decide_eq_false (by omega)
      have h100:c.sold.length≤100:=by omega
      repeat' (first|(apply nx;with_reducible constructor)|refine uq (by decide) ?_|((first|refine vx env fun Q hQ=>?_|refine vz fun Q hQ=>?_);simp only [vkt,seval,vQ,Jm,qa,qb,qh,mTk,qc,Yp,J2,List.length_map,hc,ec,he,d1,hok,h100,decide_true];(try simp only [ite_and]);(repeat' (first|with_reducible assumption|refine And.intro ?_ ?_|intro hp));all_goals (first|(refine hQ _ ?_;clear hQ Q)|(refine hQ _ (fun h=>?_) (fun h=>?_) <;> clear hQ Q <;> (try simp only [vki,reduceCtorEq] at h))|(refine vq ?_;kernel_rfl)|omega|assumption|with_reducible rfl|skip)))
      (simp only [vrt,Try.results62,vkt,seval,vQ,Jm,qa,qb,qh,mTk,qc,Yp,J2,List.length_map];refine Fin.val rfl ?_;(try simp only [AV.le,AV.leL]))
      all_goals first|rfl|(simp;done)
  · rw [he,if_pos h0]
    have d0:decide (e=0)=false:=decide_eq_false h0
    repeat' (first|(apply nx;with_reducible constructor)|refine uq (by decide) ?_|((first|refine vx env fun Q hQ=>?_|refine vz fun Q hQ=>?_);simp only [vkt,seval,vQ,Jm,qa,qb,qh,mTk,qc,Yp,J2,List.length_map,hc,ec,he,d0];(try simp only [ite_and]);(repeat' (first|with_reducible assumption|refine And.intro ?_ ?_|intro hp));all_goals (first|(refine hQ _ ?_;clear hQ Q)|(refine hQ _ (fun h=>?_) (fun h=>?_) <;> clear hQ Q <;> (try simp only [vki,reduceCtorEq] at h))|(refine vq ?_;kernel_rfl)|omega|assumption|with_reducible rfl|skip)))
    (simp only [vrt,Try.results62,vkt,seval,vQ,Jm,qa,qb,qh,mTk,qc,Yp,J2,List.length_map];refine Fin.val rfl ?_;(try simp only [AV.le,AV.leL]))
    all_goals first|rfl|(simp;done)
def ze:List AV→Prop × AV
  |[.agg [.sl c0,.v (.int .i64 c1),.sl c2]]=>(c0=(c0.map qp).map qj∧c2=(c2.map dTk).map eTk∧((⟨(c0.map qp),c1,(c2.map dTk)⟩:Chart)).cabins.length≤maxLen∧((⟨(c0.map qp),c1,(c2.map dTk)⟩:Chart)).sold.length≤100000,aI (zV ((⟨(c0.map qp),c1,(c2.map dTk)⟩:Chart))))
  |_=>(False,.junk)
theorem Vm {A:Frm→Prop}:qB A Try.prog 62 (qU true ze):=za fun vs hv h=>by
  clear hv
  unfold ze at h ⊢
  split at h
  · rename_i c0 c1 c2;obtain ⟨q0,q1,k0,k1⟩:=h
    refine ⟨by first|trivial|(simp [AV.plain,AV.plainL,aI,aB,qA,qd,qh,qf,aTk,cTk];done)|(repeat' split) <;> simp [AV.plain,AV.plainL,aI,aB,qA,qd,qh,qf,aTk,cTk],fun _=>(by simp [AV.flat,AV.flatL,aI,aB]), ?_⟩
    have:=Qc2 ((⟨(c0.map qp),c1,(c2.map dTk)⟩:Chart)) k0 k1
    simp only [q9,qa,aI,qh,qb,← q0,← q1] at this
    first|exact this|(simp only [q9,qa,aI,qh,qb,← q0,← q1];exact this)
  · exact h.elim
def Y5:=vj @WT (vj @xC (vj @jO (vj @WP (vj @yw (vj @Zv.eq_1 (vj @vP.eq_1 (vj @jE.eq_1 (vj @Zq.eq_1 @j3.eq_1))))))))
def QbX:=vj @aI.eq_1 (@aB.eq_1)
theorem QfI (c:Chart) (h3:c.cabins.length≤100000) (h4:c.sold.length≤100000):FnV Try.prog 39 [qa c] (qa c):=by
  have env:Env (fun _=>True) Try.prog tyB (tab []):=qP trivial
  obtain ⟨b1,b2,b3,b5,b4⟩:=b47 h3
  obtain ⟨c1,c2,c3,c5,c4⟩:=b47 h4
  refine Fn.of (A:=fun _=>True) (n0:=0) (D:=noD) (Fn0 Try.func39 rfl (fun vs w=>by kernel_rfl) (by kernel_rfl)) (by simp) (by simp [AV.ids,AV.idsL,qa,qb]) (fun i o h=>by cases h) (fun _ _ _ _=>trivial) qF ?_
  repeat' (first|(apply nx;with_reducible constructor)|refine uq (by decide) ?_|((first|refine vx env fun Q hQ=>?_|refine vz fun Q hQ=>?_);simp only [vkt,seval,Y5,QbX,qa,qb,rTk,zJ,mTk,qc,List.nil_append,List.length_map,b4,c4];(try simp only [ite_and]);(repeat' (first|with_reducible assumption|refine And.intro ?_ ?_|intro hp));all_goals (first|(refine hQ _ ?_;clear hQ Q)|(refine hQ _ (fun h=>?_) (fun h=>?_) <;> clear hQ Q <;> (try simp only [vki,reduceCtorEq] at h))|(refine vq ?_;kernel_rfl)|omega|assumption|with_reducible rfl|skip)))
  (simp only [vrt,Try.results39,vkt,seval,Y5,QbX,qa,qb,rTk,zJ,mTk,qc,List.nil_append,List.length_map];refine Fin.val rfl ?_;(try simp only [AV.le,AV.leL]))
  all_goals first|rfl|(simp;done)|exact ⟨⟨_,_,rfl⟩,trivial,⟨_,_,rfl⟩,trivial⟩
def kH:List AV→Prop × AV
  |[.agg [.sl c0,.v (.int .i64 c1),.sl c2]]=>(c0=(c0.map qp).map qj∧c2=(c2.map dTk).map eTk∧((⟨(c0.map qp),c1,(c2.map dTk)⟩:Chart)).cabins.length≤100000∧((⟨(c0.map qp),c1,(c2.map dTk)⟩:Chart)).sold.length≤100000,qa ((⟨(c0.map qp),c1,(c2.map dTk)⟩:Chart)))
  |_=>(False,.junk)
theorem Qi5 {A:Frm→Prop}:qB A Try.prog 39 (qU false kH):=za fun vs hv h=>by
  clear hv
  unfold kH at h ⊢
  split at h
  · rename_i c0 c1 c2;obtain ⟨q0,q1,k0,k1⟩:=h
    refine ⟨by first|trivial|(simp [AV.plain,AV.plainL,aI,aB,qA,qd,qh,qf,aTk,cTk];done)|(repeat' split) <;> simp [AV.plain,AV.plainL,aI,aB,qA,qd,qh,qf,aTk,cTk],fun h=>absurd h (by decide), ?_⟩
    have:=QfI ((⟨(c0.map qp),c1,(c2.map dTk)⟩:Chart)) k0 k1
    simp only [q9,qa,aI,qh,qb,← q0,← q1] at this
    first|exact this|(simp only [q9,qa,aI,qh,qb,← q0,← q1];exact this)
  · exact h.elim
def ZU:=vj @WT (vj @xC (vj @jO (vj @WP (vj @yw (vj @Zv.eq_1 (vj @vP.eq_1 (vj @jE.eq_1 (vj @Zq.eq_1 @j3.eq_1))))))))
def K8:=vj @aI.eq_1 (@aB.eq_1)
theorem QcS (cs ts:List (List DV)) (s:Int) (h1:zT 2 cs) (h2:zT 7 ts) (h3:cs.length≤100000) (h4:ts.length≤100000):Fn noB Try.prog 88 [.agg [.sl cs,.v (.int .i64 s),.sl ts]] noH (.agg [.row 0,.v (.int .i64 s),.row 1]) (qg [(0,.row 51 2 cs),(1,.row 81 7 ts)]) 0:=by
  have env:Env (fun _=>True) Try.prog tyB (tab []):=qP trivial
  obtain ⟨b1,b2,b3,b5,b4⟩:=b47 h3
  obtain ⟨c1,c2,c3,c5,c4⟩:=b47 h4
  refine Fn.of (A:=fun _=>True) (n0:=0) (D:=noD) (Fn0 Try.func88 rfl (fun vs w=>by kernel_rfl) (by kernel_rfl)) (by simp) (by simp [AV.ids,AV.idsL]) (fun i o h=>by cases h) (fun _ _ _ _=>trivial) qF ?_
  repeat' (first|(apply nx;with_reducible constructor)|refine uq (by decide) ?_|((first|refine vx env fun Q hQ=>?_|refine vz fun Q hQ=>?_);simp only [vkt,seval,ZU,K8,qa,qb,rTk,zJ,List.nil_append,h1,h2];(try simp only [ite_and]);(repeat' (first|with_reducible assumption|refine And.intro ?_ ?_|intro hp));all_goals (first|(refine hQ _ ?_;clear hQ Q)|(refine hQ _ (fun h=>?_) (fun h=>?_) <;> clear hQ Q <;> (try simp only [vki,reduceCtorEq] at h))|(refine vq ?_;kernel_rfl)|omega|assumption|with_reducible rfl|skip)))
  (simp only [vrt,Try.results88,vkt,seval,ZU,K8,qa,qb,rTk,zJ,List.nil_append];refine Fin.ok (fun j=>[2,3][j]?) [] ?_ ?_ ?_ ?_ ?_ rfl;all_goals (try simp only [vle,vkt,seval,ZU,K8,qa,qb,rTk,zJ,List.nil_append]))
  all_goals first|rfl|(simp;done)
def JS (_:St):List AV→Option Pk
  |[.agg [.sl cs,.v (.int .i64 s),.sl ts]]=>some { pre:=zT 2 cs∧zT 7 ts∧cs.length≤100000∧ts.length≤100000,ar:=[.agg [.sl cs,.v (.int .i64 s),.sl ts]],v:=.agg [.row 0,.v (.int .i64 s),.row 1],L1:=[some (.row 51 2 cs),some (.row 81 7 ts)] }
  |_=>none
theorem QhG {A:Frm→Prop}:qB A Try.prog 88 (fnE JS):=wE fun S bs q h hp=>by
  unfold JS at h
  split at h
  · cases h;exact QcS _ _ _ hp.1 hp.2.1 hp.2.2.1 hp.2.2.2
  · cases h
def Y9:=vj @xC (vj @jO (vj @yw (vj @vP.eq_1 (vj @jE.eq_1 @j3.eq_1))))
def QbU:=vj @aI.eq_1 (@aB.eq_1)
theorem Qeg (c:Chart) (l:List Tk) (h1:c.cabins.length≤100000) (h2:c.sold.length≤1000) (h3:l.length≤1000):FnV Try.prog 56 [qa c,qh l] (qa ⟨c.cabins,c.secs,c.sold++l⟩):=by
  have env:Env (fun _=>True) Try.prog tyB (tab [(88,fnE JS)]):=qP ⟨QhG,trivial⟩
  refine Fn.of (A:=fun _=>True) (n0:=0) (D:=noD) (Fn0 Try.func56 rfl (fun vs w=>by kernel_rfl) (by kernel_rfl)) (by simp) (by simp [AV.ids,AV.idsL,qa,qb,qh]) (fun i o h=>by cases h) (fun _ _ _ _=>trivial) qF ?_
  have hmx:(100000:Nat)≤maxLen:=by decide
  have h4:c.sold.length≤100000:=by omega
  have h5:c.sold.length+l.length≤maxLen:=by omega
  have hA:qa ⟨c.cabins,c.secs,c.sold++l⟩=.agg [.sl (c.cabins.map qj),.v (.int .i64 c.secs),.sl (c.sold.map eTk++l.map eTk)]:=by
    unfold qa qb
    rw [List.map_append]
  rw [hA]
  repeat' (first|(apply nx;with_reducible constructor)|refine uq (by decide) ?_|((first|refine vx env fun Q hQ=>?_|refine vz fun Q hQ=>?_);simp only [vkt,seval,Y9,QbU,qa,qb,qh,rTk,zJ,mTk,qc,JS,List.length_map,h1,h4,h5];(try simp only [ite_and]);(repeat' (first|with_reducible assumption|refine And.intro ?_ ?_|intro hp));all_goals (first|(refine hQ _ ?_;clear hQ Q)|(refine hQ _ (fun h=>?_) (fun h=>?_) <;> clear hQ Q <;> (try simp only [vki,reduceCtorEq] at h))|(refine vq ?_;kernel_rfl)|omega|assumption|with_reducible rfl|skip)))
  (simp only [vrt,Try.results56,vkt,seval,Y9,QbU,qa,qb,qh,rTk,zJ,mTk,qc,JS,List.length_map];refine Fin.val rfl ?_;(try simp only [AV.le,AV.leL]))
  all_goals first|rfl|(simp;done)|exact ⟨⟨_,_,rfl⟩,trivial,⟨_,_,rfl⟩,trivial⟩
def kP:List AV→Prop × AV
  |[.agg [.sl c0,.v (.int .i64 c1),.sl c2],.sl l]=>(c0=(c0.map qp).map qj∧c2=(c2.map dTk).map eTk∧l=(l.map dTk).map eTk∧((⟨(c0.map qp),c1,(c2.map dTk)⟩:Chart)).cabins.length≤100000∧((⟨(c0.map qp),c1,(c2.map dTk)⟩:Chart)).sold.length≤1000∧(l.map dTk).length≤1000,qa ⟨((⟨(c0.map qp),c1,(c2.map dTk)⟩:Chart)).cabins,((⟨(c0.map qp),c1,(c2.map dTk)⟩:Chart)).secs,((⟨(c0.map qp),c1,(c2.map dTk)⟩:Chart)).sold++(l.map dTk)⟩)
  |_=>(False,.junk)
theorem Qi0 {A:Frm→Prop}:qB A Try.prog 56 (qU false kP):=za fun vs hv h=>by
  clear hv
  unfold kP at h ⊢
  split at h
  · rename_i c0 c1 c2 l;obtain ⟨q0,q1,q2,k0,k1,k2⟩:=h
    refine ⟨by first|trivial|(simp [AV.plain,AV.plainL,aI,aB,qA,qd,qh,qf,aTk,cTk];done)|(repeat' split) <;> simp [AV.plain,AV.plainL,aI,aB,qA,qd,qh,qf,aTk,cTk],fun h=>absurd h (by decide), ?_⟩
    have:=Qeg ((⟨(c0.map qp),c1,(c2.map dTk)⟩:Chart)) (l.map dTk) k0 k1 k2
    simp only [q9,qa,aI,qh,qb,← q0,← q1,← q2] at this
    first|exact this|(simp only [q9,qa,aI,qh,qb,← q0,← q1,← q2];exact this)
  · exact h.elim
def Q0:=vj @ty3 (vj @WT (vj @xC (vj @jO (vj @WP (vj @yw (vj @ti3.eq_1 (vj @Zv.eq_1 (vj @vP.eq_1 (vj @jE.eq_1 (vj @Zq.eq_1 @j3.eq_1))))))))))
def Vp:=vj @aI.eq_1 (@aB.eq_1)
theorem Qf8 (c:Chart):FnV Try.prog 55 [qa c] (aB (decide (20 < (c.cabins.length:Int)) || decide (20 < (c.sold.length:Int)))):=by
  have env:Env (fun _=>True) Try.prog tyB (tab []):=qP trivial
  refine Fn.of (A:=fun _=>True) (n0:=0) (D:=noD) (Fn0 Try.func55 rfl (fun vs w=>by kernel_rfl) (by kernel_rfl)) (by simp) (by simp [AV.ids,AV.idsL,qa,qb]) (fun i o h=>by cases h) (fun _ _ _ _=>trivial) qF ?_
  cases q:decide (20 < (c.cabins.length:Int)) with
  |true =>
    repeat' (first|(apply nx;with_reducible constructor)|refine uq (by decide) ?_|((first|refine vx env fun Q hQ=>?_|refine vz fun Q hQ=>?_);simp only [vkt,seval,Q0,Vp,qa,qb,List.length_map,q];(try simp only [ite_and]);(repeat' (first|with_reducible assumption|refine And.intro ?_ ?_|intro hp));all_goals (first|(refine hQ _ ?_;clear hQ Q)|(refine hQ _ (fun h=>?_) (fun h=>?_) <;> clear hQ Q <;> (try simp only [vki,reduceCtorEq] at h))|(refine vq ?_;kernel_rfl)|omega|assumption|with_reducible rfl|skip)))
    (simp only [vrt,Try.results55,vkt,seval,Q0,Vp,qa,qb,List.length_map];refine Fin.val rfl ?_;(try simp only [AV.le,AV.leL]))
    all_goals first|rfl|(simp;done)
  |false =>
    repeat' (first|(apply nx;with_reducible constructor)|refine uq (by decide) ?_|((first|refine vx env fun Q hQ=>?_|refine vz fun Q hQ=>?_);simp only [vkt,seval,Q0,Vp,qa,qb,List.length_map,q];(try simp only [ite_and]);(repeat' (first|with_reducible assumption|refine And.intro ?_ ?_|intro hp));all_goals (first|(refine hQ _ ?_;clear hQ Q)|(refine hQ _ (fun h=>?_) (fun h=>?_) <;> clear hQ Q <;> (try simp only [vki,reduceCtorEq] at h))|(refine vq ?_;kernel_rfl)|omega|assumption|with_reducible rfl|skip)))
    (simp only [vrt,Try.results55,vkt,seval,Q0,Vp,qa,qb,List.length_map];refine Fin.val rfl ?_;(try simp only [AV.le,AV.leL]))
    all_goals first|rfl|(simp;done)
def kJ:List AV→Prop × AV
  |[.agg [.sl c0,.v (.int .i64 c1),.sl c2]]=>(c0=(c0.map qp).map qj∧c2=(c2.map dTk).map eTk,aB (decide (20 < ((((⟨(c0.map qp),c1,(c2.map dTk)⟩:Chart)).cabins.length:Nat):Int)) || decide (20 < ((((⟨(c0.map qp),c1,(c2.map dTk)⟩:Chart)).sold.length:Nat):Int))))
  |_=>(False,.junk)
theorem QiP {A:Frm→Prop}:qB A Try.prog 55 (qU true kJ):=za fun vs hv h=>by
  clear hv
  unfold kJ at h ⊢
  split at h
  · rename_i c0 c1 c2;obtain ⟨q0,q1⟩:=h
    refine ⟨by first|trivial|(simp [AV.plain,AV.plainL,aI,aB,qA,qd,qh,qf,aTk,cTk];done)|(repeat' split) <;> simp [AV.plain,AV.plainL,aI,aB,qA,qd,qh,qf,aTk,cTk],fun _=>(by simp [AV.flat,AV.flatL,aI,aB]), ?_⟩
    have:=Qf8 ((⟨(c0.map qp),c1,(c2.map dTk)⟩:Chart))
    simp only [q9,qa,aI,qh,qb,← q0,← q1] at this
    first|exact this|(simp only [q9,qa,aI,qh,qb,← q0,← q1];exact this)
  · exact h.elim
end Go.Sym.B
namespace Go.Sym.B
open Go Go.Sym Go.Proofs Go.Sym.C
def yu (n:Int):Int:=if n=0 then 0 else if n=1∨n=2∨n=4 then 1 else if n=7 then 3 else 2
def Xr:=vj @ty3 (vj @Qco (vj @ti3.eq_1 @V6.eq_1))
def Qcd:=vj @aI.eq_1 (vj @aB.eq_1 (@aU.eq_1))
theorem Qg8 (n:Int) (hn:0≤n∧n < 8):FnV Try.prog 145 [aU n] (aI (yu n)):=by
  have env:Env (fun _=>True) Try.prog tyB (tab []):=qP trivial
  have hc:n=0∨n=1∨n=2∨n=3∨n=4∨n=5∨n=6∨n=7:=by omega
  rcases hc with rfl|rfl|rfl|rfl|rfl|rfl|rfl|rfl
  all_goals
    refine Fn.of (A:=fun _=>True) (n0:=0) (D:=noD) (Fn0 Try.func145 rfl (fun vs w=>by kernel_rfl) (by kernel_rfl)) (by simp) (by simp [AV.ids,AV.idsL,aU]) (fun i o h=>by cases h) (fun _ _ _ _=>trivial) qF ?_
    repeat' (first|(apply nx;with_reducible constructor)|refine uq (by decide) ?_|((first|refine vx env fun Q hQ=>?_|refine vz fun Q hQ=>?_);simp only [vkt,seval,Xr,Qcd];(try simp only [ite_and]);(repeat' (first|with_reducible assumption|refine And.intro ?_ ?_|intro hp));all_goals (first|(refine hQ _ ?_;clear hQ Q)|(refine hQ _ (fun h=>?_) (fun h=>?_) <;> clear hQ Q <;> (try simp only [vki,reduceCtorEq] at h))|(refine vq ?_;kernel_rfl)|omega|assumption|with_reducible rfl|skip)))
    (simp only [vrt,Try.results145,vkt,seval,Xr,Qcd];refine Fin.val rfl ?_;(try simp only [AV.le,AV.leL]))
    all_goals first|kernel_rfl|rfl
def LQ:List AV→Prop × AV
  |[.v (.int .u64 a)]=>(0≤a∧a < 8,aI (yu a))
  |_=>(False,.junk)
theorem eoc64 {A:Frm→Prop}:qB A Try.prog 145 (qU true LQ):=za fun vs hv h=>by
  clear hv
  unfold LQ at h ⊢
  split at h
  · exact ⟨by simp [aI,AV.plain],fun _=>by simp [aI,AV.flat],Qg8 _ h⟩
  · exact h.elim
def Lu:=vj @ty103 (vj @ty188 (vj @QbZ.eq_1 @Qcv.eq_1))
def QbM:=vj @aI.eq_1 (vj @aB.eq_1 (@aU.eq_1))
theorem oc_fn (n:Int) (hn:0≤n∧n < 8):FnV Try.prog 131 [aU n] (aI (yu n)):=by
  have env:Env (fun _=>True) Try.prog tyB (tab [(145,qU true LQ)]):=qP ⟨eoc64,trivial⟩
  refine Fn.of (A:=fun _=>True) (n0:=0) (D:=noD) (Fn0 Try.func131 rfl (fun vs w=>by kernel_rfl) (by kernel_rfl)) (by simp) (by simp [AV.ids,AV.idsL,aU]) (fun i o h=>by cases h) (fun _ _ _ _=>trivial) qF ?_
  obtain ⟨h1,h2⟩:=hn
  repeat' (first|(apply nx;with_reducible constructor)|refine uq (by decide) ?_|((first|refine vx env fun Q hQ=>?_|refine vz fun Q hQ=>?_);simp only [vkt,seval,Lu,QbM,LQ,h1,h2];(try simp only [ite_and]);(repeat' (first|with_reducible assumption|refine And.intro ?_ ?_|intro hp));all_goals (first|(refine hQ _ ?_;clear hQ Q)|(refine hQ _ (fun h=>?_) (fun h=>?_) <;> clear hQ Q <;> (try simp only [vki,reduceCtorEq] at h))|(refine vq ?_;kernel_rfl)|omega|assumption|with_reducible rfl|skip)))
  (simp only [vrt,Try.results131,vkt,seval,Lu,QbM,LQ];refine Fin.val rfl ?_;(try simp only [AV.le,AV.leL]))
  all_goals first|rfl|(simp;done)
def soc:List AV→Prop × AV
  |[.v (.int .u64 a)]=>(0≤a∧a < 8,aI (yu a))
  |_=>(False,.junk)
theorem eoc {A:Frm→Prop}:qB A Try.prog 131 (qU true soc):=za fun vs hv h=>by
  clear hv
  unfold soc at h ⊢
  split at h
  · exact ⟨by simp [aI,AV.plain],fun _=>by simp [aI,AV.flat],oc_fn _ h⟩
  · exact h.elim
def Qct:=vj @aI.eq_1 (vj @aB.eq_1 (@aU.eq_1))
theorem Qgw (n:Int) (hn:0≤n∧n < 8):FnV Try.prog 109 [aU n] (aI (yu n)):=by
  have env:Env (fun _=>True) Try.prog tyB (tab [(131,qU true soc)]):=qP ⟨eoc,trivial⟩
  refine Fn.of (A:=fun _=>True) (n0:=0) (D:=noD) (Fn0 Try.func109 rfl (fun vs w=>by kernel_rfl) (by kernel_rfl)) (by simp) (by simp [AV.ids,AV.idsL,aU]) (fun i o h=>by cases h) (fun _ _ _ _=>trivial) qF ?_
  obtain ⟨h1,h2⟩:=hn
  repeat' (first|(apply nx;with_reducible constructor)|refine uq (by decide) ?_|((first|refine vx env fun Q hQ=>?_|refine vz fun Q hQ=>?_);simp only [vkt,seval,Qct,soc,h1,h2];(try simp only [ite_and]);(repeat' (first|with_reducible assumption|refine And.intro ?_ ?_|intro hp));all_goals (first|(refine hQ _ ?_;clear hQ Q)|(refine hQ _ (fun h=>?_) (fun h=>?_) <;> clear hQ Q <;> (try simp only [vki,reduceCtorEq] at h))|(refine vq ?_;kernel_rfl)|omega|assumption|with_reducible rfl|skip)))
  (simp only [vrt,Try.results109,vkt,seval,Qct,soc];refine Fin.val rfl ?_;(try simp only [AV.le,AV.leL]))
  all_goals first|rfl|(simp;done)
def xY:List AV→Prop × AV
  |[.v (.int .u64 a)]=>(0≤a∧a < 8,aI (yu a))
  |_=>(False,.junk)
theorem emany {A:Frm→Prop}:qB A Try.prog 109 (qU true xY):=za fun vs hv h=>by
  clear hv
  unfold xY at h ⊢
  split at h
  · exact ⟨by simp [aI,AV.plain],fun _=>by simp [aI,AV.flat],Qgw _ h⟩
  · exact h.elim
def Js (b n:Int):Bool:=decide (b / 2 ^ n.toNat % 2=1)
def KG:=vj @XL @Yq.eq_1
def QcD:=vj @aI.eq_1 (vj @aB.eq_1 (@aU.eq_1))
theorem Qi3 (b n:Int) (hb:0≤b∧b < 8) (hn:0≤n∧n < 3):FnV Try.prog 111 [aU b,aI n] (aB (Js b n)):=by
  have env:Env (fun _=>True) Try.prog tyB (tab []):=qP trivial
  have hc:b=0∨b=1∨b=2∨b=3∨b=4∨b=5∨b=6∨b=7:=by omega
  have hd:n=0∨n=1∨n=2:=by omega
  rcases hc with rfl|rfl|rfl|rfl|rfl|rfl|rfl|rfl <;> rcases hd with rfl|rfl|rfl
  all_goals
    refine Fn.of (A:=fun _=>True) (n0:=0) (D:=noD) (Fn0 Try.func111 rfl (fun vs w=>by kernel_rfl) (by kernel_rfl)) (by simp) (by simp [AV.ids,AV.idsL,aU,aI]) (fun i o h=>by cases h) (fun _ _ _ _=>trivial) qF ?_
    repeat' (first|(apply nx;with_reducible constructor)|refine uq (by decide) ?_|((first|refine vx env fun Q hQ=>?_|refine vz fun Q hQ=>?_);simp only [vkt,seval,KG,QcD];(try simp only [ite_and]);(repeat' (first|with_reducible assumption|refine And.intro ?_ ?_|intro hp));all_goals (first|(refine hQ _ ?_;clear hQ Q)|(refine hQ _ (fun h=>?_) (fun h=>?_) <;> clear hQ Q <;> (try simp only [vki,reduceCtorEq] at h))|(refine vq ?_;kernel_rfl)|omega|assumption|with_reducible rfl|skip)))
    (simp only [vrt,Try.results111,vkt,seval,KG,QcD];refine Fin.val rfl ?_;(try simp only [AV.le,AV.leL]))
    all_goals first|kernel_rfl|rfl
def vX:List AV→Prop × AV
  |[.v (.int .u64 b),.v (.int .i64 n)]=>((0≤b∧b < 8)∧0≤n∧n < 3,aB (Js b n))
  |_=>(False,.junk)
theorem ehas {A:Frm→Prop}:qB A Try.prog 111 (qU true vX):=za fun vs hv h=>by
  clear hv
  unfold vX at h ⊢
  split at h
  · exact ⟨by simp [aB,AV.plain],fun _=>by simp [aB,AV.flat],Qi3 _ _ h.1 h.2⟩
  · exact h.elim
end Go.Sym.B
namespace Go.Sym.B
open Go Go.Sym Go.Proofs Go.Sym.C
theorem UW:∀ a:_root_.Fin 8,∀ b:_root_.Fin 3,(0≤JW (a.val:Int) (b.val:Int)∧JW (a.val:Int) (b.val:Int) < 8)∧∀ n:_root_.Fin 3,Js (JW (a.val:Int) (b.val:Int)) (n.val:Int)=(decide ((b.val:Int)=(n.val:Int)) || Js (a.val:Int) (n.val:Int)):=by decide +kernel
theorem QgH {a b:Int} (ha:0≤a∧a < 8) (hb:0≤b∧b < 3):0≤JW a b∧JW a b < 8:=by
  have:=(UW ⟨a.toNat,by omega⟩ ⟨b.toNat,by omega⟩).1
  simpa [Int.toNat_of_nonneg ha.1,Int.toNat_of_nonneg hb.1] using this
theorem QfW {a b n:Int} (ha:0≤a∧a < 8) (hb:0≤b∧b < 3) (hn:0≤n∧n < 3):Js (JW a b) n=(decide (b=n) || Js a n):=by
  have:=(UW ⟨a.toNat,by omega⟩ ⟨b.toNat,by omega⟩).2 ⟨n.toNat,by omega⟩
  simpa [Int.toNat_of_nonneg ha.1,Int.toNat_of_nonneg hb.1,Int.toNat_of_nonneg hn.1] using this
theorem QhP:∀ a:_root_.Fin 8,yu (a.val:Int)=(if Js (a.val:Int) 0 then 1 else 0)+(if Js (a.val:Int) 1 then 1 else 0)+(if Js (a.val:Int) 2 then 1 else 0):=by decide +kernel
theorem Qgp {a:Int} (ha:0≤a∧a < 8):yu a=(if Js a 0 then 1 else 0)+(if Js a 1 then 1 else 0)+(if Js a 2 then 1 else 0):=by
  have:=QhP ⟨a.toNat,by omega⟩
  simpa only [Int.toNat_of_nonneg ha.1] using this
theorem QbI (a:Int):0≤yu a∧yu a≤3:=by
  unfold yu
  split
  · omega
  split
  · omega
  split <;> omega
theorem ZK {c:Chart} (hv:Van c) (s:Int):∀ k,k≤c.sold.length→∀ i:Nat,i < 3→(0≤(jr c.sold s k).getD i 0∧(jr c.sold s k).getD i 0 < 8)∧∀ n:Int,0≤n∧n < 3→Js ((jr c.sold s k).getD i 0) n=wD (c.sold.take k) ⟨(i:Int),n⟩ s
  |0,_,i,hi=>by
    have e:(jr c.sold s 0).getD i 0=0:=by
      show ([0,0,0]:List Int).getD i 0=0
      match i,hi with
      |0,_=>rfl
      |1,_=>rfl
      |2,_=>rfl
    rw [e]
    refine ⟨by omega,fun n hn=>?_⟩
    have:n=0∨n=1∨n=2:=by omega
    rcases this with rfl|rfl|rfl <;> rfl
  |k+1,h,i,hi=>by
    have hlt:k < c.sold.length:=by omega
    obtain ⟨ih1,ih2⟩:=ZK hv s k (by omega) i hi
    obtain ⟨t,ht⟩:∃ t,c.sold.getD k default=t:=⟨_,rfl⟩
    have hok:=hv.tk t (ht ▸ vK hlt)
    have hcl:=hv.car.cabs
    have hbb:=hv.car.beds _ (vK (d:=default) hok.cab.2)
    have hbed:=hok.bed
    have hbed3:0≤t.bed∧t.bed < 3:=by omega
    have hl:=vO c.sold s k (by omega)
    have hcab:=hok.cab
    have hT:wD (c.sold.take (k+1))=fun b s=>wD (c.sold.take k) b s || onB b s t:=by
      funext b s
      unfold wD
      rw [List.take_succ_eq_append_getElem hlt,List.any_append,← ht]
      simp [List.getD_eq_getElem?_getD,hlt]
    rw [ZH hlt,ht,Zz,hT]
    simp only
    cases hb:inB s t.frm (t.to - 1) with
    |false =>
      rw [if_neg (by decide)]
      refine ⟨ih1,fun n hn=>?_⟩
      rw [ih2 n hn]
      unfold onB
      rw [hb];simp
    |true =>
      rw [if_pos rfl]
      by_cases hci:t.cab.toNat=i
      · have e1:((jr c.sold s k).set t.cab.toNat (JW ((jr c.sold s k).getD t.cab.toNat 0) t.bed)).getD i 0=JW ((jr c.sold s k).getD i 0) t.bed:=by
          rw [hci,List.getD_eq_getElem?_getD,List.getElem?_set_self (by omega)];rfl
        rw [e1]
        refine ⟨QgH ih1 hbed3,fun n hn=>?_⟩
        rw [QfW ih1 hbed3 hn,ih2 n hn]
        unfold onB
        rw [hb,decide_eq_true (show t.cab=(i:Int) by omega)]
        simp only [Bool.true_and,Bool.and_true]
        exact Bool.or_comm _ _
      · have e1:((jr c.sold s k).set t.cab.toNat (JW ((jr c.sold s k).getD t.cab.toNat 0) t.bed)).getD i 0=(jr c.sold s k).getD i 0:=by
          rw [List.getD_eq_getElem?_getD,List.getElem?_set_ne hci,← List.getD_eq_getElem?_getD]
        rw [e1]
        refine ⟨ih1,fun n hn=>?_⟩
        rw [ih2 n hn]
        unfold onB
        rw [decide_eq_false (show ¬ t.cab=(i:Int) by omega)]
        simp
end Go.Sym.B
namespace Go.Sym.B
open Go Go.Sym Go.Proofs Go.Sym.C
def ldP (x y z:Int):Nat→Int
  |0=>0
  |1=>yu x
  |2=>yu x+yu y
  |_=>yu x+yu y+yu z
def VY (c:Chart) (s:Int):Int:=ldP ((jr c.sold s c.sold.length).getD 0 0) ((jr c.sold s c.sold.length).getD 1 0) ((jr c.sold s c.sold.length).getD 2 0) 3
def kg (c:Chart):List Int × Int:=if zV c=0 then ((List.range c.secs.toNat).map fun (s:Nat)=>VY c s,0) else ([],zV c)
def ldK (c:Chart) (s:Nat):List Int:=(List.range s).map fun (s:Nat)=>VY c s
theorem QfO (c:Chart) (s:Nat):ldK c (s+1)=ldK c s++[VY c s]:=by
  unfold ldK
  rw [List.range_succ,List.map_append];rfl
theorem Qg9 (c:Chart) (s:Nat):(ldK c s).length=s:=by simp [ldK]
def ldS (c:Chart) (s:Nat) (T:List (Nat × AV)):St:={ t:=asg (T++[(1,.ptr 0 0),(5,.row 1),(16,aI c.secs),(17,aI s)]),h:=qg [(0,.cells (qb c)),(1,.row 3 1 ((ldK c s).map zX))],n:=2 }
def wK:=vj @ty3 (vj @Wl (vj @jO (vj @QN (vj @XL (vj @Qcp (vj @ti3.eq_1 (vj @Zk.eq_1 (vj @jE.eq_1 (vj @Qb.eq_1 (vj @Yq.eq_1 @Xh.eq_1))))))))))
def yx:=vj @aI.eq_1 (vj @aB.eq_1 (vj @aU.eq_1 (vj @qA.eq_1 (vj @zX.eq_1 (vj @QaE (@WS))))))
theorem QhJ (c:Chart) (hc:c.cabins.length≤maxLen):FnV Try.prog 57 [qa c] (.tup [qA (kg c).1,aI (kg c).2]):=by
  have env:Env (fun _=>True) Try.prog tyB (tab [(44,qU true qK),(108,qU true qN),(109,qU true xY)]):=qP ⟨Jw,Uj,emany,trivial⟩
  refine Fn.of (A:=fun _=>True) (n0:=0) (D:=noD) (Fn0 Try.func57 rfl (fun vs w=>by kernel_rfl) (by kernel_rfl)) (by simp) (by simp [AV.ids,AV.idsL,qa,qb]) (fun i o h=>by cases h) (fun _ _ _ _=>trivial) qF ?_
  have ec:(⟨c.cabins,c.secs,c.sold⟩:Chart)=c:=rfl
  have hmx:(100000:Nat)≤maxLen:=by decide
  obtain ⟨e,he⟩:∃ e,zV c=e:=⟨_,rfl⟩
  by_cases h0:e=0
  · rw [h0] at he
    have hE:kg c=(ldK c c.secs.toNat,0):=by unfold kg;rw [if_pos he];rfl
    rw [hE]
    have hv:=kD he
    have hvan:=hv.van
    have hsec:=hv.car.secs
    repeat' (first|(apply nx;with_reducible constructor)|refine uq (by decide) ?_|((first|refine vx env fun Q hQ=>?_|refine vz fun Q hQ=>?_);simp only [vkt,seval,wK,yx,qa,qb,qc,mTk,ldS,qK,qN,xY,qZ,qI,zk,qY,qC,qH,List.length_map,ec,he,decide_true];(try simp only [ite_and]);(repeat' (first|with_reducible assumption|refine And.intro ?_ ?_|intro hp));all_goals (first|(refine hQ _ ?_;clear hQ Q)|(refine hQ _ (fun h=>?_) (fun h=>?_) <;> clear hQ Q <;> (try simp only [vki,reduceCtorEq] at h))|(refine vq ?_;kernel_rfl)|omega|assumption|with_reducible rfl|skip)))
    refine qX (fun s:{ s:Nat // s≤c.secs.toNat }=>ldS c s.1 []) (fun s=>c.secs.toNat - s.1) ⟨0,Nat.zero_le _⟩ ?_ fun ⟨s,hs⟩=>?_
    · simp only [ldS,show ldK c 0=[] from rfl,List.cons_append,List.nil_append]
      (refine Le.ok (fun i=>if i=1 then none else some i) [] ?_;constructor;all_goals (try simp only [vle,vkt,seval,wK,yx,qa,qb,qc,mTk,ldS,qK,qN,xY,qZ,qI,zk,qY,qC,qH,List.length_map]))
      all_goals first|rfl|(simp;done)
    simp only at hs ⊢
    have hS:=QfO c s
    have hl:=Qg9 c s
    obtain ⟨K,hK⟩:∃ K,ldK c s=K:=⟨_,rfl⟩
    rw [hK] at hS hl
    simp only [ldS,hK,List.nil_append]
    by_cases hsl:s < c.secs.toNat
    · have d1:decide ((s:Int) < c.secs)=true:=decide_eq_true (by omega)
      have e9:IntKind.wrap .i64 ((s:Int)+1)=((s+1:Nat):Int):=by rw [wrap64 (by omega) (by omega)];rfl
      have hb:=fun i hi=>(ZK hvan s c.sold.length (Nat.le_refl _) i hi).1
      have hPl:=vO c.sold s c.sold.length (Nat.le_refl _)
      have hLN:VY c s=ldP ((jr c.sold s c.sold.length).getD 0 0) ((jr c.sold s c.sold.length).getD 1 0) ((jr c.sold s c.sold.length).getD 2 0) 3:=rfl
      obtain ⟨P,hP⟩:∃ P,jr c.sold s c.sold.length=P:=⟨_,rfl⟩
      rw [hP] at hb hPl hLN
      obtain ⟨x,y,z,rfl⟩:∃ x y z,P=[x,y,z]:=by
        match P,hPl with
        |[x,y,z],_=>exact ⟨x,y,z,rfl⟩
      have bx:0≤x∧x < 8:=hb 0 (by omega)
      have by':0≤y∧y < 8:=hb 1 (by omega)
      have bz:0≤z∧z < 8:=hb 2 (by omega)
      have hLN:VY c s=ldP x y z 3:=hLN
      have px:=QbI x
      have py:=QbI y
      have pz:=QbI z
      obtain ⟨bx1,bx2⟩:=bx
      obtain ⟨by1,by2⟩:=by'
      obtain ⟨bz1,bz2⟩:=bz
      have hap:AV.agg (List.map aU [x,y,z])=.agg [.v (.int .u64 x),.v (.int .u64 y),.v (.int .u64 z)]:=rfl
      have hm1:List.map (fun n=>AV.v (.int .u64 n)) [x,y,z]=[.v (.int .u64 x),.v (.int .u64 y),.v (.int .u64 z)]:=rfl
      repeat' (first|(apply nx;with_reducible constructor)|refine uq (by decide) ?_|((first|refine vx env fun Q hQ=>?_|refine vz fun Q hQ=>?_);simp only [vkt,seval,wK,yx,qa,qb,qc,mTk,ldS,qK,qN,xY,qZ,qI,zk,qY,qC,qH,List.length_map,ec,d1,hP,hvan,List.map_cons,List.map_nil];(try simp only [ite_and]);(repeat' (first|with_reducible assumption|refine And.intro ?_ ?_|intro hp));all_goals (first|(refine hQ _ ?_;clear hQ Q)|(refine hQ _ (fun h=>?_) (fun h=>?_) <;> clear hQ Q <;> (try simp only [vki,reduceCtorEq] at h))|(refine vq ?_;kernel_rfl)|omega|assumption|with_reducible rfl|skip)))
      refine qX (fun k:{ k:Nat // k≤3 }=>ldS c s [(7,aI (ldP x y z k.1)),(22,.agg [.v (.int .u64 x),.v (.int .u64 y),.v (.int .u64 z)]),(23,aI k.1)]) (fun k=>3 - k.1) ⟨0,Nat.zero_le _⟩ ?_ fun ⟨k,hk⟩=>?_
      · simp only [ldS,hK,show ldP x y z 0=0 from rfl,List.cons_append,List.nil_append]
        (refine Le.ok some [] ?_;constructor;all_goals (try simp only [vle,vkt,seval,wK,yx,qa,qb,qc,mTk,ldS,qK,qN,xY,qZ,qI,zk,qY,qC,qH,List.length_map]))
        all_goals first|rfl|(simp;done)
      simp only at hk ⊢
      have hc4:k=0∨k=1∨k=2∨k=3:=by omega
      simp only [ldS,hK,List.cons_append,List.nil_append]
      rcases hc4 with rfl|rfl|rfl|rfl
      · have w1:IntKind.wrap .i64 (0+yu x)=yu x:=by rw [Int.zero_add];exact wrap64 (by omega) (by omega)
        simp only [show ldP x y z 0=0 from rfl]
        repeat' (first|(apply nx;with_reducible constructor)|refine uq (by decide) ?_|((first|refine vx env fun Q hQ=>?_|refine vz fun Q hQ=>?_);simp only [vkt,seval,wK,yx,qa,qb,qc,mTk,ldS,qK,qN,xY,qZ,qI,zk,qY,qC,qH,List.length_map,bx1,bx2,w1];(try simp only [ite_and]);(repeat' (first|with_reducible assumption|refine And.intro ?_ ?_|intro hp));all_goals (first|(refine hQ _ ?_;clear hQ Q)|(refine hQ _ (fun h=>?_) (fun h=>?_) <;> clear hQ Q <;> (try simp only [vki,reduceCtorEq] at h))|(refine vq ?_;kernel_rfl)|omega|assumption|with_reducible rfl|skip)))
        refine ⟨⟨1,by omega⟩,by show 3 - 1 < 3 - 0;omega, ?_⟩
        simp only [ldS,hK,show ldP x y z 1=yu x from rfl,List.cons_append,List.nil_append]
        (refine Le.ok some [] ?_;constructor;all_goals (try simp only [vle,vkt,seval,wK,yx,qa,qb,qc,mTk,ldS,qK,qN,xY,qZ,qI,zk,qY,qC,qH,List.length_map]))
        all_goals first|rfl|(simp;done)
      · have w1:IntKind.wrap .i64 (yu x+yu y)=yu x+yu y:=wrap64 (by omega) (by omega)
        simp only [show ldP x y z 1=yu x from rfl]
        repeat' (first|(apply nx;with_reducible constructor)|refine uq (by decide) ?_|((first|refine vx env fun Q hQ=>?_|refine vz fun Q hQ=>?_);simp only [vkt,seval,wK,yx,qa,qb,qc,mTk,ldS,qK,qN,xY,qZ,qI,zk,qY,qC,qH,List.length_map,by1,by2,w1];(try simp only [ite_and]);(repeat' (first|with_reducible assumption|refine And.intro ?_ ?_|intro hp));all_goals (first|(refine hQ _ ?_;clear hQ Q)|(refine hQ _ (fun h=>?_) (fun h=>?_) <;> clear hQ Q <;> (try simp only [vki,reduceCtorEq] at h))|(refine vq ?_;kernel_rfl)|omega|assumption|with_reducible rfl|skip)))
        refine ⟨⟨2,by omega⟩,by show 3 - 2 < 3 - 1;omega, ?_⟩
        simp only [ldS,hK,show ldP x y z 2=yu x+yu y from rfl,List.cons_append,List.nil_append]
        (refine Le.ok some [] ?_;constructor;all_goals (try simp only [vle,vkt,seval,wK,yx,qa,qb,qc,mTk,ldS,qK,qN,xY,qZ,qI,zk,qY,qC,qH,List.length_map]))
        all_goals first|rfl|(simp;done)
      · have w1:IntKind.wrap .i64 (yu x+yu y+yu z)=yu x+yu y+yu z:=wrap64 (by omega) (by omega)
        simp only [show ldP x y z 2=yu x+yu y from rfl]
        repeat' (first|(apply nx;with_reducible constructor)|refine uq (by decide) ?_|((first|refine vx env fun Q hQ=>?_|refine vz fun Q hQ=>?_);simp only [vkt,seval,wK,yx,qa,qb,qc,mTk,ldS,qK,qN,xY,qZ,qI,zk,qY,qC,qH,List.length_map,bz1,bz2,w1];(try simp only [ite_and]);(repeat' (first|with_reducible assumption|refine And.intro ?_ ?_|intro hp));all_goals (first|(refine hQ _ ?_;clear hQ Q)|(refine hQ _ (fun h=>?_) (fun h=>?_) <;> clear hQ Q <;> (try simp only [vki,reduceCtorEq] at h))|(refine vq ?_;kernel_rfl)|omega|assumption|with_reducible rfl|skip)))
        refine ⟨⟨3,by omega⟩,by show 3 - 3 < 3 - 2;omega, ?_⟩
        simp only [ldS,hK,show ldP x y z 3=yu x+yu y+yu z from rfl,List.cons_append,List.nil_append]
        (refine Le.ok some [] ?_;constructor;all_goals (try simp only [vle,vkt,seval,wK,yx,qa,qb,qc,mTk,ldS,qK,qN,xY,qZ,qI,zk,qY,qC,qH,List.length_map]))
        all_goals first|rfl|(simp;done)
      · have hm:K.length+1≤maxLen:=by omega
        have ek:K++[ldP x y z 3]=ldK c (s+1):=by rw [hS,hLN]
        obtain ⟨r,hr⟩:∃ r,ldP x y z 3=r:=⟨_,rfl⟩
        rw [hr] at ek
        simp only [hr]
        repeat' (first|(apply nx;with_reducible constructor)|refine uq (by decide) ?_|((first|refine vx env fun Q hQ=>?_|refine vz fun Q hQ=>?_);simp only [vkt,seval,wK,yx,qa,qb,qc,mTk,ldS,qK,qN,xY,qZ,qI,zk,qY,qC,qH,List.length_map,hm,e9];(try simp only [ite_and]);(repeat' (first|with_reducible assumption|refine And.intro ?_ ?_|intro hp));all_goals (first|(refine hQ _ ?_;clear hQ Q)|(refine hQ _ (fun h=>?_) (fun h=>?_) <;> clear hQ Q <;> (try simp only [vki,reduceCtorEq] at h))|(refine vq ?_;kernel_rfl)|omega|assumption|with_reducible rfl|skip)))
        refine ⟨⟨s+1,hsl⟩,by show c.secs.toNat - (s+1) < c.secs.toNat - s;omega, ?_⟩
        simp only [ldS,← ek,List.cons_append,List.nil_append]
        (refine Le.ok (fun i=>if i=1 then some 3 else some i) [] ?_;constructor;all_goals (try simp only [vle,vkt,seval,wK,yx,qa,qb,qc,mTk,ldS,qK,qN,xY,qZ,qI,zk,qY,qC,qH,List.length_map]))
        all_goals first|rfl|(rw [List.map_append];rfl)|(simp;done)|(intro i hi;rw [if_neg (by omega)];done)
    · have d1:decide ((s:Int) < c.secs)=false:=decide_eq_false (by omega)
      obtain rfl:s=c.secs.toNat:=by omega
      rw [hK]
      repeat' (first|(apply nx;with_reducible constructor)|refine uq (by decide) ?_|((first|refine vx env fun Q hQ=>?_|refine vz fun Q hQ=>?_);simp only [vkt,seval,wK,yx,qa,qb,qc,mTk,ldS,qK,qN,xY,qZ,qI,zk,qY,qC,qH,List.length_map,d1];(try simp only [ite_and]);(repeat' (first|with_reducible assumption|refine And.intro ?_ ?_|intro hp));all_goals (first|(refine hQ _ ?_;clear hQ Q)|(refine hQ _ (fun h=>?_) (fun h=>?_) <;> clear hQ Q <;> (try simp only [vki,reduceCtorEq] at h))|(refine vq ?_;kernel_rfl)|omega|assumption|with_reducible rfl|skip)))
      (simp only [vrt,Try.results57,vkt,seval,wK,yx,qa,qb,qc,mTk,ldS,qK,qN,xY,qZ,qI,zk,qY,qC,qH,List.length_map];refine Fin.val rfl ?_;(try simp only [AV.le,AV.leL]))
      all_goals first|rfl|(simp;done)|exact ⟨⟨_,_,rfl⟩,trivial,trivial⟩
  · have hE:kg c=([],e):=by unfold kg;rw [if_neg (by rw [he];exact h0),he]
    rw [hE]
    have d0:decide (e=0)=false:=decide_eq_false h0
    repeat' (first|(apply nx;with_reducible constructor)|refine uq (by decide) ?_|((first|refine vx env fun Q hQ=>?_|refine vz fun Q hQ=>?_);simp only [vkt,seval,wK,yx,qa,qb,qc,mTk,ldS,qK,qN,xY,qZ,qI,zk,qY,qC,qH,List.length_map,ec,he,d0];(try simp only [ite_and]);(repeat' (first|with_reducible assumption|refine And.intro ?_ ?_|intro hp));all_goals (first|(refine hQ _ ?_;clear hQ Q)|(refine hQ _ (fun h=>?_) (fun h=>?_) <;> clear hQ Q <;> (try simp only [vki,reduceCtorEq] at h))|(refine vq ?_;kernel_rfl)|omega|assumption|with_reducible rfl|skip)))
    (simp only [vrt,Try.results57,vkt,seval,wK,yx,qa,qb,qc,mTk,ldS,qK,qN,xY,qZ,qI,zk,qY,qC,qH,List.length_map];refine Fin.val rfl ?_;(try simp only [AV.le,AV.leL]))
    all_goals first|rfl|(simp;done)
end Go.Sym.B
namespace Go.Sym.B
open Go Go.Sym Go.Proofs Go.Sym.C
def frB (c:Chart) (b:Bunk) (s:Nat):Bool:=decide ((s:Int) < c.secs) && !wD c.sold b s
def gpK (c:Chart) (b:Bunk):Nat→Int × List Tk
  |0=>(-1,[])
  |s+1=>if frB c b s then (if (gpK c b s).1 < 0 then ((s:Int),(gpK c b s).2) else gpK c b s) else (if 0≤(gpK c b s).1 then (-1,(gpK c b s).2++[⟨0,0,b.cab,b.bed,(gpK c b s).1,(s:Int),false⟩]) else gpK c b s)
theorem Vr (c:Chart) (b:Bunk):∀ s,(gpK c b s).2.length≤s
  |0=>Nat.le_refl _
  |s+1=>by
    have:=Vr c b s
    rw [gpK]
    split
    · split
      · simp only;omega
      · omega
    · split
      · rw [List.length_append,List.length_singleton];omega
      · omega
def gpN (c:Chart):Nat:=c.secs.toNat+1
def gpP (c:Chart) (j:Nat):List Tk:=((qQ c.cabins).take j).flatMap fun b=>(gpK c b (gpN c)).2
theorem Vx (c:Chart) {j:Nat} (h:j < (qQ c.cabins).length):gpP c (j+1)=gpP c j++(gpK c ((qQ c.cabins).getD j default) (gpN c)).2:=by
  unfold gpP
  rw [List.take_succ_eq_append_getElem h,List.flatMap_append,List.getD_eq_getElem?_getD,List.getElem?_eq_getElem h]
  simp
theorem Vl (c:Chart):∀ j,j≤(qQ c.cabins).length→(gpP c j).length≤j * gpN c
  |0,_=>by simp [gpP]
  |j+1,h=>by
    have h1:=Vl c j (by omega)
    have h2:=Vr c ((qQ c.cabins).getD j default) (gpN c)
    rw [Vx c (by omega),List.length_append,Nat.succ_mul]
    omega
def LZ (c:Chart):List Tk:=gpP c (qQ c.cabins).length
def xR (c:Chart):List Tk × Int:=if zV c=0 then (LZ c,0) else ([],zV c)
def vZ:List (Nat × AV):=[(1,.ptr 0 0),(5,.ptr 1 0),(16,.clo 123 [.ptr 2 0])]
def gaL:List (Nat × AV):=[(1,.ptr 0 0),(5,.ptr 1 0)]
def gaH (c:Chart) (j:Nat):List (Nat × AObj):=[(0,.cells (qb c)),(1,.cells [.row 3]),(3,ql (gpP c j))]
theorem RQ (cs:List Cabin) (s:Int):zl [2] 5 0 [buO cs s]=[(2,buO cs s)]:=rfl
def gaS (c:Chart) (b:Bunk) (T:List Tk) (U:List (Nat × AV)):St:={ t:=asg (U++[(1,.ptr 0 0),(5,.ptr 1 0),(6,.ptr 5 0),(20,aI (gpN c:Nat))]),h:=qg [(4,.mark),(0,.cells (qb c)),(1,.cells [.row 6]),(6,ql T),(2,buO c.cabins c.secs),(5,.cells [.v (.int .i64 b.cab),.v (.int .i64 b.bed)])],n:=7,m:=5 }
def zi:=vj @ty3 (vj @xC (vj @jO (vj @QN (vj @xA (vj @yw (vj @XL (vj @Qcp (vj @ti3.eq_1 (vj @vP.eq_1 (vj @jE.eq_1 (vj @Qb.eq_1 (vj @vR.eq_1 (vj @j3.eq_1 (vj @Yq.eq_1 @Xh.eq_1))))))))))))))
def wo:=vj @aI.eq_1 (vj @aB.eq_1 (vj @aU.eq_1 (@gaH.eq_1)))
set_option maxHeartbeats 4000000 in
theorem Qhx (c:Chart) (hc:c.cabins.length≤maxLen):FnV Try.prog 60 [qa c] (.tup [qh (xR c).1,aI (xR c).2]):=by
  have env:Env (fun F=>F.r=none) Try.prog tyB (tab [(44,qU true qK),(94,fnE qR)]):=qP ⟨Jw,RU,trivial⟩
  refine Fn.of (A:=fun F=>F.r=none) (n0:=0) (D:=noD) (Fn0 Try.func60 rfl (fun vs w=>by kernel_rfl) (by kernel_rfl)) (by simp) (by simp [AV.ids,AV.idsL,qa,qb]) (fun i o h=>by cases h) (fun _ _ _ h=>h) qF ?_
  have ec:(⟨c.cabins,c.secs,c.sold⟩:Chart)=c:=rfl
  have hmx:(100000:Nat)≤maxLen:=by decide
  obtain ⟨e,he⟩:∃ e,zV c=e:=⟨_,rfl⟩
  by_cases h0:e=0
  · rw [h0] at he
    have hE:xR c=(LZ c,0):=by unfold xR;rw [if_pos he]
    rw [hE]
    have hv:=kD he
    have hvan:=hv.van
    have hsec:=hv.car.secs
    have hcab:=hv.car.cabs
    have hbds:=hv.car.beds
    have hb9:=Vt hcab.2 hbds
    repeat' (first|(apply nx;with_reducible constructor)|refine uq (by decide) ?_|refine zu ?_|refine zH ?_|refine zG ?_|refine zF ?_|((first|refine vx env fun Q hQ=>?_|refine vz fun Q hQ=>?_);simp only [vkt,seval,zi,wo,qf,aTk,cTk,qh,eTk,rTk,mTk,qc,qa,qb,ql,buO,vZ,gaL,gaS,qK,qN,vX,qR,qZ,qI,zk,qY,qC,qH,List.length_map,ec,he,decide_true];(try simp only [ite_and]);(repeat' (first|with_reducible assumption|refine And.intro ?_ ?_|intro hp));all_goals (first|(refine hQ _ ?_;clear hQ Q)|(refine hQ _ (fun h=>?_) (fun h=>?_) <;> clear hQ Q <;> (try simp only [vki,reduceCtorEq] at h))|(refine vq ?_;kernel_rfl)|omega|assumption|with_reducible rfl|skip)))
    refine xy (S':={ t:=asg vZ,h:=qg (gaH c 0++[(2,buO c.cabins c.secs)]),n:=4,j:=0,d:=[],m:=0 }) ?_ ?_
    · show Le _ { t:=asg [(1,.ptr 0 0),(5,.ptr 1 0),(16,.clo 123 [.ptr 2 0])],h:=qg [(0,.cells (qb c)),(1,.cells [.row 3]),(3,ql []),(2,buO c.cabins c.secs)],n:=4,j:=0,d:=[],m:=0 }
      (refine Le.ok (fun i=>if i=3 then none else some i) [] ?_;constructor;all_goals (try simp only [vle,vkt,seval,zi,wo,qf,aTk,cTk,qh,eTk,rTk,mTk,qc,qa,qb,ql,buO,vZ,gaL,gaS,qK,qN,vX,qR,qZ,qI,zk,qY,qC,qH,List.length_map]))
      all_goals first|rfl|(simp;done)|(intro i hi;rw [if_neg (by omega)];done)
    rw [← RQ c.cabins c.secs]
    have hRo:Rounds (fun _=>true) (qQ c.cabins).length (qQ c.cabins).length:=⟨Nat.le_refl _,fun _ _=>rfl,fun h=>absurd h (Nat.lt_irrefl _)⟩
    refine vH (fun F h=>h) 1 (L:=vZ) (L':=gaL) (xs:=[]) (hs:=[2]) (n:=4) (nl:=0) (hc:=gaH c) (Lp:=[buO c.cabins c.secs]) (jj:=fun _=>0) (d:=[]) (ys:=buY c.cabins) (hl:=fun _=>[buO c.cabins c.secs]) (ans:=fun _=>true) (ex:=.ret) (caps:=[.ptr 2 0]) (caps0:=[.ptr 0 0]) (N:=(qQ c.cabins).length) (R:=(qQ c.cabins).length) (A':=fun _ _=>True) rfl (VV c.cabins c.secs ⟨by omega,fun x hx=>by have:=hbds x hx;omega⟩) hRo (.inl rfl) ?_ ?_ ?_ rfl (by simp) ?_ (by simp) (fun _ _ _ _ _ _=>trivial) ?_ ?_ ?_ (fun x hx=>by cases hx) (fun j hj p _ h=>by cases h) ?_ (fun j hj=>?_) ?_ (fun j hj=>?_) (fun hall=>?_) (fun hpos hlast=>by cases hlast)
    · simp [AV.leL,AV.le]
    · simp [AV.nocbL,AV.nocb]
    · simp [Wx,buO,AObj.nocb,AV.nocbL,AV.nocb,AObj.ids,AV.ids,AV.idsL,AObj.ren,AV.renL,AV.ren,AObj.le,AV.leL,AV.le,j4]
    · simp [gaH,qg]
    · simp [gaH,qg]
    · simp [gaH,AObj.ids,AV.ids,AV.idsL,ql,qb,aI]
    · simp [Ui,gaL,vZ,asg,upd]
    · simp [JZ,gaL,AV.ids,AV.idsL]
    · refine ⟨?_,rfl, ?_, ?_,rfl, ?_⟩
      · simp [Qw,gaH,AObj.ids,AV.ids,AV.idsL,ql,qb,aI]
      · simp [Wi,buO,AObj.nocb,AV.nocbL,AV.nocb,AObj.ids,AV.ids,AV.idsL]
      · simp [Vf,buY,qf,AV.nocb,AV.nocbL,AV.ids,AV.idsL]
      · simp [Qp,WV,zl,qy,gaH,gaL,xJ,AV.ids,AV.idsL,ADf.ids,List.range_succ]
    · simp [Qw,gaH,AObj.ids,AV.ids,AV.idsL,ql,qb,aI]
    · have env:Env (fun _:Frm=>True) Try.prog tyB (tab [(108,qU true qN),(111,qU true vX)]):=qP ⟨Uj,ehas,trivial⟩
      have hS:=Vx c hj
      have hTl:=Vl c j (by omega)
      have hTl2:j * gpN c≤9 * 6:=Nat.mul_le_mul (by omega) (by unfold gpN;omega)
      have hbi:=RX hj
      have hbm:(qQ c.cabins).getD j default ∈ qQ c.cabins:=vK hj
      obtain ⟨b,hb⟩:∃ b,(qQ c.cabins).getD j default=b:=⟨_,rfl⟩
      obtain ⟨T,hT⟩:∃ T,gpP c j=T:=⟨_,rfl⟩
      rw [hb,hT] at hS
      rw [hT] at hTl
      rw [hb] at hbi hbm
      have hbed:0≤b.bed∧b.bed < 3:=by
        obtain ⟨i,k,g1,g2,rfl⟩:=Xz.1 hbm
        have:=hbds _ (vK (d:=default) g1)
        simp only;omega
      have hN6:gpN c≤6:=by unfold gpN;omega
      have hNs:(gpN c:Int)=c.secs+1:=by unfold gpN;omega
      have w1:IntKind.wrap .i64 (c.secs+1)=(gpN c:Int):=by rw [hNs];exact wrap64 (by omega) (by omega)
      have hst:jo gaL [17] [2] 4 0 (buY c.cabins j) (gaH c j) [buO c.cabins c.secs]={ t:=asg [(17,qf b),(1,.ptr 0 0),(5,.ptr 1 0)],h:=qg [(4,.mark),(0,.cells (qb c)),(1,.cells [.row 3]),(3,ql T),(2,buO c.cabins c.secs)],n:=5,m:=5 }:=by
        simp only [jo,buY,hb,hT,qf,List.map_cons,List.map_nil,AV.ren,AV.renL,List.zip_cons_cons,List.zip_nil_right,gaH,gaL,Zc,List.cons_append,List.nil_append,RQ]
        rfl
      show Sym _ _ _ (jo gaL [17] [2] 4 0 (buY c.cabins j) (gaH c j) [buO c.cabins c.secs]) _
      rw [hst]
      repeat' (first|(apply nx;with_reducible constructor)|refine uq (by decide) ?_|refine zu ?_|refine zH ?_|refine zG ?_|refine zF ?_|((first|refine vx env fun Q hQ=>?_|refine vz fun Q hQ=>?_);simp only [vkt,seval,zi,wo,qf,aTk,cTk,qh,eTk,rTk,mTk,qc,qa,qb,ql,buO,vZ,gaL,gaS,qK,qN,vX,qR,qZ,qI,zk,qY,qC,qH,List.length_map,w1];(try simp only [ite_and]);(repeat' (first|with_reducible assumption|refine And.intro ?_ ?_|intro hp));all_goals (first|(refine hQ _ ?_;clear hQ Q)|(refine hQ _ (fun h=>?_) (fun h=>?_) <;> clear hQ Q <;> (try simp only [vki,reduceCtorEq] at h))|(refine vq ?_;kernel_rfl)|omega|assumption|with_reducible rfl|skip)))
      refine qX (fun s:{ s:Nat // s≤gpN c }=>gaS c b (T++(gpK c b s.1).2) [(7,aI (gpK c b s.1).1),(21,aI s.1)]) (fun s=>gpN c - s.1) ⟨0,Nat.zero_le _⟩ ?_ fun ⟨s,hs⟩=>?_
      · simp only [gaS,show gpK c b 0=(-1,[]) from rfl,List.append_nil,List.cons_append,List.nil_append]
        (refine Le.ok (fun i=>if i=6 then some 3 else some i) [] ?_;constructor;all_goals (try simp only [vle,vkt,seval,zi,wo,qf,aTk,cTk,qh,eTk,rTk,mTk,qc,qa,qb,ql,buO,vZ,gaL,gaS,qK,qN,vX,qR,qZ,qI,zk,qY,qC,qH,List.length_map]))
        all_goals first|rfl|(simp;done)|(intro i hi;rw [if_neg (by omega)];done)
      simp only at hs ⊢
      have hKS:gpK c b (s+1)=if frB c b s then (if (gpK c b s).1 < 0 then ((s:Int),(gpK c b s).2) else gpK c b s) else (if 0≤(gpK c b s).1 then (-1,(gpK c b s).2++[⟨0,0,b.cab,b.bed,(gpK c b s).1,(s:Int),false⟩]) else gpK c b s):=rfl
      have hKl:=Vr c b s
      obtain ⟨⟨f,G⟩,hG⟩:∃ q,gpK c b s=q:=⟨_,rfl⟩
      rw [hG] at hKS hKl
      simp only at hKS hKl
      have hAl:(T++G).length+1≤maxLen:=by rw [List.length_append];omega
      have hAm:(T++G).length≤200:=by rw [List.length_append];omega
      obtain ⟨M,hM⟩:∃ M,T++G=M:=⟨_,rfl⟩
      rw [hM] at hAl hAm
      have fin:∀ S f' G',gpK c b (s+1)=(f',G')→s < gpN c→Le S (gaS c b (T++G') [(7,aI f'),(21,aI (s+1:Nat))])→∃ y:{ s:Nat // s≤gpN c },(gpN c - y.1 < gpN c - s)∧Le S (gaS c b (T++(gpK c b y.1).2) [(7,aI (gpK c b y.1).1),(21,aI y.1)]):=fun S f' G' h hlt hle=>⟨⟨s+1,hlt⟩,by show gpN c - (s+1) < gpN c - s;omega,by rw [h];exact hle⟩
      simp only [hG,hM,gaS,List.cons_append,List.nil_append]
      by_cases hsl:s < gpN c
      · have d1:decide ((s:Int) < (gpN c:Int))=true:=decide_eq_true (by omega)
        have e9:IntKind.wrap .i64 ((s:Int)+1)=((s+1:Nat):Int):=by rw [wrap64 (by omega) (by omega)];rfl
        obtain ⟨q,hq⟩:∃ q,frB c b s=q:=⟨_,rfl⟩
        rw [hq] at hKS
        repeat' (first|(apply nx;with_reducible constructor)|refine uq (by decide) ?_|refine zu ?_|refine zH ?_|refine zG ?_|refine zF ?_)
        ((first|refine vx env fun Q hQ=>?_|refine vz fun Q hQ=>?_);simp only [vkt,seval,zi,wo,qf,aTk,cTk,qh,eTk,rTk,mTk,qc,qa,qb,ql,buO,vZ,gaL,gaS,qK,qN,vX,qR,qZ,qI,zk,qY,qC,qH,List.length_map,d1];(try simp only [ite_and]);(repeat' (first|with_reducible assumption|refine And.intro ?_ ?_|intro hp));all_goals (first|(refine hQ _ ?_;clear hQ Q)|(refine hQ _ (fun h=>?_) (fun h=>?_) <;> clear hQ Q <;> (try simp only [vki,reduceCtorEq] at h))|(refine vq ?_;kernel_rfl)|omega|assumption|with_reducible rfl|skip))
        repeat' (first|(apply nx;with_reducible constructor)|refine uq (by decide) ?_|refine zu ?_|refine zH ?_|refine zG ?_|refine zF ?_)
        ((first|refine vx env fun Q hQ=>?_|refine vz fun Q hQ=>?_);simp only [vkt,seval,zi,wo,qf,aTk,cTk,qh,eTk,rTk,mTk,qc,qa,qb,ql,buO,vZ,gaL,gaS,qK,qN,vX,qR,qZ,qI,zk,qY,qC,qH,List.length_map];(try simp only [ite_and]);(repeat' (first|with_reducible assumption|refine And.intro ?_ ?_|intro hp));all_goals (first|(refine hQ _ ?_;clear hQ Q)|(refine hQ _ (fun h=>?_) (fun h=>?_) <;> clear hQ Q <;> (try simp only [vki,reduceCtorEq] at h))|(refine vq ?_;kernel_rfl)|omega|assumption|with_reducible rfl|skip))
        repeat' (first|(apply nx;with_reducible constructor)|refine uq (by decide) ?_|refine zu ?_|refine zH ?_|refine zG ?_|refine zF ?_)
        ((first|refine vx env fun Q hQ=>?_|refine vz fun Q hQ=>?_);simp only [vkt,seval,zi,wo,qf,aTk,cTk,qh,eTk,rTk,mTk,qc,qa,qb,ql,buO,vZ,gaL,gaS,qK,qN,vX,qR,qZ,qI,zk,qY,qC,qH,List.length_map];(try simp only [ite_and]);(repeat' (first|with_reducible assumption|refine And.intro ?_ ?_|intro hp));all_goals (first|(refine hQ _ ?_;clear hQ Q)|(refine hQ _ (fun h=>?_) (fun h=>?_) <;> clear hQ Q <;> (try simp only [vki,reduceCtorEq] at h))|(refine vq ?_;kernel_rfl)|omega|assumption|with_reducible rfl|skip))
        repeat' (first|(apply nx;with_reducible constructor)|refine uq (by decide) ?_|refine zu ?_|refine zH ?_|refine zG ?_|refine zF ?_)
        refine Sym.mono (K:=fun e S1=>e=.normal∧Le S1 (gaS c b M [(7,aI f),(8,aI s),(9,aB q),(21,aI s)])) ?_ ?_
        · by_cases hss:(s:Int) < c.secs
          · have d2:decide ((s:Int) < c.secs)=true:=decide_eq_true hss
            have hbits:=ZK hvan (s:Int) c.sold.length (Nat.le_refl _)
            have hPl:=vO c.sold (s:Int) c.sold.length (Nat.le_refl _)
            rw [List.take_length] at hbits
            obtain ⟨P,hP⟩:∃ P,jr c.sold (s:Int) c.sold.length=P:=⟨_,rfl⟩
            rw [hP] at hbits hPl
            obtain ⟨x,y,z,rfl⟩:∃ x y z,P=[x,y,z]:=by
              match P,hPl with
              |[x,y,z],_=>exact ⟨x,y,z,rfl⟩
            obtain ⟨⟨x1,x2⟩,x3⟩:=hbits 0 (by omega)
            obtain ⟨⟨y1,y2⟩,y3⟩:=hbits 1 (by omega)
            obtain ⟨⟨z1,z2⟩,z3⟩:=hbits 2 (by omega)
            have x3:=x3 b.bed hbed
            have y3:=y3 b.bed hbed
            have z3:=z3 b.bed hbed
            have hfr:frB c b s=!wD c.sold b s:=by unfold frB;rw [d2,Bool.true_and]
            rw [hq] at hfr
            obtain ⟨b1,b2⟩:=hbed
            obtain ⟨cab,bed⟩:=b
            simp only at *
            have hc3:cab=0∨cab=1∨cab=2:=by omega
            rcases hc3 with rfl|rfl|rfl
            · have hx:Js x bed=!q:=by rw [hfr,Bool.not_not];exact x3
              ((first|refine vx env fun Q hQ=>?_|refine vz fun Q hQ=>?_);simp only [vkt,seval,zi,wo,qf,aTk,cTk,qh,eTk,rTk,mTk,qc,qa,qb,ql,buO,vZ,gaL,gaS,qK,qN,vX,qR,qZ,qI,zk,qY,qC,qH,List.length_map,ec,d2,hP,hvan,List.map_cons,List.map_nil,x1,x2,b1,b2,hx,Bool.not_not];(try simp only [ite_and]);(repeat' (first|with_reducible assumption|refine And.intro ?_ ?_|intro hp));all_goals (first|(refine hQ _ ?_;clear hQ Q)|(refine hQ _ (fun h=>?_) (fun h=>?_) <;> clear hQ Q <;> (try simp only [vki,reduceCtorEq] at h))|(refine vq ?_;kernel_rfl)|omega|assumption|with_reducible rfl|skip))
              refine ⟨rfl, ?_⟩
              simp only [gaS,List.cons_append,List.nil_append]
              (refine Le.ok some [] ?_;constructor;all_goals (try simp only [vle,vkt,seval,zi,wo,qf,aTk,cTk,qh,eTk,rTk,mTk,qc,qa,qb,ql,buO,vZ,gaL,gaS,qK,qN,vX,qR,qZ,qI,zk,qY,qC,qH,List.length_map]))
              all_goals first|rfl|(simp;done)
            · have hx:Js y bed=!q:=by rw [hfr,Bool.not_not];exact y3
              ((first|refine vx env fun Q hQ=>?_|refine vz fun Q hQ=>?_);simp only [vkt,seval,zi,wo,qf,aTk,cTk,qh,eTk,rTk,mTk,qc,qa,qb,ql,buO,vZ,gaL,gaS,qK,qN,vX,qR,qZ,qI,zk,qY,qC,qH,List.length_map,ec,d2,hP,hvan,List.map_cons,List.map_nil,y1,y2,b1,b2,hx,Bool.not_not];(try simp only [ite_and]);(repeat' (first|with_reducible assumption|refine And.intro ?_ ?_|intro hp));all_goals (first|(refine hQ _ ?_;clear hQ Q)|(refine hQ _ (fun h=>?_) (fun h=>?_) <;> clear hQ Q <;> (try simp only [vki,reduceCtorEq] at h))|(refine vq ?_;kernel_rfl)|omega|assumption|with_reducible rfl|skip))
              refine ⟨rfl, ?_⟩
              simp only [gaS,List.cons_append,List.nil_append]
              (refine Le.ok some [] ?_;constructor;all_goals (try simp only [vle,vkt,seval,zi,wo,qf,aTk,cTk,qh,eTk,rTk,mTk,qc,qa,qb,ql,buO,vZ,gaL,gaS,qK,qN,vX,qR,qZ,qI,zk,qY,qC,qH,List.length_map]))
              all_goals first|rfl|(simp;done)
            · have hx:Js z bed=!q:=by rw [hfr,Bool.not_not];exact z3
              ((first|refine vx env fun Q hQ=>?_|refine vz fun Q hQ=>?_);simp only [vkt,seval,zi,wo,qf,aTk,cTk,qh,eTk,rTk,mTk,qc,qa,qb,ql,buO,vZ,gaL,gaS,qK,qN,vX,qR,qZ,qI,zk,qY,qC,qH,List.length_map,ec,d2,hP,hvan,List.map_cons,List.map_nil,z1,z2,b1,b2,hx,Bool.not_not];(try simp only [ite_and]);(repeat' (first|with_reducible assumption|refine And.intro ?_ ?_|intro hp));all_goals (first|(refine hQ _ ?_;clear hQ Q)|(refine hQ _ (fun h=>?_) (fun h=>?_) <;> clear hQ Q <;> (try simp only [vki,reduceCtorEq] at h))|(refine vq ?_;kernel_rfl)|omega|assumption|with_reducible rfl|skip))
              refine ⟨rfl, ?_⟩
              simp only [gaS,List.cons_append,List.nil_append]
              (refine Le.ok some [] ?_;constructor;all_goals (try simp only [vle,vkt,seval,zi,wo,qf,aTk,cTk,qh,eTk,rTk,mTk,qc,qa,qb,ql,buO,vZ,gaL,gaS,qK,qN,vX,qR,qZ,qI,zk,qY,qC,qH,List.length_map]))
              all_goals first|rfl|(simp;done)
          · have d2:decide ((s:Int) < c.secs)=false:=decide_eq_false hss
            have hq0:q=false:=by rw [← hq];unfold frB;rw [d2];rfl
            ((first|refine vx env fun Q hQ=>?_|refine vz fun Q hQ=>?_);simp only [vkt,seval,zi,wo,qf,aTk,cTk,qh,eTk,rTk,mTk,qc,qa,qb,ql,buO,vZ,gaL,gaS,qK,qN,vX,qR,qZ,qI,zk,qY,qC,qH,List.length_map,d2];(try simp only [ite_and]);(repeat' (first|with_reducible assumption|refine And.intro ?_ ?_|intro hp));all_goals (first|(refine hQ _ ?_;clear hQ Q)|(refine hQ _ (fun h=>?_) (fun h=>?_) <;> clear hQ Q <;> (try simp only [vki,reduceCtorEq] at h))|(refine vq ?_;kernel_rfl)|omega|assumption|with_reducible rfl|skip))
            refine ⟨rfl, ?_⟩
            simp only [gaS,hq0,List.cons_append,List.nil_append]
            (refine Le.ok some [] ?_;constructor;all_goals (try simp only [vle,vkt,seval,zi,wo,qf,aTk,cTk,qh,eTk,rTk,mTk,qc,qa,qb,ql,buO,vZ,gaL,gaS,qK,qN,vX,qR,qZ,qI,zk,qY,qC,qH,List.length_map]))
            all_goals first|rfl|(simp;done)
        rintro e S1 ⟨rfl,hle⟩
        refine (xy hle ?_:Sym _ _ _ S1 _)
        clear hle S1
        simp only [gaS,List.cons_append,List.nil_append]
        by_cases hf:f < 0
        · have d3:decide (f < 0)=true:=decide_eq_true hf
          have d4:decide (0≤f)=false:=decide_eq_false (by omega)
          cases q with
          |true =>
            rw [if_pos rfl,if_pos hf] at hKS
            repeat' (first|(apply nx;with_reducible constructor)|refine uq (by decide) ?_|refine zu ?_|refine zH ?_|refine zG ?_|refine zF ?_|((first|refine vx env fun Q hQ=>?_|refine vz fun Q hQ=>?_);simp only [vkt,seval,zi,wo,qf,aTk,cTk,qh,eTk,rTk,mTk,qc,qa,qb,ql,buO,vZ,gaL,gaS,qK,qN,vX,qR,qZ,qI,zk,qY,qC,qH,List.length_map,d3,e9];(try simp only [ite_and]);(repeat' (first|with_reducible assumption|refine And.intro ?_ ?_|intro hp));all_goals (first|(refine hQ _ ?_;clear hQ Q)|(refine hQ _ (fun h=>?_) (fun h=>?_) <;> clear hQ Q <;> (try simp only [vki,reduceCtorEq] at h))|(refine vq ?_;kernel_rfl)|omega|assumption|with_reducible rfl|skip)))
            refine fin _ _ _ hKS hsl ?_
            simp only [gaS,hM,List.cons_append,List.nil_append]
            (refine Le.ok some [] ?_;constructor;all_goals (try simp only [vle,vkt,seval,zi,wo,qf,aTk,cTk,qh,eTk,rTk,mTk,qc,qa,qb,ql,buO,vZ,gaL,gaS,qK,qN,vX,qR,qZ,qI,zk,qY,qC,qH,List.length_map]))
            all_goals first|rfl|(simp;done)
          |false =>
            rw [if_neg (by decide),if_neg (by omega)] at hKS
            repeat' (first|(apply nx;with_reducible constructor)|refine uq (by decide) ?_|refine zu ?_|refine zH ?_|refine zG ?_|refine zF ?_|((first|refine vx env fun Q hQ=>?_|refine vz fun Q hQ=>?_);simp only [vkt,seval,zi,wo,qf,aTk,cTk,qh,eTk,rTk,mTk,qc,qa,qb,ql,buO,vZ,gaL,gaS,qK,qN,vX,qR,qZ,qI,zk,qY,qC,qH,List.length_map,d3,d4,e9];(try simp only [ite_and]);(repeat' (first|with_reducible assumption|refine And.intro ?_ ?_|intro hp));all_goals (first|(refine hQ _ ?_;clear hQ Q)|(refine hQ _ (fun h=>?_) (fun h=>?_) <;> clear hQ Q <;> (try simp only [vki,reduceCtorEq] at h))|(refine vq ?_;kernel_rfl)|omega|assumption|with_reducible rfl|skip)))
            refine fin _ _ _ hKS hsl ?_
            simp only [gaS,hM,List.cons_append,List.nil_append]
            (refine Le.ok some [] ?_;constructor;all_goals (try simp only [vle,vkt,seval,zi,wo,qf,aTk,cTk,qh,eTk,rTk,mTk,qc,qa,qb,ql,buO,vZ,gaL,gaS,qK,qN,vX,qR,qZ,qI,zk,qY,qC,qH,List.length_map]))
            all_goals first|rfl|(simp;done)
        · have d3:decide (f < 0)=false:=decide_eq_false hf
          have d4:decide (0≤f)=true:=decide_eq_true (by omega)
          cases q with
          |true =>
            rw [if_pos rfl,if_neg hf] at hKS
            repeat' (first|(apply nx;with_reducible constructor)|refine uq (by decide) ?_|refine zu ?_|refine zH ?_|refine zG ?_|refine zF ?_|((first|refine vx env fun Q hQ=>?_|refine vz fun Q hQ=>?_);simp only [vkt,seval,zi,wo,qf,aTk,cTk,qh,eTk,rTk,mTk,qc,qa,qb,ql,buO,vZ,gaL,gaS,qK,qN,vX,qR,qZ,qI,zk,qY,qC,qH,List.length_map,d3,d4,e9];(try simp only [ite_and]);(repeat' (first|with_reducible assumption|refine And.intro ?_ ?_|intro hp));all_goals (first|(refine hQ _ ?_;clear hQ Q)|(refine hQ _ (fun h=>?_) (fun h=>?_) <;> clear hQ Q <;> (try simp only [vki,reduceCtorEq] at h))|(refine vq ?_;kernel_rfl)|omega|assumption|with_reducible rfl|skip)))
            refine fin _ _ _ hKS hsl ?_
            simp only [gaS,hM,List.cons_append,List.nil_append]
            (refine Le.ok some [] ?_;constructor;all_goals (try simp only [vle,vkt,seval,zi,wo,qf,aTk,cTk,qh,eTk,rTk,mTk,qc,qa,qb,ql,buO,vZ,gaL,gaS,qK,qN,vX,qR,qZ,qI,zk,qY,qC,qH,List.length_map]))
            all_goals first|rfl|(simp;done)
          |false =>
            rw [if_neg (by decide),if_pos (by omega)] at hKS
            have hMS:T++(G++[(⟨0,0,b.cab,b.bed,f,(s:Int),false⟩:Tk)])=M++[⟨0,0,b.cab,b.bed,f,(s:Int),false⟩]:=by rw [← List.append_assoc,hM]
            repeat' (first|(apply nx;with_reducible constructor)|refine uq (by decide) ?_|refine zu ?_|refine zH ?_|refine zG ?_|refine zF ?_|((first|refine vx env fun Q hQ=>?_|refine vz fun Q hQ=>?_);simp only [vkt,seval,zi,wo,qf,aTk,cTk,qh,eTk,rTk,mTk,qc,qa,qb,ql,buO,vZ,gaL,gaS,qK,qN,vX,qR,qZ,qI,zk,qY,qC,qH,List.length_map,d3,d4,e9,hAl];(try simp only [ite_and]);(repeat' (first|with_reducible assumption|refine And.intro ?_ ?_|intro hp));all_goals (first|(refine hQ _ ?_;clear hQ Q)|(refine hQ _ (fun h=>?_) (fun h=>?_) <;> clear hQ Q <;> (try simp only [vki,reduceCtorEq] at h))|(refine vq ?_;kernel_rfl)|omega|assumption|with_reducible rfl|skip)))
            refine fin _ _ _ hKS hsl ?_
            simp only [gaS,hMS,List.cons_append,List.nil_append]
            (refine Le.ok (fun i=>if i=6 then some 8 else some i) [] ?_;constructor;all_goals (try simp only [vle,vkt,seval,zi,wo,qf,aTk,cTk,qh,eTk,rTk,mTk,qc,qa,qb,ql,buO,vZ,gaL,gaS,qK,qN,vX,qR,qZ,qI,zk,qY,qC,qH,List.length_map]))
            all_goals first|rfl|(rw [List.map_append];rfl)|(simp;done)|(intro i hi;rw [if_neg (by omega)];done)
      · have d1:decide ((s:Int) < (gpN c:Int))=false:=decide_eq_false (by omega)
        obtain rfl:s=gpN c:=by omega
        have hS:gpP c (j+1)=M:=by rw [hS,hG];exact hM
        repeat' (first|(apply nx;with_reducible constructor)|refine uq (by decide) ?_|refine zu ?_|refine zH ?_|refine zG ?_|refine zF ?_|((first|refine vx env fun Q hQ=>?_|refine vz fun Q hQ=>?_);simp only [vkt,seval,zi,wo,qf,aTk,cTk,qh,eTk,rTk,mTk,qc,qa,qb,ql,buO,vZ,gaL,gaS,qK,qN,vX,qR,qZ,qI,zk,qY,qC,qH,List.length_map,d1];(try simp only [ite_and]);(repeat' (first|with_reducible assumption|refine And.intro ?_ ?_|intro hp));all_goals (first|(refine hQ _ ?_;clear hQ Q)|(refine hQ _ (fun h=>?_) (fun h=>?_) <;> clear hQ Q <;> (try simp only [vki,reduceCtorEq] at h))|(refine vq ?_;kernel_rfl)|omega|assumption|with_reducible rfl|skip)))
        refine ⟨rfl,rfl,(fun i=>if i=3 then some 6 else some i),_,RFin.okQ (fun i=>if i=3 then some 6 else some i) [] ?_⟩
        constructor
        all_goals (try simp only [vle,xH,xe,qy,hS,vkt,seval,zi,wo,qf,aTk,cTk,qh,eTk,rTk,mTk,qc,qa,qb,ql,buO,vZ,gaL,gaS,qK,qN,vX,qR,qZ,qI,zk,qY,qC,qH,List.length_map])
        all_goals first|rfl|(simp;done)|(simp [gaL,xJ,AV.ids,ADf.ids,List.range_succ];done)
    · have eh:qg ((4,AObj.mark) :: gaH c (qQ c.cabins).length++zl [2] (4+1) 0 [buO c.cabins c.secs])=qg [(4,.mark),(0,.cells (qb c)),(1,.cells [.row 3]),(3,ql (LZ c)),(2,buO c.cabins c.secs)]:=by
        rw [show zl [2] (4+1) 0 [buO c.cabins c.secs]=zl [2] 5 0 [buO c.cabins c.secs] from rfl,RQ];rfl
      rw [eh]
      simp only [gaL]
      repeat' (first|(apply nx;with_reducible constructor)|refine uq (by decide) ?_|refine zu ?_|refine zH ?_|refine zG ?_|refine zF ?_|((first|refine vx env fun Q hQ=>?_|refine vz fun Q hQ=>?_);simp only [vkt,seval,zi,wo,qf,aTk,cTk,qh,eTk,rTk,mTk,qc,qa,qb,ql,buO,vZ,gaL,gaS,qK,qN,vX,qR,qZ,qI,zk,qY,qC,qH,List.length_map];(try simp only [ite_and]);(repeat' (first|with_reducible assumption|refine And.intro ?_ ?_|intro hp));all_goals (first|(refine hQ _ ?_;clear hQ Q)|(refine hQ _ (fun h=>?_) (fun h=>?_) <;> clear hQ Q <;> (try simp only [vki,reduceCtorEq] at h))|(refine vq ?_;kernel_rfl)|omega|assumption|with_reducible rfl|skip)))
      (simp only [vrt,Try.results60,vkt,seval,zi,wo,qf,aTk,cTk,qh,eTk,rTk,mTk,qc,qa,qb,ql,buO,vZ,gaL,gaS,qK,qN,vX,qR,qZ,qI,zk,qY,qC,qH,List.length_map];refine Fin.val rfl ?_;(try simp only [AV.le,AV.leL]))
      all_goals first|rfl|(simp;done)|exact ⟨⟨_,_,rfl⟩,trivial,trivial⟩
  · have hE:xR c=([],e):=by unfold xR;rw [if_neg (by rw [he];exact h0),he]
    rw [hE]
    have d0:decide (e=0)=false:=decide_eq_false h0
    repeat' (first|(apply nx;with_reducible constructor)|refine uq (by decide) ?_|refine zu ?_|refine zH ?_|refine zG ?_|refine zF ?_|((first|refine vx env fun Q hQ=>?_|refine vz fun Q hQ=>?_);simp only [vkt,seval,zi,wo,qf,aTk,cTk,qh,eTk,rTk,mTk,qc,qa,qb,ql,buO,vZ,gaL,gaS,qK,qN,vX,qR,qZ,qI,zk,qY,qC,qH,List.length_map,ec,he,d0];(try simp only [ite_and]);(repeat' (first|with_reducible assumption|refine And.intro ?_ ?_|intro hp));all_goals (first|(refine hQ _ ?_;clear hQ Q)|(refine hQ _ (fun h=>?_) (fun h=>?_) <;> clear hQ Q <;> (try simp only [vki,reduceCtorEq] at h))|(refine vq ?_;kernel_rfl)|omega|assumption|with_reducible rfl|skip)))
    (simp only [vrt,Try.results60,vkt,seval,zi,wo,qf,aTk,cTk,qh,eTk,rTk,mTk,qc,qa,qb,ql,buO,vZ,gaL,gaS,qK,qN,vX,qR,qZ,qI,zk,qY,qC,qH,List.length_map];refine Fin.val rfl ?_;(try simp only [AV.le,AV.leL]))
    all_goals first|rfl|(simp;done)
end Go.Sym.B
namespace Go.Sym.B
open Go Go.Sym Go.Proofs Go.Sym.C
end Go.Sym.B
namespace Go.Sym.B
open Go Go.Sym Go.Proofs Go.Sym.C
def hlN (c:Chart) (s:Int) (l:List Bunk):Nat:=(l.filter fun b=>wD c.sold b s).length
theorem Qb5 (c:Chart) (s:Int) (l r:List Bunk):hlN c s (l++r)=hlN c s l+hlN c s r:=by
  unfold hlN
  rw [List.filter_append,List.length_append]
def one (b:Bool):Nat:=if b then 1 else 0
theorem Qg3 (c:Chart) (s:Int) (b:Bunk):hlN c s [b]=one (wD c.sold b s):=by
  unfold hlN one
  cases h:wD c.sold b s <;> simp [h]
theorem Vj {c:Chart} (hv:Val c) {i:Nat} {n:Nat} {s:Int} (h:(c.cabins.getD i default).beds≤(n:Int)∨c.cabins.length≤i):wD c.sold ⟨(i:Int),(n:Int)⟩ s=false:=by
  cases hq:wD c.sold ⟨(i:Int),(n:Int)⟩ s with
  |false=>rfl
  |true =>
    exfalso
    obtain ⟨t,ht,ho⟩:=List.any_eq_true.1 hq
    unfold onB at ho
    simp only [Bool.and_eq_true,decide_eq_true_eq] at ho
    obtain ⟨⟨h1,h2⟩,_⟩:=ho
    have hk:=hv.tk t ht
    have hc:=hk.cab
    have hb:=hk.bed
    rw [h1] at hc hb
    simp only [Int.toNat_natCast] at hc hb
    rcases h with h|h
    · omega
    · omega
theorem QgN {c:Chart} (hv:Val c) (i:Nat) (s:Int):hlN c s (bkF i (c.cabins.getD i default).beds.toNat)=one (wD c.sold ⟨(i:Int),0⟩ s)+one (wD c.sold ⟨(i:Int),1⟩ s)+one (wD c.sold ⟨(i:Int),2⟩ s):=by
  have hF:∀ k,hlN c s (bkF i (k+1))=hlN c s (bkF i k)+one (wD c.sold ⟨(i:Int),(k:Int)⟩ s):=fun k=>by rw [Uw,Qb5,Qg3]
  have h0:hlN c s (bkF i 0)=0:=rfl
  have hz:∀ n:Nat,(c.cabins.getD i default).beds≤(n:Int)→one (wD c.sold ⟨(i:Int),(n:Int)⟩ s)=0:=fun n hn=>by rw [Vj hv (.inl hn)];rfl
  have hle:(c.cabins.getD i default).beds≤3:=by
    by_cases hi:i < c.cabins.length
    · exact (hv.car.beds _ (vK hi)).2
    · rw [List.getD_eq_getElem?_getD,List.getElem?_eq_none (by omega)]
      decide
  have z0:=hz 0
  have z1:=hz 1
  have z2:=hz 2
  have f0:=hF 0
  have f1:=hF 1
  have f2:=hF 2
  simp only [Nat.zero_add,Nat.reduceAdd] at f0 f1 f2
  obtain ⟨B,hB⟩:∃ B,(c.cabins.getD i default).beds=B:=⟨_,rfl⟩
  rw [hB] at hle z0 z1 z2 ⊢
  have e0:(((0:Nat):Int))=0:=rfl
  have e1:(((1:Nat):Int))=1:=rfl
  have e2:(((2:Nat):Int))=2:=rfl
  rw [e0] at z0 f0
  rw [e1] at z1 f1
  rw [e2] at z2 f2
  have hc:B.toNat=0∨B.toNat=1∨B.toNat=2∨B.toNat=3:=by omega
  rcases hc with h|h|h|h
  · rw [h,h0,z0 (by omega),z1 (by omega),z2 (by omega)]
  · rw [h,f0,h0,z1 (by omega),z2 (by omega)];omega
  · rw [h,f1,f0,h0,z2 (by omega)];omega
  · rw [h,f2,f1,f0,h0];omega
theorem Qdv {c:Chart} (hv:Val c) (s:Int):VY c s=(hlN c s (qQ c.cabins):Int):=by
  have hP:∀ j,hlN c s (bkP c.cabins (j+1))=hlN c s (bkP c.cabins j)+(one (wD c.sold ⟨(j:Int),0⟩ s)+one (wD c.sold ⟨(j:Int),1⟩ s)+one (wD c.sold ⟨(j:Int),2⟩ s)):=fun j=>by rw [V9,Qb5,QgN hv]
  have p0:hlN c s (bkP c.cabins 0)=0:=rfl
  have hz:∀ i:Nat,c.cabins.length≤i→one (wD c.sold ⟨(i:Int),0⟩ s)=0∧one (wD c.sold ⟨(i:Int),1⟩ s)=0∧one (wD c.sold ⟨(i:Int),2⟩ s)=0:=fun i hi=>by
    have g0:=Vj hv (n:=0) (s:=s) (.inr hi)
    have g1:=Vj hv (n:=1) (s:=s) (.inr hi)
    have g2:=Vj hv (n:=2) (s:=s) (.inr hi)
    refine ⟨?_, ?_, ?_⟩
    · rw [show (0:Int)=((0:Nat):Int) from rfl,g0];rfl
    · rw [show (1:Int)=((1:Nat):Int) from rfl,g1];rfl
    · rw [show (2:Int)=((2:Nat):Int) from rfl,g2];rfl
  have hbits:=ZK hv.van s c.sold.length (Nat.le_refl _)
  rw [List.take_length] at hbits
  have row:∀ i:Nat,i < 3→yu ((jr c.sold s c.sold.length).getD i 0)=((one (wD c.sold ⟨(i:Int),0⟩ s)+one (wD c.sold ⟨(i:Int),1⟩ s)+one (wD c.sold ⟨(i:Int),2⟩ s):Nat):Int):=fun i hi=>by
    obtain ⟨h1,h2⟩:=hbits i hi
    rw [Qgp h1,h2 0 (by omega),h2 1 (by omega),h2 2 (by omega)]
    unfold one
    cases wD c.sold ⟨(i:Int),0⟩ s <;> cases wD c.sold ⟨(i:Int),1⟩ s <;> cases wD c.sold ⟨(i:Int),2⟩ s <;> rfl
  have r0:=row 0 (by omega)
  have r1:=row 1 (by omega)
  have r2:=row 2 (by omega)
  have hL:VY c s=yu ((jr c.sold s c.sold.length).getD 0 0)+yu ((jr c.sold s c.sold.length).getD 1 0)+yu ((jr c.sold s c.sold.length).getD 2 0):=rfl
  rw [hL,r0,r1,r2,show qQ c.cabins=bkP c.cabins c.cabins.length from rfl]
  have q0:=hP 0
  have q1:=hP 1
  have q2:=hP 2
  have z1:=hz 1
  have z2:=hz 2
  simp only [Nat.zero_add,Nat.reduceAdd] at q0 q1 q2
  have hl:=hv.car.cabs
  have hc:c.cabins.length=1∨c.cabins.length=2∨c.cabins.length=3:=by omega
  rcases hc with h|h|h
  · obtain ⟨a1,a2,a3⟩:=z1 (by omega)
    obtain ⟨b1,b2,b3⟩:=z2 (by omega)
    rw [h,q0,p0,a1,a2,a3,b1,b2,b3];omega
  · obtain ⟨b1,b2,b3⟩:=z2 (by omega)
    rw [h,q1,q0,p0,b1,b2,b3];omega
  · rw [h,q2,q1,q0,p0];omega
end Go.Sym.B
namespace Go.Sym.B
open Go Go.Sym Go.Proofs Go.Sym.C
def Zn (p:Nat→Bool) (n:Nat):Nat:=((List.range n).filter p).length
theorem YI (p:Nat→Bool) (n:Nat):Zn p (n+1)=Zn p n+if p n then 1 else 0:=by
  unfold Zn
  rw [List.range_succ,List.filter_append,List.length_append]
  cases h:p n <;> simp [h]
theorem Qcz (p:Nat→Bool) (n:Nat):Zn p n≤n:=by
  unfold Zn;exact Nat.le_trans (List.length_filter_le _ _) (by simp)
def Qy (f:Nat→Nat):Nat→Nat
  |0=>0
  |k+1=>Qy f k+f k
theorem Qb3 {f:Nat→Nat} {m:Nat} (h:∀ i,f i≤m):∀ n,Qy f n≤n * m
  |0=>by simp [Qy]
  |n+1=>by
    have:=Qb3 h n
    have:=h n
    rw [Qy,Nat.succ_mul];omega
theorem Lj (f g:Nat→Nat):∀ n,Qy (fun i=>f i+g i) n=Qy f n+Qy g n
  |0=>rfl
  |n+1=>by rw [Qy,Qy,Qy,Lj f g n];omega
theorem Vs (p:Nat→Bool):∀ n,Qy (fun i=>if p i then 1 else 0) n=Zn p n
  |0=>rfl
  |n+1=>by rw [Qy,Vs p n,YI]
theorem JB {f g:Nat→Nat}:∀ n,(∀ i,i < n→f i=g i)→Qy f n=Qy g n
  |0,_=>rfl
  |n+1,h=>by rw [Qy,Qy,JB n fun i hi=>h i (by omega),h n (by omega)]
theorem QaD {p q:Nat→Bool} (n:Nat) (h:∀ i,i < n→p i=q i):Zn p n=Zn q n:=by
  rw [← Vs,← Vs]
  exact JB n fun i hi=>by rw [h i hi]
theorem Qak (p:Nat→Nat→Bool) (m:Nat):∀ n,Qy (fun i=>Zn (fun s=>p i s) m) n=Qy (fun s=>Zn (fun i=>p i s) n) m
  |0=>by
    have:∀ m,Qy (fun s=>Zn (fun i=>p i s) 0) m=0:=fun m=>by
      induction m with
      |zero=>rfl
      |succ m ih=>rw [Qy,ih];rfl
    rw [this];rfl
  |n+1=>by
    rw [Qy,Qak p m n]
    have:(fun s=>Zn (fun i=>p i s) (n+1))=fun s=>Zn (fun i=>p i s) n+if p n s then 1 else 0:=funext fun s=>YI _ _
    rw [this,Lj,Vs]
def emR (c:Chart) (i s:Nat):Bool:=emH c s i (c.cabins.getD i default).beds.toNat
def rrN (c:Chart) (i:Nat):Nat:=Qy (fun i=>Zn (fun s=>emR c i s) c.secs.toNat) i
theorem Uu (sold:List Tk) (n:Nat):∀ k,QcM sold n k=Qy (fun s=>Zn (fun i=>QJ sold s i) n) k
  |0=>rfl
  |k+1=>by rw [QcM,Qy,Uu sold n k];rfl
theorem Qg2 {c:Chart} (hv:Van c) {k:Nat} (s:Int):emH c s k (c.cabins.getD k default).beds.toNat=QJ c.sold s k:=by
  rw [Bool.eq_iff_iff]
  unfold emH QJ
  rw [List.all_eq_true,List.all_eq_true]
  constructor
  · intro h t ht
    cases hq:(atB s t && decide (t.cab=(k:Int))) with
    |false=>rfl
    |true =>
      rw [Bool.and_eq_true,decide_eq_true_eq] at hq
      obtain ⟨h1,h2⟩:=hq
      have hk:=hv.tk t ht
      have hb:=hk.bed
      rw [h2] at hb
      have hb:0≤t.bed∧t.bed < (c.cabins.getD k default).beds:=hb
      have:=h t.bed.toNat (List.mem_range.2 (by omega))
      rw [Int.toNat_of_nonneg hb.1] at this
      have hh:wD c.sold ⟨k,t.bed⟩ s=true:=List.any_eq_true.2 ⟨t,ht,by unfold onB;rw [Qfu,h1,decide_eq_true h2,decide_eq_true rfl];rfl⟩
      rw [hh] at this
      exact absurd this (by decide)
  · intro h j hj
    cases hq:wD c.sold ⟨(k:Int),(j:Int)⟩ s with
    |false=>rfl
    |true =>
      obtain ⟨t,ht,h1⟩:=List.any_eq_true.1 hq
      unfold onB at h1
      rw [Qfu,Bool.and_eq_true,Bool.and_eq_true,decide_eq_true_eq] at h1
      have:=h t ht
      rw [h1.2,decide_eq_true h1.1.1] at this
      exact absurd this (by decide)
theorem QgZ {c:Chart} (hv:Van c):(rrN c c.cabins.length:Int)=ky c.cabins c.secs c.sold:=by
  unfold rrN
  rw [QfE,Uu,Qak]
  refine congrArg _ (JB _ fun s _=>QaD _ fun i _=>?_)
  unfold emR
  rw [Qg2 hv]
theorem rr_bd {c:Chart} (hv:Van c) (i:Nat) (hi:i≤3):rrN c i≤15:=by
  have h1:=Qb3 (f:=fun i=>Zn (fun s=>emR c i s) c.secs.toNat) (m:=5) (fun i=>Nat.le_trans (Qcz _ _) (by have:=hv.car.secs;omega)) i
  unfold rrN
  omega
def rgK (c:Chart) (b:Bunk):Nat→Int × List Tk
  |0=>(0,[])
  |s+1=>if frB c b s then rgK c b s else ((s:Int)+1,if (rgK c b s).1 < (s:Int) then (rgK c b s).2++[⟨0,0,b.cab,b.bed,(rgK c b s).1,(s:Int),false⟩] else (rgK c b s).2)
theorem Qfy (c:Chart) (b:Bunk):∀ k:Nat,(gpK c b k).2=(rgK c b k).2∧(((gpK c b k).1 < 0∧(rgK c b k).1=k)∨(0≤(gpK c b k).1∧(gpK c b k).1=(rgK c b k).1∧(rgK c b k).1 < k))
  |0=>⟨rfl,.inl ⟨by show (-1:Int) < 0;decide,rfl⟩⟩
  |k+1=>by
    obtain ⟨h1,h2⟩:=Qfy c b k
    have hG:gpK c b (k+1)=if frB c b k then (if (gpK c b k).1 < 0 then ((k:Int),(gpK c b k).2) else gpK c b k) else (if 0≤(gpK c b k).1 then (-1,(gpK c b k).2++[⟨0,0,b.cab,b.bed,(gpK c b k).1,(k:Int),false⟩]) else gpK c b k):=rfl
    have hR:rgK c b (k+1)=if frB c b k then rgK c b k else ((k:Int)+1,if (rgK c b k).1 < (k:Int) then (rgK c b k).2++[⟨0,0,b.cab,b.bed,(rgK c b k).1,(k:Int),false⟩] else (rgK c b k).2):=rfl
    obtain ⟨⟨f,G⟩,hg⟩:∃ q,gpK c b k=q:=⟨_,rfl⟩
    obtain ⟨⟨r,L⟩,hr⟩:∃ q,rgK c b k=q:=⟨_,rfl⟩
    rw [hg] at hG h1 h2
    rw [hr] at hR h1 h2
    simp only at h1 h2 hG hR
    subst h1
    rw [hG,hR]
    cases hq:frB c b k with
    |true =>
      simp only [if_true]
      rcases h2 with ⟨h3,h4⟩|⟨h3,h4,h5⟩
      · rw [if_pos h3]
        exact ⟨rfl,.inr ⟨by first|omega|(simp only;omega),by first|omega|(simp only;omega),by first|omega|(simp only;omega)⟩⟩
      · rw [if_neg (by omega)]
        exact ⟨rfl,.inr ⟨h3,h4,by first|omega|(simp only;omega)⟩⟩
    |false =>
      simp only [Bool.false_eq_true,if_false]
      rcases h2 with ⟨h3,h4⟩|⟨h3,h4,h5⟩
      · rw [if_neg (by omega),if_neg (by omega)]
        exact ⟨rfl,.inl ⟨h3,by first|omega|(simp only;omega)⟩⟩
      · rw [if_pos h3,if_pos (by omega),h4]
        exact ⟨rfl,.inl ⟨by show (-1:Int) < 0;decide,by first|omega|(simp only;omega)⟩⟩
theorem rg_bd (c:Chart) (b:Bunk) (k:Nat):0≤(rgK c b k).1∧(rgK c b k).1≤k:=by
  rcases (Qfy c b k).2 with ⟨h3,h4⟩|⟨h3,h4,h5⟩ <;> omega
theorem QeP (c:Chart) (b:Bunk) (k:Nat):(rgK c b k).2=(gpK c b k).2:=((Qfy c b k).1).symm
end Go.Sym.B
namespace Go.Sym.B
open Go Go.Sym Go.Proofs Go.Sym.C
def Wj (c:Chart) (s:Nat):List Int:=(List.range c.secs.toNat).map fun (j:Nat)=>if j < s then (hlN c j (qQ c.cabins):Int) else 0
theorem VX (c:Chart) (s:Nat):(Wj c s).length=c.secs.toNat:=by simp [Wj]
theorem Qfq {c:Chart} {s j:Nat} (h:j < c.secs.toNat):(Wj c s).getD j 0=if j < s then (hlN c j (qQ c.cabins):Int) else 0:=by
  unfold Wj;exact Qbf h
theorem Qfh {l:List Int} {k:Nat} {n:Int} (hk:k < l.length) (h:l.getD k 0=n):l.set k n=l:=by
  apply List.ext_getElem (by simp)
  intro i h1 h2
  rw [List.getElem_set]
  split
  · rename_i h3
    subst h3
    rw [← h]
    simp [List.getD_eq_getElem?_getD,h2]
  · rfl
theorem QcP {c:Chart} {s:Nat} (h:s < c.secs.toNat):(Wj c s).set s (hlN c s (qQ c.cabins):Int)=Wj c (s+1):=by
  apply List.ext_getElem (by simp [Wj])
  intro i h1 h2
  rw [List.getElem_set]
  have h2':i < c.secs.toNat:=by rw [VX] at h2;exact h2
  have e:∀ s,(h:i < (Wj c s).length)→(Wj c s)[i]=if i < s then (hlN c i (qQ c.cabins):Int) else 0:=fun s h=>by simp [Wj]
  split
  · rename_i h3
    subst h3
    rw [e,if_pos (by omega)]
  · rename_i h3
    rw [e,e]
    by_cases h4:i < s
    · rw [if_pos h4,if_pos (by omega)]
    · rw [if_neg h4,if_neg (by omega)]
theorem Qgb {c:Chart} (hv:Val c):Wj c c.secs.toNat=ldK c c.secs.toNat:=by
  unfold Wj ldK
  refine List.map_congr_left fun j hj=>?_
  rw [if_pos (List.mem_range.1 hj),Qdv hv]
theorem QgT {M:List Int} {s:Nat} {n:Int}:(M.map zX).set s [.v (.int .i64 n)]=(M.set s n).map zX:=by
  rw [List.map_set];rfl
def QA (c:Chart) (M:List Int) (T:List (Nat × AV)):St:={ t:=asg (T++[(1,.ptr 0 0),(5,.row 1),(6,qd (qQ c.cabins))]),h:=qg [(0,.cells (qb c)),(1,.row 3 1 (M.map zX))],n:=2 }
def wN:=vj @ty3 (vj @Wl (vj @jO (vj @QN (vj @J8 (vj @xA (vj @ti3.eq_1 (vj @Zk.eq_1 (vj @jE.eq_1 (vj @Qb.eq_1 (vj @WF.eq_1 @vR.eq_1))))))))))
def vC:=vj @aI.eq_1 (vj @aB.eq_1 (vj @qA.eq_1 (vj @zX.eq_1 (vj @U3 (vj @QaE (@WS))))))
theorem QfH (c:Chart) (hc:c.cabins.length≤maxLen) (hs:c.sold.length≤100000):FnV Try.prog 58 [qa c] (.tup [qA (kg c).1,aI (kg c).2]):=by
  have env:Env (fun _=>True) Try.prog tyB (tab [(62,qU true ze),(22,qU false zB),(27,qU true zP)]):=qP ⟨Vm,Qcf,Qes,trivial⟩
  refine Fn.of (A:=fun _=>True) (n0:=0) (D:=noD) (Fn0 Try.func58 rfl (fun vs w=>by kernel_rfl) (by kernel_rfl)) (by simp) (by simp [AV.ids,AV.idsL,qa,qb]) (fun i o h=>by cases h) (fun _ _ _ _=>trivial) qF ?_
  have ec:(⟨c.cabins,c.secs,c.sold⟩:Chart)=c:=rfl
  have hmx:(100000:Nat)≤maxLen:=by decide
  obtain ⟨e,he⟩:∃ e,zV c=e:=⟨_,rfl⟩
  by_cases h0:e=0
  · rw [h0] at he
    have hv:=kD he
    have hE:kg c=(Wj c c.secs.toNat,0):=by unfold kg;rw [if_pos he,Qgb hv];rfl
    rw [hE]
    have hsec:=hv.car.secs
    have hcab:=hv.car.cabs
    have hbds:=hv.car.beds
    have b1:c.cabins.length≤3:=by omega
    have b2:∀ x ∈ c.cabins,x.beds≤3:=fun x hx=>(hbds x hx).2
    have b3:c.sold.length≤100:=by have:=hv.many;omega
    have b4:=Y2 hv
    have b5:=Vt b1 hbds
    have b6:0≤c.secs:=by omega
    have b7:8 * c.secs≤140737488355328:=by omega
    have b8:c.secs≤maxLen:=by omega
    have hl0:=VX c 0
    have hr0:List.replicate c.secs.toNat [DV.v (.int .i64 0)]=(Wj c 0).map zX:=by
      apply List.ext_getElem (by simp [Wj])
      intro i h1 h2
      simp [Wj,zX]
    repeat' (first|(apply nx;with_reducible constructor)|refine uq (by decide) ?_|((first|refine vx env fun Q hQ=>?_|refine vz fun Q hQ=>?_);simp only [vkt,seval,wN,vC,qf,qd,qx,qE,zf,qa,qb,mTk,qc,QA,ze,zB,zP,List.length_map,hc,hs,ec,he,b1,b2,b6,b7,b8,decide_true];(try simp only [ite_and]);(repeat' (first|with_reducible assumption|refine And.intro ?_ ?_|intro hp));all_goals (first|(refine hQ _ ?_;clear hQ Q)|(refine hQ _ (fun h=>?_) (fun h=>?_) <;> clear hQ Q <;> (try simp only [vki,reduceCtorEq] at h))|(refine vq ?_;kernel_rfl)|omega|assumption|with_reducible rfl|skip)))
    refine qX (fun s:{ s:Nat // s≤c.secs.toNat }=>QA c (Wj c s.1) [(7,aI s.1)]) (fun s=>c.secs.toNat - s.1) ⟨0,Nat.zero_le _⟩ ?_ fun ⟨s,hs⟩=>?_
    · simp only [QA,← hr0,List.cons_append,List.nil_append]
      (refine Le.ok some [] ?_;constructor;all_goals (try simp only [vle,vkt,seval,wN,vC,qf,qd,qx,qE,zf,qa,qb,mTk,qc,QA,ze,zB,zP,List.length_map]))
      all_goals first|rfl|(simp;done)
    simp only at hs ⊢
    have hLl:=VX c s
    by_cases hsl:s < c.secs.toNat
    · have d1:decide ((s:Int) < c.secs)=true:=decide_eq_true (by omega)
      have e9:IntKind.wrap .i64 ((s:Int)+1)=((s+1:Nat):Int):=by rw [wrap64 (by omega) (by omega)];rfl
      have s0:((s:Int)).toNat=s:=rfl
      have hg:=Qfq (s:=s) hsl
      rw [if_neg (Nat.lt_irrefl _)] at hg
      have hS:=QcP hsl
      obtain ⟨M0,hM0⟩:∃ M,Wj c s=M:=⟨_,rfl⟩
      rw [hM0] at hLl hg hS
      obtain ⟨BS,hBS⟩:∃ BS,qQ c.cabins=BS:=⟨_,rfl⟩
      rw [hBS] at b5 hS
      simp only [QA,hM0,hBS,List.cons_append,List.nil_append]
      repeat' (first|(apply nx;with_reducible constructor)|refine uq (by decide) ?_|((first|refine vx env fun Q hQ=>?_|refine vz fun Q hQ=>?_);simp only [vkt,seval,wN,vC,qf,qd,qx,qE,zf,qa,qb,mTk,qc,QA,ze,zB,zP,List.length_map,d1];(try simp only [ite_and]);(repeat' (first|with_reducible assumption|refine And.intro ?_ ?_|intro hp));all_goals (first|(refine hQ _ ?_;clear hQ Q)|(refine hQ _ (fun h=>?_) (fun h=>?_) <;> clear hQ Q <;> (try simp only [vki,reduceCtorEq] at h))|(refine vq ?_;kernel_rfl)|omega|assumption|with_reducible rfl|skip)))
      refine qX (fun i:{ i:Nat // i≤BS.length }=>QA c (M0.set s (hlN c s (BS.take i.1):Int)) [(7,aI s),(8,aI i.1)]) (fun i=>BS.length - i.1) ⟨0,Nat.zero_le _⟩ ?_ fun ⟨i,hi⟩=>?_
      · simp only [QA,hBS,List.take_zero,show hlN c s []=0 from rfl,Qfh (n:=((0:Nat):Int)) (by omega) hg,List.cons_append,List.nil_append]
        (refine Le.ok some [] ?_;constructor;all_goals (try simp only [vle,vkt,seval,wN,vC,qf,qd,qx,qE,zf,qa,qb,mTk,qc,QA,ze,zB,zP,List.length_map]))
        all_goals first|rfl|(simp;done)
      simp only at hi ⊢
      have hfl:hlN c s (BS.take i)≤i:=Nat.le_trans (List.length_filter_le _ _) (by rw [List.length_take];omega)
      obtain ⟨m,hm⟩:∃ m,hlN c s (BS.take i)=m:=⟨_,rfl⟩
      rw [hm] at hfl
      have hMl:(M0.set s (m:Int)).length=c.secs.toNat:=by rw [List.length_set];exact hLl
      have hMg:(M0.set s (m:Int)).getD s 0=(m:Int):=by simp [List.getD_eq_getElem?_getD,show s < M0.length by omega]
      have hM1:(M0.set s (m:Int)).set s ((m+1:Nat):Int)=M0.set s ((m+1:Nat):Int):=List.set_set ..
      obtain ⟨M,hM⟩:∃ M,M0.set s (m:Int)=M:=⟨_,rfl⟩
      simp only [QA,hm,hM,hBS,List.cons_append,List.nil_append]
      rw [hM] at hMl hMg hM1
      by_cases hil:i < BS.length
      · have d2:decide ((i:Int) < (BS.length:Int))=true:=decide_eq_true (by omega)
        have e8:IntKind.wrap .i64 ((i:Int)+1)=((i+1:Nat):Int):=by rw [wrap64 (by omega) (by omega)];rfl
        have i0:((i:Int)).toNat=i:=rfl
        have hF:=QcN (p:=fun b=>wD c.sold b s) (d:=default) hil
        have hF:hlN c s (BS.take (i+1))=m+if wD c.sold (BS.getD i default) s then 1 else 0:=by rw [← hm];exact hF
        obtain ⟨b,hb⟩:∃ b,BS.getD i default=b:=⟨_,rfl⟩
        have eb:(⟨b.cab,b.bed⟩:Bunk)=b:=rfl
        rw [hb] at hF
        have hsM:s < M.length:=by omega
        have hgM:=hInt hsM
        have w1:IntKind.wrap .i64 ((m:Int)+1)=((m+1:Nat):Int):=by rw [wrap64 (by omega) (by omega)];rfl
        cases q:wD c.sold b s with
        |true =>
          rw [q,if_pos rfl] at hF
          repeat' (first|(apply nx;with_reducible constructor)|refine uq (by decide) ?_|((first|refine vx env fun Q hQ=>?_|refine vz fun Q hQ=>?_);simp only [vkt,seval,wN,vC,qf,qd,qx,qE,zf,qa,qb,mTk,qc,QA,ze,zB,zP,List.length_map,d2,s0,i0,hil,hb,ec,eb,b3,b4,q,hsM,hgM,hMg,w1,e8];(try simp only [ite_and]);(repeat' (first|with_reducible assumption|refine And.intro ?_ ?_|intro hp));all_goals (first|(refine hQ _ ?_;clear hQ Q)|(refine hQ _ (fun h=>?_) (fun h=>?_) <;> clear hQ Q <;> (try simp only [vki,reduceCtorEq] at h))|(refine vq ?_;kernel_rfl)|omega|assumption|with_reducible rfl|skip)))
          refine ⟨⟨i+1,hil⟩,by show BS.length - (i+1) < BS.length - i;omega, ?_⟩
          simp only [QA,hF,hBS,← hM1,← QgT,List.cons_append,List.nil_append]
          (refine Le.ok some [] ?_;constructor;all_goals (try simp only [vle,vkt,seval,wN,vC,qf,qd,qx,qE,zf,qa,qb,mTk,qc,QA,ze,zB,zP,List.length_map]))
          all_goals first|rfl|(simp;done)
        |false =>
          rw [q,if_neg (by decide)] at hF
          repeat' (first|(apply nx;with_reducible constructor)|refine uq (by decide) ?_|((first|refine vx env fun Q hQ=>?_|refine vz fun Q hQ=>?_);simp only [vkt,seval,wN,vC,qf,qd,qx,qE,zf,qa,qb,mTk,qc,QA,ze,zB,zP,List.length_map,d2,s0,i0,hil,hb,ec,eb,b3,b4,q,e8];(try simp only [ite_and]);(repeat' (first|with_reducible assumption|refine And.intro ?_ ?_|intro hp));all_goals (first|(refine hQ _ ?_;clear hQ Q)|(refine hQ _ (fun h=>?_) (fun h=>?_) <;> clear hQ Q <;> (try simp only [vki,reduceCtorEq] at h))|(refine vq ?_;kernel_rfl)|omega|assumption|with_reducible rfl|skip)))
          refine ⟨⟨i+1,hil⟩,by show BS.length - (i+1) < BS.length - i;omega, ?_⟩
          simp only [QA,hF,Nat.add_zero,hM,hBS,List.cons_append,List.nil_append]
          (refine Le.ok some [] ?_;constructor;all_goals (try simp only [vle,vkt,seval,wN,vC,qf,qd,qx,qE,zf,qa,qb,mTk,qc,QA,ze,zB,zP,List.length_map]))
          all_goals first|rfl|(simp;done)
      · have d2:decide ((i:Int) < (BS.length:Int))=false:=decide_eq_false (by omega)
        obtain rfl:i=BS.length:=by omega
        rw [List.take_length] at hm
        rw [hm,hM] at hS
        repeat' (first|(apply nx;with_reducible constructor)|refine uq (by decide) ?_|((first|refine vx env fun Q hQ=>?_|refine vz fun Q hQ=>?_);simp only [vkt,seval,wN,vC,qf,qd,qx,qE,zf,qa,qb,mTk,qc,QA,ze,zB,zP,List.length_map,d2,e9];(try simp only [ite_and]);(repeat' (first|with_reducible assumption|refine And.intro ?_ ?_|intro hp));all_goals (first|(refine hQ _ ?_;clear hQ Q)|(refine hQ _ (fun h=>?_) (fun h=>?_) <;> clear hQ Q <;> (try simp only [vki,reduceCtorEq] at h))|(refine vq ?_;kernel_rfl)|omega|assumption|with_reducible rfl|skip)))
        refine ⟨⟨s+1,hsl⟩,by show c.secs.toNat - (s+1) < c.secs.toNat - s;omega, ?_⟩
        simp only [QA,← hS,hBS,List.cons_append,List.nil_append]
        (refine Le.ok some [] ?_;constructor;all_goals (try simp only [vle,vkt,seval,wN,vC,qf,qd,qx,qE,zf,qa,qb,mTk,qc,QA,ze,zB,zP,List.length_map]))
        all_goals first|rfl|(simp;done)
    · have d1:decide ((s:Int) < c.secs)=false:=decide_eq_false (by omega)
      obtain rfl:s=c.secs.toNat:=by omega
      simp only [QA,List.cons_append,List.nil_append]
      repeat' (first|(apply nx;with_reducible constructor)|refine uq (by decide) ?_|((first|refine vx env fun Q hQ=>?_|refine vz fun Q hQ=>?_);simp only [vkt,seval,wN,vC,qf,qd,qx,qE,zf,qa,qb,mTk,qc,QA,ze,zB,zP,List.length_map,d1];(try simp only [ite_and]);(repeat' (first|with_reducible assumption|refine And.intro ?_ ?_|intro hp));all_goals (first|(refine hQ _ ?_;clear hQ Q)|(refine hQ _ (fun h=>?_) (fun h=>?_) <;> clear hQ Q <;> (try simp only [vki,reduceCtorEq] at h))|(refine vq ?_;kernel_rfl)|omega|assumption|with_reducible rfl|skip)))
      (simp only [vrt,Try.results58,vkt,seval,wN,vC,qf,qd,qx,qE,zf,qa,qb,mTk,qc,QA,ze,zB,zP,List.length_map];refine Fin.val rfl ?_;(try simp only [AV.le,AV.leL]))
      all_goals first|rfl|(simp;done)|exact ⟨⟨_,_,rfl⟩,trivial,trivial⟩
  · have hE:kg c=([],e):=by unfold kg;rw [if_neg (by rw [he];exact h0),he]
    rw [hE]
    have d0:decide (e=0)=false:=decide_eq_false h0
    repeat' (first|(apply nx;with_reducible constructor)|refine uq (by decide) ?_|((first|refine vx env fun Q hQ=>?_|refine vz fun Q hQ=>?_);simp only [vkt,seval,wN,vC,qf,qd,qx,qE,zf,qa,qb,mTk,qc,QA,ze,zB,zP,List.length_map,hc,hs,ec,he,d0];(try simp only [ite_and]);(repeat' (first|with_reducible assumption|refine And.intro ?_ ?_|intro hp));all_goals (first|(refine hQ _ ?_;clear hQ Q)|(refine hQ _ (fun h=>?_) (fun h=>?_) <;> clear hQ Q <;> (try simp only [vki,reduceCtorEq] at h))|(refine vq ?_;kernel_rfl)|omega|assumption|with_reducible rfl|skip)))
    (simp only [vrt,Try.results58,vkt,seval,wN,vC,qf,qd,qx,qE,zf,qa,qb,mTk,qc,QA,ze,zB,zP,List.length_map];refine Fin.val rfl ?_;(try simp only [AV.le,AV.leL]))
    all_goals first|rfl|(simp;done)
def kM:List AV→Prop × AV
  |[.agg [.sl c0,.v (.int .i64 c1),.sl c2]]=>(c0=(c0.map qp).map qj∧c2=(c2.map dTk).map eTk∧((⟨(c0.map qp),c1,(c2.map dTk)⟩:Chart)).cabins.length≤maxLen∧((⟨(c0.map qp),c1,(c2.map dTk)⟩:Chart)).sold.length≤100000,.tup [qA (kg ((⟨(c0.map qp),c1,(c2.map dTk)⟩:Chart))).1,aI (kg ((⟨(c0.map qp),c1,(c2.map dTk)⟩:Chart))).2])
  |_=>(False,.junk)
theorem QiN {A:Frm→Prop}:qB A Try.prog 58 (qU false kM):=za fun vs hv h=>by
  clear hv
  unfold kM at h ⊢
  split at h
  · rename_i c0 c1 c2;obtain ⟨q0,q1,k0,k1⟩:=h
    refine ⟨by first|trivial|(simp [AV.plain,AV.plainL,aI,aB,qA,qd,qh,qf,aTk,cTk];done)|(repeat' split) <;> simp [AV.plain,AV.plainL,aI,aB,qA,qd,qh,qf,aTk,cTk],fun h=>absurd h (by decide), ?_⟩
    have:=QfH ((⟨(c0.map qp),c1,(c2.map dTk)⟩:Chart)) k0 k1
    simp only [q9,qa,aI,qh,qb,← q0,← q1] at this
    first|exact this|(simp only [q9,qa,aI,qh,qb,← q0,← q1];exact this)
  · exact h.elim
def rrS (c:Chart) (n i:Nat) (T:List (Nat × AV)):St:={ t:=asg (T++[(1,.ptr 0 0),(3,aI n),(4,aI i)]),h:=qg [(0,.cells (qb c))],n:=1 }
def zQ:=vj @ty3 (vj @WT (vj @jO (vj @xA (vj @WP (vj @ti3.eq_1 (vj @Zv.eq_1 (vj @jE.eq_1 (vj @vR.eq_1 @Zq.eq_1))))))))
def jW:=vj @aI.eq_1 (@aB.eq_1)
theorem Qgc (c:Chart) (hv:Van c) (hsm:Yi c.sold):FnV Try.prog 110 [qa c] (aI (ky c.cabins c.secs c.sold)):=by
  have env:Env (fun _=>True) Try.prog tyB (tab [(27,qU true zP)]):=qP ⟨Qes,trivial⟩
  refine Fn.of (A:=fun _=>True) (n0:=0) (D:=noD) (Fn0 Try.func110 rfl (fun vs w=>by kernel_rfl) (by kernel_rfl)) (by simp) (by simp [AV.ids,AV.idsL,qa,qb]) (fun i o h=>by cases h) (fun _ _ _ _=>trivial) qF ?_
  have ec:(⟨c.cabins,c.secs,c.sold⟩:Chart)=c:=rfl
  rw [← QgZ hv]
  have hsec:=hv.car.secs
  have hcab:=hv.car.cabs
  have hbds:=hv.car.beds
  have b3:=hv.many
  repeat' (first|(apply nx;with_reducible constructor)|refine uq (by decide) ?_|((first|refine vx env fun Q hQ=>?_|refine vz fun Q hQ=>?_);simp only [vkt,seval,zQ,jW,qf,qj,qz,qa,qb,mTk,qc,rrS,zP,List.length_map];(try simp only [ite_and]);(repeat' (first|with_reducible assumption|refine And.intro ?_ ?_|intro hp));all_goals (first|(refine hQ _ ?_;clear hQ Q)|(refine hQ _ (fun h=>?_) (fun h=>?_) <;> clear hQ Q <;> (try simp only [vki,reduceCtorEq] at h))|(refine vq ?_;kernel_rfl)|omega|assumption|with_reducible rfl|skip)))
  refine qX (fun i:{ i:Nat // i≤c.cabins.length }=>rrS c (rrN c i.1) i.1 []) (fun i=>c.cabins.length - i.1) ⟨0,Nat.zero_le _⟩ ?_ fun ⟨i,hi⟩=>?_
  · simp only [rrS,show rrN c 0=0 from rfl,List.cons_append,List.nil_append]
    (refine Le.ok some [] ?_;constructor;all_goals (try simp only [vle,vkt,seval,zQ,jW,qf,qj,qz,qa,qb,mTk,qc,rrS,zP,List.length_map]))
    all_goals first|rfl|(simp;done)
  simp only at hi ⊢
  have hbd:=rr_bd hv i (by omega)
  have hS:rrN c (i+1)=rrN c i+Zn (fun s=>emR c i s) c.secs.toNat:=rfl
  obtain ⟨R,hR⟩:∃ R,rrN c i=R:=⟨_,rfl⟩
  rw [hR] at hbd hS
  simp only [rrS,hR,List.nil_append]
  by_cases hil:i < c.cabins.length
  · have d1:decide ((i:Int) < (c.cabins.length:Int))=true:=decide_eq_true (by omega)
    have e9:IntKind.wrap .i64 ((i:Int)+1)=((i+1:Nat):Int):=by rw [wrap64 (by omega) (by omega)];rfl
    have i0:((i:Int)).toNat=i:=rfl
    obtain ⟨x,hx⟩:∃ x,c.cabins.getD i default=x:=⟨_,rfl⟩
    have hxb:=hbds x (by rw [← hx];exact vK hil)
    repeat' (first|(apply nx;with_reducible constructor)|refine uq (by decide) ?_|((first|refine vx env fun Q hQ=>?_|refine vz fun Q hQ=>?_);simp only [vkt,seval,zQ,jW,qf,qj,qz,qa,qb,mTk,qc,rrS,zP,List.length_map,d1];(try simp only [ite_and]);(repeat' (first|with_reducible assumption|refine And.intro ?_ ?_|intro hp));all_goals (first|(refine hQ _ ?_;clear hQ Q)|(refine hQ _ (fun h=>?_) (fun h=>?_) <;> clear hQ Q <;> (try simp only [vki,reduceCtorEq] at h))|(refine vq ?_;kernel_rfl)|omega|assumption|with_reducible rfl|skip)))
    refine qX (fun s:{ s:Nat // s≤c.secs.toNat }=>rrS c (R+Zn (fun s=>emR c i s) s.1) i [(5,aI s.1)]) (fun s=>c.secs.toNat - s.1) ⟨0,Nat.zero_le _⟩ ?_ fun ⟨s,hs⟩=>?_
    · simp only [rrS,show Zn (fun s=>emR c i s) 0=0 from rfl,Nat.add_zero,List.cons_append,List.nil_append]
      (refine Le.ok some [] ?_;constructor;all_goals (try simp only [vle,vkt,seval,zQ,jW,qf,qj,qz,qa,qb,mTk,qc,rrS,zP,List.length_map]))
      all_goals first|rfl|(simp;done)
    simp only at hs ⊢
    have hCl:=Qcz (fun s=>emR c i s) s
    have hC:=YI (fun s=>emR c i s) s
    obtain ⟨Q,hQ⟩:∃ Q,Zn (fun s=>emR c i s) s=Q:=⟨_,rfl⟩
    rw [hQ] at hCl hC
    simp only [rrS,hQ,List.cons_append,List.nil_append]
    obtain ⟨N,hN⟩:∃ N,R+Q=N:=⟨_,rfl⟩
    simp only [hN]
    by_cases hsl:s < c.secs.toNat
    · have d2:decide ((s:Int) < c.secs)=true:=decide_eq_true (by omega)
      have e8:IntKind.wrap .i64 ((s:Int)+1)=((s+1:Nat):Int):=by rw [wrap64 (by omega) (by omega)];rfl
      have w1:IntKind.wrap .i64 ((N:Int)+1)=((N+1:Nat):Int):=by rw [wrap64 (by omega) (by omega)];rfl
      have hER:emR c i s=emH c s i x.beds.toNat:=by unfold emR;rw [hx]
      repeat' (first|(apply nx;with_reducible constructor)|refine uq (by decide) ?_|((first|refine vx env fun Q hQ=>?_|refine vz fun Q hQ=>?_);simp only [vkt,seval,zQ,jW,qf,qj,qz,qa,qb,mTk,qc,rrS,zP,List.length_map,d2];(try simp only [ite_and]);(repeat' (first|with_reducible assumption|refine And.intro ?_ ?_|intro hp));all_goals (first|(refine hQ _ ?_;clear hQ Q)|(refine hQ _ (fun h=>?_) (fun h=>?_) <;> clear hQ Q <;> (try simp only [vki,reduceCtorEq] at h))|(refine vq ?_;kernel_rfl)|omega|assumption|with_reducible rfl|skip)))
      refine qX (fun k:{ k:Nat // k≤x.beds.toNat }=>rrS c N i [(5,aI s),(6,aB (emH c s i k.1)),(7,aI k.1)]) (fun k=>x.beds.toNat - k.1) ⟨0,Nat.zero_le _⟩ ?_ fun ⟨k,hk⟩=>?_
      · simp only [rrS,show emH c s i 0=true from rfl,List.cons_append,List.nil_append]
        (refine Le.ok some [] ?_;constructor;all_goals (try simp only [vle,vkt,seval,zQ,jW,qf,qj,qz,qa,qb,mTk,qc,rrS,zP,List.length_map]))
        all_goals first|rfl|(simp;done)
      simp only at hk ⊢
      have hSk:=QfJ c s i k
      obtain ⟨em,hem⟩:∃ em,emH c s i k=em:=⟨_,rfl⟩
      rw [hem] at hSk
      simp only [rrS,hem,List.cons_append,List.nil_append]
      by_cases hkl:k < x.beds.toNat
      · have d3:decide ((k:Int) < x.beds)=true:=decide_eq_true (by omega)
        have e7:IntKind.wrap .i64 ((k:Int)+1)=((k+1:Nat):Int):=by rw [wrap64 (by omega) (by omega)];rfl
        cases em with
        |true =>
          rw [Bool.true_and] at hSk
          obtain ⟨hh,hhe⟩:∃ hh,wD c.sold ⟨(i:Int),(k:Int)⟩ s=hh:=⟨_,rfl⟩
          rw [hhe] at hSk
          repeat' (first|(apply nx;with_reducible constructor)|refine uq (by decide) ?_|((first|refine vx env fun Q hQ=>?_|refine vz fun Q hQ=>?_);simp only [vkt,seval,zQ,jW,qf,qj,qz,qa,qb,mTk,qc,rrS,zP,List.length_map,d3,i0,hil,hx,ec,b3,hsm,hhe,e7];(try simp only [ite_and]);(repeat' (first|with_reducible assumption|refine And.intro ?_ ?_|intro hp));all_goals (first|(refine hQ _ ?_;clear hQ Q)|(refine hQ _ (fun h=>?_) (fun h=>?_) <;> clear hQ Q <;> (try simp only [vki,reduceCtorEq] at h))|(refine vq ?_;kernel_rfl)|omega|assumption|with_reducible rfl|skip)))
          refine ⟨⟨k+1,hkl⟩,by show x.beds.toNat - (k+1) < x.beds.toNat - k;omega, ?_⟩
          simp only [rrS,hSk,List.cons_append,List.nil_append]
          (refine Le.ok some [] ?_;constructor;all_goals (try simp only [vle,vkt,seval,zQ,jW,qf,qj,qz,qa,qb,mTk,qc,rrS,zP,List.length_map]))
          all_goals first|rfl|(simp;done)
        |false =>
          rw [Bool.false_and] at hSk
          repeat' (first|(apply nx;with_reducible constructor)|refine uq (by decide) ?_|((first|refine vx env fun Q hQ=>?_|refine vz fun Q hQ=>?_);simp only [vkt,seval,zQ,jW,qf,qj,qz,qa,qb,mTk,qc,rrS,zP,List.length_map,d3,i0,hil,hx,e7];(try simp only [ite_and]);(repeat' (first|with_reducible assumption|refine And.intro ?_ ?_|intro hp));all_goals (first|(refine hQ _ ?_;clear hQ Q)|(refine hQ _ (fun h=>?_) (fun h=>?_) <;> clear hQ Q <;> (try simp only [vki,reduceCtorEq] at h))|(refine vq ?_;kernel_rfl)|omega|assumption|with_reducible rfl|skip)))
          refine ⟨⟨k+1,hkl⟩,by show x.beds.toNat - (k+1) < x.beds.toNat - k;omega, ?_⟩
          simp only [rrS,hSk,List.cons_append,List.nil_append]
          (refine Le.ok some [] ?_;constructor;all_goals (try simp only [vle,vkt,seval,zQ,jW,qf,qj,qz,qa,qb,mTk,qc,rrS,zP,List.length_map]))
          all_goals first|rfl|(simp;done)
      · have d3:decide ((k:Int) < x.beds)=false:=decide_eq_false (by omega)
        obtain rfl:k=x.beds.toNat:=by omega
        rw [hem] at hER
        cases em with
        |true =>
          rw [hER,if_pos rfl] at hC
          repeat' (first|(apply nx;with_reducible constructor)|refine uq (by decide) ?_|((first|refine vx env fun Q hQ=>?_|refine vz fun Q hQ=>?_);simp only [vkt,seval,zQ,jW,qf,qj,qz,qa,qb,mTk,qc,rrS,zP,List.length_map,d3,i0,hil,hx,e8,w1];(try simp only [ite_and]);(repeat' (first|with_reducible assumption|refine And.intro ?_ ?_|intro hp));all_goals (first|(refine hQ _ ?_;clear hQ Q)|(refine hQ _ (fun h=>?_) (fun h=>?_) <;> clear hQ Q <;> (try simp only [vki,reduceCtorEq] at h))|(refine vq ?_;kernel_rfl)|omega|assumption|with_reducible rfl|skip)))
          refine ⟨⟨s+1,hsl⟩,by show c.secs.toNat - (s+1) < c.secs.toNat - s;omega, ?_⟩
          simp only [rrS,hC,← Nat.add_assoc,hN,List.cons_append,List.nil_append]
          (refine Le.ok some [] ?_;constructor;all_goals (try simp only [vle,vkt,seval,zQ,jW,qf,qj,qz,qa,qb,mTk,qc,rrS,zP,List.length_map]))
          all_goals first|rfl|(simp;done)
        |false =>
          have hC:Zn (fun s=>emR c i s) (s+1)=Q:=by rw [hC,hER];rfl
          repeat' (first|(apply nx;with_reducible constructor)|refine uq (by decide) ?_|((first|refine vx env fun Q hQ=>?_|refine vz fun Q hQ=>?_);simp only [vkt,seval,zQ,jW,qf,qj,qz,qa,qb,mTk,qc,rrS,zP,List.length_map,d3,i0,hil,hx,e8];(try simp only [ite_and]);(repeat' (first|with_reducible assumption|refine And.intro ?_ ?_|intro hp));all_goals (first|(refine hQ _ ?_;clear hQ Q)|(refine hQ _ (fun h=>?_) (fun h=>?_) <;> clear hQ Q <;> (try simp only [vki,reduceCtorEq] at h))|(refine vq ?_;kernel_rfl)|omega|assumption|with_reducible rfl|skip)))
          refine ⟨⟨s+1,hsl⟩,by show c.secs.toNat - (s+1) < c.secs.toNat - s;omega, ?_⟩
          simp only [rrS,hC,hN,List.cons_append,List.nil_append]
          (refine Le.ok some [] ?_;constructor;all_goals (try simp only [vle,vkt,seval,zQ,jW,qf,qj,qz,qa,qb,mTk,qc,rrS,zP,List.length_map]))
          all_goals first|rfl|(simp;done)
    · have d2:decide ((s:Int) < c.secs)=false:=decide_eq_false (by omega)
      obtain rfl:s=c.secs.toNat:=by omega
      rw [hQ,hN] at hS
      repeat' (first|(apply nx;with_reducible constructor)|refine uq (by decide) ?_|((first|refine vx env fun Q hQ=>?_|refine vz fun Q hQ=>?_);simp only [vkt,seval,zQ,jW,qf,qj,qz,qa,qb,mTk,qc,rrS,zP,List.length_map,d2,e9];(try simp only [ite_and]);(repeat' (first|with_reducible assumption|refine And.intro ?_ ?_|intro hp));all_goals (first|(refine hQ _ ?_;clear hQ Q)|(refine hQ _ (fun h=>?_) (fun h=>?_) <;> clear hQ Q <;> (try simp only [vki,reduceCtorEq] at h))|(refine vq ?_;kernel_rfl)|omega|assumption|with_reducible rfl|skip)))
      refine ⟨⟨i+1,hil⟩,by show c.cabins.length - (i+1) < c.cabins.length - i;omega, ?_⟩
      simp only [rrS,hS,List.cons_append,List.nil_append]
      (refine Le.ok some [] ?_;constructor;all_goals (try simp only [vle,vkt,seval,zQ,jW,qf,qj,qz,qa,qb,mTk,qc,rrS,zP,List.length_map]))
      all_goals first|rfl|(simp;done)
  · have d1:decide ((i:Int) < (c.cabins.length:Int))=false:=decide_eq_false (by omega)
    obtain rfl:i=c.cabins.length:=by omega
    rw [hR]
    repeat' (first|(apply nx;with_reducible constructor)|refine uq (by decide) ?_|((first|refine vx env fun Q hQ=>?_|refine vz fun Q hQ=>?_);simp only [vkt,seval,zQ,jW,qf,qj,qz,qa,qb,mTk,qc,rrS,zP,List.length_map,d1];(try simp only [ite_and]);(repeat' (first|with_reducible assumption|refine And.intro ?_ ?_|intro hp));all_goals (first|(refine hQ _ ?_;clear hQ Q)|(refine hQ _ (fun h=>?_) (fun h=>?_) <;> clear hQ Q <;> (try simp only [vki,reduceCtorEq] at h))|(refine vq ?_;kernel_rfl)|omega|assumption|with_reducible rfl|skip)))
    (simp only [vrt,Try.results110,vkt,seval,zQ,jW,qf,qj,qz,qa,qb,mTk,qc,rrS,zP,List.length_map];refine Fin.val rfl ?_;(try simp only [AV.le,AV.leL]))
    all_goals first|rfl|(simp;done)
def JM:List AV→Prop × AV
  |[.agg [.sl c0,.v (.int .i64 c1),.sl c2]]=>(c0=(c0.map qp).map qj∧c2=(c2.map dTk).map eTk∧Van ((⟨(c0.map qp),c1,(c2.map dTk)⟩:Chart))∧Yi ((⟨(c0.map qp),c1,(c2.map dTk)⟩:Chart)).sold,aI (ky ((⟨(c0.map qp),c1,(c2.map dTk)⟩:Chart)).cabins ((⟨(c0.map qp),c1,(c2.map dTk)⟩:Chart)).secs ((⟨(c0.map qp),c1,(c2.map dTk)⟩:Chart)).sold))
  |_=>(False,.junk)
theorem Qjf {A:Frm→Prop}:qB A Try.prog 110 (qU true JM):=za fun vs hv h=>by
  clear hv
  unfold JM at h ⊢
  split at h
  · rename_i c0 c1 c2;obtain ⟨q0,q1,k0,k1⟩:=h
    refine ⟨by first|trivial|(simp [AV.plain,AV.plainL,aI,aB,qA,qd,qh,qf,aTk,cTk];done)|(repeat' split) <;> simp [AV.plain,AV.plainL,aI,aB,qA,qd,qh,qf,aTk,cTk],fun _=>(by simp [AV.flat,AV.flatL,aI,aB]), ?_⟩
    have:=Qgc ((⟨(c0.map qp),c1,(c2.map dTk)⟩:Chart)) k0 k1
    simp only [q9,qa,aI,qh,qb,← q0,← q1] at this
    first|exact this|(simp only [q9,qa,aI,qh,qb,← q0,← q1];exact this)
  · exact h.elim
def Zb:=vj @jO (vj @QN (vj @jE.eq_1 @Qb.eq_1))
def Vn:=vj @aI.eq_1 (@aB.eq_1)
theorem Qfx (c:Chart) (hc:c.cabins.length≤maxLen) (hs:c.sold.length≤100000):FnV Try.prog 59 [qa c] (.tup [aI (Ju c),aI (zV c)]):=by
  have env:Env (fun _=>True) Try.prog tyB (tab [(62,qU true ze),(110,qU true JM)]):=qP ⟨Vm,Qjf,trivial⟩
  refine Fn.of (A:=fun _=>True) (n0:=0) (D:=noD) (Fn0 Try.func59 rfl (fun vs w=>by kernel_rfl) (by kernel_rfl)) (by simp) (by simp [AV.ids,AV.idsL,qa,qb]) (fun i o h=>by cases h) (fun _ _ _ _=>trivial) qF ?_
  have ec:(⟨c.cabins,c.secs,c.sold⟩:Chart)=c:=rfl
  obtain ⟨e,he⟩:∃ e,zV c=e:=⟨_,rfl⟩
  by_cases h0:e=0
  · rw [h0] at he
    have hv:=kD he
    have h1:=hv.van
    have h2:=Y2 hv
    have hE:Ju c=ky c.cabins c.secs c.sold:=by unfold Ju;rw [if_pos he]
    rw [hE,he]
    repeat' (first|(apply nx;with_reducible constructor)|refine uq (by decide) ?_|((first|refine vx env fun Q hQ=>?_|refine vz fun Q hQ=>?_);simp only [vkt,seval,Zb,Vn,qa,qb,mTk,qc,ze,JM,List.length_map,hc,hs,ec,he,h1,h2,decide_true];(try simp only [ite_and]);(repeat' (first|with_reducible assumption|refine And.intro ?_ ?_|intro hp));all_goals (first|(refine hQ _ ?_;clear hQ Q)|(refine hQ _ (fun h=>?_) (fun h=>?_) <;> clear hQ Q <;> (try simp only [vki,reduceCtorEq] at h))|(refine vq ?_;kernel_rfl)|omega|assumption|with_reducible rfl|skip)))
    (simp only [vrt,Try.results59,vkt,seval,Zb,Vn,qa,qb,mTk,qc,ze,JM,List.length_map];refine Fin.val rfl ?_;(try simp only [AV.le,AV.leL]))
    all_goals first|rfl|(simp;done)
  · have d0:decide (e=0)=false:=decide_eq_false h0
    have hE:Ju c=0:=by unfold Ju;rw [if_neg (by rw [he];exact h0)]
    rw [hE,he]
    repeat' (first|(apply nx;with_reducible constructor)|refine uq (by decide) ?_|((first|refine vx env fun Q hQ=>?_|refine vz fun Q hQ=>?_);simp only [vkt,seval,Zb,Vn,qa,qb,mTk,qc,ze,JM,List.length_map,hc,hs,ec,he,d0];(try simp only [ite_and]);(repeat' (first|with_reducible assumption|refine And.intro ?_ ?_|intro hp));all_goals (first|(refine hQ _ ?_;clear hQ Q)|(refine hQ _ (fun h=>?_) (fun h=>?_) <;> clear hQ Q <;> (try simp only [vki,reduceCtorEq] at h))|(refine vq ?_;kernel_rfl)|omega|assumption|with_reducible rfl|skip)))
    (simp only [vrt,Try.results59,vkt,seval,Zb,Vn,qa,qb,mTk,qc,ze,JM,List.length_map];refine Fin.val rfl ?_;(try simp only [AV.le,AV.leL]))
    all_goals first|rfl|(simp;done)
def kQ:List AV→Prop × AV
  |[.agg [.sl c0,.v (.int .i64 c1),.sl c2]]=>(c0=(c0.map qp).map qj∧c2=(c2.map dTk).map eTk∧((⟨(c0.map qp),c1,(c2.map dTk)⟩:Chart)).cabins.length≤maxLen∧((⟨(c0.map qp),c1,(c2.map dTk)⟩:Chart)).sold.length≤100000,.tup [aI (Ju ((⟨(c0.map qp),c1,(c2.map dTk)⟩:Chart))),aI (zV ((⟨(c0.map qp),c1,(c2.map dTk)⟩:Chart)))])
  |_=>(False,.junk)
theorem QiD {A:Frm→Prop}:qB A Try.prog 59 (qU true kQ):=za fun vs hv h=>by
  clear hv
  unfold kQ at h ⊢
  split at h
  · rename_i c0 c1 c2;obtain ⟨q0,q1,k0,k1⟩:=h
    refine ⟨by first|trivial|(simp [AV.plain,AV.plainL,aI,aB,qA,qd,qh,qf,aTk,cTk];done)|(repeat' split) <;> simp [AV.plain,AV.plainL,aI,aB,qA,qd,qh,qf,aTk,cTk],fun _=>(by simp [AV.flat,AV.flatL,aI,aB]), ?_⟩
    have:=Qfx ((⟨(c0.map qp),c1,(c2.map dTk)⟩:Chart)) k0 k1
    simp only [q9,qa,aI,qh,qb,← q0,← q1] at this
    first|exact this|(simp only [q9,qa,aI,qh,qb,← q0,← q1];exact this)
  · exact h.elim
end Go.Sym.B
namespace Go.Sym.B
open Go Go.Sym Go.Proofs Go.Sym.C
def rgS (c:Chart) (BS:List Bunk) (M:List Tk) (T:List (Nat × AV)):St:={ t:=asg (T++[(1,.ptr 0 0),(5,.row 1),(6,qd BS)]),h:=qg [(0,.cells (qb c)),(1,ql M)],n:=2 }
theorem Qht (c:Chart) (b:Bunk) (k:Nat):(rgK c b k).2.length≤k:=by rw [QeP];exact Vr c b k
def zD:=vj @ty3 (vj @xC (vj @jO (vj @QN (vj @J8 (vj @xA (vj @yw (vj @ti3.eq_1 (vj @vP.eq_1 (vj @jE.eq_1 (vj @Qb.eq_1 (vj @WF.eq_1 (vj @vR.eq_1 @j3.eq_1))))))))))))
def jC:=vj @aI.eq_1 (@aB.eq_1)
set_option maxHeartbeats 4000000 in
theorem Qfg (c:Chart) (hc:c.cabins.length≤maxLen) (hs:c.sold.length≤100000):FnV Try.prog 61 [qa c] (.tup [qh (xR c).1,aI (xR c).2]):=by
  have env:Env (fun _=>True) Try.prog tyB (tab [(62,qU true ze),(22,qU false zB),(27,qU true zP)]):=qP ⟨Vm,Qcf,Qes,trivial⟩
  refine Fn.of (A:=fun _=>True) (n0:=0) (D:=noD) (Fn0 Try.func61 rfl (fun vs w=>by kernel_rfl) (by kernel_rfl)) (by simp) (by simp [AV.ids,AV.idsL,qa,qb]) (fun i o h=>by cases h) (fun _ _ _ _=>trivial) qF ?_
  have ec:(⟨c.cabins,c.secs,c.sold⟩:Chart)=c:=rfl
  have hmx:(100000:Nat)≤maxLen:=by decide
  obtain ⟨e,he⟩:∃ e,zV c=e:=⟨_,rfl⟩
  by_cases h0:e=0
  · rw [h0] at he
    have hv:=kD he
    have hE:xR c=(gpP c (qQ c.cabins).length,0):=by unfold xR;rw [if_pos he];rfl
    rw [hE]
    have hsec:=hv.car.secs
    have hcab:=hv.car.cabs
    have hbds:=hv.car.beds
    have b1:c.cabins.length≤3:=by omega
    have b2:∀ x ∈ c.cabins,x.beds≤3:=fun x hx=>(hbds x hx).2
    have b3:c.sold.length≤100:=by have:=hv.many;omega
    have b4:=Y2 hv
    have b5:=Vt b1 hbds
    have hN6:gpN c≤6:=by unfold gpN;omega
    have hN0:gpN c=c.secs.toNat+1:=rfl
    have hSS:=fun j (h:j < (qQ c.cabins).length)=>Vx c h
    have hLL:=Vl c
    obtain ⟨BS,hBS⟩:∃ BS,qQ c.cabins=BS:=⟨_,rfl⟩
    rw [hBS] at b5 hSS hLL
    rw [hBS]
    repeat' (first|(apply nx;with_reducible constructor)|refine uq (by decide) ?_|((first|refine vx env fun Q hQ=>?_|refine vz fun Q hQ=>?_);simp only [vkt,seval,zD,jC,qf,qd,aTk,cTk,qh,eTk,rTk,mTk,qx,qE,zf,qc,ql,qa,qb,rgS,ze,zB,zP,List.length_map,hc,hs,ec,he,b1,b2,hBS,decide_true];(try simp only [ite_and]);(repeat' (first|with_reducible assumption|refine And.intro ?_ ?_|intro hp));all_goals (first|(refine hQ _ ?_;clear hQ Q)|(refine hQ _ (fun h=>?_) (fun h=>?_) <;> clear hQ Q <;> (try simp only [vki,reduceCtorEq] at h))|(refine vq ?_;kernel_rfl)|omega|assumption|with_reducible rfl|skip)))
    refine qX (fun i:{ i:Nat // i≤BS.length }=>rgS c BS (gpP c i.1) [(7,aI i.1)]) (fun i=>BS.length - i.1) ⟨0,Nat.zero_le _⟩ ?_ fun ⟨i,hi⟩=>?_
    · simp only [rgS,show gpP c 0=[] from rfl,List.cons_append,List.nil_append]
      (refine Le.ok (fun i=>if i=1 then none else some i) [] ?_;constructor;all_goals (try simp only [vle,vkt,seval,zD,jC,qf,qd,aTk,cTk,qh,eTk,rTk,mTk,qx,qE,zf,qc,ql,qa,qb,rgS,ze,zB,zP,List.length_map]))
      all_goals first|rfl|(simp;done)
    simp only at hi ⊢
    have hL:=hLL i hi
    have hL2:i * gpN c≤9 * 6:=Nat.mul_le_mul (by omega) hN6
    obtain ⟨L,hLe⟩:∃ L,gpP c i=L:=⟨_,rfl⟩
    rw [hLe] at hL
    by_cases hil:i < BS.length
    · have d1:decide ((i:Int) < (BS.length:Int))=true:=decide_eq_true (by omega)
      have e9:IntKind.wrap .i64 ((i:Int)+1)=((i+1:Nat):Int):=by rw [wrap64 (by omega) (by omega)];rfl
      have i0:((i:Int)).toNat=i:=rfl
      have hS:=hSS i hil
      obtain ⟨b,hb⟩:∃ b,BS.getD i default=b:=⟨_,rfl⟩
      have eb:(⟨b.cab,b.bed⟩:Bunk)=b:=rfl
      rw [hLe,hb,← QeP] at hS
      simp only [rgS,hLe,List.cons_append,List.nil_append]
      repeat' (first|(apply nx;with_reducible constructor)|refine uq (by decide) ?_|((first|refine vx env fun Q hQ=>?_|refine vz fun Q hQ=>?_);simp only [vkt,seval,zD,jC,qf,qd,aTk,cTk,qh,eTk,rTk,mTk,qx,qE,zf,qc,ql,qa,qb,rgS,ze,zB,zP,List.length_map,d1];(try simp only [ite_and]);(repeat' (first|with_reducible assumption|refine And.intro ?_ ?_|intro hp));all_goals (first|(refine hQ _ ?_;clear hQ Q)|(refine hQ _ (fun h=>?_) (fun h=>?_) <;> clear hQ Q <;> (try simp only [vki,reduceCtorEq] at h))|(refine vq ?_;kernel_rfl)|omega|assumption|with_reducible rfl|skip)))
      refine qX (fun s:{ s:Nat // s≤gpN c }=>rgS c BS (L++(rgK c b s.1).2) [(7,aI i),(8,aI (rgK c b s.1).1),(9,aI s.1)]) (fun s=>gpN c - s.1) ⟨0,Nat.zero_le _⟩ ?_ fun ⟨s,hs⟩=>?_
      · simp only [rgS,show rgK c b 0=(0,[]) from rfl,List.append_nil,List.cons_append,List.nil_append]
        (refine Le.ok some [] ?_;constructor;all_goals (try simp only [vle,vkt,seval,zD,jC,qf,qd,aTk,cTk,qh,eTk,rTk,mTk,qx,qE,zf,qc,ql,qa,qb,rgS,ze,zB,zP,List.length_map]))
        all_goals first|rfl|(simp;done)
      simp only at hs ⊢
      have hKS:rgK c b (s+1)=if frB c b s then rgK c b s else ((s:Int)+1,if (rgK c b s).1 < (s:Int) then (rgK c b s).2++[⟨0,0,b.cab,b.bed,(rgK c b s).1,(s:Int),false⟩] else (rgK c b s).2):=rfl
      have hKl:=Qht c b s
      have hKb:=rg_bd c b s
      obtain ⟨⟨f,G⟩,hG⟩:∃ q,rgK c b s=q:=⟨_,rfl⟩
      rw [hG] at hKS hKl hKb
      simp only at hKS hKl hKb
      have hAl:(L++G).length+1≤maxLen:=by rw [List.length_append];omega
      have hAm:(L++G).length≤200:=by rw [List.length_append];omega
      obtain ⟨M,hM⟩:∃ M,L++G=M:=⟨_,rfl⟩
      rw [hM] at hAl hAm
      have fin:∀ S f' G',rgK c b (s+1)=(f',G')→s < gpN c→Le S (rgS c BS (L++G') [(7,aI i),(8,aI f'),(9,aI (s+1:Nat))])→∃ y:{ s:Nat // s≤gpN c },(gpN c - y.1 < gpN c - s)∧Le S (rgS c BS (L++(rgK c b y.1).2) [(7,aI i),(8,aI (rgK c b y.1).1),(9,aI y.1)]):=fun S f' G' h hlt hle=>⟨⟨s+1,hlt⟩,by show gpN c - (s+1) < gpN c - s;omega,by simp only [h];exact hle⟩
      simp only [hG,hM,rgS,List.cons_append,List.nil_append]
      by_cases hsl:s < gpN c
      · have d2:decide ((s:Int)≤c.secs)=true:=decide_eq_true (by omega)
        have e8:IntKind.wrap .i64 ((s:Int)+1)=((s+1:Nat):Int):=by rw [wrap64 (by omega) (by omega)];rfl
        obtain ⟨q,hq⟩:∃ q,frB c b s=q:=⟨_,rfl⟩
        rw [hq] at hKS
        by_cases hss:(s:Int) < c.secs
        · have d3:decide ((s:Int) < c.secs)=true:=decide_eq_true hss
          have hfr:frB c b s=!wD c.sold b s:=by unfold frB;rw [d3,Bool.true_and]
          rw [hq] at hfr
          cases q with
          |true =>
            have hh:wD c.sold b s=false:=by cases hx:wD c.sold b s;rfl;rw [hx] at hfr;exact absurd hfr (by decide)
            rw [if_pos rfl] at hKS
            repeat' (first|(apply nx;with_reducible constructor)|refine uq (by decide) ?_|((first|refine vx env fun Q hQ=>?_|refine vz fun Q hQ=>?_);simp only [vkt,seval,zD,jC,qf,qd,aTk,cTk,qh,eTk,rTk,mTk,qx,qE,zf,qc,ql,qa,qb,rgS,ze,zB,zP,List.length_map,d2,d3,i0,hil,hb,ec,eb,b3,b4,hh,e8];(try simp only [ite_and]);(repeat' (first|with_reducible assumption|refine And.intro ?_ ?_|intro hp));all_goals (first|(refine hQ _ ?_;clear hQ Q)|(refine hQ _ (fun h=>?_) (fun h=>?_) <;> clear hQ Q <;> (try simp only [vki,reduceCtorEq] at h))|(refine vq ?_;kernel_rfl)|omega|assumption|with_reducible rfl|skip)))
            refine fin _ _ _ hKS hsl ?_
            simp only [rgS,hM,List.cons_append,List.nil_append]
            (refine Le.ok some [] ?_;constructor;all_goals (try simp only [vle,vkt,seval,zD,jC,qf,qd,aTk,cTk,qh,eTk,rTk,mTk,qx,qE,zf,qc,ql,qa,qb,rgS,ze,zB,zP,List.length_map]))
            all_goals first|rfl|(simp;done)
          |false =>
            have hh:wD c.sold b s=true:=by cases hx:wD c.sold b s;rw [hx] at hfr;exact absurd hfr (by decide);rfl
            rw [if_neg (by decide)] at hKS
            by_cases hf:f < (s:Int)
            · have d4:decide (f < (s:Int))=true:=decide_eq_true hf
              rw [if_pos hf] at hKS
              have hMS:L++(G++[(⟨0,0,b.cab,b.bed,f,(s:Int),false⟩:Tk)])=M++[⟨0,0,b.cab,b.bed,f,(s:Int),false⟩]:=by rw [← List.append_assoc,hM]
              repeat' (first|(apply nx;with_reducible constructor)|refine uq (by decide) ?_|((first|refine vx env fun Q hQ=>?_|refine vz fun Q hQ=>?_);simp only [vkt,seval,zD,jC,qf,qd,aTk,cTk,qh,eTk,rTk,mTk,qx,qE,zf,qc,ql,qa,qb,rgS,ze,zB,zP,List.length_map,d2,d3,d4,i0,hil,hb,ec,eb,b3,b4,hh,e8,hAl];(try simp only [ite_and]);(repeat' (first|with_reducible assumption|refine And.intro ?_ ?_|intro hp));all_goals (first|(refine hQ _ ?_;clear hQ Q)|(refine hQ _ (fun h=>?_) (fun h=>?_) <;> clear hQ Q <;> (try simp only [vki,reduceCtorEq] at h))|(refine vq ?_;kernel_rfl)|omega|assumption|with_reducible rfl|skip)))
              refine fin _ _ _ hKS hsl ?_
              simp only [rgS,hMS,List.cons_append,List.nil_append]
              (refine Le.ok (fun i=>if i=1 then some 3 else some i) [] ?_;constructor;all_goals (try simp only [vle,vkt,seval,zD,jC,qf,qd,aTk,cTk,qh,eTk,rTk,mTk,qx,qE,zf,qc,ql,qa,qb,rgS,ze,zB,zP,List.length_map]))
              all_goals first|rfl|(rw [List.map_append];rfl)|(simp;done)|(intro i hi;rw [if_neg (by omega)];done)
            · have d4:decide (f < (s:Int))=false:=decide_eq_false hf
              rw [if_neg hf] at hKS
              repeat' (first|(apply nx;with_reducible constructor)|refine uq (by decide) ?_|((first|refine vx env fun Q hQ=>?_|refine vz fun Q hQ=>?_);simp only [vkt,seval,zD,jC,qf,qd,aTk,cTk,qh,eTk,rTk,mTk,qx,qE,zf,qc,ql,qa,qb,rgS,ze,zB,zP,List.length_map,d2,d3,d4,i0,hil,hb,ec,eb,b3,b4,hh,e8];(try simp only [ite_and]);(repeat' (first|with_reducible assumption|refine And.intro ?_ ?_|intro hp));all_goals (first|(refine hQ _ ?_;clear hQ Q)|(refine hQ _ (fun h=>?_) (fun h=>?_) <;> clear hQ Q <;> (try simp only [vki,reduceCtorEq] at h))|(refine vq ?_;kernel_rfl)|omega|assumption|with_reducible rfl|skip)))
              refine fin _ _ _ hKS hsl ?_
              simp only [rgS,hM,List.cons_append,List.nil_append]
              (refine Le.ok some [] ?_;constructor;all_goals (try simp only [vle,vkt,seval,zD,jC,qf,qd,aTk,cTk,qh,eTk,rTk,mTk,qx,qE,zf,qc,ql,qa,qb,rgS,ze,zB,zP,List.length_map]))
              all_goals first|rfl|(simp;done)
        · have d3:decide ((s:Int) < c.secs)=false:=decide_eq_false hss
          have hq0:q=false:=by rw [← hq];unfold frB;rw [d3];rfl
          rw [hq0,if_neg (by decide)] at hKS
          by_cases hf:f < (s:Int)
          · have d4:decide (f < (s:Int))=true:=decide_eq_true hf
            rw [if_pos hf] at hKS
            have hMS:L++(G++[(⟨0,0,b.cab,b.bed,f,(s:Int),false⟩:Tk)])=M++[⟨0,0,b.cab,b.bed,f,(s:Int),false⟩]:=by rw [← List.append_assoc,hM]
            repeat' (first|(apply nx;with_reducible constructor)|refine uq (by decide) ?_|((first|refine vx env fun Q hQ=>?_|refine vz fun Q hQ=>?_);simp only [vkt,seval,zD,jC,qf,qd,aTk,cTk,qh,eTk,rTk,mTk,qx,qE,zf,qc,ql,qa,qb,rgS,ze,zB,zP,List.length_map,d2,d3,d4,i0,hil,hb,e8,hAl];(try simp only [ite_and]);(repeat' (first|with_reducible assumption|refine And.intro ?_ ?_|intro hp));all_goals (first|(refine hQ _ ?_;clear hQ Q)|(refine hQ _ (fun h=>?_) (fun h=>?_) <;> clear hQ Q <;> (try simp only [vki,reduceCtorEq] at h))|(refine vq ?_;kernel_rfl)|omega|assumption|with_reducible rfl|skip)))
            refine fin _ _ _ hKS hsl ?_
            simp only [rgS,hMS,List.cons_append,List.nil_append]
            (refine Le.ok (fun i=>if i=1 then some 3 else some i) [] ?_;constructor;all_goals (try simp only [vle,vkt,seval,zD,jC,qf,qd,aTk,cTk,qh,eTk,rTk,mTk,qx,qE,zf,qc,ql,qa,qb,rgS,ze,zB,zP,List.length_map]))
            all_goals first|rfl|(rw [List.map_append];rfl)|(simp;done)|(intro i hi;rw [if_neg (by omega)];done)
          · have d4:decide (f < (s:Int))=false:=decide_eq_false hf
            rw [if_neg hf] at hKS
            repeat' (first|(apply nx;with_reducible constructor)|refine uq (by decide) ?_|((first|refine vx env fun Q hQ=>?_|refine vz fun Q hQ=>?_);simp only [vkt,seval,zD,jC,qf,qd,aTk,cTk,qh,eTk,rTk,mTk,qx,qE,zf,qc,ql,qa,qb,rgS,ze,zB,zP,List.length_map,d2,d3,d4,i0,hil,hb,e8];(try simp only [ite_and]);(repeat' (first|with_reducible assumption|refine And.intro ?_ ?_|intro hp));all_goals (first|(refine hQ _ ?_;clear hQ Q)|(refine hQ _ (fun h=>?_) (fun h=>?_) <;> clear hQ Q <;> (try simp only [vki,reduceCtorEq] at h))|(refine vq ?_;kernel_rfl)|omega|assumption|with_reducible rfl|skip)))
            refine fin _ _ _ hKS hsl ?_
            simp only [rgS,hM,List.cons_append,List.nil_append]
            (refine Le.ok some [] ?_;constructor;all_goals (try simp only [vle,vkt,seval,zD,jC,qf,qd,aTk,cTk,qh,eTk,rTk,mTk,qx,qE,zf,qc,ql,qa,qb,rgS,ze,zB,zP,List.length_map]))
            all_goals first|rfl|(simp;done)
      · have d2:decide ((s:Int)≤c.secs)=false:=decide_eq_false (by omega)
        obtain rfl:s=gpN c:=by omega
        rw [hG] at hS
        simp only at hS
        rw [hM] at hS
        repeat' (first|(apply nx;with_reducible constructor)|refine uq (by decide) ?_|((first|refine vx env fun Q hQ=>?_|refine vz fun Q hQ=>?_);simp only [vkt,seval,zD,jC,qf,qd,aTk,cTk,qh,eTk,rTk,mTk,qx,qE,zf,qc,ql,qa,qb,rgS,ze,zB,zP,List.length_map,d2,e9];(try simp only [ite_and]);(repeat' (first|with_reducible assumption|refine And.intro ?_ ?_|intro hp));all_goals (first|(refine hQ _ ?_;clear hQ Q)|(refine hQ _ (fun h=>?_) (fun h=>?_) <;> clear hQ Q <;> (try simp only [vki,reduceCtorEq] at h))|(refine vq ?_;kernel_rfl)|omega|assumption|with_reducible rfl|skip)))
        refine ⟨⟨i+1,hil⟩,by show BS.length - (i+1) < BS.length - i;omega, ?_⟩
        simp only [rgS,hS,List.cons_append,List.nil_append]
        (refine Le.ok some [] ?_;constructor;all_goals (try simp only [vle,vkt,seval,zD,jC,qf,qd,aTk,cTk,qh,eTk,rTk,mTk,qx,qE,zf,qc,ql,qa,qb,rgS,ze,zB,zP,List.length_map]))
        all_goals first|rfl|(simp;done)
    · have d1:decide ((i:Int) < (BS.length:Int))=false:=decide_eq_false (by omega)
      obtain rfl:i=BS.length:=by omega
      rw [hLe]
      simp only [rgS,hLe,List.cons_append,List.nil_append]
      repeat' (first|(apply nx;with_reducible constructor)|refine uq (by decide) ?_|((first|refine vx env fun Q hQ=>?_|refine vz fun Q hQ=>?_);simp only [vkt,seval,zD,jC,qf,qd,aTk,cTk,qh,eTk,rTk,mTk,qx,qE,zf,qc,ql,qa,qb,rgS,ze,zB,zP,List.length_map,d1];(try simp only [ite_and]);(repeat' (first|with_reducible assumption|refine And.intro ?_ ?_|intro hp));all_goals (first|(refine hQ _ ?_;clear hQ Q)|(refine hQ _ (fun h=>?_) (fun h=>?_) <;> clear hQ Q <;> (try simp only [vki,reduceCtorEq] at h))|(refine vq ?_;kernel_rfl)|omega|assumption|with_reducible rfl|skip)))
      (simp only [vrt,Try.results61,vkt,seval,zD,jC,qf,qd,aTk,cTk,qh,eTk,rTk,mTk,qx,qE,zf,qc,ql,qa,qb,rgS,ze,zB,zP,List.length_map];refine Fin.val rfl ?_;(try simp only [AV.le,AV.leL]))
      all_goals first|rfl|(simp;done)|exact ⟨⟨_,_,rfl⟩,trivial,trivial⟩
  · have hE:xR c=([],e):=by unfold xR;rw [if_neg (by rw [he];exact h0),he]
    rw [hE]
    have d0:decide (e=0)=false:=decide_eq_false h0
    repeat' (first|(apply nx;with_reducible constructor)|refine uq (by decide) ?_|((first|refine vx env fun Q hQ=>?_|refine vz fun Q hQ=>?_);simp only [vkt,seval,zD,jC,qf,qd,aTk,cTk,qh,eTk,rTk,mTk,qx,qE,zf,qc,ql,qa,qb,rgS,ze,zB,zP,List.length_map,hc,hs,ec,he,d0];(try simp only [ite_and]);(repeat' (first|with_reducible assumption|refine And.intro ?_ ?_|intro hp));all_goals (first|(refine hQ _ ?_;clear hQ Q)|(refine hQ _ (fun h=>?_) (fun h=>?_) <;> clear hQ Q <;> (try simp only [vki,reduceCtorEq] at h))|(refine vq ?_;kernel_rfl)|omega|assumption|with_reducible rfl|skip)))
    (simp only [vrt,Try.results61,vkt,seval,zD,jC,qf,qd,aTk,cTk,qh,eTk,rTk,mTk,qx,qE,zf,qc,ql,qa,qb,rgS,ze,zB,zP,List.length_map];refine Fin.val rfl ?_;(try simp only [AV.le,AV.leL]))
    all_goals first|rfl|(simp;done)
def kF:List AV→Prop × AV
  |[.agg [.sl c0,.v (.int .i64 c1),.sl c2]]=>(c0=(c0.map qp).map qj∧c2=(c2.map dTk).map eTk∧((⟨(c0.map qp),c1,(c2.map dTk)⟩:Chart)).cabins.length≤maxLen∧((⟨(c0.map qp),c1,(c2.map dTk)⟩:Chart)).sold.length≤100000,.tup [qh (xR ((⟨(c0.map qp),c1,(c2.map dTk)⟩:Chart))).1,aI (xR ((⟨(c0.map qp),c1,(c2.map dTk)⟩:Chart))).2])
  |_=>(False,.junk)
theorem QiL {A:Frm→Prop}:qB A Try.prog 61 (qU false kF):=za fun vs hv h=>by
  clear hv
  unfold kF at h ⊢
  split at h
  · rename_i c0 c1 c2;obtain ⟨q0,q1,k0,k1⟩:=h
    refine ⟨by first|trivial|(simp [AV.plain,AV.plainL,aI,aB,qA,qd,qh,qf,aTk,cTk];done)|(repeat' split) <;> simp [AV.plain,AV.plainL,aI,aB,qA,qd,qh,qf,aTk,cTk],fun h=>absurd h (by decide), ?_⟩
    have:=Qfg ((⟨(c0.map qp),c1,(c2.map dTk)⟩:Chart)) k0 k1
    simp only [q9,qa,aI,qh,qb,← q0,← q1] at this
    first|exact this|(simp only [q9,qa,aI,qh,qb,← q0,← q1];exact this)
  · exact h.elim
end Go.Sym.B
namespace Go.Sym.B
open Go Go.Sym Go.Proofs Go.RowKit
def spI:Sp:=.int .i64
def spB:Sp:=.bool
theorem eI_of (r:List DV) (h:r.length=1) (hs:∀ (j:Nat) (s:Sp) (d:DV),[spI][j]?=some s→r[j]?=some d→D1 s d):∃ a,r=zX a:=by
  obtain ⟨d,rfl⟩:=List.length_eq_one_iff.1 h
  obtain ⟨n,rfl,_⟩:=(hs 0 spI d rfl rfl).int_inv
  exact ⟨n,rfl⟩
theorem Qjh (r:List DV) (h:r.length=2) (hs:∀ (j:Nat) (s:Sp) (d:DV),[spI,spB][j]?=some s→r[j]?=some d→D1 s d):∃ a,r=qj a:=by
  match r,h with
  |[a,b],_ =>
    obtain ⟨n,rfl,_⟩:=(hs 0 spI a rfl rfl).int_inv
    obtain ⟨m,rfl⟩:=(hs 1 spB b rfl rfl).bool_inv
    exact ⟨⟨n,m⟩,rfl⟩
theorem Qh4 (r:List DV) (h:r.length=7) (hs:∀ (j:Nat) (s:Sp) (d:DV),[spI,spI,spI,spI,spI,spI,spB][j]?=some s→r[j]?=some d→D1 s d):∃ a,r=eTk a:=by
  match r,h with
  |[a,b,c,d,e,f,g],_ =>
    obtain ⟨n1,rfl,_⟩:=(hs 0 spI a rfl rfl).int_inv
    obtain ⟨n2,rfl,_⟩:=(hs 1 spI b rfl rfl).int_inv
    obtain ⟨n3,rfl,_⟩:=(hs 2 spI c rfl rfl).int_inv
    obtain ⟨n4,rfl,_⟩:=(hs 3 spI d rfl rfl).int_inv
    obtain ⟨n5,rfl,_⟩:=(hs 4 spI e rfl rfl).int_inv
    obtain ⟨n6,rfl,_⟩:=(hs 5 spI f rfl rfl).int_inv
    obtain ⟨n7,rfl⟩:=(hs 6 spB g rfl rfl).bool_inv
    exact ⟨⟨n1,n2,n3,n4,n5,n6,n7⟩,rfl⟩
def spC:List Sp:=[.sl [spI,spB],spI,.sl [spI,spI,spI,spI,spI,spI,spB]]
def spT:List Sp:=[spI,spI,spI,spI,spI,spI,spB]
theorem flN:Fl Try.prog 22 [.sl [spI]]:=Zo (n:=6) (by kernel_rfl)
theorem flC:Fl Try.prog 28 spC:=Zo (n:=6) (by kernel_rfl)
theorem flT:Fl Try.prog 81 spT:=Zo (n:=6) (by kernel_rfl)
variable {H : Type} {enc : TypeId × Value → H} {W : World} {base : Nat} {spare : Nat → Bool} {held : Bool}
theorem Qeu {fuel:Nat} {v:Value} {x:DataW H × List MemPlace} (h:DataW.trod enc Try.prog W base spare held fuel 22 [v]=some x):∃ l:List Int,ARel W (okW W) R3 undef (qA l) v∧l.length≤maxLen:=by
  obtain ⟨ds,hd⟩:=JQ flN h
  obtain ⟨d,rfl,h1,h2⟩:=hd.one_inv
  obtain ⟨l,rfl,hl⟩:=h1.sl_inv zX eI_of
  exact ⟨l,La h2,hl⟩
theorem Qi2 {fuel:Nat} {cs:Array Value} {x:DataW H × List MemPlace} (h:DataW.trod enc Try.prog W base spare held fuel 81 cs.toList=some x):∃ e:Tk,ARel W (okW W) R3 undef (aTk e) (.agg cs):=by
  obtain ⟨ds,hd⟩:=JQ flT h
  obtain ⟨e,rfl⟩:=Qh4 ds hd.len hd.shape
  exact ⟨e,hd.agg⟩
theorem QdH {fuel:Nat} {cs:Array Value} {x:DataW H × List MemPlace} (h:DataW.trod enc Try.prog W base spare held fuel 28 cs.toList=some x):∃ l:Chart,ARel W (okW W) R3 undef (qa l) (.agg cs):=by
  obtain ⟨ds,hd⟩:=JQ flC h
  match ds,hd with
  |[a,b,c],hd =>
    obtain ⟨l1,rfl,_⟩:=(hd.shape 0 _ a rfl rfl).sl_inv qj Qjh
    obtain ⟨n,rfl,_⟩:=(hd.shape 1 _ b rfl rfl).int_inv
    obtain ⟨l3,rfl,_⟩:=(hd.shape 2 _ c rfl rfl).sl_inv eTk Qh4
    exact ⟨⟨l1,n,l3⟩,hd.agg⟩
  |[],hd=>exact absurd hd.len (by simp [spC])
  |[_],hd=>exact absurd hd.len (by simp [spC])
  |[_,_],hd=>exact absurd hd.len (by simp [spC])
  |_ :: _ :: _ :: _ :: _,hd=>exact absurd hd.len (by simp [spC])
theorem Ko {v:Value} (h:v.cells.toList.length ≠ 1):∃ cs,v=.agg cs:=by
  cases v <;> first|exact ⟨_,rfl⟩|(simp [Value.cells] at h)
theorem chart_of {v:Value} {d:DataW H} {p:List MemPlace} (h:DataW.Trod enc Try.prog W base spare held 28 v d p):∃ l:Chart,ARel W (okW W) R3 undef (qa l) v:=by
  obtain ⟨fuel,hf⟩:=h
  obtain ⟨ds,hd⟩:=JQ flC hf
  obtain ⟨cs,rfl⟩:=Ko (v:=v) (by rw [hd.clen];simp [spC])
  exact QdH hf
theorem tk_of {v:Value} {d:DataW H} {p:List MemPlace} (h:DataW.Trod enc Try.prog W base spare held 81 v d p):∃ l:Tk,ARel W (okW W) R3 undef (aTk l) v:=by
  obtain ⟨fuel,hf⟩:=h
  obtain ⟨ds,hd⟩:=JQ flT hf
  obtain ⟨cs,rfl⟩:=Ko (v:=v) (by rw [hd.clen];simp [spT])
  exact Qi2 hf
set_option maxRecDepth 100000 in
theorem ints_of {v:Value} {d:DataW H} {p:List MemPlace} {r:Reach} {b0:Nat} (h:DataW.Trod enc Try.prog W base spare held 22 v d p) (hu:Try.prog.underlying 22=some (.slice 3)) (hv:Value.okWide Try.prog W r b0 22 v):∃ l:List Int,ARel W (okW W) R3 undef (qA l) v∧l.length≤maxLen:=by
  obtain ⟨fuel,hf⟩:=h
  obtain ⟨a,n,c,rfl⟩:=WideShapes.okWide_slice hu hv
  exact Qeu hf
end Go.Sym.B
namespace Go.Sym.B
open Go Go.Sym Go.Proofs Go.Sym.C
def kI:List AV→Prop × AV
  |[.agg [.sl c0,.v (.int .i64 c1),.sl c2]]=>(c0=(c0.map qp).map qj∧c2=(c2.map dTk).map eTk∧((⟨(c0.map qp),c1,(c2.map dTk)⟩:Chart)).cabins.length≤maxLen,.tup [qh (xR ((⟨(c0.map qp),c1,(c2.map dTk)⟩:Chart))).1,aI (xR ((⟨(c0.map qp),c1,(c2.map dTk)⟩:Chart))).2])
  |_=>(False,.junk)
theorem QiI {A:Frm→Prop}:qB A Try.prog 60 (qU false kI):=za fun vs hv h=>by
  clear hv
  unfold kI at h ⊢
  split at h
  · rename_i c0 c1 c2;obtain ⟨q0,q1,k0⟩:=h
    refine ⟨by first|trivial|(simp [AV.plain,AV.plainL,aI,aB,qA,qd,qh,qf,aTk,cTk];done)|(repeat' split) <;> simp [AV.plain,AV.plainL,aI,aB,qA,qd,qh,qf,aTk,cTk],fun h=>absurd h (by decide), ?_⟩
    have:=Qhx ((⟨(c0.map qp),c1,(c2.map dTk)⟩:Chart)) k0
    simp only [q9,qa,aI,qh,qb,← q0,← q1] at this
    first|exact this|(simp only [q9,qa,aI,qh,qb,← q0,← q1];exact this)
  · exact h.elim
def kK:List AV→Prop × AV
  |[.agg [.sl c0,.v (.int .i64 c1),.sl c2]]=>(c0=(c0.map qp).map qj∧c2=(c2.map dTk).map eTk∧((⟨(c0.map qp),c1,(c2.map dTk)⟩:Chart)).cabins.length≤maxLen,.tup [qA (kg ((⟨(c0.map qp),c1,(c2.map dTk)⟩:Chart))).1,aI (kg ((⟨(c0.map qp),c1,(c2.map dTk)⟩:Chart))).2])
  |_=>(False,.junk)
theorem Qjj {A:Frm→Prop}:qB A Try.prog 57 (qU false kK):=za fun vs hv h=>by
  clear hv
  unfold kK at h ⊢
  split at h
  · rename_i c0 c1 c2;obtain ⟨q0,q1,k0⟩:=h
    refine ⟨by first|trivial|(simp [AV.plain,AV.plainL,aI,aB,qA,qd,qh,qf,aTk,cTk];done)|(repeat' split) <;> simp [AV.plain,AV.plainL,aI,aB,qA,qd,qh,qf,aTk,cTk],fun h=>absurd h (by decide), ?_⟩
    have:=QhJ ((⟨(c0.map qp),c1,(c2.map dTk)⟩:Chart)) k0
    simp only [q9,qa,aI,qh,qb,← q0,← q1] at this
    first|exact this|(simp only [q9,qa,aI,qh,qb,← q0,← q1];exact this)
  · exact h.elim
def loS (CL:List Chart) (i:Nat):St:={ t:=asg [(8,.row 9),(9,aI i)],h:=qg [(9,.row 28 3 (CL.map xG))],n:=10 }
theorem Qfr (c:Chart):(kg c).1.length≤5:=by
  unfold kg
  split
  · rename_i h
    have:=(kD h).car.secs
    simp only [List.length_map,List.length_range]
    omega
  · simp
theorem QgX (c:Chart):(xR c).1.length≤54:=by
  unfold xR
  split
  · rename_i h
    have hv:=kD h
    have h1:=Vl c (qQ c.cabins).length (Nat.le_refl _)
    have h2:=Vt hv.car.cabs.2 hv.car.beds
    have h3:=hv.car.secs
    have h4:(qQ c.cabins).length * gpN c≤9 * 6:=Nat.mul_le_mul h2 (by unfold gpN;omega)
    show (LZ c).length≤54
    unfold LZ
    omega
  · simp
def y8:=vj @ty3 (vj @xC (vj @jO (vj @QN (vj @yw (vj @ty94 (vj @ti3.eq_1 (vj @vP.eq_1 (vj @jE.eq_1 (vj @Qb.eq_1 (vj @j3.eq_1 @ti94.eq_1))))))))))
def kT:=vj @aI.eq_1 (vj @aB.eq_1 (vj @qA.eq_1 (vj @zX.eq_1 (@WS))))
set_option maxRecDepth 100000 in
set_option maxHeartbeats 40000000 in
theorem loadsLaw_fn (c:Chart) (more:Tk) (nums:List Int) (hnums:nums.length≤maxLen):FnV Try.prog 13 [qa c,aTk more,qA nums] (aB true):=by
  have env:Env (fun _=>True) Try.prog tyB (tab [(55,qU true kJ),(15,fnE Yz),(16,fnE yA),(56,qU false kP),(39,qU false kH),(57,qU false kK),(58,qU false kM),(26,qU true jU),(59,qU true kQ),(60,qU false kI),(61,qU false kF),(44,qU true qK),(62,qU true ze),(54,qU true Yx),(63,qU true Qh),(48,qU true YR),(25,qU true yF)]):=qP ⟨QiP,eBag,QfM,Qi0,Qi5,Qjj,QiN,QeC,QiD,QiI,QiL,Jw,Vm,eeqI,eeqK,eeqC,Qff,trivial⟩
  refine Fn.of (A:=fun _=>True) (n0:=0) (D:=noD) (Fn0 Try.func13 rfl (fun vs w=>by kernel_rfl) (by kernel_rfl)) (by simp) (by simp [AV.ids,AV.idsL,qA,qa,qb,aTk,cTk]) (fun i o h=>by cases h) (fun _ _ _ _=>trivial) qF ?_
  cases q0:decide (20 < (c.cabins.length:Int)) with
  |true =>
    repeat' (first|(apply nx;with_reducible constructor)|refine uq (by decide) ?_|((first|refine vx env fun Q hQ=>?_|refine vz fun Q hQ=>?_);simp only [vkt,seval,y8,kT,qh,aTk,cTk,eTk,xG,rTk,zJ,Zm,mTk,qc,qa,qb,loS,kJ,Yz,yA,kP,kH,kK,kM,jU,kQ,kI,kF,qK,ze,Yx,Qh,YR,yF,List.length_map,q0,Bool.true_or];(try simp only [ite_and]);(repeat' (first|with_reducible assumption|refine And.intro ?_ ?_|intro hp));all_goals (first|(refine hQ _ ?_;clear hQ Q)|(refine hQ _ (fun h=>?_) (fun h=>?_) <;> clear hQ Q <;> (try simp only [vki,reduceCtorEq] at h))|(refine vq ?_;kernel_rfl)|omega|assumption|with_reducible rfl|skip)))
    (simp only [vrt,Try.results13,vkt,seval,y8,kT,qh,aTk,cTk,eTk,xG,rTk,zJ,Zm,mTk,qc,qa,qb,loS,kJ,Yz,yA,kP,kH,kK,kM,jU,kQ,kI,kF,qK,ze,Yx,Qh,YR,yF,List.length_map];refine Fin.val rfl ?_;(try simp only [AV.le,AV.leL]))
    all_goals first|rfl|(simp;done)
  |false =>
  cases q1:decide (20 < (c.sold.length:Int)) with
  |true =>
    repeat' (first|(apply nx;with_reducible constructor)|refine uq (by decide) ?_|((first|refine vx env fun Q hQ=>?_|refine vz fun Q hQ=>?_);simp only [vkt,seval,y8,kT,qh,aTk,cTk,eTk,xG,rTk,zJ,Zm,mTk,qc,qa,qb,loS,kJ,Yz,yA,kP,kH,kK,kM,jU,kQ,kI,kF,qK,ze,Yx,Qh,YR,yF,List.length_map,q0,q1,Bool.false_or];(try simp only [ite_and]);(repeat' (first|with_reducible assumption|refine And.intro ?_ ?_|intro hp));all_goals (first|(refine hQ _ ?_;clear hQ Q)|(refine hQ _ (fun h=>?_) (fun h=>?_) <;> clear hQ Q <;> (try simp only [vki,reduceCtorEq] at h))|(refine vq ?_;kernel_rfl)|omega|assumption|with_reducible rfl|skip)))
    (simp only [vrt,Try.results13,vkt,seval,y8,kT,qh,aTk,cTk,eTk,xG,rTk,zJ,Zm,mTk,qc,qa,qb,loS,kJ,Yz,yA,kP,kH,kK,kM,jU,kQ,kI,kF,qK,ze,Yx,Qh,YR,yF,List.length_map];refine Fin.val rfl ?_;(try simp only [AV.le,AV.leL]))
    all_goals first|rfl|(simp;done)
  |false =>
  have g0:=of_decide_eq_false q0
  have g1:=of_decide_eq_false q1
  obtain ⟨x0,hx0⟩:∃ x,nbS nums=x:=⟨_,rfl⟩
  obtain ⟨hC0,hCp,hCs,hCc,hCg⟩:=co_ok (x:=x0) (a:=3) (g:=5) (s:=8) (by decide) (by decide) (by decide)
  obtain ⟨C,hC⟩:∃ C,coC x0 3 5 8=C:=⟨_,rfl⟩
  rw [hC] at hC0 hCp hCs hCc hCg
  have hmx:(100000:Nat)≤maxLen:=by decide
  have c1:C.cabins.length≤100000:=by omega
  have c2:C.sold.length≤1000:=by omega
  have eM:(⟨more.party,more.sex,more.cab,more.bed,more.frm,more.to,more.dog⟩:Tk)=more:=rfl
  have eT:List.map dTk [[DV.v (.int .i64 more.party),.v (.int .i64 more.sex),.v (.int .i64 more.cab),.v (.int .i64 more.bed),.v (.int .i64 more.frm),.v (.int .i64 more.to),.v (.bool more.dog)]]=[more]:=rfl
  obtain ⟨CL,hCL⟩:∃ CL,[c,C,(⟨C.cabins,C.secs,C.sold++[more]⟩:Chart)]=CL:=⟨_,rfl⟩
  have hCl:CL.length=3:=by rw [← hCL];rfl
  have hCb:∀ x ∈ CL,x.cabins.length≤100000∧x.sold.length≤100000:=by
    rw [← hCL]
    intro x hx
    simp only [List.mem_cons,List.not_mem_nil,or_false] at hx
    rcases hx with rfl|rfl|rfl
    · omega
    · omega
    · simp only [List.length_append,List.length_singleton];omega
  repeat' (first|(apply nx;with_reducible constructor)|refine uq (by decide) ?_|((first|refine vx env fun Q hQ=>?_|refine vz fun Q hQ=>?_);simp only [vkt,seval,y8,kT,qh,aTk,cTk,eTk,xG,rTk,zJ,Zm,mTk,qc,qa,qb,loS,kJ,Yz,yA,kP,kH,kK,kM,jU,kQ,kI,kF,qK,ze,Yx,Qh,YR,yF,List.length_map,q0,q1,hx0,hC,c1,c2,eM,eT,Bool.false_or];(try simp only [ite_and]);(repeat' (first|with_reducible assumption|refine And.intro ?_ ?_|intro hp));all_goals (first|(refine hQ _ ?_;clear hQ Q)|(refine hQ _ (fun h=>?_) (fun h=>?_) <;> clear hQ Q <;> (try simp only [vki,reduceCtorEq] at h))|(refine vq ?_;kernel_rfl)|omega|assumption|with_reducible rfl|skip)))
  refine qX (fun i:{ i:Nat // i≤CL.length }=>loS CL i.1) (fun i=>CL.length - i.1) ⟨0,Nat.zero_le _⟩ ?_ fun ⟨i,hi⟩=>?_
  · simp only [loS,← hCL]
    (refine Le.ok (fun i=>if i=9 then some 5 else none) [] ?_;constructor;all_goals (try simp only [vle,vkt,seval,y8,kT,qh,aTk,cTk,eTk,xG,rTk,zJ,Zm,mTk,qc,qa,qb,loS,kJ,Yz,yA,kP,kH,kK,kM,jU,kQ,kI,kF,qK,ze,Yx,Qh,YR,yF,List.length_map]))
    all_goals first|rfl|(simp;done)
  simp only at hi ⊢
  simp only [loS]
  by_cases hil:i < CL.length
  · have d1:decide ((i:Int) < (CL.length:Int))=true:=decide_eq_true (by omega)
    have e9:IntKind.wrap .i64 ((i:Int)+1)=((i+1:Nat):Int):=by rw [wrap64 (by omega) (by omega)];rfl
    have i0:((i:Int)).toNat=i:=rfl
    have hg:=QiG hil
    obtain ⟨b1,b2⟩:=hCb _ (vK (d:=default) hil)
    obtain ⟨x,hx⟩:∃ x,CL.getD i default=x:=⟨_,rfl⟩
    rw [hx] at hg b1 b2
    have ex:(⟨x.cabins,x.secs,x.sold⟩:Chart)=x:=rfl
    have b3:x.cabins.length≤maxLen:=by omega
    have b4:x.sold.length≤maxLen:=by omega
    have hl1:=Qfr x
    have hl2:=QgX x
    obtain ⟨⟨L,e1⟩,hL⟩:∃ p,kg x=p:=⟨_,rfl⟩
    obtain ⟨⟨G,e2⟩,hG⟩:∃ p,xR x=p:=⟨_,rfl⟩
    rw [hL] at hl1
    rw [hG] at hl2
    simp only at hl1 hl2
    have b5:L.length≤maxLen:=by omega
    have b6:G.length≤maxLen:=by omega
    repeat' (first|(apply nx;with_reducible constructor)|refine uq (by decide) ?_|((first|refine vx env fun Q hQ=>?_|refine vz fun Q hQ=>?_);simp only [vkt,seval,y8,kT,qh,aTk,cTk,eTk,xG,rTk,zJ,Zm,mTk,qc,qa,qb,loS,kJ,Yz,yA,kP,kH,kK,kM,jU,kQ,kI,kF,qK,ze,Yx,Qh,YR,yF,List.length_map,d1,e9,i0,hil,hg,hx,ex,b1,b2,b3,b4,hL,hG,b5,b6,decide_true,Bool.not_true,Bool.not_false];(try simp only [ite_and]);(repeat' (first|with_reducible assumption|refine And.intro ?_ ?_|intro hp));all_goals (first|(refine hQ _ ?_;clear hQ Q)|(refine hQ _ (fun h=>?_) (fun h=>?_) <;> clear hQ Q <;> (try simp only [vki,reduceCtorEq] at h))|(refine vq ?_;kernel_rfl)|omega|assumption|with_reducible rfl|skip)))
    refine ⟨⟨i+1,hil⟩,by show CL.length - (i+1) < CL.length - i;omega, ?_⟩
    simp only [loS]
    (refine Le.ok some [] ?_;constructor;all_goals (try simp only [vle,vkt,seval,y8,kT,qh,aTk,cTk,eTk,xG,rTk,zJ,Zm,mTk,qc,qa,qb,loS,kJ,Yz,yA,kP,kH,kK,kM,jU,kQ,kI,kF,qK,ze,Yx,Qh,YR,yF,List.length_map]))
    all_goals first|rfl|(simp;done)
  · have d1:decide ((i:Int) < (CL.length:Int))=false:=decide_eq_false (by omega)
    repeat' (first|(apply nx;with_reducible constructor)|refine uq (by decide) ?_|((first|refine vx env fun Q hQ=>?_|refine vz fun Q hQ=>?_);simp only [vkt,seval,y8,kT,qh,aTk,cTk,eTk,xG,rTk,zJ,Zm,mTk,qc,qa,qb,loS,kJ,Yz,yA,kP,kH,kK,kM,jU,kQ,kI,kF,qK,ze,Yx,Qh,YR,yF,List.length_map,d1];(try simp only [ite_and]);(repeat' (first|with_reducible assumption|refine And.intro ?_ ?_|intro hp));all_goals (first|(refine hQ _ ?_;clear hQ Q)|(refine hQ _ (fun h=>?_) (fun h=>?_) <;> clear hQ Q <;> (try simp only [vki,reduceCtorEq] at h))|(refine vq ?_;kernel_rfl)|omega|assumption|with_reducible rfl|skip)))
    (simp only [vrt,Try.results13,vkt,seval,y8,kT,qh,aTk,cTk,eTk,xG,rTk,zJ,Zm,mTk,qc,qa,qb,loS,kJ,Yz,yA,kP,kH,kK,kM,jU,kQ,kI,kF,qK,ze,Yx,Qh,YR,yF,List.length_map];refine Fin.val rfl ?_;(try simp only [AV.le,AV.leL]))
    all_goals first|rfl|(simp;done)
end Go.Sym.B
