/- Walks and what they compute, joined: part 1. -/
import Derived.Test.YtfljkbcphmnjkaaNB3
set_option linter.all false
namespace Go.Sym.B
open Go Go.Sym Go.Proofs Go.Sym.C
theorem _root_.Go.Sym.vj {a b:Prop} (x:a) (y:b):a∧b:=⟨x,y⟩
def _root_.Go.Sym.uq:=@Vt
def _root_.Go.Sym.ux:=@JY
def _root_.Go.Sym.uz:=@XX
def _root_.Go.Sym.uj:=@XB
def _root_.Go.Sym.uk:=@Um
def _root_.Go.Sym.uw:=@UF
def _root_.Go.Sym.uv:=@RG
def _root_.Go.Sym.vq:=@LX
def _root_.Go.Sym.vx:=@Qdy
def _root_.Go.Sym.vz:=@Qg7
end Go.Sym.B
namespace Go.Sym.B
open Go Go.Sym Go.Proofs Go.Sym.C
end Go.Sym.B
namespace Go.Sym.B
open Go Go.Sym Go.Proofs Go.Sym.C
def jK (a:Ask) (l:List Bunk) (k:Nat):List Tk:=(List.range k).map fun i=>kD a i (l.getD i default)
theorem XN (a:Ask) (l:List Bunk) (k:Nat):jK a l (k+1)=jK a l k++[kD a k (l.getD k default)]:=by
  unfold jK
  rw [List.range_succ,List.map_append];rfl
theorem VO (a:Ask) (l:List Bunk) (k:Nat):(jK a l k).length=k:=by simp [jK]
end Go.Sym.B
namespace Go.Sym.B
open Go Go.Sym Go.Proofs Go.Sym.C
theorem QhO {cs:List Cabin} (h2:∀ x ∈ cs,1≤x.beds∧x.beds≤3):(qV cs).length≤3 * cs.length:=by
  rw [K8]
  induction cs with
  |nil=>simp [ZB]
  |cons x l ih =>
    have h3:=ih fun y hy=>h2 y (List.mem_cons_of_mem _ hy)
    have h4:=h2 x (List.mem_cons_self ..)
    simp only [ZB,List.map_cons,List.sum_cons,List.length_cons] at h3 ⊢
    omega
theorem QiO {cs:List Cabin} (h1:cs.length≤3) (h2:∀ x ∈ cs,1≤x.beds∧x.beds≤3):(qV cs).length≤9:=by
  have:=QhO h2
  omega
end Go.Sym.B
namespace Go.Sym.B
open Go Go.Sym Go.Proofs Go.Sym.C
theorem Zv {t:Tk} {l:List Tk}:wo t l=0 ↔ ∀ x ∈ l,vY t x=false∧ZT x t=true:=by
  unfold wo
  constructor
  · intro h x hx
    split at h
    · exact absurd h (by decide)
    rename_i h1
    split at h
    · exact absurd h (by decide)
    rename_i h2
    refine ⟨?_, ?_⟩
    · cases hq:vY t x with
      |false=>rfl
      |true=>exact absurd (List.any_eq_true.2 ⟨x,hx,hq⟩) h1
    · cases hq:ZT x t with
      |true=>rfl
      |false=>exact absurd (List.any_eq_true.2 ⟨x,hx,by rw [hq];rfl⟩) h2
  · intro h
    rw [if_neg,if_neg]
    · rw [List.any_eq_true]
      rintro ⟨x,hx,h1⟩
      rw [(h x hx).2] at h1
      exact absurd h1 (by decide)
    · rw [List.any_eq_true]
      rintro ⟨x,hx,h1⟩
      rw [(h x hx).1] at h1
      exact absurd h1 (by decide)
structure RmInv (C:Chart) (a:Ask) (i:Nat) (c:Chart):Prop where
  chk:wB c=0
  cabs:c.cabins=C.cabins
  secs:c.secs=C.secs
  len:c.sold.length=C.sold.length+i
  lt:∀ t ∈ c.sold,t.party < 60+(i:Int)
end Go.Sym.B
namespace Go.Sym.B
open Go Go.Sym Go.Proofs Go.Sym.C
def bkF (i k:Nat):List Bunk:=(List.range k).map fun (m:Nat)=>⟨(i:Int),(m:Int)⟩
def bkP (cs:List Cabin) (i:Nat):List Bunk:=(List.range i).flatMap fun i=>bkF i (cs.getD i default).beds.toNat
theorem QfG (i k:Nat):bkF i (k+1)=bkF i k++[⟨(i:Int),(k:Int)⟩]:=by
  unfold bkF
  rw [List.range_succ,List.map_append];rfl
theorem QcS (i k:Nat):(bkF i k).length=k:=by simp [bkF]
theorem QaS (cs:List Cabin) (i:Nat):bkP cs (i+1)=bkP cs i++bkF i (cs.getD i default).beds.toNat:=by
  unfold bkP
  rw [List.range_succ,List.flatMap_append]
  simp
theorem Qdx {cs:List Cabin} (hb:∀ x ∈ cs,x.beds≤3):∀ i,i≤cs.length→(bkP cs i).length≤3 * i
  |0,_=>by simp [bkP]
  |i+1,h=>by
    have h1:=Qdx hb i (by omega)
    have h2:=hb _ (vL (d:=default) (show i < cs.length by omega))
    rw [QaS,List.length_append,QcS]
    omega
def bkS (c:Chart) (T:List (Nat × AV)) (l:List Bunk):St:={ t:=asg (T++[(1,.ptr 0 0),(3,.row 1)]),h:=qg [(0,.cells (qb c)),(1,.row 49 2 (l.map qp))],n:=2 }
def ji:=vj @ty3 (vj @VJ (vj @vg (vj @JI (vj @kZ (vj @VD (vj @ti3.eq_1 (vj @Yc.eq_1 (vj @yI.eq_1 (vj @Wi.eq_1 (vj @xQ.eq_1 @Yb.eq_1))))))))))
def Ql:=vj @aI.eq_1 (@aB.eq_1)
theorem QdJ (c:Chart) (hc:c.cabins.length≤3) (hb:∀ x ∈ c.cabins,x.beds≤3):FnV Try.prog 22 [qa c] (qc (qV c.cabins)):=by
  have env:Env (fun _=>True) Try.prog tyB (tab []):=qM trivial
  refine Fn.of (A:=fun _=>True) (n0:=0) (D:=noD) (Fn0 Try.func22 rfl (fun vs w=>by kernel_rfl) (by kernel_rfl)) (by simp) (by simp [AV.ids,AV.idsL,qa,qb]) (fun i o h=>by cases h) (fun _ _ _ _=>trivial) qH ?_
  have hmx:(100000:Nat)≤maxLen:=by decide
  rw [show qV c.cabins=bkP c.cabins c.cabins.length from rfl]
  repeat' (first|(apply nx;with_reducible constructor)|refine uq (by decide) ?_|((first|refine vx env fun Q hQ=>?_|refine vz fun Q hQ=>?_);simp only [vkt,seval,ji,Ql,ql,qc,qp,qE,qW,qo,qG,ze,qd,mTk,qa,qb,bkS,List.length_map];(try simp only [ite_and]);(repeat' (first|with_reducible assumption|refine And.intro ?_ ?_|intro hp));all_goals (first|(refine hQ _ ?_;clear hQ Q)|(refine hQ _ (fun h=>?_) (fun h=>?_) <;> clear hQ Q <;> (try simp only [vki,reduceCtorEq] at h))|(refine vq ?_;kernel_rfl)|omega|assumption|with_reducible rfl|skip)))
  refine qU (fun i:{ i:Nat // i≤c.cabins.length }=>bkS c [(4,aI i.1)] (bkP c.cabins i.1)) (fun i=>c.cabins.length - i.1) ⟨0,Nat.zero_le _⟩ ?_ fun ⟨i,hi⟩=>?_
  · simp only [bkS,show bkP c.cabins 0=[] from rfl,List.cons_append,List.nil_append]
    (refine Le.ok (fun i=>if i=1 then none else some i) [] ?_;constructor;all_goals (try simp only [vle,vkt,seval,ji,Ql,ql,qc,qp,qE,qW,qo,qG,ze,qd,mTk,qa,qb,bkS,List.length_map]))
    all_goals first|rfl|(simp;done)
  simp only at hi ⊢
  have hL:=Qdx hb i hi
  have hS:=QaS c.cabins i
  obtain ⟨L,hLe⟩:∃ L,bkP c.cabins i=L:=⟨_,rfl⟩
  rw [hLe] at hL hS
  rw [hLe]
  by_cases hil:i < c.cabins.length
  · have d1:decide ((i:Int) < (c.cabins.length:Int))=true:=decide_eq_true (by omega)
    have e9:IntKind.wrap .i64 ((i:Int)+1)=((i+1:Nat):Int):=by rw [wrap64 (by omega) (by omega)];rfl
    have i0:((i:Int)).toNat=i:=rfl
    obtain ⟨x,hx⟩:∃ x,c.cabins.getD i default=x:=⟨_,rfl⟩
    have hxb:=hb x (by rw [← hx];exact vL hil)
    rw [hx] at hS
    simp only [bkS,List.cons_append,List.nil_append]
    repeat' (first|(apply nx;with_reducible constructor)|refine uq (by decide) ?_|((first|refine vx env fun Q hQ=>?_|refine vz fun Q hQ=>?_);simp only [vkt,seval,ji,Ql,ql,qc,qp,qE,qW,qo,qG,ze,qd,mTk,qa,qb,bkS,List.length_map,d1,i0];(try simp only [ite_and]);(repeat' (first|with_reducible assumption|refine And.intro ?_ ?_|intro hp));all_goals (first|(refine hQ _ ?_;clear hQ Q)|(refine hQ _ (fun h=>?_) (fun h=>?_) <;> clear hQ Q <;> (try simp only [vki,reduceCtorEq] at h))|(refine vq ?_;kernel_rfl)|omega|assumption|with_reducible rfl|skip)))
    refine qU (fun k:{ k:Nat // k≤x.beds.toNat }=>bkS c [(4,aI i),(5,aI k.1)] (L++bkF i k.1)) (fun k=>x.beds.toNat - k.1) ⟨0,Nat.zero_le _⟩ ?_ fun ⟨k,hk⟩=>?_
    · simp only [bkS,show bkF i 0=[] from rfl,List.append_nil,List.cons_append,List.nil_append]
      (refine Le.ok some [] ?_;constructor;all_goals (try simp only [vle,vkt,seval,ji,Ql,ql,qc,qp,qE,qW,qo,qG,ze,qd,mTk,qa,qb,bkS,List.length_map]))
      all_goals first|rfl|(simp;done)
    simp only at hk ⊢
    have hF:=QfG i k
    have hFl:(L++bkF i k).length≤100:=by rw [List.length_append,QcS];omega
    obtain ⟨M,hM⟩:∃ M,L++bkF i k=M:=⟨_,rfl⟩
    have hMS:L++bkF i (k+1)=M++[⟨(i:Int),(k:Int)⟩]:=by rw [hF,← List.append_assoc,hM]
    rw [hM] at hFl
    simp only [bkS,hM,List.cons_append,List.nil_append]
    by_cases hkl:k < x.beds.toNat
    · have d2:decide ((k:Int) < x.beds)=true:=decide_eq_true (by omega)
      have e8:IntKind.wrap .i64 ((k:Int)+1)=((k+1:Nat):Int):=by rw [wrap64 (by omega) (by omega)];rfl
      have hm:M.length+1≤maxLen:=by omega
      repeat' (first|(apply nx;with_reducible constructor)|refine uq (by decide) ?_|((first|refine vx env fun Q hQ=>?_|refine vz fun Q hQ=>?_);simp only [vkt,seval,ji,Ql,ql,qc,qp,qE,qW,qo,qG,ze,qd,mTk,qa,qb,bkS,List.length_map,i0,hil,hx,d2,e8,hm];(try simp only [ite_and]);(repeat' (first|with_reducible assumption|refine And.intro ?_ ?_|intro hp));all_goals (first|(refine hQ _ ?_;clear hQ Q)|(refine hQ _ (fun h=>?_) (fun h=>?_) <;> clear hQ Q <;> (try simp only [vki,reduceCtorEq] at h))|(refine vq ?_;kernel_rfl)|omega|assumption|with_reducible rfl|skip)))
      refine ⟨⟨k+1,hkl⟩,by show x.beds.toNat - (k+1) < x.beds.toNat - k;omega, ?_⟩
      simp only [bkS,hMS,List.cons_append,List.nil_append]
      (refine Le.ok (fun i=>if i=1 then some 3 else some i) [] ?_;constructor;all_goals (try simp only [vle,vkt,seval,ji,Ql,ql,qc,qp,qE,qW,qo,qG,ze,qd,mTk,qa,qb,bkS,List.length_map]))
      all_goals first|rfl|(rw [List.map_append];rfl)|(simp;done)|(intro i hi;rw [if_neg (by omega)];done)
    · have d2:decide ((k:Int) < x.beds)=false:=decide_eq_false (by omega)
      obtain rfl:k=x.beds.toNat:=by omega
      repeat' (first|(apply nx;with_reducible constructor)|refine uq (by decide) ?_|((first|refine vx env fun Q hQ=>?_|refine vz fun Q hQ=>?_);simp only [vkt,seval,ji,Ql,ql,qc,qp,qE,qW,qo,qG,ze,qd,mTk,qa,qb,bkS,List.length_map,i0,hil,hx,d2,e9];(try simp only [ite_and]);(repeat' (first|with_reducible assumption|refine And.intro ?_ ?_|intro hp));all_goals (first|(refine hQ _ ?_;clear hQ Q)|(refine hQ _ (fun h=>?_) (fun h=>?_) <;> clear hQ Q <;> (try simp only [vki,reduceCtorEq] at h))|(refine vq ?_;kernel_rfl)|omega|assumption|with_reducible rfl|skip)))
      refine ⟨⟨i+1,hil⟩,by show c.cabins.length - (i+1) < c.cabins.length - i;omega, ?_⟩
      simp only [bkS,hS,hM,List.cons_append,List.nil_append]
      (refine Le.ok some [] ?_;constructor;all_goals (try simp only [vle,vkt,seval,ji,Ql,ql,qc,qp,qE,qW,qo,qG,ze,qd,mTk,qa,qb,bkS,List.length_map]))
      all_goals first|rfl|(simp;done)
  · have d1:decide ((i:Int) < (c.cabins.length:Int))=false:=decide_eq_false (by omega)
    obtain rfl:i=c.cabins.length:=by omega
    rw [hLe]
    simp only [bkS,List.cons_append,List.nil_append]
    repeat' (first|(apply nx;with_reducible constructor)|refine uq (by decide) ?_|((first|refine vx env fun Q hQ=>?_|refine vz fun Q hQ=>?_);simp only [vkt,seval,ji,Ql,ql,qc,qp,qE,qW,qo,qG,ze,qd,mTk,qa,qb,bkS,List.length_map,d1];(try simp only [ite_and]);(repeat' (first|with_reducible assumption|refine And.intro ?_ ?_|intro hp));all_goals (first|(refine hQ _ ?_;clear hQ Q)|(refine hQ _ (fun h=>?_) (fun h=>?_) <;> clear hQ Q <;> (try simp only [vki,reduceCtorEq] at h))|(refine vq ?_;kernel_rfl)|omega|assumption|with_reducible rfl|skip)))
    (simp only [vrt,Try.results22,vkt,seval,ji,Ql,ql,qc,qp,qE,qW,qo,qG,ze,qd,mTk,qa,qb,bkS,List.length_map];refine Fin.val rfl ?_;(try simp only [AV.le,AV.leL]))
    all_goals first|rfl|(simp;done)|exact ⟨_,_,rfl⟩
def yX:List AV→Prop × AV
  |[.agg [.sl c0,.v (.int .i64 c1),.sl c2]]=>(c0=(c0.map qB).map qo∧c2=(c2.map dTk).map eTk∧((⟨(c0.map qB),c1,(c2.map dTk)⟩:Chart)).cabins.length≤3∧∀ x ∈ ((⟨(c0.map qB),c1,(c2.map dTk)⟩:Chart)).cabins,x.beds≤3,qc (qV ((⟨(c0.map qB),c1,(c2.map dTk)⟩:Chart)).cabins))
  |_=>(False,.junk)
theorem QhP {A:Frm→Prop}:qC A Try.prog 22 (zk false yX):=zn fun vs hv h=>by
  clear hv
  unfold yX at h ⊢
  split at h
  · rename_i c0 c1 c2;obtain ⟨q0,q1,k0,k1⟩:=h
    refine ⟨by first|trivial|(simp [AV.plain,AV.plainL,aI,aB,qA,qc,qx,ql,aTk,cTk];done)|(repeat' split) <;> simp [AV.plain,AV.plainL,aI,aB,qA,qc,qx,ql,aTk,cTk],fun h=>absurd h (by decide), ?_⟩
    have:=QdJ ((⟨(c0.map qB),c1,(c2.map dTk)⟩:Chart)) k0 k1
    simp only [zR,qa,aI,qx,qb,← q0,← q1] at this
    first|exact this|(simp only [zR,qa,aI,qx,qb,← q0,← q1];exact this)
  · exact h.elim
def alL (bs:List Bunk):Nat→List (List Bunk)
  |0=>[[]]
  |m+1=>bs.flatMap fun b=>(alL bs m).map (b :: ·)
theorem UC (bs:List Bunk):∀ m,(alL bs m).length=bs.length ^ m
  |0=>rfl
  |m+1=>by
    rw [alL,List.length_flatMap]
    simp only [List.length_map,UC bs m]
    rw [List.map_const',List.sum_replicate_nat,Nat.pow_succ,Nat.mul_comm]
theorem Yu {bs:List Bunk}:∀ {m},∀ p ∈ alL bs m,p.length=m
  |0,p,hp=>by rw [List.mem_singleton.1 hp];rfl
  |m+1,p,hp=>by
    obtain ⟨b,_,hp⟩:=List.mem_flatMap.1 hp
    obtain ⟨q,hq,rfl⟩:=List.mem_map.1 hp
    rw [List.length_cons,Yu q hq]
def alP (bs:List Bunk) (R:List (List Bunk)) (i:Nat):List (List Bunk):=(bs.take i).flatMap fun b=>R.map (b :: ·)
theorem QfA {bs:List Bunk} (R:List (List Bunk)) {i:Nat} (h:i < bs.length):alP bs R (i+1)=alP bs R i++R.map ((bs.getD i default) :: ·):=by
  unfold alP
  rw [List.take_succ_eq_append_getElem h,List.flatMap_append,List.getD_eq_getElem?_getD,List.getElem?_eq_getElem h]
  simp
theorem Qix (bs:List Bunk) (R:List (List Bunk)) (i:Nat):(alP bs R i).length≤i * R.length:=by
  unfold alP
  rw [List.length_flatMap]
  simp only [List.length_map]
  rw [List.map_const',List.sum_replicate_nat]
  exact Nat.mul_le_mul_right _ (by rw [List.length_take];omega)
def QfS (m:Nat):Prop:=∀ bs:List Bunk,bs.length≤9→m≤3→Fn noB Try.prog 21 [qc bs,aI m] noH (.row 0) (qg [(0,.row 37 1 ((alL bs m).map qz))]) 0
def pAl (m:Nat) (_:St):List AV→Option Pk
  |[.sl bs,.v (.int .i64 n)]=>some { pre:=bs=(bs.map zG).map qp∧n=m∧bs.length≤9∧m≤3,ar:=[.sl bs,.v (.int .i64 n)],v:=.row 0,L1:=[some (.row 37 1 ((alL (bs.map zG) m).map qz))] }
  |_=>none
theorem eAl {A:Frm→Prop} {m:Nat} (ih:QfS m):qC A Try.prog 21 (fnE (pAl m)):=zx fun S bs q h hp=>by
  unfold pAl at h
  split at h
  · rename_i bs n
    cases h
    obtain ⟨h1,rfl,h3,h4⟩:=hp
    have:=ih (bs.map zG) (by rw [List.length_map];exact h3) h4
    rw [qc,← h1] at this
    exact this
  · cases h
def alS (bs:List Bunk) (R M:List (List Bunk)) (T:List (Nat × AV)):St:={ t:=asg (T++[(0,qc bs),(5,.row 1),(6,.row 0)]),h:=qg [(0,.row 37 1 (R.map qz)),(1,.row 37 1 (M.map qz))],n:=2 }
def zX:=vj @ty3 (vj @QeA (vj @JI (vj @kZ (vj @ti3.eq_1 (vj @UY.eq_1 (vj @Wi.eq_1 @xQ.eq_1))))))
def vO:=vj @aI.eq_1 (@aB.eq_1)
theorem Qio:QfS 0:=by
  intro bs _ _
  have env:Env (fun _=>True) Try.prog tyB (tab []):=qM trivial
  refine Fn.of (A:=fun _=>True) (n0:=0) (D:=noD) (Fn0 Try.func21 rfl (fun vs w=>by kernel_rfl) (by kernel_rfl)) (by simp) (by simp [AV.ids,AV.idsL,qc,aI]) (fun i o h=>by cases h) (fun _ _ _ _=>trivial) qH ?_
  show Sym _ _ _ (zq [qc bs,aI 0] 0 noH) (yB tyB noD Try.f21 fun S rv=>Fin S rv (.row 0) 0 (qg [(0,.row 37 1 [qz []])]) 0)
  repeat' (first|(apply nx;with_reducible constructor)|refine uq (by decide) ?_|((first|refine vx env fun Q hQ=>?_|refine vz fun Q hQ=>?_);simp only [vkt,seval,zX,vO,ql,qc,qp,qz,qE,qP,qW,qQ,ze,pAl,alS,List.length_map,decide_true];(try simp only [ite_and]);(repeat' (first|with_reducible assumption|refine And.intro ?_ ?_|intro hp));all_goals (first|(refine hQ _ ?_;clear hQ Q)|(refine hQ _ (fun h=>?_) (fun h=>?_) <;> clear hQ Q <;> (try simp only [vki,reduceCtorEq] at h))|(refine vq ?_;kernel_rfl)|omega|assumption|with_reducible rfl|skip)))
  (simp only [vrt,Try.results21,vkt,seval,zX,vO,ql,qc,qp,qz,qE,qP,qW,qQ,ze,pAl,alS,List.length_map];refine Fin.ok some [] ?_ ?_ ?_ ?_ ?_ rfl;all_goals (try simp only [vle,vkt,seval,zX,vO,ql,qc,qp,qz,qE,qP,qW,qQ,ze,pAl,alS,List.length_map]))
  all_goals first|rfl|(simp;done)
theorem Qig (m:Nat) (ih:QfS m):QfS (m+1):=by
  intro bs hbs hm3
  have env:Env (fun _=>True) Try.prog tyB (tab [(21,fnE (pAl m))]):=qM ⟨eAl ih,trivial⟩
  refine Fn.of (A:=fun _=>True) (n0:=0) (D:=noD) (Fn0 Try.func21 rfl (fun vs w=>by kernel_rfl) (by kernel_rfl)) (by simp) (by simp [AV.ids,AV.idsL,qc,aI]) (fun i o h=>by cases h) (fun _ _ _ _=>trivial) qH ?_
  have hmx:(100000:Nat)≤maxLen:=by decide
  obtain ⟨R,hR⟩:∃ R,alL bs m=R:=⟨_,rfl⟩
  have hRl:R.length≤1000:=by
    rw [← hR,UC]
    have h1:bs.length ^ m≤9 ^ m:=Nat.pow_le_pow_left hbs m
    have h2:9 ^ m≤9 ^ 3:=Nat.pow_le_pow_right (by decide) (by omega)
    omega
  have hR1:∀ p ∈ R,p.length≤3:=fun p hp=>by
    rw [← hR] at hp
    have:=Yu p hp
    omega
  have hF:alL bs (m+1)=alP bs R bs.length:=by unfold alP;rw [List.take_length,← hR];rfl
  rw [hF]
  have d0:decide (((m+1:Nat):Int)=0)=false:=decide_eq_false (by omega)
  have w0:IntKind.wrap .i64 (((m+1:Nat):Int) - 1)=(m:Int):=by rw [wrap64 (by omega) (by omega)];omega
  have hm3':m≤3:=by omega
  repeat' (first|(apply nx;with_reducible constructor)|refine uq (by decide) ?_|((first|refine vx env fun Q hQ=>?_|refine vz fun Q hQ=>?_);simp only [vkt,seval,zX,vO,ql,qc,qp,qz,qE,qP,qW,qQ,ze,pAl,alS,List.length_map,d0,w0,hbs,hm3',hR];(try simp only [ite_and]);(repeat' (first|with_reducible assumption|refine And.intro ?_ ?_|intro hp));all_goals (first|(refine hQ _ ?_;clear hQ Q)|(refine hQ _ (fun h=>?_) (fun h=>?_) <;> clear hQ Q <;> (try simp only [vki,reduceCtorEq] at h))|(refine vq ?_;kernel_rfl)|omega|assumption|with_reducible rfl|skip)))
  refine qU (fun i:{ i:Nat // i≤bs.length }=>alS bs R (alP bs R i.1) [(7,aI i.1)]) (fun i=>bs.length - i.1) ⟨0,Nat.zero_le _⟩ ?_ fun ⟨i,hi⟩=>?_
  · simp only [alS,show alP bs R 0=[] from rfl,List.cons_append,List.nil_append]
    (refine Le.ok (fun i=>if i=1 then none else some i) [] ?_;constructor;all_goals (try simp only [vle,vkt,seval,zX,vO,ql,qc,qp,qz,qE,qP,qW,qQ,ze,pAl,alS,List.length_map]))
    all_goals first|rfl|(simp;done)
  simp only at hi ⊢
  have hL:=Qix bs R i
  have hL2:i * R.length≤9 * 1000:=Nat.mul_le_mul (by omega) hRl
  obtain ⟨L,hLe⟩:∃ L,alP bs R i=L:=⟨_,rfl⟩
  rw [hLe] at hL
  rw [hLe]
  by_cases hil:i < bs.length
  · have d1:decide ((i:Int) < (bs.length:Int))=true:=decide_eq_true (by omega)
    have e9:IntKind.wrap .i64 ((i:Int)+1)=((i+1:Nat):Int):=by rw [wrap64 (by omega) (by omega)];rfl
    have i0:((i:Int)).toNat=i:=rfl
    obtain ⟨b,hbe⟩:∃ b,bs.getD i default=b:=⟨_,rfl⟩
    have hS:=QfA R hil
    rw [hLe,hbe] at hS
    simp only [alS,List.cons_append,List.nil_append]
    repeat' (first|(apply nx;with_reducible constructor)|refine uq (by decide) ?_|((first|refine vx env fun Q hQ=>?_|refine vz fun Q hQ=>?_);simp only [vkt,seval,zX,vO,ql,qc,qp,qz,qE,qP,qW,qQ,ze,pAl,alS,List.length_map,d1,i0];(try simp only [ite_and]);(repeat' (first|with_reducible assumption|refine And.intro ?_ ?_|intro hp));all_goals (first|(refine hQ _ ?_;clear hQ Q)|(refine hQ _ (fun h=>?_) (fun h=>?_) <;> clear hQ Q <;> (try simp only [vki,reduceCtorEq] at h))|(refine vq ?_;kernel_rfl)|omega|assumption|with_reducible rfl|skip)))
    refine qU (fun k:{ k:Nat // k≤R.length }=>alS bs R (L++(R.take k.1).map (b :: ·)) [(7,aI i),(8,aI k.1)]) (fun k=>R.length - k.1) ⟨0,Nat.zero_le _⟩ ?_ fun ⟨k,hk⟩=>?_
    · simp only [alS,List.take_zero,List.map_nil,List.append_nil,List.cons_append,List.nil_append]
      (refine Le.ok some [] ?_;constructor;all_goals (try simp only [vle,vkt,seval,zX,vO,ql,qc,qp,qz,qE,qP,qW,qQ,ze,pAl,alS,List.length_map]))
      all_goals first|rfl|(simp;done)
    simp only at hk ⊢
    obtain ⟨M,hM⟩:∃ M,L++(R.take k).map (b :: ·)=M:=⟨_,rfl⟩
    have hMl:M.length≤10000:=by rw [← hM,List.length_append,List.length_map,List.length_take];omega
    simp only [alS,hM,List.cons_append,List.nil_append]
    by_cases hkl:k < R.length
    · have d2:decide ((k:Int) < (R.length:Int))=true:=decide_eq_true (by omega)
      have e8:IntKind.wrap .i64 ((k:Int)+1)=((k+1:Nat):Int):=by rw [wrap64 (by omega) (by omega)];rfl
      have k0:((k:Int)).toNat=k:=rfl
      have hm:M.length+1≤maxLen:=by omega
      obtain ⟨p,hp⟩:∃ p,R.getD k []=p:=⟨_,rfl⟩
      have hg:=UZ hkl
      rw [hp] at hg
      have hpl:=hR1 p (by rw [← hp];exact vL hkl)
      have hpm:1+p.length≤maxLen:=by omega
      have hMS:L++(R.take (k+1)).map (b :: ·)=M++[b :: p]:=by
        rw [List.take_succ_eq_append_getElem hkl,List.map_append,← List.append_assoc,hM,← hp]
        simp [List.getD_eq_getElem?_getD,hkl]
      repeat' (first|(apply nx;with_reducible constructor)|refine uq (by decide) ?_|((first|refine vx env fun Q hQ=>?_|refine vz fun Q hQ=>?_);simp only [vkt,seval,zX,vO,ql,qc,qp,qz,qE,qP,qW,qQ,ze,pAl,alS,List.length_map,i0,k0,hil,hkl,hbe,hp,hg,d2,e8,hm,hpm];(try simp only [ite_and]);(repeat' (first|with_reducible assumption|refine And.intro ?_ ?_|intro hp));all_goals (first|(refine hQ _ ?_;clear hQ Q)|(refine hQ _ (fun h=>?_) (fun h=>?_) <;> clear hQ Q <;> (try simp only [vki,reduceCtorEq] at h))|(refine vq ?_;kernel_rfl)|omega|assumption|with_reducible rfl|skip)))
      refine ⟨⟨k+1,hkl⟩,by show R.length - (k+1) < R.length - k;omega, ?_⟩
      simp only [alS,hMS,List.cons_append,List.nil_append]
      (refine Le.ok (fun i=>if i=1 then some 5 else some i) [] ?_;constructor;all_goals (try simp only [vle,vkt,seval,zX,vO,ql,qc,qp,qz,qE,qP,qW,qQ,ze,pAl,alS,List.length_map]))
      all_goals first|rfl|(rw [List.map_append];rfl)|(simp;done)|(intro i hi;rw [if_neg (by omega)];done)
    · have d2:decide ((k:Int) < (R.length:Int))=false:=decide_eq_false (by omega)
      obtain rfl:k=R.length:=by omega
      rw [List.take_length] at hM
      repeat' (first|(apply nx;with_reducible constructor)|refine uq (by decide) ?_|((first|refine vx env fun Q hQ=>?_|refine vz fun Q hQ=>?_);simp only [vkt,seval,zX,vO,ql,qc,qp,qz,qE,qP,qW,qQ,ze,pAl,alS,List.length_map,d2,e9];(try simp only [ite_and]);(repeat' (first|with_reducible assumption|refine And.intro ?_ ?_|intro hp));all_goals (first|(refine hQ _ ?_;clear hQ Q)|(refine hQ _ (fun h=>?_) (fun h=>?_) <;> clear hQ Q <;> (try simp only [vki,reduceCtorEq] at h))|(refine vq ?_;kernel_rfl)|omega|assumption|with_reducible rfl|skip)))
      refine ⟨⟨i+1,hil⟩,by show bs.length - (i+1) < bs.length - i;omega, ?_⟩
      simp only [alS,hS,hM,List.cons_append,List.nil_append]
      (refine Le.ok some [] ?_;constructor;all_goals (try simp only [vle,vkt,seval,zX,vO,ql,qc,qp,qz,qE,qP,qW,qQ,ze,pAl,alS,List.length_map]))
      all_goals first|rfl|(simp;done)
  · have d1:decide ((i:Int) < (bs.length:Int))=false:=decide_eq_false (by omega)
    obtain rfl:i=bs.length:=by omega
    rw [hLe]
    simp only [alS,List.cons_append,List.nil_append]
    repeat' (first|(apply nx;with_reducible constructor)|refine uq (by decide) ?_|((first|refine vx env fun Q hQ=>?_|refine vz fun Q hQ=>?_);simp only [vkt,seval,zX,vO,ql,qc,qp,qz,qE,qP,qW,qQ,ze,pAl,alS,List.length_map,d1];(try simp only [ite_and]);(repeat' (first|with_reducible assumption|refine And.intro ?_ ?_|intro hp));all_goals (first|(refine hQ _ ?_;clear hQ Q)|(refine hQ _ (fun h=>?_) (fun h=>?_) <;> clear hQ Q <;> (try simp only [vki,reduceCtorEq] at h))|(refine vq ?_;kernel_rfl)|omega|assumption|with_reducible rfl|skip)))
    (simp only [vrt,Try.results21,vkt,seval,zX,vO,ql,qc,qp,qz,qE,qP,qW,qQ,ze,pAl,alS,List.length_map];refine Fin.ok (fun j=>[1][j]?) [] ?_ ?_ ?_ ?_ ?_ rfl;all_goals (try simp only [vle,vkt,seval,zX,vO,ql,qc,qp,qz,qE,qP,qW,qQ,ze,pAl,alS,List.length_map]))
    all_goals first|rfl|(simp;done)
theorem QfD:∀ m,QfS m
  |0=>Qio
  |m+1=>Qig m (QfD m)
end Go.Sym.B
namespace Go.Sym.B
open Go Go.Sym Go.Proofs Go.Sym.C
def rtS (a:Ask) (l:List Bunk) (k:Nat):St:={ t:=asg [(1,qc l),(2,.ptr 0 0),(5,.row 1),(6,aI k)],h:=qg [(0,.cells (qj a)),(1,qh (jK a l k))],n:=2 }
def Qh:=vj @ty3 (vj @ty4 (vj @Qf (vj @Zb (vj @kX (vj @JI (vj @kZ (vj @xy (vj @ti3.eq_1 (vj @ti4.eq_1 (vj @kC.eq_1 (vj @Qx.eq_1 (vj @xB.eq_1 (vj @Wi.eq_1 (vj @xQ.eq_1 @vW.eq_1))))))))))))))
def Jp:=vj @aI.eq_1 (vj @aB.eq_1 (vj @zC.eq_1 (vj @Y4 (@kW))))
theorem Qij (a:Ask) (l:List Bunk) (hl:l.length≤100) (ha:a.sexes.length=l.length):FnV Try.prog 75 [qw a,qc l] (qx (jK a l l.length)):=by
  have env:Env (fun _=>True) Try.prog tyB (tab []):=qM trivial
  refine Fn.of (A:=fun _=>True) (n0:=0) (D:=noD) (Fn0 Try.func75 rfl (fun vs w=>by kernel_rfl) (by kernel_rfl)) (by simp) (by simp [AV.ids,AV.idsL,qw,qj,qc]) (fun i o h=>by cases h) (fun _ _ _ _=>trivial) qH ?_
  have hmx:(100000:Nat)≤maxLen:=by decide
  repeat' (first|(apply nx;with_reducible constructor)|refine uq (by decide) ?_|((first|refine vx env fun Q hQ=>?_|refine vz fun Q hQ=>?_);simp only [vkt,seval,Qh,Jp,ql,qc,qp,qE,aTk,cTk,qx,eTk,rTk,qw,qj,qh,rtS,List.length_map];(try simp only [ite_and]);(repeat' (first|with_reducible assumption|refine And.intro ?_ ?_|intro hp));all_goals (first|(refine hQ _ ?_;clear hQ Q)|(refine hQ _ (fun h=>?_) (fun h=>?_) <;> clear hQ Q <;> (try simp only [vki,reduceCtorEq] at h))|(refine vq ?_;kernel_rfl)|omega|assumption|with_reducible rfl|skip)))
  refine qU (fun k:{ k:Nat // k≤l.length }=>rtS a l k.1) (fun k=>l.length - k.1) ⟨0,Nat.zero_le _⟩ ?_ fun ⟨k,hk⟩=>?_
  · simp only [rtS,show jK a l 0=[] from rfl]
    (refine Le.ok (fun i=>if i=1 then none else some i) [] ?_;constructor;all_goals (try simp only [vle,vkt,seval,Qh,Jp,ql,qc,qp,qE,aTk,cTk,qx,eTk,rTk,qw,qj,qh,rtS,List.length_map]))
    all_goals first|rfl|(simp;done)
  simp only at hk ⊢
  have hS:=XN a l k
  have hT:=VO a l k
  obtain ⟨T,hTe⟩:∃ T,jK a l k=T:=⟨_,rfl⟩
  rw [hTe] at hS hT
  simp only [rtS,hTe]
  by_cases hkl:k < l.length
  · have d1:decide ((k:Int) < (l.length:Int))=true:=decide_eq_true (by omega)
    have d2:decide ((k:Int) < (a.sexes.length:Int))=true:=decide_eq_true (by omega)
    have e9:IntKind.wrap .i64 ((k:Int)+1)=((k+1:Nat):Int):=by rw [wrap64 (by omega) (by omega)];rfl
    have k0:((k:Int)).toNat=k:=rfl
    have hka:k < a.sexes.length:=by omega
    obtain ⟨b,hb⟩:∃ b,l.getD k default=b:=⟨_,rfl⟩
    rw [hb] at hS
    have hm:T.length+1≤maxLen:=by omega
    repeat' (first|(apply nx;with_reducible constructor)|refine uq (by decide) ?_|((first|refine vx env fun Q hQ=>?_|refine vz fun Q hQ=>?_);simp only [vkt,seval,Qh,Jp,ql,qc,qp,qE,aTk,cTk,qx,eTk,rTk,qw,qj,qh,rtS,List.length_map,d1,d2,e9,k0,hkl,hka,hb,hm];(try simp only [ite_and]);(repeat' (first|with_reducible assumption|refine And.intro ?_ ?_|intro hp));all_goals (first|(refine hQ _ ?_;clear hQ Q)|(refine hQ _ (fun h=>?_) (fun h=>?_) <;> clear hQ Q <;> (try simp only [vki,reduceCtorEq] at h))|(refine vq ?_;kernel_rfl)|omega|assumption|with_reducible rfl|skip)))
    refine ⟨⟨k+1,hkl⟩,by show l.length - (k+1) < l.length - k;omega, ?_⟩
    simp only [rtS,hS]
    (refine Le.ok (fun i=>if i=1 then some 3 else some i) [] ?_;constructor;all_goals (try simp only [vle,vkt,seval,Qh,Jp,ql,qc,qp,qE,aTk,cTk,qx,eTk,rTk,qw,qj,qh,rtS,List.length_map]))
    all_goals first|rfl|(rw [List.map_append];rfl)|(simp;done)|(intro i hi;rw [if_neg (by omega)];done)
  · have d1:decide ((k:Int) < (l.length:Int))=false:=decide_eq_false (by omega)
    obtain rfl:k=l.length:=by omega
    rw [hTe]
    repeat' (first|(apply nx;with_reducible constructor)|refine uq (by decide) ?_|((first|refine vx env fun Q hQ=>?_|refine vz fun Q hQ=>?_);simp only [vkt,seval,Qh,Jp,ql,qc,qp,qE,aTk,cTk,qx,eTk,rTk,qw,qj,qh,rtS,List.length_map,d1];(try simp only [ite_and]);(repeat' (first|with_reducible assumption|refine And.intro ?_ ?_|intro hp));all_goals (first|(refine hQ _ ?_;clear hQ Q)|(refine hQ _ (fun h=>?_) (fun h=>?_) <;> clear hQ Q <;> (try simp only [vki,reduceCtorEq] at h))|(refine vq ?_;kernel_rfl)|omega|assumption|with_reducible rfl|skip)))
    (simp only [vrt,Try.results75,vkt,seval,Qh,Jp,ql,qc,qp,qE,aTk,cTk,qx,eTk,rTk,qw,qj,qh,rtS,List.length_map];refine Fin.val rfl ?_;(try simp only [AV.le,AV.leL]))
    all_goals first|rfl|(simp;done)|exact ⟨_,_,rfl⟩
def Zi:List AV→Prop × AV
  |[.agg [.v (.int .i64 a0),.v (.int .i64 a1),.v (.int .i64 a2),.sl a3,.v (.bool a4)],.sl l]=>(a3=(a3.map zl).map zC∧l=(l.map zG).map qp∧(l.map zG).length≤100∧((⟨a0,a1,a2,(a3.map zl),a4⟩:Ask)).sexes.length=(l.map zG).length,qx (jK ((⟨a0,a1,a2,(a3.map zl),a4⟩:Ask)) (l.map zG) (l.map zG).length))
  |_=>(False,.junk)
theorem erTks {A:Frm→Prop}:qC A Try.prog 75 (zk false Zi):=zn fun vs hv h=>by
  clear hv
  unfold Zi at h ⊢
  split at h
  · rename_i a0 a1 a2 a3 a4 l;obtain ⟨q0,q1,k0,k1⟩:=h
    refine ⟨by first|trivial|(simp [AV.plain,AV.plainL,aI,aB,qA,qc,qx,ql,aTk,cTk];done)|(repeat' split) <;> simp [AV.plain,AV.plainL,aI,aB,qA,qc,qx,ql,aTk,cTk],fun h=>absurd h (by decide), ?_⟩
    have:=Qij ((⟨a0,a1,a2,(a3.map zl),a4⟩:Ask)) (l.map zG) k0 k1
    simp only [qw,aB,qc,aI,qA,qj,← q0,← q1] at this
    first|exact this|(simp only [qw,aB,qc,aI,qA,qj,← q0,← q1];exact this)
  · exact h.elim
end Go.Sym.B
namespace Go.Sym.B
open Go Go.Sym Go.Proofs Go.Sym.C
end Go.Sym.B
namespace Go.Sym.B
open Go Go.Sym Go.Proofs Go.Sym.C
def stB (a b:Tk) (s:Int):Bool:=decide (a.cab=b.cab) && !decide (s < a.frm) && !decide (a.to≤s) && !decide (s < b.frm) && !decide (b.to≤s) && (decide (a.bed=b.bed) || (!decide (a.party=b.party) && (!decide (a.sex=b.sex) || a.dog || b.dog)))
def prB (c:Chart) (a b:Tk):Bool:=(List.range c.secs.toNat).any fun (s:Nat)=>stB a b s
def rwB (c:Chart) (i:Nat):Bool:=(List.range i).any fun k=>prB c (c.sold.getD i default) (c.sold.getD k default)
def QaO (c:Chart):Bool:=(List.range c.sold.length).any (rwB c)
theorem Qgr {n:Nat} {p:Nat→Bool} (h:∀ j,j < n→p j=false):(List.range n).any p=false:=List.any_eq_false.2 fun j hj=>by rw [h j (List.mem_range.1 hj)];simp
theorem Qcb {n k:Nat} {p:Nat→Bool} (hk:k < n) (h:p k=true):(List.range n).any p=true:=List.any_eq_true.2 ⟨k,List.mem_range.2 hk,h⟩
def stS (c:Chart) (T:List (Nat × AV)) (H:List (Nat × AObj)) (n:Nat):St:={ t:=asg (T++[(1,.ptr 0 0),(2,aB false)]),h:=qg (H++[(0,.cells (qb c))]),n:=n }
def qD:=vj @ty3 (vj @ty4 (vj @Zb (vj @vg (vj @kZ (vj @xy (vj @ti3.eq_1 (vj @ti4.eq_1 (vj @Qx.eq_1 (vj @yI.eq_1 (vj @xQ.eq_1 @vW.eq_1))))))))))
def zL:=vj @aI.eq_1 (@aB.eq_1)
set_option maxHeartbeats 2000000 in
theorem Un (c:Chart) (hl:c.sold.length≤100) (hs:c.secs≤1000):FnV Try.prog 47 [qa c] (aB (QaO c)):=by
  have env:Env (fun _=>True) Try.prog tyB (tab []):=qM trivial
  refine Fn.of (A:=fun _=>True) (n0:=0) (D:=noD) (Fn0 Try.func47 rfl (fun vs w=>by kernel_rfl) (by kernel_rfl)) (by simp) (by simp [AV.ids,AV.idsL,qa,qb]) (fun i o h=>by cases h) (fun _ _ _ _=>trivial) qH ?_
  repeat' (first|(apply nx;with_reducible constructor)|refine uq (by decide) ?_|((first|refine vx env fun Q hQ=>?_|refine vz fun Q hQ=>?_);simp only [vkt,seval,qD,zL,aTk,cTk,qx,eTk,gTk,mTk,qa,qb,stS,List.length_map];(try simp only [ite_and]);(repeat' (first|with_reducible assumption|refine And.intro ?_ ?_|intro hp));all_goals (first|(refine hQ _ ?_;clear hQ Q)|(refine hQ _ (fun h=>?_) (fun h=>?_) <;> clear hQ Q <;> (try simp only [vki,reduceCtorEq] at h))|(refine vq ?_;kernel_rfl)|omega|assumption|with_reducible rfl|skip)))
  refine qU (fun i:{ i:Nat // i≤c.sold.length∧∀ j,j < i→rwB c j=false }=>stS c [(3,aI i.1)] [] 1) (fun i=>c.sold.length - i.1) ⟨0,Nat.zero_le _,fun j h=>absurd h (Nat.not_lt_zero _)⟩ ?_ fun ⟨i,hi,hno⟩=>?_
  · simp only [stS,List.cons_append,List.nil_append]
    (refine Le.ok some [] ?_;constructor;all_goals (try simp only [vle,vkt,seval,qD,zL,aTk,cTk,qx,eTk,gTk,mTk,qa,qb,stS,List.length_map]))
    all_goals first|rfl|(simp;done)
  simp only at hi hno ⊢
  simp only [stS,List.cons_append,List.nil_append]
  by_cases hil:i < c.sold.length
  · have d1:decide ((i:Int) < (c.sold.length:Int))=true:=decide_eq_true (by omega)
    have e9:IntKind.wrap .i64 ((i:Int)+1)=((i+1:Nat):Int):=by rw [wrap64 (by omega) (by omega)];rfl
    have i0:((i:Int)).toNat=i:=rfl
    obtain ⟨a,ha⟩:∃ a,c.sold.getD i default=a:=⟨_,rfl⟩
    have hrw:rwB c i=(List.range i).any fun k=>prB c a (c.sold.getD k default):=by unfold rwB;rw [ha]
    repeat' (first|(apply nx;with_reducible constructor)|refine uq (by decide) ?_|((first|refine vx env fun Q hQ=>?_|refine vz fun Q hQ=>?_);simp only [vkt,seval,qD,zL,aTk,cTk,qx,eTk,gTk,mTk,qa,qb,stS,List.length_map,d1];(try simp only [ite_and]);(repeat' (first|with_reducible assumption|refine And.intro ?_ ?_|intro hp));all_goals (first|(refine hQ _ ?_;clear hQ Q)|(refine hQ _ (fun h=>?_) (fun h=>?_) <;> clear hQ Q <;> (try simp only [vki,reduceCtorEq] at h))|(refine vq ?_;kernel_rfl)|omega|assumption|with_reducible rfl|skip)))
    refine qU (fun k:{ k:Nat // k≤i∧∀ j,j < k→prB c a (c.sold.getD j default)=false }=>stS c [(3,aI i),(4,aI k.1)] [] 1) (fun k=>i - k.1) ⟨0,Nat.zero_le _,fun j h=>absurd h (Nat.not_lt_zero _)⟩ ?_ fun ⟨k,hk,hno2⟩=>?_
    · simp only [stS,List.cons_append,List.nil_append]
      (refine Le.ok some [] ?_;constructor;all_goals (try simp only [vle,vkt,seval,qD,zL,aTk,cTk,qx,eTk,gTk,mTk,qa,qb,stS,List.length_map]))
      all_goals first|rfl|(simp;done)
    simp only at hk hno2 ⊢
    simp only [stS,List.cons_append,List.nil_append]
    by_cases hkl:k < i
    · have d2:decide ((k:Int) < (i:Int))=true:=decide_eq_true (by omega)
      have e8:IntKind.wrap .i64 ((k:Int)+1)=((k+1:Nat):Int):=by rw [wrap64 (by omega) (by omega)];rfl
      have k0:((k:Int)).toNat=k:=rfl
      have hkc:k < c.sold.length:=by omega
      obtain ⟨b,hb⟩:∃ b,c.sold.getD k default=b:=⟨_,rfl⟩
      repeat' (first|(apply nx;with_reducible constructor)|refine uq (by decide) ?_|((first|refine vx env fun Q hQ=>?_|refine vz fun Q hQ=>?_);simp only [vkt,seval,qD,zL,aTk,cTk,qx,eTk,gTk,mTk,qa,qb,stS,List.length_map,d2,i0,k0,hil,hkc,ha,hb];(try simp only [ite_and]);(repeat' (first|with_reducible assumption|refine And.intro ?_ ?_|intro hp));all_goals (first|(refine hQ _ ?_;clear hQ Q)|(refine hQ _ (fun h=>?_) (fun h=>?_) <;> clear hQ Q <;> (try simp only [vki,reduceCtorEq] at h))|(refine vq ?_;kernel_rfl)|omega|assumption|with_reducible rfl|skip)))
      refine qU (fun s:{ s:Nat // s≤c.secs.toNat∧∀ j:Nat,j < s→stB a b j=false }=>stS c [(3,aI i),(4,aI k),(5,.ptr 1 0),(6,.ptr 2 0),(7,aI s.1)] [(1,.cells (cTk a)),(2,.cells (cTk b))] 3) (fun s=>c.secs.toNat - s.1) ⟨0,Nat.zero_le _,fun j h=>absurd h (Nat.not_lt_zero _)⟩ ?_ fun ⟨s,hs1,hno3⟩=>?_
      · simp only [stS,List.cons_append,List.nil_append]
        (refine Le.ok some [] ?_;constructor;all_goals (try simp only [vle,vkt,seval,qD,zL,aTk,cTk,qx,eTk,gTk,mTk,qa,qb,stS,List.length_map]))
        all_goals first|rfl|(simp;done)
      simp only at hs1 hno3 ⊢
      simp only [stS,List.cons_append,List.nil_append]
      by_cases hsl:s < c.secs.toNat
      · have d3:decide ((s:Int) < c.secs)=true:=decide_eq_true (by omega)
        have e7:IntKind.wrap .i64 ((s:Int)+1)=((s+1:Nat):Int):=by rw [wrap64 (by omega) (by omega)];rfl
        have nxt:stB a b s=false→∀ S,Le S (stS c [(3,aI i),(4,aI k),(5,.ptr 1 0),(6,.ptr 2 0),(7,aI (s+1:Nat))] [(1,.cells (cTk a)),(2,.cells (cTk b))] 3)→∃ y:{ s:Nat // s≤c.secs.toNat∧∀ j:Nat,j < s→stB a b j=false },(c.secs.toNat - y.1 < c.secs.toNat - s)∧Le S (stS c [(3,aI i),(4,aI k),(5,.ptr 1 0),(6,.ptr 2 0),(7,aI y.1)] [(1,.cells (cTk a)),(2,.cells (cTk b))] 3):=fun hb S hS=>⟨⟨s+1,hsl,fun j hj=>by
          rcases Nat.lt_or_eq_of_le (Nat.le_of_lt_succ hj) with h1|h1
          · exact hno3 j h1
          · rw [h1];exact hb⟩,by show c.secs.toNat - (s+1) < c.secs.toNat - s;omega,hS⟩
        have fin:stB a b s=true→QaO c=true:=fun h=>Qcb hil (by rw [hrw];exact Qcb hkl (by rw [hb];exact Qcb hsl h))
        have hst:stB a b s=(decide (a.cab=b.cab) && !decide ((s:Int) < a.frm) && !decide (a.to≤(s:Int)) && !decide ((s:Int) < b.frm) && !decide (b.to≤(s:Int)) && (decide (a.bed=b.bed) || (!decide (a.party=b.party) && (!decide (a.sex=b.sex) || a.dog || b.dog)))):=rfl
        have hs:=hsl
        cases q1:decide (a.cab=b.cab)
        case false =>
          repeat' (first|(apply nx;with_reducible constructor)|refine uq (by decide) ?_|((first|refine vx env fun Q hQ=>?_|refine vz fun Q hQ=>?_);simp only [vkt,seval,qD,zL,aTk,cTk,qx,eTk,gTk,mTk,qa,qb,stS,List.length_map,d3,e7,hs,q1,Bool.not_true,Bool.not_false];(try simp only [ite_and]);(repeat' (first|with_reducible assumption|refine And.intro ?_ ?_|intro hp));all_goals (first|(refine hQ _ ?_;clear hQ Q)|(refine hQ _ (fun h=>?_) (fun h=>?_) <;> clear hQ Q <;> (try simp only [vki,reduceCtorEq] at h))|(refine vq ?_;kernel_rfl)|omega|assumption|with_reducible rfl|skip)))
          refine nxt (by rw [hst,q1];rfl) _ ?_
          simp only [stS,List.cons_append,List.nil_append]
          (refine Le.ok some [] ?_;constructor;all_goals (try simp only [vle,vkt,seval,qD,zL,aTk,cTk,qx,eTk,gTk,mTk,qa,qb,stS,List.length_map]))
          all_goals first|rfl|(simp;done)|(simp [*];done)
        cases q2:decide ((s:Int) < a.frm)
        case true =>
          repeat' (first|(apply nx;with_reducible constructor)|refine uq (by decide) ?_|((first|refine vx env fun Q hQ=>?_|refine vz fun Q hQ=>?_);simp only [vkt,seval,qD,zL,aTk,cTk,qx,eTk,gTk,mTk,qa,qb,stS,List.length_map,d3,e7,hs,q1,q2,Bool.not_true,Bool.not_false];(try simp only [ite_and]);(repeat' (first|with_reducible assumption|refine And.intro ?_ ?_|intro hp));all_goals (first|(refine hQ _ ?_;clear hQ Q)|(refine hQ _ (fun h=>?_) (fun h=>?_) <;> clear hQ Q <;> (try simp only [vki,reduceCtorEq] at h))|(refine vq ?_;kernel_rfl)|omega|assumption|with_reducible rfl|skip)))
          refine nxt (by rw [hst,q1,q2];rfl) _ ?_
          simp only [stS,List.cons_append,List.nil_append]
          (refine Le.ok some [] ?_;constructor;all_goals (try simp only [vle,vkt,seval,qD,zL,aTk,cTk,qx,eTk,gTk,mTk,qa,qb,stS,List.length_map]))
          all_goals first|rfl|(simp;done)|(simp [*];done)
        cases q3:decide (a.to≤(s:Int))
        case true =>
          repeat' (first|(apply nx;with_reducible constructor)|refine uq (by decide) ?_|((first|refine vx env fun Q hQ=>?_|refine vz fun Q hQ=>?_);simp only [vkt,seval,qD,zL,aTk,cTk,qx,eTk,gTk,mTk,qa,qb,stS,List.length_map,d3,e7,hs,q1,q2,q3,Bool.not_true,Bool.not_false];(try simp only [ite_and]);(repeat' (first|with_reducible assumption|refine And.intro ?_ ?_|intro hp));all_goals (first|(refine hQ _ ?_;clear hQ Q)|(refine hQ _ (fun h=>?_) (fun h=>?_) <;> clear hQ Q <;> (try simp only [vki,reduceCtorEq] at h))|(refine vq ?_;kernel_rfl)|omega|assumption|with_reducible rfl|skip)))
          refine nxt (by rw [hst,q1,q2,q3];rfl) _ ?_
          simp only [stS,List.cons_append,List.nil_append]
          (refine Le.ok some [] ?_;constructor;all_goals (try simp only [vle,vkt,seval,qD,zL,aTk,cTk,qx,eTk,gTk,mTk,qa,qb,stS,List.length_map]))
          all_goals first|rfl|(simp;done)|(simp [*];done)
        cases q4:decide ((s:Int) < b.frm)
        case true =>
          repeat' (first|(apply nx;with_reducible constructor)|refine uq (by decide) ?_|((first|refine vx env fun Q hQ=>?_|refine vz fun Q hQ=>?_);simp only [vkt,seval,qD,zL,aTk,cTk,qx,eTk,gTk,mTk,qa,qb,stS,List.length_map,d3,e7,hs,q1,q2,q3,q4,Bool.not_true,Bool.not_false];(try simp only [ite_and]);(repeat' (first|with_reducible assumption|refine And.intro ?_ ?_|intro hp));all_goals (first|(refine hQ _ ?_;clear hQ Q)|(refine hQ _ (fun h=>?_) (fun h=>?_) <;> clear hQ Q <;> (try simp only [vki,reduceCtorEq] at h))|(refine vq ?_;kernel_rfl)|omega|assumption|with_reducible rfl|skip)))
          refine nxt (by rw [hst,q1,q2,q3,q4];rfl) _ ?_
          simp only [stS,List.cons_append,List.nil_append]
          (refine Le.ok some [] ?_;constructor;all_goals (try simp only [vle,vkt,seval,qD,zL,aTk,cTk,qx,eTk,gTk,mTk,qa,qb,stS,List.length_map]))
          all_goals first|rfl|(simp;done)|(simp [*];done)
        cases q5:decide (b.to≤(s:Int))
        case true =>
          repeat' (first|(apply nx;with_reducible constructor)|refine uq (by decide) ?_|((first|refine vx env fun Q hQ=>?_|refine vz fun Q hQ=>?_);simp only [vkt,seval,qD,zL,aTk,cTk,qx,eTk,gTk,mTk,qa,qb,stS,List.length_map,d3,e7,hs,q1,q2,q3,q4,q5,Bool.not_true,Bool.not_false];(try simp only [ite_and]);(repeat' (first|with_reducible assumption|refine And.intro ?_ ?_|intro hp));all_goals (first|(refine hQ _ ?_;clear hQ Q)|(refine hQ _ (fun h=>?_) (fun h=>?_) <;> clear hQ Q <;> (try simp only [vki,reduceCtorEq] at h))|(refine vq ?_;kernel_rfl)|omega|assumption|with_reducible rfl|skip)))
          refine nxt (by rw [hst,q1,q2,q3,q4,q5];rfl) _ ?_
          simp only [stS,List.cons_append,List.nil_append]
          (refine Le.ok some [] ?_;constructor;all_goals (try simp only [vle,vkt,seval,qD,zL,aTk,cTk,qx,eTk,gTk,mTk,qa,qb,stS,List.length_map]))
          all_goals first|rfl|(simp;done)|(simp [*];done)
        cases q6:decide (a.bed=b.bed)
        case true =>
          rw [fin (by rw [hst,q1,q2,q3,q4,q5,q6];rfl)]
          repeat' (first|(apply nx;with_reducible constructor)|refine uq (by decide) ?_|((first|refine vx env fun Q hQ=>?_|refine vz fun Q hQ=>?_);simp only [vkt,seval,qD,zL,aTk,cTk,qx,eTk,gTk,mTk,qa,qb,stS,List.length_map,d3,e7,hs,q1,q2,q3,q4,q5,q6,Bool.not_true,Bool.not_false];(try simp only [ite_and]);(repeat' (first|with_reducible assumption|refine And.intro ?_ ?_|intro hp));all_goals (first|(refine hQ _ ?_;clear hQ Q)|(refine hQ _ (fun h=>?_) (fun h=>?_) <;> clear hQ Q <;> (try simp only [vki,reduceCtorEq] at h))|(refine vq ?_;kernel_rfl)|omega|assumption|with_reducible rfl|skip)))
          (simp only [vrt,Try.results47,vkt,seval,qD,zL,aTk,cTk,qx,eTk,gTk,mTk,qa,qb,stS,List.length_map];refine Fin.val rfl ?_;(try simp only [AV.le,AV.leL]))
          all_goals first|rfl|(simp;done)
        cases q7:decide (a.party=b.party)
        case true =>
          repeat' (first|(apply nx;with_reducible constructor)|refine uq (by decide) ?_|((first|refine vx env fun Q hQ=>?_|refine vz fun Q hQ=>?_);simp only [vkt,seval,qD,zL,aTk,cTk,qx,eTk,gTk,mTk,qa,qb,stS,List.length_map,d3,e7,hs,q1,q2,q3,q4,q5,q6,q7,Bool.not_true,Bool.not_false];(try simp only [ite_and]);(repeat' (first|with_reducible assumption|refine And.intro ?_ ?_|intro hp));all_goals (first|(refine hQ _ ?_;clear hQ Q)|(refine hQ _ (fun h=>?_) (fun h=>?_) <;> clear hQ Q <;> (try simp only [vki,reduceCtorEq] at h))|(refine vq ?_;kernel_rfl)|omega|assumption|with_reducible rfl|skip)))
          refine nxt (by rw [hst,q1,q2,q3,q4,q5,q6,q7];rfl) _ ?_
          simp only [stS,List.cons_append,List.nil_append]
          (refine Le.ok some [] ?_;constructor;all_goals (try simp only [vle,vkt,seval,qD,zL,aTk,cTk,qx,eTk,gTk,mTk,qa,qb,stS,List.length_map]))
          all_goals first|rfl|(simp;done)|(simp [*];done)
        cases q8:decide (a.sex=b.sex)
        case false =>
          rw [fin (by rw [hst,q1,q2,q3,q4,q5,q6,q7,q8];rfl)]
          repeat' (first|(apply nx;with_reducible constructor)|refine uq (by decide) ?_|((first|refine vx env fun Q hQ=>?_|refine vz fun Q hQ=>?_);simp only [vkt,seval,qD,zL,aTk,cTk,qx,eTk,gTk,mTk,qa,qb,stS,List.length_map,d3,e7,hs,q1,q2,q3,q4,q5,q6,q7,q8,Bool.not_true,Bool.not_false];(try simp only [ite_and]);(repeat' (first|with_reducible assumption|refine And.intro ?_ ?_|intro hp));all_goals (first|(refine hQ _ ?_;clear hQ Q)|(refine hQ _ (fun h=>?_) (fun h=>?_) <;> clear hQ Q <;> (try simp only [vki,reduceCtorEq] at h))|(refine vq ?_;kernel_rfl)|omega|assumption|with_reducible rfl|skip)))
          (simp only [vrt,Try.results47,vkt,seval,qD,zL,aTk,cTk,qx,eTk,gTk,mTk,qa,qb,stS,List.length_map];refine Fin.val rfl ?_;(try simp only [AV.le,AV.leL]))
          all_goals first|rfl|(simp;done)
        cases q9:a.dog
        case true =>
          rw [fin (by rw [hst,q1,q2,q3,q4,q5,q6,q7,q8,q9];rfl)]
          repeat' (first|(apply nx;with_reducible constructor)|refine uq (by decide) ?_|((first|refine vx env fun Q hQ=>?_|refine vz fun Q hQ=>?_);simp only [vkt,seval,qD,zL,aTk,cTk,qx,eTk,gTk,mTk,qa,qb,stS,List.length_map,d3,e7,hs,q1,q2,q3,q4,q5,q6,q7,q8,q9,Bool.not_true,Bool.not_false];(try simp only [ite_and]);(repeat' (first|with_reducible assumption|refine And.intro ?_ ?_|intro hp));all_goals (first|(refine hQ _ ?_;clear hQ Q)|(refine hQ _ (fun h=>?_) (fun h=>?_) <;> clear hQ Q <;> (try simp only [vki,reduceCtorEq] at h))|(refine vq ?_;kernel_rfl)|omega|assumption|with_reducible rfl|skip)))
          (simp only [vrt,Try.results47,vkt,seval,qD,zL,aTk,cTk,qx,eTk,gTk,mTk,qa,qb,stS,List.length_map];refine Fin.val rfl ?_;(try simp only [AV.le,AV.leL]))
          all_goals first|rfl|(simp;done)
        cases q10:b.dog
        case false =>
          repeat' (first|(apply nx;with_reducible constructor)|refine uq (by decide) ?_|((first|refine vx env fun Q hQ=>?_|refine vz fun Q hQ=>?_);simp only [vkt,seval,qD,zL,aTk,cTk,qx,eTk,gTk,mTk,qa,qb,stS,List.length_map,d3,e7,hs,q1,q2,q3,q4,q5,q6,q7,q8,q9,q10,Bool.not_true,Bool.not_false];(try simp only [ite_and]);(repeat' (first|with_reducible assumption|refine And.intro ?_ ?_|intro hp));all_goals (first|(refine hQ _ ?_;clear hQ Q)|(refine hQ _ (fun h=>?_) (fun h=>?_) <;> clear hQ Q <;> (try simp only [vki,reduceCtorEq] at h))|(refine vq ?_;kernel_rfl)|omega|assumption|with_reducible rfl|skip)))
          refine nxt (by rw [hst,q1,q2,q3,q4,q5,q6,q7,q8,q9,q10];rfl) _ ?_
          simp only [stS,List.cons_append,List.nil_append]
          (refine Le.ok some [] ?_;constructor;all_goals (try simp only [vle,vkt,seval,qD,zL,aTk,cTk,qx,eTk,gTk,mTk,qa,qb,stS,List.length_map]))
          all_goals first|rfl|(simp;done)|(simp [*];done)
        case true =>
          rw [fin (by rw [hst,q1,q2,q3,q4,q5,q6,q7,q8,q9,q10];rfl)]
          repeat' (first|(apply nx;with_reducible constructor)|refine uq (by decide) ?_|((first|refine vx env fun Q hQ=>?_|refine vz fun Q hQ=>?_);simp only [vkt,seval,qD,zL,aTk,cTk,qx,eTk,gTk,mTk,qa,qb,stS,List.length_map,d3,e7,hs,q1,q2,q3,q4,q5,q6,q7,q8,q9,q10,Bool.not_true,Bool.not_false];(try simp only [ite_and]);(repeat' (first|with_reducible assumption|refine And.intro ?_ ?_|intro hp));all_goals (first|(refine hQ _ ?_;clear hQ Q)|(refine hQ _ (fun h=>?_) (fun h=>?_) <;> clear hQ Q <;> (try simp only [vki,reduceCtorEq] at h))|(refine vq ?_;kernel_rfl)|omega|assumption|with_reducible rfl|skip)))
          (simp only [vrt,Try.results47,vkt,seval,qD,zL,aTk,cTk,qx,eTk,gTk,mTk,qa,qb,stS,List.length_map];refine Fin.val rfl ?_;(try simp only [AV.le,AV.leL]))
          all_goals first|rfl|(simp;done)
      · have d3:decide ((s:Int) < c.secs)=false:=decide_eq_false (by omega)
        have hp:prB c a b=false:=Qgr fun j hj=>hno3 j (by omega)
        repeat' (first|(apply nx;with_reducible constructor)|refine uq (by decide) ?_|((first|refine vx env fun Q hQ=>?_|refine vz fun Q hQ=>?_);simp only [vkt,seval,qD,zL,aTk,cTk,qx,eTk,gTk,mTk,qa,qb,stS,List.length_map,d3,e8];(try simp only [ite_and]);(repeat' (first|with_reducible assumption|refine And.intro ?_ ?_|intro hp));all_goals (first|(refine hQ _ ?_;clear hQ Q)|(refine hQ _ (fun h=>?_) (fun h=>?_) <;> clear hQ Q <;> (try simp only [vki,reduceCtorEq] at h))|(refine vq ?_;kernel_rfl)|omega|assumption|with_reducible rfl|skip)))
        refine ⟨⟨k+1,hkl,fun j hj=>by
          rcases Nat.lt_or_eq_of_le (Nat.le_of_lt_succ hj) with h1|h1
          · exact hno2 j h1
          · rw [h1,hb];exact hp⟩,by show i - (k+1) < i - k;omega, ?_⟩
        simp only [stS,List.cons_append,List.nil_append]
        (refine Le.ok some [] ?_;constructor;all_goals (try simp only [vle,vkt,seval,qD,zL,aTk,cTk,qx,eTk,gTk,mTk,qa,qb,stS,List.length_map]))
        all_goals first|rfl|(simp;done)
    · have d2:decide ((k:Int) < (i:Int))=false:=decide_eq_false (by omega)
      have hp:rwB c i=false:=by rw [hrw];exact Qgr fun j hj=>hno2 j (by omega)
      repeat' (first|(apply nx;with_reducible constructor)|refine uq (by decide) ?_|((first|refine vx env fun Q hQ=>?_|refine vz fun Q hQ=>?_);simp only [vkt,seval,qD,zL,aTk,cTk,qx,eTk,gTk,mTk,qa,qb,stS,List.length_map,d2,e9];(try simp only [ite_and]);(repeat' (first|with_reducible assumption|refine And.intro ?_ ?_|intro hp));all_goals (first|(refine hQ _ ?_;clear hQ Q)|(refine hQ _ (fun h=>?_) (fun h=>?_) <;> clear hQ Q <;> (try simp only [vki,reduceCtorEq] at h))|(refine vq ?_;kernel_rfl)|omega|assumption|with_reducible rfl|skip)))
      refine ⟨⟨i+1,hil,fun j hj=>by
        rcases Nat.lt_or_eq_of_le (Nat.le_of_lt_succ hj) with h1|h1
        · exact hno j h1
        · rw [h1];exact hp⟩,by show c.sold.length - (i+1) < c.sold.length - i;omega, ?_⟩
      simp only [stS,List.cons_append,List.nil_append]
      (refine Le.ok some [] ?_;constructor;all_goals (try simp only [vle,vkt,seval,qD,zL,aTk,cTk,qx,eTk,gTk,mTk,qa,qb,stS,List.length_map]))
      all_goals first|rfl|(simp;done)
  · have d1:decide ((i:Int) < (c.sold.length:Int))=false:=decide_eq_false (by omega)
    rw [show QaO c=false from Qgr fun j hj=>hno j (by omega)]
    repeat' (first|(apply nx;with_reducible constructor)|refine uq (by decide) ?_|((first|refine vx env fun Q hQ=>?_|refine vz fun Q hQ=>?_);simp only [vkt,seval,qD,zL,aTk,cTk,qx,eTk,gTk,mTk,qa,qb,stS,List.length_map,d1];(try simp only [ite_and]);(repeat' (first|with_reducible assumption|refine And.intro ?_ ?_|intro hp));all_goals (first|(refine hQ _ ?_;clear hQ Q)|(refine hQ _ (fun h=>?_) (fun h=>?_) <;> clear hQ Q <;> (try simp only [vki,reduceCtorEq] at h))|(refine vq ?_;kernel_rfl)|omega|assumption|with_reducible rfl|skip)))
    (simp only [vrt,Try.results47,vkt,seval,qD,zL,aTk,cTk,qx,eTk,gTk,mTk,qa,qb,stS,List.length_map];refine Fin.val rfl ?_;(try simp only [AV.le,AV.leL]))
    all_goals first|rfl|(simp;done)
def wN:List AV→Prop × AV
  |[.agg [.sl c0,.v (.int .i64 c1),.sl c2]]=>(c0=(c0.map qB).map qo∧c2=(c2.map dTk).map eTk∧((⟨(c0.map qB),c1,(c2.map dTk)⟩:Chart)).sold.length≤100∧((⟨(c0.map qB),c1,(c2.map dTk)⟩:Chart)).secs≤1000,aB (QaO ((⟨(c0.map qB),c1,(c2.map dTk)⟩:Chart))))
  |_=>(False,.junk)
theorem Qcm {A:Frm→Prop}:qC A Try.prog 47 (zk true wN):=zn fun vs hv h=>by
  clear hv
  unfold wN at h ⊢
  split at h
  · rename_i c0 c1 c2;obtain ⟨q0,q1,k0,k1⟩:=h
    refine ⟨by first|trivial|(simp [AV.plain,AV.plainL,aI,aB,qA,qc,qx,ql,aTk,cTk];done)|(repeat' split) <;> simp [AV.plain,AV.plainL,aI,aB,qA,qc,qx,ql,aTk,cTk],fun _=>(by simp [AV.flat,AV.flatL,aI,aB]), ?_⟩
    have:=Un ((⟨(c0.map qB),c1,(c2.map dTk)⟩:Chart)) k0 k1
    simp only [zR,qa,aI,qx,qb,← q0,← q1] at this
    first|exact this|(simp only [zR,qa,aI,qx,qb,← q0,← q1];exact this)
  · exact h.elim
def jW (c:Chart) (a:Ask) (l:List Bunk):Bool:=Zz c.cabins l && !QaO ⟨c.cabins,c.secs,c.sold++jK a l l.length⟩
def ifS (c:Chart) (a:Ask) (l:List Bunk) (k:Nat) (lo hi:Int) (T:List Tk):St:={ t:=asg [(2,qc l),(3,.ptr 0 0),(4,.ptr 1 0),(6,aB false),(7,aI lo),(8,aI hi),(9,.ptr 2 0),(10,aI k)],h:=qg [(0,.cells (qb c)),(1,.cells (qj a)),(2,.cells [.sl (c.cabins.map qo),aI c.secs,.row 3]),(3,qh T)],n:=4 }
def wJ:=vj @ty3 (vj @ty4 (vj @Qf (vj @VJ (vj @Zb (vj @vg (vj @kX (vj @JI (vj @kZ (vj @VD (vj @xy (vj @ti3.eq_1 (vj @ti4.eq_1 (vj @kC.eq_1 (vj @Yc.eq_1 (vj @Qx.eq_1 (vj @yI.eq_1 (vj @xB.eq_1 (vj @Wi.eq_1 (vj @xQ.eq_1 (vj @Yb.eq_1 @vW.eq_1))))))))))))))))))))
def xM:=vj @aI.eq_1 (vj @aB.eq_1 (vj @zC.eq_1 (@Y4)))
set_option maxHeartbeats 2000000 in
theorem QeI (c:Chart) (a:Ask) (l:List Bunk) (ok:NearOk c.cabins l) (hl:l.length≤20) (ha:a.sexes.length=l.length) (hs:c.sold.length≤50) (hsc:c.secs≤1000):FnV Try.prog 23 [qa c,qw a,qc l] (aB (jW c a l)):=by
  have env:Env (fun _=>True) Try.prog tyB (tab [(47,zk true wN)]):=qM ⟨Qcm,trivial⟩
  refine Fn.of (A:=fun _=>True) (n0:=0) (D:=noD) (Fn0 Try.func23 rfl (fun vs w=>by kernel_rfl) (by kernel_rfl)) (by simp) (by simp [AV.ids,AV.idsL,qa,qb,qw,qj,qc]) (fun i o h=>by cases h) (fun _ _ _ _=>trivial) qH ?_
  have hmx:(100000:Nat)≤maxLen:=by decide
  have hne:=ok.ne
  have hcl:=ok.cabs
  have hbd:=KA ok
  have b1:c.sold.length≤maxLen:=by omega
  obtain ⟨x0,hx0⟩:∃ x,l.getD 0 default=x:=⟨_,rfl⟩
  have l0:loK l 0=x0.cab:=by rw [← hx0];rfl
  have h0:hiK l 0=x0.cab:=by rw [← hx0];rfl
  unfold jW
  rw [Qcw]
  repeat' (first|(apply nx;with_reducible constructor)|refine uq (by decide) ?_|((first|refine vx env fun Q hQ=>?_|refine vz fun Q hQ=>?_);simp only [vkt,seval,wJ,xM,ql,qc,qp,qE,qo,qG,qd,aTk,cTk,qx,eTk,rTk,mTk,qh,qa,qb,qw,qj,ifS,wN,List.length_map,hx0,hne,b1];(try simp only [ite_and]);(repeat' (first|with_reducible assumption|refine And.intro ?_ ?_|intro hp));all_goals (first|(refine hQ _ ?_;clear hQ Q)|(refine hQ _ (fun h=>?_) (fun h=>?_) <;> clear hQ Q <;> (try simp only [vki,reduceCtorEq] at h))|(refine vq ?_;kernel_rfl)|omega|assumption|with_reducible rfl|skip)))
  refine qU (fun k:{ k:Nat // k≤l.length }=>ifS c a l k.1 (loK l k.1) (hiK l k.1) (c.sold++jK a l k.1)) (fun k=>l.length - k.1) ⟨0,Nat.zero_le _⟩ ?_ fun ⟨k,hk⟩=>?_
  · simp only [ifS,l0,h0,show jK a l 0=[] from rfl,List.append_nil]
    (refine Le.ok (fun j=>[0,1,3,2][j]?) [] ?_;constructor;all_goals (try simp only [vle,vkt,seval,wJ,xM,ql,qc,qp,qE,qo,qG,qd,aTk,cTk,qx,eTk,rTk,mTk,qh,qa,qb,qw,qj,ifS,wN,List.length_map]))
    all_goals first|rfl|(simp;done)
  simp only at hk ⊢
  have hS:=XN a l k
  have hT:=VO a l k
  obtain ⟨T,hTe⟩:∃ T,c.sold++jK a l k=T:=⟨_,rfl⟩
  have hTl:T.length=c.sold.length+k:=by rw [← hTe,List.length_append,hT]
  have hTs:c.sold++jK a l (k+1)=T++[kD a k (l.getD k default)]:=by rw [hS,← List.append_assoc,hTe]
  simp only [ifS,hTe]
  by_cases hlt:k < l.length
  · have d1:decide ((k:Int) < (l.length:Int))=true:=decide_eq_true (by omega)
    have e9:IntKind.wrap .i64 ((k:Int)+1)=((k+1:Nat):Int):=by rw [wrap64 (by omega) (by omega)];rfl
    have k0:((k:Int)).toNat=k:=rfl
    have hka:k < a.sexes.length:=by omega
    have hm:T.length+1≤maxLen:=by omega
    obtain ⟨x,hx⟩:∃ x,l.getD k default=x:=⟨_,rfl⟩
    have hl1:=Xe hlt
    have hh1:=X0 hlt
    rw [hx] at hl1 hh1 hTs
    repeat' (first|(apply nx;with_reducible constructor)|refine uq (by decide) ?_|((first|refine vx env fun Q hQ=>?_|refine vz fun Q hQ=>?_);simp only [vkt,seval,wJ,xM,ql,qc,qp,qE,qo,qG,qd,aTk,cTk,qx,eTk,rTk,mTk,qh,qa,qb,qw,qj,ifS,wN,List.length_map,d1,k0,hx,hlt,hka,hm,e9];(try simp only [ite_and]);(repeat' (first|with_reducible assumption|refine And.intro ?_ ?_|intro hp));all_goals (first|(refine hQ _ ?_;clear hQ Q)|(refine hQ _ (fun h=>?_) (fun h=>?_) <;> clear hQ Q <;> (try simp only [vki,reduceCtorEq] at h))|(refine vq ?_;kernel_rfl)|omega|assumption|with_reducible rfl|skip)))
    refine ⟨⟨k+1,hlt⟩,by show l.length - (k+1) < l.length - k;omega, ?_⟩
    simp only [ifS,hl1,hh1,hTs]
    (refine Le.ok (fun i=>if i=3 then some 5 else some i) [] ?_;constructor;all_goals (try simp only [vle,vkt,seval,wJ,xM,ql,qc,qp,qE,qo,qG,qd,aTk,cTk,qx,eTk,rTk,mTk,qh,qa,qb,qw,qj,ifS,wN,List.length_map]))
    all_goals first|rfl|(rw [List.map_append];rfl)|(simp;done)|(intro i hi;rw [if_neg (by omega)];done)
  · have d0:decide ((k:Int) < (l.length:Int))=false:=decide_eq_false (by omega)
    have hke:k=l.length:=by omega
    subst hke
    rw [hTe]
    have b2:T.length≤100:=by omega
    obtain ⟨g1,g2,g3,g4⟩:=hbd l.length (Nat.le_refl _)
    obtain ⟨lo,hlo⟩:∃ x,loK l l.length=x:=⟨_,rfl⟩
    obtain ⟨hi,hhi⟩:∃ x,hiK l l.length=x:=⟨_,rfl⟩
    rw [hlo] at g1 g2
    rw [hhi] at g3 g4
    obtain ⟨x,hx⟩:∃ x,c.cabins.getD lo.toNat default=x:=⟨_,rfl⟩
    obtain ⟨X,hX⟩:∃ X:Chart,(⟨c.cabins,c.secs,T⟩:Chart)=X:=⟨_,rfl⟩
    have b3:X.sold.length≤100:=by rw [← hX];exact b2
    have b4:X.secs≤1000:=by rw [← hX];exact hsc
    have w1:IntKind.wrap .i64 (lo+1)=lo+1:=wrap64 (by omega) (by omega)
    simp only [hlo,hhi,hx,hX]
    cases q1:decide (lo=hi) with
    |true =>
      repeat' (first|(apply nx;with_reducible constructor)|refine uq (by decide) ?_|((first|refine vx env fun Q hQ=>?_|refine vz fun Q hQ=>?_);simp only [vkt,seval,wJ,xM,ql,qc,qp,qE,qo,qG,qd,aTk,cTk,qx,eTk,rTk,mTk,qh,qa,qb,qw,qj,ifS,wN,List.length_map,d0,q1,hX,b3,b4];(try simp only [ite_and]);(repeat' (first|with_reducible assumption|refine And.intro ?_ ?_|intro hp));all_goals (first|(refine hQ _ ?_;clear hQ Q)|(refine hQ _ (fun h=>?_) (fun h=>?_) <;> clear hQ Q <;> (try simp only [vki,reduceCtorEq] at h))|(refine vq ?_;kernel_rfl)|omega|assumption|with_reducible rfl|skip)))
      (simp only [vrt,Try.results23,vkt,seval,wJ,xM,ql,qc,qp,qE,qo,qG,qd,aTk,cTk,qx,eTk,rTk,mTk,qh,qa,qb,qw,qj,ifS,wN,List.length_map];refine Fin.val rfl ?_;(try simp only [AV.le,AV.leL]))
      all_goals first|rfl|(simp;done)
    |false =>
      have q2':decide (lo+1=hi)=decide (hi=lo+1):=by rw [decide_eq_decide];omega
      rw [q2']
      cases q2:decide (hi=lo+1) with
      |false =>
        repeat' (first|(apply nx;with_reducible constructor)|refine uq (by decide) ?_|((first|refine vx env fun Q hQ=>?_|refine vz fun Q hQ=>?_);simp only [vkt,seval,wJ,xM,ql,qc,qp,qE,qo,qG,qd,aTk,cTk,qx,eTk,rTk,mTk,qh,qa,qb,qw,qj,ifS,wN,List.length_map,d0,q1,q2,w1,hX,b3,b4];(try simp only [ite_and]);(repeat' (first|with_reducible assumption|refine And.intro ?_ ?_|intro hp));all_goals (first|(refine hQ _ ?_;clear hQ Q)|(refine hQ _ (fun h=>?_) (fun h=>?_) <;> clear hQ Q <;> (try simp only [vki,reduceCtorEq] at h))|(refine vq ?_;kernel_rfl)|omega|assumption|with_reducible rfl|skip)))
        (simp only [vrt,Try.results23,vkt,seval,wJ,xM,ql,qc,qp,qE,qo,qG,qd,aTk,cTk,qx,eTk,rTk,mTk,qh,qa,qb,qw,qj,ifS,wN,List.length_map];refine Fin.val rfl ?_;(try simp only [AV.le,AV.leL]))
        all_goals first|rfl|(simp;done)
      |true =>
        cases q3:x.door with
        |false =>
          repeat' (first|(apply nx;with_reducible constructor)|refine uq (by decide) ?_|((first|refine vx env fun Q hQ=>?_|refine vz fun Q hQ=>?_);simp only [vkt,seval,wJ,xM,ql,qc,qp,qE,qo,qG,qd,aTk,cTk,qx,eTk,rTk,mTk,qh,qa,qb,qw,qj,ifS,wN,List.length_map,d0,q1,q2,q3,w1,hx,g1,g2,hX,b3,b4];(try simp only [ite_and]);(repeat' (first|with_reducible assumption|refine And.intro ?_ ?_|intro hp));all_goals (first|(refine hQ _ ?_;clear hQ Q)|(refine hQ _ (fun h=>?_) (fun h=>?_) <;> clear hQ Q <;> (try simp only [vki,reduceCtorEq] at h))|(refine vq ?_;kernel_rfl)|omega|assumption|with_reducible rfl|skip)))
          (simp only [vrt,Try.results23,vkt,seval,wJ,xM,ql,qc,qp,qE,qo,qG,qd,aTk,cTk,qx,eTk,rTk,mTk,qh,qa,qb,qw,qj,ifS,wN,List.length_map];refine Fin.val rfl ?_;(try simp only [AV.le,AV.leL]))
          all_goals first|rfl|(simp;done)
        |true =>
          repeat' (first|(apply nx;with_reducible constructor)|refine uq (by decide) ?_|((first|refine vx env fun Q hQ=>?_|refine vz fun Q hQ=>?_);simp only [vkt,seval,wJ,xM,ql,qc,qp,qE,qo,qG,qd,aTk,cTk,qx,eTk,rTk,mTk,qh,qa,qb,qw,qj,ifS,wN,List.length_map,d0,q1,q2,q3,w1,hx,g1,g2,hX,b3,b4];(try simp only [ite_and]);(repeat' (first|with_reducible assumption|refine And.intro ?_ ?_|intro hp));all_goals (first|(refine hQ _ ?_;clear hQ Q)|(refine hQ _ (fun h=>?_) (fun h=>?_) <;> clear hQ Q <;> (try simp only [vki,reduceCtorEq] at h))|(refine vq ?_;kernel_rfl)|omega|assumption|with_reducible rfl|skip)))
          (simp only [vrt,Try.results23,vkt,seval,wJ,xM,ql,qc,qp,qE,qo,qG,qd,aTk,cTk,qx,eTk,rTk,mTk,qh,qa,qb,qw,qj,ifS,wN,List.length_map];refine Fin.val rfl ?_;(try simp only [AV.le,AV.leL]))
          all_goals first|rfl|(simp;done)
def yZ:List AV→Prop × AV
  |[.agg [.sl c0,.v (.int .i64 c1),.sl c2],.agg [.v (.int .i64 a0),.v (.int .i64 a1),.v (.int .i64 a2),.sl a3,.v (.bool a4)],.sl l]=>(c0=(c0.map qB).map qo∧c2=(c2.map dTk).map eTk∧a3=(a3.map zl).map zC∧l=(l.map zG).map qp∧NearOk ((⟨(c0.map qB),c1,(c2.map dTk)⟩:Chart)).cabins (l.map zG)∧(l.map zG).length≤20∧((⟨a0,a1,a2,(a3.map zl),a4⟩:Ask)).sexes.length=(l.map zG).length∧((⟨(c0.map qB),c1,(c2.map dTk)⟩:Chart)).sold.length≤50∧((⟨(c0.map qB),c1,(c2.map dTk)⟩:Chart)).secs≤1000,aB (jW ((⟨(c0.map qB),c1,(c2.map dTk)⟩:Chart)) ((⟨a0,a1,a2,(a3.map zl),a4⟩:Ask)) (l.map zG)))
  |_=>(False,.junk)
theorem Qiu {A:Frm→Prop}:qC A Try.prog 23 (zk true yZ):=zn fun vs hv h=>by
  clear hv
  unfold yZ at h ⊢
  split at h
  · rename_i c0 c1 c2 a0 a1 a2 a3 a4 l;obtain ⟨q0,q1,q2,q3,k0,k1,k2,k3,k4⟩:=h
    refine ⟨by first|trivial|(simp [AV.plain,AV.plainL,aI,aB,qA,qc,qx,ql,aTk,cTk];done)|(repeat' split) <;> simp [AV.plain,AV.plainL,aI,aB,qA,qc,qx,ql,aTk,cTk],fun _=>(by simp [AV.flat,AV.flatL,aI,aB]), ?_⟩
    have:=QeI ((⟨(c0.map qB),c1,(c2.map dTk)⟩:Chart)) ((⟨a0,a1,a2,(a3.map zl),a4⟩:Ask)) (l.map zG) k0 k1 k2 k3 k4
    simp only [qw,aB,qc,zR,qa,aI,qA,qx,qj,qb,← q0,← q1,← q2,← q3] at this
    first|exact this|(simp only [qw,aB,qc,zR,qa,aI,qA,qx,qj,qb,← q0,← q1,← q2,← q3];exact this)
  · exact h.elim
end Go.Sym.B
namespace Go.Sym.B
open Go Go.Sym Go.Proofs Go.Sym.C
def Yj (cs:List Cabin) (a:Ask):List Tk→List Bunk→List Bunk→Bool
  |_,_,[]=>true
  |sold,begun,b :: r=>goB cs a sold begun b && Yj cs a (sold++[kD a begun.length b]) (begun++[b]) r
theorem Qaa (cs:List Cabin) (a:Ask):∀ (m:Nat) (sold:List Tk) (begun:List Bunk),(ww cs a m sold begun).map (·.1)=((alL (qV cs) m).filter (Yj cs a sold begun)).map (begun++·)
  |0,sold,begun=>by
    show [begun]=(([[]]:List (List Bunk)).filter (Yj cs a sold begun)).map (begun++·)
    rw [List.filter_cons_of_pos (by rfl)]
    simp
  |m+1,sold,begun=>by
    rw [xR,alL,List.map_flatMap,List.filter_flatMap,List.map_flatMap]
    refine congrArg (List.flatMap · (qV cs)) (funext fun b=>?_)
    unfold gbL
    cases h:goB cs a sold begun b with
    |true =>
      rw [if_pos rfl,Qaa cs a m,List.filter_map,List.map_map]
      have e1:(Yj cs a sold begun ∘ fun x=>b :: x)=Yj cs a (sold++[kD a begun.length b]) (begun++[b]):=funext fun r=>by
        show Yj cs a sold begun (b :: r)=_
        rw [Yj,h,Bool.true_and]
      rw [e1]
      refine congrArg (List.map · _) (funext fun r=>?_)
      show (begun++[b])++r=begun++b :: r
      simp
    |false =>
      rw [if_neg (by decide),List.filter_map]
      have e1:(Yj cs a sold begun ∘ fun x=>b :: x)=fun _=>false:=funext fun r=>by
        show Yj cs a sold begun (b :: r)=_
        rw [Yj,h,Bool.false_and]
      rw [e1]
      simp
def PWr:List Tk→List Tk→Prop
  |_,[]=>True
  |s,t :: ts=>wo t s=0∧PWr (s++[t]) ts
theorem QcX:∀ (s l r:List Tk),PWr s (l++r) ↔ PWr s l∧PWr (s++l) r
  |s,[],r=>by simp [PWr]
  |s,t :: l,r=>by
    show wo t s=0∧PWr (s++[t]) (l++r) ↔ (wo t s=0∧PWr (s++[t]) l)∧PWr (s++t :: l) r
    rw [QcX (s++[t]) l r,and_assoc]
    simp
theorem Uf:∀ (s l:List Tk),PWr s l ↔ ∀ i,i < l.length→wo (l.getD i default) (s++l.take i)=0
  |s,[]=>by simp [PWr]
  |s,t :: l=>by
    show wo t s=0∧PWr (s++[t]) l ↔ _
    rw [Uf (s++[t]) l]
    constructor
    · rintro ⟨h1,h2⟩ i hi
      cases i with
      |zero=>simpa using h1
      |succ i =>
        have:=h2 i (by simpa using hi)
        simpa using this
    · intro h
      refine ⟨by simpa using h 0 (by simp),fun i hi=>?_⟩
      have:=h (i+1) (by simpa using hi)
      simpa using this
def tkR (a:Ask):Nat→List Bunk→List Tk
  |_,[]=>[]
  |n,b :: r=>kD a n b :: tkR a (n+1) r
theorem Qcy (a:Ask):∀ (n:Nat) (l r:List Bunk),tkR a n (l++r)=tkR a n l++tkR a (n+l.length) r
  |n,[],r=>by simp [tkR]
  |n,b :: l,r=>by
    show kD a n b :: tkR a (n+1) (l++r)=_
    rw [Qcy a (n+1) l r]
    simp [tkR,Nat.add_assoc,Nat.add_comm 1]
theorem RN (a:Ask) (l:List Bunk):∀ k,k≤l.length→jK a l k=tkR a 0 (l.take k)
  |0,_=>by simp [jK,tkR]
  |k+1,h=>by
    rw [XN,RN a l k (by omega),List.take_succ_eq_append_getElem h,Qcy,List.length_take]
    have hk:k < l.length:=h
    simp [tkR,List.getD_eq_getElem?_getD,hk,Nat.min_eq_left (show k≤l.length by omega)]
theorem QcN {a:Ask} {t:Tk}:∀ {n:Nat} {l:List Bunk},t ∈ tkR a n l→∃ i b,i < l.length∧b ∈ l∧t=kD a (n+i) b
  |n,[],h=>by simp [tkR] at h
  |n,b :: l,h=>by
    rcases List.mem_cons.1 h with rfl|h
    · exact ⟨0,b,by simp,by simp,rfl⟩
    · obtain ⟨i,b',h1,h2,h3⟩:=QcN h
      exact ⟨i+1,b',by simpa using h1,List.mem_cons_of_mem _ h2,by rw [h3,show n+1+i=n+(i+1) by omega]⟩
theorem QcG (l:List Bunk):∀ m:Int,l.foldl (fun m b=>min m b.cab) m≤m:=by
  induction l with
  |nil=>intro m;exact Int.le_refl _
  |cons b l ih=>intro m;have:=ih (min m b.cab);rw [List.foldl_cons];omega
theorem QcD (l:List Bunk):∀ m:Int,m≤l.foldl (fun m b=>max m b.cab) m:=by
  induction l with
  |nil=>intro m;exact Int.le_refl _
  |cons b l ih=>intro m;have:=ih (max m b.cab);rw [List.foldl_cons];omega
theorem QhH {cs:List Cabin} {l r:List Bunk} (h:Zz cs (l++r)=true) (hl:l ≠ []):Zz cs l=true:=by
  have h0:(l++r).getD 0 default=l.getD 0 default:=by
    cases l with
    |nil=>exact absurd rfl hl
    |cons b l=>rfl
  unfold Zz at h ⊢
  simp only [h0,List.foldl_append] at h ⊢
  have g1:=QcG r (l.foldl (fun m b=>min m b.cab) (l.getD 0 default).cab)
  have g2:=QcD r (l.foldl (fun m b=>max m b.cab) (l.getD 0 default).cab)
  have g3:=QcG l (l.getD 0 default).cab
  have g4:=QcD l (l.getD 0 default).cab
  generalize l.foldl (fun m b=>min m b.cab) (l.getD 0 default).cab=lo at *
  generalize l.foldl (fun m b=>max m b.cab) (l.getD 0 default).cab=hi at *
  generalize r.foldl (fun m b=>min m b.cab) lo=lo2 at *
  generalize r.foldl (fun m b=>max m b.cab) hi=hi2 at *
  rw [Bool.or_eq_true,Bool.and_eq_true,decide_eq_true_eq,decide_eq_true_eq] at h ⊢
  rcases h with h|⟨h,hd⟩
  · exact .inl (by omega)
  · by_cases he:lo=hi
    · exact .inl he
    · have:lo=lo2:=by omega
      exact .inr ⟨by omega,by rw [this];exact hd⟩
theorem Qcv {cs:List Cabin} {a:Ask} (hw:a.frm < a.to):∀ (r:List Bunk) (sold:List Tk) (begun:List Bunk),(∀ b ∈ begun,∃ x ∈ sold,x.cab=b.cab∧x.bed=b.bed∧x.frm=a.frm∧x.to=a.to) →
    (Yj cs a sold begun r=true ↔ PWr sold (tkR a begun.length r)∧(r ≠ []→Zz cs (begun++r)=true))
  |[],sold,begun,_=>by simp [Yj,tkR,PWr]
  |b :: r,sold,begun,hb=>by
    have hb':∀ b' ∈ begun++[b],∃ x ∈ sold++[kD a begun.length b],x.cab=b'.cab∧x.bed=b'.bed∧x.frm=a.frm∧x.to=a.to:=fun b' h=>by
      rcases List.mem_append.1 h with h|h
      · obtain ⟨x,h1,h2⟩:=hb b' h
        exact ⟨x,List.mem_append.2 (.inl h1),h2⟩
      · rw [List.mem_singleton.1 h]
        exact ⟨_,List.mem_append.2 (.inr (List.mem_singleton.2 rfl)),rfl,rfl,rfl,rfl⟩
    have ih:=Qcv (cs:=cs) hw r (sold++[kD a begun.length b]) (begun++[b]) hb'
    rw [Yj,Bool.and_eq_true,ih]
    have el:(begun++[b]).length=begun.length+1:=by simp
    rw [el]
    show _ ↔ (wo (kD a begun.length b) sold=0∧PWr (sold++[kD a begun.length b]) (tkR a (begun.length+1) r))∧_
    have ea:begun++[b]++r=begun++b :: r:=by simp
    rw [ea]
    unfold goB
    rw [Bool.and_eq_true,Bool.and_eq_true,decide_eq_true_eq]
    constructor
    · rintro ⟨⟨⟨_,h2⟩,h3⟩,h4,h5⟩
      refine ⟨⟨h3,h4⟩,fun _=>?_⟩
      cases r with
      |nil=>exact h2
      |cons b2 r=>exact h5 (by simp)
    · rintro ⟨⟨h3,h4⟩,h5⟩
      have h5:=h5 (by simp)
      refine ⟨⟨⟨?_, ?_⟩,h3⟩,h4,fun _=>h5⟩
      · cases hc:begun.contains b with
        |false=>rfl
        |true =>
          obtain ⟨x,hx,g1,g2,g3,g4⟩:=hb b (by simpa using hc)
          have:=(Zv.1 h3 x hx).1
          unfold vY QE kD at this
          simp [g1,g2,g3,g4,hw] at this
      · refine QhH (r:=r) ?_ (by simp)
        rw [ea];exact h5
theorem Qjs {secs:Int} {t x:Tk} (ht:0≤t.frm∧t.frm < t.to∧t.to≤secs) (hx:0≤x.frm∧x.frm < x.to∧x.to≤secs):(∀ s:Nat,s < secs.toNat→stB t x s=false) ↔ vY t x=false∧ZT x t=true:=by
  constructor
  · intro h
    cases hm:QE x t with
    |false =>
      unfold vY ZT
      rw [hm];simp
    |true =>
      have hm2:=hm
      unfold QE at hm2
      rw [Bool.and_eq_true,decide_eq_true_eq,decide_eq_true_eq] at hm2
      obtain ⟨s,hs⟩:∃ s:Nat,(s:Int)=max t.frm x.frm:=⟨(max t.frm x.frm).toNat,by omega⟩
      have:=h s (by omega)
      unfold stB at this
      rw [decide_eq_false (show ¬ (s:Int) < t.frm by omega),decide_eq_false (show ¬ t.to≤(s:Int) by omega),decide_eq_false (show ¬ (s:Int) < x.frm by omega),decide_eq_false (show ¬ x.to≤(s:Int) by omega)] at this
      have e1:decide (x.cab=t.cab)=decide (t.cab=x.cab):=by rw [decide_eq_decide];exact eq_comm
      have e2:decide (x.bed=t.bed)=decide (t.bed=x.bed):=by rw [decide_eq_decide];exact eq_comm
      have e3:decide (x.party=t.party)=decide (t.party=x.party):=by rw [decide_eq_decide];exact eq_comm
      have e4:decide (x.sex=t.sex)=decide (t.sex=x.sex):=by rw [decide_eq_decide];exact eq_comm
      have e5:decide (x.cab ≠ t.cab)=!decide (t.cab=x.cab):=by rw [decide_not,e1]
      unfold vY ZT
      rw [hm,e5,e1,e2,e3,e4]
      revert this
      generalize decide (t.cab=x.cab)=A
      generalize decide (t.bed=x.bed)=B
      generalize decide (t.party=x.party)=C
      generalize decide (t.sex=x.sex)=D
      generalize x.dog=E
      generalize t.dog=F
      revert A B C D E F
      decide
  · rintro ⟨h1,h2⟩ s _
    have e1:decide (x.cab=t.cab)=decide (t.cab=x.cab):=by rw [decide_eq_decide];exact eq_comm
    have e2:decide (x.bed=t.bed)=decide (t.bed=x.bed):=by rw [decide_eq_decide];exact eq_comm
    have e3:decide (x.party=t.party)=decide (t.party=x.party):=by rw [decide_eq_decide];exact eq_comm
    have e4:decide (x.sex=t.sex)=decide (t.sex=x.sex):=by rw [decide_eq_decide];exact eq_comm
    have e5:decide (x.cab ≠ t.cab)=!decide (t.cab=x.cab):=by rw [decide_not,e1]
    cases hm:QE x t with
    |false =>
      unfold stB
      by_cases g1:(s:Int) < t.frm
      · simp [g1]
      by_cases g2:t.to≤(s:Int)
      · simp [g2]
      by_cases g3:(s:Int) < x.frm
      · simp [g3]
      by_cases g4:x.to≤(s:Int)
      · simp [g4]
      exfalso
      unfold QE at hm
      rw [decide_eq_true (show x.frm < t.to by omega),decide_eq_true (show t.frm < x.to by omega)] at hm
      exact absurd hm (by decide)
    |true =>
      unfold vY at h1
      unfold ZT at h2
      rw [hm,e1,e2] at h1
      rw [hm,e5,e3,e4] at h2
      unfold stB
      generalize decide ((s:Int) < t.frm)=G
      generalize decide (t.to≤(s:Int))=H
      generalize decide ((s:Int) < x.frm)=I
      generalize decide (x.to≤(s:Int))=J
      revert h1 h2
      generalize decide (t.cab=x.cab)=A
      generalize decide (t.bed=x.bed)=B
      generalize decide (t.party=x.party)=C
      generalize decide (t.sex=x.sex)=D
      generalize x.dog=E
      generalize t.dog=F
      revert A B C D E F G H I J
      decide
theorem UK {cs:List Cabin} {secs:Int} {l:List Tk} (h:∀ t ∈ l,0≤t.frm∧t.frm < t.to∧t.to≤secs):QaO ⟨cs,secs,l⟩=false ↔ PWr [] l:=by
  rw [Uf]
  unfold QaO
  rw [List.any_eq_false]
  have hg:∀ {i:Nat},i < l.length→l.getD i default ∈ l:=fun hi=>vL hi
  constructor
  · intro hs i hi
    rw [List.nil_append,Zv]
    intro x hx
    obtain ⟨k,hk,rfl⟩:=List.mem_iff_getElem.1 hx
    rw [List.length_take] at hk
    have h1:=hs i (List.mem_range.2 hi)
    unfold rwB at h1
    rw [Bool.not_eq_true,List.any_eq_false] at h1
    have h2:=h1 k (List.mem_range.2 (by omega))
    have ek:l.getD k default=(l.take i)[k]'(by rw [List.length_take];omega):=by simp [List.getD_eq_getElem?_getD,show k < l.length by omega]
    unfold prB at h2
    rw [Bool.not_eq_true,List.any_eq_false] at h2
    simp only at h2
    rw [← ek]
    refine (Qjs (h _ (hg hi)) (h _ (hg (show k < l.length by omega)))).1 fun s hs=>?_
    have:=h2 s (List.mem_range.2 hs)
    simpa using this
  · intro hp i hi
    have hi:=List.mem_range.1 hi
    unfold rwB
    rw [Bool.not_eq_true,List.any_eq_false]
    intro k hk
    have hk:=List.mem_range.1 hk
    unfold prB
    rw [Bool.not_eq_true,List.any_eq_false]
    intro s hs
    have hi':i < l.length:=hi
    have h1:=hp i hi'
    rw [List.nil_append,Zv] at h1
    have hkl:k < l.length:=by omega
    have h2:=h1 (l.getD k default) (by
      rw [List.mem_iff_getElem]
      exact ⟨k,by rw [List.length_take];omega,by simp [List.getD_eq_getElem?_getD,hkl]⟩)
    have:=(Qjs (h _ (hg hi')) (h _ (hg hkl))).2 h2 s (List.mem_range.1 hs)
    simpa using this
theorem Qdz {c:Chart} (h:wB c=0):PWr [] c.sold:=by
  rw [Uf]
  intro i hi
  unfold wB at h
  split at h
  · exact absurd h ‹_›
  rw [List.nil_append]
  exact (XD h i hi).2
theorem Qb1 {bs:List Bunk}:∀ {m:Nat} {l:List Bunk},l ∈ alL bs m→∀ b ∈ l,b ∈ bs
  |0,l,hl,b,hb=>by rw [List.mem_singleton.1 hl] at hb;simp at hb
  |m+1,l,hl,b,hb=>by
    obtain ⟨b0,h0,hl⟩:=List.mem_flatMap.1 hl
    obtain ⟨q,hq,rfl⟩:=List.mem_map.1 hl
    rcases List.mem_cons.1 hb with rfl|hb
    · exact h0
    · exact Qb1 hq b hb
end Go.Sym.B
namespace Go.Sym.B
open Go Go.Sym Go.Proofs Go.Sym.C
end Go.Sym.B
namespace Go.Sym.B
open Go Go.Sym Go.Proofs Go.Sym.C
theorem Qd4 {l m:List Int} (h0:l.length=m.length) (h:∀ j,j < l.length→l.getD j 0=m.getD j 0):l=m:=Xr h0 h
def VF (l m:List Int) (k:Nat):St:={ t:=asg [(0,qA l),(1,qA m),(4,aB false),(5,aI k)],h:=qg [],n:=0 }
def vG:=vj @ty3 (vj @Qf (vj @ti3.eq_1 @kC.eq_1))
def Qr:=vj @aI.eq_1 (vj @aB.eq_1 (vj @qA.eq_1 (vj @zC.eq_1 (@Y4))))
theorem QjY (l m:List Int) (hl:l.length≤maxLen) (hm:m.length≤maxLen):FnV Try.prog 54 [qA l,qA m] (aB (decide (l=m))):=by
  have env:Env (fun _=>True) Try.prog tyB (tab []):=qM trivial
  refine Fn.of (A:=fun _=>True) (n0:=0) (D:=noD) (Fn0 Try.func54 rfl (fun vs w=>by kernel_rfl) (by kernel_rfl)) (by simp) (by simp [AV.ids,qA]) (fun i o h=>by cases h) (fun _ _ _ _=>trivial) qH ?_
  have hmx:maxLen=9223372036854775807:=by decide
  by_cases h0:l.length=m.length
  · have d0:decide ((l.length:Int)=(m.length:Int))=true:=decide_eq_true (by omega)
    repeat' (first|(apply nx;with_reducible constructor)|refine uq (by decide) ?_|((first|refine vx env fun Q hQ=>?_|refine vz fun Q hQ=>?_);simp only [vkt,seval,vG,Qr,VF,Bool.true_and,Bool.false_and,d0];(try simp only [ite_and]);(repeat' (first|with_reducible assumption|refine And.intro ?_ ?_|intro hp));all_goals (first|(refine hQ _ ?_;clear hQ Q)|(refine hQ _ (fun h=>?_) (fun h=>?_) <;> clear hQ Q <;> (try simp only [vki,reduceCtorEq] at h))|(refine vq ?_;kernel_rfl)|omega|assumption|with_reducible rfl|skip)))
    refine qU (fun k:{ k:Nat // k≤l.length∧∀ j,j < k→l.getD j 0=m.getD j 0 }=>VF l m k.1) (fun k=>l.length - k.1) ⟨0,Nat.zero_le _,fun j h=>absurd h (Nat.not_lt_zero _)⟩ ?_ fun ⟨k,hk,hno⟩=>?_
    · (refine Le.ok some [] ?_;constructor;all_goals (try simp only [vle,vkt,seval,vG,Qr,VF,Bool.true_and,Bool.false_and]))
      all_goals first|rfl|(simp;done)
    simp only at hk hno ⊢
    simp only [VF]
    by_cases hlt:k < l.length
    · have d1:decide ((k:Int) < (l.length:Int))=true:=decide_eq_true (by omega)
      have hlm:k < m.length:=by omega
      have k0:((k:Int)).toNat=k:=rfl
      have e9:IntKind.wrap .i64 ((k:Int)+1)=((k+1:Nat):Int):=by rw [wrap64 (by omega) (by omega)];rfl
      obtain ⟨x,hx⟩:∃ x,l.getD k 0=x:=⟨_,rfl⟩
      obtain ⟨y,hy⟩:∃ x,m.getD k 0=x:=⟨_,rfl⟩
      have hxy:(decide (x=y))=decide (x=y):=by rfl
      have hne:¬ x=y→decide (l=m)=false:=fun h=>decide_eq_false fun e=>h (by rw [← hx,← hy,e])
      cases q:decide (x=y) with
      |false =>
        rw [hne (of_decide_eq_false q)]
        repeat' (first|(apply nx;with_reducible constructor)|refine uq (by decide) ?_|((first|refine vx env fun Q hQ=>?_|refine vz fun Q hQ=>?_);simp only [vkt,seval,vG,Qr,VF,Bool.true_and,Bool.false_and,d1,k0,hlt,hlm,hx,hy,hxy,q];(try simp only [ite_and]);(repeat' (first|with_reducible assumption|refine And.intro ?_ ?_|intro hp));all_goals (first|(refine hQ _ ?_;clear hQ Q)|(refine hQ _ (fun h=>?_) (fun h=>?_) <;> clear hQ Q <;> (try simp only [vki,reduceCtorEq] at h))|(refine vq ?_;kernel_rfl)|omega|assumption|with_reducible rfl|skip)))
        (simp only [vrt,Try.results54,vkt,seval,vG,Qr,VF,Bool.true_and,Bool.false_and];refine Fin.val rfl ?_;(try simp only [AV.le,AV.leL]))
        all_goals first|rfl|(simp;done)
      |true =>
        repeat' (first|(apply nx;with_reducible constructor)|refine uq (by decide) ?_|((first|refine vx env fun Q hQ=>?_|refine vz fun Q hQ=>?_);simp only [vkt,seval,vG,Qr,VF,Bool.true_and,Bool.false_and,d1,k0,hlt,hlm,hx,hy,hxy,q,e9];(try simp only [ite_and]);(repeat' (first|with_reducible assumption|refine And.intro ?_ ?_|intro hp));all_goals (first|(refine hQ _ ?_;clear hQ Q)|(refine hQ _ (fun h=>?_) (fun h=>?_) <;> clear hQ Q <;> (try simp only [vki,reduceCtorEq] at h))|(refine vq ?_;kernel_rfl)|omega|assumption|with_reducible rfl|skip)))
        refine ⟨⟨k+1,hlt,fun j hj=>?_⟩,by show l.length - (k+1) < l.length - k;omega, ?_⟩
        · rcases Nat.lt_or_eq_of_le (Nat.le_of_lt_succ hj) with h1|h1
          · exact hno j h1
          · rw [h1,hx,hy];exact of_decide_eq_true q
        · (refine Le.ok some [] ?_;constructor;all_goals (try simp only [vle,vkt,seval,vG,Qr,VF,Bool.true_and,Bool.false_and]))
          all_goals first|rfl|(simp;done)
    · have d1:decide ((k:Int) < (l.length:Int))=false:=decide_eq_false (by omega)
      obtain rfl:k=l.length:=by omega
      rw [decide_eq_true (Qd4 h0 hno)]
      repeat' (first|(apply nx;with_reducible constructor)|refine uq (by decide) ?_|((first|refine vx env fun Q hQ=>?_|refine vz fun Q hQ=>?_);simp only [vkt,seval,vG,Qr,VF,Bool.true_and,Bool.false_and,d1];(try simp only [ite_and]);(repeat' (first|with_reducible assumption|refine And.intro ?_ ?_|intro hp));all_goals (first|(refine hQ _ ?_;clear hQ Q)|(refine hQ _ (fun h=>?_) (fun h=>?_) <;> clear hQ Q <;> (try simp only [vki,reduceCtorEq] at h))|(refine vq ?_;kernel_rfl)|omega|assumption|with_reducible rfl|skip)))
      (simp only [vrt,Try.results54,vkt,seval,vG,Qr,VF,Bool.true_and,Bool.false_and];refine Fin.val rfl ?_;(try simp only [AV.le,AV.leL]))
      all_goals first|rfl|(simp;done)
  · have d0:decide ((l.length:Int)=(m.length:Int))=false:=decide_eq_false (by omega)
    rw [decide_eq_false (fun e=>h0 (by rw [e]))]
    repeat' (first|(apply nx;with_reducible constructor)|refine uq (by decide) ?_|((first|refine vx env fun Q hQ=>?_|refine vz fun Q hQ=>?_);simp only [vkt,seval,vG,Qr,VF,Bool.true_and,Bool.false_and,d0];(try simp only [ite_and]);(repeat' (first|with_reducible assumption|refine And.intro ?_ ?_|intro hp));all_goals (first|(refine hQ _ ?_;clear hQ Q)|(refine hQ _ (fun h=>?_) (fun h=>?_) <;> clear hQ Q <;> (try simp only [vki,reduceCtorEq] at h))|(refine vq ?_;kernel_rfl)|omega|assumption|with_reducible rfl|skip)))
    (simp only [vrt,Try.results54,vkt,seval,vG,Qr,VF,Bool.true_and,Bool.false_and];refine Fin.val rfl ?_;(try simp only [AV.le,AV.leL]))
    all_goals first|rfl|(simp;done)
def ZN:List AV→Prop × AV
  |[.sl l,.sl m]=>(l=(l.map zl).map zC∧m=(m.map zl).map zC∧(l.map zl).length≤maxLen∧(m.map zl).length≤maxLen,aB (decide ((l.map zl)=(m.map zl))))
  |_=>(False,.junk)
theorem eeqI {A:Frm→Prop}:qC A Try.prog 54 (zk true ZN):=zn fun vs hv h=>by
  clear hv
  unfold ZN at h ⊢
  split at h
  · rename_i l m;obtain ⟨q0,q1,k0,k1⟩:=h
    refine ⟨by first|trivial|(simp [AV.plain,AV.plainL,aI,aB,qA,qc,qx,ql,aTk,cTk];done)|(repeat' split) <;> simp [AV.plain,AV.plainL,aI,aB,qA,qc,qx,ql,aTk,cTk],fun _=>(by simp [AV.flat,AV.flatL,aI,aB]), ?_⟩
    have:=QjY (l.map zl) (m.map zl) k0 k1
    simp only [qA,← q0,← q1] at this
    first|exact this|(simp only [qA,← q0,← q1];exact this)
  · exact h.elim
end Go.Sym.B
namespace Go.Sym.B
open Go Go.Sym Go.Proofs Go.Sym.C
def bitB (b n:Int):Bool:=decide (b / 2 ^ n.toNat % 2=1)
end Go.Sym.B
namespace Go.Sym.B
open Go Go.Sym Go.Proofs Go.Sym.C
end Go.Sym.B
namespace Go.Sym.B
open Go Go.Sym Go.Proofs Go.Sym.C
end Go.Sym.B
namespace Go.Sym.B
open Go Go.Sym Go.Proofs Go.Sym.C
end Go.Sym.B
namespace Go.Sym.B
open Go Go.Sym Go.Proofs Go.Sym.C
end Go.Sym.B
namespace Go.Sym.B
open Go Go.Sym Go.Proofs Go.Sym.C
def one (b:Bool):Nat:=if b then 1 else 0
end Go.Sym.B
namespace Go.Sym.B
open Go Go.Sym Go.Proofs Go.Sym.C
end Go.Sym.B
namespace Go.Sym.B
open Go Go.Sym Go.Proofs Go.Sym.C
theorem Qag {cs:List Cabin} {a:Ask}:∀ (m:Nat) (sold:List Tk) (begun:List Bunk),∀ x ∈ ww cs a m sold begun,∃ new:List Bunk,x.1=begun++new∧x.2=sold++tkR a begun.length new
  |0,sold,begun,x,hx=>by
    simp only [ww,List.mem_singleton] at hx
    subst hx
    exact ⟨[],by simp,by simp [tkR]⟩
  |m+1,sold,begun,x,hx=>by
    rw [xR,List.mem_flatMap] at hx
    obtain ⟨b,hb,hx⟩:=hx
    unfold gbL at hx
    split at hx
    · obtain ⟨new,h1,h2⟩:=Qag m _ _ x hx
      refine ⟨b :: new,by rw [h1];simp, ?_⟩
      rw [h2,List.length_append,List.length_singleton]
      simp [tkR]
    · simp at hx
theorem QhW {c:Chart} {a:Ask} {x:List Bunk × List Tk} (hx:x ∈ plP c a):x.2=c.sold++jK a x.1 x.1.length:=by
  obtain ⟨new,h1,h2⟩:=Qag _ _ _ x hx
  rw [List.nil_append] at h1
  rw [h2,h1,RN a new new.length (Nat.le_refl _),List.take_length];rfl
end Go.Sym.B
namespace Go.Sym.B
open Go Go.Sym Go.Proofs Go.Sym.C
end Go.Sym.B
namespace Go.Sym.B
open Go Go.Sym Go.Proofs Go.Sym.C
end Go.Sym.B
namespace Go.Sym.B
open Go Go.Sym Go.Proofs Go.Sym.C
def Wm:=vj @VJ (vj @Zb (vj @vg (vj @VD (vj @xy (vj @Yc.eq_1 (vj @Qx.eq_1 (vj @yI.eq_1 (vj @Yb.eq_1 @vW.eq_1))))))))
def Uy:=vj @aI.eq_1 (@aB.eq_1)
theorem Qe1 (cs ts:List (List DV)) (s:Int) (h1:zI 2 cs) (h2:zI 7 ts) (h3:cs.length≤100000) (h4:ts.length≤100000):Fn noB Try.prog 88 [.agg [.sl cs,.v (.int .i64 s),.sl ts]] noH (.agg [.row 0,.v (.int .i64 s),.row 1]) (qg [(0,.row 51 2 cs),(1,.row 81 7 ts)]) 0:=by
  have env:Env (fun _=>True) Try.prog tyB (tab []):=qM trivial
  obtain ⟨b1,b2,b3,b5,b4⟩:=b47 h3
  obtain ⟨c1,c2,c3,c5,c4⟩:=b47 h4
  refine Fn.of (A:=fun _=>True) (n0:=0) (D:=noD) (Fn0 Try.func88 rfl (fun vs w=>by kernel_rfl) (by kernel_rfl)) (by simp) (by simp [AV.ids,AV.idsL]) (fun i o h=>by cases h) (fun _ _ _ _=>trivial) qH ?_
  repeat' (first|(apply nx;with_reducible constructor)|refine uq (by decide) ?_|((first|refine vx env fun Q hQ=>?_|refine vz fun Q hQ=>?_);simp only [vkt,seval,Wm,Uy,qa,qb,rTk,wD,List.nil_append,h1,h2];(try simp only [ite_and]);(repeat' (first|with_reducible assumption|refine And.intro ?_ ?_|intro hp));all_goals (first|(refine hQ _ ?_;clear hQ Q)|(refine hQ _ (fun h=>?_) (fun h=>?_) <;> clear hQ Q <;> (try simp only [vki,reduceCtorEq] at h))|(refine vq ?_;kernel_rfl)|omega|assumption|with_reducible rfl|skip)))
  (simp only [vrt,Try.results88,vkt,seval,Wm,Uy,qa,qb,rTk,wD,List.nil_append];refine Fin.ok (fun j=>[2,3][j]?) [] ?_ ?_ ?_ ?_ ?_ rfl;all_goals (try simp only [vle,vkt,seval,Wm,Uy,qa,qb,rTk,wD,List.nil_append]))
  all_goals first|rfl|(simp;done)
def YG (_:St):List AV→Option Pk
  |[.agg [.sl cs,.v (.int .i64 s),.sl ts]]=>some { pre:=zI 2 cs∧zI 7 ts∧cs.length≤100000∧ts.length≤100000,ar:=[.agg [.sl cs,.v (.int .i64 s),.sl ts]],v:=.agg [.row 0,.v (.int .i64 s),.row 1],L1:=[some (.row 51 2 cs),some (.row 81 7 ts)] }
  |_=>none
theorem QiJ {A:Frm→Prop}:qC A Try.prog 88 (fnE YG):=zx fun S bs q h hp=>by
  unfold YG at h
  split at h
  · cases h;exact Qe1 _ _ _ hp.1 hp.2.1 hp.2.2.1 hp.2.2.2
  · cases h
def VB:=vj @Zb (vj @vg (vj @xy (vj @Qx.eq_1 (vj @yI.eq_1 @vW.eq_1))))
def QcH:=vj @aI.eq_1 (@aB.eq_1)
theorem Qg1 (c:Chart) (l:List Tk) (h1:c.cabins.length≤100000) (h2:c.sold.length≤1000) (h3:l.length≤1000):FnV Try.prog 56 [qa c,qx l] (qa ⟨c.cabins,c.secs,c.sold++l⟩):=by
  have env:Env (fun _=>True) Try.prog tyB (tab [(88,fnE YG)]):=qM ⟨QiJ,trivial⟩
  refine Fn.of (A:=fun _=>True) (n0:=0) (D:=noD) (Fn0 Try.func56 rfl (fun vs w=>by kernel_rfl) (by kernel_rfl)) (by simp) (by simp [AV.ids,AV.idsL,qa,qb,qx]) (fun i o h=>by cases h) (fun _ _ _ _=>trivial) qH ?_
  have hmx:(100000:Nat)≤maxLen:=by decide
  have h4:c.sold.length≤100000:=by omega
  have h5:c.sold.length+l.length≤maxLen:=by omega
  have hA:qa ⟨c.cabins,c.secs,c.sold++l⟩=.agg [.sl (c.cabins.map qo),.v (.int .i64 c.secs),.sl (c.sold.map eTk++l.map eTk)]:=by
    unfold qa qb
    rw [List.map_append]
  rw [hA]
  repeat' (first|(apply nx;with_reducible constructor)|refine uq (by decide) ?_|((first|refine vx env fun Q hQ=>?_|refine vz fun Q hQ=>?_);simp only [vkt,seval,VB,QcH,qa,qb,qx,rTk,wD,mTk,qd,YG,List.length_map,h1,h4,h5];(try simp only [ite_and]);(repeat' (first|with_reducible assumption|refine And.intro ?_ ?_|intro hp));all_goals (first|(refine hQ _ ?_;clear hQ Q)|(refine hQ _ (fun h=>?_) (fun h=>?_) <;> clear hQ Q <;> (try simp only [vki,reduceCtorEq] at h))|(refine vq ?_;kernel_rfl)|omega|assumption|with_reducible rfl|skip)))
  (simp only [vrt,Try.results56,vkt,seval,VB,QcH,qa,qb,qx,rTk,wD,mTk,qd,YG,List.length_map];refine Fin.val rfl ?_;(try simp only [AV.le,AV.leL]))
  all_goals first|rfl|(simp;done)|exact ⟨⟨_,_,rfl⟩,trivial,⟨_,_,rfl⟩,trivial⟩
def xS:List AV→Prop × AV
  |[.agg [.sl c0,.v (.int .i64 c1),.sl c2],.sl l]=>(c0=(c0.map qB).map qo∧c2=(c2.map dTk).map eTk∧l=(l.map dTk).map eTk∧((⟨(c0.map qB),c1,(c2.map dTk)⟩:Chart)).cabins.length≤100000∧((⟨(c0.map qB),c1,(c2.map dTk)⟩:Chart)).sold.length≤1000∧(l.map dTk).length≤1000,qa ⟨((⟨(c0.map qB),c1,(c2.map dTk)⟩:Chart)).cabins,((⟨(c0.map qB),c1,(c2.map dTk)⟩:Chart)).secs,((⟨(c0.map qB),c1,(c2.map dTk)⟩:Chart)).sold++(l.map dTk)⟩)
  |_=>(False,.junk)
theorem Qj4 {A:Frm→Prop}:qC A Try.prog 56 (zk false xS):=zn fun vs hv h=>by
  clear hv
  unfold xS at h ⊢
  split at h
  · rename_i c0 c1 c2 l;obtain ⟨q0,q1,q2,k0,k1,k2⟩:=h
    refine ⟨by first|trivial|(simp [AV.plain,AV.plainL,aI,aB,qA,qc,qx,ql,aTk,cTk];done)|(repeat' split) <;> simp [AV.plain,AV.plainL,aI,aB,qA,qc,qx,ql,aTk,cTk],fun h=>absurd h (by decide), ?_⟩
    have:=Qg1 ((⟨(c0.map qB),c1,(c2.map dTk)⟩:Chart)) (l.map dTk) k0 k1 k2
    simp only [zR,qa,aI,qx,qb,← q0,← q1,← q2] at this
    first|exact this|(simp only [zR,qa,aI,qx,qb,← q0,← q1,← q2];exact this)
  · exact h.elim
end Go.Sym.B
namespace Go.Sym.B
open Go Go.Sym Go.Proofs Go.Sym.C
end Go.Sym.B
namespace Go.Sym.B
open Go Go.Sym Go.Proofs Go.Sym.C
end Go.Sym.B
namespace Go.Sym.B
open Go Go.Sym Go.Proofs Go.Sym.C
end Go.Sym.B
namespace Go.Sym.B
open Go Go.Sym Go.Proofs Go.Sym.C
def okP (x t:Tk):Prop:=vY t x=false∧ZT x t=true
theorem X6:∀ (l s:List Tk),PWr s l ↔ l.Pairwise okP∧∀ x ∈ s,∀ t ∈ l,okP x t
  |[],s=>by simp [PWr]
  |t :: l,s=>by
    show wo t s=0∧PWr (s++[t]) l ↔ _
    rw [Zv,X6 l (s++[t]),List.pairwise_cons]
    constructor
    · rintro ⟨h1,h2,h3⟩
      refine ⟨⟨fun y hy=>h3 t (by simp) y hy,h2⟩,fun x hx y hy=>?_⟩
      rcases List.mem_cons.1 hy with rfl|hy
      · exact h1 x hx
      · exact h3 x (List.mem_append_left _ hx) y hy
    · rintro ⟨⟨h1,h2⟩,h3⟩
      refine ⟨fun x hx=>h3 x hx t (List.mem_cons_self ..),h2,fun x hx y hy=>?_⟩
      rcases List.mem_append.1 hx with hx|hx
      · exact h3 x hx y (List.mem_cons_of_mem _ hy)
      · rw [List.mem_singleton.1 hx];exact h1 y hy
theorem Qiv {l r:List Tk} (h:PWr [] l) (hs:r.Sublist l):PWr [] r:=by
  rw [X6] at h ⊢
  exact ⟨h.1.sublist hs,fun x hx=>by simp at hx⟩
theorem TkOk.to' {c:Chart} {t:Tk} (h:TkOk c t) (l:List Tk):TkOk ⟨c.cabins,c.secs,l⟩ t:=⟨h.party,h.sex,h.cab,h.bed,h.frm,h.way,h.to⟩
theorem CarOk.to' {c:Chart} (h:CarOk c) (l:List Tk):CarOk ⟨c.cabins,c.secs,l⟩:=⟨h.cabs,h.beds,h.secs⟩
def askP (a:Ask) (P:Int):Ask:=⟨P,a.frm,a.to,a.sexes,a.dog⟩
theorem Qir {c c':Chart} {a:Ask} {P:Int} (h:wy c a=0) (hs:c'.secs=c.secs) (h':wB c'=0) (hP:1≤P∧P≤99) (hn:∀ t ∈ c'.sold,t.party ≠ P):wy c' (askP a P)=0:=by
  have h:=(yS h).2
  unfold wy
  rw [h',if_neg (by decide)]
  unfold xh askP at *
  simp only [hs]
  split at h
  · exact absurd h (by decide)
  split at h
  · exact absurd h (by decide)
  have b1:inB P 1 99=true:=yc.2 hP
  have b2:c'.sold.any (fun t=>decide (t.party=P))=false:=List.any_eq_false.2 fun t ht=>by simpa using hn t ht
  rw [b1,b2]
  exact h
end Go.Sym.B
namespace Go.Sym.B
open Go Go.Sym Go.Proofs Go.Sym.C
theorem Qhf {α:Type} {p:α→Bool} {l:List α} {k:Nat} {d:α} (h:k < l.length) (hp:p (l.getD k d)=true):l.any p=true:=List.any_eq_true.2 ⟨_,vL h,hp⟩
theorem QaC {α:Type} {p:α→Bool} {l:List α} {d:α} (h:∀ j,j < l.length→p (l.getD j d)=false):l.any p=false:=by
  rw [List.any_eq_false]
  intro x hx
  obtain ⟨j,hj,rfl⟩:=List.getElem_of_mem hx
  have:=h j hj
  rw [List.getD_eq_getElem?_getD,List.getElem?_eq_getElem hj] at this
  simpa using this
end Go.Sym.B
namespace Go.Sym.B
open Go Go.Sym Go.Proofs Go.Sym.C
end Go.Sym.B
namespace Go.Sym.B
open Go Go.Sym Go.Proofs Go.Sym.C
end Go.Sym.B
namespace Go.Sym.B
open Go Go.Sym Go.Proofs Go.Sym.C
end Go.Sym.B
namespace Go.Sym.B
open Go Go.Sym Go.Proofs Go.Sym.C
def y7 (n:Nat):Nat→Nat→List (List Int)
  |0,_=>[[]]
  |m+1,f=>(List.range (n - f)).flatMap fun k=>(y7 n m (f+k+1)).map (((f+k:Nat):Int) :: ·)
theorem XE (n:Nat):∀ (m:Nat) (l:List Int) (f:Nat),Qt n m l f=(y7 n m f).map (l++·)
  |0,l,f=>by simp [Qt,y7]
  |m+1,l,f=>by
    rw [Qt,y7,List.map_flatMap]
    refine congrArg (List.flatMap · (List.range (n - f))) (funext fun k=>?_)
    rw [XE n m,List.map_map]
    refine congrArg (List.map · _) (funext fun r=>?_)
    simp
theorem Qfw {α β γ:Type} {f:β→Option γ} {g:α→β}:∀ l:List α,(l.map g).findSome? f=l.findSome? fun x=>f (g x)
  |[]=>rfl
  |x :: l=>by rw [List.map_cons,List.findSome?_cons,List.findSome?_cons,Qfw l]
theorem VP {n:Nat}:∀ (m f:Nat),∀ r ∈ y7 n m f,r.length=m
  |0,f,r,h=>by rw [y7,List.mem_singleton] at h;rw [h];rfl
  |m+1,f,r,h=>by
    rw [y7,List.mem_flatMap] at h
    obtain ⟨k,_,h⟩:=h
    obtain ⟨v,hv,rfl⟩:=List.mem_map.1 h
    rw [List.length_cons,VP m _ v hv]
theorem Ls {α β:Type} {f g:α→Option β}:∀ {l:List α},(∀ x ∈ l,f x=g x)→l.findSome? f=l.findSome? g
  |[],_=>rfl
  |x :: l,h=>by rw [List.findSome?_cons,List.findSome?_cons,h x (List.mem_cons_self ..),Ls fun y hy=>h y (List.mem_cons_of_mem _ hy)]
end Go.Sym.B
namespace Go.Sym.B
open Go Go.Sym Go.Proofs Go.Sym.C
theorem Qc6 {n:Nat} (hn:n≤8):∀ m f,(y7 n m f).length≤8 ^ m
  |0,_=>Nat.le_refl 1
  |m+1,f=>by
    rw [y7,List.length_flatMap]
    simp only [List.length_map]
    have h:∀ l:List Nat,(l.map fun k=>(y7 n m (f+k+1)).length).sum≤l.length * 8 ^ m:=fun l=>by
      induction l with
      |nil=>simp
      |cons x l ih =>
        have:=Qc6 hn m (f+x+1)
        rw [List.map_cons,List.sum_cons,List.length_cons,Nat.succ_mul]
        omega
    have h2:=h (List.range (n - f))
    rw [List.length_range] at h2
    have h3:(n - f) * 8 ^ m≤8 * 8 ^ m:=Nat.mul_le_mul_right _ (by omega)
    rw [Nat.pow_succ,Nat.mul_comm (8 ^ m) 8]
    omega
def chP (n m f k:Nat):List (List Int):=(List.range k).flatMap fun k=>(y7 n m (f+k+1)).map (((f+k:Nat):Int) :: ·)
theorem Qan (n m f k:Nat):chP n m f (k+1)=chP n m f k++(y7 n m (f+k+1)).map (((f+k:Nat):Int) :: ·):=by
  unfold chP
  rw [List.range_succ,List.flatMap_append]
  simp
theorem Qdj {n:Nat} (hn:n≤8) (m f:Nat):∀ k,(chP n m f k).length≤k * 8 ^ m
  |0=>by simp [chP]
  |k+1=>by
    rw [Qan,List.length_append,List.length_map,Nat.succ_mul]
    have h1:=Qdj hn m f k
    have h2:=Qc6 hn m (f+k+1)
    omega
end Go.Sym.B
namespace Go.Sym.B
open Go Go.Sym Go.Proofs Go.Sym.C
def U9 (m:Nat):Prop:=∀ f n:Nat,n≤8→FnV Try.prog 51 [aI f,aI n,aI m] (Z0 (y7 n m f))
def J8 (m:Nat):List AV→Prop × AV
  |[.v (.int .i64 f),.v (.int .i64 n),.v (.int .i64 k)]=>(0≤f∧0≤n∧n≤8∧k=m,Z0 (y7 n.toNat m f.toNat))
  |_=>(False,.junk)
theorem eSub {A:Frm→Prop} {m:Nat} (ih:U9 m):qC A Try.prog 51 (zk false (J8 m)):=zn fun vs hv h=>by
  clear hv
  unfold J8 at h ⊢
  split at h
  · rename_i f n k
    obtain ⟨h1,h2,h3,rfl⟩:=h
    obtain ⟨f,rfl⟩:=Int.eq_ofNat_of_zero_le h1
    obtain ⟨n,rfl⟩:=Int.eq_ofNat_of_zero_le h2
    refine ⟨by simp [AV.plain,Z0],fun h=>absurd h (by decide), ?_⟩
    exact ih f n (by omega)
  · exact h.elim
def xA (n m:Nat) (M:List (List Int)) (T:List (Nat × AV)):St:={ t:=asg (T++[(1,aI n),(2,aI ((m+1:Nat):Int)),(7,.row 0)]),h:=qg [(0,.row 22 1 (M.map ZG))],n:=1 }
def wK:=vj @ty3 (vj @Qf (vj @ty88 (vj @ti3.eq_1 (vj @kC.eq_1 @Qg5.eq_1))))
def QM:=vj @aI.eq_1 (vj @aB.eq_1 (vj @qA.eq_1 (vj @Z0.eq_1 (vj @zC.eq_1 (vj @ZG.eq_1 (vj @Y4 (vj @Qji (vj @UN (vj @rInts (vj @kW (@Qjf)))))))))))
theorem Qg9:U9 0:=by
  intro f n _
  have env:Env (fun _=>True) Try.prog tyB (tab []):=qM trivial
  refine Fn.of (A:=fun _=>True) (n0:=0) (D:=noD) (Fn0 Try.func51 rfl (fun vs w=>by kernel_rfl) (by kernel_rfl)) (by simp) (by simp [AV.ids,AV.idsL,aI]) (fun i o h=>by cases h) (fun _ _ _ _=>trivial) qH ?_
  have d0:decide (((0:Nat):Int)=0)=true:=rfl
  repeat' (first|(apply nx;with_reducible constructor)|refine uq (by decide) ?_|((first|refine vx env fun Q hQ=>?_|refine vz fun Q hQ=>?_);simp only [vkt,seval,wK,QM,xA,J8,List.length_map,d0,decide_true];(try simp only [ite_and]);(repeat' (first|with_reducible assumption|refine And.intro ?_ ?_|intro hp));all_goals (first|(refine hQ _ ?_;clear hQ Q)|(refine hQ _ (fun h=>?_) (fun h=>?_) <;> clear hQ Q <;> (try simp only [vki,reduceCtorEq] at h))|(refine vq ?_;kernel_rfl)|omega|assumption|with_reducible rfl|skip)))
  (simp only [vrt,Try.results51,vkt,seval,wK,QM,xA,J8,List.length_map];refine Fin.val rfl ?_;(try simp only [AV.le,AV.leL]))
  all_goals first|rfl|(simp;done)|exact ⟨_,_,rfl⟩
set_option maxHeartbeats 4000000 in
theorem Qfj (m:Nat) (hm4:m≤3) (ih:U9 m):U9 (m+1):=by
  intro f n hn
  have env:Env (fun _=>True) Try.prog tyB (tab [(51,zk false (J8 m))]):=qM ⟨eSub ih,trivial⟩
  refine Fn.of (A:=fun _=>True) (n0:=0) (D:=noD) (Fn0 Try.func51 rfl (fun vs w=>by kernel_rfl) (by kernel_rfl)) (by simp) (by simp [AV.ids,AV.idsL,aI]) (fun i o h=>by cases h) (fun _ _ _ _=>trivial) qH ?_
  have hmx:(100000:Nat)≤maxLen:=by decide
  have hF:y7 n (m+1) f=chP n m f (n - f):=rfl
  have h8:8 ^ m≤512:=Nat.le_trans (Nat.pow_le_pow_right (by decide) hm4) (by decide)
  rw [hF]
  have d0:decide (((m+1:Nat):Int)=0)=false:=decide_eq_false (by omega)
  have w0:IntKind.wrap .i64 (((m+1:Nat):Int) - 1)=(m:Int):=by rw [wrap64 (by omega) (by omega)];omega
  have n0:((n:Int)).toNat=n:=rfl
  have n1:(0:Int)≤(n:Int):=by omega
  have n2:(n:Int)≤8:=by omega
  repeat' (first|(apply nx;with_reducible constructor)|refine uq (by decide) ?_|((first|refine vx env fun Q hQ=>?_|refine vz fun Q hQ=>?_);simp only [vkt,seval,wK,QM,xA,J8,List.length_map,d0];(try simp only [ite_and]);(repeat' (first|with_reducible assumption|refine And.intro ?_ ?_|intro hp));all_goals (first|(refine hQ _ ?_;clear hQ Q)|(refine hQ _ (fun h=>?_) (fun h=>?_) <;> clear hQ Q <;> (try simp only [vki,reduceCtorEq] at h))|(refine vq ?_;kernel_rfl)|omega|assumption|with_reducible rfl|skip)))
  refine qU (fun k:{ k:Nat // k≤n - f }=>xA n m (chP n m f k.1) [(8,aI ((f+k.1:Nat):Int))]) (fun k=>n - f - k.1) ⟨0,Nat.zero_le _⟩ ?_ fun ⟨k,hk⟩=>?_
  · simp only [xA,show chP n m f 0=[] from rfl,Nat.add_zero,List.cons_append,List.nil_append]
    (refine Le.ok (fun i=>if i=0 then none else some i) [] ?_;constructor;all_goals (try simp only [vle,vkt,seval,wK,QM,xA,J8,List.length_map]))
    all_goals first|rfl|(simp;done)|(intro i hi;rw [if_neg (by omega)];done)
  simp only at hk ⊢
  have hL:=Qdj hn m f k
  have hL2:k * 8 ^ m≤8 * 512:=Nat.mul_le_mul (by omega) h8
  have hS:=Qan n m f k
  obtain ⟨j,hj⟩:∃ j,f+k=j:=⟨_,rfl⟩
  rw [hj] at hS
  obtain ⟨L,hLe⟩:∃ L,chP n m f k=L:=⟨_,rfl⟩
  rw [hLe] at hL hS
  simp only [hj,hLe]
  by_cases hkn:k < n - f
  · have d1:decide ((j:Int) < (n:Int))=true:=decide_eq_true (by omega)
    have e9:IntKind.wrap .i64 ((j:Int)+1)=((j+1:Nat):Int):=by rw [wrap64 (by omega) (by omega)];rfl
    have j0:(((j+1:Nat):Int)).toNat=j+1:=rfl
    have j1:(0:Int)≤((j+1:Nat):Int):=by omega
    have hRl:=Qc6 hn m (j+1)
    have hR1:=VP (n:=n) m (j+1)
    obtain ⟨R,hR⟩:∃ R,y7 n m (j+1)=R:=⟨_,rfl⟩
    rw [hR] at hRl hR1 hS
    simp only [xA,List.cons_append,List.nil_append]
    repeat' (first|(apply nx;with_reducible constructor)|refine uq (by decide) ?_|((first|refine vx env fun Q hQ=>?_|refine vz fun Q hQ=>?_);simp only [vkt,seval,wK,QM,xA,J8,List.length_map,d1,w0,e9,n0,n1,n2,j0,j1,hR];(try simp only [ite_and]);(repeat' (first|with_reducible assumption|refine And.intro ?_ ?_|intro hp));all_goals (first|(refine hQ _ ?_;clear hQ Q)|(refine hQ _ (fun h=>?_) (fun h=>?_) <;> clear hQ Q <;> (try simp only [vki,reduceCtorEq] at h))|(refine vq ?_;kernel_rfl)|omega|assumption|with_reducible rfl|skip)))
    refine qU (fun q:{ q:Nat // q≤R.length }=>xA n m (L++(R.take q.1).map ((j:Int) :: ·)) [(8,aI j),(9,Z0 R),(10,aI q.1)]) (fun q=>R.length - q.1) ⟨0,Nat.zero_le _⟩ ?_ fun ⟨q,hq⟩=>?_
    · simp only [xA,List.take_zero,List.map_nil,List.append_nil,List.cons_append,List.nil_append]
      (refine Le.ok some [] ?_;constructor;all_goals (try simp only [vle,vkt,seval,wK,QM,xA,J8,List.length_map]))
      all_goals first|rfl|(simp;done)
    simp only at hq ⊢
    obtain ⟨M,hM⟩:∃ M,L++(R.take q).map ((j:Int) :: ·)=M:=⟨_,rfl⟩
    have hMl:M.length≤10000:=by rw [← hM,List.length_append,List.length_map,List.length_take];omega
    simp only [xA,hM,List.cons_append,List.nil_append]
    by_cases hql:q < R.length
    · have d2:decide ((q:Int) < (R.length:Int))=true:=decide_eq_true (by omega)
      have e8:IntKind.wrap .i64 ((q:Int)+1)=((q+1:Nat):Int):=by rw [wrap64 (by omega) (by omega)];rfl
      have q0:((q:Int)).toNat=q:=rfl
      have hm:M.length+1≤maxLen:=by omega
      obtain ⟨p,hp⟩:∃ p,R.getD q []=p:=⟨_,rfl⟩
      have hg:=Qju hql
      rw [hp] at hg
      have hpl:=hR1 p (by rw [← hp];exact vL hql)
      have hpm:1+p.length≤maxLen:=by omega
      have hMS:L++(R.take (q+1)).map ((j:Int) :: ·)=M++[(j:Int) :: p]:=by
        rw [List.take_succ_eq_append_getElem hql,List.map_append,← List.append_assoc,hM,← hp]
        simp [List.getD_eq_getElem?_getD,hql]
      repeat' (first|(apply nx;with_reducible constructor)|refine uq (by decide) ?_|((first|refine vx env fun Q hQ=>?_|refine vz fun Q hQ=>?_);simp only [vkt,seval,wK,QM,xA,J8,List.length_map,q0,hql,hp,hg,d2,e8,hm,hpm];(try simp only [ite_and]);(repeat' (first|with_reducible assumption|refine And.intro ?_ ?_|intro hp));all_goals (first|(refine hQ _ ?_;clear hQ Q)|(refine hQ _ (fun h=>?_) (fun h=>?_) <;> clear hQ Q <;> (try simp only [vki,reduceCtorEq] at h))|(refine vq ?_;kernel_rfl)|omega|assumption|with_reducible rfl|skip)))
      refine ⟨⟨q+1,hql⟩,by show R.length - (q+1) < R.length - q;omega, ?_⟩
      simp only [xA,hMS,List.cons_append,List.nil_append]
      (refine Le.ok (fun i=>if i=0 then some 4 else some i) [] ?_;constructor;all_goals (try simp only [vle,vkt,seval,wK,QM,xA,J8,List.length_map]))
      all_goals first|rfl|(rw [List.map_append];rfl)|(simp;done)|(intro i hi;rw [if_neg (by omega)];done)
    · have d2:decide ((q:Int) < (R.length:Int))=false:=decide_eq_false (by omega)
      obtain rfl:q=R.length:=by omega
      rw [List.take_length] at hM
      rw [hM] at hS
      have hj2:f+(k+1)=j+1:=by omega
      repeat' (first|(apply nx;with_reducible constructor)|refine uq (by decide) ?_|((first|refine vx env fun Q hQ=>?_|refine vz fun Q hQ=>?_);simp only [vkt,seval,wK,QM,xA,J8,List.length_map,d2,e9];(try simp only [ite_and]);(repeat' (first|with_reducible assumption|refine And.intro ?_ ?_|intro hp));all_goals (first|(refine hQ _ ?_;clear hQ Q)|(refine hQ _ (fun h=>?_) (fun h=>?_) <;> clear hQ Q <;> (try simp only [vki,reduceCtorEq] at h))|(refine vq ?_;kernel_rfl)|omega|assumption|with_reducible rfl|skip)))
      refine ⟨⟨k+1,hkn⟩,by show n - f - (k+1) < n - f - k;omega, ?_⟩
      simp only [xA,hS,hj2,List.cons_append,List.nil_append]
      (refine Le.ok some [] ?_;constructor;all_goals (try simp only [vle,vkt,seval,wK,QM,xA,J8,List.length_map]))
      all_goals first|rfl|(simp;done)
  · have d1:decide ((j:Int) < (n:Int))=false:=decide_eq_false (by omega)
    obtain rfl:k=n - f:=by omega
    simp only [xA,List.cons_append,List.nil_append]
    rw [hLe]
    repeat' (first|(apply nx;with_reducible constructor)|refine uq (by decide) ?_|((first|refine vx env fun Q hQ=>?_|refine vz fun Q hQ=>?_);simp only [vkt,seval,wK,QM,xA,J8,List.length_map,d1];(try simp only [ite_and]);(repeat' (first|with_reducible assumption|refine And.intro ?_ ?_|intro hp));all_goals (first|(refine hQ _ ?_;clear hQ Q)|(refine hQ _ (fun h=>?_) (fun h=>?_) <;> clear hQ Q <;> (try simp only [vki,reduceCtorEq] at h))|(refine vq ?_;kernel_rfl)|omega|assumption|with_reducible rfl|skip)))
    (simp only [vrt,Try.results51,vkt,seval,wK,QM,xA,J8,List.length_map];refine Fin.val rfl ?_;(try simp only [AV.le,AV.leL]))
    all_goals first|rfl|(simp;done)|exact ⟨_,_,rfl⟩
theorem QcJ:∀ m,m≤4→U9 m
  |0,_=>Qg9
  |m+1,h=>Qfj m (by omega) (QcJ m (by omega))
theorem Qa9 (f n m:Int) (h:(0≤f∧0≤n∧n≤8)∧0≤m∧m≤4):FnV Try.prog 51 [aI f,aI n,aI m] (Z0 (y7 n.toNat m.toNat f.toNat)):=by
  obtain ⟨⟨h1,h2,h3⟩,h4,h5⟩:=h
  obtain ⟨f,rfl⟩:=Int.eq_ofNat_of_zero_le h1
  obtain ⟨n,rfl⟩:=Int.eq_ofNat_of_zero_le h2
  obtain ⟨m,rfl⟩:=Int.eq_ofNat_of_zero_le h4
  exact QcJ m (by omega) f n (by omega)
def wQ:List AV→Prop × AV
  |[.v (.int .i64 f),.v (.int .i64 n),.v (.int .i64 m)]=>(0≤f∧0≤n∧n≤8∧0≤m∧m≤4,Z0 (y7 n.toNat m.toNat f.toNat))
  |_=>(False,.junk)
theorem QhB {A:Frm→Prop}:qC A Try.prog 51 (zk false wQ):=zn fun vs hv h=>by
  clear hv
  unfold wQ at h ⊢
  split at h
  · rename_i f n m;obtain ⟨k0,k1,k2,k3,k4⟩:=h
    refine ⟨by first|trivial|(simp [AV.plain,AV.plainL,aI,aB,qA,qc,qx,ql,aTk,cTk];done)|(repeat' split) <;> simp [AV.plain,AV.plainL,aI,aB,qA,qc,qx,ql,aTk,cTk],fun h=>absurd h (by decide), ?_⟩
    have:=Qa9 f n m ⟨⟨k0,k1,k2⟩,k3,k4⟩
    simp only [aI] at this
    first|exact this|(simp only [aI];exact this)
  · exact h.elim
end Go.Sym.B
namespace Go.Sym.B
open Go Go.Sym Go.Proofs Go.Sym.C
structure PgOk (c:Chart) (a:Ask):Prop where
  car:CarOk c
  many:c.sold.length≤50
  sx:a.sexes.length≤3
theorem pg_ok {c:Chart} {a:Ask} (h:PgOk c a) {ans:Nat→Bool} {R:Nat} (hr:Rounds ans R (plP c a).length):GrowOk c.cabins c.secs a a.sexes.length c.sold [] (plY c a) (plH c a) ans R:=by
  have h1:=h.car.cabs
  have h2:=h.many
  have h3:=h.sx
  exact ⟨by simp,by omega,⟨by omega,fun x hx=>by have:=h.car.beds x hx;omega⟩,by omega,by omega,(by simp),hr,fun _ _=>rfl,fun _ _=>rfl⟩
def ZE:=vj @kX (vj @Qb (vj @xB.eq_1 @xE.eq_1))
def U4:=vj @aI.eq_1 (@aB.eq_1)
theorem Qbh {c:Chart} {a:Ask} (h:PgOk c a):QaA Try.prog 114 [.cb,.ptr 2 0,.ptr 3 0] (nth ((plL c a).take 1)) (nth (plL c a)) (plY c a) (plP c a).length (fun j=>nth (plH c a j)) (fun _ _=>.tup []):=by
  intro ans R hr
  have ok:=pg_ok h hr
  rw [ZO,ZO]
  obtain ⟨A0,hA0⟩:∃ A0:Frm→Prop,A0=Acb Try.prog (qg (qI 0 [qf c.cabins c.secs 1])) (qg (qI 0 (plL c a))) (plY c a) (fun j=>nth (plH c a j)) ans R:=⟨_,rfl⟩
  have hA:∀ F,A0 F→Acb Try.prog (qg (qI 0 [qf c.cabins c.secs 1])) (qg (qI 0 (plL c a))) (plY c a) (fun j=>nth (plH c a j)) ans R F:=fun F h=>hA0 ▸ h
  have env:Env A0 Try.prog tyB (tab [(115,fnI [qf c.cabins c.secs 1] R (Qk c a (plY c a) (plH c a) ans R))]):=qM ⟨QfP hA,trivial⟩
  refine Fn.of (A:=A0) (n0:=4) (D:=noD) (Fn0 Try.func114 rfl (fun vs w=>by kernel_rfl) (by kernel_rfl)) (by simp) (by simp [AV.ids]) VU (fun F hb h0 _=>hA0 ▸ ⟨h0,QeM,hb⟩) qH ?_
  show Sym _ _ _ (zq [.cb,.ptr 2 0,.ptr 3 0] 4 (qg [(0,qf c.cabins c.secs 1),(1,qh c.sold),(2,.cells [.ptr 0 0]),(3,.cells (qj a))])) (yB tyB noD Try.f114 fun S rv=>Fin S rv _ 4 (qg [(0,qf c.cabins c.secs 1),(1,qh c.sold),(2,.cells [.ptr 0 0]),(3,.cells (qj a))]) R)
  repeat' (first|(apply nx;with_reducible constructor)|refine uq (by decide) ?_|((first|refine vx env fun Q hQ=>?_|refine vz fun Q hQ=>?_);simp only [vkt,seval,ZE,U4,qw,qj,qc,mTk,qd,qf,qh,qm,plL,Qk,List.length_map,fnI,zS,qR,nth,hwL,Nat.zero_add,Nat.sub_zero,List.map_nil,ok];(try simp only [ite_and]);(repeat' (first|with_reducible assumption|refine And.intro ?_ ?_|intro hp));all_goals (first|(refine hQ _ ?_;clear hQ Q)|(refine hQ _ (fun h=>?_) (fun h=>?_) <;> clear hQ Q <;> (try simp only [vki,reduceCtorEq] at h))|(refine vq ?_;kernel_rfl)|omega|assumption|with_reducible rfl|skip)))
  (simp only [vrt,Try.results114,vkt,seval,ZE,U4,qw,qj,qc,mTk,qd,qf,qh,qm,plL,Qk,List.length_map,fnI,zS,qR,nth,hwL,Nat.zero_add,Nat.sub_zero,List.map_nil];refine Fin.ok some [] ?_ ?_ ?_ ?_ ?_ rfl;all_goals (try simp only [vle,vkt,seval,ZE,U4,qw,qj,qc,mTk,qd,qf,qh,qm,plL,Qk,List.length_map,fnI,zS,qR,nth,hwL,Nat.zero_add,Nat.sub_zero,List.map_nil]))
  all_goals first|rfl|(simp;done)
def KY:=vj @Vv @WQ.eq_1
def Qdm:=vj @aI.eq_1 (vj @aB.eq_1 (@aU.eq_1))
theorem Qi1 (b:Int) (hb:0≤b∧b < 16):FnV Try.prog 111 [aU b,aI 0] (aB (bitB b 0)):=by
  have env:Env (fun _=>True) Try.prog tyB (tab []):=qM trivial
  have hc:b=0∨b=1∨b=2∨b=3∨b=4∨b=5∨b=6∨b=7∨b=8∨b=9∨b=10∨b=11∨b=12∨b=13∨b=14∨b=15:=by omega
  rcases hc with rfl|rfl|rfl|rfl|rfl|rfl|rfl|rfl|rfl|rfl|rfl|rfl|rfl|rfl|rfl|rfl
  all_goals
    refine Fn.of (A:=fun _=>True) (n0:=0) (D:=noD) (Fn0 Try.func111 rfl (fun vs w=>by kernel_rfl) (by kernel_rfl)) (by simp) (by simp [AV.ids,AV.idsL,aU,aI]) (fun i o h=>by cases h) (fun _ _ _ _=>trivial) qH ?_
    repeat' (first|(apply nx;with_reducible constructor)|refine uq (by decide) ?_|((first|refine vx env fun Q hQ=>?_|refine vz fun Q hQ=>?_);simp only [vkt,seval,KY,Qdm];(try simp only [ite_and]);(repeat' (first|with_reducible assumption|refine And.intro ?_ ?_|intro hp));all_goals (first|(refine hQ _ ?_;clear hQ Q)|(refine hQ _ (fun h=>?_) (fun h=>?_) <;> clear hQ Q <;> (try simp only [vki,reduceCtorEq] at h))|(refine vq ?_;kernel_rfl)|omega|assumption|with_reducible rfl|skip)))
    (simp only [vrt,Try.results111,vkt,seval,KY,Qdm];refine Fin.val rfl ?_;(try simp only [AV.le,AV.leL]))
    all_goals first|kernel_rfl|rfl
def kU:List AV→Prop × AV
  |[.v (.int .u64 b),.v (.int .i64 n)]=>((0≤b∧b < 16)∧n=0,aB (bitB b n))
  |_=>(False,.junk)
theorem Qjh {A:Frm→Prop}:qC A Try.prog 111 (zk true kU):=zn fun vs hv h=>by
  clear hv
  unfold kU at h ⊢
  split at h
  · obtain ⟨h,rfl⟩:=h
    exact ⟨by simp [aB,AV.plain],fun _=>by simp [aB,AV.flat],Qi1 _ h⟩
  · exact h.elim
def tkB (cs:List Cabin) (s:Int):List Ask→Int→List Tk→Bool
  |[],_,_=>true
  |a :: r,b,sold=>if bitB b 0 then (plP ⟨cs,s,sold⟩ a).any (fun x=>tkB cs s r (b / 2) x.2) else tkB cs s r (b / 2) sold
theorem KE (f:Nat→Bool):∀ N,(∀ j,j < N→f j=false)∨∃ k,k < N∧f k=true∧∀ j,j < k→f j=false
  |0=>.inl fun j h=>absurd h (Nat.not_lt_zero _)
  |N+1=>by
    rcases KE f N with h|⟨k,h1,h2,h3⟩
    · cases hN:f N with
      |true=>exact .inr ⟨N,Nat.lt_succ_self N,hN,h⟩
      |false =>
        refine .inl fun j hj=>?_
        rcases Nat.lt_or_eq_of_le (Nat.le_of_lt_succ hj) with h4|rfl
        · exact h j h4
        · exact hN
    · exact .inr ⟨k,by omega,h2,h3⟩
theorem Qi8 {α:Type} {p:α→Bool} {d:α} {l:List α}:l.any p=(List.range l.length).any fun j=>p (l.getD j d):=by
  rw [Bool.eq_iff_iff,List.any_eq_true,List.any_eq_true]
  constructor
  · rintro ⟨x,hx,hp⟩
    obtain ⟨j,hj,rfl⟩:=List.getElem_of_mem hx
    exact ⟨j,List.mem_range.2 hj,by rw [List.getD_eq_getElem?_getD,List.getElem?_eq_getElem hj];exact hp⟩
  · rintro ⟨j,hj,hp⟩
    exact ⟨_,vL (List.mem_range.1 hj),hp⟩
structure TaOk (cs:List Cabin) (s:Int) (L:List Ask) (b:Int) (sold:List Tk):Prop where
  car:CarOk ⟨cs,s,sold⟩
  many:sold.length+3 * L.length≤50
  sx:∀ a ∈ L,a.sexes.length≤3
  four:L.length≤4
  bit:0≤b∧b < 16
theorem Ry {cs:List Cabin} {a:Ask}:∀ (m:Nat) (sold:List Tk) (begun:List Bunk),∀ x ∈ ww cs a m sold begun,x.2.length=sold.length+m
  |0,sold,begun,x,hx=>by
    simp only [ww,List.mem_singleton] at hx
    subst hx;rfl
  |m+1,sold,begun,x,hx=>by
    rw [xR,List.mem_flatMap] at hx
    obtain ⟨b,hb,hx⟩:=hx
    unfold gbL at hx
    split at hx
    · have:=Ry m _ _ x hx
      rw [this,List.length_append,List.length_singleton];omega
    · simp at hx
def Qgs (cs:List Cabin) (s:Int) (L:List Ask):Prop:=∀ (b:Int) (sold:List Tk),TaOk cs s L b sold →
  Fn noB Try.prog 130 [.ptr 0 0,.sl (L.map qO),aU b] (qg (qI 0 (qm cs s sold))) (aB (tkB cs s L b sold)) (qg (zT 0 ((qm cs s sold).map some))) 0
def yt (cs:List Cabin) (s:Int) (L:List Ask) (S:St):List AV→Option Pk
  |[.ptr p 0,.sl xs,.v (.int .u64 b)]=>match S.h p with
    |some (.cells [.sl cc,.v (.int .i64 s'),.row r])=>match S.h r with
      |some (.row _ _ ts)=>some { pre:=cc=cs.map qo∧s'=s∧xs=L.map qO∧ts=(ts.map dTk).map eTk∧TaOk cs s L b (ts.map dTk),hs:=[p,r],ar:=[.ptr 0 0,.sl (L.map qO),.v (.int .u64 b)],L0:=qm cs s (ts.map dTk),v:=aB (tkB cs s L b (ts.map dTk)),L1:=(qm cs s (ts.map dTk)).map some }
      |_=>none
    |_=>none
  |_=>none
theorem Qhm {A:Frm→Prop} {cs:List Cabin} {s:Int} {L:List Ask} (ih:Qgs cs s L):qC A Try.prog 130 (fnE (yt cs s L)):=zx fun S bs q h hp=>by
  unfold yt at h
  split at h
  · split at h
    · split at h
      · cases h
        exact ih _ _ hp.2.2.2.2
      · cases h
    · cases h
  · cases h
def JX:=vj @ty3 (vj @ty4 (vj @kX (vj @UH (vj @Qb (vj @Vv (vj @ti3.eq_1 (vj @ti4.eq_1 (vj @xB.eq_1 (vj @VH.eq_1 (vj @xE.eq_1 @WQ.eq_1))))))))))
def UU:=vj @aI.eq_1 (vj @aB.eq_1 (@aU.eq_1))
theorem take_nil (cs:List Cabin) (s:Int):Qgs cs s []:=by
  intro b sold ok
  have env:Env (fun _=>True) Try.prog tyB (tab []):=qM trivial
  refine Fn.of (A:=fun _=>True) (n0:=2) (D:=noD) (Fn0 Try.func130 rfl (fun vs w=>by kernel_rfl) (by kernel_rfl)) (by simp) (by simp [AV.ids,AV.idsL,aU]) vE (fun _ _ _ _=>trivial) qH ?_
  show Sym _ _ _ (zq [.ptr 0 0,.sl [],aU b] 2 (qg [(0,qf cs s 1),(1,qh sold)])) (yB tyB noD Try.f130 fun S rv=>Fin S rv (aB true) 2 (qg [(0,qf cs s 1),(1,qh sold)]) 0)
  repeat' (first|(apply nx;with_reducible constructor)|refine uq (by decide) ?_|((first|refine vx env fun Q hQ=>?_|refine vz fun Q hQ=>?_);simp only [vkt,seval,JX,UU,mTk,qd,qf,qh,qm,List.length_map,List.length_nil,List.map_nil,decide_true];(try simp only [ite_and]);(repeat' (first|with_reducible assumption|refine And.intro ?_ ?_|intro hp));all_goals (first|(refine hQ _ ?_;clear hQ Q)|(refine hQ _ (fun h=>?_) (fun h=>?_) <;> clear hQ Q <;> (try simp only [vki,reduceCtorEq] at h))|(refine vq ?_;kernel_rfl)|omega|assumption|with_reducible rfl|skip)))
  (simp only [vrt,Try.results130,vkt,seval,JX,UU,mTk,qd,qf,qh,qm,List.length_map,List.length_nil,List.map_nil];refine Fin.ok some [] ?_ ?_ ?_ ?_ ?_ rfl;all_goals (try simp only [vle,vkt,seval,JX,UU,mTk,qd,qf,qh,qm,List.length_map,List.length_nil,List.map_nil]))
  all_goals first|rfl|(simp;done)|exact fun i hi=>(match i,hi with|0,_=>rfl|1,_=>rfl)
end Go.Sym.B
namespace Go.Sym.B
open Go Go.Sym Go.Proofs Go.Sym.C
def Va (g:Nat→Bool) (k:Nat):Bool:=(List.range k).any g
theorem VV {g:Nat→Bool} {k:Nat} (h:∀ j,j < k→g j=false):Va g k=false:=by
  unfold Va
  rw [List.any_eq_false]
  intro j hj
  rw [h j (List.mem_range.1 hj)]
  decide
theorem YJ {g:Nat→Bool} {k j:Nat} (hj:j < k) (h:g j=true):Va g k=true:=List.any_eq_true.2 ⟨j,List.mem_range.2 hj,h⟩
theorem QbG (g:Nat→Bool) (N:Nat):∃ R,Rounds (fun j=>!g j) R N∧(∀ j,j < R→∀ i,i < j→g i=false)∧(R≤N)∧Va g R=Va g N:=by
  rcases KE g N with h|⟨k,h1,h2,h3⟩
  · refine ⟨N,⟨Nat.le_refl _,fun j hj=>by rw [h j (by omega)];rfl,fun h=>absurd h (Nat.lt_irrefl _)⟩,fun j hj i hi=>h i (by omega),Nat.le_refl _,rfl⟩
  · refine ⟨k+1,⟨h1,fun j hj=>by rw [h3 j (by omega)];rfl,fun _=>⟨Nat.succ_pos _,by rw [Nat.add_sub_cancel,h2];rfl⟩⟩,fun j hj i hi=>h3 i (by omega),h1, ?_⟩
    rw [YJ (Nat.lt_succ_self k) h2,YJ h1 h2]
def Qgj:List (Nat × AV):=[(3,.ptr 2 0),(4,.ptr 3 0),(5,.ptr 4 0),(6,.ptr 5 0),(23,.clo 114 [.ptr 6 0,.ptr 7 0])]
def Zm:List (Nat × AV):=[(3,.ptr 2 0),(4,.ptr 3 0),(5,.ptr 4 0),(6,.ptr 5 0)]
def xW (xs:List (List DV)) (b:Int) (g:Nat→Bool) (k:Nat):List (Nat × AObj):=[(2,.cells [.ptr 0 0]),(3,.cells [.sl xs]),(4,.cells [aU b]),(5,.cells [aB (Va g k)])]
theorem Y1 (c:Chart) (a:Ask):za [0,1,6,7] 9 0 (plL c a)=[(0,qf c.cabins c.secs 1),(1,qh c.sold),(6,.cells [.ptr 0 0]),(7,.cells (qj a))]:=by
  simp [za,plL,qy,AObj.ren,AV.renL,AV.ren,qf,qh,qj]
theorem Xo (c:Chart) (a:Ask) (j:Nat):za [0] 9 0 (plH c a j)=[(0,qf c.cabins c.secs 9),(9,qh ((plP c a).getD j default).2)]:=by
  simp [za,plH,qm,qy,AObj.ren,AV.renL,AV.ren,qf,qh]
def wM:=vj @ty3 (vj @ty4 (vj @kX (vj @UH (vj @Qb (vj @Vv (vj @ti3.eq_1 (vj @ti4.eq_1 (vj @xB.eq_1 (vj @VH.eq_1 (vj @xE.eq_1 @WQ.eq_1))))))))))
def yR:=vj @aI.eq_1 (vj @aB.eq_1 (vj @aU.eq_1 (@kW)))
set_option maxHeartbeats 4000000 in
theorem Qff (cs:List Cabin) (s:Int) (a:Ask) (r:List Ask) (ih:Qgs cs s r):Qgs cs s (a :: r):=by
  intro b sold ok
  have hb:=ok.bit
  have hsh:b.fdiv (2 ^ min 1 IntKind.u64.bits)=b / 2:=by rw [show (2:Int) ^ min 1 IntKind.u64.bits=2 from rfl,Int.fdiv_eq_ediv_of_nonneg _ (by decide)]
  have hsh2:b.fdiv 2=b / 2:=by rw [Int.fdiv_eq_ediv_of_nonneg _ (by decide)]
  have hb2:0≤b / 2∧b / 2 < 16:=by omega
  have h4:=ok.four
  have hmn:=ok.many
  rw [List.length_cons] at h4 hmn
  have e0:(a :: r).map qO=qO a :: r.map qO:=rfl
  have d0:decide ((((qO a :: r.map qO).length:Nat):Int)=0)=false:=decide_eq_false (by rw [List.length_cons];omega)
  have d9:decide ((((r.length+1):Nat):Int)=0)=false:=decide_eq_false (by omega)
  have z1:(0:Nat) < r.length+1:=by omega
  have z2:(1:Int)≤((r.length+1:Nat):Int):=by omega
  have z3:(List.take (r.length+1) (qO a :: r.map qO))=qO a :: r.map qO:=List.take_of_length_le (by simp)
  have z5:List.take r.length (r.map qO)=r.map qO:=List.take_of_length_le (by simp)
  have z4:(((r.length+1:Nat):Int)).toNat=r.length+1:=rfl
  have hsx:∀ x ∈ r,x.sexes.length≤3:=fun x hx=>ok.sx x (List.mem_cons_of_mem _ hx)
  cases hbit:bitB b 0 with
  |false =>
    have env:Env (fun _=>True) Try.prog tyB (tab [(111,zk true kU),(130,fnE (yt cs s r))]):=qM ⟨Qjh,Qhm ih,trivial⟩
    refine Fn.of (A:=fun _=>True) (n0:=2) (D:=noD) (Fn0 Try.func130 rfl (fun vs w=>by kernel_rfl) (by kernel_rfl)) (by simp) (by simp [AV.ids,AV.idsL,aU]) vE (fun _ _ _ _=>trivial) qH ?_
    have hv:tkB cs s (a :: r) b sold=tkB cs s r (b / 2) sold:=by rw [tkB,hbit];rfl
    have hok:TaOk cs s r (b / 2) sold:=⟨ok.car,by omega,hsx,by omega,hb2⟩
    rw [hv,e0]
    show Sym _ _ _ (zq [.ptr 0 0,.sl (qO a :: r.map qO),aU b] 2 (qg [(0,qf cs s 1),(1,qh sold)])) (yB tyB noD Try.f130 fun S rv=>Fin S rv (aB (tkB cs s r (b / 2) sold)) 2 (qg [(0,qf cs s 1),(1,qh sold)]) 0)
    repeat' (first|(apply nx;with_reducible constructor)|refine uq (by decide) ?_|((first|refine vx env fun Q hQ=>?_|refine vz fun Q hQ=>?_);simp only [vkt,seval,wM,yR,qw,qj,qO,qd,mTk,qf,qh,qm,plL,Zm,xW,kU,qF,yt,wZ,zU,List.length_map,List.length_cons,List.map_cons,List.getD_cons_zero,List.drop_succ_cons,List.drop_zero,nth,hwL,Nat.zero_add,Nat.sub_zero,d0,d9,z1,z2,z3,z4,z5,hb,hbit,hsh,hsh2,hok];(try simp only [ite_and]);(repeat' (first|with_reducible assumption|refine And.intro ?_ ?_|intro hp));all_goals (first|(refine hQ _ ?_;clear hQ Q)|(refine hQ _ (fun h=>?_) (fun h=>?_) <;> clear hQ Q <;> (try simp only [vki,reduceCtorEq] at h))|(refine vq ?_;kernel_rfl)|omega|assumption|with_reducible rfl|skip)))
    (simp only [vrt,Try.results130,vkt,seval,wM,yR,qw,qj,qO,qd,mTk,qf,qh,qm,plL,Zm,xW,kU,qF,yt,wZ,zU,List.length_map,List.length_cons,List.map_cons,List.getD_cons_zero,List.drop_succ_cons,List.drop_zero,nth,hwL,Nat.zero_add,Nat.sub_zero];refine Fin.ok some [] ?_ ?_ ?_ ?_ ?_ rfl;all_goals (try simp only [vle,vkt,seval,wM,yR,qw,qj,qO,qd,mTk,qf,qh,qm,plL,Zm,xW,kU,qF,yt,wZ,zU,List.length_map,List.length_cons,List.map_cons,List.getD_cons_zero,List.drop_succ_cons,List.drop_zero,nth,hwL,Nat.zero_add,Nat.sub_zero]))
    all_goals first|rfl|(simp;done)|exact fun i hi=>(match i,hi with|0,_=>rfl|1,_=>rfl)
  |true =>
  have env:Env (fun F=>F.r=none) Try.prog tyB (tab [(111,zk true kU),(68,fnE qF)]):=qM ⟨Qjh,Yg,trivial⟩
  refine Fn.of (A:=fun F=>F.r=none) (n0:=2) (D:=noD) (Fn0 Try.func130 rfl (fun vs w=>by kernel_rfl) (by kernel_rfl)) (by simp) (by simp [AV.ids,AV.idsL,aU]) vE (fun _ _ _ h=>h) qH ?_
  obtain ⟨c,hc⟩:∃ c:Chart,(⟨cs,s,sold⟩:Chart)=c:=⟨_,rfl⟩
  have e1:cs=c.cabins:=by rw [← hc]
  have e2:s=c.secs:=by rw [← hc]
  have e3:sold=c.sold:=by rw [← hc]
  have hpg:PgOk c a:=by
    rw [← hc]
    exact ⟨ok.car,by show sold.length≤50;omega,ok.sx a (List.mem_cons_self ..)⟩
  have hxok:∀ x ∈ plP c a,TaOk cs s r (b / 2) x.2:=fun x hx=>by
    have hl:=Ry _ _ _ x hx
    have hs3:=hpg.sx
    rw [← e3] at hl
    exact ⟨⟨ok.car.cabs,ok.car.beds,ok.car.secs⟩,by omega,hsx,by omega,hb2⟩
  obtain ⟨g,hg⟩:∃ g:Nat→Bool,(fun j=>tkB cs s r (b / 2) ((plP c a).getD j default).2)=g:=⟨_,rfl⟩
  have hgj:∀ j,tkB cs s r (b / 2) ((plP c a).getD j default).2=g j:=fun j=>congrFun hg j
  have hv:tkB cs s (a :: r) b sold=Va g (plP c a).length:=by
    rw [tkB,hbit,if_pos rfl,hc,Qi8 (d:=default)]
    unfold Va
    rw [← hg]
  rw [hv,e0]
  show Sym _ _ _ (zq [.ptr 0 0,.sl (qO a :: r.map qO),aU b] 2 (qg [(0,qf cs s 1),(1,qh sold)])) (yB tyB noD Try.f130 fun S rv=>Fin S rv (aB (Va g (plP c a).length)) 2 (qg [(0,qf cs s 1),(1,qh sold)]) 0)
  obtain ⟨N,hN⟩:∃ N,(plP c a).length=N:=⟨_,rfl⟩
  obtain ⟨R,hRo,hRp,hRN,hRh⟩:=QbG g N
  obtain ⟨ans,hans⟩:∃ ans:Nat→Bool,(fun j=>!g j)=ans:=⟨_,rfl⟩
  have ha:∀ j,ans j=!g j:=fun j=>(congrFun hans j).symm
  rw [hans] at hRo
  rw [hN,← hRh]
  obtain ⟨xs,hxs⟩:∃ xs,qO a :: r.map qO=xs:=⟨_,rfl⟩
  have hg0:xs.getD 0 [.v (.int .i64 0),.v (.int .i64 0),.v (.int .i64 0),.sl [],.v (.bool false)]=qO a:=by rw [← hxs];rfl
  have hxr:zI 5 xs=True:=by rw [← hxs,← e0];exact wZ _
  have hxl:xs.length=r.length+1:=by rw [← hxs];simp
  have hdr:(xs.take (r.length+1)).drop 1=r.map qO:=by rw [← hxs,z3];rfl
  have hdr2:xs.drop 1=r.map qO:=by rw [← hxs];rfl
  rw [hxs] at z3
  rw [hxs]
  repeat' (first|(apply nx;with_reducible constructor)|refine uq (by decide) ?_|((first|refine vx env fun Q hQ=>?_|refine vz fun Q hQ=>?_);simp only [vkt,seval,wM,yR,qw,qj,qO,qd,mTk,qf,qh,qm,plL,Zm,xW,kU,qF,yt,wZ,zU,List.length_map,List.length_cons,List.map_cons,List.getD_cons_zero,List.drop_succ_cons,List.drop_zero,nth,hwL,Nat.zero_add,Nat.sub_zero,d9,z1,z2,z4,hb,hbit,hg0,hxr,hxl];(try simp only [ite_and]);(repeat' (first|with_reducible assumption|refine And.intro ?_ ?_|intro hp));all_goals (first|(refine hQ _ ?_;clear hQ Q)|(refine hQ _ (fun h=>?_) (fun h=>?_) <;> clear hQ Q <;> (try simp only [vki,reduceCtorEq] at h))|(refine vq ?_;kernel_rfl)|omega|assumption|with_reducible rfl|skip)))
  refine xO (S':={ t:=asg Qgj,h:=qg (xW xs b g 0++[(0,qf c.cabins c.secs 1),(1,qh c.sold),(6,.cells [.ptr 0 0]),(7,.cells (qj a))]),n:=8,j:=0,d:=[],m:=2 }) ?_ ?_
  · show Le _ { t:=asg [(3,.ptr 2 0),(4,.ptr 3 0),(5,.ptr 4 0),(6,.ptr 5 0),(23,.clo 114 [.ptr 6 0,.ptr 7 0])],h:=qg [(2,.cells [.ptr 0 0]),(3,.cells [.sl xs]),(4,.cells [aU b]),(5,.cells [aB false]),(0,qf c.cabins c.secs 1),(1,qh c.sold),(6,.cells [.ptr 0 0]),(7,.cells (qj a))],n:=8,j:=0,d:=[],m:=2 }
    rw [← e1,← e2,← e3]
    (refine Le.ok some [] ?_;constructor;all_goals (try simp only [vle,vkt,seval,wM,yR,qw,qj,qO,qd,mTk,qf,qh,qm,plL,Zm,xW,kU,qF,yt,wZ,zU,List.length_map,List.length_cons,List.map_cons,List.getD_cons_zero,List.drop_succ_cons,List.drop_zero,nth,hwL,Nat.zero_add,Nat.sub_zero]))
    all_goals first|rfl|(simp [qj,AV.leL,AV.le,AV.idsL,AV.ids];done)
  rw [← Y1 c a]
  refine vV (fun F h=>h) 1 (L:=Qgj) (L':=Zm) (xs:=[1,6,7]) (hs:=[0,1,6,7]) (n:=8) (nl:=1) (hc:=xW xs b g) (Lp:=plL c a) (jj:=fun _=>0) (d:=[]) (ys:=plY c a) (hl:=plH c a) (ans:=ans) (ex:=.ret) (caps:=[.ptr 6 0,.ptr 7 0]) (caps0:=[.ptr 2 0,.ptr 3 0]) (N:=(plP c a).length) (R:=R) (A':=fun _ _=>True) rfl (Qbh hpg) (by rw [hN];exact hRo) (.inl rfl) ?_ ?_ ?_ rfl (by simp) ?_ (by simp) (fun _ _ _ _ _ _=>trivial) ?_ ?_ ?_ ?_ ?_ ?_ (fun j hj=>?_) ?_ (fun j hj=>?_) (fun hall=>?_) (fun hpos hlast=>?_)
  · simp [AV.leL,AV.le]
  · simp [AV.nocbL,AV.nocb]
  · simp [WW,plL,qf,qh,qj,AObj.nocb,AV.nocbL,AV.nocb,AObj.ids,AV.ids,AV.idsL,AObj.ren,AV.renL,AV.ren,AObj.le,AV.leL,AV.le,qy]
  · simp [xW,qg]
  · simp [xW,qg]
  · simp [xW,AObj.ids,AV.ids,AV.idsL,aB,aU]
  · simp [RU,Zm,Qgj,asg,upd]
  · simp [LD]
  · intro j hj
    simp [absent,xW,Xo]
  · simp [YN,Zm,AV.ids]
  · refine ⟨?_,rfl, ?_, ?_,rfl, ?_⟩
    · simp [QR,xW,AObj.ids,AV.ids,AV.idsL,aB,aU]
    · simp [WA,plH,qm,qf,qh,AObj.nocb,AV.nocbL,AV.nocb,AObj.ids,AV.ids,AV.idsL]
    · simp [VG,plY,qc,AV.nocb,AV.ids]
    · simp [QG,WS,Xo,xW,Zm,kG,AV.ids,ADf.ids,List.range_succ]
  · simp [QR,xW,AObj.ids,AV.ids,AV.idsL,aB,aU]
  · have env:Env (fun _:Frm=>True) Try.prog tyB (tab [(130,fnE (yt cs s r))]):=qM ⟨Qhm ih,trivial⟩
    have hjN:j < (plP c a).length:=by omega
    have hjo:=hxok _ (vL (d:=default) hjN)
    have hgv:=hgj j
    have hk0:Va g j=false:=VV (hRp j hj)
    have hk1:Va g (j+1)=g j:=by
      cases hq:g j with
      |true=>exact YJ (Nat.lt_succ_self j) hq
      |false =>
        refine VV fun i hi=>?_
        rcases Nat.lt_or_eq_of_le (Nat.le_of_lt_succ hi) with h|rfl
        · exact hRp j hj i h
        · exact hq
    have haj:=ha j
    obtain ⟨⟨x,t⟩,hx⟩:∃ x,(plP c a).getD j default=x:=⟨_,rfl⟩
    rw [hx] at hjo hgv
    simp only at hjo hgv
    have hst:jA Zm [24] [0] 8 1 (plY c a j) (xW xs b g j) (plH c a j)={ t:=asg [(24,qc x),(3,.ptr 2 0),(4,.ptr 3 0),(5,.ptr 4 0),(6,.ptr 5 0)],h:=qg [(8,.mark),(2,.cells [.ptr 0 0]),(3,.cells [.sl xs]),(4,.cells [aU b]),(5,.cells [aB false]),(0,qf c.cabins c.secs 9),(9,qh t)],n:=10,m:=10 }:=by
      simp only [jA,Nat.reduceAdd,Xo,plY,hx,hk0,qc,List.map_cons,List.map_nil,AV.ren,List.zip_cons_cons,List.zip_nil_right,xW,Zm,Zt,List.cons_append,List.nil_append]
      rfl
    show Sym _ _ _ (jA Zm [24] [0] 8 1 (plY c a j) (xW xs b g j) (plH c a j)) _
    rw [hst,← e1,← e2]
    cases hq:g j with
    |true =>
      rw [hq] at hgv hk1 haj
      repeat' (first|(apply nx;with_reducible constructor)|refine uq (by decide) ?_|((first|refine vx env fun Q hQ=>?_|refine vz fun Q hQ=>?_);simp only [vkt,seval,wM,yR,qw,qj,qO,qd,mTk,qf,qh,qm,plL,Zm,xW,kU,qF,yt,wZ,zU,List.length_map,List.length_cons,List.map_cons,List.getD_cons_zero,List.drop_succ_cons,List.drop_zero,nth,hwL,Nat.zero_add,Nat.sub_zero,d9,z1,z2,z4,hb,hsh,hsh2,hxl,hxr,hdr,hdr2,hjo,hgv];(try simp only [ite_and]);(repeat' (first|with_reducible assumption|refine And.intro ?_ ?_|intro hp));all_goals (first|(refine hQ _ ?_;clear hQ Q)|(refine hQ _ (fun h=>?_) (fun h=>?_) <;> clear hQ Q <;> (try simp only [vki,reduceCtorEq] at h))|(refine vq ?_;kernel_rfl)|omega|assumption|with_reducible rfl|skip)))
      refine ⟨by rw [haj];rfl,rfl,some,_,RFin.okQ some [] ?_⟩
      constructor
      all_goals (try simp only [vle,xz,xw,qy,plH,hx,hk1,← e1,← e2,vkt,seval,wM,yR,qw,qj,qO,qd,mTk,qf,qh,qm,plL,Zm,xW,kU,qF,yt,wZ,zU,List.length_map,List.length_cons,List.map_cons,List.getD_cons_zero,List.drop_succ_cons,List.drop_zero,nth,hwL,Nat.zero_add,Nat.sub_zero])
      all_goals first|rfl|(simp;done)
    |false =>
      rw [hq] at hgv hk1 haj
      repeat' (first|(apply nx;with_reducible constructor)|refine uq (by decide) ?_|((first|refine vx env fun Q hQ=>?_|refine vz fun Q hQ=>?_);simp only [vkt,seval,wM,yR,qw,qj,qO,qd,mTk,qf,qh,qm,plL,Zm,xW,kU,qF,yt,wZ,zU,List.length_map,List.length_cons,List.map_cons,List.getD_cons_zero,List.drop_succ_cons,List.drop_zero,nth,hwL,Nat.zero_add,Nat.sub_zero,d9,z1,z2,z4,hb,hsh,hsh2,hxl,hxr,hdr,hdr2,hjo,hgv];(try simp only [ite_and]);(repeat' (first|with_reducible assumption|refine And.intro ?_ ?_|intro hp));all_goals (first|(refine hQ _ ?_;clear hQ Q)|(refine hQ _ (fun h=>?_) (fun h=>?_) <;> clear hQ Q <;> (try simp only [vki,reduceCtorEq] at h))|(refine vq ?_;kernel_rfl)|omega|assumption|with_reducible rfl|skip)))
      refine ⟨by rw [haj];rfl,rfl,some,_,RFin.okQ some [] ?_⟩
      constructor
      all_goals (try simp only [vle,xz,xw,qy,plH,hx,hk1,← e1,← e2,vkt,seval,wM,yR,qw,qj,qO,qd,mTk,qf,qh,qm,plL,Zm,xW,kU,qF,yt,wZ,zU,List.length_map,List.length_cons,List.map_cons,List.getD_cons_zero,List.drop_succ_cons,List.drop_zero,nth,hwL,Nat.zero_add,Nat.sub_zero])
      all_goals first|rfl|(simp;done)
  · have hR0:Va g R=false:=VV fun j hj=>by
      have:=hall j hj
      rw [ha] at this
      simpa using this
    have eh:qg ((8,AObj.mark) :: xW xs b g R++za [0,1,6,7] (8+1) 0 (plL c a))=qg [(8,.mark),(2,.cells [.ptr 0 0]),(3,.cells [.sl xs]),(4,.cells [aU b]),(5,.cells [aB false]),(0,qf cs s 1),(1,qh sold),(6,.cells [.ptr 0 0]),(7,.cells (qj a))]:=by
      rw [show za [0,1,6,7] (8+1) 0 (plL c a)=za [0,1,6,7] 9 0 (plL c a) from rfl,Y1,← e1,← e2,← e3]
      unfold xW
      rw [hR0];rfl
    rw [eh,hR0]
    repeat' (first|(apply nx;with_reducible constructor)|refine uq (by decide) ?_|((first|refine vx env fun Q hQ=>?_|refine vz fun Q hQ=>?_);simp only [vkt,seval,wM,yR,qw,qj,qO,qd,mTk,qf,qh,qm,plL,Zm,xW,kU,qF,yt,wZ,zU,List.length_map,List.length_cons,List.map_cons,List.getD_cons_zero,List.drop_succ_cons,List.drop_zero,nth,hwL,Nat.zero_add,Nat.sub_zero];(try simp only [ite_and]);(repeat' (first|with_reducible assumption|refine And.intro ?_ ?_|intro hp));all_goals (first|(refine hQ _ ?_;clear hQ Q)|(refine hQ _ (fun h=>?_) (fun h=>?_) <;> clear hQ Q <;> (try simp only [vki,reduceCtorEq] at h))|(refine vq ?_;kernel_rfl)|omega|assumption|with_reducible rfl|skip)))
    (simp only [vrt,Try.results130,vkt,seval,wM,yR,qw,qj,qO,qd,mTk,qf,qh,qm,plL,Zm,xW,kU,qF,yt,wZ,zU,List.length_map,List.length_cons,List.map_cons,List.getD_cons_zero,List.drop_succ_cons,List.drop_zero,nth,hwL,Nat.zero_add,Nat.sub_zero];refine Fin.ok some [] ?_ ?_ ?_ ?_ ?_ rfl;all_goals (try simp only [vle,vkt,seval,wM,yR,qw,qj,qO,qd,mTk,qf,qh,qm,plL,Zm,xW,kU,qF,yt,wZ,zU,List.length_map,List.length_cons,List.map_cons,List.getD_cons_zero,List.drop_succ_cons,List.drop_zero,nth,hwL,Nat.zero_add,Nat.sub_zero]))
    all_goals first|rfl|(simp [qj,AV.leL,AV.le];done)|exact fun i hi=>(match i,hi with|0,_=>rfl|1,_=>rfl)
  · have hR0:Va g R=true:=YJ (show R - 1 < R by omega) (by rw [ha] at hlast;simpa using hlast)
    have eh:qg ((8,AObj.mark) :: xW xs b g R++za [0,1,6,7] (8+1) 0 (plL c a))=qg [(8,.mark),(2,.cells [.ptr 0 0]),(3,.cells [.sl xs]),(4,.cells [aU b]),(5,.cells [aB true]),(0,qf cs s 1),(1,qh sold),(6,.cells [.ptr 0 0]),(7,.cells (qj a))]:=by
      rw [show za [0,1,6,7] (8+1) 0 (plL c a)=za [0,1,6,7] 9 0 (plL c a) from rfl,Y1,← e1,← e2,← e3]
      unfold xW
      rw [hR0];rfl
    rw [eh,hR0]
    repeat' (first|(apply nx;with_reducible constructor)|refine uq (by decide) ?_|((first|refine vx env fun Q hQ=>?_|refine vz fun Q hQ=>?_);simp only [vkt,seval,wM,yR,qw,qj,qO,qd,mTk,qf,qh,qm,plL,Zm,xW,kU,qF,yt,wZ,zU,List.length_map,List.length_cons,List.map_cons,List.getD_cons_zero,List.drop_succ_cons,List.drop_zero,nth,hwL,Nat.zero_add,Nat.sub_zero];(try simp only [ite_and]);(repeat' (first|with_reducible assumption|refine And.intro ?_ ?_|intro hp));all_goals (first|(refine hQ _ ?_;clear hQ Q)|(refine hQ _ (fun h=>?_) (fun h=>?_) <;> clear hQ Q <;> (try simp only [vki,reduceCtorEq] at h))|(refine vq ?_;kernel_rfl)|omega|assumption|with_reducible rfl|skip)))
    (simp only [vrt,Try.results130,vkt,seval,wM,yR,qw,qj,qO,qd,mTk,qf,qh,qm,plL,Zm,xW,kU,qF,yt,wZ,zU,List.length_map,List.length_cons,List.map_cons,List.getD_cons_zero,List.drop_succ_cons,List.drop_zero,nth,hwL,Nat.zero_add,Nat.sub_zero];refine Fin.ok some [] ?_ ?_ ?_ ?_ ?_ rfl;all_goals (try simp only [vle,vkt,seval,wM,yR,qw,qj,qO,qd,mTk,qf,qh,qm,plL,Zm,xW,kU,qF,yt,wZ,zU,List.length_map,List.length_cons,List.map_cons,List.getD_cons_zero,List.drop_succ_cons,List.drop_zero,nth,hwL,Nat.zero_add,Nat.sub_zero]))
    all_goals first|rfl|(simp [qj,AV.leL,AV.le];done)|exact fun i hi=>(match i,hi with|0,_=>rfl|1,_=>rfl)
theorem QaN (cs:List Cabin) (s:Int):∀ L,Qgs cs s L
  |[]=>take_nil cs s
  |a :: r=>Qff cs s a r (QaN cs s r)
end Go.Sym.B
namespace Go.Sym.B
open Go Go.Sym Go.Proofs Go.Sym.C
def JG (b:Int):Value:=.agg #[.int .u64 b]
theorem QiH {a b:Int} (h:JG a=JG b):a=b:=by
  simp [JG] at h;exact h
abbrev KSev:Value→Prop:=KD.Q (.agg [some .u64])
theorem sevQ (b:Int):KSev (JG b):=⟨⟨_,rfl⟩,trivial⟩
def qSev:KeyInfo:={ kd:=.agg [some .u64],z:=.v (.bool false),agg:=false }
noncomputable def Qa2 (es:List (Value × Value)) (b:Int):Bool:=match yg es (JG b) with
  |some (.bool v)=>v
  |_=>false
structure MetOk (f:Int→Bool) (es:List (Value × Value)):Prop where
  ok:MOK KSev es
  look:∀ b,yg es (JG b)=none∨(yg es (JG b)=some (.bool true)∧f b=false)
theorem Qh8 (f:Int→Bool):MetOk f []:=⟨MOK.nil _,fun b=>.inl rfl⟩
theorem MetOk.lk {f:Int→Bool} {es:List (Value × Value)} (h:MetOk f es) (b:Int):∃ q,yM qSev (yg es (JG b))=(True,.v (.bool (Qa2 es b)),q):=by
  rcases h.look b with h1|⟨h1,_⟩
  · refine ⟨false, ?_⟩
    unfold Qa2
    rw [h1]
    show (_,_,_)=_
    simp [qSev,AV.ids]
  · refine ⟨true, ?_⟩
    unfold Qa2
    rw [h1]
    show (_,_,_)=_
    simp [qSev,Xx,Value.oneCell',vAV]
theorem MetOk.no {f:Int→Bool} {es:List (Value × Value)} (h:MetOk f es) {b:Int} (hv:Qa2 es b=true):f b=false:=by
  rcases h.look b with h1|⟨_,h2⟩
  · unfold Qa2 at hv
    rw [h1] at hv
    exact absurd hv (by decide)
  · exact h2
noncomputable def Yr (f:Int→Bool) (es:List (Value × Value)) (b:Int):List (Value × Value):=if Qa2 es b || f b then es else yT es (JG b) (.bool true)
theorem Qil {f:Int→Bool} {es:List (Value × Value)} (h:MetOk f es) (b:Int):MetOk f (Yr f es b):=by
  unfold Yr
  split
  · exact h
  · rename_i hq
    have hf:f b=false:=by
      cases h2:f b with
      |false=>rfl
      |true=>rw [h2,Bool.or_true] at hq;exact absurd rfl hq
    refine ⟨h.ok.set (sevQ b),fun x=>?_⟩
    rw [WX]
    by_cases hx:JG b=JG x
    · rw [if_pos hx]
      rw [← QiH hx]
      exact .inr ⟨rfl,hf⟩
    · rw [if_neg hx]
      exact h.look x
theorem Qf9 (f:Int→Bool) (es:List (Value × Value)) (b:Int):(Yr f es b).length≤es.length+1:=by
  unfold Yr
  split
  · omega
  · exact ZR
def Zn (cs:List Cabin) (s:Int) (sold:List Tk) (es:List (Value × Value)):List AObj:=[qf cs s 1,qh sold,.map es]
theorem Qgh {cs:List Cabin} {s:Int} {sold:List Tk} {es:List (Value × Value)}:∀ i o,qg (qI 0 (Zn cs s sold es)) i=some o→i < 3∧∀ id ∈ o.ids,id < 3:=by
  intro i o hi
  have h:=qL hi
  simp [qI,Zn] at h
  rcases h with ⟨rfl,rfl⟩|⟨rfl,rfl⟩|⟨rfl,rfl⟩ <;> simp [AObj.ids,AV.ids,AV.idsL,qf,qh]
def xq:=vj @ty4 (vj @Qhj (vj @Vv (vj @QfL (vj @ti4.eq_1 (vj @K9.eq_1 (vj @WQ.eq_1 @KO.eq_1))))))
def QT:=vj @aI.eq_1 (vj @aB.eq_1 (@aU.eq_1))
set_option maxHeartbeats 2000000 in
theorem Qj2 (cs:List Cabin) (s:Int) (L:List Ask) (b:Int) (sold:List Tk) (es:List (Value × Value)) (ok:TaOk cs s L b sold) (hm:MetOk (fun b=>tkB cs s L b sold) es) (hl:es.length≤100000) :
    Fn noB Try.prog 107 [.ptr 0 0,.sl (L.map qO),.agg [aU b],.mp 2] (qg (qI 0 (Zn cs s sold es))) (aB (tkB cs s L b sold)) (qg (zT 0 ((Zn cs s sold (Yr (fun b=>tkB cs s L b sold) es b)).map some))) 0:=by
  have env:Env (fun _=>True) Try.prog tyB (tab [(130,fnE (yt cs s L))]):=qM ⟨Qhm (QaN cs s L),trivial⟩
  refine Fn.of (A:=fun _=>True) (n0:=3) (D:=noD) (Fn0 Try.func107 rfl (fun vs w=>by kernel_rfl) (by kernel_rfl)) (by simp) (by simp [AV.ids,AV.idsL,aU]) Qgh (fun _ _ _ _=>trivial) qH ?_
  obtain ⟨q,hlk⟩:=hm.lk b
  have hno:=fun h=>hm.no (b:=b) h
  have hM:MOK (KD.Q (.agg [some .u64])) es:=hm.ok
  simp only [qSev,JG] at hlk
  have hmx:(200000:Nat)≤maxLen:=by decide
  have hsl:=ZR (es:=es) (k:=JG b) (v:=.bool true)
  have hsl2:(yT es (JG b) (.bool true)).length≤maxLen:=by omega
  have hN:Yr (fun b=>tkB cs s L b sold) es b=if Qa2 es b || tkB cs s L b sold then es else yT es (JG b) (.bool true):=rfl
  rw [hN]
  simp only [JG] at hsl2
  obtain ⟨v,hv⟩:∃ v,Qa2 es b=v:=⟨_,rfl⟩
  obtain ⟨w,hw⟩:∃ w,tkB cs s L b sold=w:=⟨_,rfl⟩
  rw [hv] at hlk hno
  simp only [hw] at hno
  rw [hv,hw]
  cases v with
  |true =>
    have hw0:=hno rfl
    rw [hw0]
    rw [if_pos (by rfl)]
    show Sym _ _ _ (zq [.ptr 0 0,.sl (L.map qO),.agg [aU b],.mp 2] 3 (qg [(0,qf cs s 1),(1,qh sold),(2,.map es)])) (yB tyB noD Try.f107 fun S rv=>Fin S rv (aB false) 3 (qg [(0,qf cs s 1),(1,qh sold),(2,.map es)]) 0)
    repeat' (first|(apply nx;with_reducible constructor)|refine uq (by decide) ?_|((first|refine vx env fun Q hQ=>?_|refine vz fun Q hQ=>?_);simp only [vkt,seval,xq,QT,qd,mTk,qf,qh,qm,Zn,yt,List.length_map,List.length_cons,List.length_nil,hlk,hM];(try simp only [ite_and]);(repeat' (first|with_reducible assumption|refine And.intro ?_ ?_|intro hp));all_goals (first|(refine hQ _ ?_;clear hQ Q)|(refine hQ _ (fun h=>?_) (fun h=>?_) <;> clear hQ Q <;> (try simp only [vki,reduceCtorEq] at h))|(refine vq ?_;kernel_rfl)|omega|assumption|with_reducible rfl|skip)))
    (simp only [vrt,Try.results107,vkt,seval,xq,QT,qd,mTk,qf,qh,qm,Zn,yt,List.length_map,List.length_cons,List.length_nil];refine Fin.ok some [] ?_ ?_ ?_ ?_ ?_ rfl;all_goals (try simp only [vle,vkt,seval,xq,QT,qd,mTk,qf,qh,qm,Zn,yt,List.length_map,List.length_cons,List.length_nil]))
    all_goals first|rfl|(simp;done)|exact fun i hi=>(match i,hi with|0,_=>rfl|1,_=>rfl|2,_=>rfl)
  |false =>
    cases w with
    |true =>
      rw [if_pos (by rfl)]
      show Sym _ _ _ (zq [.ptr 0 0,.sl (L.map qO),.agg [aU b],.mp 2] 3 (qg [(0,qf cs s 1),(1,qh sold),(2,.map es)])) (yB tyB noD Try.f107 fun S rv=>Fin S rv (aB true) 3 (qg [(0,qf cs s 1),(1,qh sold),(2,.map es)]) 0)
      repeat' (first|(apply nx;with_reducible constructor)|refine uq (by decide) ?_|((first|refine vx env fun Q hQ=>?_|refine vz fun Q hQ=>?_);simp only [vkt,seval,xq,QT,qd,mTk,qf,qh,qm,Zn,yt,List.length_map,List.length_cons,List.length_nil,hlk,hM,ok,hw];(try simp only [ite_and]);(repeat' (first|with_reducible assumption|refine And.intro ?_ ?_|intro hp));all_goals (first|(refine hQ _ ?_;clear hQ Q)|(refine hQ _ (fun h=>?_) (fun h=>?_) <;> clear hQ Q <;> (try simp only [vki,reduceCtorEq] at h))|(refine vq ?_;kernel_rfl)|omega|assumption|with_reducible rfl|skip)))
      (simp only [vrt,Try.results107,vkt,seval,xq,QT,qd,mTk,qf,qh,qm,Zn,yt,List.length_map,List.length_cons,List.length_nil];refine Fin.ok some [] ?_ ?_ ?_ ?_ ?_ rfl;all_goals (try simp only [vle,vkt,seval,xq,QT,qd,mTk,qf,qh,qm,Zn,yt,List.length_map,List.length_cons,List.length_nil]))
      all_goals first|rfl|(simp;done)|exact fun i hi=>(match i,hi with|0,_=>rfl|1,_=>rfl|2,_=>rfl)
    |false =>
      rw [if_neg (by decide)]
      show Sym _ _ _ (zq [.ptr 0 0,.sl (L.map qO),.agg [aU b],.mp 2] 3 (qg [(0,qf cs s 1),(1,qh sold),(2,.map es)])) (yB tyB noD Try.f107 fun S rv=>Fin S rv (aB false) 3 (qg [(0,qf cs s 1),(1,qh sold),(2,.map (yT es (.agg #[.int .u64 b]) (.bool true)))]) 0)
      repeat' (first|(apply nx;with_reducible constructor)|refine uq (by decide) ?_|((first|refine vx env fun Q hQ=>?_|refine vz fun Q hQ=>?_);simp only [vkt,seval,xq,QT,qd,mTk,qf,qh,qm,Zn,yt,List.length_map,List.length_cons,List.length_nil,hlk,hM,ok,hw,hsl2];(try simp only [ite_and]);(repeat' (first|with_reducible assumption|refine And.intro ?_ ?_|intro hp));all_goals (first|(refine hQ _ ?_;clear hQ Q)|(refine hQ _ (fun h=>?_) (fun h=>?_) <;> clear hQ Q <;> (try simp only [vki,reduceCtorEq] at h))|(refine vq ?_;kernel_rfl)|omega|assumption|with_reducible rfl|skip)))
      (simp only [vrt,Try.results107,vkt,seval,xq,QT,qd,mTk,qf,qh,qm,Zn,yt,List.length_map,List.length_cons,List.length_nil];refine Fin.ok some [] ?_ ?_ ?_ ?_ ?_ rfl;all_goals (try simp only [vle,vkt,seval,xq,QT,qd,mTk,qf,qh,qm,Zn,yt,List.length_map,List.length_cons,List.length_nil]))
      all_goals first|rfl|(simp;done)|exact fun i hi=>(match i,hi with|0,_=>rfl|1,_=>rfl|2,_=>rfl)
end Go.Sym.B
namespace Go.Sym.B
open Go Go.Sym Go.Proofs Go.Sym.C
def QB (l:List Int):Int:=l.foldl Xu 0
theorem Qkk {a i:Int} (ha:0≤a∧a < 16) (hi:0≤i∧i < 4):0≤Xu a i∧Xu a i < 16:=by
  have hc:a=0∨a=1∨a=2∨a=3∨a=4∨a=5∨a=6∨a=7∨a=8∨a=9∨a=10∨a=11∨a=12∨a=13∨a=14∨a=15:=by omega
  have hd:i=0∨i=1∨i=2∨i=3:=by omega
  rcases hc with rfl|rfl|rfl|rfl|rfl|rfl|rfl|rfl|rfl|rfl|rfl|rfl|rfl|rfl|rfl|rfl <;> rcases hd with rfl|rfl|rfl|rfl <;> decide
theorem Qdf:∀ (l:List Int) (a:Int),0≤a∧a < 16→(∀ i ∈ l,0≤i∧i < 4)→0≤l.foldl Xu a∧l.foldl Xu a < 16
  |[],a,h,_=>h
  |i :: l,a,h,hl=>Qdf l _ (Qkk h (hl i (List.mem_cons_self ..))) fun j hj=>hl j (List.mem_cons_of_mem _ hj)
theorem QkC {l:List Int} (h:∀ i ∈ l,0≤i∧i < 4):0≤QB l∧QB l < 16:=Qdf l 0 (by decide) h
theorem QdR {l:List Int} {k:Nat} (h:k < l.length):QB (l.take (k+1))=Xu (QB (l.take k)) (l.getD k 0):=by
  unfold QB
  rw [List.take_succ_eq_append_getElem h,List.foldl_append]
  simp [List.getD_eq_getElem?_getD,h]
structure SvOk (cs:List Cabin) (s:Int) (L:List Ask) (sold:List Tk):Prop where
  car:CarOk ⟨cs,s,sold⟩
  many:sold.length≤8
  sx:∀ a ∈ L,a.sexes.length≤3
  four:L.length≤4
theorem SvOk.ta {cs:List Cabin} {s:Int} {L:List Ask} {sold:List Tk} (h:SvOk cs s L sold) {b:Int} (hb:0≤b∧b < 16):TaOk cs s L b sold:=⟨h.car,by have:=h.many;have:=h.four;omega,h.sx,h.four,hb⟩
noncomputable def Ky (cs:List Cabin) (s:Int) (L:List Ask) (S:St):List AV→Option Pk
  |[.ptr p 0,.sl xs,.agg [.v (.int .u64 b)],.mp m]=>match S.h p,S.h m with
    |some (.cells [.sl cc,.v (.int .i64 s'),.row r]),some (.map es)=>match S.h r with
      |some (.row _ _ ts)=>some { pre:=cc=cs.map qo∧s'=s∧xs=L.map qO∧ts=(ts.map dTk).map eTk∧TaOk cs s L b (ts.map dTk)∧MetOk (fun b=>tkB cs s L b (ts.map dTk)) es∧es.length≤100000,hs:=[p,r,m],ar:=[.ptr 0 0,.sl (L.map qO),.agg [.v (.int .u64 b)],.mp 2],L0:=Zn cs s (ts.map dTk) es,v:=aB (tkB cs s L b (ts.map dTk)),L1:=(Zn cs s (ts.map dTk) (Yr (fun b=>tkB cs s L b (ts.map dTk)) es b)).map some }
      |_=>none
    |_,_=>none
  |_=>none
theorem eAll {A:Frm→Prop} {cs:List Cabin} {s:Int} {L:List Ask}:qC A Try.prog 107 (fnE (Ky cs s L)):=zx fun S bs q h hp=>by
  unfold Ky at h
  split at h
  · split at h
    · split at h
      · cases h
        obtain ⟨h1,h2,h3,h4,h5,h6,h7⟩:=hp
        exact Qj2 _ _ _ _ _ _ h5 h6 h7
      · cases h
    · cases h
  · cases h
def m2L (cs:List Cabin) (s:Int) (L:List Ask) (sold:List Tk) (es:List (Value × Value)):List AObj:=[qf cs s 1,qh sold,.cells [.ptr 0 0],.cells [.sl (L.map qO)],.cells [.mp 5],.map es]
theorem QcC {cs:List Cabin} {s:Int} {L:List Ask} {sold:List Tk} {es:List (Value × Value)}:∀ i o,qg (qI 0 (m2L cs s L sold es)) i=some o→i < 6∧∀ id ∈ o.ids,id < 6:=by
  intro i o hi
  have h:=qL hi
  simp [qI,m2L] at h
  rcases h with ⟨rfl,rfl⟩|⟨rfl,rfl⟩|⟨rfl,rfl⟩|⟨rfl,rfl⟩|⟨rfl,rfl⟩|⟨rfl,rfl⟩ <;> simp [AObj.ids,AV.ids,AV.idsL,qf,qh]
def m2S (cs:List Cabin) (s:Int) (L:List Ask) (sold:List Tk) (es:List (Value × Value)) (l:List Int) (k:Nat) (b:Int):St:={ t:=asg [(1,.ptr 2 0),(2,.ptr 3 0),(3,.ptr 4 0),(6,.ptr 6 0),(9,qA l),(10,aI l.length),(11,aI k)],h:=qg [(0,qf cs s 1),(1,qh sold),(2,.cells [.ptr 0 0]),(3,.cells [.sl (L.map qO)]),(4,.cells [.mp 5]),(5,.map es),(6,.cells [aU b])],n:=7,m:=6 }
def xc:=vj @ty3 (vj @ty4 (vj @Qf (vj @kX (vj @UH (vj @Qb (vj @Qhj (vj @Vv (vj @QfL (vj @ti3.eq_1 (vj @ti4.eq_1 (vj @kC.eq_1 (vj @xB.eq_1 (vj @VH.eq_1 (vj @xE.eq_1 (vj @K9.eq_1 (vj @WQ.eq_1 @KO.eq_1))))))))))))))))
def ZX:=vj @aI.eq_1 (vj @aB.eq_1 (vj @aU.eq_1 (vj @qA.eq_1 (vj @zC.eq_1 (vj @Y4 (@kW))))))
set_option maxHeartbeats 2000000 in
theorem Qgc (cs:List Cabin) (s:Int) (L:List Ask) (sold:List Tk) (es:List (Value × Value)) (l:List Int) (ok:SvOk cs s L sold) (hi:∀ i ∈ l,0≤i∧i < 4) (hl:l.length≤100) (hm:MetOk (fun b=>tkB cs s L b sold) es) (he:es.length≤100000) :
    Fn noB Try.prog 105 [qA l,.ptr 2 0,.ptr 3 0,.ptr 4 0] (qg (qI 0 (m2L cs s L sold es))) (aB (tkB cs s L (QB l) sold)) (qg (zT 0 ((m2L cs s L sold (Yr (fun b=>tkB cs s L b sold) es (QB l))).map some))) 0:=by
  have env:Env (fun _=>True) Try.prog tyB (tab [(106,zk true yx),(107,fnE (Ky cs s L))]):=qM ⟨Qf2,eAll,trivial⟩
  refine Fn.of (A:=fun _=>True) (n0:=6) (D:=noD) (Fn0 Try.func105 rfl (fun vs w=>by kernel_rfl) (by kernel_rfl)) (by simp) (by simp [AV.ids,AV.idsL,qA]) QcC (fun _ _ _ _=>trivial) qH ?_
  have hset:=QkC hi
  have hta:=ok.ta hset
  have hmx:(100000:Nat)≤maxLen:=by decide
  show Sym _ _ _ (zq [qA l,.ptr 2 0,.ptr 3 0,.ptr 4 0] 6 (qg [(0,qf cs s 1),(1,qh sold),(2,.cells [.ptr 0 0]),(3,.cells [.sl (L.map qO)]),(4,.cells [.mp 5]),(5,.map es)])) (yB tyB noD Try.f105 fun S rv=>Fin S rv (aB (tkB cs s L (QB l) sold)) 6 (qg [(0,qf cs s 1),(1,qh sold),(2,.cells [.ptr 0 0]),(3,.cells [.sl (L.map qO)]),(4,.cells [.mp 5]),(5,.map (Yr (fun b=>tkB cs s L b sold) es (QB l)))]) 0)
  repeat' (first|(apply nx;with_reducible constructor)|refine uq (by decide) ?_|((first|refine vx env fun Q hQ=>?_|refine vz fun Q hQ=>?_);simp only [vkt,seval,xc,ZX,qd,mTk,qf,qh,m2L,m2S,Zn,yx,Ky,List.length_map];(try simp only [ite_and]);(repeat' (first|with_reducible assumption|refine And.intro ?_ ?_|intro hp));all_goals (first|(refine hQ _ ?_;clear hQ Q)|(refine hQ _ (fun h=>?_) (fun h=>?_) <;> clear hQ Q <;> (try simp only [vki,reduceCtorEq] at h))|(refine vq ?_;kernel_rfl)|omega|assumption|with_reducible rfl|skip)))
  refine qU (fun k:{ k:Nat // k≤l.length }=>m2S cs s L sold es l k.1 (QB (l.take k.1))) (fun k=>l.length - k.1) ⟨0,Nat.zero_le _⟩ ?_ fun ⟨k,hk⟩=>?_
  · simp only [m2S,List.take_zero,show QB []=0 from rfl]
    (refine Le.ok some [] ?_;constructor;all_goals (try simp only [vle,vkt,seval,xc,ZX,qd,mTk,qf,qh,m2L,m2S,Zn,yx,Ky,List.length_map]))
    all_goals first|rfl|(simp;done)
  simp only at hk ⊢
  by_cases hkl:k < l.length
  · have d1:decide ((k:Int) < (l.length:Int))=true:=decide_eq_true (by omega)
    have e9:IntKind.wrap .i64 ((k:Int)+1)=((k+1:Nat):Int):=by rw [wrap64 (by omega) (by omega)];rfl
    have k0:((k:Int)).toNat=k:=rfl
    have hS:=QdR hkl
    have hg:=hInt hkl
    have hib:=hi _ (vL (d:=0) hkl)
    obtain ⟨i,hie⟩:∃ i,l.getD k 0=i:=⟨_,rfl⟩
    rw [hie] at hS hg hib
    obtain ⟨b,hb⟩:∃ b,QB (l.take k)=b:=⟨_,rfl⟩
    rw [hb] at hS
    have i1:0≤i:=hib.1
    simp only [m2S,hb]
    repeat' (first|(apply nx;with_reducible constructor)|refine uq (by decide) ?_|((first|refine vx env fun Q hQ=>?_|refine vz fun Q hQ=>?_);simp only [vkt,seval,xc,ZX,qd,mTk,qf,qh,m2L,m2S,Zn,yx,Ky,List.length_map,d1,e9,k0,hkl,hg,hie,i1];(try simp only [ite_and]);(repeat' (first|with_reducible assumption|refine And.intro ?_ ?_|intro hp));all_goals (first|(refine hQ _ ?_;clear hQ Q)|(refine hQ _ (fun h=>?_) (fun h=>?_) <;> clear hQ Q <;> (try simp only [vki,reduceCtorEq] at h))|(refine vq ?_;kernel_rfl)|omega|assumption|with_reducible rfl|skip)))
    refine ⟨⟨k+1,hkl⟩,by show l.length - (k+1) < l.length - k;omega, ?_⟩
    simp only [m2S,hS]
    (refine Le.ok some [] ?_;constructor;all_goals (try simp only [vle,vkt,seval,xc,ZX,qd,mTk,qf,qh,m2L,m2S,Zn,yx,Ky,List.length_map]))
    all_goals first|rfl|(simp;done)
  · have d1:decide ((k:Int) < (l.length:Int))=false:=decide_eq_false (by omega)
    obtain rfl:k=l.length:=by omega
    rw [List.take_length]
    obtain ⟨b,hb⟩:∃ b,QB l=b:=⟨_,rfl⟩
    rw [hb] at hta ⊢
    obtain ⟨w,hw⟩:∃ w,tkB cs s L b sold=w:=⟨_,rfl⟩
    obtain ⟨es',hes⟩:∃ e,Yr (fun b=>tkB cs s L b sold) es b=e:=⟨_,rfl⟩
    rw [hw,hes]
    simp only [m2S]
    repeat' (first|(apply nx;with_reducible constructor)|refine uq (by decide) ?_|((first|refine vx env fun Q hQ=>?_|refine vz fun Q hQ=>?_);simp only [vkt,seval,xc,ZX,qd,mTk,qf,qh,m2L,m2S,Zn,yx,Ky,List.length_map,d1,hta,hm,he,hw,hes];(try simp only [ite_and]);(repeat' (first|with_reducible assumption|refine And.intro ?_ ?_|intro hp));all_goals (first|(refine hQ _ ?_;clear hQ Q)|(refine hQ _ (fun h=>?_) (fun h=>?_) <;> clear hQ Q <;> (try simp only [vki,reduceCtorEq] at h))|(refine vq ?_;kernel_rfl)|omega|assumption|with_reducible rfl|skip)))
    (simp only [vrt,Try.results105,vkt,seval,xc,ZX,qd,mTk,qf,qh,m2L,m2S,Zn,yx,Ky,List.length_map];refine Fin.ok some [] ?_ ?_ ?_ ?_ ?_ rfl;all_goals (try simp only [vle,vkt,seval,xc,ZX,qd,mTk,qf,qh,m2L,m2S,Zn,yx,Ky,List.length_map]))
    all_goals first|rfl|(simp;done)|exact fun i hi=>(match i,hi with|0,_=>rfl|1,_=>rfl|2,_=>rfl|3,_=>rfl|4,_=>rfl|5,_=>rfl)
end Go.Sym.B
namespace Go.Sym.B
open Go Go.Sym Go.Proofs Go.Sym.C
abbrev Es:=List (Value × Value)
noncomputable def lsR (g:Nat→Es→Option (List Int) × Es):Nat→Nat→Es→Option (List Int) × Es
  |0,_,es=>(none,es)
  |c+1,j,es=>if (g j es).1.isSome then g j es else lsR g c (j+1) (g j es).2
noncomputable def lsM (f:Int→Bool) (n:Nat):Nat→List Int→Nat→Es→Option (List Int) × Es
  |0,l,_,es=>(if f (QB l) then some l else none,Yr f es (QB l))
  |m+1,l,j,es=>lsR (fun j es=>lsM f n m (l++[((j:Nat):Int)]) (j+1) es) (n - j) j es
theorem Qau {P:Es→Prop} {g:Nat→Es→Option (List Int) × Es} (h:∀ j es,P es→P (g j es).2):∀ c j es,P es→P (lsR g c j es).2
  |0,_,_,hp=>hp
  |c+1,j,es,hp=>by
    rw [lsR]
    split
    · exact h j es hp
    · exact Qau h c _ _ (h j es hp)
theorem Qa4 {f:Int→Bool} {n:Nat}:∀ (m:Nat) (l:List Int) (j:Nat) (es:Es),MetOk f es→MetOk f (lsM f n m l j es).2
  |0,l,_,es,h=>Qil h _
  |m+1,l,j,es,h=>Qau (P:=MetOk f) (fun j es h=>Qa4 m _ _ es h) _ _ _ h
theorem QdB {d:Nat} {g:Nat→Es→Option (List Int) × Es} (h:∀ j es,(g j es).2.length≤es.length+d):∀ c j es,(lsR g c j es).2.length≤es.length+c * d
  |0,_,es=>by simp [lsR]
  |c+1,j,es=>by
    rw [lsR,Nat.succ_mul]
    have h1:=h j es
    split
    · omega
    · have:=QdB h c (j+1) (g j es).2
      omega
theorem UD {f:Int→Bool} {n:Nat} (hn:n≤4):∀ (m:Nat) (l:List Int) (j:Nat) (es:Es),(lsM f n m l j es).2.length≤es.length+4 ^ m
  |0,l,_,es=>Qf9 f es _
  |m+1,l,j,es=>by
    have h:=QdB (d:=4 ^ m) (g:=fun j es=>lsM f n m (l++[((j:Nat):Int)]) (j+1) es) (fun j es=>UD hn m _ _ es) (n - j) j es
    have h2:(n - j) * 4 ^ m≤4 * 4 ^ m:=Nat.mul_le_mul_right _ (by omega)
    rw [Nat.pow_succ,Nat.mul_comm (4 ^ m) 4]
    show (lsR _ (n - j) j es).2.length≤_
    omega
structure LmOk (cs:List Cabin) (s:Int) (L:List Ask) (sold:List Tk) (l:List Int) (f m:Nat) (es:Es):Prop where
  sv:SvOk cs s L sold
  len:l.length+m≤4
  from':f≤L.length∨m=0
  mem:∀ i ∈ l,0≤i∧i < 4
  met:MetOk (fun b=>tkB cs s L b sold) es
  cap:es.length+4 ^ m≤10000
def lmL (cs:List Cabin) (s:Int) (L:List Ask) (sold:List Tk) (many:Nat) (o:Option (List Int)) (es:Es):List AObj:=[qf cs s 1,qh sold,.cells [.ptr 0 0],.cells [.sl (L.map qO)],.cells [.mp 5],.map es,
  .cells [aI many],.cells [.clo 105 [.ptr 2 0,.ptr 3 0,.ptr 4 0]],.cells [.sl ((o.getD []).map zC)],.cells [aB o.isSome],.cells [aI L.length],.cells [.clo 118 [.ptr 6 0,.ptr 7 0,.ptr 8 0,.ptr 9 0,.ptr 10 0,.ptr 11 0]]]
theorem Qc8 {cs:List Cabin} {s:Int} {L:List Ask} {sold:List Tk} {many:Nat} {o:Option (List Int)} {es:Es}:∀ i ob,qg (qI 0 (lmL cs s L sold many o es)) i=some ob→i < 12∧∀ id ∈ ob.ids,id < 12:=by
  intro i ob hi
  have h:=qL hi
  simp [qI,lmL] at h
  rcases h with ⟨rfl,rfl⟩|⟨rfl,rfl⟩|⟨rfl,rfl⟩|⟨rfl,rfl⟩|⟨rfl,rfl⟩|⟨rfl,rfl⟩|⟨rfl,rfl⟩|⟨rfl,rfl⟩|⟨rfl,rfl⟩|⟨rfl,rfl⟩|⟨rfl,rfl⟩|⟨rfl,rfl⟩ <;> simp [AObj.ids,AV.ids,AV.idsL,qf,qh,aI,aB]
def LmFn (cs:List Cabin) (s:Int) (L:List Ask) (sold:List Tk) (many m:Nat):Prop:=∀ (l:List Int) (f:Nat) (es:Es),l.length+m=many→LmOk cs s L sold l f m es →
  Fn noB Try.prog 118 [qA l,aI f,.ptr 6 0,.ptr 7 0,.ptr 8 0,.ptr 9 0,.ptr 10 0,.ptr 11 0] (qg (qI 0 (lmL cs s L sold many none es))) (.tup []) (qg (zT 0 ((lmL cs s L sold many (lsM (fun b=>tkB cs s L b sold) L.length m l f es).1 (lsM (fun b=>tkB cs s L b sold) L.length m l f es).2).map some))) 0
noncomputable def pM2 (cs:List Cabin) (s:Int) (L:List Ask) (sold:List Tk) (S:St):List AV→Option Pk
  |[.sl xs,.ptr p2 0,.ptr p3 0,.ptr p4 0]=>match S.h p2,S.h p4 with
    |some (.cells [.ptr p0 0]),some (.cells [.mp p5])=>match S.h p0,S.h p5 with
      |some (.cells [_,_,.row p1]),some (.map es)=>some { pre:=xs=(xs.map zl).map zC∧SvOk cs s L sold∧(∀ i ∈ xs.map zl,0≤i∧i < 4)∧(xs.map zl).length≤100∧MetOk (fun b=>tkB cs s L b sold) es∧es.length≤100000,hs:=[p0,p1,p2,p3,p4,p5],ar:=[.sl xs,.ptr 2 0,.ptr 3 0,.ptr 4 0],L0:=m2L cs s L sold es,v:=aB (tkB cs s L (QB (xs.map zl)) sold),L1:=(m2L cs s L sold (Yr (fun b=>tkB cs s L b sold) es (QB (xs.map zl)))).map some }
      |_,_=>none
    |_,_=>none
  |_=>none
theorem eM2 {A:Frm→Prop} {cs:List Cabin} {s:Int} {L:List Ask} {sold:List Tk}:qC A Try.prog 105 (fnE (pM2 cs s L sold)):=zx fun S bs q h hp=>by
  unfold pM2 at h
  split at h
  · split at h
    · split at h
      · cases h
        obtain ⟨h1,h2,h3,h4,h5,h6⟩:=hp
        have:=Qgc cs s L sold _ _ h2 h3 h4 h5 h6
        rw [qA,← h1] at this
        exact this
      · cases h
    · cases h
  · cases h
noncomputable def Zl (cs:List Cabin) (s:Int) (L:List Ask) (sold:List Tk) (many m:Nat) (S:St):List AV→Option Pk
  |[.row q,.v (.int .i64 f),.ptr p6 0,.ptr p7 0,.ptr p8 0,.ptr p9 0,.ptr p10 0,.ptr p11 0]=>match S.h q,S.h p7 with
    |some (.row _ _ xs),some (.cells [.clo _ [.ptr p2 0,.ptr p3 0,.ptr p4 0]])=>match S.h p2,S.h p4 with
      |some (.cells [.ptr p0 0]),some (.cells [.mp p5])=>match S.h p0,S.h p5 with
        |some (.cells [_,_,.row p1]),some (.map es)=>some { pre:=xs=(xs.map zl).map zC∧f=(f.toNat:Int)∧(xs.map zl).length+m=many∧LmOk cs s L sold (xs.map zl) f.toNat m es,hs:=[p0,p1,p2,p3,p4,p5,p6,p7,p8,p9,p10,p11],bo:=[q],ar:=[.sl xs,.v (.int .i64 f),.ptr 6 0,.ptr 7 0,.ptr 8 0,.ptr 9 0,.ptr 10 0,.ptr 11 0],L0:=lmL cs s L sold many none es,v:=.tup [],L1:=(lmL cs s L sold many (lsM (fun b=>tkB cs s L b sold) L.length m (xs.map zl) f.toNat es).1 (lsM (fun b=>tkB cs s L b sold) L.length m (xs.map zl) f.toNat es).2).map some }
        |_,_=>none
      |_,_=>none
    |_,_=>none
  |_=>none
theorem eLm1 {A:Frm→Prop} {cs:List Cabin} {s:Int} {L:List Ask} {sold:List Tk} {many m:Nat} (ih:LmFn cs s L sold many m):qC A Try.prog 118 (fnE (Zl cs s L sold many m)):=zx fun S bs q h hp=>by
  unfold Zl at h
  split at h
  · split at h
    · split at h
      · split at h
        · cases h
          obtain ⟨h1,h2,h3,h4⟩:=hp
          have:=ih _ _ _ h3 h4
          rw [qA,← h1,aI,← h2] at this
          exact this
        · cases h
      · cases h
    · cases h
  · cases h
def lmS (cs:List Cabin) (s:Int) (L:List Ask) (sold:List Tk) (many:Nat) (l:List Int) (i:Nat) (o:Option (List Int)) (es:Es):St:={ t:=asg [(0,qA l),(2,.ptr 6 0),(3,.ptr 7 0),(4,.ptr 8 0),(5,.ptr 9 0),(6,.ptr 10 0),(7,.ptr 11 0),(10,aI i)],h:=qg [(0,qf cs s 1),(1,qh sold),(2,.cells [.ptr 0 0]),(3,.cells [.sl (L.map qO)]),(4,.cells [.mp 5]),(5,.map es),(6,.cells [aI many]),(7,.cells [.clo 105 [.ptr 2 0,.ptr 3 0,.ptr 4 0]]),(8,.cells [.sl ((o.getD []).map zC)]),(9,.cells [aB o.isSome]),(10,.cells [aI L.length]),(11,.cells [.clo 118 [.ptr 6 0,.ptr 7 0,.ptr 8 0,.ptr 9 0,.ptr 10 0,.ptr 11 0]])],n:=12,m:=12 }
def zw:=vj @ty3 (vj @ty4 (vj @Qf (vj @ty45 (vj @Qdo (vj @ti3.eq_1 (vj @ti4.eq_1 (vj @kC.eq_1 (vj @Qgk.eq_1 @V5.eq_1))))))))
def jT:=vj @aI.eq_1 (vj @aB.eq_1 (vj @qA.eq_1 (vj @zC.eq_1 (vj @Y4 (vj @UN (@kW))))))
set_option maxHeartbeats 4000000 in
theorem X5 (cs:List Cabin) (s:Int) (L:List Ask) (sold:List Tk) (many m:Nat) (ih:∀ m',m=m'+1→LmFn cs s L sold many m'):LmFn cs s L sold many m:=by
  intro l f es0 hlm ok
  have hlen:=ok.len
  have h4:=ok.sv.four
  have hcap:=ok.cap
  have hmx:(100000:Nat)≤maxLen:=by decide
  have hmm:l.length≤100000:=by omega
  have hml1:l.length+1≤maxLen:=by omega
  obtain ⟨F,hF⟩:∃ F:Int→Bool,(fun b=>tkB cs s L b sold)=F:=⟨_,rfl⟩
  have hFb:∀ b,tkB cs s L b sold=F b:=fun b=>congrFun hF b
  obtain ⟨n,hn⟩:∃ n,L.length=n:=⟨_,rfl⟩
  rw [hn] at h4
  have hmet:=ok.met
  rw [hF] at hmet ⊢
  have hsv:=ok.sv
  cases m with
  |zero =>
    have env:Env (fun _=>True) Try.prog tyB (tab [(105,fnE (pM2 cs s L sold))]):=qM ⟨eM2,trivial⟩
    refine Fn.of (A:=fun _=>True) (n0:=12) (D:=noD) (Fn0 Try.func118 rfl (fun vs w=>by kernel_rfl) (by kernel_rfl)) (by simp) (by simp [AV.ids,AV.idsL,qA,aI]) Qc8 (fun _ _ _ _=>trivial) qH ?_
    have hmem:=ok.mem
    have hl1:l.length≤100:=by omega
    have he1:es0.length≤100000:=by omega
    have d0:decide ((l.length:Int)=(many:Int))=true:=decide_eq_true (by omega)
    rw [lsM]
    show Sym _ _ _ (zq [qA l,aI f,.ptr 6 0,.ptr 7 0,.ptr 8 0,.ptr 9 0,.ptr 10 0,.ptr 11 0] 12 (lmS cs s L sold many l f none es0).h) (yB tyB noD Try.f118 fun S rv=>Fin S rv _ 12 (lmS cs s L sold many l f (if F (QB l) then some l else none) (Yr F es0 (QB l))).h 0)
    obtain ⟨E,hE⟩:∃ e,Yr F es0 (QB l)=e:=⟨_,rfl⟩
    rw [hE]
    cases hW:F (QB l) with
    |false =>
      rw [if_neg (by decide)]
      repeat' (first|(apply nx;with_reducible constructor)|refine uq (by decide) ?_|((first|refine vx env fun Q hQ=>?_|refine vz fun Q hQ=>?_);simp only [vkt,seval,zw,jT,mTk,qf,qh,m2L,lmL,lmS,pM2,Zl,zm,List.length_map,d0,hsv,hmem,hl1,hF,hFb,hmet,he1,hE,hW,Option.getD_none,Option.isSome_none];(try simp only [ite_and]);(repeat' (first|with_reducible assumption|refine And.intro ?_ ?_|intro hp));all_goals (first|(refine hQ _ ?_;clear hQ Q)|(refine hQ _ (fun h=>?_) (fun h=>?_) <;> clear hQ Q <;> (try simp only [vki,reduceCtorEq] at h))|(refine vq ?_;kernel_rfl)|omega|assumption|with_reducible rfl|skip)))
      (simp only [vrt,Try.results118,vkt,seval,zw,jT,mTk,qf,qh,m2L,lmL,lmS,pM2,Zl,zm,List.length_map];refine Fin.ok some [] ?_ ?_ ?_ ?_ ?_ rfl;all_goals (try simp only [vle,vkt,seval,zw,jT,mTk,qf,qh,m2L,lmL,lmS,pM2,Zl,zm,List.length_map]))
      all_goals (try simp only [Option.getD_none,Option.isSome_none])
      all_goals first|rfl|(simp;done)
    |true =>
      rw [if_pos rfl]
      repeat' (first|(apply nx;with_reducible constructor)|refine uq (by decide) ?_|((first|refine vx env fun Q hQ=>?_|refine vz fun Q hQ=>?_);simp only [vkt,seval,zw,jT,mTk,qf,qh,m2L,lmL,lmS,pM2,Zl,zm,List.length_map,d0,hsv,hmem,hl1,hF,hFb,hmet,he1,hE,hW,Option.getD_some,Option.isSome_some,Option.getD_none,Option.isSome_none];(try simp only [ite_and]);(repeat' (first|with_reducible assumption|refine And.intro ?_ ?_|intro hp));all_goals (first|(refine hQ _ ?_;clear hQ Q)|(refine hQ _ (fun h=>?_) (fun h=>?_) <;> clear hQ Q <;> (try simp only [vki,reduceCtorEq] at h))|(refine vq ?_;kernel_rfl)|omega|assumption|with_reducible rfl|skip)))
      (simp only [vrt,Try.results118,vkt,seval,zw,jT,mTk,qf,qh,m2L,lmL,lmS,pM2,Zl,zm,List.length_map];refine Fin.ok some [] ?_ ?_ ?_ ?_ ?_ rfl;all_goals (try simp only [vle,vkt,seval,zw,jT,mTk,qf,qh,m2L,lmL,lmS,pM2,Zl,zm,List.length_map]))
      all_goals (try simp only [Option.getD_some,Option.isSome_some])
      all_goals first|rfl|(simp;done)
  |succ m =>
    have env:Env (fun _=>True) Try.prog tyB (tab [(119,fnE zm),(118,fnE (Zl cs s L sold many m))]):=qM ⟨Qc9,eLm1 (ih m rfl),trivial⟩
    refine Fn.of (A:=fun _=>True) (n0:=12) (D:=noD) (Fn0 Try.func118 rfl (fun vs w=>by kernel_rfl) (by kernel_rfl)) (by simp) (by simp [AV.ids,AV.idsL,qA,aI]) Qc8 (fun _ _ _ _=>trivial) qH ?_
    have d0:decide ((l.length:Int)=(many:Int))=false:=decide_eq_false (by omega)
    have hfn:f≤n:=by have:=ok.from';omega
    have h4m:0 < 4 ^ m:=Nat.pow_pos (by decide)
    rw [Nat.pow_succ] at hcap
    rw [lsM,hn]
    obtain ⟨g,hg⟩:∃ g:Nat→Es→Option (List Int) × Es,(fun (j:Nat) es=>lsM F n m (l++[((j:Nat):Int)]) (j+1) es)=g:=⟨_,rfl⟩
    have hgj:∀ j es,lsM F n m (l++[((j:Nat):Int)]) (j+1) es=g j es:=fun j es=>congrFun (congrFun hg j) es
    rw [hg]
    show Sym _ _ _ (zq [qA l,aI f,.ptr 6 0,.ptr 7 0,.ptr 8 0,.ptr 9 0,.ptr 10 0,.ptr 11 0] 12 (lmS cs s L sold many l f none es0).h) (yB tyB noD Try.f118 fun S rv=>Fin S rv _ 12 (lmS cs s L sold many l f (lsR g (n - f) f es0).1 (lsR g (n - f) f es0).2).h 0)
    repeat' (first|(apply nx;with_reducible constructor)|refine uq (by decide) ?_|((first|refine vx env fun Q hQ=>?_|refine vz fun Q hQ=>?_);simp only [vkt,seval,zw,jT,mTk,qf,qh,m2L,lmL,lmS,pM2,Zl,zm,List.length_map,d0,Option.getD_none,Option.isSome_none];(try simp only [ite_and]);(repeat' (first|with_reducible assumption|refine And.intro ?_ ?_|intro hp));all_goals (first|(refine hQ _ ?_;clear hQ Q)|(refine hQ _ (fun h=>?_) (fun h=>?_) <;> clear hQ Q <;> (try simp only [vki,reduceCtorEq] at h))|(refine vq ?_;kernel_rfl)|omega|assumption|with_reducible rfl|skip)))
    refine qU (fun x:{ x:Nat × Option (List Int) × Es // x.1≤n - f∧MetOk F x.2.2∧x.2.2.length≤es0.length+x.1 * 4 ^ m∧((x.2.1=none∧lsR g (n - f) f es0=lsR g (n - f - x.1) (f+x.1) x.2.2)∨∃ t,x.2.1=some t∧lsR g (n - f) f es0=(some t,x.2.2)) }=>lmS cs s L sold many l (f+x.1.1) x.1.2.1 x.1.2.2) (fun x=>n - f - x.1.1) ⟨(0,none,es0),Nat.zero_le _,hmet,by simp,.inl ⟨rfl,rfl⟩⟩ ?_ fun ⟨(k,o,es),hk,hme,hle,ho⟩=>?_
    · show Le _ (lmS cs s L sold many l f none es0)
      unfold lmS
      (refine Le.ok some [] ?_;constructor;all_goals (try simp only [vle,vkt,seval,zw,jT,mTk,qf,qh,m2L,lmL,lmS,pM2,Zl,zm,List.length_map]))
      all_goals first|rfl|(simp;done)
    simp only at hk hme hle ho ⊢
    rcases ho with ⟨rfl,hno⟩|⟨t,rfl,ht⟩
    · by_cases hkl:k < n - f
      · have d1:decide (((f+k:Nat):Int) < (n:Int))=true:=decide_eq_true (by omega)
        have w1:IntKind.wrap .i64 (((f+k:Nat):Int)+1)=((f+k+1:Nat):Int):=by rw [wrap64 (by omega) (by omega)];rfl
        have hla:l.map zC++[[.v (.int .i64 ((f+k:Nat):Int))]]=(l++[((f+k:Nat):Int)]).map zC:=by rw [List.map_append];rfl
        have hll:(l++[((f+k:Nat):Int)]).length=l.length+1:=by simp
        have hnm:l.length+1+m=many:=by omega
        have i0:(((f+k+1:Nat):Int)).toNat=f+k+1:=rfl
        have hkm:k * 4 ^ m+4 ^ m≤4 * 4 ^ m:=by
          rw [← Nat.succ_mul]
          exact Nat.mul_le_mul_right _ (by omega)
        have hok:LmOk cs s L sold (l++[((f+k:Nat):Int)]) (f+k+1) m es:=⟨hsv,by rw [hll];omega,.inl (by omega),fun i hi=>by
          rcases List.mem_append.1 hi with hi|hi
          · exact ok.mem i hi
          · rw [List.mem_singleton.1 hi];omega,by rw [hF];exact hme,by omega⟩
        have hlen2:=UD (f:=F) h4 m (l++[((f+k:Nat):Int)]) (f+k+1) es
        have hmet2:=Qa4 (f:=F) (n:=n) m (l++[((f+k:Nat):Int)]) (f+k+1) es hme
        have hstep:lsR g (n - f - k) (f+k) es=if (g (f+k) es).1.isSome then g (f+k) es else lsR g (n - f - (k+1)) (f+(k+1)) (g (f+k) es).2:=by
          obtain ⟨c,hc⟩:∃ c,n - f - k=c+1:=⟨n - f - k - 1,by omega⟩
          rw [hc,lsR,show n - f - (k+1)=c by omega]
          rfl
        rw [hgj] at hlen2 hmet2
        have hgk:=hgj (f+k) es
        obtain ⟨⟨o',e'⟩,ho'⟩:∃ o',g (f+k) es=o':=⟨_,rfl⟩
        rw [ho'] at hlen2 hmet2 hstep hgk
        simp only at hlen2 hmet2 hstep
        have hl3:e'.length≤es0.length+(k+1) * 4 ^ m:=by rw [Nat.succ_mul];omega
        repeat' (first|(apply nx;with_reducible constructor)|refine uq (by decide) ?_|((first|refine vx env fun Q hQ=>?_|refine vz fun Q hQ=>?_);simp only [vkt,seval,zw,jT,mTk,qf,qh,m2L,lmL,lmS,pM2,Zl,zm,List.length_map,hn,hF,d1,w1,hla,hll,hnm,i0,hok,hgk,hmm,hml1,Option.getD_none,Option.isSome_none];(try simp only [ite_and]);(repeat' (first|with_reducible assumption|refine And.intro ?_ ?_|intro hp));all_goals (first|(refine hQ _ ?_;clear hQ Q)|(refine hQ _ (fun h=>?_) (fun h=>?_) <;> clear hQ Q <;> (try simp only [vki,reduceCtorEq] at h))|(refine vq ?_;kernel_rfl)|omega|assumption|with_reducible rfl|skip)))
        · exact ⟨_,_,rfl⟩
        refine ⟨⟨(k+1,o',e'),by show k+1≤n - f;omega,hmet2,hl3, ?_⟩,by show n - f - (k+1) < n - f - k;omega, ?_⟩
        · cases o' with
          |none=>exact .inl ⟨rfl,by rw [hno,hstep];rfl⟩
          |some t=>exact .inr ⟨t,rfl,by rw [hno,hstep];rfl⟩
        · show Le _ (lmS cs s L sold many l (f+k+1) o' e')
          unfold lmS
          rw [hn]
          (refine Le.ok some [] ?_;constructor;all_goals (try simp only [vle,vkt,seval,zw,jT,mTk,qf,qh,m2L,lmL,lmS,pM2,Zl,zm,List.length_map]))
          all_goals first|rfl|(simp;done)
      · have d1:decide (((f+k:Nat):Int) < (n:Int))=false:=decide_eq_false (by omega)
        rw [hno,show n - f - k=0 by omega,lsR]
        repeat' (first|(apply nx;with_reducible constructor)|refine uq (by decide) ?_|((first|refine vx env fun Q hQ=>?_|refine vz fun Q hQ=>?_);simp only [vkt,seval,zw,jT,mTk,qf,qh,m2L,lmL,lmS,pM2,Zl,zm,List.length_map,hn,d1,Option.getD_none,Option.isSome_none];(try simp only [ite_and]);(repeat' (first|with_reducible assumption|refine And.intro ?_ ?_|intro hp));all_goals (first|(refine hQ _ ?_;clear hQ Q)|(refine hQ _ (fun h=>?_) (fun h=>?_) <;> clear hQ Q <;> (try simp only [vki,reduceCtorEq] at h))|(refine vq ?_;kernel_rfl)|omega|assumption|with_reducible rfl|skip)))
        (simp only [vrt,Try.results118,vkt,seval,zw,jT,mTk,qf,qh,m2L,lmL,lmS,pM2,Zl,zm,List.length_map];refine Fin.ok some [] ?_ ?_ ?_ ?_ ?_ rfl;all_goals (try simp only [vle,vkt,seval,zw,jT,mTk,qf,qh,m2L,lmL,lmS,pM2,Zl,zm,List.length_map]))
        all_goals (try simp only [hn,Option.getD_none,Option.isSome_none])
        all_goals first|rfl|(simp;done)
    · rw [ht]
      by_cases hkl:f+k < n
      · have d1:decide (((f+k:Nat):Int) < (n:Int))=true:=decide_eq_true (by omega)
        repeat' (first|(apply nx;with_reducible constructor)|refine uq (by decide) ?_|((first|refine vx env fun Q hQ=>?_|refine vz fun Q hQ=>?_);simp only [vkt,seval,zw,jT,mTk,qf,qh,m2L,lmL,lmS,pM2,Zl,zm,List.length_map,hn,d1,Option.getD_some,Option.isSome_some];(try simp only [ite_and]);(repeat' (first|with_reducible assumption|refine And.intro ?_ ?_|intro hp));all_goals (first|(refine hQ _ ?_;clear hQ Q)|(refine hQ _ (fun h=>?_) (fun h=>?_) <;> clear hQ Q <;> (try simp only [vki,reduceCtorEq] at h))|(refine vq ?_;kernel_rfl)|omega|assumption|with_reducible rfl|skip)))
        (simp only [vrt,Try.results118,vkt,seval,zw,jT,mTk,qf,qh,m2L,lmL,lmS,pM2,Zl,zm,List.length_map];refine Fin.ok some [] ?_ ?_ ?_ ?_ ?_ rfl;all_goals (try simp only [vle,vkt,seval,zw,jT,mTk,qf,qh,m2L,lmL,lmS,pM2,Zl,zm,List.length_map]))
        all_goals (try simp only [hn,Option.getD_some,Option.isSome_some])
        all_goals first|rfl|(simp;done)
      · have d1:decide (((f+k:Nat):Int) < (n:Int))=false:=decide_eq_false (by omega)
        repeat' (first|(apply nx;with_reducible constructor)|refine uq (by decide) ?_|((first|refine vx env fun Q hQ=>?_|refine vz fun Q hQ=>?_);simp only [vkt,seval,zw,jT,mTk,qf,qh,m2L,lmL,lmS,pM2,Zl,zm,List.length_map,hn,d1,Option.getD_some,Option.isSome_some];(try simp only [ite_and]);(repeat' (first|with_reducible assumption|refine And.intro ?_ ?_|intro hp));all_goals (first|(refine hQ _ ?_;clear hQ Q)|(refine hQ _ (fun h=>?_) (fun h=>?_) <;> clear hQ Q <;> (try simp only [vki,reduceCtorEq] at h))|(refine vq ?_;kernel_rfl)|omega|assumption|with_reducible rfl|skip)))
        (simp only [vrt,Try.results118,vkt,seval,zw,jT,mTk,qf,qh,m2L,lmL,lmS,pM2,Zl,zm,List.length_map];refine Fin.ok some [] ?_ ?_ ?_ ?_ ?_ rfl;all_goals (try simp only [vle,vkt,seval,zw,jT,mTk,qf,qh,m2L,lmL,lmS,pM2,Zl,zm,List.length_map]))
        all_goals (try simp only [hn,Option.getD_some,Option.isSome_some])
        all_goals first|rfl|(simp;done)
theorem Vy (cs:List Cabin) (s:Int) (L:List Ask) (sold:List Tk) (many:Nat):∀ m,LmFn cs s L sold many m
  |0=>X5 cs s L sold many 0 fun _ h=>by omega
  |m+1=>X5 cs s L sold many (m+1) fun m' h=>by
    obtain rfl:m=m':=by omega
    exact Vy cs s L sold many m
end Go.Sym.B
namespace Go.Sym.B
open Go Go.Sym Go.Proofs Go.Sym.C
def Vx (P:Int) (l:List Ask):Int:=match l.findIdx? (fun x=>decide (x.party=P)) with
  |some i=>(i:Int)
  |none=>-1
theorem Qgw {P:Int} {l:List Ask} {k:Nat} (hk:k < l.length) (h:∀ j,j < k→decide ((l.getD j default).party=P)=false) (hp:decide ((l.getD k default).party=P)=true):Vx P l=(k:Int):=by
  have:l.findIdx? (fun x=>decide (x.party=P))=some k:=by
    rw [List.findIdx?_eq_some_iff_getElem]
    refine ⟨hk,by simpa [List.getD_eq_getElem?_getD,hk] using hp,fun j hj=>?_⟩
    have:=h j hj
    simpa [List.getD_eq_getElem?_getD,show j < l.length by omega] using this
  simp [Vx,this]
theorem QdP {P:Int} {l:List Ask} (h:∀ j,j < l.length→decide ((l.getD j default).party=P)=false):Vx P l=-1:=by
  have:l.findIdx? (fun x=>decide (x.party=P))=none:=by
    rw [List.findIdx?_eq_none_iff]
    intro x hx
    obtain ⟨j,hj,rfl⟩:=List.mem_iff_getElem.1 hx
    have:=h j hj
    simpa [List.getD_eq_getElem?_getD,hj] using this
  simp [Vx,this]
theorem Qha (P:Int) (l:List Ask):decide (0≤Vx P l)=l.any fun x=>decide (x.party=P):=by
  unfold Vx
  cases h:l.findIdx? (fun x=>decide (x.party=P)) with
  |none =>
    rw [List.findIdx?_eq_none_iff] at h
    symm
    simpa using h
  |some i =>
    rw [List.findIdx?_eq_some_iff_getElem] at h
    obtain ⟨hi,hp,_⟩:=h
    symm
    simp only [Int.natCast_nonneg,decide_true,List.any_eq_true]
    exact ⟨_,List.getElem_mem hi,hp⟩
def WK:=vj @ty3 (vj @kX (vj @ti3.eq_1 @xB.eq_1))
def UI:=vj @aI.eq_1 (@aB.eq_1)
theorem Qhs (a x:Ask):Fn noB Try.prog 104 [qw x,.ptr 0 0] (qg [(0,.cells (qj a))]) (aB (decide (x.party=a.party))) (qg [(0,.cells (qj a))]) 0:=by
  have env:Env (fun _=>True) Try.prog tyB (tab []):=qM trivial
  refine Fn.of (A:=fun _=>True) (n0:=1) (D:=noD) (Fn0 Try.func104 rfl (fun vs w=>by kernel_rfl) (by kernel_rfl)) (by simp) (by simp [AV.ids,AV.idsL,qw,qj]) ?_ (fun _ _ _ _=>trivial) qH ?_
  · intro i o hi
    have h:=qL hi
    simp at h;obtain ⟨rfl,rfl⟩:=h;simp [qj,AObj.ids,AV.ids,AV.idsL]
  repeat' (first|(apply nx;with_reducible constructor)|refine uq (by decide) ?_|((first|refine vx env fun Q hQ=>?_|refine vz fun Q hQ=>?_);simp only [vkt,seval,WK,UI,qw,qj];(try simp only [ite_and]);(repeat' (first|with_reducible assumption|refine And.intro ?_ ?_|intro hp));all_goals (first|(refine hQ _ ?_;clear hQ Q)|(refine hQ _ (fun h=>?_) (fun h=>?_) <;> clear hQ Q <;> (try simp only [vki,reduceCtorEq] at h))|(refine vq ?_;kernel_rfl)|omega|assumption|with_reducible rfl|skip)))
  all_goals (simp only [vrt,Try.results104,vkt,seval,WK,UI,qw,qj];refine Fin.ok some [] ?_ ?_ ?_ ?_ ?_ rfl;all_goals (try simp only [vle,vkt,seval,WK,UI,qw,qj]))
  all_goals first|rfl|(simp;done)
def Vn (S:St):List AV→Option Pk
  |[.agg [.v (.int .i64 a),.v (.int .i64 b),.v (.int .i64 c),.sl d,.v (.bool e)],.ptr t 0]=>match S.h t with
    |some (.cells [.v (.int .i64 a'),.v (.int .i64 b'),.v (.int .i64 c'),.sl d',.v (.bool e')])=>some { pre:=d=(d.map zl).map zC∧d'=(d'.map zl).map zC,hs:=[t],ar:=[.agg [.v (.int .i64 a),.v (.int .i64 b),.v (.int .i64 c),.sl d,.v (.bool e)],.ptr 0 0],L0:=[.cells [.v (.int .i64 a'),.v (.int .i64 b'),.v (.int .i64 c'),.sl d',.v (.bool e')]],v:=aB (decide (a=a')),L1:=[some (.cells [.v (.int .i64 a'),.v (.int .i64 b'),.v (.int .i64 c'),.sl d',.v (.bool e')])] }
    |_=>none
  |_=>none
theorem eMo1 {A:Frm→Prop}:qC A Try.prog 104 (fnE Vn):=zx fun S bs q h hp=>by
  unfold Vn at h
  split at h
  · split at h
    · rename_i a b c d e t _ a' b' c' d' e' _
      cases h
      obtain ⟨h1,h2⟩:=hp
      have:=Qhs ⟨a',b',c',d'.map zl,e'⟩ ⟨a,b,c,d.map zl,e⟩
      simp only [qw,qj,← h1,← h2] at this
      exact this
    · cases h
  · cases h
def Vf (l:List Ask) (a:Ask) (k:Nat):St:={ t:=asg [(0,qZ l),(1,.clo 104 [.ptr 0 0]),(4,aI 0),(6,qZ l),(7,aI l.length),(8,aI k)],h:=qg [(0,.cells (qj a))],n:=1,m:=1 }
def jh:=vj @ty3 (vj @kX (vj @UH (vj @ti3.eq_1 (vj @xB.eq_1 @VH.eq_1))))
def Qq:=vj @aI.eq_1 (vj @aB.eq_1 (@kW))
theorem QeL (a:Ask) (l:List Ask) (hl:l.length≤100):Fn noB Try.prog 129 [qZ l,.clo 104 [.ptr 0 0]] (qg [(0,.cells (qj a))]) (aI (Vx a.party l)) (qg [(0,.cells (qj a))]) 0:=by
  have env:Env (fun _=>True) Try.prog tyB (tab [(104,fnE Vn)]):=qM ⟨eMo1,trivial⟩
  refine Fn.of (A:=fun _=>True) (n0:=1) (D:=noD) (Fn0 Try.func129 rfl (fun vs w=>by kernel_rfl) (by kernel_rfl)) (by simp) (by simp [AV.ids,AV.idsL,qZ]) ?_ (fun _ _ _ _=>trivial) qH ?_
  · intro i o hi
    have h:=qL hi
    simp at h;obtain ⟨rfl,rfl⟩:=h;simp [qj,AObj.ids,AV.ids,AV.idsL]
  repeat' (first|(apply nx;with_reducible constructor)|refine uq (by decide) ?_|((first|refine vx env fun Q hQ=>?_|refine vz fun Q hQ=>?_);simp only [vkt,seval,jh,Qq,qw,qj,qZ,qO,yL,Vf,Vn,List.length_map];(try simp only [ite_and]);(repeat' (first|with_reducible assumption|refine And.intro ?_ ?_|intro hp));all_goals (first|(refine hQ _ ?_;clear hQ Q)|(refine hQ _ (fun h=>?_) (fun h=>?_) <;> clear hQ Q <;> (try simp only [vki,reduceCtorEq] at h))|(refine vq ?_;kernel_rfl)|omega|assumption|with_reducible rfl|skip)))
  refine qU (fun k:{ k:Nat // k≤l.length∧∀ j,j < k→decide ((l.getD j default).party=a.party)=false }=>Vf l a k.1) (fun k=>l.length - k.1) ⟨0,Nat.zero_le _,fun j h=>absurd h (Nat.not_lt_zero _)⟩ ?_ fun ⟨k,hk,hno⟩=>?_
  · (refine Le.ok some [] ?_;constructor;all_goals (try simp only [vle,vkt,seval,jh,Qq,qw,qj,qZ,qO,yL,Vf,Vn,List.length_map]))
    all_goals first|rfl|(simp;done)
  simp only at hk hno ⊢
  simp only [Vf]
  by_cases hlt:k < l.length
  · have d1:decide ((k:Int) < (l.length:Int))=true:=decide_eq_true (by omega)
    have e9:IntKind.wrap .i64 ((k:Int)+1)=((k+1:Nat):Int):=by rw [wrap64 (by omega) (by omega)];rfl
    have k0:((k:Int)).toNat=k:=rfl
    have hg:=hAsk hlt
    obtain ⟨x,hx⟩:∃ x,l.getD k default=x:=⟨_,rfl⟩
    rw [hx] at hg
    cases hp:decide (x.party=a.party) with
    |false =>
      repeat' (first|(apply nx;with_reducible constructor)|refine uq (by decide) ?_|((first|refine vx env fun Q hQ=>?_|refine vz fun Q hQ=>?_);simp only [vkt,seval,jh,Qq,qw,qj,qZ,qO,yL,Vf,Vn,List.length_map,d1,k0,hlt,hg,hx,hp,e9];(try simp only [ite_and]);(repeat' (first|with_reducible assumption|refine And.intro ?_ ?_|intro hp));all_goals (first|(refine hQ _ ?_;clear hQ Q)|(refine hQ _ (fun h=>?_) (fun h=>?_) <;> clear hQ Q <;> (try simp only [vki,reduceCtorEq] at h))|(refine vq ?_;kernel_rfl)|omega|assumption|with_reducible rfl|skip)))
      refine ⟨⟨k+1,hlt,fun j hj=>?_⟩,by show l.length - (k+1) < l.length - k;omega, ?_⟩
      · rcases Nat.lt_or_eq_of_le (Nat.le_of_lt_succ hj) with h1|h1
        · exact hno j h1
        · rw [h1,hx];exact hp
      · simp only [Vf]
        (refine Le.ok some [] ?_;constructor;all_goals (try simp only [vle,vkt,seval,jh,Qq,qw,qj,qZ,qO,yL,Vf,Vn,List.length_map]))
        all_goals first|rfl|(simp;done)
    |true =>
      have hh:=Qgw hlt hno (by rw [hx];exact hp)
      rw [hh]
      repeat' (first|(apply nx;with_reducible constructor)|refine uq (by decide) ?_|((first|refine vx env fun Q hQ=>?_|refine vz fun Q hQ=>?_);simp only [vkt,seval,jh,Qq,qw,qj,qZ,qO,yL,Vf,Vn,List.length_map,d1,k0,hlt,hg,hx,hp,e9];(try simp only [ite_and]);(repeat' (first|with_reducible assumption|refine And.intro ?_ ?_|intro hp));all_goals (first|(refine hQ _ ?_;clear hQ Q)|(refine hQ _ (fun h=>?_) (fun h=>?_) <;> clear hQ Q <;> (try simp only [vki,reduceCtorEq] at h))|(refine vq ?_;kernel_rfl)|omega|assumption|with_reducible rfl|skip)))
      (simp only [vrt,Try.results129,vkt,seval,jh,Qq,qw,qj,qZ,qO,yL,Vf,Vn,List.length_map];refine Fin.ok some [] ?_ ?_ ?_ ?_ ?_ rfl;all_goals (try simp only [vle,vkt,seval,jh,Qq,qw,qj,qZ,qO,yL,Vf,Vn,List.length_map]))
      all_goals first|rfl|(simp;done)
  · have d1:decide ((k:Int) < (l.length:Int))=false:=decide_eq_false (by omega)
    obtain rfl:k=l.length:=by omega
    rw [QdP hno]
    repeat' (first|(apply nx;with_reducible constructor)|refine uq (by decide) ?_|((first|refine vx env fun Q hQ=>?_|refine vz fun Q hQ=>?_);simp only [vkt,seval,jh,Qq,qw,qj,qZ,qO,yL,Vf,Vn,List.length_map,d1];(try simp only [ite_and]);(repeat' (first|with_reducible assumption|refine And.intro ?_ ?_|intro hp));all_goals (first|(refine hQ _ ?_;clear hQ Q)|(refine hQ _ (fun h=>?_) (fun h=>?_) <;> clear hQ Q <;> (try simp only [vki,reduceCtorEq] at h))|(refine vq ?_;kernel_rfl)|omega|assumption|with_reducible rfl|skip)))
    (simp only [vrt,Try.results129,vkt,seval,jh,Qq,qw,qj,qZ,qO,yL,Vf,Vn,List.length_map];refine Fin.ok some [] ?_ ?_ ?_ ?_ ?_ rfl;all_goals (try simp only [vle,vkt,seval,jh,Qq,qw,qj,qZ,qO,yL,Vf,Vn,List.length_map]))
    all_goals first|rfl|(simp;done)
def Qe9 (S:St):List AV→Option Pk
  |[.sl xs,.clo f [.ptr t 0]]=>match S.h t with
    |some (.cells [.v (.int .i64 a'),.v (.int .i64 b'),.v (.int .i64 c'),.sl d',.v (.bool e')])=>some { pre:=f=104∧xs=(xs.map Zo).map qO∧d'=(d'.map zl).map zC∧xs.length≤100,hs:=[t],ar:=[.sl xs,.clo 104 [.ptr 0 0]],L0:=[.cells [.v (.int .i64 a'),.v (.int .i64 b'),.v (.int .i64 c'),.sl d',.v (.bool e')]],v:=aI (Vx a' (xs.map Zo)),L1:=[some (.cells [.v (.int .i64 a'),.v (.int .i64 b'),.v (.int .i64 c'),.sl d',.v (.bool e')])] }
    |_=>none
  |_=>none
theorem eIxA {A:Frm→Prop}:qC A Try.prog 129 (fnE Qe9):=zx fun S bs q h hp=>by
  unfold Qe9 at h
  split at h
  · split at h
    · rename_i a' b' c' d' e' _
      cases h
      obtain ⟨_,h1,h2,h3⟩:=hp
      have:=QeL ⟨a',b',c',d'.map zl,e'⟩ (List.map Zo _) (by rw [List.length_map];exact h3)
      simp only [qZ,qj,← h1,← h2] at this
      exact this
    · cases h
  · cases h
def WN:=vj @ty3 @ti3.eq_1
def Ui:=vj @aI.eq_1 (vj @aB.eq_1 (@kW))
theorem QfH (a:Ask) (l:List Ask) (hl:l.length≤100):Fn noB Try.prog 103 [qZ l,.clo 104 [.ptr 0 0]] (qg [(0,.cells (qj a))]) (aB (l.any fun x=>decide (x.party=a.party))) (qg [(0,.cells (qj a))]) 0:=by
  have env:Env (fun _=>True) Try.prog tyB (tab [(129,fnE Qe9)]):=qM ⟨eIxA,trivial⟩
  refine Fn.of (A:=fun _=>True) (n0:=1) (D:=noD) (Fn0 Try.func103 rfl (fun vs w=>by kernel_rfl) (by kernel_rfl)) (by simp) (by simp [AV.ids,AV.idsL,qZ]) ?_ (fun _ _ _ _=>trivial) qH ?_
  · intro i o hi
    have h:=qL hi
    simp at h;obtain ⟨rfl,rfl⟩:=h;simp [qj,AObj.ids,AV.ids,AV.idsL]
  repeat' (first|(apply nx;with_reducible constructor)|refine uq (by decide) ?_|((first|refine vx env fun Q hQ=>?_|refine vz fun Q hQ=>?_);simp only [vkt,seval,WN,Ui,qZ,qj,jQ,Qe9,List.length_map];(try simp only [ite_and]);(repeat' (first|with_reducible assumption|refine And.intro ?_ ?_|intro hp));all_goals (first|(refine hQ _ ?_;clear hQ Q)|(refine hQ _ (fun h=>?_) (fun h=>?_) <;> clear hQ Q <;> (try simp only [vki,reduceCtorEq] at h))|(refine vq ?_;kernel_rfl)|omega|assumption|with_reducible rfl|skip)))
  (simp only [vrt,Try.results103,Qha,vkt,seval,WN,Ui,qZ,qj,jQ,Qe9,List.length_map];refine Fin.ok some [] ?_ ?_ ?_ ?_ ?_ rfl;all_goals (try simp only [vle,vkt,seval,WN,Ui,qZ,qj,jQ,Qe9,List.length_map]))
  all_goals first|rfl|(simp;done)
def Qg (S:St):List AV→Option Pk
  |[.sl xs,.clo f [.ptr t 0]]=>match S.h t with
    |some (.cells [.v (.int .i64 a'),.v (.int .i64 b'),.v (.int .i64 c'),.sl d',.v (.bool e')])=>some { pre:=f=104∧xs=(xs.map Zo).map qO∧d'=(d'.map zl).map zC∧xs.length≤100,hs:=[t],ar:=[.sl xs,.clo 104 [.ptr 0 0]],L0:=[.cells [.v (.int .i64 a'),.v (.int .i64 b'),.v (.int .i64 c'),.sl d',.v (.bool e')]],v:=aB ((xs.map Zo).any fun x=>decide (x.party=a')),L1:=[some (.cells [.v (.int .i64 a'),.v (.int .i64 b'),.v (.int .i64 c'),.sl d',.v (.bool e')])] }
    |_=>none
  |_=>none
theorem eCoA {A:Frm→Prop}:qC A Try.prog 103 (fnE Qg):=zx fun S bs q h hp=>by
  unfold Qg at h
  split at h
  · split at h
    · rename_i a' b' c' d' e' _
      cases h
      obtain ⟨_,h1,h2,h3⟩:=hp
      have:=QfH ⟨a',b',c',d'.map zl,e'⟩ (List.map Zo _) (by rw [List.length_map];exact h3)
      simp only [qZ,qj,← h1,← h2] at this
      exact this
    · cases h
  · cases h
noncomputable def QeP (cs:List Cabin) (s:Int) (L:List Ask) (sold:List Tk) (many:Nat) (S:St):List AV→Option Pk
  |[.nil,.v (.int .i64 f),.ptr p6 0,.ptr p7 0,.ptr p8 0,.ptr p9 0,.ptr p10 0,.ptr p11 0]=>match S.h p7 with
    |some (.cells [.clo _ [.ptr p2 0,.ptr p3 0,.ptr p4 0]])=>match S.h p2,S.h p4 with
      |some (.cells [.ptr p0 0]),some (.cells [.mp p5])=>match S.h p0,S.h p5 with
        |some (.cells [_,_,.row p1]),some (.map es)=>some { pre:=f=0∧LmOk cs s L sold [] 0 many es,hs:=[p0,p1,p2,p3,p4,p5,p6,p7,p8,p9,p10,p11],ar:=[.sl [],.v (.int .i64 0),.ptr 6 0,.ptr 7 0,.ptr 8 0,.ptr 9 0,.ptr 10 0,.ptr 11 0],L0:=lmL cs s L sold many none es,v:=.tup [],L1:=(lmL cs s L sold many (lsM (fun b=>tkB cs s L b sold) L.length many [] 0 es).1 (lsM (fun b=>tkB cs s L b sold) L.length many [] 0 es).2).map some }
        |_,_=>none
      |_,_=>none
    |_=>none
  |_=>none
theorem eLm0 {A:Frm→Prop} {cs:List Cabin} {s:Int} {L:List Ask} {sold:List Tk} {many:Nat}:qC A Try.prog 118 (fnE (QeP cs s L sold many)):=zx fun S bs q h hp=>by
  unfold QeP at h
  split at h
  · split at h
    · split at h
      · split at h
        · cases h
          exact Vy cs s L sold many many [] 0 _ (by simp) hp.2
        · cases h
      · cases h
    · cases h
  · cases h
def Ja:=vj @ty3 (vj @ty4 (vj @Qf (vj @Qdo (vj @ti3.eq_1 (vj @ti4.eq_1 (vj @kC.eq_1 @V5.eq_1))))))
def Uk:=vj @aI.eq_1 (vj @aB.eq_1 (vj @qA.eq_1 (vj @zC.eq_1 (vj @UN (@kW)))))
set_option maxHeartbeats 1000000 in
theorem Qe2 (cs:List Cabin) (s:Int) (L:List Ask) (sold:List Tk) (many:Nat) (es:Es) (ok:LmOk cs s L sold [] 0 many es):Fn noB Try.prog 85 [aI L.length,aI many,.clo 105 [.ptr 2 0,.ptr 3 0,.ptr 4 0]] (qg (qI 0 (m2L cs s L sold es))) (.tup [qA ((lsM (fun b=>tkB cs s L b sold) L.length many [] 0 es).1.getD []),aB (lsM (fun b=>tkB cs s L b sold) L.length many [] 0 es).1.isSome]) (qg (zT 0 ((m2L cs s L sold (lsM (fun b=>tkB cs s L b sold) L.length many [] 0 es).2).map some))) 0:=by
  have env:Env (fun _=>True) Try.prog tyB (tab [(118,fnE (QeP cs s L sold many))]):=qM ⟨eLm0,trivial⟩
  refine Fn.of (A:=fun _=>True) (n0:=6) (D:=noD) (Fn0 Try.func85 rfl (fun vs w=>by kernel_rfl) (by kernel_rfl)) (by simp) (by simp [AV.ids,AV.idsL,aI]) QcC (fun _ _ _ _=>trivial) qH ?_
  obtain ⟨⟨o,e'⟩,ho⟩:∃ o,lsM (fun b=>tkB cs s L b sold) L.length many [] 0 es=o:=⟨_,rfl⟩
  rw [ho]
  show Sym _ _ _ (zq [aI L.length,aI many,.clo 105 [.ptr 2 0,.ptr 3 0,.ptr 4 0]] 6 (qg [(0,qf cs s 1),(1,qh sold),(2,.cells [.ptr 0 0]),(3,.cells [.sl (L.map qO)]),(4,.cells [.mp 5]),(5,.map es)])) (yB tyB noD Try.f85 fun S rv=>Fin S rv (.tup [qA (o.getD []),aB o.isSome]) 6 (qg [(0,qf cs s 1),(1,qh sold),(2,.cells [.ptr 0 0]),(3,.cells [.sl (L.map qO)]),(4,.cells [.mp 5]),(5,.map e')]) 0)
  repeat' (first|(apply nx;with_reducible constructor)|refine uq (by decide) ?_|((first|refine vx env fun Q hQ=>?_|refine vz fun Q hQ=>?_);simp only [vkt,seval,Ja,Uk,mTk,qf,qh,m2L,lmL,QeP,List.length_map,List.map_nil,ho,ok,Option.getD_none,Option.isSome_none];(try simp only [ite_and]);(repeat' (first|with_reducible assumption|refine And.intro ?_ ?_|intro hp));all_goals (first|(refine hQ _ ?_;clear hQ Q)|(refine hQ _ (fun h=>?_) (fun h=>?_) <;> clear hQ Q <;> (try simp only [vki,reduceCtorEq] at h))|(refine vq ?_;kernel_rfl)|omega|assumption|with_reducible rfl|skip)))
  (simp only [vrt,Try.results85,vkt,seval,Ja,Uk,mTk,qf,qh,m2L,lmL,QeP,List.length_map,List.map_nil];refine Fin.ok some [] ?_ ?_ ?_ ?_ ?_ rfl;all_goals (try simp only [vle,vkt,seval,Ja,Uk,mTk,qf,qh,m2L,lmL,QeP,List.length_map,List.map_nil]))
  all_goals first|rfl|(simp;done)|exact fun i hi=>(match i,hi with|0,_=>rfl|1,_=>rfl)
noncomputable def jf (cs:List Cabin) (s:Int) (L:List Ask) (sold:List Tk) (many:Nat) (S:St):List AV→Option Pk
  |[.v (.int .i64 n),.v (.int .i64 m),.clo f [.ptr p2 0,.ptr p3 0,.ptr p4 0]]=>match S.h p2,S.h p4 with
    |some (.cells [.ptr p0 0]),some (.cells [.mp p5])=>match S.h p0,S.h p5 with
      |some (.cells [_,_,.row p1]),some (.map es)=>some { pre:=n=L.length∧m=(many:Int)∧f=105∧LmOk cs s L sold [] 0 many es,hs:=[p0,p1,p2,p3,p4,p5],ar:=[aI L.length,aI many,.clo 105 [.ptr 2 0,.ptr 3 0,.ptr 4 0]],L0:=m2L cs s L sold es,v:=.tup [qA ((lsM (fun b=>tkB cs s L b sold) L.length many [] 0 es).1.getD []),aB (lsM (fun b=>tkB cs s L b sold) L.length many [] 0 es).1.isSome],L1:=(m2L cs s L sold (lsM (fun b=>tkB cs s L b sold) L.length many [] 0 es).2).map some }
      |_,_=>none
    |_,_=>none
  |_=>none
theorem Qj7 {A:Frm→Prop} {cs:List Cabin} {s:Int} {L:List Ask} {sold:List Tk} {many:Nat}:qC A Try.prog 85 (fnE (jf cs s L sold many)):=zx fun S bs q h hp=>by
  unfold jf at h
  split at h
  · split at h
    · split at h
      · cases h
        exact Qe2 cs s L sold many _ hp.2.2.2
      · cases h
    · cases h
  · cases h
end Go.Sym.B
namespace Go.Sym.B
open Go Go.Sym Go.Proofs Go.Sym.C
def Vz (f:Int→Bool) (l:List Int):Option (List Int):=if f (QB l) then some l else none
theorem Qdc {g:Nat→Es→Option (List Int) × Es} {G:Nat→Option (List Int)} (h:∀ j es,(g j es).1=G j):∀ c j es,(lsR g c j es).1=(List.range c).findSome? fun k=>G (j+k)
  |0,_,_=>rfl
  |c+1,j,es=>by
    rw [lsR,List.range_succ_eq_map,List.findSome?_cons]
    have h1:=h j es
    rw [Nat.add_zero]
    cases hG:G j with
    |some t =>
      rw [hG] at h1
      rw [h1,if_pos (by rfl),h1]
    |none =>
      rw [hG] at h1
      rw [h1,if_neg (by simp),Qdc h c (j+1)]
      simp only
      rw [List.findSome?_map]
      refine congrArg (List.findSome? · (List.range c)) (funext fun k=>?_)
      show G (j+1+k)=G (j+(k+1))
      rw [Nat.add_right_comm,Nat.add_assoc]
theorem Qcx (f:Int→Bool) (n:Nat):∀ (m:Nat) (l:List Int) (j:Nat) (es:Es),(lsM f n m l j es).1=(Qt n m l j).findSome? (Vz f)
  |0,l,j,es=>by
    show (if f (QB l) then some l else none)=_
    rw [Qt]
    unfold Vz
    cases h:f (QB l) <;> simp [h]
  |m+1,l,j,es=>by
    rw [lsM,Qt,Qdc (G:=fun j=>(Qt n m (l++[((j:Nat):Int)]) (j+1)).findSome? (Vz f)) fun j es=>Qcx f n m _ _ es,RV]
def QC (f:Int→Bool) (n:Nat):Nat→Option (List Int)
  |0=>none
  |m+1=>match (Qt n (m+1) [] 0).findSome? (Vz f) with
    |some l=>some l
    |none=>QC f n m
def JZ (L:List Ask):Bool:=(List.range L.length).any fun i=>(L.take i).any fun x=>decide (x.party=(L.getD i default).party)
def YF (c:Chart) (L:List Ask):Int:=if wB c ≠ 0 then wB c else if zD L.length 0 4 ≠ 0 then zD L.length 0 4 else if yK (L.map (xh c)) ≠ 0 then yK (L.map (xh c)) else if JZ L then 4 else 0
def ku (c:Chart) (L:List Ask):List Int × Int:=if YF c L ≠ 0 then ([],YF c L) else ((QC (fun b=>tkB c.cabins c.secs L b c.sold) L.length L.length).getD [],0)
theorem Qed {L:List Ask} {i:Nat} (hi:i < L.length) (h:((L.take i).any fun x=>decide (x.party=(L.getD i default).party))=true):JZ L=true:=List.any_eq_true.2 ⟨i,List.mem_range.2 hi,h⟩
theorem Qa0 {L:List Ask} (h:∀ i,i < L.length→((L.take i).any fun x=>decide (x.party=(L.getD i default).party))=false):JZ L=false:=by
  unfold JZ
  rw [List.any_eq_false]
  intro i hi
  rw [h i (List.mem_range.1 hi)]
  decide
def kT (c:Chart) (L:List Ask) (k:Nat):St:={ t:=asg [(2,.ptr 0 0),(3,.ptr 1 0),(29,qZ L),(30,aI L.length),(31,aI k)],h:=qg [(0,.cells (qb c)),(1,.cells [qZ L])],n:=2 }
def kF (c:Chart) (L:List Ask) (k:Nat):St:={ t:=asg [(2,.ptr 0 0),(3,.ptr 1 0),(42,qZ L),(43,aI L.length),(44,aI k)],h:=qg [(0,.cells (qb c)),(1,.cells [qZ L])],n:=2 }
def kJ (c:Chart) (L:List Ask) (m:Nat) (es:Es):St:={ t:=asg [(3,.ptr 1 0),(13,.ptr 4 0),(14,.ptr 6 0),(15,aI m)],h:=qg [(1,.cells [qZ L]),(2,qf c.cabins c.secs 3),(3,qh c.sold),(4,.cells [.ptr 2 0]),(5,.map es),(6,.cells [.mp 5])],n:=7 }
def zu:=vj @ty3 (vj @ty4 (vj @vg (vj @kX (vj @JH (vj @UH (vj @Qb (vj @Qhj (vj @QfL (vj @ti3.eq_1 (vj @ti4.eq_1 (vj @yI.eq_1 (vj @xB.eq_1 (vj @Wq.eq_1 (vj @VH.eq_1 (vj @xE.eq_1 (vj @K9.eq_1 @KO.eq_1))))))))))))))))
def wU:=vj @aI.eq_1 (vj @aB.eq_1 (vj @qA.eq_1 (@kW)))
set_option maxHeartbeats 4000000 in
theorem QiD (c:Chart) (L:List Ask) (hc:c.cabins.length≤maxLen) (hL:L.length≤100000) (hsx:∀ a ∈ L,a.sexes.length≤maxLen):FnV Try.prog 50 [qa c,qZ L] (.tup [qA (ku c L).1,aI (ku c L).2]):=by
  have ec:(⟨c.cabins,c.secs,c.sold⟩:Chart)=c:=rfl
  have hmx:(100000:Nat)≤maxLen:=by decide
  have env0:Env (fun _=>True) Try.prog tyB (tab [(44,zk true zh),(101,zk true qJ),(102,zk true vR),(93,fnE zZ),(103,fnE Qg)]):=qM ⟨Xt,XV,eask,Qcu,eCoA,trivial⟩
  have env1:∀ k,Env (fun _=>True) Try.prog tyB (tab [(85,fnE (jf c.cabins c.secs L c.sold k))]):=fun k=>qM ⟨Qj7,trivial⟩
  have env:=env0
  refine Fn.of (A:=fun _=>True) (n0:=0) (D:=noD) (Fn0 Try.func50 rfl (fun vs w=>by kernel_rfl) (by kernel_rfl)) (by simp) (by simp [AV.ids,AV.idsL,qa,qb,qZ]) (fun i o h=>by cases h) (fun _ _ _ _=>trivial) qH ?_
  obtain ⟨e,he⟩:∃ e,wB c=e:=⟨_,rfl⟩
  by_cases h0:e=0
  case neg =>
    have hE:YF c L=e:=by unfold YF;rw [he,if_pos h0]
    rw [show ku c L=([],e) by unfold ku;rw [hE,if_pos h0]]
    have d0:decide (e=0)=false:=decide_eq_false h0
    repeat' (first|(apply nx;with_reducible constructor)|refine uq (by decide) ?_|((first|refine vx env fun Q hQ=>?_|refine vz fun Q hQ=>?_);simp only [vkt,seval,zu,wU,qw,qj,qZ,qO,yL,wZ,qa,qb,mTk,qd,jQ,qf,qh,qm,m2L,kT,kF,kJ,zh,qJ,vR,zZ,Qg,jf,List.length_map,ec,hc,he,d0];(try simp only [ite_and]);(repeat' (first|with_reducible assumption|refine And.intro ?_ ?_|intro hp));all_goals (first|(refine hQ _ ?_;clear hQ Q)|(refine hQ _ (fun h=>?_) (fun h=>?_) <;> clear hQ Q <;> (try simp only [vki,reduceCtorEq] at h))|(refine vq ?_;kernel_rfl)|omega|assumption|with_reducible rfl|skip)))
    (simp only [vrt,Try.results50,vkt,seval,zu,wU,qw,qj,qZ,qO,yL,wZ,qa,qb,mTk,qd,jQ,qf,qh,qm,m2L,kT,kF,kJ,zh,qJ,vR,zZ,Qg,jf,List.length_map];refine Fin.val rfl ?_;(try simp only [AV.le,AV.leL]))
    all_goals first|rfl|(simp;done)
  rw [h0] at he
  have hval:=Q7 he
  have h8:=hval.many
  have hcab:=hval.car.cabs
  have h100:c.sold.length≤100:=by omega
  have b1:c.cabins.length≤100000:=by omega
  have b2:c.sold.length≤100000:=by omega
  obtain ⟨w,hw⟩:∃ w,zD L.length 0 4=w:=⟨_,rfl⟩
  by_cases hw0:w=0
  case neg =>
    have hE:YF c L=w:=by unfold YF;rw [he,hw];simp [hw0]
    rw [show ku c L=([],w) by unfold ku;rw [hE,if_pos hw0]]
    have d0:decide (w=0)=false:=decide_eq_false hw0
    repeat' (first|(apply nx;with_reducible constructor)|refine uq (by decide) ?_|((first|refine vx env fun Q hQ=>?_|refine vz fun Q hQ=>?_);simp only [vkt,seval,zu,wU,qw,qj,qZ,qO,yL,wZ,qa,qb,mTk,qd,jQ,qf,qh,qm,m2L,kT,kF,kJ,zh,qJ,vR,zZ,Qg,jf,List.length_map,ec,hc,he,hw,d0,decide_true];(try simp only [ite_and]);(repeat' (first|with_reducible assumption|refine And.intro ?_ ?_|intro hp));all_goals (first|(refine hQ _ ?_;clear hQ Q)|(refine hQ _ (fun h=>?_) (fun h=>?_) <;> clear hQ Q <;> (try simp only [vki,reduceCtorEq] at h))|(refine vq ?_;kernel_rfl)|omega|assumption|with_reducible rfl|skip)))
    (simp only [vrt,Try.results50,vkt,seval,zu,wU,qw,qj,qZ,qO,yL,wZ,qa,qb,mTk,qd,jQ,qf,qh,qm,m2L,kT,kF,kJ,zh,qJ,vR,zZ,Qg,jf,List.length_map];refine Fin.val rfl ?_;(try simp only [AV.le,AV.leL]))
    all_goals first|rfl|(simp;done)
  rw [hw0] at hw
  have h4:L.length≤4:=by
    unfold zD at hw
    split at hw
    · exact absurd hw (by decide)
    · split at hw
      · exact absurd hw (by decide)
      · omega
  have hE:YF c L=if yK (L.map (xh c)) ≠ 0 then yK (L.map (xh c)) else if JZ L then 4 else 0:=by unfold YF;rw [he,hw];rfl
  repeat' (first|(apply nx;with_reducible constructor)|refine uq (by decide) ?_|((first|refine vx env fun Q hQ=>?_|refine vz fun Q hQ=>?_);simp only [vkt,seval,zu,wU,qw,qj,qZ,qO,yL,wZ,qa,qb,mTk,qd,jQ,qf,qh,qm,m2L,kT,kF,kJ,zh,qJ,vR,zZ,Qg,jf,List.length_map,ec,hc,he,hw,decide_true];(try simp only [ite_and]);(repeat' (first|with_reducible assumption|refine And.intro ?_ ?_|intro hp));all_goals (first|(refine hQ _ ?_;clear hQ Q)|(refine hQ _ (fun h=>?_) (fun h=>?_) <;> clear hQ Q <;> (try simp only [vki,reduceCtorEq] at h))|(refine vq ?_;kernel_rfl)|omega|assumption|with_reducible rfl|skip)))
  refine qU (fun k:{ k:Nat // k≤L.length∧∀ j,j < k→(L.map (xh c)).getD j 0=0 }=>kT c L k.1) (fun k=>L.length - k.1) ⟨0,Nat.zero_le _,fun j h=>absurd h (Nat.not_lt_zero _)⟩ ?_ fun ⟨k,hk,hno⟩=>?_
  · simp only [kT]
    (refine Le.ok some [] ?_;constructor;all_goals (try simp only [vle,vkt,seval,zu,wU,qw,qj,qZ,qO,yL,wZ,qa,qb,mTk,qd,jQ,qf,qh,qm,m2L,kT,kF,kJ,zh,qJ,vR,zZ,Qg,jf,List.length_map]))
    all_goals first|rfl|(simp;done)
  simp only at hk hno ⊢
  by_cases hkl:k < L.length
  · have d1:decide ((k:Int) < (L.length:Int))=true:=decide_eq_true (by omega)
    have e9:IntKind.wrap .i64 ((k:Int)+1)=((k+1:Nat):Int):=by rw [wrap64 (by omega) (by omega)];rfl
    have k0:((k:Int)).toNat=k:=rfl
    have hg:=hAsk hkl
    have hxs:=hsx _ (vL (d:=default) hkl)
    have hm:(L.map (xh c)).getD k 0=xh c (L.getD k default):=mapD hkl
    obtain ⟨x,hx⟩:∃ x,L.getD k default=x:=⟨_,rfl⟩
    rw [hx] at hg hxs hm
    have ex:(⟨x.party,x.frm,x.to,x.sexes,x.dog⟩:Ask)=x:=rfl
    obtain ⟨v,hv⟩:∃ v,xh c x=v:=⟨_,rfl⟩
    rw [hv] at hm
    simp only [kT]
    by_cases hv0:v=0
    · rw [hv0] at hv
      repeat' (first|(apply nx;with_reducible constructor)|refine uq (by decide) ?_|((first|refine vx env fun Q hQ=>?_|refine vz fun Q hQ=>?_);simp only [vkt,seval,zu,wU,qw,qj,qZ,qO,yL,wZ,qa,qb,mTk,qd,jQ,qf,qh,qm,m2L,kT,kF,kJ,zh,qJ,vR,zZ,Qg,jf,List.length_map,d1,k0,hkl,hg,hx,ec,ex,h100,hxs,hv,e9,decide_true];(try simp only [ite_and]);(repeat' (first|with_reducible assumption|refine And.intro ?_ ?_|intro hp));all_goals (first|(refine hQ _ ?_;clear hQ Q)|(refine hQ _ (fun h=>?_) (fun h=>?_) <;> clear hQ Q <;> (try simp only [vki,reduceCtorEq] at h))|(refine vq ?_;kernel_rfl)|omega|assumption|with_reducible rfl|skip)))
      refine ⟨⟨k+1,hkl,fun j hj=>?_⟩,by show L.length - (k+1) < L.length - k;omega, ?_⟩
      · rcases Nat.lt_or_eq_of_le (Nat.le_of_lt_succ hj) with h2|h2
        · exact hno j h2
        · rw [h2,hm,hv0]
      · simp only [kT]
        (refine Le.ok some [] ?_;constructor;all_goals (try simp only [vle,vkt,seval,zu,wU,qw,qj,qZ,qO,yL,wZ,qa,qb,mTk,qd,jQ,qf,qh,qm,m2L,kT,kF,kJ,zh,qJ,vR,zZ,Qg,jf,List.length_map]))
        all_goals first|rfl|(simp;done)
    · have hf:=Zq hno (by simpa using hkl) (by rw [hm];exact hv0)
      rw [hm] at hf
      rw [show ku c L=([],v) by unfold ku;rw [hE,hf,if_pos hv0,if_pos hv0]]
      have d0:decide (v=0)=false:=decide_eq_false hv0
      repeat' (first|(apply nx;with_reducible constructor)|refine uq (by decide) ?_|((first|refine vx env fun Q hQ=>?_|refine vz fun Q hQ=>?_);simp only [vkt,seval,zu,wU,qw,qj,qZ,qO,yL,wZ,qa,qb,mTk,qd,jQ,qf,qh,qm,m2L,kT,kF,kJ,zh,qJ,vR,zZ,Qg,jf,List.length_map,d1,k0,hkl,hg,hx,ec,ex,h100,hxs,hv,d0];(try simp only [ite_and]);(repeat' (first|with_reducible assumption|refine And.intro ?_ ?_|intro hp));all_goals (first|(refine hQ _ ?_;clear hQ Q)|(refine hQ _ (fun h=>?_) (fun h=>?_) <;> clear hQ Q <;> (try simp only [vki,reduceCtorEq] at h))|(refine vq ?_;kernel_rfl)|omega|assumption|with_reducible rfl|skip)))
      (simp only [vrt,Try.results50,vkt,seval,zu,wU,qw,qj,qZ,qO,yL,wZ,qa,qb,mTk,qd,jQ,qf,qh,qm,m2L,kT,kF,kJ,zh,qJ,vR,zZ,Qg,jf,List.length_map];refine Fin.val rfl ?_;(try simp only [AV.le,AV.leL]))
      all_goals first|rfl|(simp;done)
  have d1:decide ((k:Int) < (L.length:Int))=false:=decide_eq_false (by omega)
  obtain rfl:k=L.length:=by omega
  have hall:=vS (l:=L.map (xh c)) (by simpa using hno)
  have hask:∀ a ∈ L,xh c a=0:=fun a ha=>by
    obtain ⟨j,hj,rfl⟩:=List.getElem_of_mem ha
    have:=hno j hj
    rw [mapD hj,List.getD_eq_getElem?_getD,List.getElem?_eq_getElem hj] at this
    exact this
  have hE:YF c L=if JZ L then 4 else 0:=by rw [hE,hall,if_neg (by decide)]
  simp only [kT]
  repeat' (first|(apply nx;with_reducible constructor)|refine uq (by decide) ?_|((first|refine vx env fun Q hQ=>?_|refine vz fun Q hQ=>?_);simp only [vkt,seval,zu,wU,qw,qj,qZ,qO,yL,wZ,qa,qb,mTk,qd,jQ,qf,qh,qm,m2L,kT,kF,kJ,zh,qJ,vR,zZ,Qg,jf,List.length_map,d1];(try simp only [ite_and]);(repeat' (first|with_reducible assumption|refine And.intro ?_ ?_|intro hp));all_goals (first|(refine hQ _ ?_;clear hQ Q)|(refine hQ _ (fun h=>?_) (fun h=>?_) <;> clear hQ Q <;> (try simp only [vki,reduceCtorEq] at h))|(refine vq ?_;kernel_rfl)|omega|assumption|with_reducible rfl|skip)))
  refine qU (fun k:{ k:Nat // k≤L.length∧∀ j,j < k→((L.take j).any fun x=>decide (x.party=(L.getD j default).party))=false }=>kF c L k.1) (fun k=>L.length - k.1) ⟨0,Nat.zero_le _,fun j h=>absurd h (Nat.not_lt_zero _)⟩ ?_ fun ⟨k,hk,hno⟩=>?_
  · simp only [kF]
    (refine Le.ok some [] ?_;constructor;all_goals (try simp only [vle,vkt,seval,zu,wU,qw,qj,qZ,qO,yL,wZ,qa,qb,mTk,qd,jQ,qf,qh,qm,m2L,kT,kF,kJ,zh,qJ,vR,zZ,Qg,jf,List.length_map]))
    all_goals first|rfl|(simp;done)
  simp only at hk hno ⊢
  by_cases hkl:k < L.length
  · have d1:decide ((k:Int) < (L.length:Int))=true:=decide_eq_true (by omega)
    have e9:IntKind.wrap .i64 ((k:Int)+1)=((k+1:Nat):Int):=by rw [wrap64 (by omega) (by omega)];rfl
    have k0:((k:Int)).toNat=k:=rfl
    have k1:(0:Int)≤(k:Int):=by omega
    have k2:(k:Int)≤(L.length:Int):=by omega
    have hg:=hAsk hkl
    have htk:(L.map qO).take k=(L.take k).map qO:=List.map_take.symm
    have htl:(L.take k).length≤100:=by rw [List.length_take];omega
    have htl2:(L.take k).length≤maxLen:=by omega
    have hh:=Qed hkl
    obtain ⟨T,hT⟩:∃ T,L.take k=T:=⟨_,rfl⟩
    rw [hT] at htk htl hh htl2
    obtain ⟨x,hx⟩:∃ x,L.getD k default=x:=⟨_,rfl⟩
    rw [hx] at hg hh
    simp only [kF]
    cases q:T.any (fun y=>decide (y.party=x.party)) with
    |true =>
      rw [show ku c L=([],4) by unfold ku;rw [hE,hh q];rfl]
      repeat' (first|(apply nx;with_reducible constructor)|refine uq (by decide) ?_|((first|refine vx env fun Q hQ=>?_|refine vz fun Q hQ=>?_);simp only [vkt,seval,zu,wU,qw,qj,qZ,qO,yL,wZ,qa,qb,mTk,qd,jQ,qf,qh,qm,m2L,kT,kF,kJ,zh,qJ,vR,zZ,Qg,jf,List.length_map,d1,k0,k1,k2,hkl,hg,hx,htk,htl,htl2,q];(try simp only [ite_and]);(repeat' (first|with_reducible assumption|refine And.intro ?_ ?_|intro hp));all_goals (first|(refine hQ _ ?_;clear hQ Q)|(refine hQ _ (fun h=>?_) (fun h=>?_) <;> clear hQ Q <;> (try simp only [vki,reduceCtorEq] at h))|(refine vq ?_;kernel_rfl)|omega|assumption|with_reducible rfl|skip)))
      (simp only [vrt,Try.results50,vkt,seval,zu,wU,qw,qj,qZ,qO,yL,wZ,qa,qb,mTk,qd,jQ,qf,qh,qm,m2L,kT,kF,kJ,zh,qJ,vR,zZ,Qg,jf,List.length_map];refine Fin.val rfl ?_;(try simp only [AV.le,AV.leL]))
      all_goals first|rfl|(simp;done)
    |false =>
      repeat' (first|(apply nx;with_reducible constructor)|refine uq (by decide) ?_|((first|refine vx env fun Q hQ=>?_|refine vz fun Q hQ=>?_);simp only [vkt,seval,zu,wU,qw,qj,qZ,qO,yL,wZ,qa,qb,mTk,qd,jQ,qf,qh,qm,m2L,kT,kF,kJ,zh,qJ,vR,zZ,Qg,jf,List.length_map,d1,k0,k1,k2,hkl,hg,hx,htk,htl,htl2,q,e9];(try simp only [ite_and]);(repeat' (first|with_reducible assumption|refine And.intro ?_ ?_|intro hp));all_goals (first|(refine hQ _ ?_;clear hQ Q)|(refine hQ _ (fun h=>?_) (fun h=>?_) <;> clear hQ Q <;> (try simp only [vki,reduceCtorEq] at h))|(refine vq ?_;kernel_rfl)|omega|assumption|with_reducible rfl|skip)))
      refine ⟨⟨k+1,hkl,fun j hj=>?_⟩,by show L.length - (k+1) < L.length - k;omega, ?_⟩
      · rcases Nat.lt_or_eq_of_le (Nat.le_of_lt_succ hj) with h2|h2
        · exact hno j h2
        · rw [h2,hT,hx];exact q
      · simp only [kF]
        (refine Le.ok some [] ?_;constructor;all_goals (try simp only [vle,vkt,seval,zu,wU,qw,qj,qZ,qO,yL,wZ,qa,qb,mTk,qd,jQ,qf,qh,qm,m2L,kT,kF,kJ,zh,qJ,vR,zZ,Qg,jf,List.length_map]))
        all_goals first|rfl|(simp;done)
  have d1:decide ((k:Int) < (L.length:Int))=false:=decide_eq_false (by omega)
  obtain rfl:k=L.length:=by omega
  have hE:YF c L=0:=by rw [hE,Qa0 hno];rfl
  rw [show ku c L=((QC (fun b=>tkB c.cabins c.secs L b c.sold) L.length L.length).getD [],0) by unfold ku;rw [hE,if_neg (by decide)]]
  simp only [kF]
  repeat' (first|(apply nx;with_reducible constructor)|refine uq (by decide) ?_|((first|refine vx env fun Q hQ=>?_|refine vz fun Q hQ=>?_);simp only [vkt,seval,zu,wU,qw,qj,qZ,qO,yL,wZ,qa,qb,mTk,qd,jQ,qf,qh,qm,m2L,kT,kF,kJ,zh,qJ,vR,zZ,Qg,jf,List.length_map,d1,ec,b1,b2];(try simp only [ite_and]);(repeat' (first|with_reducible assumption|refine And.intro ?_ ?_|intro hp));all_goals (first|(refine hQ _ ?_;clear hQ Q)|(refine hQ _ (fun h=>?_) (fun h=>?_) <;> clear hQ Q <;> (try simp only [vki,reduceCtorEq] at h))|(refine vq ?_;kernel_rfl)|omega|assumption|with_reducible rfl|skip)))
  have hsv:SvOk c.cabins c.secs L c.sold:=⟨hval.car,h8,fun a ha=>(Kz (hask a ha)).1,h4⟩
  obtain ⟨F,hF⟩:∃ F:Int→Bool,(fun b=>tkB c.cabins c.secs L b c.sold)=F:=⟨_,rfl⟩
  rw [hF]
  refine qU (fun x:{ x:Nat × Es // x.1≤L.length∧MetOk F x.2∧x.2.length≤(L.length - x.1) * 256∧QC F L.length L.length=QC F L.length x.1 }=>kJ c L x.1.1 x.1.2) (fun x=>x.1.1) ⟨(L.length,[]),Nat.le_refl _,Qh8 F,Nat.zero_le _,rfl⟩ ?_ fun ⟨(m,es),hm,hme,hel,hmo⟩=>?_
  · simp only [kJ]
    (refine Le.ok some [] ?_;constructor;all_goals (try simp only [vle,vkt,seval,zu,wU,qw,qj,qZ,qO,yL,wZ,qa,qb,mTk,qd,jQ,qf,qh,qm,m2L,kT,kF,kJ,zh,qJ,vR,zZ,Qg,jf,List.length_map]))
    all_goals first|rfl|(simp;done)
  simp only at hm hme hel hmo ⊢
  clear env
  have env:=env1 m
  rw [hmo]
  cases m with
  |zero =>
    simp only [kJ]
    have d1:decide ((0:Int) < ((0:Nat):Int))=false:=rfl
    rw [QC]
    repeat' (first|(apply nx;with_reducible constructor)|refine uq (by decide) ?_|((first|refine vx env fun Q hQ=>?_|refine vz fun Q hQ=>?_);simp only [vkt,seval,zu,wU,qw,qj,qZ,qO,yL,wZ,qa,qb,mTk,qd,jQ,qf,qh,qm,m2L,kT,kF,kJ,zh,qJ,vR,zZ,Qg,jf,List.length_map,d1];(try simp only [ite_and]);(repeat' (first|with_reducible assumption|refine And.intro ?_ ?_|intro hp));all_goals (first|(refine hQ _ ?_;clear hQ Q)|(refine hQ _ (fun h=>?_) (fun h=>?_) <;> clear hQ Q <;> (try simp only [vki,reduceCtorEq] at h))|(refine vq ?_;kernel_rfl)|omega|assumption|with_reducible rfl|skip)))
    (simp only [vrt,Try.results50,vkt,seval,zu,wU,qw,qj,qZ,qO,yL,wZ,qa,qb,mTk,qd,jQ,qf,qh,qm,m2L,kT,kF,kJ,zh,qJ,vR,zZ,Qg,jf,List.length_map];refine Fin.val rfl ?_;(try simp only [AV.le,AV.leL]))
    all_goals first|rfl|(simp;done)
  |succ m =>
    have d1:decide ((0:Int) < ((m+1:Nat):Int))=true:=decide_eq_true (by omega)
    have w1:IntKind.wrap .i64 (((m+1:Nat):Int) - 1)=(m:Int):=by rw [wrap64 (by omega) (by omega)];omega
    have h4m:4 ^ (m+1)≤256:=Nat.le_trans (Nat.pow_le_pow_right (by decide) (show m+1≤4 by omega)) (by decide)
    have hel2:(L.length - (m+1)) * 256≤4 * 256:=Nat.mul_le_mul_right _ (by omega)
    have hok:LmOk c.cabins c.secs L c.sold [] 0 (m+1) es:=⟨hsv,by simp;omega,.inl (Nat.zero_le _),by simp,by rw [hF];exact hme,by omega⟩
    have hlen2:=UD (f:=F) h4 (m+1) [] 0 es
    have hmet2:=Qa4 (f:=F) (n:=L.length) (m+1) [] 0 es hme
    have hval2:=Qcx F L.length (m+1) [] 0 es
    obtain ⟨⟨o,e'⟩,ho⟩:∃ o,lsM F L.length (m+1) [] 0 es=o:=⟨_,rfl⟩
    rw [ho] at hlen2 hmet2 hval2
    simp only at hlen2 hmet2 hval2
    have hl3:e'.length≤(L.length - m) * 256:=by
      have:(L.length - m) * 256=(L.length - (m+1)) * 256+256:=by omega
      omega
    rw [QC,← hval2]
    simp only [kJ]
    cases o with
    |none =>
      repeat' (first|(apply nx;with_reducible constructor)|refine uq (by decide) ?_|((first|refine vx env fun Q hQ=>?_|refine vz fun Q hQ=>?_);simp only [vkt,seval,zu,wU,qw,qj,qZ,qO,yL,wZ,qa,qb,mTk,qd,jQ,qf,qh,qm,m2L,kT,kF,kJ,zh,qJ,vR,zZ,Qg,jf,List.length_map,d1,w1,hF,hok,ho,Option.getD_none,Option.isSome_none];(try simp only [ite_and]);(repeat' (first|with_reducible assumption|refine And.intro ?_ ?_|intro hp));all_goals (first|(refine hQ _ ?_;clear hQ Q)|(refine hQ _ (fun h=>?_) (fun h=>?_) <;> clear hQ Q <;> (try simp only [vki,reduceCtorEq] at h))|(refine vq ?_;kernel_rfl)|omega|assumption|with_reducible rfl|skip)))
      refine ⟨⟨(m,e'),by show m≤L.length;omega,hmet2,hl3, ?_⟩,Nat.lt_succ_self m, ?_⟩
      · rfl
      · simp only [kJ]
        (refine Le.ok some [] ?_;constructor;all_goals (try simp only [vle,vkt,seval,zu,wU,qw,qj,qZ,qO,yL,wZ,qa,qb,mTk,qd,jQ,qf,qh,qm,m2L,kT,kF,kJ,zh,qJ,vR,zZ,Qg,jf,List.length_map]))
        all_goals first|rfl|(simp;done)
    |some t =>
      repeat' (first|(apply nx;with_reducible constructor)|refine uq (by decide) ?_|((first|refine vx env fun Q hQ=>?_|refine vz fun Q hQ=>?_);simp only [vkt,seval,zu,wU,qw,qj,qZ,qO,yL,wZ,qa,qb,mTk,qd,jQ,qf,qh,qm,m2L,kT,kF,kJ,zh,qJ,vR,zZ,Qg,jf,List.length_map,d1,hF,hok,ho,Option.getD_some,Option.isSome_some];(try simp only [ite_and]);(repeat' (first|with_reducible assumption|refine And.intro ?_ ?_|intro hp));all_goals (first|(refine hQ _ ?_;clear hQ Q)|(refine hQ _ (fun h=>?_) (fun h=>?_) <;> clear hQ Q <;> (try simp only [vki,reduceCtorEq] at h))|(refine vq ?_;kernel_rfl)|omega|assumption|with_reducible rfl|skip)))
      (simp only [vrt,Try.results50,vkt,seval,zu,wU,qw,qj,qZ,qO,yL,wZ,qa,qb,mTk,qd,jQ,qf,qh,qm,m2L,kT,kF,kJ,zh,qJ,vR,zZ,Qg,jf,List.length_map];refine Fin.val rfl ?_;(try simp only [AV.le,AV.leL]))
      all_goals first|rfl|(simp;done)
def kw:List AV→Prop × AV
  |[.agg [.sl c0,.v (.int .i64 c1),.sl c2],.sl l]=>(c0=(c0.map qB).map qo∧c2=(c2.map dTk).map eTk∧l=(l.map Zo).map qO∧((⟨(c0.map qB),c1,(c2.map dTk)⟩:Chart)).cabins.length≤maxLen∧(l.map Zo).length≤100000∧(∀ a ∈ (l.map Zo),a.sexes.length≤maxLen),.tup [qA (ku ((⟨(c0.map qB),c1,(c2.map dTk)⟩:Chart)) (l.map Zo)).1,aI (ku ((⟨(c0.map qB),c1,(c2.map dTk)⟩:Chart)) (l.map Zo)).2])
  |_=>(False,.junk)
theorem eMost {A:Frm→Prop}:qC A Try.prog 50 (zk false kw):=zn fun vs hv h=>by
  clear hv
  unfold kw at h ⊢
  split at h
  · rename_i c0 c1 c2 l;obtain ⟨q0,q1,q2,k0,k1,k2⟩:=h
    refine ⟨by first|trivial|(simp [AV.plain,AV.plainL,aI,aB,qA,qc,qx,ql,aTk,cTk];done)|(repeat' split) <;> simp [AV.plain,AV.plainL,aI,aB,qA,qc,qx,ql,aTk,cTk],fun h=>absurd h (by decide), ?_⟩
    have:=QiD ((⟨(c0.map qB),c1,(c2.map dTk)⟩:Chart)) (l.map Zo) k0 k1 k2
    simp only [qZ,zR,qa,aI,qx,qb,← q0,← q1,← q2] at this
    first|exact this|(simp only [qZ,zR,qa,aI,qx,qb,← q0,← q1,← q2];exact this)
  · exact h.elim
end Go.Sym.B
namespace Go.Sym.B
open Go Go.Sym Go.Proofs Go.Sym.C
structure GnOk (c:Chart) (a:Ask):Prop where
  car:CarOk c
  tk:∀ t ∈ c.sold,TkOk c t
  pw:PWr [] c.sold
  ask:∀ i,i < a.sexes.length→∀ b ∈ qV c.cabins,TkOk c (kD a i b)
  way:0≤a.frm∧a.frm < a.to∧a.to≤c.secs
  sx:1≤a.sexes.length∧a.sexes.length≤3
theorem gn_of {c:Chart} {a:Ask} (h:wy c a=0):GnOk c a:=⟨(Q7 (yS h).1).car,(Q7 (yS h).1).tk,Qdz (yS h).1,fun i hi b hb=>QhK h hi hb,QcK h,⟨(Kz (yS h).2).2,(Kz (yS h).2).1⟩⟩
theorem WJ {c:Chart} {a:Ask} (h:GnOk c a) {l:List Bunk} (hl:l ∈ alL (qV c.cabins) a.sexes.length):∀ t ∈ c.sold++jK a l l.length,TkOk c t:=fun t ht=>by
  have hll:=Yu l hl
  have hT:jK a l l.length=tkR a 0 l:=by rw [RN a l l.length (Nat.le_refl _),List.take_length]
  rcases List.mem_append.1 ht with ht|ht
  · exact h.tk t ht
  · rw [hT] at ht
    obtain ⟨i,b,hi,hb,rfl⟩:=QcN ht
    exact h.ask _ (by omega) _ (Qb1 hl b hb)
theorem QjK {c:Chart} {a:Ask} (h:GnOk c a) {l:List Bunk} (hl:l ∈ alL (qV c.cabins) a.sexes.length) (hne:l ≠ []):Yj c.cabins a c.sold [] l=jW c a l:=by
  have hw:=h.way
  have hT:jK a l l.length=tkR a 0 l:=by rw [RN a l l.length (Nat.le_refl _),List.take_length]
  have hways:∀ t ∈ c.sold++jK a l l.length,0≤t.frm∧t.frm < t.to∧t.to≤c.secs:=fun t ht=>by
    have:=WJ h hl t ht
    exact ⟨this.frm,this.way,this.to⟩
  rw [Bool.eq_iff_iff,Qcv hw.2.1 l c.sold [] (fun b hb=>by simp at hb)]
  unfold jW
  rw [Bool.and_eq_true]
  have e1:(!QaO ⟨c.cabins,c.secs,c.sold++jK a l l.length⟩)=true ↔ PWr [] (c.sold++jK a l l.length):=by
    rw [← UK (cs:=c.cabins) hways]
    simp
  rw [e1,QcX,hT]
  simp only [List.nil_append]
  constructor
  · rintro ⟨h1,h2⟩
    exact ⟨h2 hne,h.pw,h1⟩
  · rintro ⟨h1,_,h3⟩
    exact ⟨h3,fun _=>h1⟩
theorem Qdi {c:Chart} {a:Ask} (h:GnOk c a):(plP c a).map (·.1)=(alL (qV c.cabins) a.sexes.length).filter (jW c a):=by
  unfold plP
  rw [Qaa]
  simp only [List.nil_append,List.map_id']
  refine List.filter_congr fun l hl=>QjK h hl ?_
  rintro rfl
  have h1:=Yu _ hl
  have h2:=h.sx
  simp at h1
  omega
theorem QjM {c:Chart} {a:Ask} (h:GnOk c a) {l:List Bunk} (hl:l ∈ alL (qV c.cabins) a.sexes.length) (hf:jW c a l=true):PWr [] (c.sold++jK a l l.length):=by
  unfold jW at hf
  rw [Bool.and_eq_true] at hf
  exact (UK (cs:=c.cabins) (secs:=c.secs) (fun t ht=>⟨(WJ h hl t ht).frm,(WJ h hl t ht).way,(WJ h hl t ht).to⟩)).1 (by simpa using hf.2)
def vK (cs:List Cabin) (s:Int):List Ask→List Tk→Bool
  |[],_=>true
  |a :: r,sold=>(plP ⟨cs,s,sold⟩ a).any fun x=>vK cs s r x.2
theorem QdZ (cs:List Cabin) (s:Int) (L:List Ask) (sold:List Tk) (h4:L.length≤4) (m:Nat) (hm:m≤L.length):∀ i ∈ y7 L.length m 0,tkB cs s L (QB i) sold=vK cs s (i.map fun k=>L.getD k.toNat default) sold:=by
  match L,h4,m,hm with
  |[],_,0,_=>simp only [show y7 ([]:List Ask).length 0 0=[[]] from rfl,List.forall_mem_cons];exact ⟨rfl,by simp⟩
  |[_],_,0,_=>simp only [show y7 1 0 0=[[]] from rfl,List.length_singleton,List.forall_mem_cons];exact ⟨rfl,by simp⟩
  |[_],_,1,_=>simp only [show y7 1 1 0=[[0]] from rfl,List.length_singleton,List.forall_mem_cons];exact ⟨rfl,by simp⟩
  |[_,_],_,0,_=>simp only [show y7 2 0 0=[[]] from rfl,List.length_cons,List.length_nil,List.forall_mem_cons];exact ⟨rfl,by simp⟩
  |[_,_],_,1,_=>simp only [show y7 2 1 0=[[0],[1]] from rfl,List.length_cons,List.length_nil,List.forall_mem_cons];exact ⟨rfl,rfl,by simp⟩
  |[_,_],_,2,_=>simp only [show y7 2 2 0=[[0,1]] from rfl,List.length_cons,List.length_nil,List.forall_mem_cons];exact ⟨rfl,by simp⟩
  |[_,_,_],_,0,_=>simp only [show y7 3 0 0=[[]] from rfl,List.length_cons,List.length_nil,List.forall_mem_cons];exact ⟨rfl,by simp⟩
  |[_,_,_],_,1,_=>simp only [show y7 3 1 0=[[0],[1],[2]] from rfl,List.length_cons,List.length_nil,List.forall_mem_cons];exact ⟨rfl,rfl,rfl,by simp⟩
  |[_,_,_],_,2,_=>simp only [show y7 3 2 0=[[0,1],[0,2],[1,2]] from rfl,List.length_cons,List.length_nil,List.forall_mem_cons];exact ⟨rfl,rfl,rfl,by simp⟩
  |[_,_,_],_,3,_=>simp only [show y7 3 3 0=[[0,1,2]] from rfl,List.length_cons,List.length_nil,List.forall_mem_cons];exact ⟨rfl,by simp⟩
  |[_,_,_,_],_,0,_=>simp only [show y7 4 0 0=[[]] from rfl,List.length_cons,List.length_nil,List.forall_mem_cons];exact ⟨rfl,by simp⟩
  |[_,_,_,_],_,1,_=>simp only [show y7 4 1 0=[[0],[1],[2],[3]] from rfl,List.length_cons,List.length_nil,List.forall_mem_cons];exact ⟨rfl,rfl,rfl,rfl,by simp⟩
  |[_,_,_,_],_,2,_=>simp only [show y7 4 2 0=[[0,1],[0,2],[0,3],[1,2],[1,3],[2,3]] from rfl,List.length_cons,List.length_nil,List.forall_mem_cons];exact ⟨rfl,rfl,rfl,rfl,rfl,rfl,by simp⟩
  |[_,_,_,_],_,3,_=>simp only [show y7 4 3 0=[[0,1,2],[0,1,3],[0,2,3],[1,2,3]] from rfl,List.length_cons,List.length_nil,List.forall_mem_cons];exact ⟨rfl,rfl,rfl,rfl,by simp⟩
  |[_,_,_,_],_,4,_=>simp only [show y7 4 4 0=[[0,1,2,3]] from rfl,List.length_cons,List.length_nil,List.forall_mem_cons];exact ⟨rfl,by simp⟩
end Go.Sym.B
namespace Go.Sym.B
open Go Go.Sym Go.Proofs Go.Sym.C
def vk (L:List Ask) (l:List Int):List Ask:=l.map fun k=>L.getD k.toNat default
theorem Qcd {L:List Ask} {l:List Int} {i:Nat} (h:i < l.length):vk L (l.take (i+1))=vk L (l.take i)++[L.getD (l.getD i 0).toNat default]:=by
  unfold vk
  rw [List.take_succ_eq_append_getElem h,List.map_append]
  simp [List.getD_eq_getElem?_getD,h]
def XH (L:List Ask) (l:List Int) (M:List Ask) (i:Nat):St:={ t:=asg [(0,qZ L),(1,qA l),(5,.row 0),(6,aI i)],h:=qg [(0,.row 31 5 (M.map qO))],n:=1 }
def x8:=vj @ty3 (vj @Qf (vj @kX (vj @UH (vj @ti3.eq_1 (vj @kC.eq_1 (vj @xB.eq_1 @VH.eq_1))))))
def JF:=vj @aI.eq_1 (vj @aB.eq_1 (vj @qA.eq_1 (vj @zC.eq_1 (vj @Y4 (@kW)))))
theorem Qft (L:List Ask) (l:List Int) (h1:L.length≤1000) (h2:l.length≤1000) (h3:∀ k ∈ l,0≤k∧k.toNat < L.length):FnV Try.prog 53 [qZ L,qA l] (qZ (vk L l)):=by
  have env:Env (fun _=>True) Try.prog tyB (tab []):=qM trivial
  refine Fn.of (A:=fun _=>True) (n0:=0) (D:=noD) (Fn0 Try.func53 rfl (fun vs w=>by kernel_rfl) (by kernel_rfl)) (by simp) (by simp [AV.ids,AV.idsL,qZ,qA]) (fun i o h=>by cases h) (fun _ _ _ _=>trivial) qH ?_
  have hmx:(100000:Nat)≤maxLen:=by decide
  repeat' (first|(apply nx;with_reducible constructor)|refine uq (by decide) ?_|((first|refine vx env fun Q hQ=>?_|refine vz fun Q hQ=>?_);simp only [vkt,seval,x8,JF,qZ,qO,yL,wZ,jQ,XH,List.length_map];(try simp only [ite_and]);(repeat' (first|with_reducible assumption|refine And.intro ?_ ?_|intro hp));all_goals (first|(refine hQ _ ?_;clear hQ Q)|(refine hQ _ (fun h=>?_) (fun h=>?_) <;> clear hQ Q <;> (try simp only [vki,reduceCtorEq] at h))|(refine vq ?_;kernel_rfl)|omega|assumption|with_reducible rfl|skip)))
  refine qU (fun i:{ i:Nat // i≤l.length }=>XH L l (vk L (l.take i.1)) i.1) (fun i=>l.length - i.1) ⟨0,Nat.zero_le _⟩ ?_ fun ⟨i,hi⟩=>?_
  · simp only [XH,List.take_zero,show vk L []=[] from rfl]
    (refine Le.ok (fun i=>if i=0 then none else some i) [] ?_;constructor;all_goals (try simp only [vle,vkt,seval,x8,JF,qZ,qO,yL,wZ,jQ,XH,List.length_map]))
    all_goals first|rfl|(simp;done)|(intro i hi;rw [if_neg (by omega)];done)
  simp only at hi ⊢
  have hMl:(vk L (l.take i)).length≤i:=by unfold vk;rw [List.length_map,List.length_take];omega
  by_cases hil:i < l.length
  · have d1:decide ((i:Int) < (l.length:Int))=true:=decide_eq_true (by omega)
    have e9:IntKind.wrap .i64 ((i:Int)+1)=((i+1:Nat):Int):=by rw [wrap64 (by omega) (by omega)];rfl
    have i0:((i:Int)).toNat=i:=rfl
    have hS:=Qcd (L:=L) hil
    have hg:=hInt hil
    have hkb:=h3 _ (vL (d:=0) hil)
    obtain ⟨k,hk⟩:∃ k,l.getD i 0=k:=⟨_,rfl⟩
    rw [hk] at hS hg hkb
    obtain ⟨k0,k1⟩:=hkb
    have hga:=hAsk k1
    obtain ⟨x,hx⟩:∃ x,L.getD k.toNat default=x:=⟨_,rfl⟩
    rw [hx] at hS hga
    obtain ⟨M,hM⟩:∃ M,vk L (l.take i)=M:=⟨_,rfl⟩
    rw [hM] at hMl hS
    have hm:M.length+1≤maxLen:=by omega
    simp only [XH,hM]
    repeat' (first|(apply nx;with_reducible constructor)|refine uq (by decide) ?_|((first|refine vx env fun Q hQ=>?_|refine vz fun Q hQ=>?_);simp only [vkt,seval,x8,JF,qZ,qO,yL,wZ,jQ,XH,List.length_map,d1,e9,i0,hil,hg,hk,k0,k1,hga,hx,hm];(try simp only [ite_and]);(repeat' (first|with_reducible assumption|refine And.intro ?_ ?_|intro hp));all_goals (first|(refine hQ _ ?_;clear hQ Q)|(refine hQ _ (fun h=>?_) (fun h=>?_) <;> clear hQ Q <;> (try simp only [vki,reduceCtorEq] at h))|(refine vq ?_;kernel_rfl)|omega|assumption|with_reducible rfl|skip)))
    refine ⟨⟨i+1,hil⟩,by show l.length - (i+1) < l.length - i;omega, ?_⟩
    simp only [XH,hS]
    (refine Le.ok (fun i=>if i=0 then some 2 else some i) [] ?_;constructor;all_goals (try simp only [vle,vkt,seval,x8,JF,qZ,qO,yL,wZ,jQ,XH,List.length_map]))
    all_goals first|rfl|(rw [List.map_append];rfl)|(simp;done)|(intro i hi;rw [if_neg (by omega)];done)
  · have d1:decide ((i:Int) < (l.length:Int))=false:=decide_eq_false (by omega)
    obtain rfl:i=l.length:=by omega
    rw [List.take_length]
    simp only [XH]
    repeat' (first|(apply nx;with_reducible constructor)|refine uq (by decide) ?_|((first|refine vx env fun Q hQ=>?_|refine vz fun Q hQ=>?_);simp only [vkt,seval,x8,JF,qZ,qO,yL,wZ,jQ,XH,List.length_map,d1];(try simp only [ite_and]);(repeat' (first|with_reducible assumption|refine And.intro ?_ ?_|intro hp));all_goals (first|(refine hQ _ ?_;clear hQ Q)|(refine hQ _ (fun h=>?_) (fun h=>?_) <;> clear hQ Q <;> (try simp only [vki,reduceCtorEq] at h))|(refine vq ?_;kernel_rfl)|omega|assumption|with_reducible rfl|skip)))
    (simp only [vrt,Try.results53,vkt,seval,x8,JF,qZ,qO,yL,wZ,jQ,XH,List.length_map];refine Fin.val rfl ?_;(try simp only [AV.le,AV.leL]))
    all_goals first|rfl|(simp;done)|exact ⟨_,_,rfl⟩
def yH:List AV→Prop × AV
  |[.sl x,.sl l]=>(x=(x.map Zo).map qO∧l=(l.map zl).map zC∧(x.map Zo).length≤1000∧(l.map zl).length≤1000∧(∀ k ∈ (l.map zl),0≤k∧k.toNat < (x.map Zo).length),qZ (vk (x.map Zo) (l.map zl)))
  |_=>(False,.junk)
theorem Qke {A:Frm→Prop}:qC A Try.prog 53 (zk false yH):=zn fun vs hv h=>by
  clear hv
  unfold yH at h ⊢
  split at h
  · rename_i x l;obtain ⟨q0,q1,k0,k1,k2⟩:=h
    refine ⟨by first|trivial|(simp [AV.plain,AV.plainL,aI,aB,qA,qc,qx,ql,aTk,cTk];done)|(repeat' split) <;> simp [AV.plain,AV.plainL,aI,aB,qA,qc,qx,ql,aTk,cTk],fun h=>absurd h (by decide), ?_⟩
    have:=Qft (x.map Zo) (l.map zl) k0 k1 k2
    simp only [qZ,qA,← q0,← q1] at this
    first|exact this|(simp only [qZ,qA,← q0,← q1];exact this)
  · exact h.elim
structure AlOk (cs:List Cabin) (s:Int) (r:List Ask) (sold:List Tk):Prop where
  gn:∀ a ∈ r,GnOk ⟨cs,s,sold⟩ a
  many:sold.length+3 * r.length≤20
  four:r.length≤4
  cabs:cs.length≤3
theorem Rn {cs:List Cabin} {s:Int} {a:Ask} {r:List Ask} {sold:List Tk}:vK cs s (a :: r) sold=((plP ⟨cs,s,sold⟩ a).map (·.1)).any fun p=>vK cs s r (sold++jK a p p.length):=by
  rw [vK,List.any_map]
  have h:∀ l:List (List Bunk × List Tk),(∀ x ∈ l,x.2=sold++jK a x.1 x.1.length)→(l.any fun x=>vK cs s r x.2)=l.any ((fun p=>vK cs s r (sold++jK a p p.length)) ∘ fun x=>x.1):=fun l=>by
    induction l with
    |nil=>intro _;rfl
    |cons x l ih =>
      intro hx
      rw [List.any_cons,List.any_cons,ih fun y hy=>hx y (List.mem_cons_of_mem _ hy)]
      show (vK cs s r x.2 || _)=(vK cs s r (sold++jK a x.1 x.1.length) || _)
      rw [← hx x (List.mem_cons_self ..)]
  exact h _ fun x hx=>QhW hx
end Go.Sym.B
namespace Go.Sym.B
open Go Go.Sym Go.Proofs Go.Sym.C
theorem Qga {x t:Tk} (h:okP x t):okP t x:=by
  unfold okP at h ⊢
  have e1:decide (x.cab=t.cab)=decide (t.cab=x.cab):=by rw [decide_eq_decide];exact eq_comm
  have e2:decide (x.bed=t.bed)=decide (t.bed=x.bed):=by rw [decide_eq_decide];exact eq_comm
  have e3:decide (x.party=t.party)=decide (t.party=x.party):=by rw [decide_eq_decide];exact eq_comm
  have e4:decide (x.sex=t.sex)=decide (t.sex=x.sex):=by rw [decide_eq_decide];exact eq_comm
  have e5:decide (x.cab ≠ t.cab)=!decide (t.cab=x.cab):=by rw [decide_not,e1]
  have e6:decide (t.cab ≠ x.cab)=!decide (t.cab=x.cab):=decide_not
  unfold vY ZT QE at h ⊢
  rw [e1,e2,e3,e4,e5] at h
  rw [e6]
  revert h
  generalize decide (t.cab=x.cab)=A
  generalize decide (t.bed=x.bed)=B
  generalize decide (t.party=x.party)=C
  generalize decide (t.sex=x.sex)=D
  generalize x.dog=E
  generalize t.dog=F
  generalize decide (x.frm < t.to)=M
  generalize decide (t.frm < x.to)=N
  revert A B C D E F M N
  decide
theorem QgX {s x y:List Tk} (h:PWr [] (s++x)) (hp:x.Perm y):PWr [] (s++y):=by
  rw [X6] at h ⊢
  exact ⟨((List.Perm.append_left s hp).pairwise_iff fun h=>Qga h).1 h.1,fun x hx=>by simp at hx⟩
def ZQ:List Ask→List (List Bunk)→List Tk
  |a :: r,p :: ps=>jK a p p.length++ZQ r ps
  |_,_=>[]
def Qd6 (cs:List Cabin):List Ask→List (List Bunk)→Prop
  |[],[]=>True
  |a :: r,p :: ps=>(p ∈ alL (qV cs) a.sexes.length∧Zz cs p=true)∧Qd6 cs r ps
  |_,_=>False
theorem QcI {cs:List Cabin} {a:Ask} {p:List Bunk} (ha:p ∈ alL (qV cs) a.sexes.length∧Zz cs p=true):∀ {r:List Ask} {ps:List (List Bunk)},Qd6 cs r ps→Qd6 cs (r++[a]) (ps++[p])∧ZQ (r++[a]) (ps++[p])=ZQ r ps++jK a p p.length
  |[],[],_=>⟨⟨ha,trivial⟩,by simp [ZQ]⟩
  |b :: r,q :: ps,h=>by
    obtain ⟨h1,h2⟩:=QcI ha h.2
    refine ⟨⟨h.1,h1⟩, ?_⟩
    show jK b q q.length++ZQ (r++[a]) (ps++[p])=jK b q q.length++ZQ r ps++jK a p p.length
    rw [h2,List.append_assoc]
  |[],_ :: _,h=>h.elim
  |_ :: _,[],h=>h.elim
theorem Qdw {cs:List Cabin}:∀ {r:List Ask} {ps:List (List Bunk)},Qd6 cs r ps→Qd6 cs r.reverse ps.reverse∧(ZQ r ps).Perm (ZQ r.reverse ps.reverse)
  |[],[],_=>⟨trivial,List.Perm.refl _⟩
  |a :: r,p :: ps,h=>by
    obtain ⟨h1,h2⟩:=Qdw h.2
    obtain ⟨h3,h4⟩:=QcI h.1 h1
    rw [List.reverse_cons,List.reverse_cons]
    refine ⟨h3, ?_⟩
    rw [h4]
    show (jK a p p.length++ZQ r ps).Perm _
    exact (List.Perm.append_left _ h2).trans List.perm_append_comm
  |[],_ :: _,h=>h.elim
  |_ :: _,[],h=>h.elim
theorem Ub {c:Chart} {a b:Ask} (h:GnOk c a) (h':GnOk c b) {p:List Bunk} (hl:p ∈ alL (qV c.cabins) a.sexes.length) (hp:PWr [] (c.sold++jK a p p.length)):GnOk ⟨c.cabins,c.secs,c.sold++jK a p p.length⟩ b :=
  ⟨h.car.to' _,fun t ht=>(WJ h hl t ht).to' _,hp,fun i hi q hq=>(h'.ask i hi q hq).to' _,h'.way,h'.sx⟩
theorem QaE {c:Chart} {a:Ask} (h:GnOk c a) {p:List Bunk} (hl:p ∈ alL (qV c.cabins) a.sexes.length):jW c a p=true ↔ Zz c.cabins p=true∧PWr [] (c.sold++jK a p p.length):=by
  have hi:=UK (cs:=c.cabins) (secs:=c.secs) (l:=c.sold++jK a p p.length) (fun t ht=>⟨(WJ h hl t ht).frm,(WJ h hl t ht).way,(WJ h hl t ht).to⟩)
  unfold jW
  rw [Bool.and_eq_true,← hi]
  simp
theorem VQ (cs:List Cabin) (s:Int):∀ (r:List Ask) (sold:List Tk),(∀ a ∈ r,GnOk ⟨cs,s,sold⟩ a)→PWr [] sold→(vK cs s r sold=true ↔ ∃ ps,Qd6 cs r ps∧PWr [] (sold++ZQ r ps))
  |[],sold,_,hp=>⟨fun _=>⟨[],trivial,by simpa [ZQ] using hp⟩,fun _=>rfl⟩
  |a :: r,sold,hg,hp=>by
    have ha:=hg a (List.mem_cons_self ..)
    have hr:=fun b hb=>hg b (List.mem_cons_of_mem a hb)
    rw [Rn,Qdi ha,List.any_eq_true]
    constructor
    · rintro ⟨p,hpm,hall⟩
      obtain ⟨h1,h2⟩:=List.mem_filter.1 hpm
      obtain ⟨h3,h4⟩:=(QaE ha h1).1 h2
      obtain ⟨ps,h5,h6⟩:=(VQ cs s r _ (fun b hb=>Ub ha (hr b hb) h1 h4) h4).1 hall
      exact ⟨p :: ps,⟨⟨h1,h3⟩,h5⟩,by show PWr [] (sold++(jK a p p.length++ZQ r ps));rw [← List.append_assoc];exact h6⟩
    · rintro ⟨ps,h1,h2⟩
      cases ps with
      |nil=>exact h1.elim
      |cons p ps =>
        obtain ⟨⟨h3,h4⟩,h5⟩:=h1
        have h2:PWr [] (sold++(jK a p p.length++ZQ r ps)):=h2
        rw [← List.append_assoc] at h2
        have h6:PWr [] (sold++jK a p p.length):=Qiv h2 (List.sublist_append_left _ _)
        exact ⟨p,List.mem_filter.2 ⟨h3,(QaE ha h3).2 ⟨h4,h6⟩⟩,(VQ cs s r _ (fun b hb=>Ub ha (hr b hb) h3 h6) h6).2 ⟨ps,h5,h2⟩⟩
theorem QhM {cs:List Cabin} {s:Int} {r:List Ask} {sold:List Tk} (hg:∀ a ∈ r,GnOk ⟨cs,s,sold⟩ a) (hp:PWr [] sold):vK cs s r.reverse sold=vK cs s r sold:=by
  have one:∀ r:List Ask,(∀ a ∈ r,GnOk ⟨cs,s,sold⟩ a)→vK cs s r sold=true→vK cs s r.reverse sold=true:=fun r hg h=>by
    obtain ⟨ps,h1,h2⟩:=(VQ cs s r sold hg hp).1 h
    obtain ⟨h3,h4⟩:=Qdw h1
    exact (VQ cs s r.reverse sold (fun a ha=>hg a (List.mem_reverse.1 ha)) hp).2 ⟨_,h3,QgX h2 h4⟩
  rw [Bool.eq_iff_iff]
  refine ⟨fun h=>?_,one r hg⟩
  have:=one r.reverse (fun a ha=>hg a (List.mem_reverse.1 ha)) h
  rwa [List.reverse_reverse] at this
end Go.Sym.B
namespace Go.Sym.B
open Go Go.Sym Go.Proofs Go.Sym.C
def J5 (_:St):List AV→Option Pk
  |[.sl bs,.v (.int .i64 n)]=>some { pre:=bs=(bs.map zG).map qp∧(0≤n∧n≤3)∧bs.length≤9,ar:=[.sl bs,.v (.int .i64 n)],v:=.row 0,L1:=[some (.row 37 1 ((alL (bs.map zG) n.toNat).map qz))] }
  |_=>none
theorem eAlZ {A:Frm→Prop}:qC A Try.prog 21 (fnE J5):=zx fun S bs q h hp=>by
  unfold J5 at h
  split at h
  · rename_i bs n
    cases h
    obtain ⟨h1,⟨h2,h4⟩,h3⟩:=hp
    obtain ⟨n,rfl⟩:=Int.eq_ofNat_of_zero_le h2
    have:=QfD n (bs.map zG) (by rw [List.length_map];exact h3) (by omega)
    rw [qc,← h1] at this
    exact this
  · cases h
theorem Qgu {α β:Type} {f:α→Option β} {d:α} {r:β}:∀ {l:List α} {k:Nat},k < l.length→(∀ j,j < k→f (l.getD j d)=none)→f (l.getD k d)=some r→l.findSome? f=some r
  |x :: l,0,_,_,h=>by
    have h:f x=some r:=h
    rw [List.findSome?_cons,h]
  |x :: l,k+1,hk,hn,h=>by
    have h0:f x=none:=hn 0 (Nat.succ_pos _)
    rw [List.findSome?_cons,h0]
    exact Qgu (l:=l) (k:=k) (Nat.lt_of_succ_lt_succ hk) (fun j hj=>hn (j+1) (by omega)) h
theorem QcV {α β:Type} {f:α→Option β} {d:α}:∀ {l:List α},(∀ j,j < l.length→f (l.getD j d)=none)→l.findSome? f=none
  |[],_=>rfl
  |x :: l,h=>by
    have h0:f x=none:=h 0 (Nat.succ_pos _)
    rw [List.findSome?_cons,h0]
    exact QcV (l:=l) fun j hj=>h (j+1) (by rw [List.length_cons];omega)
theorem QhD {n:Nat}:∀ (m f:Nat),∀ r ∈ y7 n m f,∀ v ∈ r,0≤v∧v.toNat < n
  |0,f,r,h,v,hv=>by rw [y7,List.mem_singleton] at h;rw [h] at hv;simp at hv
  |m+1,f,r,h,v,hv=>by
    rw [y7,List.mem_flatMap] at h
    obtain ⟨k,hk,h⟩:=h
    obtain ⟨w,hw,rfl⟩:=List.mem_map.1 h
    rw [List.mem_range] at hk
    rcases List.mem_cons.1 hv with rfl|hv
    · exact ⟨by omega,by omega⟩
    · exact QhD m _ w hw v hv
end Go.Sym.B
namespace Go.Sym.B
open Go Go.Sym Go.Proofs Go.Sym.C
theorem Qe5 {cs:List Cabin} {s:Int} {a:Ask} {r:List Ask} {sold:List Tk} (h:GnOk ⟨cs,s,sold⟩ a):vK cs s (a :: r) sold=(alL (qV cs) a.sexes.length).any fun p=>jW ⟨cs,s,sold⟩ a p && vK cs s r (sold++jK a p p.length):=by
  rw [Rn,Qdi h,List.any_filter]
def QaJ (cs:List Cabin) (s:Int) (q:List Ask):Prop:=∀ sold,AlOk cs s q sold→FnV Try.prog 52 [qa ⟨cs,s,sold⟩,.sl (q.reverse.map qO)] (aB (vK cs s q sold))
def Yd (cs:List Cabin) (s:Int) (q:List Ask):List AV→Prop × AV
  |[.agg [.sl cc,.v (.int .i64 s'),.sl ts],.sl xs]=>(cc=cs.map qo∧s'=s∧xs=q.reverse.map qO∧ts=(ts.map dTk).map eTk∧AlOk cs s q (ts.map dTk),aB (vK cs s q (ts.map dTk)))
  |_=>(False,.junk)
theorem eTak {A:Frm→Prop} {cs:List Cabin} {s:Int} {q:List Ask} (ih:QaJ cs s q):qC A Try.prog 52 (zk true (Yd cs s q)):=zn fun vs hv h=>by
  clear hv
  unfold Yd at h ⊢
  split at h
  · rename_i cc s' ts xs
    obtain ⟨rfl,rfl,rfl,h4,h5⟩:=h
    refine ⟨by simp [AV.plain,aB],fun _=>by simp [AV.flat,aB], ?_⟩
    have:=ih _ h5
    simp only [qa,qb,← h4] at this
    exact this
  · exact h.elim
def ZW (c:Chart) (a:Ask) (xs:List (List DV)) (P:List (List Bunk)) (i:Nat):St:={ t:=asg [(1,.sl xs),(2,.ptr 0 0),(5,.ptr 1 0),(6,.row 2),(7,aI i)],h:=qg [(0,.cells (qb c)),(1,.cells (qj a)),(2,.row 37 1 (P.map qz))],n:=3 }
def jN:=vj @ty3 (vj @Qf (vj @vg (vj @kX (vj @QeA (vj @JI (vj @kZ (vj @UH (vj @ti3.eq_1 (vj @kC.eq_1 (vj @yI.eq_1 (vj @xB.eq_1 (vj @UY.eq_1 (vj @Wi.eq_1 (vj @xQ.eq_1 @VH.eq_1))))))))))))))
def QJ:=vj @aI.eq_1 (vj @aB.eq_1 (@kW))
theorem QdU (cs:List Cabin) (s:Int):QaJ cs s []:=by
  intro sold ok
  have env:Env (fun _=>True) Try.prog tyB (tab []):=qM trivial
  refine Fn.of (A:=fun _=>True) (n0:=0) (D:=noD) (Fn0 Try.func52 rfl (fun vs w=>by kernel_rfl) (by kernel_rfl)) (by simp) (by simp [AV.ids,AV.idsL,qa,qb]) (fun i o h=>by cases h) (fun _ _ _ _=>trivial) qH ?_
  have e0:([]:List Ask).reverse.map qO=[]:=rfl
  rw [e0]
  repeat' (first|(apply nx;with_reducible constructor)|refine uq (by decide) ?_|((first|refine vx env fun Q hQ=>?_|refine vz fun Q hQ=>?_);simp only [vkt,seval,jN,QJ,ql,qc,xL,qp,qz,qE,qP,qW,qQ,ze,qx,eTk,mTk,qd,qO,qa,qb,qw,qj,ZW,yX,J5,yZ,Zi,xS,Yd,List.length_map,List.length_cons,List.length_nil,decide_true];(try simp only [ite_and]);(repeat' (first|with_reducible assumption|refine And.intro ?_ ?_|intro hp));all_goals (first|(refine hQ _ ?_;clear hQ Q)|(refine hQ _ (fun h=>?_) (fun h=>?_) <;> clear hQ Q <;> (try simp only [vki,reduceCtorEq] at h))|(refine vq ?_;kernel_rfl)|omega|assumption|with_reducible rfl|skip)))
  (simp only [vrt,Try.results52,vkt,seval,jN,QJ,ql,qc,xL,qp,qz,qE,qP,qW,qQ,ze,qx,eTk,mTk,qd,qO,qa,qb,qw,qj,ZW,yX,J5,yZ,Zi,xS,Yd,List.length_map,List.length_cons];refine Fin.val rfl ?_;(try simp only [AV.le,AV.leL]))
  all_goals first|rfl|(simp;done)
set_option maxHeartbeats 4000000 in
theorem Qb5 (cs:List Cabin) (s:Int) (a:Ask) (r:List Ask) (ih:QaJ cs s r):QaJ cs s (a :: r):=by
  intro sold ok
  have env:Env (fun _=>True) Try.prog tyB (tab [(22,zk false yX),(21,fnE J5),(23,zk true yZ),(75,zk false Zi),(56,zk false xS),(52,zk true (Yd cs s r))]):=qM ⟨QhP,eAlZ,Qiu,erTks,Qj4,eTak ih,trivial⟩
  refine Fn.of (A:=fun _=>True) (n0:=0) (D:=noD) (Fn0 Try.func52 rfl (fun vs w=>by kernel_rfl) (by kernel_rfl)) (by simp) (by simp [AV.ids,AV.idsL,qa,qb]) (fun i o h=>by cases h) (fun _ _ _ _=>trivial) qH ?_
  have hgn:=ok.gn a (List.mem_cons_self ..)
  have hmn:=ok.many
  have h4:=ok.four
  rw [List.length_cons] at hmn h4
  have hcb:=ok.cabs
  have hCar:CarOk ⟨cs,s,sold⟩:=hgn.car
  have hb3:∀ x ∈ cs,x.beds≤3:=fun x hx=>(hCar.beds x hx).2
  have hb9:=QiO hcb hCar.beds
  have hsec:=hCar.secs
  obtain ⟨sx1,sx2⟩:=hgn.sx
  have hmx:(100000:Nat)≤maxLen:=by decide
  have hs50:sold.length≤50:=by omega
  have hs1k:s≤1000:=by show (⟨cs,s,sold⟩:Chart).secs≤1000;omega
  have c1:cs.length≤100000:=by omega
  have c2:sold.length≤1000:=by omega
  have ea:(⟨a.party,a.frm,a.to,a.sexes,a.dog⟩:Ask)=a:=rfl
  have ax0:(0:Int)≤(a.sexes.length:Int):=by omega
  have ax3:(a.sexes.length:Int)≤3:=by omega
  have ax1:((a.sexes.length:Int)).toNat=a.sexes.length:=rfl
  have axm:a.sexes.length≤maxLen:=by omega
  have hmem:∀ p ∈ alL (qV cs) a.sexes.length,p.length=a.sexes.length∧NearOk cs p∧(jW ⟨cs,s,sold⟩ a p=true→AlOk cs s r (sold++jK a p p.length)):=fun p hp=>by
    have hl:=Yu p hp
    refine ⟨hl,⟨by omega,by omega,by omega,fun b hb=>by
      obtain ⟨i,k,g1,g2,rfl⟩:=XC.1 (Qb1 hp b hb)
      simp only
      omega⟩,fun hf=>?_⟩
    have hpw:=QjM hgn hp hf
    refine ⟨fun b hb=>Ub hgn (ok.gn b (List.mem_cons_of_mem _ hb)) hp hpw, ?_,by omega,hcb⟩
    rw [List.length_append,VO];omega
  have hPl:(alL (qV cs) a.sexes.length).length≤1000:=by
    rw [UC]
    have h1:(qV cs).length ^ a.sexes.length≤9 ^ a.sexes.length:=Nat.pow_le_pow_left hb9 _
    have h2:9 ^ a.sexes.length≤9 ^ 3:=Nat.pow_le_pow_right (by decide) sx2
    omega
  rw [Qe5 hgn]
  obtain ⟨BS,hBS⟩:∃ l,qV cs=l:=⟨_,rfl⟩
  rw [hBS] at hmem hPl hb9 ⊢
  obtain ⟨P,hPe⟩:∃ P,alL BS a.sexes.length=P:=⟨_,rfl⟩
  rw [hPe] at hmem hPl ⊢
  have hPm:P.length≤maxLen:=by omega
  obtain ⟨xs,hxs⟩:∃ xs,(a :: r).reverse.map qO=xs:=⟨_,rfl⟩
  have hxe:xs=r.reverse.map qO++[qO a]:=by rw [← hxs,List.reverse_cons,List.map_append];rfl
  have hg0:xs.getD r.length [.v (.int .i64 0),.v (.int .i64 0),.v (.int .i64 0),.sl [],.v (.bool false)]=qO a:=by
    rw [hxe,List.getD_eq_getElem?_getD,List.getElem?_append_right (by simp)]
    simp
  have hxr:zI 5 xs=True:=by rw [← hxs];exact wZ _
  have hxl:xs.length=r.length+1:=by rw [hxe];simp
  have htk:xs.take r.length=r.reverse.map qO:=by rw [hxe,List.take_append_of_le_length (by simp),List.take_of_length_le (by simp)]
  have d9:decide ((((r.length+1):Nat):Int)=0)=false:=decide_eq_false (by omega)
  have w0:IntKind.wrap .i64 (((r.length+1:Nat):Int) - 1)=(r.length:Int):=by rw [wrap64 (by omega) (by omega)];omega
  have z0:((r.length:Int)).toNat=r.length:=rfl
  have z1:r.length < r.length+1:=by omega
  have z2:(0:Int)≤(r.length:Int):=by omega
  have z3:(r.length:Int)≤((r.length+1:Nat):Int):=by omega
  rw [hxs]
  repeat' (first|(apply nx;with_reducible constructor)|refine uq (by decide) ?_|((first|refine vx env fun Q hQ=>?_|refine vz fun Q hQ=>?_);simp only [vkt,seval,jN,QJ,ql,qc,xL,qp,qz,qE,qP,qW,qQ,ze,qx,eTk,mTk,qd,qO,qa,qb,qw,qj,ZW,yX,J5,yZ,Zi,xS,Yd,List.length_map,List.length_cons,d9,w0,z0,z1,z2,z3,hg0,hxr,hxl,ea,c1,hcb,hb3,hb9,hBS,ax0,ax1,ax3,axm,hPe];(try simp only [ite_and]);(repeat' (first|with_reducible assumption|refine And.intro ?_ ?_|intro hp));all_goals (first|(refine hQ _ ?_;clear hQ Q)|(refine hQ _ (fun h=>?_) (fun h=>?_) <;> clear hQ Q <;> (try simp only [vki,reduceCtorEq] at h))|(refine vq ?_;kernel_rfl)|omega|assumption|with_reducible rfl|skip)))
  refine qU (fun i:{ i:Nat // i≤P.length∧∀ j,j < i→(jW ⟨cs,s,sold⟩ a (P.getD j []) && vK cs s r (sold++jK a (P.getD j []) (P.getD j []).length))=false }=>ZW ⟨cs,s,sold⟩ a xs P i.1) (fun i=>P.length - i.1) ⟨0,Nat.zero_le _,fun j h=>absurd h (Nat.not_lt_zero _)⟩ ?_ fun ⟨i,hi,hno⟩=>?_
  · simp only [ZW]
    (refine Le.ok some [] ?_;constructor;all_goals (try simp only [vle,vkt,seval,jN,QJ,ql,qc,xL,qp,qz,qE,qP,qW,qQ,ze,qx,eTk,mTk,qd,qO,qa,qb,qw,qj,ZW,yX,J5,yZ,Zi,xS,Yd,List.length_map,List.length_cons]))
    all_goals first|rfl|(simp;done)
  simp only at hi hno ⊢
  simp only [ZW]
  by_cases hil:i < P.length
  · have d1:decide ((i:Int) < (P.length:Int))=true:=decide_eq_true (by omega)
    have e9:IntKind.wrap .i64 ((i:Int)+1)=((i+1:Nat):Int):=by rw [wrap64 (by omega) (by omega)];rfl
    have i0:((i:Int)).toNat=i:=rfl
    have hg:=UZ hil
    obtain ⟨hpl,hnear,hal⟩:=hmem _ (vL (d:=[]) hil)
    have hhere:=Qhf (p:=fun p=>jW ⟨cs,s,sold⟩ a p && vK cs s r (sold++jK a p p.length)) (d:=[]) hil
    obtain ⟨p,hp⟩:∃ p,P.getD i []=p:=⟨_,rfl⟩
    rw [hp] at hg hpl hal hhere hnear
    have p0:p.length≤20:=by omega
    have p1:p.length≤100:=by omega
    have p2:p.length≤maxLen:=by omega
    have p3:a.sexes.length=p.length:=hpl.symm
    have p4:(jK a p p.length).length≤1000:=by rw [VO];omega
    obtain ⟨T,hT⟩:∃ T,sold++jK a p p.length=T:=⟨_,rfl⟩
    rw [hT] at hal
    have next:(jW ⟨cs,s,sold⟩ a p && vK cs s r T)=false→∀ S,Le S (ZW ⟨cs,s,sold⟩ a xs P (i+1))→∃ y:{ i:Nat // i≤P.length∧∀ j,j < i→(jW ⟨cs,s,sold⟩ a (P.getD j []) && vK cs s r (sold++jK a (P.getD j []) (P.getD j []).length))=false },P.length - y.1 < P.length - i∧Le S (ZW ⟨cs,s,sold⟩ a xs P y.1):=fun hq S hle=>⟨⟨i+1,hil,fun j hj=>by
      rcases Nat.lt_or_eq_of_le (Nat.le_of_lt_succ hj) with h|h
      · exact hno j h
      · rw [h,hp,hT];exact hq⟩,by show P.length - (i+1) < P.length - i;omega,hle⟩
    cases f:jW ⟨cs,s,sold⟩ a p with
    |false =>
      have hn:=next (by rw [f];rfl)
      repeat' (first|(apply nx;with_reducible constructor)|refine uq (by decide) ?_|((first|refine vx env fun Q hQ=>?_|refine vz fun Q hQ=>?_);simp only [vkt,seval,jN,QJ,ql,qc,xL,qp,qz,qE,qP,qW,qQ,ze,qx,eTk,mTk,qd,qO,qa,qb,qw,qj,ZW,yX,J5,yZ,Zi,xS,Yd,List.length_map,List.length_cons,d1,e9,i0,hil,hg,hp,p0,p2,p3,hnear,hs50,hs1k,ea,f,axm];(try simp only [ite_and]);(repeat' (first|with_reducible assumption|refine And.intro ?_ ?_|intro hp));all_goals (first|(refine hQ _ ?_;clear hQ Q)|(refine hQ _ (fun h=>?_) (fun h=>?_) <;> clear hQ Q <;> (try simp only [vki,reduceCtorEq] at h))|(refine vq ?_;kernel_rfl)|omega|assumption|with_reducible rfl|skip)))
      refine hn _ ?_
      simp only [ZW]
      (refine Le.ok some [] ?_;constructor;all_goals (try simp only [vle,vkt,seval,jN,QJ,ql,qc,xL,qp,qz,qE,qP,qW,qQ,ze,qx,eTk,mTk,qd,qO,qa,qb,qw,qj,ZW,yX,J5,yZ,Zi,xS,Yd,List.length_map,List.length_cons]))
      all_goals first|rfl|(simp;done)
    |true =>
      have hal:=hal f
      cases q:vK cs s r T with
      |true =>
        rw [hhere (by show (jW ⟨cs,s,sold⟩ a p && vK cs s r (sold++jK a p p.length))=true;rw [hT,f,q];rfl)]
        repeat' (first|(apply nx;with_reducible constructor)|refine uq (by decide) ?_|((first|refine vx env fun Q hQ=>?_|refine vz fun Q hQ=>?_);simp only [vkt,seval,jN,QJ,ql,qc,xL,qp,qz,qE,qP,qW,qQ,ze,qx,eTk,mTk,qd,qO,qa,qb,qw,qj,ZW,yX,J5,yZ,Zi,xS,Yd,List.length_map,List.length_cons,d1,i0,hil,hg,hp,p0,p1,p2,p3,p4,hnear,hs50,hs1k,ea,f,axm,hT,hal,q,c1,c2,w0,z0,z1,z2,z3,hxr,hxl,htk];(try simp only [ite_and]);(repeat' (first|with_reducible assumption|refine And.intro ?_ ?_|intro hp));all_goals (first|(refine hQ _ ?_;clear hQ Q)|(refine hQ _ (fun h=>?_) (fun h=>?_) <;> clear hQ Q <;> (try simp only [vki,reduceCtorEq] at h))|(refine vq ?_;kernel_rfl)|omega|assumption|with_reducible rfl|skip)))
        (simp only [vrt,Try.results52,vkt,seval,jN,QJ,ql,qc,xL,qp,qz,qE,qP,qW,qQ,ze,qx,eTk,mTk,qd,qO,qa,qb,qw,qj,ZW,yX,J5,yZ,Zi,xS,Yd,List.length_map,List.length_cons];refine Fin.val rfl ?_;(try simp only [AV.le,AV.leL]))
        all_goals first|rfl|(simp;done)
      |false =>
        have hn:=next (by rw [f,q];rfl)
        repeat' (first|(apply nx;with_reducible constructor)|refine uq (by decide) ?_|((first|refine vx env fun Q hQ=>?_|refine vz fun Q hQ=>?_);simp only [vkt,seval,jN,QJ,ql,qc,xL,qp,qz,qE,qP,qW,qQ,ze,qx,eTk,mTk,qd,qO,qa,qb,qw,qj,ZW,yX,J5,yZ,Zi,xS,Yd,List.length_map,List.length_cons,d1,e9,i0,hil,hg,hp,p0,p1,p2,p3,p4,hnear,hs50,hs1k,ea,f,axm,hT,hal,q,c1,c2,w0,z0,z1,z2,z3,hxr,hxl,htk];(try simp only [ite_and]);(repeat' (first|with_reducible assumption|refine And.intro ?_ ?_|intro hp));all_goals (first|(refine hQ _ ?_;clear hQ Q)|(refine hQ _ (fun h=>?_) (fun h=>?_) <;> clear hQ Q <;> (try simp only [vki,reduceCtorEq] at h))|(refine vq ?_;kernel_rfl)|omega|assumption|with_reducible rfl|skip)))
        refine hn _ ?_
        simp only [ZW]
        (refine Le.ok some [] ?_;constructor;all_goals (try simp only [vle,vkt,seval,jN,QJ,ql,qc,xL,qp,qz,qE,qP,qW,qQ,ze,qx,eTk,mTk,qd,qO,qa,qb,qw,qj,ZW,yX,J5,yZ,Zi,xS,Yd,List.length_map,List.length_cons]))
        all_goals first|rfl|(simp;done)
  · have d1:decide ((i:Int) < (P.length:Int))=false:=decide_eq_false (by omega)
    obtain rfl:i=P.length:=by omega
    rw [QaC (p:=fun p=>jW ⟨cs,s,sold⟩ a p && vK cs s r (sold++jK a p p.length)) hno]
    repeat' (first|(apply nx;with_reducible constructor)|refine uq (by decide) ?_|((first|refine vx env fun Q hQ=>?_|refine vz fun Q hQ=>?_);simp only [vkt,seval,jN,QJ,ql,qc,xL,qp,qz,qE,qP,qW,qQ,ze,qx,eTk,mTk,qd,qO,qa,qb,qw,qj,ZW,yX,J5,yZ,Zi,xS,Yd,List.length_map,List.length_cons,d1];(try simp only [ite_and]);(repeat' (first|with_reducible assumption|refine And.intro ?_ ?_|intro hp));all_goals (first|(refine hQ _ ?_;clear hQ Q)|(refine hQ _ (fun h=>?_) (fun h=>?_) <;> clear hQ Q <;> (try simp only [vki,reduceCtorEq] at h))|(refine vq ?_;kernel_rfl)|omega|assumption|with_reducible rfl|skip)))
    (simp only [vrt,Try.results52,vkt,seval,jN,QJ,ql,qc,xL,qp,qz,qE,qP,qW,qQ,ze,qx,eTk,mTk,qd,qO,qa,qb,qw,qj,ZW,yX,J5,yZ,Zi,xS,Yd,List.length_map,List.length_cons];refine Fin.val rfl ?_;(try simp only [AV.le,AV.leL]))
    all_goals first|rfl|(simp;done)
theorem K4 (cs:List Cabin) (s:Int):∀ q,QaJ cs s q
  |[]=>QdU cs s
  |a :: r=>Qb5 cs s a r (K4 cs s r)
end Go.Sym.B
namespace Go.Sym.B
open Go Go.Sym Go.Proofs Go.Sym.C
theorem QjF {c:Chart} {L:List Ask} (h:YF c L=0):wB c=0∧L.length≤4∧∀ a ∈ L,xh c a=0:=by
  unfold YF at h
  split at h
  · exact absurd h ‹_›
  rename_i h1
  split at h
  · exact absurd h ‹_›
  rename_i h2
  split at h
  · exact absurd h ‹_›
  rename_i h3
  have h2:=Decidable.not_not.1 h2
  refine ⟨Decidable.not_not.1 h1, ?_,fun a ha=>Zx (Decidable.not_not.1 h3) _ (List.mem_map.2 ⟨a,ha,rfl⟩)⟩
  unfold zD at h2
  split at h2
  · exact absurd h2 (by decide)
  · split at h2
    · exact absurd h2 (by decide)
    · omega
theorem Qea {c:Chart} {L:List Ask} (h4:L.length≤4) {m:Nat} (hm:m≤L.length):(Qt L.length m [] 0).findSome? (Vz fun b=>tkB c.cabins c.secs L b c.sold)=(y7 L.length m 0).findSome? fun l=>if vK c.cabins c.secs (vk L l) c.sold then some l else none:=by
  rw [XE,Qfw]
  refine Ls fun l hl=>?_
  rw [List.nil_append]
  show (if tkB c.cabins c.secs L (QB l) c.sold then some l else none)=_
  rw [QdZ c.cabins c.secs L c.sold h4 m hm l hl]
  rfl
end Go.Sym.B
namespace Go.Sym.B
open Go Go.Sym Go.Proofs Go.Sym.C
end Go.Sym.B
namespace Go.Sym.B
open Go Go.Sym Go.Proofs Go.Sym.C
def renA (A:Ask) (P:Int):Ask:=⟨P,A.frm,A.to,A.sexes,A.dog⟩
noncomputable def akR (secs:Int):Nat→Int→Int→List Ask × Int
  |0,x,_=>([],x)
  |i+1,x,p=>if 0 < p then (renA (aoA x secs (min 2 p)) (50+((i+1:Nat):Int)) :: (akR secs i (aoX x secs (min 2 p)) (p - ((aoA x secs (min 2 p)).sexes.length:Int))).1,(akR secs i (aoX x secs (min 2 p)) (p - ((aoA x secs (min 2 p)).sexes.length:Int))).2) else ([],x)
theorem QjC {x secs n:Int} (hn:1≤n∧n≤3):((aoA x secs n).sexes.length:Int)≤n∧1≤(aoA x secs n).sexes.length:=by
  have h1:=(RI (upS (Yv x secs) (n - 1)) (1+upV (Yv x secs) (n - 1)).toNat).1
  have h2:=up2 (Yv x secs) (m:=n - 1) (by omega) (by omega)
  show ((sxK (upS (Yv x secs) (n - 1)) (1+upV (Yv x secs) (n - 1)).toNat).1.length:Int)≤n∧1≤(sxK (upS (Yv x secs) (n - 1)) (1+upV (Yv x secs) (n - 1)).toNat).1.length
  omega
theorem QjE (secs:Int):∀ (i:Nat) (x p:Int),(akR secs i x p).1.length≤i∧∀ a ∈ (akR secs i x p).1,a.sexes.length≤2
  |0,x,p=>⟨Nat.le_refl 0,by simp [akR]⟩
  |i+1,x,p=>by
    rw [akR]
    split
    · rename_i hp
      obtain ⟨h1,h2⟩:=QjE secs i (aoX x secs (min 2 p)) (p - ((aoA x secs (min 2 p)).sexes.length:Int))
      refine ⟨by simp only [List.length_cons];omega,fun a ha=>?_⟩
      simp only at ha
      rcases List.mem_cons.1 ha with rfl|ha
      · have:=(QjC (x:=x) (secs:=secs) (n:=min 2 p) (by omega)).1
        show (aoA x secs (min 2 p)).sexes.length≤2
        omega
      · exact h2 a ha
    · exact ⟨Nat.zero_le _,by simp⟩
def YI (c:Chart) (y p:Int) (i:Nat) (M:List Ask):St:={ t:=asg [(0,.ptr 0 0),(3,aI p),(5,.ptr 1 0),(9,.row 2),(10,aI i)],h:=qg [(0,.cells [.v (.int .u64 y)]),(1,.cells (qb c)),(2,.row 31 5 (M.map qO))],n:=3,m:=1 }
def jo:=vj @ty3 (vj @Qf (vj @vg (vj @kX (vj @UH (vj @ti3.eq_1 (vj @kC.eq_1 (vj @yI.eq_1 (vj @xB.eq_1 @VH.eq_1))))))))
def Qo:=vj @aI.eq_1 (vj @aB.eq_1 (vj @qA.eq_1 (vj @zC.eq_1 (@kW))))
end Go.Sym.B
