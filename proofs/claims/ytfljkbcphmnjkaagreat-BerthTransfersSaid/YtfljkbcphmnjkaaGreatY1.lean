/- Walks and what they compute, joined: part 1. -/
import Derived.Test.YtfljkbcphmnjkaaGreatYB3
set_option linter.all false
namespace Go.Sym.B
open Go Go.Sym Go.Proofs Go.Sym.C
theorem _root_.Go.Sym.vj {a b:Prop} (x:a) (y:b):a∧b:=⟨x,y⟩
def _root_.Go.Sym.uq:=@Vx
def _root_.Go.Sym.ux:=@Yh
def _root_.Go.Sym.uz:=@XG
def _root_.Go.Sym.uj:=@V8
def _root_.Go.Sym.uk:=@RU
def _root_.Go.Sym.uw:=@Ux
def _root_.Go.Sym.uv:=@R5
def _root_.Go.Sym.vq:=@QaG
def _root_.Go.Sym.vx:=@Qdw
def _root_.Go.Sym.vz:=@QgY
def QR (a:Ask) (l:List Bunk) (k:Nat):List Tk:=(List.range k).map fun i=>Qd a i (l.getD i default)
theorem Lm (a:Ask) (l:List Bunk) (k:Nat):QR a l (k+1)=QR a l k++[Qd a k (l.getD k default)]:=by
 unfold QR
 rw [List.range_succ,List.map_append];rfl
theorem Qde (a:Ask) (l:List Bunk) (k:Nat):(QR a l k).length=k:=by simp [QR]
theorem Qif {cs:List Cabin} (h2:∀ x ∈ cs,1≤x.beds∧x.beds≤3):(qV cs).length≤3 * cs.length:=by
 rw [Rh]
 induction cs with
 |nil=>simp [ZM]
 |cons x l ih =>
  have h3:=ih fun y hy=>h2 y (List.mem_cons_of_mem _ hy)
  have h4:=h2 x (List.mem_cons_self ..)
  simp only [ZM,List.map_cons,List.sum_cons,List.length_cons] at h3 ⊢
  omega
theorem Qdd {cs:List Cabin} (h1:cs.length≤3) (h2:∀ x ∈ cs,1≤x.beds∧x.beds≤3):(qV cs).length≤9:=by
 have:=Qif h2
 omega
theorem WT {t:Tk} {l:List Tk}:wh t l=0 ↔ ∀ x ∈ l,xq t x=false∧QC x t=true:=by
 unfold wh
 constructor
 ·intro h x hx
  split at h
  ·exact absurd h (by decide)
  rename_i h1
  split at h
  ·exact absurd h (by decide)
  rename_i h2
  refine ⟨?_, ?_⟩
  ·cases hq:xq t x with
   |false=>rfl
   |true=>exact absurd (List.any_eq_true.2 ⟨x,hx,hq⟩) h1
  ·cases hq:QC x t with
   |true=>rfl
   |false=>exact absurd (List.any_eq_true.2 ⟨x,hx,by rw [hq];rfl⟩) h2
 ·intro h
  rw [if_neg,if_neg]
  ·rw [List.any_eq_true]
   rintro ⟨x,hx,h1⟩
   rw [(h x hx).2] at h1
   exact absurd h1 (by decide)
  ·rw [List.any_eq_true]
   rintro ⟨x,hx,h1⟩
   rw [(h x hx).1] at h1
   exact absurd h1 (by decide)
structure RmInv (C:Chart) (a:Ask) (i:Nat) (c:Chart):Prop where
 chk:zu c=0
 cabs:c.cabins=C.cabins
 secs:c.secs=C.secs
 len:c.sold.length=C.sold.length+i
 lt:∀ t ∈ c.sold,t.party < 60+(i:Int)
def bkF (i k:Nat):List Bunk:=(List.range k).map fun (m:Nat)=>⟨(i:Int),(m:Int)⟩
def bkP (cs:List Cabin) (i:Nat):List Bunk:=(List.range i).flatMap fun i=>bkF i (cs.getD i default).beds.toNat
theorem Qfl (i k:Nat):bkF i (k+1)=bkF i k++[⟨(i:Int),(k:Int)⟩]:=by
 unfold bkF
 rw [List.range_succ,List.map_append];rfl
theorem QcT (i k:Nat):(bkF i k).length=k:=by simp [bkF]
theorem Qan (cs:List Cabin) (i:Nat):bkP cs (i+1)=bkP cs i++bkF i (cs.getD i default).beds.toNat:=by
 unfold bkP
 rw [List.range_succ,List.flatMap_append]
 simp
theorem QdI {cs:List Cabin} (hb:∀ x ∈ cs,x.beds≤3):∀ i,i≤cs.length→(bkP cs i).length≤3 * i
 |0,_=>by simp [bkP]
 |i+1,h=>by
  have h1:=QdI hb i (by omega)
  have h2:=hb _ (yB (d:=default) (show i < cs.length by omega))
  rw [Qan,List.length_append,QcT]
  omega
def bkS (c:Chart) (T:List (Nat × AV)) (l:List Bunk):St:={ t:=asg (T++[(1,.ptr 0 0),(3,.row 1)]),h:=qj [(0,.cells (qb c)),(1,.row 62 2 (l.map qo))],n:=2 }
def jB:=vj @ty3 (vj @W9 (vj @yc (vj @WQ (vj @xJ (vj @Jz (vj @ti3.eq_1 (vj @ZT.eq_1 (vj @jM.eq_1 (vj @ZO.eq_1 (vj @vZ.eq_1 @Z4.eq_1))))))))))
def Qt:=vj @aI.eq_1 (@aB.eq_1)
theorem Qd4 (c:Chart) (hc:c.cabins.length≤3) (hb:∀ x ∈ c.cabins,x.beds≤3):FnV Tryz.prog 70 [qa c] (qc (qV c.cabins)):=by
 have env:Env (fun _=>True) Tryz.prog tyB (tab []):=qL trivial
 refine Fn.of (A:=fun _=>True) (n0:=0) (D:=noD) (Fn0 Tryz.func70 rfl (fun vs w=>by kernel_rfl) (by kernel_rfl)) (by simp) (by simp [AV.ids,AV.idsL,qa,qb]) (fun i o h=>by cases h) (fun _ _ _ _=>trivial) qF ?_
 have hmx:(100000:Nat)≤maxLen:=by decide
 rw [show qV c.cabins=bkP c.cabins c.cabins.length from rfl]
 repeat' (first|(apply nx;with_reducible constructor)|refine uq (by decide) ?_|((first|refine vx env fun Q hQ=>?_|refine vz fun Q hQ=>?_);simp only [vkt,seval,jB,Qt,qf,qc,qo,qD,qO,qh,qC,qM,qd,mTk,qa,qb,bkS,List.length_map];(try simp only [ite_and]);(repeat' (first|with_reducible assumption|refine And.intro ?_ ?_|intro hp));all_goals (first|(refine hQ _ ?_;clear hQ Q)|(refine hQ _ (fun h=>?_) (fun h=>?_) <;> clear hQ Q <;> (try simp only [vki,reduceCtorEq] at h))|(refine vq ?_;kernel_rfl)|omega|assumption|with_reducible rfl|skip)))
 refine qN (fun i:{ i:Nat // i≤c.cabins.length }=>bkS c [(4,aI i.1)] (bkP c.cabins i.1)) (fun i=>c.cabins.length - i.1) ⟨0,Nat.zero_le _⟩ ?_ fun ⟨i,hi⟩=>?_
 ·simp only [bkS,show bkP c.cabins 0=[] from rfl,List.cons_append,List.nil_append]
  (refine Le.ok (fun i=>if i=1 then none else some i) [] ?_;constructor;all_goals (try simp only [vle,vkt,seval,jB,Qt,qf,qc,qo,qD,qO,qh,qC,qM,qd,mTk,qa,qb,bkS,List.length_map]))
  all_goals first|rfl|(simp;done)
 simp only at hi ⊢
 have hL:=QdI hb i hi
 have hS:=Qan c.cabins i
 obtain ⟨L,hLe⟩:∃ L,bkP c.cabins i=L:=⟨_,rfl⟩
 rw [hLe] at hL hS
 rw [hLe]
 by_cases hil:i < c.cabins.length
 ·have d1:decide ((i:Int) < (c.cabins.length:Int))=true:=decide_eq_true (by omega)
  have e9:IntKind.wrap .i64 ((i:Int)+1)=((i+1:Nat):Int):=by rw [wrap64 (by omega) (by omega)];rfl
  have i0:((i:Int)).toNat=i:=rfl
  obtain ⟨x,hx⟩:∃ x,c.cabins.getD i default=x:=⟨_,rfl⟩
  have hxb:=hb x (by rw [← hx];exact yB hil)
  rw [hx] at hS
  simp only [bkS,List.cons_append,List.nil_append]
  repeat' (first|(apply nx;with_reducible constructor)|refine uq (by decide) ?_|((first|refine vx env fun Q hQ=>?_|refine vz fun Q hQ=>?_);simp only [vkt,seval,jB,Qt,qf,qc,qo,qD,qO,qh,qC,qM,qd,mTk,qa,qb,bkS,List.length_map,d1,i0];(try simp only [ite_and]);(repeat' (first|with_reducible assumption|refine And.intro ?_ ?_|intro hp));all_goals (first|(refine hQ _ ?_;clear hQ Q)|(refine hQ _ (fun h=>?_) (fun h=>?_) <;> clear hQ Q <;> (try simp only [vki,reduceCtorEq] at h))|(refine vq ?_;kernel_rfl)|omega|assumption|with_reducible rfl|skip)))
  refine qN (fun k:{ k:Nat // k≤x.beds.toNat }=>bkS c [(4,aI i),(5,aI k.1)] (L++bkF i k.1)) (fun k=>x.beds.toNat - k.1) ⟨0,Nat.zero_le _⟩ ?_ fun ⟨k,hk⟩=>?_
  ·simp only [bkS,show bkF i 0=[] from rfl,List.append_nil,List.cons_append,List.nil_append]
   (refine Le.ok some [] ?_;constructor;all_goals (try simp only [vle,vkt,seval,jB,Qt,qf,qc,qo,qD,qO,qh,qC,qM,qd,mTk,qa,qb,bkS,List.length_map]))
   all_goals first|rfl|(simp;done)
  simp only at hk ⊢
  have hF:=Qfl i k
  have hFl:(L++bkF i k).length≤100:=by rw [List.length_append,QcT];omega
  obtain ⟨M,hM⟩:∃ M,L++bkF i k=M:=⟨_,rfl⟩
  have hMS:L++bkF i (k+1)=M++[⟨(i:Int),(k:Int)⟩]:=by rw [hF,← List.append_assoc,hM]
  rw [hM] at hFl
  simp only [bkS,hM,List.cons_append,List.nil_append]
  by_cases hkl:k < x.beds.toNat
  ·have d2:decide ((k:Int) < x.beds)=true:=decide_eq_true (by omega)
   have e8:IntKind.wrap .i64 ((k:Int)+1)=((k+1:Nat):Int):=by rw [wrap64 (by omega) (by omega)];rfl
   have hm:M.length+1≤maxLen:=by omega
   repeat' (first|(apply nx;with_reducible constructor)|refine uq (by decide) ?_|((first|refine vx env fun Q hQ=>?_|refine vz fun Q hQ=>?_);simp only [vkt,seval,jB,Qt,qf,qc,qo,qD,qO,qh,qC,qM,qd,mTk,qa,qb,bkS,List.length_map,i0,hil,hx,d2,e8,hm];(try simp only [ite_and]);(repeat' (first|with_reducible assumption|refine And.intro ?_ ?_|intro hp));all_goals (first|(refine hQ _ ?_;clear hQ Q)|(refine hQ _ (fun h=>?_) (fun h=>?_) <;> clear hQ Q <;> (try simp only [vki,reduceCtorEq] at h))|(refine vq ?_;kernel_rfl)|omega|assumption|with_reducible rfl|skip)))
   refine ⟨⟨k+1,hkl⟩,by show x.beds.toNat - (k+1) < x.beds.toNat - k;omega, ?_⟩
   simp only [bkS,hMS,List.cons_append,List.nil_append]
   (refine Le.ok (fun i=>if i=1 then some 3 else some i) [] ?_;constructor;all_goals (try simp only [vle,vkt,seval,jB,Qt,qf,qc,qo,qD,qO,qh,qC,qM,qd,mTk,qa,qb,bkS,List.length_map]))
   all_goals first|rfl|(rw [List.map_append];rfl)|(simp;done)|(intro i hi;rw [if_neg (by omega)];done)
  ·have d2:decide ((k:Int) < x.beds)=false:=decide_eq_false (by omega)
   obtain rfl:k=x.beds.toNat:=by omega
   repeat' (first|(apply nx;with_reducible constructor)|refine uq (by decide) ?_|((first|refine vx env fun Q hQ=>?_|refine vz fun Q hQ=>?_);simp only [vkt,seval,jB,Qt,qf,qc,qo,qD,qO,qh,qC,qM,qd,mTk,qa,qb,bkS,List.length_map,i0,hil,hx,d2,e9];(try simp only [ite_and]);(repeat' (first|with_reducible assumption|refine And.intro ?_ ?_|intro hp));all_goals (first|(refine hQ _ ?_;clear hQ Q)|(refine hQ _ (fun h=>?_) (fun h=>?_) <;> clear hQ Q <;> (try simp only [vki,reduceCtorEq] at h))|(refine vq ?_;kernel_rfl)|omega|assumption|with_reducible rfl|skip)))
   refine ⟨⟨i+1,hil⟩,by show c.cabins.length - (i+1) < c.cabins.length - i;omega, ?_⟩
   simp only [bkS,hS,hM,List.cons_append,List.nil_append]
   (refine Le.ok some [] ?_;constructor;all_goals (try simp only [vle,vkt,seval,jB,Qt,qf,qc,qo,qD,qO,qh,qC,qM,qd,mTk,qa,qb,bkS,List.length_map]))
   all_goals first|rfl|(simp;done)
 ·have d1:decide ((i:Int) < (c.cabins.length:Int))=false:=decide_eq_false (by omega)
  obtain rfl:i=c.cabins.length:=by omega
  rw [hLe]
  simp only [bkS,List.cons_append,List.nil_append]
  repeat' (first|(apply nx;with_reducible constructor)|refine uq (by decide) ?_|((first|refine vx env fun Q hQ=>?_|refine vz fun Q hQ=>?_);simp only [vkt,seval,jB,Qt,qf,qc,qo,qD,qO,qh,qC,qM,qd,mTk,qa,qb,bkS,List.length_map,d1];(try simp only [ite_and]);(repeat' (first|with_reducible assumption|refine And.intro ?_ ?_|intro hp));all_goals (first|(refine hQ _ ?_;clear hQ Q)|(refine hQ _ (fun h=>?_) (fun h=>?_) <;> clear hQ Q <;> (try simp only [vki,reduceCtorEq] at h))|(refine vq ?_;kernel_rfl)|omega|assumption|with_reducible rfl|skip)))
  (simp only [vrt,Tryz.results70,vkt,seval,jB,Qt,qf,qc,qo,qD,qO,qh,qC,qM,qd,mTk,qa,qb,bkS,List.length_map];refine Fin.val rfl ?_;(try simp only [AV.le,AV.leL]))
  all_goals first|rfl|(simp;done)|exact ⟨_,_,rfl⟩
def zx:List AV→Prop × AV
 |[.agg [.sl c0,.v (.int .i64 c1),.sl c2]]=>(c0=(c0.map qw).map qh∧c2=(c2.map dTk).map eTk∧((⟨(c0.map qw),c1,(c2.map dTk)⟩:Chart)).cabins.length≤3∧∀ x ∈ ((⟨(c0.map qw),c1,(c2.map dTk)⟩:Chart)).cabins,x.beds≤3,qc (qV ((⟨(c0.map qw),c1,(c2.map dTk)⟩:Chart)).cabins))
 |_=>(False,.junk)
theorem QcW {A:Frm→Prop}:qE A Tryz.prog 70 (qX false zx):=qW fun vs hv h=>by
 clear hv
 unfold zx at h ⊢
 split at h
 ·rename_i c0 c1 c2;obtain ⟨q0,q1,k0,k1⟩:=h
  refine ⟨by first|trivial|(simp [AV.plain,AV.plainL,aI,aB,qz,qc,ql,qf,aTk,cTk];done)|(repeat' split) <;> simp [AV.plain,AV.plainL,aI,aB,qz,qc,ql,qf,aTk,cTk],fun h=>absurd h (by decide), ?_⟩
  have:=Qd4 ((⟨(c0.map qw),c1,(c2.map dTk)⟩:Chart)) k0 k1
  simp only [qY,qa,aI,ql,qb,← q0,← q1] at this
  first|exact this|(simp only [qY,qa,aI,ql,qb,← q0,← q1];exact this)
 ·exact h.elim
def alL (bs:List Bunk):Nat→List (List Bunk)
 |0=>[[]]
 |m+1=>bs.flatMap fun b=>(alL bs m).map (b :: ·)
theorem VX (bs:List Bunk):∀ m,(alL bs m).length=bs.length ^ m
 |0=>rfl
 |m+1=>by
  rw [alL,List.length_flatMap]
  simp only [List.length_map,VX bs m]
  rw [List.map_const',List.sum_replicate_nat,Nat.pow_succ,Nat.mul_comm]
theorem ZC {bs:List Bunk}:∀ {m},∀ p ∈ alL bs m,p.length=m
 |0,p,hp=>by rw [List.mem_singleton.1 hp];rfl
 |m+1,p,hp=>by
  obtain ⟨b,_,hp⟩:=List.mem_flatMap.1 hp
  obtain ⟨q,hq,rfl⟩:=List.mem_map.1 hp
  rw [List.length_cons,ZC q hq]
def alP (bs:List Bunk) (R:List (List Bunk)) (i:Nat):List (List Bunk):=(bs.take i).flatMap fun b=>R.map (b :: ·)
theorem Qhu {bs:List Bunk} (R:List (List Bunk)) {i:Nat} (h:i < bs.length):alP bs R (i+1)=alP bs R i++R.map ((bs.getD i default) :: ·):=by
 unfold alP
 rw [List.take_succ_eq_append_getElem h,List.flatMap_append,List.getD_eq_getElem?_getD,List.getElem?_eq_getElem h]
 simp
theorem QhS (bs:List Bunk) (R:List (List Bunk)) (i:Nat):(alP bs R i).length≤i * R.length:=by
 unfold alP
 rw [List.length_flatMap]
 simp only [List.length_map]
 rw [List.map_const',List.sum_replicate_nat]
 exact Nat.mul_le_mul_right _ (by rw [List.length_take];omega)
def QfO (m:Nat):Prop:=∀ bs:List Bunk,bs.length≤9→m≤3→Fn noB Tryz.prog 69 [qc bs,aI m] noH (.row 0) (qj [(0,.row 44 1 ((alL bs m).map qA))]) 0
def pAl (m:Nat) (_:St):List AV→Option Pk
 |[.sl bs,.v (.int .i64 n)]=>some { pre:=bs=(bs.map zz).map qo∧n=m∧bs.length≤9∧m≤3,ar:=[.sl bs,.v (.int .i64 n)],v:=.row 0,L1:=[some (.row 44 1 ((alL (bs.map zz) m).map qA))] }
 |_=>none
theorem eAl {A:Frm→Prop} {m:Nat} (ih:QfO m):qE A Tryz.prog 69 (fnE (pAl m)):=zY fun S bs q h hp=>by
 unfold pAl at h
 split at h
 ·rename_i bs n
  cases h
  obtain ⟨h1,rfl,h3,h4⟩:=hp
  have:=ih (bs.map zz) (by rw [List.length_map];exact h3) h4
  rw [qc,← h1] at this
  exact this
 ·cases h
def alS (bs:List Bunk) (R M:List (List Bunk)) (T:List (Nat × AV)):St:={ t:=asg (T++[(0,qc bs),(5,.row 1),(6,.row 0)]),h:=qj [(0,.row 44 1 (R.map qA)),(1,.row 44 1 (M.map qA))],n:=2 }
def zZ:=vj @ty3 (vj @QbK (vj @WQ (vj @xJ (vj @ti3.eq_1 (vj @Kt.eq_1 (vj @ZO.eq_1 @vZ.eq_1))))))
def vU:=vj @aI.eq_1 (@aB.eq_1)
theorem QhV:QfO 0:=by
 intro bs _ _
 have env:Env (fun _=>True) Tryz.prog tyB (tab []):=qL trivial
 refine Fn.of (A:=fun _=>True) (n0:=0) (D:=noD) (Fn0 Tryz.func69 rfl (fun vs w=>by kernel_rfl) (by kernel_rfl)) (by simp) (by simp [AV.ids,AV.idsL,qc,aI]) (fun i o h=>by cases h) (fun _ _ _ _=>trivial) qF ?_
 show Sym _ _ _ (zV [qc bs,aI 0] 0 noH) (xM tyB noD Tryz.f69 fun S rv=>Fin S rv (.row 0) 0 (qj [(0,.row 44 1 [qA []])]) 0)
 repeat' (first|(apply nx;with_reducible constructor)|refine uq (by decide) ?_|((first|refine vx env fun Q hQ=>?_|refine vz fun Q hQ=>?_);simp only [vkt,seval,zZ,vU,qf,qc,qo,qA,qD,qH,qO,qG,qM,pAl,alS,List.length_map,decide_true];(try simp only [ite_and]);(repeat' (first|with_reducible assumption|refine And.intro ?_ ?_|intro hp));all_goals (first|(refine hQ _ ?_;clear hQ Q)|(refine hQ _ (fun h=>?_) (fun h=>?_) <;> clear hQ Q <;> (try simp only [vki,reduceCtorEq] at h))|(refine vq ?_;kernel_rfl)|omega|assumption|with_reducible rfl|skip)))
 (simp only [vrt,Tryz.results69,vkt,seval,zZ,vU,qf,qc,qo,qA,qD,qH,qO,qG,qM,pAl,alS,List.length_map];refine Fin.ok some [] ?_ ?_ ?_ ?_ ?_ rfl;all_goals (try simp only [vle,vkt,seval,zZ,vU,qf,qc,qo,qA,qD,qH,qO,qG,qM,pAl,alS,List.length_map]))
 all_goals first|rfl|(simp;done)
theorem QhT (m:Nat) (ih:QfO m):QfO (m+1):=by
 intro bs hbs hm3
 have env:Env (fun _=>True) Tryz.prog tyB (tab [(69,fnE (pAl m))]):=qL ⟨eAl ih,trivial⟩
 refine Fn.of (A:=fun _=>True) (n0:=0) (D:=noD) (Fn0 Tryz.func69 rfl (fun vs w=>by kernel_rfl) (by kernel_rfl)) (by simp) (by simp [AV.ids,AV.idsL,qc,aI]) (fun i o h=>by cases h) (fun _ _ _ _=>trivial) qF ?_
 have hmx:(100000:Nat)≤maxLen:=by decide
 obtain ⟨R,hR⟩:∃ R,alL bs m=R:=⟨_,rfl⟩
 have hRl:R.length≤1000:=by
  rw [← hR,VX]
  have h1:bs.length ^ m≤9 ^ m:=Nat.pow_le_pow_left hbs m
  have h2:9 ^ m≤9 ^ 3:=Nat.pow_le_pow_right (by decide) (by omega)
  omega
 have hR1:∀ p ∈ R,p.length≤3:=fun p hp=>by
  rw [← hR] at hp
  have:=ZC p hp
  omega
 have hF:alL bs (m+1)=alP bs R bs.length:=by unfold alP;rw [List.take_length,← hR];rfl
 rw [hF]
 have d0:decide (((m+1:Nat):Int)=0)=false:=decide_eq_false (by omega)
 have w0:IntKind.wrap .i64 (((m+1:Nat):Int) - 1)=(m:Int):=by rw [wrap64 (by omega) (by omega)];omega
 have hm3':m≤3:=by omega
 repeat' (first|(apply nx;with_reducible constructor)|refine uq (by decide) ?_|((first|refine vx env fun Q hQ=>?_|refine vz fun Q hQ=>?_);simp only [vkt,seval,zZ,vU,qf,qc,qo,qA,qD,qH,qO,qG,qM,pAl,alS,List.length_map,d0,w0,hbs,hm3',hR];(try simp only [ite_and]);(repeat' (first|with_reducible assumption|refine And.intro ?_ ?_|intro hp));all_goals (first|(refine hQ _ ?_;clear hQ Q)|(refine hQ _ (fun h=>?_) (fun h=>?_) <;> clear hQ Q <;> (try simp only [vki,reduceCtorEq] at h))|(refine vq ?_;kernel_rfl)|omega|assumption|with_reducible rfl|skip)))
 refine qN (fun i:{ i:Nat // i≤bs.length }=>alS bs R (alP bs R i.1) [(7,aI i.1)]) (fun i=>bs.length - i.1) ⟨0,Nat.zero_le _⟩ ?_ fun ⟨i,hi⟩=>?_
 ·simp only [alS,show alP bs R 0=[] from rfl,List.cons_append,List.nil_append]
  (refine Le.ok (fun i=>if i=1 then none else some i) [] ?_;constructor;all_goals (try simp only [vle,vkt,seval,zZ,vU,qf,qc,qo,qA,qD,qH,qO,qG,qM,pAl,alS,List.length_map]))
  all_goals first|rfl|(simp;done)
 simp only at hi ⊢
 have hL:=QhS bs R i
 have hL2:i * R.length≤9 * 1000:=Nat.mul_le_mul (by omega) hRl
 obtain ⟨L,hLe⟩:∃ L,alP bs R i=L:=⟨_,rfl⟩
 rw [hLe] at hL
 rw [hLe]
 by_cases hil:i < bs.length
 ·have d1:decide ((i:Int) < (bs.length:Int))=true:=decide_eq_true (by omega)
  have e9:IntKind.wrap .i64 ((i:Int)+1)=((i+1:Nat):Int):=by rw [wrap64 (by omega) (by omega)];rfl
  have i0:((i:Int)).toNat=i:=rfl
  obtain ⟨b,hbe⟩:∃ b,bs.getD i default=b:=⟨_,rfl⟩
  have hS:=Qhu R hil
  rw [hLe,hbe] at hS
  simp only [alS,List.cons_append,List.nil_append]
  repeat' (first|(apply nx;with_reducible constructor)|refine uq (by decide) ?_|((first|refine vx env fun Q hQ=>?_|refine vz fun Q hQ=>?_);simp only [vkt,seval,zZ,vU,qf,qc,qo,qA,qD,qH,qO,qG,qM,pAl,alS,List.length_map,d1,i0];(try simp only [ite_and]);(repeat' (first|with_reducible assumption|refine And.intro ?_ ?_|intro hp));all_goals (first|(refine hQ _ ?_;clear hQ Q)|(refine hQ _ (fun h=>?_) (fun h=>?_) <;> clear hQ Q <;> (try simp only [vki,reduceCtorEq] at h))|(refine vq ?_;kernel_rfl)|omega|assumption|with_reducible rfl|skip)))
  refine qN (fun k:{ k:Nat // k≤R.length }=>alS bs R (L++(R.take k.1).map (b :: ·)) [(7,aI i),(8,aI k.1)]) (fun k=>R.length - k.1) ⟨0,Nat.zero_le _⟩ ?_ fun ⟨k,hk⟩=>?_
  ·simp only [alS,List.take_zero,List.map_nil,List.append_nil,List.cons_append,List.nil_append]
   (refine Le.ok some [] ?_;constructor;all_goals (try simp only [vle,vkt,seval,zZ,vU,qf,qc,qo,qA,qD,qH,qO,qG,qM,pAl,alS,List.length_map]))
   all_goals first|rfl|(simp;done)
  simp only at hk ⊢
  obtain ⟨M,hM⟩:∃ M,L++(R.take k).map (b :: ·)=M:=⟨_,rfl⟩
  have hMl:M.length≤10000:=by rw [← hM,List.length_append,List.length_map,List.length_take];omega
  simp only [alS,hM,List.cons_append,List.nil_append]
  by_cases hkl:k < R.length
  ·have d2:decide ((k:Int) < (R.length:Int))=true:=decide_eq_true (by omega)
   have e8:IntKind.wrap .i64 ((k:Int)+1)=((k+1:Nat):Int):=by rw [wrap64 (by omega) (by omega)];rfl
   have k0:((k:Int)).toNat=k:=rfl
   have hm:M.length+1≤maxLen:=by omega
   obtain ⟨p,hp⟩:∃ p,R.getD k []=p:=⟨_,rfl⟩
   have hg:=V7 hkl
   rw [hp] at hg
   have hpl:=hR1 p (by rw [← hp];exact yB hkl)
   have hpm:1+p.length≤maxLen:=by omega
   have hMS:L++(R.take (k+1)).map (b :: ·)=M++[b :: p]:=by
    rw [List.take_succ_eq_append_getElem hkl,List.map_append,← List.append_assoc,hM,← hp]
    simp [List.getD_eq_getElem?_getD,hkl]
   repeat' (first|(apply nx;with_reducible constructor)|refine uq (by decide) ?_|((first|refine vx env fun Q hQ=>?_|refine vz fun Q hQ=>?_);simp only [vkt,seval,zZ,vU,qf,qc,qo,qA,qD,qH,qO,qG,qM,pAl,alS,List.length_map,i0,k0,hil,hkl,hbe,hp,hg,d2,e8,hm,hpm];(try simp only [ite_and]);(repeat' (first|with_reducible assumption|refine And.intro ?_ ?_|intro hp));all_goals (first|(refine hQ _ ?_;clear hQ Q)|(refine hQ _ (fun h=>?_) (fun h=>?_) <;> clear hQ Q <;> (try simp only [vki,reduceCtorEq] at h))|(refine vq ?_;kernel_rfl)|omega|assumption|with_reducible rfl|skip)))
   refine ⟨⟨k+1,hkl⟩,by show R.length - (k+1) < R.length - k;omega, ?_⟩
   simp only [alS,hMS,List.cons_append,List.nil_append]
   (refine Le.ok (fun i=>if i=1 then some 5 else some i) [] ?_;constructor;all_goals (try simp only [vle,vkt,seval,zZ,vU,qf,qc,qo,qA,qD,qH,qO,qG,qM,pAl,alS,List.length_map]))
   all_goals first|rfl|(rw [List.map_append];rfl)|(simp;done)|(intro i hi;rw [if_neg (by omega)];done)
  ·have d2:decide ((k:Int) < (R.length:Int))=false:=decide_eq_false (by omega)
   obtain rfl:k=R.length:=by omega
   rw [List.take_length] at hM
   repeat' (first|(apply nx;with_reducible constructor)|refine uq (by decide) ?_|((first|refine vx env fun Q hQ=>?_|refine vz fun Q hQ=>?_);simp only [vkt,seval,zZ,vU,qf,qc,qo,qA,qD,qH,qO,qG,qM,pAl,alS,List.length_map,d2,e9];(try simp only [ite_and]);(repeat' (first|with_reducible assumption|refine And.intro ?_ ?_|intro hp));all_goals (first|(refine hQ _ ?_;clear hQ Q)|(refine hQ _ (fun h=>?_) (fun h=>?_) <;> clear hQ Q <;> (try simp only [vki,reduceCtorEq] at h))|(refine vq ?_;kernel_rfl)|omega|assumption|with_reducible rfl|skip)))
   refine ⟨⟨i+1,hil⟩,by show bs.length - (i+1) < bs.length - i;omega, ?_⟩
   simp only [alS,hS,hM,List.cons_append,List.nil_append]
   (refine Le.ok some [] ?_;constructor;all_goals (try simp only [vle,vkt,seval,zZ,vU,qf,qc,qo,qA,qD,qH,qO,qG,qM,pAl,alS,List.length_map]))
   all_goals first|rfl|(simp;done)
 ·have d1:decide ((i:Int) < (bs.length:Int))=false:=decide_eq_false (by omega)
  obtain rfl:i=bs.length:=by omega
  rw [hLe]
  simp only [alS,List.cons_append,List.nil_append]
  repeat' (first|(apply nx;with_reducible constructor)|refine uq (by decide) ?_|((first|refine vx env fun Q hQ=>?_|refine vz fun Q hQ=>?_);simp only [vkt,seval,zZ,vU,qf,qc,qo,qA,qD,qH,qO,qG,qM,pAl,alS,List.length_map,d1];(try simp only [ite_and]);(repeat' (first|with_reducible assumption|refine And.intro ?_ ?_|intro hp));all_goals (first|(refine hQ _ ?_;clear hQ Q)|(refine hQ _ (fun h=>?_) (fun h=>?_) <;> clear hQ Q <;> (try simp only [vki,reduceCtorEq] at h))|(refine vq ?_;kernel_rfl)|omega|assumption|with_reducible rfl|skip)))
  (simp only [vrt,Tryz.results69,vkt,seval,zZ,vU,qf,qc,qo,qA,qD,qH,qO,qG,qM,pAl,alS,List.length_map];refine Fin.ok (fun j=>[1][j]?) [] ?_ ?_ ?_ ?_ ?_ rfl;all_goals (try simp only [vle,vkt,seval,zZ,vU,qf,qc,qo,qA,qD,qH,qO,qG,qM,pAl,alS,List.length_map]))
  all_goals first|rfl|(simp;done)
theorem Qbi:∀ m,QfO m
 |0=>QhV
 |m+1=>QhT m (Qbi m)
def QZ:=vj @ty3 (vj @W9 (vj @yc (vj @xJ (vj @Jz (vj @ti3.eq_1 (vj @ZT.eq_1 (vj @jM.eq_1 (vj @vZ.eq_1 @Z4.eq_1))))))))
def VZ:=vj @aI.eq_1 (@aB.eq_1)
theorem Qe7 (c:Chart) (b:Bunk) (hc:CarOk c):FnV Tryz.prog 133 [qa c,qf b] (aB (jN c.cabins b.cab b.bed)):=by
 have env:Env (fun _=>True) Tryz.prog tyB (tab [(83,qX true zm)]):=qL ⟨QdJ,trivial⟩
 refine Fn.of (A:=fun _=>True) (n0:=0) (D:=noD) (Fn0 Tryz.func133 rfl (fun vs w=>by kernel_rfl) (by kernel_rfl)) (by simp) (by simp [AV.ids,AV.idsL,qa,qb,qf]) (fun i o h=>by cases h) (fun _ _ _ _=>trivial) qF ?_
 have hcl:=hc.cabs
 have w1:IntKind.wrap .i64 ((c.cabins.length:Int) - 1)=(c.cabins.length:Int) - 1:=wrap64 (by omega) (by omega)
 have hE:jN c.cabins b.cab b.bed=(inB b.cab 0 ((c.cabins.length:Int) - 1) && inB b.bed 0 ((c.cabins.getD b.cab.toNat default).beds - 1)):=rfl
 cases h3:inB b.cab 0 ((c.cabins.length:Int) - 1) with
 |false =>
  rw [hE,h3]
  repeat' (first|(apply nx;with_reducible constructor)|refine uq (by decide) ?_|((first|refine vx env fun Q hQ=>?_|refine vz fun Q hQ=>?_);simp only [vkt,seval,QZ,VZ,qf,qo,qa,qb,qh,qC,qd,zm,List.length_map,h3,w1];(try simp only [ite_and]);(repeat' (first|with_reducible assumption|refine And.intro ?_ ?_|intro hp));all_goals (first|(refine hQ _ ?_;clear hQ Q)|(refine hQ _ (fun h=>?_) (fun h=>?_) <;> clear hQ Q <;> (try simp only [vki,reduceCtorEq] at h))|(refine vq ?_;kernel_rfl)|omega|assumption|with_reducible rfl|skip)))
  (simp only [vrt,Tryz.results133,vkt,seval,QZ,VZ,qf,qo,qa,qb,qh,qC,qd,zm,List.length_map];refine Fin.val rfl ?_;(try simp only [AV.le,AV.leL]))
  all_goals first|rfl|(simp;done)
 |true =>
  have b3:=wL.1 h3
  have g1:0≤b.cab:=b3.1
  have g2:b.cab.toNat < c.cabins.length:=by omega
  obtain ⟨x,hx⟩:∃ x,c.cabins.getD b.cab.toNat default=x:=⟨_,rfl⟩
  have hxb:=hc.beds _ (yB (d:=default) g2)
  rw [hx] at hxb
  have w2:IntKind.wrap .i64 (x.beds - 1)=x.beds - 1:=wrap64 (by omega) (by omega)
  rw [hE,h3,hx,Bool.true_and]
  repeat' (first|(apply nx;with_reducible constructor)|refine uq (by decide) ?_|((first|refine vx env fun Q hQ=>?_|refine vz fun Q hQ=>?_);simp only [vkt,seval,QZ,VZ,qf,qo,qa,qb,qh,qC,qd,zm,List.length_map,h3,w1,w2,hx,g1,g2];(try simp only [ite_and]);(repeat' (first|with_reducible assumption|refine And.intro ?_ ?_|intro hp));all_goals (first|(refine hQ _ ?_;clear hQ Q)|(refine hQ _ (fun h=>?_) (fun h=>?_) <;> clear hQ Q <;> (try simp only [vki,reduceCtorEq] at h))|(refine vq ?_;kernel_rfl)|omega|assumption|with_reducible rfl|skip)))
  (simp only [vrt,Tryz.results133,vkt,seval,QZ,VZ,qf,qo,qa,qb,qh,qC,qd,zm,List.length_map];refine Fin.val rfl ?_;(try simp only [AV.le,AV.leL]))
  all_goals first|rfl|(simp;done)
def zo:List AV→Prop × AV
 |[.agg [.sl c0,.v (.int .i64 c1),.sl c2],.agg [.v (.int .i64 b0),.v (.int .i64 b1)]]=>(c0=(c0.map qw).map qh∧c2=(c2.map dTk).map eTk∧CarOk ((⟨(c0.map qw),c1,(c2.map dTk)⟩:Chart)),aB (jN ((⟨(c0.map qw),c1,(c2.map dTk)⟩:Chart)).cabins ((⟨b0,b1⟩:Bunk)).cab ((⟨b0,b1⟩:Bunk)).bed))
 |_=>(False,.junk)
theorem QcL {A:Frm→Prop}:qE A Tryz.prog 133 (qX true zo):=qW fun vs hv h=>by
 clear hv
 unfold zo at h ⊢
 split at h
 ·rename_i c0 c1 c2 b0 b1;obtain ⟨q0,q1,k0⟩:=h
  refine ⟨by first|trivial|(simp [AV.plain,AV.plainL,aI,aB,qz,qc,ql,qf,aTk,cTk];done)|(repeat' split) <;> simp [AV.plain,AV.plainL,aI,aB,qz,qc,ql,qf,aTk,cTk],fun _=>(by simp [AV.flat,AV.flatL,aI,aB]), ?_⟩
  have:=Qe7 ((⟨(c0.map qw),c1,(c2.map dTk)⟩:Chart)) ((⟨b0,b1⟩:Bunk)) k0
  simp only [qf,qY,qa,aI,ql,qb,← q0,← q1] at this
  first|exact this|(simp only [qf,qY,qa,aI,ql,qb,← q0,← q1];exact this)
 ·exact h.elim
def rnS (c:Chart) (l:List Bunk) (k:Nat) (lo hi:Int):St:={ t:=asg [(1,qc l),(2,.ptr 0 0),(4,aB false),(5,aI lo),(6,aI hi),(7,aI k)],h:=qj [(0,.cells (qb c))],n:=1 }
def yh:=vj @ty3 (vj @ty4 (vj @W9 (vj @yc (vj @WQ (vj @xJ (vj @Jz (vj @ti3.eq_1 (vj @ti4.eq_1 (vj @ZT.eq_1 (vj @jM.eq_1 (vj @ZO.eq_1 (vj @vZ.eq_1 @Z4.eq_1))))))))))))
def Qy:=vj @aI.eq_1 (@aB.eq_1)
theorem Qhz (c:Chart) (l:List Bunk) (ok:NearOk c.cabins l):FnV Tryz.prog 134 [qa c,qc l] (aB (Zl c.cabins l)):=by
 have env:Env (fun _=>True) Tryz.prog tyB (tab []):=qL trivial
 refine Fn.of (A:=fun _=>True) (n0:=0) (D:=noD) (Fn0 Tryz.func134 rfl (fun vs w=>by kernel_rfl) (by kernel_rfl)) (by simp) (by simp [AV.ids,AV.idsL,qa,qb,qc]) (fun i o h=>by cases h) (fun _ _ _ _=>trivial) qF ?_
 have hne:=ok.ne
 have hll:=ok.len
 have hcl:=ok.cabs
 have hbd:=Ro ok
 obtain ⟨x0,hx0⟩:∃ x,l.getD 0 default=x:=⟨_,rfl⟩
 have l0:loK l 0=x0.cab:=by rw [← hx0];rfl
 have h0:hiK l 0=x0.cab:=by rw [← hx0];rfl
 rw [Qdn]
 repeat' (first|(apply nx;with_reducible constructor)|refine uq (by decide) ?_|((first|refine vx env fun Q hQ=>?_|refine vz fun Q hQ=>?_);simp only [vkt,seval,yh,Qy,qf,qc,qo,qD,qh,qC,qa,qb,rnS,List.length_map,hx0,hne];(try simp only [ite_and]);(repeat' (first|with_reducible assumption|refine And.intro ?_ ?_|intro hp));all_goals (first|(refine hQ _ ?_;clear hQ Q)|(refine hQ _ (fun h=>?_) (fun h=>?_) <;> clear hQ Q <;> (try simp only [vki,reduceCtorEq] at h))|(refine vq ?_;kernel_rfl)|omega|assumption|with_reducible rfl|skip)))
 refine qN (fun k:{ k:Nat // k≤l.length }=>rnS c l k.1 (loK l k.1) (hiK l k.1)) (fun k=>l.length - k.1) ⟨0,Nat.zero_le _⟩ ?_ fun ⟨k,hk⟩=>?_
 ·simp only [l0,h0]
  (refine Le.ok some [] ?_;constructor;all_goals (try simp only [vle,vkt,seval,yh,Qy,qf,qc,qo,qD,qh,qC,qa,qb,rnS,List.length_map]))
  all_goals first|rfl|(simp;done)
 simp only at hk ⊢
 by_cases hlt:k < l.length
 ·have d1:decide ((k:Int) < (l.length:Int))=true:=decide_eq_true (by omega)
  have e9:IntKind.wrap .i64 ((k:Int)+1)=((k+1:Nat):Int):=by rw [wrap64 (by omega) (by omega)];rfl
  have k0:((k:Int)).toNat=k:=rfl
  obtain ⟨x,hx⟩:∃ x,l.getD k default=x:=⟨_,rfl⟩
  have hl1:=XY hlt
  have hh1:=X5 hlt
  rw [hx] at hl1 hh1
  repeat' (first|(apply nx;with_reducible constructor)|refine uq (by decide) ?_|((first|refine vx env fun Q hQ=>?_|refine vz fun Q hQ=>?_);simp only [vkt,seval,yh,Qy,qf,qc,qo,qD,qh,qC,qa,qb,rnS,List.length_map,d1,k0,hx,hlt,e9];(try simp only [ite_and]);(repeat' (first|with_reducible assumption|refine And.intro ?_ ?_|intro hp));all_goals (first|(refine hQ _ ?_;clear hQ Q)|(refine hQ _ (fun h=>?_) (fun h=>?_) <;> clear hQ Q <;> (try simp only [vki,reduceCtorEq] at h))|(refine vq ?_;kernel_rfl)|omega|assumption|with_reducible rfl|skip)))
  refine ⟨⟨k+1,hlt⟩,by show l.length - (k+1) < l.length - k;omega, ?_⟩
  simp only [hl1,hh1]
  (refine Le.ok some [] ?_;constructor;all_goals (try simp only [vle,vkt,seval,yh,Qy,qf,qc,qo,qD,qh,qC,qa,qb,rnS,List.length_map]))
  all_goals first|rfl|(simp;done)
 ·have d0:decide ((k:Int) < (l.length:Int))=false:=decide_eq_false (by omega)
  have hke:k=l.length:=by omega
  subst hke
  obtain ⟨g1,g2,g3,g4⟩:=hbd l.length (Nat.le_refl _)
  obtain ⟨lo,hlo⟩:∃ x,loK l l.length=x:=⟨_,rfl⟩
  obtain ⟨hi,hhi⟩:∃ x,hiK l l.length=x:=⟨_,rfl⟩
  rw [hlo] at g1 g2
  rw [hhi] at g3 g4
  obtain ⟨x,hx⟩:∃ x,c.cabins.getD lo.toNat default=x:=⟨_,rfl⟩
  have w1:IntKind.wrap .i64 (lo+1)=lo+1:=wrap64 (by omega) (by omega)
  simp only [hlo,hhi]
  by_cases c1:lo=hi
  ·rw [show (decide (lo=hi) || (decide (lo+1=hi) && (c.cabins.getD lo.toNat default).door))=true by simp [c1]]
   have d1:decide (lo=hi)=true:=decide_eq_true c1
   have d1':(lo == hi)=true:=by simpa using c1
   repeat' (first|(apply nx;with_reducible constructor)|refine uq (by decide) ?_|((first|refine vx env fun Q hQ=>?_|refine vz fun Q hQ=>?_);simp only [vkt,seval,yh,Qy,qf,qc,qo,qD,qh,qC,qa,qb,rnS,List.length_map,d0,d1,d1',w1,hx,g1,g2];(try simp only [ite_and]);(repeat' (first|with_reducible assumption|refine And.intro ?_ ?_|intro hp));all_goals (first|(refine hQ _ ?_;clear hQ Q)|(refine hQ _ (fun h=>?_) (fun h=>?_) <;> clear hQ Q <;> (try simp only [vki,reduceCtorEq] at h))|(refine vq ?_;kernel_rfl)|omega|assumption|with_reducible rfl|skip)))
   (simp only [vrt,Tryz.results134,vkt,seval,yh,Qy,qf,qc,qo,qD,qh,qC,qa,qb,rnS,List.length_map];refine Fin.val rfl ?_;(try simp only [AV.le,AV.leL]))
   all_goals first|rfl|(simp;done)
  ·have d1:decide (lo=hi)=false:=decide_eq_false c1
   have d1':(lo == hi)=false:=by simpa using c1
   by_cases c2:lo+1=hi
   ·rw [show (decide (lo=hi) || (decide (lo+1=hi) && (c.cabins.getD lo.toNat default).door))=x.door by rw [d1,hx,decide_eq_true c2];simp]
    have d2:decide (hi=lo+1)=true:=decide_eq_true c2.symm
    repeat' (first|(apply nx;with_reducible constructor)|refine uq (by decide) ?_|((first|refine vx env fun Q hQ=>?_|refine vz fun Q hQ=>?_);simp only [vkt,seval,yh,Qy,qf,qc,qo,qD,qh,qC,qa,qb,rnS,List.length_map,d0,d1,d1',d2,w1,hx,g1,g2];(try simp only [ite_and]);(repeat' (first|with_reducible assumption|refine And.intro ?_ ?_|intro hp));all_goals (first|(refine hQ _ ?_;clear hQ Q)|(refine hQ _ (fun h=>?_) (fun h=>?_) <;> clear hQ Q <;> (try simp only [vki,reduceCtorEq] at h))|(refine vq ?_;kernel_rfl)|omega|assumption|with_reducible rfl|skip)))
    (simp only [vrt,Tryz.results134,vkt,seval,yh,Qy,qf,qc,qo,qD,qh,qC,qa,qb,rnS,List.length_map];refine Fin.val rfl ?_;(try simp only [AV.le,AV.leL]))
    all_goals first|rfl|(simp;done)
   ·rw [show (decide (lo=hi) || (decide (lo+1=hi) && (c.cabins.getD lo.toNat default).door))=false by rw [d1,decide_eq_false c2];simp]
    have d2:decide (hi=lo+1)=false:=decide_eq_false fun h=>c2 h.symm
    repeat' (first|(apply nx;with_reducible constructor)|refine uq (by decide) ?_|((first|refine vx env fun Q hQ=>?_|refine vz fun Q hQ=>?_);simp only [vkt,seval,yh,Qy,qf,qc,qo,qD,qh,qC,qa,qb,rnS,List.length_map,d0,d1,d1',d2,w1,hx,g1,g2];(try simp only [ite_and]);(repeat' (first|with_reducible assumption|refine And.intro ?_ ?_|intro hp));all_goals (first|(refine hQ _ ?_;clear hQ Q)|(refine hQ _ (fun h=>?_) (fun h=>?_) <;> clear hQ Q <;> (try simp only [vki,reduceCtorEq] at h))|(refine vq ?_;kernel_rfl)|omega|assumption|with_reducible rfl|skip)))
    (simp only [vrt,Tryz.results134,vkt,seval,yh,Qy,qf,qc,qo,qD,qh,qC,qa,qb,rnS,List.length_map];refine Fin.val rfl ?_;(try simp only [AV.le,AV.leL]))
    all_goals first|rfl|(simp;done)
def ko:List AV→Prop × AV
 |[.agg [.sl c0,.v (.int .i64 c1),.sl c2],.sl l]=>(c0=(c0.map qw).map qh∧c2=(c2.map dTk).map eTk∧l=(l.map zz).map qo∧NearOk ((⟨(c0.map qw),c1,(c2.map dTk)⟩:Chart)).cabins (l.map zz),aB (Zl ((⟨(c0.map qw),c1,(c2.map dTk)⟩:Chart)).cabins (l.map zz)))
 |_=>(False,.junk)
theorem QjR {A:Frm→Prop}:qE A Tryz.prog 134 (qX true ko):=qW fun vs hv h=>by
 clear hv
 unfold ko at h ⊢
 split at h
 ·rename_i c0 c1 c2 l;obtain ⟨q0,q1,q2,k0⟩:=h
  refine ⟨by first|trivial|(simp [AV.plain,AV.plainL,aI,aB,qz,qc,ql,qf,aTk,cTk];done)|(repeat' split) <;> simp [AV.plain,AV.plainL,aI,aB,qz,qc,ql,qf,aTk,cTk],fun _=>(by simp [AV.flat,AV.flatL,aI,aB]), ?_⟩
  have:=Qhz ((⟨(c0.map qw),c1,(c2.map dTk)⟩:Chart)) (l.map zz) k0
  simp only [qc,qY,qa,aI,ql,qb,← q0,← q1,← q2] at this
  first|exact this|(simp only [qc,qY,qa,aI,ql,qb,← q0,← q1,← q2];exact this)
 ·exact h.elim
def rtS (a:Ask) (l:List Bunk) (k:Nat):St:={ t:=asg [(1,qc l),(2,.ptr 0 0),(5,.row 1),(6,aI k)],h:=qj [(0,.cells (qg a)),(1,qp (QR a l k))],n:=2 }
def Qm:=vj @ty3 (vj @ty4 (vj @x9 (vj @Qe (vj @QM (vj @WQ (vj @xJ (vj @yU (vj @ti3.eq_1 (vj @ti4.eq_1 (vj @xD.eq_1 (vj @x8.eq_1 (vj @Qb.eq_1 (vj @ZO.eq_1 (vj @vZ.eq_1 @yA.eq_1))))))))))))))
def JO:=vj @aI.eq_1 (vj @aB.eq_1 (vj @zF.eq_1 (vj @XE (@QT))))
theorem QiY (a:Ask) (l:List Bunk) (hl:l.length≤100) (ha:a.sexes.length=l.length):FnV Tryz.prog 61 [qx a,qc l] (ql (QR a l l.length)):=by
 have env:Env (fun _=>True) Tryz.prog tyB (tab []):=qL trivial
 refine Fn.of (A:=fun _=>True) (n0:=0) (D:=noD) (Fn0 Tryz.func61 rfl (fun vs w=>by kernel_rfl) (by kernel_rfl)) (by simp) (by simp [AV.ids,AV.idsL,qx,qg,qc]) (fun i o h=>by cases h) (fun _ _ _ _=>trivial) qF ?_
 have hmx:(100000:Nat)≤maxLen:=by decide
 repeat' (first|(apply nx;with_reducible constructor)|refine uq (by decide) ?_|((first|refine vx env fun Q hQ=>?_|refine vz fun Q hQ=>?_);simp only [vkt,seval,Qm,JO,qf,qc,qo,qD,aTk,cTk,ql,eTk,rTk,qx,qg,qp,rtS,List.length_map];(try simp only [ite_and]);(repeat' (first|with_reducible assumption|refine And.intro ?_ ?_|intro hp));all_goals (first|(refine hQ _ ?_;clear hQ Q)|(refine hQ _ (fun h=>?_) (fun h=>?_) <;> clear hQ Q <;> (try simp only [vki,reduceCtorEq] at h))|(refine vq ?_;kernel_rfl)|omega|assumption|with_reducible rfl|skip)))
 refine qN (fun k:{ k:Nat // k≤l.length }=>rtS a l k.1) (fun k=>l.length - k.1) ⟨0,Nat.zero_le _⟩ ?_ fun ⟨k,hk⟩=>?_
 ·simp only [rtS,show QR a l 0=[] from rfl]
  (refine Le.ok (fun i=>if i=1 then none else some i) [] ?_;constructor;all_goals (try simp only [vle,vkt,seval,Qm,JO,qf,qc,qo,qD,aTk,cTk,ql,eTk,rTk,qx,qg,qp,rtS,List.length_map]))
  all_goals first|rfl|(simp;done)
 simp only at hk ⊢
 have hS:=Lm a l k
 have hT:=Qde a l k
 obtain ⟨T,hTe⟩:∃ T,QR a l k=T:=⟨_,rfl⟩
 rw [hTe] at hS hT
 simp only [rtS,hTe]
 by_cases hkl:k < l.length
 ·have d1:decide ((k:Int) < (l.length:Int))=true:=decide_eq_true (by omega)
  have d2:decide ((k:Int) < (a.sexes.length:Int))=true:=decide_eq_true (by omega)
  have e9:IntKind.wrap .i64 ((k:Int)+1)=((k+1:Nat):Int):=by rw [wrap64 (by omega) (by omega)];rfl
  have k0:((k:Int)).toNat=k:=rfl
  have hka:k < a.sexes.length:=by omega
  obtain ⟨b,hb⟩:∃ b,l.getD k default=b:=⟨_,rfl⟩
  rw [hb] at hS
  have hm:T.length+1≤maxLen:=by omega
  repeat' (first|(apply nx;with_reducible constructor)|refine uq (by decide) ?_|((first|refine vx env fun Q hQ=>?_|refine vz fun Q hQ=>?_);simp only [vkt,seval,Qm,JO,qf,qc,qo,qD,aTk,cTk,ql,eTk,rTk,qx,qg,qp,rtS,List.length_map,d1,d2,e9,k0,hkl,hka,hb,hm];(try simp only [ite_and]);(repeat' (first|with_reducible assumption|refine And.intro ?_ ?_|intro hp));all_goals (first|(refine hQ _ ?_;clear hQ Q)|(refine hQ _ (fun h=>?_) (fun h=>?_) <;> clear hQ Q <;> (try simp only [vki,reduceCtorEq] at h))|(refine vq ?_;kernel_rfl)|omega|assumption|with_reducible rfl|skip)))
  refine ⟨⟨k+1,hkl⟩,by show l.length - (k+1) < l.length - k;omega, ?_⟩
  simp only [rtS,hS]
  (refine Le.ok (fun i=>if i=1 then some 3 else some i) [] ?_;constructor;all_goals (try simp only [vle,vkt,seval,Qm,JO,qf,qc,qo,qD,aTk,cTk,ql,eTk,rTk,qx,qg,qp,rtS,List.length_map]))
  all_goals first|rfl|(rw [List.map_append];rfl)|(simp;done)|(intro i hi;rw [if_neg (by omega)];done)
 ·have d1:decide ((k:Int) < (l.length:Int))=false:=decide_eq_false (by omega)
  obtain rfl:k=l.length:=by omega
  rw [hTe]
  repeat' (first|(apply nx;with_reducible constructor)|refine uq (by decide) ?_|((first|refine vx env fun Q hQ=>?_|refine vz fun Q hQ=>?_);simp only [vkt,seval,Qm,JO,qf,qc,qo,qD,aTk,cTk,ql,eTk,rTk,qx,qg,qp,rtS,List.length_map,d1];(try simp only [ite_and]);(repeat' (first|with_reducible assumption|refine And.intro ?_ ?_|intro hp));all_goals (first|(refine hQ _ ?_;clear hQ Q)|(refine hQ _ (fun h=>?_) (fun h=>?_) <;> clear hQ Q <;> (try simp only [vki,reduceCtorEq] at h))|(refine vq ?_;kernel_rfl)|omega|assumption|with_reducible rfl|skip)))
  (simp only [vrt,Tryz.results61,vkt,seval,Qm,JO,qf,qc,qo,qD,aTk,cTk,ql,eTk,rTk,qx,qg,qp,rtS,List.length_map];refine Fin.val rfl ?_;(try simp only [AV.le,AV.leL]))
  all_goals first|rfl|(simp;done)|exact ⟨_,_,rfl⟩
def Zg:List AV→Prop × AV
 |[.agg [.v (.int .i64 a0),.v (.int .i64 a1),.v (.int .i64 a2),.sl a3,.v (.bool a4)],.sl l]=>(a3=(a3.map zb).map zF∧l=(l.map zz).map qo∧(l.map zz).length≤100∧((⟨a0,a1,a2,(a3.map zb),a4⟩:Ask)).sexes.length=(l.map zz).length,ql (QR ((⟨a0,a1,a2,(a3.map zb),a4⟩:Ask)) (l.map zz) (l.map zz).length))
 |_=>(False,.junk)
theorem erTks {A:Frm→Prop}:qE A Tryz.prog 61 (qX false Zg):=qW fun vs hv h=>by
 clear hv
 unfold Zg at h ⊢
 split at h
 ·rename_i a0 a1 a2 a3 a4 l;obtain ⟨q0,q1,k0,k1⟩:=h
  refine ⟨by first|trivial|(simp [AV.plain,AV.plainL,aI,aB,qz,qc,ql,qf,aTk,cTk];done)|(repeat' split) <;> simp [AV.plain,AV.plainL,aI,aB,qz,qc,ql,qf,aTk,cTk],fun h=>absurd h (by decide), ?_⟩
  have:=QiY ((⟨a0,a1,a2,(a3.map zb),a4⟩:Ask)) (l.map zz) k0 k1
  simp only [qx,aB,qc,aI,qz,qg,← q0,← q1] at this
  first|exact this|(simp only [qx,aB,qc,aI,qz,qg,← q0,← q1];exact this)
 ·exact h.elim
theorem Qjz {α:Type} [Inhabited α] {l:List α} {p:α→Bool} (h:∀ j,j < l.length→p (l.getD j default)=false):l.any p=false:=List.any_eq_false.2 fun x hx=>by
 obtain ⟨j,hj,rfl⟩:=List.mem_iff_getElem.1 hx
 have:=h j hj
 rw [show l.getD j default=l[j] by simp [List.getD_eq_getElem?_getD,hj]] at this
 rw [this];simp
theorem Qfx {α:Type} [Inhabited α] {l:List α} {p:α→Bool} {k:Nat} (hk:k < l.length) (h:p (l.getD k default)=true):l.any p=true:=List.any_eq_true.2 ⟨_,yB hk,h⟩
def rsA (c:Chart) (t:Tk) (l:List Tk) (T:List (Nat × AV)):St:={ t:=asg (T++[(2,ql l),(4,.ptr 1 0),(6,aI 0)]),h:=qj [(0,.cells (qb c)),(1,.cells (cTk t))],n:=2 }
def zh:=vj @ty3 (vj @x9 (vj @yc (vj @Zc (vj @xJ (vj @yU (vj @ti3.eq_1 (vj @xD.eq_1 (vj @jM.eq_1 (vj @QA.eq_1 (vj @vZ.eq_1 @yA.eq_1))))))))))
def wZ:=vj @aI.eq_1 (@aB.eq_1)
theorem Qga (c:Chart) (t:Tk) (l:List Tk) (hc:CarOk c) (hl:l.length≤100):FnV Tryz.prog 135 [qa c,aTk t,ql l] (aI (zH c t l)):=by
 have env:Env (fun _=>True) Tryz.prog tyB (tab [(83,qX true zm),(133,qX true zo),(84,qX true zX),(120,qX true wQ),(121,qX true yX)]):=qL ⟨QdJ,QcL,Qja,Qf8,ertog,trivial⟩
 refine Fn.of (A:=fun _=>True) (n0:=0) (D:=noD) (Fn0 Tryz.func135 rfl (fun vs w=>by kernel_rfl) (by kernel_rfl)) (by simp) (by simp [AV.ids,AV.idsL,qa,qb,aTk,cTk,ql]) (fun i o h=>by cases h) (fun _ _ _ _=>trivial) qF ?_
 have et:(⟨t.party,t.sex,t.cab,t.bed,t.frm,t.to,t.dog⟩:Tk)=t:=rfl
 have ec:(⟨c.cabins,c.secs,c.sold⟩:Chart)=c:=rfl
 have eb:(⟨t.cab,t.bed⟩:Bunk)=⟨t.cab,t.bed⟩:=rfl
 have hc':=hc
 cases h1:inB t.party 1 99
 ·rw [show zH c t l=1 by simp [zH,h1]]
  repeat' (first|(apply nx;with_reducible constructor)|refine uq (by decide) ?_|((first|refine vx env fun Q hQ=>?_|refine vz fun Q hQ=>?_);simp only [vkt,seval,zh,wZ,qf,aTk,cTk,ql,eTk,gTk,mTk,qd,qa,qb,rsA,zm,zo,zX,wQ,yX,List.length_map,h1,et,ec];(try simp only [ite_and]);(repeat' (first|with_reducible assumption|refine And.intro ?_ ?_|intro hp));all_goals (first|(refine hQ _ ?_;clear hQ Q)|(refine hQ _ (fun h=>?_) (fun h=>?_) <;> clear hQ Q <;> (try simp only [vki,reduceCtorEq] at h))|(refine vq ?_;kernel_rfl)|omega|assumption|with_reducible rfl|skip)))
  (simp only [vrt,Tryz.results135,vkt,seval,zh,wZ,qf,aTk,cTk,ql,eTk,gTk,mTk,qd,qa,qb,rsA,zm,zo,zX,wQ,yX,List.length_map];refine Fin.val rfl ?_;(try simp only [AV.le,AV.leL]))
  all_goals first|rfl|(simp;done)
 cases h2:inB t.sex 1 2
 ·rw [show zH c t l=8 by simp [zH,h1,h2]]
  repeat' (first|(apply nx;with_reducible constructor)|refine uq (by decide) ?_|((first|refine vx env fun Q hQ=>?_|refine vz fun Q hQ=>?_);simp only [vkt,seval,zh,wZ,qf,aTk,cTk,ql,eTk,gTk,mTk,qd,qa,qb,rsA,zm,zo,zX,wQ,yX,List.length_map,h1,h2,et,ec];(try simp only [ite_and]);(repeat' (first|with_reducible assumption|refine And.intro ?_ ?_|intro hp));all_goals (first|(refine hQ _ ?_;clear hQ Q)|(refine hQ _ (fun h=>?_) (fun h=>?_) <;> clear hQ Q <;> (try simp only [vki,reduceCtorEq] at h))|(refine vq ?_;kernel_rfl)|omega|assumption|with_reducible rfl|skip)))
  (simp only [vrt,Tryz.results135,vkt,seval,zh,wZ,qf,aTk,cTk,ql,eTk,gTk,mTk,qd,qa,qb,rsA,zm,zo,zX,wQ,yX,List.length_map];refine Fin.val rfl ?_;(try simp only [AV.le,AV.leL]))
  all_goals first|rfl|(simp;done)
 cases h3:jN c.cabins t.cab t.bed
 ·rw [show zH c t l=3 by simp [zH,h1,h2,h3]]
  repeat' (first|(apply nx;with_reducible constructor)|refine uq (by decide) ?_|((first|refine vx env fun Q hQ=>?_|refine vz fun Q hQ=>?_);simp only [vkt,seval,zh,wZ,qf,aTk,cTk,ql,eTk,gTk,mTk,qd,qa,qb,rsA,zm,zo,zX,wQ,yX,List.length_map,h1,h2,h3,et,ec];(try simp only [ite_and]);(repeat' (first|with_reducible assumption|refine And.intro ?_ ?_|intro hp));all_goals (first|(refine hQ _ ?_;clear hQ Q)|(refine hQ _ (fun h=>?_) (fun h=>?_) <;> clear hQ Q <;> (try simp only [vki,reduceCtorEq] at h))|(refine vq ?_;kernel_rfl)|omega|assumption|with_reducible rfl|skip)))
  (simp only [vrt,Tryz.results135,vkt,seval,zh,wZ,qf,aTk,cTk,ql,eTk,gTk,mTk,qd,qa,qb,rsA,zm,zo,zX,wQ,yX,List.length_map];refine Fin.val rfl ?_;(try simp only [AV.le,AV.leL]))
  all_goals first|rfl|(simp;done)
 have hr:zH c t l=if QO c.secs t.frm t.to ≠ 0 then QO c.secs t.frm t.to else wh t l:=by unfold zH;simp [h1,h2,h3]
 rw [hr]
 obtain ⟨w,hw⟩:∃ w,QO c.secs t.frm t.to=w:=⟨_,rfl⟩
 rw [hw]
 by_cases h5:w=0
 ·rw [if_neg (fun h=>h h5)]
  rw [h5] at hw
  unfold wh
  repeat' (first|(apply nx;with_reducible constructor)|refine uq (by decide) ?_|((first|refine vx env fun Q hQ=>?_|refine vz fun Q hQ=>?_);simp only [vkt,seval,zh,wZ,qf,aTk,cTk,ql,eTk,gTk,mTk,qd,qa,qb,rsA,zm,zo,zX,wQ,yX,List.length_map,h1,h2,h3,hw,et,ec,decide_true];(try simp only [ite_and]);(repeat' (first|with_reducible assumption|refine And.intro ?_ ?_|intro hp));all_goals (first|(refine hQ _ ?_;clear hQ Q)|(refine hQ _ (fun h=>?_) (fun h=>?_) <;> clear hQ Q <;> (try simp only [vki,reduceCtorEq] at h))|(refine vq ?_;kernel_rfl)|omega|assumption|with_reducible rfl|skip)))
  refine qN (fun k:{ k:Nat // k≤l.length∧∀ j,j < k→xq t (l.getD j default)=false }=>rsA c t l [(8,aI k.1)]) (fun k=>l.length - k.1) ⟨0,Nat.zero_le _,fun j h=>absurd h (Nat.not_lt_zero _)⟩ ?_ fun ⟨k,hk,hno⟩=>?_
  ·simp only [rsA,List.cons_append,List.nil_append]
   (refine Le.ok some [] ?_;constructor;all_goals (try simp only [vle,vkt,seval,zh,wZ,qf,aTk,cTk,ql,eTk,gTk,mTk,qd,qa,qb,rsA,zm,zo,zX,wQ,yX,List.length_map]))
   all_goals first|rfl|(simp;done)
  simp only at hk hno ⊢
  simp only [rsA,List.cons_append,List.nil_append]
  by_cases hkl:k < l.length
  ·have d1:decide ((k:Int) < (l.length:Int))=true:=decide_eq_true (by omega)
   have e9:IntKind.wrap .i64 ((k:Int)+1)=((k+1:Nat):Int):=by rw [wrap64 (by omega) (by omega)];rfl
   have k0:((k:Int)).toNat=k:=rfl
   obtain ⟨x,hx⟩:∃ x,l.getD k default=x:=⟨_,rfl⟩
   have ex:(⟨x.party,x.sex,x.cab,x.bed,x.frm,x.to,x.dog⟩:Tk)=x:=rfl
   have hT:xq t x=(decide (x.cab=t.cab) && decide (x.bed=t.bed) && xH x t):=rfl
   cases q1:(decide (x.cab=t.cab) && decide (x.bed=t.bed)) with
   |false =>
    rw [q1,Bool.false_and] at hT
    repeat' (first|(apply nx;with_reducible constructor)|refine uq (by decide) ?_|((first|refine vx env fun Q hQ=>?_|refine vz fun Q hQ=>?_);simp only [vkt,seval,zh,wZ,qf,aTk,cTk,ql,eTk,gTk,mTk,qd,qa,qb,rsA,zm,zo,zX,wQ,yX,List.length_map,d1,e9,k0,hkl,hx,q1,et,ex];(try simp only [ite_and]);(repeat' (first|with_reducible assumption|refine And.intro ?_ ?_|intro hp));all_goals (first|(refine hQ _ ?_;clear hQ Q)|(refine hQ _ (fun h=>?_) (fun h=>?_) <;> clear hQ Q <;> (try simp only [vki,reduceCtorEq] at h))|(refine vq ?_;kernel_rfl)|omega|assumption|with_reducible rfl|skip)))
    refine ⟨⟨k+1,hkl,fun j hj=>?_⟩,by show l.length - (k+1) < l.length - k;omega, ?_⟩
    ·rcases Nat.lt_or_eq_of_le (Nat.le_of_lt_succ hj) with h|h
     ·exact hno j h
     ·rw [h,hx];exact hT
    simp only [rsA,List.cons_append,List.nil_append]
    (refine Le.ok some [] ?_;constructor;all_goals (try simp only [vle,vkt,seval,zh,wZ,qf,aTk,cTk,ql,eTk,gTk,mTk,qd,qa,qb,rsA,zm,zo,zX,wQ,yX,List.length_map]))
    all_goals first|rfl|(simp;done)
   |true =>
    cases q2:xH x t with
    |false =>
     rw [q1,q2,Bool.true_and] at hT
     repeat' (first|(apply nx;with_reducible constructor)|refine uq (by decide) ?_|((first|refine vx env fun Q hQ=>?_|refine vz fun Q hQ=>?_);simp only [vkt,seval,zh,wZ,qf,aTk,cTk,ql,eTk,gTk,mTk,qd,qa,qb,rsA,zm,zo,zX,wQ,yX,List.length_map,d1,e9,k0,hkl,hx,q1,q2,et,ex];(try simp only [ite_and]);(repeat' (first|with_reducible assumption|refine And.intro ?_ ?_|intro hp));all_goals (first|(refine hQ _ ?_;clear hQ Q)|(refine hQ _ (fun h=>?_) (fun h=>?_) <;> clear hQ Q <;> (try simp only [vki,reduceCtorEq] at h))|(refine vq ?_;kernel_rfl)|omega|assumption|with_reducible rfl|skip)))
     refine ⟨⟨k+1,hkl,fun j hj=>?_⟩,by show l.length - (k+1) < l.length - k;omega, ?_⟩
     ·rcases Nat.lt_or_eq_of_le (Nat.le_of_lt_succ hj) with h|h
      ·exact hno j h
      ·rw [h,hx];exact hT
     simp only [rsA,List.cons_append,List.nil_append]
     (refine Le.ok some [] ?_;constructor;all_goals (try simp only [vle,vkt,seval,zh,wZ,qf,aTk,cTk,ql,eTk,gTk,mTk,qd,qa,qb,rsA,zm,zo,zX,wQ,yX,List.length_map]))
     all_goals first|rfl|(simp;done)
    |true =>
     rw [q1,q2,Bool.true_and] at hT
     rw [if_pos (Qfx hkl (by rw [hx];exact hT))]
     repeat' (first|(apply nx;with_reducible constructor)|refine uq (by decide) ?_|((first|refine vx env fun Q hQ=>?_|refine vz fun Q hQ=>?_);simp only [vkt,seval,zh,wZ,qf,aTk,cTk,ql,eTk,gTk,mTk,qd,qa,qb,rsA,zm,zo,zX,wQ,yX,List.length_map,d1,e9,k0,hkl,hx,q1,q2,et,ex];(try simp only [ite_and]);(repeat' (first|with_reducible assumption|refine And.intro ?_ ?_|intro hp));all_goals (first|(refine hQ _ ?_;clear hQ Q)|(refine hQ _ (fun h=>?_) (fun h=>?_) <;> clear hQ Q <;> (try simp only [vki,reduceCtorEq] at h))|(refine vq ?_;kernel_rfl)|omega|assumption|with_reducible rfl|skip)))
     (simp only [vrt,Tryz.results135,vkt,seval,zh,wZ,qf,aTk,cTk,ql,eTk,gTk,mTk,qd,qa,qb,rsA,zm,zo,zX,wQ,yX,List.length_map];refine Fin.val rfl ?_;(try simp only [AV.le,AV.leL]))
     all_goals first|rfl|(simp;done)
  ·have d1:decide ((k:Int) < (l.length:Int))=false:=decide_eq_false (by omega)
   obtain rfl:k=l.length:=by omega
   rw [if_neg (by rw [Qjz hno];decide)]
   repeat' (first|(apply nx;with_reducible constructor)|refine uq (by decide) ?_|((first|refine vx env fun Q hQ=>?_|refine vz fun Q hQ=>?_);simp only [vkt,seval,zh,wZ,qf,aTk,cTk,ql,eTk,gTk,mTk,qd,qa,qb,rsA,zm,zo,zX,wQ,yX,List.length_map,d1];(try simp only [ite_and]);(repeat' (first|with_reducible assumption|refine And.intro ?_ ?_|intro hp));all_goals (first|(refine hQ _ ?_;clear hQ Q)|(refine hQ _ (fun h=>?_) (fun h=>?_) <;> clear hQ Q <;> (try simp only [vki,reduceCtorEq] at h))|(refine vq ?_;kernel_rfl)|omega|assumption|with_reducible rfl|skip)))
   refine qN (fun k:{ k:Nat // k≤l.length∧∀ j,j < k→(!QC (l.getD j default) t)=false }=>rsA c t l [(9,aI k.1)]) (fun k=>l.length - k.1) ⟨0,Nat.zero_le _,fun j h=>absurd h (Nat.not_lt_zero _)⟩ ?_ fun ⟨k,hk,hno⟩=>?_
   ·simp only [rsA,List.cons_append,List.nil_append]
    (refine Le.ok some [] ?_;constructor;all_goals (try simp only [vle,vkt,seval,zh,wZ,qf,aTk,cTk,ql,eTk,gTk,mTk,qd,qa,qb,rsA,zm,zo,zX,wQ,yX,List.length_map]))
    all_goals first|rfl|(simp;done)
   simp only at hk hno ⊢
   simp only [rsA,List.cons_append,List.nil_append]
   by_cases hkl:k < l.length
   ·have d1:decide ((k:Int) < (l.length:Int))=true:=decide_eq_true (by omega)
    have e9:IntKind.wrap .i64 ((k:Int)+1)=((k+1:Nat):Int):=by rw [wrap64 (by omega) (by omega)];rfl
    have k0:((k:Int)).toNat=k:=rfl
    obtain ⟨x,hx⟩:∃ x,l.getD k default=x:=⟨_,rfl⟩
    have ex:(⟨x.party,x.sex,x.cab,x.bed,x.frm,x.to,x.dog⟩:Tk)=x:=rfl
    cases q2:QC x t with
    |true =>
     repeat' (first|(apply nx;with_reducible constructor)|refine uq (by decide) ?_|((first|refine vx env fun Q hQ=>?_|refine vz fun Q hQ=>?_);simp only [vkt,seval,zh,wZ,qf,aTk,cTk,ql,eTk,gTk,mTk,qd,qa,qb,rsA,zm,zo,zX,wQ,yX,List.length_map,d1,e9,k0,hkl,hx,q2,et,ex];(try simp only [ite_and]);(repeat' (first|with_reducible assumption|refine And.intro ?_ ?_|intro hp));all_goals (first|(refine hQ _ ?_;clear hQ Q)|(refine hQ _ (fun h=>?_) (fun h=>?_) <;> clear hQ Q <;> (try simp only [vki,reduceCtorEq] at h))|(refine vq ?_;kernel_rfl)|omega|assumption|with_reducible rfl|skip)))
     refine ⟨⟨k+1,hkl,fun j hj=>?_⟩,by show l.length - (k+1) < l.length - k;omega, ?_⟩
     ·rcases Nat.lt_or_eq_of_le (Nat.le_of_lt_succ hj) with h|h
      ·exact hno j h
      ·rw [h,hx,q2];rfl
     simp only [rsA,List.cons_append,List.nil_append]
     (refine Le.ok some [] ?_;constructor;all_goals (try simp only [vle,vkt,seval,zh,wZ,qf,aTk,cTk,ql,eTk,gTk,mTk,qd,qa,qb,rsA,zm,zo,zX,wQ,yX,List.length_map]))
     all_goals first|rfl|(simp;done)
    |false =>
     rw [if_pos (Qfx (p:=fun x=>!QC x t) hkl (by rw [hx,q2];rfl))]
     repeat' (first|(apply nx;with_reducible constructor)|refine uq (by decide) ?_|((first|refine vx env fun Q hQ=>?_|refine vz fun Q hQ=>?_);simp only [vkt,seval,zh,wZ,qf,aTk,cTk,ql,eTk,gTk,mTk,qd,qa,qb,rsA,zm,zo,zX,wQ,yX,List.length_map,d1,e9,k0,hkl,hx,q2,et,ex];(try simp only [ite_and]);(repeat' (first|with_reducible assumption|refine And.intro ?_ ?_|intro hp));all_goals (first|(refine hQ _ ?_;clear hQ Q)|(refine hQ _ (fun h=>?_) (fun h=>?_) <;> clear hQ Q <;> (try simp only [vki,reduceCtorEq] at h))|(refine vq ?_;kernel_rfl)|omega|assumption|with_reducible rfl|skip)))
     (simp only [vrt,Tryz.results135,vkt,seval,zh,wZ,qf,aTk,cTk,ql,eTk,gTk,mTk,qd,qa,qb,rsA,zm,zo,zX,wQ,yX,List.length_map];refine Fin.val rfl ?_;(try simp only [AV.le,AV.leL]))
     all_goals first|rfl|(simp;done)
   ·have d1:decide ((k:Int) < (l.length:Int))=false:=decide_eq_false (by omega)
    obtain rfl:k=l.length:=by omega
    rw [if_neg (by rw [Qjz (p:=fun x=>!QC x t) hno];decide)]
    repeat' (first|(apply nx;with_reducible constructor)|refine uq (by decide) ?_|((first|refine vx env fun Q hQ=>?_|refine vz fun Q hQ=>?_);simp only [vkt,seval,zh,wZ,qf,aTk,cTk,ql,eTk,gTk,mTk,qd,qa,qb,rsA,zm,zo,zX,wQ,yX,List.length_map,d1];(try simp only [ite_and]);(repeat' (first|with_reducible assumption|refine And.intro ?_ ?_|intro hp));all_goals (first|(refine hQ _ ?_;clear hQ Q)|(refine hQ _ (fun h=>?_) (fun h=>?_) <;> clear hQ Q <;> (try simp only [vki,reduceCtorEq] at h))|(refine vq ?_;kernel_rfl)|omega|assumption|with_reducible rfl|skip)))
    (simp only [vrt,Tryz.results135,vkt,seval,zh,wZ,qf,aTk,cTk,ql,eTk,gTk,mTk,qd,qa,qb,rsA,zm,zo,zX,wQ,yX,List.length_map];refine Fin.val rfl ?_;(try simp only [AV.le,AV.leL]))
    all_goals first|rfl|(simp;done)
 ·rw [if_pos h5]
  have d5:decide (w=0)=false:=decide_eq_false h5
  repeat' (first|(apply nx;with_reducible constructor)|refine uq (by decide) ?_|((first|refine vx env fun Q hQ=>?_|refine vz fun Q hQ=>?_);simp only [vkt,seval,zh,wZ,qf,aTk,cTk,ql,eTk,gTk,mTk,qd,qa,qb,rsA,zm,zo,zX,wQ,yX,List.length_map,h1,h2,h3,hw,d5,et,ec];(try simp only [ite_and]);(repeat' (first|with_reducible assumption|refine And.intro ?_ ?_|intro hp));all_goals (first|(refine hQ _ ?_;clear hQ Q)|(refine hQ _ (fun h=>?_) (fun h=>?_) <;> clear hQ Q <;> (try simp only [vki,reduceCtorEq] at h))|(refine vq ?_;kernel_rfl)|omega|assumption|with_reducible rfl|skip)))
  (simp only [vrt,Tryz.results135,vkt,seval,zh,wZ,qf,aTk,cTk,ql,eTk,gTk,mTk,qd,qa,qb,rsA,zm,zo,zX,wQ,yX,List.length_map];refine Fin.val rfl ?_;(try simp only [AV.le,AV.leL]))
  all_goals first|rfl|(simp;done)
def Ze:List AV→Prop × AV
 |[.agg [.sl c0,.v (.int .i64 c1),.sl c2],.agg [.v (.int .i64 t0),.v (.int .i64 t1),.v (.int .i64 t2),.v (.int .i64 t3),.v (.int .i64 t4),.v (.int .i64 t5),.v (.bool t6)],.sl l]=>(c0=(c0.map qw).map qh∧c2=(c2.map dTk).map eTk∧l=(l.map dTk).map eTk∧CarOk ((⟨(c0.map qw),c1,(c2.map dTk)⟩:Chart))∧(l.map dTk).length≤100,aI (zH ((⟨(c0.map qw),c1,(c2.map dTk)⟩:Chart)) (⟨t0,t1,t2,t3,t4,t5,t6⟩:Tk) (l.map dTk)))
 |_=>(False,.junk)
theorem QjT {A:Frm→Prop}:qE A Tryz.prog 135 (qX true Ze):=qW fun vs hv h=>by
 clear hv
 unfold Ze at h ⊢
 split at h
 ·rename_i c0 c1 c2 t0 t1 t2 t3 t4 t5 t6 l;obtain ⟨q0,q1,q2,k0,k1⟩:=h
  refine ⟨by first|trivial|(simp [AV.plain,AV.plainL,aI,aB,qz,qc,ql,qf,aTk,cTk];done)|(repeat' split) <;> simp [AV.plain,AV.plainL,aI,aB,qz,qc,ql,qf,aTk,cTk],fun _=>(by simp [AV.flat,AV.flatL,aI,aB]), ?_⟩
  have:=Qga ((⟨(c0.map qw),c1,(c2.map dTk)⟩:Chart)) (⟨t0,t1,t2,t3,t4,t5,t6⟩:Tk) (l.map dTk) k0 k1
  simp only [aB,qY,qa,aI,aTk,ql,qb,cTk,← q0,← q1,← q2] at this
  first|exact this|(simp only [aB,qY,qa,aI,aTk,ql,qb,cTk,← q0,← q1,← q2];exact this)
 ·exact h.elim
def rkS (c:Chart) (l:List Tk) (k:Nat):St:={ t:=asg [(1,ql l),(2,.ptr 0 0),(4,aI 0),(5,aI k)],h:=qj [(0,.cells (qb c))],n:=1 }
def xu:=vj @ty3 (vj @x9 (vj @yc (vj @Zc (vj @yU (vj @ti3.eq_1 (vj @xD.eq_1 (vj @jM.eq_1 (vj @QA.eq_1 @yA.eq_1))))))))
def Zy:=vj @aI.eq_1 (@aB.eq_1)
theorem QiK (c:Chart) (l:List Tk) (hc:CarOk c) (hl:l.length≤100):FnV Tryz.prog 112 [qa c,ql l] (aI (zW c l)):=by
 have env:Env (fun _=>True) Tryz.prog tyB (tab [(135,qX true Ze)]):=qL ⟨QjT,trivial⟩
 refine Fn.of (A:=fun _=>True) (n0:=0) (D:=noD) (Fn0 Tryz.func112 rfl (fun vs w=>by kernel_rfl) (by kernel_rfl)) (by simp) (by simp [AV.ids,AV.idsL,qa,qb,ql]) (fun i o h=>by cases h) (fun _ _ _ _=>trivial) qF ?_
 have ec:(⟨c.cabins,c.secs,c.sold⟩:Chart)=c:=rfl
 repeat' (first|(apply nx;with_reducible constructor)|refine uq (by decide) ?_|((first|refine vx env fun Q hQ=>?_|refine vz fun Q hQ=>?_);simp only [vkt,seval,xu,Zy,aTk,cTk,ql,eTk,gTk,rTk,mTk,qd,qa,qb,rkS,Ze,List.length_map];(try simp only [ite_and]);(repeat' (first|with_reducible assumption|refine And.intro ?_ ?_|intro hp));all_goals (first|(refine hQ _ ?_;clear hQ Q)|(refine hQ _ (fun h=>?_) (fun h=>?_) <;> clear hQ Q <;> (try simp only [vki,reduceCtorEq] at h))|(refine vq ?_;kernel_rfl)|omega|assumption|with_reducible rfl|skip)))
 refine qN (fun k:{ k:Nat // k≤l.length∧∀ j,j < k→zH c (l.getD j default) (l.take j)=0 }=>rkS c l k.1) (fun k=>l.length - k.1) ⟨0,Nat.zero_le _,fun j h=>absurd h (Nat.not_lt_zero _)⟩ ?_ fun ⟨k,hk,hno⟩=>?_
 ·(refine Le.ok some [] ?_;constructor;all_goals (try simp only [vle,vkt,seval,xu,Zy,aTk,cTk,ql,eTk,gTk,rTk,mTk,qd,qa,qb,rkS,Ze,List.length_map]))
  all_goals first|rfl|(simp;done)
 simp only at hk hno ⊢
 simp only [rkS]
 by_cases hlt:k < l.length
 ·have d1:decide ((k:Int) < (l.length:Int))=true:=decide_eq_true (by omega)
  have e9:IntKind.wrap .i64 ((k:Int)+1)=((k+1:Nat):Int):=by rw [wrap64 (by omega) (by omega)];rfl
  have k0:((k:Int)).toNat=k:=rfl
  obtain ⟨x,hx⟩:∃ x,l.getD k default=x:=⟨_,rfl⟩
  have ex:(⟨x.party,x.sex,x.cab,x.bed,x.frm,x.to,x.dog⟩:Tk)=x:=rfl
  have tk:List.take k (l.map eTk)=(l.take k).map eTk:=List.map_take.symm
  have t100:(l.take k).length≤100:=by rw [List.length_take];omega
  have hkl:k≤l.length:=hk
  have hg:=Qek (f:=fun i=>zH c (l.getD i default) (l.take i)) hlt
  obtain ⟨e,he⟩:∃ e,zH c x (l.take k)=e:=⟨_,rfl⟩
  by_cases h2:e=0
  ·rw [h2] at he
   repeat' (first|(apply nx;with_reducible constructor)|refine uq (by decide) ?_|((first|refine vx env fun Q hQ=>?_|refine vz fun Q hQ=>?_);simp only [vkt,seval,xu,Zy,aTk,cTk,ql,eTk,gTk,rTk,mTk,qd,qa,qb,rkS,Ze,List.length_map,d1,k0,hlt,hkl,hx,ex,ec,tk,he,e9,decide_true];(try simp only [ite_and]);(repeat' (first|with_reducible assumption|refine And.intro ?_ ?_|intro hp));all_goals (first|(refine hQ _ ?_;clear hQ Q)|(refine hQ _ (fun h=>?_) (fun h=>?_) <;> clear hQ Q <;> (try simp only [vki,reduceCtorEq] at h))|(refine vq ?_;kernel_rfl)|omega|assumption|with_reducible rfl|skip)))
   refine ⟨⟨k+1,hlt,fun j hj=>?_⟩,by show l.length - (k+1) < l.length - k;omega, ?_⟩
   ·rcases Nat.lt_or_eq_of_le (Nat.le_of_lt_succ hj) with h3|h3
    ·exact hno j h3
    ·rw [h3,hx];exact he
   ·(refine Le.ok some [] ?_;constructor;all_goals (try simp only [vle,vkt,seval,xu,Zy,aTk,cTk,ql,eTk,gTk,rTk,mTk,qd,qa,qb,rkS,Ze,List.length_map]))
    all_goals first|rfl|(simp;done)
  ·have hf:zW c l=e:=by
    unfold zW
    rw [kG (k:=k) (fun j hj=>by rw [Qek (by omega)];exact hno j hj) (by simpa using hlt) (by rw [hg,hx,he];exact h2),hg,hx,he]
   rw [hf]
   have d2:decide (e=0)=false:=decide_eq_false h2
   repeat' (first|(apply nx;with_reducible constructor)|refine uq (by decide) ?_|((first|refine vx env fun Q hQ=>?_|refine vz fun Q hQ=>?_);simp only [vkt,seval,xu,Zy,aTk,cTk,ql,eTk,gTk,rTk,mTk,qd,qa,qb,rkS,Ze,List.length_map,d1,k0,hlt,hkl,hx,ex,ec,tk,he,d2];(try simp only [ite_and]);(repeat' (first|with_reducible assumption|refine And.intro ?_ ?_|intro hp));all_goals (first|(refine hQ _ ?_;clear hQ Q)|(refine hQ _ (fun h=>?_) (fun h=>?_) <;> clear hQ Q <;> (try simp only [vki,reduceCtorEq] at h))|(refine vq ?_;kernel_rfl)|omega|assumption|with_reducible rfl|skip)))
   (simp only [vrt,Tryz.results112,vkt,seval,xu,Zy,aTk,cTk,ql,eTk,gTk,rTk,mTk,qd,qa,qb,rkS,Ze,List.length_map];refine Fin.val rfl ?_;(try simp only [AV.le,AV.leL]))
   all_goals first|rfl|(simp;done)
 ·have d1:decide ((k:Int) < (l.length:Int))=false:=decide_eq_false (by omega)
  have hke:k=l.length:=by omega
  subst hke
  rw [show zW c l=0 from yo fun j hj=>by
   have hj':j < l.length:=by simpa using hj
   rw [Qek hj'];exact hno j hj']
  repeat' (first|(apply nx;with_reducible constructor)|refine uq (by decide) ?_|((first|refine vx env fun Q hQ=>?_|refine vz fun Q hQ=>?_);simp only [vkt,seval,xu,Zy,aTk,cTk,ql,eTk,gTk,rTk,mTk,qd,qa,qb,rkS,Ze,List.length_map,d1];(try simp only [ite_and]);(repeat' (first|with_reducible assumption|refine And.intro ?_ ?_|intro hp));all_goals (first|(refine hQ _ ?_;clear hQ Q)|(refine hQ _ (fun h=>?_) (fun h=>?_) <;> clear hQ Q <;> (try simp only [vki,reduceCtorEq] at h))|(refine vq ?_;kernel_rfl)|omega|assumption|with_reducible rfl|skip)))
  (simp only [vrt,Tryz.results112,vkt,seval,xu,Zy,aTk,cTk,ql,eTk,gTk,rTk,mTk,qd,qa,qb,rkS,Ze,List.length_map];refine Fin.val rfl ?_;(try simp only [AV.le,AV.leL]))
  all_goals first|rfl|(simp;done)
def jZ:List AV→Prop × AV
 |[.agg [.sl c0,.v (.int .i64 c1),.sl c2],.sl l]=>(c0=(c0.map qw).map qh∧c2=(c2.map dTk).map eTk∧l=(l.map dTk).map eTk∧CarOk ((⟨(c0.map qw),c1,(c2.map dTk)⟩:Chart))∧(l.map dTk).length≤100,aI (zW ((⟨(c0.map qw),c1,(c2.map dTk)⟩:Chart)) (l.map dTk)))
 |_=>(False,.junk)
theorem Qgu {A:Frm→Prop}:qE A Tryz.prog 112 (qX true jZ):=qW fun vs hv h=>by
 clear hv
 unfold jZ at h ⊢
 split at h
 ·rename_i c0 c1 c2 l;obtain ⟨q0,q1,q2,k0,k1⟩:=h
  refine ⟨by first|trivial|(simp [AV.plain,AV.plainL,aI,aB,qz,qc,ql,qf,aTk,cTk];done)|(repeat' split) <;> simp [AV.plain,AV.plainL,aI,aB,qz,qc,ql,qf,aTk,cTk],fun _=>(by simp [AV.flat,AV.flatL,aI,aB]), ?_⟩
  have:=QiK ((⟨(c0.map qw),c1,(c2.map dTk)⟩:Chart)) (l.map dTk) k0 k1
  simp only [qY,qa,aI,ql,qb,← q0,← q1,← q2] at this
  first|exact this|(simp only [qY,qa,aI,ql,qb,← q0,← q1,← q2];exact this)
 ·exact h.elim
def wO (c:Chart) (a:Ask) (l:List Bunk):Bool:=decide (l.length=a.sexes.length) && l.all (fun b=>jN c.cabins b.cab b.bed) && decide (zW c (c.sold++QR a l l.length)=0) && Zl c.cabins l
theorem Qbs {c:Chart} {a:Ask} {l:List Bunk} {k:Nat} (hk:k < l.length) (h:jN c.cabins (l.getD k default).cab (l.getD k default).bed=false):wO c a l=false:=by
 have:l.all (fun b=>jN c.cabins b.cab b.bed)=false:=by
  rw [List.all_eq_false]
  exact ⟨_,yB hk,by rw [h];decide⟩
 unfold wO
 rw [this];simp
def ipS (c:Chart) (a:Ask) (l:List Bunk) (k:Nat):St:={ t:=asg [(2,qc l),(3,.ptr 0 0),(4,.ptr 1 0),(6,aB false),(7,aI k)],h:=qj [(0,.cells (qb c)),(1,.cells (qg a))],n:=2 }
def wD:=vj @ty3 (vj @x9 (vj @yc (vj @Qe (vj @QM (vj @Zc (vj @WQ (vj @xJ (vj @yU (vj @ti3.eq_1 (vj @xD.eq_1 (vj @jM.eq_1 (vj @x8.eq_1 (vj @Qb.eq_1 (vj @QA.eq_1 (vj @ZO.eq_1 (vj @vZ.eq_1 @yA.eq_1))))))))))))))))
def xO:=vj @aI.eq_1 (vj @aB.eq_1 (@QT))
theorem QbL (c:Chart) (a:Ask) (l:List Bunk) (hc:CarOk c) (hs:c.sold.length≤20) (ha:0 < a.sexes.length∧a.sexes.length≤20) (hl:l.length≤maxLen):FnV Tryz.prog 106 [qa c,qx a,qc l] (aB (wO c a l)):=by
 have env:Env (fun _=>True) Tryz.prog tyB (tab [(133,qX true zo),(61,qX false Zg),(112,qX true jZ),(134,qX true ko)]):=qL ⟨QcL,erTks,Qgu,QjR,trivial⟩
 refine Fn.of (A:=fun _=>True) (n0:=0) (D:=noD) (Fn0 Tryz.func106 rfl (fun vs w=>by kernel_rfl) (by kernel_rfl)) (by simp) (by simp [AV.ids,AV.idsL,qa,qb,qx,qg,qc]) (fun i o h=>by cases h) (fun _ _ _ _=>trivial) qF ?_
 have ec:(⟨c.cabins,c.secs,c.sold⟩:Chart)=c:=rfl
 have ea:(⟨a.party,a.frm,a.to,a.sexes,a.dog⟩:Ask)=a:=rfl
 have hmx:(100000:Nat)≤maxLen:=by decide
 by_cases hn:l.length=a.sexes.length
 ·have d0:decide ((l.length:Int)=(a.sexes.length:Int))=true:=decide_eq_true (by omega)
  repeat' (first|(apply nx;with_reducible constructor)|refine uq (by decide) ?_|((first|refine vx env fun Q hQ=>?_|refine vz fun Q hQ=>?_);simp only [vkt,seval,wD,xO,qf,qc,qo,qD,qM,ql,eTk,rTk,mTk,qd,qa,qb,qx,qg,ipS,zo,Zg,jZ,ko,List.length_map,d0];(try simp only [ite_and]);(repeat' (first|with_reducible assumption|refine And.intro ?_ ?_|intro hp));all_goals (first|(refine hQ _ ?_;clear hQ Q)|(refine hQ _ (fun h=>?_) (fun h=>?_) <;> clear hQ Q <;> (try simp only [vki,reduceCtorEq] at h))|(refine vq ?_;kernel_rfl)|omega|assumption|with_reducible rfl|skip)))
  refine qN (fun k:{ k:Nat // k≤l.length∧∀ j,j < k→jN c.cabins (l.getD j default).cab (l.getD j default).bed=true }=>ipS c a l k.1) (fun k=>l.length - k.1) ⟨0,Nat.zero_le _,fun j h=>absurd h (Nat.not_lt_zero _)⟩ ?_ fun ⟨k,hk,hno⟩=>?_
  ·(refine Le.ok some [] ?_;constructor;all_goals (try simp only [vle,vkt,seval,wD,xO,qf,qc,qo,qD,qM,ql,eTk,rTk,mTk,qd,qa,qb,qx,qg,ipS,zo,Zg,jZ,ko,List.length_map]))
   all_goals first|rfl|(simp;done)
  simp only at hk hno ⊢
  simp only [ipS]
  by_cases hlt:k < l.length
  ·have d1:decide ((k:Int) < (l.length:Int))=true:=decide_eq_true (by omega)
   have e9:IntKind.wrap .i64 ((k:Int)+1)=((k+1:Nat):Int):=by rw [wrap64 (by omega) (by omega)];rfl
   have k0:((k:Int)).toNat=k:=rfl
   have hP:=Qbs (c:=c) (a:=a) hlt
   have hnk:=hno
   obtain ⟨x,hx⟩:∃ x,l.getD k default=x:=⟨_,rfl⟩
   rw [hx] at hP
   cases q:jN c.cabins x.cab x.bed with
   |true =>
    repeat' (first|(apply nx;with_reducible constructor)|refine uq (by decide) ?_|((first|refine vx env fun Q hQ=>?_|refine vz fun Q hQ=>?_);simp only [vkt,seval,wD,xO,qf,qc,qo,qD,qM,ql,eTk,rTk,mTk,qd,qa,qb,qx,qg,ipS,zo,Zg,jZ,ko,List.length_map,d1,k0,hlt,hx,ec,q,e9];(try simp only [ite_and]);(repeat' (first|with_reducible assumption|refine And.intro ?_ ?_|intro hp));all_goals (first|(refine hQ _ ?_;clear hQ Q)|(refine hQ _ (fun h=>?_) (fun h=>?_) <;> clear hQ Q <;> (try simp only [vki,reduceCtorEq] at h))|(refine vq ?_;kernel_rfl)|omega|assumption|with_reducible rfl|skip)))
    refine ⟨⟨k+1,hlt,fun j hj=>?_⟩,by show l.length - (k+1) < l.length - k;omega, ?_⟩
    ·rcases Nat.lt_or_eq_of_le (Nat.le_of_lt_succ hj) with h3|h3
     ·exact hno j h3
     ·rw [h3,hx];exact q
    ·(refine Le.ok some [] ?_;constructor;all_goals (try simp only [vle,vkt,seval,wD,xO,qf,qc,qo,qD,qM,ql,eTk,rTk,mTk,qd,qa,qb,qx,qg,ipS,zo,Zg,jZ,ko,List.length_map]))
     all_goals first|rfl|(simp;done)
   |false =>
    rw [hP q]
    repeat' (first|(apply nx;with_reducible constructor)|refine uq (by decide) ?_|((first|refine vx env fun Q hQ=>?_|refine vz fun Q hQ=>?_);simp only [vkt,seval,wD,xO,qf,qc,qo,qD,qM,ql,eTk,rTk,mTk,qd,qa,qb,qx,qg,ipS,zo,Zg,jZ,ko,List.length_map,d1,k0,hlt,hx,ec,q];(try simp only [ite_and]);(repeat' (first|with_reducible assumption|refine And.intro ?_ ?_|intro hp));all_goals (first|(refine hQ _ ?_;clear hQ Q)|(refine hQ _ (fun h=>?_) (fun h=>?_) <;> clear hQ Q <;> (try simp only [vki,reduceCtorEq] at h))|(refine vq ?_;kernel_rfl)|omega|assumption|with_reducible rfl|skip)))
    (simp only [vrt,Tryz.results106,vkt,seval,wD,xO,qf,qc,qo,qD,qM,ql,eTk,rTk,mTk,qd,qa,qb,qx,qg,ipS,zo,Zg,jZ,ko,List.length_map];refine Fin.val rfl ?_;(try simp only [AV.le,AV.leL]))
    all_goals first|rfl|(simp;done)
  ·have d1:decide ((k:Int) < (l.length:Int))=false:=decide_eq_false (by omega)
   obtain rfl:k=l.length:=by omega
   have hall:l.all (fun b=>jN c.cabins b.cab b.bed)=true:=by
    rw [List.all_eq_true]
    intro b hb
    obtain ⟨j,hj,rfl⟩:=List.mem_iff_getElem.1 hb
    have:=hno j hj
    rw [show l.getD j default=l[j] by simp [List.getD_eq_getElem?_getD,hj]] at this
    exact this
   have hcl:=hc.cabs
   have hnear:NearOk c.cabins l:=⟨by omega,by omega,by omega,fun b hb=>by
    have:=List.all_eq_true.1 hall b hb
    have:=KH this
    exact ⟨this.1,this.2.1⟩⟩
   have b1:l.length≤100:=by omega
   have b2:a.sexes.length=l.length:=hn.symm
   have hTl:=Qde a l l.length
   obtain ⟨T,hT⟩:∃ T,QR a l l.length=T:=⟨_,rfl⟩
   rw [hT] at hTl
   have b3:c.sold.length≤maxLen:=by omega
   have b4:c.sold.length+T.length≤maxLen:=by omega
   have b5:(c.sold++T).length≤100:=by rw [List.length_append];omega
   have hE:wO c a l=(decide (zW c (c.sold++T)=0) && Zl c.cabins l):=by
    unfold wO
    rw [hall,decide_eq_true hn,hT];rfl
   rw [hE]
   have ma:List.map eTk c.sold++List.map eTk T=List.map eTk (c.sold++T):=by rw [List.map_append]
   cases q:decide (zW c (c.sold++T)=0) with
   |true =>
    repeat' (first|(apply nx;with_reducible constructor)|refine uq (by decide) ?_|((first|refine vx env fun Q hQ=>?_|refine vz fun Q hQ=>?_);simp only [vkt,seval,wD,xO,qf,qc,qo,qD,qM,ql,eTk,rTk,mTk,qd,qa,qb,qx,qg,ipS,zo,Zg,jZ,ko,List.length_map,d1,ec,ea,b1,b2,hT,b3,b4,b5,ma,q,hnear];(try simp only [ite_and]);(repeat' (first|with_reducible assumption|refine And.intro ?_ ?_|intro hp));all_goals (first|(refine hQ _ ?_;clear hQ Q)|(refine hQ _ (fun h=>?_) (fun h=>?_) <;> clear hQ Q <;> (try simp only [vki,reduceCtorEq] at h))|(refine vq ?_;kernel_rfl)|omega|assumption|with_reducible rfl|skip)))
    (simp only [vrt,Tryz.results106,vkt,seval,wD,xO,qf,qc,qo,qD,qM,ql,eTk,rTk,mTk,qd,qa,qb,qx,qg,ipS,zo,Zg,jZ,ko,List.length_map];refine Fin.val rfl ?_;(try simp only [AV.le,AV.leL]))
    all_goals first|rfl|(simp;done)
   |false =>
    repeat' (first|(apply nx;with_reducible constructor)|refine uq (by decide) ?_|((first|refine vx env fun Q hQ=>?_|refine vz fun Q hQ=>?_);simp only [vkt,seval,wD,xO,qf,qc,qo,qD,qM,ql,eTk,rTk,mTk,qd,qa,qb,qx,qg,ipS,zo,Zg,jZ,ko,List.length_map,d1,ec,ea,b1,b2,hT,b3,b4,b5,ma,q,hnear];(try simp only [ite_and]);(repeat' (first|with_reducible assumption|refine And.intro ?_ ?_|intro hp));all_goals (first|(refine hQ _ ?_;clear hQ Q)|(refine hQ _ (fun h=>?_) (fun h=>?_) <;> clear hQ Q <;> (try simp only [vki,reduceCtorEq] at h))|(refine vq ?_;kernel_rfl)|omega|assumption|with_reducible rfl|skip)))
    (simp only [vrt,Tryz.results106,vkt,seval,wD,xO,qf,qc,qo,qD,qM,ql,eTk,rTk,mTk,qd,qa,qb,qx,qg,ipS,zo,Zg,jZ,ko,List.length_map];refine Fin.val rfl ?_;(try simp only [AV.le,AV.leL]))
    all_goals first|rfl|(simp;done)
 ·have d0:decide ((l.length:Int)=(a.sexes.length:Int))=false:=decide_eq_false (by omega)
  have hE:wO c a l=false:=by unfold wO;rw [decide_eq_false hn];rfl
  rw [hE]
  repeat' (first|(apply nx;with_reducible constructor)|refine uq (by decide) ?_|((first|refine vx env fun Q hQ=>?_|refine vz fun Q hQ=>?_);simp only [vkt,seval,wD,xO,qf,qc,qo,qD,qM,ql,eTk,rTk,mTk,qd,qa,qb,qx,qg,ipS,zo,Zg,jZ,ko,List.length_map,d0];(try simp only [ite_and]);(repeat' (first|with_reducible assumption|refine And.intro ?_ ?_|intro hp));all_goals (first|(refine hQ _ ?_;clear hQ Q)|(refine hQ _ (fun h=>?_) (fun h=>?_) <;> clear hQ Q <;> (try simp only [vki,reduceCtorEq] at h))|(refine vq ?_;kernel_rfl)|omega|assumption|with_reducible rfl|skip)))
  (simp only [vrt,Tryz.results106,vkt,seval,wD,xO,qf,qc,qo,qD,qM,ql,eTk,rTk,mTk,qd,qa,qb,qx,qg,ipS,zo,Zg,jZ,ko,List.length_map];refine Fin.val rfl ?_;(try simp only [AV.le,AV.leL]))
  all_goals first|rfl|(simp;done)
def xk:List AV→Prop × AV
 |[.agg [.sl c0,.v (.int .i64 c1),.sl c2],.agg [.v (.int .i64 a0),.v (.int .i64 a1),.v (.int .i64 a2),.sl a3,.v (.bool a4)],.sl l]=>(c0=(c0.map qw).map qh∧c2=(c2.map dTk).map eTk∧a3=(a3.map zb).map zF∧l=(l.map zz).map qo∧CarOk ((⟨(c0.map qw),c1,(c2.map dTk)⟩:Chart))∧((⟨(c0.map qw),c1,(c2.map dTk)⟩:Chart)).sold.length≤20∧0 < ((⟨a0,a1,a2,(a3.map zb),a4⟩:Ask)).sexes.length∧((⟨a0,a1,a2,(a3.map zb),a4⟩:Ask)).sexes.length≤20∧(l.map zz).length≤maxLen,aB (wO ((⟨(c0.map qw),c1,(c2.map dTk)⟩:Chart)) ((⟨a0,a1,a2,(a3.map zb),a4⟩:Ask)) (l.map zz)))
 |_=>(False,.junk)
theorem Qgh {A:Frm→Prop}:qE A Tryz.prog 106 (qX true xk):=qW fun vs hv h=>by
 clear hv
 unfold xk at h ⊢
 split at h
 ·rename_i c0 c1 c2 a0 a1 a2 a3 a4 l;obtain ⟨q0,q1,q2,q3,k0,k1,k2,k3,k4⟩:=h
  refine ⟨by first|trivial|(simp [AV.plain,AV.plainL,aI,aB,qz,qc,ql,qf,aTk,cTk];done)|(repeat' split) <;> simp [AV.plain,AV.plainL,aI,aB,qz,qc,ql,qf,aTk,cTk],fun _=>(by simp [AV.flat,AV.flatL,aI,aB]), ?_⟩
  have:=QbL ((⟨(c0.map qw),c1,(c2.map dTk)⟩:Chart)) ((⟨a0,a1,a2,(a3.map zb),a4⟩:Ask)) (l.map zz) k0 k1 ⟨k2,k3⟩ k4
  simp only [qx,aB,qc,qY,qa,aI,qz,ql,qg,qb,← q0,← q1,← q2,← q3] at this
  first|exact this|(simp only [qx,aB,qc,qY,qa,aI,qz,ql,qg,qb,← q0,← q1,← q2,← q3];exact this)
 ·exact h.elim
def stB (a b:Tk) (s:Int):Bool:=decide (a.cab=b.cab) && !decide (s < a.frm) && !decide (a.to≤s) && !decide (s < b.frm) && !decide (b.to≤s) && (decide (a.bed=b.bed) || (!decide (a.party=b.party) && (!decide (a.sex=b.sex) || a.dog || b.dog)))
def prB (c:Chart) (a b:Tk):Bool:=(List.range c.secs.toNat).any fun (s:Nat)=>stB a b s
def rwB (c:Chart) (i:Nat):Bool:=(List.range i).any fun k=>prB c (c.sold.getD i default) (c.sold.getD k default)
def strB (c:Chart):Bool:=(List.range c.sold.length).any (rwB c)
def Wh (c:Chart) (a:Ask) (l:List Bunk):Bool:=Zl c.cabins l && !strB ⟨c.cabins,c.secs,c.sold++QR a l l.length⟩
def YO (cs:List Cabin) (a:Ask):List Tk→List Bunk→List Bunk→Bool
 |_,_,[]=>true
 |sold,begun,b :: r=>goB cs a sold begun b && YO cs a (sold++[Qd a begun.length b]) (begun++[b]) r
theorem QaQ (cs:List Cabin) (a:Ask):∀ (m:Nat) (sold:List Tk) (begun:List Bunk),(wU cs a m sold begun).map (·.1)=((alL (qV cs) m).filter (YO cs a sold begun)).map (begun++·)
 |0,sold,begun=>by
  show [begun]=(([[]]:List (List Bunk)).filter (YO cs a sold begun)).map (begun++·)
  rw [List.filter_cons_of_pos (by rfl)]
  simp
 |m+1,sold,begun=>by
  rw [Zf,alL,List.map_flatMap,List.filter_flatMap,List.map_flatMap]
  refine congrArg (List.flatMap · (qV cs)) (funext fun b=>?_)
  unfold gbL
  cases h:goB cs a sold begun b with
  |true =>
   rw [if_pos rfl,QaQ cs a m,List.filter_map,List.map_map]
   have e1:(YO cs a sold begun ∘ fun x=>b :: x)=YO cs a (sold++[Qd a begun.length b]) (begun++[b]):=funext fun r=>by
    show YO cs a sold begun (b :: r)=_
    rw [YO,h,Bool.true_and]
   rw [e1]
   refine congrArg (List.map · _) (funext fun r=>?_)
   show (begun++[b])++r=begun++b :: r
   simp
  |false =>
   rw [if_neg (by decide),List.filter_map]
   have e1:(YO cs a sold begun ∘ fun x=>b :: x)=fun _=>false:=funext fun r=>by
    show YO cs a sold begun (b :: r)=_
    rw [YO,h,Bool.false_and]
   rw [e1]
   simp
def PWr:List Tk→List Tk→Prop
 |_,[]=>True
 |s,t :: ts=>wh t s=0∧PWr (s++[t]) ts
theorem QcK:∀ (s l r:List Tk),PWr s (l++r) ↔ PWr s l∧PWr (s++l) r
 |s,[],r=>by simp [PWr]
 |s,t :: l,r=>by
  show wh t s=0∧PWr (s++[t]) (l++r) ↔ (wh t s=0∧PWr (s++[t]) l)∧PWr (s++t :: l) r
  rw [QcK (s++[t]) l r,and_assoc]
  simp
theorem YB:∀ (s l:List Tk),PWr s l ↔ ∀ i,i < l.length→wh (l.getD i default) (s++l.take i)=0
 |s,[]=>by simp [PWr]
 |s,t :: l=>by
  show wh t s=0∧PWr (s++[t]) l ↔ _
  rw [YB (s++[t]) l]
  constructor
  ·rintro ⟨h1,h2⟩ i hi
   cases i with
   |zero=>simpa using h1
   |succ i =>
    have:=h2 i (by simpa using hi)
    simpa using this
  ·intro h
   refine ⟨by simpa using h 0 (by simp),fun i hi=>?_⟩
   have:=h (i+1) (by simpa using hi)
   simpa using this
def tkR (a:Ask):Nat→List Bunk→List Tk
 |_,[]=>[]
 |n,b :: r=>Qd a n b :: tkR a (n+1) r
theorem QdC (a:Ask):∀ (n:Nat) (l r:List Bunk),tkR a n (l++r)=tkR a n l++tkR a (n+l.length) r
 |n,[],r=>by simp [tkR]
 |n,b :: l,r=>by
  show Qd a n b :: tkR a (n+1) (l++r)=_
  rw [QdC a (n+1) l r]
  simp [tkR,Nat.add_assoc,Nat.add_comm 1]
theorem UN (a:Ask) (l:List Bunk):∀ k,k≤l.length→QR a l k=tkR a 0 (l.take k)
 |0,_=>by simp [QR,tkR]
 |k+1,h=>by
  rw [Lm,UN a l k (by omega),List.take_succ_eq_append_getElem h,QdC,List.length_take]
  have hk:k < l.length:=h
  simp [tkR,List.getD_eq_getElem?_getD,hk,Nat.min_eq_left (show k≤l.length by omega)]
theorem VU {a:Ask} {t:Tk}:∀ {n:Nat} {l:List Bunk},t ∈ tkR a n l→∃ i b,i < l.length∧b ∈ l∧t=Qd a (n+i) b
 |n,[],h=>by simp [tkR] at h
 |n,b :: l,h=>by
  rcases List.mem_cons.1 h with rfl|h
  ·exact ⟨0,b,by simp,by simp,rfl⟩
  ·obtain ⟨i,b',h1,h2,h3⟩:=VU h
   exact ⟨i+1,b',by simpa using h1,List.mem_cons_of_mem _ h2,by rw [h3,show n+1+i=n+(i+1) by omega]⟩
theorem QcE (l:List Bunk):∀ m:Int,l.foldl (fun m b=>min m b.cab) m≤m:=by
 induction l with
 |nil=>intro m;exact Int.le_refl _
 |cons b l ih=>intro m;have:=ih (min m b.cab);rw [List.foldl_cons];omega
theorem Qdm (l:List Bunk):∀ m:Int,m≤l.foldl (fun m b=>max m b.cab) m:=by
 induction l with
 |nil=>intro m;exact Int.le_refl _
 |cons b l ih=>intro m;have:=ih (max m b.cab);rw [List.foldl_cons];omega
theorem Qf6 {cs:List Cabin} {l r:List Bunk} (h:Zl cs (l++r)=true) (hl:l ≠ []):Zl cs l=true:=by
 have h0:(l++r).getD 0 default=l.getD 0 default:=by
  cases l with
  |nil=>exact absurd rfl hl
  |cons b l=>rfl
 unfold Zl at h ⊢
 simp only [h0,List.foldl_append] at h ⊢
 have g1:=QcE r (l.foldl (fun m b=>min m b.cab) (l.getD 0 default).cab)
 have g2:=Qdm r (l.foldl (fun m b=>max m b.cab) (l.getD 0 default).cab)
 have g3:=QcE l (l.getD 0 default).cab
 have g4:=Qdm l (l.getD 0 default).cab
 generalize l.foldl (fun m b=>min m b.cab) (l.getD 0 default).cab=lo at *
 generalize l.foldl (fun m b=>max m b.cab) (l.getD 0 default).cab=hi at *
 generalize r.foldl (fun m b=>min m b.cab) lo=lo2 at *
 generalize r.foldl (fun m b=>max m b.cab) hi=hi2 at *
 rw [Bool.or_eq_true,Bool.and_eq_true,decide_eq_true_eq,decide_eq_true_eq] at h ⊢
 rcases h with h|⟨h,hd⟩
 ·exact .inl (by omega)
 ·by_cases he:lo=hi
  ·exact .inl he
  ·have:lo=lo2:=by omega
   exact .inr ⟨by omega,by rw [this];exact hd⟩
theorem Qc0 {cs:List Cabin} {a:Ask} (hw:a.frm < a.to):∀ (r:List Bunk) (sold:List Tk) (begun:List Bunk),(∀ b ∈ begun,∃ x ∈ sold,x.cab=b.cab∧x.bed=b.bed∧x.frm=a.frm∧x.to=a.to) →
  (YO cs a sold begun r=true ↔ PWr sold (tkR a begun.length r)∧(r ≠ []→Zl cs (begun++r)=true))
 |[],sold,begun,_=>by simp [YO,tkR,PWr]
 |b :: r,sold,begun,hb=>by
  have hb':∀ b' ∈ begun++[b],∃ x ∈ sold++[Qd a begun.length b],x.cab=b'.cab∧x.bed=b'.bed∧x.frm=a.frm∧x.to=a.to:=fun b' h=>by
   rcases List.mem_append.1 h with h|h
   ·obtain ⟨x,h1,h2⟩:=hb b' h
    exact ⟨x,List.mem_append.2 (.inl h1),h2⟩
   ·rw [List.mem_singleton.1 h]
    exact ⟨_,List.mem_append.2 (.inr (List.mem_singleton.2 rfl)),rfl,rfl,rfl,rfl⟩
  have ih:=Qc0 (cs:=cs) hw r (sold++[Qd a begun.length b]) (begun++[b]) hb'
  rw [YO,Bool.and_eq_true,ih]
  have el:(begun++[b]).length=begun.length+1:=by simp
  rw [el]
  show _ ↔ (wh (Qd a begun.length b) sold=0∧PWr (sold++[Qd a begun.length b]) (tkR a (begun.length+1) r))∧_
  have ea:begun++[b]++r=begun++b :: r:=by simp
  rw [ea]
  unfold goB
  rw [Bool.and_eq_true,Bool.and_eq_true,decide_eq_true_eq]
  constructor
  ·rintro ⟨⟨⟨_,h2⟩,h3⟩,h4,h5⟩
   refine ⟨⟨h3,h4⟩,fun _=>?_⟩
   cases r with
   |nil=>exact h2
   |cons b2 r=>exact h5 (by simp)
  ·rintro ⟨⟨h3,h4⟩,h5⟩
   have h5:=h5 (by simp)
   refine ⟨⟨⟨?_, ?_⟩,h3⟩,h4,fun _=>h5⟩
   ·cases hc:begun.contains b with
    |false=>rfl
    |true =>
     obtain ⟨x,hx,g1,g2,g3,g4⟩:=hb b (by simpa using hc)
     have:=(WT.1 h3 x hx).1
     unfold xq xH Qd at this
     simp [g1,g2,g3,g4,hw] at this
   ·refine Qf6 (r:=r) ?_ (by simp)
    rw [ea];exact h5
theorem Qjf {secs:Int} {t x:Tk} (ht:0≤t.frm∧t.frm < t.to∧t.to≤secs) (hx:0≤x.frm∧x.frm < x.to∧x.to≤secs):(∀ s:Nat,s < secs.toNat→stB t x s=false) ↔ xq t x=false∧QC x t=true:=by
 constructor
 ·intro h
  cases hm:xH x t with
  |false =>
   unfold xq QC
   rw [hm];simp
  |true =>
   have hm2:=hm
   unfold xH at hm2
   rw [Bool.and_eq_true,decide_eq_true_eq,decide_eq_true_eq] at hm2
   obtain ⟨s,hs⟩:∃ s:Nat,(s:Int)=max t.frm x.frm:=⟨(max t.frm x.frm).toNat,by omega⟩
   have:=h s (by omega)
   unfold stB at this
   rw [decide_eq_false (show ¬ (s:Int) < t.frm by omega),decide_eq_false (show ¬ t.to≤(s:Int) by omega),decide_eq_false (show ¬ (s:Int) < x.frm by omega),decide_eq_false (show ¬ x.to≤(s:Int) by omega)] at this
   have e1:decide (x.cab=t.cab)=decide (t.cab=x.cab):=by rw [decide_eq_decide];exact eq_comm
   have e2:decide (x.bed=t.bed)=decide (t.bed=x.bed):=by rw [decide_eq_decide];exact eq_comm
   have e3:decide (x.party=t.party)=decide (t.party=x.party):=by rw [decide_eq_decide];exact eq_comm
   have e4:decide (x.sex=t.sex)=decide (t.sex=x.sex):=by rw [decide_eq_decide];exact eq_comm
   have e5:decide (x.cab ≠ t.cab)=!decide (t.cab=x.cab):=by rw [decide_not,e1]
   unfold xq QC
   rw [hm,e5,e1,e2,e3,e4]
   revert this
   generalize decide (t.cab=x.cab)=A
   generalize decide (t.bed=x.bed)=B
   generalize decide (t.party=x.party)=C
   generalize decide (t.sex=x.sex)=D
   generalize x.dog=E
   generalize t.dog=F
   revert A B C D E F
   decide
 ·rintro ⟨h1,h2⟩ s _
  have e1:decide (x.cab=t.cab)=decide (t.cab=x.cab):=by rw [decide_eq_decide];exact eq_comm
  have e2:decide (x.bed=t.bed)=decide (t.bed=x.bed):=by rw [decide_eq_decide];exact eq_comm
  have e3:decide (x.party=t.party)=decide (t.party=x.party):=by rw [decide_eq_decide];exact eq_comm
  have e4:decide (x.sex=t.sex)=decide (t.sex=x.sex):=by rw [decide_eq_decide];exact eq_comm
  have e5:decide (x.cab ≠ t.cab)=!decide (t.cab=x.cab):=by rw [decide_not,e1]
  cases hm:xH x t with
  |false =>
   unfold stB
   by_cases g1:(s:Int) < t.frm
   ·simp [g1]
   by_cases g2:t.to≤(s:Int)
   ·simp [g2]
   by_cases g3:(s:Int) < x.frm
   ·simp [g3]
   by_cases g4:x.to≤(s:Int)
   ·simp [g4]
   exfalso
   unfold xH at hm
   rw [decide_eq_true (show x.frm < t.to by omega),decide_eq_true (show t.frm < x.to by omega)] at hm
   exact absurd hm (by decide)
  |true =>
   unfold xq at h1
   unfold QC at h2
   rw [hm,e1,e2] at h1
   rw [hm,e5,e3,e4] at h2
   unfold stB
   generalize decide ((s:Int) < t.frm)=G
   generalize decide (t.to≤(s:Int))=H
   generalize decide ((s:Int) < x.frm)=I
   generalize decide (x.to≤(s:Int))=J
   revert h1 h2
   generalize decide (t.cab=x.cab)=A
   generalize decide (t.bed=x.bed)=B
   generalize decide (t.party=x.party)=C
   generalize decide (t.sex=x.sex)=D
   generalize x.dog=E
   generalize t.dog=F
   revert A B C D E F G H I J
   decide
theorem UV {cs:List Cabin} {secs:Int} {l:List Tk} (h:∀ t ∈ l,0≤t.frm∧t.frm < t.to∧t.to≤secs):strB ⟨cs,secs,l⟩=false ↔ PWr [] l:=by
 rw [YB]
 unfold strB
 rw [List.any_eq_false]
 have hg:∀ {i:Nat},i < l.length→l.getD i default ∈ l:=fun hi=>yB hi
 constructor
 ·intro hs i hi
  rw [List.nil_append,WT]
  intro x hx
  obtain ⟨k,hk,rfl⟩:=List.mem_iff_getElem.1 hx
  rw [List.length_take] at hk
  have h1:=hs i (List.mem_range.2 hi)
  unfold rwB at h1
  rw [Bool.not_eq_true,List.any_eq_false] at h1
  have h2:=h1 k (List.mem_range.2 (by omega))
  have ek:l.getD k default=(l.take i)[k]'(by rw [List.length_take];omega):=by simp [List.getD_eq_getElem?_getD,show k < l.length by omega]
  unfold prB at h2
  rw [Bool.not_eq_true,List.any_eq_false] at h2
  simp only at h2
  rw [← ek]
  refine (Qjf (h _ (hg hi)) (h _ (hg (show k < l.length by omega)))).1 fun s hs=>?_
  have:=h2 s (List.mem_range.2 hs)
  simpa using this
 ·intro hp i hi
  have hi:=List.mem_range.1 hi
  unfold rwB
  rw [Bool.not_eq_true,List.any_eq_false]
  intro k hk
  have hk:=List.mem_range.1 hk
  unfold prB
  rw [Bool.not_eq_true,List.any_eq_false]
  intro s hs
  have hi':i < l.length:=hi
  have h1:=hp i hi'
  rw [List.nil_append,WT] at h1
  have hkl:k < l.length:=by omega
  have h2:=h1 (l.getD k default) (by
   rw [List.mem_iff_getElem]
   exact ⟨k,by rw [List.length_take];omega,by simp [List.getD_eq_getElem?_getD,hkl]⟩)
  have:=(Qjf (h _ (hg hi')) (h _ (hg hkl))).2 h2 s (List.mem_range.1 hs)
  simpa using this
theorem Qhh {c:Chart} (hv:Val c):∀ t ∈ c.sold,0≤t.frm∧t.frm < t.to∧t.to≤c.secs:=fun t ht=>by
 have:=hv.tk t ht
 exact ⟨this.frm,this.way,this.to⟩
theorem Qh9 {c:Chart} (h:zu c=0):PWr [] c.sold:=by
 rw [YB]
 intro i hi
 unfold zu at h
 split at h
 ·exact absurd h ‹_›
 rw [List.nil_append]
 exact (Yd h i hi).2
theorem Ug {bs:List Bunk}:∀ {m:Nat} {l:List Bunk},l ∈ alL bs m→∀ b ∈ l,b ∈ bs
 |0,l,hl,b,hb=>by rw [List.mem_singleton.1 hl] at hb;simp at hb
 |m+1,l,hl,b,hb=>by
  obtain ⟨b0,h0,hl⟩:=List.mem_flatMap.1 hl
  obtain ⟨q,hq,rfl⟩:=List.mem_map.1 hl
  rcases List.mem_cons.1 hb with rfl|hb
  ·exact h0
  ·exact Ug hq b hb
theorem Qgf {c:Chart} {a:Ask} (h:zw c a=0) {l:List Bunk} (hl:l ∈ alL (qV c.cabins) a.sexes.length) (hne:l ≠ []):YO c.cabins a c.sold [] l=Wh c a l:=by
 have hc:=(yK h).1
 have hv:=QK hc
 have hw:=UB h
 have hll:=ZC l hl
 have hT:QR a l l.length=tkR a 0 l:=by rw [UN a l l.length (Nat.le_refl _),List.take_length]
 have hways:∀ t ∈ c.sold++QR a l l.length,0≤t.frm∧t.frm < t.to∧t.to≤c.secs:=fun t ht=>by
  rcases List.mem_append.1 ht with ht|ht
  ·exact Qhh hv t ht
  ·rw [hT] at ht
   obtain ⟨i,b,_,_,rfl⟩:=VU ht
   exact hw
 rw [Bool.eq_iff_iff,Qc0 hw.2.1 l c.sold [] (fun b hb=>by simp at hb)]
 unfold Wh
 rw [Bool.and_eq_true]
 have e1:(!strB ⟨c.cabins,c.secs,c.sold++QR a l l.length⟩)=true ↔ PWr [] (c.sold++QR a l l.length):=by
  rw [← UV (cs:=c.cabins) hways]
  simp
 rw [e1,QcK,hT]
 simp only [List.nil_append]
 constructor
 ·rintro ⟨h1,h2⟩
  exact ⟨h2 hne,Qh9 hc,h1⟩
 ·rintro ⟨h1,_,h3⟩
  exact ⟨h3,fun _=>h1⟩
theorem Jr {c:Chart} {a:Ask} (h:zw c a=0) (hs:1≤a.sexes.length):xP c a=(alL (qV c.cabins) a.sexes.length).filter (Wh c a):=by
 have e1:xP c a=(plP c a).map (·.1):=by unfold xP;rw [if_pos h]
 rw [e1]
 unfold plP
 rw [QaQ]
 simp only [List.nil_append,List.map_id']
 refine List.filter_congr fun l hl=>Qgf h hl ?_
 rintro rfl
 have:=ZC _ hl
 simp at this
 omega
theorem Qb8 {c:Chart} {a:Ask} (h:zw c a=0) (hs:1≤a.sexes.length) {l:List Bunk} (hl:l ∈ xP c a):wO c a l=true:=by
 rw [Jr h hs] at hl
 obtain ⟨h1,h2⟩:=List.mem_filter.1 hl
 have hll:=ZC l h1
 have hc:=(yK h).1
 have hv:=QK hc
 have hw:=UB h
 have hT:QR a l l.length=tkR a 0 l:=by rw [UN a l l.length (Nat.le_refl _),List.take_length]
 have hway:∀ t ∈ c.sold++QR a l l.length,TkOk c t:=fun t ht=>by
  rcases List.mem_append.1 ht with ht|ht
  ·exact hv.tk t ht
  ·rw [hT] at ht
   obtain ⟨i,b,hi,hb,rfl⟩:=VU ht
   exact Qcd h (by omega) (Ug h1 b hb)
 unfold Wh at h2
 rw [Bool.and_eq_true] at h2
 have hp:PWr [] (c.sold++QR a l l.length):=(UV (cs:=c.cabins) (secs:=c.secs) (fun t ht=>⟨(hway t ht).frm,(hway t ht).way,(hway t ht).to⟩)).1 (by simpa using h2.2)
 rw [YB] at hp
 unfold wO
 rw [h2.1,decide_eq_true hll,Bool.and_true,Bool.true_and,Bool.and_eq_true,List.all_eq_true,decide_eq_true_eq]
 refine ⟨fun b hb=>?_, ?_⟩
 ·obtain ⟨i,k,g1,g2,rfl⟩:=X6.1 (Ug h1 b hb)
  unfold jN
  rw [Bool.and_eq_true,wL,wL]
  refine ⟨⟨by simp only;omega,by simp only;omega⟩,by simp only;omega, ?_⟩
  simp only [Int.toNat_natCast]
  omega
 ·unfold zW
  refine yo fun j hj=>?_
  rw [List.length_map,List.length_range] at hj
  rw [List.getD_eq_getElem?_getD,List.getElem?_map,List.getElem?_range hj]
  have hk:=hway _ (yB (d:=default) hj)
  exact VH (cs:=c.cabins) (secs:=c.secs) hk.party hk.sex hk.cab hk.bed ⟨hk.frm,hk.way,hk.to⟩ (by have:=hp j hj;rwa [List.nil_append] at this)
theorem Qd8 {l m:List Int} (h0:l.length=m.length) (h:∀ j,j < l.length→l.getD j 0=m.getD j 0):l=m:=Z9 h0 h
theorem Qi5 {a b c d e f:Int} {g:Bool} {a' b' c' d' e' f':Int} {g':Bool}:decide ((⟨a,b,c,d,e,f,g⟩:Tk)=⟨a',b',c',d',e',f',g'⟩)=(decide (a=a') && (decide (b=b') && (decide (c=c') && (decide (d=d') && (decide (e=e') && (decide (f=f') && (g == g'))))))):=by
 rw [Bool.eq_iff_iff];simp
theorem Qik {a:Int} {g:Bool} {a':Int} {g':Bool}:decide ((⟨a,g⟩:Cabin)=⟨a',g'⟩)=(decide (a=a') && (g == g')):=by
 rw [Bool.eq_iff_iff];simp
def VN (l m:List Int) (k:Nat):St:={ t:=asg [(0,qz l),(1,qz m),(4,aB false),(5,aI k)],h:=qj [],n:=0 }
def vM:=vj @ty3 (vj @Qe (vj @ti3.eq_1 @x8.eq_1))
def Qx:=vj @aI.eq_1 (vj @aB.eq_1 (vj @qz.eq_1 (vj @zF.eq_1 (@XE))))
theorem QkE (l m:List Int) (hl:l.length≤maxLen) (hm:m.length≤maxLen):FnV Tryz.prog 41 [qz l,qz m] (aB (decide (l=m))):=by
 have env:Env (fun _=>True) Tryz.prog tyB (tab []):=qL trivial
 refine Fn.of (A:=fun _=>True) (n0:=0) (D:=noD) (Fn0 Tryz.func41 rfl (fun vs w=>by kernel_rfl) (by kernel_rfl)) (by simp) (by simp [AV.ids,qz]) (fun i o h=>by cases h) (fun _ _ _ _=>trivial) qF ?_
 have hmx:maxLen=9223372036854775807:=by decide
 by_cases h0:l.length=m.length
 ·have d0:decide ((l.length:Int)=(m.length:Int))=true:=decide_eq_true (by omega)
  repeat' (first|(apply nx;with_reducible constructor)|refine uq (by decide) ?_|((first|refine vx env fun Q hQ=>?_|refine vz fun Q hQ=>?_);simp only [vkt,seval,vM,Qx,VN,Bool.true_and,Bool.false_and,d0];(try simp only [ite_and]);(repeat' (first|with_reducible assumption|refine And.intro ?_ ?_|intro hp));all_goals (first|(refine hQ _ ?_;clear hQ Q)|(refine hQ _ (fun h=>?_) (fun h=>?_) <;> clear hQ Q <;> (try simp only [vki,reduceCtorEq] at h))|(refine vq ?_;kernel_rfl)|omega|assumption|with_reducible rfl|skip)))
  refine qN (fun k:{ k:Nat // k≤l.length∧∀ j,j < k→l.getD j 0=m.getD j 0 }=>VN l m k.1) (fun k=>l.length - k.1) ⟨0,Nat.zero_le _,fun j h=>absurd h (Nat.not_lt_zero _)⟩ ?_ fun ⟨k,hk,hno⟩=>?_
  ·(refine Le.ok some [] ?_;constructor;all_goals (try simp only [vle,vkt,seval,vM,Qx,VN,Bool.true_and,Bool.false_and]))
   all_goals first|rfl|(simp;done)
  simp only at hk hno ⊢
  simp only [VN]
  by_cases hlt:k < l.length
  ·have d1:decide ((k:Int) < (l.length:Int))=true:=decide_eq_true (by omega)
   have hlm:k < m.length:=by omega
   have k0:((k:Int)).toNat=k:=rfl
   have e9:IntKind.wrap .i64 ((k:Int)+1)=((k+1:Nat):Int):=by rw [wrap64 (by omega) (by omega)];rfl
   obtain ⟨x,hx⟩:∃ x,l.getD k 0=x:=⟨_,rfl⟩
   obtain ⟨y,hy⟩:∃ x,m.getD k 0=x:=⟨_,rfl⟩
   have hxy:(decide (x=y))=decide (x=y):=by rfl
   have hne:¬ x=y→decide (l=m)=false:=fun h=>decide_eq_false fun e=>h (by rw [← hx,← hy,e])
   cases q:decide (x=y) with
   |false =>
    rw [hne (of_decide_eq_false q)]
    repeat' (first|(apply nx;with_reducible constructor)|refine uq (by decide) ?_|((first|refine vx env fun Q hQ=>?_|refine vz fun Q hQ=>?_);simp only [vkt,seval,vM,Qx,VN,Bool.true_and,Bool.false_and,d1,k0,hlt,hlm,hx,hy,hxy,q];(try simp only [ite_and]);(repeat' (first|with_reducible assumption|refine And.intro ?_ ?_|intro hp));all_goals (first|(refine hQ _ ?_;clear hQ Q)|(refine hQ _ (fun h=>?_) (fun h=>?_) <;> clear hQ Q <;> (try simp only [vki,reduceCtorEq] at h))|(refine vq ?_;kernel_rfl)|omega|assumption|with_reducible rfl|skip)))
    (simp only [vrt,Tryz.results41,vkt,seval,vM,Qx,VN,Bool.true_and,Bool.false_and];refine Fin.val rfl ?_;(try simp only [AV.le,AV.leL]))
    all_goals first|rfl|(simp;done)
   |true =>
    repeat' (first|(apply nx;with_reducible constructor)|refine uq (by decide) ?_|((first|refine vx env fun Q hQ=>?_|refine vz fun Q hQ=>?_);simp only [vkt,seval,vM,Qx,VN,Bool.true_and,Bool.false_and,d1,k0,hlt,hlm,hx,hy,hxy,q,e9];(try simp only [ite_and]);(repeat' (first|with_reducible assumption|refine And.intro ?_ ?_|intro hp));all_goals (first|(refine hQ _ ?_;clear hQ Q)|(refine hQ _ (fun h=>?_) (fun h=>?_) <;> clear hQ Q <;> (try simp only [vki,reduceCtorEq] at h))|(refine vq ?_;kernel_rfl)|omega|assumption|with_reducible rfl|skip)))
    refine ⟨⟨k+1,hlt,fun j hj=>?_⟩,by show l.length - (k+1) < l.length - k;omega, ?_⟩
    ·rcases Nat.lt_or_eq_of_le (Nat.le_of_lt_succ hj) with h1|h1
     ·exact hno j h1
     ·rw [h1,hx,hy];exact of_decide_eq_true q
    ·(refine Le.ok some [] ?_;constructor;all_goals (try simp only [vle,vkt,seval,vM,Qx,VN,Bool.true_and,Bool.false_and]))
     all_goals first|rfl|(simp;done)
  ·have d1:decide ((k:Int) < (l.length:Int))=false:=decide_eq_false (by omega)
   obtain rfl:k=l.length:=by omega
   rw [decide_eq_true (Qd8 h0 hno)]
   repeat' (first|(apply nx;with_reducible constructor)|refine uq (by decide) ?_|((first|refine vx env fun Q hQ=>?_|refine vz fun Q hQ=>?_);simp only [vkt,seval,vM,Qx,VN,Bool.true_and,Bool.false_and,d1];(try simp only [ite_and]);(repeat' (first|with_reducible assumption|refine And.intro ?_ ?_|intro hp));all_goals (first|(refine hQ _ ?_;clear hQ Q)|(refine hQ _ (fun h=>?_) (fun h=>?_) <;> clear hQ Q <;> (try simp only [vki,reduceCtorEq] at h))|(refine vq ?_;kernel_rfl)|omega|assumption|with_reducible rfl|skip)))
   (simp only [vrt,Tryz.results41,vkt,seval,vM,Qx,VN,Bool.true_and,Bool.false_and];refine Fin.val rfl ?_;(try simp only [AV.le,AV.leL]))
   all_goals first|rfl|(simp;done)
 ·have d0:decide ((l.length:Int)=(m.length:Int))=false:=decide_eq_false (by omega)
  rw [decide_eq_false (fun e=>h0 (by rw [e]))]
  repeat' (first|(apply nx;with_reducible constructor)|refine uq (by decide) ?_|((first|refine vx env fun Q hQ=>?_|refine vz fun Q hQ=>?_);simp only [vkt,seval,vM,Qx,VN,Bool.true_and,Bool.false_and,d0];(try simp only [ite_and]);(repeat' (first|with_reducible assumption|refine And.intro ?_ ?_|intro hp));all_goals (first|(refine hQ _ ?_;clear hQ Q)|(refine hQ _ (fun h=>?_) (fun h=>?_) <;> clear hQ Q <;> (try simp only [vki,reduceCtorEq] at h))|(refine vq ?_;kernel_rfl)|omega|assumption|with_reducible rfl|skip)))
  (simp only [vrt,Tryz.results41,vkt,seval,vM,Qx,VN,Bool.true_and,Bool.false_and];refine Fin.val rfl ?_;(try simp only [AV.le,AV.leL]))
  all_goals first|rfl|(simp;done)
def Y5:List AV→Prop × AV
 |[.sl l,.sl m]=>(l=(l.map zb).map zF∧m=(m.map zb).map zF∧(l.map zb).length≤maxLen∧(m.map zb).length≤maxLen,aB (decide ((l.map zb)=(m.map zb))))
 |_=>(False,.junk)
theorem eeqI {A:Frm→Prop}:qE A Tryz.prog 41 (qX true Y5):=qW fun vs hv h=>by
 clear hv
 unfold Y5 at h ⊢
 split at h
 ·rename_i l m;obtain ⟨q0,q1,k0,k1⟩:=h
  refine ⟨by first|trivial|(simp [AV.plain,AV.plainL,aI,aB,qz,qc,ql,qf,aTk,cTk];done)|(repeat' split) <;> simp [AV.plain,AV.plainL,aI,aB,qz,qc,ql,qf,aTk,cTk],fun _=>(by simp [AV.flat,AV.flatL,aI,aB]), ?_⟩
  have:=QkE (l.map zb) (m.map zb) k0 k1
  simp only [qz,← q0,← q1] at this
  first|exact this|(simp only [qz,← q0,← q1];exact this)
 ·exact h.elim
def VO (l m:List Tk) (k:Nat):St:={ t:=asg [(0,ql l),(1,ql m),(4,aB false),(5,aI k)],h:=qj [],n:=0 }
def vL:=vj @ty3 (vj @x9 (vj @yU (vj @ti3.eq_1 (vj @xD.eq_1 @yA.eq_1))))
def Qs:=vj @aI.eq_1 (@aB.eq_1)
theorem QkP (l m:List Tk) (hl:l.length≤maxLen) (hm:m.length≤maxLen):FnV Tryz.prog 62 [ql l,ql m] (aB (decide (l=m))):=by
 have env:Env (fun _=>True) Tryz.prog tyB (tab []):=qL trivial
 refine Fn.of (A:=fun _=>True) (n0:=0) (D:=noD) (Fn0 Tryz.func62 rfl (fun vs w=>by kernel_rfl) (by kernel_rfl)) (by simp) (by simp [AV.ids,ql]) (fun i o h=>by cases h) (fun _ _ _ _=>trivial) qF ?_
 have hmx:maxLen=9223372036854775807:=by decide
 by_cases h0:l.length=m.length
 ·have d0:decide ((l.length:Int)=(m.length:Int))=true:=decide_eq_true (by omega)
  repeat' (first|(apply nx;with_reducible constructor)|refine uq (by decide) ?_|((first|refine vx env fun Q hQ=>?_|refine vz fun Q hQ=>?_);simp only [vkt,seval,vL,Qs,ql,eTk,gTk,VO,Bool.true_and,Bool.false_and,d0];(try simp only [ite_and]);(repeat' (first|with_reducible assumption|refine And.intro ?_ ?_|intro hp));all_goals (first|(refine hQ _ ?_;clear hQ Q)|(refine hQ _ (fun h=>?_) (fun h=>?_) <;> clear hQ Q <;> (try simp only [vki,reduceCtorEq] at h))|(refine vq ?_;kernel_rfl)|omega|assumption|with_reducible rfl|skip)))
  refine qN (fun k:{ k:Nat // k≤l.length∧∀ j,j < k→l.getD j default=m.getD j default }=>VO l m k.1) (fun k=>l.length - k.1) ⟨0,Nat.zero_le _,fun j h=>absurd h (Nat.not_lt_zero _)⟩ ?_ fun ⟨k,hk,hno⟩=>?_
  ·(refine Le.ok some [] ?_;constructor;all_goals (try simp only [vle,vkt,seval,vL,Qs,ql,eTk,gTk,VO,Bool.true_and,Bool.false_and]))
   all_goals first|rfl|(simp;done)
  simp only at hk hno ⊢
  simp only [VO]
  by_cases hlt:k < l.length
  ·have d1:decide ((k:Int) < (l.length:Int))=true:=decide_eq_true (by omega)
   have hlm:k < m.length:=by omega
   have k0:((k:Int)).toNat=k:=rfl
   have e9:IntKind.wrap .i64 ((k:Int)+1)=((k+1:Nat):Int):=by rw [wrap64 (by omega) (by omega)];rfl
   obtain ⟨x,hx⟩:∃ x,l.getD k default=x:=⟨_,rfl⟩
   obtain ⟨y,hy⟩:∃ x,m.getD k default=x:=⟨_,rfl⟩
   have hxy:(decide (x.party=y.party) && (decide (x.sex=y.sex) && (decide (x.cab=y.cab) && (decide (x.bed=y.bed) && (decide (x.frm=y.frm) && (decide (x.to=y.to) && ((x.dog == y.dog))))))))=decide (x=y):=by cases x;cases y;rw [Qi5]
   have hne:¬ x=y→decide (l=m)=false:=fun h=>decide_eq_false fun e=>h (by rw [← hx,← hy,e])
   cases q:decide (x=y) with
   |false =>
    rw [hne (of_decide_eq_false q)]
    repeat' (first|(apply nx;with_reducible constructor)|refine uq (by decide) ?_|((first|refine vx env fun Q hQ=>?_|refine vz fun Q hQ=>?_);simp only [vkt,seval,vL,Qs,ql,eTk,gTk,VO,Bool.true_and,Bool.false_and,d1,k0,hlt,hlm,hx,hy,hxy,q];(try simp only [ite_and]);(repeat' (first|with_reducible assumption|refine And.intro ?_ ?_|intro hp));all_goals (first|(refine hQ _ ?_;clear hQ Q)|(refine hQ _ (fun h=>?_) (fun h=>?_) <;> clear hQ Q <;> (try simp only [vki,reduceCtorEq] at h))|(refine vq ?_;kernel_rfl)|omega|assumption|with_reducible rfl|skip)))
    (simp only [vrt,Tryz.results62,vkt,seval,vL,Qs,ql,eTk,gTk,VO,Bool.true_and,Bool.false_and];refine Fin.val rfl ?_;(try simp only [AV.le,AV.leL]))
    all_goals first|rfl|(simp;done)
   |true =>
    repeat' (first|(apply nx;with_reducible constructor)|refine uq (by decide) ?_|((first|refine vx env fun Q hQ=>?_|refine vz fun Q hQ=>?_);simp only [vkt,seval,vL,Qs,ql,eTk,gTk,VO,Bool.true_and,Bool.false_and,d1,k0,hlt,hlm,hx,hy,hxy,q,e9];(try simp only [ite_and]);(repeat' (first|with_reducible assumption|refine And.intro ?_ ?_|intro hp));all_goals (first|(refine hQ _ ?_;clear hQ Q)|(refine hQ _ (fun h=>?_) (fun h=>?_) <;> clear hQ Q <;> (try simp only [vki,reduceCtorEq] at h))|(refine vq ?_;kernel_rfl)|omega|assumption|with_reducible rfl|skip)))
    refine ⟨⟨k+1,hlt,fun j hj=>?_⟩,by show l.length - (k+1) < l.length - k;omega, ?_⟩
    ·rcases Nat.lt_or_eq_of_le (Nat.le_of_lt_succ hj) with h1|h1
     ·exact hno j h1
     ·rw [h1,hx,hy];exact of_decide_eq_true q
    ·(refine Le.ok some [] ?_;constructor;all_goals (try simp only [vle,vkt,seval,vL,Qs,ql,eTk,gTk,VO,Bool.true_and,Bool.false_and]))
     all_goals first|rfl|(simp;done)
  ·have d1:decide ((k:Int) < (l.length:Int))=false:=decide_eq_false (by omega)
   obtain rfl:k=l.length:=by omega
   rw [decide_eq_true (Z9 h0 hno)]
   repeat' (first|(apply nx;with_reducible constructor)|refine uq (by decide) ?_|((first|refine vx env fun Q hQ=>?_|refine vz fun Q hQ=>?_);simp only [vkt,seval,vL,Qs,ql,eTk,gTk,VO,Bool.true_and,Bool.false_and,d1];(try simp only [ite_and]);(repeat' (first|with_reducible assumption|refine And.intro ?_ ?_|intro hp));all_goals (first|(refine hQ _ ?_;clear hQ Q)|(refine hQ _ (fun h=>?_) (fun h=>?_) <;> clear hQ Q <;> (try simp only [vki,reduceCtorEq] at h))|(refine vq ?_;kernel_rfl)|omega|assumption|with_reducible rfl|skip)))
   (simp only [vrt,Tryz.results62,vkt,seval,vL,Qs,ql,eTk,gTk,VO,Bool.true_and,Bool.false_and];refine Fin.val rfl ?_;(try simp only [AV.le,AV.leL]))
   all_goals first|rfl|(simp;done)
 ·have d0:decide ((l.length:Int)=(m.length:Int))=false:=decide_eq_false (by omega)
  rw [decide_eq_false (fun e=>h0 (by rw [e]))]
  repeat' (first|(apply nx;with_reducible constructor)|refine uq (by decide) ?_|((first|refine vx env fun Q hQ=>?_|refine vz fun Q hQ=>?_);simp only [vkt,seval,vL,Qs,ql,eTk,gTk,VO,Bool.true_and,Bool.false_and,d0];(try simp only [ite_and]);(repeat' (first|with_reducible assumption|refine And.intro ?_ ?_|intro hp));all_goals (first|(refine hQ _ ?_;clear hQ Q)|(refine hQ _ (fun h=>?_) (fun h=>?_) <;> clear hQ Q <;> (try simp only [vki,reduceCtorEq] at h))|(refine vq ?_;kernel_rfl)|omega|assumption|with_reducible rfl|skip)))
  (simp only [vrt,Tryz.results62,vkt,seval,vL,Qs,ql,eTk,gTk,VO,Bool.true_and,Bool.false_and];refine Fin.val rfl ?_;(try simp only [AV.le,AV.leL]))
  all_goals first|rfl|(simp;done)
def Yl:List AV→Prop × AV
 |[.sl l,.sl m]=>(l=(l.map dTk).map eTk∧m=(m.map dTk).map eTk∧(l.map dTk).length≤maxLen∧(m.map dTk).length≤maxLen,aB (decide ((l.map dTk)=(m.map dTk))))
 |_=>(False,.junk)
theorem eeqK {A:Frm→Prop}:qE A Tryz.prog 62 (qX true Yl):=qW fun vs hv h=>by
 clear hv
 unfold Yl at h ⊢
 split at h
 ·rename_i l m;obtain ⟨q0,q1,k0,k1⟩:=h
  refine ⟨by first|trivial|(simp [AV.plain,AV.plainL,aI,aB,qz,qc,ql,qf,aTk,cTk];done)|(repeat' split) <;> simp [AV.plain,AV.plainL,aI,aB,qz,qc,ql,qf,aTk,cTk],fun _=>(by simp [AV.flat,AV.flatL,aI,aB]), ?_⟩
  have:=QkP (l.map dTk) (m.map dTk) k0 k1
  simp only [ql,← q0,← q1] at this
  first|exact this|(simp only [ql,← q0,← q1];exact this)
 ·exact h.elim
def ecS (c d:Chart) (k:Nat):St:={ t:=asg [(2,.ptr 0 0),(3,.ptr 1 0),(4,aB false),(5,aI k)],h:=qj [(0,.cells (qb c)),(1,.cells (qb d))],n:=2 }
def yF:=vj @ty3 (vj @W9 (vj @x9 (vj @yc (vj @yU (vj @Jz (vj @ti3.eq_1 (vj @ZT.eq_1 (vj @xD.eq_1 (vj @jM.eq_1 (vj @yA.eq_1 @Z4.eq_1))))))))))
def xR:=vj @aI.eq_1 (@aB.eq_1)
theorem Qkt (c d:Chart) (h1:c.cabins.length≤maxLen) (h2:c.sold.length≤maxLen) (h4:d.sold.length≤maxLen):FnV Tryz.prog 21 [qa c,qa d] (aB (decide (c=d))):=by
 have env:Env (fun _=>True) Tryz.prog tyB (tab [(62,qX true Yl)]):=qL ⟨eeqK,trivial⟩
 refine Fn.of (A:=fun _=>True) (n0:=0) (D:=noD) (Fn0 Tryz.func21 rfl (fun vs w=>by kernel_rfl) (by kernel_rfl)) (by simp) (by simp [AV.ids,AV.idsL,qa,qb]) (fun i o h=>by cases h) (fun _ _ _ _=>trivial) qF ?_
 have hmx:maxLen=9223372036854775807:=by decide
 have hE:decide (c=d)=(decide (c.cabins=d.cabins) && (decide (c.secs=d.secs) && decide (c.sold=d.sold))):=by
  cases c;cases d;rw [Bool.eq_iff_iff];simp
 rw [hE]
 by_cases h0:c.cabins.length=d.cabins.length
 ·have d0:decide ((c.cabins.length:Int)=(d.cabins.length:Int))=true:=decide_eq_true (by omega)
  cases q0:decide (c.secs=d.secs) with
  |false =>
   rw [Bool.false_and,Bool.and_false]
   repeat' (first|(apply nx;with_reducible constructor)|refine uq (by decide) ?_|((first|refine vx env fun Q hQ=>?_|refine vz fun Q hQ=>?_);simp only [vkt,seval,yF,xR,ql,qa,qb,qh,qC,mTk,ecS,Yl,Bool.true_and,Bool.false_and,List.length_map,d0,q0];(try simp only [ite_and]);(repeat' (first|with_reducible assumption|refine And.intro ?_ ?_|intro hp));all_goals (first|(refine hQ _ ?_;clear hQ Q)|(refine hQ _ (fun h=>?_) (fun h=>?_) <;> clear hQ Q <;> (try simp only [vki,reduceCtorEq] at h))|(refine vq ?_;kernel_rfl)|omega|assumption|with_reducible rfl|skip)))
   (simp only [vrt,Tryz.results21,vkt,seval,yF,xR,ql,qa,qb,qh,qC,mTk,ecS,Yl,Bool.true_and,Bool.false_and,List.length_map];refine Fin.val rfl ?_;(try simp only [AV.le,AV.leL]))
   all_goals first|rfl|(simp;done)
  |true =>
   rw [Bool.true_and]
   repeat' (first|(apply nx;with_reducible constructor)|refine uq (by decide) ?_|((first|refine vx env fun Q hQ=>?_|refine vz fun Q hQ=>?_);simp only [vkt,seval,yF,xR,ql,qa,qb,qh,qC,mTk,ecS,Yl,Bool.true_and,Bool.false_and,List.length_map,d0,q0];(try simp only [ite_and]);(repeat' (first|with_reducible assumption|refine And.intro ?_ ?_|intro hp));all_goals (first|(refine hQ _ ?_;clear hQ Q)|(refine hQ _ (fun h=>?_) (fun h=>?_) <;> clear hQ Q <;> (try simp only [vki,reduceCtorEq] at h))|(refine vq ?_;kernel_rfl)|omega|assumption|with_reducible rfl|skip)))
   refine qN (fun k:{ k:Nat // k≤c.cabins.length∧∀ j,j < k→c.cabins.getD j default=d.cabins.getD j default }=>ecS c d k.1) (fun k=>c.cabins.length - k.1) ⟨0,Nat.zero_le _,fun j h=>absurd h (Nat.not_lt_zero _)⟩ ?_ fun ⟨k,hk,hno⟩=>?_
   ·simp only [ecS]
    (refine Le.ok some [] ?_;constructor;all_goals (try simp only [vle,vkt,seval,yF,xR,ql,qa,qb,qh,qC,mTk,ecS,Yl,Bool.true_and,Bool.false_and,List.length_map]))
    all_goals first|rfl|(simp;done)
   simp only at hk hno ⊢
   simp only [ecS]
   by_cases hlt:k < c.cabins.length
   ·have d1:decide ((k:Int) < (c.cabins.length:Int))=true:=decide_eq_true (by omega)
    have hlm:k < d.cabins.length:=by omega
    have k0:((k:Int)).toNat=k:=rfl
    have e9:IntKind.wrap .i64 ((k:Int)+1)=((k+1:Nat):Int):=by rw [wrap64 (by omega) (by omega)];rfl
    obtain ⟨x,hx⟩:∃ x,c.cabins.getD k default=x:=⟨_,rfl⟩
    obtain ⟨y,hy⟩:∃ x,d.cabins.getD k default=x:=⟨_,rfl⟩
    have hxy:(decide (x.beds=y.beds) && (x.door == y.door))=decide (x=y):=by cases x;cases y;rw [Qik]
    have hne:¬ x=y→decide (c.cabins=d.cabins)=false:=fun h=>decide_eq_false fun e=>h (by rw [← hx,← hy,e])
    cases q:decide (x=y) with
    |false =>
     rw [hne (of_decide_eq_false q),Bool.false_and]
     repeat' (first|(apply nx;with_reducible constructor)|refine uq (by decide) ?_|((first|refine vx env fun Q hQ=>?_|refine vz fun Q hQ=>?_);simp only [vkt,seval,yF,xR,ql,qa,qb,qh,qC,mTk,ecS,Yl,Bool.true_and,Bool.false_and,List.length_map,d1,k0,hlt,hlm,hx,hy,hxy,q];(try simp only [ite_and]);(repeat' (first|with_reducible assumption|refine And.intro ?_ ?_|intro hp));all_goals (first|(refine hQ _ ?_;clear hQ Q)|(refine hQ _ (fun h=>?_) (fun h=>?_) <;> clear hQ Q <;> (try simp only [vki,reduceCtorEq] at h))|(refine vq ?_;kernel_rfl)|omega|assumption|with_reducible rfl|skip)))
     (simp only [vrt,Tryz.results21,vkt,seval,yF,xR,ql,qa,qb,qh,qC,mTk,ecS,Yl,Bool.true_and,Bool.false_and,List.length_map];refine Fin.val rfl ?_;(try simp only [AV.le,AV.leL]))
     all_goals first|rfl|(simp;done)
    |true =>
     repeat' (first|(apply nx;with_reducible constructor)|refine uq (by decide) ?_|((first|refine vx env fun Q hQ=>?_|refine vz fun Q hQ=>?_);simp only [vkt,seval,yF,xR,ql,qa,qb,qh,qC,mTk,ecS,Yl,Bool.true_and,Bool.false_and,List.length_map,d1,k0,hlt,hlm,hx,hy,hxy,q,e9];(try simp only [ite_and]);(repeat' (first|with_reducible assumption|refine And.intro ?_ ?_|intro hp));all_goals (first|(refine hQ _ ?_;clear hQ Q)|(refine hQ _ (fun h=>?_) (fun h=>?_) <;> clear hQ Q <;> (try simp only [vki,reduceCtorEq] at h))|(refine vq ?_;kernel_rfl)|omega|assumption|with_reducible rfl|skip)))
     refine ⟨⟨k+1,hlt,fun j hj=>?_⟩,by show c.cabins.length - (k+1) < c.cabins.length - k;omega, ?_⟩
     ·rcases Nat.lt_or_eq_of_le (Nat.le_of_lt_succ hj) with h1|h1
      ·exact hno j h1
      ·rw [h1,hx,hy];exact of_decide_eq_true q
     ·simp only [ecS]
      (refine Le.ok some [] ?_;constructor;all_goals (try simp only [vle,vkt,seval,yF,xR,ql,qa,qb,qh,qC,mTk,ecS,Yl,Bool.true_and,Bool.false_and,List.length_map]))
      all_goals first|rfl|(simp;done)
   ·have d1:decide ((k:Int) < (c.cabins.length:Int))=false:=decide_eq_false (by omega)
    obtain rfl:k=c.cabins.length:=by omega
    rw [decide_eq_true (Z9 h0 hno),Bool.true_and]
    repeat' (first|(apply nx;with_reducible constructor)|refine uq (by decide) ?_|((first|refine vx env fun Q hQ=>?_|refine vz fun Q hQ=>?_);simp only [vkt,seval,yF,xR,ql,qa,qb,qh,qC,mTk,ecS,Yl,Bool.true_and,Bool.false_and,List.length_map,d1,h2,h4];(try simp only [ite_and]);(repeat' (first|with_reducible assumption|refine And.intro ?_ ?_|intro hp));all_goals (first|(refine hQ _ ?_;clear hQ Q)|(refine hQ _ (fun h=>?_) (fun h=>?_) <;> clear hQ Q <;> (try simp only [vki,reduceCtorEq] at h))|(refine vq ?_;kernel_rfl)|omega|assumption|with_reducible rfl|skip)))
    (simp only [vrt,Tryz.results21,vkt,seval,yF,xR,ql,qa,qb,qh,qC,mTk,ecS,Yl,Bool.true_and,Bool.false_and,List.length_map];refine Fin.val rfl ?_;(try simp only [AV.le,AV.leL]))
    all_goals first|rfl|(simp;done)
 ·have d0:decide ((c.cabins.length:Int)=(d.cabins.length:Int))=false:=decide_eq_false (by omega)
  rw [decide_eq_false (fun e:c.cabins=d.cabins=>h0 (by rw [e])),Bool.false_and]
  repeat' (first|(apply nx;with_reducible constructor)|refine uq (by decide) ?_|((first|refine vx env fun Q hQ=>?_|refine vz fun Q hQ=>?_);simp only [vkt,seval,yF,xR,ql,qa,qb,qh,qC,mTk,ecS,Yl,Bool.true_and,Bool.false_and,List.length_map,d0];(try simp only [ite_and]);(repeat' (first|with_reducible assumption|refine And.intro ?_ ?_|intro hp));all_goals (first|(refine hQ _ ?_;clear hQ Q)|(refine hQ _ (fun h=>?_) (fun h=>?_) <;> clear hQ Q <;> (try simp only [vki,reduceCtorEq] at h))|(refine vq ?_;kernel_rfl)|omega|assumption|with_reducible rfl|skip)))
  (simp only [vrt,Tryz.results21,vkt,seval,yF,xR,ql,qa,qb,qh,qC,mTk,ecS,Yl,Bool.true_and,Bool.false_and,List.length_map];refine Fin.val rfl ?_;(try simp only [AV.le,AV.leL]))
  all_goals first|rfl|(simp;done)
def WZ:List AV→Prop × AV
 |[.agg [.sl c0,.v (.int .i64 c1),.sl c2],.agg [.sl d0,.v (.int .i64 d1),.sl d2]]=>(c0=(c0.map qw).map qh∧c2=(c2.map dTk).map eTk∧d0=(d0.map qw).map qh∧d2=(d2.map dTk).map eTk∧((⟨(c0.map qw),c1,(c2.map dTk)⟩:Chart)).cabins.length≤maxLen∧((⟨(c0.map qw),c1,(c2.map dTk)⟩:Chart)).sold.length≤maxLen∧((⟨(d0.map qw),d1,(d2.map dTk)⟩:Chart)).sold.length≤maxLen,aB (decide (((⟨(c0.map qw),c1,(c2.map dTk)⟩:Chart))=((⟨(d0.map qw),d1,(d2.map dTk)⟩:Chart)))))
 |_=>(False,.junk)
theorem eeqC {A:Frm→Prop}:qE A Tryz.prog 21 (qX true WZ):=qW fun vs hv h=>by
 clear hv
 unfold WZ at h ⊢
 split at h
 ·rename_i c0 c1 c2 d0 d1 d2;obtain ⟨q0,q1,q2,q3,k0,k1,k2⟩:=h
  refine ⟨by first|trivial|(simp [AV.plain,AV.plainL,aI,aB,qz,qc,ql,qf,aTk,cTk];done)|(repeat' split) <;> simp [AV.plain,AV.plainL,aI,aB,qz,qc,ql,qf,aTk,cTk],fun _=>(by simp [AV.flat,AV.flatL,aI,aB]), ?_⟩
  have:=Qkt ((⟨(c0.map qw),c1,(c2.map dTk)⟩:Chart)) ((⟨(d0.map qw),d1,(d2.map dTk)⟩:Chart)) k0 k1 k2
  simp only [qY,qa,aI,ql,qb,← q0,← q1,← q2,← q3] at this
  first|exact this|(simp only [qY,qa,aI,ql,qb,← q0,← q1,← q2,← q3];exact this)
 ·exact h.elim
theorem VI {c:Chart} {a:Ask} (h:zw c a=0) {l:List Bunk} (hl:l ∈ alL (qV c.cabins) a.sexes.length):∀ t ∈ c.sold++QR a l l.length,TkOk c t:=fun t ht=>by
 have hll:=ZC l hl
 have hT:QR a l l.length=tkR a 0 l:=by rw [UN a l l.length (Nat.le_refl _),List.take_length]
 rcases List.mem_append.1 ht with ht|ht
 ·exact (QK (yK h).1).tk t ht
 ·rw [hT] at ht
  obtain ⟨i,b,hi,hb,rfl⟩:=VU ht
  exact Qcd h (by omega) (Ug hl b hb)
theorem QbO {c:Chart} {a:Ask} (h:zw c a=0) (hs:1≤a.sexes.length) {l:List Bunk} (hl:l ∈ alL (qV c.cabins) a.sexes.length):wO c a l=Wh c a l:=by
 cases hq:Wh c a l with
 |true=>exact Qb8 h hs (by rw [Jr h hs];exact List.mem_filter.2 ⟨hl,hq⟩)
 |false =>
  cases hp:wO c a l with
  |false=>rfl
  |true =>
   have hway:=VI h hl
   unfold wO at hp
   simp only [Bool.and_eq_true,decide_eq_true_eq] at hp
   obtain ⟨⟨_,h3⟩,h4⟩:=hp
   have h5:=Yd h3
   have hpw:PWr [] (c.sold++QR a l l.length):=(YB _ _).2 fun i hi=>by rw [List.nil_append];exact (h5 i hi).2
   have hst:=(UV (cs:=c.cabins) (secs:=c.secs) (fun t ht=>⟨(hway t ht).frm,(hway t ht).way,(hway t ht).to⟩)).2 hpw
   unfold Wh at hq
   rw [h4,hst] at hq
   exact absurd hq (by decide)
theorem U1 {c:Chart} {a:Ask} (h:zw c a=0) (hs:1≤a.sexes.length):xP c a=(alL (qV c.cabins) a.sexes.length).filter (wO c a):=by
 rw [Jr h hs]
 exact List.filter_congr fun l hl=>(QbO h hs hl).symm
def rpS (c:Chart) (a:Ask) (Al M:List (List Bunk)) (T:List (Nat × AV)):St:={ t:=asg (T++[(2,.ptr 0 0),(3,.ptr 1 0),(5,.row 3),(6,.row 2)]),h:=qj [(0,.cells (qb c)),(1,.cells (qg a)),(2,.row 44 1 (Al.map qA)),(3,.row 44 1 (M.map qA))],n:=4 }
theorem Qe1 {α:Type} {p:α→Bool} {d:α} {l:List α} {i:Nat} (h:i < l.length):(l.take (i+1)).filter p=(l.take i).filter p++if p (l.getD i d) then [l.getD i d] else []:=by
 rw [List.take_succ_eq_append_getElem h,List.filter_append,List.getD_eq_getElem?_getD,List.getElem?_eq_getElem h]
 cases hp:p l[i] <;> simp [hp]
def yf:=vj @ty3 (vj @yc (vj @Qe (vj @QM (vj @QbK (vj @WQ (vj @xJ (vj @ti3.eq_1 (vj @jM.eq_1 (vj @x8.eq_1 (vj @Qb.eq_1 (vj @Kt.eq_1 (vj @ZO.eq_1 @vZ.eq_1))))))))))))
def Zv:=vj @aI.eq_1 (vj @aB.eq_1 (@QT))
theorem Qcn (c:Chart) (a:Ask) (hc:CarOk c) (hs:c.sold.length≤20) (ha:0 < a.sexes.length∧a.sexes.length≤3):FnV Tryz.prog 54 [qa c,qx a] (zI ((alL (qV c.cabins) a.sexes.length).filter (wO c a))):=by
 have env:Env (fun _=>True) Tryz.prog tyB (tab [(70,qX false zx),(69,fnE (pAl a.sexes.length)),(106,qX true xk)]):=qL ⟨QcW,eAl (Qbi _),Qgh,trivial⟩
 refine Fn.of (A:=fun _=>True) (n0:=0) (D:=noD) (Fn0 Tryz.func54 rfl (fun vs w=>by kernel_rfl) (by kernel_rfl)) (by simp) (by simp [AV.ids,AV.idsL,qa,qb,qx,qg]) (fun i o h=>by cases h) (fun _ _ _ _=>trivial) qF ?_
 have eC:(⟨c.cabins,c.secs,c.sold⟩:Chart)=c:=rfl
 have eA:(⟨a.party,a.frm,a.to,a.sexes,a.dog⟩:Ask)=a:=rfl
 have hmx:(100000:Nat)≤maxLen:=by decide
 have hbds:=hc.beds
 have hCar:=hc
 obtain ⟨ha1,ha2⟩:=ha
 have c6:c.cabins.length≤3:=hc.cabs.2
 have c7:∀ x ∈ c.cabins,x.beds≤3:=fun x hx=>(hbds x hx).2
 have c8:(qV c.cabins).length≤9:=Qdd c6 hbds
 have c5:a.sexes.length≤20:=by omega
 have hA1:∀ p ∈ alL (qV c.cabins) a.sexes.length,p.length=a.sexes.length:=fun p hp=>ZC p hp
 obtain ⟨Al,hAl⟩:∃ Al,alL (qV c.cabins) a.sexes.length=Al:=⟨_,rfl⟩
 have hAll:Al.length≤1000:=by
  rw [← hAl,VX]
  have h1:(qV c.cabins).length ^ a.sexes.length≤9 ^ a.sexes.length:=Nat.pow_le_pow_left c8 _
  have h2:9 ^ a.sexes.length≤9 ^ 3:=Nat.pow_le_pow_right (by decide) ha2
  omega
 rw [hAl] at hA1
 rw [hAl]
 repeat' (first|(apply nx;with_reducible constructor)|refine uq (by decide) ?_|((first|refine vx env fun Q hQ=>?_|refine vz fun Q hQ=>?_);simp only [vkt,seval,yf,Zv,qf,qc,zI,qo,qA,qD,qH,qO,qG,qh,qC,qM,qd,mTk,qa,qb,qx,qg,rpS,zx,pAl,xk,List.length_map,eC,eA,c6,c7,c8,ha2,hAl];(try simp only [ite_and]);(repeat' (first|with_reducible assumption|refine And.intro ?_ ?_|intro hp));all_goals (first|(refine hQ _ ?_;clear hQ Q)|(refine hQ _ (fun h=>?_) (fun h=>?_) <;> clear hQ Q <;> (try simp only [vki,reduceCtorEq] at h))|(refine vq ?_;kernel_rfl)|omega|assumption|with_reducible rfl|skip)))
 refine qN (fun i:{ i:Nat // i≤Al.length }=>rpS c a Al ((Al.take i.1).filter (wO c a)) [(7,aI i.1)]) (fun i=>Al.length - i.1) ⟨0,Nat.zero_le _⟩ ?_ fun ⟨i,hi⟩=>?_
 ·simp only [rpS,List.take_zero,List.filter_nil,List.cons_append,List.nil_append]
  (refine Le.ok (fun i=>if i=3 then none else some i) [] ?_;constructor;all_goals (try simp only [vle,vkt,seval,yf,Zv,qf,qc,zI,qo,qA,qD,qH,qO,qG,qh,qC,qM,qd,mTk,qa,qb,qx,qg,rpS,zx,pAl,xk,List.length_map]))
  all_goals first|rfl|(simp;done)|(intro i hi;rw [if_neg (by omega)];done)
 simp only at hi ⊢
 have hMl:((Al.take i).filter (wO c a)).length≤i:=Nat.le_trans (List.length_filter_le _ _) (by rw [List.length_take];omega)
 by_cases hil:i < Al.length
 ·have d1:decide ((i:Int) < (Al.length:Int))=true:=decide_eq_true (by omega)
  have e9:IntKind.wrap .i64 ((i:Int)+1)=((i+1:Nat):Int):=by rw [wrap64 (by omega) (by omega)];rfl
  have i0:((i:Int)).toNat=i:=rfl
  have hS:=Qe1 (p:=wO c a) (d:=[]) hil
  have hg:=V7 hil
  have hpl:=hA1 (Al.getD i []) (yB hil)
  obtain ⟨p,hp⟩:∃ p,Al.getD i []=p:=⟨_,rfl⟩
  obtain ⟨M,hM⟩:∃ M,(Al.take i).filter (wO c a)=M:=⟨_,rfl⟩
  rw [hp] at hg hS hpl
  rw [hM] at hS hMl
  have hm:M.length+1≤maxLen:=by omega
  have p1:p.length≤maxLen:=by omega
  simp only [rpS,hM,List.cons_append,List.nil_append]
  cases q:wO c a p with
  |true =>
   rw [q,if_pos rfl] at hS
   repeat' (first|(apply nx;with_reducible constructor)|refine uq (by decide) ?_|((first|refine vx env fun Q hQ=>?_|refine vz fun Q hQ=>?_);simp only [vkt,seval,yf,Zv,qf,qc,zI,qo,qA,qD,qH,qO,qG,qh,qC,qM,qd,mTk,qa,qb,qx,qg,rpS,zx,pAl,xk,List.length_map,d1,i0,hil,hp,hg,eC,eA,hCar,hs,ha1,c5,p1,q,e9,hm];(try simp only [ite_and]);(repeat' (first|with_reducible assumption|refine And.intro ?_ ?_|intro hp));all_goals (first|(refine hQ _ ?_;clear hQ Q)|(refine hQ _ (fun h=>?_) (fun h=>?_) <;> clear hQ Q <;> (try simp only [vki,reduceCtorEq] at h))|(refine vq ?_;kernel_rfl)|omega|assumption|with_reducible rfl|skip)))
   refine ⟨⟨i+1,hil⟩,by show Al.length - (i+1) < Al.length - i;omega, ?_⟩
   simp only [rpS,hS,List.cons_append,List.nil_append]
   (refine Le.ok (fun i=>if i=3 then some 5 else some i) [] ?_;constructor;all_goals (try simp only [vle,vkt,seval,yf,Zv,qf,qc,zI,qo,qA,qD,qH,qO,qG,qh,qC,qM,qd,mTk,qa,qb,qx,qg,rpS,zx,pAl,xk,List.length_map]))
   all_goals first|rfl|(rw [List.map_append];rfl)|(simp;done)|(intro i hi;rw [if_neg (by omega)];done)
  |false =>
   rw [q,if_neg (by decide),List.append_nil] at hS
   repeat' (first|(apply nx;with_reducible constructor)|refine uq (by decide) ?_|((first|refine vx env fun Q hQ=>?_|refine vz fun Q hQ=>?_);simp only [vkt,seval,yf,Zv,qf,qc,zI,qo,qA,qD,qH,qO,qG,qh,qC,qM,qd,mTk,qa,qb,qx,qg,rpS,zx,pAl,xk,List.length_map,d1,i0,hil,hp,hg,eC,eA,hCar,hs,ha1,c5,p1,q,e9];(try simp only [ite_and]);(repeat' (first|with_reducible assumption|refine And.intro ?_ ?_|intro hp));all_goals (first|(refine hQ _ ?_;clear hQ Q)|(refine hQ _ (fun h=>?_) (fun h=>?_) <;> clear hQ Q <;> (try simp only [vki,reduceCtorEq] at h))|(refine vq ?_;kernel_rfl)|omega|assumption|with_reducible rfl|skip)))
   refine ⟨⟨i+1,hil⟩,by show Al.length - (i+1) < Al.length - i;omega, ?_⟩
   simp only [rpS,hS,List.cons_append,List.nil_append]
   (refine Le.ok some [] ?_;constructor;all_goals (try simp only [vle,vkt,seval,yf,Zv,qf,qc,zI,qo,qA,qD,qH,qO,qG,qh,qC,qM,qd,mTk,qa,qb,qx,qg,rpS,zx,pAl,xk,List.length_map]))
   all_goals first|rfl|(simp;done)
 ·have d1:decide ((i:Int) < (Al.length:Int))=false:=decide_eq_false (by omega)
  obtain rfl:i=Al.length:=by omega
  rw [List.take_length]
  simp only [rpS,List.cons_append,List.nil_append]
  repeat' (first|(apply nx;with_reducible constructor)|refine uq (by decide) ?_|((first|refine vx env fun Q hQ=>?_|refine vz fun Q hQ=>?_);simp only [vkt,seval,yf,Zv,qf,qc,zI,qo,qA,qD,qH,qO,qG,qh,qC,qM,qd,mTk,qa,qb,qx,qg,rpS,zx,pAl,xk,List.length_map,d1];(try simp only [ite_and]);(repeat' (first|with_reducible assumption|refine And.intro ?_ ?_|intro hp));all_goals (first|(refine hQ _ ?_;clear hQ Q)|(refine hQ _ (fun h=>?_) (fun h=>?_) <;> clear hQ Q <;> (try simp only [vki,reduceCtorEq] at h))|(refine vq ?_;kernel_rfl)|omega|assumption|with_reducible rfl|skip)))
  (simp only [vrt,Tryz.results54,vkt,seval,yf,Zv,qf,qc,zI,qo,qA,qD,qH,qO,qG,qh,qC,qM,qd,mTk,qa,qb,qx,qg,rpS,zx,pAl,xk,List.length_map];refine Fin.val rfl ?_;(try simp only [AV.le,AV.leL]))
  all_goals first|rfl|(simp;done)|exact ⟨_,_,rfl⟩
def zM:List AV→Prop × AV
 |[.agg [.sl c0,.v (.int .i64 c1),.sl c2],.agg [.v (.int .i64 a0),.v (.int .i64 a1),.v (.int .i64 a2),.sl a3,.v (.bool a4)]]=>(c0=(c0.map qw).map qh∧c2=(c2.map dTk).map eTk∧a3=(a3.map zb).map zF∧CarOk ((⟨(c0.map qw),c1,(c2.map dTk)⟩:Chart))∧((⟨(c0.map qw),c1,(c2.map dTk)⟩:Chart)).sold.length≤20∧0 < ((⟨a0,a1,a2,(a3.map zb),a4⟩:Ask)).sexes.length∧((⟨a0,a1,a2,(a3.map zb),a4⟩:Ask)).sexes.length≤3,zI ((alL (qV ((⟨(c0.map qw),c1,(c2.map dTk)⟩:Chart)).cabins) ((⟨a0,a1,a2,(a3.map zb),a4⟩:Ask)).sexes.length).filter (wO ((⟨(c0.map qw),c1,(c2.map dTk)⟩:Chart)) ((⟨a0,a1,a2,(a3.map zb),a4⟩:Ask)))))
 |_=>(False,.junk)
theorem QfV {A:Frm→Prop}:qE A Tryz.prog 54 (qX false zM):=qW fun vs hv h=>by
 clear hv
 unfold zM at h ⊢
 split at h
 ·rename_i c0 c1 c2 a0 a1 a2 a3 a4;obtain ⟨q0,q1,q2,k0,k1,k2,k3⟩:=h
  refine ⟨by first|trivial|(simp [AV.plain,AV.plainL,aI,aB,qz,qc,ql,qf,aTk,cTk];done)|(repeat' split) <;> simp [AV.plain,AV.plainL,aI,aB,qz,qc,ql,qf,aTk,cTk],fun h=>absurd h (by decide), ?_⟩
  have:=Qcn ((⟨(c0.map qw),c1,(c2.map dTk)⟩:Chart)) ((⟨a0,a1,a2,(a3.map zb),a4⟩:Ask)) k0 k1 ⟨k2,k3⟩
  simp only [qx,aB,qY,qa,aI,qz,ql,qg,qb,← q0,← q1,← q2] at this
  first|exact this|(simp only [qx,aB,qY,qa,aI,qz,ql,qg,qb,← q0,← q1,← q2];exact this)
 ·exact h.elim
def rcS (c:Chart) (k:Nat):St:={ t:=asg [(1,.ptr 0 0),(2,aI 0),(3,aI k)],h:=qj [(0,.cells (qb c))],n:=1 }
def ZF (c:Chart):Int:=if c.cabins.length=0 then 7 else if 3 < c.cabins.length then 6 else if yw (c.cabins.map kI) ≠ 0 then yw (c.cabins.map kI) else if !inB c.secs 1 5 then 1 else 0
theorem Qbt (c:Chart):zu c=if ZF c ≠ 0 then ZF c else if 8 < c.sold.length then 6 else zW c c.sold:=by
 unfold zu ZN ZF zt
 by_cases h1:c.cabins.length=0
 ·rw [if_pos (show (c.cabins.length:Int) < 1 by omega),if_pos h1];simp
 rw [if_neg (show ¬ (c.cabins.length:Int) < 1 by omega),if_neg h1]
 by_cases h2:3 < c.cabins.length
 ·rw [if_pos (show (3:Int) < (c.cabins.length:Int) by omega),if_pos h2];simp
 rw [if_neg (show ¬ (3:Int) < (c.cabins.length:Int) by omega),if_neg h2]
 simp only [ne_eq,not_true_eq_false,if_false]
 by_cases h3:yw (c.cabins.map kI)=0
 ·rw [h3]
  simp only [not_true_eq_false,if_false]
  cases inB c.secs 1 5 with
  |false=>simp
  |true =>
   simp only [Bool.not_true,Bool.false_eq_true,if_false,not_true_eq_false]
   by_cases h4:8 < c.sold.length
   ·rw [if_neg (show ¬ (c.sold.length:Int) < 0 by omega),if_pos (show (8:Int) < (c.sold.length:Int) by omega),if_pos h4];simp
   ·rw [if_neg (show ¬ (c.sold.length:Int) < 0 by omega),if_neg (show ¬ (8:Int) < (c.sold.length:Int) by omega),if_neg h4];simp
 ·simp [h3]
theorem QiD {c:Chart} (h:ZF c=0):CarOk c:=by
 unfold ZF at h
 split at h
 ·exact absurd h (by decide)
 split at h
 ·exact absurd h (by decide)
 split at h
 ·exact absurd h ‹_›
 rename_i h3
 split at h
 ·exact absurd h (by decide)
 rename_i h4
 refine ⟨by omega,fun x hx=>?_,wL.1 (by simpa using h4)⟩
 have:=Zw (Decidable.not_not.1 h3) _ (List.mem_map.2 ⟨x,hx,rfl⟩)
 unfold kI at this
 split at this
 ·exact absurd this (by decide)
 ·rename_i h5;exact wL.1 (by simpa using h5)
def jc:=vj @ty3 (vj @W9 (vj @yc (vj @Jz (vj @ti3.eq_1 (vj @ZT.eq_1 (vj @jM.eq_1 @Z4.eq_1))))))
def vT:=vj @aI.eq_1 (@aB.eq_1)
theorem Qig (c:Chart) (hc:c.cabins.length≤maxLen):FnV Tryz.prog 119 [qa c] (aI (ZF c)):=by
 have env:Env (fun _=>True) Tryz.prog tyB (tab [(83,qX true zm)]):=qL ⟨QdJ,trivial⟩
 refine Fn.of (A:=fun _=>True) (n0:=0) (D:=noD) (Fn0 Tryz.func119 rfl (fun vs w=>by kernel_rfl) (by kernel_rfl)) (by simp) (by simp [AV.ids,AV.idsL,qa,qb]) (fun i o h=>by cases h) (fun _ _ _ _=>trivial) qF ?_
 by_cases h1:c.cabins.length=0
 ·rw [show ZF c=7 by unfold ZF;rw [if_pos h1]]
  have d1:decide ((c.cabins.length:Int)=0)=true:=decide_eq_true (by omega)
  repeat' (first|(apply nx;with_reducible constructor)|refine uq (by decide) ?_|((first|refine vx env fun Q hQ=>?_|refine vz fun Q hQ=>?_);simp only [vkt,seval,jc,vT,qa,qb,qh,qC,rcS,zm,List.length_map,d1];(try simp only [ite_and]);(repeat' (first|with_reducible assumption|refine And.intro ?_ ?_|intro hp));all_goals (first|(refine hQ _ ?_;clear hQ Q)|(refine hQ _ (fun h=>?_) (fun h=>?_) <;> clear hQ Q <;> (try simp only [vki,reduceCtorEq] at h))|(refine vq ?_;kernel_rfl)|omega|assumption|with_reducible rfl|skip)))
  (simp only [vrt,Tryz.results119,vkt,seval,jc,vT,qa,qb,qh,qC,rcS,zm,List.length_map];refine Fin.val rfl ?_;(try simp only [AV.le,AV.leL]))
  all_goals first|rfl|(simp;done)
 have d1:decide ((c.cabins.length:Int)=0)=false:=decide_eq_false (by omega)
 by_cases h2:3 < c.cabins.length
 ·rw [show ZF c=6 by unfold ZF;rw [if_neg h1,if_pos h2]]
  have d2:decide ((3:Int) < (c.cabins.length:Int))=true:=decide_eq_true (by omega)
  repeat' (first|(apply nx;with_reducible constructor)|refine uq (by decide) ?_|((first|refine vx env fun Q hQ=>?_|refine vz fun Q hQ=>?_);simp only [vkt,seval,jc,vT,qa,qb,qh,qC,rcS,zm,List.length_map,d1,d2];(try simp only [ite_and]);(repeat' (first|with_reducible assumption|refine And.intro ?_ ?_|intro hp));all_goals (first|(refine hQ _ ?_;clear hQ Q)|(refine hQ _ (fun h=>?_) (fun h=>?_) <;> clear hQ Q <;> (try simp only [vki,reduceCtorEq] at h))|(refine vq ?_;kernel_rfl)|omega|assumption|with_reducible rfl|skip)))
  (simp only [vrt,Tryz.results119,vkt,seval,jc,vT,qa,qb,qh,qC,rcS,zm,List.length_map];refine Fin.val rfl ?_;(try simp only [AV.le,AV.leL]))
  all_goals first|rfl|(simp;done)
 have d2:decide ((3:Int) < (c.cabins.length:Int))=false:=decide_eq_false (by omega)
 have hE:ZF c=if yw (c.cabins.map kI) ≠ 0 then yw (c.cabins.map kI) else if !inB c.secs 1 5 then 1 else 0:=by unfold ZF;rw [if_neg h1,if_neg h2]
 rw [hE]
 repeat' (first|(apply nx;with_reducible constructor)|refine uq (by decide) ?_|((first|refine vx env fun Q hQ=>?_|refine vz fun Q hQ=>?_);simp only [vkt,seval,jc,vT,qa,qb,qh,qC,rcS,zm,List.length_map,d1,d2];(try simp only [ite_and]);(repeat' (first|with_reducible assumption|refine And.intro ?_ ?_|intro hp));all_goals (first|(refine hQ _ ?_;clear hQ Q)|(refine hQ _ (fun h=>?_) (fun h=>?_) <;> clear hQ Q <;> (try simp only [vki,reduceCtorEq] at h))|(refine vq ?_;kernel_rfl)|omega|assumption|with_reducible rfl|skip)))
 refine qN (fun k:{ k:Nat // k≤c.cabins.length∧∀ j,j < k→(c.cabins.map kI).getD j 0=0 }=>rcS c k.1) (fun k=>c.cabins.length - k.1) ⟨0,Nat.zero_le _,fun j h=>absurd h (Nat.not_lt_zero _)⟩ ?_ fun ⟨k,hk,hno⟩=>?_
 ·simp only [rcS]
  (refine Le.ok some [] ?_;constructor;all_goals (try simp only [vle,vkt,seval,jc,vT,qa,qb,qh,qC,rcS,zm,List.length_map]))
  all_goals first|rfl|(simp;done)
 simp only at hk hno ⊢
 simp only [rcS]
 by_cases hlt:k < c.cabins.length
 ·have d3:decide ((k:Int) < (c.cabins.length:Int))=true:=decide_eq_true (by omega)
  have k0:((k:Int)).toNat=k:=rfl
  have e9:IntKind.wrap .i64 ((k:Int)+1)=((k+1:Nat):Int):=by rw [wrap64 (by omega) (by omega)];rfl
  obtain ⟨x,hx⟩:∃ x,c.cabins.getD k default=x:=⟨_,rfl⟩
  have hm:(c.cabins.map kI).getD k 0=kI x:=by rw [mapD hlt,hx]
  cases hb:inB x.beds 1 3 with
  |false =>
   have hE:kI x=1:=by simp [kI,hb]
   have hf:=kG hno (by simpa using hlt) (by rw [hm,hE];decide)
   rw [hm,hE] at hf
   rw [hf,if_pos (by decide)]
   repeat' (first|(apply nx;with_reducible constructor)|refine uq (by decide) ?_|((first|refine vx env fun Q hQ=>?_|refine vz fun Q hQ=>?_);simp only [vkt,seval,jc,vT,qa,qb,qh,qC,rcS,zm,List.length_map,d3,k0,hlt,hx,hb];(try simp only [ite_and]);(repeat' (first|with_reducible assumption|refine And.intro ?_ ?_|intro hp));all_goals (first|(refine hQ _ ?_;clear hQ Q)|(refine hQ _ (fun h=>?_) (fun h=>?_) <;> clear hQ Q <;> (try simp only [vki,reduceCtorEq] at h))|(refine vq ?_;kernel_rfl)|omega|assumption|with_reducible rfl|skip)))
   (simp only [vrt,Tryz.results119,vkt,seval,jc,vT,qa,qb,qh,qC,rcS,zm,List.length_map];refine Fin.val rfl ?_;(try simp only [AV.le,AV.leL]))
   all_goals first|rfl|(simp;done)
  |true =>
   have hE:kI x=0:=by simp [kI,hb]
   repeat' (first|(apply nx;with_reducible constructor)|refine uq (by decide) ?_|((first|refine vx env fun Q hQ=>?_|refine vz fun Q hQ=>?_);simp only [vkt,seval,jc,vT,qa,qb,qh,qC,rcS,zm,List.length_map,d3,k0,hlt,hx,hb,e9];(try simp only [ite_and]);(repeat' (first|with_reducible assumption|refine And.intro ?_ ?_|intro hp));all_goals (first|(refine hQ _ ?_;clear hQ Q)|(refine hQ _ (fun h=>?_) (fun h=>?_) <;> clear hQ Q <;> (try simp only [vki,reduceCtorEq] at h))|(refine vq ?_;kernel_rfl)|omega|assumption|with_reducible rfl|skip)))
   refine ⟨⟨k+1,hlt,fun j hj=>?_⟩,by show c.cabins.length - (k+1) < c.cabins.length - k;omega, ?_⟩
   ·rcases Nat.lt_or_eq_of_le (Nat.le_of_lt_succ hj) with h2|h2
    ·exact hno j h2
    ·rw [h2,hm,hE]
   ·simp only [rcS]
    (refine Le.ok some [] ?_;constructor;all_goals (try simp only [vle,vkt,seval,jc,vT,qa,qb,qh,qC,rcS,zm,List.length_map]))
    all_goals first|rfl|(simp;done)
 ·have d3:decide ((k:Int) < (c.cabins.length:Int))=false:=decide_eq_false (by omega)
  obtain rfl:k=c.cabins.length:=by omega
  have hf:yw (c.cabins.map kI)=0:=yo (by simpa using hno)
  rw [hf,if_neg (by decide)]
  cases hs:inB c.secs 1 5 with
  |false =>
   repeat' (first|(apply nx;with_reducible constructor)|refine uq (by decide) ?_|((first|refine vx env fun Q hQ=>?_|refine vz fun Q hQ=>?_);simp only [vkt,seval,jc,vT,qa,qb,qh,qC,rcS,zm,List.length_map,d3,hs];(try simp only [ite_and]);(repeat' (first|with_reducible assumption|refine And.intro ?_ ?_|intro hp));all_goals (first|(refine hQ _ ?_;clear hQ Q)|(refine hQ _ (fun h=>?_) (fun h=>?_) <;> clear hQ Q <;> (try simp only [vki,reduceCtorEq] at h))|(refine vq ?_;kernel_rfl)|omega|assumption|with_reducible rfl|skip)))
   (simp only [vrt,Tryz.results119,vkt,seval,jc,vT,qa,qb,qh,qC,rcS,zm,List.length_map];refine Fin.val rfl ?_;(try simp only [AV.le,AV.leL]))
   all_goals first|rfl|(simp;done)
  |true =>
   repeat' (first|(apply nx;with_reducible constructor)|refine uq (by decide) ?_|((first|refine vx env fun Q hQ=>?_|refine vz fun Q hQ=>?_);simp only [vkt,seval,jc,vT,qa,qb,qh,qC,rcS,zm,List.length_map,d3,hs];(try simp only [ite_and]);(repeat' (first|with_reducible assumption|refine And.intro ?_ ?_|intro hp));all_goals (first|(refine hQ _ ?_;clear hQ Q)|(refine hQ _ (fun h=>?_) (fun h=>?_) <;> clear hQ Q <;> (try simp only [vki,reduceCtorEq] at h))|(refine vq ?_;kernel_rfl)|omega|assumption|with_reducible rfl|skip)))
   (simp only [vrt,Tryz.results119,vkt,seval,jc,vT,qa,qb,qh,qC,rcS,zm,List.length_map];refine Fin.val rfl ?_;(try simp only [AV.le,AV.leL]))
   all_goals first|rfl|(simp;done)
def YT:List AV→Prop × AV
 |[.agg [.sl c0,.v (.int .i64 c1),.sl c2]]=>(c0=(c0.map qw).map qh∧c2=(c2.map dTk).map eTk∧((⟨(c0.map qw),c1,(c2.map dTk)⟩:Chart)).cabins.length≤maxLen,aI (ZF ((⟨(c0.map qw),c1,(c2.map dTk)⟩:Chart))))
 |_=>(False,.junk)
theorem ercar {A:Frm→Prop}:qE A Tryz.prog 119 (qX true YT):=qW fun vs hv h=>by
 clear hv
 unfold YT at h ⊢
 split at h
 ·rename_i c0 c1 c2;obtain ⟨q0,q1,k0⟩:=h
  refine ⟨by first|trivial|(simp [AV.plain,AV.plainL,aI,aB,qz,qc,ql,qf,aTk,cTk];done)|(repeat' split) <;> simp [AV.plain,AV.plainL,aI,aB,qz,qc,ql,qf,aTk,cTk],fun _=>(by simp [AV.flat,AV.flatL,aI,aB]), ?_⟩
  have:=Qig ((⟨(c0.map qw),c1,(c2.map dTk)⟩:Chart)) k0
  simp only [qY,qa,aI,ql,qb,← q0,← q1] at this
  first|exact this|(simp only [qY,qa,aI,ql,qb,← q0,← q1];exact this)
 ·exact h.elim
def xE:=vj @ty3 (vj @x9 (vj @yc (vj @Zc (vj @yU (vj @ti3.eq_1 (vj @xD.eq_1 (vj @jM.eq_1 (vj @QA.eq_1 @yA.eq_1))))))))
def JK:=vj @aI.eq_1 (@aB.eq_1)
theorem Qe2 (c:Chart) (hc:c.cabins.length≤maxLen) (hs:c.sold.length≤100000):FnV Tryz.prog 82 [qa c] (aI (zu c)):=by
 have env:Env (fun _=>True) Tryz.prog tyB (tab [(119,qX true YT),(112,qX true jZ)]):=qL ⟨ercar,Qgu,trivial⟩
 refine Fn.of (A:=fun _=>True) (n0:=0) (D:=noD) (Fn0 Tryz.func82 rfl (fun vs w=>by kernel_rfl) (by kernel_rfl)) (by simp) (by simp [AV.ids,AV.idsL,qa,qb]) (fun i o h=>by cases h) (fun _ _ _ _=>trivial) qF ?_
 have ec:(⟨c.cabins,c.secs,c.sold⟩:Chart)=c:=rfl
 rw [Qbt]
 obtain ⟨e,he⟩:∃ e,ZF c=e:=⟨_,rfl⟩
 by_cases h0:e=0
 ·have hok:=QiD (he.trans h0)
  rw [h0] at he
  rw [he,if_neg (by decide)]
  by_cases h8:8 < c.sold.length
  ·rw [if_pos h8]
   have d1:decide ((8:Int) < (c.sold.length:Int))=true:=decide_eq_true (by omega)
   repeat' (first|(apply nx;with_reducible constructor)|refine uq (by decide) ?_|((first|refine vx env fun Q hQ=>?_|refine vz fun Q hQ=>?_);simp only [vkt,seval,xE,JK,qa,qb,ql,mTk,qd,YT,jZ,List.length_map,hc,ec,he,d1,decide_true];(try simp only [ite_and]);(repeat' (first|with_reducible assumption|refine And.intro ?_ ?_|intro hp));all_goals (first|(refine hQ _ ?_;clear hQ Q)|(refine hQ _ (fun h=>?_) (fun h=>?_) <;> clear hQ Q <;> (try simp only [vki,reduceCtorEq] at h))|(refine vq ?_;kernel_rfl)|omega|assumption|with_reducible rfl|skip)))
   (simp only [vrt,Tryz.results82,vkt,seval,xE,JK,qa,qb,ql,mTk,qd,YT,jZ,List.length_map];refine Fin.val rfl ?_;(try simp only [AV.le,AV.leL]))
   all_goals first|rfl|(simp;done)
  ·rw [if_neg h8]
   have d1:decide ((8:Int) < (c.sold.length:Int))=false:=decide_eq_false (by omega)
   have h100:c.sold.length≤100:=by omega
   repeat' (first|(apply nx;with_reducible constructor)|refine uq (by decide) ?_|((first|refine vx env fun Q hQ=>?_|refine vz fun Q hQ=>?_);simp only [vkt,seval,xE,JK,qa,qb,ql,mTk,qd,YT,jZ,List.length_map,hc,ec,he,d1,hok,h100,decide_true];(try simp only [ite_and]);(repeat' (first|with_reducible assumption|refine And.intro ?_ ?_|intro hp));all_goals (first|(refine hQ _ ?_;clear hQ Q)|(refine hQ _ (fun h=>?_) (fun h=>?_) <;> clear hQ Q <;> (try simp only [vki,reduceCtorEq] at h))|(refine vq ?_;kernel_rfl)|omega|assumption|with_reducible rfl|skip)))
   (simp only [vrt,Tryz.results82,vkt,seval,xE,JK,qa,qb,ql,mTk,qd,YT,jZ,List.length_map];refine Fin.val rfl ?_;(try simp only [AV.le,AV.leL]))
   all_goals first|rfl|(simp;done)
 ·rw [he,if_pos h0]
  have d0:decide (e=0)=false:=decide_eq_false h0
  repeat' (first|(apply nx;with_reducible constructor)|refine uq (by decide) ?_|((first|refine vx env fun Q hQ=>?_|refine vz fun Q hQ=>?_);simp only [vkt,seval,xE,JK,qa,qb,ql,mTk,qd,YT,jZ,List.length_map,hc,ec,he,d0];(try simp only [ite_and]);(repeat' (first|with_reducible assumption|refine And.intro ?_ ?_|intro hp));all_goals (first|(refine hQ _ ?_;clear hQ Q)|(refine hQ _ (fun h=>?_) (fun h=>?_) <;> clear hQ Q <;> (try simp only [vki,reduceCtorEq] at h))|(refine vq ?_;kernel_rfl)|omega|assumption|with_reducible rfl|skip)))
  (simp only [vrt,Tryz.results82,vkt,seval,xE,JK,qa,qb,ql,mTk,qd,YT,jZ,List.length_map];refine Fin.val rfl ?_;(try simp only [AV.le,AV.leL]))
  all_goals first|rfl|(simp;done)
def Wp:List AV→Prop × AV
 |[.agg [.sl c0,.v (.int .i64 c1),.sl c2]]=>(c0=(c0.map qw).map qh∧c2=(c2.map dTk).map eTk∧((⟨(c0.map qw),c1,(c2.map dTk)⟩:Chart)).cabins.length≤maxLen∧((⟨(c0.map qw),c1,(c2.map dTk)⟩:Chart)).sold.length≤100000,aI (zu ((⟨(c0.map qw),c1,(c2.map dTk)⟩:Chart))))
 |_=>(False,.junk)
theorem Qi4 {A:Frm→Prop}:qE A Tryz.prog 82 (qX true Wp):=qW fun vs hv h=>by
 clear hv
 unfold Wp at h ⊢
 split at h
 ·rename_i c0 c1 c2;obtain ⟨q0,q1,k0,k1⟩:=h
  refine ⟨by first|trivial|(simp [AV.plain,AV.plainL,aI,aB,qz,qc,ql,qf,aTk,cTk];done)|(repeat' split) <;> simp [AV.plain,AV.plainL,aI,aB,qz,qc,ql,qf,aTk,cTk],fun _=>(by simp [AV.flat,AV.flatL,aI,aB]), ?_⟩
  have:=Qe2 ((⟨(c0.map qw),c1,(c2.map dTk)⟩:Chart)) k0 k1
  simp only [qY,qa,aI,ql,qb,← q0,← q1] at this
  first|exact this|(simp only [qY,qa,aI,ql,qb,← q0,← q1];exact this)
 ·exact h.elim
def VA:=vj @W9 (vj @x9 (vj @yc (vj @yU (vj @Jz (vj @ZT.eq_1 (vj @xD.eq_1 (vj @jM.eq_1 (vj @yA.eq_1 @Z4.eq_1))))))))
def Qdh:=vj @aI.eq_1 (@aB.eq_1)
theorem Qhq (c:Chart) (h3:c.cabins.length≤100000) (h4:c.sold.length≤100000):FnV Tryz.prog 14 [qa c] (qa c):=by
 have env:Env (fun _=>True) Tryz.prog tyB (tab []):=qL trivial
 obtain ⟨b1,b2,b3,b5,b4⟩:=b47 h3
 obtain ⟨c1,c2,c3,c5,c4⟩:=b47 h4
 refine Fn.of (A:=fun _=>True) (n0:=0) (D:=noD) (Fn0 Tryz.func14 rfl (fun vs w=>by kernel_rfl) (by kernel_rfl)) (by simp) (by simp [AV.ids,AV.idsL,qa,qb]) (fun i o h=>by cases h) (fun _ _ _ _=>trivial) qF ?_
 repeat' (first|(apply nx;with_reducible constructor)|refine uq (by decide) ?_|((first|refine vx env fun Q hQ=>?_|refine vz fun Q hQ=>?_);simp only [vkt,seval,VA,Qdh,qa,qb,rTk,zf,mTk,qd,List.nil_append,List.length_map,b4,c4];(try simp only [ite_and]);(repeat' (first|with_reducible assumption|refine And.intro ?_ ?_|intro hp));all_goals (first|(refine hQ _ ?_;clear hQ Q)|(refine hQ _ (fun h=>?_) (fun h=>?_) <;> clear hQ Q <;> (try simp only [vki,reduceCtorEq] at h))|(refine vq ?_;kernel_rfl)|omega|assumption|with_reducible rfl|skip)))
 (simp only [vrt,Tryz.results14,vkt,seval,VA,Qdh,qa,qb,rTk,zf,mTk,qd,List.nil_append,List.length_map];refine Fin.val rfl ?_;(try simp only [AV.le,AV.leL]))
 all_goals first|rfl|(simp;done)|exact ⟨⟨_,_,rfl⟩,trivial,⟨_,_,rfl⟩,trivial⟩
def xm:List AV→Prop × AV
 |[.agg [.sl c0,.v (.int .i64 c1),.sl c2]]=>(c0=(c0.map qw).map qh∧c2=(c2.map dTk).map eTk∧((⟨(c0.map qw),c1,(c2.map dTk)⟩:Chart)).cabins.length≤100000∧((⟨(c0.map qw),c1,(c2.map dTk)⟩:Chart)).sold.length≤100000,qa ((⟨(c0.map qw),c1,(c2.map dTk)⟩:Chart)))
 |_=>(False,.junk)
theorem Qkn {A:Frm→Prop}:qE A Tryz.prog 14 (qX false xm):=qW fun vs hv h=>by
 clear hv
 unfold xm at h ⊢
 split at h
 ·rename_i c0 c1 c2;obtain ⟨q0,q1,k0,k1⟩:=h
  refine ⟨by first|trivial|(simp [AV.plain,AV.plainL,aI,aB,qz,qc,ql,qf,aTk,cTk];done)|(repeat' split) <;> simp [AV.plain,AV.plainL,aI,aB,qz,qc,ql,qf,aTk,cTk],fun h=>absurd h (by decide), ?_⟩
  have:=Qhq ((⟨(c0.map qw),c1,(c2.map dTk)⟩:Chart)) k0 k1
  simp only [qY,qa,aI,ql,qb,← q0,← q1] at this
  first|exact this|(simp only [qY,qa,aI,ql,qb,← q0,← q1];exact this)
 ·exact h.elim
def WJ:=vj @W9 (vj @x9 (vj @yc (vj @yU (vj @Jz (vj @ZT.eq_1 (vj @xD.eq_1 (vj @jM.eq_1 (vj @yA.eq_1 @Z4.eq_1))))))))
def RF:=vj @aI.eq_1 (@aB.eq_1)
theorem Qeb (cs ts:List (List DV)) (s:Int) (h1:zJ 2 cs) (h2:zJ 7 ts) (h3:cs.length≤100000) (h4:ts.length≤100000):Fn noB Tryz.prog 90 [.agg [.sl cs,.v (.int .i64 s),.sl ts]] noH (.agg [.row 0,.v (.int .i64 s),.row 1]) (qj [(0,.row 89 2 cs),(1,.row 64 7 ts)]) 0:=by
 have env:Env (fun _=>True) Tryz.prog tyB (tab []):=qL trivial
 obtain ⟨b1,b2,b3,b5,b4⟩:=b47 h3
 obtain ⟨c1,c2,c3,c5,c4⟩:=b47 h4
 refine Fn.of (A:=fun _=>True) (n0:=0) (D:=noD) (Fn0 Tryz.func90 rfl (fun vs w=>by kernel_rfl) (by kernel_rfl)) (by simp) (by simp [AV.ids,AV.idsL]) (fun i o h=>by cases h) (fun _ _ _ _=>trivial) qF ?_
 repeat' (first|(apply nx;with_reducible constructor)|refine uq (by decide) ?_|((first|refine vx env fun Q hQ=>?_|refine vz fun Q hQ=>?_);simp only [vkt,seval,WJ,RF,qa,qb,rTk,zf,List.nil_append,h1,h2];(try simp only [ite_and]);(repeat' (first|with_reducible assumption|refine And.intro ?_ ?_|intro hp));all_goals (first|(refine hQ _ ?_;clear hQ Q)|(refine hQ _ (fun h=>?_) (fun h=>?_) <;> clear hQ Q <;> (try simp only [vki,reduceCtorEq] at h))|(refine vq ?_;kernel_rfl)|omega|assumption|with_reducible rfl|skip)))
 (simp only [vrt,Tryz.results90,vkt,seval,WJ,RF,qa,qb,rTk,zf,List.nil_append];refine Fin.ok (fun j=>[2,3][j]?) [] ?_ ?_ ?_ ?_ ?_ rfl;all_goals (try simp only [vle,vkt,seval,WJ,RF,qa,qb,rTk,zf,List.nil_append]))
 all_goals first|rfl|(simp;done)
def xC (_:St):List AV→Option Pk
 |[.agg [.sl cs,.v (.int .i64 s),.sl ts]]=>some { pre:=zJ 2 cs∧zJ 7 ts∧cs.length≤100000∧ts.length≤100000,ar:=[.agg [.sl cs,.v (.int .i64 s),.sl ts]],v:=.agg [.row 0,.v (.int .i64 s),.row 1],L1:=[some (.row 89 2 cs),some (.row 64 7 ts)] }
 |_=>none
theorem QhQ {A:Frm→Prop}:qE A Tryz.prog 90 (fnE xC):=zY fun S bs q h hp=>by
 unfold xC at h
 split at h
 ·cases h;exact Qeb _ _ _ hp.1 hp.2.1 hp.2.2.1 hp.2.2.2
 ·cases h
def VC:=vj @ty3 (vj @Qe (vj @ti3.eq_1 @x8.eq_1))
def QcY:=vj @aI.eq_1 (vj @aB.eq_1 (vj @qz.eq_1 (@Kv)))
theorem Qf3 (l:List Int) (h:l.length≤100000):FnV Tryz.prog 49 [qz l] (qz l):=by
 have env:Env (fun _=>True) Tryz.prog tyB (tab []):=qL trivial
 refine Fn.of (A:=fun _=>True) (n0:=0) (D:=noD) (Fn0 Tryz.func49 rfl (fun vs w=>by kernel_rfl) (by kernel_rfl)) (by simp) (by simp [AV.ids,qz]) (fun i o h=>by cases h) (fun _ _ _ _=>trivial) qF ?_
 have hmx:(100000:Nat)≤maxLen:=by decide
 have h5:l.length≤maxLen:=by omega
 repeat' (first|(apply nx;with_reducible constructor)|refine uq (by decide) ?_|((first|refine vx env fun Q hQ=>?_|refine vz fun Q hQ=>?_);simp only [vkt,seval,VC,QcY,List.nil_append,List.length_map,h,h5];(try simp only [ite_and]);(repeat' (first|with_reducible assumption|refine And.intro ?_ ?_|intro hp));all_goals (first|(refine hQ _ ?_;clear hQ Q)|(refine hQ _ (fun h=>?_) (fun h=>?_) <;> clear hQ Q <;> (try simp only [vki,reduceCtorEq] at h))|(refine vq ?_;kernel_rfl)|omega|assumption|with_reducible rfl|skip)))
 (simp only [vrt,Tryz.results49,vkt,seval,VC,QcY,List.nil_append,List.length_map];refine Fin.val rfl ?_;(try simp only [AV.le,AV.leL]))
 all_goals first|rfl|(simp;done)|exact ⟨_,_,rfl⟩
def X9:List AV→Prop × AV
 |[.sl l]=>(l=(l.map zb).map zF∧(l.map zb).length≤100000,qz (l.map zb))
 |_=>(False,.junk)
theorem QkG {A:Frm→Prop}:qE A Tryz.prog 49 (qX false X9):=qW fun vs hv h=>by
 clear hv
 unfold X9 at h ⊢
 split at h
 ·rename_i l;obtain ⟨q0,k0⟩:=h
  refine ⟨by first|trivial|(simp [AV.plain,AV.plainL,aI,aB,qz,qc,ql,qf,aTk,cTk];done)|(repeat' split) <;> simp [AV.plain,AV.plainL,aI,aB,qz,qc,ql,qf,aTk,cTk],fun h=>absurd h (by decide), ?_⟩
  have:=Qf3 (l.map zb) k0
  simp only [qz,← q0] at this
  first|exact this|(simp only [qz,← q0];exact this)
 ·exact h.elim
def Vz:=vj @ty3 (vj @Qe (vj @QM (vj @ti3.eq_1 (vj @x8.eq_1 @Qb.eq_1))))
def QdE:=vj @aI.eq_1 (vj @aB.eq_1 (vj @qz.eq_1 (@QT)))
theorem Qg4 (a:Ask) (h:a.sexes.length≤100000):FnV Tryz.prog 15 [qx a] (qx a):=by
 have env:Env (fun _=>True) Tryz.prog tyB (tab [(49,qX false X9)]):=qL ⟨QkG,trivial⟩
 refine Fn.of (A:=fun _=>True) (n0:=0) (D:=noD) (Fn0 Tryz.func15 rfl (fun vs w=>by kernel_rfl) (by kernel_rfl)) (by simp) (by simp [AV.ids,AV.idsL,qx,qg]) (fun i o h=>by cases h) (fun _ _ _ _=>trivial) qF ?_
 repeat' (first|(apply nx;with_reducible constructor)|refine uq (by decide) ?_|((first|refine vx env fun Q hQ=>?_|refine vz fun Q hQ=>?_);simp only [vkt,seval,Vz,QdE,qx,qg,X9,List.length_map,h];(try simp only [ite_and]);(repeat' (first|with_reducible assumption|refine And.intro ?_ ?_|intro hp));all_goals (first|(refine hQ _ ?_;clear hQ Q)|(refine hQ _ (fun h=>?_) (fun h=>?_) <;> clear hQ Q <;> (try simp only [vki,reduceCtorEq] at h))|(refine vq ?_;kernel_rfl)|omega|assumption|with_reducible rfl|skip)))
 (simp only [vrt,Tryz.results15,vkt,seval,Vz,QdE,qx,qg,X9,List.length_map];refine Fin.val rfl ?_;(try simp only [AV.le,AV.leL]))
 all_goals first|rfl|(simp;done)|exact ⟨_,_,rfl⟩
def xg:List AV→Prop × AV
 |[.agg [.v (.int .i64 a0),.v (.int .i64 a1),.v (.int .i64 a2),.sl a3,.v (.bool a4)]]=>(a3=(a3.map zb).map zF∧((⟨a0,a1,a2,(a3.map zb),a4⟩:Ask)).sexes.length≤100000,qx ((⟨a0,a1,a2,(a3.map zb),a4⟩:Ask)))
 |_=>(False,.junk)
theorem Qkz {A:Frm→Prop}:qE A Tryz.prog 15 (qX false xg):=qW fun vs hv h=>by
 clear hv
 unfold xg at h ⊢
 split at h
 ·rename_i a0 a1 a2 a3 a4;obtain ⟨q0,k0⟩:=h
  refine ⟨by first|trivial|(simp [AV.plain,AV.plainL,aI,aB,qz,qc,ql,qf,aTk,cTk];done)|(repeat' split) <;> simp [AV.plain,AV.plainL,aI,aB,qz,qc,ql,qf,aTk,cTk],fun h=>absurd h (by decide), ?_⟩
  have:=Qg4 ((⟨a0,a1,a2,(a3.map zb),a4⟩:Ask)) k0
  simp only [qx,aB,aI,qz,qg,← q0] at this
  first|exact this|(simp only [qx,aB,aI,qz,qg,← q0];exact this)
 ·exact h.elim
def ZA:=vj @ty3 (vj @W9 (vj @x9 (vj @yc (vj @yU (vj @Jz (vj @ti3.eq_1 (vj @ZT.eq_1 (vj @xD.eq_1 (vj @jM.eq_1 (vj @yA.eq_1 @Z4.eq_1))))))))))
def VW:=vj @aI.eq_1 (@aB.eq_1)
theorem Qfr (c:Chart):FnV Tryz.prog 8 [qa c] (aB (decide (20 < (c.cabins.length:Int)) || decide (20 < (c.sold.length:Int)))):=by
 have env:Env (fun _=>True) Tryz.prog tyB (tab []):=qL trivial
 refine Fn.of (A:=fun _=>True) (n0:=0) (D:=noD) (Fn0 Tryz.func8 rfl (fun vs w=>by kernel_rfl) (by kernel_rfl)) (by simp) (by simp [AV.ids,AV.idsL,qa,qb]) (fun i o h=>by cases h) (fun _ _ _ _=>trivial) qF ?_
 cases q:decide (20 < (c.cabins.length:Int)) with
 |true =>
  repeat' (first|(apply nx;with_reducible constructor)|refine uq (by decide) ?_|((first|refine vx env fun Q hQ=>?_|refine vz fun Q hQ=>?_);simp only [vkt,seval,ZA,VW,qa,qb,List.length_map,q];(try simp only [ite_and]);(repeat' (first|with_reducible assumption|refine And.intro ?_ ?_|intro hp));all_goals (first|(refine hQ _ ?_;clear hQ Q)|(refine hQ _ (fun h=>?_) (fun h=>?_) <;> clear hQ Q <;> (try simp only [vki,reduceCtorEq] at h))|(refine vq ?_;kernel_rfl)|omega|assumption|with_reducible rfl|skip)))
  (simp only [vrt,Tryz.results8,vkt,seval,ZA,VW,qa,qb,List.length_map];refine Fin.val rfl ?_;(try simp only [AV.le,AV.leL]))
  all_goals first|rfl|(simp;done)
 |false =>
  repeat' (first|(apply nx;with_reducible constructor)|refine uq (by decide) ?_|((first|refine vx env fun Q hQ=>?_|refine vz fun Q hQ=>?_);simp only [vkt,seval,ZA,VW,qa,qb,List.length_map,q];(try simp only [ite_and]);(repeat' (first|with_reducible assumption|refine And.intro ?_ ?_|intro hp));all_goals (first|(refine hQ _ ?_;clear hQ Q)|(refine hQ _ (fun h=>?_) (fun h=>?_) <;> clear hQ Q <;> (try simp only [vki,reduceCtorEq] at h))|(refine vq ?_;kernel_rfl)|omega|assumption|with_reducible rfl|skip)))
  (simp only [vrt,Tryz.results8,vkt,seval,ZA,VW,qa,qb,List.length_map];refine Fin.val rfl ?_;(try simp only [AV.le,AV.leL]))
  all_goals first|rfl|(simp;done)
def xe:List AV→Prop × AV
 |[.agg [.sl c0,.v (.int .i64 c1),.sl c2]]=>(c0=(c0.map qw).map qh∧c2=(c2.map dTk).map eTk,aB (decide (20 < ((((⟨(c0.map qw),c1,(c2.map dTk)⟩:Chart)).cabins.length:Nat):Int)) || decide (20 < ((((⟨(c0.map qw),c1,(c2.map dTk)⟩:Chart)).sold.length:Nat):Int))))
 |_=>(False,.junk)
theorem QjY {A:Frm→Prop}:qE A Tryz.prog 8 (qX true xe):=qW fun vs hv h=>by
 clear hv
 unfold xe at h ⊢
 split at h
 ·rename_i c0 c1 c2;obtain ⟨q0,q1⟩:=h
  refine ⟨by first|trivial|(simp [AV.plain,AV.plainL,aI,aB,qz,qc,ql,qf,aTk,cTk];done)|(repeat' split) <;> simp [AV.plain,AV.plainL,aI,aB,qz,qc,ql,qf,aTk,cTk],fun _=>(by simp [AV.flat,AV.flatL,aI,aB]), ?_⟩
  have:=Qfr ((⟨(c0.map qw),c1,(c2.map dTk)⟩:Chart))
  simp only [qY,qa,aI,ql,qb,← q0,← q1] at this
  first|exact this|(simp only [qY,qa,aI,ql,qb,← q0,← q1];exact this)
 ·exact h.elim
def sfA:List Tk→List Tr→Option (List Tk)
 |sold,[]=>some sold
 |sold,t :: r=>if (sold.getD t.ticket.toNat default).bunk=⟨t.cab,t.bed⟩ then none else sfA (vw sold t.ticket.toNat ⟨t.cab,t.bed⟩) r
theorem Uu {α β:Type} {f:α→Option β}:∀ {l:List α} {b:β},l.findSome? f=some b→∃ x ∈ l,f x=some b
 |[],b,h=>by simp at h
 |x :: l,b,h=>by
  rw [List.findSome?_cons] at h
  split at h
  ·rename_i v hv
   cases h
   exact ⟨x,List.mem_cons_self ..,hv⟩
  ·obtain ⟨y,hy,h2⟩:=Uu h
   exact ⟨y,List.mem_cons_of_mem _ hy,h2⟩
theorem QcG {α β:Type} {f:α→Option β} {l:List α}:l.findSome? f=none ↔ ∀ x ∈ l,f x=none:=by
 rw [List.findSome?_eq_none_iff]
theorem QaL {cs:List Cabin} {s:Int} {a:Ask}:∀ {ts:List Int} {sold:List Tk} {l:List Tr},wP cs s a ts sold=some l→l.map (·.ticket)=ts∧∃ sold',sfA sold l=some sold'∧zu ⟨cs,s,sold'⟩=0∧plP ⟨cs,s,sold'⟩ a ≠ []
 |[],sold,l,h=>by
  unfold wP at h
  split at h
  ·rename_i h1
   cases h
   exact ⟨rfl,sold,rfl,h1⟩
  ·cases h
 |n :: r,sold,l,h=>by
  unfold wP at h
  obtain ⟨b,hb,h2⟩:=Uu h
  split at h2
  ·cases h2
  rename_i hne
  obtain ⟨l',h3,rfl⟩:=Option.map_eq_some_iff.1 h2
  obtain ⟨g1,sold',g2,g3⟩:=QaL h3
  refine ⟨by rw [List.map_cons,g1],sold', ?_,g3⟩
  rw [sfA,if_neg (fun h=>hne (by rw [h])),← g2]
def Asc (l:List Int):Prop:=∀ i j,i < j→j < l.length→l.getD i 0 < l.getD j 0
theorem QgE {l:List Int}:Asc l ↔ l.Pairwise (· < ·):=by
 rw [List.pairwise_iff_getElem]
 constructor
 ·intro h i j hi hj hij
  have:=h i j hij hj
  simpa [List.getD_eq_getElem?_getD,hi,hj] using this
 ·intro h i j hij hj
  have:=h i j (by omega) hj hij
  simpa [List.getD_eq_getElem?_getD,show i < l.length by omega,hj] using this
theorem Qht (sold:List Tk):Asc (zS sold):=by
 rw [QgE]
 unfold zS
 rw [List.pairwise_map]
 refine List.Pairwise.imp (fun {a b} h=>by omega) (List.Pairwise.filter _ List.pairwise_lt_range)
theorem Qh7 {sold:List Tk}:∀ n ∈ zS sold,0≤n∧n.toNat < sold.length:=by
 intro n hn
 unfold zS at hn
 obtain ⟨i,hi,rfl⟩:=List.mem_map.1 hn
 have:=List.mem_range.1 (List.mem_filter.1 hi).1
 exact ⟨by omega,by simpa using this⟩
theorem QaO {n:Nat}:∀ (m:Nat) (l:List Int) (f:Nat),(∀ x ∈ l,0≤x∧x < f)→f≤n→l.Pairwise (· < ·)→∀ r ∈ QI n m l f,r.length=l.length+m∧r.Pairwise (· < ·)∧∀ x ∈ r,0≤x∧x < n
 |0,l,f,h1,hf,h2,r,hr=>by
  rw [QI,List.mem_singleton] at hr
  subst hr
  exact ⟨rfl,h2,fun x hx=>by have:=h1 x hx;omega⟩
 |m+1,l,f,h1,hf,h2,r,hr=>by
  rw [QI,List.mem_flatMap] at hr
  obtain ⟨k,hk,hr⟩:=hr
  have hk:=List.mem_range.1 hk
  obtain ⟨g1,g2,g3⟩:=QaO m (l++[((f+k:Nat):Int)]) (f+k+1) (fun x hx=>by
   rcases List.mem_append.1 hx with hx|hx
   ·have:=h1 x hx;omega
   ·rw [List.mem_singleton.1 hx];omega) (by omega) (by
   rw [List.pairwise_append]
   refine ⟨h2,by simp,fun a ha b hb=>?_⟩
   rw [List.mem_singleton.1 hb]
   have:=h1 a ha;omega) r hr
  exact ⟨by rw [g1,List.length_append,List.length_singleton];omega,g2,g3⟩
theorem QdN {c:Chart} {l:List Int} (h1:l.Pairwise (· < ·)) (h2:∀ x ∈ l,0≤x∧x < ((zS c.sold).length:Int)):(jf c l).Pairwise (· < ·)∧∀ x ∈ jf c l,x ∈ zS c.sold:=by
 unfold jf
 constructor
 ·rw [List.pairwise_map]
  refine List.Pairwise.imp_of_mem (fun {a b} ha hb h=>?_) h1
  have h3:=h2 a ha
  have h4:=h2 b hb
  exact Qht c.sold _ _ (by omega) (by omega)
 ·intro x hx
  obtain ⟨i,hi,rfl⟩:=List.mem_map.1 hx
  have:=h2 i hi
  exact yB (by omega)
theorem Rk {c:Chart} {a:Ask} {m:Nat} {l:List Tr} (h:yP c a m=some l):l.length=m∧(l.map (·.ticket)).Pairwise (· < ·)∧(∀ t ∈ l,t.ticket ∈ zS c.sold)∧∃ sold',sfA c.sold l=some sold'∧zu ⟨c.cabins,c.secs,sold'⟩=0∧plP ⟨c.cabins,c.secs,sold'⟩ a ≠ []:=by
 unfold yP at h
 obtain ⟨r,hr,h2⟩:=Uu h
 obtain ⟨g1,g2,g3⟩:=QaO (n:=(zS c.sold).length) m [] 0 (fun x hx=>by simp at hx) (Nat.zero_le _) List.Pairwise.nil r hr
 obtain ⟨g4,g5⟩:=QaL h2
 obtain ⟨g6,g7⟩:=QdN (c:=c) g2 g3
 rw [← g4] at g6 g7
 refine ⟨?_,g6,fun t ht=>g7 _ (List.mem_map_of_mem ht),g5⟩
 have:=congrArg List.length g4
 rw [List.length_map] at this
 rw [this]
 unfold jf
 rw [List.length_map,g1];simp
theorem Qbu {c:Chart} {a:Ask} (h:zu c=0):yP c a 0=if plP c a ≠ [] then some [] else none:=by
 unfold yP
 rw [QI,List.findSome?_cons]
 rw [show jf c []=[] from rfl]
 unfold wP
 by_cases hp:plP c a ≠ []
 ·rw [if_pos ⟨h,hp⟩,if_pos hp]
 ·rw [if_neg (fun h=>hp h.2),if_neg hp];rfl
def oneP (c:Chart) (a:Ask):Prop:=∃ n ∈ zS c.sold,∃ b ∈ qV c.cabins,(c.sold.getD n.toNat default).bunk ≠ b∧zu ⟨c.cabins,c.secs,vw c.sold n.toNat b⟩=0∧plP ⟨c.cabins,c.secs,vw c.sold n.toNat b⟩ a ≠ []
theorem Qex {c:Chart} {a:Ask}:yP c a 1 ≠ none ↔ oneP c a:=by
 have hs:∀ n:Int,wP c.cabins c.secs a [n] c.sold ≠ none ↔ ∃ b ∈ qV c.cabins,(c.sold.getD n.toNat default).bunk ≠ b∧zu ⟨c.cabins,c.secs,vw c.sold n.toNat b⟩=0∧plP ⟨c.cabins,c.secs,vw c.sold n.toNat b⟩ a ≠ []:=fun n=>by
  unfold wP
  rw [Ne,QcG,Classical.not_forall]
  simp only [Classical.not_imp]
  constructor
  ·rintro ⟨b,hb,h⟩
   refine ⟨b,hb, ?_⟩
   split at h
   ·exact absurd rfl h
   rename_i hne
   refine ⟨fun h=>hne h.symm, ?_⟩
   unfold wP at h
   split at h
   ·assumption
   ·exact absurd rfl h
  ·rintro ⟨b,hb,h1,h2⟩
   refine ⟨b,hb, ?_⟩
   rw [if_neg (fun h=>h1 h.symm)]
   unfold wP
   rw [if_pos h2]
   simp
 have hsub:QI (zS c.sold).length 1 [] 0=(List.range (zS c.sold).length).map fun (k:Nat)=>[(k:Int)]:=by
  rw [QI]
  have:∀ l:List Nat,(l.flatMap fun k=>QI (zS c.sold).length 0 ([]++[((0+k:Nat):Int)]) (0+k+1))=l.map fun (k:Nat)=>[(k:Int)]:=fun l=>by
   induction l with
   |nil=>rfl
   |cons x l ih =>
    rw [List.flatMap_cons,ih,QI,List.map_cons,Nat.zero_add];rfl
  exact this _
 unfold yP oneP
 rw [hsub,Ne,QcG,Classical.not_forall]
 simp only [Classical.not_imp]
 constructor
 ·rintro ⟨r,hr,h⟩
  obtain ⟨k,hk,rfl⟩:=List.mem_map.1 hr
  have hk:=List.mem_range.1 hk
  have h:¬ wP c.cabins c.secs a [(zS c.sold).getD k 0] c.sold=none:=h
  exact ⟨_,yB hk,(hs _).1 h⟩
 ·rintro ⟨n,hn,h⟩
  obtain ⟨k,hk,rfl⟩:=List.mem_iff_getElem.1 hn
  refine ⟨[(k:Int)],List.mem_map.2 ⟨k,List.mem_range.2 hk,rfl⟩, ?_⟩
  show ¬ wP c.cabins c.secs a [(zS c.sold).getD k 0] c.sold=none
  rw [show (zS c.sold).getD k 0=(zS c.sold)[k] by simp [List.getD_eq_getElem?_getD,hk]]
  exact (hs _).2 h
theorem Qac {c:Chart} {a:Ask} (h:zw c a=0):(plP c a ≠ []∧wV c a=([],0))∨(plP c a=[]∧((∃ t,wV c a=([t],0)∧yP c a 1=some [t])∨(¬ oneP c a∧((∃ l,wV c a=(l,0)∧yP c a 2=some l)∨wV c a=([],11))))):=by
 have h0:=Qbu (a:=a) (yK h).1
 have hr:List.range 3=[0,1,2]:=rfl
 have hM:wV c a=match (List.range 3).findSome? (yP c a) with|some t=>(t,0)|none=>([],11):=by
  unfold wV
  rw [if_neg (fun hn=>hn h)];rfl
 rw [hM,hr,List.findSome?_cons,h0]
 by_cases hp:plP c a=[]
 ·rw [if_neg (fun hn=>hn hp)]
  refine .inr ⟨hp, ?_⟩
  rw [List.findSome?_cons]
  cases h1:yP c a 1 with
  |some l =>
   obtain ⟨g1,_⟩:=Rk h1
   match l,g1 with
   |[t],_=>exact .inl ⟨t,rfl,rfl⟩
  |none =>
   refine .inr ⟨fun ho=>Qex.2 ho h1, ?_⟩
   rw [List.findSome?_cons]
   cases h2:yP c a 2 with
   |some l=>exact .inl ⟨l,rfl,rfl⟩
   |none=>exact .inr rfl
 ·rw [if_pos hp]
  exact .inl ⟨hp,rfl⟩
theorem QhC {c:Chart} (h:CarOk c) (h8:c.sold.length≤8):ZN c=0:=by
 have h1:=h.cabs
 have h2:zt c.cabins.length 1 3=0:=by
  unfold zt
  rw [if_neg (by omega),if_neg (by omega)]
 have h3:yw (c.cabins.map kI)=0:=yo fun j hj=>by
  rw [List.length_map] at hj
  rw [mapD hj]
  unfold kI
  rw [wL.2 (h.beds _ (yB hj))];rfl
 unfold ZN
 rw [h2,h3,wL.2 h.secs]
 simp only [ne_eq,not_true_eq_false,if_false,Bool.not_true,Bool.false_eq_true]
 unfold zt
 rw [if_neg (by omega),if_neg (by omega)]
theorem TkOk.to' {c:Chart} {t:Tk} (h:TkOk c t) (l:List Tk):TkOk ⟨c.cabins,c.secs,l⟩ t:=⟨h.party,h.sex,h.cab,h.bed,h.frm,h.way,h.to⟩
theorem CarOk.to' {c:Chart} (h:CarOk c) (l:List Tk):CarOk ⟨c.cabins,c.secs,l⟩:=⟨h.cabs,h.beds,h.secs⟩
theorem QbC {c:Chart} {a:Ask} (h:zw c a=0):∀ t ∈ c.sold,t.party ≠ a.party:=by
 have h:=(yK h).2
 unfold vK at h
 split at h
 ·exact absurd h (by decide)
 split at h
 ·exact absurd h (by decide)
 rename_i h2
 intro t ht hp
 exact h2 (List.any_eq_true.2 ⟨t,ht,by rw [hp];simp⟩)
def askP (a:Ask) (P:Int):Ask:=⟨P,a.frm,a.to,a.sexes,a.dog⟩
theorem QiV {c c':Chart} {a:Ask} {P:Int} (h:zw c a=0) (hs:c'.secs=c.secs) (h':zu c'=0) (hP:1≤P∧P≤99) (hn:∀ t ∈ c'.sold,t.party ≠ P):zw c' (askP a P)=0:=by
 have h:=(yK h).2
 unfold zw
 rw [h',if_neg (by decide)]
 unfold vK askP at *
 simp only [hs]
 split at h
 ·exact absurd h (by decide)
 split at h
 ·exact absurd h (by decide)
 have b1:inB P 1 99=true:=wL.2 hP
 have b2:c'.sold.any (fun t=>decide (t.party=P))=false:=List.any_eq_false.2 fun t ht=>by simpa using hn t ht
 rw [b1,b2]
 exact h
def raS (c:Chart) (a:Ask) (T:List (Nat × AV)):St:={ t:=asg (T++[(2,.ptr 0 0),(3,.ptr 1 0),(4,aI 0)]),h:=qj [(0,.cells (qb c)),(1,.cells (qg a))],n:=2 }
theorem Qgl {α:Type} {p:α→Bool} {l:List α} {k:Nat} {d:α} (h:k < l.length) (hp:p (l.getD k d)=true):l.any p=true:=List.any_eq_true.2 ⟨_,yB h,hp⟩
theorem Qhi {α:Type} {p:α→Bool} {l:List α} {d:α} (h:∀ j,j < l.length→p (l.getD j d)=false):l.any p=false:=by
 rw [List.any_eq_false]
 intro x hx
 obtain ⟨j,hj,rfl⟩:=List.getElem_of_mem hx
 have:=h j hj
 rw [List.getD_eq_getElem?_getD,List.getElem?_eq_getElem hj] at this
 simpa using this
def zT:=vj @ty3 (vj @x9 (vj @yc (vj @Qe (vj @QM (vj @Zc (vj @yU (vj @ti3.eq_1 (vj @xD.eq_1 (vj @jM.eq_1 (vj @x8.eq_1 (vj @Qb.eq_1 (vj @QA.eq_1 @yA.eq_1))))))))))))
def yC:=vj @aI.eq_1 (vj @aB.eq_1 (vj @qz.eq_1 (vj @zF.eq_1 (vj @XE (@QT)))))
theorem QhU (c:Chart) (a:Ask) (hs:c.sold.length≤100) (ha:a.sexes.length≤maxLen):FnV Tryz.prog 105 [qa c,qx a] (aI (vK c a)):=by
 have env:Env (fun _=>True) Tryz.prog tyB (tab [(83,qX true zm),(84,qX true zX)]):=qL ⟨QdJ,Qja,trivial⟩
 refine Fn.of (A:=fun _=>True) (n0:=0) (D:=noD) (Fn0 Tryz.func105 rfl (fun vs w=>by kernel_rfl) (by kernel_rfl)) (by simp) (by simp [AV.ids,AV.idsL,qa,qb,qx,qg]) (fun i o h=>by cases h) (fun _ _ _ _=>trivial) qF ?_
 have ec:(⟨c.cabins,c.secs,c.sold⟩:Chart)=c:=rfl
 have hmx:maxLen=9223372036854775807:=by decide
 cases h1:inB a.party 1 99 with
 |false =>
  rw [show vK c a=1 by simp [vK,h1]]
  repeat' (first|(apply nx;with_reducible constructor)|refine uq (by decide) ?_|((first|refine vx env fun Q hQ=>?_|refine vz fun Q hQ=>?_);simp only [vkt,seval,zT,yC,aTk,cTk,gTk,eTk,mTk,qd,qa,qb,qx,qg,raS,zm,zX,List.length_map,h1];(try simp only [ite_and]);(repeat' (first|with_reducible assumption|refine And.intro ?_ ?_|intro hp));all_goals (first|(refine hQ _ ?_;clear hQ Q)|(refine hQ _ (fun h=>?_) (fun h=>?_) <;> clear hQ Q <;> (try simp only [vki,reduceCtorEq] at h))|(refine vq ?_;kernel_rfl)|omega|assumption|with_reducible rfl|skip)))
  (simp only [vrt,Tryz.results105,vkt,seval,zT,yC,aTk,cTk,gTk,eTk,mTk,qd,qa,qb,qx,qg,raS,zm,zX,List.length_map];refine Fin.val rfl ?_;(try simp only [AV.le,AV.leL]))
  all_goals first|rfl|(simp;done)
 |true =>
 repeat' (first|(apply nx;with_reducible constructor)|refine uq (by decide) ?_|((first|refine vx env fun Q hQ=>?_|refine vz fun Q hQ=>?_);simp only [vkt,seval,zT,yC,aTk,cTk,gTk,eTk,mTk,qd,qa,qb,qx,qg,raS,zm,zX,List.length_map,h1];(try simp only [ite_and]);(repeat' (first|with_reducible assumption|refine And.intro ?_ ?_|intro hp));all_goals (first|(refine hQ _ ?_;clear hQ Q)|(refine hQ _ (fun h=>?_) (fun h=>?_) <;> clear hQ Q <;> (try simp only [vki,reduceCtorEq] at h))|(refine vq ?_;kernel_rfl)|omega|assumption|with_reducible rfl|skip)))
 refine qN (fun k:{ k:Nat // k≤c.sold.length∧∀ j,j < k→decide ((c.sold.getD j default).party=a.party)=false }=>raS c a [(5,aI k.1)]) (fun k=>c.sold.length - k.1) ⟨0,Nat.zero_le _,fun j h=>absurd h (Nat.not_lt_zero _)⟩ ?_ fun ⟨k,hk,hno⟩=>?_
 ·simp only [raS,List.cons_append,List.nil_append]
  (refine Le.ok some [] ?_;constructor;all_goals (try simp only [vle,vkt,seval,zT,yC,aTk,cTk,gTk,eTk,mTk,qd,qa,qb,qx,qg,raS,zm,zX,List.length_map]))
  all_goals first|rfl|(simp;done)
 simp only at hk hno ⊢
 simp only [raS,List.cons_append,List.nil_append]
 by_cases hlt:k < c.sold.length
 ·have d1:decide ((k:Int) < (c.sold.length:Int))=true:=decide_eq_true (by omega)
  have k0:((k:Int)).toNat=k:=rfl
  have e9:IntKind.wrap .i64 ((k:Int)+1)=((k+1:Nat):Int):=by rw [wrap64 (by omega) (by omega)];rfl
  have hg:=hTk hlt
  obtain ⟨x,hx⟩:∃ x,c.sold.getD k default=x:=⟨_,rfl⟩
  rw [hx] at hg
  cases hp:decide (x.party=a.party) with
  |true =>
   have h2:c.sold.any (fun t=>decide (t.party=a.party))=true:=Qgl (d:=default) hlt (by rw [hx];exact hp)
   rw [show vK c a=4 by simp only [vK,h1,h2];rfl]
   repeat' (first|(apply nx;with_reducible constructor)|refine uq (by decide) ?_|((first|refine vx env fun Q hQ=>?_|refine vz fun Q hQ=>?_);simp only [vkt,seval,zT,yC,aTk,cTk,gTk,eTk,mTk,qd,qa,qb,qx,qg,raS,zm,zX,List.length_map,d1,k0,hlt,hg,hx,hp];(try simp only [ite_and]);(repeat' (first|with_reducible assumption|refine And.intro ?_ ?_|intro hp));all_goals (first|(refine hQ _ ?_;clear hQ Q)|(refine hQ _ (fun h=>?_) (fun h=>?_) <;> clear hQ Q <;> (try simp only [vki,reduceCtorEq] at h))|(refine vq ?_;kernel_rfl)|omega|assumption|with_reducible rfl|skip)))
   (simp only [vrt,Tryz.results105,vkt,seval,zT,yC,aTk,cTk,gTk,eTk,mTk,qd,qa,qb,qx,qg,raS,zm,zX,List.length_map];refine Fin.val rfl ?_;(try simp only [AV.le,AV.leL]))
   all_goals first|rfl|(simp;done)
  |false =>
   repeat' (first|(apply nx;with_reducible constructor)|refine uq (by decide) ?_|((first|refine vx env fun Q hQ=>?_|refine vz fun Q hQ=>?_);simp only [vkt,seval,zT,yC,aTk,cTk,gTk,eTk,mTk,qd,qa,qb,qx,qg,raS,zm,zX,List.length_map,d1,k0,hlt,hg,hx,hp,e9];(try simp only [ite_and]);(repeat' (first|with_reducible assumption|refine And.intro ?_ ?_|intro hp));all_goals (first|(refine hQ _ ?_;clear hQ Q)|(refine hQ _ (fun h=>?_) (fun h=>?_) <;> clear hQ Q <;> (try simp only [vki,reduceCtorEq] at h))|(refine vq ?_;kernel_rfl)|omega|assumption|with_reducible rfl|skip)))
   refine ⟨⟨k+1,hlt,fun j hj=>?_⟩,by show c.sold.length - (k+1) < c.sold.length - k;omega, ?_⟩
   ·rcases Nat.lt_or_eq_of_le (Nat.le_of_lt_succ hj) with h2|h2
    ·exact hno j h2
    ·rw [h2,hx];exact hp
   ·simp only [raS,List.cons_append,List.nil_append]
    (refine Le.ok some [] ?_;constructor;all_goals (try simp only [vle,vkt,seval,zT,yC,aTk,cTk,gTk,eTk,mTk,qd,qa,qb,qx,qg,raS,zm,zX,List.length_map]))
    all_goals first|rfl|(simp;done)
 ·have d1:decide ((k:Int) < (c.sold.length:Int))=false:=decide_eq_false (by omega)
  obtain rfl:k=c.sold.length:=by omega
  have h2:c.sold.any (fun t=>decide (t.party=a.party))=false:=Qhi hno
  obtain ⟨w,hw⟩:∃ w,QO c.secs a.frm a.to=w:=⟨_,rfl⟩
  by_cases hw0:w=0
  case neg =>
   rw [show vK c a=w by unfold vK;rw [h1,h2,hw];simp [hw0]]
   have d2:decide (w=0)=false:=decide_eq_false hw0
   repeat' (first|(apply nx;with_reducible constructor)|refine uq (by decide) ?_|((first|refine vx env fun Q hQ=>?_|refine vz fun Q hQ=>?_);simp only [vkt,seval,zT,yC,aTk,cTk,gTk,eTk,mTk,qd,qa,qb,qx,qg,raS,zm,zX,List.length_map,d1,ec,hw,d2];(try simp only [ite_and]);(repeat' (first|with_reducible assumption|refine And.intro ?_ ?_|intro hp));all_goals (first|(refine hQ _ ?_;clear hQ Q)|(refine hQ _ (fun h=>?_) (fun h=>?_) <;> clear hQ Q <;> (try simp only [vki,reduceCtorEq] at h))|(refine vq ?_;kernel_rfl)|omega|assumption|with_reducible rfl|skip)))
   (simp only [vrt,Tryz.results105,vkt,seval,zT,yC,aTk,cTk,gTk,eTk,mTk,qd,qa,qb,qx,qg,raS,zm,zX,List.length_map];refine Fin.val rfl ?_;(try simp only [AV.le,AV.leL]))
   all_goals first|rfl|(simp;done)
  rw [hw0] at hw
  by_cases h0:a.sexes.length=0
  ·rw [show vK c a=7 by unfold vK;rw [h1,h2,hw];simp [zt,h0]]
   have d3:decide ((a.sexes.length:Int)=0)=true:=decide_eq_true (by omega)
   repeat' (first|(apply nx;with_reducible constructor)|refine uq (by decide) ?_|((first|refine vx env fun Q hQ=>?_|refine vz fun Q hQ=>?_);simp only [vkt,seval,zT,yC,aTk,cTk,gTk,eTk,mTk,qd,qa,qb,qx,qg,raS,zm,zX,List.length_map,d1,ec,hw,d3,decide_true,Bool.not_true];(try simp only [ite_and]);(repeat' (first|with_reducible assumption|refine And.intro ?_ ?_|intro hp));all_goals (first|(refine hQ _ ?_;clear hQ Q)|(refine hQ _ (fun h=>?_) (fun h=>?_) <;> clear hQ Q <;> (try simp only [vki,reduceCtorEq] at h))|(refine vq ?_;kernel_rfl)|omega|assumption|with_reducible rfl|skip)))
   (simp only [vrt,Tryz.results105,vkt,seval,zT,yC,aTk,cTk,gTk,eTk,mTk,qd,qa,qb,qx,qg,raS,zm,zX,List.length_map];refine Fin.val rfl ?_;(try simp only [AV.le,AV.leL]))
   all_goals first|rfl|(simp;done)
  have d3:decide ((a.sexes.length:Int)=0)=false:=decide_eq_false (by omega)
  by_cases h3:3 < a.sexes.length
  ·have d4:decide ((3:Int) < (a.sexes.length:Int))=true:=decide_eq_true (by omega)
   have hcnt:zt a.sexes.length 1 3=6:=by unfold zt;rw [if_neg (by omega),if_pos (by omega)]
   rw [show vK c a=6 by unfold vK;rw [h1,h2,hw,hcnt];rfl]
   repeat' (first|(apply nx;with_reducible constructor)|refine uq (by decide) ?_|((first|refine vx env fun Q hQ=>?_|refine vz fun Q hQ=>?_);simp only [vkt,seval,zT,yC,aTk,cTk,gTk,eTk,mTk,qd,qa,qb,qx,qg,raS,zm,zX,List.length_map,d1,ec,hw,d3,d4,decide_true,Bool.not_true];(try simp only [ite_and]);(repeat' (first|with_reducible assumption|refine And.intro ?_ ?_|intro hp));all_goals (first|(refine hQ _ ?_;clear hQ Q)|(refine hQ _ (fun h=>?_) (fun h=>?_) <;> clear hQ Q <;> (try simp only [vki,reduceCtorEq] at h))|(refine vq ?_;kernel_rfl)|omega|assumption|with_reducible rfl|skip)))
   (simp only [vrt,Tryz.results105,vkt,seval,zT,yC,aTk,cTk,gTk,eTk,mTk,qd,qa,qb,qx,qg,raS,zm,zX,List.length_map];refine Fin.val rfl ?_;(try simp only [AV.le,AV.leL]))
   all_goals first|rfl|(simp;done)
  have d4:decide ((3:Int) < (a.sexes.length:Int))=false:=decide_eq_false (by omega)
  have hcnt:zt a.sexes.length 1 3=0:=by unfold zt;rw [if_neg (by omega),if_neg (by omega)]
  rw [show vK c a=yw (a.sexes.map ZZ) by unfold vK;rw [h1,h2,hw,hcnt];rfl]
  repeat' (first|(apply nx;with_reducible constructor)|refine uq (by decide) ?_|((first|refine vx env fun Q hQ=>?_|refine vz fun Q hQ=>?_);simp only [vkt,seval,zT,yC,aTk,cTk,gTk,eTk,mTk,qd,qa,qb,qx,qg,raS,zm,zX,List.length_map,d1,ec,hw,d3,d4,decide_true,Bool.not_true];(try simp only [ite_and]);(repeat' (first|with_reducible assumption|refine And.intro ?_ ?_|intro hp));all_goals (first|(refine hQ _ ?_;clear hQ Q)|(refine hQ _ (fun h=>?_) (fun h=>?_) <;> clear hQ Q <;> (try simp only [vki,reduceCtorEq] at h))|(refine vq ?_;kernel_rfl)|omega|assumption|with_reducible rfl|skip)))
  refine qN (fun k:{ k:Nat // k≤a.sexes.length∧∀ j,j < k→(a.sexes.map ZZ).getD j 0=0 }=>raS c a [(7,aI k.1)]) (fun k=>a.sexes.length - k.1) ⟨0,Nat.zero_le _,fun j h=>absurd h (Nat.not_lt_zero _)⟩ ?_ fun ⟨k,hk,hno⟩=>?_
  ·simp only [raS,List.cons_append,List.nil_append]
   (refine Le.ok some [] ?_;constructor;all_goals (try simp only [vle,vkt,seval,zT,yC,aTk,cTk,gTk,eTk,mTk,qd,qa,qb,qx,qg,raS,zm,zX,List.length_map]))
   all_goals first|rfl|(simp;done)
  simp only at hk hno ⊢
  simp only [raS,List.cons_append,List.nil_append]
  by_cases hlt:k < a.sexes.length
  ·have d5:decide ((k:Int) < (a.sexes.length:Int))=true:=decide_eq_true (by omega)
   have k0:((k:Int)).toNat=k:=rfl
   have e9:IntKind.wrap .i64 ((k:Int)+1)=((k+1:Nat):Int):=by rw [wrap64 (by omega) (by omega)];rfl
   have hg:=hInt hlt
   obtain ⟨x,hx⟩:∃ x,a.sexes.getD k 0=x:=⟨_,rfl⟩
   rw [hx] at hg
   have hm:(a.sexes.map ZZ).getD k 0=ZZ x:=by rw [mapD hlt];exact congrArg ZZ hx
   cases hb:inB x 1 2 with
   |false =>
    have hE:ZZ x=8:=by simp [ZZ,hb]
    have hf:=kG hno (by simpa using hlt) (by rw [hm,hE];decide)
    rw [hm,hE] at hf
    rw [hf]
    repeat' (first|(apply nx;with_reducible constructor)|refine uq (by decide) ?_|((first|refine vx env fun Q hQ=>?_|refine vz fun Q hQ=>?_);simp only [vkt,seval,zT,yC,aTk,cTk,gTk,eTk,mTk,qd,qa,qb,qx,qg,raS,zm,zX,List.length_map,d5,k0,hlt,hg,hx,hb];(try simp only [ite_and]);(repeat' (first|with_reducible assumption|refine And.intro ?_ ?_|intro hp));all_goals (first|(refine hQ _ ?_;clear hQ Q)|(refine hQ _ (fun h=>?_) (fun h=>?_) <;> clear hQ Q <;> (try simp only [vki,reduceCtorEq] at h))|(refine vq ?_;kernel_rfl)|omega|assumption|with_reducible rfl|skip)))
    (simp only [vrt,Tryz.results105,vkt,seval,zT,yC,aTk,cTk,gTk,eTk,mTk,qd,qa,qb,qx,qg,raS,zm,zX,List.length_map];refine Fin.val rfl ?_;(try simp only [AV.le,AV.leL]))
    all_goals first|rfl|(simp;done)
   |true =>
    have hE:ZZ x=0:=by simp [ZZ,hb]
    repeat' (first|(apply nx;with_reducible constructor)|refine uq (by decide) ?_|((first|refine vx env fun Q hQ=>?_|refine vz fun Q hQ=>?_);simp only [vkt,seval,zT,yC,aTk,cTk,gTk,eTk,mTk,qd,qa,qb,qx,qg,raS,zm,zX,List.length_map,d5,k0,hlt,hg,hx,hb,e9];(try simp only [ite_and]);(repeat' (first|with_reducible assumption|refine And.intro ?_ ?_|intro hp));all_goals (first|(refine hQ _ ?_;clear hQ Q)|(refine hQ _ (fun h=>?_) (fun h=>?_) <;> clear hQ Q <;> (try simp only [vki,reduceCtorEq] at h))|(refine vq ?_;kernel_rfl)|omega|assumption|with_reducible rfl|skip)))
    refine ⟨⟨k+1,hlt,fun j hj=>?_⟩,by show a.sexes.length - (k+1) < a.sexes.length - k;omega, ?_⟩
    ·rcases Nat.lt_or_eq_of_le (Nat.le_of_lt_succ hj) with h2|h2
     ·exact hno j h2
     ·rw [h2,hm,hE]
    ·simp only [raS,List.cons_append,List.nil_append]
     (refine Le.ok some [] ?_;constructor;all_goals (try simp only [vle,vkt,seval,zT,yC,aTk,cTk,gTk,eTk,mTk,qd,qa,qb,qx,qg,raS,zm,zX,List.length_map]))
     all_goals first|rfl|(simp;done)
  ·have d5:decide ((k:Int) < (a.sexes.length:Int))=false:=decide_eq_false (by omega)
   obtain rfl:k=a.sexes.length:=by omega
   rw [yo (l:=a.sexes.map ZZ) (by simpa using hno)]
   repeat' (first|(apply nx;with_reducible constructor)|refine uq (by decide) ?_|((first|refine vx env fun Q hQ=>?_|refine vz fun Q hQ=>?_);simp only [vkt,seval,zT,yC,aTk,cTk,gTk,eTk,mTk,qd,qa,qb,qx,qg,raS,zm,zX,List.length_map,d5];(try simp only [ite_and]);(repeat' (first|with_reducible assumption|refine And.intro ?_ ?_|intro hp));all_goals (first|(refine hQ _ ?_;clear hQ Q)|(refine hQ _ (fun h=>?_) (fun h=>?_) <;> clear hQ Q <;> (try simp only [vki,reduceCtorEq] at h))|(refine vq ?_;kernel_rfl)|omega|assumption|with_reducible rfl|skip)))
   (simp only [vrt,Tryz.results105,vkt,seval,zT,yC,aTk,cTk,gTk,eTk,mTk,qd,qa,qb,qx,qg,raS,zm,zX,List.length_map];refine Fin.val rfl ?_;(try simp only [AV.le,AV.leL]))
   all_goals first|rfl|(simp;done)
def XP:List AV→Prop × AV
 |[.agg [.sl c0,.v (.int .i64 c1),.sl c2],.agg [.v (.int .i64 a0),.v (.int .i64 a1),.v (.int .i64 a2),.sl a3,.v (.bool a4)]]=>(c0=(c0.map qw).map qh∧c2=(c2.map dTk).map eTk∧a3=(a3.map zb).map zF∧((⟨(c0.map qw),c1,(c2.map dTk)⟩:Chart)).sold.length≤100∧((⟨a0,a1,a2,(a3.map zb),a4⟩:Ask)).sexes.length≤maxLen,aI (vK ((⟨(c0.map qw),c1,(c2.map dTk)⟩:Chart)) ((⟨a0,a1,a2,(a3.map zb),a4⟩:Ask))))
 |_=>(False,.junk)
theorem erask {A:Frm→Prop}:qE A Tryz.prog 105 (qX true XP):=qW fun vs hv h=>by
 clear hv
 unfold XP at h ⊢
 split at h
 ·rename_i c0 c1 c2 a0 a1 a2 a3 a4;obtain ⟨q0,q1,q2,k0,k1⟩:=h
  refine ⟨by first|trivial|(simp [AV.plain,AV.plainL,aI,aB,qz,qc,ql,qf,aTk,cTk];done)|(repeat' split) <;> simp [AV.plain,AV.plainL,aI,aB,qz,qc,ql,qf,aTk,cTk],fun _=>(by simp [AV.flat,AV.flatL,aI,aB]), ?_⟩
  have:=QhU ((⟨(c0.map qw),c1,(c2.map dTk)⟩:Chart)) ((⟨a0,a1,a2,(a3.map zb),a4⟩:Ask)) k0 k1
  simp only [qx,aB,qY,qa,aI,qz,ql,qg,qb,← q0,← q1,← q2] at this
  first|exact this|(simp only [qx,aB,qY,qa,aI,qz,ql,qg,qb,← q0,← q1,← q2];exact this)
 ·exact h.elim
def Wm:=vj @yc (vj @QM (vj @Zc (vj @jM.eq_1 (vj @Qb.eq_1 @QA.eq_1))))
def U3:=vj @aI.eq_1 (vj @aB.eq_1 (vj @qz.eq_1 (@QT)))
theorem Qgv (c:Chart) (a:Ask) (hc:c.cabins.length≤maxLen) (hs:c.sold.length≤100) (ha:a.sexes.length≤maxLen):FnV Tryz.prog 53 [qa c,qx a] (aI (zw c a)):=by
 have env:Env (fun _=>True) Tryz.prog tyB (tab [(82,qX true Wp),(105,qX true XP)]):=qL ⟨Qi4,erask,trivial⟩
 refine Fn.of (A:=fun _=>True) (n0:=0) (D:=noD) (Fn0 Tryz.func53 rfl (fun vs w=>by kernel_rfl) (by kernel_rfl)) (by simp) (by simp [AV.ids,AV.idsL,qa,qb,qx,qg]) (fun i o h=>by cases h) (fun _ _ _ _=>trivial) qF ?_
 have ec:(⟨c.cabins,c.secs,c.sold⟩:Chart)=c:=rfl
 have ea:(⟨a.party,a.frm,a.to,a.sexes,a.dog⟩:Ask)=a:=rfl
 have hs2:c.sold.length≤100000:=by omega
 obtain ⟨e,he⟩:∃ e,zu c=e:=⟨_,rfl⟩
 by_cases h0:e=0
 ·rw [show zw c a=vK c a by unfold zw;rw [he,h0];rfl]
  rw [h0] at he
  repeat' (first|(apply nx;with_reducible constructor)|refine uq (by decide) ?_|((first|refine vx env fun Q hQ=>?_|refine vz fun Q hQ=>?_);simp only [vkt,seval,Wm,U3,mTk,qd,qa,qb,qx,qg,Wp,XP,List.length_map,ec,ea,hc,hs,hs2,ha,he,decide_true];(try simp only [ite_and]);(repeat' (first|with_reducible assumption|refine And.intro ?_ ?_|intro hp));all_goals (first|(refine hQ _ ?_;clear hQ Q)|(refine hQ _ (fun h=>?_) (fun h=>?_) <;> clear hQ Q <;> (try simp only [vki,reduceCtorEq] at h))|(refine vq ?_;kernel_rfl)|omega|assumption|with_reducible rfl|skip)))
  (simp only [vrt,Tryz.results53,vkt,seval,Wm,U3,mTk,qd,qa,qb,qx,qg,Wp,XP,List.length_map];refine Fin.val rfl ?_;(try simp only [AV.le,AV.leL]))
  all_goals first|rfl|(simp;done)
 ·rw [show zw c a=e by unfold zw;rw [he,if_pos h0]]
  have d0:decide (e=0)=false:=decide_eq_false h0
  repeat' (first|(apply nx;with_reducible constructor)|refine uq (by decide) ?_|((first|refine vx env fun Q hQ=>?_|refine vz fun Q hQ=>?_);simp only [vkt,seval,Wm,U3,mTk,qd,qa,qb,qx,qg,Wp,XP,List.length_map,ec,ea,hc,hs2,ha,he,d0];(try simp only [ite_and]);(repeat' (first|with_reducible assumption|refine And.intro ?_ ?_|intro hp));all_goals (first|(refine hQ _ ?_;clear hQ Q)|(refine hQ _ (fun h=>?_) (fun h=>?_) <;> clear hQ Q <;> (try simp only [vki,reduceCtorEq] at h))|(refine vq ?_;kernel_rfl)|omega|assumption|with_reducible rfl|skip)))
  (simp only [vrt,Tryz.results53,vkt,seval,Wm,U3,mTk,qd,qa,qb,qx,qg,Wp,XP,List.length_map];refine Fin.val rfl ?_;(try simp only [AV.le,AV.leL]))
  all_goals first|rfl|(simp;done)
def jg:List AV→Prop × AV
 |[.agg [.sl c0,.v (.int .i64 c1),.sl c2],.agg [.v (.int .i64 a0),.v (.int .i64 a1),.v (.int .i64 a2),.sl a3,.v (.bool a4)]]=>(c0=(c0.map qw).map qh∧c2=(c2.map dTk).map eTk∧a3=(a3.map zb).map zF∧((⟨(c0.map qw),c1,(c2.map dTk)⟩:Chart)).cabins.length≤maxLen∧((⟨(c0.map qw),c1,(c2.map dTk)⟩:Chart)).sold.length≤100∧((⟨a0,a1,a2,(a3.map zb),a4⟩:Ask)).sexes.length≤maxLen,aI (zw ((⟨(c0.map qw),c1,(c2.map dTk)⟩:Chart)) ((⟨a0,a1,a2,(a3.map zb),a4⟩:Ask))))
 |_=>(False,.junk)
theorem QjO {A:Frm→Prop}:qE A Tryz.prog 53 (qX true jg):=qW fun vs hv h=>by
 clear hv
 unfold jg at h ⊢
 split at h
 ·rename_i c0 c1 c2 a0 a1 a2 a3 a4;obtain ⟨q0,q1,q2,k0,k1,k2⟩:=h
  refine ⟨by first|trivial|(simp [AV.plain,AV.plainL,aI,aB,qz,qc,ql,qf,aTk,cTk];done)|(repeat' split) <;> simp [AV.plain,AV.plainL,aI,aB,qz,qc,ql,qf,aTk,cTk],fun _=>(by simp [AV.flat,AV.flatL,aI,aB]), ?_⟩
  have:=Qgv ((⟨(c0.map qw),c1,(c2.map dTk)⟩:Chart)) ((⟨a0,a1,a2,(a3.map zb),a4⟩:Ask)) k0 k1 k2
  simp only [qx,aB,qY,qa,aI,qz,ql,qg,qb,← q0,← q1,← q2] at this
  first|exact this|(simp only [qx,aB,qY,qa,aI,qz,ql,qg,qb,← q0,← q1,← q2];exact this)
 ·exact h.elim
def xN:=vj @ty3 (vj @ty4 (vj @Qe (vj @QM (vj @ti3.eq_1 (vj @ti4.eq_1 (vj @x8.eq_1 @Qb.eq_1))))))
def ZJ:=vj @aI.eq_1 (vj @aB.eq_1 (vj @qz.eq_1 (@QT)))
theorem QjZ (a b:Ask) (h1:a.sexes.length≤maxLen) (h2:b.sexes.length≤maxLen):FnV Tryz.prog 22 [qx a,qx b] (aB (decide (a=b))):=by
 have env:Env (fun _=>True) Tryz.prog tyB (tab [(41,qX true Y5)]):=qL ⟨eeqI,trivial⟩
 refine Fn.of (A:=fun _=>True) (n0:=0) (D:=noD) (Fn0 Tryz.func22 rfl (fun vs w=>by kernel_rfl) (by kernel_rfl)) (by simp) (by simp [AV.ids,AV.idsL,qx,qg]) (fun i o h=>by cases h) (fun _ _ _ _=>trivial) qF ?_
 have hE:decide (a=b)=(decide (a.party=b.party) && (decide (a.frm=b.frm) && (decide (a.to=b.to) && ((a.dog == b.dog) && decide (a.sexes=b.sexes))))):=by
  cases a with|mk p f t s d=>cases b with|mk p' f' t' s' d' =>
  rw [Bool.eq_iff_iff]
  simp only [decide_eq_true_eq,Bool.and_eq_true,beq_iff_eq,Ask.mk.injEq]
  exact ⟨fun ⟨x1,x2,x3,x4,x5⟩=>⟨x1,x2,x3,x5,x4⟩,fun ⟨x1,x2,x3,x5,x4⟩=>⟨x1,x2,x3,x4,x5⟩⟩
 rw [hE]
 cases q0:decide (a.party=b.party) with
 |false =>
  rw [Bool.false_and]
  repeat' (first|(apply nx;with_reducible constructor)|refine uq (by decide) ?_|((first|refine vx env fun Q hQ=>?_|refine vz fun Q hQ=>?_);simp only [vkt,seval,xN,ZJ,qx,qg,Y5,Bool.true_and,Bool.false_and,List.length_map,q0];(try simp only [ite_and]);(repeat' (first|with_reducible assumption|refine And.intro ?_ ?_|intro hp));all_goals (first|(refine hQ _ ?_;clear hQ Q)|(refine hQ _ (fun h=>?_) (fun h=>?_) <;> clear hQ Q <;> (try simp only [vki,reduceCtorEq] at h))|(refine vq ?_;kernel_rfl)|omega|assumption|with_reducible rfl|skip)))
  (simp only [vrt,Tryz.results22,vkt,seval,xN,ZJ,qx,qg,Y5,Bool.true_and,Bool.false_and,List.length_map];refine Fin.val rfl ?_;(try simp only [AV.le,AV.leL]))
  all_goals first|rfl|(simp;done)
 |true =>
 cases q1:decide (a.frm=b.frm) with
 |false =>
  rw [Bool.false_and,Bool.and_false]
  repeat' (first|(apply nx;with_reducible constructor)|refine uq (by decide) ?_|((first|refine vx env fun Q hQ=>?_|refine vz fun Q hQ=>?_);simp only [vkt,seval,xN,ZJ,qx,qg,Y5,Bool.true_and,Bool.false_and,List.length_map,q0,q1];(try simp only [ite_and]);(repeat' (first|with_reducible assumption|refine And.intro ?_ ?_|intro hp));all_goals (first|(refine hQ _ ?_;clear hQ Q)|(refine hQ _ (fun h=>?_) (fun h=>?_) <;> clear hQ Q <;> (try simp only [vki,reduceCtorEq] at h))|(refine vq ?_;kernel_rfl)|omega|assumption|with_reducible rfl|skip)))
  (simp only [vrt,Tryz.results22,vkt,seval,xN,ZJ,qx,qg,Y5,Bool.true_and,Bool.false_and,List.length_map];refine Fin.val rfl ?_;(try simp only [AV.le,AV.leL]))
  all_goals first|rfl|(simp;done)
 |true =>
 cases q2:decide (a.to=b.to) with
 |false =>
  rw [Bool.false_and,Bool.and_false,Bool.and_false]
  repeat' (first|(apply nx;with_reducible constructor)|refine uq (by decide) ?_|((first|refine vx env fun Q hQ=>?_|refine vz fun Q hQ=>?_);simp only [vkt,seval,xN,ZJ,qx,qg,Y5,Bool.true_and,Bool.false_and,List.length_map,q0,q1,q2];(try simp only [ite_and]);(repeat' (first|with_reducible assumption|refine And.intro ?_ ?_|intro hp));all_goals (first|(refine hQ _ ?_;clear hQ Q)|(refine hQ _ (fun h=>?_) (fun h=>?_) <;> clear hQ Q <;> (try simp only [vki,reduceCtorEq] at h))|(refine vq ?_;kernel_rfl)|omega|assumption|with_reducible rfl|skip)))
  (simp only [vrt,Tryz.results22,vkt,seval,xN,ZJ,qx,qg,Y5,Bool.true_and,Bool.false_and,List.length_map];refine Fin.val rfl ?_;(try simp only [AV.le,AV.leL]))
  all_goals first|rfl|(simp;done)
 |true =>
 cases q3:(a.dog == b.dog) with
 |false =>
  rw [Bool.false_and,Bool.and_false,Bool.and_false,Bool.and_false]
  repeat' (first|(apply nx;with_reducible constructor)|refine uq (by decide) ?_|((first|refine vx env fun Q hQ=>?_|refine vz fun Q hQ=>?_);simp only [vkt,seval,xN,ZJ,qx,qg,Y5,Bool.true_and,Bool.false_and,List.length_map,q0,q1,q2,q3];(try simp only [ite_and]);(repeat' (first|with_reducible assumption|refine And.intro ?_ ?_|intro hp));all_goals (first|(refine hQ _ ?_;clear hQ Q)|(refine hQ _ (fun h=>?_) (fun h=>?_) <;> clear hQ Q <;> (try simp only [vki,reduceCtorEq] at h))|(refine vq ?_;kernel_rfl)|omega|assumption|with_reducible rfl|skip)))
  (simp only [vrt,Tryz.results22,vkt,seval,xN,ZJ,qx,qg,Y5,Bool.true_and,Bool.false_and,List.length_map];refine Fin.val rfl ?_;(try simp only [AV.le,AV.leL]))
  all_goals first|rfl|(simp;done)
 |true =>
 rw [Bool.true_and,Bool.true_and,Bool.true_and,Bool.true_and]
 repeat' (first|(apply nx;with_reducible constructor)|refine uq (by decide) ?_|((first|refine vx env fun Q hQ=>?_|refine vz fun Q hQ=>?_);simp only [vkt,seval,xN,ZJ,qx,qg,Y5,Bool.true_and,Bool.false_and,List.length_map,q0,q1,q2,q3,h1,h2];(try simp only [ite_and]);(repeat' (first|with_reducible assumption|refine And.intro ?_ ?_|intro hp));all_goals (first|(refine hQ _ ?_;clear hQ Q)|(refine hQ _ (fun h=>?_) (fun h=>?_) <;> clear hQ Q <;> (try simp only [vki,reduceCtorEq] at h))|(refine vq ?_;kernel_rfl)|omega|assumption|with_reducible rfl|skip)))
 (simp only [vrt,Tryz.results22,vkt,seval,xN,ZJ,qx,qg,Y5,Bool.true_and,Bool.false_and,List.length_map];refine Fin.val rfl ?_;(try simp only [AV.le,AV.leL]))
 all_goals first|rfl|(simp;done)
def Ju:List AV→Prop × AV
 |[.agg [.v (.int .i64 a0),.v (.int .i64 a1),.v (.int .i64 a2),.sl a3,.v (.bool a4)],.agg [.v (.int .i64 b0),.v (.int .i64 b1),.v (.int .i64 b2),.sl b3,.v (.bool b4)]]=>(a3=(a3.map zb).map zF∧b3=(b3.map zb).map zF∧((⟨a0,a1,a2,(a3.map zb),a4⟩:Ask)).sexes.length≤maxLen∧((⟨b0,b1,b2,(b3.map zb),b4⟩:Ask)).sexes.length≤maxLen,aB (decide (((⟨a0,a1,a2,(a3.map zb),a4⟩:Ask))=((⟨b0,b1,b2,(b3.map zb),b4⟩:Ask)))))
 |_=>(False,.junk)
theorem eeqA {A:Frm→Prop}:qE A Tryz.prog 22 (qX true Ju):=qW fun vs hv h=>by
 clear hv
 unfold Ju at h ⊢
 split at h
 ·rename_i a0 a1 a2 a3 a4 b0 b1 b2 b3 b4;obtain ⟨q0,q1,k0,k1⟩:=h
  refine ⟨by first|trivial|(simp [AV.plain,AV.plainL,aI,aB,qz,qc,ql,qf,aTk,cTk];done)|(repeat' split) <;> simp [AV.plain,AV.plainL,aI,aB,qz,qc,ql,qf,aTk,cTk],fun _=>(by simp [AV.flat,AV.flatL,aI,aB]), ?_⟩
  have:=QjZ ((⟨a0,a1,a2,(a3.map zb),a4⟩:Ask)) ((⟨b0,b1,b2,(b3.map zb),b4⟩:Ask)) k0 k1
  simp only [qx,aB,aI,qz,qg,← q0,← q1] at this
  first|exact this|(simp only [qx,aB,aI,qz,qg,← q0,← q1];exact this)
 ·exact h.elim
def QX (c:Chart) (K:List Int) (T:List (Nat × AV)):St:={ t:=asg (T++[(1,.ptr 0 0),(3,.row 1)]),h:=qj [(0,.cells (qb c)),(1,.row 3 1 (K.map zF))],n:=2 }
def wN:=vj @ty3 (vj @x9 (vj @yc (vj @Qe (vj @yU (vj @ti3.eq_1 (vj @xD.eq_1 (vj @jM.eq_1 (vj @x8.eq_1 @yA.eq_1))))))))
def vX:=vj @aI.eq_1 (vj @aB.eq_1 (vj @qz.eq_1 (vj @zF.eq_1 (@Kv))))
theorem Qhc (c:Chart) (hs:c.sold.length≤100):FnV Tryz.prog 67 [qa c] (qz (zS c.sold)):=by
 have env:Env (fun _=>True) Tryz.prog tyB (tab []):=qL trivial
 refine Fn.of (A:=fun _=>True) (n0:=0) (D:=noD) (Fn0 Tryz.func67 rfl (fun vs w=>by kernel_rfl) (by kernel_rfl)) (by simp) (by simp [AV.ids,AV.idsL,qa,qb]) (fun i o h=>by cases h) (fun _ _ _ _=>trivial) qF ?_
 have hmx:(100000:Nat)≤maxLen:=by decide
 rw [← Qdb]
 repeat' (first|(apply nx;with_reducible constructor)|refine uq (by decide) ?_|((first|refine vx env fun Q hQ=>?_|refine vz fun Q hQ=>?_);simp only [vkt,seval,wN,vX,eTk,gTk,mTk,qa,qb,QX,List.length_map];(try simp only [ite_and]);(repeat' (first|with_reducible assumption|refine And.intro ?_ ?_|intro hp));all_goals (first|(refine hQ _ ?_;clear hQ Q)|(refine hQ _ (fun h=>?_) (fun h=>?_) <;> clear hQ Q <;> (try simp only [vki,reduceCtorEq] at h))|(refine vq ?_;kernel_rfl)|omega|assumption|with_reducible rfl|skip)))
 refine qN (fun i:{ i:Nat // i≤c.sold.length }=>QX c (lnK c.sold i.1) [(4,aI i.1)]) (fun i=>c.sold.length - i.1) ⟨0,Nat.zero_le _⟩ ?_ fun ⟨i,hi⟩=>?_
 ·simp only [QX,show lnK c.sold 0=[] from rfl,List.cons_append,List.nil_append]
  (refine Le.ok (fun i=>if i=1 then none else some i) [] ?_;constructor;all_goals (try simp only [vle,vkt,seval,wN,vX,eTk,gTk,mTk,qa,qb,QX,List.length_map]))
  all_goals first|rfl|(simp;done)|(intro i hi;rw [if_neg (by omega)];done)
 simp only at hi ⊢
 have hS:=Qaj c.sold i
 have hKl:=Uf c.sold i
 obtain ⟨K,hK⟩:∃ K,lnK c.sold i=K:=⟨_,rfl⟩
 rw [hK] at hS hKl
 simp only [QX,hK,List.cons_append,List.nil_append]
 by_cases hil:i < c.sold.length
 ·have d1:decide ((i:Int) < (c.sold.length:Int))=true:=decide_eq_true (by omega)
  have e9:IntKind.wrap .i64 ((i:Int)+1)=((i+1:Nat):Int):=by rw [wrap64 (by omega) (by omega)];rfl
  have i0:((i:Int)).toNat=i:=rfl
  obtain ⟨x,hx⟩:∃ x,c.sold.getD i default=x:=⟨_,rfl⟩
  rw [hx] at hS
  have hm:K.length+1≤maxLen:=by omega
  repeat' (first|(apply nx;with_reducible constructor)|refine uq (by decide) ?_|((first|refine vx env fun Q hQ=>?_|refine vz fun Q hQ=>?_);simp only [vkt,seval,wN,vX,eTk,gTk,mTk,qa,qb,QX,List.length_map,d1];(try simp only [ite_and]);(repeat' (first|with_reducible assumption|refine And.intro ?_ ?_|intro hp));all_goals (first|(refine hQ _ ?_;clear hQ Q)|(refine hQ _ (fun h=>?_) (fun h=>?_) <;> clear hQ Q <;> (try simp only [vki,reduceCtorEq] at h))|(refine vq ?_;kernel_rfl)|omega|assumption|with_reducible rfl|skip)))
  refine qN (fun k:{ k:Nat // k≤c.sold.length }=>QX c K [(4,aI i),(5,aI (kU (c.sold.take k.1) x.party)),(6,aI k.1)]) (fun k=>c.sold.length - k.1) ⟨0,Nat.zero_le _⟩ ?_ fun ⟨k,hk⟩=>?_
  ·simp only [QX,List.take_zero,show kU [] x.party=0 from rfl,List.cons_append,List.nil_append]
   (refine Le.ok some [] ?_;constructor;all_goals (try simp only [vle,vkt,seval,wN,vX,eTk,gTk,mTk,qa,qb,QX,List.length_map]))
   all_goals first|rfl|(simp;done)
  simp only at hk ⊢
  have hle:=K8 (c.sold.take k) x.party
  rw [List.length_take] at hle
  obtain ⟨m,hm0⟩:∃ m,kU (c.sold.take k) x.party=m:=⟨_,rfl⟩
  rw [hm0] at hle
  simp only [QX,hm0,List.cons_append,List.nil_append]
  by_cases hkl:k < c.sold.length
  ·have d2:decide ((k:Int) < (c.sold.length:Int))=true:=decide_eq_true (by omega)
   have e8:IntKind.wrap .i64 ((k:Int)+1)=((k+1:Nat):Int):=by rw [wrap64 (by omega) (by omega)];rfl
   have k0:((k:Int)).toNat=k:=rfl
   have hP:=VD hkl x.party
   obtain ⟨y,hy⟩:∃ y,c.sold.getD k default=y:=⟨_,rfl⟩
   rw [hy,hm0] at hP
   have w1:IntKind.wrap .i64 ((m:Int)+1)=((m+1:Nat):Int):=by rw [wrap64 (by omega) (by omega)];rfl
   by_cases hq:y.party=x.party
   ·have d3:decide (y.party=x.party)=true:=decide_eq_true hq
    rw [if_pos hq] at hP
    repeat' (first|(apply nx;with_reducible constructor)|refine uq (by decide) ?_|((first|refine vx env fun Q hQ=>?_|refine vz fun Q hQ=>?_);simp only [vkt,seval,wN,vX,eTk,gTk,mTk,qa,qb,QX,List.length_map,d2,e8,k0,i0,hkl,hil,hx,hy,d3,w1];(try simp only [ite_and]);(repeat' (first|with_reducible assumption|refine And.intro ?_ ?_|intro hp));all_goals (first|(refine hQ _ ?_;clear hQ Q)|(refine hQ _ (fun h=>?_) (fun h=>?_) <;> clear hQ Q <;> (try simp only [vki,reduceCtorEq] at h))|(refine vq ?_;kernel_rfl)|omega|assumption|with_reducible rfl|skip)))
    refine ⟨⟨k+1,hkl⟩,by show c.sold.length - (k+1) < c.sold.length - k;omega, ?_⟩
    simp only [QX,hP,List.cons_append,List.nil_append]
    (refine Le.ok some [] ?_;constructor;all_goals (try simp only [vle,vkt,seval,wN,vX,eTk,gTk,mTk,qa,qb,QX,List.length_map]))
    all_goals first|rfl|(simp;done)
   ·have d3:decide (y.party=x.party)=false:=decide_eq_false hq
    rw [if_neg hq,Nat.add_zero] at hP
    repeat' (first|(apply nx;with_reducible constructor)|refine uq (by decide) ?_|((first|refine vx env fun Q hQ=>?_|refine vz fun Q hQ=>?_);simp only [vkt,seval,wN,vX,eTk,gTk,mTk,qa,qb,QX,List.length_map,d2,e8,k0,i0,hkl,hil,hx,hy,d3];(try simp only [ite_and]);(repeat' (first|with_reducible assumption|refine And.intro ?_ ?_|intro hp));all_goals (first|(refine hQ _ ?_;clear hQ Q)|(refine hQ _ (fun h=>?_) (fun h=>?_) <;> clear hQ Q <;> (try simp only [vki,reduceCtorEq] at h))|(refine vq ?_;kernel_rfl)|omega|assumption|with_reducible rfl|skip)))
    refine ⟨⟨k+1,hkl⟩,by show c.sold.length - (k+1) < c.sold.length - k;omega, ?_⟩
    simp only [QX,hP,List.cons_append,List.nil_append]
    (refine Le.ok some [] ?_;constructor;all_goals (try simp only [vle,vkt,seval,wN,vX,eTk,gTk,mTk,qa,qb,QX,List.length_map]))
    all_goals first|rfl|(simp;done)
  ·have d2:decide ((k:Int) < (c.sold.length:Int))=false:=decide_eq_false (by omega)
   obtain rfl:k=c.sold.length:=by omega
   rw [List.take_length] at hm0
   rw [hm0] at hS
   by_cases hq:m=1
   ·have d3:decide ((m:Int)=1)=true:=decide_eq_true (by omega)
    rw [if_pos hq] at hS
    repeat' (first|(apply nx;with_reducible constructor)|refine uq (by decide) ?_|((first|refine vx env fun Q hQ=>?_|refine vz fun Q hQ=>?_);simp only [vkt,seval,wN,vX,eTk,gTk,mTk,qa,qb,QX,List.length_map,d2,d3,e9,hm];(try simp only [ite_and]);(repeat' (first|with_reducible assumption|refine And.intro ?_ ?_|intro hp));all_goals (first|(refine hQ _ ?_;clear hQ Q)|(refine hQ _ (fun h=>?_) (fun h=>?_) <;> clear hQ Q <;> (try simp only [vki,reduceCtorEq] at h))|(refine vq ?_;kernel_rfl)|omega|assumption|with_reducible rfl|skip)))
    refine ⟨⟨i+1,hil⟩,by show c.sold.length - (i+1) < c.sold.length - i;omega, ?_⟩
    simp only [QX,hS,List.cons_append,List.nil_append]
    (refine Le.ok (fun i=>if i=1 then some 3 else some i) [] ?_;constructor;all_goals (try simp only [vle,vkt,seval,wN,vX,eTk,gTk,mTk,qa,qb,QX,List.length_map]))
    all_goals first|rfl|(rw [List.map_append];rfl)|(simp;done)|(intro i hi;rw [if_neg (by omega)];done)
   ·have d3:decide ((m:Int)=1)=false:=decide_eq_false (by omega)
    rw [if_neg hq] at hS
    repeat' (first|(apply nx;with_reducible constructor)|refine uq (by decide) ?_|((first|refine vx env fun Q hQ=>?_|refine vz fun Q hQ=>?_);simp only [vkt,seval,wN,vX,eTk,gTk,mTk,qa,qb,QX,List.length_map,d2,d3,e9];(try simp only [ite_and]);(repeat' (first|with_reducible assumption|refine And.intro ?_ ?_|intro hp));all_goals (first|(refine hQ _ ?_;clear hQ Q)|(refine hQ _ (fun h=>?_) (fun h=>?_) <;> clear hQ Q <;> (try simp only [vki,reduceCtorEq] at h))|(refine vq ?_;kernel_rfl)|omega|assumption|with_reducible rfl|skip)))
    refine ⟨⟨i+1,hil⟩,by show c.sold.length - (i+1) < c.sold.length - i;omega, ?_⟩
    simp only [QX,hS,List.cons_append,List.nil_append]
    (refine Le.ok some [] ?_;constructor;all_goals (try simp only [vle,vkt,seval,wN,vX,eTk,gTk,mTk,qa,qb,QX,List.length_map]))
    all_goals first|rfl|(simp;done)
 ·have d1:decide ((i:Int) < (c.sold.length:Int))=false:=decide_eq_false (by omega)
  obtain rfl:i=c.sold.length:=by omega
  rw [hK]
  repeat' (first|(apply nx;with_reducible constructor)|refine uq (by decide) ?_|((first|refine vx env fun Q hQ=>?_|refine vz fun Q hQ=>?_);simp only [vkt,seval,wN,vX,eTk,gTk,mTk,qa,qb,QX,List.length_map,d1];(try simp only [ite_and]);(repeat' (first|with_reducible assumption|refine And.intro ?_ ?_|intro hp));all_goals (first|(refine hQ _ ?_;clear hQ Q)|(refine hQ _ (fun h=>?_) (fun h=>?_) <;> clear hQ Q <;> (try simp only [vki,reduceCtorEq] at h))|(refine vq ?_;kernel_rfl)|omega|assumption|with_reducible rfl|skip)))
  (simp only [vrt,Tryz.results67,vkt,seval,wN,vX,eTk,gTk,mTk,qa,qb,QX,List.length_map];refine Fin.val rfl ?_;(try simp only [AV.le,AV.leL]))
  all_goals first|rfl|(simp;done)|exact ⟨_,_,rfl⟩
def jh:List AV→Prop × AV
 |[.agg [.sl x0,.v (.int .i64 x1),.sl x2]]=>(x0=(x0.map qw).map qh∧x2=(x2.map dTk).map eTk∧((⟨(x0.map qw),x1,(x2.map dTk)⟩:Chart)).sold.length≤100,qz (zS ((⟨(x0.map qw),x1,(x2.map dTk)⟩:Chart)).sold))
 |_=>(False,.junk)
theorem QjU {A:Frm→Prop}:qE A Tryz.prog 67 (qX false jh):=qW fun vs hv h=>by
 clear hv
 unfold jh at h ⊢
 split at h
 ·rename_i x0 x1 x2;obtain ⟨q0,q1,k0⟩:=h
  refine ⟨by first|trivial|(simp [AV.plain,AV.plainL,aI,aB,qz,qc,ql,qf,aTk,cTk];done)|(repeat' split) <;> simp [AV.plain,AV.plainL,aI,aB,qz,qc,ql,qf,aTk,cTk],fun h=>absurd h (by decide), ?_⟩
  have:=Qhc ((⟨(x0.map qw),x1,(x2.map dTk)⟩:Chart)) k0
  simp only [qY,qa,aI,ql,qb,← q0,← q1] at this
  first|exact this|(simp only [qY,qa,aI,ql,qb,← q0,← q1];exact this)
 ·exact h.elim
def sfP:List Tk→List Tr→List Tk × Bool
 |sold,[]=>(sold,true)
 |sold,t :: r=>if (sold.getD t.ticket.toNat default).bunk=⟨t.cab,t.bed⟩ then (sold,false) else sfP (vw sold t.ticket.toNat ⟨t.cab,t.bed⟩) r
theorem QjB:∀ {l:List Tr} {sold:List Tk},sfA sold l=if (sfP sold l).2 then some (sfP sold l).1 else none
 |[],sold=>rfl
 |t :: r,sold=>by
  rw [sfA,sfP]
  by_cases h:(sold.getD t.ticket.toNat default).bunk=⟨t.cab,t.bed⟩
  ·rw [if_pos h,if_pos h];rfl
  ·rw [if_neg h,if_neg h,QjB]
theorem QdW {sold:List Tk} {n:Nat} {b:Bunk} {P:Int} (h:∀ t ∈ sold,t.party ≠ P) (hn:n < sold.length):∀ t ∈ vw sold n b,t.party ≠ P:=fun t ht=>by
 unfold vw at ht
 rcases List.mem_or_eq_of_mem_set ht with h1|h1
 ·exact h t h1
 ·rw [h1]
  show (sold.getD n default).party ≠ P
  exact h _ (yB hn)
theorem UA:∀ (l:List Tr) (sold:List Tk),(sfP sold l).1.length=sold.length
 |[],_=>rfl
 |t :: r,sold=>by
  rw [sfP]
  split
  ·rfl
  ·rw [UA r,Z0]
theorem Rw {P:Int}:∀ {l:List Tr} {sold:List Tk},(∀ t ∈ sold,t.party ≠ P)→(∀ t ∈ l,0≤t.ticket∧t.ticket.toNat < sold.length)→∀ t ∈ (sfP sold l).1,t.party ≠ P
 |[],_,h,_=>h
 |t :: r,sold,h,hl=>by
  rw [sfP]
  split
  ·exact h
  ·refine Rw (QdW h (hl t (List.mem_cons_self ..)).2) fun x hx=>?_
   rw [Z0]
   exact hl x (List.mem_cons_of_mem _ hx)
def Yg (c:Chart) (l:List Tr) (M:List Tk) (i:Nat):St:={ t:=asg [(1,qI l),(2,.ptr 0 0),(4,.ptr 1 0),(5,aB false),(6,aI i)],h:=qj [(0,.cells [.row 2,aI c.secs,.row 3]),(1,.cells [.nil,aI 0,.nil]),(2,.row 89 2 (c.cabins.map qh)),(3,.row 64 7 (M.map eTk))],n:=4 }
def jD:=vj @ty3 (vj @x9 (vj @yc (vj @Zc (vj @UZ (vj @xJ (vj @yU (vj @Uc (vj @ti3.eq_1 (vj @xD.eq_1 (vj @jM.eq_1 (vj @QA.eq_1 (vj @VL.eq_1 (vj @vZ.eq_1 (vj @yA.eq_1 @VQ.eq_1))))))))))))))
def Qv:=vj @aI.eq_1 (@aB.eq_1)
set_option maxHeartbeats 4000000 in
theorem Qfc (c:Chart) (l:List Tr) (hc:CarOk c) (hs:c.sold.length≤100) (hl:l.length≤1000) (ht:∀ t ∈ l,0≤t.ticket∧t.ticket.toNat < c.sold.length):FnV Tryz.prog 71 [qa c,qI l] (.tup [qa ⟨c.cabins,c.secs,(sfP c.sold l).1⟩,aB ((sfP c.sold l).2 && decide (zW ⟨c.cabins,c.secs,(sfP c.sold l).1⟩ (sfP c.sold l).1=0))]):=by
 have env:Env (fun _=>True) Tryz.prog tyB (tab [(90,fnE xC),(112,qX true jZ)]):=qL ⟨QhQ,Qgu,trivial⟩
 refine Fn.of (A:=fun _=>True) (n0:=0) (D:=noD) (Fn0 Tryz.func71 rfl (fun vs w=>by kernel_rfl) (by kernel_rfl)) (by simp) (by simp [AV.ids,AV.idsL,qa,qb,qI]) (fun i o h=>by cases h) (fun _ _ _ _=>trivial) qF ?_
 have hcab:=hc.cabs
 have b1:c.cabins.length≤100000:=by omega
 have b2:c.sold.length≤100000:=by omega
 repeat' (first|(apply nx;with_reducible constructor)|refine uq (by decide) ?_|((first|refine vx env fun Q hQ=>?_|refine vz fun Q hQ=>?_);simp only [vkt,seval,jD,Qv,qI,ql,eTr,gTr,eTk,rTk,zf,mTk,qd,qa,qb,Yg,xC,jZ,List.length_map,b1,b2];(try simp only [ite_and]);(repeat' (first|with_reducible assumption|refine And.intro ?_ ?_|intro hp));all_goals (first|(refine hQ _ ?_;clear hQ Q)|(refine hQ _ (fun h=>?_) (fun h=>?_) <;> clear hQ Q <;> (try simp only [vki,reduceCtorEq] at h))|(refine vq ?_;kernel_rfl)|omega|assumption|with_reducible rfl|skip)))
 refine qN (fun y:{ y:Nat × List Tk // y.1≤l.length∧y.2.length=c.sold.length∧sfP c.sold l=sfP y.2 (l.drop y.1) }=>Yg c l y.1.2 y.1.1) (fun y=>l.length - y.1.1) ⟨(0,c.sold),Nat.zero_le _,rfl,rfl⟩ ?_ fun ⟨⟨i,M⟩,hi,hMl,hin⟩=>?_
 ·simp only [Yg]
  (refine Le.ok some [] ?_;constructor;all_goals (try simp only [vle,vkt,seval,jD,Qv,qI,ql,eTr,gTr,eTk,rTk,zf,mTk,qd,qa,qb,Yg,xC,jZ,List.length_map]))
  all_goals first|rfl|(simp;done)
 simp only at hi hMl hin ⊢
 rw [hin]
 by_cases hil:i < l.length
 ·have d1:decide ((i:Int) < (l.length:Int))=true:=decide_eq_true (by omega)
  have e9:IntKind.wrap .i64 ((i:Int)+1)=((i+1:Nat):Int):=by rw [wrap64 (by omega) (by omega)];rfl
  have i0:((i:Int)).toNat=i:=rfl
  have hdr:l.drop i=l.getD i default :: l.drop (i+1):=by
   rw [List.drop_eq_getElem_cons hil]
   simp [List.getD_eq_getElem?_getD,hil]
  have htt:=ht _ (yB (d:=default) hil)
  obtain ⟨t,hte⟩:∃ t,l.getD i default=t:=⟨_,rfl⟩
  rw [hte] at hdr htt
  obtain ⟨t1,t2⟩:=htt
  have t2M:t.ticket.toNat < M.length:=by omega
  have hgM:=hTk t2M
  rw [hdr,sfP] at hin ⊢
  have hpl:=Z0 M t.ticket.toNat ⟨t.cab,t.bed⟩
  obtain ⟨x,hx⟩:∃ x,M.getD t.ticket.toNat default=x:=⟨_,rfl⟩
  have hbk:x.bunk=⟨t.cab,t.bed⟩ ↔ (decide (x.cab=t.cab) && decide (x.bed=t.bed))=true:=by
   unfold Tk.bunk
   rw [Bool.and_eq_true,decide_eq_true_eq,decide_eq_true_eq]
   simp
  have hset:=V6 M t.ticket.toNat ⟨t.cab,t.bed⟩ hx
  rw [hx] at hgM hin ⊢
  simp only [Yg]
  cases q:(decide (x.cab=t.cab) && decide (x.bed=t.bed)) with
  |true =>
   have hq:=hbk.2 q
   rw [if_pos hq]
   repeat' (first|(apply nx;with_reducible constructor)|refine uq (by decide) ?_|((first|refine vx env fun Q hQ=>?_|refine vz fun Q hQ=>?_);simp only [vkt,seval,jD,Qv,qI,ql,eTr,gTr,eTk,rTk,zf,mTk,qd,qa,qb,Yg,xC,jZ,List.length_map,d1,i0,hil,hte,t1,t2M,hgM,q];(try simp only [ite_and]);(repeat' (first|with_reducible assumption|refine And.intro ?_ ?_|intro hp));all_goals (first|(refine hQ _ ?_;clear hQ Q)|(refine hQ _ (fun h=>?_) (fun h=>?_) <;> clear hQ Q <;> (try simp only [vki,reduceCtorEq] at h))|(refine vq ?_;kernel_rfl)|omega|assumption|with_reducible rfl|skip)))
   (simp only [vrt,Tryz.results71,vkt,seval,jD,Qv,qI,ql,eTr,gTr,eTk,rTk,zf,mTk,qd,qa,qb,Yg,xC,jZ,List.length_map];refine Fin.val rfl ?_;(try simp only [AV.le,AV.leL]))
   all_goals first|rfl|(simp;done)|(refine ⟨⟨⟨_,_,rfl⟩, ?_,⟨_,_,rfl⟩, ?_⟩, ?_⟩ <;> first|trivial|rfl|(simp;done)|exact ⟨rfl,trivial⟩)
  |false =>
   have hq:¬ x.bunk=⟨t.cab,t.bed⟩:=fun h=>by rw [hbk.1 h] at q;exact absurd q (by decide)
   rw [if_neg hq] at hin
   obtain ⟨U,hU⟩:∃ U,vw M t.ticket.toNat ⟨t.cab,t.bed⟩=U:=⟨_,rfl⟩
   rw [hU] at hset hpl hin
   have hset:=hset.symm
   repeat' (first|(apply nx;with_reducible constructor)|refine uq (by decide) ?_|((first|refine vx env fun Q hQ=>?_|refine vz fun Q hQ=>?_);simp only [vkt,seval,jD,Qv,qI,ql,eTr,gTr,eTk,rTk,zf,mTk,qd,qa,qb,Yg,xC,jZ,List.length_map,d1,i0,hil,hte,t1,t2M,hgM,q,e9,hset];(try simp only [ite_and]);(repeat' (first|with_reducible assumption|refine And.intro ?_ ?_|intro hp));all_goals (first|(refine hQ _ ?_;clear hQ Q)|(refine hQ _ (fun h=>?_) (fun h=>?_) <;> clear hQ Q <;> (try simp only [vki,reduceCtorEq] at h))|(refine vq ?_;kernel_rfl)|omega|assumption|with_reducible rfl|skip)))
   refine ⟨⟨(i+1,U),hil,by simp only;omega,by rw [if_neg hq,hU]⟩,by show l.length - (i+1) < l.length - i;omega, ?_⟩
   simp only [Yg]
   (refine Le.ok some [] ?_;constructor;all_goals (try simp only [vle,vkt,seval,jD,Qv,qI,ql,eTr,gTr,eTk,rTk,zf,mTk,qd,qa,qb,Yg,xC,jZ,List.length_map]))
   all_goals first|rfl|(simp;done)
 ·have d1:decide ((i:Int) < (l.length:Int))=false:=decide_eq_false (by omega)
  obtain rfl:i=l.length:=by omega
  rw [List.drop_length,sfP,Bool.true_and]
  have hcar:CarOk ⟨c.cabins,c.secs,M⟩:=hc.to' M
  have hM1:M.length≤100:=by omega
  simp only [Yg]
  cases q:decide (zW ⟨c.cabins,c.secs,M⟩ M=0) with
  |true =>
   repeat' (first|(apply nx;with_reducible constructor)|refine uq (by decide) ?_|((first|refine vx env fun Q hQ=>?_|refine vz fun Q hQ=>?_);simp only [vkt,seval,jD,Qv,qI,ql,eTr,gTr,eTk,rTk,zf,mTk,qd,qa,qb,Yg,xC,jZ,List.length_map,d1,hcar,hM1,q];(try simp only [ite_and]);(repeat' (first|with_reducible assumption|refine And.intro ?_ ?_|intro hp));all_goals (first|(refine hQ _ ?_;clear hQ Q)|(refine hQ _ (fun h=>?_) (fun h=>?_) <;> clear hQ Q <;> (try simp only [vki,reduceCtorEq] at h))|(refine vq ?_;kernel_rfl)|omega|assumption|with_reducible rfl|skip)))
   (simp only [vrt,Tryz.results71,vkt,seval,jD,Qv,qI,ql,eTr,gTr,eTk,rTk,zf,mTk,qd,qa,qb,Yg,xC,jZ,List.length_map];refine Fin.val rfl ?_;(try simp only [AV.le,AV.leL]))
   all_goals first|rfl|(simp;done)|(refine ⟨⟨⟨_,_,rfl⟩, ?_,⟨_,_,rfl⟩, ?_⟩, ?_⟩ <;> first|trivial|rfl|(simp;done)|exact ⟨rfl,trivial⟩)
  |false =>
   repeat' (first|(apply nx;with_reducible constructor)|refine uq (by decide) ?_|((first|refine vx env fun Q hQ=>?_|refine vz fun Q hQ=>?_);simp only [vkt,seval,jD,Qv,qI,ql,eTr,gTr,eTk,rTk,zf,mTk,qd,qa,qb,Yg,xC,jZ,List.length_map,d1,hcar,hM1,q];(try simp only [ite_and]);(repeat' (first|with_reducible assumption|refine And.intro ?_ ?_|intro hp));all_goals (first|(refine hQ _ ?_;clear hQ Q)|(refine hQ _ (fun h=>?_) (fun h=>?_) <;> clear hQ Q <;> (try simp only [vki,reduceCtorEq] at h))|(refine vq ?_;kernel_rfl)|omega|assumption|with_reducible rfl|skip)))
   (simp only [vrt,Tryz.results71,vkt,seval,jD,Qv,qI,ql,eTr,gTr,eTk,rTk,zf,mTk,qd,qa,qb,Yg,xC,jZ,List.length_map];refine Fin.val rfl ?_;(try simp only [AV.le,AV.leL]))
   all_goals first|rfl|(simp;done)|(refine ⟨⟨⟨_,_,rfl⟩, ?_,⟨_,_,rfl⟩, ?_⟩, ?_⟩ <;> first|trivial|rfl|(simp;done)|exact ⟨rfl,trivial⟩)
def wB:List AV→Prop × AV
 |[.agg [.sl x0,.v (.int .i64 x1),.sl x2],.sl l]=>(x0=(x0.map qw).map qh∧x2=(x2.map dTk).map eTk∧l=(l.map dTr).map eTr∧CarOk ((⟨(x0.map qw),x1,(x2.map dTk)⟩:Chart))∧((⟨(x0.map qw),x1,(x2.map dTk)⟩:Chart)).sold.length≤100∧(l.map dTr).length≤1000∧(∀ t ∈ (l.map dTr),0≤t.ticket∧t.ticket.toNat < ((⟨(x0.map qw),x1,(x2.map dTk)⟩:Chart)).sold.length),.tup [qa ⟨((⟨(x0.map qw),x1,(x2.map dTk)⟩:Chart)).cabins,((⟨(x0.map qw),x1,(x2.map dTk)⟩:Chart)).secs,(sfP ((⟨(x0.map qw),x1,(x2.map dTk)⟩:Chart)).sold (l.map dTr)).1⟩,aB ((sfP ((⟨(x0.map qw),x1,(x2.map dTk)⟩:Chart)).sold (l.map dTr)).2 && decide (zW ⟨((⟨(x0.map qw),x1,(x2.map dTk)⟩:Chart)).cabins,((⟨(x0.map qw),x1,(x2.map dTk)⟩:Chart)).secs,(sfP ((⟨(x0.map qw),x1,(x2.map dTk)⟩:Chart)).sold (l.map dTr)).1⟩ (sfP ((⟨(x0.map qw),x1,(x2.map dTk)⟩:Chart)).sold (l.map dTr)).1=0))])
 |_=>(False,.junk)
theorem Qit {A:Frm→Prop}:qE A Tryz.prog 71 (qX false wB):=qW fun vs hv h=>by
 clear hv
 unfold wB at h ⊢
 split at h
 ·rename_i x0 x1 x2 l;obtain ⟨q0,q1,q2,k0,k1,k2,k3⟩:=h
  refine ⟨by first|trivial|(simp [AV.plain,AV.plainL,aI,aB,qz,qc,ql,qf,aTk,cTk];done)|(repeat' split) <;> simp [AV.plain,AV.plainL,aI,aB,qz,qc,ql,qf,aTk,cTk],fun h=>absurd h (by decide), ?_⟩
  have:=Qfc ((⟨(x0.map qw),x1,(x2.map dTk)⟩:Chart)) (l.map dTr) k0 k1 k2 k3
  simp only [qY,qa,aI,ql,qI,qb,← q0,← q1,← q2] at this
  first|exact this|(simp only [qY,qa,aI,ql,qI,qb,← q0,← q1,← q2];exact this)
 ·exact h.elim
theorem Xc {c:Chart} (hc:CarOk c) (h8:c.sold.length≤8) (h:zW c c.sold=0):zu c=0:=by
 unfold zu
 rw [QhC hc h8,if_neg (fun h=>h rfl)]
 exact h
theorem Qcg {c:Chart} (h:zu c=0):zW c c.sold=0:=by
 unfold zu at h
 split at h
 ·exact absurd h ‹_›
 ·exact h
theorem QiP {c:Chart} {a:Ask} (h:zw c a=0):1≤a.party∧a.party≤99:=by
 have h:=(yK h).2
 unfold vK at h
 split at h
 ·exact absurd h (by decide)
 rename_i h1
 exact wL.1 (by simpa using h1)
theorem QhK {c:Chart} {a:Ask} {l:List Tk} (h:zw c a=0) (hl:zu ⟨c.cabins,c.secs,l⟩=0) (hp:∀ t ∈ l,t.party ≠ a.party):zw ⟨c.cabins,c.secs,l⟩ a=0:=QiV (P:=a.party) h rfl hl (QiP h) hp
def QW (n:Nat):Nat→Nat→List (List Int)
 |0,_=>[[]]
 |m+1,f=>(List.range (n - f)).flatMap fun k=>(QW n m (f+k+1)).map (((f+k:Nat):Int) :: ·)
theorem QaH (n:Nat):∀ (m:Nat) (l:List Int) (f:Nat),QI n m l f=(QW n m f).map (l++·)
 |0,l,f=>by simp [QI,QW]
 |m+1,l,f=>by
  rw [QI,QW,List.map_flatMap]
  refine congrArg (List.flatMap · (List.range (n - f))) (funext fun k=>?_)
  rw [QaH n m,List.map_map]
  refine congrArg (List.map · _) (funext fun r=>?_)
  simp
theorem LG {α β γ:Type} {f:β→Option γ} {k:α→List β}:∀ l:List α,(l.flatMap k).findSome? f=l.findSome? fun x=>(k x).findSome? f
 |[]=>rfl
 |x :: l=>by
  rw [List.flatMap_cons,List.findSome?_append,LG l,List.findSome?_cons]
  cases (k x).findSome? f <;> rfl
theorem Qbb {α β γ:Type} {f:β→Option γ} {g:α→β}:∀ l:List α,(l.map g).findSome? f=l.findSome? fun x=>f (g x)
 |[]=>rfl
 |x :: l=>by rw [List.map_cons,List.findSome?_cons,List.findSome?_cons,Qbb l]
theorem QgT {α β γ:Type} {f:α→Option β} {g:β→γ}:∀ l:List α,(l.findSome? fun x=>(f x).map g)=(l.findSome? f).map g
 |[]=>rfl
 |x :: l=>by
  rw [List.findSome?_cons,List.findSome?_cons,QgT l]
  cases f x <;> rfl
theorem Qap {α β:Type}:∀ l:List α,(l.findSome? fun _=>(none:Option β))=none
 |[]=>rfl
 |_ :: l=>by rw [List.findSome?_cons];exact Qap l
def Z8 (ts:List Int) (bb:List Bunk):List Tr:=List.zipWith (fun n b=>⟨n,b.cab,b.bed⟩) ts bb
def trR (cs:List Cabin) (s:Int) (a:Ask) (sold:List Tk) (l:List Tr):Option (List Tr):=match sfA sold l with
 |none=>none
 |some s'=>if zu ⟨cs,s,s'⟩=0∧plP ⟨cs,s,s'⟩ a ≠ [] then some l else none
theorem QgW (cs:List Cabin) (s:Int) (a:Ask) (sold:List Tk) (t:Tr) (l:List Tr):trR cs s a sold (t :: l)=if (sold.getD t.ticket.toNat default).bunk=⟨t.cab,t.bed⟩ then none else (trR cs s a (vw sold t.ticket.toNat ⟨t.cab,t.bed⟩) l).map (t :: ·):=by
 unfold trR
 rw [sfA]
 by_cases h:(sold.getD t.ticket.toNat default).bunk=⟨t.cab,t.bed⟩
 ·rw [if_pos h,if_pos h]
 ·rw [if_neg h,if_neg h]
  cases sfA (vw sold t.ticket.toNat ⟨t.cab,t.bed⟩) l with
  |none=>rfl
  |some s' =>
   simp only
   split <;> rfl
theorem VB (cs:List Cabin) (s:Int) (a:Ask):∀ (ts:List Int) (sold:List Tk),wP cs s a ts sold=(alL (qV cs) ts.length).findSome? fun bb=>trR cs s a sold (Z8 ts bb)
 |[],sold=>by
  unfold wP
  rw [List.length_nil,alL,List.findSome?_cons]
  have hz:Z8 [] []=([]:List Tr):=rfl
  rw [hz]
  unfold trR
  rw [sfA]
  simp only
  split <;> rfl
 |n :: r,sold=>by
  unfold wP
  rw [List.length_cons,alL,LG]
  refine congrArg (List.findSome? · (qV cs)) (funext fun b=>?_)
  rw [Qbb]
  have he:(fun x=>trR cs s a sold (Z8 (n :: r) (b :: x)))=fun x=>if (sold.getD n.toNat default).bunk=b then none else (trR cs s a (vw sold n.toNat b) (Z8 r x)).map (⟨n,b.cab,b.bed⟩ :: ·):=funext fun x=>by
   show trR cs s a sold (⟨n,b.cab,b.bed⟩ :: Z8 r x)=_
   rw [QgW]
  rw [he]
  by_cases h:(sold.getD n.toNat default).bunk=b
  ·rw [if_pos h.symm]
   simp only [if_pos h]
   rw [Qap]
  ·rw [if_neg (fun h2=>h h2.symm)]
   simp only [if_neg h]
   rw [QgT,← VB cs s a r (vw sold n.toNat b)]
def Qb9 (c:Chart) (a:Ask) (m:Nat):Option (List Tr):=(QW (zS c.sold).length m 0).findSome? fun ts=>(alL (qV c.cabins) m).findSome? fun bb=>trR c.cabins c.secs a c.sold (Z8 (jf c ts) bb)
theorem VV {n:Nat}:∀ (m f:Nat),∀ r ∈ QW n m f,r.length=m
 |0,f,r,h=>by rw [QW,List.mem_singleton] at h;rw [h];rfl
 |m+1,f,r,h=>by
  rw [QW,List.mem_flatMap] at h
  obtain ⟨k,_,h⟩:=h
  obtain ⟨v,hv,rfl⟩:=List.mem_map.1 h
  rw [List.length_cons,VV m _ v hv]
theorem Lx {α β:Type} {f g:α→Option β}:∀ {l:List α},(∀ x ∈ l,f x=g x)→l.findSome? f=l.findSome? g
 |[],_=>rfl
 |x :: l,h=>by rw [List.findSome?_cons,List.findSome?_cons,h x (List.mem_cons_self ..),Lx fun y hy=>h y (List.mem_cons_of_mem _ hy)]
theorem Vp (c:Chart) (a:Ask) (m:Nat):Qb9 c a m=yP c a m:=by
 unfold Qb9 yP
 rw [QaH,Qbb]
 refine Lx fun ts hts=>?_
 rw [List.nil_append,VB]
 have:(jf c ts).length=m:=by unfold jf;rw [List.length_map,VV m 0 ts hts]
 rw [this]
theorem QdG {n:Nat} (hn:n≤8):∀ m f,(QW n m f).length≤8 ^ m
 |0,_=>Nat.le_refl 1
 |m+1,f=>by
  rw [QW,List.length_flatMap]
  simp only [List.length_map]
  have h:∀ l:List Nat,(l.map fun k=>(QW n m (f+k+1)).length).sum≤l.length * 8 ^ m:=fun l=>by
   induction l with
   |nil=>simp
   |cons x l ih =>
    have:=QdG hn m (f+x+1)
    rw [List.map_cons,List.sum_cons,List.length_cons,Nat.succ_mul]
    omega
  have h2:=h (List.range (n - f))
  rw [List.length_range] at h2
  have h3:(n - f) * 8 ^ m≤8 * 8 ^ m:=Nat.mul_le_mul_right _ (by omega)
  rw [Nat.pow_succ,Nat.mul_comm (8 ^ m) 8]
  omega
def chP (n m f k:Nat):List (List Int):=(List.range k).flatMap fun k=>(QW n m (f+k+1)).map (((f+k:Nat):Int) :: ·)
theorem Lr (n m f k:Nat):chP n m f (k+1)=chP n m f k++(QW n m (f+k+1)).map (((f+k:Nat):Int) :: ·):=by
 unfold chP
 rw [List.range_succ,List.flatMap_append]
 simp
theorem Qdo {n:Nat} (hn:n≤8) (m f:Nat):∀ k,(chP n m f k).length≤k * 8 ^ m
 |0=>by simp [chP]
 |k+1=>by
  rw [Lr,List.length_append,List.length_map,Nat.succ_mul]
  have h1:=Qdo hn m f k
  have h2:=QdG hn m (f+k+1)
  omega
def QaR (m:Nat):Prop:=∀ f n:Nat,n≤8→FnV Tryz.prog 68 [aI f,aI n,aI m] (WF (QW n m f))
def Yo (m:Nat):List AV→Prop × AV
 |[.v (.int .i64 f),.v (.int .i64 n),.v (.int .i64 k)]=>(0≤f∧0≤n∧n≤8∧k=m,WF (QW n.toNat m f.toNat))
 |_=>(False,.junk)
theorem eCho {A:Frm→Prop} {m:Nat} (ih:QaR m):qE A Tryz.prog 68 (qX false (Yo m)):=qW fun vs hv h=>by
 clear hv
 unfold Yo at h ⊢
 split at h
 ·rename_i f n k
  obtain ⟨h1,h2,h3,rfl⟩:=h
  obtain ⟨f,rfl⟩:=Int.eq_ofNat_of_zero_le h1
  obtain ⟨n,rfl⟩:=Int.eq_ofNat_of_zero_le h2
  refine ⟨by simp [AV.plain,WF],fun h=>absurd h (by decide), ?_⟩
  exact ih f n (by omega)
 ·exact h.elim
def ZH (n m:Nat) (M:List (List Int)) (T:List (Nat × AV)):St:={ t:=asg (T++[(1,aI n),(2,aI ((m+1:Nat):Int)),(7,.row 0)]),h:=qj [(0,.row 26 1 (M.map ZU))],n:=1 }
def wS:=vj @ty3 (vj @Qe (vj @QjC (vj @ti3.eq_1 (vj @x8.eq_1 @Qah.eq_1))))
def QL:=vj @aI.eq_1 (vj @aB.eq_1 (vj @qz.eq_1 (vj @WF.eq_1 (vj @zF.eq_1 (vj @ZU.eq_1 (vj @XE (vj @Qjc (vj @Kv (vj @Qjn (vj @QT (@Qjq)))))))))))
theorem Qhs:QaR 0:=by
 intro f n _
 have env:Env (fun _=>True) Tryz.prog tyB (tab []):=qL trivial
 refine Fn.of (A:=fun _=>True) (n0:=0) (D:=noD) (Fn0 Tryz.func68 rfl (fun vs w=>by kernel_rfl) (by kernel_rfl)) (by simp) (by simp [AV.ids,AV.idsL,aI]) (fun i o h=>by cases h) (fun _ _ _ _=>trivial) qF ?_
 have d0:decide (((0:Nat):Int)=0)=true:=rfl
 repeat' (first|(apply nx;with_reducible constructor)|refine uq (by decide) ?_|((first|refine vx env fun Q hQ=>?_|refine vz fun Q hQ=>?_);simp only [vkt,seval,wS,QL,ZH,Yo,List.length_map,d0,decide_true];(try simp only [ite_and]);(repeat' (first|with_reducible assumption|refine And.intro ?_ ?_|intro hp));all_goals (first|(refine hQ _ ?_;clear hQ Q)|(refine hQ _ (fun h=>?_) (fun h=>?_) <;> clear hQ Q <;> (try simp only [vki,reduceCtorEq] at h))|(refine vq ?_;kernel_rfl)|omega|assumption|with_reducible rfl|skip)))
 (simp only [vrt,Tryz.results68,vkt,seval,wS,QL,ZH,Yo,List.length_map];refine Fin.val rfl ?_;(try simp only [AV.le,AV.leL]))
 all_goals first|rfl|(simp;done)|exact ⟨_,_,rfl⟩
set_option maxHeartbeats 4000000 in
theorem QhA (m:Nat) (hm4:m≤3) (ih:QaR m):QaR (m+1):=by
 intro f n hn
 have env:Env (fun _=>True) Tryz.prog tyB (tab [(68,qX false (Yo m))]):=qL ⟨eCho ih,trivial⟩
 refine Fn.of (A:=fun _=>True) (n0:=0) (D:=noD) (Fn0 Tryz.func68 rfl (fun vs w=>by kernel_rfl) (by kernel_rfl)) (by simp) (by simp [AV.ids,AV.idsL,aI]) (fun i o h=>by cases h) (fun _ _ _ _=>trivial) qF ?_
 have hmx:(100000:Nat)≤maxLen:=by decide
 have hF:QW n (m+1) f=chP n m f (n - f):=rfl
 have h8:8 ^ m≤512:=Nat.le_trans (Nat.pow_le_pow_right (by decide) hm4) (by decide)
 rw [hF]
 have d0:decide (((m+1:Nat):Int)=0)=false:=decide_eq_false (by omega)
 have w0:IntKind.wrap .i64 (((m+1:Nat):Int) - 1)=(m:Int):=by rw [wrap64 (by omega) (by omega)];omega
 have n0:((n:Int)).toNat=n:=rfl
 have n1:(0:Int)≤(n:Int):=by omega
 have n2:(n:Int)≤8:=by omega
 repeat' (first|(apply nx;with_reducible constructor)|refine uq (by decide) ?_|((first|refine vx env fun Q hQ=>?_|refine vz fun Q hQ=>?_);simp only [vkt,seval,wS,QL,ZH,Yo,List.length_map,d0];(try simp only [ite_and]);(repeat' (first|with_reducible assumption|refine And.intro ?_ ?_|intro hp));all_goals (first|(refine hQ _ ?_;clear hQ Q)|(refine hQ _ (fun h=>?_) (fun h=>?_) <;> clear hQ Q <;> (try simp only [vki,reduceCtorEq] at h))|(refine vq ?_;kernel_rfl)|omega|assumption|with_reducible rfl|skip)))
 refine qN (fun k:{ k:Nat // k≤n - f }=>ZH n m (chP n m f k.1) [(8,aI ((f+k.1:Nat):Int))]) (fun k=>n - f - k.1) ⟨0,Nat.zero_le _⟩ ?_ fun ⟨k,hk⟩=>?_
 ·simp only [ZH,show chP n m f 0=[] from rfl,Nat.add_zero,List.cons_append,List.nil_append]
  (refine Le.ok (fun i=>if i=0 then none else some i) [] ?_;constructor;all_goals (try simp only [vle,vkt,seval,wS,QL,ZH,Yo,List.length_map]))
  all_goals first|rfl|(simp;done)|(intro i hi;rw [if_neg (by omega)];done)
 simp only at hk ⊢
 have hL:=Qdo hn m f k
 have hL2:k * 8 ^ m≤8 * 512:=Nat.mul_le_mul (by omega) h8
 have hS:=Lr n m f k
 obtain ⟨j,hj⟩:∃ j,f+k=j:=⟨_,rfl⟩
 rw [hj] at hS
 obtain ⟨L,hLe⟩:∃ L,chP n m f k=L:=⟨_,rfl⟩
 rw [hLe] at hL hS
 simp only [hj,hLe]
 by_cases hkn:k < n - f
 ·have d1:decide ((j:Int) < (n:Int))=true:=decide_eq_true (by omega)
  have e9:IntKind.wrap .i64 ((j:Int)+1)=((j+1:Nat):Int):=by rw [wrap64 (by omega) (by omega)];rfl
  have j0:(((j+1:Nat):Int)).toNat=j+1:=rfl
  have j1:(0:Int)≤((j+1:Nat):Int):=by omega
  have hRl:=QdG hn m (j+1)
  have hR1:=VV (n:=n) m (j+1)
  obtain ⟨R,hR⟩:∃ R,QW n m (j+1)=R:=⟨_,rfl⟩
  rw [hR] at hRl hR1 hS
  simp only [ZH,List.cons_append,List.nil_append]
  repeat' (first|(apply nx;with_reducible constructor)|refine uq (by decide) ?_|((first|refine vx env fun Q hQ=>?_|refine vz fun Q hQ=>?_);simp only [vkt,seval,wS,QL,ZH,Yo,List.length_map,d1,w0,e9,n0,n1,n2,j0,j1,hR];(try simp only [ite_and]);(repeat' (first|with_reducible assumption|refine And.intro ?_ ?_|intro hp));all_goals (first|(refine hQ _ ?_;clear hQ Q)|(refine hQ _ (fun h=>?_) (fun h=>?_) <;> clear hQ Q <;> (try simp only [vki,reduceCtorEq] at h))|(refine vq ?_;kernel_rfl)|omega|assumption|with_reducible rfl|skip)))
  refine qN (fun q:{ q:Nat // q≤R.length }=>ZH n m (L++(R.take q.1).map ((j:Int) :: ·)) [(8,aI j),(9,WF R),(10,aI q.1)]) (fun q=>R.length - q.1) ⟨0,Nat.zero_le _⟩ ?_ fun ⟨q,hq⟩=>?_
  ·simp only [ZH,List.take_zero,List.map_nil,List.append_nil,List.cons_append,List.nil_append]
   (refine Le.ok some [] ?_;constructor;all_goals (try simp only [vle,vkt,seval,wS,QL,ZH,Yo,List.length_map]))
   all_goals first|rfl|(simp;done)
  simp only at hq ⊢
  obtain ⟨M,hM⟩:∃ M,L++(R.take q).map ((j:Int) :: ·)=M:=⟨_,rfl⟩
  have hMl:M.length≤10000:=by rw [← hM,List.length_append,List.length_map,List.length_take];omega
  simp only [ZH,hM,List.cons_append,List.nil_append]
  by_cases hql:q < R.length
  ·have d2:decide ((q:Int) < (R.length:Int))=true:=decide_eq_true (by omega)
   have e8:IntKind.wrap .i64 ((q:Int)+1)=((q+1:Nat):Int):=by rw [wrap64 (by omega) (by omega)];rfl
   have q0:((q:Int)).toNat=q:=rfl
   have hm:M.length+1≤maxLen:=by omega
   obtain ⟨p,hp⟩:∃ p,R.getD q []=p:=⟨_,rfl⟩
   have hg:=Qjb hql
   rw [hp] at hg
   have hpl:=hR1 p (by rw [← hp];exact yB hql)
   have hpm:1+p.length≤maxLen:=by omega
   have hMS:L++(R.take (q+1)).map ((j:Int) :: ·)=M++[(j:Int) :: p]:=by
    rw [List.take_succ_eq_append_getElem hql,List.map_append,← List.append_assoc,hM,← hp]
    simp [List.getD_eq_getElem?_getD,hql]
   repeat' (first|(apply nx;with_reducible constructor)|refine uq (by decide) ?_|((first|refine vx env fun Q hQ=>?_|refine vz fun Q hQ=>?_);simp only [vkt,seval,wS,QL,ZH,Yo,List.length_map,q0,hql,hp,hg,d2,e8,hm,hpm];(try simp only [ite_and]);(repeat' (first|with_reducible assumption|refine And.intro ?_ ?_|intro hp));all_goals (first|(refine hQ _ ?_;clear hQ Q)|(refine hQ _ (fun h=>?_) (fun h=>?_) <;> clear hQ Q <;> (try simp only [vki,reduceCtorEq] at h))|(refine vq ?_;kernel_rfl)|omega|assumption|with_reducible rfl|skip)))
   refine ⟨⟨q+1,hql⟩,by show R.length - (q+1) < R.length - q;omega, ?_⟩
   simp only [ZH,hMS,List.cons_append,List.nil_append]
   (refine Le.ok (fun i=>if i=0 then some 4 else some i) [] ?_;constructor;all_goals (try simp only [vle,vkt,seval,wS,QL,ZH,Yo,List.length_map]))
   all_goals first|rfl|(rw [List.map_append];rfl)|(simp;done)|(intro i hi;rw [if_neg (by omega)];done)
  ·have d2:decide ((q:Int) < (R.length:Int))=false:=decide_eq_false (by omega)
   obtain rfl:q=R.length:=by omega
   rw [List.take_length] at hM
   rw [hM] at hS
   have hj2:f+(k+1)=j+1:=by omega
   repeat' (first|(apply nx;with_reducible constructor)|refine uq (by decide) ?_|((first|refine vx env fun Q hQ=>?_|refine vz fun Q hQ=>?_);simp only [vkt,seval,wS,QL,ZH,Yo,List.length_map,d2,e9];(try simp only [ite_and]);(repeat' (first|with_reducible assumption|refine And.intro ?_ ?_|intro hp));all_goals (first|(refine hQ _ ?_;clear hQ Q)|(refine hQ _ (fun h=>?_) (fun h=>?_) <;> clear hQ Q <;> (try simp only [vki,reduceCtorEq] at h))|(refine vq ?_;kernel_rfl)|omega|assumption|with_reducible rfl|skip)))
   refine ⟨⟨k+1,hkn⟩,by show n - f - (k+1) < n - f - k;omega, ?_⟩
   simp only [ZH,hS,hj2,List.cons_append,List.nil_append]
   (refine Le.ok some [] ?_;constructor;all_goals (try simp only [vle,vkt,seval,wS,QL,ZH,Yo,List.length_map]))
   all_goals first|rfl|(simp;done)
 ·have d1:decide ((j:Int) < (n:Int))=false:=decide_eq_false (by omega)
  obtain rfl:k=n - f:=by omega
  simp only [ZH,List.cons_append,List.nil_append]
  rw [hLe]
  repeat' (first|(apply nx;with_reducible constructor)|refine uq (by decide) ?_|((first|refine vx env fun Q hQ=>?_|refine vz fun Q hQ=>?_);simp only [vkt,seval,wS,QL,ZH,Yo,List.length_map,d1];(try simp only [ite_and]);(repeat' (first|with_reducible assumption|refine And.intro ?_ ?_|intro hp));all_goals (first|(refine hQ _ ?_;clear hQ Q)|(refine hQ _ (fun h=>?_) (fun h=>?_) <;> clear hQ Q <;> (try simp only [vki,reduceCtorEq] at h))|(refine vq ?_;kernel_rfl)|omega|assumption|with_reducible rfl|skip)))
  (simp only [vrt,Tryz.results68,vkt,seval,wS,QL,ZH,Yo,List.length_map];refine Fin.val rfl ?_;(try simp only [AV.le,AV.leL]))
  all_goals first|rfl|(simp;done)|exact ⟨_,_,rfl⟩
theorem Qdg:∀ m,m≤4→QaR m
 |0,_=>Qhs
 |m+1,h=>QhA m (by omega) (Qdg m (by omega))
theorem Qbk (f n m:Int) (h:(0≤f∧0≤n∧n≤8)∧0≤m∧m≤4):FnV Tryz.prog 68 [aI f,aI n,aI m] (WF (QW n.toNat m.toNat f.toNat)):=by
 obtain ⟨⟨h1,h2,h3⟩,h4,h5⟩:=h
 obtain ⟨f,rfl⟩:=Int.eq_ofNat_of_zero_le h1
 obtain ⟨n,rfl⟩:=Int.eq_ofNat_of_zero_le h2
 obtain ⟨m,rfl⟩:=Int.eq_ofNat_of_zero_le h4
 exact Qdg m (by omega) f n (by omega)
def zN:List AV→Prop × AV
 |[.v (.int .i64 f),.v (.int .i64 n),.v (.int .i64 m)]=>(0≤f∧0≤n∧n≤8∧0≤m∧m≤4,WF (QW n.toNat m.toNat f.toNat))
 |_=>(False,.junk)
theorem Qfg {A:Frm→Prop}:qE A Tryz.prog 68 (qX false zN):=qW fun vs hv h=>by
 clear hv
 unfold zN at h ⊢
 split at h
 ·rename_i f n m;obtain ⟨k0,k1,k2,k3,k4⟩:=h
  refine ⟨by first|trivial|(simp [AV.plain,AV.plainL,aI,aB,qz,qc,ql,qf,aTk,cTk];done)|(repeat' split) <;> simp [AV.plain,AV.plainL,aI,aB,qz,qc,ql,qf,aTk,cTk],fun h=>absurd h (by decide), ?_⟩
  have:=Qbk f n m ⟨⟨k0,k1,k2⟩,k3,k4⟩
  simp only [aI] at this
  first|exact this|(simp only [aI];exact this)
 ·exact h.elim
def Qc (_:St):List AV→Option Pk
 |[.sl bs,.v (.int .i64 n)]=>some { pre:=bs=(bs.map zz).map qo∧(0≤n∧n≤3)∧bs.length≤9,ar:=[.sl bs,.v (.int .i64 n)],v:=.row 0,L1:=[some (.row 44 1 ((alL (bs.map zz) n.toNat).map qA))] }
 |_=>none
theorem eAlZ {A:Frm→Prop}:qE A Tryz.prog 69 (fnE Qc):=zY fun S bs q h hp=>by
 unfold Qc at h
 split at h
 ·rename_i bs n
  cases h
  obtain ⟨h1,⟨h2,h4⟩,h3⟩:=hp
  obtain ⟨n,rfl⟩:=Int.eq_ofNat_of_zero_le h2
  have:=Qbi n (bs.map zz) (by rw [List.length_map];exact h3) (by omega)
  rw [qc,← h1] at this
  exact this
 ·cases h
theorem UH {α β:Type} {f:α→Option β} {d:α} {r:β}:∀ {l:List α} {k:Nat},k < l.length→(∀ j,j < k→f (l.getD j d)=none)→f (l.getD k d)=some r→l.findSome? f=some r
 |x :: l,0,_,_,h=>by
  have h:f x=some r:=h
  rw [List.findSome?_cons,h]
 |x :: l,k+1,hk,hn,h=>by
  have h0:f x=none:=hn 0 (Nat.succ_pos _)
  rw [List.findSome?_cons,h0]
  exact UH (l:=l) (k:=k) (Nat.lt_of_succ_lt_succ hk) (fun j hj=>hn (j+1) (by omega)) h
theorem VS {α β:Type} {f:α→Option β} {d:α}:∀ {l:List α},(∀ j,j < l.length→f (l.getD j d)=none)→l.findSome? f=none
 |[],_=>rfl
 |x :: l,h=>by
  have h0:f x=none:=h 0 (Nat.succ_pos _)
  rw [List.findSome?_cons,h0]
  exact VS (l:=l) fun j hj=>h (j+1) (by rw [List.length_cons];omega)
theorem XT {n j:Nat} (h:j < n):(List.range n).getD j 0=j:=by simp [List.getD_eq_getElem?_getD,h]
theorem QgH {n:Nat}:∀ (m f:Nat),∀ r ∈ QW n m f,∀ v ∈ r,0≤v∧v.toNat < n
 |0,f,r,h,v,hv=>by rw [QW,List.mem_singleton] at h;rw [h] at hv;simp at hv
 |m+1,f,r,h,v,hv=>by
  rw [QW,List.mem_flatMap] at h
  obtain ⟨k,hk,h⟩:=h
  obtain ⟨w,hw,rfl⟩:=List.mem_map.1 h
  rw [List.mem_range] at hk
  rcases List.mem_cons.1 hv with rfl|hv
  ·exact ⟨by omega,by omega⟩
  ·exact QgH m _ w hw v hv
theorem Qgn {c:Chart} {a:Ask} (h0:zw c a=0) {m:Nat} {l:List Tr} (hm:m < 3) (hn:∀ j,j < m→Qb9 c a j=none) (h:Qb9 c a m=some l):wV c a=(l,0):=by
 unfold wV
 rw [if_neg (fun hn=>hn h0)]
 have:(List.range 3).findSome? (yP c a)=some l:=UH (d:=0) (k:=m) (by rw [List.length_range];exact hm) (fun j hj=>by rw [XT (by omega),← Vp];exact hn j hj) (by rw [XT hm,← Vp];exact h)
 rw [this]
theorem Qfe {c:Chart} {a:Ask} (h0:zw c a=0) (hn:∀ j,j < 3→Qb9 c a j=none):wV c a=([],11):=by
 unfold wV
 rw [if_neg (fun hn=>hn h0)]
 have:(List.range 3).findSome? (yP c a)=none:=VS (d:=0) fun j hj=>by
  rw [List.length_range] at hj
  rw [XT hj,← Vp];exact hn j hj
 rw [this]
theorem Qh6 {c:Chart} {a:Ask} {Z:List Tr} {s:List Tk} {g:Bool} (hv:Val c) (h:sfP c.sold Z=(s,g)):trR c.cabins c.secs a c.sold Z=if (g && decide (zW ⟨c.cabins,c.secs,s⟩ s=0))=true∧plP ⟨c.cabins,c.secs,s⟩ a ≠ [] then some Z else none:=by
 have hl:=UA Z c.sold
 rw [h] at hl
 have hl:s.length=c.sold.length:=hl
 have hm:=hv.many
 unfold trR
 rw [QjB,h]
 cases g with
 |false=>simp
 |true =>
  have hc:zW ⟨c.cabins,c.secs,s⟩ s=0 ↔ zu ⟨c.cabins,c.secs,s⟩=0 :=
   ⟨fun h=>Xc (c:=⟨c.cabins,c.secs,s⟩) (hv.car.to' _) (by show s.length≤8;omega) h,fun h=>Qcg h⟩
  simp only [if_true,Bool.true_and,decide_eq_true_eq,hc]
theorem QiW {c:Chart} {r:List Int} {bb:List Bunk} (h:r.length=bb.length):(Z8 (jf c r) bb).length=bb.length:=by
 unfold Z8 jf
 rw [List.length_zipWith,List.length_map];omega
theorem QiH {c:Chart} {r:List Int} {bb:List Bunk} {q:Nat} (h1:q < r.length) (h2:q < bb.length):(Z8 (jf c r) bb).getD q default=⟨(zS c.sold).getD (r.getD q 0).toNat 0,(bb.getD q default).cab,(bb.getD q default).bed⟩:=by
 unfold Z8 jf
 simp [List.getD_eq_getElem?_getD,List.getElem?_zipWith,h1,h2]
theorem Qhp {α:Type} {d:α} {l:List α} {i:Nat} (h:i < l.length):l.take (i+1)=l.take i++[l.getD i d]:=by
 rw [List.take_succ_eq_append_getElem h]
 simp [List.getD_eq_getElem?_getD,h]
def kM (c:Chart) (a:Ask) (Q:List Int) (m:Nat):St:={ t:=asg [(2,.ptr 0 0),(3,.ptr 1 0),(7,qz Q),(8,aI m)],h:=qj [(0,.cells (qb c)),(1,.cells (qg a))],n:=2 }
def yE (c:Chart) (a:Ask) (Q:List Int) (m:Nat) (CH:List (List Int)) (LI:List (List Bunk)) (i:Nat) (T:List (Nat × AV)) (H:List (Nat × AObj)) (n:Nat):St:={ t:=asg (T++[(2,.ptr 0 0),(3,.ptr 1 0),(7,qz Q),(8,aI m),(9,WF CH),(10,.row 2),(11,aI i)]),h:=qj (H++[(0,.cells (qb c)),(1,.cells (qg a)),(2,.row 44 1 (LI.map qA))]),n:=n }
def ze:=vj @ty3 (vj @yc (vj @Qe (vj @QM (vj @QbK (vj @Zc (vj @WQ (vj @UZ (vj @xJ (vj @Uc (vj @QjC (vj @ti3.eq_1 (vj @jM.eq_1 (vj @x8.eq_1 (vj @Qb.eq_1 (vj @Kt.eq_1 (vj @QA.eq_1 (vj @ZO.eq_1 (vj @VL.eq_1 (vj @vZ.eq_1 (vj @VQ.eq_1 @Qah.eq_1))))))))))))))))))))
def jW:=vj @aI.eq_1 (vj @aB.eq_1 (vj @qz.eq_1 (vj @WF.eq_1 (vj @zF.eq_1 (vj @ZU.eq_1 (vj @XE (vj @Qjc (vj @Kv (vj @Qjn (vj @QT (@Qjq)))))))))))
end Go.Sym.B
