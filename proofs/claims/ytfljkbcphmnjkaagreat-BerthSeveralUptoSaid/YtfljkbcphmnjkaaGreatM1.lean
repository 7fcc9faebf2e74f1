/- Walks and what they compute, joined: part 1. -/
import Derived.Test.YtfljkbcphmnjkaaGreatMB3
set_option linter.all false
namespace Go.Sym.B
open Go Go.Sym Go.Proofs Go.Sym.C
theorem _root_.Go.Sym.vj {a b:Prop} (x:a) (y:b):a∧b:=⟨x,y⟩
def _root_.Go.Sym.uq:=@Yj
def _root_.Go.Sym.ux:=@Ws
def _root_.Go.Sym.uz:=@VY
def _root_.Go.Sym.uj:=@Y0
def _root_.Go.Sym.uk:=@Ul
def _root_.Go.Sym.uw:=@UC
def _root_.Go.Sym.uv:=@RI
def _root_.Go.Sym.vq:=@Lu
def _root_.Go.Sym.vx:=@Qc6
def _root_.Go.Sym.vz:=@Qij
def jM (a:Ask) (l:List Bunk) (k:Nat):List Tk:=(List.range k).map fun i=>yV a i (l.getD i default)
theorem Qaf (a:Ask) (l:List Bunk) (k:Nat):jM a l (k+1)=jM a l k++[yV a k (l.getD k default)]:=by
 unfold jM
 rw [List.range_succ,List.map_append];rfl
theorem YL (a:Ask) (l:List Bunk) (k:Nat):(jM a l k).length=k:=by simp [jM]
theorem Qjl {cs:List Cabin} (h2:∀ x ∈ cs,1≤x.beds∧x.beds≤3):(qK cs).length≤3 * cs.length:=by
 rw [KA]
 induction cs with
 |nil=>simp [kZ]
 |cons x l ih =>
  have h3:=ih fun y hy=>h2 y (List.mem_cons_of_mem _ hy)
  have h4:=h2 x (List.mem_cons_self ..)
  simp only [kZ,List.map_cons,List.sum_cons,List.length_cons] at h3 ⊢
  omega
theorem QjY {cs:List Cabin} (h1:cs.length≤3) (h2:∀ x ∈ cs,1≤x.beds∧x.beds≤3):(qK cs).length≤9:=by
 have:=Qjl h2
 omega
theorem Zi {t:Tk} {l:List Tk}:zq t l=0 ↔ ∀ x ∈ l,jR t x=false∧vT x t=true:=by
 unfold zq
 constructor
 ·intro h x hx
  split at h
  ·exact absurd h (by decide)
  rename_i h1
  split at h
  ·exact absurd h (by decide)
  rename_i h2
  refine ⟨?_, ?_⟩
  ·cases hq:jR t x with
   |false=>rfl
   |true=>exact absurd (List.any_eq_true.2 ⟨x,hx,hq⟩) h1
  ·cases hq:vT x t with
   |true=>rfl
   |false=>exact absurd (List.any_eq_true.2 ⟨x,hx,by rw [hq];rfl⟩) h2
 ·intro h
  rw [if_neg,if_neg]
  ·rw [List.any_eq_true]
   rintro ⟨x,hx,h1⟩
   rw [(h x hx).2] at h1
   exact absurd h1 (by decide)
  ·rw [List.any_eq_true]
   rintro ⟨x,hx,h1⟩
   rw [(h x hx).1] at h1
   exact absurd h1 (by decide)
structure RmInv (C:Chart) (a:Ask) (i:Nat) (c:Chart):Prop where
 chk:zw c=0
 cabs:c.cabins=C.cabins
 secs:c.secs=C.secs
 len:c.sold.length=C.sold.length+i
 lt:∀ t ∈ c.sold,t.party < 60+(i:Int)
def bkF (i k:Nat):List Bunk:=(List.range k).map fun (m:Nat)=>⟨(i:Int),(m:Int)⟩
def bkP (cs:List Cabin) (i:Nat):List Bunk:=(List.range i).flatMap fun i=>bkF i (cs.getD i default).beds.toNat
theorem QhQ (i k:Nat):bkF i (k+1)=bkF i k++[⟨(i:Int),(k:Int)⟩]:=by
 unfold bkF
 rw [List.range_succ,List.map_append];rfl
theorem QcN (i k:Nat):(bkF i k).length=k:=by simp [bkF]
theorem L8 (cs:List Cabin) (i:Nat):bkP cs (i+1)=bkP cs i++bkF i (cs.getD i default).beds.toNat:=by
 unfold bkP
 rw [List.range_succ,List.flatMap_append]
 simp
theorem Qc2 {cs:List Cabin} (hb:∀ x ∈ cs,x.beds≤3):∀ i,i≤cs.length→(bkP cs i).length≤3 * i
 |0,_=>by simp [bkP]
 |i+1,h=>by
  have h1:=Qc2 hb i (by omega)
  have h2:=hb _ (wC (d:=default) (show i < cs.length by omega))
  rw [L8,List.length_append,QcN]
  omega
def bkS (c:Chart) (T:List (Nat × AV)) (l:List Bunk):St:={ t:=asg (T++[(1,.ptr 0 0),(3,.row 1)]),h:=qc [(0,.cells (qa c)),(1,.row 62 2 (l.map qO))],n:=2 }
def xI:=vj @ty3 (vj @Za (vj @wh (vj @Q0 (vj @yu (vj @Zt (vj @ti3.eq_1 (vj @Qp.eq_1 (vj @zQ.eq_1 (vj @kU.eq_1 (vj @jQ.eq_1 @Qd.eq_1))))))))))
def kI:=vj @aI.eq_1 (@aB.eq_1)
theorem QdW (c:Chart) (hc:c.cabins.length≤3) (hb:∀ x ∈ c.cabins,x.beds≤3):FnV Tryz.prog 70 [qd c] (qb (qK c.cabins)):=by
 have env:Env (fun _=>True) Tryz.prog tyB (tab []):=qA trivial
 refine Fn.of (A:=fun _=>True) (n0:=0) (D:=noD) (Fn0 Tryz.func70 rfl (fun vs w=>by kernel_rfl) (by kernel_rfl)) (by simp) (by simp [AV.ids,AV.idsL,qd,qa]) (fun i o h=>by cases h) (fun _ _ _ _=>trivial) qw ?_
 have hmx:(100000:Nat)≤maxLen:=by decide
 rw [show qK c.cabins=bkP c.cabins c.cabins.length from rfl]
 repeat' (first|(apply nx;with_reducible constructor)|refine uq (by decide) ?_|((first|refine vx env fun Q hQ=>?_|refine vz fun Q hQ=>?_);simp only [vkt,seval,qd,qa,ite_and];(repeat' first|with_reducible assumption|apply kk|intro hp);all_goals (first|(refine hQ _ ?_;clear hQ Q)|(refine hQ _ (fun h=>?_) (fun h=>?_) <;> clear hQ Q <;> (try simp only [vki,reduceCtorEq] at h))|(refine vq ?_;kernel_rfl)|omega|assumption|with_reducible rfl|skip)))
 refine qC (fun i:{ i:Nat // i≤c.cabins.length }=>bkS c [(4,aI i.1)] (bkP c.cabins i.1)) (fun i=>c.cabins.length - i.1) ⟨0,Nat.zero_le _⟩ ?_ fun ⟨i,hi⟩=>?_
 ·simp only [bkS,show bkP c.cabins 0=[] from rfl,List.cons_append,List.nil_append]
  (refine Le.ok (fun i=>if i=1 then none else some i) [] ?_;constructor;all_goals (try simp only [vle,vkt,seval,kI,qa]))
  all_goals first|rfl|simp
 simp only at hi ⊢
 have hL:=Qc2 hb i hi
 have hS:=L8 c.cabins i
 obtain ⟨L,hLe⟩:∃ L,bkP c.cabins i=L:=⟨_,rfl⟩
 rw [hLe] at hL hS
 rw [hLe]
 by_cases hil:i < c.cabins.length
 ·have d1:decide ((i:Int) < (c.cabins.length:Int))=true:=decide_eq_true (by omega)
  have e9:=k9 i (by omega)
  have i0:((i:Int)).toNat=i:=rfl
  obtain ⟨x,hx⟩:∃ x,c.cabins.getD i default=x:=⟨_,rfl⟩
  have hxb:=hb x (by rw [← hx];exact wC hil)
  rw [hx] at hS
  simp only [bkS,List.cons_append,List.nil_append]
  repeat' (first|(apply nx;with_reducible constructor)|refine uq (by decide) ?_|((first|refine vx env fun Q hQ=>?_|refine vz fun Q hQ=>?_);simp only [vkt,seval,xI,kI,qa,d1,ite_and];(repeat' first|with_reducible assumption|apply kk|intro hp);all_goals (first|(refine hQ _ ?_;clear hQ Q)|(refine hQ _ (fun h=>?_) (fun h=>?_) <;> clear hQ Q <;> (try simp only [reduceCtorEq] at h))|(refine vq ?_;kernel_rfl)|omega|assumption|with_reducible rfl|skip)))
  refine qC (fun k:{ k:Nat // k≤x.beds.toNat }=>bkS c [(4,aI i),(5,aI k.1)] (L++bkF i k.1)) (fun k=>x.beds.toNat - k.1) ⟨0,Nat.zero_le _⟩ ?_ fun ⟨k,hk⟩=>?_
  ·simp only [bkS,show bkF i 0=[] from rfl,List.append_nil,List.cons_append,List.nil_append]
   (refine Le.ok some [] ?_;constructor;all_goals (try simp only [vle,vkt,seval,kI,qa]))
   all_goals first|rfl|simp
  simp only at hk ⊢
  have hF:=QhQ i k
  have hFl:(L++bkF i k).length≤100:=by rw [List.length_append,QcN];omega
  obtain ⟨M,hM⟩:∃ M,L++bkF i k=M:=⟨_,rfl⟩
  have hMS:L++bkF i (k+1)=M++[⟨(i:Int),(k:Int)⟩]:=by rw [hF,← List.append_assoc,hM]
  rw [hM] at hFl
  simp only [bkS,hM,List.cons_append,List.nil_append]
  by_cases hkl:k < x.beds.toNat
  ·have d2:decide ((k:Int) < x.beds)=true:=decide_eq_true (by omega)
   have e8:=k9 k (by omega)
   have hm:M.length+1≤maxLen:=by omega
   repeat' (first|(apply nx;with_reducible constructor)|refine uq (by decide) ?_|((first|refine vx env fun Q hQ=>?_|refine vz fun Q hQ=>?_);simp only [vkt,seval,xI,kI,V7,qz,yc,qa,i0,hil,hx,d2,e8,hm,ite_and];(repeat' first|with_reducible assumption|apply kk|intro hp);all_goals (first|(refine hQ _ ?_;clear hQ Q)|(refine hQ _ (fun h=>?_) (fun h=>?_) <;> clear hQ Q <;> (try simp only [reduceCtorEq] at h))|(refine vq ?_;kernel_rfl)|omega|assumption|with_reducible rfl|skip)))
   refine ⟨⟨k+1,hkl⟩,by show x.beds.toNat - (k+1) < x.beds.toNat - k;omega, ?_⟩
   simp only [hMS]
   (refine Le.ok (fun i=>if i=1 then some 3 else some i) [] ?_;constructor;all_goals (try simp only [vle,vkt,seval,kI,qa]))
   all_goals first|rfl|(rw [List.map_append];rfl)|(simp;done)|(intro i hi;rw [if_neg (by omega)];done)
  ·have d2:decide ((k:Int) < x.beds)=false:=decide_eq_false (by omega)
   obtain rfl:k=x.beds.toNat:=by omega
   repeat' (first|(apply nx;with_reducible constructor)|refine uq (by decide) ?_|((first|refine vx env fun Q hQ=>?_|refine vz fun Q hQ=>?_);simp only [vkt,seval,xI,kI,qz,yc,qa,i0,hil,hx,d2,e9,ite_and];(repeat' first|with_reducible assumption|apply kk|intro hp);all_goals (first|(refine hQ _ ?_;clear hQ Q)|(refine hQ _ (fun h=>?_) (fun h=>?_) <;> clear hQ Q <;> (try simp only [reduceCtorEq] at h))|(refine vq ?_;kernel_rfl)|omega|assumption|with_reducible rfl|skip)))
   refine ⟨⟨i+1,hil⟩,by show c.cabins.length - (i+1) < c.cabins.length - i;omega, ?_⟩
   simp only [hS,hM]
   (refine Le.ok some [] ?_;constructor;all_goals (try simp only [vle,vkt,seval,kI,qa]))
   all_goals first|rfl|simp
 ·have d1:decide ((i:Int) < (c.cabins.length:Int))=false:=decide_eq_false (by omega)
  obtain rfl:i=c.cabins.length:=by omega
  rw [hLe]
  simp only [bkS,List.cons_append,List.nil_append]
  repeat' (first|(apply nx;with_reducible constructor)|refine uq (by decide) ?_|((first|refine vx env fun Q hQ=>?_|refine vz fun Q hQ=>?_);simp only [vkt,seval,xI,kI,qa,d1,ite_and];(repeat' first|with_reducible assumption|apply kk|intro hp);all_goals (first|(refine hQ _ ?_;clear hQ Q)|(refine hQ _ (fun h=>?_) (fun h=>?_) <;> clear hQ Q <;> (try simp only [reduceCtorEq] at h))|(refine vq ?_;kernel_rfl)|omega|assumption|with_reducible rfl|skip)))
  (simp only [vrt,Tryz.results70,vkt,seval,qb];refine Fin.val rfl ?_;(try simp only [AV.le]))
  all_goals first|rfl|(simp;done)|exact ⟨_,_,rfl⟩
def YM:List AV→Prop × AV
 |[.agg [.sl c0,.v (.int .i64 c1),.sl c2]]=>(c0=(c0.map qj).map qz∧c2=(c2.map dTk).map eTk∧((⟨(c0.map qj),c1,(c2.map dTk)⟩:Chart)).cabins.length≤3∧∀ x ∈ ((⟨(c0.map qj),c1,(c2.map dTk)⟩:Chart)).cabins,x.beds≤3,qb (qK ((⟨(c0.map qj),c1,(c2.map dTk)⟩:Chart)).cabins))
 |_=>(False,.junk)
theorem QjH {A:Frm→Prop}:qm A Tryz.prog 70 (qG false YM):=qH fun vs hv h=>by
 clear hv
 unfold YM at h ⊢
 split at h
 ·rename_i c0 c1 c2;obtain ⟨q0,q1,k0,k1⟩:=h
  refine ⟨by first|trivial|(repeat' split) <;> simp [AV.plain,AV.plainL,aI,aB,ql,qb,qp,qx,aTk,cTk],fun h=>absurd h (by decide), ?_⟩
  have:=QdW ((⟨(c0.map qj),c1,(c2.map dTk)⟩:Chart)) k0 k1
  simp only [qd,qa,← q0,← q1] at this
  first|exact this|(simp only [zB,qd,aI,qp,qa,← q0,← q1];exact this)
 ·exact h.elim
def alL (bs:List Bunk):Nat→List (List Bunk)
 |0=>[[]]
 |m+1=>bs.flatMap fun b=>(alL bs m).map (b :: ·)
theorem Uc (bs:List Bunk):∀ m,(alL bs m).length=bs.length ^ m
 |0=>rfl
 |m+1=>by
  rw [alL,List.length_flatMap]
  simp only [List.length_map,Uc bs m]
  rw [List.map_const',List.sum_replicate_nat,Nat.pow_succ,Nat.mul_comm]
theorem Qt {bs:List Bunk}:∀ {m},∀ p ∈ alL bs m,p.length=m
 |0,p,hp=>by rw [List.mem_singleton.1 hp];rfl
 |m+1,p,hp=>by
  obtain ⟨b,_,hp⟩:=List.mem_flatMap.1 hp
  obtain ⟨q,hq,rfl⟩:=List.mem_map.1 hp
  rw [List.length_cons,Qt q hq]
def alP (bs:List Bunk) (R:List (List Bunk)) (i:Nat):List (List Bunk):=(bs.take i).flatMap fun b=>R.map (b :: ·)
theorem Qir {bs:List Bunk} (R:List (List Bunk)) {i:Nat} (h:i < bs.length):alP bs R (i+1)=alP bs R i++R.map ((bs.getD i default) :: ·):=by
 unfold alP
 rw [List.take_succ_eq_append_getElem h,List.flatMap_append,List.getD_eq_getElem?_getD,List.getElem?_eq_getElem h]
 simp
theorem Qjq (bs:List Bunk) (R:List (List Bunk)) (i:Nat):(alP bs R i).length≤i * R.length:=by
 unfold alP
 rw [List.length_flatMap]
 simp only [List.length_map]
 rw [List.map_const',List.sum_replicate_nat]
 exact Nat.mul_le_mul_right _ (by rw [List.length_take];omega)
def QhX (m:Nat):Prop:=∀ bs:List Bunk,bs.length≤9→m≤3→Fn noB Tryz.prog 69 [qb bs,aI m] noH (.row 0) (qc [(0,.row 44 1 ((alL bs m).map qY))]) 0
def pAl (m:Nat) (_:St):List AV→Option Pk
 |[.sl bs,.v (.int .i64 n)]=>some { pre:=bs=(bs.map zg).map qO∧n=m∧bs.length≤9∧m≤3,ar:=[.sl bs,.v (.int .i64 n)],v:=.row 0,L1:=[some (.row 44 1 ((alL (bs.map zg) m).map qY))] }
 |_=>none
theorem eAl {A:Frm→Prop} {m:Nat} (ih:QhX m):qm A Tryz.prog 69 (fnE (pAl m)):=qZ fun S bs q h hp=>by
 unfold pAl at h
 split at h
 ·rename_i bs n
  cases h
  obtain ⟨h1,rfl,h3,h4⟩:=hp
  have:=ih (bs.map zg) (by rw [List.length_map];exact h3) h4
  rw [qb,← h1] at this
  exact this
 ·cases h
def alS (bs:List Bunk) (R M:List (List Bunk)) (T:List (Nat × AV)):St:={ t:=asg (T++[(0,qb bs),(5,.row 1),(6,.row 0)]),h:=qc [(0,.row 44 1 (R.map qY)),(1,.row 44 1 (M.map qY))],n:=2 }
def jV:=vj @ty3 (vj @QbT (vj @Q0 (vj @yu (vj @ti3.eq_1 (vj @Xx.eq_1 (vj @kU.eq_1 @jQ.eq_1))))))
def vK:=vj @aI.eq_1 (@aB.eq_1)
theorem Qkw:QhX 0:=by
 intro bs _ _
 have env:Env (fun _=>True) Tryz.prog tyB (tab []):=qA trivial
 refine Fn.of (A:=fun _=>True) (n0:=0) (D:=noD) (Fn0 Tryz.func69 rfl (fun vs w=>by kernel_rfl) (by kernel_rfl)) (by simp) (by simp [AV.ids,qb,aI]) (fun i o h=>by cases h) (fun _ _ _ _=>trivial) qw ?_
 show Sym _ _ _ (qX [qb bs,aI 0] 0 noH) (wK tyB noD Tryz.f69 fun S rv=>Fin S rv (.row 0) 0 (qc [(0,.row 44 1 [qY []])]) 0)
 repeat' (first|(apply nx;with_reducible constructor)|refine uq (by decide) ?_|((first|refine vx env fun Q hQ=>?_|refine vz fun Q hQ=>?_);simp only [vkt,seval,jV,vK,qb,decide_true,ite_and];(repeat' first|with_reducible assumption|apply kk|intro hp);all_goals (first|(refine hQ _ ?_;clear hQ Q)|(refine hQ _ (fun h=>?_) (fun h=>?_) <;> clear hQ Q <;> (try simp only [reduceCtorEq] at h))|(refine vq ?_;kernel_rfl)|omega|assumption|with_reducible rfl|skip)))
 (simp only [vrt,Tryz.results69,vkt,seval,qY];refine Fin.ok some [] ?_ ?_ ?_ ?_ ?_ rfl;all_goals (try simp only [vle,vkt,seval]))
 all_goals first|rfl|simp
theorem QjU (m:Nat) (ih:QhX m):QhX (m+1):=by
 intro bs hbs hm3
 have env:Env (fun _=>True) Tryz.prog tyB (tab [(69,fnE (pAl m))]):=qA ⟨eAl ih,trivial⟩
 refine Fn.of (A:=fun _=>True) (n0:=0) (D:=noD) (Fn0 Tryz.func69 rfl (fun vs w=>by kernel_rfl) (by kernel_rfl)) (by simp) (by simp [AV.ids,qb,aI]) (fun i o h=>by cases h) (fun _ _ _ _=>trivial) qw ?_
 have hmx:(100000:Nat)≤maxLen:=by decide
 obtain ⟨R,hR⟩:∃ R,alL bs m=R:=⟨_,rfl⟩
 have hRl:R.length≤1000:=by
  rw [← hR,Uc]
  have h1:bs.length ^ m≤9 ^ m:=Nat.pow_le_pow_left hbs m
  have h2:9 ^ m≤9 ^ 3:=Nat.pow_le_pow_right (by decide) (by omega)
  omega
 have hR1:∀ p ∈ R,p.length≤3:=fun p hp=>by
  rw [← hR] at hp
  have:=Qt p hp
  omega
 have hF:alL bs (m+1)=alP bs R bs.length:=by unfold alP;rw [List.take_length,← hR];rfl
 rw [hF]
 have d0:decide (((m+1:Nat):Int)=0)=false:=decide_eq_false (by omega)
 have w0:IntKind.wrap .i64 (((m+1:Nat):Int) - 1)=(m:Int):=by rw [wrap64 (by omega) (by omega)];omega
 have hm3':m≤3:=by omega
 repeat' (first|(apply nx;with_reducible constructor)|refine uq (by decide) ?_|((first|refine vx env fun Q hQ=>?_|refine vz fun Q hQ=>?_);simp only [vkt,seval,jV,vK,qb,yX,pAl,d0,w0,hbs,hm3',hR,ite_and];(repeat' first|with_reducible assumption|apply kk|intro hp);all_goals (first|(refine hQ _ ?_;clear hQ Q)|(refine hQ _ (fun h=>?_) (fun h=>?_) <;> clear hQ Q <;> (try simp only [reduceCtorEq] at h))|(refine vq ?_;kernel_rfl)|omega|assumption|with_reducible rfl|skip)))
 refine qC (fun i:{ i:Nat // i≤bs.length }=>alS bs R (alP bs R i.1) [(7,aI i.1)]) (fun i=>bs.length - i.1) ⟨0,Nat.zero_le _⟩ ?_ fun ⟨i,hi⟩=>?_
 ·simp only [alS,show alP bs R 0=[] from rfl,List.cons_append,List.nil_append]
  (refine Le.ok (fun i=>if i=1 then none else some i) [] ?_;constructor;all_goals (try simp only [vle,vkt,seval,vK,qb]))
  all_goals first|rfl|simp
 simp only at hi ⊢
 have hL:=Qjq bs R i
 have hL2:i * R.length≤9 * 1000:=Nat.mul_le_mul (by omega) hRl
 obtain ⟨L,hLe⟩:∃ L,alP bs R i=L:=⟨_,rfl⟩
 rw [hLe] at hL
 rw [hLe]
 by_cases hil:i < bs.length
 ·have d1:decide ((i:Int) < (bs.length:Int))=true:=decide_eq_true (by omega)
  have e9:=k9 i (by omega)
  have i0:((i:Int)).toNat=i:=rfl
  obtain ⟨b,hbe⟩:∃ b,bs.getD i default=b:=⟨_,rfl⟩
  have hS:=Qir R hil
  rw [hLe,hbe] at hS
  simp only [alS,List.cons_append,List.nil_append]
  repeat' (first|(apply nx;with_reducible constructor)|refine uq (by decide) ?_|((first|refine vx env fun Q hQ=>?_|refine vz fun Q hQ=>?_);simp only [vkt,seval,jV,vK,qb,d1,ite_and];(repeat' first|with_reducible assumption|apply kk|intro hp);all_goals (first|(refine hQ _ ?_;clear hQ Q)|(refine hQ _ (fun h=>?_) (fun h=>?_) <;> clear hQ Q <;> (try simp only [reduceCtorEq] at h))|(refine vq ?_;kernel_rfl)|omega|assumption|with_reducible rfl|skip)))
  refine qC (fun k:{ k:Nat // k≤R.length }=>alS bs R (L++(R.take k.1).map (b :: ·)) [(7,aI i),(8,aI k.1)]) (fun k=>R.length - k.1) ⟨0,Nat.zero_le _⟩ ?_ fun ⟨k,hk⟩=>?_
  ·simp only [alS,List.take_zero,List.map_nil,List.append_nil,List.cons_append,List.nil_append]
   (refine Le.ok some [] ?_;constructor;all_goals (try simp only [vle,vkt,seval,vK,qb]))
   all_goals first|rfl|simp
  simp only at hk ⊢
  obtain ⟨M,hM⟩:∃ M,L++(R.take k).map (b :: ·)=M:=⟨_,rfl⟩
  have hMl:M.length≤10000:=by rw [← hM,List.length_append,List.length_map,List.length_take];omega
  simp only [alS,hM,List.cons_append,List.nil_append]
  by_cases hkl:k < R.length
  ·have d2:decide ((k:Int) < (R.length:Int))=true:=decide_eq_true (by omega)
   have e8:=k9 k (by omega)
   have k0:((k:Int)).toNat=k:=rfl
   have hm:M.length+1≤maxLen:=by omega
   obtain ⟨p,hp⟩:∃ p,R.getD k []=p:=⟨_,rfl⟩
   have hg:=Xb hkl
   rw [hp] at hg
   have hpl:=hR1 p (by rw [← hp];exact wC hkl)
   have hpm:1+p.length≤maxLen:=by omega
   have hMS:L++(R.take (k+1)).map (b :: ·)=M++[b :: p]:=by
    rw [List.take_succ_eq_append_getElem hkl,List.map_append,← List.append_assoc,hM,← hp]
    simp [List.getD_eq_getElem?_getD,hkl]
   repeat' (first|(apply nx;with_reducible constructor)|refine uq (by decide) ?_|((first|refine vx env fun Q hQ=>?_|refine vz fun Q hQ=>?_);simp only [vkt,seval,jV,vK,qb,qO,qY,yt,V7,Qbu,i0,k0,hil,hkl,hbe,hg,d2,e8,hm,hpm,ite_and];(repeat' first|with_reducible assumption|apply kk|intro hp);all_goals (first|(refine hQ _ ?_;clear hQ Q)|(refine hQ _ (fun h=>?_) (fun h=>?_) <;> clear hQ Q <;> (try simp only [reduceCtorEq] at h))|(refine vq ?_;kernel_rfl)|omega|assumption|with_reducible rfl|skip)))
   refine ⟨⟨k+1,hkl⟩,by show R.length - (k+1) < R.length - k;omega, ?_⟩
   simp only [hMS]
   (refine Le.ok (fun i=>if i=1 then some 5 else some i) [] ?_;constructor;all_goals (try simp only [vle,vkt,seval,vK,qb]))
   all_goals first|rfl|(rw [List.map_append];rfl)|(simp;done)|(intro i hi;rw [if_neg (by omega)];done)
  ·have d2:decide ((k:Int) < (R.length:Int))=false:=decide_eq_false (by omega)
   obtain rfl:k=R.length:=by omega
   rw [List.take_length] at hM
   repeat' (first|(apply nx;with_reducible constructor)|refine uq (by decide) ?_|((first|refine vx env fun Q hQ=>?_|refine vz fun Q hQ=>?_);simp only [vkt,seval,jV,vK,qb,d2,e9,ite_and];(repeat' first|with_reducible assumption|apply kk|intro hp);all_goals (first|(refine hQ _ ?_;clear hQ Q)|(refine hQ _ (fun h=>?_) (fun h=>?_) <;> clear hQ Q <;> (try simp only [reduceCtorEq] at h))|(refine vq ?_;kernel_rfl)|omega|assumption|with_reducible rfl|skip)))
   refine ⟨⟨i+1,hil⟩,by show bs.length - (i+1) < bs.length - i;omega, ?_⟩
   simp only [hS,hM]
   (refine Le.ok some [] ?_;constructor;all_goals (try simp only [vle,vkt,seval,vK,qb]))
   all_goals first|rfl|simp
 ·have d1:decide ((i:Int) < (bs.length:Int))=false:=decide_eq_false (by omega)
  obtain rfl:i=bs.length:=by omega
  rw [hLe]
  simp only [alS,List.cons_append,List.nil_append]
  repeat' (first|(apply nx;with_reducible constructor)|refine uq (by decide) ?_|((first|refine vx env fun Q hQ=>?_|refine vz fun Q hQ=>?_);simp only [vkt,seval,jV,vK,qb,d1,ite_and];(repeat' first|with_reducible assumption|apply kk|intro hp);all_goals (first|(refine hQ _ ?_;clear hQ Q)|(refine hQ _ (fun h=>?_) (fun h=>?_) <;> clear hQ Q <;> (try simp only [reduceCtorEq] at h))|(refine vq ?_;kernel_rfl)|omega|assumption|with_reducible rfl|skip)))
  (simp only [vrt,Tryz.results69,vkt,seval];refine Fin.ok (fun j=>[1][j]?) [] ?_ ?_ ?_ ?_ ?_ rfl;all_goals (try simp only [vle,vkt,seval]))
  all_goals first|rfl|simp
theorem QhN:∀ m,QhX m
 |0=>Qkw
 |m+1=>QjU m (QhN m)
def WT:=vj @ty3 (vj @Za (vj @wh (vj @yu (vj @Zt (vj @ti3.eq_1 (vj @Qp.eq_1 (vj @zQ.eq_1 (vj @jQ.eq_1 @Qd.eq_1))))))))
def YQ:=vj @aI.eq_1 (@aB.eq_1)
theorem QdI (c:Chart) (b:Bunk) (hc:CarOk c):FnV Tryz.prog 133 [qd c,qx b] (aB (zZ c.cabins b.cab b.bed)):=by
 have env:Env (fun _=>True) Tryz.prog tyB (tab [(83,qG true yl)]):=qA ⟨Qdw,trivial⟩
 refine Fn.of (A:=fun _=>True) (n0:=0) (D:=noD) (Fn0 Tryz.func133 rfl (fun vs w=>by kernel_rfl) (by kernel_rfl)) (by simp) (by simp [AV.ids,AV.idsL,qd,qa,qx]) (fun i o h=>by cases h) (fun _ _ _ _=>trivial) qw ?_
 have hcl:=hc.cabs
 have w1:IntKind.wrap .i64 ((c.cabins.length:Int) - 1)=(c.cabins.length:Int) - 1:=wrap64 (by omega) (by omega)
 have hE:zZ c.cabins b.cab b.bed=(inB b.cab 0 ((c.cabins.length:Int) - 1) && inB b.bed 0 ((c.cabins.getD b.cab.toNat default).beds - 1)):=rfl
 cases h3:inB b.cab 0 ((c.cabins.length:Int) - 1) with
 |false =>
  rw [hE,h3]
  repeat' (first|(apply nx;with_reducible constructor)|refine uq (by decide) ?_|((first|refine vx env fun Q hQ=>?_|refine vz fun Q hQ=>?_);simp only [vkt,seval,WT,YQ,qx,qd,qa,yl,h3,w1,ite_and];(repeat' first|with_reducible assumption|apply kk|intro hp);all_goals (first|(refine hQ _ ?_;clear hQ Q)|(refine hQ _ (fun h=>?_) (fun h=>?_) <;> clear hQ Q <;> (try simp only [vki,reduceCtorEq] at h))|(refine vq ?_;kernel_rfl)|omega|assumption|with_reducible rfl|skip)))
  (simp only [vrt,Tryz.results133,vkt,seval,YQ];refine Fin.val rfl ?_;(try simp only [AV.le]))
  all_goals first|rfl|simp
 |true =>
  have b3:=zY.1 h3
  have g1:0≤b.cab:=b3.1
  have g2:b.cab.toNat < c.cabins.length:=by omega
  obtain ⟨x,hx⟩:∃ x,c.cabins.getD b.cab.toNat default=x:=⟨_,rfl⟩
  have hxb:=hc.beds _ (wC (d:=default) g2)
  rw [hx] at hxb
  have w2:IntKind.wrap .i64 (x.beds - 1)=x.beds - 1:=wrap64 (by omega) (by omega)
  rw [hE,h3,hx,Bool.true_and]
  repeat' (first|(apply nx;with_reducible constructor)|refine uq (by decide) ?_|((first|refine vx env fun Q hQ=>?_|refine vz fun Q hQ=>?_);simp only [vkt,seval,WT,YQ,qx,qd,qa,qz,yc,yl,h3,w1,w2,hx,g1,g2,ite_and];(repeat' first|with_reducible assumption|apply kk|intro hp);all_goals (first|(refine hQ _ ?_;clear hQ Q)|(refine hQ _ (fun h=>?_) (fun h=>?_) <;> clear hQ Q <;> (try simp only [vki,reduceCtorEq] at h))|(refine vq ?_;kernel_rfl)|omega|assumption|with_reducible rfl|skip)))
  (simp only [vrt,Tryz.results133,vkt,seval,YQ];refine Fin.val rfl ?_;(try simp only [AV.le]))
  all_goals first|rfl|simp
def xD:List AV→Prop × AV
 |[.agg [.sl c0,.v (.int .i64 c1),.sl c2],.agg [.v (.int .i64 b0),.v (.int .i64 b1)]]=>(c0=(c0.map qj).map qz∧c2=(c2.map dTk).map eTk∧CarOk ((⟨(c0.map qj),c1,(c2.map dTk)⟩:Chart)),aB (zZ ((⟨(c0.map qj),c1,(c2.map dTk)⟩:Chart)).cabins ((⟨b0,b1⟩:Bunk)).cab ((⟨b0,b1⟩:Bunk)).bed))
 |_=>(False,.junk)
theorem Qc7 {A:Frm→Prop}:qm A Tryz.prog 133 (qG true xD):=qH fun vs hv h=>by
 clear hv
 unfold xD at h ⊢
 split at h
 ·rename_i c0 c1 c2 b0 b1;obtain ⟨q0,q1,k0⟩:=h
  refine ⟨by first|trivial|(repeat' split) <;> simp [AV.plain,AV.plainL,aI,aB,ql,qb,qp,qx,aTk,cTk],fun _=>(by simp [AV.flat,aB]), ?_⟩
  have:=QdI ((⟨(c0.map qj),c1,(c2.map dTk)⟩:Chart)) ((⟨b0,b1⟩:Bunk)) k0
  simp only [qx,qd,qa,← q0,← q1] at this
  first|exact this|(simp only [qx,zB,qd,aI,qp,qa,← q0,← q1];exact this)
 ·exact h.elim
def rnS (c:Chart) (l:List Bunk) (k:Nat) (lo hi:Int):St:={ t:=asg [(1,qb l),(2,.ptr 0 0),(4,aB false),(5,aI lo),(6,aI hi),(7,aI k)],h:=qc [(0,.cells (qa c))],n:=1 }
def vU:=vj @ty3 (vj @ty4 (vj @Za (vj @wh (vj @Q0 (vj @yu (vj @Zt (vj @ti3.eq_1 (vj @ti4.eq_1 (vj @Qp.eq_1 (vj @zQ.eq_1 (vj @kU.eq_1 (vj @jQ.eq_1 @Qd.eq_1))))))))))))
def xE:=vj @aI.eq_1 (@aB.eq_1)
theorem Qf2 (c:Chart) (l:List Bunk) (ok:NearOk c.cabins l):FnV Tryz.prog 134 [qd c,qb l] (aB (kD c.cabins l)):=by
 have env:Env (fun _=>True) Tryz.prog tyB (tab []):=qA trivial
 refine Fn.of (A:=fun _=>True) (n0:=0) (D:=noD) (Fn0 Tryz.func134 rfl (fun vs w=>by kernel_rfl) (by kernel_rfl)) (by simp) (by simp [AV.ids,AV.idsL,qd,qa,qb]) (fun i o h=>by cases h) (fun _ _ _ _=>trivial) qw ?_
 have hne:=ok.ne
 have hll:=ok.len
 have hcl:=ok.cabs
 have hbd:=XW ok
 obtain ⟨x0,hx0⟩:∃ x,l.getD 0 default=x:=⟨_,rfl⟩
 have l0:loK l 0=x0.cab:=by rw [← hx0];rfl
 have h0:hiK l 0=x0.cab:=by rw [← hx0];rfl
 rw [Qdh]
 repeat' (first|(apply nx;with_reducible constructor)|refine uq (by decide) ?_|((first|refine vx env fun Q hQ=>?_|refine vz fun Q hQ=>?_);simp only [vkt,seval,vU,qb,qO,yt,qd,qa,hx0,hne,ite_and];(repeat' first|with_reducible assumption|apply kk|intro hp);all_goals (first|(refine hQ _ ?_;clear hQ Q)|(refine hQ _ (fun h=>?_) (fun h=>?_) <;> clear hQ Q <;> (try simp only [vki,reduceCtorEq] at h))|(refine vq ?_;kernel_rfl)|omega|assumption|with_reducible rfl|skip)))
 refine qC (fun k:{ k:Nat // k≤l.length }=>rnS c l k.1 (loK l k.1) (hiK l k.1)) (fun k=>l.length - k.1) ⟨0,Nat.zero_le _⟩ ?_ fun ⟨k,hk⟩=>?_
 ·simp only [l0,h0]
  (refine Le.ok some [] ?_;constructor;all_goals (try simp only [vle,vkt,seval,xE,qb,qa]))
  all_goals first|rfl|simp
 simp only at hk ⊢
 by_cases hlt:k < l.length
 ·have d1:decide ((k:Int) < (l.length:Int))=true:=decide_eq_true (by omega)
  have e9:=k9 k (by omega)
  have k0:((k:Int)).toNat=k:=rfl
  obtain ⟨x,hx⟩:∃ x,l.getD k default=x:=⟨_,rfl⟩
  have hl1:=V4 hlt
  have hh1:=YZ hlt
  rw [hx] at hl1 hh1
  repeat' (first|(apply nx;with_reducible constructor)|refine uq (by decide) ?_|((first|refine vx env fun Q hQ=>?_|refine vz fun Q hQ=>?_);simp only [vkt,seval,vU,xE,qb,qO,yt,qa,rnS,d1,k0,hx,hlt,e9,ite_and];(repeat' first|with_reducible assumption|apply kk|intro hp);all_goals (first|(refine hQ _ ?_;clear hQ Q)|(refine hQ _ (fun h=>?_) (fun h=>?_) <;> clear hQ Q <;> (try simp only [reduceCtorEq] at h))|(refine vq ?_;kernel_rfl)|omega|assumption|with_reducible rfl|skip)))
  refine ⟨⟨k+1,hlt⟩,by show l.length - (k+1) < l.length - k;omega, ?_⟩
  simp only [hl1,hh1]
  (refine Le.ok some [] ?_;constructor;all_goals (try simp only [vle,vkt,seval,xE,qb,qa]))
  all_goals first|rfl|simp
 ·have d0:decide ((k:Int) < (l.length:Int))=false:=decide_eq_false (by omega)
  have hke:k=l.length:=by omega
  subst hke
  obtain ⟨g1,g2,g3,g4⟩:=hbd l.length (Nat.le_refl _)
  obtain ⟨lo,hlo⟩:∃ x,loK l l.length=x:=⟨_,rfl⟩
  obtain ⟨hi,hhi⟩:∃ x,hiK l l.length=x:=⟨_,rfl⟩
  rw [hlo] at g1 g2
  rw [hhi] at g3 g4
  obtain ⟨x,hx⟩:∃ x,c.cabins.getD lo.toNat default=x:=⟨_,rfl⟩
  have w1:IntKind.wrap .i64 (lo+1)=lo+1:=wrap64 (by omega) (by omega)
  simp only [hlo,hhi]
  by_cases c1:lo=hi
  ·rw [show (decide (lo=hi) || (decide (lo+1=hi) && (c.cabins.getD lo.toNat default).door))=true by simp [c1]]
   have d1:decide (lo=hi)=true:=decide_eq_true c1
   have d1':(lo == hi)=true:=by simpa using c1
   repeat' (first|(apply nx;with_reducible constructor)|refine uq (by decide) ?_|((first|refine vx env fun Q hQ=>?_|refine vz fun Q hQ=>?_);simp only [vkt,seval,vU,xE,qb,qa,rnS,d0,d1,ite_and];(repeat' first|with_reducible assumption|apply kk|intro hp);all_goals (first|(refine hQ _ ?_;clear hQ Q)|(refine hQ _ (fun h=>?_) (fun h=>?_) <;> clear hQ Q <;> (try simp only [reduceCtorEq] at h))|(refine vq ?_;kernel_rfl)|omega|assumption|with_reducible rfl|skip)))
   (simp only [vrt,Tryz.results134,vkt,seval,xE];refine Fin.val rfl ?_;(try simp only [AV.le]))
   all_goals first|rfl|simp
  ·have d1:decide (lo=hi)=false:=decide_eq_false c1
   have d1':(lo == hi)=false:=by simpa using c1
   by_cases c2:lo+1=hi
   ·rw [show (decide (lo=hi) || (decide (lo+1=hi) && (c.cabins.getD lo.toNat default).door))=x.door by rw [d1,hx,decide_eq_true c2];simp]
    have d2:decide (hi=lo+1)=true:=decide_eq_true c2.symm
    repeat' (first|(apply nx;with_reducible constructor)|refine uq (by decide) ?_|((first|refine vx env fun Q hQ=>?_|refine vz fun Q hQ=>?_);simp only [vkt,seval,vU,xE,qb,qz,yc,qa,rnS,d0,d1,d2,w1,hx,g1,g2,ite_and];(repeat' first|with_reducible assumption|apply kk|intro hp);all_goals (first|(refine hQ _ ?_;clear hQ Q)|(refine hQ _ (fun h=>?_) (fun h=>?_) <;> clear hQ Q <;> (try simp only [reduceCtorEq] at h))|(refine vq ?_;kernel_rfl)|omega|assumption|with_reducible rfl|skip)))
    (simp only [vrt,Tryz.results134,vkt,seval,xE];refine Fin.val rfl ?_;(try simp only [AV.le]))
    all_goals first|rfl|simp
   ·rw [show (decide (lo=hi) || (decide (lo+1=hi) && (c.cabins.getD lo.toNat default).door))=false by rw [d1,decide_eq_false c2];simp]
    have d2:decide (hi=lo+1)=false:=decide_eq_false fun h=>c2 h.symm
    repeat' (first|(apply nx;with_reducible constructor)|refine uq (by decide) ?_|((first|refine vx env fun Q hQ=>?_|refine vz fun Q hQ=>?_);simp only [vkt,seval,vU,xE,qb,qa,rnS,d0,d1,d2,w1,ite_and];(repeat' first|with_reducible assumption|apply kk|intro hp);all_goals (first|(refine hQ _ ?_;clear hQ Q)|(refine hQ _ (fun h=>?_) (fun h=>?_) <;> clear hQ Q <;> (try simp only [reduceCtorEq] at h))|(refine vq ?_;kernel_rfl)|omega|assumption|with_reducible rfl|skip)))
    (simp only [vrt,Tryz.results134,vkt,seval,xE];refine Fin.val rfl ?_;(try simp only [AV.le]))
    all_goals first|rfl|simp
def Ux:List AV→Prop × AV
 |[.agg [.sl c0,.v (.int .i64 c1),.sl c2],.sl l]=>(c0=(c0.map qj).map qz∧c2=(c2.map dTk).map eTk∧l=(l.map zg).map qO∧NearOk ((⟨(c0.map qj),c1,(c2.map dTk)⟩:Chart)).cabins (l.map zg),aB (kD ((⟨(c0.map qj),c1,(c2.map dTk)⟩:Chart)).cabins (l.map zg)))
 |_=>(False,.junk)
theorem QlX {A:Frm→Prop}:qm A Tryz.prog 134 (qG true Ux):=qH fun vs hv h=>by
 clear hv
 unfold Ux at h ⊢
 split at h
 ·rename_i c0 c1 c2 l;obtain ⟨q0,q1,q2,k0⟩:=h
  refine ⟨by first|trivial|(repeat' split) <;> simp [AV.plain,AV.plainL,aI,aB,ql,qb,qp,qx,aTk,cTk],fun _=>(by simp [AV.flat,aB]), ?_⟩
  have:=Qf2 ((⟨(c0.map qj),c1,(c2.map dTk)⟩:Chart)) (l.map zg) k0
  simp only [qb,qd,qa,← q0,← q1,← q2] at this
  first|exact this|(simp only [qb,zB,qd,aI,qp,qa,← q0,← q1,← q2];exact this)
 ·exact h.elim
def rtS (a:Ask) (l:List Bunk) (k:Nat):St:={ t:=asg [(1,qb l),(2,.ptr 0 0),(5,.row 1),(6,aI k)],h:=qc [(0,.cells (qg a)),(1,qh (jM a l k))],n:=2 }
def Xd:=vj @ty3 (vj @ty4 (vj @yP (vj @yf (vj @jL (vj @Q0 (vj @yu (vj @wP (vj @ti3.eq_1 (vj @ti4.eq_1 (vj @yh.eq_1 (vj @jK.eq_1 (vj @wY.eq_1 (vj @kU.eq_1 (vj @jQ.eq_1 @wI.eq_1))))))))))))))
def YC:=vj @aI.eq_1 (vj @aB.eq_1 (vj @qU.eq_1 (vj @JN (@jJ))))
theorem QiK (a:Ask) (l:List Bunk) (hl:l.length≤100) (ha:a.sexes.length=l.length):FnV Tryz.prog 61 [qI a,qb l] (qp (jM a l l.length)):=by
 have env:Env (fun _=>True) Tryz.prog tyB (tab []):=qA trivial
 refine Fn.of (A:=fun _=>True) (n0:=0) (D:=noD) (Fn0 Tryz.func61 rfl (fun vs w=>by kernel_rfl) (by kernel_rfl)) (by simp) (by simp [AV.ids,AV.idsL,qI,qg,qb]) (fun i o h=>by cases h) (fun _ _ _ _=>trivial) qw ?_
 have hmx:(100000:Nat)≤maxLen:=by decide
 repeat' (first|(apply nx;with_reducible constructor)|refine uq (by decide) ?_|((first|refine vx env fun Q hQ=>?_|refine vz fun Q hQ=>?_);simp only [vkt,seval,qb,qI,qg,ite_and];(repeat' first|with_reducible assumption|apply kk|intro hp);all_goals (first|(refine hQ _ ?_;clear hQ Q)|(refine hQ _ (fun h=>?_) (fun h=>?_) <;> clear hQ Q <;> (try simp only [vki,reduceCtorEq] at h))|(refine vq ?_;kernel_rfl)|omega|assumption|with_reducible rfl|skip)))
 refine qC (fun k:{ k:Nat // k≤l.length }=>rtS a l k.1) (fun k=>l.length - k.1) ⟨0,Nat.zero_le _⟩ ?_ fun ⟨k,hk⟩=>?_
 ·simp only [rtS,show jM a l 0=[] from rfl]
  (refine Le.ok (fun i=>if i=1 then none else some i) [] ?_;constructor;all_goals (try simp only [vle,vkt,seval,YC,qb,qg,qh]))
  all_goals first|rfl|simp
 simp only at hk ⊢
 have hS:=Qaf a l k
 have hT:=YL a l k
 obtain ⟨T,hTe⟩:∃ T,jM a l k=T:=⟨_,rfl⟩
 rw [hTe] at hS hT
 simp only [rtS,hTe]
 by_cases hkl:k < l.length
 ·have d1:decide ((k:Int) < (l.length:Int))=true:=decide_eq_true (by omega)
  have d2:decide ((k:Int) < (a.sexes.length:Int))=true:=decide_eq_true (by omega)
  have e9:=k9 k (by omega)
  have k0:((k:Int)).toNat=k:=rfl
  have hka:k < a.sexes.length:=by omega
  obtain ⟨b,hb⟩:∃ b,l.getD k default=b:=⟨_,rfl⟩
  rw [hb] at hS
  have hm:T.length+1≤maxLen:=by omega
  repeat' (first|(apply nx;with_reducible constructor)|refine uq (by decide) ?_|((first|refine vx env fun Q hQ=>?_|refine vz fun Q hQ=>?_);simp only [vkt,seval,Xd,YC,qb,qO,yt,rTk,qg,qh,d1,d2,e9,k0,hkl,hka,hb,hm,ite_and];(repeat' first|with_reducible assumption|apply kk|intro hp);all_goals (first|(refine hQ _ ?_;clear hQ Q)|(refine hQ _ (fun h=>?_) (fun h=>?_) <;> clear hQ Q <;> (try simp only [reduceCtorEq] at h))|(refine vq ?_;kernel_rfl)|omega|assumption|with_reducible rfl|skip)))
  refine ⟨⟨k+1,hkl⟩,by show l.length - (k+1) < l.length - k;omega, ?_⟩
  simp only [hS]
  (refine Le.ok (fun i=>if i=1 then some 3 else some i) [] ?_;constructor;all_goals (try simp only [vle,vkt,seval,YC,qb,qg,qh]))
  all_goals first|rfl|(rw [List.map_append];rfl)|(simp;done)|(intro i hi;rw [if_neg (by omega)];done)
 ·have d1:decide ((k:Int) < (l.length:Int))=false:=decide_eq_false (by omega)
  obtain rfl:k=l.length:=by omega
  rw [hTe]
  repeat' (first|(apply nx;with_reducible constructor)|refine uq (by decide) ?_|((first|refine vx env fun Q hQ=>?_|refine vz fun Q hQ=>?_);simp only [vkt,seval,Xd,YC,qb,qg,qh,d1,ite_and];(repeat' first|with_reducible assumption|apply kk|intro hp);all_goals (first|(refine hQ _ ?_;clear hQ Q)|(refine hQ _ (fun h=>?_) (fun h=>?_) <;> clear hQ Q <;> (try simp only [reduceCtorEq] at h))|(refine vq ?_;kernel_rfl)|omega|assumption|with_reducible rfl|skip)))
  (simp only [vrt,Tryz.results61,vkt,seval,qp];refine Fin.val rfl ?_;(try simp only [AV.le]))
  all_goals first|rfl|(simp;done)|exact ⟨_,_,rfl⟩
def Yg:List AV→Prop × AV
 |[.agg [.v (.int .i64 a0),.v (.int .i64 a1),.v (.int .i64 a2),.sl a3,.v (.bool a4)],.sl l]=>(a3=(a3.map qM).map qU∧l=(l.map zg).map qO∧(l.map zg).length≤100∧((⟨a0,a1,a2,(a3.map qM),a4⟩:Ask)).sexes.length=(l.map zg).length,qp (jM ((⟨a0,a1,a2,(a3.map qM),a4⟩:Ask)) (l.map zg) (l.map zg).length))
 |_=>(False,.junk)
theorem QkO {A:Frm→Prop}:qm A Tryz.prog 61 (qG false Yg):=qH fun vs hv h=>by
 clear hv
 unfold Yg at h ⊢
 split at h
 ·rename_i a0 a1 a2 a3 a4 l;obtain ⟨q0,q1,k0,k1⟩:=h
  refine ⟨by first|trivial|(repeat' split) <;> simp [AV.plain,AV.plainL,aI,aB,ql,qb,qp,qx,aTk,cTk],fun h=>absurd h (by decide), ?_⟩
  have:=QiK ((⟨a0,a1,a2,(a3.map qM),a4⟩:Ask)) (l.map zg) k0 k1
  simp only [qI,qb,qg,← q0,← q1] at this
  first|exact this|(simp only [qI,aB,qb,aI,ql,qg,← q0,← q1];exact this)
 ·exact h.elim
theorem QkE {α:Type} [Inhabited α] {l:List α} {p:α→Bool} (h:∀ j,j < l.length→p (l.getD j default)=false):l.any p=false:=List.any_eq_false.2 fun x hx=>by
 obtain ⟨j,hj,rfl⟩:=List.mem_iff_getElem.1 hx
 have:=h j hj
 rw [show l.getD j default=l[j] by simp [List.getD_eq_getElem?_getD,hj]] at this
 rw [this];simp
theorem QhC {α:Type} [Inhabited α] {l:List α} {p:α→Bool} {k:Nat} (hk:k < l.length) (h:p (l.getD k default)=true):l.any p=true:=List.any_eq_true.2 ⟨_,wC hk,h⟩
def rsA (c:Chart) (t:Tk) (l:List Tk) (T:List (Nat × AV)):St:={ t:=asg (T++[(2,qp l),(4,.ptr 1 0),(6,aI 0)]),h:=qc [(0,.cells (qa c)),(1,.cells (cTk t))],n:=2 }
def zL:=vj @ty3 (vj @yP (vj @wh (vj @x8 (vj @yu (vj @wP (vj @ti3.eq_1 (vj @yh.eq_1 (vj @zQ.eq_1 (vj @vV.eq_1 (vj @jQ.eq_1 @wI.eq_1))))))))))
def zI:=vj @aI.eq_1 (@aB.eq_1)
theorem Qgn (c:Chart) (t:Tk) (l:List Tk) (hc:CarOk c) (hl:l.length≤100):FnV Tryz.prog 135 [qd c,aTk t,qp l] (aI (zf c t l)):=by
 have env:Env (fun _=>True) Tryz.prog tyB (tab [(83,qG true yl),(133,qG true xD),(84,qG true Wl),(120,qG true Wq),(121,qG true QaC)]):=qA ⟨Qdw,Qc7,QkS,QgI,ertog,trivial⟩
 refine Fn.of (A:=fun _=>True) (n0:=0) (D:=noD) (Fn0 Tryz.func135 rfl (fun vs w=>by kernel_rfl) (by kernel_rfl)) (by simp) (by simp [AV.ids,AV.idsL,qd,qa,aTk,cTk,qp]) (fun i o h=>by cases h) (fun _ _ _ _=>trivial) qw ?_
 have et:(⟨t.party,t.sex,t.cab,t.bed,t.frm,t.to,t.dog⟩:Tk)=t:=rfl
 have ec:(⟨c.cabins,c.secs,c.sold⟩:Chart)=c:=rfl
 have eb:(⟨t.cab,t.bed⟩:Bunk)=⟨t.cab,t.bed⟩:=rfl
 have hc':=hc
 cases h1:inB t.party 1 99
 ·rw [show zf c t l=1 by simp [zf,h1]]
  repeat' (first|(apply nx;with_reducible constructor)|refine uq (by decide) ?_|((first|refine vx env fun Q hQ=>?_|refine vz fun Q hQ=>?_);simp only [vkt,seval,zL,zI,aTk,cTk,qp,qd,qa,yl,h1,ite_and];(repeat' first|with_reducible assumption|apply kk|intro hp);all_goals (first|(refine hQ _ ?_;clear hQ Q)|(refine hQ _ (fun h=>?_) (fun h=>?_) <;> clear hQ Q <;> (try simp only [reduceCtorEq] at h))|(refine vq ?_;kernel_rfl)|omega|assumption|with_reducible rfl|skip)))
  (simp only [vrt,Tryz.results135,vkt,seval,zI];refine Fin.val rfl ?_;(try simp only [AV.le]))
  all_goals first|rfl|simp
 cases h2:inB t.sex 1 2
 ·rw [show zf c t l=8 by simp [zf,h1,h2]]
  repeat' (first|(apply nx;with_reducible constructor)|refine uq (by decide) ?_|((first|refine vx env fun Q hQ=>?_|refine vz fun Q hQ=>?_);simp only [vkt,seval,zL,zI,aTk,cTk,qp,qd,qa,yl,h1,h2,ite_and];(repeat' first|with_reducible assumption|apply kk|intro hp);all_goals (first|(refine hQ _ ?_;clear hQ Q)|(refine hQ _ (fun h=>?_) (fun h=>?_) <;> clear hQ Q <;> (try simp only [reduceCtorEq] at h))|(refine vq ?_;kernel_rfl)|omega|assumption|with_reducible rfl|skip)))
  (simp only [vrt,Tryz.results135,vkt,seval,zI];refine Fin.val rfl ?_;(try simp only [AV.le]))
  all_goals first|rfl|simp
 cases h3:zZ c.cabins t.cab t.bed
 ·rw [show zf c t l=3 by simp [zf,h1,h2,h3]]
  repeat' (first|(apply nx;with_reducible constructor)|refine uq (by decide) ?_|((first|refine vx env fun Q hQ=>?_|refine vz fun Q hQ=>?_);simp only [vkt,seval,zL,zI,aTk,cTk,qp,mTk,qy,qd,qa,yl,xD,h1,h2,h3,ec,ite_and];(repeat' first|with_reducible assumption|apply kk|intro hp);all_goals (first|(refine hQ _ ?_;clear hQ Q)|(refine hQ _ (fun h=>?_) (fun h=>?_) <;> clear hQ Q <;> (try simp only [reduceCtorEq] at h))|(refine vq ?_;kernel_rfl)|omega|assumption|with_reducible rfl|skip)))
  (simp only [vrt,Tryz.results135,vkt,seval,zI];refine Fin.val rfl ?_;(try simp only [AV.le]))
  all_goals first|rfl|simp
 have hr:zf c t l=if xY c.secs t.frm t.to ≠ 0 then xY c.secs t.frm t.to else zq t l:=by unfold zf;simp [h1,h2,h3]
 rw [hr]
 obtain ⟨w,hw⟩:∃ w,xY c.secs t.frm t.to=w:=⟨_,rfl⟩
 rw [hw]
 by_cases h5:w=0
 ·rw [if_neg (fun h=>h h5)]
  rw [h5] at hw
  unfold zq
  repeat' (first|(apply nx;with_reducible constructor)|refine uq (by decide) ?_|((first|refine vx env fun Q hQ=>?_|refine vz fun Q hQ=>?_);simp only [vkt,seval,zL,zI,aTk,cTk,qp,mTk,qy,qd,qa,yl,xD,Wl,h1,h2,h3,hw,ec,decide_true,ite_and];(repeat' first|with_reducible assumption|apply kk|intro hp);all_goals (first|(refine hQ _ ?_;clear hQ Q)|(refine hQ _ (fun h=>?_) (fun h=>?_) <;> clear hQ Q <;> (try simp only [reduceCtorEq] at h))|(refine vq ?_;kernel_rfl)|omega|assumption|with_reducible rfl|skip)))
  refine qC (fun k:{ k:Nat // k≤l.length∧∀ j,j < k→jR t (l.getD j default)=false }=>rsA c t l [(8,aI k.1)]) (fun k=>l.length - k.1) ⟨0,Nat.zero_le _,fun j h=>absurd h (Nat.not_lt_zero _)⟩ ?_ fun ⟨k,hk,hno⟩=>?_
  ·simp only [rsA,List.cons_append,List.nil_append]
   (refine Le.ok some [] ?_;constructor;all_goals (try simp only [vle,vkt,seval,zI,cTk,qp,qa]))
   all_goals first|rfl|simp
  simp only at hk hno ⊢
  simp only [rsA,List.cons_append,List.nil_append]
  by_cases hkl:k < l.length
  ·have d1:decide ((k:Int) < (l.length:Int))=true:=decide_eq_true (by omega)
   have e9:=k9 k (by omega)
   have k0:((k:Int)).toNat=k:=rfl
   obtain ⟨x,hx⟩:∃ x,l.getD k default=x:=⟨_,rfl⟩
   have ex:(⟨x.party,x.sex,x.cab,x.bed,x.frm,x.to,x.dog⟩:Tk)=x:=rfl
   have hT:jR t x=(decide (x.cab=t.cab) && decide (x.bed=t.bed) && j6 x t):=rfl
   cases q1:(decide (x.cab=t.cab) && decide (x.bed=t.bed)) with
   |false =>
    rw [q1,Bool.false_and] at hT
    repeat' (first|(apply nx;with_reducible constructor)|refine uq (by decide) ?_|((first|refine vx env fun Q hQ=>?_|refine vz fun Q hQ=>?_);simp only [vkt,seval,zL,zI,cTk,qp,eTk,gTk,qa,d1,e9,k0,hkl,hx,q1,ite_and];(repeat' first|with_reducible assumption|apply kk|intro hp);all_goals (first|(refine hQ _ ?_;clear hQ Q)|(refine hQ _ (fun h=>?_) (fun h=>?_) <;> clear hQ Q <;> (try simp only [reduceCtorEq] at h))|(refine vq ?_;kernel_rfl)|omega|assumption|with_reducible rfl|skip)))
    refine ⟨⟨k+1,hkl,fun j hj=>?_⟩,by show l.length - (k+1) < l.length - k;omega, ?_⟩
    ·rcases Nat.lt_or_eq_of_le (Nat.le_of_lt_succ hj) with h|h
     ·exact hno j h
     ·rw [h,hx];exact hT
    simp only []
    (refine Le.ok some [] ?_;constructor;all_goals (try simp only [vle,vkt,seval,zI,cTk,qp,qa]))
    all_goals first|rfl|simp
   |true =>
    cases q2:j6 x t with
    |false =>
     rw [q1,q2,Bool.true_and] at hT
     repeat' (first|(apply nx;with_reducible constructor)|refine uq (by decide) ?_|((first|refine vx env fun Q hQ=>?_|refine vz fun Q hQ=>?_);simp only [vkt,seval,zL,zI,cTk,qp,eTk,gTk,qa,Wq,d1,e9,k0,hkl,hx,q1,q2,et,ex,ite_and];(repeat' first|with_reducible assumption|apply kk|intro hp);all_goals (first|(refine hQ _ ?_;clear hQ Q)|(refine hQ _ (fun h=>?_) (fun h=>?_) <;> clear hQ Q <;> (try simp only [reduceCtorEq] at h))|(refine vq ?_;kernel_rfl)|omega|assumption|with_reducible rfl|skip)))
     refine ⟨⟨k+1,hkl,fun j hj=>?_⟩,by show l.length - (k+1) < l.length - k;omega, ?_⟩
     ·rcases Nat.lt_or_eq_of_le (Nat.le_of_lt_succ hj) with h|h
      ·exact hno j h
      ·rw [h,hx];exact hT
     simp only []
     (refine Le.ok some [] ?_;constructor;all_goals (try simp only [vle,vkt,seval,zI,cTk,qp,qa]))
     all_goals first|rfl|simp
    |true =>
     rw [q1,q2,Bool.true_and] at hT
     rw [if_pos (QhC hkl (by rw [hx];exact hT))]
     repeat' (first|(apply nx;with_reducible constructor)|refine uq (by decide) ?_|((first|refine vx env fun Q hQ=>?_|refine vz fun Q hQ=>?_);simp only [vkt,seval,zL,zI,cTk,qp,eTk,gTk,qa,Wq,d1,k0,hkl,hx,q1,q2,et,ex,ite_and];(repeat' first|with_reducible assumption|apply kk|intro hp);all_goals (first|(refine hQ _ ?_;clear hQ Q)|(refine hQ _ (fun h=>?_) (fun h=>?_) <;> clear hQ Q <;> (try simp only [reduceCtorEq] at h))|(refine vq ?_;kernel_rfl)|omega|assumption|with_reducible rfl|skip)))
     (simp only [vrt,Tryz.results135,vkt,seval,zI];refine Fin.val rfl ?_;(try simp only [AV.le]))
     all_goals first|rfl|simp
  ·have d1:decide ((k:Int) < (l.length:Int))=false:=decide_eq_false (by omega)
   obtain rfl:k=l.length:=by omega
   rw [if_neg (by rw [QkE hno];decide)]
   repeat' (first|(apply nx;with_reducible constructor)|refine uq (by decide) ?_|((first|refine vx env fun Q hQ=>?_|refine vz fun Q hQ=>?_);simp only [vkt,seval,zL,zI,cTk,qp,qa,d1,ite_and];(repeat' first|with_reducible assumption|apply kk|intro hp);all_goals (first|(refine hQ _ ?_;clear hQ Q)|(refine hQ _ (fun h=>?_) (fun h=>?_) <;> clear hQ Q <;> (try simp only [reduceCtorEq] at h))|(refine vq ?_;kernel_rfl)|omega|assumption|with_reducible rfl|skip)))
   refine qC (fun k:{ k:Nat // k≤l.length∧∀ j,j < k→(!vT (l.getD j default) t)=false }=>rsA c t l [(9,aI k.1)]) (fun k=>l.length - k.1) ⟨0,Nat.zero_le _,fun j h=>absurd h (Nat.not_lt_zero _)⟩ ?_ fun ⟨k,hk,hno⟩=>?_
   ·simp only [rsA,List.cons_append,List.nil_append]
    (refine Le.ok some [] ?_;constructor;all_goals (try simp only [vle,vkt,seval,zI,cTk,qp,qa]))
    all_goals first|rfl|simp
   simp only at hk hno ⊢
   simp only [rsA,List.cons_append,List.nil_append]
   by_cases hkl:k < l.length
   ·have d1:decide ((k:Int) < (l.length:Int))=true:=decide_eq_true (by omega)
    have e9:=k9 k (by omega)
    have k0:((k:Int)).toNat=k:=rfl
    obtain ⟨x,hx⟩:∃ x,l.getD k default=x:=⟨_,rfl⟩
    have ex:(⟨x.party,x.sex,x.cab,x.bed,x.frm,x.to,x.dog⟩:Tk)=x:=rfl
    cases q2:vT x t with
    |true =>
     repeat' (first|(apply nx;with_reducible constructor)|refine uq (by decide) ?_|((first|refine vx env fun Q hQ=>?_|refine vz fun Q hQ=>?_);simp only [vkt,seval,zL,zI,cTk,qp,eTk,gTk,qa,QaC,d1,e9,k0,hkl,hx,q2,et,ex,ite_and];(repeat' first|with_reducible assumption|apply kk|intro hp);all_goals (first|(refine hQ _ ?_;clear hQ Q)|(refine hQ _ (fun h=>?_) (fun h=>?_) <;> clear hQ Q <;> (try simp only [reduceCtorEq] at h))|(refine vq ?_;kernel_rfl)|omega|assumption|with_reducible rfl|skip)))
     refine ⟨⟨k+1,hkl,fun j hj=>?_⟩,by show l.length - (k+1) < l.length - k;omega, ?_⟩
     ·rcases Nat.lt_or_eq_of_le (Nat.le_of_lt_succ hj) with h|h
      ·exact hno j h
      ·rw [h,hx,q2];rfl
     simp only []
     (refine Le.ok some [] ?_;constructor;all_goals (try simp only [vle,vkt,seval,zI,cTk,qp,qa]))
     all_goals first|rfl|simp
    |false =>
     rw [if_pos (QhC (p:=fun x=>!vT x t) hkl (by rw [hx,q2];rfl))]
     repeat' (first|(apply nx;with_reducible constructor)|refine uq (by decide) ?_|((first|refine vx env fun Q hQ=>?_|refine vz fun Q hQ=>?_);simp only [vkt,seval,zL,zI,cTk,qp,eTk,gTk,qa,QaC,d1,k0,hkl,hx,q2,et,ex,ite_and];(repeat' first|with_reducible assumption|apply kk|intro hp);all_goals (first|(refine hQ _ ?_;clear hQ Q)|(refine hQ _ (fun h=>?_) (fun h=>?_) <;> clear hQ Q <;> (try simp only [reduceCtorEq] at h))|(refine vq ?_;kernel_rfl)|omega|assumption|with_reducible rfl|skip)))
     (simp only [vrt,Tryz.results135,vkt,seval,zI];refine Fin.val rfl ?_;(try simp only [AV.le]))
     all_goals first|rfl|simp
   ·have d1:decide ((k:Int) < (l.length:Int))=false:=decide_eq_false (by omega)
    obtain rfl:k=l.length:=by omega
    rw [if_neg (by rw [QkE (p:=fun x=>!vT x t) hno];decide)]
    repeat' (first|(apply nx;with_reducible constructor)|refine uq (by decide) ?_|((first|refine vx env fun Q hQ=>?_|refine vz fun Q hQ=>?_);simp only [vkt,seval,zL,zI,cTk,qp,qa,d1,ite_and];(repeat' first|with_reducible assumption|apply kk|intro hp);all_goals (first|(refine hQ _ ?_;clear hQ Q)|(refine hQ _ (fun h=>?_) (fun h=>?_) <;> clear hQ Q <;> (try simp only [reduceCtorEq] at h))|(refine vq ?_;kernel_rfl)|omega|assumption|with_reducible rfl|skip)))
    (simp only [vrt,Tryz.results135,vkt,seval,zI];refine Fin.val rfl ?_;(try simp only [AV.le]))
    all_goals first|rfl|simp
 ·rw [if_pos h5]
  have d5:decide (w=0)=false:=decide_eq_false h5
  repeat' (first|(apply nx;with_reducible constructor)|refine uq (by decide) ?_|((first|refine vx env fun Q hQ=>?_|refine vz fun Q hQ=>?_);simp only [vkt,seval,zL,zI,aTk,cTk,qp,mTk,qy,qd,qa,yl,xD,Wl,h1,h2,h3,hw,d5,ec,ite_and];(repeat' first|with_reducible assumption|apply kk|intro hp);all_goals (first|(refine hQ _ ?_;clear hQ Q)|(refine hQ _ (fun h=>?_) (fun h=>?_) <;> clear hQ Q <;> (try simp only [reduceCtorEq] at h))|(refine vq ?_;kernel_rfl)|omega|assumption|with_reducible rfl|skip)))
  (simp only [vrt,Tryz.results135,vkt,seval,zI];refine Fin.val rfl ?_;(try simp only [AV.le]))
  all_goals first|rfl|simp
def Xl:List AV→Prop × AV
 |[.agg [.sl c0,.v (.int .i64 c1),.sl c2],.agg [.v (.int .i64 t0),.v (.int .i64 t1),.v (.int .i64 t2),.v (.int .i64 t3),.v (.int .i64 t4),.v (.int .i64 t5),.v (.bool t6)],.sl l]=>(c0=(c0.map qj).map qz∧c2=(c2.map dTk).map eTk∧l=(l.map dTk).map eTk∧CarOk ((⟨(c0.map qj),c1,(c2.map dTk)⟩:Chart))∧(l.map dTk).length≤100,aI (zf ((⟨(c0.map qj),c1,(c2.map dTk)⟩:Chart)) (⟨t0,t1,t2,t3,t4,t5,t6⟩:Tk) (l.map dTk)))
 |_=>(False,.junk)
theorem Qmq {A:Frm→Prop}:qm A Tryz.prog 135 (qG true Xl):=qH fun vs hv h=>by
 clear hv
 unfold Xl at h ⊢
 split at h
 ·rename_i c0 c1 c2 t0 t1 t2 t3 t4 t5 t6 l;obtain ⟨q0,q1,q2,k0,k1⟩:=h
  refine ⟨by first|trivial|(repeat' split) <;> simp [AV.plain,AV.plainL,aI,aB,ql,qb,qp,qx,aTk,cTk],fun _=>(by simp [AV.flat,aI]), ?_⟩
  have:=Qgn ((⟨(c0.map qj),c1,(c2.map dTk)⟩:Chart)) (⟨t0,t1,t2,t3,t4,t5,t6⟩:Tk) (l.map dTk) k0 k1
  simp only [qd,aI,aTk,qp,qa,cTk,← q0,← q1,← q2] at this
  first|exact this|(simp only [aB,zB,qd,aI,aTk,qp,qa,cTk,← q0,← q1,← q2];exact this)
 ·exact h.elim
def rkS (c:Chart) (l:List Tk) (k:Nat):St:={ t:=asg [(1,qp l),(2,.ptr 0 0),(4,aI 0),(5,aI k)],h:=qc [(0,.cells (qa c))],n:=1 }
def WF:=vj @ty3 (vj @yP (vj @wh (vj @x8 (vj @wP (vj @ti3.eq_1 (vj @yh.eq_1 (vj @zQ.eq_1 (vj @vV.eq_1 @wI.eq_1))))))))
def QP:=vj @aI.eq_1 (@aB.eq_1)
theorem Qkf (c:Chart) (l:List Tk) (hc:CarOk c) (hl:l.length≤100):FnV Tryz.prog 112 [qd c,qp l] (aI (zW c l)):=by
 have env:Env (fun _=>True) Tryz.prog tyB (tab [(135,qG true Xl)]):=qA ⟨Qmq,trivial⟩
 refine Fn.of (A:=fun _=>True) (n0:=0) (D:=noD) (Fn0 Tryz.func112 rfl (fun vs w=>by kernel_rfl) (by kernel_rfl)) (by simp) (by simp [AV.ids,AV.idsL,qd,qa,qp]) (fun i o h=>by cases h) (fun _ _ _ _=>trivial) qw ?_
 have ec:(⟨c.cabins,c.secs,c.sold⟩:Chart)=c:=rfl
 repeat' (first|(apply nx;with_reducible constructor)|refine uq (by decide) ?_|((first|refine vx env fun Q hQ=>?_|refine vz fun Q hQ=>?_);simp only [vkt,seval,qp,qd,qa,ite_and];(repeat' first|with_reducible assumption|apply kk|intro hp);all_goals (first|(refine hQ _ ?_;clear hQ Q)|(refine hQ _ (fun h=>?_) (fun h=>?_) <;> clear hQ Q <;> (try simp only [vki,reduceCtorEq] at h))|(refine vq ?_;kernel_rfl)|omega|assumption|with_reducible rfl|skip)))
 refine qC (fun k:{ k:Nat // k≤l.length∧∀ j,j < k→zf c (l.getD j default) (l.take j)=0 }=>rkS c l k.1) (fun k=>l.length - k.1) ⟨0,Nat.zero_le _,fun j h=>absurd h (Nat.not_lt_zero _)⟩ ?_ fun ⟨k,hk,hno⟩=>?_
 ·(refine Le.ok some [] ?_;constructor;all_goals (try simp only [vle,vkt,seval,QP,qp,qa]))
  all_goals first|rfl|simp
 simp only at hk hno ⊢
 simp only [rkS]
 by_cases hlt:k < l.length
 ·have d1:decide ((k:Int) < (l.length:Int))=true:=decide_eq_true (by omega)
  have e9:=k9 k (by omega)
  have k0:((k:Int)).toNat=k:=rfl
  obtain ⟨x,hx⟩:∃ x,l.getD k default=x:=⟨_,rfl⟩
  have ex:(⟨x.party,x.sex,x.cab,x.bed,x.frm,x.to,x.dog⟩:Tk)=x:=rfl
  have tk:List.take k (l.map eTk)=(l.take k).map eTk:=List.map_take.symm
  have t100:(l.take k).length≤100:=by rw [List.length_take];omega
  have hkl:k≤l.length:=hk
  have hg:=Qel (f:=fun i=>zf c (l.getD i default) (l.take i)) hlt
  obtain ⟨e,he⟩:∃ e,zf c x (l.take k)=e:=⟨_,rfl⟩
  by_cases h2:e=0
  ·rw [h2] at he
   repeat' (first|(apply nx;with_reducible constructor)|refine uq (by decide) ?_|((first|refine vx env fun Q hQ=>?_|refine vz fun Q hQ=>?_);simp only [vkt,seval,WF,QP,qp,eTk,gTk,rTk,mTk,qy,qa,Xl,d1,k0,hlt,hx,ex,ec,tk,he,e9,decide_true,ite_and];(repeat' first|with_reducible assumption|apply kk|intro hp);all_goals (first|(refine hQ _ ?_;clear hQ Q)|(refine hQ _ (fun h=>?_) (fun h=>?_) <;> clear hQ Q <;> (try simp only [reduceCtorEq] at h))|(refine vq ?_;kernel_rfl)|omega|assumption|with_reducible rfl|skip)))
   refine ⟨⟨k+1,hlt,fun j hj=>?_⟩,by show l.length - (k+1) < l.length - k;omega, ?_⟩
   ·rcases Nat.lt_or_eq_of_le (Nat.le_of_lt_succ hj) with h3|h3
    ·exact hno j h3
    ·rw [h3,hx];exact he
   ·(refine Le.ok some [] ?_;constructor;all_goals (try simp only [vle,vkt,seval,QP,qp,qa]))
    all_goals first|rfl|simp
  ·have hf:zW c l=e:=by
    unfold zW
    rw [wU (k:=k) (fun j hj=>by rw [Qel (by omega)];exact hno j hj) (by simpa using hlt) (by rw [hg,hx,he];exact h2),hg,hx,he]
   rw [hf]
   have d2:decide (e=0)=false:=decide_eq_false h2
   repeat' (first|(apply nx;with_reducible constructor)|refine uq (by decide) ?_|((first|refine vx env fun Q hQ=>?_|refine vz fun Q hQ=>?_);simp only [vkt,seval,WF,QP,qp,eTk,gTk,rTk,mTk,qy,qa,Xl,d1,k0,hlt,hx,ex,ec,tk,he,d2,ite_and];(repeat' first|with_reducible assumption|apply kk|intro hp);all_goals (first|(refine hQ _ ?_;clear hQ Q)|(refine hQ _ (fun h=>?_) (fun h=>?_) <;> clear hQ Q <;> (try simp only [reduceCtorEq] at h))|(refine vq ?_;kernel_rfl)|omega|assumption|with_reducible rfl|skip)))
   (simp only [vrt,Tryz.results112,vkt,seval,QP];refine Fin.val rfl ?_;(try simp only [AV.le]))
   all_goals first|rfl|simp
 ·have d1:decide ((k:Int) < (l.length:Int))=false:=decide_eq_false (by omega)
  have hke:k=l.length:=by omega
  subst hke
  rw [show zW c l=0 from wD fun j hj=>by
   have hj':j < l.length:=by simpa using hj
   rw [Qel hj'];exact hno j hj']
  repeat' (first|(apply nx;with_reducible constructor)|refine uq (by decide) ?_|((first|refine vx env fun Q hQ=>?_|refine vz fun Q hQ=>?_);simp only [vkt,seval,WF,QP,qp,qa,d1,ite_and];(repeat' first|with_reducible assumption|apply kk|intro hp);all_goals (first|(refine hQ _ ?_;clear hQ Q)|(refine hQ _ (fun h=>?_) (fun h=>?_) <;> clear hQ Q <;> (try simp only [reduceCtorEq] at h))|(refine vq ?_;kernel_rfl)|omega|assumption|with_reducible rfl|skip)))
  (simp only [vrt,Tryz.results112,vkt,seval,QP];refine Fin.val rfl ?_;(try simp only [AV.le]))
  all_goals first|rfl|simp
def Vp:List AV→Prop × AV
 |[.agg [.sl c0,.v (.int .i64 c1),.sl c2],.sl l]=>(c0=(c0.map qj).map qz∧c2=(c2.map dTk).map eTk∧l=(l.map dTk).map eTk∧CarOk ((⟨(c0.map qj),c1,(c2.map dTk)⟩:Chart))∧(l.map dTk).length≤100,aI (zW ((⟨(c0.map qj),c1,(c2.map dTk)⟩:Chart)) (l.map dTk)))
 |_=>(False,.junk)
theorem Qlb {A:Frm→Prop}:qm A Tryz.prog 112 (qG true Vp):=qH fun vs hv h=>by
 clear hv
 unfold Vp at h ⊢
 split at h
 ·rename_i c0 c1 c2 l;obtain ⟨q0,q1,q2,k0,k1⟩:=h
  refine ⟨by first|trivial|(repeat' split) <;> simp [AV.plain,AV.plainL,aI,aB,ql,qb,qp,qx,aTk,cTk],fun _=>(by simp [AV.flat,aI]), ?_⟩
  have:=Qkf ((⟨(c0.map qj),c1,(c2.map dTk)⟩:Chart)) (l.map dTk) k0 k1
  simp only [qd,aI,qp,qa,← q0,← q1,← q2] at this
  first|exact this|(simp only [zB,qd,aI,qp,qa,← q0,← q1,← q2];exact this)
 ·exact h.elim
def zG (c:Chart) (a:Ask) (l:List Bunk):Bool:=decide (l.length=a.sexes.length) && l.all (fun b=>zZ c.cabins b.cab b.bed) && decide (zW c (c.sold++jM a l l.length)=0) && kD c.cabins l
theorem QbJ {c:Chart} {a:Ask} {l:List Bunk} {k:Nat} (hk:k < l.length) (h:zZ c.cabins (l.getD k default).cab (l.getD k default).bed=false):zG c a l=false:=by
 have:l.all (fun b=>zZ c.cabins b.cab b.bed)=false:=by
  rw [List.all_eq_false]
  exact ⟨_,wC hk,by rw [h];decide⟩
 unfold zG
 rw [this];simp
def ipS (c:Chart) (a:Ask) (l:List Bunk) (k:Nat):St:={ t:=asg [(2,qb l),(3,.ptr 0 0),(4,.ptr 1 0),(6,aB false),(7,aI k)],h:=qc [(0,.cells (qa c)),(1,.cells (qg a))],n:=2 }
def jr:=vj @ty3 (vj @yP (vj @wh (vj @yf (vj @jL (vj @x8 (vj @Q0 (vj @yu (vj @wP (vj @ti3.eq_1 (vj @yh.eq_1 (vj @zQ.eq_1 (vj @jK.eq_1 (vj @wY.eq_1 (vj @vV.eq_1 (vj @kU.eq_1 (vj @jQ.eq_1 @wI.eq_1))))))))))))))))
def vJ:=vj @aI.eq_1 (vj @aB.eq_1 (@jJ))
theorem Qbl (c:Chart) (a:Ask) (l:List Bunk) (hc:CarOk c) (hs:c.sold.length≤20) (ha:0 < a.sexes.length∧a.sexes.length≤20) (hl:l.length≤maxLen):FnV Tryz.prog 106 [qd c,qI a,qb l] (aB (zG c a l)):=by
 have env:Env (fun _=>True) Tryz.prog tyB (tab [(133,qG true xD),(61,qG false Yg),(112,qG true Vp),(134,qG true Ux)]):=qA ⟨Qc7,QkO,Qlb,QlX,trivial⟩
 refine Fn.of (A:=fun _=>True) (n0:=0) (D:=noD) (Fn0 Tryz.func106 rfl (fun vs w=>by kernel_rfl) (by kernel_rfl)) (by simp) (by simp [AV.ids,AV.idsL,qd,qa,qI,qg,qb]) (fun i o h=>by cases h) (fun _ _ _ _=>trivial) qw ?_
 have ec:(⟨c.cabins,c.secs,c.sold⟩:Chart)=c:=rfl
 have ea:(⟨a.party,a.frm,a.to,a.sexes,a.dog⟩:Ask)=a:=rfl
 have hmx:(100000:Nat)≤maxLen:=by decide
 by_cases hn:l.length=a.sexes.length
 ·have d0:decide ((l.length:Int)=(a.sexes.length:Int))=true:=decide_eq_true (by omega)
  repeat' (first|(apply nx;with_reducible constructor)|refine uq (by decide) ?_|((first|refine vx env fun Q hQ=>?_|refine vz fun Q hQ=>?_);simp only [vkt,seval,jr,qb,qd,qa,qI,qg,d0,ite_and];(repeat' first|with_reducible assumption|apply kk|intro hp);all_goals (first|(refine hQ _ ?_;clear hQ Q)|(refine hQ _ (fun h=>?_) (fun h=>?_) <;> clear hQ Q <;> (try simp only [reduceCtorEq] at h))|(refine vq ?_;kernel_rfl)|omega|assumption|with_reducible rfl|skip)))
  refine qC (fun k:{ k:Nat // k≤l.length∧∀ j,j < k→zZ c.cabins (l.getD j default).cab (l.getD j default).bed=true }=>ipS c a l k.1) (fun k=>l.length - k.1) ⟨0,Nat.zero_le _,fun j h=>absurd h (Nat.not_lt_zero _)⟩ ?_ fun ⟨k,hk,hno⟩=>?_
  ·(refine Le.ok some [] ?_;constructor;all_goals (try simp only [vle,vkt,seval,vJ,qb,qa,qg]))
   all_goals first|rfl|simp
  simp only at hk hno ⊢
  simp only [ipS]
  by_cases hlt:k < l.length
  ·have d1:decide ((k:Int) < (l.length:Int))=true:=decide_eq_true (by omega)
   have e9:=k9 k (by omega)
   have k0:((k:Int)).toNat=k:=rfl
   have hP:=QbJ (c:=c) (a:=a) hlt
   have hnk:=hno
   obtain ⟨x,hx⟩:∃ x,l.getD k default=x:=⟨_,rfl⟩
   rw [hx] at hP
   cases q:zZ c.cabins x.cab x.bed with
   |true =>
    repeat' (first|(apply nx;with_reducible constructor)|refine uq (by decide) ?_|((first|refine vx env fun Q hQ=>?_|refine vz fun Q hQ=>?_);simp only [vkt,seval,jr,vJ,qb,qO,yt,mTk,qy,qa,qg,xD,d1,k0,hlt,hx,ec,q,e9,ite_and];(repeat' first|with_reducible assumption|apply kk|intro hp);all_goals (first|(refine hQ _ ?_;clear hQ Q)|(refine hQ _ (fun h=>?_) (fun h=>?_) <;> clear hQ Q <;> (try simp only [reduceCtorEq] at h))|(refine vq ?_;kernel_rfl)|omega|assumption|with_reducible rfl|skip)))
    refine ⟨⟨k+1,hlt,fun j hj=>?_⟩,by show l.length - (k+1) < l.length - k;omega, ?_⟩
    ·rcases Nat.lt_or_eq_of_le (Nat.le_of_lt_succ hj) with h3|h3
     ·exact hno j h3
     ·rw [h3,hx];exact q
    ·(refine Le.ok some [] ?_;constructor;all_goals (try simp only [vle,vkt,seval,vJ,qb,qa,qg]))
     all_goals first|rfl|simp
   |false =>
    rw [hP q]
    repeat' (first|(apply nx;with_reducible constructor)|refine uq (by decide) ?_|((first|refine vx env fun Q hQ=>?_|refine vz fun Q hQ=>?_);simp only [vkt,seval,jr,vJ,qb,qO,yt,mTk,qy,qa,qg,xD,d1,k0,hlt,hx,ec,q,ite_and];(repeat' first|with_reducible assumption|apply kk|intro hp);all_goals (first|(refine hQ _ ?_;clear hQ Q)|(refine hQ _ (fun h=>?_) (fun h=>?_) <;> clear hQ Q <;> (try simp only [reduceCtorEq] at h))|(refine vq ?_;kernel_rfl)|omega|assumption|with_reducible rfl|skip)))
    (simp only [vrt,Tryz.results106,vkt,seval,vJ];refine Fin.val rfl ?_;(try simp only [AV.le]))
    all_goals first|rfl|simp
  ·have d1:decide ((k:Int) < (l.length:Int))=false:=decide_eq_false (by omega)
   obtain rfl:k=l.length:=by omega
   have hall:l.all (fun b=>zZ c.cabins b.cab b.bed)=true:=by
    rw [List.all_eq_true]
    intro b hb
    obtain ⟨j,hj,rfl⟩:=List.mem_iff_getElem.1 hb
    have:=hno j hj
    rw [show l.getD j default=l[j] by simp [List.getD_eq_getElem?_getD,hj]] at this
    exact this
   have hcl:=hc.cabs
   have hnear:NearOk c.cabins l:=⟨by omega,by omega,by omega,fun b hb=>by
    have:=List.all_eq_true.1 hall b hb
    have:=Kz this
    exact ⟨this.1,this.2.1⟩⟩
   have b1:l.length≤100:=by omega
   have b2:a.sexes.length=l.length:=hn.symm
   have hTl:=YL a l l.length
   obtain ⟨T,hT⟩:∃ T,jM a l l.length=T:=⟨_,rfl⟩
   rw [hT] at hTl
   have b3:c.sold.length≤maxLen:=by omega
   have b4:c.sold.length+T.length≤maxLen:=by omega
   have b5:(c.sold++T).length≤100:=by rw [List.length_append];omega
   have hE:zG c a l=(decide (zW c (c.sold++T)=0) && kD c.cabins l):=by
    unfold zG
    rw [hall,decide_eq_true hn,hT];rfl
   rw [hE]
   have ma:List.map eTk c.sold++List.map eTk T=List.map eTk (c.sold++T):=by rw [List.map_append]
   cases q:decide (zW c (c.sold++T)=0) with
   |true =>
    repeat' (first|(apply nx;with_reducible constructor)|refine uq (by decide) ?_|((first|refine vx env fun Q hQ=>?_|refine vz fun Q hQ=>?_);simp only [vkt,seval,jr,vJ,qb,yX,qp,rTk,mTk,qy,qa,qg,Yg,Vp,Ux,d1,ec,ea,b1,b2,hT,b3,b4,b5,ma,q,hnear,ite_and];(repeat' first|with_reducible assumption|apply kk|intro hp);all_goals (first|(refine hQ _ ?_;clear hQ Q)|(refine hQ _ (fun h=>?_) (fun h=>?_) <;> clear hQ Q <;> (try simp only [reduceCtorEq] at h))|(refine vq ?_;kernel_rfl)|omega|assumption|with_reducible rfl|skip)))
    (simp only [vrt,Tryz.results106,vkt,seval,vJ];refine Fin.val rfl ?_;(try simp only [AV.le]))
    all_goals first|rfl|simp
   |false =>
    repeat' (first|(apply nx;with_reducible constructor)|refine uq (by decide) ?_|((first|refine vx env fun Q hQ=>?_|refine vz fun Q hQ=>?_);simp only [vkt,seval,jr,vJ,qb,yX,qp,rTk,mTk,qy,qa,qg,Yg,Vp,d1,ec,ea,b1,b2,hT,b3,b4,b5,ma,q,ite_and];(repeat' first|with_reducible assumption|apply kk|intro hp);all_goals (first|(refine hQ _ ?_;clear hQ Q)|(refine hQ _ (fun h=>?_) (fun h=>?_) <;> clear hQ Q <;> (try simp only [reduceCtorEq] at h))|(refine vq ?_;kernel_rfl)|omega|assumption|with_reducible rfl|skip)))
    (simp only [vrt,Tryz.results106,vkt,seval,vJ];refine Fin.val rfl ?_;(try simp only [AV.le]))
    all_goals first|rfl|simp
 ·have d0:decide ((l.length:Int)=(a.sexes.length:Int))=false:=decide_eq_false (by omega)
  have hE:zG c a l=false:=by unfold zG;rw [decide_eq_false hn];rfl
  rw [hE]
  repeat' (first|(apply nx;with_reducible constructor)|refine uq (by decide) ?_|((first|refine vx env fun Q hQ=>?_|refine vz fun Q hQ=>?_);simp only [vkt,seval,jr,qb,qd,qa,qI,qg,d0,ite_and];(repeat' first|with_reducible assumption|apply kk|intro hp);all_goals (first|(refine hQ _ ?_;clear hQ Q)|(refine hQ _ (fun h=>?_) (fun h=>?_) <;> clear hQ Q <;> (try simp only [reduceCtorEq] at h))|(refine vq ?_;kernel_rfl)|omega|assumption|with_reducible rfl|skip)))
  (simp only [vrt,Tryz.results106,vkt,seval,vJ];refine Fin.val rfl ?_;(try simp only [AV.le]))
  all_goals first|rfl|simp
def Q3:List AV→Prop × AV
 |[.agg [.sl c0,.v (.int .i64 c1),.sl c2],.agg [.v (.int .i64 a0),.v (.int .i64 a1),.v (.int .i64 a2),.sl a3,.v (.bool a4)],.sl l]=>(c0=(c0.map qj).map qz∧c2=(c2.map dTk).map eTk∧a3=(a3.map qM).map qU∧l=(l.map zg).map qO∧CarOk ((⟨(c0.map qj),c1,(c2.map dTk)⟩:Chart))∧((⟨(c0.map qj),c1,(c2.map dTk)⟩:Chart)).sold.length≤20∧0 < ((⟨a0,a1,a2,(a3.map qM),a4⟩:Ask)).sexes.length∧((⟨a0,a1,a2,(a3.map qM),a4⟩:Ask)).sexes.length≤20∧(l.map zg).length≤maxLen,aB (zG ((⟨(c0.map qj),c1,(c2.map dTk)⟩:Chart)) ((⟨a0,a1,a2,(a3.map qM),a4⟩:Ask)) (l.map zg)))
 |_=>(False,.junk)
theorem QgS {A:Frm→Prop}:qm A Tryz.prog 106 (qG true Q3):=qH fun vs hv h=>by
 clear hv
 unfold Q3 at h ⊢
 split at h
 ·rename_i c0 c1 c2 a0 a1 a2 a3 a4 l;obtain ⟨q0,q1,q2,q3,k0,k1,k2,k3,k4⟩:=h
  refine ⟨by first|trivial|(repeat' split) <;> simp [AV.plain,AV.plainL,aI,aB,ql,qb,qp,qx,aTk,cTk],fun _=>(by simp [AV.flat,aB]), ?_⟩
  have:=Qbl ((⟨(c0.map qj),c1,(c2.map dTk)⟩:Chart)) ((⟨a0,a1,a2,(a3.map qM),a4⟩:Ask)) (l.map zg) k0 k1 ⟨k2,k3⟩ k4
  simp only [qI,aB,qb,qd,qg,qa,← q0,← q1,← q2,← q3] at this
  first|exact this|(simp only [qI,aB,qb,zB,qd,aI,ql,qp,qg,qa,← q0,← q1,← q2,← q3];exact this)
 ·exact h.elim
def stB (a b:Tk) (s:Int):Bool:=decide (a.cab=b.cab) && !decide (s < a.frm) && !decide (a.to≤s) && !decide (s < b.frm) && !decide (b.to≤s) && (decide (a.bed=b.bed) || (!decide (a.party=b.party) && (!decide (a.sex=b.sex) || a.dog || b.dog)))
def prB (c:Chart) (a b:Tk):Bool:=(List.range c.secs.toNat).any fun (s:Nat)=>stB a b s
def rwB (c:Chart) (i:Nat):Bool:=(List.range i).any fun k=>prB c (c.sold.getD i default) (c.sold.getD k default)
def strB (c:Chart):Bool:=(List.range c.sold.length).any (rwB c)
def xH (c:Chart) (a:Ask) (l:List Bunk):Bool:=kD c.cabins l && !strB ⟨c.cabins,c.secs,c.sold++jM a l l.length⟩
def WQ (cs:List Cabin) (a:Ask):List Tk→List Bunk→List Bunk→Bool
 |_,_,[]=>true
 |sold,begun,b :: r=>goB cs a sold begun b && WQ cs a (sold++[yV a begun.length b]) (begun++[b]) r
theorem UW (cs:List Cabin) (a:Ask):∀ (m:Nat) (sold:List Tk) (begun:List Bunk),(zz cs a m sold begun).map (·.1)=((alL (qK cs) m).filter (WQ cs a sold begun)).map (begun++·)
 |0,sold,begun=>by
  show [begun]=(([[]]:List (List Bunk)).filter (WQ cs a sold begun)).map (begun++·)
  rw [List.filter_cons_of_pos (by rfl)]
  simp
 |m+1,sold,begun=>by
  rw [yB,alL,List.map_flatMap,List.filter_flatMap,List.map_flatMap]
  refine congrArg (List.flatMap · (qK cs)) (funext fun b=>?_)
  unfold gbL
  cases h:goB cs a sold begun b with
  |true =>
   rw [if_pos rfl,UW cs a m,List.filter_map,List.map_map]
   have e1:(WQ cs a sold begun ∘ fun x=>b :: x)=WQ cs a (sold++[yV a begun.length b]) (begun++[b]):=funext fun r=>by
    show WQ cs a sold begun (b :: r)=_
    rw [WQ,h,Bool.true_and]
   rw [e1]
   refine congrArg (List.map · _) (funext fun r=>?_)
   show (begun++[b])++r=begun++b :: r
   simp
  |false =>
   rw [if_neg (by decide),List.filter_map]
   have e1:(WQ cs a sold begun ∘ fun x=>b :: x)=fun _=>false:=funext fun r=>by
    show WQ cs a sold begun (b :: r)=_
    rw [WQ,h,Bool.false_and]
   rw [e1]
   simp
def PWr:List Tk→List Tk→Prop
 |_,[]=>True
 |s,t :: ts=>zq t s=0∧PWr (s++[t]) ts
theorem Qdg:∀ (s l r:List Tk),PWr s (l++r) ↔ PWr s l∧PWr (s++l) r
 |s,[],r=>by simp [PWr]
 |s,t :: l,r=>by
  show zq t s=0∧PWr (s++[t]) (l++r) ↔ (zq t s=0∧PWr (s++[t]) l)∧PWr (s++t :: l) r
  rw [Qdg (s++[t]) l r,and_assoc]
  simp
theorem Jb:∀ (s l:List Tk),PWr s l ↔ ∀ i,i < l.length→zq (l.getD i default) (s++l.take i)=0
 |s,[]=>by simp [PWr]
 |s,t :: l=>by
  show zq t s=0∧PWr (s++[t]) l ↔ _
  rw [Jb (s++[t]) l]
  constructor
  ·rintro ⟨h1,h2⟩ i hi
   cases i with
   |zero=>simpa using h1
   |succ i =>
    have:=h2 i (by simpa using hi)
    simpa using this
  ·intro h
   refine ⟨by simpa using h 0 (by simp),fun i hi=>?_⟩
   have:=h (i+1) (by simpa using hi)
   simpa using this
def tkR (a:Ask):Nat→List Bunk→List Tk
 |_,[]=>[]
 |n,b :: r=>yV a n b :: tkR a (n+1) r
theorem QcB (a:Ask):∀ (n:Nat) (l r:List Bunk),tkR a n (l++r)=tkR a n l++tkR a (n+l.length) r
 |n,[],r=>by simp [tkR]
 |n,b :: l,r=>by
  show yV a n b :: tkR a (n+1) (l++r)=_
  rw [QcB a (n+1) l r]
  simp [tkR,Nat.add_assoc,Nat.add_comm 1]
theorem Rt (a:Ask) (l:List Bunk):∀ k,k≤l.length→jM a l k=tkR a 0 (l.take k)
 |0,_=>by simp [jM,tkR]
 |k+1,h=>by
  rw [Qaf,Rt a l k (by omega),List.take_succ_eq_append_getElem h,QcB,List.length_take]
  have hk:k < l.length:=h
  simp [tkR,List.getD_eq_getElem?_getD,hk,Nat.min_eq_left (show k≤l.length by omega)]
theorem QcQ {a:Ask} {t:Tk}:∀ {n:Nat} {l:List Bunk},t ∈ tkR a n l→∃ i b,i < l.length∧b ∈ l∧t=yV a (n+i) b
 |n,[],h=>by simp [tkR] at h
 |n,b :: l,h=>by
  rcases List.mem_cons.1 h with rfl|h
  ·exact ⟨0,b,by simp,by simp,rfl⟩
  ·obtain ⟨i,b',h1,h2,h3⟩:=QcQ h
   exact ⟨i+1,b',by simpa using h1,List.mem_cons_of_mem _ h2,by rw [h3,show n+1+i=n+(i+1) by omega]⟩
theorem Qdx (l:List Bunk):∀ m:Int,l.foldl (fun m b=>min m b.cab) m≤m:=by
 induction l with
 |nil=>intro m;exact Int.le_refl _
 |cons b l ih=>intro m;have:=ih (min m b.cab);rw [List.foldl_cons];omega
theorem Qc8 (l:List Bunk):∀ m:Int,m≤l.foldl (fun m b=>max m b.cab) m:=by
 induction l with
 |nil=>intro m;exact Int.le_refl _
 |cons b l ih=>intro m;have:=ih (max m b.cab);rw [List.foldl_cons];omega
theorem Qg2 {cs:List Cabin} {l r:List Bunk} (h:kD cs (l++r)=true) (hl:l ≠ []):kD cs l=true:=by
 have h0:(l++r).getD 0 default=l.getD 0 default:=by
  cases l with
  |nil=>exact absurd rfl hl
  |cons b l=>rfl
 unfold kD at h ⊢
 simp only [h0,List.foldl_append] at h ⊢
 have g1:=Qdx r (l.foldl (fun m b=>min m b.cab) (l.getD 0 default).cab)
 have g2:=Qc8 r (l.foldl (fun m b=>max m b.cab) (l.getD 0 default).cab)
 have g3:=Qdx l (l.getD 0 default).cab
 have g4:=Qc8 l (l.getD 0 default).cab
 generalize l.foldl (fun m b=>min m b.cab) (l.getD 0 default).cab=lo at *
 generalize l.foldl (fun m b=>max m b.cab) (l.getD 0 default).cab=hi at *
 generalize r.foldl (fun m b=>min m b.cab) lo=lo2 at *
 generalize r.foldl (fun m b=>max m b.cab) hi=hi2 at *
 rw [Bool.or_eq_true,Bool.and_eq_true,decide_eq_true_eq,decide_eq_true_eq] at h ⊢
 rcases h with h|⟨h,hd⟩
 ·exact .inl (by omega)
 ·by_cases he:lo=hi
  ·exact .inl he
  ·have:lo=lo2:=by omega
   exact .inr ⟨by omega,by rw [this];exact hd⟩
theorem QcT {cs:List Cabin} {a:Ask} (hw:a.frm < a.to):∀ (r:List Bunk) (sold:List Tk) (begun:List Bunk),(∀ b ∈ begun,∃ x ∈ sold,x.cab=b.cab∧x.bed=b.bed∧x.frm=a.frm∧x.to=a.to) →
  (WQ cs a sold begun r=true ↔ PWr sold (tkR a begun.length r)∧(r ≠ []→kD cs (begun++r)=true))
 |[],sold,begun,_=>by simp [WQ,tkR,PWr]
 |b :: r,sold,begun,hb=>by
  have hb':∀ b' ∈ begun++[b],∃ x ∈ sold++[yV a begun.length b],x.cab=b'.cab∧x.bed=b'.bed∧x.frm=a.frm∧x.to=a.to:=fun b' h=>by
   rcases List.mem_append.1 h with h|h
   ·obtain ⟨x,h1,h2⟩:=hb b' h
    exact ⟨x,List.mem_append.2 (.inl h1),h2⟩
   ·rw [List.mem_singleton.1 h]
    exact ⟨_,List.mem_append.2 (.inr (List.mem_singleton.2 rfl)),rfl,rfl,rfl,rfl⟩
  have ih:=QcT (cs:=cs) hw r (sold++[yV a begun.length b]) (begun++[b]) hb'
  rw [WQ,Bool.and_eq_true,ih]
  have el:(begun++[b]).length=begun.length+1:=by simp
  rw [el]
  show _ ↔ (zq (yV a begun.length b) sold=0∧PWr (sold++[yV a begun.length b]) (tkR a (begun.length+1) r))∧_
  have ea:begun++[b]++r=begun++b :: r:=by simp
  rw [ea]
  unfold goB
  rw [Bool.and_eq_true,Bool.and_eq_true,decide_eq_true_eq]
  constructor
  ·rintro ⟨⟨⟨_,h2⟩,h3⟩,h4,h5⟩
   refine ⟨⟨h3,h4⟩,fun _=>?_⟩
   cases r with
   |nil=>exact h2
   |cons b2 r=>exact h5 (by simp)
  ·rintro ⟨⟨h3,h4⟩,h5⟩
   have h5:=h5 (by simp)
   refine ⟨⟨⟨?_, ?_⟩,h3⟩,h4,fun _=>h5⟩
   ·cases hc:begun.contains b with
    |false=>rfl
    |true =>
     obtain ⟨x,hx,g1,g2,g3,g4⟩:=hb b (by simpa using hc)
     have:=(Zi.1 h3 x hx).1
     unfold jR j6 yV at this
     simp [g1,g2,g3,g4,hw] at this
   ·refine Qg2 (r:=r) ?_ (by simp)
    rw [ea];exact h5
theorem QkH {secs:Int} {t x:Tk} (ht:0≤t.frm∧t.frm < t.to∧t.to≤secs) (hx:0≤x.frm∧x.frm < x.to∧x.to≤secs):(∀ s:Nat,s < secs.toNat→stB t x s=false) ↔ jR t x=false∧vT x t=true:=by
 constructor
 ·intro h
  cases hm:j6 x t with
  |false =>
   unfold jR vT
   rw [hm];simp
  |true =>
   have hm2:=hm
   unfold j6 at hm2
   rw [Bool.and_eq_true,decide_eq_true_eq,decide_eq_true_eq] at hm2
   obtain ⟨s,hs⟩:∃ s:Nat,(s:Int)=max t.frm x.frm:=⟨(max t.frm x.frm).toNat,by omega⟩
   have:=h s (by omega)
   unfold stB at this
   rw [decide_eq_false (show ¬ (s:Int) < t.frm by omega),decide_eq_false (show ¬ t.to≤(s:Int) by omega),decide_eq_false (show ¬ (s:Int) < x.frm by omega),decide_eq_false (show ¬ x.to≤(s:Int) by omega)] at this
   have e1:decide (x.cab=t.cab)=decide (t.cab=x.cab):=by rw [decide_eq_decide];exact eq_comm
   have e2:decide (x.bed=t.bed)=decide (t.bed=x.bed):=by rw [decide_eq_decide];exact eq_comm
   have e3:decide (x.party=t.party)=decide (t.party=x.party):=by rw [decide_eq_decide];exact eq_comm
   have e4:decide (x.sex=t.sex)=decide (t.sex=x.sex):=by rw [decide_eq_decide];exact eq_comm
   have e5:decide (x.cab ≠ t.cab)=!decide (t.cab=x.cab):=by rw [decide_not,e1]
   unfold jR vT
   rw [hm,e5,e1,e2,e3,e4]
   revert this
   generalize decide (t.cab=x.cab)=A
   generalize decide (t.bed=x.bed)=B
   generalize decide (t.party=x.party)=C
   generalize decide (t.sex=x.sex)=D
   generalize x.dog=E
   generalize t.dog=F
   revert A B C D E F
   decide
 ·rintro ⟨h1,h2⟩ s _
  have e1:decide (x.cab=t.cab)=decide (t.cab=x.cab):=by rw [decide_eq_decide];exact eq_comm
  have e2:decide (x.bed=t.bed)=decide (t.bed=x.bed):=by rw [decide_eq_decide];exact eq_comm
  have e3:decide (x.party=t.party)=decide (t.party=x.party):=by rw [decide_eq_decide];exact eq_comm
  have e4:decide (x.sex=t.sex)=decide (t.sex=x.sex):=by rw [decide_eq_decide];exact eq_comm
  have e5:decide (x.cab ≠ t.cab)=!decide (t.cab=x.cab):=by rw [decide_not,e1]
  cases hm:j6 x t with
  |false =>
   unfold stB
   by_cases g1:(s:Int) < t.frm
   ·simp [g1]
   by_cases g2:t.to≤(s:Int)
   ·simp [g2]
   by_cases g3:(s:Int) < x.frm
   ·simp [g3]
   by_cases g4:x.to≤(s:Int)
   ·simp [g4]
   exfalso
   unfold j6 at hm
   rw [decide_eq_true (show x.frm < t.to by omega),decide_eq_true (show t.frm < x.to by omega)] at hm
   exact absurd hm (by decide)
  |true =>
   unfold jR at h1
   unfold vT at h2
   rw [hm,e1,e2] at h1
   rw [hm,e5,e3,e4] at h2
   unfold stB
   generalize decide ((s:Int) < t.frm)=G
   generalize decide (t.to≤(s:Int))=H
   generalize decide ((s:Int) < x.frm)=I
   generalize decide (x.to≤(s:Int))=J
   revert h1 h2
   generalize decide (t.cab=x.cab)=A
   generalize decide (t.bed=x.bed)=B
   generalize decide (t.party=x.party)=C
   generalize decide (t.sex=x.sex)=D
   generalize x.dog=E
   generalize t.dog=F
   revert A B C D E F G H I J
   decide
theorem Um {cs:List Cabin} {secs:Int} {l:List Tk} (h:∀ t ∈ l,0≤t.frm∧t.frm < t.to∧t.to≤secs):strB ⟨cs,secs,l⟩=false ↔ PWr [] l:=by
 rw [Jb]
 unfold strB
 rw [List.any_eq_false]
 have hg:∀ {i:Nat},i < l.length→l.getD i default ∈ l:=fun hi=>wC hi
 constructor
 ·intro hs i hi
  rw [List.nil_append,Zi]
  intro x hx
  obtain ⟨k,hk,rfl⟩:=List.mem_iff_getElem.1 hx
  rw [List.length_take] at hk
  have h1:=hs i (List.mem_range.2 hi)
  unfold rwB at h1
  rw [Bool.not_eq_true,List.any_eq_false] at h1
  have h2:=h1 k (List.mem_range.2 (by omega))
  have ek:l.getD k default=(l.take i)[k]'(by rw [List.length_take];omega):=by simp [List.getD_eq_getElem?_getD,show k < l.length by omega]
  unfold prB at h2
  rw [Bool.not_eq_true,List.any_eq_false] at h2
  simp only at h2
  rw [← ek]
  refine (QkH (h _ (hg hi)) (h _ (hg (show k < l.length by omega)))).1 fun s hs=>?_
  have:=h2 s (List.mem_range.2 hs)
  simpa using this
 ·intro hp i hi
  have hi:=List.mem_range.1 hi
  unfold rwB
  rw [Bool.not_eq_true,List.any_eq_false]
  intro k hk
  have hk:=List.mem_range.1 hk
  unfold prB
  rw [Bool.not_eq_true,List.any_eq_false]
  intro s hs
  have hi':i < l.length:=hi
  have h1:=hp i hi'
  rw [List.nil_append,Zi] at h1
  have hkl:k < l.length:=by omega
  have h2:=h1 (l.getD k default) (by
   rw [List.mem_iff_getElem]
   exact ⟨k,by rw [List.length_take];omega,by simp [List.getD_eq_getElem?_getD,hkl]⟩)
  have:=(QkH (h _ (hg hi')) (h _ (hg hkl))).2 h2 s (List.mem_range.1 hs)
  simpa using this
theorem QiF {c:Chart} (h:zw c=0):PWr [] c.sold:=by
 rw [Jb]
 intro i hi
 unfold zw at h
 split at h
 ·exact absurd h ‹_›
 rw [List.nil_append]
 exact (Wn h i hi).2
theorem Qca {bs:List Bunk}:∀ {m:Nat} {l:List Bunk},l ∈ alL bs m→∀ b ∈ l,b ∈ bs
 |0,l,hl,b,hb=>by rw [List.mem_singleton.1 hl] at hb;simp at hb
 |m+1,l,hl,b,hb=>by
  obtain ⟨b0,h0,hl⟩:=List.mem_flatMap.1 hl
  obtain ⟨q,hq,rfl⟩:=List.mem_map.1 hl
  rcases List.mem_cons.1 hb with rfl|hb
  ·exact h0
  ·exact Qca hq b hb
def bitB (b n:Int):Bool:=decide (b / 2 ^ n.toNat % 2=1)
def one (b:Bool):Nat:=if b then 1 else 0
theorem Qax {cs:List Cabin} {a:Ask}:∀ (m:Nat) (sold:List Tk) (begun:List Bunk),∀ x ∈ zz cs a m sold begun,∃ new:List Bunk,x.1=begun++new∧x.2=sold++tkR a begun.length new
 |0,sold,begun,x,hx=>by
  simp only [zz,List.mem_singleton] at hx
  subst hx
  exact ⟨[],by simp,by simp [tkR]⟩
 |m+1,sold,begun,x,hx=>by
  rw [yB,List.mem_flatMap] at hx
  obtain ⟨b,hb,hx⟩:=hx
  unfold gbL at hx
  split at hx
  ·obtain ⟨new,h1,h2⟩:=Qax m _ _ x hx
   refine ⟨b :: new,by rw [h1];simp, ?_⟩
   rw [h2,List.length_append,List.length_singleton]
   simp [tkR]
  ·simp at hx
theorem K4 {c:Chart} {a:Ask} {x:List Bunk × List Tk} (hx:x ∈ plP c a):x.2=c.sold++jM a x.1 x.1.length:=by
 obtain ⟨new,h1,h2⟩:=Qax _ _ _ x hx
 rw [List.nil_append] at h1
 rw [h2,h1,Rt a new new.length (Nat.le_refl _),List.take_length];rfl
theorem TkOk.to' {c:Chart} {t:Tk} (h:TkOk c t) (l:List Tk):TkOk ⟨c.cabins,c.secs,l⟩ t:=⟨h.party,h.sex,h.cab,h.bed,h.frm,h.way,h.to⟩
theorem CarOk.to' {c:Chart} (h:CarOk c) (l:List Tk):CarOk ⟨c.cabins,c.secs,l⟩:=⟨h.cabs,h.beds,h.secs⟩
def jf (n:Nat):Nat→Nat→List (List Int)
 |0,_=>[[]]
 |m+1,f=>(List.range (n - f)).flatMap fun k=>(jf n m (f+k+1)).map (((f+k:Nat):Int) :: ·)
theorem VD (n:Nat):∀ (m:Nat) (l:List Int) (f:Nat),vQ n m l f=(jf n m f).map (l++·)
 |0,l,f=>by simp [vQ,jf]
 |m+1,l,f=>by
  rw [vQ,jf,List.map_flatMap]
  refine congrArg (List.flatMap · (List.range (n - f))) (funext fun k=>?_)
  rw [VD n m,List.map_map]
  refine congrArg (List.map · _) (funext fun r=>?_)
  simp
theorem Qin {α β γ:Type} {f:β→Option γ} {g:α→β}:∀ l:List α,(l.map g).findSome? f=l.findSome? fun x=>f (g x)
 |[]=>rfl
 |x :: l=>by rw [List.map_cons,List.findSome?_cons,List.findSome?_cons,Qin l]
theorem YS {n:Nat}:∀ (m f:Nat),∀ r ∈ jf n m f,r.length=m
 |0,f,r,h=>by rw [jf,List.mem_singleton] at h;rw [h];rfl
 |m+1,f,r,h=>by
  rw [jf,List.mem_flatMap] at h
  obtain ⟨k,_,h⟩:=h
  obtain ⟨v,hv,rfl⟩:=List.mem_map.1 h
  rw [List.length_cons,YS m _ v hv]
theorem LU {α β:Type} {f g:α→Option β}:∀ {l:List α},(∀ x ∈ l,f x=g x)→l.findSome? f=l.findSome? g
 |[],_=>rfl
 |x :: l,h=>by rw [List.findSome?_cons,List.findSome?_cons,h x (List.mem_cons_self ..),LU fun y hy=>h y (List.mem_cons_of_mem _ hy)]
structure PgOk (c:Chart) (a:Ask):Prop where
 car:CarOk c
 many:c.sold.length≤50
 sx:a.sexes.length≤3
theorem pg_ok {c:Chart} {a:Ask} (h:PgOk c a) {ans:Nat→Bool} {R:Nat} (hr:Rounds ans R (plP c a).length):GrowOk c.cabins c.secs a a.sexes.length c.sold [] (plY c a) (plH c a) ans R:=by
 have h1:=h.car.cabs
 have h2:=h.many
 have h3:=h.sx
 exact ⟨by simp,by omega,⟨by omega,fun x hx=>by have:=h.car.beds x hx;omega⟩,by omega,by omega,(by simp),hr,fun _ _=>rfl,fun _ _=>rfl⟩
def XF:=vj @jL (vj @QZ (vj @wY.eq_1 @kV.eq_1))
def Qkh:=vj @aI.eq_1 (@aB.eq_1)
theorem QbW {c:Chart} {a:Ask} (h:PgOk c a):LP Tryz.prog 103 [.cb,.ptr 2 0,.ptr 3 0] (nth ((plL c a).take 1)) (nth (plL c a)) (plY c a) (plP c a).length (fun j=>nth (plH c a j)) (fun _ _=>.tup []):=by
 intro ans R hr
 have ok:=pg_ok h hr
 rw [Qa,Qa]
 obtain ⟨A0,hA0⟩:∃ A0:Frm→Prop,A0=Acb Tryz.prog (qc (qD 0 [qf c.cabins c.secs 1])) (qc (qD 0 (plL c a))) (plY c a) (fun j=>nth (plH c a j)) ans R:=⟨_,rfl⟩
 have hA:∀ F,A0 F→Acb Tryz.prog (qc (qD 0 [qf c.cabins c.secs 1])) (qc (qD 0 (plL c a))) (plY c a) (fun j=>nth (plH c a j)) ans R F:=fun F h=>hA0 ▸ h
 have env:Env A0 Tryz.prog tyB (tab [(104,fnI [qf c.cabins c.secs 1] R (JY c a (plY c a) (plH c a) ans R))]):=qA ⟨Qht hA,trivial⟩
 refine Fn.of (A:=A0) (n0:=4) (D:=noD) (Fn0 Tryz.func103 rfl (fun vs w=>by kernel_rfl) (by kernel_rfl)) (by simp) (by simp [AV.ids]) YN (fun F hb h0 _=>hA0 ▸ ⟨h0,Qfv,hb⟩) qw ?_
 show Sym _ _ _ (qX [.cb,.ptr 2 0,.ptr 3 0] 4 (qc [(0,qf c.cabins c.secs 1),(1,qh c.sold),(2,.cells [.ptr 0 0]),(3,.cells (qg a))])) (wK tyB noD Tryz.f103 fun S rv=>Fin S rv _ 4 (qc [(0,qf c.cabins c.secs 1),(1,qh c.sold),(2,.cells [.ptr 0 0]),(3,.cells (qg a))]) R)
 repeat' (first|(apply nx;with_reducible constructor)|refine uq (by decide) ?_|((first|refine vx env fun Q hQ=>?_|refine vz fun Q hQ=>?_);simp only [vkt,seval,XF,Qkh,qI,qg,qb,qf,qh,qJ,JY,fnI,J8,hwL,ok,ite_and];(repeat' first|with_reducible assumption|apply kk|intro hp);all_goals (first|(refine hQ _ ?_;clear hQ Q)|(refine hQ _ (fun h=>?_) (fun h=>?_) <;> clear hQ Q <;> (try simp only [vki,reduceCtorEq] at h))|(refine vq ?_;kernel_rfl)|omega|assumption|with_reducible rfl|skip)))
 (simp only [vrt,Tryz.results103,vkt,seval,qg,qf,qh];refine Fin.ok some [] ?_ ?_ ?_ ?_ ?_ rfl;all_goals (try simp only [vle,vkt,seval]))
 all_goals first|rfl|simp
def QeB:=vj @Yp @ZG.eq_1
def QcK:=vj @aI.eq_1 (vj @aB.eq_1 (@aU.eq_1))
theorem Qkg (b:Int) (hb:0≤b∧b < 16):FnV Tryz.prog 140 [aU b,aI 0] (aB (bitB b 0)):=by
 have env:Env (fun _=>True) Tryz.prog tyB (tab []):=qA trivial
 have hc:b=0∨b=1∨b=2∨b=3∨b=4∨b=5∨b=6∨b=7∨b=8∨b=9∨b=10∨b=11∨b=12∨b=13∨b=14∨b=15:=by omega
 rcases hc with rfl|rfl|rfl|rfl|rfl|rfl|rfl|rfl|rfl|rfl|rfl|rfl|rfl|rfl|rfl|rfl
 all_goals
  refine Fn.of (A:=fun _=>True) (n0:=0) (D:=noD) (Fn0 Tryz.func140 rfl (fun vs w=>by kernel_rfl) (by kernel_rfl)) (by simp) (by simp [AV.ids,aU,aI]) (fun i o h=>by cases h) (fun _ _ _ _=>trivial) qw ?_
  repeat' (first|(apply nx;with_reducible constructor)|refine uq (by decide) ?_|((first|refine vx env fun Q hQ=>?_|refine vz fun Q hQ=>?_);simp only [vkt,seval,QeB,QcK,ite_and];(repeat' first|with_reducible assumption|apply kk|intro hp);all_goals (first|(refine hQ _ ?_;clear hQ Q)|(refine hQ _ (fun h=>?_) (fun h=>?_) <;> clear hQ Q <;> (try simp only [vki,reduceCtorEq] at h))|(refine vq ?_;kernel_rfl)|omega|assumption|with_reducible rfl|skip)))
  (simp only [vrt,Tryz.results140,vkt,seval,QcK];refine Fin.val rfl ?_;(try simp only [AV.le]))
  all_goals first|kernel_rfl|rfl
def Va:List AV→Prop × AV
 |[.v (.int .u64 b),.v (.int .i64 n)]=>((0≤b∧b < 16)∧n=0,aB (bitB b n))
 |_=>(False,.junk)
theorem QkD {A:Frm→Prop}:qm A Tryz.prog 140 (qG true Va):=qH fun vs hv h=>by
 clear hv
 unfold Va at h ⊢
 split at h
 ·obtain ⟨h,rfl⟩:=h
  exact ⟨by simp [aB,AV.plain],fun _=>by simp [aB,AV.flat],Qkg _ h⟩
 ·exact h.elim
def tkB (cs:List Cabin) (s:Int):List Ask→Int→List Tk→Bool
 |[],_,_=>true
 |a :: r,b,sold=>if bitB b 0 then (plP ⟨cs,s,sold⟩ a).any (fun x=>tkB cs s r (b / 2) x.2) else tkB cs s r (b / 2) sold
theorem KJ (f:Nat→Bool):∀ N,(∀ j,j < N→f j=false)∨∃ k,k < N∧f k=true∧∀ j,j < k→f j=false
 |0=>.inl fun j h=>absurd h (Nat.not_lt_zero _)
 |N+1=>by
  rcases KJ f N with h|⟨k,h1,h2,h3⟩
  ·cases hN:f N with
   |true=>exact .inr ⟨N,Nat.lt_succ_self N,hN,h⟩
   |false =>
    refine .inl fun j hj=>?_
    rcases Nat.lt_or_eq_of_le (Nat.le_of_lt_succ hj) with h4|rfl
    ·exact h j h4
    ·exact hN
  ·exact .inr ⟨k,by omega,h2,h3⟩
theorem Qjo {α:Type} {p:α→Bool} {d:α} {l:List α}:l.any p=(List.range l.length).any fun j=>p (l.getD j d):=by
 rw [Bool.eq_iff_iff,List.any_eq_true,List.any_eq_true]
 constructor
 ·rintro ⟨x,hx,hp⟩
  obtain ⟨j,hj,rfl⟩:=List.getElem_of_mem hx
  exact ⟨j,List.mem_range.2 hj,by rw [List.getD_eq_getElem?_getD,List.getElem?_eq_getElem hj];exact hp⟩
 ·rintro ⟨j,hj,hp⟩
  exact ⟨_,wC (List.mem_range.1 hj),hp⟩
structure TaOk (cs:List Cabin) (s:Int) (L:List Ask) (b:Int) (sold:List Tk):Prop where
 car:CarOk ⟨cs,s,sold⟩
 many:sold.length+3 * L.length≤50
 sx:∀ a ∈ L,a.sexes.length≤3
 four:L.length≤4
 bit:0≤b∧b < 16
theorem Ko {cs:List Cabin} {a:Ask}:∀ (m:Nat) (sold:List Tk) (begun:List Bunk),∀ x ∈ zz cs a m sold begun,x.2.length=sold.length+m
 |0,sold,begun,x,hx=>by
  simp only [zz,List.mem_singleton] at hx
  subst hx;rfl
 |m+1,sold,begun,x,hx=>by
  rw [yB,List.mem_flatMap] at hx
  obtain ⟨b,hb,hx⟩:=hx
  unfold gbL at hx
  split at hx
  ·have:=Ko m _ _ x hx
   rw [this,List.length_append,List.length_singleton];omega
  ·simp at hx
def QhW (cs:List Cabin) (s:Int) (L:List Ask):Prop:=∀ (b:Int) (sold:List Tk),TaOk cs s L b sold →
 Fn noB Tryz.prog 127 [.ptr 0 0,.sl (L.map qV),aU b] (qc (qD 0 (qJ cs s sold))) (aB (tkB cs s L b sold)) (qc (zm 0 ((qJ cs s sold).map some))) 0
def ZE (cs:List Cabin) (s:Int) (L:List Ask) (S:St):List AV→Option Pk
 |[.ptr p 0,.sl xs,.v (.int .u64 b)]=>match S.h p with
  |some (.cells [.sl cc,.v (.int .i64 s'),.row r])=>match S.h r with
   |some (.row _ _ ts)=>some { pre:=cc=cs.map qz∧s'=s∧xs=L.map qV∧ts=(ts.map dTk).map eTk∧TaOk cs s L b (ts.map dTk),hs:=[p,r],ar:=[.ptr 0 0,.sl (L.map qV),.v (.int .u64 b)],L0:=qJ cs s (ts.map dTk),v:=aB (tkB cs s L b (ts.map dTk)),L1:=(qJ cs s (ts.map dTk)).map some }
   |_=>none
  |_=>none
 |_=>none
theorem Qh8 {A:Frm→Prop} {cs:List Cabin} {s:Int} {L:List Ask} (ih:QhW cs s L):qm A Tryz.prog 127 (fnE (ZE cs s L)):=qZ fun S bs q h hp=>by
 unfold ZE at h
 split at h
 ·split at h
  ·split at h
   ·cases h
    exact ih _ _ hp.2.2.2.2
   ·cases h
  ·cases h
 ·cases h
def Vw:=vj @ty3 (vj @ty4 (vj @jL (vj @Yw (vj @QZ (vj @Yp (vj @ti3.eq_1 (vj @ti4.eq_1 (vj @wY.eq_1 (vj @Wy.eq_1 (vj @kV.eq_1 @ZG.eq_1))))))))))
def QcW:=vj @aI.eq_1 (vj @aB.eq_1 (@aU.eq_1))
theorem take_nil (cs:List Cabin) (s:Int):QhW cs s []:=by
 intro b sold ok
 have env:Env (fun _=>True) Tryz.prog tyB (tab []):=qA trivial
 refine Fn.of (A:=fun _=>True) (n0:=2) (D:=noD) (Fn0 Tryz.func127 rfl (fun vs w=>by kernel_rfl) (by kernel_rfl)) (by simp) (by simp [AV.ids,aU]) jB (fun _ _ _ _=>trivial) qw ?_
 show Sym _ _ _ (qX [.ptr 0 0,.sl [],aU b] 2 (qc [(0,qf cs s 1),(1,qh sold)])) (wK tyB noD Tryz.f127 fun S rv=>Fin S rv (aB true) 2 (qc [(0,qf cs s 1),(1,qh sold)]) 0)
 repeat' (first|(apply nx;with_reducible constructor)|refine uq (by decide) ?_|((first|refine vx env fun Q hQ=>?_|refine vz fun Q hQ=>?_);simp only [vkt,seval,Vw,QcW,qf,qh,decide_true,ite_and];(repeat' first|with_reducible assumption|apply kk|intro hp);all_goals (first|(refine hQ _ ?_;clear hQ Q)|(refine hQ _ (fun h=>?_) (fun h=>?_) <;> clear hQ Q <;> (try simp only [reduceCtorEq] at h))|(refine vq ?_;kernel_rfl)|omega|assumption|with_reducible rfl|skip)))
 (simp only [vrt,Tryz.results127,vkt,seval,Vw,QcW,qf,qh];refine Fin.ok some [] ?_ ?_ ?_ ?_ ?_ rfl;all_goals (try simp only [vle,vkt,seval]))
 all_goals first|rfl|(simp;done)|exact fun i hi=>(match i,hi with|0,_=>rfl|1,_=>rfl)
def JZ (g:Nat→Bool) (k:Nat):Bool:=(List.range k).any g
theorem Xr {g:Nat→Bool} {k:Nat} (h:∀ j,j < k→g j=false):JZ g k=false:=by
 unfold JZ
 rw [List.any_eq_false]
 intro j hj
 rw [h j (List.mem_range.1 hj)]
 decide
theorem Jl {g:Nat→Bool} {k j:Nat} (hj:j < k) (h:g j=true):JZ g k=true:=List.any_eq_true.2 ⟨j,List.mem_range.2 hj,h⟩
theorem Qby (g:Nat→Bool) (N:Nat):∃ R,Rounds (fun j=>!g j) R N∧(∀ j,j < R→∀ i,i < j→g i=false)∧(R≤N)∧JZ g R=JZ g N:=by
 rcases KJ g N with h|⟨k,h1,h2,h3⟩
 ·refine ⟨N,⟨Nat.le_refl _,fun j hj=>by rw [h j (by omega)];rfl,fun h=>absurd h (Nat.lt_irrefl _)⟩,fun j hj i hi=>h i (by omega),Nat.le_refl _,rfl⟩
 ·refine ⟨k+1,⟨h1,fun j hj=>by rw [h3 j (by omega)];rfl,fun _=>⟨Nat.succ_pos _,by rw [Nat.add_sub_cancel,h2];rfl⟩⟩,fun j hj i hi=>h3 i (by omega),h1, ?_⟩
  rw [Jl (Nat.lt_succ_self k) h2,Jl h1 h2]
def Qgx:List (Nat × AV):=[(3,.ptr 2 0),(4,.ptr 3 0),(5,.ptr 4 0),(6,.ptr 5 0),(23,.clo 103 [.ptr 6 0,.ptr 7 0])]
def Yz:List (Nat × AV):=[(3,.ptr 2 0),(4,.ptr 3 0),(5,.ptr 4 0),(6,.ptr 5 0)]
def Qy (xs:List (List DV)) (b:Int) (g:Nat→Bool) (k:Nat):List (Nat × AObj):=[(2,.cells [.ptr 0 0]),(3,.cells [.sl xs]),(4,.cells [aU b]),(5,.cells [aB (JZ g k)])]
theorem Yc (c:Chart) (a:Ask):qN [0,1,6,7] 9 0 (plL c a)=[(0,qf c.cabins c.secs 1),(1,qh c.sold),(6,.cells [.ptr 0 0]),(7,.cells (qg a))]:=by
 simp [qN,plL,qo,AObj.ren,AV.renL,AV.ren,qf,qh,qg]
theorem Ve (c:Chart) (a:Ask) (j:Nat):qN [0] 9 0 (plH c a j)=[(0,qf c.cabins c.secs 9),(9,qh ((plP c a).getD j default).2)]:=by
 simp [qN,plH,qJ,qo,AObj.ren,AV.renL,AV.ren,qf,qh]
def w9:=vj @ty3 (vj @ty4 (vj @jL (vj @Yw (vj @QZ (vj @Yp (vj @ti3.eq_1 (vj @ti4.eq_1 (vj @wY.eq_1 (vj @Wy.eq_1 (vj @kV.eq_1 @ZG.eq_1))))))))))
def yx:=vj @aI.eq_1 (vj @aB.eq_1 (vj @aU.eq_1 (@jJ)))
set_option maxHeartbeats 4000000 in
theorem QeW (cs:List Cabin) (s:Int) (a:Ask) (r:List Ask) (ih:QhW cs s r):QhW cs s (a :: r):=by
 intro b sold ok
 have hb:=ok.bit
 have hsh:b.fdiv (2 ^ min 1 IntKind.u64.bits)=b / 2:=by rw [show (2:Int) ^ min 1 IntKind.u64.bits=2 from rfl,Int.fdiv_eq_ediv_of_nonneg _ (by decide)]
 have hsh2:b.fdiv 2=b / 2:=by rw [Int.fdiv_eq_ediv_of_nonneg _ (by decide)]
 have hb2:0≤b / 2∧b / 2 < 16:=by omega
 have h4:=ok.four
 have hmn:=ok.many
 rw [List.length_cons] at h4 hmn
 have e0:(a :: r).map qV=qV a :: r.map qV:=rfl
 have d0:decide ((((qV a :: r.map qV).length:Nat):Int)=0)=false:=decide_eq_false (by rw [List.length_cons];omega)
 have d9:decide ((((r.length+1):Nat):Int)=0)=false:=decide_eq_false (by omega)
 have z1:(0:Nat) < r.length+1:=by omega
 have z2:(1:Int)≤((r.length+1:Nat):Int):=by omega
 have z3:(List.take (r.length+1) (qV a :: r.map qV))=qV a :: r.map qV:=List.take_of_length_le (by simp)
 have z5:List.take r.length (r.map qV)=r.map qV:=List.take_of_length_le (by simp)
 have z4:(((r.length+1:Nat):Int)).toNat=r.length+1:=rfl
 have hsx:∀ x ∈ r,x.sexes.length≤3:=fun x hx=>ok.sx x (List.mem_cons_of_mem _ hx)
 cases hbit:bitB b 0 with
 |false =>
  have env:Env (fun _=>True) Tryz.prog tyB (tab [(140,qG true Va),(127,fnE (ZE cs s r))]):=qA ⟨QkD,Qh8 ih,trivial⟩
  refine Fn.of (A:=fun _=>True) (n0:=2) (D:=noD) (Fn0 Tryz.func127 rfl (fun vs w=>by kernel_rfl) (by kernel_rfl)) (by simp) (by simp [AV.ids,aU]) jB (fun _ _ _ _=>trivial) qw ?_
  have hv:tkB cs s (a :: r) b sold=tkB cs s r (b / 2) sold:=by rw [tkB,hbit];rfl
  have hok:TaOk cs s r (b / 2) sold:=⟨ok.car,by omega,hsx,by omega,hb2⟩
  rw [hv,e0]
  show Sym _ _ _ (qX [.ptr 0 0,.sl (qV a :: r.map qV),aU b] 2 (qc [(0,qf cs s 1),(1,qh sold)])) (wK tyB noD Tryz.f127 fun S rv=>Fin S rv (aB (tkB cs s r (b / 2) sold)) 2 (qc [(0,qf cs s 1),(1,qh sold)]) 0)
  repeat' (first|(apply nx;with_reducible constructor)|refine uq (by decide) ?_|((first|refine vx env fun Q hQ=>?_|refine vz fun Q hQ=>?_);simp only [vkt,seval,w9,yx,qV,mTk,qf,qh,qJ,Va,ZE,Xy,hwL,d9,z2,z4,z5,hb,hbit,hsh,hok,ite_and];(repeat' first|with_reducible assumption|apply kk|intro hp);all_goals (first|(refine hQ _ ?_;clear hQ Q)|(refine hQ _ (fun h=>?_) (fun h=>?_) <;> clear hQ Q <;> (try simp only [reduceCtorEq] at h))|(refine vq ?_;kernel_rfl)|omega|assumption|with_reducible rfl|skip)))
  (simp only [vrt,Tryz.results127,vkt,seval,w9,yx,qf,qh];refine Fin.ok some [] ?_ ?_ ?_ ?_ ?_ rfl;all_goals (try simp only [vle,vkt,seval]))
  all_goals first|rfl|(simp;done)|exact fun i hi=>(match i,hi with|0,_=>rfl|1,_=>rfl)
 |true =>
 have env:Env (fun F=>F.r=none) Tryz.prog tyB (tab [(140,qG true Va),(52,fnE wO)]):=qA ⟨QkD,WW,trivial⟩
 refine Fn.of (A:=fun F=>F.r=none) (n0:=2) (D:=noD) (Fn0 Tryz.func127 rfl (fun vs w=>by kernel_rfl) (by kernel_rfl)) (by simp) (by simp [AV.ids,aU]) jB (fun _ _ _ h=>h) qw ?_
 obtain ⟨c,hc⟩:∃ c:Chart,(⟨cs,s,sold⟩:Chart)=c:=⟨_,rfl⟩
 have e1:cs=c.cabins:=by rw [← hc]
 have e2:s=c.secs:=by rw [← hc]
 have e3:sold=c.sold:=by rw [← hc]
 have hpg:PgOk c a:=by
  rw [← hc]
  exact ⟨ok.car,by show sold.length≤50;omega,ok.sx a (List.mem_cons_self ..)⟩
 have hxok:∀ x ∈ plP c a,TaOk cs s r (b / 2) x.2:=fun x hx=>by
  have hl:=Ko _ _ _ x hx
  have hs3:=hpg.sx
  rw [← e3] at hl
  exact ⟨⟨ok.car.cabs,ok.car.beds,ok.car.secs⟩,by omega,hsx,by omega,hb2⟩
 obtain ⟨g,hg⟩:∃ g:Nat→Bool,(fun j=>tkB cs s r (b / 2) ((plP c a).getD j default).2)=g:=⟨_,rfl⟩
 have hgj:∀ j,tkB cs s r (b / 2) ((plP c a).getD j default).2=g j:=fun j=>congrFun hg j
 have hv:tkB cs s (a :: r) b sold=JZ g (plP c a).length:=by
  rw [tkB,hbit,if_pos rfl,hc,Qjo (d:=default)]
  unfold JZ
  rw [← hg]
 rw [hv,e0]
 show Sym _ _ _ (qX [.ptr 0 0,.sl (qV a :: r.map qV),aU b] 2 (qc [(0,qf cs s 1),(1,qh sold)])) (wK tyB noD Tryz.f127 fun S rv=>Fin S rv (aB (JZ g (plP c a).length)) 2 (qc [(0,qf cs s 1),(1,qh sold)]) 0)
 obtain ⟨N,hN⟩:∃ N,(plP c a).length=N:=⟨_,rfl⟩
 obtain ⟨R,hRo,hRp,hRN,hRh⟩:=Qby g N
 obtain ⟨ans,hans⟩:∃ ans:Nat→Bool,(fun j=>!g j)=ans:=⟨_,rfl⟩
 have ha:∀ j,ans j=!g j:=fun j=>(congrFun hans j).symm
 rw [hans] at hRo
 rw [hN,← hRh]
 obtain ⟨xs,hxs⟩:∃ xs,qV a :: r.map qV=xs:=⟨_,rfl⟩
 have hg0:xs.getD 0 [.v (.int .i64 0),.v (.int .i64 0),.v (.int .i64 0),.sl [],.v (.bool false)]=qV a:=by rw [← hxs];rfl
 have hxr:ze 5 xs=True:=by rw [← hxs,← e0];exact Xy _
 have hxl:xs.length=r.length+1:=by rw [← hxs];simp
 have hdr:(xs.take (r.length+1)).drop 1=r.map qV:=by rw [← hxs,z3];rfl
 have hdr2:xs.drop 1=r.map qV:=by rw [← hxs];rfl
 rw [hxs] at z3
 rw [hxs]
 repeat' (first|(apply nx;with_reducible constructor)|refine uq (by decide) ?_|((first|refine vx env fun Q hQ=>?_|refine vz fun Q hQ=>?_);simp only [vkt,seval,w9,yx,qg,qV,qy,mTk,qf,qh,qJ,plL,Va,wO,hwL,d9,z1,hb,hbit,hg0,hxl,ite_and];(repeat' first|with_reducible assumption|apply kk|intro hp);all_goals (first|(refine hQ _ ?_;clear hQ Q)|(refine hQ _ (fun h=>?_) (fun h=>?_) <;> clear hQ Q <;> (try simp only [reduceCtorEq] at h))|(refine vq ?_;kernel_rfl)|omega|assumption|with_reducible rfl|skip)))
 refine jT (S':={ t:=asg Qgx,h:=qc (Qy xs b g 0++[(0,qf c.cabins c.secs 1),(1,qh c.sold),(6,.cells [.ptr 0 0]),(7,.cells (qg a))]),n:=8,j:=0,d:=[],m:=2 }) ?_ ?_
 ·show Le _ { t:=asg [(3,.ptr 2 0),(4,.ptr 3 0),(5,.ptr 4 0),(6,.ptr 5 0),(23,.clo 103 [.ptr 6 0,.ptr 7 0])],h:=qc [(2,.cells [.ptr 0 0]),(3,.cells [.sl xs]),(4,.cells [aU b]),(5,.cells [aB false]),(0,qf c.cabins c.secs 1),(1,qh c.sold),(6,.cells [.ptr 0 0]),(7,.cells (qg a))],n:=8,j:=0,d:=[],m:=2 }
  rw [← e1,← e2,← e3]
  (refine Le.ok some [] ?_;constructor;all_goals (try simp only [vle,vkt,seval,yx,qg,qf,qh]))
  all_goals first|rfl|(simp [qg,AV.leL,AV.le,AV.idsL,AV.ids];done)
 rw [← Yc c a]
 refine jN (fun F h=>h) 1 (L:=Qgx) (L':=Yz) (xs:=[1,6,7]) (hs:=[0,1,6,7]) (n:=8) (nl:=1) (hc:=Qy xs b g) (Lp:=plL c a) (jj:=fun _=>0) (d:=[]) (ys:=plY c a) (hl:=plH c a) (ans:=ans) (ex:=.ret) (caps:=[.ptr 6 0,.ptr 7 0]) (caps0:=[.ptr 2 0,.ptr 3 0]) (N:=(plP c a).length) (R:=R) (A':=fun _ _=>True) rfl (QbW hpg) (by rw [hN];exact hRo) (.inl rfl) ?_ ?_ ?_ rfl (by simp) ?_ (by simp) (fun _ _ _ _ _ _=>trivial) ?_ ?_ ?_ ?_ ?_ ?_ (fun j hj=>?_) ?_ (fun j hj=>?_) (fun hall=>?_) (fun hpos hlast=>?_)
 ·simp [AV.leL,AV.le]
 ·simp [AV.nocbL,AV.nocb]
 ·simp [Zn,plL,qf,qh,qg,AObj.nocb,AV.nocbL,AV.nocb,AObj.ids,AV.ids,AV.idsL,AObj.ren,AV.renL,AV.ren,AObj.le,AV.leL,AV.le,qo]
 ·simp [Qy,qc]
 ·simp [Qy,qc]
 ·simp [Qy,AObj.ids,AV.ids,AV.idsL,aB,aU]
 ·simp [KW,Yz,Qgx,asg]
 ·simp [LY]
 ·intro j hj
  simp [absent,Qy,Ve]
 ·simp [WV,Yz,AV.ids]
 ·refine ⟨?_,rfl, ?_, ?_,rfl, ?_⟩
  ·simp [xJ,Qy,AObj.ids,AV.ids,AV.idsL,aB,aU]
  ·simp [QW,plH,qJ,qf,qh,AObj.nocb,AV.nocbL,AV.nocb,AObj.ids,AV.ids,AV.idsL]
  ·simp [Yx,plY,qb,AV.nocb,AV.ids]
  ·simp [xy,Q7,Ve,Qy,Yz,yT,AV.ids,ADf.ids,List.range_succ]
 ·simp [xJ,Qy,AObj.ids,AV.ids,AV.idsL,aB,aU]
 ·have env:Env (fun _:Frm=>True) Tryz.prog tyB (tab [(127,fnE (ZE cs s r))]):=qA ⟨Qh8 ih,trivial⟩
  have hjN:j < (plP c a).length:=by omega
  have hjo:=hxok _ (wC (d:=default) hjN)
  have hgv:=hgj j
  have hk0:JZ g j=false:=Xr (hRp j hj)
  have hk1:JZ g (j+1)=g j:=by
   cases hq:g j with
   |true=>exact Jl (Nat.lt_succ_self j) hq
   |false =>
    refine Xr fun i hi=>?_
    rcases Nat.lt_or_eq_of_le (Nat.le_of_lt_succ hi) with h|rfl
    ·exact hRp j hj i h
    ·exact hq
  have haj:=ha j
  obtain ⟨⟨x,t⟩,hx⟩:∃ x,(plP c a).getD j default=x:=⟨_,rfl⟩
  rw [hx] at hjo hgv
  simp only at hjo hgv
  have hst:zU Yz [24] [0] 8 1 (plY c a j) (Qy xs b g j) (plH c a j)={ t:=asg [(24,qb x),(3,.ptr 2 0),(4,.ptr 3 0),(5,.ptr 4 0),(6,.ptr 5 0)],h:=qc [(8,.mark),(2,.cells [.ptr 0 0]),(3,.cells [.sl xs]),(4,.cells [aU b]),(5,.cells [aB false]),(0,qf c.cabins c.secs 9),(9,qh t)],n:=10,m:=10 }:=by
   simp only [zU,Nat.reduceAdd,Ve,plY,hx,hk0,qb,List.map_cons,List.map_nil,AV.ren,List.zip_cons_cons,List.zip_nil_right,Qy,Yz,kQ,List.cons_append,List.nil_append]
   rfl
  show Sym _ _ _ (zU Yz [24] [0] 8 1 (plY c a j) (Qy xs b g j) (plH c a j)) _
  rw [hst,← e1,← e2]
  cases hq:g j with
  |true =>
   rw [hq] at hgv hk1 haj
   repeat' (first|(apply nx;with_reducible constructor)|refine uq (by decide) ?_|((first|refine vx env fun Q hQ=>?_|refine vz fun Q hQ=>?_);simp only [vkt,seval,w9,yx,mTk,qf,qh,qJ,ZE,hwL,z2,z4,hsh,hxl,hxr,hdr,hjo,hgv,ite_and];(repeat' first|with_reducible assumption|apply kk|intro hp);all_goals (first|(refine hQ _ ?_;clear hQ Q)|(refine hQ _ (fun h=>?_) (fun h=>?_) <;> clear hQ Q <;> (try simp only [reduceCtorEq] at h))|(refine vq ?_;kernel_rfl)|omega|assumption|with_reducible rfl|skip)))
   refine ⟨by rw [haj];rfl,rfl,some,_,RFin.okQ some [] ?_⟩
   constructor
   all_goals (try simp only [vle,yw,j5,qo,plH,hx,hk1,← e1,← e2,vkt,seval,yx,qf,qh,qJ,Yz,Qy])
   all_goals first|rfl|simp
  |false =>
   rw [hq] at hgv hk1 haj
   repeat' (first|(apply nx;with_reducible constructor)|refine uq (by decide) ?_|((first|refine vx env fun Q hQ=>?_|refine vz fun Q hQ=>?_);simp only [vkt,seval,w9,yx,mTk,qf,qh,qJ,ZE,hwL,z2,z4,hsh,hxl,hxr,hdr,hjo,hgv,ite_and];(repeat' first|with_reducible assumption|apply kk|intro hp);all_goals (first|(refine hQ _ ?_;clear hQ Q)|(refine hQ _ (fun h=>?_) (fun h=>?_) <;> clear hQ Q <;> (try simp only [reduceCtorEq] at h))|(refine vq ?_;kernel_rfl)|omega|assumption|with_reducible rfl|skip)))
   refine ⟨by rw [haj];rfl,rfl,some,_,RFin.okQ some [] ?_⟩
   constructor
   all_goals (try simp only [vle,yw,j5,qo,plH,hx,hk1,← e1,← e2,vkt,seval,yx,qf,qh,qJ,Yz,Qy])
   all_goals first|rfl|simp
 ·have hR0:JZ g R=false:=Xr fun j hj=>by
   have:=hall j hj
   rw [ha] at this
   simpa using this
  have eh:qc ((8,AObj.mark) :: Qy xs b g R++qN [0,1,6,7] (8+1) 0 (plL c a))=qc [(8,.mark),(2,.cells [.ptr 0 0]),(3,.cells [.sl xs]),(4,.cells [aU b]),(5,.cells [aB false]),(0,qf cs s 1),(1,qh sold),(6,.cells [.ptr 0 0]),(7,.cells (qg a))]:=by
   rw [show qN [0,1,6,7] (8+1) 0 (plL c a)=qN [0,1,6,7] 9 0 (plL c a) from rfl,Yc,← e1,← e2,← e3]
   unfold Qy
   rw [hR0];rfl
  rw [eh,hR0]
  repeat' (first|(apply nx;with_reducible constructor)|refine uq (by decide) ?_|((first|refine vx env fun Q hQ=>?_|refine vz fun Q hQ=>?_);simp only [vkt,seval,w9,yx,qg,qf,qh,Yz,ite_and];(repeat' first|with_reducible assumption|apply kk|intro hp);all_goals (first|(refine hQ _ ?_;clear hQ Q)|(refine hQ _ (fun h=>?_) (fun h=>?_) <;> clear hQ Q <;> (try simp only [vki,reduceCtorEq] at h))|(refine vq ?_;kernel_rfl)|omega|assumption|with_reducible rfl|skip)))
  (simp only [vrt,Tryz.results127,vkt,seval,w9,yx,qf,qh];refine Fin.ok some [] ?_ ?_ ?_ ?_ ?_ rfl;all_goals (try simp only [vle,vkt,seval]))
  all_goals first|rfl|(simp [qg,AV.leL,AV.le];done)|exact fun i hi=>(match i,hi with|0,_=>rfl|1,_=>rfl)
 ·have hR0:JZ g R=true:=Jl (show R - 1 < R by omega) (by rw [ha] at hlast;simpa using hlast)
  have eh:qc ((8,AObj.mark) :: Qy xs b g R++qN [0,1,6,7] (8+1) 0 (plL c a))=qc [(8,.mark),(2,.cells [.ptr 0 0]),(3,.cells [.sl xs]),(4,.cells [aU b]),(5,.cells [aB true]),(0,qf cs s 1),(1,qh sold),(6,.cells [.ptr 0 0]),(7,.cells (qg a))]:=by
   rw [show qN [0,1,6,7] (8+1) 0 (plL c a)=qN [0,1,6,7] 9 0 (plL c a) from rfl,Yc,← e1,← e2,← e3]
   unfold Qy
   rw [hR0];rfl
  rw [eh,hR0]
  repeat' (first|(apply nx;with_reducible constructor)|refine uq (by decide) ?_|((first|refine vx env fun Q hQ=>?_|refine vz fun Q hQ=>?_);simp only [vkt,seval,w9,yx,qI,qg,qV,qy,mTk,qf,qh,qJ,plL,Yz,Qy,Va,wO,ZE,Xy,Yu,List.length_map,List.length_cons,List.map_cons,List.getD_cons_zero,List.drop_succ_cons,List.drop_zero,nth,hwL,Nat.zero_add,Nat.sub_zero,ite_and];(repeat' first|with_reducible assumption|apply kk|intro hp);all_goals (first|(refine hQ _ ?_;clear hQ Q)|(refine hQ _ (fun h=>?_) (fun h=>?_) <;> clear hQ Q <;> (try simp only [vki,reduceCtorEq] at h))|(refine vq ?_;kernel_rfl)|omega|assumption|with_reducible rfl|skip)))
  (simp only [vrt,Tryz.results127,vkt,seval,w9,yx,qg,qf,qh,Yz];refine Fin.ok some [] ?_ ?_ ?_ ?_ ?_ rfl;all_goals (try simp only [vle,vkt,seval]))
  all_goals first|rfl|(simp [qg,AV.leL,AV.le];done)|exact fun i hi=>(match i,hi with|0,_=>rfl|1,_=>rfl)
theorem U5 (cs:List Cabin) (s:Int):∀ L,QhW cs s L
 |[]=>take_nil cs s
 |a :: r=>QeW cs s a r (U5 cs s r)
def Wi (b:Int):Value:=.agg #[.int .u64 b]
theorem Qiu {a b:Int} (h:Wi a=Wi b):a=b:=by
 simp [Wi] at h;exact h
abbrev KSev:Value→Prop:=KD.Q (.agg [some .u64])
theorem sevQ (b:Int):KSev (Wi b):=⟨⟨_,rfl⟩,trivial⟩
def qSev:KeyInfo:={ kd:=.agg [some .u64],z:=.v (.bool false),agg:=false }
noncomputable def UX (es:List (Value × Value)) (b:Int):Bool:=match wF es (Wi b) with
 |some (.bool v)=>v
 |_=>false
structure MetOk (f:Int→Bool) (es:List (Value × Value)):Prop where
 ok:MOK KSev es
 look:∀ b,wF es (Wi b)=none∨(wF es (Wi b)=some (.bool true)∧f b=false)
theorem QiU (f:Int→Bool):MetOk f []:=⟨MOK.nil _,fun b=>.inl rfl⟩
theorem MetOk.lk {f:Int→Bool} {es:List (Value × Value)} (h:MetOk f es) (b:Int):∃ q,wX qSev (wF es (Wi b))=(True,.v (.bool (UX es b)),q):=by
 rcases h.look b with h1|⟨h1,_⟩
 ·refine ⟨false, ?_⟩
  unfold UX
  rw [h1]
  show (_,_,_)=_
  simp [qSev,AV.ids]
 ·refine ⟨true, ?_⟩
  unfold UX
  rw [h1]
  show (_,_,_)=_
  simp [qSev,Vq,Value.oneCell',vAV]
theorem MetOk.no {f:Int→Bool} {es:List (Value × Value)} (h:MetOk f es) {b:Int} (hv:UX es b=true):f b=false:=by
 rcases h.look b with h1|⟨_,h2⟩
 ·unfold UX at hv
  rw [h1] at hv
  exact absurd hv (by decide)
 ·exact h2
noncomputable def Jq (f:Int→Bool) (es:List (Value × Value)) (b:Int):List (Value × Value):=if UX es b || f b then es else jd es (Wi b) (.bool true)
theorem Qky {f:Int→Bool} {es:List (Value × Value)} (h:MetOk f es) (b:Int):MetOk f (Jq f es b):=by
 unfold Jq
 split
 ·exact h
 ·rename_i hq
  have hf:f b=false:=by
   cases h2:f b with
   |false=>rfl
   |true=>rw [h2,Bool.or_true] at hq;exact absurd rfl hq
  refine ⟨h.ok.set (sevQ b),fun x=>?_⟩
  rw [Zr]
  by_cases hx:Wi b=Wi x
  ·rw [if_pos hx]
   rw [← Qiu hx]
   exact .inr ⟨rfl,hf⟩
  ·rw [if_neg hx]
   exact h.look x
theorem QgE (f:Int→Bool) (es:List (Value × Value)) (b:Int):(Jq f es b).length≤es.length+1:=by
 unfold Jq
 split
 ·omega
 ·exact Qb
def Qcb (cs:List Cabin) (s:Int) (sold:List Tk) (es:List (Value × Value)):List AObj:=[qf cs s 1,qh sold,.map es]
theorem Qhj {cs:List Cabin} {s:Int} {sold:List Tk} {es:List (Value × Value)}:∀ i o,qc (qD 0 (Qcb cs s sold es)) i=some o→i < 3∧∀ id ∈ o.ids,id < 3:=by
 intro i o hi
 have h:=qF hi
 simp [qD,Qcb] at h
 rcases h with ⟨rfl,rfl⟩|⟨rfl,rfl⟩|⟨rfl,rfl⟩ <;> simp [AObj.ids,AV.ids,AV.idsL,qf,qh]
def JF:=vj @ty4 (vj @Qgz (vj @Yp (vj @QgQ (vj @ti4.eq_1 (vj @KO.eq_1 (vj @ZG.eq_1 @XX.eq_1))))))
def ZI:=vj @aI.eq_1 (vj @aB.eq_1 (@aU.eq_1))
set_option maxHeartbeats 2000000 in
theorem QlG (cs:List Cabin) (s:Int) (L:List Ask) (b:Int) (sold:List Tk) (es:List (Value × Value)) (ok:TaOk cs s L b sold) (hm:MetOk (fun b=>tkB cs s L b sold) es) (hl:es.length≤100000) :
  Fn noB Tryz.prog 97 [.ptr 0 0,.sl (L.map qV),.agg [aU b],.mp 2] (qc (qD 0 (Qcb cs s sold es))) (aB (tkB cs s L b sold)) (qc (zm 0 ((Qcb cs s sold (Jq (fun b=>tkB cs s L b sold) es b)).map some))) 0:=by
 have env:Env (fun _=>True) Tryz.prog tyB (tab [(127,fnE (ZE cs s L))]):=qA ⟨Qh8 (U5 cs s L),trivial⟩
 refine Fn.of (A:=fun _=>True) (n0:=3) (D:=noD) (Fn0 Tryz.func97 rfl (fun vs w=>by kernel_rfl) (by kernel_rfl)) (by simp) (by simp [AV.ids,AV.idsL,aU]) Qhj (fun _ _ _ _=>trivial) qw ?_
 obtain ⟨q,hlk⟩:=hm.lk b
 have hno:=fun h=>hm.no (b:=b) h
 have hM:MOK (KD.Q (.agg [some .u64])) es:=hm.ok
 simp only [qSev,Wi] at hlk
 have hmx:(200000:Nat)≤maxLen:=by decide
 have hsl:=Qb (es:=es) (k:=Wi b) (v:=.bool true)
 have hsl2:(jd es (Wi b) (.bool true)).length≤maxLen:=by omega
 have hN:Jq (fun b=>tkB cs s L b sold) es b=if UX es b || tkB cs s L b sold then es else jd es (Wi b) (.bool true):=rfl
 rw [hN]
 simp only [Wi] at hsl2
 obtain ⟨v,hv⟩:∃ v,UX es b=v:=⟨_,rfl⟩
 obtain ⟨w,hw⟩:∃ w,tkB cs s L b sold=w:=⟨_,rfl⟩
 rw [hv] at hlk hno
 simp only [hw] at hno
 rw [hv,hw]
 cases v with
 |true =>
  have hw0:=hno rfl
  rw [hw0]
  rw [if_pos (by rfl)]
  show Sym _ _ _ (qX [.ptr 0 0,.sl (L.map qV),.agg [aU b],.mp 2] 3 (qc [(0,qf cs s 1),(1,qh sold),(2,.map es)])) (wK tyB noD Tryz.f97 fun S rv=>Fin S rv (aB false) 3 (qc [(0,qf cs s 1),(1,qh sold),(2,.map es)]) 0)
  repeat' (first|(apply nx;with_reducible constructor)|refine uq (by decide) ?_|((first|refine vx env fun Q hQ=>?_|refine vz fun Q hQ=>?_);simp only [vkt,seval,JF,ZI,qf,qh,hlk,hM,ite_and];(repeat' first|with_reducible assumption|apply kk|intro hp);all_goals (first|(refine hQ _ ?_;clear hQ Q)|(refine hQ _ (fun h=>?_) (fun h=>?_) <;> clear hQ Q <;> (try simp only [reduceCtorEq] at h))|(refine vq ?_;kernel_rfl)|omega|assumption|with_reducible rfl|skip)))
  (simp only [vrt,Tryz.results97,vkt,seval,ZI,qf,qh];refine Fin.ok some [] ?_ ?_ ?_ ?_ ?_ rfl;all_goals (try simp only [vle,vkt,seval]))
  all_goals first|rfl|(simp;done)|exact fun i hi=>(match i,hi with|0,_=>rfl|1,_=>rfl|2,_=>rfl)
 |false =>
  cases w with
  |true =>
   rw [if_pos (by rfl)]
   show Sym _ _ _ (qX [.ptr 0 0,.sl (L.map qV),.agg [aU b],.mp 2] 3 (qc [(0,qf cs s 1),(1,qh sold),(2,.map es)])) (wK tyB noD Tryz.f97 fun S rv=>Fin S rv (aB true) 3 (qc [(0,qf cs s 1),(1,qh sold),(2,.map es)]) 0)
   repeat' (first|(apply nx;with_reducible constructor)|refine uq (by decide) ?_|((first|refine vx env fun Q hQ=>?_|refine vz fun Q hQ=>?_);simp only [vkt,seval,JF,ZI,mTk,qf,qh,qJ,ZE,hlk,hM,ok,hw,ite_and];(repeat' first|with_reducible assumption|apply kk|intro hp);all_goals (first|(refine hQ _ ?_;clear hQ Q)|(refine hQ _ (fun h=>?_) (fun h=>?_) <;> clear hQ Q <;> (try simp only [reduceCtorEq] at h))|(refine vq ?_;kernel_rfl)|omega|assumption|with_reducible rfl|skip)))
   (simp only [vrt,Tryz.results97,vkt,seval,ZI,qf,qh];refine Fin.ok some [] ?_ ?_ ?_ ?_ ?_ rfl;all_goals (try simp only [vle,vkt,seval]))
   all_goals first|rfl|(simp;done)|exact fun i hi=>(match i,hi with|0,_=>rfl|1,_=>rfl|2,_=>rfl)
  |false =>
   rw [if_neg (by decide)]
   show Sym _ _ _ (qX [.ptr 0 0,.sl (L.map qV),.agg [aU b],.mp 2] 3 (qc [(0,qf cs s 1),(1,qh sold),(2,.map es)])) (wK tyB noD Tryz.f97 fun S rv=>Fin S rv (aB false) 3 (qc [(0,qf cs s 1),(1,qh sold),(2,.map (jd es (.agg #[.int .u64 b]) (.bool true)))]) 0)
   repeat' (first|(apply nx;with_reducible constructor)|refine uq (by decide) ?_|((first|refine vx env fun Q hQ=>?_|refine vz fun Q hQ=>?_);simp only [vkt,seval,JF,ZI,mTk,qf,qh,qJ,ZE,hlk,hM,ok,hw,hsl2,ite_and];(repeat' first|with_reducible assumption|apply kk|intro hp);all_goals (first|(refine hQ _ ?_;clear hQ Q)|(refine hQ _ (fun h=>?_) (fun h=>?_) <;> clear hQ Q <;> (try simp only [reduceCtorEq] at h))|(refine vq ?_;kernel_rfl)|omega|assumption|with_reducible rfl|skip)))
   (simp only [vrt,Tryz.results97,vkt,seval,ZI,qf,qh];refine Fin.ok some [] ?_ ?_ ?_ ?_ ?_ rfl;all_goals (try simp only [vle,vkt,seval]))
   all_goals first|rfl|(simp;done)|exact fun i hi=>(match i,hi with|0,_=>rfl|1,_=>rfl|2,_=>rfl)
def vY (l:List Int):Int:=l.foldl Vu 0
theorem Qms {a i:Int} (ha:0≤a∧a < 16) (hi:0≤i∧i < 4):0≤Vu a i∧Vu a i < 16:=by
 have hc:a=0∨a=1∨a=2∨a=3∨a=4∨a=5∨a=6∨a=7∨a=8∨a=9∨a=10∨a=11∨a=12∨a=13∨a=14∨a=15:=by omega
 have hd:i=0∨i=1∨i=2∨i=3:=by omega
 rcases hc with rfl|rfl|rfl|rfl|rfl|rfl|rfl|rfl|rfl|rfl|rfl|rfl|rfl|rfl|rfl|rfl <;> rcases hd with rfl|rfl|rfl|rfl <;> decide
theorem Qcr:∀ (l:List Int) (a:Int),0≤a∧a < 16→(∀ i ∈ l,0≤i∧i < 4)→0≤l.foldl Vu a∧l.foldl Vu a < 16
 |[],a,h,_=>h
 |i :: l,a,h,hl=>Qcr l _ (Qms h (hl i (List.mem_cons_self ..))) fun j hj=>hl j (List.mem_cons_of_mem _ hj)
theorem Qmh {l:List Int} (h:∀ i ∈ l,0≤i∧i < 4):0≤vY l∧vY l < 16:=Qcr l 0 (by decide) h
theorem QdO {l:List Int} {k:Nat} (h:k < l.length):vY (l.take (k+1))=Vu (vY (l.take k)) (l.getD k 0):=by
 unfold vY
 rw [List.take_succ_eq_append_getElem h,List.foldl_append]
 simp [List.getD_eq_getElem?_getD,h]
structure SvOk (cs:List Cabin) (s:Int) (L:List Ask) (sold:List Tk):Prop where
 car:CarOk ⟨cs,s,sold⟩
 many:sold.length≤8
 sx:∀ a ∈ L,a.sexes.length≤3
 four:L.length≤4
theorem SvOk.ta {cs:List Cabin} {s:Int} {L:List Ask} {sold:List Tk} (h:SvOk cs s L sold) {b:Int} (hb:0≤b∧b < 16):TaOk cs s L b sold:=⟨h.car,by have:=h.many;have:=h.four;omega,h.sx,h.four,hb⟩
noncomputable def pAll (cs:List Cabin) (s:Int) (L:List Ask) (S:St):List AV→Option Pk
 |[.ptr p 0,.sl xs,.agg [.v (.int .u64 b)],.mp m]=>match S.h p,S.h m with
  |some (.cells [.sl cc,.v (.int .i64 s'),.row r]),some (.map es)=>match S.h r with
   |some (.row _ _ ts)=>some { pre:=cc=cs.map qz∧s'=s∧xs=L.map qV∧ts=(ts.map dTk).map eTk∧TaOk cs s L b (ts.map dTk)∧MetOk (fun b=>tkB cs s L b (ts.map dTk)) es∧es.length≤100000,hs:=[p,r,m],ar:=[.ptr 0 0,.sl (L.map qV),.agg [.v (.int .u64 b)],.mp 2],L0:=Qcb cs s (ts.map dTk) es,v:=aB (tkB cs s L b (ts.map dTk)),L1:=(Qcb cs s (ts.map dTk) (Jq (fun b=>tkB cs s L b (ts.map dTk)) es b)).map some }
   |_=>none
  |_,_=>none
 |_=>none
theorem eAll {A:Frm→Prop} {cs:List Cabin} {s:Int} {L:List Ask}:qm A Tryz.prog 97 (fnE (pAll cs s L)):=qZ fun S bs q h hp=>by
 unfold pAll at h
 split at h
 ·split at h
  ·split at h
   ·cases h
    obtain ⟨h1,h2,h3,h4,h5,h6,h7⟩:=hp
    exact QlG _ _ _ _ _ _ h5 h6 h7
   ·cases h
  ·cases h
 ·cases h
def m2L (cs:List Cabin) (s:Int) (L:List Ask) (sold:List Tk) (es:List (Value × Value)):List AObj:=[qf cs s 1,qh sold,.cells [.ptr 0 0],.cells [.sl (L.map qV)],.cells [.mp 5],.map es]
theorem QcA {cs:List Cabin} {s:Int} {L:List Ask} {sold:List Tk} {es:List (Value × Value)}:∀ i o,qc (qD 0 (m2L cs s L sold es)) i=some o→i < 6∧∀ id ∈ o.ids,id < 6:=by
 intro i o hi
 have h:=qF hi
 simp [qD,m2L] at h
 rcases h with ⟨rfl,rfl⟩|⟨rfl,rfl⟩|⟨rfl,rfl⟩|⟨rfl,rfl⟩|⟨rfl,rfl⟩|⟨rfl,rfl⟩ <;> simp [AObj.ids,AV.ids,AV.idsL,qf,qh]
def m2S (cs:List Cabin) (s:Int) (L:List Ask) (sold:List Tk) (es:List (Value × Value)) (l:List Int) (k:Nat) (b:Int):St:={ t:=asg [(1,.ptr 2 0),(2,.ptr 3 0),(3,.ptr 4 0),(6,.ptr 6 0),(9,ql l),(10,aI l.length),(11,aI k)],h:=qc [(0,qf cs s 1),(1,qh sold),(2,.cells [.ptr 0 0]),(3,.cells [.sl (L.map qV)]),(4,.cells [.mp 5]),(5,.map es),(6,.cells [aU b])],n:=7,m:=6 }
def Zm:=vj @ty3 (vj @ty4 (vj @yf (vj @jL (vj @Yw (vj @QZ (vj @Qgz (vj @Yp (vj @QgQ (vj @ti3.eq_1 (vj @ti4.eq_1 (vj @jK.eq_1 (vj @wY.eq_1 (vj @Wy.eq_1 (vj @kV.eq_1 (vj @KO.eq_1 (vj @ZG.eq_1 @XX.eq_1))))))))))))))))
def ZO:=vj @aI.eq_1 (vj @aB.eq_1 (vj @aU.eq_1 (vj @ql.eq_1 (vj @qU.eq_1 (vj @JN (@jJ))))))
set_option maxHeartbeats 2000000 in
theorem Qhi (cs:List Cabin) (s:Int) (L:List Ask) (sold:List Tk) (es:List (Value × Value)) (l:List Int) (ok:SvOk cs s L sold) (hi:∀ i ∈ l,0≤i∧i < 4) (hl:l.length≤100) (hm:MetOk (fun b=>tkB cs s L b sold) es) (he:es.length≤100000) :
  Fn noB Tryz.prog 95 [ql l,.ptr 2 0,.ptr 3 0,.ptr 4 0] (qc (qD 0 (m2L cs s L sold es))) (aB (tkB cs s L (vY l) sold)) (qc (zm 0 ((m2L cs s L sold (Jq (fun b=>tkB cs s L b sold) es (vY l))).map some))) 0:=by
 have env:Env (fun _=>True) Tryz.prog tyB (tab [(96,qG true JO),(97,fnE (pAll cs s L))]):=qA ⟨QfA,eAll,trivial⟩
 refine Fn.of (A:=fun _=>True) (n0:=6) (D:=noD) (Fn0 Tryz.func95 rfl (fun vs w=>by kernel_rfl) (by kernel_rfl)) (by simp) (by simp [AV.ids,ql]) QcA (fun _ _ _ _=>trivial) qw ?_
 have hset:=Qmh hi
 have hta:=ok.ta hset
 have hmx:(100000:Nat)≤maxLen:=by decide
 show Sym _ _ _ (qX [ql l,.ptr 2 0,.ptr 3 0,.ptr 4 0] 6 (qc [(0,qf cs s 1),(1,qh sold),(2,.cells [.ptr 0 0]),(3,.cells [.sl (L.map qV)]),(4,.cells [.mp 5]),(5,.map es)])) (wK tyB noD Tryz.f95 fun S rv=>Fin S rv (aB (tkB cs s L (vY l) sold)) 6 (qc [(0,qf cs s 1),(1,qh sold),(2,.cells [.ptr 0 0]),(3,.cells [.sl (L.map qV)]),(4,.cells [.mp 5]),(5,.map (Jq (fun b=>tkB cs s L b sold) es (vY l)))]) 0)
 repeat' (first|(apply nx;with_reducible constructor)|refine uq (by decide) ?_|((first|refine vx env fun Q hQ=>?_|refine vz fun Q hQ=>?_);simp only [vkt,seval,Zm,ZO,qf,qh,ite_and];(repeat' first|with_reducible assumption|apply kk|intro hp);all_goals (first|(refine hQ _ ?_;clear hQ Q)|(refine hQ _ (fun h=>?_) (fun h=>?_) <;> clear hQ Q <;> (try simp only [vki,reduceCtorEq] at h))|(refine vq ?_;kernel_rfl)|omega|assumption|with_reducible rfl|skip)))
 refine qC (fun k:{ k:Nat // k≤l.length }=>m2S cs s L sold es l k.1 (vY (l.take k.1))) (fun k=>l.length - k.1) ⟨0,Nat.zero_le _⟩ ?_ fun ⟨k,hk⟩=>?_
 ·simp only [m2S,List.take_zero,show vY []=0 from rfl]
  (refine Le.ok some [] ?_;constructor;all_goals (try simp only [vle,vkt,seval,ZO,qf,qh]))
  all_goals first|rfl|simp
 simp only at hk ⊢
 by_cases hkl:k < l.length
 ·have d1:decide ((k:Int) < (l.length:Int))=true:=decide_eq_true (by omega)
  have e9:=k9 k (by omega)
  have k0:((k:Int)).toNat=k:=rfl
  have hS:=QdO hkl
  have hg:=hInt hkl
  have hib:=hi _ (wC (d:=0) hkl)
  obtain ⟨i,hie⟩:∃ i,l.getD k 0=i:=⟨_,rfl⟩
  rw [hie] at hS hg hib
  obtain ⟨b,hb⟩:∃ b,vY (l.take k)=b:=⟨_,rfl⟩
  rw [hb] at hS
  have i1:0≤i:=hib.1
  simp only [m2S,hb]
  repeat' (first|(apply nx;with_reducible constructor)|refine uq (by decide) ?_|((first|refine vx env fun Q hQ=>?_|refine vz fun Q hQ=>?_);simp only [vkt,seval,Zm,ZO,qf,qh,JO,d1,e9,k0,hkl,hie,i1,ite_and];(repeat' first|with_reducible assumption|apply kk|intro hp);all_goals (first|(refine hQ _ ?_;clear hQ Q)|(refine hQ _ (fun h=>?_) (fun h=>?_) <;> clear hQ Q <;> (try simp only [reduceCtorEq] at h))|(refine vq ?_;kernel_rfl)|omega|assumption|with_reducible rfl|skip)))
  refine ⟨⟨k+1,hkl⟩,by show l.length - (k+1) < l.length - k;omega, ?_⟩
  simp only [hS]
  (refine Le.ok some [] ?_;constructor;all_goals (try simp only [vle,vkt,seval,ZO,qf,qh]))
  all_goals first|rfl|simp
 ·have d1:decide ((k:Int) < (l.length:Int))=false:=decide_eq_false (by omega)
  obtain rfl:k=l.length:=by omega
  rw [List.take_length]
  obtain ⟨b,hb⟩:∃ b,vY l=b:=⟨_,rfl⟩
  rw [hb] at hta ⊢
  obtain ⟨w,hw⟩:∃ w,tkB cs s L b sold=w:=⟨_,rfl⟩
  obtain ⟨es',hes⟩:∃ e,Jq (fun b=>tkB cs s L b sold) es b=e:=⟨_,rfl⟩
  rw [hw,hes]
  simp only [m2S]
  repeat' (first|(apply nx;with_reducible constructor)|refine uq (by decide) ?_|((first|refine vx env fun Q hQ=>?_|refine vz fun Q hQ=>?_);simp only [vkt,seval,Zm,ZO,mTk,qf,qh,Qcb,pAll,d1,hta,hm,he,hw,hes,ite_and];(repeat' first|with_reducible assumption|apply kk|intro hp);all_goals (first|(refine hQ _ ?_;clear hQ Q)|(refine hQ _ (fun h=>?_) (fun h=>?_) <;> clear hQ Q <;> (try simp only [reduceCtorEq] at h))|(refine vq ?_;kernel_rfl)|omega|assumption|with_reducible rfl|skip)))
  (simp only [vrt,Tryz.results95,vkt,seval,ZO,qf,qh];refine Fin.ok some [] ?_ ?_ ?_ ?_ ?_ rfl;all_goals (try simp only [vle,vkt,seval]))
  all_goals first|rfl|(simp;done)|exact fun i hi=>(match i,hi with|0,_=>rfl|1,_=>rfl|2,_=>rfl|3,_=>rfl|4,_=>rfl|5,_=>rfl)
abbrev Es:=List (Value × Value)
noncomputable def lsR (g:Nat→Es→Option (List Int) × Es):Nat→Nat→Es→Option (List Int) × Es
 |0,_,es=>(none,es)
 |c+1,j,es=>if (g j es).1.isSome then g j es else lsR g c (j+1) (g j es).2
noncomputable def lsM (f:Int→Bool) (n:Nat):Nat→List Int→Nat→Es→Option (List Int) × Es
 |0,l,_,es=>(if f (vY l) then some l else none,Jq f es (vY l))
 |m+1,l,j,es=>lsR (fun j es=>lsM f n m (l++[((j:Nat):Int)]) (j+1) es) (n - j) j es
theorem Qae {P:Es→Prop} {g:Nat→Es→Option (List Int) × Es} (h:∀ j es,P es→P (g j es).2):∀ c j es,P es→P (lsR g c j es).2
 |0,_,_,hp=>hp
 |c+1,j,es,hp=>by
  rw [lsR]
  split
  ·exact h j es hp
  ·exact Qae h c _ _ (h j es hp)
theorem Qbd {f:Int→Bool} {n:Nat}:∀ (m:Nat) (l:List Int) (j:Nat) (es:Es),MetOk f es→MetOk f (lsM f n m l j es).2
 |0,l,_,es,h=>Qky h _
 |m+1,l,j,es,h=>Qae (P:=MetOk f) (fun j es h=>Qbd m _ _ es h) _ _ _ h
theorem Qde {d:Nat} {g:Nat→Es→Option (List Int) × Es} (h:∀ j es,(g j es).2.length≤es.length+d):∀ c j es,(lsR g c j es).2.length≤es.length+c * d
 |0,_,es=>by simp [lsR]
 |c+1,j,es=>by
  rw [lsR,Nat.succ_mul]
  have h1:=h j es
  split
  ·omega
  ·have:=Qde h c (j+1) (g j es).2
   omega
theorem RP {f:Int→Bool} {n:Nat} (hn:n≤4):∀ (m:Nat) (l:List Int) (j:Nat) (es:Es),(lsM f n m l j es).2.length≤es.length+4 ^ m
 |0,l,_,es=>QgE f es _
 |m+1,l,j,es=>by
  have h:=Qde (d:=4 ^ m) (g:=fun j es=>lsM f n m (l++[((j:Nat):Int)]) (j+1) es) (fun j es=>RP hn m _ _ es) (n - j) j es
  have h2:(n - j) * 4 ^ m≤4 * 4 ^ m:=Nat.mul_le_mul_right _ (by omega)
  rw [Nat.pow_succ,Nat.mul_comm (4 ^ m) 4]
  show (lsR _ (n - j) j es).2.length≤_
  omega
structure LmOk (cs:List Cabin) (s:Int) (L:List Ask) (sold:List Tk) (l:List Int) (f m:Nat) (es:Es):Prop where
 sv:SvOk cs s L sold
 len:l.length+m≤4
 from':f≤L.length∨m=0
 mem:∀ i ∈ l,0≤i∧i < 4
 met:MetOk (fun b=>tkB cs s L b sold) es
 cap:es.length+4 ^ m≤10000
def lmL (cs:List Cabin) (s:Int) (L:List Ask) (sold:List Tk) (many:Nat) (o:Option (List Int)) (es:Es):List AObj:=[qf cs s 1,qh sold,.cells [.ptr 0 0],.cells [.sl (L.map qV)],.cells [.mp 5],.map es,
 .cells [aI many],.cells [.clo 95 [.ptr 2 0,.ptr 3 0,.ptr 4 0]],.cells [.sl ((o.getD []).map qU)],.cells [aB o.isSome],.cells [aI L.length],.cells [.clo 109 [.ptr 6 0,.ptr 7 0,.ptr 8 0,.ptr 9 0,.ptr 10 0,.ptr 11 0]]]
theorem Qdi {cs:List Cabin} {s:Int} {L:List Ask} {sold:List Tk} {many:Nat} {o:Option (List Int)} {es:Es}:∀ i ob,qc (qD 0 (lmL cs s L sold many o es)) i=some ob→i < 12∧∀ id ∈ ob.ids,id < 12:=by
 intro i ob hi
 have h:=qF hi
 simp [qD,lmL] at h
 rcases h with ⟨rfl,rfl⟩|⟨rfl,rfl⟩|⟨rfl,rfl⟩|⟨rfl,rfl⟩|⟨rfl,rfl⟩|⟨rfl,rfl⟩|⟨rfl,rfl⟩|⟨rfl,rfl⟩|⟨rfl,rfl⟩|⟨rfl,rfl⟩|⟨rfl,rfl⟩|⟨rfl,rfl⟩ <;> simp [AObj.ids,AV.ids,AV.idsL,qf,qh,aI,aB]
def LmFn (cs:List Cabin) (s:Int) (L:List Ask) (sold:List Tk) (many m:Nat):Prop:=∀ (l:List Int) (f:Nat) (es:Es),l.length+m=many→LmOk cs s L sold l f m es →
 Fn noB Tryz.prog 109 [ql l,aI f,.ptr 6 0,.ptr 7 0,.ptr 8 0,.ptr 9 0,.ptr 10 0,.ptr 11 0] (qc (qD 0 (lmL cs s L sold many none es))) (.tup []) (qc (zm 0 ((lmL cs s L sold many (lsM (fun b=>tkB cs s L b sold) L.length m l f es).1 (lsM (fun b=>tkB cs s L b sold) L.length m l f es).2).map some))) 0
noncomputable def pM2 (cs:List Cabin) (s:Int) (L:List Ask) (sold:List Tk) (S:St):List AV→Option Pk
 |[.sl xs,.ptr p2 0,.ptr p3 0,.ptr p4 0]=>match S.h p2,S.h p4 with
  |some (.cells [.ptr p0 0]),some (.cells [.mp p5])=>match S.h p0,S.h p5 with
   |some (.cells [_,_,.row p1]),some (.map es)=>some { pre:=xs=(xs.map qM).map qU∧SvOk cs s L sold∧(∀ i ∈ xs.map qM,0≤i∧i < 4)∧(xs.map qM).length≤100∧MetOk (fun b=>tkB cs s L b sold) es∧es.length≤100000,hs:=[p0,p1,p2,p3,p4,p5],ar:=[.sl xs,.ptr 2 0,.ptr 3 0,.ptr 4 0],L0:=m2L cs s L sold es,v:=aB (tkB cs s L (vY (xs.map qM)) sold),L1:=(m2L cs s L sold (Jq (fun b=>tkB cs s L b sold) es (vY (xs.map qM)))).map some }
   |_,_=>none
  |_,_=>none
 |_=>none
theorem eM2 {A:Frm→Prop} {cs:List Cabin} {s:Int} {L:List Ask} {sold:List Tk}:qm A Tryz.prog 95 (fnE (pM2 cs s L sold)):=qZ fun S bs q h hp=>by
 unfold pM2 at h
 split at h
 ·split at h
  ·split at h
   ·cases h
    obtain ⟨h1,h2,h3,h4,h5,h6⟩:=hp
    have:=Qhi cs s L sold _ _ h2 h3 h4 h5 h6
    rw [ql,← h1] at this
    exact this
   ·cases h
  ·cases h
 ·cases h
noncomputable def pLm1 (cs:List Cabin) (s:Int) (L:List Ask) (sold:List Tk) (many m:Nat) (S:St):List AV→Option Pk
 |[.row q,.v (.int .i64 f),.ptr p6 0,.ptr p7 0,.ptr p8 0,.ptr p9 0,.ptr p10 0,.ptr p11 0]=>match S.h q,S.h p7 with
  |some (.row _ _ xs),some (.cells [.clo _ [.ptr p2 0,.ptr p3 0,.ptr p4 0]])=>match S.h p2,S.h p4 with
   |some (.cells [.ptr p0 0]),some (.cells [.mp p5])=>match S.h p0,S.h p5 with
    |some (.cells [_,_,.row p1]),some (.map es)=>some { pre:=xs=(xs.map qM).map qU∧f=(f.toNat:Int)∧(xs.map qM).length+m=many∧LmOk cs s L sold (xs.map qM) f.toNat m es,hs:=[p0,p1,p2,p3,p4,p5,p6,p7,p8,p9,p10,p11],bo:=[q],ar:=[.sl xs,.v (.int .i64 f),.ptr 6 0,.ptr 7 0,.ptr 8 0,.ptr 9 0,.ptr 10 0,.ptr 11 0],L0:=lmL cs s L sold many none es,v:=.tup [],L1:=(lmL cs s L sold many (lsM (fun b=>tkB cs s L b sold) L.length m (xs.map qM) f.toNat es).1 (lsM (fun b=>tkB cs s L b sold) L.length m (xs.map qM) f.toNat es).2).map some }
    |_,_=>none
   |_,_=>none
  |_,_=>none
 |_=>none
theorem eLm1 {A:Frm→Prop} {cs:List Cabin} {s:Int} {L:List Ask} {sold:List Tk} {many m:Nat} (ih:LmFn cs s L sold many m):qm A Tryz.prog 109 (fnE (pLm1 cs s L sold many m)):=qZ fun S bs q h hp=>by
 unfold pLm1 at h
 split at h
 ·split at h
  ·split at h
   ·split at h
    ·cases h
     obtain ⟨h1,h2,h3,h4⟩:=hp
     have:=ih _ _ _ h3 h4
     rw [ql,← h1,aI,← h2] at this
     exact this
    ·cases h
   ·cases h
  ·cases h
 ·cases h
def lmS (cs:List Cabin) (s:Int) (L:List Ask) (sold:List Tk) (many:Nat) (l:List Int) (i:Nat) (o:Option (List Int)) (es:Es):St:={ t:=asg [(0,ql l),(2,.ptr 6 0),(3,.ptr 7 0),(4,.ptr 8 0),(5,.ptr 9 0),(6,.ptr 10 0),(7,.ptr 11 0),(10,aI i)],h:=qc [(0,qf cs s 1),(1,qh sold),(2,.cells [.ptr 0 0]),(3,.cells [.sl (L.map qV)]),(4,.cells [.mp 5]),(5,.map es),(6,.cells [aI many]),(7,.cells [.clo 95 [.ptr 2 0,.ptr 3 0,.ptr 4 0]]),(8,.cells [.sl ((o.getD []).map qU)]),(9,.cells [aB o.isSome]),(10,.cells [aI L.length]),(11,.cells [.clo 109 [.ptr 6 0,.ptr 7 0,.ptr 8 0,.ptr 9 0,.ptr 10 0,.ptr 11 0]])],n:=12,m:=12 }
def ji:=vj @ty3 (vj @ty4 (vj @yf (vj @QkJ (vj @QcC (vj @ti3.eq_1 (vj @ti4.eq_1 (vj @jK.eq_1 (vj @QaA.eq_1 @Y7.eq_1))))))))
def jI:=vj @aI.eq_1 (vj @aB.eq_1 (vj @ql.eq_1 (vj @qU.eq_1 (vj @JN (vj @Xw (@jJ))))))
set_option maxHeartbeats 4000000 in
theorem Xj (cs:List Cabin) (s:Int) (L:List Ask) (sold:List Tk) (many m:Nat) (ih:∀ m',m=m'+1→LmFn cs s L sold many m'):LmFn cs s L sold many m:=by
 intro l f es0 hlm ok
 have hlen:=ok.len
 have h4:=ok.sv.four
 have hcap:=ok.cap
 have hmx:(100000:Nat)≤maxLen:=by decide
 have hmm:l.length≤100000:=by omega
 have hml1:l.length+1≤maxLen:=by omega
 obtain ⟨F,hF⟩:∃ F:Int→Bool,(fun b=>tkB cs s L b sold)=F:=⟨_,rfl⟩
 have hFb:∀ b,tkB cs s L b sold=F b:=fun b=>congrFun hF b
 obtain ⟨n,hn⟩:∃ n,L.length=n:=⟨_,rfl⟩
 rw [hn] at h4
 have hmet:=ok.met
 rw [hF] at hmet ⊢
 have hsv:=ok.sv
 cases m with
 |zero =>
  have env:Env (fun _=>True) Tryz.prog tyB (tab [(95,fnE (pM2 cs s L sold))]):=qA ⟨eM2,trivial⟩
  refine Fn.of (A:=fun _=>True) (n0:=12) (D:=noD) (Fn0 Tryz.func109 rfl (fun vs w=>by kernel_rfl) (by kernel_rfl)) (by simp) (by simp [AV.ids,ql,aI]) Qdi (fun _ _ _ _=>trivial) qw ?_
  have hmem:=ok.mem
  have hl1:l.length≤100:=by omega
  have he1:es0.length≤100000:=by omega
  have d0:decide ((l.length:Int)=(many:Int))=true:=decide_eq_true (by omega)
  rw [lsM]
  show Sym _ _ _ (qX [ql l,aI f,.ptr 6 0,.ptr 7 0,.ptr 8 0,.ptr 9 0,.ptr 10 0,.ptr 11 0] 12 (lmS cs s L sold many l f none es0).h) (wK tyB noD Tryz.f109 fun S rv=>Fin S rv _ 12 (lmS cs s L sold many l f (if F (vY l) then some l else none) (Jq F es0 (vY l))).h 0)
  obtain ⟨E,hE⟩:∃ e,Jq F es0 (vY l)=e:=⟨_,rfl⟩
  rw [hE]
  cases hW:F (vY l) with
  |false =>
   rw [if_neg (by decide)]
   repeat' (first|(apply nx;with_reducible constructor)|refine uq (by decide) ?_|((first|refine vx env fun Q hQ=>?_|refine vz fun Q hQ=>?_);simp only [vkt,seval,ji,jI,qf,qh,m2L,lmS,pM2,d0,hsv,hl1,hFb,hmet,he1,hE,hW,Option.getD_none,Option.isSome_none,ite_and];(repeat' first|with_reducible assumption|apply kk|intro hp);all_goals (first|(refine hQ _ ?_;clear hQ Q)|(refine hQ _ (fun h=>?_) (fun h=>?_) <;> clear hQ Q <;> (try simp only [reduceCtorEq] at h))|(refine vq ?_;kernel_rfl)|omega|assumption|with_reducible rfl|skip)))
   (simp only [vrt,Tryz.results109,vkt,seval,jI,qf,qh,lmS];refine Fin.ok some [] ?_ ?_ ?_ ?_ ?_ rfl;all_goals (try simp only [vle,vkt,seval]))
   all_goals (try simp only [Option.getD_none,Option.isSome_none])
   all_goals first|rfl|simp
  |true =>
   rw [if_pos rfl]
   repeat' (first|(apply nx;with_reducible constructor)|refine uq (by decide) ?_|((first|refine vx env fun Q hQ=>?_|refine vz fun Q hQ=>?_);simp only [vkt,seval,ji,jI,qf,qh,m2L,lmS,pM2,d0,hsv,hl1,hFb,hmet,he1,hE,hW,Option.getD_none,Option.isSome_none,ite_and];(repeat' first|with_reducible assumption|apply kk|intro hp);all_goals (first|(refine hQ _ ?_;clear hQ Q)|(refine hQ _ (fun h=>?_) (fun h=>?_) <;> clear hQ Q <;> (try simp only [reduceCtorEq] at h))|(refine vq ?_;kernel_rfl)|omega|assumption|with_reducible rfl|skip)))
   (simp only [vrt,Tryz.results109,vkt,seval,jI,qf,qh,lmS];refine Fin.ok some [] ?_ ?_ ?_ ?_ ?_ rfl;all_goals (try simp only [vle,vkt,seval]))
   all_goals (try simp only [Option.getD_some,Option.isSome_some])
   all_goals first|rfl|simp
 |succ m =>
  have env:Env (fun _=>True) Tryz.prog tyB (tab [(110,fnE Z0),(109,fnE (pLm1 cs s L sold many m))]):=qA ⟨Qcw,eLm1 (ih m rfl),trivial⟩
  refine Fn.of (A:=fun _=>True) (n0:=12) (D:=noD) (Fn0 Tryz.func109 rfl (fun vs w=>by kernel_rfl) (by kernel_rfl)) (by simp) (by simp [AV.ids,ql,aI]) Qdi (fun _ _ _ _=>trivial) qw ?_
  have d0:decide ((l.length:Int)=(many:Int))=false:=decide_eq_false (by omega)
  have hfn:f≤n:=by have:=ok.from';omega
  have h4m:0 < 4 ^ m:=Nat.pow_pos (by decide)
  rw [Nat.pow_succ] at hcap
  rw [lsM,hn]
  obtain ⟨g,hg⟩:∃ g:Nat→Es→Option (List Int) × Es,(fun (j:Nat) es=>lsM F n m (l++[((j:Nat):Int)]) (j+1) es)=g:=⟨_,rfl⟩
  have hgj:∀ j es,lsM F n m (l++[((j:Nat):Int)]) (j+1) es=g j es:=fun j es=>congrFun (congrFun hg j) es
  rw [hg]
  show Sym _ _ _ (qX [ql l,aI f,.ptr 6 0,.ptr 7 0,.ptr 8 0,.ptr 9 0,.ptr 10 0,.ptr 11 0] 12 (lmS cs s L sold many l f none es0).h) (wK tyB noD Tryz.f109 fun S rv=>Fin S rv _ 12 (lmS cs s L sold many l f (lsR g (n - f) f es0).1 (lsR g (n - f) f es0).2).h 0)
  repeat' (first|(apply nx;with_reducible constructor)|refine uq (by decide) ?_|((first|refine vx env fun Q hQ=>?_|refine vz fun Q hQ=>?_);simp only [vkt,seval,ji,jI,qf,qh,lmS,d0,Option.getD_none,Option.isSome_none,ite_and];(repeat' first|with_reducible assumption|apply kk|intro hp);all_goals (first|(refine hQ _ ?_;clear hQ Q)|(refine hQ _ (fun h=>?_) (fun h=>?_) <;> clear hQ Q <;> (try simp only [reduceCtorEq] at h))|(refine vq ?_;kernel_rfl)|omega|assumption|with_reducible rfl|skip)))
  refine qC (fun x:{ x:Nat × Option (List Int) × Es // x.1≤n - f∧MetOk F x.2.2∧x.2.2.length≤es0.length+x.1 * 4 ^ m∧((x.2.1=none∧lsR g (n - f) f es0=lsR g (n - f - x.1) (f+x.1) x.2.2)∨∃ t,x.2.1=some t∧lsR g (n - f) f es0=(some t,x.2.2)) }=>lmS cs s L sold many l (f+x.1.1) x.1.2.1 x.1.2.2) (fun x=>n - f - x.1.1) ⟨(0,none,es0),Nat.zero_le _,hmet,by simp,.inl ⟨rfl,rfl⟩⟩ ?_ fun ⟨(k,o,es),hk,hme,hle,ho⟩=>?_
  ·show Le _ (lmS cs s L sold many l f none es0)
   unfold lmS
   (refine Le.ok some [] ?_;constructor;all_goals (try simp only [vle,vkt,seval,jI,qf,qh]))
   all_goals first|rfl|simp
  simp only at hk hme hle ho ⊢
  rcases ho with ⟨rfl,hno⟩|⟨t,rfl,ht⟩
  ·by_cases hkl:k < n - f
   ·have d1:decide (((f+k:Nat):Int) < (n:Int))=true:=decide_eq_true (by omega)
    have w1:IntKind.wrap .i64 (((f+k:Nat):Int)+1)=((f+k+1:Nat):Int):=by rw [wrap64 (by omega) (by omega)];rfl
    have hla:l.map qU++[[.v (.int .i64 ((f+k:Nat):Int))]]=(l++[((f+k:Nat):Int)]).map qU:=by rw [List.map_append];rfl
    have hll:(l++[((f+k:Nat):Int)]).length=l.length+1:=by simp
    have hnm:l.length+1+m=many:=by omega
    have i0:(((f+k+1:Nat):Int)).toNat=f+k+1:=rfl
    have hkm:k * 4 ^ m+4 ^ m≤4 * 4 ^ m:=by
     rw [← Nat.succ_mul]
     exact Nat.mul_le_mul_right _ (by omega)
    have hok:LmOk cs s L sold (l++[((f+k:Nat):Int)]) (f+k+1) m es:=⟨hsv,by rw [hll];omega,.inl (by omega),fun i hi=>by
     rcases List.mem_append.1 hi with hi|hi
     ·exact ok.mem i hi
     ·rw [List.mem_singleton.1 hi];omega,by rw [hF];exact hme,by omega⟩
    have hlen2:=RP (f:=F) h4 m (l++[((f+k:Nat):Int)]) (f+k+1) es
    have hmet2:=Qbd (f:=F) (n:=n) m (l++[((f+k:Nat):Int)]) (f+k+1) es hme
    have hstep:lsR g (n - f - k) (f+k) es=if (g (f+k) es).1.isSome then g (f+k) es else lsR g (n - f - (k+1)) (f+(k+1)) (g (f+k) es).2:=by
     obtain ⟨c,hc⟩:∃ c,n - f - k=c+1:=⟨n - f - k - 1,by omega⟩
     rw [hc,lsR,show n - f - (k+1)=c by omega]
     rfl
    rw [hgj] at hlen2 hmet2
    have hgk:=hgj (f+k) es
    obtain ⟨⟨o',e'⟩,ho'⟩:∃ o',g (f+k) es=o':=⟨_,rfl⟩
    rw [ho'] at hlen2 hmet2 hstep hgk
    simp only at hlen2 hmet2 hstep
    have hl3:e'.length≤es0.length+(k+1) * 4 ^ m:=by rw [Nat.succ_mul];omega
    repeat' (first|(apply nx;with_reducible constructor)|refine uq (by decide) ?_|((first|refine vx env fun Q hQ=>?_|refine vz fun Q hQ=>?_);simp only [vkt,seval,ji,jI,qf,qh,lmL,lmS,pLm1,Z0,hn,hF,d1,w1,hla,hll,hnm,i0,hok,hgk,hmm,hml1,Option.getD_none,Option.isSome_none,ite_and];(repeat' first|with_reducible assumption|apply kk|intro hp);all_goals (first|(refine hQ _ ?_;clear hQ Q)|(refine hQ _ (fun h=>?_) (fun h=>?_) <;> clear hQ Q <;> (try simp only [reduceCtorEq] at h))|(refine vq ?_;kernel_rfl)|omega|assumption|with_reducible rfl|skip)))
    ·exact ⟨_,_,rfl⟩
    refine ⟨⟨(k+1,o',e'),by show k+1≤n - f;omega,hmet2,hl3, ?_⟩,by show n - f - (k+1) < n - f - k;omega, ?_⟩
    ·cases o' with
     |none=>exact .inl ⟨rfl,by rw [hno,hstep];rfl⟩
     |some t=>exact .inr ⟨t,rfl,by rw [hno,hstep];rfl⟩
    ·show Le _ (lmS cs s L sold many l (f+k+1) o' e')
     unfold lmS
     rw [hn]
     (refine Le.ok some [] ?_;constructor;all_goals (try simp only [vle,vkt,seval,jI,qf,qh]))
     all_goals first|rfl|simp
   ·have d1:decide (((f+k:Nat):Int) < (n:Int))=false:=decide_eq_false (by omega)
    rw [hno,show n - f - k=0 by omega,lsR]
    repeat' (first|(apply nx;with_reducible constructor)|refine uq (by decide) ?_|((first|refine vx env fun Q hQ=>?_|refine vz fun Q hQ=>?_);simp only [vkt,seval,ji,jI,qf,qh,lmS,hn,d1,Option.getD_none,Option.isSome_none,ite_and];(repeat' first|with_reducible assumption|apply kk|intro hp);all_goals (first|(refine hQ _ ?_;clear hQ Q)|(refine hQ _ (fun h=>?_) (fun h=>?_) <;> clear hQ Q <;> (try simp only [reduceCtorEq] at h))|(refine vq ?_;kernel_rfl)|omega|assumption|with_reducible rfl|skip)))
    (simp only [vrt,Tryz.results109,vkt,seval,jI,qf,qh,lmS];refine Fin.ok some [] ?_ ?_ ?_ ?_ ?_ rfl;all_goals (try simp only [vle,vkt,seval]))
    all_goals (try simp only [hn,Option.getD_none,Option.isSome_none])
    all_goals first|rfl|simp
  ·rw [ht]
   by_cases hkl:f+k < n
   ·have d1:decide (((f+k:Nat):Int) < (n:Int))=true:=decide_eq_true (by omega)
    repeat' (first|(apply nx;with_reducible constructor)|refine uq (by decide) ?_|((first|refine vx env fun Q hQ=>?_|refine vz fun Q hQ=>?_);simp only [vkt,seval,ji,jI,qf,qh,lmS,hn,d1,ite_and];(repeat' first|with_reducible assumption|apply kk|intro hp);all_goals (first|(refine hQ _ ?_;clear hQ Q)|(refine hQ _ (fun h=>?_) (fun h=>?_) <;> clear hQ Q <;> (try simp only [reduceCtorEq] at h))|(refine vq ?_;kernel_rfl)|omega|assumption|with_reducible rfl|skip)))
    (simp only [vrt,Tryz.results109,vkt,seval,jI,qf,qh,lmS];refine Fin.ok some [] ?_ ?_ ?_ ?_ ?_ rfl;all_goals (try simp only [vle,vkt,seval]))
    all_goals (try simp only [hn])
    all_goals first|rfl|simp
   ·have d1:decide (((f+k:Nat):Int) < (n:Int))=false:=decide_eq_false (by omega)
    repeat' (first|(apply nx;with_reducible constructor)|refine uq (by decide) ?_|((first|refine vx env fun Q hQ=>?_|refine vz fun Q hQ=>?_);simp only [vkt,seval,ji,jI,qf,qh,lmS,hn,d1,ite_and];(repeat' first|with_reducible assumption|apply kk|intro hp);all_goals (first|(refine hQ _ ?_;clear hQ Q)|(refine hQ _ (fun h=>?_) (fun h=>?_) <;> clear hQ Q <;> (try simp only [reduceCtorEq] at h))|(refine vq ?_;kernel_rfl)|omega|assumption|with_reducible rfl|skip)))
    (simp only [vrt,Tryz.results109,vkt,seval,jI,qf,qh,lmS];refine Fin.ok some [] ?_ ?_ ?_ ?_ ?_ rfl;all_goals (try simp only [vle,vkt,seval]))
    all_goals (try simp only [hn])
    all_goals first|rfl|simp
theorem Yr (cs:List Cabin) (s:Int) (L:List Ask) (sold:List Tk) (many:Nat):∀ m,LmFn cs s L sold many m
 |0=>Xj cs s L sold many 0 fun _ h=>by omega
 |m+1=>Xj cs s L sold many (m+1) fun m' h=>by
  obtain rfl:m=m':=by omega
  exact Yr cs s L sold many m
def YA (P:Int) (l:List Ask):Int:=match l.findIdx? (fun x=>decide (x.party=P)) with
 |some i=>(i:Int)
 |none=>-1
theorem Qgl {P:Int} {l:List Ask} {k:Nat} (hk:k < l.length) (h:∀ j,j < k→decide ((l.getD j default).party=P)=false) (hp:decide ((l.getD k default).party=P)=true):YA P l=(k:Int):=by
 have:l.findIdx? (fun x=>decide (x.party=P))=some k:=by
  rw [List.findIdx?_eq_some_iff_getElem]
  refine ⟨hk,by simpa [List.getD_eq_getElem?_getD,hk] using hp,fun j hj=>?_⟩
  have:=h j hj
  simpa [List.getD_eq_getElem?_getD,show j < l.length by omega] using this
 simp [YA,this]
theorem Qe9 {P:Int} {l:List Ask} (h:∀ j,j < l.length→decide ((l.getD j default).party=P)=false):YA P l=-1:=by
 have:l.findIdx? (fun x=>decide (x.party=P))=none:=by
  rw [List.findIdx?_eq_none_iff]
  intro x hx
  obtain ⟨j,hj,rfl⟩:=List.mem_iff_getElem.1 hx
  have:=h j hj
  simpa [List.getD_eq_getElem?_getD,hj] using this
 simp [YA,this]
theorem QfU (P:Int) (l:List Ask):decide (0≤YA P l)=l.any fun x=>decide (x.party=P):=by
 unfold YA
 cases h:l.findIdx? (fun x=>decide (x.party=P)) with
 |none =>
  rw [List.findIdx?_eq_none_iff] at h
  symm
  simpa using h
 |some i =>
  rw [List.findIdx?_eq_some_iff_getElem] at h
  obtain ⟨hi,hp,_⟩:=h
  symm
  simp only [Int.natCast_nonneg,decide_true,List.any_eq_true]
  exact ⟨_,List.getElem_mem hi,hp⟩
def UI:=vj @ty3 (vj @jL (vj @ti3.eq_1 @wY.eq_1))
def Qkx:=vj @aI.eq_1 (@aB.eq_1)
theorem QgN (a x:Ask):Fn noB Tryz.prog 94 [qI x,.ptr 0 0] (qc [(0,.cells (qg a))]) (aB (decide (x.party=a.party))) (qc [(0,.cells (qg a))]) 0:=by
 have env:Env (fun _=>True) Tryz.prog tyB (tab []):=qA trivial
 refine Fn.of (A:=fun _=>True) (n0:=1) (D:=noD) (Fn0 Tryz.func94 rfl (fun vs w=>by kernel_rfl) (by kernel_rfl)) (by simp) (by simp [AV.ids,AV.idsL,qI,qg]) ?_ (fun _ _ _ _=>trivial) qw ?_
 ·intro i o hi
  have h:=qF hi
  simp at h;obtain ⟨rfl,rfl⟩:=h;simp [qg,AObj.ids,AV.ids,AV.idsL]
 repeat' (first|(apply nx;with_reducible constructor)|refine uq (by decide) ?_|((first|refine vx env fun Q hQ=>?_|refine vz fun Q hQ=>?_);simp only [vkt,seval,UI,qI,qg,ite_and];(repeat' first|with_reducible assumption|apply kk|intro hp);all_goals (first|(refine hQ _ ?_;clear hQ Q)|(refine hQ _ (fun h=>?_) (fun h=>?_) <;> clear hQ Q <;> (try simp only [vki,reduceCtorEq] at h))|(refine vq ?_;kernel_rfl)|omega|assumption|with_reducible rfl|skip)))
 all_goals (simp only [vrt,Tryz.results94,vkt,seval,Qkx,qg];refine Fin.ok some [] ?_ ?_ ?_ ?_ ?_ rfl;all_goals (try simp only [vle,vkt,seval]))
 all_goals first|rfl|simp
def Qfx (S:St):List AV→Option Pk
 |[.agg [.v (.int .i64 a),.v (.int .i64 b),.v (.int .i64 c),.sl d,.v (.bool e)],.ptr t 0]=>match S.h t with
  |some (.cells [.v (.int .i64 a'),.v (.int .i64 b'),.v (.int .i64 c'),.sl d',.v (.bool e')])=>some { pre:=d=(d.map qM).map qU∧d'=(d'.map qM).map qU,hs:=[t],ar:=[.agg [.v (.int .i64 a),.v (.int .i64 b),.v (.int .i64 c),.sl d,.v (.bool e)],.ptr 0 0],L0:=[.cells [.v (.int .i64 a'),.v (.int .i64 b'),.v (.int .i64 c'),.sl d',.v (.bool e')]],v:=aB (decide (a=a')),L1:=[some (.cells [.v (.int .i64 a'),.v (.int .i64 b'),.v (.int .i64 c'),.sl d',.v (.bool e')])] }
  |_=>none
 |_=>none
theorem eMo1 {A:Frm→Prop}:qm A Tryz.prog 94 (fnE Qfx):=qZ fun S bs q h hp=>by
 unfold Qfx at h
 split at h
 ·split at h
  ·rename_i a b c d e t _ a' b' c' d' e' _
   cases h
   obtain ⟨h1,h2⟩:=hp
   have:=QgN ⟨a',b',c',d'.map qM,e'⟩ ⟨a,b,c,d.map qM,e⟩
   simp only [qI,qg,← h1,← h2] at this
   exact this
  ·cases h
 ·cases h
def ixaS (l:List Ask) (a:Ask) (k:Nat):St:={ t:=asg [(0,qB l),(1,.clo 94 [.ptr 0 0]),(4,aI 0),(6,qB l),(7,aI l.length),(8,aI k)],h:=qc [(0,.cells (qg a))],n:=1,m:=1 }
def xG:=vj @ty3 (vj @jL (vj @Yw (vj @ti3.eq_1 (vj @wY.eq_1 @Wy.eq_1))))
def QC:=vj @aI.eq_1 (vj @aB.eq_1 (@jJ))
theorem Qd9 (a:Ask) (l:List Ask) (hl:l.length≤100):Fn noB Tryz.prog 126 [qB l,.clo 94 [.ptr 0 0]] (qc [(0,.cells (qg a))]) (aI (YA a.party l)) (qc [(0,.cells (qg a))]) 0:=by
 have env:Env (fun _=>True) Tryz.prog tyB (tab [(94,fnE Qfx)]):=qA ⟨eMo1,trivial⟩
 refine Fn.of (A:=fun _=>True) (n0:=1) (D:=noD) (Fn0 Tryz.func126 rfl (fun vs w=>by kernel_rfl) (by kernel_rfl)) (by simp) (by simp [AV.ids,AV.idsL,qB]) ?_ (fun _ _ _ _=>trivial) qw ?_
 ·intro i o hi
  have h:=qF hi
  simp at h;obtain ⟨rfl,rfl⟩:=h;simp [qg,AObj.ids,AV.ids,AV.idsL]
 repeat' (first|(apply nx;with_reducible constructor)|refine uq (by decide) ?_|((first|refine vx env fun Q hQ=>?_|refine vz fun Q hQ=>?_);simp only [vkt,seval,xG,qg,qB,ite_and];(repeat' first|with_reducible assumption|apply kk|intro hp);all_goals (first|(refine hQ _ ?_;clear hQ Q)|(refine hQ _ (fun h=>?_) (fun h=>?_) <;> clear hQ Q <;> (try simp only [vki,reduceCtorEq] at h))|(refine vq ?_;kernel_rfl)|omega|assumption|with_reducible rfl|skip)))
 refine qC (fun k:{ k:Nat // k≤l.length∧∀ j,j < k→decide ((l.getD j default).party=a.party)=false }=>ixaS l a k.1) (fun k=>l.length - k.1) ⟨0,Nat.zero_le _,fun j h=>absurd h (Nat.not_lt_zero _)⟩ ?_ fun ⟨k,hk,hno⟩=>?_
 ·(refine Le.ok some [] ?_;constructor;all_goals (try simp only [vle,vkt,seval,QC,qg,qB]))
  all_goals first|rfl|simp
 simp only at hk hno ⊢
 simp only [ixaS]
 by_cases hlt:k < l.length
 ·have d1:decide ((k:Int) < (l.length:Int))=true:=decide_eq_true (by omega)
  have e9:=k9 k (by omega)
  have k0:((k:Int)).toNat=k:=rfl
  have hg:=Vv hlt
  obtain ⟨x,hx⟩:∃ x,l.getD k default=x:=⟨_,rfl⟩
  rw [hx] at hg
  cases hp:decide (x.party=a.party) with
  |false =>
   repeat' (first|(apply nx;with_reducible constructor)|refine uq (by decide) ?_|((first|refine vx env fun Q hQ=>?_|refine vz fun Q hQ=>?_);simp only [vkt,seval,xG,QC,qg,qB,qV,JA,Qfx,d1,k0,hlt,hx,hp,e9,ite_and];(repeat' first|with_reducible assumption|apply kk|intro hp);all_goals (first|(refine hQ _ ?_;clear hQ Q)|(refine hQ _ (fun h=>?_) (fun h=>?_) <;> clear hQ Q <;> (try simp only [reduceCtorEq] at h))|(refine vq ?_;kernel_rfl)|omega|assumption|with_reducible rfl|skip)))
   refine ⟨⟨k+1,hlt,fun j hj=>?_⟩,by show l.length - (k+1) < l.length - k;omega, ?_⟩
   ·rcases Nat.lt_or_eq_of_le (Nat.le_of_lt_succ hj) with h1|h1
    ·exact hno j h1
    ·rw [h1,hx];exact hp
   ·simp only []
    (refine Le.ok some [] ?_;constructor;all_goals (try simp only [vle,vkt,seval,QC,qg,qB]))
    all_goals first|rfl|simp
  |true =>
   have hh:=Qgl hlt hno (by rw [hx];exact hp)
   rw [hh]
   repeat' (first|(apply nx;with_reducible constructor)|refine uq (by decide) ?_|((first|refine vx env fun Q hQ=>?_|refine vz fun Q hQ=>?_);simp only [vkt,seval,xG,QC,qg,qB,qV,JA,Qfx,d1,k0,hlt,hx,hp,ite_and];(repeat' first|with_reducible assumption|apply kk|intro hp);all_goals (first|(refine hQ _ ?_;clear hQ Q)|(refine hQ _ (fun h=>?_) (fun h=>?_) <;> clear hQ Q <;> (try simp only [reduceCtorEq] at h))|(refine vq ?_;kernel_rfl)|omega|assumption|with_reducible rfl|skip)))
   (simp only [vrt,Tryz.results126,vkt,seval,QC,qg];refine Fin.ok some [] ?_ ?_ ?_ ?_ ?_ rfl;all_goals (try simp only [vle,vkt,seval]))
   all_goals first|rfl|simp
 ·have d1:decide ((k:Int) < (l.length:Int))=false:=decide_eq_false (by omega)
  obtain rfl:k=l.length:=by omega
  rw [Qe9 hno]
  repeat' (first|(apply nx;with_reducible constructor)|refine uq (by decide) ?_|((first|refine vx env fun Q hQ=>?_|refine vz fun Q hQ=>?_);simp only [vkt,seval,xG,QC,qg,qB,d1,ite_and];(repeat' first|with_reducible assumption|apply kk|intro hp);all_goals (first|(refine hQ _ ?_;clear hQ Q)|(refine hQ _ (fun h=>?_) (fun h=>?_) <;> clear hQ Q <;> (try simp only [reduceCtorEq] at h))|(refine vq ?_;kernel_rfl)|omega|assumption|with_reducible rfl|skip)))
  (simp only [vrt,Tryz.results126,vkt,seval,QC,qg];refine Fin.ok some [] ?_ ?_ ?_ ?_ ?_ rfl;all_goals (try simp only [vle,vkt,seval]))
  all_goals first|rfl|simp
def pIxA (S:St):List AV→Option Pk
 |[.sl xs,.clo f [.ptr t 0]]=>match S.h t with
  |some (.cells [.v (.int .i64 a'),.v (.int .i64 b'),.v (.int .i64 c'),.sl d',.v (.bool e')])=>some { pre:=f=94∧xs=(xs.map jb).map qV∧d'=(d'.map qM).map qU∧xs.length≤100,hs:=[t],ar:=[.sl xs,.clo 94 [.ptr 0 0]],L0:=[.cells [.v (.int .i64 a'),.v (.int .i64 b'),.v (.int .i64 c'),.sl d',.v (.bool e')]],v:=aI (YA a' (xs.map jb)),L1:=[some (.cells [.v (.int .i64 a'),.v (.int .i64 b'),.v (.int .i64 c'),.sl d',.v (.bool e')])] }
  |_=>none
 |_=>none
theorem eIxA {A:Frm→Prop}:qm A Tryz.prog 126 (fnE pIxA):=qZ fun S bs q h hp=>by
 unfold pIxA at h
 split at h
 ·split at h
  ·rename_i a' b' c' d' e' _
   cases h
   obtain ⟨_,h1,h2,h3⟩:=hp
   have:=Qd9 ⟨a',b',c',d'.map qM,e'⟩ (List.map jb _) (by rw [List.length_map];exact h3)
   simp only [qB,qg,← h1,← h2] at this
   exact this
  ·cases h
 ·cases h
def U8:=vj @ty3 @ti3.eq_1
def Qcu:=vj @aI.eq_1 (vj @aB.eq_1 (@jJ))
theorem Qid (a:Ask) (l:List Ask) (hl:l.length≤100):Fn noB Tryz.prog 93 [qB l,.clo 94 [.ptr 0 0]] (qc [(0,.cells (qg a))]) (aB (l.any fun x=>decide (x.party=a.party))) (qc [(0,.cells (qg a))]) 0:=by
 have env:Env (fun _=>True) Tryz.prog tyB (tab [(126,fnE pIxA)]):=qA ⟨eIxA,trivial⟩
 refine Fn.of (A:=fun _=>True) (n0:=1) (D:=noD) (Fn0 Tryz.func93 rfl (fun vs w=>by kernel_rfl) (by kernel_rfl)) (by simp) (by simp [AV.ids,AV.idsL,qB]) ?_ (fun _ _ _ _=>trivial) qw ?_
 ·intro i o hi
  have h:=qF hi
  simp at h;obtain ⟨rfl,rfl⟩:=h;simp [qg,AObj.ids,AV.ids,AV.idsL]
 repeat' (first|(apply nx;with_reducible constructor)|refine uq (by decide) ?_|((first|refine vx env fun Q hQ=>?_|refine vz fun Q hQ=>?_);simp only [vkt,seval,U8,Qcu,qB,qg,JU,pIxA,ite_and];(repeat' first|with_reducible assumption|apply kk|intro hp);all_goals (first|(refine hQ _ ?_;clear hQ Q)|(refine hQ _ (fun h=>?_) (fun h=>?_) <;> clear hQ Q <;> (try simp only [vki,reduceCtorEq] at h))|(refine vq ?_;kernel_rfl)|omega|assumption|with_reducible rfl|skip)))
 (simp only [vrt,Tryz.results93,QfU,vkt,seval,Qcu,qg];refine Fin.ok some [] ?_ ?_ ?_ ?_ ?_ rfl;all_goals (try simp only [vle,vkt,seval]))
 all_goals first|rfl|simp
def QgT (S:St):List AV→Option Pk
 |[.sl xs,.clo f [.ptr t 0]]=>match S.h t with
  |some (.cells [.v (.int .i64 a'),.v (.int .i64 b'),.v (.int .i64 c'),.sl d',.v (.bool e')])=>some { pre:=f=94∧xs=(xs.map jb).map qV∧d'=(d'.map qM).map qU∧xs.length≤100,hs:=[t],ar:=[.sl xs,.clo 94 [.ptr 0 0]],L0:=[.cells [.v (.int .i64 a'),.v (.int .i64 b'),.v (.int .i64 c'),.sl d',.v (.bool e')]],v:=aB ((xs.map jb).any fun x=>decide (x.party=a')),L1:=[some (.cells [.v (.int .i64 a'),.v (.int .i64 b'),.v (.int .i64 c'),.sl d',.v (.bool e')])] }
  |_=>none
 |_=>none
theorem eCoA {A:Frm→Prop}:qm A Tryz.prog 93 (fnE QgT):=qZ fun S bs q h hp=>by
 unfold QgT at h
 split at h
 ·split at h
  ·rename_i a' b' c' d' e' _
   cases h
   obtain ⟨_,h1,h2,h3⟩:=hp
   have:=Qid ⟨a',b',c',d'.map qM,e'⟩ (List.map jb _) (by rw [List.length_map];exact h3)
   simp only [qB,qg,← h1,← h2] at this
   exact this
  ·cases h
 ·cases h
noncomputable def pLm0 (cs:List Cabin) (s:Int) (L:List Ask) (sold:List Tk) (many:Nat) (S:St):List AV→Option Pk
 |[.nil,.v (.int .i64 f),.ptr p6 0,.ptr p7 0,.ptr p8 0,.ptr p9 0,.ptr p10 0,.ptr p11 0]=>match S.h p7 with
  |some (.cells [.clo _ [.ptr p2 0,.ptr p3 0,.ptr p4 0]])=>match S.h p2,S.h p4 with
   |some (.cells [.ptr p0 0]),some (.cells [.mp p5])=>match S.h p0,S.h p5 with
    |some (.cells [_,_,.row p1]),some (.map es)=>some { pre:=f=0∧LmOk cs s L sold [] 0 many es,hs:=[p0,p1,p2,p3,p4,p5,p6,p7,p8,p9,p10,p11],ar:=[.sl [],.v (.int .i64 0),.ptr 6 0,.ptr 7 0,.ptr 8 0,.ptr 9 0,.ptr 10 0,.ptr 11 0],L0:=lmL cs s L sold many none es,v:=.tup [],L1:=(lmL cs s L sold many (lsM (fun b=>tkB cs s L b sold) L.length many [] 0 es).1 (lsM (fun b=>tkB cs s L b sold) L.length many [] 0 es).2).map some }
    |_,_=>none
   |_,_=>none
  |_=>none
 |_=>none
theorem eLm0 {A:Frm→Prop} {cs:List Cabin} {s:Int} {L:List Ask} {sold:List Tk} {many:Nat}:qm A Tryz.prog 109 (fnE (pLm0 cs s L sold many)):=qZ fun S bs q h hp=>by
 unfold pLm0 at h
 split at h
 ·split at h
  ·split at h
   ·split at h
    ·cases h
     exact Yr cs s L sold many many [] 0 _ (by simp) hp.2
    ·cases h
   ·cases h
  ·cases h
 ·cases h
def LQ:=vj @ty3 (vj @ty4 (vj @yf (vj @QcC (vj @ti3.eq_1 (vj @ti4.eq_1 (vj @jK.eq_1 @Y7.eq_1))))))
def Qc9:=vj @aI.eq_1 (vj @aB.eq_1 (vj @ql.eq_1 (vj @qU.eq_1 (vj @Xw (@jJ)))))
set_option maxHeartbeats 1000000 in
theorem QeU (cs:List Cabin) (s:Int) (L:List Ask) (sold:List Tk) (many:Nat) (es:Es) (ok:LmOk cs s L sold [] 0 many es):Fn noB Tryz.prog 64 [aI L.length,aI many,.clo 95 [.ptr 2 0,.ptr 3 0,.ptr 4 0]] (qc (qD 0 (m2L cs s L sold es))) (.tup [ql ((lsM (fun b=>tkB cs s L b sold) L.length many [] 0 es).1.getD []),aB (lsM (fun b=>tkB cs s L b sold) L.length many [] 0 es).1.isSome]) (qc (zm 0 ((m2L cs s L sold (lsM (fun b=>tkB cs s L b sold) L.length many [] 0 es).2).map some))) 0:=by
 have env:Env (fun _=>True) Tryz.prog tyB (tab [(109,fnE (pLm0 cs s L sold many))]):=qA ⟨eLm0,trivial⟩
 refine Fn.of (A:=fun _=>True) (n0:=6) (D:=noD) (Fn0 Tryz.func64 rfl (fun vs w=>by kernel_rfl) (by kernel_rfl)) (by simp) (by simp [AV.ids,AV.idsL,aI]) QcA (fun _ _ _ _=>trivial) qw ?_
 obtain ⟨⟨o,e'⟩,ho⟩:∃ o,lsM (fun b=>tkB cs s L b sold) L.length many [] 0 es=o:=⟨_,rfl⟩
 rw [ho]
 show Sym _ _ _ (qX [aI L.length,aI many,.clo 95 [.ptr 2 0,.ptr 3 0,.ptr 4 0]] 6 (qc [(0,qf cs s 1),(1,qh sold),(2,.cells [.ptr 0 0]),(3,.cells [.sl (L.map qV)]),(4,.cells [.mp 5]),(5,.map es)])) (wK tyB noD Tryz.f64 fun S rv=>Fin S rv (.tup [ql (o.getD []),aB o.isSome]) 6 (qc [(0,qf cs s 1),(1,qh sold),(2,.cells [.ptr 0 0]),(3,.cells [.sl (L.map qV)]),(4,.cells [.mp 5]),(5,.map e')]) 0)
 repeat' (first|(apply nx;with_reducible constructor)|refine uq (by decide) ?_|((first|refine vx env fun Q hQ=>?_|refine vz fun Q hQ=>?_);simp only [vkt,seval,LQ,Qc9,qf,qh,lmL,pLm0,ho,ok,Option.getD_none,Option.isSome_none,ite_and];(repeat' first|with_reducible assumption|apply kk|intro hp);all_goals (first|(refine hQ _ ?_;clear hQ Q)|(refine hQ _ (fun h=>?_) (fun h=>?_) <;> clear hQ Q <;> (try simp only [vki,reduceCtorEq] at h))|(refine vq ?_;kernel_rfl)|omega|assumption|with_reducible rfl|skip)))
 (simp only [vrt,Tryz.results64,vkt,seval,Qc9,qf,qh];refine Fin.ok some [] ?_ ?_ ?_ ?_ ?_ rfl;all_goals (try simp only [vle,vkt,seval]))
 all_goals first|rfl|(simp;done)|exact fun i hi=>(match i,hi with|0,_=>rfl|1,_=>rfl)
noncomputable def VV (cs:List Cabin) (s:Int) (L:List Ask) (sold:List Tk) (many:Nat) (S:St):List AV→Option Pk
 |[.v (.int .i64 n),.v (.int .i64 m),.clo f [.ptr p2 0,.ptr p3 0,.ptr p4 0]]=>match S.h p2,S.h p4 with
  |some (.cells [.ptr p0 0]),some (.cells [.mp p5])=>match S.h p0,S.h p5 with
   |some (.cells [_,_,.row p1]),some (.map es)=>some { pre:=n=L.length∧m=(many:Int)∧f=95∧LmOk cs s L sold [] 0 many es,hs:=[p0,p1,p2,p3,p4,p5],ar:=[aI L.length,aI many,.clo 95 [.ptr 2 0,.ptr 3 0,.ptr 4 0]],L0:=m2L cs s L sold es,v:=.tup [ql ((lsM (fun b=>tkB cs s L b sold) L.length many [] 0 es).1.getD []),aB (lsM (fun b=>tkB cs s L b sold) L.length many [] 0 es).1.isSome],L1:=(m2L cs s L sold (lsM (fun b=>tkB cs s L b sold) L.length many [] 0 es).2).map some }
   |_,_=>none
  |_,_=>none
 |_=>none
theorem Qme {A:Frm→Prop} {cs:List Cabin} {s:Int} {L:List Ask} {sold:List Tk} {many:Nat}:qm A Tryz.prog 64 (fnE (VV cs s L sold many)):=qZ fun S bs q h hp=>by
 unfold VV at h
 split at h
 ·split at h
  ·split at h
   ·cases h
    exact QeU cs s L sold many _ hp.2.2.2
   ·cases h
  ·cases h
 ·cases h
def Yi (f:Int→Bool) (l:List Int):Option (List Int):=if f (vY l) then some l else none
theorem Qdt {g:Nat→Es→Option (List Int) × Es} {G:Nat→Option (List Int)} (h:∀ j es,(g j es).1=G j):∀ c j es,(lsR g c j es).1=(List.range c).findSome? fun k=>G (j+k)
 |0,_,_=>rfl
 |c+1,j,es=>by
  rw [lsR,List.range_succ_eq_map,List.findSome?_cons]
  have h1:=h j es
  rw [Nat.add_zero]
  cases hG:G j with
  |some t =>
   rw [hG] at h1
   rw [h1,if_pos (by rfl),h1]
  |none =>
   rw [hG] at h1
   rw [h1,if_neg (by simp),Qdt h c (j+1)]
   simp only
   rw [List.findSome?_map]
   refine congrArg (List.findSome? · (List.range c)) (funext fun k=>?_)
   show G (j+1+k)=G (j+(k+1))
   rw [Nat.add_right_comm,Nat.add_assoc]
theorem QdC (f:Int→Bool) (n:Nat):∀ (m:Nat) (l:List Int) (j:Nat) (es:Es),(lsM f n m l j es).1=(vQ n m l j).findSome? (Yi f)
 |0,l,j,es=>by
  show (if f (vY l) then some l else none)=_
  rw [vQ]
  unfold Yi
  cases h:f (vY l) <;> simp [h]
 |m+1,l,j,es=>by
  rw [lsM,vQ,Qdt (G:=fun j=>(vQ n m (l++[((j:Nat):Int)]) (j+1)).findSome? (Yi f)) fun j es=>QdC f n m _ _ es,Rn]
def vZ (f:Int→Bool) (n:Nat):Nat→Option (List Int)
 |0=>none
 |m+1=>match (vQ n (m+1) [] 0).findSome? (Yi f) with
  |some l=>some l
  |none=>vZ f n m
def WG (L:List Ask):Bool:=(List.range L.length).any fun i=>(L.take i).any fun x=>decide (x.party=(L.getD i default).party)
def kX (c:Chart) (L:List Ask):Int:=if zw c ≠ 0 then zw c else if qR L.length 0 4 ≠ 0 then qR L.length 0 4 else if zM (L.map (wu c)) ≠ 0 then zM (L.map (wu c)) else if WG L then 4 else 0
def jl (c:Chart) (L:List Ask):List Int × Int:=if kX c L ≠ 0 then ([],kX c L) else ((vZ (fun b=>tkB c.cabins c.secs L b c.sold) L.length L.length).getD [],0)
theorem XR {L:List Ask} {i:Nat} (hi:i < L.length) (h:((L.take i).any fun x=>decide (x.party=(L.getD i default).party))=true):WG L=true:=List.any_eq_true.2 ⟨i,List.mem_range.2 hi,h⟩
theorem QaO {L:List Ask} (h:∀ i,i < L.length→((L.take i).any fun x=>decide (x.party=(L.getD i default).party))=false):WG L=false:=by
 unfold WG
 rw [List.any_eq_false]
 intro i hi
 rw [h i (List.mem_range.1 hi)]
 decide
def mo1S (c:Chart) (L:List Ask) (k:Nat):St:={ t:=asg [(2,.ptr 0 0),(3,.ptr 1 0),(29,qB L),(30,aI L.length),(31,aI k)],h:=qc [(0,.cells (qa c)),(1,.cells [qB L])],n:=2 }
def mo2S (c:Chart) (L:List Ask) (k:Nat):St:={ t:=asg [(2,.ptr 0 0),(3,.ptr 1 0),(42,qB L),(43,aI L.length),(44,aI k)],h:=qc [(0,.cells (qa c)),(1,.cells [qB L])],n:=2 }
def mo3S (c:Chart) (L:List Ask) (m:Nat) (es:Es):St:={ t:=asg [(3,.ptr 1 0),(13,.ptr 4 0),(14,.ptr 6 0),(15,aI m)],h:=qc [(1,.cells [qB L]),(2,qf c.cabins c.secs 3),(3,qh c.sold),(4,.cells [.ptr 2 0]),(5,.map es),(6,.cells [.mp 5])],n:=7 }
def wo:=vj @ty3 (vj @ty4 (vj @wh (vj @jL (vj @Yw (vj @x8 (vj @QZ (vj @Qgz (vj @QgQ (vj @ti3.eq_1 (vj @ti4.eq_1 (vj @zQ.eq_1 (vj @wY.eq_1 (vj @Wy.eq_1 (vj @vV.eq_1 (vj @kV.eq_1 (vj @KO.eq_1 @XX.eq_1))))))))))))))))
def zH:=vj @aI.eq_1 (vj @aB.eq_1 (vj @ql.eq_1 (@jJ)))
set_option maxHeartbeats 4000000 in
theorem Qjc (c:Chart) (L:List Ask) (hc:c.cabins.length≤maxLen) (hL:L.length≤100000) (hsx:∀ a ∈ L,a.sexes.length≤maxLen):FnV Tryz.prog 39 [qd c,qB L] (.tup [ql (jl c L).1,aI (jl c L).2]):=by
 have ec:(⟨c.cabins,c.secs,c.sold⟩:Chart)=c:=rfl
 have hmx:(100000:Nat)≤maxLen:=by decide
 have env0:Env (fun _=>True) Tryz.prog tyB (tab [(76,qG true jC),(91,qG true jm),(92,qG true Uy),(79,fnE WI),(93,fnE QgT)]):=qA ⟨VQ,Y2,eask,Qbn,eCoA,trivial⟩
 have env1:∀ k,Env (fun _=>True) Tryz.prog tyB (tab [(64,fnE (VV c.cabins c.secs L c.sold k))]):=fun k=>qA ⟨Qme,trivial⟩
 have env:=env0
 refine Fn.of (A:=fun _=>True) (n0:=0) (D:=noD) (Fn0 Tryz.func39 rfl (fun vs w=>by kernel_rfl) (by kernel_rfl)) (by simp) (by simp [AV.ids,AV.idsL,qd,qa,qB]) (fun i o h=>by cases h) (fun _ _ _ _=>trivial) qw ?_
 obtain ⟨e,he⟩:∃ e,zw c=e:=⟨_,rfl⟩
 by_cases h0:e=0
 case neg =>
  have hE:kX c L=e:=by unfold kX;rw [he,if_pos h0]
  rw [show jl c L=([],e) by unfold jl;rw [hE,if_pos h0]]
  have d0:decide (e=0)=false:=decide_eq_false h0
  repeat' (first|(apply nx;with_reducible constructor)|refine uq (by decide) ?_|((first|refine vx env fun Q hQ=>?_|refine vz fun Q hQ=>?_);simp only [vkt,seval,wo,zH,qB,qd,qa,mTk,qy,jC,ec,hc,he,d0,ite_and];(repeat' first|with_reducible assumption|apply kk|intro hp);all_goals (first|(refine hQ _ ?_;clear hQ Q)|(refine hQ _ (fun h=>?_) (fun h=>?_) <;> clear hQ Q <;> (try simp only [reduceCtorEq] at h))|(refine vq ?_;kernel_rfl)|omega|assumption|with_reducible rfl|skip)))
  (simp only [vrt,Tryz.results39,vkt,seval,zH];refine Fin.val rfl ?_;(try simp only [AV.le,AV.leL]))
  all_goals first|rfl|simp
 rw [h0] at he
 have hval:=xq he
 have h8:=hval.many
 have hcab:=hval.car.cabs
 have h100:c.sold.length≤100:=by omega
 have b1:c.cabins.length≤100000:=by omega
 have b2:c.sold.length≤100000:=by omega
 obtain ⟨w,hw⟩:∃ w,qR L.length 0 4=w:=⟨_,rfl⟩
 by_cases hw0:w=0
 case neg =>
  have hE:kX c L=w:=by unfold kX;rw [he,hw];simp [hw0]
  rw [show jl c L=([],w) by unfold jl;rw [hE,if_pos hw0]]
  have d0:decide (w=0)=false:=decide_eq_false hw0
  repeat' (first|(apply nx;with_reducible constructor)|refine uq (by decide) ?_|((first|refine vx env fun Q hQ=>?_|refine vz fun Q hQ=>?_);simp only [vkt,seval,wo,zH,qB,qd,qa,mTk,qy,jC,jm,ec,hc,he,hw,d0,decide_true,ite_and];(repeat' first|with_reducible assumption|apply kk|intro hp);all_goals (first|(refine hQ _ ?_;clear hQ Q)|(refine hQ _ (fun h=>?_) (fun h=>?_) <;> clear hQ Q <;> (try simp only [reduceCtorEq] at h))|(refine vq ?_;kernel_rfl)|omega|assumption|with_reducible rfl|skip)))
  (simp only [vrt,Tryz.results39,vkt,seval,zH];refine Fin.val rfl ?_;(try simp only [AV.le,AV.leL]))
  all_goals first|rfl|simp
 rw [hw0] at hw
 have h4:L.length≤4:=by
  unfold qR at hw
  split at hw
  ·exact absurd hw (by decide)
  ·split at hw
   ·exact absurd hw (by decide)
   ·omega
 have hE:kX c L=if zM (L.map (wu c)) ≠ 0 then zM (L.map (wu c)) else if WG L then 4 else 0:=by unfold kX;rw [he,hw];rfl
 repeat' (first|(apply nx;with_reducible constructor)|refine uq (by decide) ?_|((first|refine vx env fun Q hQ=>?_|refine vz fun Q hQ=>?_);simp only [vkt,seval,wo,zH,qB,qd,qa,mTk,qy,jC,jm,ec,hc,he,hw,decide_true,ite_and];(repeat' first|with_reducible assumption|apply kk|intro hp);all_goals (first|(refine hQ _ ?_;clear hQ Q)|(refine hQ _ (fun h=>?_) (fun h=>?_) <;> clear hQ Q <;> (try simp only [reduceCtorEq] at h))|(refine vq ?_;kernel_rfl)|omega|assumption|with_reducible rfl|skip)))
 refine qC (fun k:{ k:Nat // k≤L.length∧∀ j,j < k→(L.map (wu c)).getD j 0=0 }=>mo1S c L k.1) (fun k=>L.length - k.1) ⟨0,Nat.zero_le _,fun j h=>absurd h (Nat.not_lt_zero _)⟩ ?_ fun ⟨k,hk,hno⟩=>?_
 ·simp only [mo1S]
  (refine Le.ok some [] ?_;constructor;all_goals (try simp only [vle,vkt,seval,zH,qB,qa]))
  all_goals first|rfl|simp
 simp only at hk hno ⊢
 by_cases hkl:k < L.length
 ·have d1:decide ((k:Int) < (L.length:Int))=true:=decide_eq_true (by omega)
  have e9:=k9 k (by omega)
  have k0:((k:Int)).toNat=k:=rfl
  have hg:=Vv hkl
  have hxs:=hsx _ (wC (d:=default) hkl)
  have hm:(L.map (wu c)).getD k 0=wu c (L.getD k default):=mapD hkl
  obtain ⟨x,hx⟩:∃ x,L.getD k default=x:=⟨_,rfl⟩
  rw [hx] at hg hxs hm
  have ex:(⟨x.party,x.frm,x.to,x.sexes,x.dog⟩:Ask)=x:=rfl
  obtain ⟨v,hv⟩:∃ v,wu c x=v:=⟨_,rfl⟩
  rw [hv] at hm
  simp only [mo1S]
  by_cases hv0:v=0
  ·rw [hv0] at hv
   repeat' (first|(apply nx;with_reducible constructor)|refine uq (by decide) ?_|((first|refine vx env fun Q hQ=>?_|refine vz fun Q hQ=>?_);simp only [vkt,seval,wo,zH,qB,qV,JA,qa,mTk,qy,Uy,d1,k0,hkl,hx,ec,ex,h100,hxs,hv,e9,decide_true,ite_and];(repeat' first|with_reducible assumption|apply kk|intro hp);all_goals (first|(refine hQ _ ?_;clear hQ Q)|(refine hQ _ (fun h=>?_) (fun h=>?_) <;> clear hQ Q <;> (try simp only [reduceCtorEq] at h))|(refine vq ?_;kernel_rfl)|omega|assumption|with_reducible rfl|skip)))
   refine ⟨⟨k+1,hkl,fun j hj=>?_⟩,by show L.length - (k+1) < L.length - k;omega, ?_⟩
   ·rcases Nat.lt_or_eq_of_le (Nat.le_of_lt_succ hj) with h2|h2
    ·exact hno j h2
    ·rw [h2,hm,hv0]
   ·simp only []
    (refine Le.ok some [] ?_;constructor;all_goals (try simp only [vle,vkt,seval,zH,qB,qa]))
    all_goals first|rfl|simp
  ·have hf:=wU hno (by simpa using hkl) (by rw [hm];exact hv0)
   rw [hm] at hf
   rw [show jl c L=([],v) by unfold jl;rw [hE,hf,if_pos hv0,if_pos hv0]]
   have d0:decide (v=0)=false:=decide_eq_false hv0
   repeat' (first|(apply nx;with_reducible constructor)|refine uq (by decide) ?_|((first|refine vx env fun Q hQ=>?_|refine vz fun Q hQ=>?_);simp only [vkt,seval,wo,zH,qB,qV,JA,qa,mTk,qy,Uy,d1,k0,hkl,hx,ec,ex,h100,hxs,hv,d0,ite_and];(repeat' first|with_reducible assumption|apply kk|intro hp);all_goals (first|(refine hQ _ ?_;clear hQ Q)|(refine hQ _ (fun h=>?_) (fun h=>?_) <;> clear hQ Q <;> (try simp only [reduceCtorEq] at h))|(refine vq ?_;kernel_rfl)|omega|assumption|with_reducible rfl|skip)))
   (simp only [vrt,Tryz.results39,vkt,seval,zH];refine Fin.val rfl ?_;(try simp only [AV.le,AV.leL]))
   all_goals first|rfl|simp
 have d1:decide ((k:Int) < (L.length:Int))=false:=decide_eq_false (by omega)
 obtain rfl:k=L.length:=by omega
 have hall:=wD (l:=L.map (wu c)) (by simpa using hno)
 have hask:∀ a ∈ L,wu c a=0:=fun a ha=>by
  obtain ⟨j,hj,rfl⟩:=List.getElem_of_mem ha
  have:=hno j hj
  rw [mapD hj,List.getD_eq_getElem?_getD,List.getElem?_eq_getElem hj] at this
  exact this
 have hE:kX c L=if WG L then 4 else 0:=by rw [hE,hall,if_neg (by decide)]
 simp only [mo1S]
 repeat' (first|(apply nx;with_reducible constructor)|refine uq (by decide) ?_|((first|refine vx env fun Q hQ=>?_|refine vz fun Q hQ=>?_);simp only [vkt,seval,wo,zH,qB,qa,d1,ite_and];(repeat' first|with_reducible assumption|apply kk|intro hp);all_goals (first|(refine hQ _ ?_;clear hQ Q)|(refine hQ _ (fun h=>?_) (fun h=>?_) <;> clear hQ Q <;> (try simp only [reduceCtorEq] at h))|(refine vq ?_;kernel_rfl)|omega|assumption|with_reducible rfl|skip)))
 refine qC (fun k:{ k:Nat // k≤L.length∧∀ j,j < k→((L.take j).any fun x=>decide (x.party=(L.getD j default).party))=false }=>mo2S c L k.1) (fun k=>L.length - k.1) ⟨0,Nat.zero_le _,fun j h=>absurd h (Nat.not_lt_zero _)⟩ ?_ fun ⟨k,hk,hno⟩=>?_
 ·simp only [mo2S]
  (refine Le.ok some [] ?_;constructor;all_goals (try simp only [vle,vkt,seval,zH,qB,qa]))
  all_goals first|rfl|simp
 simp only at hk hno ⊢
 by_cases hkl:k < L.length
 ·have d1:decide ((k:Int) < (L.length:Int))=true:=decide_eq_true (by omega)
  have e9:=k9 k (by omega)
  have k0:((k:Int)).toNat=k:=rfl
  have k1:(0:Int)≤(k:Int):=by omega
  have k2:(k:Int)≤(L.length:Int):=by omega
  have hg:=Vv hkl
  have htk:(L.map qV).take k=(L.take k).map qV:=List.map_take.symm
  have htl:(L.take k).length≤100:=by rw [List.length_take];omega
  have htl2:(L.take k).length≤maxLen:=by omega
  have hh:=XR hkl
  obtain ⟨T,hT⟩:∃ T,L.take k=T:=⟨_,rfl⟩
  rw [hT] at htk htl hh htl2
  obtain ⟨x,hx⟩:∃ x,L.getD k default=x:=⟨_,rfl⟩
  rw [hx] at hg hh
  simp only [mo2S]
  cases q:T.any (fun y=>decide (y.party=x.party)) with
  |true =>
   rw [show jl c L=([],4) by unfold jl;rw [hE,hh q];rfl]
   repeat' (first|(apply nx;with_reducible constructor)|refine uq (by decide) ?_|((first|refine vx env fun Q hQ=>?_|refine vz fun Q hQ=>?_);simp only [vkt,seval,wo,zH,qB,qV,JA,Xy,qa,JU,QgT,d1,k0,k1,k2,hkl,hx,htk,htl,q,ite_and];(repeat' first|with_reducible assumption|apply kk|intro hp);all_goals (first|(refine hQ _ ?_;clear hQ Q)|(refine hQ _ (fun h=>?_) (fun h=>?_) <;> clear hQ Q <;> (try simp only [reduceCtorEq] at h))|(refine vq ?_;kernel_rfl)|omega|assumption|with_reducible rfl|skip)))
   (simp only [vrt,Tryz.results39,vkt,seval,zH];refine Fin.val rfl ?_;(try simp only [AV.le,AV.leL]))
   all_goals first|rfl|simp
  |false =>
   repeat' (first|(apply nx;with_reducible constructor)|refine uq (by decide) ?_|((first|refine vx env fun Q hQ=>?_|refine vz fun Q hQ=>?_);simp only [vkt,seval,wo,zH,qB,qV,JA,Xy,qa,JU,QgT,d1,k0,k1,k2,hkl,hx,htk,htl,q,e9,ite_and];(repeat' first|with_reducible assumption|apply kk|intro hp);all_goals (first|(refine hQ _ ?_;clear hQ Q)|(refine hQ _ (fun h=>?_) (fun h=>?_) <;> clear hQ Q <;> (try simp only [reduceCtorEq] at h))|(refine vq ?_;kernel_rfl)|omega|assumption|with_reducible rfl|skip)))
   refine ⟨⟨k+1,hkl,fun j hj=>?_⟩,by show L.length - (k+1) < L.length - k;omega, ?_⟩
   ·rcases Nat.lt_or_eq_of_le (Nat.le_of_lt_succ hj) with h2|h2
    ·exact hno j h2
    ·rw [h2,hT,hx];exact q
   ·simp only []
    (refine Le.ok some [] ?_;constructor;all_goals (try simp only [vle,vkt,seval,zH,qB,qa]))
    all_goals first|rfl|simp
 have d1:decide ((k:Int) < (L.length:Int))=false:=decide_eq_false (by omega)
 obtain rfl:k=L.length:=by omega
 have hE:kX c L=0:=by rw [hE,QaO hno];rfl
 rw [show jl c L=((vZ (fun b=>tkB c.cabins c.secs L b c.sold) L.length L.length).getD [],0) by unfold jl;rw [hE,if_neg (by decide)]]
 simp only [mo2S]
 repeat' (first|(apply nx;with_reducible constructor)|refine uq (by decide) ?_|((first|refine vx env fun Q hQ=>?_|refine vz fun Q hQ=>?_);simp only [vkt,seval,wo,zH,qB,qa,mTk,qy,qf,qh,qJ,WI,d1,b1,b2,ite_and];(repeat' first|with_reducible assumption|apply kk|intro hp);all_goals (first|(refine hQ _ ?_;clear hQ Q)|(refine hQ _ (fun h=>?_) (fun h=>?_) <;> clear hQ Q <;> (try simp only [reduceCtorEq] at h))|(refine vq ?_;kernel_rfl)|omega|assumption|with_reducible rfl|skip)))
 have hsv:SvOk c.cabins c.secs L c.sold:=⟨hval.car,h8,fun a ha=>(KP (hask a ha)).1,h4⟩
 obtain ⟨F,hF⟩:∃ F:Int→Bool,(fun b=>tkB c.cabins c.secs L b c.sold)=F:=⟨_,rfl⟩
 rw [hF]
 refine qC (fun x:{ x:Nat × Es // x.1≤L.length∧MetOk F x.2∧x.2.length≤(L.length - x.1) * 256∧vZ F L.length L.length=vZ F L.length x.1 }=>mo3S c L x.1.1 x.1.2) (fun x=>x.1.1) ⟨(L.length,[]),Nat.le_refl _,QiU F,Nat.zero_le _,rfl⟩ ?_ fun ⟨(m,es),hm,hme,hel,hmo⟩=>?_
 ·simp only [mo3S]
  (refine Le.ok some [] ?_;constructor;all_goals (try simp only [vle,vkt,seval,zH,qB,qf,qh]))
  all_goals first|rfl|simp
 simp only at hm hme hel hmo ⊢
 clear env
 have env:=env1 m
 rw [hmo]
 cases m with
 |zero =>
  simp only [mo3S]
  have d1:decide ((0:Int) < ((0:Nat):Int))=false:=rfl
  rw [vZ]
  repeat' (first|(apply nx;with_reducible constructor)|refine uq (by decide) ?_|((first|refine vx env fun Q hQ=>?_|refine vz fun Q hQ=>?_);simp only [vkt,seval,wo,zH,qB,qf,qh,ite_and];(repeat' first|with_reducible assumption|apply kk|intro hp);all_goals (first|(refine hQ _ ?_;clear hQ Q)|(refine hQ _ (fun h=>?_) (fun h=>?_) <;> clear hQ Q <;> (try simp only [vki] at h))|(refine vq ?_;kernel_rfl)|omega|assumption|with_reducible rfl|skip)))
  (simp only [vrt,Tryz.results39,vkt,seval,zH];refine Fin.val rfl ?_;(try simp only [AV.le,AV.leL]))
  all_goals first|rfl|simp
 |succ m =>
  have d1:decide ((0:Int) < ((m+1:Nat):Int))=true:=decide_eq_true (by omega)
  have w1:IntKind.wrap .i64 (((m+1:Nat):Int) - 1)=(m:Int):=by rw [wrap64 (by omega) (by omega)];omega
  have h4m:4 ^ (m+1)≤256:=Nat.le_trans (Nat.pow_le_pow_right (by decide) (show m+1≤4 by omega)) (by decide)
  have hel2:(L.length - (m+1)) * 256≤4 * 256:=Nat.mul_le_mul_right _ (by omega)
  have hok:LmOk c.cabins c.secs L c.sold [] 0 (m+1) es:=⟨hsv,by simp;omega,.inl (Nat.zero_le _),by simp,by rw [hF];exact hme,by omega⟩
  have hlen2:=RP (f:=F) h4 (m+1) [] 0 es
  have hmet2:=Qbd (f:=F) (n:=L.length) (m+1) [] 0 es hme
  have hval2:=QdC F L.length (m+1) [] 0 es
  obtain ⟨⟨o,e'⟩,ho⟩:∃ o,lsM F L.length (m+1) [] 0 es=o:=⟨_,rfl⟩
  rw [ho] at hlen2 hmet2 hval2
  simp only at hlen2 hmet2 hval2
  have hl3:e'.length≤(L.length - m) * 256:=by
   have:(L.length - m) * 256=(L.length - (m+1)) * 256+256:=by omega
   omega
  rw [vZ,← hval2]
  simp only [mo3S]
  cases o with
  |none =>
   repeat' (first|(apply nx;with_reducible constructor)|refine uq (by decide) ?_|((first|refine vx env fun Q hQ=>?_|refine vz fun Q hQ=>?_);simp only [vkt,seval,wo,zH,qB,qf,qh,m2L,VV,d1,w1,hF,hok,ho,Option.getD_none,Option.isSome_none,ite_and];(repeat' first|with_reducible assumption|apply kk|intro hp);all_goals (first|(refine hQ _ ?_;clear hQ Q)|(refine hQ _ (fun h=>?_) (fun h=>?_) <;> clear hQ Q <;> (try simp only [reduceCtorEq] at h))|(refine vq ?_;kernel_rfl)|omega|assumption|with_reducible rfl|skip)))
   refine ⟨⟨(m,e'),by show m≤L.length;omega,hmet2,hl3, ?_⟩,Nat.lt_succ_self m, ?_⟩
   ·rfl
   ·simp only []
    (refine Le.ok some [] ?_;constructor;all_goals (try simp only [vle,vkt,seval,zH,qB,qf,qh]))
    all_goals first|rfl|simp
  |some t =>
   repeat' (first|(apply nx;with_reducible constructor)|refine uq (by decide) ?_|((first|refine vx env fun Q hQ=>?_|refine vz fun Q hQ=>?_);simp only [vkt,seval,wo,zH,qB,qf,qh,m2L,VV,d1,hF,hok,ho,ite_and];(repeat' first|with_reducible assumption|apply kk|intro hp);all_goals (first|(refine hQ _ ?_;clear hQ Q)|(refine hQ _ (fun h=>?_) (fun h=>?_) <;> clear hQ Q <;> (try simp only [reduceCtorEq] at h))|(refine vq ?_;kernel_rfl)|omega|assumption|with_reducible rfl|skip)))
   (simp only [vrt,Tryz.results39,vkt,seval,zH];refine Fin.val rfl ?_;(try simp only [AV.le,AV.leL]))
   all_goals first|rfl|simp
def Qdj:List AV→Prop × AV
 |[.agg [.sl c0,.v (.int .i64 c1),.sl c2],.sl l]=>(c0=(c0.map qj).map qz∧c2=(c2.map dTk).map eTk∧l=(l.map jb).map qV∧((⟨(c0.map qj),c1,(c2.map dTk)⟩:Chart)).cabins.length≤maxLen∧(l.map jb).length≤100000∧(∀ a ∈ (l.map jb),a.sexes.length≤maxLen),.tup [ql (jl ((⟨(c0.map qj),c1,(c2.map dTk)⟩:Chart)) (l.map jb)).1,aI (jl ((⟨(c0.map qj),c1,(c2.map dTk)⟩:Chart)) (l.map jb)).2])
 |_=>(False,.junk)
theorem eMost {A:Frm→Prop}:qm A Tryz.prog 39 (qG false Qdj):=qH fun vs hv h=>by
 clear hv
 unfold Qdj at h ⊢
 split at h
 ·rename_i c0 c1 c2 l;obtain ⟨q0,q1,q2,k0,k1,k2⟩:=h
  refine ⟨by first|trivial|(repeat' split) <;> simp [AV.plain,AV.plainL,aI,aB,ql,qb,qp,qx,aTk,cTk],fun h=>absurd h (by decide), ?_⟩
  have:=Qjc ((⟨(c0.map qj),c1,(c2.map dTk)⟩:Chart)) (l.map jb) k0 k1 k2
  simp only [qB,qd,aI,qa,← q0,← q1,← q2] at this
  first|exact this|(simp only [qB,zB,qd,aI,qp,qa,← q0,← q1,← q2];exact this)
 ·exact h.elim
structure GnOk (c:Chart) (a:Ask):Prop where
 car:CarOk c
 tk:∀ t ∈ c.sold,TkOk c t
 pw:PWr [] c.sold
 ask:∀ i,i < a.sexes.length→∀ b ∈ qK c.cabins,TkOk c (yV a i b)
 way:0≤a.frm∧a.frm < a.to∧a.to≤c.secs
 sx:1≤a.sexes.length∧a.sexes.length≤3
theorem gn_of {c:Chart} {a:Ask} (h:zJ c a=0):GnOk c a:=⟨(xq (jZ h).1).car,(xq (jZ h).1).tk,QiF (jZ h).1,fun i hi b hb=>QhK h hi hb,Qc1 h,⟨(KP (jZ h).2).2,(KP (jZ h).2).1⟩⟩
theorem JH {c:Chart} {a:Ask} (h:GnOk c a) {l:List Bunk} (hl:l ∈ alL (qK c.cabins) a.sexes.length):∀ t ∈ c.sold++jM a l l.length,TkOk c t:=fun t ht=>by
 have hll:=Qt l hl
 have hT:jM a l l.length=tkR a 0 l:=by rw [Rt a l l.length (Nat.le_refl _),List.take_length]
 rcases List.mem_append.1 ht with ht|ht
 ·exact h.tk t ht
 ·rw [hT] at ht
  obtain ⟨i,b,hi,hb,rfl⟩:=QcQ ht
  exact h.ask _ (by omega) _ (Qca hl b hb)
theorem Qmj {c:Chart} {a:Ask} (h:GnOk c a) {l:List Bunk} (hl:l ∈ alL (qK c.cabins) a.sexes.length) (hne:l ≠ []):WQ c.cabins a c.sold [] l=xH c a l:=by
 have hw:=h.way
 have hT:jM a l l.length=tkR a 0 l:=by rw [Rt a l l.length (Nat.le_refl _),List.take_length]
 have hways:∀ t ∈ c.sold++jM a l l.length,0≤t.frm∧t.frm < t.to∧t.to≤c.secs:=fun t ht=>by
  have:=JH h hl t ht
  exact ⟨this.frm,this.way,this.to⟩
 rw [Bool.eq_iff_iff,QcT hw.2.1 l c.sold [] (fun b hb=>by simp at hb)]
 unfold xH
 rw [Bool.and_eq_true]
 have e1:(!strB ⟨c.cabins,c.secs,c.sold++jM a l l.length⟩)=true ↔ PWr [] (c.sold++jM a l l.length):=by
  rw [← Um (cs:=c.cabins) hways]
  simp
 rw [e1,Qdg,hT]
 simp only [List.nil_append]
 constructor
 ·rintro ⟨h1,h2⟩
  exact ⟨h2 hne,h.pw,h1⟩
 ·rintro ⟨h1,_,h3⟩
  exact ⟨h3,fun _=>h1⟩
theorem Ud {c:Chart} {a:Ask} (h:GnOk c a):(plP c a).map (·.1)=(alL (qK c.cabins) a.sexes.length).filter (xH c a):=by
 unfold plP
 rw [UW]
 simp only [List.nil_append,List.map_id']
 refine List.filter_congr fun l hl=>Qmj h hl ?_
 rintro rfl
 have h1:=Qt _ hl
 have h2:=h.sx
 simp at h1
 omega
theorem QhL {c:Chart} {a:Ask} (h:GnOk c a) {l:List Bunk} (hl:l ∈ alL (qK c.cabins) a.sexes.length) (hf:xH c a l=true):PWr [] (c.sold++jM a l l.length):=by
 unfold xH at hf
 rw [Bool.and_eq_true] at hf
 exact (Um (cs:=c.cabins) (secs:=c.secs) (fun t ht=>⟨(JH h hl t ht).frm,(JH h hl t ht).way,(JH h hl t ht).to⟩)).1 (by simpa using hf.2)
theorem Qb6 {c:Chart} {a:Ask} (h:GnOk c a) {l:List Bunk} (hl:l ∈ alL (qK c.cabins) a.sexes.length):zG c a l=xH c a l:=by
 have hll:=Qt l hl
 have hway:=JH h hl
 cases hq:xH c a l with
 |true =>
  have hp:=QhL h hl hq
  unfold xH at hq
  rw [Bool.and_eq_true] at hq
  rw [Jb] at hp
  unfold zG
  rw [hq.1,decide_eq_true hll,Bool.and_true,Bool.true_and,Bool.and_eq_true,List.all_eq_true,decide_eq_true_eq]
  refine ⟨fun b hb=>?_, ?_⟩
  ·obtain ⟨i,k,g1,g2,rfl⟩:=VK.1 (Qca hl b hb)
   unfold zZ
   rw [Bool.and_eq_true,zY,zY]
   refine ⟨⟨by simp only;omega,by simp only;omega⟩,by simp only;omega, ?_⟩
   simp only [Int.toNat_natCast]
   omega
  ·unfold zW
   refine wD fun j hj=>?_
   rw [List.length_map,List.length_range] at hj
   rw [List.getD_eq_getElem?_getD,List.getElem?_map,List.getElem?_range hj]
   have hk:=hway _ (wC (d:=default) hj)
   exact Yf (cs:=c.cabins) (secs:=c.secs) hk.party hk.sex hk.cab hk.bed ⟨hk.frm,hk.way,hk.to⟩ (by have:=hp j hj;rwa [List.nil_append] at this)
 |false =>
  cases hp:zG c a l with
  |false=>rfl
  |true =>
   unfold zG at hp
   simp only [Bool.and_eq_true,decide_eq_true_eq] at hp
   obtain ⟨⟨_,h3⟩,h4⟩:=hp
   have h5:=Wn h3
   have hpw:PWr [] (c.sold++jM a l l.length):=(Jb _ _).2 fun i hi=>by rw [List.nil_append];exact (h5 i hi).2
   have hst:=(Um (cs:=c.cabins) (secs:=c.secs) (fun t ht=>⟨(hway t ht).frm,(hway t ht).way,(hway t ht).to⟩)).2 hpw
   unfold xH at hq
   rw [h4,hst] at hq
   exact absurd hq (by decide)
theorem QgW {c:Chart} {a:Ask} (h:GnOk c a):(alL (qK c.cabins) a.sexes.length).filter (zG c a)=(plP c a).map (·.1):=by
 rw [Ud h]
 exact List.filter_congr fun l hl=>Qb6 h hl
theorem QjG {c:Chart} {a a':Ask} (h:GnOk c a) (h':GnOk c a') {x:List Bunk × List Tk} (hx:x ∈ plP c a):GnOk ⟨c.cabins,c.secs,x.2⟩ a':=by
 have hs:=K4 hx
 have hm:x.1 ∈ (plP c a).map (·.1):=List.mem_map.2 ⟨x,hx,rfl⟩
 rw [Ud h] at hm
 obtain ⟨h1,h2⟩:=List.mem_filter.1 hm
 refine ⟨h.car.to' _,fun t ht=>?_, ?_,fun i hi b hb=>(h'.ask i hi b hb).to' _,h'.way,h'.sx⟩
 ·have ht:t ∈ x.2:=ht
  rw [hs] at ht
  exact (JH h h1 t ht).to' _
 ·show PWr [] x.2
  rw [hs]
  exact QhL h h1 h2
def xw (cs:List Cabin) (s:Int):List Ask→List Tk→Bool
 |[],_=>true
 |a :: r,sold=>(plP ⟨cs,s,sold⟩ a).any fun x=>xw cs s r x.2
theorem QeT (cs:List Cabin) (s:Int) (L:List Ask) (sold:List Tk) (h4:L.length≤4) (m:Nat) (hm:m≤L.length):∀ i ∈ jf L.length m 0,tkB cs s L (vY i) sold=xw cs s (i.map fun k=>L.getD k.toNat default) sold:=by
 match L,h4,m,hm with
 |[],_,0,_=>simp only [show jf ([]:List Ask).length 0 0=[[]] from rfl,List.forall_mem_cons];exact ⟨rfl,by simp⟩
 |[_],_,0,_=>simp only [show jf 1 0 0=[[]] from rfl,List.length_singleton,List.forall_mem_cons];exact ⟨rfl,by simp⟩
 |[_],_,1,_=>simp only [show jf 1 1 0=[[0]] from rfl,List.length_singleton,List.forall_mem_cons];exact ⟨rfl,by simp⟩
 |[_,_],_,0,_=>simp only [show jf 2 0 0=[[]] from rfl,List.length_cons,List.length_nil,List.forall_mem_cons];exact ⟨rfl,by simp⟩
 |[_,_],_,1,_=>simp only [show jf 2 1 0=[[0],[1]] from rfl,List.length_cons,List.length_nil,List.forall_mem_cons];exact ⟨rfl,rfl,by simp⟩
 |[_,_],_,2,_=>simp only [show jf 2 2 0=[[0,1]] from rfl,List.length_cons,List.length_nil,List.forall_mem_cons];exact ⟨rfl,by simp⟩
 |[_,_,_],_,0,_=>simp only [show jf 3 0 0=[[]] from rfl,List.length_cons,List.length_nil,List.forall_mem_cons];exact ⟨rfl,by simp⟩
 |[_,_,_],_,1,_=>simp only [show jf 3 1 0=[[0],[1],[2]] from rfl,List.length_cons,List.length_nil,List.forall_mem_cons];exact ⟨rfl,rfl,rfl,by simp⟩
 |[_,_,_],_,2,_=>simp only [show jf 3 2 0=[[0,1],[0,2],[1,2]] from rfl,List.length_cons,List.length_nil,List.forall_mem_cons];exact ⟨rfl,rfl,rfl,by simp⟩
 |[_,_,_],_,3,_=>simp only [show jf 3 3 0=[[0,1,2]] from rfl,List.length_cons,List.length_nil,List.forall_mem_cons];exact ⟨rfl,by simp⟩
 |[_,_,_,_],_,0,_=>simp only [show jf 4 0 0=[[]] from rfl,List.length_cons,List.length_nil,List.forall_mem_cons];exact ⟨rfl,by simp⟩
 |[_,_,_,_],_,1,_=>simp only [show jf 4 1 0=[[0],[1],[2],[3]] from rfl,List.length_cons,List.length_nil,List.forall_mem_cons];exact ⟨rfl,rfl,rfl,rfl,by simp⟩
 |[_,_,_,_],_,2,_=>simp only [show jf 4 2 0=[[0,1],[0,2],[0,3],[1,2],[1,3],[2,3]] from rfl,List.length_cons,List.length_nil,List.forall_mem_cons];exact ⟨rfl,rfl,rfl,rfl,rfl,rfl,by simp⟩
 |[_,_,_,_],_,3,_=>simp only [show jf 4 3 0=[[0,1,2],[0,1,3],[0,2,3],[1,2,3]] from rfl,List.length_cons,List.length_nil,List.forall_mem_cons];exact ⟨rfl,rfl,rfl,rfl,by simp⟩
 |[_,_,_,_],_,4,_=>simp only [show jf 4 4 0=[[0,1,2,3]] from rfl,List.length_cons,List.length_nil,List.forall_mem_cons];exact ⟨rfl,by simp⟩
theorem Qfi {l m:List Int} (h0:l.length=m.length) (h:∀ j,j < l.length→l.getD j 0=m.getD j 0):l=m:=ZF h0 h
theorem Qjg {a b c d e f:Int} {g:Bool} {a' b' c' d' e' f':Int} {g':Bool}:decide ((⟨a,b,c,d,e,f,g⟩:Tk)=⟨a',b',c',d',e',f',g'⟩)=(decide (a=a') && (decide (b=b') && (decide (c=c') && (decide (d=d') && (decide (e=e') && (decide (f=f') && (g == g'))))))):=by
 rw [Bool.eq_iff_iff];simp
theorem Qku {a:Int} {g:Bool} {a':Int} {g':Bool}:decide ((⟨a,g⟩:Cabin)=⟨a',g'⟩)=(decide (a=a') && (g == g')):=by
 rw [Bool.eq_iff_iff];simp
def eqIS (l m:List Int) (k:Nat):St:={ t:=asg [(0,ql l),(1,ql m),(4,aB false),(5,aI k)],h:=qc [],n:=0 }
def Qg:=vj @ty3 (vj @yf (vj @ti3.eq_1 @jK.eq_1))
def vI:=vj @aI.eq_1 (vj @aB.eq_1 (vj @ql.eq_1 (vj @qU.eq_1 (@JN))))
theorem Ql7 (l m:List Int) (hl:l.length≤maxLen) (hm:m.length≤maxLen):FnV Tryz.prog 41 [ql l,ql m] (aB (decide (l=m))):=by
 have env:Env (fun _=>True) Tryz.prog tyB (tab []):=qA trivial
 refine Fn.of (A:=fun _=>True) (n0:=0) (D:=noD) (Fn0 Tryz.func41 rfl (fun vs w=>by kernel_rfl) (by kernel_rfl)) (by simp) (by simp [AV.ids,ql]) (fun i o h=>by cases h) (fun _ _ _ _=>trivial) qw ?_
 have hmx:maxLen=9223372036854775807:=by decide
 by_cases h0:l.length=m.length
 ·have d0:decide ((l.length:Int)=(m.length:Int))=true:=decide_eq_true (by omega)
  repeat' (first|(apply nx;with_reducible constructor)|refine uq (by decide) ?_|((first|refine vx env fun Q hQ=>?_|refine vz fun Q hQ=>?_);simp only [vkt,seval,Qg,vI,d0,ite_and];(repeat' first|with_reducible assumption|apply kk|intro hp);all_goals (first|(refine hQ _ ?_;clear hQ Q)|(refine hQ _ (fun h=>?_) (fun h=>?_) <;> clear hQ Q <;> (try simp only [reduceCtorEq] at h))|(refine vq ?_;kernel_rfl)|omega|assumption|with_reducible rfl|skip)))
  refine qC (fun k:{ k:Nat // k≤l.length∧∀ j,j < k→l.getD j 0=m.getD j 0 }=>eqIS l m k.1) (fun k=>l.length - k.1) ⟨0,Nat.zero_le _,fun j h=>absurd h (Nat.not_lt_zero _)⟩ ?_ fun ⟨k,hk,hno⟩=>?_
  ·(refine Le.ok some [] ?_;constructor;all_goals (try simp only [vle,vkt,seval,vI]))
   all_goals first|rfl|simp
  simp only at hk hno ⊢
  simp only [eqIS]
  by_cases hlt:k < l.length
  ·have d1:decide ((k:Int) < (l.length:Int))=true:=decide_eq_true (by omega)
   have hlm:k < m.length:=by omega
   have k0:((k:Int)).toNat=k:=rfl
   have e9:=k9 k (by omega)
   obtain ⟨x,hx⟩:∃ x,l.getD k 0=x:=⟨_,rfl⟩
   obtain ⟨y,hy⟩:∃ x,m.getD k 0=x:=⟨_,rfl⟩
   have hxy:(decide (x=y))=decide (x=y):=by rfl
   have hne:¬ x=y→decide (l=m)=false:=fun h=>decide_eq_false fun e=>h (by rw [← hx,← hy,e])
   cases q:decide (x=y) with
   |false =>
    rw [hne (of_decide_eq_false q)]
    repeat' (first|(apply nx;with_reducible constructor)|refine uq (by decide) ?_|((first|refine vx env fun Q hQ=>?_|refine vz fun Q hQ=>?_);simp only [vkt,seval,Qg,vI,d1,k0,hlt,hlm,hx,hy,q,ite_and];(repeat' first|with_reducible assumption|apply kk|intro hp);all_goals (first|(refine hQ _ ?_;clear hQ Q)|(refine hQ _ (fun h=>?_) (fun h=>?_) <;> clear hQ Q <;> (try simp only [reduceCtorEq] at h))|(refine vq ?_;kernel_rfl)|omega|assumption|with_reducible rfl|skip)))
    (simp only [vrt,Tryz.results41,vkt,seval,vI];refine Fin.val rfl ?_;(try simp only [AV.le]))
    all_goals first|rfl|simp
   |true =>
    repeat' (first|(apply nx;with_reducible constructor)|refine uq (by decide) ?_|((first|refine vx env fun Q hQ=>?_|refine vz fun Q hQ=>?_);simp only [vkt,seval,Qg,vI,d1,k0,hlt,hlm,hx,hy,q,e9,ite_and];(repeat' first|with_reducible assumption|apply kk|intro hp);all_goals (first|(refine hQ _ ?_;clear hQ Q)|(refine hQ _ (fun h=>?_) (fun h=>?_) <;> clear hQ Q <;> (try simp only [reduceCtorEq] at h))|(refine vq ?_;kernel_rfl)|omega|assumption|with_reducible rfl|skip)))
    refine ⟨⟨k+1,hlt,fun j hj=>?_⟩,by show l.length - (k+1) < l.length - k;omega, ?_⟩
    ·rcases Nat.lt_or_eq_of_le (Nat.le_of_lt_succ hj) with h1|h1
     ·exact hno j h1
     ·rw [h1,hx,hy];exact of_decide_eq_true q
    ·(refine Le.ok some [] ?_;constructor;all_goals (try simp only [vle,vkt,seval,vI]))
     all_goals first|rfl|simp
  ·have d1:decide ((k:Int) < (l.length:Int))=false:=decide_eq_false (by omega)
   obtain rfl:k=l.length:=by omega
   rw [decide_eq_true (Qfi h0 hno)]
   repeat' (first|(apply nx;with_reducible constructor)|refine uq (by decide) ?_|((first|refine vx env fun Q hQ=>?_|refine vz fun Q hQ=>?_);simp only [vkt,seval,Qg,vI,d1,ite_and];(repeat' first|with_reducible assumption|apply kk|intro hp);all_goals (first|(refine hQ _ ?_;clear hQ Q)|(refine hQ _ (fun h=>?_) (fun h=>?_) <;> clear hQ Q <;> (try simp only [reduceCtorEq] at h))|(refine vq ?_;kernel_rfl)|omega|assumption|with_reducible rfl|skip)))
   (simp only [vrt,Tryz.results41,vkt,seval,vI];refine Fin.val rfl ?_;(try simp only [AV.le]))
   all_goals first|rfl|simp
 ·have d0:decide ((l.length:Int)=(m.length:Int))=false:=decide_eq_false (by omega)
  rw [decide_eq_false (fun e=>h0 (by rw [e]))]
  repeat' (first|(apply nx;with_reducible constructor)|refine uq (by decide) ?_|((first|refine vx env fun Q hQ=>?_|refine vz fun Q hQ=>?_);simp only [vkt,seval,Qg,vI,d0,ite_and];(repeat' first|with_reducible assumption|apply kk|intro hp);all_goals (first|(refine hQ _ ?_;clear hQ Q)|(refine hQ _ (fun h=>?_) (fun h=>?_) <;> clear hQ Q <;> (try simp only [reduceCtorEq] at h))|(refine vq ?_;kernel_rfl)|omega|assumption|with_reducible rfl|skip)))
  (simp only [vrt,Tryz.results41,vkt,seval,vI];refine Fin.val rfl ?_;(try simp only [AV.le]))
  all_goals first|rfl|simp
def QdV:List AV→Prop × AV
 |[.sl l,.sl m]=>(l=(l.map qM).map qU∧m=(m.map qM).map qU∧(l.map qM).length≤maxLen∧(m.map qM).length≤maxLen,aB (decide ((l.map qM)=(m.map qM))))
 |_=>(False,.junk)
theorem eeqI {A:Frm→Prop}:qm A Tryz.prog 41 (qG true QdV):=qH fun vs hv h=>by
 clear hv
 unfold QdV at h ⊢
 split at h
 ·rename_i l m;obtain ⟨q0,q1,k0,k1⟩:=h
  refine ⟨by first|trivial|(repeat' split) <;> simp [AV.plain,AV.plainL,aI,aB,ql,qb,qp,qx,aTk,cTk],fun _=>(by simp [AV.flat,aB]), ?_⟩
  have:=Ql7 (l.map qM) (m.map qM) k0 k1
  simp only [ql,← q0,← q1] at this
  first|exact this|(simp only [ql,← q0,← q1];exact this)
 ·exact h.elim
def eqKS (l m:List Tk) (k:Nat):St:={ t:=asg [(0,qp l),(1,qp m),(4,aB false),(5,aI k)],h:=qc [],n:=0 }
def Qe:=vj @ty3 (vj @yP (vj @wP (vj @ti3.eq_1 (vj @yh.eq_1 @wI.eq_1))))
def kT:=vj @aI.eq_1 (@aB.eq_1)
theorem Ql0 (l m:List Tk) (hl:l.length≤maxLen) (hm:m.length≤maxLen):FnV Tryz.prog 62 [qp l,qp m] (aB (decide (l=m))):=by
 have env:Env (fun _=>True) Tryz.prog tyB (tab []):=qA trivial
 refine Fn.of (A:=fun _=>True) (n0:=0) (D:=noD) (Fn0 Tryz.func62 rfl (fun vs w=>by kernel_rfl) (by kernel_rfl)) (by simp) (by simp [AV.ids,qp]) (fun i o h=>by cases h) (fun _ _ _ _=>trivial) qw ?_
 have hmx:maxLen=9223372036854775807:=by decide
 by_cases h0:l.length=m.length
 ·have d0:decide ((l.length:Int)=(m.length:Int))=true:=decide_eq_true (by omega)
  repeat' (first|(apply nx;with_reducible constructor)|refine uq (by decide) ?_|((first|refine vx env fun Q hQ=>?_|refine vz fun Q hQ=>?_);simp only [vkt,seval,Qe,qp,d0,ite_and];(repeat' first|with_reducible assumption|apply kk|intro hp);all_goals (first|(refine hQ _ ?_;clear hQ Q)|(refine hQ _ (fun h=>?_) (fun h=>?_) <;> clear hQ Q <;> (try simp only [reduceCtorEq] at h))|(refine vq ?_;kernel_rfl)|omega|assumption|with_reducible rfl|skip)))
  refine qC (fun k:{ k:Nat // k≤l.length∧∀ j,j < k→l.getD j default=m.getD j default }=>eqKS l m k.1) (fun k=>l.length - k.1) ⟨0,Nat.zero_le _,fun j h=>absurd h (Nat.not_lt_zero _)⟩ ?_ fun ⟨k,hk,hno⟩=>?_
  ·(refine Le.ok some [] ?_;constructor;all_goals (try simp only [vle,vkt,seval,kT,qp]))
   all_goals first|rfl|simp
  simp only at hk hno ⊢
  simp only [eqKS]
  by_cases hlt:k < l.length
  ·have d1:decide ((k:Int) < (l.length:Int))=true:=decide_eq_true (by omega)
   have hlm:k < m.length:=by omega
   have k0:((k:Int)).toNat=k:=rfl
   have e9:=k9 k (by omega)
   obtain ⟨x,hx⟩:∃ x,l.getD k default=x:=⟨_,rfl⟩
   obtain ⟨y,hy⟩:∃ x,m.getD k default=x:=⟨_,rfl⟩
   have hxy:(decide (x.party=y.party) && (decide (x.sex=y.sex) && (decide (x.cab=y.cab) && (decide (x.bed=y.bed) && (decide (x.frm=y.frm) && (decide (x.to=y.to) && ((x.dog == y.dog))))))))=decide (x=y):=by cases x;cases y;rw [Qjg]
   have hne:¬ x=y→decide (l=m)=false:=fun h=>decide_eq_false fun e=>h (by rw [← hx,← hy,e])
   cases q:decide (x=y) with
   |false =>
    rw [hne (of_decide_eq_false q)]
    repeat' (first|(apply nx;with_reducible constructor)|refine uq (by decide) ?_|((first|refine vx env fun Q hQ=>?_|refine vz fun Q hQ=>?_);simp only [vkt,seval,Qe,kT,qp,eTk,gTk,d1,k0,hlt,hlm,hx,hy,hxy,q,ite_and];(repeat' first|with_reducible assumption|apply kk|intro hp);all_goals (first|(refine hQ _ ?_;clear hQ Q)|(refine hQ _ (fun h=>?_) (fun h=>?_) <;> clear hQ Q <;> (try simp only [reduceCtorEq] at h))|(refine vq ?_;kernel_rfl)|omega|assumption|with_reducible rfl|skip)))
    (simp only [vrt,Tryz.results62,vkt,seval,kT];refine Fin.val rfl ?_;(try simp only [AV.le]))
    all_goals first|rfl|simp
   |true =>
    repeat' (first|(apply nx;with_reducible constructor)|refine uq (by decide) ?_|((first|refine vx env fun Q hQ=>?_|refine vz fun Q hQ=>?_);simp only [vkt,seval,Qe,kT,qp,eTk,gTk,d1,k0,hlt,hlm,hx,hy,hxy,q,e9,ite_and];(repeat' first|with_reducible assumption|apply kk|intro hp);all_goals (first|(refine hQ _ ?_;clear hQ Q)|(refine hQ _ (fun h=>?_) (fun h=>?_) <;> clear hQ Q <;> (try simp only [reduceCtorEq] at h))|(refine vq ?_;kernel_rfl)|omega|assumption|with_reducible rfl|skip)))
    refine ⟨⟨k+1,hlt,fun j hj=>?_⟩,by show l.length - (k+1) < l.length - k;omega, ?_⟩
    ·rcases Nat.lt_or_eq_of_le (Nat.le_of_lt_succ hj) with h1|h1
     ·exact hno j h1
     ·rw [h1,hx,hy];exact of_decide_eq_true q
    ·(refine Le.ok some [] ?_;constructor;all_goals (try simp only [vle,vkt,seval,kT,qp]))
     all_goals first|rfl|simp
  ·have d1:decide ((k:Int) < (l.length:Int))=false:=decide_eq_false (by omega)
   obtain rfl:k=l.length:=by omega
   rw [decide_eq_true (ZF h0 hno)]
   repeat' (first|(apply nx;with_reducible constructor)|refine uq (by decide) ?_|((first|refine vx env fun Q hQ=>?_|refine vz fun Q hQ=>?_);simp only [vkt,seval,Qe,kT,qp,d1,ite_and];(repeat' first|with_reducible assumption|apply kk|intro hp);all_goals (first|(refine hQ _ ?_;clear hQ Q)|(refine hQ _ (fun h=>?_) (fun h=>?_) <;> clear hQ Q <;> (try simp only [reduceCtorEq] at h))|(refine vq ?_;kernel_rfl)|omega|assumption|with_reducible rfl|skip)))
   (simp only [vrt,Tryz.results62,vkt,seval,kT];refine Fin.val rfl ?_;(try simp only [AV.le]))
   all_goals first|rfl|simp
 ·have d0:decide ((l.length:Int)=(m.length:Int))=false:=decide_eq_false (by omega)
  rw [decide_eq_false (fun e=>h0 (by rw [e]))]
  repeat' (first|(apply nx;with_reducible constructor)|refine uq (by decide) ?_|((first|refine vx env fun Q hQ=>?_|refine vz fun Q hQ=>?_);simp only [vkt,seval,Qe,qp,d0,ite_and];(repeat' first|with_reducible assumption|apply kk|intro hp);all_goals (first|(refine hQ _ ?_;clear hQ Q)|(refine hQ _ (fun h=>?_) (fun h=>?_) <;> clear hQ Q <;> (try simp only [reduceCtorEq] at h))|(refine vq ?_;kernel_rfl)|omega|assumption|with_reducible rfl|skip)))
  (simp only [vrt,Tryz.results62,vkt,seval,kT];refine Fin.val rfl ?_;(try simp only [AV.le]))
  all_goals first|rfl|simp
def seqK:List AV→Prop × AV
 |[.sl l,.sl m]=>(l=(l.map dTk).map eTk∧m=(m.map dTk).map eTk∧(l.map dTk).length≤maxLen∧(m.map dTk).length≤maxLen,aB (decide ((l.map dTk)=(m.map dTk))))
 |_=>(False,.junk)
theorem eeqK {A:Frm→Prop}:qm A Tryz.prog 62 (qG true seqK):=qH fun vs hv h=>by
 clear hv
 unfold seqK at h ⊢
 split at h
 ·rename_i l m;obtain ⟨q0,q1,k0,k1⟩:=h
  refine ⟨by first|trivial|(repeat' split) <;> simp [AV.plain,AV.plainL,aI,aB,ql,qb,qp,qx,aTk,cTk],fun _=>(by simp [AV.flat,aB]), ?_⟩
  have:=Ql0 (l.map dTk) (m.map dTk) k0 k1
  simp only [qp,← q0,← q1] at this
  first|exact this|(simp only [qp,← q0,← q1];exact this)
 ·exact h.elim
def ecS (c d:Chart) (k:Nat):St:={ t:=asg [(2,.ptr 0 0),(3,.ptr 1 0),(4,aB false),(5,aI k)],h:=qc [(0,.cells (qa c)),(1,.cells (qa d))],n:=2 }
def xR:=vj @ty3 (vj @Za (vj @yP (vj @wh (vj @wP (vj @Zt (vj @ti3.eq_1 (vj @Qp.eq_1 (vj @yh.eq_1 (vj @zQ.eq_1 (vj @wI.eq_1 @Qd.eq_1))))))))))
def xK:=vj @aI.eq_1 (@aB.eq_1)
theorem Qmi (c d:Chart) (h1:c.cabins.length≤maxLen) (h2:c.sold.length≤maxLen) (h4:d.sold.length≤maxLen):FnV Tryz.prog 21 [qd c,qd d] (aB (decide (c=d))):=by
 have env:Env (fun _=>True) Tryz.prog tyB (tab [(62,qG true seqK)]):=qA ⟨eeqK,trivial⟩
 refine Fn.of (A:=fun _=>True) (n0:=0) (D:=noD) (Fn0 Tryz.func21 rfl (fun vs w=>by kernel_rfl) (by kernel_rfl)) (by simp) (by simp [AV.ids,AV.idsL,qd,qa]) (fun i o h=>by cases h) (fun _ _ _ _=>trivial) qw ?_
 have hmx:maxLen=9223372036854775807:=by decide
 have hE:decide (c=d)=(decide (c.cabins=d.cabins) && (decide (c.secs=d.secs) && decide (c.sold=d.sold))):=by
  cases c;cases d;rw [Bool.eq_iff_iff];simp
 rw [hE]
 by_cases h0:c.cabins.length=d.cabins.length
 ·have d0:decide ((c.cabins.length:Int)=(d.cabins.length:Int))=true:=decide_eq_true (by omega)
  cases q0:decide (c.secs=d.secs) with
  |false =>
   rw [Bool.false_and,Bool.and_false]
   repeat' (first|(apply nx;with_reducible constructor)|refine uq (by decide) ?_|((first|refine vx env fun Q hQ=>?_|refine vz fun Q hQ=>?_);simp only [vkt,seval,xR,qd,qa,d0,q0,ite_and];(repeat' first|with_reducible assumption|apply kk|intro hp);all_goals (first|(refine hQ _ ?_;clear hQ Q)|(refine hQ _ (fun h=>?_) (fun h=>?_) <;> clear hQ Q <;> (try simp only [reduceCtorEq] at h))|(refine vq ?_;kernel_rfl)|omega|assumption|with_reducible rfl|skip)))
   (simp only [vrt,Tryz.results21,vkt,seval,xK];refine Fin.val rfl ?_;(try simp only [AV.le]))
   all_goals first|rfl|simp
  |true =>
   rw [Bool.true_and]
   repeat' (first|(apply nx;with_reducible constructor)|refine uq (by decide) ?_|((first|refine vx env fun Q hQ=>?_|refine vz fun Q hQ=>?_);simp only [vkt,seval,xR,qd,qa,d0,q0,ite_and];(repeat' first|with_reducible assumption|apply kk|intro hp);all_goals (first|(refine hQ _ ?_;clear hQ Q)|(refine hQ _ (fun h=>?_) (fun h=>?_) <;> clear hQ Q <;> (try simp only [reduceCtorEq] at h))|(refine vq ?_;kernel_rfl)|omega|assumption|with_reducible rfl|skip)))
   refine qC (fun k:{ k:Nat // k≤c.cabins.length∧∀ j,j < k→c.cabins.getD j default=d.cabins.getD j default }=>ecS c d k.1) (fun k=>c.cabins.length - k.1) ⟨0,Nat.zero_le _,fun j h=>absurd h (Nat.not_lt_zero _)⟩ ?_ fun ⟨k,hk,hno⟩=>?_
   ·simp only [ecS]
    (refine Le.ok some [] ?_;constructor;all_goals (try simp only [vle,vkt,seval,xK,qa]))
    all_goals first|rfl|simp
   simp only at hk hno ⊢
   simp only [ecS]
   by_cases hlt:k < c.cabins.length
   ·have d1:decide ((k:Int) < (c.cabins.length:Int))=true:=decide_eq_true (by omega)
    have hlm:k < d.cabins.length:=by omega
    have k0:((k:Int)).toNat=k:=rfl
    have e9:=k9 k (by omega)
    obtain ⟨x,hx⟩:∃ x,c.cabins.getD k default=x:=⟨_,rfl⟩
    obtain ⟨y,hy⟩:∃ x,d.cabins.getD k default=x:=⟨_,rfl⟩
    have hxy:(decide (x.beds=y.beds) && (x.door == y.door))=decide (x=y):=by cases x;cases y;rw [Qku]
    have hne:¬ x=y→decide (c.cabins=d.cabins)=false:=fun h=>decide_eq_false fun e=>h (by rw [← hx,← hy,e])
    cases q:decide (x=y) with
    |false =>
     rw [hne (of_decide_eq_false q),Bool.false_and]
     repeat' (first|(apply nx;with_reducible constructor)|refine uq (by decide) ?_|((first|refine vx env fun Q hQ=>?_|refine vz fun Q hQ=>?_);simp only [vkt,seval,xR,xK,qa,qz,yc,d1,k0,hlt,hlm,hx,hy,hxy,q,ite_and];(repeat' first|with_reducible assumption|apply kk|intro hp);all_goals (first|(refine hQ _ ?_;clear hQ Q)|(refine hQ _ (fun h=>?_) (fun h=>?_) <;> clear hQ Q <;> (try simp only [reduceCtorEq] at h))|(refine vq ?_;kernel_rfl)|omega|assumption|with_reducible rfl|skip)))
     (simp only [vrt,Tryz.results21,vkt,seval,xK];refine Fin.val rfl ?_;(try simp only [AV.le]))
     all_goals first|rfl|simp
    |true =>
     repeat' (first|(apply nx;with_reducible constructor)|refine uq (by decide) ?_|((first|refine vx env fun Q hQ=>?_|refine vz fun Q hQ=>?_);simp only [vkt,seval,xR,xK,qa,qz,yc,d1,k0,hlt,hlm,hx,hy,hxy,q,e9,ite_and];(repeat' first|with_reducible assumption|apply kk|intro hp);all_goals (first|(refine hQ _ ?_;clear hQ Q)|(refine hQ _ (fun h=>?_) (fun h=>?_) <;> clear hQ Q <;> (try simp only [reduceCtorEq] at h))|(refine vq ?_;kernel_rfl)|omega|assumption|with_reducible rfl|skip)))
     refine ⟨⟨k+1,hlt,fun j hj=>?_⟩,by show c.cabins.length - (k+1) < c.cabins.length - k;omega, ?_⟩
     ·rcases Nat.lt_or_eq_of_le (Nat.le_of_lt_succ hj) with h1|h1
      ·exact hno j h1
      ·rw [h1,hx,hy];exact of_decide_eq_true q
     ·simp only []
      (refine Le.ok some [] ?_;constructor;all_goals (try simp only [vle,vkt,seval,xK,qa]))
      all_goals first|rfl|simp
   ·have d1:decide ((k:Int) < (c.cabins.length:Int))=false:=decide_eq_false (by omega)
    obtain rfl:k=c.cabins.length:=by omega
    rw [decide_eq_true (ZF h0 hno),Bool.true_and]
    repeat' (first|(apply nx;with_reducible constructor)|refine uq (by decide) ?_|((first|refine vx env fun Q hQ=>?_|refine vz fun Q hQ=>?_);simp only [vkt,seval,xR,xK,qa,mTk,seqK,d1,h2,h4,ite_and];(repeat' first|with_reducible assumption|apply kk|intro hp);all_goals (first|(refine hQ _ ?_;clear hQ Q)|(refine hQ _ (fun h=>?_) (fun h=>?_) <;> clear hQ Q <;> (try simp only [reduceCtorEq] at h))|(refine vq ?_;kernel_rfl)|omega|assumption|with_reducible rfl|skip)))
    (simp only [vrt,Tryz.results21,vkt,seval,xK];refine Fin.val rfl ?_;(try simp only [AV.le]))
    all_goals first|rfl|simp
 ·have d0:decide ((c.cabins.length:Int)=(d.cabins.length:Int))=false:=decide_eq_false (by omega)
  rw [decide_eq_false (fun e:c.cabins=d.cabins=>h0 (by rw [e])),Bool.false_and]
  repeat' (first|(apply nx;with_reducible constructor)|refine uq (by decide) ?_|((first|refine vx env fun Q hQ=>?_|refine vz fun Q hQ=>?_);simp only [vkt,seval,xR,qd,qa,d0,ite_and];(repeat' first|with_reducible assumption|apply kk|intro hp);all_goals (first|(refine hQ _ ?_;clear hQ Q)|(refine hQ _ (fun h=>?_) (fun h=>?_) <;> clear hQ Q <;> (try simp only [reduceCtorEq] at h))|(refine vq ?_;kernel_rfl)|omega|assumption|with_reducible rfl|skip)))
  (simp only [vrt,Tryz.results21,vkt,seval,xK];refine Fin.val rfl ?_;(try simp only [AV.le]))
  all_goals first|rfl|simp
def seqC:List AV→Prop × AV
 |[.agg [.sl c0,.v (.int .i64 c1),.sl c2],.agg [.sl d0,.v (.int .i64 d1),.sl d2]]=>(c0=(c0.map qj).map qz∧c2=(c2.map dTk).map eTk∧d0=(d0.map qj).map qz∧d2=(d2.map dTk).map eTk∧((⟨(c0.map qj),c1,(c2.map dTk)⟩:Chart)).cabins.length≤maxLen∧((⟨(c0.map qj),c1,(c2.map dTk)⟩:Chart)).sold.length≤maxLen∧((⟨(d0.map qj),d1,(d2.map dTk)⟩:Chart)).sold.length≤maxLen,aB (decide (((⟨(c0.map qj),c1,(c2.map dTk)⟩:Chart))=((⟨(d0.map qj),d1,(d2.map dTk)⟩:Chart)))))
 |_=>(False,.junk)
theorem eeqC {A:Frm→Prop}:qm A Tryz.prog 21 (qG true seqC):=qH fun vs hv h=>by
 clear hv
 unfold seqC at h ⊢
 split at h
 ·rename_i c0 c1 c2 d0 d1 d2;obtain ⟨q0,q1,q2,q3,k0,k1,k2⟩:=h
  refine ⟨by first|trivial|(repeat' split) <;> simp [AV.plain,AV.plainL,aI,aB,ql,qb,qp,qx,aTk,cTk],fun _=>(by simp [AV.flat,aB]), ?_⟩
  have:=Qmi ((⟨(c0.map qj),c1,(c2.map dTk)⟩:Chart)) ((⟨(d0.map qj),d1,(d2.map dTk)⟩:Chart)) k0 k1 k2
  simp only [qd,qa,← q0,← q1,← q2,← q3] at this
  first|exact this|(simp only [zB,qd,aI,qp,qa,← q0,← q1,← q2,← q3];exact this)
 ·exact h.elim
def rpS (c:Chart) (a:Ask) (Al M:List (List Bunk)) (T:List (Nat × AV)):St:={ t:=asg (T++[(2,.ptr 0 0),(3,.ptr 1 0),(5,.row 3),(6,.row 2)]),h:=qc [(0,.cells (qa c)),(1,.cells (qg a)),(2,.row 44 1 (Al.map qY)),(3,.row 44 1 (M.map qY))],n:=4 }
theorem QeD {α:Type} {p:α→Bool} {d:α} {l:List α} {i:Nat} (h:i < l.length):(l.take (i+1)).filter p=(l.take i).filter p++if p (l.getD i d) then [l.getD i d] else []:=by
 rw [List.take_succ_eq_append_getElem h,List.filter_append,List.getD_eq_getElem?_getD,List.getElem?_eq_getElem h]
 cases hp:p l[i] <;> simp [hp]
def vH:=vj @ty3 (vj @wh (vj @yf (vj @jL (vj @QbT (vj @Q0 (vj @yu (vj @ti3.eq_1 (vj @zQ.eq_1 (vj @jK.eq_1 (vj @wY.eq_1 (vj @Xx.eq_1 (vj @kU.eq_1 @jQ.eq_1))))))))))))
def ZZ:=vj @aI.eq_1 (vj @aB.eq_1 (@jJ))
theorem Qbf (c:Chart) (a:Ask) (hc:CarOk c) (hs:c.sold.length≤20) (ha:0 < a.sexes.length∧a.sexes.length≤3):FnV Tryz.prog 54 [qd c,qI a] (vN ((alL (qK c.cabins) a.sexes.length).filter (zG c a))):=by
 have env:Env (fun _=>True) Tryz.prog tyB (tab [(70,qG false YM),(69,fnE (pAl a.sexes.length)),(106,qG true Q3)]):=qA ⟨QjH,eAl (QhN _),QgS,trivial⟩
 refine Fn.of (A:=fun _=>True) (n0:=0) (D:=noD) (Fn0 Tryz.func54 rfl (fun vs w=>by kernel_rfl) (by kernel_rfl)) (by simp) (by simp [AV.ids,AV.idsL,qd,qa,qI,qg]) (fun i o h=>by cases h) (fun _ _ _ _=>trivial) qw ?_
 have eC:(⟨c.cabins,c.secs,c.sold⟩:Chart)=c:=rfl
 have eA:(⟨a.party,a.frm,a.to,a.sexes,a.dog⟩:Ask)=a:=rfl
 have hmx:(100000:Nat)≤maxLen:=by decide
 have hbds:=hc.beds
 have hCar:=hc
 obtain ⟨ha1,ha2⟩:=ha
 have c6:c.cabins.length≤3:=hc.cabs.2
 have c7:∀ x ∈ c.cabins,x.beds≤3:=fun x hx=>(hbds x hx).2
 have c8:(qK c.cabins).length≤9:=QjY c6 hbds
 have c5:a.sexes.length≤20:=by omega
 have hA1:∀ p ∈ alL (qK c.cabins) a.sexes.length,p.length=a.sexes.length:=fun p hp=>Qt p hp
 obtain ⟨Al,hAl⟩:∃ Al,alL (qK c.cabins) a.sexes.length=Al:=⟨_,rfl⟩
 have hAll:Al.length≤1000:=by
  rw [← hAl,Uc]
  have h1:(qK c.cabins).length ^ a.sexes.length≤9 ^ a.sexes.length:=Nat.pow_le_pow_left c8 _
  have h2:9 ^ a.sexes.length≤9 ^ 3:=Nat.pow_le_pow_right (by decide) ha2
  omega
 rw [hAl] at hA1
 rw [hAl]
 repeat' (first|(apply nx;with_reducible constructor)|refine uq (by decide) ?_|((first|refine vx env fun Q hQ=>?_|refine vz fun Q hQ=>?_);simp only [vkt,seval,vH,qb,yX,qy,mTk,qd,qa,qI,qg,YM,pAl,c6,c8,ha2,hAl,ite_and];(repeat' first|with_reducible assumption|apply kk|intro hp);all_goals (first|(refine hQ _ ?_;clear hQ Q)|(refine hQ _ (fun h=>?_) (fun h=>?_) <;> clear hQ Q <;> (try simp only [vki,reduceCtorEq] at h))|(refine vq ?_;kernel_rfl)|omega|assumption|with_reducible rfl|skip)))
 refine qC (fun i:{ i:Nat // i≤Al.length }=>rpS c a Al ((Al.take i.1).filter (zG c a)) [(7,aI i.1)]) (fun i=>Al.length - i.1) ⟨0,Nat.zero_le _⟩ ?_ fun ⟨i,hi⟩=>?_
 ·simp only [rpS,List.take_zero,List.filter_nil,List.cons_append,List.nil_append]
  (refine Le.ok (fun i=>if i=3 then none else some i) [] ?_;constructor;all_goals (try simp only [vle,vkt,seval,ZZ,qa,qg]))
  all_goals first|rfl|(simp;done)|(intro i hi;rw [if_neg (by omega)];done)
 simp only at hi ⊢
 have hMl:((Al.take i).filter (zG c a)).length≤i:=Nat.le_trans (List.length_filter_le _ _) (by rw [List.length_take];omega)
 by_cases hil:i < Al.length
 ·have d1:decide ((i:Int) < (Al.length:Int))=true:=decide_eq_true (by omega)
  have e9:=k9 i (by omega)
  have i0:((i:Int)).toNat=i:=rfl
  have hS:=QeD (p:=zG c a) (d:=[]) hil
  have hg:=Xb hil
  have hpl:=hA1 (Al.getD i []) (wC hil)
  obtain ⟨p,hp⟩:∃ p,Al.getD i []=p:=⟨_,rfl⟩
  obtain ⟨M,hM⟩:∃ M,(Al.take i).filter (zG c a)=M:=⟨_,rfl⟩
  rw [hp] at hg hS hpl
  rw [hM] at hS hMl
  have hm:M.length+1≤maxLen:=by omega
  have p1:p.length≤maxLen:=by omega
  simp only [rpS,hM,List.cons_append,List.nil_append]
  cases q:zG c a p with
  |true =>
   rw [q,if_pos rfl] at hS
   repeat' (first|(apply nx;with_reducible constructor)|refine uq (by decide) ?_|((first|refine vx env fun Q hQ=>?_|refine vz fun Q hQ=>?_);simp only [vkt,seval,vH,ZZ,qY,Qbu,yX,qy,mTk,qa,qg,Q3,d1,i0,hil,hg,eC,eA,hCar,hs,ha1,c5,p1,q,e9,hm,ite_and];(repeat' first|with_reducible assumption|apply kk|intro hp);all_goals (first|(refine hQ _ ?_;clear hQ Q)|(refine hQ _ (fun h=>?_) (fun h=>?_) <;> clear hQ Q <;> (try simp only [reduceCtorEq] at h))|(refine vq ?_;kernel_rfl)|omega|assumption|with_reducible rfl|skip)))
   refine ⟨⟨i+1,hil⟩,by show Al.length - (i+1) < Al.length - i;omega, ?_⟩
   simp only [hS]
   (refine Le.ok (fun i=>if i=3 then some 5 else some i) [] ?_;constructor;all_goals (try simp only [vle,vkt,seval,ZZ,qa,qg]))
   all_goals first|rfl|(rw [List.map_append];rfl)|(simp;done)|(intro i hi;rw [if_neg (by omega)];done)
  |false =>
   rw [q,if_neg (by decide),List.append_nil] at hS
   repeat' (first|(apply nx;with_reducible constructor)|refine uq (by decide) ?_|((first|refine vx env fun Q hQ=>?_|refine vz fun Q hQ=>?_);simp only [vkt,seval,vH,ZZ,qY,yX,qy,mTk,qa,qg,Q3,d1,i0,hil,hg,eC,eA,hCar,hs,ha1,c5,p1,q,e9,ite_and];(repeat' first|with_reducible assumption|apply kk|intro hp);all_goals (first|(refine hQ _ ?_;clear hQ Q)|(refine hQ _ (fun h=>?_) (fun h=>?_) <;> clear hQ Q <;> (try simp only [reduceCtorEq] at h))|(refine vq ?_;kernel_rfl)|omega|assumption|with_reducible rfl|skip)))
   refine ⟨⟨i+1,hil⟩,by show Al.length - (i+1) < Al.length - i;omega, ?_⟩
   simp only [hS]
   (refine Le.ok some [] ?_;constructor;all_goals (try simp only [vle,vkt,seval,ZZ,qa,qg]))
   all_goals first|rfl|simp
 ·have d1:decide ((i:Int) < (Al.length:Int))=false:=decide_eq_false (by omega)
  obtain rfl:i=Al.length:=by omega
  rw [List.take_length]
  simp only [rpS,List.cons_append,List.nil_append]
  repeat' (first|(apply nx;with_reducible constructor)|refine uq (by decide) ?_|((first|refine vx env fun Q hQ=>?_|refine vz fun Q hQ=>?_);simp only [vkt,seval,vH,ZZ,qa,qg,d1,ite_and];(repeat' first|with_reducible assumption|apply kk|intro hp);all_goals (first|(refine hQ _ ?_;clear hQ Q)|(refine hQ _ (fun h=>?_) (fun h=>?_) <;> clear hQ Q <;> (try simp only [reduceCtorEq] at h))|(refine vq ?_;kernel_rfl)|omega|assumption|with_reducible rfl|skip)))
  (simp only [vrt,Tryz.results54,vkt,seval,vN];refine Fin.val rfl ?_;(try simp only [AV.le]))
  all_goals first|rfl|(simp;done)|exact ⟨_,_,rfl⟩
def Js:List AV→Prop × AV
 |[.agg [.sl c0,.v (.int .i64 c1),.sl c2],.agg [.v (.int .i64 a0),.v (.int .i64 a1),.v (.int .i64 a2),.sl a3,.v (.bool a4)]]=>(c0=(c0.map qj).map qz∧c2=(c2.map dTk).map eTk∧a3=(a3.map qM).map qU∧CarOk ((⟨(c0.map qj),c1,(c2.map dTk)⟩:Chart))∧((⟨(c0.map qj),c1,(c2.map dTk)⟩:Chart)).sold.length≤20∧0 < ((⟨a0,a1,a2,(a3.map qM),a4⟩:Ask)).sexes.length∧((⟨a0,a1,a2,(a3.map qM),a4⟩:Ask)).sexes.length≤3,vN ((alL (qK ((⟨(c0.map qj),c1,(c2.map dTk)⟩:Chart)).cabins) ((⟨a0,a1,a2,(a3.map qM),a4⟩:Ask)).sexes.length).filter (zG ((⟨(c0.map qj),c1,(c2.map dTk)⟩:Chart)) ((⟨a0,a1,a2,(a3.map qM),a4⟩:Ask)))))
 |_=>(False,.junk)
theorem Qhc {A:Frm→Prop}:qm A Tryz.prog 54 (qG false Js):=qH fun vs hv h=>by
 clear hv
 unfold Js at h ⊢
 split at h
 ·rename_i c0 c1 c2 a0 a1 a2 a3 a4;obtain ⟨q0,q1,q2,k0,k1,k2,k3⟩:=h
  refine ⟨by first|trivial|(repeat' split) <;> simp [AV.plain,AV.plainL,aI,aB,ql,qb,qp,qx,aTk,cTk],fun h=>absurd h (by decide), ?_⟩
  have:=Qbf ((⟨(c0.map qj),c1,(c2.map dTk)⟩:Chart)) ((⟨a0,a1,a2,(a3.map qM),a4⟩:Ask)) k0 k1 ⟨k2,k3⟩
  simp only [qI,qd,qg,qa,← q0,← q1,← q2] at this
  first|exact this|(simp only [qI,aB,zB,qd,aI,ql,qp,qg,qa,← q0,← q1,← q2];exact this)
 ·exact h.elim
def rcS (c:Chart) (k:Nat):St:={ t:=asg [(1,.ptr 0 0),(2,aI 0),(3,aI k)],h:=qc [(0,.cells (qa c))],n:=1 }
def kM (c:Chart):Int:=if c.cabins.length=0 then 7 else if 3 < c.cabins.length then 6 else if zM (c.cabins.map vg) ≠ 0 then zM (c.cabins.map vg) else if !inB c.secs 1 5 then 1 else 0
theorem Qbe (c:Chart):zw c=if kM c ≠ 0 then kM c else if 8 < c.sold.length then 6 else zW c c.sold:=by
 unfold zw QL kM qR
 by_cases h1:c.cabins.length=0
 ·rw [if_pos (show (c.cabins.length:Int) < 1 by omega),if_pos h1];simp
 rw [if_neg (show ¬ (c.cabins.length:Int) < 1 by omega),if_neg h1]
 by_cases h2:3 < c.cabins.length
 ·rw [if_pos (show (3:Int) < (c.cabins.length:Int) by omega),if_pos h2];simp
 rw [if_neg (show ¬ (3:Int) < (c.cabins.length:Int) by omega),if_neg h2]
 simp only [ne_eq,not_true_eq_false,if_false]
 by_cases h3:zM (c.cabins.map vg)=0
 ·rw [h3]
  simp only [not_true_eq_false,if_false]
  cases inB c.secs 1 5 with
  |false=>simp
  |true =>
   simp only [Bool.not_true,Bool.false_eq_true,if_false,not_true_eq_false]
   by_cases h4:8 < c.sold.length
   ·rw [if_neg (show ¬ (c.sold.length:Int) < 0 by omega),if_pos (show (8:Int) < (c.sold.length:Int) by omega),if_pos h4];simp
   ·rw [if_neg (show ¬ (c.sold.length:Int) < 0 by omega),if_neg (show ¬ (8:Int) < (c.sold.length:Int) by omega),if_neg h4];simp
 ·simp [h3]
theorem Qjt {c:Chart} (h:kM c=0):CarOk c:=by
 unfold kM at h
 split at h
 ·exact absurd h (by decide)
 split at h
 ·exact absurd h (by decide)
 split at h
 ·exact absurd h ‹_›
 rename_i h3
 split at h
 ·exact absurd h (by decide)
 rename_i h4
 refine ⟨by omega,fun x hx=>?_,zY.1 (by simpa using h4)⟩
 have:=vS (Decidable.not_not.1 h3) _ (List.mem_map.2 ⟨x,hx,rfl⟩)
 unfold vg at this
 split at this
 ·exact absurd this (by decide)
 ·rename_i h5;exact zY.1 (by simpa using h5)
def yH:=vj @ty3 (vj @Za (vj @wh (vj @Zt (vj @ti3.eq_1 (vj @Qp.eq_1 (vj @zQ.eq_1 @Qd.eq_1))))))
def y7:=vj @aI.eq_1 (@aB.eq_1)
theorem QjZ (c:Chart) (hc:c.cabins.length≤maxLen):FnV Tryz.prog 119 [qd c] (aI (kM c)):=by
 have env:Env (fun _=>True) Tryz.prog tyB (tab [(83,qG true yl)]):=qA ⟨Qdw,trivial⟩
 refine Fn.of (A:=fun _=>True) (n0:=0) (D:=noD) (Fn0 Tryz.func119 rfl (fun vs w=>by kernel_rfl) (by kernel_rfl)) (by simp) (by simp [AV.ids,AV.idsL,qd,qa]) (fun i o h=>by cases h) (fun _ _ _ _=>trivial) qw ?_
 by_cases h1:c.cabins.length=0
 ·rw [show kM c=7 by unfold kM;rw [if_pos h1]]
  have d1:decide ((c.cabins.length:Int)=0)=true:=decide_eq_true (by omega)
  repeat' (first|(apply nx;with_reducible constructor)|refine uq (by decide) ?_|((first|refine vx env fun Q hQ=>?_|refine vz fun Q hQ=>?_);simp only [vkt,seval,yH,qd,qa,d1,ite_and];(repeat' first|with_reducible assumption|apply kk|intro hp);all_goals (first|(refine hQ _ ?_;clear hQ Q)|(refine hQ _ (fun h=>?_) (fun h=>?_) <;> clear hQ Q <;> (try simp only [reduceCtorEq] at h))|(refine vq ?_;kernel_rfl)|omega|assumption|with_reducible rfl|skip)))
  (simp only [vrt,Tryz.results119,vkt,seval,y7];refine Fin.val rfl ?_;(try simp only [AV.le]))
  all_goals first|rfl|simp
 have d1:decide ((c.cabins.length:Int)=0)=false:=decide_eq_false (by omega)
 by_cases h2:3 < c.cabins.length
 ·rw [show kM c=6 by unfold kM;rw [if_neg h1,if_pos h2]]
  have d2:decide ((3:Int) < (c.cabins.length:Int))=true:=decide_eq_true (by omega)
  repeat' (first|(apply nx;with_reducible constructor)|refine uq (by decide) ?_|((first|refine vx env fun Q hQ=>?_|refine vz fun Q hQ=>?_);simp only [vkt,seval,yH,qd,qa,d1,d2,ite_and];(repeat' first|with_reducible assumption|apply kk|intro hp);all_goals (first|(refine hQ _ ?_;clear hQ Q)|(refine hQ _ (fun h=>?_) (fun h=>?_) <;> clear hQ Q <;> (try simp only [reduceCtorEq] at h))|(refine vq ?_;kernel_rfl)|omega|assumption|with_reducible rfl|skip)))
  (simp only [vrt,Tryz.results119,vkt,seval,y7];refine Fin.val rfl ?_;(try simp only [AV.le]))
  all_goals first|rfl|simp
 have d2:decide ((3:Int) < (c.cabins.length:Int))=false:=decide_eq_false (by omega)
 have hE:kM c=if zM (c.cabins.map vg) ≠ 0 then zM (c.cabins.map vg) else if !inB c.secs 1 5 then 1 else 0:=by unfold kM;rw [if_neg h1,if_neg h2]
 rw [hE]
 repeat' (first|(apply nx;with_reducible constructor)|refine uq (by decide) ?_|((first|refine vx env fun Q hQ=>?_|refine vz fun Q hQ=>?_);simp only [vkt,seval,yH,qd,qa,d1,d2,ite_and];(repeat' first|with_reducible assumption|apply kk|intro hp);all_goals (first|(refine hQ _ ?_;clear hQ Q)|(refine hQ _ (fun h=>?_) (fun h=>?_) <;> clear hQ Q <;> (try simp only [reduceCtorEq] at h))|(refine vq ?_;kernel_rfl)|omega|assumption|with_reducible rfl|skip)))
 refine qC (fun k:{ k:Nat // k≤c.cabins.length∧∀ j,j < k→(c.cabins.map vg).getD j 0=0 }=>rcS c k.1) (fun k=>c.cabins.length - k.1) ⟨0,Nat.zero_le _,fun j h=>absurd h (Nat.not_lt_zero _)⟩ ?_ fun ⟨k,hk,hno⟩=>?_
 ·simp only [rcS]
  (refine Le.ok some [] ?_;constructor;all_goals (try simp only [vle,vkt,seval,y7,qa]))
  all_goals first|rfl|simp
 simp only at hk hno ⊢
 simp only [rcS]
 by_cases hlt:k < c.cabins.length
 ·have d3:decide ((k:Int) < (c.cabins.length:Int))=true:=decide_eq_true (by omega)
  have k0:((k:Int)).toNat=k:=rfl
  have e9:=k9 k (by omega)
  obtain ⟨x,hx⟩:∃ x,c.cabins.getD k default=x:=⟨_,rfl⟩
  have hm:(c.cabins.map vg).getD k 0=vg x:=by rw [mapD hlt,hx]
  cases hb:inB x.beds 1 3 with
  |false =>
   have hE:vg x=1:=by simp [vg,hb]
   have hf:=wU hno (by simpa using hlt) (by rw [hm,hE];decide)
   rw [hm,hE] at hf
   rw [hf,if_pos (by decide)]
   repeat' (first|(apply nx;with_reducible constructor)|refine uq (by decide) ?_|((first|refine vx env fun Q hQ=>?_|refine vz fun Q hQ=>?_);simp only [vkt,seval,yH,y7,qa,qz,yc,yl,d3,k0,hlt,hx,hb,ite_and];(repeat' first|with_reducible assumption|apply kk|intro hp);all_goals (first|(refine hQ _ ?_;clear hQ Q)|(refine hQ _ (fun h=>?_) (fun h=>?_) <;> clear hQ Q <;> (try simp only [reduceCtorEq] at h))|(refine vq ?_;kernel_rfl)|omega|assumption|with_reducible rfl|skip)))
   (simp only [vrt,Tryz.results119,vkt,seval,y7];refine Fin.val rfl ?_;(try simp only [AV.le]))
   all_goals first|rfl|simp
  |true =>
   have hE:vg x=0:=by simp [vg,hb]
   repeat' (first|(apply nx;with_reducible constructor)|refine uq (by decide) ?_|((first|refine vx env fun Q hQ=>?_|refine vz fun Q hQ=>?_);simp only [vkt,seval,yH,y7,qa,qz,yc,yl,d3,k0,hlt,hx,hb,e9,ite_and];(repeat' first|with_reducible assumption|apply kk|intro hp);all_goals (first|(refine hQ _ ?_;clear hQ Q)|(refine hQ _ (fun h=>?_) (fun h=>?_) <;> clear hQ Q <;> (try simp only [reduceCtorEq] at h))|(refine vq ?_;kernel_rfl)|omega|assumption|with_reducible rfl|skip)))
   refine ⟨⟨k+1,hlt,fun j hj=>?_⟩,by show c.cabins.length - (k+1) < c.cabins.length - k;omega, ?_⟩
   ·rcases Nat.lt_or_eq_of_le (Nat.le_of_lt_succ hj) with h2|h2
    ·exact hno j h2
    ·rw [h2,hm,hE]
   ·simp only []
    (refine Le.ok some [] ?_;constructor;all_goals (try simp only [vle,vkt,seval,y7,qa]))
    all_goals first|rfl|simp
 ·have d3:decide ((k:Int) < (c.cabins.length:Int))=false:=decide_eq_false (by omega)
  obtain rfl:k=c.cabins.length:=by omega
  have hf:zM (c.cabins.map vg)=0:=wD (by simpa using hno)
  rw [hf,if_neg (by decide)]
  cases hs:inB c.secs 1 5 with
  |false =>
   repeat' (first|(apply nx;with_reducible constructor)|refine uq (by decide) ?_|((first|refine vx env fun Q hQ=>?_|refine vz fun Q hQ=>?_);simp only [vkt,seval,yH,y7,qa,yl,d3,hs,ite_and];(repeat' first|with_reducible assumption|apply kk|intro hp);all_goals (first|(refine hQ _ ?_;clear hQ Q)|(refine hQ _ (fun h=>?_) (fun h=>?_) <;> clear hQ Q <;> (try simp only [reduceCtorEq] at h))|(refine vq ?_;kernel_rfl)|omega|assumption|with_reducible rfl|skip)))
   (simp only [vrt,Tryz.results119,vkt,seval,y7];refine Fin.val rfl ?_;(try simp only [AV.le]))
   all_goals first|rfl|simp
  |true =>
   repeat' (first|(apply nx;with_reducible constructor)|refine uq (by decide) ?_|((first|refine vx env fun Q hQ=>?_|refine vz fun Q hQ=>?_);simp only [vkt,seval,yH,y7,qa,yl,d3,hs,ite_and];(repeat' first|with_reducible assumption|apply kk|intro hp);all_goals (first|(refine hQ _ ?_;clear hQ Q)|(refine hQ _ (fun h=>?_) (fun h=>?_) <;> clear hQ Q <;> (try simp only [reduceCtorEq] at h))|(refine vq ?_;kernel_rfl)|omega|assumption|with_reducible rfl|skip)))
   (simp only [vrt,Tryz.results119,vkt,seval,y7];refine Fin.val rfl ?_;(try simp only [AV.le]))
   all_goals first|rfl|simp
def KG:List AV→Prop × AV
 |[.agg [.sl c0,.v (.int .i64 c1),.sl c2]]=>(c0=(c0.map qj).map qz∧c2=(c2.map dTk).map eTk∧((⟨(c0.map qj),c1,(c2.map dTk)⟩:Chart)).cabins.length≤maxLen,aI (kM ((⟨(c0.map qj),c1,(c2.map dTk)⟩:Chart))))
 |_=>(False,.junk)
theorem ercar {A:Frm→Prop}:qm A Tryz.prog 119 (qG true KG):=qH fun vs hv h=>by
 clear hv
 unfold KG at h ⊢
 split at h
 ·rename_i c0 c1 c2;obtain ⟨q0,q1,k0⟩:=h
  refine ⟨by first|trivial|(repeat' split) <;> simp [AV.plain,AV.plainL,aI,aB,ql,qb,qp,qx,aTk,cTk],fun _=>(by simp [AV.flat,aI]), ?_⟩
  have:=QjZ ((⟨(c0.map qj),c1,(c2.map dTk)⟩:Chart)) k0
  simp only [qd,aI,qa,← q0,← q1] at this
  first|exact this|(simp only [zB,qd,aI,qp,qa,← q0,← q1];exact this)
 ·exact h.elim
def QK:=vj @ty3 (vj @yP (vj @wh (vj @x8 (vj @wP (vj @ti3.eq_1 (vj @yh.eq_1 (vj @zQ.eq_1 (vj @vV.eq_1 @wI.eq_1))))))))
def ZY:=vj @aI.eq_1 (@aB.eq_1)
theorem Qex (c:Chart) (hc:c.cabins.length≤maxLen) (hs:c.sold.length≤100000):FnV Tryz.prog 82 [qd c] (aI (zw c)):=by
 have env:Env (fun _=>True) Tryz.prog tyB (tab [(119,qG true KG),(112,qG true Vp)]):=qA ⟨ercar,Qlb,trivial⟩
 refine Fn.of (A:=fun _=>True) (n0:=0) (D:=noD) (Fn0 Tryz.func82 rfl (fun vs w=>by kernel_rfl) (by kernel_rfl)) (by simp) (by simp [AV.ids,AV.idsL,qd,qa]) (fun i o h=>by cases h) (fun _ _ _ _=>trivial) qw ?_
 have ec:(⟨c.cabins,c.secs,c.sold⟩:Chart)=c:=rfl
 rw [Qbe]
 obtain ⟨e,he⟩:∃ e,kM c=e:=⟨_,rfl⟩
 by_cases h0:e=0
 ·have hok:=Qjt (he.trans h0)
  rw [h0] at he
  rw [he,if_neg (by decide)]
  by_cases h8:8 < c.sold.length
  ·rw [if_pos h8]
   have d1:decide ((8:Int) < (c.sold.length:Int))=true:=decide_eq_true (by omega)
   repeat' (first|(apply nx;with_reducible constructor)|refine uq (by decide) ?_|((first|refine vx env fun Q hQ=>?_|refine vz fun Q hQ=>?_);simp only [vkt,seval,QK,ZY,qd,qa,mTk,qy,KG,hc,ec,he,d1,decide_true,ite_and];(repeat' first|with_reducible assumption|apply kk|intro hp);all_goals (first|(refine hQ _ ?_;clear hQ Q)|(refine hQ _ (fun h=>?_) (fun h=>?_) <;> clear hQ Q <;> (try simp only [reduceCtorEq] at h))|(refine vq ?_;kernel_rfl)|omega|assumption|with_reducible rfl|skip)))
   (simp only [vrt,Tryz.results82,vkt,seval,ZY];refine Fin.val rfl ?_;(try simp only [AV.le]))
   all_goals first|rfl|simp
  ·rw [if_neg h8]
   have d1:decide ((8:Int) < (c.sold.length:Int))=false:=decide_eq_false (by omega)
   have h100:c.sold.length≤100:=by omega
   repeat' (first|(apply nx;with_reducible constructor)|refine uq (by decide) ?_|((first|refine vx env fun Q hQ=>?_|refine vz fun Q hQ=>?_);simp only [vkt,seval,QK,ZY,qd,qa,mTk,qy,KG,Vp,hc,ec,he,d1,hok,h100,decide_true,ite_and];(repeat' first|with_reducible assumption|apply kk|intro hp);all_goals (first|(refine hQ _ ?_;clear hQ Q)|(refine hQ _ (fun h=>?_) (fun h=>?_) <;> clear hQ Q <;> (try simp only [reduceCtorEq] at h))|(refine vq ?_;kernel_rfl)|omega|assumption|with_reducible rfl|skip)))
   (simp only [vrt,Tryz.results82,vkt,seval,ZY];refine Fin.val rfl ?_;(try simp only [AV.le]))
   all_goals first|rfl|simp
 ·rw [he,if_pos h0]
  have d0:decide (e=0)=false:=decide_eq_false h0
  repeat' (first|(apply nx;with_reducible constructor)|refine uq (by decide) ?_|((first|refine vx env fun Q hQ=>?_|refine vz fun Q hQ=>?_);simp only [vkt,seval,QK,ZY,qd,qa,mTk,qy,KG,hc,ec,he,d0,ite_and];(repeat' first|with_reducible assumption|apply kk|intro hp);all_goals (first|(refine hQ _ ?_;clear hQ Q)|(refine hQ _ (fun h=>?_) (fun h=>?_) <;> clear hQ Q <;> (try simp only [reduceCtorEq] at h))|(refine vq ?_;kernel_rfl)|omega|assumption|with_reducible rfl|skip)))
  (simp only [vrt,Tryz.results82,vkt,seval,ZY];refine Fin.val rfl ?_;(try simp only [AV.le]))
  all_goals first|rfl|simp
def Z4:List AV→Prop × AV
 |[.agg [.sl c0,.v (.int .i64 c1),.sl c2]]=>(c0=(c0.map qj).map qz∧c2=(c2.map dTk).map eTk∧((⟨(c0.map qj),c1,(c2.map dTk)⟩:Chart)).cabins.length≤maxLen∧((⟨(c0.map qj),c1,(c2.map dTk)⟩:Chart)).sold.length≤100000,aI (zw ((⟨(c0.map qj),c1,(c2.map dTk)⟩:Chart))))
 |_=>(False,.junk)
theorem QiX {A:Frm→Prop}:qm A Tryz.prog 82 (qG true Z4):=qH fun vs hv h=>by
 clear hv
 unfold Z4 at h ⊢
 split at h
 ·rename_i c0 c1 c2;obtain ⟨q0,q1,k0,k1⟩:=h
  refine ⟨by first|trivial|(repeat' split) <;> simp [AV.plain,AV.plainL,aI,aB,ql,qb,qp,qx,aTk,cTk],fun _=>(by simp [AV.flat,aI]), ?_⟩
  have:=Qex ((⟨(c0.map qj),c1,(c2.map dTk)⟩:Chart)) k0 k1
  simp only [qd,aI,qa,← q0,← q1] at this
  first|exact this|(simp only [zB,qd,aI,qp,qa,← q0,← q1];exact this)
 ·exact h.elim
def Yh:=vj @Za (vj @yP (vj @wh (vj @wP (vj @Zt (vj @Qp.eq_1 (vj @yh.eq_1 (vj @zQ.eq_1 (vj @wI.eq_1 @Qd.eq_1))))))))
theorem Qgo (c:Chart) (h3:c.cabins.length≤100000) (h4:c.sold.length≤100000):FnV Tryz.prog 14 [qd c] (qd c):=by
 have env:Env (fun _=>True) Tryz.prog tyB (tab []):=qA trivial
 obtain ⟨b1,b2,b3,b5,b4⟩:=b47 h3
 obtain ⟨c1,c2,c3,c5,c4⟩:=b47 h4
 refine Fn.of (A:=fun _=>True) (n0:=0) (D:=noD) (Fn0 Tryz.func14 rfl (fun vs w=>by kernel_rfl) (by kernel_rfl)) (by simp) (by simp [AV.ids,AV.idsL,qd,qa]) (fun i o h=>by cases h) (fun _ _ _ _=>trivial) qw ?_
 repeat' (first|(apply nx;with_reducible constructor)|refine uq (by decide) ?_|((first|refine vx env fun Q hQ=>?_|refine vz fun Q hQ=>?_);simp only [vkt,seval,Yh,qd,qa,rTk,R8,b4,c4,ite_and];(repeat' first|with_reducible assumption|apply kk|intro hp);all_goals (first|(refine hQ _ ?_;clear hQ Q)|(refine hQ _ (fun h=>?_) (fun h=>?_) <;> clear hQ Q <;> (try simp only [vki,reduceCtorEq] at h))|(refine vq ?_;kernel_rfl)|omega|assumption|with_reducible rfl|skip)))
 (simp only [vrt,Tryz.results14,vkt,seval,Yh,qd,qa];refine Fin.val rfl ?_;(try simp only [AV.le,AV.leL]))
 all_goals first|rfl|(simp;done)|exact ⟨⟨_,_,rfl⟩,trivial,⟨_,_,rfl⟩,trivial⟩
def Ua:List AV→Prop × AV
 |[.agg [.sl c0,.v (.int .i64 c1),.sl c2]]=>(c0=(c0.map qj).map qz∧c2=(c2.map dTk).map eTk∧((⟨(c0.map qj),c1,(c2.map dTk)⟩:Chart)).cabins.length≤100000∧((⟨(c0.map qj),c1,(c2.map dTk)⟩:Chart)).sold.length≤100000,qd ((⟨(c0.map qj),c1,(c2.map dTk)⟩:Chart)))
 |_=>(False,.junk)
theorem QlK {A:Frm→Prop}:qm A Tryz.prog 14 (qG false Ua):=qH fun vs hv h=>by
 clear hv
 unfold Ua at h ⊢
 split at h
 ·rename_i c0 c1 c2;obtain ⟨q0,q1,k0,k1⟩:=h
  refine ⟨by first|trivial|(repeat' split) <;> simp [AV.plain,AV.plainL,aI,aB,ql,qb,qp,qx,aTk,cTk],fun h=>absurd h (by decide), ?_⟩
  have:=Qgo ((⟨(c0.map qj),c1,(c2.map dTk)⟩:Chart)) k0 k1
  simp only [qd,qa,← q0,← q1] at this
  first|exact this|(simp only [qd,qa,← q0,← q1];exact this)
 ·exact h.elim
def Jz:=vj @Za (vj @yP (vj @wh (vj @wP (vj @Zt (vj @Qp.eq_1 (vj @yh.eq_1 (vj @zQ.eq_1 (vj @wI.eq_1 @Qd.eq_1))))))))
theorem QdQ (cs ts:List (List DV)) (s:Int) (h1:ze 2 cs) (h2:ze 7 ts) (h3:cs.length≤100000) (h4:ts.length≤100000):Fn noB Tryz.prog 90 [.agg [.sl cs,.v (.int .i64 s),.sl ts]] noH (.agg [.row 0,.v (.int .i64 s),.row 1]) (qc [(0,.row 89 2 cs),(1,.row 64 7 ts)]) 0:=by
 have env:Env (fun _=>True) Tryz.prog tyB (tab []):=qA trivial
 obtain ⟨b1,b2,b3,b5,b4⟩:=b47 h3
 obtain ⟨c1,c2,c3,c5,c4⟩:=b47 h4
 refine Fn.of (A:=fun _=>True) (n0:=0) (D:=noD) (Fn0 Tryz.func90 rfl (fun vs w=>by kernel_rfl) (by kernel_rfl)) (by simp) (by simp [AV.ids,AV.idsL]) (fun i o h=>by cases h) (fun _ _ _ _=>trivial) qw ?_
 repeat' (first|(apply nx;with_reducible constructor)|refine uq (by decide) ?_|((first|refine vx env fun Q hQ=>?_|refine vz fun Q hQ=>?_);simp only [vkt,seval,Jz,h1,h2,ite_and];(repeat' first|with_reducible assumption|apply kk|intro hp);all_goals (first|(refine hQ _ ?_;clear hQ Q)|(refine hQ _ (fun h=>?_) (fun h=>?_) <;> clear hQ Q <;> (try simp only [vki,reduceCtorEq] at h))|(refine vq ?_;kernel_rfl)|omega|assumption|with_reducible rfl|skip)))
 (simp only [vrt,Tryz.results90,vkt,seval,Jz];refine Fin.ok (fun j=>[2,3][j]?) [] ?_ ?_ ?_ ?_ ?_ rfl;all_goals (try simp only [vle,vkt,seval]))
 all_goals first|rfl|simp
def YK (_:St):List AV→Option Pk
 |[.agg [.sl cs,.v (.int .i64 s),.sl ts]]=>some { pre:=ze 2 cs∧ze 7 ts∧cs.length≤100000∧ts.length≤100000,ar:=[.agg [.sl cs,.v (.int .i64 s),.sl ts]],v:=.agg [.row 0,.v (.int .i64 s),.row 1],L1:=[some (.row 89 2 cs),some (.row 64 7 ts)] }
 |_=>none
theorem QjA {A:Frm→Prop}:qm A Tryz.prog 90 (fnE YK):=qZ fun S bs q h hp=>by
 unfold YK at h
 split at h
 ·cases h;exact QdQ _ _ _ hp.1 hp.2.1 hp.2.2.1 hp.2.2.2
 ·cases h
def Yo:=vj @yP (vj @wh (vj @wP (vj @yh.eq_1 (vj @zQ.eq_1 @wI.eq_1))))
theorem QhH (c:Chart) (l:List Tk) (h1:c.cabins.length≤100000) (h2:c.sold.length≤1000) (h3:l.length≤1000):FnV Tryz.prog 60 [qd c,qp l] (qd ⟨c.cabins,c.secs,c.sold++l⟩):=by
 have env:Env (fun _=>True) Tryz.prog tyB (tab [(90,fnE YK)]):=qA ⟨QjA,trivial⟩
 refine Fn.of (A:=fun _=>True) (n0:=0) (D:=noD) (Fn0 Tryz.func60 rfl (fun vs w=>by kernel_rfl) (by kernel_rfl)) (by simp) (by simp [AV.ids,AV.idsL,qd,qa,qp]) (fun i o h=>by cases h) (fun _ _ _ _=>trivial) qw ?_
 have hmx:(100000:Nat)≤maxLen:=by decide
 have h4:c.sold.length≤100000:=by omega
 have h5:c.sold.length+l.length≤maxLen:=by omega
 have hA:qd ⟨c.cabins,c.secs,c.sold++l⟩=.agg [.sl (c.cabins.map qz),.v (.int .i64 c.secs),.sl (c.sold.map eTk++l.map eTk)]:=by
  unfold qd qa
  rw [List.map_append]
 rw [hA]
 repeat' (first|(apply nx;with_reducible constructor)|refine uq (by decide) ?_|((first|refine vx env fun Q hQ=>?_|refine vz fun Q hQ=>?_);simp only [vkt,seval,Yo,qd,qa,qp,rTk,R8,YK,h1,h4,h5,ite_and];(repeat' first|with_reducible assumption|apply kk|intro hp);all_goals (first|(refine hQ _ ?_;clear hQ Q)|(refine hQ _ (fun h=>?_) (fun h=>?_) <;> clear hQ Q <;> (try simp only [vki,reduceCtorEq] at h))|(refine vq ?_;kernel_rfl)|omega|assumption|with_reducible rfl|skip)))
 (simp only [vrt,Tryz.results60,vkt,seval,Yo];refine Fin.val rfl ?_;(try simp only [AV.le,AV.leL]))
 all_goals first|rfl|(simp;done)|exact ⟨⟨_,_,rfl⟩,trivial,⟨_,_,rfl⟩,trivial⟩
def Xp:List AV→Prop × AV
 |[.agg [.sl c0,.v (.int .i64 c1),.sl c2],.sl l]=>(c0=(c0.map qj).map qz∧c2=(c2.map dTk).map eTk∧l=(l.map dTk).map eTk∧((⟨(c0.map qj),c1,(c2.map dTk)⟩:Chart)).cabins.length≤100000∧((⟨(c0.map qj),c1,(c2.map dTk)⟩:Chart)).sold.length≤1000∧(l.map dTk).length≤1000,qd ⟨((⟨(c0.map qj),c1,(c2.map dTk)⟩:Chart)).cabins,((⟨(c0.map qj),c1,(c2.map dTk)⟩:Chart)).secs,((⟨(c0.map qj),c1,(c2.map dTk)⟩:Chart)).sold++(l.map dTk)⟩)
 |_=>(False,.junk)
theorem Qlt {A:Frm→Prop}:qm A Tryz.prog 60 (qG false Xp):=qH fun vs hv h=>by
 clear hv
 unfold Xp at h ⊢
 split at h
 ·rename_i c0 c1 c2 l;obtain ⟨q0,q1,q2,k0,k1,k2⟩:=h
  refine ⟨by first|trivial|(repeat' split) <;> simp [AV.plain,AV.plainL,aI,aB,ql,qb,qp,qx,aTk,cTk],fun h=>absurd h (by decide), ?_⟩
  have:=QhH ((⟨(c0.map qj),c1,(c2.map dTk)⟩:Chart)) (l.map dTk) k0 k1 k2
  simp only [qd,qp,qa,← q0,← q1,← q2] at this
  first|exact this|(simp only [qd,qa,← q0];exact this)
 ·exact h.elim
def Yk:=vj @ty3 (vj @Za (vj @yP (vj @wh (vj @wP (vj @Zt (vj @ti3.eq_1 (vj @Qp.eq_1 (vj @yh.eq_1 (vj @zQ.eq_1 (vj @wI.eq_1 @Qd.eq_1))))))))))
def QcI:=vj @aI.eq_1 (@aB.eq_1)
theorem Qhm (c:Chart):FnV Tryz.prog 8 [qd c] (aB (decide (20 < (c.cabins.length:Int)) || decide (20 < (c.sold.length:Int)))):=by
 have env:Env (fun _=>True) Tryz.prog tyB (tab []):=qA trivial
 refine Fn.of (A:=fun _=>True) (n0:=0) (D:=noD) (Fn0 Tryz.func8 rfl (fun vs w=>by kernel_rfl) (by kernel_rfl)) (by simp) (by simp [AV.ids,AV.idsL,qd,qa]) (fun i o h=>by cases h) (fun _ _ _ _=>trivial) qw ?_
 cases q:decide (20 < (c.cabins.length:Int)) with
 |true =>
  repeat' (first|(apply nx;with_reducible constructor)|refine uq (by decide) ?_|((first|refine vx env fun Q hQ=>?_|refine vz fun Q hQ=>?_);simp only [vkt,seval,Yk,qd,qa,q,ite_and];(repeat' first|with_reducible assumption|apply kk|intro hp);all_goals (first|(refine hQ _ ?_;clear hQ Q)|(refine hQ _ (fun h=>?_) (fun h=>?_) <;> clear hQ Q <;> (try simp only [vki,reduceCtorEq] at h))|(refine vq ?_;kernel_rfl)|omega|assumption|with_reducible rfl|skip)))
  (simp only [vrt,Tryz.results8,vkt,seval,QcI];refine Fin.val rfl ?_;(try simp only [AV.le]))
  all_goals first|rfl|simp
 |false =>
  repeat' (first|(apply nx;with_reducible constructor)|refine uq (by decide) ?_|((first|refine vx env fun Q hQ=>?_|refine vz fun Q hQ=>?_);simp only [vkt,seval,Yk,qd,qa,q,ite_and];(repeat' first|with_reducible assumption|apply kk|intro hp);all_goals (first|(refine hQ _ ?_;clear hQ Q)|(refine hQ _ (fun h=>?_) (fun h=>?_) <;> clear hQ Q <;> (try simp only [vki,reduceCtorEq] at h))|(refine vq ?_;kernel_rfl)|omega|assumption|with_reducible rfl|skip)))
  (simp only [vrt,Tryz.results8,vkt,seval,QcI];refine Fin.val rfl ?_;(try simp only [AV.le]))
  all_goals first|rfl|simp
def xV:List AV→Prop × AV
 |[.agg [.sl c0,.v (.int .i64 c1),.sl c2]]=>(c0=(c0.map qj).map qz∧c2=(c2.map dTk).map eTk,aB (decide (20 < ((((⟨(c0.map qj),c1,(c2.map dTk)⟩:Chart)).cabins.length:Nat):Int)) || decide (20 < ((((⟨(c0.map qj),c1,(c2.map dTk)⟩:Chart)).sold.length:Nat):Int))))
 |_=>(False,.junk)
theorem Qle {A:Frm→Prop}:qm A Tryz.prog 8 (qG true xV):=qH fun vs hv h=>by
 clear hv
 unfold xV at h ⊢
 split at h
 ·rename_i c0 c1 c2;obtain ⟨q0,q1⟩:=h
  refine ⟨by first|trivial|(repeat' split) <;> simp [AV.plain,AV.plainL,aI,aB,ql,qb,qp,qx,aTk,cTk],fun _=>(by simp [AV.flat,aB]), ?_⟩
  have:=Qhm ((⟨(c0.map qj),c1,(c2.map dTk)⟩:Chart))
  simp only [qd,qa,← q0,← q1] at this
  first|exact this|(simp only [zB,qd,aI,qp,qa,← q0,← q1];exact this)
 ·exact h.elim
def raS (c:Chart) (a:Ask) (T:List (Nat × AV)):St:={ t:=asg (T++[(2,.ptr 0 0),(3,.ptr 1 0),(4,aI 0)]),h:=qc [(0,.cells (qa c)),(1,.cells (qg a))],n:=2 }
theorem Vd {α:Type} {p:α→Bool} {l:List α} {k:Nat} {d:α} (h:k < l.length) (hp:p (l.getD k d)=true):l.any p=true:=List.any_eq_true.2 ⟨_,wC h,hp⟩
theorem V8 {α:Type} {p:α→Bool} {l:List α} {d:α} (h:∀ j,j < l.length→p (l.getD j d)=false):l.any p=false:=by
 rw [List.any_eq_false]
 intro x hx
 obtain ⟨j,hj,rfl⟩:=List.getElem_of_mem hx
 have:=h j hj
 rw [List.getD_eq_getElem?_getD,List.getElem?_eq_getElem hj] at this
 simpa using this
def wS:=vj @ty3 (vj @yP (vj @wh (vj @yf (vj @jL (vj @x8 (vj @wP (vj @ti3.eq_1 (vj @yh.eq_1 (vj @zQ.eq_1 (vj @jK.eq_1 (vj @wY.eq_1 (vj @vV.eq_1 @wI.eq_1))))))))))))
def wG:=vj @aI.eq_1 (vj @aB.eq_1 (vj @ql.eq_1 (vj @qU.eq_1 (vj @JN (@jJ)))))
end Go.Sym.B
