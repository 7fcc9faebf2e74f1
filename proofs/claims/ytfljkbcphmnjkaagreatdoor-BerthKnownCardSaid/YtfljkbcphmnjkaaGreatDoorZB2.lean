/- Walks and what they compute, joined: part 2. -/
import Derived.Test.YtfljkbcphmnjkaaGreatDoorZS3
import Derived.Test.YtfljkbcphmnjkaaGreatDoorProg
import Derived.KernelRfl
import Derived.Test.YtfljkbcphmnjkaaGreatDoorZB1
set_option linter.all false
namespace Go.Sym.B
open Go Go.Sym Go.Proofs Go.Sym.C
theorem QdG {c:Chart} {a:Ask} (h:PlOk c a):Fn noB Tryz.prog 69 [.nil,.clo 67 [.ptr 2 0,.ptr 3 0]] (qj (qH 0 (plL c a))) (.row 4) (qj (wP 0 ((plL c a).map some++[some (.row 43 1 (plR c a (plP c a).length))]))) 0:=by
 have env:Env (fun F=>F.r=none) Tryz.prog tyB (tab []):=qO trivial
 refine Fn.of (A:=fun F=>F.r=none) (n0:=4) (D:=noD) (Fn0 Tryz.func69 rfl (fun vs w=>by kernel_rfl) (by kernel_rfl)) (by simp) (by simp [AV.ids,AV.idsL]) VL (fun _ _ _ h=>h) qG ?_
 have hbd:=QbK h
 have hm:(729:Nat)+1≤maxLen:=by decide
 obtain ⟨N,hN⟩:∃ N,(plP c a).length=N:=⟨_,rfl⟩
 rw [hN] at hbd ⊢
 show Sym _ _ _ (zR [.nil,.clo 67 [.ptr 2 0,.ptr 3 0]] 4 (qj [(0,qg c.cabins c.secs 1),(1,qf c.sold),(2,.cells [.ptr 0 0]),(3,.cells (ql a))])) (vo tyB noD Tryz.f69 fun S rv=>Fin S rv _ 4 (qj [(0,qg c.cabins c.secs 1),(1,qf c.sold),(2,.cells [.ptr 0 0]),(3,.cells (ql a)),(4,.row 43 1 (plR c a N))]) 0)
 repeat' (first|(apply nx;with_reducible constructor)|refine jq (by decide) ?_|((first|refine kz env fun Q hQ=>?_|refine kj fun Q hQ=>?_);simp only [vkt,seval,jY,Wm,qd,qB,qg,qf,qm,plL,aqL,JS,List.length_map,nth,hwL,Nat.zero_add,Nat.sub_zero];(try simp only [ite_and]);(repeat' (first|with_reducible assumption|refine And.intro ?_ ?_|intro hp));all_goals (first|(refine hQ _ ?_;clear hQ Q)|(refine hQ _ (fun h=>?_) (fun h=>?_) <;> clear hQ Q <;> (try simp only [vki,reduceCtorEq] at h))|(refine kx ?_;kernel_rfl)|omega|assumption|with_reducible rfl|skip)))
 refine vM (S':={ t:=asg aqL0,h:=qj (aqH c a 0++[(0,qg c.cabins c.secs 1),(1,qf c.sold),(2,.cells [.ptr 0 0]),(3,.cells (ql a))]),n:=6,j:=0,d:=[],m:=4 }) ?_ ?_
 ·show Le _ { t:=asg [(2,.ptr 4 0),(6,.clo 67 [.ptr 2 0,.ptr 3 0])],h:=qj [(4,.cells [.row 5]),(5,.row 43 1 []),(0,qg c.cabins c.secs 1),(1,qf c.sold),(2,.cells [.ptr 0 0]),(3,.cells (ql a))],n:=6,j:=0,d:=[],m:=4 }
  (refine Le.ok (fun i=>if i=5 then none else some i) [] ?_;constructor;all_goals (try simp only [vle,vkt,seval,jY,Wm,qd,qB,qg,qf,qm,plL,aqL,JS,List.length_map,nth,hwL,Nat.zero_add,Nat.sub_zero]))
  all_goals first|rfl|(simp [ql,AV.leL,AV.le,AV.idsL,AV.ids];done)|(intro i hi;rw [if_neg (by omega)];done)
 rw [← UY c a]
 refine yQ (fun F h=>h) 1 (L:=aqL0) (L':=aqL) (xs:=[1,2,3]) (hs:=[0,1,2,3]) (n:=6) (nl:=1) (hc:=aqH c a) (Lp:=plL c a) (jj:=fun _=>0) (d:=[]) (ys:=plY c a) (hl:=plH c a) (ans:=fun _=>true) (ex:=.ret) (caps:=[.ptr 2 0,.ptr 3 0]) (caps0:=[.ptr 2 0,.ptr 3 0]) (N:=(plP c a).length) (R:=N) (A':=fun _ _=>True) rfl (JA h) (by rw [hN];exact UM) (.inl rfl) ?_ ?_ ?_ rfl (by simp) ?_ (by simp) (fun _ _ _ _ _ _=>trivial) ?_ ?_ ?_ ?_ ?_ ?_ (fun j hj=>?_) ?_ (fun j hj=>?_) (fun _=>?_) (fun _ h=>by cases h)
 ·simp [AV.leL,AV.le]
 ·simp [AV.nocbL,AV.nocb]
 ·simp [Z5,plL,qg,qf,ql,AObj.nocb,AV.nocbL,AV.nocb,AObj.ids,AV.ids,AV.idsL,AObj.ren,AV.renL,AV.ren,AObj.le,AV.leL,AV.le,qz]
 ·simp [aqH,qj]
 ·simp [aqH,qj]
 ·simp [aqH,AObj.ids,AV.ids,AV.idsL]
 ·simp [X5,aqL,aqL0,asg,upd]
 ·simp [LV]
 ·intro j hj
  simp [absent,aqH,Ur]
 ·simp [JG,aqL,AV.ids]
 ·refine ⟨?_,rfl, ?_, ?_,rfl, ?_⟩
  ·simp [Qg,aqH,AObj.ids,AV.ids,AV.idsL]
  ·simp [ZG,plH,qm,qg,qf,AObj.nocb,AV.nocbL,AV.nocb,AObj.ids,AV.ids,AV.idsL]
  ·simp [YI,plY,qd,AV.nocb,AV.ids]
  ·simp [Qf,ZP,Ur,aqH,aqL,xQ,AV.ids,ADf.ids,List.range_succ]
 ·simp [Qg,aqH,AObj.ids,AV.ids,AV.idsL]
 ·have env:Env (fun _:Frm=>True) Tryz.prog tyB (tab []):=qO trivial
  obtain ⟨x,hx⟩:∃ x,((plP c a).getD j default).1=x:=⟨_,rfl⟩
  have hS:=Qfa (c:=c) (a:=a) (j:=j) (by omega)
  rw [hx] at hS
  have hl:(plR c a j).length≤729:=by simp [plR];omega
  have hl1:(plR c a j).length+1≤maxLen:=by omega
  have hst:jf aqL [7] [0] 6 1 (plY c a j) (aqH c a j) (plH c a j)={ t:=asg [(7,qd x),(2,.ptr 4 0)],h:=qj [(6,.mark),(4,.cells [.row 5]),(5,.row 43 1 (plR c a j)),(0,qg c.cabins c.secs 7),(7,qf ((plP c a).getD j default).2)],n:=8,m:=8 }:=by
   simp only [jf,Ur,plY,hx,qd,List.map_cons,List.map_nil,AV.ren,List.zip_cons_cons,List.zip_nil_right,aqH,aqL,QY,List.cons_append,List.nil_append]
   rfl
  show Sym _ _ _ (jf aqL [7] [0] 6 1 (plY c a j) (aqH c a j) (plH c a j)) _
  rw [hst]
  obtain ⟨r,hr⟩:∃ r,((plP c a).getD j default).2=r:=⟨_,rfl⟩
  rw [hr]
  repeat' (first|(apply nx;with_reducible constructor)|refine jq (by decide) ?_|((first|refine kz env fun Q hQ=>?_|refine kj fun Q hQ=>?_);simp only [vkt,seval,jY,Wm,qd,qB,qg,qf,qm,plL,aqL,JS,List.length_map,nth,hwL,Nat.zero_add,Nat.sub_zero,hl1];(try simp only [ite_and]);(repeat' (first|with_reducible assumption|refine And.intro ?_ ?_|intro hp));all_goals (first|(refine hQ _ ?_;clear hQ Q)|(refine hQ _ (fun h=>?_) (fun h=>?_) <;> clear hQ Q <;> (try simp only [vki,reduceCtorEq] at h))|(refine kx ?_;kernel_rfl)|omega|assumption|with_reducible rfl|skip)))
  refine ⟨rfl,rfl,(fun i=>if i=5 then some 9 else some i),_,RFin.okQ (fun i=>if i=5 then some 9 else some i) [] ?_⟩
  constructor
  all_goals (try simp only [vle,xn,vW,qz,plH,aqH,hr,hS,qB,vkt,seval,jY,Wm,qd,qB,qg,qf,qm,plL,aqL,JS,List.length_map,nth,hwL,Nat.zero_add,Nat.sub_zero])
  all_goals first|rfl|(simp;done)|(simp [aqL,xQ,AV.ids,ADf.ids,List.range_succ];done)
 ·have eh:qj ((6,AObj.mark) :: aqH c a N++zf [0,1,2,3] (6+1) 0 (plL c a))=qj [(6,.mark),(4,.cells [.row 5]),(5,.row 43 1 (plR c a N)),(0,qg c.cabins c.secs 1),(1,qf c.sold),(2,.cells [.ptr 0 0]),(3,.cells (ql a))]:=by
   rw [show zf [0,1,2,3] (6+1) 0 (plL c a)=zf [0,1,2,3] 7 0 (plL c a) from rfl,UY];rfl
  rw [eh]
  repeat' (first|(apply nx;with_reducible constructor)|refine jq (by decide) ?_|((first|refine kz env fun Q hQ=>?_|refine kj fun Q hQ=>?_);simp only [vkt,seval,jY,Wm,qd,qB,qg,qf,qm,plL,aqL,JS,List.length_map,nth,hwL,Nat.zero_add,Nat.sub_zero];(try simp only [ite_and]);(repeat' (first|with_reducible assumption|refine And.intro ?_ ?_|intro hp));all_goals (first|(refine hQ _ ?_;clear hQ Q)|(refine hQ _ (fun h=>?_) (fun h=>?_) <;> clear hQ Q <;> (try simp only [vki,reduceCtorEq] at h))|(refine kx ?_;kernel_rfl)|omega|assumption|with_reducible rfl|skip)))
  (simp only [vrt,Tryz.results69,vkt,seval,jY,Wm,qd,qB,qg,qf,qm,plL,aqL,JS,List.length_map,nth,hwL,Nat.zero_add,Nat.sub_zero];refine Fin.ok (fun j=>[0,1,2,3,5][j]?) [] ?_ ?_ ?_ ?_ ?_ rfl;all_goals (try simp only [vle,vkt,seval,jY,Wm,qd,qB,qg,qf,qm,plL,aqL,JS,List.length_map,nth,hwL,Nat.zero_add,Nat.sub_zero]))
  all_goals first|rfl|(simp [ql,AV.leL,AV.le];done)|exact fun i hi=>(match i,hi with|0,_=>rfl|1,_=>rfl|2,_=>rfl|3,_=>rfl)
def JD (c:Chart) (a:Ask) (S:St):List AV→Option Pk
 |[.nil,.clo f [.ptr p2 0,.ptr p3 0]]=>match S.h p2 with
  |some (.cells [.ptr p 0])=>match S.h p with
   |some (.cells [_,_,.row r])=>some { pre:=f=67∧PlOk c a,hs:=[p,r,p2,p3],ar:=[.nil,.clo 67 [.ptr 2 0,.ptr 3 0]],L0:=plL c a,v:=.row 4,L1:=(plL c a).map some++[some (.row 43 1 (plR c a (plP c a).length))] }
   |_=>none
  |_=>none
 |_=>none
theorem QiR {A:Frm→Prop} {c:Chart} {a:Ask}:qC A Tryz.prog 69 (fnE (JD c a)):=wK fun S bs q h hp=>by
 unfold JD at h
 split at h
 ·split at h
  ·split at h
   ·cases h;exact QdG hp.2
   ·cases h
  ·cases h
 ·cases h
def UE:=kk @aI.eq_1 (@aB.eq_1)
theorem Qbc {c:Chart} {a:Ask} (h:PlOk c a):Fn noB Tryz.prog 40 [.clo 67 [.ptr 2 0,.ptr 3 0]] (qj (qH 0 (plL c a))) (.row 4) (qj (wP 0 ((plL c a).map some++[some (.row 43 1 (plR c a (plP c a).length))]))) 0:=by
 have env:Env (fun _=>True) Tryz.prog tyB (tab [(69,fnE (JD c a))]):=qO ⟨QiR,trivial⟩
 refine Fn.of (A:=fun _=>True) (n0:=4) (D:=noD) (Fn0 Tryz.func40 rfl (fun vs w=>by kernel_rfl) (by kernel_rfl)) (by simp) (by simp [AV.ids,AV.idsL]) VL (fun _ _ _ _=>trivial) qG ?_
 obtain ⟨X,hX⟩:∃ X,plR c a (plP c a).length=X:=⟨_,rfl⟩
 rw [hX]
 show Sym _ _ _ (zR [.clo 67 [.ptr 2 0,.ptr 3 0]] 4 (qj [(0,qg c.cabins c.secs 1),(1,qf c.sold),(2,.cells [.ptr 0 0]),(3,.cells (ql a))])) (vo tyB noD Tryz.f40 fun S rv=>Fin S rv _ 4 (qj [(0,qg c.cabins c.secs 1),(1,qf c.sold),(2,.cells [.ptr 0 0]),(3,.cells (ql a)),(4,.row 43 1 X)]) 0)
 repeat' (first|(apply nx;with_reducible constructor)|refine jq (by decide) ?_|((first|refine kz env fun Q hQ=>?_|refine kj fun Q hQ=>?_);simp only [vkt,seval,UE,ql,qg,qf,plL,JD,List.length_map,h,hX];(try simp only [ite_and]);(repeat' (first|with_reducible assumption|refine And.intro ?_ ?_|intro hp));all_goals (first|(refine hQ _ ?_;clear hQ Q)|(refine hQ _ (fun h=>?_) (fun h=>?_) <;> clear hQ Q <;> (try simp only [vki,reduceCtorEq] at h))|(refine kx ?_;kernel_rfl)|omega|assumption|with_reducible rfl|skip)))
 (simp only [vrt,Tryz.results40,vkt,seval,UE,ql,qg,qf,plL,JD,List.length_map];refine Fin.ok some [] ?_ ?_ ?_ ?_ ?_ rfl;all_goals (try simp only [vle,vkt,seval,UE,ql,qg,qf,plL,JD,List.length_map]))
 all_goals first|rfl|(simp [ql,AV.leL,AV.le];done)|exact fun i hi=>(match i,hi with|0,_=>rfl|1,_=>rfl|2,_=>rfl|3,_=>rfl)
def kH (c:Chart) (a:Ask) (S:St):List AV→Option Pk
 |[.clo f [.ptr p2 0,.ptr p3 0]]=>match S.h p2 with
  |some (.cells [.ptr p 0])=>match S.h p with
   |some (.cells [_,_,.row r])=>some { pre:=f=67∧PlOk c a,hs:=[p,r,p2,p3],ar:=[.clo 67 [.ptr 2 0,.ptr 3 0]],L0:=plL c a,v:=.row 4,L1:=(plL c a).map some++[some (.row 43 1 (plR c a (plP c a).length))] }
   |_=>none
  |_=>none
 |_=>none
theorem QeY {A:Frm→Prop} {c:Chart} {a:Ask}:qC A Tryz.prog 40 (fnE (kH c a)):=wK fun S bs q h hp=>by
 unfold kH at h
 split at h
 ·split at h
  ·split at h
   ·cases h;exact Qbc hp.2
   ·cases h
  ·cases h
 ·cases h
theorem Qc5 {c:Chart} {a:Ask} (h:kW c a=0):a.sexes.length≤3∧1≤a.sexes.length:=by
 unfold kW at h
 split at h
 ·exact absurd h (by decide)
 split at h
 ·exact absurd h (by decide)
 split at h
 ·exact absurd h ‹_›
 split at h
 ·exact absurd h ‹_›
 rename_i h4
 have h4:=Decidable.not_not.1 h4
 unfold je at h4
 split at h4
 ·exact absurd h4 (by decide)
 ·split at h4
  ·exact absurd h4 (by decide)
  ·omega
theorem Za {c:Chart} {a:Ask} (h:wX c a=0):PlOk c a:=⟨Qo (Q7 h).1,(Qc5 (Q7 h).2).1⟩
def xZ (c:Chart) (a:Ask):List (List Bunk):=if wX c a=0 then (plP c a).map (·.1) else []
def xG:=kk @xg (kk @Zu (kk @Q0 (kk @y9.eq_1 (kk @QP.eq_1 @Ql.eq_1))))
def JF:=kk @aI.eq_1 (kk @aB.eq_1 (@QJ))
theorem Vn (c:Chart) (a:Ask) (hc:c.cabins.length≤maxLen) (ha:a.sexes.length≤maxLen):Fn noB Tryz.prog 15 [qa c,qx a] noH (.tup [.row 0,aI (wX c a)]) (qj [(0,.row 43 1 ((xZ c a).map qB))]) 0:=by
 have env:Env (fun _=>True) Tryz.prog tyB (tab [(34,fnE zn),(37,fnE qF),(40,fnE (kH c a))]):=qO ⟨VT,Yp,QeY,trivial⟩
 refine Fn.of (A:=fun _=>True) (n0:=0) (D:=noD) (Fn0 Tryz.func15 rfl (fun vs w=>by kernel_rfl) (by kernel_rfl)) (by simp) (by simp [AV.ids,AV.idsL,qa,qb,qx,ql]) (fun i o h=>by cases h) (fun _ _ _ _=>trivial) qG ?_
 have ec:(⟨c.cabins,c.secs,c.sold⟩:Chart)=c:=rfl
 have ea:(⟨a.party,a.frm,a.to,a.sexes,a.dog⟩:Ask)=a:=rfl
 unfold xZ
 by_cases h0:wX c a=0
 ·have hok:=Za h0
  rw [if_pos h0,h0]
  obtain ⟨X,hX⟩:∃ X,plR c a (plP c a).length=X:=⟨_,rfl⟩
  have hXe:(List.map (fun x=>x.1) (plP c a)).map qB=X:=by rw [← hX];unfold plR;rw [List.take_length,List.map_map];rfl
  rw [hXe]
  repeat' (first|(apply nx;with_reducible constructor)|refine jq (by decide) ?_|((first|refine kz env fun Q hQ=>?_|refine kj fun Q hQ=>?_);simp only [vkt,seval,xG,JF,qa,qb,qx,ql,mTk,qc,qg,qf,qm,plL,zn,qF,kH,List.length_map,ec,ea,h0,hok,hX];(try simp only [ite_and]);(repeat' (first|with_reducible assumption|refine And.intro ?_ ?_|intro hp));all_goals (first|(refine hQ _ ?_;clear hQ Q)|(refine hQ _ (fun h=>?_) (fun h=>?_) <;> clear hQ Q <;> (try simp only [vki,reduceCtorEq] at h))|(refine kx ?_;kernel_rfl)|omega|assumption|with_reducible rfl|skip)))
  (simp only [vrt,Tryz.results15,vkt,seval,xG,JF,qa,qb,qx,ql,mTk,qc,qg,qf,qm,plL,zn,qF,kH,List.length_map];refine Fin.ok (fun j=>[6][j]?) [] ?_ ?_ ?_ ?_ ?_ rfl;all_goals (try simp only [vle,vkt,seval,xG,JF,qa,qb,qx,ql,mTk,qc,qg,qf,qm,plL,zn,qF,kH,List.length_map]))
  all_goals first|rfl|(simp;done)
 ·rw [if_neg h0]
  repeat' (first|(apply nx;with_reducible constructor)|refine jq (by decide) ?_|((first|refine kz env fun Q hQ=>?_|refine kj fun Q hQ=>?_);simp only [vkt,seval,xG,JF,qa,qb,qx,ql,mTk,qc,qg,qf,qm,plL,zn,qF,kH,List.length_map,ec,ea,h0];(try simp only [ite_and]);(repeat' (first|with_reducible assumption|refine And.intro ?_ ?_|intro hp));all_goals (first|(refine hQ _ ?_;clear hQ Q)|(refine hQ _ (fun h=>?_) (fun h=>?_) <;> clear hQ Q <;> (try simp only [vki,reduceCtorEq] at h))|(refine kx ?_;kernel_rfl)|omega|assumption|with_reducible rfl|skip)))
  (simp only [vrt,Tryz.results15,vkt,seval,xG,JF,qa,qb,qx,ql,mTk,qc,qg,qf,qm,plL,zn,qF,kH,List.length_map];refine Fin.ok (fun _=>none) [] ?_ ?_ ?_ ?_ ?_ rfl;all_goals (try simp only [vle,vkt,seval,xG,JF,qa,qb,qx,ql,mTk,qc,qg,qf,qm,plL,zn,qF,kH,List.length_map]))
  all_goals first|rfl|(simp;done)
def aU (n:Int):AV:=.v (.int .u64 n)
def ZO (a b:Int):Int:=IntKind.wrap .u64 (BitVec.ofInt IntKind.u64.bits a ||| BitVec.ofInt IntKind.u64.bits (IntKind.wrap .u64 (1 * 2 ^ min b.toNat IntKind.u64.bits))).toNat
def Vr:=kk @XD @Yg.eq_1
def Qck:=kk @aI.eq_1 (kk @aB.eq_1 (@aU.eq_1))
theorem Qfl (a b:Int) (hb:0≤b):FnV Tryz.prog 52 [aU a,aI b] (aU (ZO a b)):=by
 have env:Env (fun _=>True) Tryz.prog tyB (tab []):=qO trivial
 refine Fn.of (A:=fun _=>True) (n0:=0) (D:=noD) (Fn0 Tryz.func52 rfl (fun vs w=>by kernel_rfl) (by kernel_rfl)) (by simp) (by simp [AV.ids,AV.idsL,aU,aI]) (fun i o h=>by cases h) (fun _ _ _ _=>trivial) qG ?_
 repeat' (first|(apply nx;with_reducible constructor)|refine jq (by decide) ?_|((first|refine kz env fun Q hQ=>?_|refine kj fun Q hQ=>?_);simp only [vkt,seval,Vr,Qck,hb];(try simp only [ite_and]);(repeat' (first|with_reducible assumption|refine And.intro ?_ ?_|intro hp));all_goals (first|(refine hQ _ ?_;clear hQ Q)|(refine hQ _ (fun h=>?_) (fun h=>?_) <;> clear hQ Q <;> (try simp only [vki,reduceCtorEq] at h))|(refine kx ?_;kernel_rfl)|omega|assumption|with_reducible rfl|skip)))
 (simp only [vrt,Tryz.results52,vkt,seval,Vr,Qck];refine Fin.val rfl ?_;(try simp only [AV.le,AV.leL]))
 all_goals first|rfl|(simp;done)
def yO:List AV→Prop × AV
 |[.v (.int .u64 a),.v (.int .i64 b)]=>(0≤b,aU (ZO a b))
 |_=>(False,.junk)
theorem Qgz {A:Frm→Prop}:qC A Tryz.prog 52 (za true yO):=zx fun vs hv h=>by
 clear hv
 unfold yO at h ⊢
 split at h
 ·exact ⟨by simp [aU,AV.plain],fun _=>by simp [aU,AV.flat],Qfl _ _ h⟩
 ·exact h.elim
theorem ze (p:List Int):(p.map aU).all yD=true:=by simp [aU,yD]
theorem qL:∀ p:List Int,AV.idsL (p.map aU)=[]
 |[]=>rfl
 |x :: p=>by rw [List.map_cons,AV.idsL,qL p];rfl
theorem zu (h:Nat→Option AObj) (σ:Nat→Option Nat):∀ p:List Int,AV.leL h σ (p.map aU) (p.map aU)=True
 |[]=>by simp [AV.leL]
 |x :: p=>by simp [AV.leL,AV.le,aU,zu h σ p]
theorem q9 (τ:Nat→Nat):∀ p:List Int,AV.renL τ (p.map aU)=p.map aU
 |[]=>rfl
 |x :: p=>by simp [AV.renL,AV.ren,aU,q9 τ p]
theorem qE:∀ p:List Int,AV.plainL (p.map aU)=True
 |[]=>by simp [AV.plainL]
 |x :: p=>by simp [AV.plainL,AV.plain,aU,qE p]
theorem qJ:∀ p:List Int,AV.flatL (p.map aU)=True
 |[]=>by simp [AV.flatL]
 |x :: p=>by simp [AV.flatL,AV.flat,aU,qJ p]
theorem QfW {p:List Int} {i:Nat} (h:i < p.length):(((p.map aU).drop i).take 1).headD .junk=aU (p.getD i 0):=by
 rw [List.drop_eq_getElem_cons (by simpa using h)]
 simp [List.getD_eq_getElem?_getD,h]
theorem Qkz {p:List Int} {i:Nat} {n:Int} (h:i < p.length):(p.map aU).take i++[aU n]++(p.map aU).drop (i+1)=(p.set i n).map aU:=by
 apply List.ext_getElem?
 intro j
 rw [List.set_eq_take_append_cons_drop,if_pos h]
 simp
structure Van (c:Chart):Prop where
 car:CarOk c
 many:c.sold.length≤100
 tk:∀ t ∈ c.sold,TkOk c t
theorem Val.van {c:Chart} (h:Val c):Van c:=⟨h.car,by have:=h.many;omega,h.tk⟩
def ZY (s:Int) (h:List Int) (t:Tk):List Int:=if inB s t.frm (t.to - 1) then h.set t.cab.toNat (ZO (h.getD t.cab.toNat 0) t.bed) else h
def yu (l:List Tk) (s:Int) (k:Nat):List Int:=(l.take k).foldl (ZY s) [0,0,0]
theorem Wv {l:List Tk} {s:Int} {k:Nat} (h:k < l.length):yu l s (k+1)=ZY s (yu l s k) (l.getD k default):=by
 unfold yu
 rw [List.take_succ_eq_append_getElem h,List.foldl_append]
 simp [List.getD_eq_getElem?_getD,h]
theorem xJ (l:List Tk) (s:Int):∀ k,k≤l.length→(yu l s k).length=3
 |0,_=>rfl
 |k+1,h=>by
  rw [Wv (by omega),ZY]
  split
  ·rw [List.length_set];exact xJ l s k (by omega)
  ·exact xJ l s k (by omega)
def heT (c:Chart) (s:Int) (k:Nat):St:={ t:=asg [(1,aI s),(4,.ptr 1 0),(5,.ptr 2 0),(10,qw c.sold),(11,aI c.sold.length),(12,aI k)],h:=qj [(0,.cells (qb c)),(1,.cells [aU 0,aU 0,aU 0]),(2,.cells ((yu c.sold s k).map aU))],n:=3 }
def jO:=kk @ty3 (kk @QV (kk @xg (kk @QU (kk @xB (kk @XD (kk @ty79 (kk @ti3.eq_1 (kk @Qh.eq_1 (kk @y9.eq_1 (kk @Qi.eq_1 (kk @vJ.eq_1 (kk @Yg.eq_1 @QaZ.eq_1))))))))))))
def Qz:=kk @aI.eq_1 (kk @aB.eq_1 (@aU.eq_1))
theorem Qdz (c:Chart) (s:Int) (hv:Van c):FnV Tryz.prog 30 [qa c,aI s] (.agg ((yu c.sold s c.sold.length).map aU)):=by
 have env:Env (fun _=>True) Tryz.prog tyB (tab [(42,za true sin),(52,za true yO)]):=qO ⟨ein,Qgz,trivial⟩
 refine Fn.of (A:=fun _=>True) (n0:=0) (D:=noD) (Fn0 Tryz.func30 rfl (fun vs w=>by kernel_rfl) (by kernel_rfl)) (by simp) (by simp [AV.ids,AV.idsL,qa,qb,aI]) (fun i o h=>by cases h) (fun _ _ _ _=>trivial) qG ?_
 have hsl:=hv.many
 repeat' (first|(apply nx;with_reducible constructor)|refine jq (by decide) ?_|((first|refine kz env fun Q hQ=>?_|refine kj fun Q hQ=>?_);simp only [vkt,seval,jO,Qz,qw,qa,qb,eTk,gTk,heT,sin,yO,ze,qL,zu,q9,qE,qJ,List.length_map,Nat.mul_one];(try simp only [ite_and]);(repeat' (first|with_reducible assumption|refine And.intro ?_ ?_|intro hp));all_goals (first|(refine hQ _ ?_;clear hQ Q)|(refine hQ _ (fun h=>?_) (fun h=>?_) <;> clear hQ Q <;> (try simp only [vki,reduceCtorEq] at h))|(refine kx ?_;kernel_rfl)|omega|assumption|with_reducible rfl|skip)))
 refine zt (fun k:{ k:Nat // k≤c.sold.length }=>heT c s k.1) (fun k=>c.sold.length - k.1) ⟨0,Nat.zero_le _⟩ ?_ fun ⟨k,hk⟩=>?_
 ·(refine Le.ok some [] ?_;constructor;all_goals (try simp only [vle,vkt,seval,jO,Qz,qw,qa,qb,eTk,gTk,heT,sin,yO,ze,qL,zu,q9,qE,qJ,List.length_map,Nat.mul_one]))
  all_goals first|rfl|(simp [yu,AV.leL,AV.le,aU];done)
 ·repeat' (first|(apply nx;with_reducible constructor)|refine jq (by decide) ?_)
  (refine kz env fun Q hQ=>?_;simp only [vkt,seval,jO,Qz,qw,qa,qb,eTk,gTk,heT,sin,yO,ze,qL,zu,q9,qE,qJ,List.length_map,Nat.mul_one];(try simp only [ite_and]);(repeat' (first|with_reducible assumption|refine And.intro ?_ ?_|intro hp));all_goals (first|(refine hQ _ ?_;clear hQ Q)|(refine kx ?_;kernel_rfl)|omega|assumption|with_reducible rfl|skip))
  repeat' (first|(apply nx;with_reducible constructor)|refine jq (by decide) ?_)
  (refine yf (by simp only [vkt,seval,jO,Qz,qw,qa,qb,eTk,gTk,heT,sin,yO,ze,qL,zu,q9,qE,qJ,List.length_map,Nat.mul_one];rfl) (fun h=>?_) (fun h=>?_) <;> (try simp only [vki,reduceCtorEq] at h))
  ·have hlt:k < c.sold.length:=by omega
   have e9:IntKind.wrap .i64 ((k:Int)+1)=((k+1:Nat):Int):=by rw [wrap64 (by omega) (by omega)];rfl
   obtain ⟨x,hx⟩:∃ x,c.sold.getD k default=x:=⟨_,rfl⟩
   have hS:=Wv (s:=s) hlt
   rw [hx] at hS
   have hok:=hv.tk x (hx ▸ xV hlt)
   have hcl:=hv.car.cabs
   obtain ⟨⟨g1,g2⟩,g3,g4,g5,g6⟩:=(⟨hok.cab,hok.bed.1,hok.frm,hok.way,hok.to⟩:_∧_∧_∧_∧_)
   have gs:=hv.car.secs
   have w1:IntKind.wrap .i64 (x.to - 1)=x.to - 1:=wrap64 (by omega) (by omega)
   obtain ⟨i,hi⟩:∃ i:Nat,x.cab=(i:Int):=⟨x.cab.toNat,by omega⟩
   have hi3:i < 3:=by omega
   have hi3':(i:Int) < 3:=by omega
   have i0:(0:Int)≤(i:Int):=by omega
   obtain ⟨P,hP⟩:∃ P,yu c.sold s k=P:=⟨_,rfl⟩
   have hPl:P.length=3:=by rw [← hP];exact xJ _ _ _ hk
   rw [hP,ZY,hi,Int.toNat_natCast] at hS
   try simp only [heT,hP]
   have hiP:i < P.length:=by omega
   have hiP1:i+1≤P.length:=by omega
   have pg:=QfW hiP
   have ps:=Qkz (n:=ZO (P.getD i 0) x.bed) hiP
   cases hb:inB s x.frm (x.to - 1) with
   |false =>
    rw [hb] at hS
    repeat' (first|(apply nx;with_reducible constructor)|refine jq (by decide) ?_|((first|refine kz env fun Q hQ=>?_|refine kj fun Q hQ=>?_);simp only [vkt,seval,jO,Qz,qw,qa,qb,eTk,gTk,heT,sin,yO,ze,qL,zu,q9,qE,qJ,List.length_map,Nat.mul_one,hx,hb,w1,e9];(try simp only [ite_and]);(repeat' (first|with_reducible assumption|refine And.intro ?_ ?_|intro hp));all_goals (first|(refine hQ _ ?_;clear hQ Q)|(refine hQ _ (fun h=>?_) (fun h=>?_) <;> clear hQ Q <;> (try simp only [vki,reduceCtorEq] at h))|(refine kx ?_;kernel_rfl)|omega|assumption|with_reducible rfl|skip)))
    refine ⟨⟨k+1,hlt⟩,by show c.sold.length - (k+1) < c.sold.length - k;omega, ?_⟩
    simp only [heT,hS]
    (refine Le.ok some [] ?_;constructor;all_goals (try simp only [vle,vkt,seval,jO,Qz,qw,qa,qb,eTk,gTk,heT,sin,yO,ze,qL,zu,q9,qE,qJ,List.length_map,Nat.mul_one]))
    all_goals first|rfl|(simp [zu];done)
   |true =>
    rw [hb] at hS
    simp only [if_true] at hS
    simp only [aU] at pg ps
    repeat' (first|(apply nx;with_reducible constructor)|refine jq (by decide) ?_|((first|refine kz env fun Q hQ=>?_|refine kj fun Q hQ=>?_);simp only [vkt,seval,jO,Qz,qw,qa,qb,eTk,gTk,heT,sin,yO,ze,qL,zu,q9,qE,qJ,List.length_map,Nat.mul_one,hx,hb,w1,e9,hi,hi3',i0,hiP1,hPl,pg,ps,g3];(try simp only [ite_and]);(repeat' (first|with_reducible assumption|refine And.intro ?_ ?_|intro hp));all_goals (first|(refine hQ _ ?_;clear hQ Q)|(refine hQ _ (fun h=>?_) (fun h=>?_) <;> clear hQ Q <;> (try simp only [vki,reduceCtorEq] at h))|(refine kx ?_;kernel_rfl)|omega|assumption|with_reducible rfl|skip)))
    refine ⟨⟨k+1,hlt⟩,by show c.sold.length - (k+1) < c.sold.length - k;omega, ?_⟩
    simp only [heT,hS]
    (refine Le.ok some [] ?_;constructor;all_goals (try simp only [vle,vkt,seval,jO,Qz,qw,qa,qb,eTk,gTk,heT,sin,yO,ze,qL,zu,q9,qE,qJ,List.length_map,Nat.mul_one]))
    all_goals first|rfl|(simp [zu];done)
  ·have hke:k=c.sold.length:=by omega
   subst hke
   obtain ⟨P,hP⟩:∃ P,yu c.sold s c.sold.length=P:=⟨_,rfl⟩
   have hPl:P.length=3:=by rw [← hP];exact xJ _ _ _ (Nat.le_refl _)
   try simp only [heT,hP]
   have tP:(P.map aU).take 3=P.map aU:=List.take_of_length_le (by simp [hPl])
   repeat' (first|(apply nx;with_reducible constructor)|refine jq (by decide) ?_|((first|refine kz env fun Q hQ=>?_|refine kj fun Q hQ=>?_);simp only [vkt,seval,jO,Qz,qw,qa,qb,eTk,gTk,heT,sin,yO,ze,qL,zu,q9,qE,qJ,List.length_map,Nat.mul_one,hPl,tP];(try simp only [ite_and]);(repeat' (first|with_reducible assumption|refine And.intro ?_ ?_|intro hp));all_goals (first|(refine hQ _ ?_;clear hQ Q)|(refine hQ _ (fun h=>?_) (fun h=>?_) <;> clear hQ Q <;> (try simp only [vki,reduceCtorEq] at h))|(refine kx ?_;kernel_rfl)|omega|assumption|with_reducible rfl|skip)))
   (simp only [vrt,Tryz.results30,hPl,tP,vkt,seval,jO,Qz,qw,qa,qb,eTk,gTk,heT,sin,yO,ze,qL,zu,q9,qE,qJ,List.length_map,Nat.mul_one];refine Fin.val rfl ?_;(try simp only [AV.le,AV.leL]))
   all_goals first|rfl|(simp [zu];done)
def qP:List AV→Prop × AV
 |[.agg [.sl cs,.v (.int .i64 n),.sl ts],.v (.int .i64 s)]=>(cs=(cs.map qA).map qo∧ts=(ts.map dTk).map eTk∧Van ⟨cs.map qA,n,ts.map dTk⟩,.agg ((yu (ts.map dTk) s ts.length).map aU))
 |_=>(False,.junk)
theorem Uu {A:Frm→Prop}:qC A Tryz.prog 30 (za true qP):=zx fun vs hv h=>by
 clear hv
 unfold qP at h ⊢
 split at h
 ·rename_i cs n ts s
  obtain ⟨h1,h2,h3⟩:=h
  refine ⟨by simp only [AV.plain,qE],fun _=>by simp only [AV.flat,qJ], ?_⟩
  have:=Qdz ⟨cs.map qA,n,ts.map dTk⟩ s h3
  simp only [qa,qb,← h1,← h2,List.length_map] at this
  exact this
 ·exact h.elim
theorem wrapU {n:Int} (h0:0≤n) (h1:n < 18446744073709551616):IntKind.wrap .u64 n=n:=by
 rw [show IntKind.wrap .u64 n=n % 18446744073709551616 from rfl];omega
theorem Qj7 (x y:BitVec 64) (hy:y ≠ 0):IntKind.wrap .u64 ((x ||| y).toNat:Int) ≠ 0:=fun h=>by
 have hlt:=(x ||| y).isLt
 rw [wrapU (by omega) (by omega)] at h
 have h1:(x ||| y)=0:=by apply BitVec.eq_of_toNat_eq;rw [show (x ||| y).toNat=0 by omega];rfl
 exact hy (BitVec.or_eq_zero_iff.1 h1).2
theorem Qh3 {a b:Int} (h0:0≤b) (h3:b≤3):ZO a b ≠ 0:=by
 refine Qj7 (BitVec.ofInt 64 a) (BitVec.ofInt 64 (IntKind.wrap .u64 (1 * 2 ^ min b.toNat 64))) ?_
 rcases (by omega:b=0∨b=1∨b=2∨b=3) with rfl|rfl|rfl|rfl <;> decide
theorem V7 {l:List Tk} {s:Int} (hl:∀ t ∈ l,0≤t.cab∧t.cab < 3∧0≤t.bed∧t.bed≤3) {i:Nat} (hi:i < 3):∀ k,k≤l.length→decide ((yu l s k).getD i 0=0)=(l.take k).all fun t=>!(atB s t && decide (t.cab=(i:Int)))
 |0,_=>by
  rw [List.take_zero]
  match i,hi with
  |0,_=>rfl
  |1,_=>rfl
  |2,_=>rfl
 |k+1,hk=>by
  have hkl:k < l.length:=by omega
  have ih:=V7 (s:=s) hl hi k (by omega)
  have hlen:=xJ l s k (by omega)
  obtain ⟨g1,g2,g3,g4⟩:=hl _ (xV (d:=default) hkl)
  rw [Wv hkl,List.take_succ_eq_append_getElem hkl,List.all_append,← ih]
  rw [show l[k]=l.getD k default by simp [List.getD_eq_getElem?_getD,hkl]]
  generalize l.getD k default=t at *
  have ha:inB s t.frm (t.to - 1)=atB s t:=by
   unfold inB atB
   rw [show decide (s≤t.to - 1)=decide (s < t.to) by rw [decide_eq_decide];omega]
  unfold ZY
  rw [ha]
  simp only [List.all_cons,List.all_nil,Bool.and_true]
  cases atB s t with
  |false=>simp
  |true =>
   simp only [if_true,Bool.true_and]
   by_cases hc:t.cab=(i:Int)
   ·have e:t.cab.toNat=i:=by omega
    rw [e,decide_eq_true hc,List.getD_eq_getElem?_getD,List.getElem?_set_self (by omega),Option.getD_some,decide_eq_false (Qh3 g3 g4)]
    simp
   ·have e:t.cab.toNat ≠ i:=by omega
    rw [decide_eq_false hc,List.getD_eq_getElem?_getD,List.getElem?_set_ne e,← List.getD_eq_getElem?_getD]
    simp
def rcN (c:Chart) (s i:Nat):Nat:=((List.range i).filter fun (j:Nat)=>yj c.sold s j).length
def rtN (c:Chart) (s:Nat):Nat:=((List.range s).map fun s=>rcN c s c.cabins.length).sum
theorem QfS (c:Chart) (s i:Nat):rcN c s (i+1)=rcN c s i+if yj c.sold s i then 1 else 0:=by
 unfold rcN
 rw [List.range_succ,List.filter_append,List.length_append]
 cases h:yj c.sold s i <;> simp [h]
theorem Qax (c:Chart) (s:Nat):rtN c (s+1)=rtN c s+rcN c s c.cabins.length:=by
 unfold rtN
 rw [List.range_succ,List.map_append,List.sum_append]
 simp
theorem QgL (c:Chart) (s i:Nat):rcN c s i≤i:=by
 unfold rcN
 exact Nat.le_trans (List.length_filter_le _ _) (by simp)
theorem Qhf (c:Chart):∀ s,rtN c s≤s * c.cabins.length
 |0=>by simp [rtN]
 |s+1=>by
  have:=Qhf c s
  have:=QgL c s c.cabins.length
  rw [Qax,Nat.succ_mul];omega
theorem Qha (c:Chart):kQ c.cabins c.secs c.sold=(rtN c c.secs.toNat:Int):=by
 unfold kQ rtN
 rw [List.length_flatMap]
 rfl
def rsO (c:Chart) (s:Nat):St:={ t:=asg [(1,.ptr 0 0),(2,aI 0),(3,aI (rtN c s:Nat)),(8,aI c.secs),(9,aI s)],h:=qj [(0,.cells (qb c))],n:=1 }
def rsI (c:Chart) (s i:Nat):St:={ t:=asg [(1,.ptr 0 0),(2,aI 0),(3,aI (rtN c s+rcN c s i:Nat)),(4,aI s),(5,.ptr 1 0),(8,aI c.secs),(9,aI s),(17,aI c.cabins.length),(18,aI i)],h:=qj [(0,.cells (qb c)),(1,.cells ((yu c.sold s c.sold.length).map aU))],n:=2 }
def jd:=kk @ty3 (kk @VD (kk @xg (kk @VC (kk @XD (kk @ty79 (kk @ti3.eq_1 (kk @JR.eq_1 (kk @y9.eq_1 (kk @J4.eq_1 (kk @Yg.eq_1 @QaZ.eq_1))))))))))
def yS:=kk @aI.eq_1 (@aB.eq_1)
theorem QiK (c:Chart) (hv:Van c):FnV Tryz.prog 39 [qa c] (aI (kQ c.cabins c.secs c.sold)):=by
 have env:Env (fun _=>True) Tryz.prog tyB (tab [(30,za true qP)]):=qO ⟨Uu,trivial⟩
 refine Fn.of (A:=fun _=>True) (n0:=0) (D:=noD) (Fn0 Tryz.func39 rfl (fun vs w=>by kernel_rfl) (by kernel_rfl)) (by simp) (by simp [AV.ids,AV.idsL,qa,qb]) (fun i o h=>by cases h) (fun _ _ _ _=>trivial) qG ?_
 have hcl:=hv.car.cabs
 have hsec:=hv.car.secs
 have ec:(⟨c.cabins,c.secs,c.sold⟩:Chart)=c:=rfl
 have htk:∀ t ∈ c.sold,0≤t.cab∧t.cab < 3∧0≤t.bed∧t.bed≤3:=fun t ht=>by
  have h1:=hv.tk t ht
  have h2:=h1.cab
  have h3:=h1.bed
  have h4:=(hv.car.beds _ (xV (d:=default) h2.2)).2
  omega
 rw [Qha]
 repeat' (first|(apply nx;with_reducible constructor)|refine jq (by decide) ?_|((first|refine kz env fun Q hQ=>?_|refine kj fun Q hQ=>?_);simp only [vkt,seval,jd,yS,qa,qb,qc,mTk,qP,ze,qL,zu,q9,qE,qJ,rsO,rsI,List.length_map,Nat.mul_one];(try simp only [ite_and]);(repeat' (first|with_reducible assumption|refine And.intro ?_ ?_|intro hp));all_goals (first|(refine hQ _ ?_;clear hQ Q)|(refine hQ _ (fun h=>?_) (fun h=>?_) <;> clear hQ Q <;> (try simp only [vki,reduceCtorEq] at h))|(refine kx ?_;kernel_rfl)|omega|assumption|with_reducible rfl|skip)))
 refine zt (fun s:{ s:Nat // s≤c.secs.toNat }=>rsO c s.1) (fun s=>c.secs.toNat - s.1) ⟨0,Nat.zero_le _⟩ ?_ fun ⟨s,hs⟩=>?_
 ·(refine Le.ok some [] ?_;constructor;all_goals (try simp only [vle,vkt,seval,jd,yS,qa,qb,qc,mTk,qP,ze,qL,zu,q9,qE,qJ,rsO,rsI,List.length_map,Nat.mul_one]))
  all_goals first|rfl|(simp [rtN];done)
 simp only at hs ⊢
 repeat' (first|(apply nx;with_reducible constructor)|refine jq (by decide) ?_)
 (refine kz env fun Q hQ=>?_;simp only [vkt,seval,jd,yS,qa,qb,qc,mTk,qP,ze,qL,zu,q9,qE,qJ,rsO,rsI,List.length_map,Nat.mul_one];(try simp only [ite_and]);(repeat' (first|with_reducible assumption|refine And.intro ?_ ?_|intro hp));all_goals (first|(refine hQ _ ?_;clear hQ Q)|(refine kx ?_;kernel_rfl)|omega|assumption|with_reducible rfl|skip))
 repeat' (first|(apply nx;with_reducible constructor)|refine jq (by decide) ?_)
 (refine yf (by simp only [vkt,seval,jd,yS,qa,qb,qc,mTk,qP,ze,qL,zu,q9,qE,qJ,rsO,rsI,List.length_map,Nat.mul_one];rfl) (fun h=>?_) (fun h=>?_) <;> (try simp only [vki,reduceCtorEq] at h))
 ·have hlt:s < c.secs.toNat:=by omega
  have hT:=Qhf c s
  have hT3:rtN c s≤s * 3:=Nat.le_trans hT (Nat.mul_le_mul_left _ hcl.2)
  have e9:IntKind.wrap .i64 ((s:Int)+1)=((s+1:Nat):Int):=by rw [wrap64 (by omega) (by omega)];rfl
  obtain ⟨P,hP⟩:∃ P,yu c.sold s c.sold.length=P:=⟨_,rfl⟩
  have hPl:P.length=3:=by rw [← hP];exact xJ _ _ _ (Nat.le_refl _)
  repeat' (first|(apply nx;with_reducible constructor)|refine jq (by decide) ?_|((first|refine kz env fun Q hQ=>?_|refine kj fun Q hQ=>?_);simp only [vkt,seval,jd,yS,qa,qb,qc,mTk,qP,ze,qL,zu,q9,qE,qJ,rsO,rsI,List.length_map,Nat.mul_one,ec,hv,hP];(try simp only [ite_and]);(repeat' (first|with_reducible assumption|refine And.intro ?_ ?_|intro hp));all_goals (first|(refine hQ _ ?_;clear hQ Q)|(refine hQ _ (fun h=>?_) (fun h=>?_) <;> clear hQ Q <;> (try simp only [vki,reduceCtorEq] at h))|(refine kx ?_;kernel_rfl)|omega|assumption|with_reducible rfl|skip)))
  refine zt (fun i:{ i:Nat // i≤c.cabins.length }=>rsI c s i.1) (fun i=>c.cabins.length - i.1) ⟨0,Nat.zero_le _⟩ ?_ fun ⟨i,hi⟩=>?_
  ·simp only [rsI,hP,rcN,List.range_zero,List.filter_nil,List.length_nil,Nat.add_zero]
   (refine Le.ok some [] ?_;constructor;all_goals (try simp only [vle,vkt,seval,jd,yS,qa,qb,qc,mTk,qP,ze,qL,zu,q9,qE,qJ,rsO,rsI,List.length_map,Nat.mul_one]))
   all_goals first|rfl|(simp [zu];done)|(simp [hPl,zu];done)
  simp only at hi ⊢
  repeat' (first|(apply nx;with_reducible constructor)|refine jq (by decide) ?_)
  (refine kz env fun Q hQ=>?_;simp only [vkt,seval,jd,yS,qa,qb,qc,mTk,qP,ze,qL,zu,q9,qE,qJ,rsO,rsI,List.length_map,Nat.mul_one];(try simp only [ite_and]);(repeat' (first|with_reducible assumption|refine And.intro ?_ ?_|intro hp));all_goals (first|(refine hQ _ ?_;clear hQ Q)|(refine kx ?_;kernel_rfl)|omega|assumption|with_reducible rfl|skip))
  repeat' (first|(apply nx;with_reducible constructor)|refine jq (by decide) ?_)
  (refine yf (by simp only [vkt,seval,jd,yS,qa,qb,qc,mTk,qP,ze,qL,zu,q9,qE,qJ,rsO,rsI,List.length_map,Nat.mul_one];rfl) (fun h=>?_) (fun h=>?_) <;> (try simp only [vki,reduceCtorEq] at h))
  ·have hil:i < c.cabins.length:=by omega
   have hC:=QgL c s i
   have e8:IntKind.wrap .i64 ((i:Int)+1)=((i+1:Nat):Int):=by rw [wrap64 (by omega) (by omega)];rfl
   have e7:IntKind.wrap .i64 (((rtN c s+rcN c s i:Nat):Int)+1)=((rtN c s+rcN c s i+1:Nat):Int):=by rw [wrap64 (by omega) (by omega)];rfl
   have hz:=V7 (s:=(s:Int)) htk (show i < 3 by omega) c.sold.length (Nat.le_refl _)
   rw [List.take_length,hP] at hz
   have hz:decide (P.getD i 0=0)=yj c.sold s i:=hz
   have hS:=QfS c s i
   have i3:(i:Int) < 3:=by omega
   have hiP:i < P.length:=by omega
   have hiP1:i+1≤P.length:=by omega
   have pg:=QfW hiP
   simp only [aU] at pg
   cases hE:yj c.sold s i with
   |true =>
    rw [hE] at hz hS
    simp only [if_true] at hS
    repeat' (first|(apply nx;with_reducible constructor)|refine jq (by decide) ?_|((first|refine kz env fun Q hQ=>?_|refine kj fun Q hQ=>?_);simp only [vkt,seval,jd,yS,qa,qb,qc,mTk,qP,ze,qL,zu,q9,qE,qJ,rsO,rsI,List.length_map,Nat.mul_one,hP,hPl,pg,hz,i3,hiP1,e8,e7];(try simp only [ite_and]);(repeat' (first|with_reducible assumption|refine And.intro ?_ ?_|intro hp));all_goals (first|(refine hQ _ ?_;clear hQ Q)|(refine hQ _ (fun h=>?_) (fun h=>?_) <;> clear hQ Q <;> (try simp only [vki,reduceCtorEq] at h))|(refine kx ?_;kernel_rfl)|omega|assumption|with_reducible rfl|skip)))
    refine ⟨⟨i+1,hil⟩,by show c.cabins.length - (i+1) < c.cabins.length - i;omega, ?_⟩
    simp only [rsI,hP,hS,← Nat.add_assoc]
    (refine Le.ok some [] ?_;constructor;all_goals (try simp only [vle,vkt,seval,jd,yS,qa,qb,qc,mTk,qP,ze,qL,zu,q9,qE,qJ,rsO,rsI,List.length_map,Nat.mul_one]))
    all_goals first|rfl|(simp [zu];done)
   |false =>
    rw [hE] at hz hS
    simp only [Bool.false_eq_true,if_false,Nat.add_zero] at hS
    repeat' (first|(apply nx;with_reducible constructor)|refine jq (by decide) ?_|((first|refine kz env fun Q hQ=>?_|refine kj fun Q hQ=>?_);simp only [vkt,seval,jd,yS,qa,qb,qc,mTk,qP,ze,qL,zu,q9,qE,qJ,rsO,rsI,List.length_map,Nat.mul_one,hP,hPl,pg,hz,i3,hiP1,e8,e7];(try simp only [ite_and]);(repeat' (first|with_reducible assumption|refine And.intro ?_ ?_|intro hp));all_goals (first|(refine hQ _ ?_;clear hQ Q)|(refine hQ _ (fun h=>?_) (fun h=>?_) <;> clear hQ Q <;> (try simp only [vki,reduceCtorEq] at h))|(refine kx ?_;kernel_rfl)|omega|assumption|with_reducible rfl|skip)))
    refine ⟨⟨i+1,hil⟩,by show c.cabins.length - (i+1) < c.cabins.length - i;omega, ?_⟩
    simp only [rsI,hP,hS]
    (refine Le.ok some [] ?_;constructor;all_goals (try simp only [vle,vkt,seval,jd,yS,qa,qb,qc,mTk,qP,ze,qL,zu,q9,qE,qJ,rsO,rsI,List.length_map,Nat.mul_one]))
    all_goals first|rfl|(simp [zu];done)
  ·have hie:i=c.cabins.length:=by omega
   subst hie
   have hS:=Qax c s
   repeat' (first|(apply nx;with_reducible constructor)|refine jq (by decide) ?_|((first|refine kz env fun Q hQ=>?_|refine kj fun Q hQ=>?_);simp only [vkt,seval,jd,yS,qa,qb,qc,mTk,qP,ze,qL,zu,q9,qE,qJ,rsO,rsI,List.length_map,Nat.mul_one,hP,e9];(try simp only [ite_and]);(repeat' (first|with_reducible assumption|refine And.intro ?_ ?_|intro hp));all_goals (first|(refine hQ _ ?_;clear hQ Q)|(refine hQ _ (fun h=>?_) (fun h=>?_) <;> clear hQ Q <;> (try simp only [vki,reduceCtorEq] at h))|(refine kx ?_;kernel_rfl)|omega|assumption|with_reducible rfl|skip)))
   refine ⟨⟨s+1,hlt⟩,by show c.secs.toNat - (s+1) < c.secs.toNat - s;omega, ?_⟩
   simp only [rsO,hS]
   (refine Le.ok some [] ?_;constructor;all_goals (try simp only [vle,vkt,seval,jd,yS,qa,qb,qc,mTk,qP,ze,qL,zu,q9,qE,qJ,rsO,rsI,List.length_map,Nat.mul_one]))
   all_goals first|rfl|(simp;done)
 ·have hse:s=c.secs.toNat:=by omega
  subst hse
  repeat' (first|(apply nx;with_reducible constructor)|refine jq (by decide) ?_|((first|refine kz env fun Q hQ=>?_|refine kj fun Q hQ=>?_);simp only [vkt,seval,jd,yS,qa,qb,qc,mTk,qP,ze,qL,zu,q9,qE,qJ,rsO,rsI,List.length_map,Nat.mul_one];(try simp only [ite_and]);(repeat' (first|with_reducible assumption|refine And.intro ?_ ?_|intro hp));all_goals (first|(refine hQ _ ?_;clear hQ Q)|(refine hQ _ (fun h=>?_) (fun h=>?_) <;> clear hQ Q <;> (try simp only [vki,reduceCtorEq] at h))|(refine kx ?_;kernel_rfl)|omega|assumption|with_reducible rfl|skip)))
  (simp only [vrt,Tryz.results39,vkt,seval,jd,yS,qa,qb,qc,mTk,qP,ze,qL,zu,q9,qE,qJ,rsO,rsI,List.length_map,Nat.mul_one];refine Fin.val rfl ?_;(try simp only [AV.le,AV.leL]))
  all_goals first|rfl|(simp;done)
def W9:List AV→Prop × AV
 |[.agg [.sl cs,.v (.int .i64 n),.sl ts]]=>(cs=(cs.map qA).map qo∧ts=(ts.map dTk).map eTk∧Van ⟨cs.map qA,n,ts.map dTk⟩,aI (kQ (cs.map qA) n (ts.map dTk)))
 |_=>(False,.junk)
theorem Qje {A:Frm→Prop}:qC A Tryz.prog 39 (za true W9):=zx fun vs hv h=>by
 clear hv
 unfold W9 at h ⊢
 split at h
 ·rename_i cs n ts
  obtain ⟨h1,h2,h3⟩:=h
  refine ⟨by simp [aI,AV.plain],fun _=>by simp [aI,AV.flat], ?_⟩
  have:=QiK ⟨cs.map qA,n,ts.map dTk⟩ h3
  simp only [qa,qb,← h1,← h2] at this
  exact this
 ·exact h.elim
def QcQ (c:Chart):Int:=if zS c=0 then kQ c.cabins c.secs c.sold else 0
def Wn:=kk @xg (kk @Zu (kk @y9.eq_1 @QP.eq_1))
def VH:=kk @aI.eq_1 (@aB.eq_1)
theorem QiU (c:Chart) (hc:c.cabins.length≤maxLen):FnV Tryz.prog 26 [qa c] (.tup [aI (QcQ c),aI (zS c)]):=by
 have env:Env (fun _=>True) Tryz.prog tyB (tab [(7,za true qp),(39,za true W9)]):=qO ⟨Zk,Qje,trivial⟩
 refine Fn.of (A:=fun _=>True) (n0:=0) (D:=noD) (Fn0 Tryz.func26 rfl (fun vs w=>by kernel_rfl) (by kernel_rfl)) (by simp) (by simp [AV.ids,AV.idsL,qa,qb]) (fun i o h=>by cases h) (fun _ _ _ _=>trivial) qG ?_
 have ec:(⟨c.cabins,c.secs,c.sold⟩:Chart)=c:=rfl
 unfold QcQ
 by_cases h1:zS c=0
 ·have hv:=(Qo h1).van
  rw [if_pos h1,h1]
  repeat' (first|(apply nx;with_reducible constructor)|refine jq (by decide) ?_|((first|refine kz env fun Q hQ=>?_|refine kj fun Q hQ=>?_);simp only [vkt,seval,Wn,VH,qa,qb,qc,mTk,qp,W9,List.length_map,ec,h1,hv];(try simp only [ite_and]);(repeat' (first|with_reducible assumption|refine And.intro ?_ ?_|intro hp));all_goals (first|(refine hQ _ ?_;clear hQ Q)|(refine hQ _ (fun h=>?_) (fun h=>?_) <;> clear hQ Q <;> (try simp only [vki,reduceCtorEq] at h))|(refine kx ?_;kernel_rfl)|omega|assumption|with_reducible rfl|skip)))
  (simp only [vrt,Tryz.results26,vkt,seval,Wn,VH,qa,qb,qc,mTk,qp,W9,List.length_map];refine Fin.val rfl ?_;(try simp only [AV.le,AV.leL]))
  all_goals first|rfl|(simp;done)
 ·rw [if_neg h1]
  repeat' (first|(apply nx;with_reducible constructor)|refine jq (by decide) ?_|((first|refine kz env fun Q hQ=>?_|refine kj fun Q hQ=>?_);simp only [vkt,seval,Wn,VH,qa,qb,qc,mTk,qp,W9,List.length_map,ec,h1];(try simp only [ite_and]);(repeat' (first|with_reducible assumption|refine And.intro ?_ ?_|intro hp));all_goals (first|(refine hQ _ ?_;clear hQ Q)|(refine hQ _ (fun h=>?_) (fun h=>?_) <;> clear hQ Q <;> (try simp only [vki,reduceCtorEq] at h))|(refine kx ?_;kernel_rfl)|omega|assumption|with_reducible rfl|skip)))
  (simp only [vrt,Tryz.results26,vkt,seval,Wn,VH,qa,qb,qc,mTk,qp,W9,List.length_map];refine Fin.val rfl ?_;(try simp only [AV.le,AV.leL]))
  all_goals first|rfl|(simp;done)
def bL3 (cs:List Cabin) (s:Int) (l:List Tk):List AObj:=[qg cs s 2,.cells [.ptr 0 0],qf l]
def Xj:=kk @xg (kk @Wl (kk @Vw (kk @y9.eq_1 (kk @Zt.eq_1 @JU.eq_1))))
def Uw:=kk @aI.eq_1 (@aB.eq_1)
theorem bb_fn (cs:List Cabin) (s:Int) (l:List Tk) (hv:Van ⟨cs,s,l⟩):Fn noB Tryz.prog 38 [.ptr 1 0] (qj (qH 0 (bL3 cs s l))) (aI (kQ cs s l)) (qj (wP 0 ((bL3 cs s l).map some))) 0:=by
 have env:Env (fun _=>True) Tryz.prog tyB (tab [(39,za true W9)]):=qO ⟨Qje,trivial⟩
 refine Fn.of (A:=fun _=>True) (n0:=3) (D:=noD) (Fn0 Tryz.func38 rfl (fun vs w=>by kernel_rfl) (by kernel_rfl)) (by simp) (by simp [AV.ids]) ?_ (fun _ _ _ _=>trivial) qG ?_
 ·intro i o hi
  have h:=qQ hi
  simp [qH,bL3] at h
  rcases h with ⟨rfl,rfl⟩|⟨rfl,rfl⟩|⟨rfl,rfl⟩ <;> simp [AObj.ids,AV.ids,AV.idsL,qg,qf]
 show Sym _ _ _ (zR [.ptr 1 0] 3 (qj [(0,qg cs s 2),(1,.cells [.ptr 0 0]),(2,qf l)])) (vo tyB noD Tryz.f38 fun S rv=>Fin S rv _ 3 (qj [(0,qg cs s 2),(1,.cells [.ptr 0 0]),(2,qf l)]) 0)
 repeat' (first|(apply nx;with_reducible constructor)|refine jq (by decide) ?_|((first|refine kz env fun Q hQ=>?_|refine kj fun Q hQ=>?_);simp only [vkt,seval,Xj,Uw,qc,mTk,qg,qf,bL3,W9,List.length_map,hv];(try simp only [ite_and]);(repeat' (first|with_reducible assumption|refine And.intro ?_ ?_|intro hp));all_goals (first|(refine hQ _ ?_;clear hQ Q)|(refine hQ _ (fun h=>?_) (fun h=>?_) <;> clear hQ Q <;> (try simp only [vki,reduceCtorEq] at h))|(refine kx ?_;kernel_rfl)|omega|assumption|with_reducible rfl|skip)))
 (simp only [vrt,Tryz.results38,vkt,seval,Xj,Uw,qc,mTk,qg,qf,bL3,W9,List.length_map];refine Fin.ok some [] ?_ ?_ ?_ ?_ ?_ rfl;all_goals (try simp only [vle,vkt,seval,Xj,Uw,qc,mTk,qg,qf,bL3,W9,List.length_map]))
 all_goals first|rfl|(simp;done)|exact fun i hi=>(match i,hi with|0,_=>rfl|1,_=>rfl|2,_=>rfl)
def yE (c:Chart) (a:Ask):List AObj:=[qg c.cabins c.secs 2,.cells [.ptr 0 0],qf c.sold,.cells (ql a)]
def xw (c:Chart) (a:Ask) (j:Nat):List AV:=[.agg [qd ((plP c a).getD j default).1,.clo 38 [.ptr 1 0]]]
def yR (c:Chart) (a:Ask) (j:Nat):List AObj:=bL3 c.cabins c.secs ((plP c a).getD j default).2
def bgL0:List (Nat × AV):=[(1,.ptr 1 0),(3,.ptr 4 0),(7,.clo 67 [.ptr 5 0,.ptr 6 0])]
def bgL:List (Nat × AV):=[(1,.ptr 1 0),(3,.ptr 4 0)]
def bgH (a:Ask):List (Nat × AObj):=[(1,.cells [.ptr 0 0]),(3,.cells (ql a)),(4,.cells [.cb])]
theorem Xx (c:Chart) (a:Ask):zf [0,2,5,6] 8 0 (plL c a)=[(0,qg c.cabins c.secs 2),(2,qf c.sold),(5,.cells [.ptr 0 0]),(6,.cells (ql a))]:=by
 simp [zf,plL,qz,AObj.ren,AV.renL,AV.ren,qg,qf,ql]
theorem UD (c:Chart) (a:Ask) (j:Nat):zf [0] 8 0 (plH c a j)=[(0,qg c.cabins c.secs 8),(8,qf ((plP c a).getD j default).2)]:=by
 simp [zf,plH,qm,qz,AObj.ren,AV.renL,AV.ren,qg,qf]
def vV:=kk @Q0 (kk @Wl (kk @ty91 (kk @ty99 (kk @Ql.eq_1 (kk @Zt.eq_1 (kk @ti91.eq_1 @Qhe.eq_1))))))
def xW:=kk @aI.eq_1 (kk @aB.eq_1 (@QJ))
theorem Qfc {c:Chart} {a:Ask} (h:PlOk c a):Qaw Tryz.prog 36 [.cb,.ptr 1 0,.ptr 3 0] (nth ((yE c a).take 2)) (nth (yE c a)) (xw c a) (plP c a).length (fun j=>nth (yR c a j)) (fun _ _=>.tup []):=by
 intro ans R hr
 rw [ZX,ZX]
 obtain ⟨A0,hA0⟩:∃ A0:Frm→Prop,A0=fun F=>F.r=none∧Acb Tryz.prog (qj (qH 0 ((yE c a).take 2))) (qj (qH 0 (yE c a))) (xw c a) (fun j=>nth (yR c a j)) ans R F:=⟨_,rfl⟩
 have hr0:∀ F,A0 F→F.r=none:=fun F h=>by rw [hA0] at h;exact h.1
 have hA:∀ F,A0 F→Acb Tryz.prog (qj (qH 0 ((yE c a).take 2))) (qj (qH 0 (yE c a))) (xw c a) (fun j=>nth (yR c a j)) ans R F:=fun F h=>by rw [hA0] at h;exact h.2
 have hp2:∀ i o,qj (qH 0 ((yE c a).take 2)) i=some o→i=0∨i=1:=fun i o hi=>by
  rw [jS,if_neg (by omega)] at hi
  have:=(List.getElem?_eq_some_iff.1 hi).1
  simp [yE] at this
  omega
 have env:Env A0 Tryz.prog tyB (tab [(37,fnE qF)]):=qO ⟨Yp,trivial⟩
 refine Fn.of (A:=A0) (n0:=4) (D:=noD) (Fn0 Tryz.func36 rfl (fun vs w=>by kernel_rfl) (by kernel_rfl)) (by simp) (by simp [AV.ids]) ?_ (fun F hb h0 h1=>by rw [hA0];exact ⟨h1,h0,fun i o hi=>(by rcases hp2 i o hi with rfl|rfl <;> exact ⟨_,rfl⟩),hb⟩) qG ?_
 ·intro i o hi
  have h:=qQ hi
  simp [qH,yE] at h
  rcases h with ⟨rfl,rfl⟩|⟨rfl,rfl⟩|⟨rfl,rfl⟩|⟨rfl,rfl⟩ <;> simp [AObj.ids,AV.ids,AV.idsL,qg,qf,ql]
 show Sym _ _ _ (zR [.cb,.ptr 1 0,.ptr 3 0] 4 (qj [(0,qg c.cabins c.secs 2),(1,.cells [.ptr 0 0]),(2,qf c.sold),(3,.cells (ql a))])) (vo tyB noD Tryz.f36 fun S rv=>Fin S rv _ 4 (qj [(0,qg c.cabins c.secs 2),(1,.cells [.ptr 0 0]),(2,qf c.sold),(3,.cells (ql a))]) R)
 repeat' (first|(apply nx;with_reducible constructor)|refine jq (by decide) ?_|((first|refine kz env fun Q hQ=>?_|refine kj fun Q hQ=>?_);simp only [vkt,seval,vV,xW,qx,ql,qd,mTk,qc,qg,qf,qm,plL,bgL,qF,bL3,xw,yR,List.length_map,Go.Sym.tabC,cbX,wM,qU,nth,hwL,Nat.zero_add,Nat.sub_zero,Nat.add_zero];(try simp only [ite_and]);(repeat' (first|with_reducible assumption|refine And.intro ?_ ?_|intro hp));all_goals (first|(refine hQ _ ?_;clear hQ Q)|(refine hQ _ (fun h=>?_) (fun h=>?_) <;> clear hQ Q <;> (try simp only [vki,reduceCtorEq] at h))|(refine kx ?_;kernel_rfl)|omega|assumption|with_reducible rfl|skip)))
 refine vM (S':={ t:=asg bgL0,h:=qj (bgH a++[(0,qg c.cabins c.secs 2),(2,qf c.sold),(5,.cells [.ptr 0 0]),(6,.cells (ql a))]),n:=7,j:=0,d:=[],m:=4 }) ?_ ?_
 ·show Le _ { t:=asg [(1,.ptr 1 0),(3,.ptr 4 0),(7,.clo 67 [.ptr 5 0,.ptr 6 0])],h:=qj [(1,.cells [.ptr 0 0]),(3,.cells (ql a)),(4,.cells [.cb]),(0,qg c.cabins c.secs 2),(2,qf c.sold),(5,.cells [.ptr 0 0]),(6,.cells (ql a))],n:=7,j:=0,d:=[],m:=4 }
  (refine Le.ok some [] ?_;constructor;all_goals (try simp only [vle,vkt,seval,vV,xW,qx,ql,qd,mTk,qc,qg,qf,qm,plL,bgL,qF,bL3,xw,yR,List.length_map,Go.Sym.tabC,cbX,wM,qU,nth,hwL,Nat.zero_add,Nat.sub_zero,Nat.add_zero]))
  all_goals first|rfl|(simp;done)
 rw [← Xx c a]
 refine yQ hr0 1 (L:=bgL0) (L':=bgL) (xs:=[2]) (hs:=[0,2,5,6]) (n:=7) (nl:=1) (hc:=fun _=>bgH a) (Lp:=plL c a) (jj:=fun j=>j) (d:=[]) (ys:=plY c a) (hl:=plH c a) (ans:=ans) (ex:=.ret) (caps:=[.ptr 5 0,.ptr 6 0]) (caps0:=[.ptr 2 0,.ptr 3 0]) (N:=(plP c a).length) (R:=R) (A':=fun j=>Acb Tryz.prog (qj (qH 0 ((yE c a).take 2))) (qj ((7,.mark) :: bgH a++zf [0] 8 0 (plH c a j))) (fun k=>xw c a (j+k)) (fun k=>nth (yR c a (j+k))) (fun k=>ans (j+k)) (R - j)) rfl (JA h) hr (.inl rfl) ?_ ?_ ?_ rfl (by simp) ?_ (by simp) ?_ ?_ ?_ ?_ ?_ ?_ ?_ (fun j hj=>?_) ?_ (fun j hj=>?_) (fun _=>?_) (fun hpos hlast=>?_)
 ·simp [AV.leL,AV.le]
 ·simp [AV.nocbL,AV.nocb]
 ·simp [Z5,plL,qg,qf,ql,AObj.nocb,AV.nocbL,AV.nocb,AObj.ids,AV.ids,AV.idsL,AObj.ren,AV.renL,AV.ren,AObj.le,AV.leL,AV.le,qz]
 ·simp [bgH,qj]
 ·intro F hF j hj F' hR
  refine Kw (hA F hF) hR fun i o hi=>?_
  rcases hp2 i o hi with rfl|rfl
  ·exact ⟨_,rfl⟩
  ·exact ⟨_,rfl⟩
 ·simp [bgH,qj]
 ·simp [bgH,AObj.ids,AV.ids,AV.idsL,ql]
 ·simp [X5,bgL,bgL0,asg,upd]
 ·simp [LV]
 ·intro j hj
  simp [absent,bgH,UD]
 ·simp [JG,bgL,AV.ids]
 ·refine ⟨?_,rfl, ?_, ?_,rfl, ?_⟩
  ·simp [Qg,bgH,AObj.ids,AV.ids,AV.idsL,ql]
  ·simp [ZG,plH,qm,qg,qf,AObj.nocb,AV.nocbL,AV.nocb,AObj.ids,AV.ids,AV.idsL]
  ·simp [YI,plY,qd,AV.nocb,AV.ids]
  ·simp [Qf,ZP,UD,bgH,bgL,xQ,AV.ids,ADf.ids,List.range_succ]
 ·simp [Qg,bgH,AObj.ids,AV.ids,AV.idsL,ql]
 ·obtain ⟨x,hx⟩:∃ x,((plP c a).getD j default).1=x:=⟨_,rfl⟩
  obtain ⟨r,hr2⟩:∃ r,((plP c a).getD j default).2=r:=⟨_,rfl⟩
  obtain ⟨A1,hA1⟩:∃ A1:Frm→Prop,A1=Acb Tryz.prog (qj (qH 0 ((yE c a).take 2))) (qj ((7,.mark) :: bgH a++zf [0] 8 0 (plH c a j))) (fun k=>xw c a (j+k)) (fun k=>nth (yR c a (j+k))) (fun k=>ans (j+k)) (R - j):=⟨_,rfl⟩
  rw [← hA1]
  have hB:∀ F,A1 F→Acb Tryz.prog (qj (qH 0 ((yE c a).take 2))) (qj ((7,.mark) :: bgH a++zf [0] 8 0 (plH c a j))) (fun k=>xw c a (j+k)) (fun k=>nth (yR c a (j+k))) (fun k=>ans (j+k)) (R - j) F:=fun F h=>hA1 ▸ h
  have env:Env A1 Tryz.prog tyB (Go.Sym.tabC (cbX [0,1,8] (fun k=>xw c a (j+k)) (fun k=>yR c a (j+k)) (fun k=>ans (j+k)) (R - j)) []):=⟨Xy,RZ (fun S bs h hS ops o g args tys caps hw ho hg hb=>Y1 hB (fun i o hi=>by rcases hp2 i o hi with rfl|rfl <;> rfl) (by simp) h hS hw ho hg hb) trivial,by kernel_rfl⟩
  have hst:jf bgL [8] [0] 7 1 (plY c a j) (bgH a) (plH c a j)={ t:=asg [(8,qd x),(1,.ptr 1 0),(3,.ptr 4 0)],h:=qj [(7,.mark),(1,.cells [.ptr 0 0]),(3,.cells (ql a)),(4,.cells [.cb]),(0,qg c.cabins c.secs 8),(8,qf r)],n:=9,m:=9 }:=by
   simp only [jf,Nat.reduceAdd,UD,plY,hx,hr2,qd,List.map_cons,List.map_nil,AV.ren,List.zip_cons_cons,List.zip_nil_right,bgH,bgL,QY,List.cons_append,List.nil_append]
   rfl
  show Sym _ _ _ (jf bgL [8] [0] 7 1 (plY c a j) (bgH a) (plH c a j)) _
  rw [hst]
  have hjR:0 < R - j:=by omega
  cases hb:ans j with
  |true =>
   repeat' (first|(apply nx;with_reducible constructor)|refine jq (by decide) ?_|((first|refine kz env fun Q hQ=>?_|refine kj fun Q hQ=>?_);simp only [vkt,seval,vV,xW,qx,ql,qd,mTk,qc,qg,qf,qm,plL,bgL,qF,bL3,xw,yR,List.length_map,Go.Sym.tabC,cbX,wM,qU,nth,hwL,Nat.zero_add,Nat.sub_zero,Nat.add_zero,hx,hr2,hjR,hb];(try simp only [ite_and]);(repeat' (first|with_reducible assumption|refine And.intro ?_ ?_|intro hp));all_goals (first|(refine hQ _ ?_;clear hQ Q)|(refine hQ _ (fun h=>?_) (fun h=>?_) <;> clear hQ Q <;> (try simp only [vki,reduceCtorEq] at h))|(refine kx ?_;kernel_rfl)|omega|assumption|with_reducible rfl|skip)))
   refine ⟨by rw [hb];rfl,rfl,some,_,RFin.okQ some [] ?_⟩
   constructor
   all_goals (try simp only [vle,xn,vW,qz,plH,bgH,hr2,vkt,seval,vV,xW,qx,ql,qd,mTk,qc,qg,qf,qm,plL,bgL,qF,bL3,xw,yR,List.length_map,Go.Sym.tabC,cbX,wM,qU,nth,hwL,Nat.zero_add,Nat.sub_zero,Nat.add_zero])
   all_goals first|rfl|(simp;done)|(simp [ql,AV.leL,AV.le];done)
  |false =>
   repeat' (first|(apply nx;with_reducible constructor)|refine jq (by decide) ?_|((first|refine kz env fun Q hQ=>?_|refine kj fun Q hQ=>?_);simp only [vkt,seval,vV,xW,qx,ql,qd,mTk,qc,qg,qf,qm,plL,bgL,qF,bL3,xw,yR,List.length_map,Go.Sym.tabC,cbX,wM,qU,nth,hwL,Nat.zero_add,Nat.sub_zero,Nat.add_zero,hx,hr2,hjR,hb];(try simp only [ite_and]);(repeat' (first|with_reducible assumption|refine And.intro ?_ ?_|intro hp));all_goals (first|(refine hQ _ ?_;clear hQ Q)|(refine hQ _ (fun h=>?_) (fun h=>?_) <;> clear hQ Q <;> (try simp only [vki,reduceCtorEq] at h))|(refine kx ?_;kernel_rfl)|omega|assumption|with_reducible rfl|skip)))
   refine ⟨by rw [hb];rfl,rfl,some,_,RFin.okQ some [] ?_⟩
   constructor
   all_goals (try simp only [vle,xn,vW,qz,plH,bgH,hr2,vkt,seval,vV,xW,qx,ql,qd,mTk,qc,qg,qf,qm,plL,bgL,qF,bL3,xw,yR,List.length_map,Go.Sym.tabC,cbX,wM,qU,nth,hwL,Nat.zero_add,Nat.sub_zero,Nat.add_zero])
   all_goals first|rfl|(simp;done)|(simp [ql,AV.leL,AV.le];done)
 ·have eh:qj ((7,AObj.mark) :: bgH a++zf [0,2,5,6] (7+1) 0 (plL c a))=qj [(7,.mark),(1,.cells [.ptr 0 0]),(3,.cells (ql a)),(4,.cells [.cb]),(0,qg c.cabins c.secs 2),(2,qf c.sold),(5,.cells [.ptr 0 0]),(6,.cells (ql a))]:=by
   rw [show zf [0,2,5,6] (7+1) 0 (plL c a)=zf [0,2,5,6] 8 0 (plL c a) from rfl,Xx];rfl
  rw [eh]
  repeat' (first|(apply nx;with_reducible constructor)|refine jq (by decide) ?_|((first|refine kz env fun Q hQ=>?_|refine kj fun Q hQ=>?_);simp only [vkt,seval,vV,xW,qx,ql,qd,mTk,qc,qg,qf,qm,plL,bgL,qF,bL3,xw,yR,List.length_map,Go.Sym.tabC,cbX,wM,qU,nth,hwL,Nat.zero_add,Nat.sub_zero,Nat.add_zero];(try simp only [ite_and]);(repeat' (first|with_reducible assumption|refine And.intro ?_ ?_|intro hp));all_goals (first|(refine hQ _ ?_;clear hQ Q)|(refine hQ _ (fun h=>?_) (fun h=>?_) <;> clear hQ Q <;> (try simp only [vki,reduceCtorEq] at h))|(refine kx ?_;kernel_rfl)|omega|assumption|with_reducible rfl|skip)))
  (simp only [vrt,Tryz.results36,vkt,seval,vV,xW,qx,ql,qd,mTk,qc,qg,qf,qm,plL,bgL,qF,bL3,xw,yR,List.length_map,Go.Sym.tabC,cbX,wM,qU,nth,hwL,Nat.zero_add,Nat.sub_zero,Nat.add_zero];refine Fin.ok some [] ?_ ?_ ?_ ?_ ?_ rfl;all_goals (try simp only [vle,vkt,seval,vV,xW,qx,ql,qd,mTk,qc,qg,qf,qm,plL,bgL,qF,bL3,xw,yR,List.length_map,Go.Sym.tabC,cbX,wM,qU,nth,hwL,Nat.zero_add,Nat.sub_zero,Nat.add_zero]))
  all_goals first|rfl|(simp [ql,AV.leL,AV.le];done)|exact fun i hi=>(match i,hi with|0,_=>rfl|1,_=>rfl|2,_=>rfl|3,_=>rfl)
 ·have eh:qj ((7,AObj.mark) :: bgH a++zf [0,2,5,6] (7+1) 0 (plL c a))=qj [(7,.mark),(1,.cells [.ptr 0 0]),(3,.cells (ql a)),(4,.cells [.cb]),(0,qg c.cabins c.secs 2),(2,qf c.sold),(5,.cells [.ptr 0 0]),(6,.cells (ql a))]:=by
   rw [show zf [0,2,5,6] (7+1) 0 (plL c a)=zf [0,2,5,6] 8 0 (plL c a) from rfl,Xx];rfl
  rw [eh]
  repeat' (first|(apply nx;with_reducible constructor)|refine jq (by decide) ?_|((first|refine kz env fun Q hQ=>?_|refine kj fun Q hQ=>?_);simp only [vkt,seval,vV,xW,qx,ql,qd,mTk,qc,qg,qf,qm,plL,bgL,qF,bL3,xw,yR,List.length_map,Go.Sym.tabC,cbX,wM,qU,nth,hwL,Nat.zero_add,Nat.sub_zero,Nat.add_zero];(try simp only [ite_and]);(repeat' (first|with_reducible assumption|refine And.intro ?_ ?_|intro hp));all_goals (first|(refine hQ _ ?_;clear hQ Q)|(refine hQ _ (fun h=>?_) (fun h=>?_) <;> clear hQ Q <;> (try simp only [vki,reduceCtorEq] at h))|(refine kx ?_;kernel_rfl)|omega|assumption|with_reducible rfl|skip)))
  (simp only [vrt,Tryz.results36,vkt,seval,vV,xW,qx,ql,qd,mTk,qc,qg,qf,qm,plL,bgL,qF,bL3,xw,yR,List.length_map,Go.Sym.tabC,cbX,wM,qU,nth,hwL,Nat.zero_add,Nat.sub_zero,Nat.add_zero];refine Fin.ok some [] ?_ ?_ ?_ ?_ ?_ rfl;all_goals (try simp only [vle,vkt,seval,vV,xW,qx,ql,qd,mTk,qc,qg,qf,qm,plL,bgL,qF,bL3,xw,yR,List.length_map,Go.Sym.tabC,cbX,wM,qU,nth,hwL,Nat.zero_add,Nat.sub_zero,Nat.add_zero]))
  all_goals first|rfl|(simp [ql,AV.leL,AV.le];done)|exact fun i hi=>(match i,hi with|0,_=>rfl|1,_=>rfl|2,_=>rfl|3,_=>rfl)
theorem K6 {cs:List Cabin} {a:Ask} {p:Tk→Prop}:∀ (m:Nat) (sold:List Tk) (begun:List Bunk),(∀ t ∈ sold,p t)→(∀ i b,i < begun.length+m→b ∈ qV cs→p (WG a i b))→∀ x ∈ wZ cs a m sold begun,(∀ t ∈ x.2,p t)∧x.2.length=sold.length+m
 |0,sold,begun,h1,_,x,hx=>by
  simp only [wZ,List.mem_singleton] at hx
  subst hx
  exact ⟨h1,rfl⟩
 |m+1,sold,begun,h1,h2,x,hx=>by
  rw [Qt,List.mem_flatMap] at hx
  obtain ⟨b,hb,hx⟩:=hx
  unfold gbL at hx
  split at hx
  ·obtain ⟨g1,g2⟩:=K6 m _ _ (fun t ht=>by
    rcases List.mem_append.1 ht with ht|ht
    ·exact h1 t ht
    ·rw [List.mem_singleton.1 ht];exact h2 _ _ (by omega) hb) (fun i b' hi hb'=>h2 i b' (by simp at hi;omega) hb') x hx
   exact ⟨g1,by rw [g2];simp;omega⟩
  ·simp at hx
theorem QjG {c:Chart} {a:Ask} (h:wX c a=0) {i:Nat} (hi:i < a.sexes.length) {b:Bunk} (hb:b ∈ qV c.cabins):TkOk c (WG a i b):=by
 have hk:=(Q7 h).2
 unfold kW at hk
 split at hk
 ·exact absurd hk (by decide)
 rename_i h1
 split at hk
 ·exact absurd hk (by decide)
 split at hk
 ·exact absurd hk ‹_›
 rename_i h3
 split at hk
 ·exact absurd hk ‹_›
 have g1:inB a.party 1 99=true:=by simpa using h1
 obtain ⟨w1,w2,w3⟩:=Ua (Decidable.not_not.1 h3)
 have gs:=WS hk _ (List.mem_map.2 ⟨a.sexes.getD i 0,xV hi,rfl⟩)
 have g2:inB (a.sexes.getD i 0) 1 2=true:=by
  cases hq:inB (a.sexes.getD i 0) 1 2 with
  |true=>rfl
  |false=>rw [hq] at gs;exact absurd gs (by decide)
 obtain ⟨x,y,b1,b2,rfl⟩:=Xm.1 hb
 refine ⟨Q5.1 g1,Q5.1 g2,⟨Int.natCast_nonneg _,by simpa [WG] using b1⟩,⟨Int.natCast_nonneg _, ?_⟩,w1,w2,w3⟩
 show (y:Int) < (c.cabins.getD ((x:Int)).toNat default).beds
 rw [Int.toNat_natCast]
 omega
theorem Qky {c:Chart} {a:Ask} (h:wX c a=0) {j:Nat} (hj:j < (plP c a).length):Van ⟨c.cabins,c.secs,((plP c a).getD j default).2⟩:=by
 have hv:=Qo (Q7 h).1
 have hs:=(Qc5 (Q7 h).2).1
 obtain ⟨g1,g2⟩:=K6 (p:=TkOk c) a.sexes.length c.sold [] hv.tk (fun i b hi hb=>QjG h (by simpa using hi) hb) _ (xV (d:=default) hj)
 have hm:=hv.many
 exact ⟨⟨hv.car.cabs,hv.car.beds,hv.car.secs⟩,by show ((plP c a).getD j default).2.length≤100;rw [show ((plP c a).getD j default).2.length=c.sold.length+a.sexes.length from g2];omega,fun t ht=>⟨(g1 t ht).party,(g1 t ht).sex,(g1 t ht).cab,(g1 t ht).bed,(g1 t ht).frm,(g1 t ht).way,(g1 t ht).to⟩⟩
def pBb (S:St):List AV→Option Pk
 |[.ptr q 0]=>match S.h q with
  |some (.cells [.ptr p 0])=>match S.h p with
   |some (.cells [.sl cs,.v (.int .i64 s),.row r])=>match S.h r with
    |some (.row _ _ xs)=>some { pre:=cs=(cs.map qA).map qo∧xs=(xs.map dTk).map eTk∧Van ⟨cs.map qA,s,xs.map dTk⟩,hs:=[p,q,r],ar:=[.ptr 1 0],L0:=bL3 (cs.map qA) s (xs.map dTk),v:=aI (kQ (cs.map qA) s (xs.map dTk)),L1:=(bL3 (cs.map qA) s (xs.map dTk)).map some }
    |_=>none
   |_=>none
  |_=>none
 |_=>none
theorem eBb {A:Frm→Prop}:qC A Tryz.prog 38 (fnE pBb):=wK fun S bs q h hp=>by
 unfold pBb at h
 split at h
 ·split at h
  ·split at h
   ·split at h
    ·cases h;exact bb_fn _ _ _ hp.2.2
    ·cases h
   ·cases h
  ·cases h
 ·cases h
def bsK (c:Chart) (a:Ask):Nat→Bool × List Bunk × Int
 |0=>(false,[],0)
 |j+1=>if !(bsK c a j).1 || decide ((bsK c a j).2.2 < kQ c.cabins c.secs ((plP c a).getD j default).2) then (true,((plP c a).getD j default).1,kQ c.cabins c.secs ((plP c a).getD j default).2) else bsK c a j
def beL0:List (Nat × AV):=[(2,.ptr 4 0),(3,.ptr 5 0),(4,.ptr 6 0),(7,.clo 36 [.ptr 1 0,.ptr 3 0])]
def beL:List (Nat × AV):=[(2,.ptr 4 0),(3,.ptr 5 0),(4,.ptr 6 0)]
def beH (c:Chart) (a:Ask) (j:Nat):List (Nat × AObj):=[(4,.cells [.sl ((bsK c a j).2.1.map qy)]),(5,.cells [aB (bsK c a j).1]),(6,.cells [aI (bsK c a j).2.2])]
theorem V6 (c:Chart) (a:Ask):zf [0,1,2,3] 8 0 (yE c a)=[(0,qg c.cabins c.secs 2),(1,.cells [.ptr 0 0]),(2,qf c.sold),(3,.cells (ql a))]:=by
 simp [zf,yE,qz,AObj.ren,AV.renL,AV.ren,qg,qf,ql]
theorem Uj (c:Chart) (a:Ask) (j:Nat):zf [0,1] 8 0 (yR c a j)=[(0,qg c.cabins c.secs 8),(1,.cells [.ptr 0 0]),(8,qf ((plP c a).getD j default).2)]:=by
 simp [zf,yR,bL3,qz,AObj.ren,AV.renL,AV.ren,qg,qf]
def yB:=kk @ty3 (kk @ty4 (kk @QU (kk @YM (kk @ty81 (kk @ty99 (kk @ti3.eq_1 (kk @ti4.eq_1 (kk @Qi.eq_1 (kk @JN.eq_1 (kk @ti81.eq_1 @Qhe.eq_1))))))))))
def Qe:=kk @aI.eq_1 (@aB.eq_1)
theorem Qhn {c:Chart} {a:Ask} (h:wX c a=0):Fn noB Tryz.prog 35 [.clo 36 [.ptr 1 0,.ptr 3 0]] (qj (qH 0 (yE c a))) (.tup [.sl ((bsK c a (plP c a).length).2.1.map qy),aB (bsK c a (plP c a).length).1]) (qj (wP 0 ((yE c a).map some))) 0:=by
 have hok:=Za h
 have env:Env (fun F=>F.r=none) Tryz.prog tyB (tab []):=qO trivial
 refine Fn.of (A:=fun F=>F.r=none) (n0:=4) (D:=noD) (Fn0 Tryz.func35 rfl (fun vs w=>by kernel_rfl) (by kernel_rfl)) (by simp) (by simp [AV.ids,AV.idsL]) ?_ (fun _ _ _ h=>h) qG ?_
 ·intro i o hi
  have h:=qQ hi
  simp [qH,yE] at h
  rcases h with ⟨rfl,rfl⟩|⟨rfl,rfl⟩|⟨rfl,rfl⟩|⟨rfl,rfl⟩ <;> simp [AObj.ids,AV.ids,AV.idsL,qg,qf,ql]
 obtain ⟨N,hN⟩:∃ N,(plP c a).length=N:=⟨_,rfl⟩
 rw [hN]
 show Sym _ _ _ (zR [.clo 36 [.ptr 1 0,.ptr 3 0]] 4 (qj [(0,qg c.cabins c.secs 2),(1,.cells [.ptr 0 0]),(2,qf c.sold),(3,.cells (ql a))])) (vo tyB noD Tryz.f35 fun S rv=>Fin S rv _ 4 (qj [(0,qg c.cabins c.secs 2),(1,.cells [.ptr 0 0]),(2,qf c.sold),(3,.cells (ql a))]) 0)
 repeat' (first|(apply nx;with_reducible constructor)|refine jq (by decide) ?_|((first|refine kz env fun Q hQ=>?_|refine kj fun Q hQ=>?_);simp only [vkt,seval,yB,Qe,qd,mTk,qc,qg,qf,bL3,pBb,beL,List.length_map,nth,hwL,Nat.zero_add,Nat.sub_zero];(try simp only [ite_and]);(repeat' (first|with_reducible assumption|refine And.intro ?_ ?_|intro hp));all_goals (first|(refine hQ _ ?_;clear hQ Q)|(refine hQ _ (fun h=>?_) (fun h=>?_) <;> clear hQ Q <;> (try simp only [vki,reduceCtorEq] at h))|(refine kx ?_;kernel_rfl)|omega|assumption|with_reducible rfl|skip)))
 refine vM (S':={ t:=asg beL0,h:=qj (beH c a 0++[(0,qg c.cabins c.secs 2),(1,.cells [.ptr 0 0]),(2,qf c.sold),(3,.cells (ql a))]),n:=7,j:=0,d:=[],m:=4 }) ?_ ?_
 ·show Le _ { t:=asg [(2,.ptr 4 0),(3,.ptr 5 0),(4,.ptr 6 0),(7,.clo 36 [.ptr 1 0,.ptr 3 0])],h:=qj [(4,.cells [.sl []]),(5,.cells [aB false]),(6,.cells [aI 0]),(0,qg c.cabins c.secs 2),(1,.cells [.ptr 0 0]),(2,qf c.sold),(3,.cells (ql a))],n:=7,j:=0,d:=[],m:=4 }
  (refine Le.ok some [] ?_;constructor;all_goals (try simp only [vle,vkt,seval,yB,Qe,qd,mTk,qc,qg,qf,bL3,pBb,beL,List.length_map,nth,hwL,Nat.zero_add,Nat.sub_zero]))
  all_goals first|rfl|(simp [ql,AV.leL,AV.le,AV.idsL,AV.ids];done)
 rw [← V6 c a]
 refine yQ (fun F h=>h) 2 (L:=beL0) (L':=beL) (xs:=[2,3]) (hs:=[0,1,2,3]) (n:=7) (nl:=1) (hc:=beH c a) (Lp:=yE c a) (jj:=fun _=>0) (d:=[]) (ys:=xw c a) (hl:=yR c a) (ans:=fun _=>true) (ex:=.ret) (caps:=[.ptr 1 0,.ptr 3 0]) (caps0:=[.ptr 1 0,.ptr 3 0]) (N:=(plP c a).length) (R:=N) (A':=fun _ _=>True) rfl (Qfc hok) (by rw [hN];exact UM) (.inl rfl) ?_ ?_ ?_ rfl (by simp) ?_ (by simp) (fun _ _ _ _ _ _=>trivial) ?_ ?_ ?_ ?_ ?_ ?_ (fun j hj=>?_) ?_ (fun j hj=>?_) (fun _=>?_) (fun _ h=>by cases h)
 ·simp [AV.leL,AV.le]
 ·simp [AV.nocbL,AV.nocb]
 ·simp [Z5,yE,qg,qf,ql,AObj.nocb,AV.nocbL,AV.nocb,AObj.ids,AV.ids,AV.idsL,AObj.ren,AV.renL,AV.ren,AObj.le,AV.leL,AV.le,qz]
 ·simp [beH,qj]
 ·simp [beH,qj]
 ·simp [beH,AObj.ids,AV.ids,AV.idsL,aB,aI]
 ·simp [X5,beL,beL0,asg,upd]
 ·simp [LV]
 ·intro j hj
  simp [absent,beH,Uj]
 ·simp [JG,beL,AV.ids]
 ·refine ⟨?_,rfl, ?_, ?_,rfl, ?_⟩
  ·simp [Qg,beH,AObj.ids,AV.ids,AV.idsL,aB,aI]
  ·simp [ZG,yR,bL3,qg,qf,AObj.nocb,AV.nocbL,AV.nocb,AObj.ids,AV.ids,AV.idsL]
  ·simp [YI,xw,qd,AV.nocb,AV.nocbL,AV.ids,AV.idsL]
  ·simp [Qf,ZP,Uj,beH,beL,xQ,AV.ids,ADf.ids,List.range_succ]
 ·simp [Qg,beH,AObj.ids,AV.ids,AV.idsL,aB,aI]
 ·have env:Env (fun _:Frm=>True) Tryz.prog tyB (tab [(38,fnE pBb)]):=qO ⟨eBb,trivial⟩
  have hvan:=Qky h (j:=j) (by omega)
  have hS:bsK c a (j+1)=if !(bsK c a j).1 || decide ((bsK c a j).2.2 < kQ c.cabins c.secs ((plP c a).getD j default).2) then (true,((plP c a).getD j default).1,kQ c.cabins c.secs ((plP c a).getD j default).2) else bsK c a j:=rfl
  obtain ⟨⟨x,r⟩,hx⟩:∃ x,(plP c a).getD j default=x:=⟨_,rfl⟩
  obtain ⟨⟨f,p,v⟩,hK⟩:∃ x,bsK c a j=x:=⟨_,rfl⟩
  simp only [hx,hK] at hS hvan
  obtain ⟨w,hw⟩:∃ w,kQ c.cabins c.secs r=w:=⟨_,rfl⟩
  rw [hw] at hS
  have hst:jf beL [8] [0,1] 7 1 (xw c a j) (beH c a j) (yR c a j)={ t:=asg [(8,.agg [qd x,.clo 38 [.ptr 1 0]]),(2,.ptr 4 0),(3,.ptr 5 0),(4,.ptr 6 0)],h:=qj [(7,.mark),(4,.cells [.sl (p.map qy)]),(5,.cells [aB f]),(6,.cells [aI v]),(0,qg c.cabins c.secs 8),(1,.cells [.ptr 0 0]),(8,qf r)],n:=9,m:=9 }:=by
   simp only [jf,Nat.reduceAdd,Uj,xw,hx,hK,qd,List.map_cons,List.map_nil,AV.ren,AV.renL,List.zip_cons_cons,List.zip_nil_right,beH,beL,QY,List.cons_append,List.nil_append]
   rfl
  show Sym _ _ _ (jf beL [8] [0,1] 7 1 (xw c a j) (beH c a j) (yR c a j)) _
  rw [hst]
  cases f with
  |false =>
   simp only [Bool.not_false,Bool.true_or,if_true] at hS
   repeat' (first|(apply nx;with_reducible constructor)|refine jq (by decide) ?_|((first|refine kz env fun Q hQ=>?_|refine kj fun Q hQ=>?_);simp only [vkt,seval,yB,Qe,qd,mTk,qc,qg,qf,bL3,pBb,beL,List.length_map,nth,hwL,Nat.zero_add,Nat.sub_zero,hvan,hw];(try simp only [ite_and]);(repeat' (first|with_reducible assumption|refine And.intro ?_ ?_|intro hp));all_goals (first|(refine hQ _ ?_;clear hQ Q)|(refine hQ _ (fun h=>?_) (fun h=>?_) <;> clear hQ Q <;> (try simp only [vki,reduceCtorEq] at h))|(refine kx ?_;kernel_rfl)|omega|assumption|with_reducible rfl|skip)))
   all_goals (refine ⟨rfl,rfl,some,_,RFin.okQ some [] ?_⟩;constructor)
   all_goals (try simp only [vle,xn,vW,qz,yR,beH,hx,hS,vkt,seval,yB,Qe,qd,mTk,qc,qg,qf,bL3,pBb,beL,List.length_map,nth,hwL,Nat.zero_add,Nat.sub_zero])
   all_goals first|rfl|(simp;done)|(simp [beL,xQ,AV.ids,ADf.ids,List.range_succ];done)
  |true =>
   cases hd:decide (v < w) with
   |true =>
    simp only [hd,Bool.not_true,Bool.false_or,if_true] at hS
    repeat' (first|(apply nx;with_reducible constructor)|refine jq (by decide) ?_|((first|refine kz env fun Q hQ=>?_|refine kj fun Q hQ=>?_);simp only [vkt,seval,yB,Qe,qd,mTk,qc,qg,qf,bL3,pBb,beL,List.length_map,nth,hwL,Nat.zero_add,Nat.sub_zero,hvan,hw,hd];(try simp only [ite_and]);(repeat' (first|with_reducible assumption|refine And.intro ?_ ?_|intro hp));all_goals (first|(refine hQ _ ?_;clear hQ Q)|(refine hQ _ (fun h=>?_) (fun h=>?_) <;> clear hQ Q <;> (try simp only [vki,reduceCtorEq] at h))|(refine kx ?_;kernel_rfl)|omega|assumption|with_reducible rfl|skip)))
    all_goals (refine ⟨rfl,rfl,some,_,RFin.okQ some [] ?_⟩;constructor)
    all_goals (try simp only [vle,xn,vW,qz,yR,beH,hx,hS,vkt,seval,yB,Qe,qd,mTk,qc,qg,qf,bL3,pBb,beL,List.length_map,nth,hwL,Nat.zero_add,Nat.sub_zero])
    all_goals first|rfl|(simp;done)|(simp [beL,xQ,AV.ids,ADf.ids,List.range_succ];done)
   |false =>
    simp only [hd,Bool.not_true,Bool.false_or,Bool.false_eq_true,if_false] at hS
    repeat' (first|(apply nx;with_reducible constructor)|refine jq (by decide) ?_|((first|refine kz env fun Q hQ=>?_|refine kj fun Q hQ=>?_);simp only [vkt,seval,yB,Qe,qd,mTk,qc,qg,qf,bL3,pBb,beL,List.length_map,nth,hwL,Nat.zero_add,Nat.sub_zero,hvan,hw,hd];(try simp only [ite_and]);(repeat' (first|with_reducible assumption|refine And.intro ?_ ?_|intro hp));all_goals (first|(refine hQ _ ?_;clear hQ Q)|(refine hQ _ (fun h=>?_) (fun h=>?_) <;> clear hQ Q <;> (try simp only [vki,reduceCtorEq] at h))|(refine kx ?_;kernel_rfl)|omega|assumption|with_reducible rfl|skip)))
    all_goals (refine ⟨rfl,rfl,some,_,RFin.okQ some [] ?_⟩;constructor)
    all_goals (try simp only [vle,xn,vW,qz,yR,beH,hx,hS,vkt,seval,yB,Qe,qd,mTk,qc,qg,qf,bL3,pBb,beL,List.length_map,nth,hwL,Nat.zero_add,Nat.sub_zero])
    all_goals first|rfl|(simp;done)|(simp [beL,xQ,AV.ids,ADf.ids,List.range_succ];done)
 ·have eh:qj ((7,AObj.mark) :: beH c a N++zf [0,1,2,3] (7+1) 0 (yE c a))=qj [(7,.mark),(4,.cells [.sl ((bsK c a N).2.1.map qy)]),(5,.cells [aB (bsK c a N).1]),(6,.cells [aI (bsK c a N).2.2]),(0,qg c.cabins c.secs 2),(1,.cells [.ptr 0 0]),(2,qf c.sold),(3,.cells (ql a))]:=by
   rw [show zf [0,1,2,3] (7+1) 0 (yE c a)=zf [0,1,2,3] 8 0 (yE c a) from rfl,V6];rfl
  rw [eh,V6 c a]
  repeat' (first|(apply nx;with_reducible constructor)|refine jq (by decide) ?_|((first|refine kz env fun Q hQ=>?_|refine kj fun Q hQ=>?_);simp only [vkt,seval,yB,Qe,qd,mTk,qc,qg,qf,bL3,pBb,beL,List.length_map,nth,hwL,Nat.zero_add,Nat.sub_zero];(try simp only [ite_and]);(repeat' (first|with_reducible assumption|refine And.intro ?_ ?_|intro hp));all_goals (first|(refine hQ _ ?_;clear hQ Q)|(refine hQ _ (fun h=>?_) (fun h=>?_) <;> clear hQ Q <;> (try simp only [vki,reduceCtorEq] at h))|(refine kx ?_;kernel_rfl)|omega|assumption|with_reducible rfl|skip)))
  (simp only [vrt,Tryz.results35,vkt,seval,yB,Qe,qd,mTk,qc,qg,qf,bL3,pBb,beL,List.length_map,nth,hwL,Nat.zero_add,Nat.sub_zero];refine Fin.ok some [] ?_ ?_ ?_ ?_ ?_ rfl;all_goals (try simp only [vle,vkt,seval,yB,Qe,qd,mTk,qc,qg,qf,bL3,pBb,beL,List.length_map,nth,hwL,Nat.zero_add,Nat.sub_zero]))
  all_goals first|rfl|(simp [ql,AV.leL,AV.le];done)|exact fun i hi=>(match i,hi with|0,_=>rfl|1,_=>rfl|2,_=>rfl|3,_=>rfl)
def YF (c:Chart) (a:Ask) (S:St):List AV→Option Pk
 |[.clo f [.ptr q 0,.ptr p3 0]]=>match S.h q with
  |some (.cells [.ptr p 0])=>match S.h p with
   |some (.cells [_,_,.row r])=>some { pre:=f=36∧wX c a=0,hs:=[p,q,r,p3],ar:=[.clo 36 [.ptr 1 0,.ptr 3 0]],L0:=yE c a,v:=.tup [.sl ((bsK c a (plP c a).length).2.1.map qy),aB (bsK c a (plP c a).length).1],L1:=(yE c a).map some }
   |_=>none
  |_=>none
 |_=>none
theorem eBest {A:Frm→Prop} {c:Chart} {a:Ask}:qC A Tryz.prog 35 (fnE (YF c a)):=wK fun S bs q h hp=>by
 unfold YF at h
 split at h
 ·split at h
  ·split at h
   ·cases h;exact Qhn hp.2
   ·cases h
  ·cases h
 ·cases h
def yV (c:Chart) (a:Ask):List Bunk × Int:=if wX c a=0 then (if (bsK c a (plP c a).length).1 then ((bsK c a (plP c a).length).2.1,0) else ([],11)) else ([],wX c a)
def Qv:=kk @xg (kk @Zu (kk @Q0 (kk @Wl (kk @y9.eq_1 (kk @QP.eq_1 (kk @Ql.eq_1 @Zt.eq_1))))))
def Jq:=kk @aI.eq_1 (kk @aB.eq_1 (@QJ))
theorem Qhq (c:Chart) (a:Ask) (hc:c.cabins.length≤maxLen) (ha:a.sexes.length≤maxLen):FnV Tryz.prog 13 [qa c,qx a] (.tup [.sl ((yV c a).1.map qy),aI (yV c a).2]):=by
 have env:Env (fun _=>True) Tryz.prog tyB (tab [(34,fnE zn),(35,fnE (YF c a))]):=qO ⟨VT,eBest,trivial⟩
 refine Fn.of (A:=fun _=>True) (n0:=0) (D:=noD) (Fn0 Tryz.func13 rfl (fun vs w=>by kernel_rfl) (by kernel_rfl)) (by simp) (by simp [AV.ids,AV.idsL,qa,qb,qx,ql]) (fun i o h=>by cases h) (fun _ _ _ _=>trivial) qG ?_
 have ec:(⟨c.cabins,c.secs,c.sold⟩:Chart)=c:=rfl
 have ea:(⟨a.party,a.frm,a.to,a.sexes,a.dog⟩:Ask)=a:=rfl
 by_cases h0:wX c a=0
 ·obtain ⟨⟨f,p,v⟩,hK⟩:∃ x,bsK c a (plP c a).length=x:=⟨_,rfl⟩
  cases f with
  |true =>
   rw [show yV c a=(p,0) by unfold yV;rw [if_pos h0,hK];rfl]
   repeat' (first|(apply nx;with_reducible constructor)|refine jq (by decide) ?_|((first|refine kz env fun Q hQ=>?_|refine kj fun Q hQ=>?_);simp only [vkt,seval,Qv,Jq,qa,qb,qx,ql,mTk,qc,qg,qf,qm,yE,zn,YF,List.length_map,ec,ea,h0,hK];(try simp only [ite_and]);(repeat' (first|with_reducible assumption|refine And.intro ?_ ?_|intro hp));all_goals (first|(refine hQ _ ?_;clear hQ Q)|(refine hQ _ (fun h=>?_) (fun h=>?_) <;> clear hQ Q <;> (try simp only [vki,reduceCtorEq] at h))|(refine kx ?_;kernel_rfl)|omega|assumption|with_reducible rfl|skip)))
   (simp only [vrt,Tryz.results13,vkt,seval,Qv,Jq,qa,qb,qx,ql,mTk,qc,qg,qf,qm,yE,zn,YF,List.length_map];refine Fin.val rfl ?_;(try simp only [AV.le,AV.leL]))
   all_goals first|rfl|(simp;done)
  |false =>
   rw [show yV c a=([],11) by unfold yV;rw [if_pos h0,hK];rfl]
   repeat' (first|(apply nx;with_reducible constructor)|refine jq (by decide) ?_|((first|refine kz env fun Q hQ=>?_|refine kj fun Q hQ=>?_);simp only [vkt,seval,Qv,Jq,qa,qb,qx,ql,mTk,qc,qg,qf,qm,yE,zn,YF,List.length_map,ec,ea,h0,hK];(try simp only [ite_and]);(repeat' (first|with_reducible assumption|refine And.intro ?_ ?_|intro hp));all_goals (first|(refine hQ _ ?_;clear hQ Q)|(refine hQ _ (fun h=>?_) (fun h=>?_) <;> clear hQ Q <;> (try simp only [vki,reduceCtorEq] at h))|(refine kx ?_;kernel_rfl)|omega|assumption|with_reducible rfl|skip)))
   (simp only [vrt,Tryz.results13,vkt,seval,Qv,Jq,qa,qb,qx,ql,mTk,qc,qg,qf,qm,yE,zn,YF,List.length_map];refine Fin.val rfl ?_;(try simp only [AV.le,AV.leL]))
   all_goals first|rfl|(simp;done)
 ·rw [show yV c a=([],wX c a) by unfold yV;rw [if_neg h0]]
  repeat' (first|(apply nx;with_reducible constructor)|refine jq (by decide) ?_|((first|refine kz env fun Q hQ=>?_|refine kj fun Q hQ=>?_);simp only [vkt,seval,Qv,Jq,qa,qb,qx,ql,mTk,qc,qg,qf,qm,yE,zn,YF,List.length_map,ec,ea,h0];(try simp only [ite_and]);(repeat' (first|with_reducible assumption|refine And.intro ?_ ?_|intro hp));all_goals (first|(refine hQ _ ?_;clear hQ Q)|(refine hQ _ (fun h=>?_) (fun h=>?_) <;> clear hQ Q <;> (try simp only [vki,reduceCtorEq] at h))|(refine kx ?_;kernel_rfl)|omega|assumption|with_reducible rfl|skip)))
  (simp only [vrt,Tryz.results13,vkt,seval,Qv,Jq,qa,qb,qx,ql,mTk,qc,qg,qf,qm,yE,zn,YF,List.length_map];refine Fin.val rfl ?_;(try simp only [AV.le,AV.leL]))
  all_goals first|rfl|(simp;done)
def VR:=kk @QU @Qi.eq_1
def QcI:=kk @aI.eq_1 (@aB.eq_1)
theorem QiL (a b:Int):FnV Tryz.prog 5 [aI a,aI b] (qh ⟨a,b⟩):=by
 have env:Env (fun _=>True) Tryz.prog tyB (tab []):=qO trivial
 refine Fn.of (A:=fun _=>True) (n0:=0) (D:=noD) (Fn0 Tryz.func5 rfl (fun vs w=>by kernel_rfl) (by kernel_rfl)) (by simp) (by simp [AV.ids,aI]) (fun i o h=>by cases h) (fun _ _ _ _=>trivial) qG ?_
 repeat' (first|(apply nx;with_reducible constructor)|refine jq (by decide) ?_|((first|refine kz env fun Q hQ=>?_|refine kj fun Q hQ=>?_);simp only [vkt,seval,VR,QcI,qh];(try simp only [ite_and]);(repeat' (first|with_reducible assumption|refine And.intro ?_ ?_|intro hp));all_goals (first|(refine hQ _ ?_;clear hQ Q)|(refine hQ _ (fun h=>?_) (fun h=>?_) <;> clear hQ Q <;> (try simp only [vki,reduceCtorEq] at h))|(refine kx ?_;kernel_rfl)|omega|assumption|with_reducible rfl|skip)))
 (simp only [vrt,Tryz.results5,vkt,seval,VR,QcI,qh];refine Fin.val rfl ?_;(try simp only [AV.le,AV.leL]))
 all_goals first|rfl|(simp;done)
def wC:List AV→Prop × AV
 |[.v (.int .i64 a),.v (.int .i64 b)]=>(True,qh ⟨a,b⟩)
 |_=>(False,.junk)
theorem QcO {A:Frm→Prop}:qC A Tryz.prog 5 (za false wC):=zx fun vs hv h=>by
 clear hv
 unfold wC at h ⊢
 split at h
 ·rename_i a b;clear h
  refine ⟨by first|trivial|(simp [AV.plain,AV.plainL,aI,aB,qD,qd,qw,qh,aTk,cTk];done)|(repeat' split) <;> simp [AV.plain,AV.plainL,aI,aB,qD,qd,qw,qh,aTk,cTk],fun h=>absurd h (by decide), ?_⟩
  have:=QiL a b
  simp only [aI] at this
  first|exact this|(simp only [aI];exact this)
 ·exact h.elim
def XF:=kk @xB @vJ.eq_1
def QcE:=kk @aI.eq_1 (@aB.eq_1)
theorem QiW (p x c b f t:Int):FnV Tryz.prog 12 [aI p,aI x,aI c,aI b,aI f,aI t] (aTk ⟨p,x,c,b,f,t,false⟩):=by
 have env:Env (fun _=>True) Tryz.prog tyB (tab [(5,za false wC)]):=qO ⟨QcO,trivial⟩
 refine Fn.of (A:=fun _=>True) (n0:=0) (D:=noD) (Fn0 Tryz.func12 rfl (fun vs w=>by kernel_rfl) (by kernel_rfl)) (by simp) (by simp [AV.ids,aI]) (fun i o h=>by cases h) (fun _ _ _ _=>trivial) qG ?_
 repeat' (first|(apply nx;with_reducible constructor)|refine jq (by decide) ?_|((first|refine kz env fun Q hQ=>?_|refine kj fun Q hQ=>?_);simp only [vkt,seval,XF,QcE,qh,aTk,cTk,wC];(try simp only [ite_and]);(repeat' (first|with_reducible assumption|refine And.intro ?_ ?_|intro hp));all_goals (first|(refine hQ _ ?_;clear hQ Q)|(refine hQ _ (fun h=>?_) (fun h=>?_) <;> clear hQ Q <;> (try simp only [vki,reduceCtorEq] at h))|(refine kx ?_;kernel_rfl)|omega|assumption|with_reducible rfl|skip)))
 (simp only [vrt,Tryz.results12,vkt,seval,XF,QcE,qh,aTk,cTk,wC];refine Fin.val rfl ?_;(try simp only [AV.le,AV.leL]))
 all_goals first|rfl|(simp;done)
def wL:List AV→Prop × AV
 |[.v (.int .i64 p),.v (.int .i64 x),.v (.int .i64 c),.v (.int .i64 b),.v (.int .i64 f),.v (.int .i64 t)]=>(True,aTk ⟨p,x,c,b,f,t,false⟩)
 |_=>(False,.junk)
theorem QcV {A:Frm→Prop}:qC A Tryz.prog 12 (za false wL):=zx fun vs hv h=>by
 clear hv
 unfold wL at h ⊢
 split at h
 ·rename_i p x c b f t;clear h
  refine ⟨by first|trivial|(simp [AV.plain,AV.plainL,aI,aB,qD,qd,qw,qh,aTk,cTk];done)|(repeat' split) <;> simp [AV.plain,AV.plainL,aI,aB,qD,qd,qw,qh,aTk,cTk],fun h=>absurd h (by decide), ?_⟩
  have:=QiW p x c b f t
  simp only [aI] at this
  first|exact this|(simp only [aI];exact this)
 ·exact h.elim
theorem WM {α:Type} [Inhabited α] {l m:List α} (h0:l.length=m.length) (h:∀ j,j < l.length→l.getD j default=m.getD j default):l=m:=by
 apply List.ext_getElem h0
 intro j h1 h2
 have:=h j h1
 simpa [List.getD_eq_getElem?_getD,h1,h2] using this
def eqS (l m:List Bunk) (k:Nat):St:={ t:=asg [(0,qd l),(1,qd m),(4,aB false),(5,aI k)],h:=qj [],n:=0 }
def jT:=kk @ty3 (kk @QU (kk @YM (kk @ti3.eq_1 (kk @Qi.eq_1 @JN.eq_1))))
def xq:=kk @aI.eq_1 (@aB.eq_1)
theorem Qjz (l m:List Bunk) (hl:l.length≤1000) (hm:m.length≤1000):FnV Tryz.prog 16 [qd l,qd m] (aB (decide (l=m))):=by
 have env:Env (fun _=>True) Tryz.prog tyB (tab []):=qO trivial
 refine Fn.of (A:=fun _=>True) (n0:=0) (D:=noD) (Fn0 Tryz.func16 rfl (fun vs w=>by kernel_rfl) (by kernel_rfl)) (by simp) (by simp [AV.ids,qd]) (fun i o h=>by cases h) (fun _ _ _ _=>trivial) qG ?_
 by_cases h0:l.length=m.length
 ·have d0:decide ((l.length:Int)=(m.length:Int))=true:=decide_eq_true (by omega)
  repeat' (first|(apply nx;with_reducible constructor)|refine jq (by decide) ?_|((first|refine kz env fun Q hQ=>?_|refine kj fun Q hQ=>?_);simp only [vkt,seval,jT,xq,qd,qy,qR,eqS,Bool.true_and,Bool.false_and,d0];(try simp only [ite_and]);(repeat' (first|with_reducible assumption|refine And.intro ?_ ?_|intro hp));all_goals (first|(refine hQ _ ?_;clear hQ Q)|(refine hQ _ (fun h=>?_) (fun h=>?_) <;> clear hQ Q <;> (try simp only [vki,reduceCtorEq] at h))|(refine kx ?_;kernel_rfl)|omega|assumption|with_reducible rfl|skip)))
  refine zt (fun k:{ k:Nat // k≤l.length∧∀ j,j < k→l.getD j default=m.getD j default }=>eqS l m k.1) (fun k=>l.length - k.1) ⟨0,Nat.zero_le _,fun j h=>absurd h (Nat.not_lt_zero _)⟩ ?_ fun ⟨k,hk,hno⟩=>?_
  ·(refine Le.ok some [] ?_;constructor;all_goals (try simp only [vle,vkt,seval,jT,xq,qd,qy,qR,eqS,Bool.true_and,Bool.false_and]))
   all_goals first|rfl|(simp;done)
  ·repeat' (first|(apply nx;with_reducible constructor)|refine jq (by decide) ?_)
   (refine kz env fun Q hQ=>?_;simp only [vkt,seval,jT,xq,qd,qy,qR,eqS,Bool.true_and,Bool.false_and];(try simp only [ite_and]);(repeat' (first|with_reducible assumption|refine And.intro ?_ ?_|intro hp));all_goals (first|(refine hQ _ ?_;clear hQ Q)|(refine kx ?_;kernel_rfl)|omega|assumption|with_reducible rfl|skip))
   repeat' (first|(apply nx;with_reducible constructor)|refine jq (by decide) ?_)
   (refine yf (by simp only [vkt,seval,jT,xq,qd,qy,qR,eqS,Bool.true_and,Bool.false_and];rfl) (fun h=>?_) (fun h=>?_) <;> (try simp only [vki,reduceCtorEq] at h))
   ·have hlt:k < l.length:=by omega
    have hlm:k < m.length:=by omega
    have e9:IntKind.wrap .i64 ((k:Int)+1)=((k+1:Nat):Int):=by rw [wrap64 (by omega) (by omega)];rfl
    obtain ⟨x,hx⟩:∃ x,l.getD k default=x:=⟨_,rfl⟩
    obtain ⟨y,hy⟩:∃ x,m.getD k default=x:=⟨_,rfl⟩
    have hxy:(x=y)=(x.cab=y.cab∧x.bed=y.bed):=by cases x;cases y;simp
    have hne:¬ x=y→decide (l=m)=false:=fun h=>decide_eq_false fun e=>h (by rw [← hx,← hy,e])
    cases q1:decide (x.cab=y.cab)
    ·rw [hne (by rw [hxy];exact fun h=>of_decide_eq_false q1 h.1)]
     repeat' (first|(apply nx;with_reducible constructor)|refine jq (by decide) ?_|((first|refine kz env fun Q hQ=>?_|refine kj fun Q hQ=>?_);simp only [vkt,seval,jT,xq,qd,qy,qR,eqS,Bool.true_and,Bool.false_and,hx,hy,q1,hlm,e9];(try simp only [ite_and]);(repeat' (first|with_reducible assumption|refine And.intro ?_ ?_|intro hp));all_goals (first|(refine hQ _ ?_;clear hQ Q)|(refine hQ _ (fun h=>?_) (fun h=>?_) <;> clear hQ Q <;> (try simp only [vki,reduceCtorEq] at h))|(refine kx ?_;kernel_rfl)|omega|assumption|with_reducible rfl|skip)))
     (simp only [vrt,Tryz.results16,vkt,seval,jT,xq,qd,qy,qR,eqS,Bool.true_and,Bool.false_and];refine Fin.val rfl ?_;(try simp only [AV.le,AV.leL]))
     all_goals first|rfl|(simp;done)
    ·cases q2:decide (x.bed=y.bed)
     ·rw [hne (by rw [hxy];exact fun h=>of_decide_eq_false q2 h.2)]
      repeat' (first|(apply nx;with_reducible constructor)|refine jq (by decide) ?_|((first|refine kz env fun Q hQ=>?_|refine kj fun Q hQ=>?_);simp only [vkt,seval,jT,xq,qd,qy,qR,eqS,Bool.true_and,Bool.false_and,hx,hy,q1,q2,hlm,e9];(try simp only [ite_and]);(repeat' (first|with_reducible assumption|refine And.intro ?_ ?_|intro hp));all_goals (first|(refine hQ _ ?_;clear hQ Q)|(refine hQ _ (fun h=>?_) (fun h=>?_) <;> clear hQ Q <;> (try simp only [vki,reduceCtorEq] at h))|(refine kx ?_;kernel_rfl)|omega|assumption|with_reducible rfl|skip)))
      (simp only [vrt,Tryz.results16,vkt,seval,jT,xq,qd,qy,qR,eqS,Bool.true_and,Bool.false_and];refine Fin.val rfl ?_;(try simp only [AV.le,AV.leL]))
      all_goals first|rfl|(simp;done)
     ·have he:x=y:=by rw [hxy];exact ⟨of_decide_eq_true q1,of_decide_eq_true q2⟩
      repeat' (first|(apply nx;with_reducible constructor)|refine jq (by decide) ?_|((first|refine kz env fun Q hQ=>?_|refine kj fun Q hQ=>?_);simp only [vkt,seval,jT,xq,qd,qy,qR,eqS,Bool.true_and,Bool.false_and,hx,hy,q1,q2,hlm,e9];(try simp only [ite_and]);(repeat' (first|with_reducible assumption|refine And.intro ?_ ?_|intro hp));all_goals (first|(refine hQ _ ?_;clear hQ Q)|(refine hQ _ (fun h=>?_) (fun h=>?_) <;> clear hQ Q <;> (try simp only [vki,reduceCtorEq] at h))|(refine kx ?_;kernel_rfl)|omega|assumption|with_reducible rfl|skip)))
      refine ⟨⟨k+1,hlt,fun j hj=>?_⟩,by show l.length - (k+1) < l.length - k;omega, ?_⟩
      ·rcases Nat.lt_or_eq_of_le (Nat.le_of_lt_succ hj) with h1|h1
       ·exact hno j h1
       ·rw [h1,hx,hy];exact he
      ·(refine Le.ok some [] ?_;constructor;all_goals (try simp only [vle,vkt,seval,jT,xq,qd,qy,qR,eqS,Bool.true_and,Bool.false_and]))
       all_goals first|rfl|(simp;done)
   ·have hke:k=l.length:=by omega
    subst hke
    rw [decide_eq_true (WM h0 hno)]
    repeat' (first|(apply nx;with_reducible constructor)|refine jq (by decide) ?_|((first|refine kz env fun Q hQ=>?_|refine kj fun Q hQ=>?_);simp only [vkt,seval,jT,xq,qd,qy,qR,eqS,Bool.true_and,Bool.false_and];(try simp only [ite_and]);(repeat' (first|with_reducible assumption|refine And.intro ?_ ?_|intro hp));all_goals (first|(refine hQ _ ?_;clear hQ Q)|(refine hQ _ (fun h=>?_) (fun h=>?_) <;> clear hQ Q <;> (try simp only [vki,reduceCtorEq] at h))|(refine kx ?_;kernel_rfl)|omega|assumption|with_reducible rfl|skip)))
    (simp only [vrt,Tryz.results16,vkt,seval,jT,xq,qd,qy,qR,eqS,Bool.true_and,Bool.false_and];refine Fin.val rfl ?_;(try simp only [AV.le,AV.leL]))
    all_goals first|rfl|(simp;done)
 ·have d0:decide ((l.length:Int)=(m.length:Int))=false:=decide_eq_false (by omega)
  rw [decide_eq_false (fun e=>h0 (by rw [e]))]
  repeat' (first|(apply nx;with_reducible constructor)|refine jq (by decide) ?_|((first|refine kz env fun Q hQ=>?_|refine kj fun Q hQ=>?_);simp only [vkt,seval,jT,xq,qd,qy,qR,eqS,Bool.true_and,Bool.false_and,d0];(try simp only [ite_and]);(repeat' (first|with_reducible assumption|refine And.intro ?_ ?_|intro hp));all_goals (first|(refine hQ _ ?_;clear hQ Q)|(refine hQ _ (fun h=>?_) (fun h=>?_) <;> clear hQ Q <;> (try simp only [vki,reduceCtorEq] at h))|(refine kx ?_;kernel_rfl)|omega|assumption|with_reducible rfl|skip)))
  (simp only [vrt,Tryz.results16,vkt,seval,jT,xq,qd,qy,qR,eqS,Bool.true_and,Bool.false_and];refine Fin.val rfl ?_;(try simp only [AV.le,AV.leL]))
  all_goals first|rfl|(simp;done)
def seqB:List AV→Prop × AV
 |[.sl l,.sl m]=>(l=(l.map ji).map qy∧m=(m.map ji).map qy∧(l.map ji).length≤1000∧(m.map ji).length≤1000,aB (decide ((l.map ji)=(m.map ji))))
 |_=>(False,.junk)
theorem eeqB {A:Frm→Prop}:qC A Tryz.prog 16 (za true seqB):=zx fun vs hv h=>by
 clear hv
 unfold seqB at h ⊢
 split at h
 ·rename_i l m;obtain ⟨q0,q1,k0,k1⟩:=h
  refine ⟨by first|trivial|(simp [AV.plain,AV.plainL,aI,aB,qD,qd,qw,qh,aTk,cTk];done)|(repeat' split) <;> simp [AV.plain,AV.plainL,aI,aB,qD,qd,qw,qh,aTk,cTk],fun _=>(by simp [AV.flat,AV.flatL,aI,aB]), ?_⟩
  have:=Qjz (l.map ji) (m.map ji) k0 k1
  simp only [qd,← q0,← q1] at this
  first|exact this|(simp only [qd,← q0,← q1];exact this)
 ·exact h.elim
def zw (more:List Tk):Chart:=⟨[⟨2,true⟩,⟨2,false⟩,⟨1,false⟩],4,⟨1,1,0,0,0,2,false⟩ :: ⟨2,2,1,0,1,4,false⟩ :: more⟩
def WZ:=kk @VD (kk @QV (kk @xg (kk @xB (kk @VC (kk @JR.eq_1 (kk @Qh.eq_1 (kk @y9.eq_1 (kk @vJ.eq_1 @J4.eq_1))))))))
def UO:=kk @aI.eq_1 (@aB.eq_1)
theorem Qe2 (more:List Tk) (hm:more.length≤100):FnV Tryz.prog 4 [qw more] (qa (zw more)):=by
 have env:Env (fun _=>True) Tryz.prog tyB (tab [(12,za false wL)]):=qO ⟨QcV,trivial⟩
 refine Fn.of (A:=fun _=>True) (n0:=0) (D:=noD) (Fn0 Tryz.func4 rfl (fun vs w=>by kernel_rfl) (by kernel_rfl)) (by simp) (by simp [AV.ids,qw]) (fun i o h=>by cases h) (fun _ _ _ _=>trivial) qG ?_
 have hx:(100:Nat)+2≤maxLen:=by decide
 have h1:more.length+2≤maxLen:=by omega
 have h2:2+more.length≤maxLen:=by omega
 show Sym _ _ _ (zR [qw more] 0 noH) (vo tyB noD Tryz.f4 fun S rv=>Fin S rv _ 0 (qj []) 0)
 repeat' (first|(apply nx;with_reducible constructor)|refine jq (by decide) ?_|((first|refine kz env fun Q hQ=>?_|refine kj fun Q hQ=>?_);simp only [vkt,seval,WZ,UO,aTk,cTk,qw,eTk,rTk,mTk,wL,zw,qa,qb,qo,List.length_map,hm,h1,h2];(try simp only [ite_and]);(repeat' (first|with_reducible assumption|refine And.intro ?_ ?_|intro hp));all_goals (first|(refine hQ _ ?_;clear hQ Q)|(refine hQ _ (fun h=>?_) (fun h=>?_) <;> clear hQ Q <;> (try simp only [vki,reduceCtorEq] at h))|(refine kx ?_;kernel_rfl)|omega|assumption|with_reducible rfl|skip)))
 simp only [zw,qa,qb,qo,List.map_cons,List.map_nil]
 (simp only [vrt,Tryz.results4,vkt,seval,WZ,UO,aTk,cTk,qw,eTk,rTk,mTk,wL,zw,qa,qb,qo,List.length_map];refine Fin.ok some [1,3] ?_ ?_ ?_ ?_ ?_ rfl;all_goals (try simp only [vle,vkt,seval,WZ,UO,aTk,cTk,qw,eTk,rTk,mTk,wL,zw,qa,qb,qo,List.length_map]))
 all_goals first|rfl|(simp [eTk];done)
def Xb:=kk @Q0 @Ql.eq_1
def QcY:=kk @aI.eq_1 (kk @aB.eq_1 (@qD.eq_1))
theorem QhS (f t:Int) (d:Bool) (l:List Int):FnV Tryz.prog 14 [aI f,aI t,aB d,qD l] (qx ⟨9,f,t,l,d⟩):=by
 have env:Env (fun _=>True) Tryz.prog tyB (tab []):=qO trivial
 refine Fn.of (A:=fun _=>True) (n0:=0) (D:=noD) (Fn0 Tryz.func14 rfl (fun vs w=>by kernel_rfl) (by kernel_rfl)) (by simp) (by simp [AV.ids,aI,aB,qD]) (fun i o h=>by cases h) (fun _ _ _ _=>trivial) qG ?_
 repeat' (first|(apply nx;with_reducible constructor)|refine jq (by decide) ?_|((first|refine kz env fun Q hQ=>?_|refine kj fun Q hQ=>?_);simp only [vkt,seval,Xb,QcY,qx,ql,List.length_map];(try simp only [ite_and]);(repeat' (first|with_reducible assumption|refine And.intro ?_ ?_|intro hp));all_goals (first|(refine hQ _ ?_;clear hQ Q)|(refine hQ _ (fun h=>?_) (fun h=>?_) <;> clear hQ Q <;> (try simp only [vki,reduceCtorEq] at h))|(refine kx ?_;kernel_rfl)|omega|assumption|with_reducible rfl|skip)))
 (simp only [vrt,Tryz.results14,vkt,seval,Xb,QcY,qx,ql,List.length_map];refine Fin.val rfl ?_;(try simp only [AV.le,AV.leL]))
 all_goals first|rfl|(simp;done)
def pkK (f:Bunk→Int) (l:List Bunk):Nat→Bunk × Int
 |0=>(⟨0,0⟩,0)
 |i+1=>if i=0∨f (l.getD i default) < (pkK f l i).2 then (l.getD i default,f (l.getD i default)) else pkK f l i
def yY:List (List Bunk)→Bunk→Bunk × Int
 |[],_=>(⟨0,0⟩,0)
 |l :: rest,b=>pkK (fun y=>(yY rest y).2+if y=b then 0 else 1) l l.length
def nxF (L:List (List Bunk)) (at_:Nat) (b y:Bunk):Int:=(yY (L.drop (at_+1)) y).2+if y=b then 0 else 1
theorem QfE {L:List (List Bunk)} {i:Nat} (h:i < L.length) (b:Bunk):yY (L.drop i) b=pkK (nxF L i b) (L.getD i []) (L.getD i []).length:=by
 rw [List.drop_eq_getElem_cons h,yY]
 rw [show L.getD i []=L[i] by simp [List.getD_eq_getElem?_getD,h]]
 rfl
def VP:List (List Bunk)→Bunk→List Bunk
 |[],_=>[]
 |l :: rest,b=>(yY (l :: rest) b).1 :: VP rest (yY (l :: rest) b).1
theorem Qgh {f:Bunk→Int} {l:List Bunk} {n:Int} (hn:0≤n) (h:∀ b ∈ l,0≤f b∧f b≤n):∀ i,i≤l.length→0≤(pkK f l i).2∧(pkK f l i).2≤n
 |0,_=>⟨Int.le_refl 0,hn⟩
 |i+1,hi=>by
  rw [pkK]
  split
  ·exact h _ (xV hi)
  ·exact Qgh hn h i (by omega)
theorem XE:∀ (L:List (List Bunk)) (b:Bunk),0≤(yY L b).2∧(yY L b).2≤(L.length:Int)
 |[],_=>by simp [yY]
 |l :: rest,b=>by
  rw [yY]
  refine Qgh (by omega) (fun y _=>?_) _ (Nat.le_refl _)
  have:=XE rest y
  rw [List.length_cons]
  split <;> omega
theorem QjM (L:List (List Bunk)) (i:Nat) (b y:Bunk):0≤nxF L i b y∧nxF L i b y≤(L.length:Int)+1:=by
 have h:=XE (L.drop (i+1)) y
 rw [List.length_drop] at h
 unfold nxF
 split <;> omega
def wkK (L:List (List Bunk)):Nat→List Bunk
 |0=>[]
 |i+1=>wkK L i++[(yY (L.drop i) (if i=0 then ⟨-1,0⟩ else (wkK L i).getD (i - 1) default)).1]
theorem Un (L:List (List Bunk)):∀ i,(wkK L i).length=i
 |0=>rfl
 |i+1=>by rw [wkK,List.length_append,Un L i];rfl
def wkB (L:List (List Bunk)) (i:Nat):Bunk:=if i=0 then ⟨-1,0⟩ else (wkK L i).getD (i - 1) default
theorem XR (L:List (List Bunk)) (i:Nat):wkK L (i+1)=wkK L i++[(yY (L.drop i) (wkB L i)).1]:=rfl
theorem Qe7 (L:List (List Bunk)) (i:Nat):wkB L (i+1)=(yY (L.drop i) (wkB L i)).1:=by
 unfold wkB
 rw [if_neg (by omega),XR]
 have h:=Un L i
 rw [show i+1 - 1=i by omega,List.getD_eq_getElem?_getD,List.getElem?_append_right (by omega),h]
 simp
 rfl
theorem Qc7 (L:List (List Bunk)):∀ i,i≤L.length→VP L ⟨-1,0⟩=wkK L i++VP (L.drop i) (wkB L i)
 |0,_=>by simp [wkK,wkB]
 |i+1,h=>by
  rw [Qc7 L i (by omega),XR,Qe7]
  conv=>lhs;rw [List.drop_eq_getElem_cons (show i < L.length by omega),VP]
  rw [← List.drop_eq_getElem_cons (show i < L.length by omega)]
  simp
theorem QjD (L:List (List Bunk)):wkK L L.length=VP L ⟨-1,0⟩:=by
 rw [Qc7 L L.length (Nat.le_refl _),List.drop_length,VP,List.append_nil]
def X7 (a:Ask) (s:Int):Ask:=⟨a.party,s,s+1,a.sexes,a.dog⟩
def x8 (c:Chart) (a:Ask) (s:Int):List Bunk:=(plP c (X7 a s)).map fun x=>x.1.getD 0 default
def ZE (c:Chart) (a:Ask) (k:Nat):List (List Bunk):=(List.range k).map fun (i:Nat)=>x8 c a (a.frm+i)
def Jd (c:Chart) (a:Ask):List (List Bunk):=ZE c a (a.to - a.frm).toNat
theorem Qa7 (c:Chart) (a:Ask) (k:Nat):ZE c a (k+1)=ZE c a k++[x8 c a (a.frm+k)]:=by
 unfold ZE;rw [List.range_succ,List.map_append];rfl
def Q9 (c:Chart) (a:Ask):List Bunk × Int × Int :=
 if wX c a ≠ 0 then ([],0,wX c a) else if 1 < a.sexes.length then ([],0,6) else if a.dog then ([],0,9) else
 if (Jd c a).any (·.isEmpty) then ([],0,11) else (VP (Jd c a) ⟨-1,0⟩,(yY (Jd c a) ⟨-1,0⟩).2 - 1,0)
def ZQ (i:Int) (b:Bunk):Value:=.agg #[.int .i64 i,.int .i64 b.cab,.int .i64 b.bed]
theorem LX {i j:Int} {b c:Bunk} (h:ZQ i b=ZQ j c):i=j∧b=c:=by
 cases b;cases c
 simp [ZQ] at h
 obtain ⟨rfl,rfl,rfl⟩:=h
 exact ⟨rfl,rfl⟩
def QcX:KeyInfo:={ kd:=.agg [some .i64,some .i64,some .i64],z:=.v (.int .i64 0),agg:=false }
def Uo (es:List (Value × Value)) (kv:Value) (n:Int):Prop:=∃ b,vD QcX (yF es kv)=(True,.v (.int .i64 n),b)
theorem Qd3 {es:List (Value × Value)} {kv:Value} (h:yF es kv=none):Uo es kv 0:=by
 refine ⟨false, ?_⟩
 rw [h]
 show (_,_,_)=_
 simp [QcX,AV.ids]
theorem QeN {es:List (Value × Value)} {kv:Value} {n:Int} (h:yF es kv=some (.int .i64 n)):Uo es kv n:=by
 refine ⟨true, ?_⟩
 rw [h]
 show (_,_,_)=_
 simp [QcX,XN,Value.oneCell',vAV]
theorem Qdy {es:List (Value × Value)} {kv:Value} {n:Int}:Uo (vN es kv (.int .i64 n)) kv n:=QeN (by rw [Jf,if_pos rfl])
theorem QcP {es:List (Value × Value)} {kv kv' v:Value} {n:Int} (hne:kv ≠ kv') (h:Uo es kv' n):Uo (vN es kv v) kv' n:=by
 unfold Uo
 rw [Jf,if_neg hne]
 exact h
theorem Z7 {es:List (Value × Value)} {k v:Value}:(vN es k v).length≤es.length+1:=by
 induction es with
 |nil=>simp [vN]
 |cons p es ih =>
  rw [vN]
  split
  ·simp
  ·rw [List.length_cons,List.length_cons];omega
abbrev Qjn:Value→Prop:=KD.Q (.agg [some .i64,some .i64,some .i64])
theorem spotQ (i:Int) (b:Bunk):Qjn (ZQ i b):=⟨⟨_,rfl⟩,⟨_,rfl⟩,⟨_,rfl⟩,trivial⟩
structure BhOk (L:List (List Bunk)) (es:List (Value × Value)) (at_:Nat):Prop where
 ok:MOK Qjn es
 look:∀ j,at_≤j→j < L.length→∀ x ∈ L.getD j [],Uo es (ZQ j x) (yY (L.drop (j+1)) x).2
theorem Qj6 (L:List (List Bunk)):BhOk L [] (L.length - 1):=⟨MOK.nil _,fun j h1 h2 x _=>by
 rw [List.drop_eq_nil_iff.2 (by omega)]
 exact Qd3 rfl⟩
structure BhIn (L:List (List Bunk)) (es:List (Value × Value)) (at_ i:Nat):Prop where
 bh:BhOk L es (at_+1)
 cur:∀ k,k < i→k < (L.getD at_ []).length→Uo es (ZQ at_ ((L.getD at_ []).getD k default)) (yY (L.drop (at_+1)) ((L.getD at_ []).getD k default)).2
theorem BhOk.inn {L:List (List Bunk)} {es:List (Value × Value)} {i:Nat} (h:BhOk L es (i+1)):BhIn L es i 0:=⟨h,fun k hk=>absurd hk (Nat.not_lt_zero _)⟩
theorem BhIn.step {L:List (List Bunk)} {es:List (Value × Value)} {at_ i:Nat} (h:BhIn L es at_ i) {b:Bunk} (hb:(L.getD at_ []).getD i default=b) {n:Int} (hn:(yY (L.drop (at_+1)) b).2=n) :
  BhIn L (vN es (ZQ at_ b) (.int .i64 n)) at_ (i+1):=by
 refine ⟨⟨h.bh.ok.set (spotQ _ _),fun j h1 h2 x hx=>QcP (fun e=>?_) (h.bh.look j h1 h2 x hx)⟩,fun k hk hl=>?_⟩
 ·have:=(LX e).1;omega
 ·obtain ⟨x,hx⟩:∃ x,(L.getD at_ []).getD k default=x:=⟨_,rfl⟩
  rw [hx]
  by_cases hxb:b=x
  ·subst hxb;rw [hn];exact Qdy
  ·have hki:k < i:=by
    rcases Nat.lt_or_eq_of_le (Nat.le_of_lt_succ hk) with h1|h1
    ·exact h1
    ·subst h1;exact absurd (hb.symm.trans hx) hxb
   have:=h.cur k hki hl
   rw [hx] at this
   exact QcP (fun e=>hxb (LX e).2) this
theorem BhIn.out {L:List (List Bunk)} {es:List (Value × Value)} {i:Nat} (h:BhIn L es i (L.getD i []).length):BhOk L es i:=⟨h.bh.ok,fun j h1 h2 x hx=>by
 rcases Nat.lt_or_eq_of_le h1 with h3|h3
 ·exact h.bh.look j h3 h2 x hx
 ·subst h3
  obtain ⟨k,hk,rfl⟩:=List.mem_iff_getElem.1 hx
  have:=h.cur k hk hk
  rwa [show (L.getD i []).getD k default=(L.getD i [])[k] by rw [List.getD_eq_getElem?_getD,List.getElem?_eq_getElem hk];rfl] at this⟩
structure NxOk (L:List (List Bunk)) (es:List (Value × Value)) (i:Nat):Prop where
 len:L.length≤100
 lt:i < L.length
 each:∀ l ∈ L,l.length≤1000
 bh:BhOk L es i
def nxL (L:List (List Bunk)) (es:List (Value × Value)):List AObj:=[.cells [.row 2],.cells [.mp 3],.row 43 1 (L.map qB),.map es]
theorem Qiq {L:List (List Bunk)} {es:List (Value × Value)}:∀ i o,qj (qH 0 (nxL L es)) i=some o→i < 4∧∀ id ∈ o.ids,id < 4:=by
 intro i o hi
 have h:=qQ hi
 simp [qH,nxL] at h
 rcases h with ⟨rfl,rfl⟩|⟨rfl,rfl⟩|⟨rfl,rfl⟩|⟨rfl,rfl⟩ <;> simp [AObj.ids,AV.ids,AV.idsL]
def ncS (L:List (List Bunk)) (es:List (Value × Value)) (i:Nat) (b:Bunk) (l:List Bunk) (k:Nat) (o:Bunk) (n:Int):St:={ t:=asg [(0,aI i),(2,.ptr 0 0),(3,.ptr 1 0),(5,.ptr 4 0),(6,.ptr 5 0),(7,aI n),(14,qd l),(15,aI l.length),(16,aI k)],h:=qj [(0,.cells [.row 2]),(1,.cells [.mp 3]),(2,.row 43 1 (L.map qB)),(3,.map es),(4,.cells [.v (.int .i64 b.cab),.v (.int .i64 b.bed)]),(5,.cells [.v (.int .i64 o.cab),.v (.int .i64 o.bed)])],n:=6,m:=4 }
def wY:=kk @ty3 (kk @QU (kk @YM (kk @Qfb (kk @Qi5 (kk @QiZ (kk @ti3.eq_1 (kk @Qi.eq_1 (kk @JN.eq_1 (kk @QaG.eq_1 (kk @QaB.eq_1 @Qau.eq_1))))))))))
def j6:=kk @aI.eq_1 (@aB.eq_1)
set_option maxHeartbeats 2000000 in
theorem QjE (L:List (List Bunk)) (es:List (Value × Value)) (i:Nat) (b:Bunk) (ok:NxOk L es i):Fn noB Tryz.prog 41 [aI i,qh b,.ptr 0 0,.ptr 1 0] (qj (qH 0 (nxL L es))) (.tup [qh (yY (L.drop i) b).1,aI (yY (L.drop i) b).2]) (qj (wP 0 ((nxL L es).map some))) 0:=by
 have env:Env (fun _=>True) Tryz.prog tyB (tab []):=qO trivial
 refine Fn.of (A:=fun _=>True) (n0:=4) (D:=noD) (Fn0 Tryz.func41 rfl (fun vs w=>by kernel_rfl) (by kernel_rfl)) (by simp) (by simp [AV.ids,AV.idsL,aI,qh]) Qiq (fun _ _ _ _=>trivial) qG ?_
 have hlen:=ok.len
 have hlt:=ok.lt
 have hbd:=QjM L i b
 rw [QfE hlt]
 obtain ⟨l,hl⟩:∃ l,L.getD i []=l:=⟨_,rfl⟩
 have hll:l.length≤1000:=ok.each l (by rw [← hl];exact xV hlt)
 have hlook:∀ x ∈ l,Uo es (ZQ i x) (yY (L.drop (i+1)) x).2:=fun x hx=>ok.bh.look i (Nat.le_refl _) hlt x (by rw [hl];exact hx)
 have hM:MOK (KD.Q (.agg [some .i64,some .i64,some .i64])) es:=ok.bh.ok
 rw [hl]
 show Sym _ _ _ (zR [aI i,qh b,.ptr 0 0,.ptr 1 0] 4 (qj [(0,.cells [.row 2]),(1,.cells [.mp 3]),(2,.row 43 1 (L.map qB)),(3,.map es)])) (vo tyB noD Tryz.f41 fun S rv=>Fin S rv _ 4 (qj [(0,.cells [.row 2]),(1,.cells [.mp 3]),(2,.row 43 1 (L.map qB)),(3,.map es)]) 0)
 have i0:((i:Int)).toNat=i:=rfl
 have hg:=QfL hlt
 rw [hl] at hg
 repeat' (first|(apply nx;with_reducible constructor)|refine jq (by decide) ?_|((first|refine kz env fun Q hQ=>?_|refine kj fun Q hQ=>?_);simp only [vkt,seval,wY,j6,qh,qd,qy,qB,qR,zK,zJ,ncS,List.length_map,hg,hl,hlt,i0];(try simp only [ite_and]);(repeat' (first|with_reducible assumption|refine And.intro ?_ ?_|intro hp));all_goals (first|(refine hQ _ ?_;clear hQ Q)|(refine hQ _ (fun h=>?_) (fun h=>?_) <;> clear hQ Q <;> (try simp only [vki,reduceCtorEq] at h))|(refine kx ?_;kernel_rfl)|omega|assumption|with_reducible rfl|skip)))
 refine zt (fun k:{ k:Nat // k≤l.length }=>ncS L es i b l k.1 (pkK (nxF L i b) l k.1).1 (pkK (nxF L i b) l k.1).2) (fun k=>l.length - k.1) ⟨0,Nat.zero_le _⟩ ?_ fun ⟨k,hk⟩=>?_
 ·(refine Le.ok some [] ?_;constructor;all_goals (try simp only [vle,vkt,seval,wY,j6,qh,qd,qy,qB,qR,zK,zJ,ncS,List.length_map]))
  all_goals first|rfl|(simp [pkK];done)
 simp only at hk ⊢
 obtain ⟨⟨o,n⟩,hon⟩:∃ z,pkK (nxF L i b) l k=z:=⟨_,rfl⟩
 have hS:pkK (nxF L i b) l (k+1)=if k=0∨nxF L i b (l.getD k default) < n then (l.getD k default,nxF L i b (l.getD k default)) else (o,n):=by rw [pkK,hon]
 rw [hon]
 repeat' (first|(apply nx;with_reducible constructor)|refine jq (by decide) ?_)
 (refine kz env fun Q hQ=>?_;simp only [vkt,seval,wY,j6,qh,qd,qy,qB,qR,zK,zJ,ncS,List.length_map];(try simp only [ite_and]);(repeat' (first|with_reducible assumption|refine And.intro ?_ ?_|intro hp));all_goals (first|(refine hQ _ ?_;clear hQ Q)|(refine kx ?_;kernel_rfl)|omega|assumption|with_reducible rfl|skip))
 repeat' (first|(apply nx;with_reducible constructor)|refine jq (by decide) ?_)
 (refine yf (by simp only [vkt,seval,wY,j6,qh,qd,qy,qB,qR,zK,zJ,ncS,List.length_map];rfl) (fun h=>?_) (fun h=>?_) <;> (try simp only [vki,reduceCtorEq] at h))
 ·have hkl:k < l.length:=by omega
  have e9:IntKind.wrap .i64 ((k:Int)+1)=((k+1:Nat):Int):=by rw [wrap64 (by omega) (by omega)];rfl
  obtain ⟨x,hx⟩:∃ x,l.getD k default=x:=⟨_,rfl⟩
  obtain ⟨v,hv⟩:∃ v,(yY (L.drop (i+1)) x).2=v:=⟨_,rfl⟩
  obtain ⟨bb,hlk⟩:=hlook x (by rw [← hx];exact xV hkl)
  rw [hv] at hlk
  simp only [QcX,ZQ] at hlk
  have hF:nxF L i b x=v+if x=b then 0 else 1:=by unfold nxF;rw [hv]
  have hb:=hbd x
  rw [hx] at hS
  obtain ⟨f,hf⟩:∃ f,nxF L i b x=f:=⟨_,rfl⟩
  rw [hf] at hS hF hb
  have key:∀ (o':Bunk) (n':Int),pkK (nxF L i b) l (k+1)=(o',n')→ncS L es i b l (k+1) (pkK (nxF L i b) l (k+1)).1 (pkK (nxF L i b) l (k+1)).2=ncS L es i b l (k+1) o' n':=fun o' n' h=>by rw [h]
  have fin:∀ (S:St) (o':Bunk) (n':Int),pkK (nxF L i b) l (k+1)=(o',n')→Le S (ncS L es i b l (k+1) o' n')→∃ y:{ k:Nat // k≤l.length },(l.length - y.1 < l.length - k)∧Le S (ncS L es i b l y.1 (pkK (nxF L i b) l y.1).1 (pkK (nxF L i b) l y.1).2):=fun S o' n' h hle=>⟨⟨k+1,hkl⟩,by show l.length - (k+1) < l.length - k;omega,by rw [key o' n' h];exact hle⟩
  by_cases hxb:x=b
  ·subst hxb
   rw [if_pos rfl,Int.add_zero] at hF
   subst hF
   have xx:((x.cab == x.cab) && (x.bed == x.bed))=true:=by simp
   by_cases hk0:k=0
   ·rw [if_pos (.inl hk0)] at hS
    have d0:decide ((k:Int)=0)=true:=decide_eq_true (by omega)
    repeat' (first|(apply nx;with_reducible constructor)|refine jq (by decide) ?_|((first|refine kz env fun Q hQ=>?_|refine kj fun Q hQ=>?_);simp only [vkt,seval,wY,j6,qh,qd,qy,qB,qR,zK,zJ,ncS,List.length_map,hx,e9,hlk,hM,d0];(try simp only [ite_and]);(repeat' (first|with_reducible assumption|refine And.intro ?_ ?_|intro hp));all_goals (first|(refine hQ _ ?_;clear hQ Q)|(refine hQ _ (fun h=>?_) (fun h=>?_) <;> clear hQ Q <;> (try simp only [vki,reduceCtorEq] at h))|(refine kx ?_;kernel_rfl)|omega|assumption|with_reducible rfl|skip)))
    refine fin _ _ _ hS ?_
    (refine Le.ok some [] ?_;constructor;all_goals (try simp only [vle,vkt,seval,wY,j6,qh,qd,qy,qB,qR,zK,zJ,ncS,List.length_map]))
    all_goals first|rfl|(simp;done)
   ·have d0:decide ((k:Int)=0)=false:=decide_eq_false (by omega)
    by_cases hc:f < n
    ·rw [if_pos (.inr hc)] at hS
     have d1:decide (f < n)=true:=decide_eq_true hc
     repeat' (first|(apply nx;with_reducible constructor)|refine jq (by decide) ?_|((first|refine kz env fun Q hQ=>?_|refine kj fun Q hQ=>?_);simp only [vkt,seval,wY,j6,qh,qd,qy,qB,qR,zK,zJ,ncS,List.length_map,hx,e9,hlk,hM,d0,d1];(try simp only [ite_and]);(repeat' (first|with_reducible assumption|refine And.intro ?_ ?_|intro hp));all_goals (first|(refine hQ _ ?_;clear hQ Q)|(refine hQ _ (fun h=>?_) (fun h=>?_) <;> clear hQ Q <;> (try simp only [vki,reduceCtorEq] at h))|(refine kx ?_;kernel_rfl)|omega|assumption|with_reducible rfl|skip)))
     refine fin _ _ _ hS ?_
     (refine Le.ok some [] ?_;constructor;all_goals (try simp only [vle,vkt,seval,wY,j6,qh,qd,qy,qB,qR,zK,zJ,ncS,List.length_map]))
     all_goals first|rfl|(simp;done)
    ·rw [if_neg (by omega)] at hS
     have d1:decide (f < n)=false:=decide_eq_false hc
     repeat' (first|(apply nx;with_reducible constructor)|refine jq (by decide) ?_|((first|refine kz env fun Q hQ=>?_|refine kj fun Q hQ=>?_);simp only [vkt,seval,wY,j6,qh,qd,qy,qB,qR,zK,zJ,ncS,List.length_map,hx,e9,hlk,hM,d0,d1];(try simp only [ite_and]);(repeat' (first|with_reducible assumption|refine And.intro ?_ ?_|intro hp));all_goals (first|(refine hQ _ ?_;clear hQ Q)|(refine hQ _ (fun h=>?_) (fun h=>?_) <;> clear hQ Q <;> (try simp only [vki,reduceCtorEq] at h))|(refine kx ?_;kernel_rfl)|omega|assumption|with_reducible rfl|skip)))
     refine fin _ _ _ hS ?_
     (refine Le.ok some [] ?_;constructor;all_goals (try simp only [vle,vkt,seval,wY,j6,qh,qd,qy,qB,qR,zK,zJ,ncS,List.length_map]))
     all_goals first|rfl|(simp;done)
  ·rw [if_neg hxb] at hF
   have w1:IntKind.wrap .i64 (v+1)=f:=by rw [wrap64 (by omega) (by omega)];exact hF.symm
   have hne:(decide (x.cab=b.cab) && decide (x.bed=b.bed))=false:=by
    cases x;cases b
    simp at hxb ⊢
    exact hxb
   by_cases hk0:k=0
   ·rw [if_pos (.inl hk0)] at hS
    have d0:decide ((k:Int)=0)=true:=decide_eq_true (by omega)
    repeat' (first|(apply nx;with_reducible constructor)|refine jq (by decide) ?_|((first|refine kz env fun Q hQ=>?_|refine kj fun Q hQ=>?_);simp only [vkt,seval,wY,j6,qh,qd,qy,qB,qR,zK,zJ,ncS,List.length_map,hx,e9,hlk,hM,hne,w1,d0];(try simp only [ite_and]);(repeat' (first|with_reducible assumption|refine And.intro ?_ ?_|intro hp));all_goals (first|(refine hQ _ ?_;clear hQ Q)|(refine hQ _ (fun h=>?_) (fun h=>?_) <;> clear hQ Q <;> (try simp only [vki,reduceCtorEq] at h))|(refine kx ?_;kernel_rfl)|omega|assumption|with_reducible rfl|skip)))
    refine fin _ _ _ hS ?_
    (refine Le.ok some [] ?_;constructor;all_goals (try simp only [vle,vkt,seval,wY,j6,qh,qd,qy,qB,qR,zK,zJ,ncS,List.length_map]))
    all_goals first|rfl|(simp;done)
   ·have d0:decide ((k:Int)=0)=false:=decide_eq_false (by omega)
    by_cases hc:f < n
    ·rw [if_pos (.inr hc)] at hS
     have d1:decide (f < n)=true:=decide_eq_true hc
     repeat' (first|(apply nx;with_reducible constructor)|refine jq (by decide) ?_|((first|refine kz env fun Q hQ=>?_|refine kj fun Q hQ=>?_);simp only [vkt,seval,wY,j6,qh,qd,qy,qB,qR,zK,zJ,ncS,List.length_map,hx,e9,hlk,hM,hne,w1,d0,d1];(try simp only [ite_and]);(repeat' (first|with_reducible assumption|refine And.intro ?_ ?_|intro hp));all_goals (first|(refine hQ _ ?_;clear hQ Q)|(refine hQ _ (fun h=>?_) (fun h=>?_) <;> clear hQ Q <;> (try simp only [vki,reduceCtorEq] at h))|(refine kx ?_;kernel_rfl)|omega|assumption|with_reducible rfl|skip)))
     refine fin _ _ _ hS ?_
     (refine Le.ok some [] ?_;constructor;all_goals (try simp only [vle,vkt,seval,wY,j6,qh,qd,qy,qB,qR,zK,zJ,ncS,List.length_map]))
     all_goals first|rfl|(simp;done)
    ·rw [if_neg (by omega)] at hS
     have d1:decide (f < n)=false:=decide_eq_false hc
     repeat' (first|(apply nx;with_reducible constructor)|refine jq (by decide) ?_|((first|refine kz env fun Q hQ=>?_|refine kj fun Q hQ=>?_);simp only [vkt,seval,wY,j6,qh,qd,qy,qB,qR,zK,zJ,ncS,List.length_map,hx,e9,hlk,hM,hne,w1,d0,d1];(try simp only [ite_and]);(repeat' (first|with_reducible assumption|refine And.intro ?_ ?_|intro hp));all_goals (first|(refine hQ _ ?_;clear hQ Q)|(refine hQ _ (fun h=>?_) (fun h=>?_) <;> clear hQ Q <;> (try simp only [vki,reduceCtorEq] at h))|(refine kx ?_;kernel_rfl)|omega|assumption|with_reducible rfl|skip)))
     refine fin _ _ _ hS ?_
     (refine Le.ok some [] ?_;constructor;all_goals (try simp only [vle,vkt,seval,wY,j6,qh,qd,qy,qB,qR,zK,zJ,ncS,List.length_map]))
     all_goals first|rfl|(simp;done)
 ·have hke:k=l.length:=by omega
  subst hke
  repeat' (first|(apply nx;with_reducible constructor)|refine jq (by decide) ?_|((first|refine kz env fun Q hQ=>?_|refine kj fun Q hQ=>?_);simp only [vkt,seval,wY,j6,qh,qd,qy,qB,qR,zK,zJ,ncS,List.length_map];(try simp only [ite_and]);(repeat' (first|with_reducible assumption|refine And.intro ?_ ?_|intro hp));all_goals (first|(refine hQ _ ?_;clear hQ Q)|(refine hQ _ (fun h=>?_) (fun h=>?_) <;> clear hQ Q <;> (try simp only [vki,reduceCtorEq] at h))|(refine kx ?_;kernel_rfl)|omega|assumption|with_reducible rfl|skip)))
  (simp only [vrt,Tryz.results41,vkt,seval,wY,j6,qh,qd,qy,qB,qR,zK,zJ,ncS,List.length_map];refine Fin.ok some [] ?_ ?_ ?_ ?_ ?_ rfl;all_goals (try simp only [vle,vkt,seval,wY,j6,qh,qd,qy,qB,qR,zK,zJ,ncS,List.length_map]))
  all_goals first|rfl|(simp;done)|(rw [hon];exact ⟨⟨rfl,rfl⟩,rfl⟩)
def xm (S:St):List AV→Option Pk
 |[.v (.int .i64 i),.agg [.v (.int .i64 c),.v (.int .i64 d)],.ptr p 0,.ptr q 0]=>match S.h p,S.h q with
  |some (.cells [.row r]),some (.cells [.mp m])=>match S.h r,S.h m with
   |some (.row _ _ xs),some (.map es)=>some { pre:=xs=(xs.map WR).map qB∧i=(i.toNat:Int)∧NxOk (xs.map WR) es i.toNat,hs:=[p,q,r,m],ar:=[.v (.int .i64 i),.agg [.v (.int .i64 c),.v (.int .i64 d)],.ptr 0 0,.ptr 1 0],L0:=nxL (xs.map WR) es,v:=.tup [qh (yY ((xs.map WR).drop i.toNat) ⟨c,d⟩).1,aI (yY ((xs.map WR).drop i.toNat) ⟨c,d⟩).2],L1:=(nxL (xs.map WR) es).map some }
   |_,_=>none
  |_,_=>none
 |_=>none
theorem Qib:∀ S bs q,xm S bs=some q→q.pre→Fn noB Tryz.prog 41 q.ar (qj (qH 0 q.L0)) q.v (qj (wP 0 q.L1)) 0:=fun S bs q h hp=>by
 unfold xm at h
 split at h
 ·rename_i i c d p q
  split at h
  ·split at h
   ·rename_i m _ _ _ _ _ xs es _ _
    cases h
    obtain ⟨h1,h2,h3⟩:=hp
    have:=QjE _ _ _ ⟨c,d⟩ h3
    rw [aI,← h2] at this
    exact this
   ·cases h
  ·cases h
 ·cases h
theorem eNx1 {A:Frm→Prop}:qC A Tryz.prog 41 (fnQ xm):=Qkx Qib
def Ja (n:Nat):Nat→List Int→Nat→List (List Int)
 |0,l,_=>[l]
 |m+1,l,f=>(List.range (n - f)).flatMap fun k=>Ja n m (l++[((f+k:Nat):Int)]) (f+k+1)
def Zj (sold:List Tk) (p:Int):Nat:=sold.countP fun t=>decide (t.party=p)
def yw (sold:List Tk):List Int:=((List.range sold.length).filter fun i=>decide (Zj sold (sold.getD i default).party=1)).map fun (i:Nat)=>(i:Int)
def QF (sold:List Tk) (n:Nat) (b:Bunk):List Tk:=sold.set n ⟨(sold.getD n default).party,(sold.getD n default).sex,b.cab,b.bed,(sold.getD n default).frm,(sold.getD n default).to,(sold.getD n default).dog⟩
def vQ (cs:List Cabin) (s:Int) (a:Ask):List Int→List Tk→Option (List Tr)
 |[],sold=>if zS ⟨cs,s,sold⟩=0∧plP ⟨cs,s,sold⟩ a ≠ [] then some [] else none
 |n :: r,sold=>(qV cs).findSome? fun b=>if b=(sold.getD n.toNat default).bunk then none else (vQ cs s a r (QF sold n.toNat b)).map (⟨n,b.cab,b.bed⟩ :: ·)
def QX (c:Chart) (l:List Int):List Int:=l.map fun i=>(yw c.sold).getD i.toNat 0
def YK (c:Chart) (a:Ask) (m:Nat):Option (List Tr):=(Ja (yw c.sold).length m [] 0).findSome? fun l=>vQ c.cabins c.secs a (QX c l) c.sold
def QS (c:Chart) (a:Ask):List Tr × Int :=
 if wX c a ≠ 0 then ([],wX c a) else match (List.range 3).findSome? (YK c a) with
 |some t=>(t,0)
 |none=>([],11)
def Qhh:KeyInfo:={ kd:=.one (.int .i64),z:=.v (.int .i64 0),agg:=false }
def Re (es:List (Value × Value)) (p n:Int):Prop:=∃ b,vD Qhh (yF es (.int .i64 p))=(True,.v (.int .i64 n),b)
theorem Qbp {es:List (Value × Value)} {p:Int} (h:yF es (.int .i64 p)=none):Re es p 0:=by
 refine ⟨false, ?_⟩
 rw [h]
 show (_,_,_)=_
 simp [Qhh,AV.ids]
theorem Qb4 {es:List (Value × Value)} {p n:Int} (h:yF es (.int .i64 p)=some (.int .i64 n)):Re es p n:=by
 refine ⟨true, ?_⟩
 rw [h]
 show (_,_,_)=_
 simp [Qhh,XN,Value.oneCell',vAV]
theorem QeA {es:List (Value × Value)} {p q n m:Int} (h:p ≠ q→Re es q m) (h2:p=q→n=m):Re (vN es (.int .i64 p) (.int .i64 n)) q m:=by
 by_cases hpq:p=q
 ·subst hpq
  rw [← h2 rfl]
  exact Qb4 (by rw [Jf,if_pos rfl])
 ·unfold Re
  rw [Jf,if_neg (by simpa using hpq)]
  exact h hpq
structure LnOk (sold:List Tk) (es:List (Value × Value)) (k:Nat):Prop where
 ok:MOK (KD.Q (.one (.int .i64))) es
 look:∀ p,Re es p (Zj (sold.take k) p)
 len:es.length≤k
theorem QjJ (sold:List Tk):LnOk sold [] 0:=⟨MOK.nil _,fun p=>by rw [List.take_zero];exact Qbp rfl,Nat.le_refl _⟩
theorem LG {sold:List Tk} {k:Nat} (h:k < sold.length) (p:Int):Zj (sold.take (k+1)) p=Zj (sold.take k) p+if (sold.getD k default).party=p then 1 else 0:=by
 unfold Zj
 rw [List.take_succ_eq_append_getElem h,List.countP_append]
 rw [show sold.getD k default=sold[k] by simp [List.getD_eq_getElem?_getD,h]]
 simp
theorem LnOk.step {sold:List Tk} {es:List (Value × Value)} {k:Nat} (h:LnOk sold es k) (hk:k < sold.length) {p:Int} (hp:(sold.getD k default).party=p) {n:Nat} (hn:Zj (sold.take k) p=n) :
  LnOk sold (vN es (.int .i64 p) (.int .i64 ((n+1:Nat):Int))) (k+1):=by
 refine ⟨h.ok.set rfl,fun q=>?_, ?_⟩
 ·rw [LG hk,hp]
  refine QeA (fun hne=>?_) fun e=>?_
  ·rw [if_neg hne,Nat.add_zero];exact h.look q
  ·subst e;rw [if_pos rfl,hn]
 ·have:=Z7 (es:=es) (k:=.int .i64 p) (v:=.int .i64 ((n+1:Nat):Int))
  have:=h.len
  omega
theorem Qes (sold:List Tk) (p:Int):Zj sold p≤sold.length:=List.countP_le_length
def lnK (sold:List Tk) (k:Nat):List Int:=((List.range k).filter fun i=>decide (Zj sold (sold.getD i default).party=1)).map fun (i:Nat)=>(i:Int)
theorem Qgo (sold:List Tk) (k:Nat):lnK sold (k+1)=if Zj sold (sold.getD k default).party=1 then lnK sold k++[(k:Int)] else lnK sold k:=by
 unfold lnK
 rw [List.range_succ,List.filter_append,List.map_append]
 split
 ·rename_i h;simp [-List.getD_eq_getElem?_getD,h]
 ·rename_i h;simp [-List.getD_eq_getElem?_getD,h]
theorem Qcy (sold:List Tk) (k:Nat):(lnK sold k).length≤k:=by
 unfold lnK
 rw [List.length_map]
 exact Nat.le_trans (List.length_filter_le _ _) (by simp)
theorem Qh8 (sold:List Tk):lnK sold sold.length=yw sold:=rfl
def lnA (c:Chart) (es:List (Value × Value)) (k:Nat):St:={ t:=asg [(1,.ptr 0 0),(3,.mp 1),(11,qw c.sold),(12,aI c.sold.length),(13,aI k)],h:=qj [(0,.cells (qb c)),(1,.map es)],n:=2 }
def lnB (c:Chart) (es:List (Value × Value)) (k:Nat):St:={ t:=asg [(3,.mp 1),(6,.row 2),(24,qw c.sold),(25,aI c.sold.length),(26,aI k)],h:=qj [(1,.map es),(2,.row 3 1 ((lnK c.sold k).map wz))],n:=3 }
def jL:=kk @ty3 (kk @QV (kk @xg (kk @xB (kk @WE (kk @ty147 (kk @ti3.eq_1 (kk @Qh.eq_1 (kk @y9.eq_1 (kk @vJ.eq_1 (kk @Zr.eq_1 @Qc3.eq_1))))))))))
def xI:=kk @aI.eq_1 (kk @aB.eq_1 (kk @wz.eq_1 (kk @Qaj (@qD.eq_1))))
theorem QhZ (c:Chart) (hc:c.sold.length≤100):FnV Tryz.prog 54 [qa c] (qD (yw c.sold)):=by
 have env:Env (fun _=>True) Tryz.prog tyB (tab []):=qO trivial
 refine Fn.of (A:=fun _=>True) (n0:=0) (D:=noD) (Fn0 Tryz.func54 rfl (fun vs w=>by kernel_rfl) (by kernel_rfl)) (by simp) (by simp [AV.ids,AV.idsL,qa,qb]) (fun i o h=>by cases h) (fun _ _ _ _=>trivial) qG ?_
 have hmx:(100000:Nat)≤maxLen:=by decide
 repeat' (first|(apply nx;with_reducible constructor)|refine jq (by decide) ?_|((first|refine kz env fun Q hQ=>?_|refine kj fun Q hQ=>?_);simp only [vkt,seval,jL,xI,qw,eTk,gTk,qa,qb,lnA,lnB,MapKept.IsKey,List.length_map];(try simp only [ite_and]);(repeat' (first|with_reducible assumption|refine And.intro ?_ ?_|intro hp));all_goals (first|(refine hQ _ ?_;clear hQ Q)|(refine hQ _ (fun h=>?_) (fun h=>?_) <;> clear hQ Q <;> (try simp only [vki,reduceCtorEq] at h))|(refine kx ?_;kernel_rfl)|omega|assumption|with_reducible rfl|skip)))
 refine zt (fun x:{ x:Nat × List (Value × Value) // x.1≤c.sold.length∧LnOk c.sold x.2 x.1 }=>lnA c x.1.2 x.1.1) (fun x=>c.sold.length - x.1.1) ⟨(0,[]),Nat.zero_le _,QjJ _⟩ ?_ fun ⟨(k,es),hk,hL⟩=>?_
 ·(refine Le.ok some [] ?_;constructor;all_goals (try simp only [vle,vkt,seval,jL,xI,qw,eTk,gTk,qa,qb,lnA,lnB,MapKept.IsKey,List.length_map]))
  all_goals first|rfl|(simp;done)
 simp only at hk hL ⊢
 by_cases hkl:k < c.sold.length
 ·have d1:decide ((k:Int) < (c.sold.length:Int))=true:=decide_eq_true (by omega)
  have e9:IntKind.wrap .i64 ((k:Int)+1)=((k+1:Nat):Int):=by rw [wrap64 (by omega) (by omega)];rfl
  obtain ⟨x,hx⟩:∃ x,c.sold.getD k default=x:=⟨_,rfl⟩
  obtain ⟨n,hn⟩:∃ n,Zj (c.sold.take k) x.party=n:=⟨_,rfl⟩
  have hnb:=Qes (c.sold.take k) x.party
  rw [hn,List.length_take] at hnb
  obtain ⟨b,hl⟩:=hL.look x.party
  rw [hn] at hl
  simp only [Qhh] at hl
  have hM:=hL.ok
  have w1:IntKind.wrap .i64 ((n:Int)+1)=((n+1:Nat):Int):=by rw [wrap64 (by omega) (by omega)];rfl
  have hml:(vN es (.int .i64 x.party) (.int .i64 ((n+1:Nat):Int))).length≤maxLen:=by
   have h1:=Z7 (es:=es) (k:=.int .i64 x.party) (v:=.int .i64 ((n+1:Nat):Int))
   have h2:=hL.len
   omega
  repeat' (first|(apply nx;with_reducible constructor)|refine jq (by decide) ?_|((first|refine kz env fun Q hQ=>?_|refine kj fun Q hQ=>?_);simp only [vkt,seval,jL,xI,qw,eTk,gTk,qa,qb,lnA,lnB,MapKept.IsKey,List.length_map,d1,e9,hx,hl,hM,w1,hml];(try simp only [ite_and]);(repeat' (first|with_reducible assumption|refine And.intro ?_ ?_|intro hp));all_goals (first|(refine hQ _ ?_;clear hQ Q)|(refine hQ _ (fun h=>?_) (fun h=>?_) <;> clear hQ Q <;> (try simp only [vki,reduceCtorEq] at h))|(refine kx ?_;kernel_rfl)|omega|assumption|with_reducible rfl|skip)))
  refine ⟨⟨(k+1,vN es (.int .i64 x.party) (.int .i64 ((n+1:Nat):Int))),hkl,hL.step hkl (by rw [hx]) hn⟩,by show c.sold.length - (k+1) < c.sold.length - k;omega, ?_⟩
  (refine Le.ok some [] ?_;constructor;all_goals (try simp only [vle,vkt,seval,jL,xI,qw,eTk,gTk,qa,qb,lnA,lnB,MapKept.IsKey,List.length_map]))
  all_goals first|rfl|(simp;done)
 ·have d1:decide ((k:Int) < (c.sold.length:Int))=false:=decide_eq_false (by omega)
  obtain rfl:k=c.sold.length:=by omega
  repeat' (first|(apply nx;with_reducible constructor)|refine jq (by decide) ?_|((first|refine kz env fun Q hQ=>?_|refine kj fun Q hQ=>?_);simp only [vkt,seval,jL,xI,qw,eTk,gTk,qa,qb,lnA,lnB,MapKept.IsKey,List.length_map,d1];(try simp only [ite_and]);(repeat' (first|with_reducible assumption|refine And.intro ?_ ?_|intro hp));all_goals (first|(refine hQ _ ?_;clear hQ Q)|(refine hQ _ (fun h=>?_) (fun h=>?_) <;> clear hQ Q <;> (try simp only [vki,reduceCtorEq] at h))|(refine kx ?_;kernel_rfl)|omega|assumption|with_reducible rfl|skip)))
  refine zt (fun k:{ k:Nat // k≤c.sold.length }=>lnB c es k.1) (fun k=>c.sold.length - k.1) ⟨0,Nat.zero_le _⟩ ?_ fun ⟨k,hk⟩=>?_
  ·(refine Le.ok (fun i=>if i=2 then none else some i) [] ?_;constructor;all_goals (try simp only [vle,vkt,seval,jL,xI,qw,eTk,gTk,qa,qb,lnA,lnB,MapKept.IsKey,List.length_map]))
   all_goals first|rfl|(simp [lnK];done)|(intro i hi;rw [if_neg (by omega)];done)
  simp only at hk ⊢
  by_cases hkl:k < c.sold.length
  ·have d1:decide ((k:Int) < (c.sold.length:Int))=true:=decide_eq_true (by omega)
   have e9:IntKind.wrap .i64 ((k:Int)+1)=((k+1:Nat):Int):=by rw [wrap64 (by omega) (by omega)];rfl
   obtain ⟨x,hx⟩:∃ x,c.sold.getD k default=x:=⟨_,rfl⟩
   obtain ⟨n,hn⟩:∃ n,Zj c.sold x.party=n:=⟨_,rfl⟩
   obtain ⟨b,hl⟩:=hL.look x.party
   rw [List.take_length,hn] at hl
   simp only [Qhh] at hl
   have hM:=hL.ok
   have hS:=Qgo c.sold k
   have hkn:=Qcy c.sold k
   have hkm:(lnK c.sold k).length+1≤maxLen:=by omega
   rw [hx,hn] at hS
   by_cases h1:n=1
   ·rw [if_pos h1] at hS
    rw [show (n:Int)=1 by omega] at hl
    repeat' (first|(apply nx;with_reducible constructor)|refine jq (by decide) ?_|((first|refine kz env fun Q hQ=>?_|refine kj fun Q hQ=>?_);simp only [vkt,seval,jL,xI,qw,eTk,gTk,qa,qb,lnA,lnB,MapKept.IsKey,List.length_map,d1,e9,hx,hl,hM,hkm,decide_true];(try simp only [ite_and]);(repeat' (first|with_reducible assumption|refine And.intro ?_ ?_|intro hp));all_goals (first|(refine hQ _ ?_;clear hQ Q)|(refine hQ _ (fun h=>?_) (fun h=>?_) <;> clear hQ Q <;> (try simp only [vki,reduceCtorEq] at h))|(refine kx ?_;kernel_rfl)|omega|assumption|with_reducible rfl|skip)))
    refine ⟨⟨k+1,hkl⟩,by show c.sold.length - (k+1) < c.sold.length - k;omega, ?_⟩
    show Le _ (lnB c es (k+1))
    unfold lnB
    rw [hS]
    (refine Le.ok (fun i=>if i=2 then some 5 else some i) [] ?_;constructor;all_goals (try simp only [vle,vkt,seval,jL,xI,qw,eTk,gTk,qa,qb,lnA,lnB,MapKept.IsKey,List.length_map]))
    all_goals first|rfl|(rw [List.map_append];rfl)|(simp;done)|(intro i hi;rw [if_neg (by omega)];done)
   ·rw [if_neg h1] at hS
    have d2:decide ((n:Int)=1)=false:=decide_eq_false (by omega)
    repeat' (first|(apply nx;with_reducible constructor)|refine jq (by decide) ?_|((first|refine kz env fun Q hQ=>?_|refine kj fun Q hQ=>?_);simp only [vkt,seval,jL,xI,qw,eTk,gTk,qa,qb,lnA,lnB,MapKept.IsKey,List.length_map,d1,e9,hx,hl,hM,d2];(try simp only [ite_and]);(repeat' (first|with_reducible assumption|refine And.intro ?_ ?_|intro hp));all_goals (first|(refine hQ _ ?_;clear hQ Q)|(refine hQ _ (fun h=>?_) (fun h=>?_) <;> clear hQ Q <;> (try simp only [vki,reduceCtorEq] at h))|(refine kx ?_;kernel_rfl)|omega|assumption|with_reducible rfl|skip)))
    refine ⟨⟨k+1,hkl⟩,by show c.sold.length - (k+1) < c.sold.length - k;omega, ?_⟩
    show Le _ (lnB c es (k+1))
    unfold lnB
    rw [hS]
    (refine Le.ok some [] ?_;constructor;all_goals (try simp only [vle,vkt,seval,jL,xI,qw,eTk,gTk,qa,qb,lnA,lnB,MapKept.IsKey,List.length_map]))
    all_goals first|rfl|(simp;done)
  ·have d1:decide ((k:Int) < (c.sold.length:Int))=false:=decide_eq_false (by omega)
   obtain rfl:k=c.sold.length:=by omega
   have hall:=Qh8 c.sold
   repeat' (first|(apply nx;with_reducible constructor)|refine jq (by decide) ?_|((first|refine kz env fun Q hQ=>?_|refine kj fun Q hQ=>?_);simp only [vkt,seval,jL,xI,qw,eTk,gTk,qa,qb,lnA,lnB,MapKept.IsKey,List.length_map,d1,hall];(try simp only [ite_and]);(repeat' (first|with_reducible assumption|refine And.intro ?_ ?_|intro hp));all_goals (first|(refine hQ _ ?_;clear hQ Q)|(refine hQ _ (fun h=>?_) (fun h=>?_) <;> clear hQ Q <;> (try simp only [vki,reduceCtorEq] at h))|(refine kx ?_;kernel_rfl)|omega|assumption|with_reducible rfl|skip)))
   simp only [vrt,Tryz.results54,vkt,seval,jL,xI,qw,eTk,gTk,qa,qb,lnA,lnB,MapKept.IsKey,List.length_map]
   show Fin _ _ _ 0 (qj []) 0
   refine Fin.ok some [2] ?_ ?_ ?_ ?_ ?_ rfl
   all_goals (try simp only [vle,vkt,seval,jL,xI,qw,eTk,gTk,qa,qb,lnA,lnB,MapKept.IsKey,List.length_map])
   all_goals first|rfl|(simp;done)
def ZW:List AV→Prop × AV
 |[.agg [.sl c0,.v (.int .i64 c1),.sl c2]]=>(c0=(c0.map qA).map qo∧c2=(c2.map dTk).map eTk∧((⟨(c0.map qA),c1,(c2.map dTk)⟩:Chart)).sold.length≤100,qD (yw ((⟨(c0.map qA),c1,(c2.map dTk)⟩:Chart)).sold))
 |_=>(False,.junk)
theorem elone {A:Frm→Prop}:qC A Tryz.prog 54 (za false ZW):=zx fun vs hv h=>by
 clear hv
 unfold ZW at h ⊢
 split at h
 ·rename_i c0 c1 c2;obtain ⟨q0,q1,k0⟩:=h
  refine ⟨by first|trivial|(simp [AV.plain,AV.plainL,aI,aB,qD,qd,qw,qh,aTk,cTk];done)|(repeat' split) <;> simp [AV.plain,AV.plainL,aI,aB,qD,qd,qw,qh,aTk,cTk],fun h=>absurd h (by decide), ?_⟩
  have:=QhZ ((⟨(c0.map qA),c1,(c2.map dTk)⟩:Chart)) k0
  simp only [zb,qa,aI,qw,qb,← q0,← q1] at this
  first|exact this|(simp only [zb,qa,aI,qw,qb,← q0,← q1];exact this)
 ·exact h.elim
theorem LC (sold:List Tk) (n:Nat) (b:Bunk) {x:Tk} (hx:sold.getD n default=x):(QF sold n b).map eTk=(sold.map eTk).set n [.v (.int .i64 x.party),.v (.int .i64 x.sex),.v (.int .i64 b.cab),.v (.int .i64 b.bed),.v (.int .i64 x.frm),.v (.int .i64 x.to),.v (.bool x.dog)]:=by
 unfold QF
 rw [hx,List.map_set]
 rfl
theorem XL (sold:List Tk) (n:Nat) (b:Bunk):(QF sold n b).length=sold.length:=by simp [QF]
theorem Qgs (sold:List Tk) (n:Nat) (b d:Bunk) (h:n < sold.length):QF (QF sold n b) n d=QF sold n d:=by
 unfold QF
 rw [show (sold.set n ⟨(sold.getD n default).party,(sold.getD n default).sex,b.cab,b.bed,(sold.getD n default).frm,(sold.getD n default).to,(sold.getD n default).dog⟩).getD n default=⟨(sold.getD n default).party,(sold.getD n default).sex,b.cab,b.bed,(sold.getD n default).frm,(sold.getD n default).to,(sold.getD n default).dog⟩ by simp [List.getD_eq_getElem?_getD,h]]
 simp
theorem QdP (sold:List Tk) (n:Nat) (h:n < sold.length):QF sold n (sold.getD n default).bunk=sold:=by
 unfold QF Tk.bunk
 rw [show (⟨(sold.getD n default).party,(sold.getD n default).sex,(sold.getD n default).cab,(sold.getD n default).bed,(sold.getD n default).frm,(sold.getD n default).to,(sold.getD n default).dog⟩:Tk)=sold[n] by simp [List.getD_eq_getElem?_getD,h]]
 exact List.set_getElem_self h
def s1L (cs:List Cabin) (s:Int) (sold:List Tk) (was:Bunk) (n:Nat):List AObj:=[qg cs s 1,qf sold,.cells [.ptr 0 0],.cells [.v (.int .i64 was.cab),.v (.int .i64 was.bed)],.cells [aI n]]
def Wu:=kk @ty3 (kk @QV (kk @xg (kk @QU (kk @xB (kk @Wl (kk @Vw (kk @ti3.eq_1 (kk @Qh.eq_1 (kk @y9.eq_1 (kk @Qi.eq_1 (kk @vJ.eq_1 (kk @Zt.eq_1 @JU.eq_1))))))))))))
def UU:=kk @aI.eq_1 (@aB.eq_1)
theorem Qd1 (cs:List Cabin) (s:Int) (sold:List Tk) (was:Bunk) (n:Nat) (hn:n < sold.length):FnD Tryz.prog 78 [.ptr 3 0,.ptr 2 0,.ptr 4 0] (qj (qH 0 (s1L cs s sold was n))) (.tup []) (qj (wP 0 ((s1L cs s (QF sold n was) was n).map some))):=by
 have env:Env (fun F=>F.r=none) Tryz.prog tyB (tab []):=qO trivial
 refine FnD.of (n0:=5) (Fn0 Tryz.func78 rfl (fun vs w=>by kernel_rfl) (by kernel_rfl)) (by simp) (by simp [AV.ids,AV.idsL]) ?_ ?_
 ·intro i o hi
  have h:=qQ hi
  simp [qH,s1L] at h
  rcases h with ⟨rfl,rfl⟩|⟨rfl,rfl⟩|⟨rfl,rfl⟩|⟨rfl,rfl⟩|⟨rfl,rfl⟩ <;> simp [AObj.ids,AV.ids,AV.idsL,qg,qf,aI]
 obtain ⟨x,hx⟩:∃ x,sold.getD n default=x:=⟨_,rfl⟩
 have hp:=LC sold n was hx
 have hg:=hTk hn
 rw [hx] at hg
 have i0:((n:Int)).toNat=n:=rfl
 show Sym _ _ _ (zR [.ptr 3 0,.ptr 2 0,.ptr 4 0] 5 (qj [(0,qg cs s 1),(1,qf sold),(2,.cells [.ptr 0 0]),(3,.cells [.v (.int .i64 was.cab),.v (.int .i64 was.bed)]),(4,.cells [aI n])])) (Qf0 tyB Tryz.f78 fun S rv=>Fin S rv _ 5 (qj [(0,qg cs s 1),(1,.row 31 7 ((QF sold n was).map eTk)),(2,.cells [.ptr 0 0]),(3,.cells [.v (.int .i64 was.cab),.v (.int .i64 was.bed)]),(4,.cells [aI n])]) 0)
 rw [hp]
 repeat' (first|(apply nx;with_reducible constructor)|refine jq (by decide) ?_|((first|refine kz env fun Q hQ=>?_|refine kj fun Q hQ=>?_);simp only [vkt,seval,Wu,UU,eTk,qg,qf,s1L,List.length_map,hg,i0,hn];(try simp only [ite_and]);(repeat' (first|with_reducible assumption|refine And.intro ?_ ?_|intro hp));all_goals (first|(refine hQ _ ?_;clear hQ Q)|(refine hQ _ (fun h=>?_) (fun h=>?_) <;> clear hQ Q <;> (try simp only [vki,reduceCtorEq] at h))|(refine kx ?_;kernel_rfl)|omega|assumption|with_reducible rfl|skip)))
 simp only [Qf0.eq_1]
 refine ⟨trivial, ?_⟩
 (simp only [vrt,Tryz.results78,vkt,seval,Wu,UU,eTk,qg,qf,s1L,List.length_map];refine Fin.ok some [] ?_ ?_ ?_ ?_ ?_ rfl;all_goals (try simp only [vle,vkt,seval,Wu,UU,eTk,qg,qf,s1L,List.length_map]))
 all_goals first|rfl|(simp;done)
def jD (S:St):List AV→Option Pk
 |[.ptr w 0,.ptr q 0,.ptr m 0]=>match S.h w,S.h q,S.h m with
  |some (.cells [.v (.int .i64 a),.v (.int .i64 b)]),some (.cells [.ptr c 0]),some (.cells [.v (.int .i64 n)])=>match S.h c with
   |some (.cells [.sl cs,.v (.int .i64 s),.row r])=>match S.h r with
    |some (.row _ _ xs)=>some { pre:=cs=(cs.map qA).map qo∧xs=(xs.map dTk).map eTk∧n=(n.toNat:Int)∧n.toNat < (xs.map dTk).length,hs:=[c,r,q,w,m],ar:=[.ptr 3 0,.ptr 2 0,.ptr 4 0],L0:=s1L (cs.map qA) s (xs.map dTk) ⟨a,b⟩ n.toNat,v:=.tup [],L1:=(s1L (cs.map qA) s (QF (xs.map dTk) n.toNat ⟨a,b⟩) ⟨a,b⟩ n.toNat).map some }
    |_=>none
   |_=>none
  |_,_,_=>none
 |_=>none
theorem QiD {A:Frm→Prop}:ZI.OK A Tryz.prog (dfE 78 jD):=Qhb fun S bs q h hp=>by
 unfold jD at h
 split at h
 ·split at h
  ·split at h
   ·split at h
    ·cases h
     obtain ⟨h1,h2,h3,h4⟩:=hp
     exact Qd1 _ _ _ _ _ h4
    ·cases h
   ·cases h
  ·cases h
 ·cases h
theorem Qc9 (f:Bunk→Option (List Tr)):∀ l:List Bunk,∃ R,R≤l.length∧(∀ j,j+1 < R→f (l.getD j default)=none)∧(R < l.length→0 < R∧f (l.getD (R - 1) default) ≠ none)∧l.findSome? f=if R=0 then none else f (l.getD (R - 1) default)
 |[]=>⟨0,Nat.le_refl _,fun _ h=>absurd h (Nat.not_lt_zero _),fun h=>absurd h (Nat.lt_irrefl _),rfl⟩
 |b :: l=>by
  cases hb:f b with
  |some t =>
   refine ⟨1,by simp,fun j h=>by omega,fun _=>⟨by omega, ?_⟩, ?_⟩
   ·show f b ≠ none
    rw [hb];simp
   ·rw [List.findSome?_cons,hb,if_neg (by omega)]
    exact hb.symm
  |none =>
   obtain ⟨R,h1,h2,h3,h4⟩:=Qc9 f l
   refine ⟨R+1,by simpa using h1,fun j hj=>?_,fun hlt=>?_, ?_⟩
   ·cases j with
    |zero=>exact hb
    |succ j=>exact h2 j (by omega)
   ·obtain ⟨g1,g2⟩:=h3 (by simpa using hlt)
    refine ⟨by omega, ?_⟩
    rw [show R+1 - 1=(R - 1)+1 by omega]
    exact g2
   ·rw [List.findSome?_cons,hb,if_neg (by omega)]
    simp only
    rw [h4]
    by_cases hR:R=0
    ·subst hR;rw [if_pos rfl];exact hb.symm
    ·rw [if_neg hR,show R+1 - 1=(R - 1)+1 by omega];rfl
def shF (cs:List Cabin) (s:Int) (a:Ask) (r:List Int) (sold:List Tk) (k:Nat) (b:Bunk):Option (List Tr):=if b=(sold.getD k default).bunk then none else (vQ cs s a r (QF sold k b)).map (⟨(k:Int),b.cab,b.bed⟩ :: ·)
theorem Qao (cs:List Cabin) (s:Int) (a:Ask) (r:List Int) (sold:List Tk) (k:Nat):vQ cs s a ((k:Int) :: r) sold=(qV cs).findSome? (shF cs s a r sold k):=rfl
def JM (cs:List Cabin) (sold:List Tk) (k:Nat):Nat→List Tk
 |0=>sold
 |j+1=>if (qV cs).getD j default=(sold.getD k default).bunk then JM cs sold k j else QF sold k ((qV cs).getD j default)
theorem Kr (cs:List Cabin) (sold:List Tk) (k:Nat) (h:k < sold.length):∀ j,(JM cs sold k j).length=sold.length∧∀ d,QF (JM cs sold k j) k d=QF sold k d
 |0=>⟨rfl,fun _=>rfl⟩
 |j+1=>by
  rw [JM]
  split
  ·exact Kr cs sold k h j
  ·exact ⟨XL _ _ _,fun d=>Qgs _ _ _ _ h⟩
structure ShOk (cs:List Cabin) (s:Int) (a:Ask) (sold:List Tk) (ts:List Int):Prop where
 cabs:1≤cs.length∧cs.length≤3
 beds:∀ x ∈ cs,1≤x.beds∧x.beds≤3
 many:sold.length≤8
 sx:a.sexes.length≤3
 lenT:ts.length≤3
 ts:∀ n ∈ ts,0≤n∧n.toNat < sold.length
theorem ShOk.tail {cs:List Cabin} {s:Int} {a:Ask} {sold:List Tk} {n:Int} {r:List Int} (h:ShOk cs s a sold (n :: r)) (m:Nat) (b:Bunk):ShOk cs s a (QF sold m b) r:=by
 refine ⟨h.cabs,h.beds,by rw [XL];exact h.many,h.sx,by have:=h.lenT;simp at this;omega,fun n hn=>?_⟩
 rw [XL]
 exact h.ts n (List.mem_cons_of_mem _ hn)
theorem XT {cs:List Cabin} {s:Int} {a:Ask}:∀ {ts:List Int} {sold:List Tk} {l:List Tr},vQ cs s a ts sold=some l→l.length=ts.length
 |[],sold,l,h=>by
  unfold vQ at h
  split at h
  ·cases h;rfl
  ·cases h
 |n :: r,sold,l,h=>by
  unfold vQ at h
  obtain ⟨b,hb⟩:∃ b,(if b=(sold.getD n.toNat default).bunk then none else (vQ cs s a r (QF sold n.toNat b)).map (⟨n,b.cab,b.bed⟩ :: ·))=some l:=by
   obtain ⟨b,_,hb⟩:=List.exists_of_findSome?_eq_some h
   exact ⟨b,hb⟩
  split at hb
  ·cases hb
  ·obtain ⟨l',hl',rfl⟩:=Option.map_eq_some_iff.1 hb
   rw [List.length_cons,XT hl',List.length_cons]
def Qe4 (cs:List Cabin) (s:Int) (a:Ask) (m:Nat):Prop:=∀ (sold:List Tk) (ts:List Int),ts.length=m→ShOk cs s a sold ts →
 Fn noB Tryz.prog 56 [.ptr 0 0,qD ts,qx a] (qj (qH 0 (qm cs s sold))) (.tup [qY ((vQ cs s a ts sold).getD []),aB (vQ cs s a ts sold).isSome]) (qj (wP 0 ((qm cs s sold).map some))) 0
def s0L0:List (Nat × AV):=[(6,.ptr 5 0),(7,.ptr 6 0),(24,.clo 67 [.ptr 7 0,.ptr 8 0])]
def s0L:List (Nat × AV):=[(6,.ptr 5 0),(7,.ptr 6 0)]
def s0H (k:Nat):List (Nat × AObj):=[(5,.cells [.nil]),(6,.cells [aB (decide (0 < k))])]
theorem Xt (c:Chart) (a:Ask):zf [0,1,7,8] 10 0 (plL c a)=[(0,qg c.cabins c.secs 1),(1,qf c.sold),(7,.cells [.ptr 0 0]),(8,.cells (ql a))]:=by
 simp [zf,plL,qz,AObj.ren,AV.renL,AV.ren,qg,qf,ql]
theorem RV (c:Chart) (a:Ask) (j:Nat):zf [0] 10 0 (plH c a j)=[(0,qg c.cabins c.secs 10),(10,qf ((plP c a).getD j default).2)]:=by
 simp [zf,plH,qm,qz,AObj.ren,AV.renL,AV.ren,qg,qf]
def jr:=kk @ty3 (kk @ty4 (kk @QV (kk @xg (kk @QU (kk @xB (kk @Zu (kk @WE (kk @Q0 (kk @Qd8 (kk @Qel (kk @Wl (kk @Vw (kk @ti3.eq_1 (kk @ti4.eq_1 (kk @Qh.eq_1 (kk @y9.eq_1 (kk @Qi.eq_1 (kk @vJ.eq_1 (kk @QP.eq_1 (kk @Zr.eq_1 (kk @Ql.eq_1 (kk @UX.eq_1 (kk @UL.eq_1 (kk @Zt.eq_1 @JU.eq_1))))))))))))))))))))))))
def xK:=kk @aI.eq_1 (kk @aB.eq_1 (kk @qD.eq_1 (@QJ)))
set_option maxHeartbeats 2000000 in
theorem QaW (cs:List Cabin) (s:Int) (a:Ask):Qe4 cs s a 0:=by
 intro sold ts ht ok
 obtain rfl:=List.eq_nil_of_length_eq_zero ht
 have env:Env (fun F=>F.r=none) Tryz.prog tyB (tab [(7,za true qp),(37,fnE qF)]):=qO ⟨Zk,Yp,trivial⟩
 refine Fn.of (A:=fun F=>F.r=none) (n0:=2) (D:=noD) (Fn0 Tryz.func56 rfl (fun vs w=>by kernel_rfl) (by kernel_rfl)) (by simp) (by simp [AV.ids,AV.idsL,qD,qx,ql]) xc (fun _ _ _ h=>h) qG ?_
 obtain ⟨c,hc⟩:∃ c:Chart,(⟨cs,s,sold⟩:Chart)=c:=⟨_,rfl⟩
 have e1:cs=c.cabins:=by rw [← hc]
 have e2:s=c.secs:=by rw [← hc]
 have e3:sold=c.sold:=by rw [← hc]
 have hcm:c.cabins.length≤maxLen:=by
  have h1:=ok.cabs
  have h2:(3:Nat)≤maxLen:=by decide
  rw [← e1];omega
 show Sym _ _ _ (zR [.ptr 0 0,qD [],qx a] 2 (qj [(0,qg cs s 1),(1,qf sold)])) (vo tyB noD Tryz.f56 fun S rv=>Fin S rv (.tup [qY ((if zS ⟨cs,s,sold⟩=0∧plP ⟨cs,s,sold⟩ a ≠ [] then some [] else none:Option (List Tr)).getD []),aB (if zS ⟨cs,s,sold⟩=0∧plP ⟨cs,s,sold⟩ a ≠ [] then some [] else none:Option (List Tr)).isSome]) 2 (qj [(0,qg cs s 1),(1,qf sold)]) 0)
 rw [e1,e2,e3] at hc ⊢
 rw [hc]
 by_cases h0:zS c=0
 ·have hpo:PlOk c a:=⟨Qo h0,ok.sx⟩
  repeat' (first|(apply nx;with_reducible constructor)|refine jq (by decide) ?_|refine zk ?_|refine zF ?_|refine zD ?_|refine zC ?_|((first|refine kz env fun Q hQ=>?_|refine kj fun Q hQ=>?_);simp only [vkt,seval,jr,xK,qY,qx,ql,qc,mTk,qg,qf,qm,plL,s0L,s0H,qp,qF,List.length_map,List.map_nil,nth,hwL,Nat.zero_add,Nat.sub_zero,hc,h0,decide_true];(try simp only [ite_and]);(repeat' (first|with_reducible assumption|refine And.intro ?_ ?_|intro hp));all_goals (first|(refine hQ _ ?_;clear hQ Q)|(refine hQ _ (fun h=>?_) (fun h=>?_) <;> clear hQ Q <;> (try simp only [vki,reduceCtorEq] at h))|(refine kx ?_;kernel_rfl)|omega|assumption|with_reducible rfl|skip)))
  refine vM (S':={ t:=asg s0L0,h:=qj (s0H 0++[(0,qg c.cabins c.secs 1),(1,qf c.sold),(7,.cells [.ptr 0 0]),(8,.cells (ql a))]),n:=9,j:=0,d:=[],m:=2 }) ?_ ?_
  ·show Le _ { t:=asg [(6,.ptr 5 0),(7,.ptr 6 0),(24,.clo 67 [.ptr 7 0,.ptr 8 0])],h:=qj [(5,.cells [.nil]),(6,.cells [aB false]),(0,qg c.cabins c.secs 1),(1,qf c.sold),(7,.cells [.ptr 0 0]),(8,.cells (ql a))],n:=9,j:=0,d:=[],m:=2 }
   (refine Le.ok some [] ?_;constructor;all_goals (try simp only [vle,vkt,seval,jr,xK,qY,qx,ql,qc,mTk,qg,qf,qm,plL,s0L,s0H,qp,qF,List.length_map,List.map_nil,nth,hwL,Nat.zero_add,Nat.sub_zero]))
   all_goals first|rfl|(simp [ql,AV.leL,AV.le,AV.idsL,AV.ids];done)
  rw [← Xt c a]
  obtain ⟨N,hN⟩:∃ N,(plP c a).length=N:=⟨_,rfl⟩
  obtain ⟨R,hR⟩:∃ R,(if N=0 then 0 else 1)=R:=⟨_,rfl⟩
  have hRo:Rounds (fun _=>false) R N:=by
   by_cases hN0:N=0
   ·rw [if_pos hN0] at hR
    exact ⟨by omega,fun j hj=>by omega,fun h=>by omega⟩
   ·rw [if_neg hN0] at hR
    exact ⟨by omega,fun j hj=>by omega,fun h=>⟨by omega,rfl⟩⟩
  have hR1:∀ j,j < R→j=0∧R=1:=fun j hj=>by
   by_cases hN0:N=0
   ·rw [if_pos hN0] at hR;omega
   ·rw [if_neg hN0] at hR;omega
  refine yQ (fun F h=>h) 1 (L:=s0L0) (L':=s0L) (xs:=[1,7,8]) (hs:=[0,1,7,8]) (n:=9) (nl:=1) (hc:=s0H) (Lp:=plL c a) (jj:=fun _=>0) (d:=[]) (ys:=plY c a) (hl:=plH c a) (ans:=fun _=>false) (ex:=.ret) (caps:=[.ptr 7 0,.ptr 8 0]) (caps0:=[.ptr 2 0,.ptr 3 0]) (N:=(plP c a).length) (R:=R) (A':=fun _ _=>True) rfl (JA hpo) (by rw [hN];exact hRo) (.inl rfl) ?_ ?_ ?_ rfl (by simp) ?_ (by simp) (fun _ _ _ _ _ _=>trivial) ?_ ?_ ?_ ?_ ?_ ?_ (fun j hj=>?_) ?_ (fun j hj=>?_) (fun hall=>?_) (fun hpos _=>?_)
  ·simp [AV.leL,AV.le]
  ·simp [AV.nocbL,AV.nocb]
  ·simp [Z5,plL,qg,qf,ql,AObj.nocb,AV.nocbL,AV.nocb,AObj.ids,AV.ids,AV.idsL,AObj.ren,AV.renL,AV.ren,AObj.le,AV.leL,AV.le,qz]
  ·simp [s0H,qj]
  ·simp [s0H,qj]
  ·simp [s0H,AObj.ids,AV.ids,AV.idsL,aB]
  ·simp [X5,s0L,s0L0,asg,upd]
  ·simp [LV]
  ·intro j hj
   simp [absent,s0H,RV]
  ·simp [JG,s0L,AV.ids]
  ·refine ⟨?_,rfl, ?_, ?_,rfl, ?_⟩
   ·simp [Qg,s0H,AObj.ids,AV.ids,AV.idsL,aB]
   ·simp [ZG,plH,qm,qg,qf,AObj.nocb,AV.nocbL,AV.nocb,AObj.ids,AV.ids,AV.idsL]
   ·simp [YI,plY,qd,AV.nocb,AV.ids]
   ·simp [Qf,ZP,RV,s0H,s0L,xQ,AV.ids,ADf.ids,List.range_succ]
  ·simp [Qg,s0H,AObj.ids,AV.ids,AV.idsL,aB]
  ·obtain ⟨rfl,hR1⟩:=hR1 j hj
   have env:Env (fun _:Frm=>True) Tryz.prog tyB (tab []):=qO trivial
   obtain ⟨x,hx⟩:∃ x,((plP c a).getD 0 default).1=x:=⟨_,rfl⟩
   obtain ⟨r,hr⟩:∃ r,((plP c a).getD 0 default).2=r:=⟨_,rfl⟩
   have hst:jf s0L [25] [0] 9 1 (plY c a 0) (s0H 0) (plH c a 0)={ t:=asg [(25,qd x),(6,.ptr 5 0),(7,.ptr 6 0)],h:=qj [(9,.mark),(5,.cells [.nil]),(6,.cells [aB false]),(0,qg c.cabins c.secs 10),(10,qf r)],n:=11,m:=11 }:=by
    simp only [jf,Nat.reduceAdd,RV,plY,hx,hr,qd,List.map_cons,List.map_nil,AV.ren,List.zip_cons_cons,List.zip_nil_right,s0H,s0L,QY,List.cons_append,List.nil_append]
    rfl
   show Sym _ _ _ (jf s0L [25] [0] 9 1 (plY c a 0) (s0H 0) (plH c a 0)) _
   rw [hst]
   repeat' (first|(apply nx;with_reducible constructor)|refine jq (by decide) ?_|refine zk ?_|refine zF ?_|refine zD ?_|refine zC ?_|((first|refine kz env fun Q hQ=>?_|refine kj fun Q hQ=>?_);simp only [vkt,seval,jr,xK,qY,qx,ql,qc,mTk,qg,qf,qm,plL,s0L,s0H,qp,qF,List.length_map,List.map_nil,nth,hwL,Nat.zero_add,Nat.sub_zero];(try simp only [ite_and]);(repeat' (first|with_reducible assumption|refine And.intro ?_ ?_|intro hp));all_goals (first|(refine hQ _ ?_;clear hQ Q)|(refine hQ _ (fun h=>?_) (fun h=>?_) <;> clear hQ Q <;> (try simp only [vki,reduceCtorEq] at h))|(refine kx ?_;kernel_rfl)|omega|assumption|with_reducible rfl|skip)))
   refine ⟨rfl,rfl,some,_,RFin.okQ some [] ?_⟩
   constructor
   all_goals (try simp only [vle,xn,vW,qz,plH,hr,vkt,seval,jr,xK,qY,qx,ql,qc,mTk,qg,qf,qm,plL,s0L,s0H,qp,qF,List.length_map,List.map_nil,nth,hwL,Nat.zero_add,Nat.sub_zero])
   all_goals first|rfl|(simp;done)
  ·have hR0:R=0:=by
    by_cases h:R=0
    ·exact h
    ·exact absurd (hall 0 (by omega)) (by simp)
   have hN0:N=0:=by
    by_cases h:N=0
    ·exact h
    ·rw [if_neg h] at hR;omega
   have hpe:plP c a=[]:=List.eq_nil_of_length_eq_zero (by rw [hN];exact hN0)
   have eh:qj ((9,AObj.mark) :: s0H R++zf [0,1,7,8] (9+1) 0 (plL c a))=qj [(9,.mark),(5,.cells [.nil]),(6,.cells [aB false]),(0,qg c.cabins c.secs 1),(1,qf c.sold),(7,.cells [.ptr 0 0]),(8,.cells (ql a))]:=by
    rw [show zf [0,1,7,8] (9+1) 0 (plL c a)=zf [0,1,7,8] 10 0 (plL c a) from rfl,Xt,hR0];rfl
   rw [eh,if_neg (by simp [hpe])]
   repeat' (first|(apply nx;with_reducible constructor)|refine jq (by decide) ?_|refine zk ?_|refine zF ?_|refine zD ?_|refine zC ?_|((first|refine kz env fun Q hQ=>?_|refine kj fun Q hQ=>?_);simp only [vkt,seval,jr,xK,qY,qx,ql,qc,mTk,qg,qf,qm,plL,s0L,s0H,qp,qF,List.length_map,List.map_nil,nth,hwL,Nat.zero_add,Nat.sub_zero];(try simp only [ite_and]);(repeat' (first|with_reducible assumption|refine And.intro ?_ ?_|intro hp));all_goals (first|(refine hQ _ ?_;clear hQ Q)|(refine hQ _ (fun h=>?_) (fun h=>?_) <;> clear hQ Q <;> (try simp only [vki,reduceCtorEq] at h))|(refine kx ?_;kernel_rfl)|omega|assumption|with_reducible rfl|skip)))
   (simp only [vrt,Tryz.results56,vkt,seval,jr,xK,qY,qx,ql,qc,mTk,qg,qf,qm,plL,s0L,s0H,qp,qF,List.length_map,List.map_nil,nth,hwL,Nat.zero_add,Nat.sub_zero];refine Fin.ok some [] ?_ ?_ ?_ ?_ ?_ rfl;all_goals (try simp only [vle,vkt,seval,jr,xK,qY,qx,ql,qc,mTk,qg,qf,qm,plL,s0L,s0H,qp,qF,List.length_map,List.map_nil,nth,hwL,Nat.zero_add,Nat.sub_zero]))
   all_goals first|rfl|(simp [ql,AV.leL,AV.le];done)|exact fun i hi=>(match i,hi with|0,_=>rfl|1,_=>rfl)
  ·have hRe:=(hR1 0 hpos).2
   have hN0:¬ N=0:=fun h=>by rw [if_pos h] at hR;omega
   have hpe:plP c a ≠ []:=fun h=>by rw [h] at hN;exact hN0 hN.symm
   have eh:qj ((9,AObj.mark) :: s0H R++zf [0,1,7,8] (9+1) 0 (plL c a))=qj [(9,.mark),(5,.cells [.nil]),(6,.cells [aB true]),(0,qg c.cabins c.secs 1),(1,qf c.sold),(7,.cells [.ptr 0 0]),(8,.cells (ql a))]:=by
    rw [show zf [0,1,7,8] (9+1) 0 (plL c a)=zf [0,1,7,8] 10 0 (plL c a) from rfl,Xt,hRe];rfl
   rw [eh,if_pos ⟨h0,hpe⟩]
   repeat' (first|(apply nx;with_reducible constructor)|refine jq (by decide) ?_|refine zk ?_|refine zF ?_|refine zD ?_|refine zC ?_|((first|refine kz env fun Q hQ=>?_|refine kj fun Q hQ=>?_);simp only [vkt,seval,jr,xK,qY,qx,ql,qc,mTk,qg,qf,qm,plL,s0L,s0H,qp,qF,List.length_map,List.map_nil,nth,hwL,Nat.zero_add,Nat.sub_zero];(try simp only [ite_and]);(repeat' (first|with_reducible assumption|refine And.intro ?_ ?_|intro hp));all_goals (first|(refine hQ _ ?_;clear hQ Q)|(refine hQ _ (fun h=>?_) (fun h=>?_) <;> clear hQ Q <;> (try simp only [vki,reduceCtorEq] at h))|(refine kx ?_;kernel_rfl)|omega|assumption|with_reducible rfl|skip)))
   (simp only [vrt,Tryz.results56,vkt,seval,jr,xK,qY,qx,ql,qc,mTk,qg,qf,qm,plL,s0L,s0H,qp,qF,List.length_map,List.map_nil,nth,hwL,Nat.zero_add,Nat.sub_zero];refine Fin.ok some [] ?_ ?_ ?_ ?_ ?_ rfl;all_goals (try simp only [vle,vkt,seval,jr,xK,qY,qx,ql,qc,mTk,qg,qf,qm,plL,s0L,s0H,qp,qF,List.length_map,List.map_nil,nth,hwL,Nat.zero_add,Nat.sub_zero]))
   all_goals first|rfl|(simp [ql,AV.leL,AV.le];done)|exact fun i hi=>(match i,hi with|0,_=>rfl|1,_=>rfl)
 ·rw [if_neg (fun h=>h0 h.1)]
  repeat' (first|(apply nx;with_reducible constructor)|refine jq (by decide) ?_|refine zk ?_|refine zF ?_|refine zD ?_|refine zC ?_|((first|refine kz env fun Q hQ=>?_|refine kj fun Q hQ=>?_);simp only [vkt,seval,jr,xK,qY,qx,ql,qc,mTk,qg,qf,qm,plL,s0L,s0H,qp,qF,List.length_map,List.map_nil,nth,hwL,Nat.zero_add,Nat.sub_zero,hc,h0,decide_true];(try simp only [ite_and]);(repeat' (first|with_reducible assumption|refine And.intro ?_ ?_|intro hp));all_goals (first|(refine hQ _ ?_;clear hQ Q)|(refine hQ _ (fun h=>?_) (fun h=>?_) <;> clear hQ Q <;> (try simp only [vki,reduceCtorEq] at h))|(refine kx ?_;kernel_rfl)|omega|assumption|with_reducible rfl|skip)))
  (simp only [vrt,Tryz.results56,vkt,seval,jr,xK,qY,qx,ql,qc,mTk,qg,qf,qm,plL,s0L,s0H,qp,qF,List.length_map,List.map_nil,nth,hwL,Nat.zero_add,Nat.sub_zero];refine Fin.ok some [] ?_ ?_ ?_ ?_ ?_ rfl;all_goals (try simp only [vle,vkt,seval,jr,xK,qY,qx,ql,qc,mTk,qg,qf,qm,plL,s0L,s0H,qp,qF,List.length_map,List.map_nil,nth,hwL,Nat.zero_add,Nat.sub_zero]))
  all_goals first|rfl|(simp [ql,AV.leL,AV.le];done)
def yx (cs:List Cabin) (s:Int) (a:Ask) (m:Nat) (S:St):List AV→Option Pk
 |[.ptr p 0,.sl ts,.agg aa]=>match S.h p with
  |some (.cells [.sl cc,.v (.int .i64 s'),.row r])=>match S.h r with
   |some (.row _ _ xs)=>some { pre:=cc=cs.map qo∧s'=s∧aa=ql a∧ts=(ts.map zQ).map wz∧xs=(xs.map dTk).map eTk∧(ts.map zQ).length=m∧ShOk cs s a (xs.map dTk) (ts.map zQ),hs:=[p,r],ar:=[.ptr 0 0,.sl ts,.agg aa],L0:=qm cs s (xs.map dTk),v:=.tup [qY ((vQ cs s a (ts.map zQ) (xs.map dTk)).getD []),aB (vQ cs s a (ts.map zQ) (xs.map dTk)).isSome],L1:=(qm cs s (xs.map dTk)).map some }
   |_=>none
  |_=>none
 |_=>none
theorem QjF {A:Frm→Prop} {cs:List Cabin} {s:Int} {a:Ask} {m:Nat} (ih:Qe4 cs s a m):qC A Tryz.prog 56 (fnE (yx cs s a m)):=wK fun S bs q h hp=>by
 unfold yx at h
 split at h
 ·split at h
  ·split at h
   ·cases h
    obtain ⟨_,_,h3,h4,_,h6,h7⟩:=hp
    have:=ih _ _ h6 h7
    rw [qD,← h4,qx,← h3] at this
    exact this
   ·cases h
  ·cases h
 ·cases h
def shT:List (Nat × AV):=[(3,.ptr 2 0),(4,.ptr 3 0),(5,.ptr 4 0),(6,.ptr 5 0),(7,.ptr 6 0),(8,.ptr 7 0),(9,.ptr 8 0)]
def shT0:List (Nat × AV):=shT++[(43,.clo 66 [.ptr 9 0])]
def JO (cs:List Cabin) (s:Int) (a:Ask) (r:List Int) (sold:List Tk) (k j:Nat):Option (List Tr):=if j=0 then none else shF cs s a r sold k ((qV cs).getD (j - 1) default)
def shH (cs:List Cabin) (s:Int) (a:Ask) (ts:List Int) (k:Nat) (was:Bunk) (T:List Tk) (o:Option (List Tr)):List (Nat × AObj):=[(0,qg cs s 1),(1,qf T),(2,.cells [.ptr 0 0]),(3,.cells [.sl (ts.map wz)]),(4,.cells (ql a)),(5,.cells [.sl ((o.getD []).map eTr)]),(6,.cells [aB o.isSome]),(7,.cells [aI k]),(8,.cells [.v (.int .i64 was.cab),.v (.int .i64 was.bed)])]
theorem VK (cs:List Cabin) (s:Int):zf [9] 11 0 [buO cs s]=[(9,buO cs s)]:=by
 simp [zf,qz,buO,AObj.ren,AV.renL,AV.ren]
def zT:=kk @ty3 (kk @ty4 (kk @QV (kk @xg (kk @QU (kk @xB (kk @Zu (kk @WE (kk @Q0 (kk @Qd8 (kk @Qel (kk @Wl (kk @Vw (kk @ti3.eq_1 (kk @ti4.eq_1 (kk @Qh.eq_1 (kk @y9.eq_1 (kk @Qi.eq_1 (kk @vJ.eq_1 (kk @QP.eq_1 (kk @Zr.eq_1 (kk @Ql.eq_1 (kk @UX.eq_1 (kk @UL.eq_1 (kk @Zt.eq_1 @JU.eq_1))))))))))))))))))))))))
def jR:=kk @aI.eq_1 (kk @aB.eq_1 (kk @qD.eq_1 (kk @QJ (kk @Qaj (@wz.eq_1)))))
set_option maxHeartbeats 8000000 in
theorem Qb1 (cs:List Cabin) (s:Int) (a:Ask) (m:Nat) (ih:Qe4 cs s a m):Qe4 cs s a (m+1):=by
 intro sold ts ht ok
 have env:Env (fun F=>F.r=none) Tryz.prog tyB (tab [(32,fnE qK)]):=qO ⟨VF,trivial⟩
 refine Fn.of (A:=fun F=>F.r=none) (n0:=2) (D:=dfE 78 jD) (Fn0 Tryz.func56 rfl (fun vs w=>by kernel_rfl) (by kernel_rfl)) (by simp) (by simp [AV.ids,AV.idsL,qD,qx,ql]) xc (fun _ _ _ h=>h) QiD ?_
 obtain ⟨n,r,rfl⟩:∃ n r,ts=n :: r:=by
  cases ts with
  |nil=>simp at ht
  |cons n r=>exact ⟨n,r,rfl⟩
 obtain ⟨hn0,hnl⟩:=ok.ts n List.mem_cons_self
 obtain ⟨k,rfl⟩:∃ k:Nat,n=k:=⟨n.toNat,by omega⟩
 have hnl:k < sold.length:=hnl
 have hrl:r.length=m:=by simpa using ht
 rw [Qao]
 obtain ⟨ts,hts⟩:∃ ts,(k:Int) :: r=ts:=⟨_,rfl⟩
 have hl1:ts.length=m+1:=by rw [← hts];exact ht
 have hg0:(ts.map wz).getD 0 [.v (.int .i64 0)]=[.v (.int .i64 (k:Int))]:=by rw [← hts];rfl
 have hdr:List.drop 1 (List.take (m+1) (ts.map wz))=r.map wz:=by
  rw [List.take_of_length_le (by rw [List.length_map,hl1];exact Nat.le_refl _),← hts];rfl
 rw [hts]
 obtain ⟨x,hx⟩:∃ x,sold.getD k default=x:=⟨_,rfl⟩
 have hg:=hTk hnl
 rw [hx] at hg
 have i0:((k:Int)).toNat=k:=rfl
 have d0:decide ((((m+1:Nat)):Int)=0)=false:=decide_eq_false (by omega)
 obtain ⟨w,hw⟩:∃ w:Bunk,x.bunk=w:=⟨_,rfl⟩
 have hwc:x.cab=w.cab:=by rw [← hw];rfl
 have hwb:x.bed=w.bed:=by rw [← hw];rfl
 have hsw:(sold.getD k default).bunk=w:=by rw [hx];exact hw
 have hfb:∀ b,shF cs s a r sold k b=if b=w then none else (vQ cs s a r (QF sold k b)).map (⟨(k:Int),b.cab,b.bed⟩ :: ·):=fun b=>by unfold shF;rw [hsw]
 have hcS:∀ j,JM cs sold k (j+1)=if (qV cs).getD j default=w then JM cs sold k j else QF sold k ((qV cs).getD j default):=fun j=>by rw [JM,hsw]
 have hcs:=Kr cs sold k hnl
 have hself:QF sold k w=sold:=by rw [← hsw];exact QdP _ _ hnl
 obtain ⟨f,hf⟩:∃ f,shF cs s a r sold k=f:=⟨_,rfl⟩
 obtain ⟨R,hR1,hR2,hR3,hR4⟩:=Qc9 f (qV cs)
 have hRo:Rounds (fun j=>(f ((qV cs).getD j default)).isNone) R (qV cs).length:=⟨hR1,fun j hj=>by show Option.isNone _=true;rw [hR2 j hj];rfl,fun h=>⟨(hR3 h).1,by
  have:=(hR3 h).2
  show Option.isNone _=false
  cases hq:f ((qV cs).getD (R - 1) default) with
  |none=>exact absurd hq this
  |some _=>rfl⟩⟩
 have hout:∀ j,JO cs s a r sold k (j+1)=f ((qV cs).getD j default):=fun j=>by unfold JO;rw [if_neg (by omega),hf];rfl
 have houtN:∀ j,j < R→JO cs s a r sold k j=none:=fun j hj=>by
  cases j with
  |zero=>rfl
  |succ j=>rw [hout];exact hR2 j hj
 have hres:(qV cs).findSome? f=JO cs s a r sold k R:=by
  rw [hR4]
  unfold JO
  rw [hf]
 have hcab:CabsOk cs:=⟨by have:=ok.cabs;omega,fun y hy=>by have:=ok.beds y hy;omega⟩
 have hm7:=ok.lenT
 rw [hts,hl1] at hm7
 have h1m:(1:Int)≤((m+1:Nat):Int):=by omega
 have hmx:(100:Nat)≤maxLen:=by decide
 rw [hf,hres]
 show Sym _ _ _ (zR [.ptr 0 0,qD ts,qx a] 2 (qj [(0,qg cs s 1),(1,qf sold)])) (vo tyB _ Tryz.f56 fun S rv=>Fin S rv _ 2 (qj [(0,qg cs s 1),(1,qf sold)]) 0)
 repeat' (first|(apply nx;with_reducible constructor)|refine jq (by decide) ?_|refine zk ?_|refine zF ?_|refine zD ?_|refine zC ?_)
 ((first|refine kz env fun Q hQ=>?_|refine kj fun Q hQ=>?_);simp only [vkt,seval,zT,jR,qh,qY,eTr,eTk,qx,ql,qc,mTk,qg,qf,qm,buO,shT,shH,qK,yx,jD,s1L,dfE,rTr,List.length_map,nth,hwL,Nat.zero_add,Nat.sub_zero];(try simp only [ite_and]);(repeat' (first|with_reducible assumption|refine And.intro ?_ ?_|intro hp));all_goals (first|(refine hQ _ ?_;clear hQ Q)|(refine hQ _ (fun h=>?_) (fun h=>?_) <;> clear hQ Q <;> (try simp only [vki,reduceCtorEq] at h))|(refine kx ?_;kernel_rfl)|omega|assumption|with_reducible rfl|skip))
 repeat' (first|(apply nx;with_reducible constructor)|refine jq (by decide) ?_|refine zk ?_|refine zF ?_|refine zD ?_|refine zC ?_)
 ((first|refine kz env fun Q hQ=>?_|refine kj fun Q hQ=>?_);simp only [vkt,seval,zT,jR,qh,qY,eTr,eTk,qx,ql,qc,mTk,qg,qf,qm,buO,shT,shH,qK,yx,jD,s1L,dfE,rTr,List.length_map,nth,hwL,Nat.zero_add,Nat.sub_zero,hl1,d0];(try simp only [ite_and]);(repeat' (first|with_reducible assumption|refine And.intro ?_ ?_|intro hp));all_goals (first|(refine hQ _ ?_;clear hQ Q)|(refine hQ _ (fun h=>?_) (fun h=>?_) <;> clear hQ Q <;> (try simp only [vki,reduceCtorEq] at h))|(refine kx ?_;kernel_rfl)|omega|assumption|with_reducible rfl|skip))
 repeat' (first|(apply nx;with_reducible constructor)|refine jq (by decide) ?_|refine zk ?_|refine zF ?_|refine zD ?_|refine zC ?_)
 ((first|refine kz env fun Q hQ=>?_|refine kj fun Q hQ=>?_);simp only [vkt,seval,zT,jR,qh,qY,eTr,eTk,qx,ql,qc,mTk,qg,qf,qm,buO,shT,shH,qK,yx,jD,s1L,dfE,rTr,List.length_map,nth,hwL,Nat.zero_add,Nat.sub_zero];(try simp only [ite_and]);(repeat' (first|with_reducible assumption|refine And.intro ?_ ?_|intro hp));all_goals (first|(refine hQ _ ?_;clear hQ Q)|(refine hQ _ (fun h=>?_) (fun h=>?_) <;> clear hQ Q <;> (try simp only [vki,reduceCtorEq] at h))|(refine kx ?_;kernel_rfl)|omega|assumption|with_reducible rfl|skip))
 repeat' (first|(apply nx;with_reducible constructor)|refine jq (by decide) ?_|refine zk ?_|refine zF ?_|refine zD ?_|refine zC ?_)
 ((first|refine kz env fun Q hQ=>?_|refine kj fun Q hQ=>?_);simp only [vkt,seval,zT,jR,qh,qY,eTr,eTk,qx,ql,qc,mTk,qg,qf,qm,buO,shT,shH,qK,yx,jD,s1L,dfE,rTr,List.length_map,nth,hwL,Nat.zero_add,Nat.sub_zero,hg0];(try simp only [ite_and]);(repeat' (first|with_reducible assumption|refine And.intro ?_ ?_|intro hp));all_goals (first|(refine hQ _ ?_;clear hQ Q)|(refine hQ _ (fun h=>?_) (fun h=>?_) <;> clear hQ Q <;> (try simp only [vki,reduceCtorEq] at h))|(refine kx ?_;kernel_rfl)|omega|assumption|with_reducible rfl|skip))
 repeat' (first|(apply nx;with_reducible constructor)|refine jq (by decide) ?_|refine zk ?_|refine zF ?_|refine zD ?_|refine zC ?_)
 ((first|refine kz env fun Q hQ=>?_|refine kj fun Q hQ=>?_);simp only [vkt,seval,zT,jR,qh,qY,eTr,eTk,qx,ql,qc,mTk,qg,qf,qm,buO,shT,shH,qK,yx,jD,s1L,dfE,rTr,List.length_map,nth,hwL,Nat.zero_add,Nat.sub_zero,hg,i0,hnl];(try simp only [ite_and]);(repeat' (first|with_reducible assumption|refine And.intro ?_ ?_|intro hp));all_goals (first|(refine hQ _ ?_;clear hQ Q)|(refine hQ _ (fun h=>?_) (fun h=>?_) <;> clear hQ Q <;> (try simp only [vki,reduceCtorEq] at h))|(refine kx ?_;kernel_rfl)|omega|assumption|with_reducible rfl|skip))
 repeat' (first|(apply nx;with_reducible constructor)|refine jq (by decide) ?_|refine zk ?_|refine zF ?_|refine zD ?_|refine zC ?_)
 refine LQ (fun F h=>h) env rfl rfl rfl fun Q hQ=>?_
 simp only [List.dropLast]
 simp only [vkt,seval,zT,jR,qh,qY,eTr,eTk,qx,ql,qc,mTk,qg,qf,qm,buO,shT,shH,qK,yx,jD,s1L,dfE,rTr,List.length_map,nth,hwL,Nat.zero_add,Nat.sub_zero]
 refine hQ _ _ _ (by simp only [vkt,seval,zT,jR,qh,qY,eTr,eTk,qx,ql,qc,mTk,qg,qf,qm,buO,shT,shH,qK,yx,jD,s1L,dfE,rTr,List.length_map,nth,hwL,Nat.zero_add,Nat.sub_zero];rfl) ?_
 clear hQ Q
 dsimp only [put]
 repeat' (first|(apply nx;with_reducible constructor)|refine jq (by decide) ?_|refine zk ?_|refine zF ?_|refine zD ?_|refine zC ?_|((first|refine kz env fun Q hQ=>?_|refine kj fun Q hQ=>?_);simp only [vkt,seval,zT,jR,qh,qY,eTr,eTk,qx,ql,qc,mTk,qg,qf,qm,buO,shT,shH,qK,yx,jD,s1L,dfE,rTr,List.length_map,nth,hwL,Nat.zero_add,Nat.sub_zero];(try simp only [ite_and]);(repeat' (first|with_reducible assumption|refine And.intro ?_ ?_|intro hp));all_goals (first|(refine hQ _ ?_;clear hQ Q)|(refine hQ _ (fun h=>?_) (fun h=>?_) <;> clear hQ Q <;> (try simp only [vki,reduceCtorEq] at h))|(refine kx ?_;kernel_rfl)|omega|assumption|with_reducible rfl|skip)))
 refine vM (S':={ t:=asg shT0,h:=qj (shH cs s a ts k w (JM cs sold k 0) (JO cs s a r sold k 0)++[(9,buO cs s)]),n:=10,j:=0,d:=[.call 78 [.ptr 8 0,.ptr 2 0,.ptr 7 0]],m:=2 }) ?_ ?_
 ·show Le _ { t:=asg [(3,.ptr 2 0),(4,.ptr 3 0),(5,.ptr 4 0),(6,.ptr 5 0),(7,.ptr 6 0),(8,.ptr 7 0),(9,.ptr 8 0),(43,.clo 66 [.ptr 9 0])],h:=qj [(0,qg cs s 1),(1,qf sold),(2,.cells [.ptr 0 0]),(3,.cells [.sl (ts.map wz)]),(4,.cells (ql a)),(5,.cells [.sl []]),(6,.cells [aB false]),(7,.cells [aI k]),(8,.cells [.v (.int .i64 w.cab),.v (.int .i64 w.bed)]),(9,buO cs s)],n:=10,j:=0,d:=[.call 78 [.ptr 8 0,.ptr 2 0,.ptr 7 0]],m:=2 }
  rw [← hwc,← hwb]
  (refine Le.ok some [] ?_;constructor;all_goals (try simp only [vle,vkt,seval,zT,jR,qh,qY,eTr,eTk,qx,ql,qc,mTk,qg,qf,qm,buO,shT,shH,qK,yx,jD,s1L,dfE,rTr,List.length_map,nth,hwL,Nat.zero_add,Nat.sub_zero]))
  all_goals first|rfl|(simp [ADf.le,ADf.ids,AV.leL,AV.le,AV.idsL,AV.ids];done)
 rw [← VK cs s]
 refine yQ (fun F h=>h) 1 (L:=shT0) (L':=shT) (xs:=[]) (hs:=[9]) (n:=10) (nl:=0) (hc:=fun j=>shH cs s a ts k w (JM cs sold k j) (JO cs s a r sold k j)) (Lp:=[buO cs s]) (jj:=fun _=>0) (d:=[.call 78 [.ptr 8 0,.ptr 2 0,.ptr 7 0]]) (ys:=buY cs) (hl:=fun _=>[buO cs s]) (ans:=fun j=>(f ((qV cs).getD j default)).isNone) (ex:=.ret) (caps:=[.ptr 9 0]) (caps0:=[.ptr 0 0]) (N:=(qV cs).length) (R:=R) (A':=fun _ _=>True) rfl (Yj cs s hcab) hRo (.inl rfl) ?_ ?_ ?_ rfl (by simp) ?_ (by simp) (fun _ _ _ _ _ _=>trivial) ?_ ?_ ?_ ?_ ?_ ?_ (fun j hj=>?_) ?_ (fun j hj=>?_) (fun hall=>?_) (fun hpos hlast=>?_)
 ·simp [AV.leL,AV.le]
 ·simp [AV.nocbL,AV.nocb]
 ·simp [Z5,buO,AObj.nocb,AV.nocbL,AV.nocb,AObj.ids,AV.ids,AV.idsL,AObj.ren,AV.renL,AV.ren,AObj.le,AV.leL,AV.le,yD]
 ·simp [shH,qj]
 ·simp [shH,qj]
 ·exact fun _ _ _ _ h=>h
 ·simp [X5,shT,shT0,asg,upd]
 ·simp [LV]
 ·intro j hj
  simp [absent]
 ·simp [JG,shT,AV.ids]
 ·refine ⟨?_,rfl, ?_, ?_,rfl, ?_⟩
  ·simp [Qg,shH,AObj.ids,AV.ids,AV.idsL,qg,qf,ql,aB,aI]
  ·simp [ZG,buO,AObj.nocb,AV.nocbL,AV.nocb,AObj.ids,AV.ids,AV.idsL]
  ·simp [YI,buY,qh,AV.nocb,AV.nocbL,AV.ids,AV.idsL]
  ·simp [Qf,ZP,zf,qz,shH,shT,xQ,AV.ids,AV.idsL,ADf.ids,List.range_succ]
 ·simp [Qg,shH,AObj.ids,AV.ids,AV.idsL,qg,qf,ql,aB,aI]
 ·have env:Env (fun _:Frm=>True) Tryz.prog tyB (tab [(56,fnE (yx cs s a m))]):=qO ⟨QjF ih,trivial⟩
  obtain ⟨b,hb⟩:∃ b,(qV cs).getD j default=b:=⟨_,rfl⟩
  obtain ⟨T,hT⟩:∃ T,JM cs sold k j=T:=⟨_,rfl⟩
  have hTs:=hcs j
  rw [hT] at hTs
  have hcS:=hcS j
  rw [hb,hT] at hcS
  have hoS:=hout j
  rw [hb] at hoS
  have hfb:=hfb b
  rw [hf] at hfb
  have hst:jf shT [44] [9] 10 0 (buY cs j) (shH cs s a ts k w (JM cs sold k j) (JO cs s a r sold k j)) [buO cs s]={ t:=asg [(44,qh b),(3,.ptr 2 0),(4,.ptr 3 0),(5,.ptr 4 0),(6,.ptr 5 0),(7,.ptr 6 0),(8,.ptr 7 0),(9,.ptr 8 0)],h:=qj [(10,.mark),(0,qg cs s 1),(1,qf T),(2,.cells [.ptr 0 0]),(3,.cells [.sl (ts.map wz)]),(4,.cells (ql a)),(5,.cells [.sl []]),(6,.cells [aB false]),(7,.cells [aI k]),(8,.cells [.v (.int .i64 w.cab),.v (.int .i64 w.bed)]),(9,buO cs s)],n:=11,m:=11 }:=by
   simp only [jf,Nat.reduceAdd,buY,hb,hT,houtN j hj,VK,qh,List.map_cons,List.map_nil,AV.ren,AV.renL,List.zip_cons_cons,List.zip_nil_right,shH,shT,QY,List.cons_append,List.nil_append]
   rfl
  show Sym _ _ _ (jf shT [44] [9] 10 0 (buY cs j) (shH cs s a ts k w (JM cs sold k j) (JO cs s a r sold k j)) [buO cs s]) _
  rw [hst]
  by_cases hbw:b=w
  ·rw [if_pos hbw] at hcS hfb
   have hba:(f ((qV cs).getD j default)).isNone=true:=by rw [hb,hfb];rfl
   rw [hfb] at hoS
   rw [hbw]
   repeat' (first|(apply nx;with_reducible constructor)|refine jq (by decide) ?_|refine zk ?_|refine zF ?_|refine zD ?_|refine zC ?_|((first|refine kz env fun Q hQ=>?_|refine kj fun Q hQ=>?_);simp only [vkt,seval,zT,jR,qh,qY,eTr,eTk,qx,ql,qc,mTk,qg,qf,qm,buO,shT,shH,qK,yx,jD,s1L,dfE,rTr,List.length_map,nth,hwL,Nat.zero_add,Nat.sub_zero,decide_true];(try simp only [ite_and]);(repeat' (first|with_reducible assumption|refine And.intro ?_ ?_|intro hp));all_goals (first|(refine hQ _ ?_;clear hQ Q)|(refine hQ _ (fun h=>?_) (fun h=>?_) <;> clear hQ Q <;> (try simp only [vki,reduceCtorEq] at h))|(refine kx ?_;kernel_rfl)|omega|assumption|with_reducible rfl|skip)))
   refine ⟨by simp only [hba];rfl,rfl,some,_,RFin.okQ some [] ?_⟩
   constructor
   all_goals (try simp only [vle,xn,vW,qz,hcS,hoS,Option.getD_none,Option.isSome_none,Option.getD_some,Option.isSome_some,vkt,seval,zT,jR,qh,qY,eTr,eTk,qx,ql,qc,mTk,qg,qf,qm,buO,shT,shH,qK,yx,jD,s1L,dfE,rTr,List.length_map,nth,hwL,Nat.zero_add,Nat.sub_zero])
   all_goals first|rfl|(simp;done)|(simp [ql,AV.leL,AV.le];done)
  ·rw [if_neg hbw] at hcS hfb
   have hne:(decide (b.cab=w.cab) && decide (b.bed=w.bed))=false:=by
    cases b;cases w
    simp at hbw ⊢
    exact hbw
   obtain ⟨y,hy⟩:∃ y,T.getD k default=y:=⟨_,rfl⟩
   have hkT:k < T.length:=by rw [hTs.1];exact hnl
   have hgT:=hTk hkT
   rw [hy] at hgT
   have hset:=LC T k b hy
   rw [hTs.2] at hset
   obtain ⟨U,hU⟩:∃ U,QF sold k b=U:=⟨_,rfl⟩
   have hok:ShOk cs s a U r:=by
    have h:=ok.tail k b
    rwa [hU] at h
   rw [hU] at hset hcS hfb
   have hset:=hset.symm
   cases hsh:vQ cs s a r U with
   |none =>
    rw [hsh,Option.map_none] at hfb
    have hba:(f ((qV cs).getD j default)).isNone=true:=by rw [hb,hfb];rfl
    rw [hfb] at hoS
    repeat' (first|(apply nx;with_reducible constructor)|refine jq (by decide) ?_|refine zk ?_|refine zF ?_|refine zD ?_|refine zC ?_|((first|refine kz env fun Q hQ=>?_|refine kj fun Q hQ=>?_);simp only [vkt,seval,zT,jR,qh,qY,eTr,eTk,qx,ql,qc,mTk,qg,qf,qm,buO,shT,shH,qK,yx,jD,s1L,dfE,rTr,List.length_map,nth,hwL,Nat.zero_add,Nat.sub_zero,hne,hgT,i0,hkT,hset,hl1,hdr,h1m,hrl,hok,hsh,Option.getD_none,Option.isSome_none];(try simp only [ite_and]);(repeat' (first|with_reducible assumption|refine And.intro ?_ ?_|intro hp));all_goals (first|(refine hQ _ ?_;clear hQ Q)|(refine hQ _ (fun h=>?_) (fun h=>?_) <;> clear hQ Q <;> (try simp only [vki,reduceCtorEq] at h))|(refine kx ?_;kernel_rfl)|omega|assumption|with_reducible rfl|skip)))
    refine ⟨by simp only [hba];rfl,rfl,some,_,RFin.okQ some [] ?_⟩
    constructor
    all_goals (try simp only [vle,xn,vW,qz,hcS,hoS,Option.getD_none,Option.isSome_none,Option.getD_some,Option.isSome_some,vkt,seval,zT,jR,qh,qY,eTr,eTk,qx,ql,qc,mTk,qg,qf,qm,buO,shT,shH,qK,yx,jD,s1L,dfE,rTr,List.length_map,nth,hwL,Nat.zero_add,Nat.sub_zero])
    all_goals first|rfl|(simp;done)|(simp [ql,AV.leL,AV.le];done)
   |some l =>
    have hll:=XT hsh
    rw [hrl] at hll
    have hl2:1+l.length≤maxLen:=by omega
    rw [hsh,Option.map_some] at hfb
    have hba:(f ((qV cs).getD j default)).isNone=false:=by rw [hb,hfb];rfl
    rw [hfb] at hoS
    repeat' (first|(apply nx;with_reducible constructor)|refine jq (by decide) ?_|refine zk ?_|refine zF ?_|refine zD ?_|refine zC ?_|((first|refine kz env fun Q hQ=>?_|refine kj fun Q hQ=>?_);simp only [vkt,seval,zT,jR,qh,qY,eTr,eTk,qx,ql,qc,mTk,qg,qf,qm,buO,shT,shH,qK,yx,jD,s1L,dfE,rTr,List.length_map,nth,hwL,Nat.zero_add,Nat.sub_zero,hne,hgT,i0,hkT,hset,hl1,hdr,h1m,hrl,hok,hsh,Option.getD_some,Option.isSome_some,hl2];(try simp only [ite_and]);(repeat' (first|with_reducible assumption|refine And.intro ?_ ?_|intro hp));all_goals (first|(refine hQ _ ?_;clear hQ Q)|(refine hQ _ (fun h=>?_) (fun h=>?_) <;> clear hQ Q <;> (try simp only [vki,reduceCtorEq] at h))|(refine kx ?_;kernel_rfl)|omega|assumption|with_reducible rfl|skip)))
    refine ⟨by simp only [hba];rfl,rfl,some,_,RFin.okQ some [13] ?_⟩
    constructor
    all_goals (try simp only [vle,xn,vW,qz,hcS,hoS,Option.getD_none,Option.isSome_none,Option.getD_some,Option.isSome_some,vkt,seval,zT,jR,qh,qY,eTr,eTk,qx,ql,qc,mTk,qg,qf,qm,buO,shT,shH,qK,yx,jD,s1L,dfE,rTr,List.length_map,nth,hwL,Nat.zero_add,Nat.sub_zero])
    all_goals first|rfl|(simp;done)|(simp [ql,AV.leL,AV.le];done)
 ·have hoR:JO cs s a r sold k R=none:=by
   by_cases hR0:R=0
   ·unfold JO;rw [if_pos hR0]
   ·have h1:=hall (R - 1) (by omega)
    unfold JO
    rw [if_neg hR0,hf]
    simpa using h1
  obtain ⟨T,hT⟩:∃ T,JM cs sold k R=T:=⟨_,rfl⟩
  have hTs:=hcs R
  rw [hT] at hTs
  have hkT:k < T.length:=by rw [hTs.1];exact hnl
  have hput:QF T k ⟨w.cab,w.bed⟩=sold:=by rw [hTs.2];exact hself
  have eh:qj ((10,AObj.mark) :: shH cs s a ts k w (JM cs sold k R) (JO cs s a r sold k R)++zf [9] (10+1) 0 [buO cs s])=qj [(10,.mark),(0,qg cs s 1),(1,qf T),(2,.cells [.ptr 0 0]),(3,.cells [.sl (ts.map wz)]),(4,.cells (ql a)),(5,.cells [.sl []]),(6,.cells [aB false]),(7,.cells [aI k]),(8,.cells [.v (.int .i64 w.cab),.v (.int .i64 w.bed)]),(9,buO cs s)]:=by
   rw [show zf [9] (10+1) 0 [buO cs s]=zf [9] 11 0 [buO cs s] from rfl,VK,hT,hoR];rfl
  rw [eh,hoR]
  repeat' (first|(apply nx;with_reducible constructor)|refine jq (by decide) ?_|refine zk ?_|refine zF ?_|refine zD ?_|refine zC ?_|((first|refine kz env fun Q hQ=>?_|refine kj fun Q hQ=>?_);simp only [vkt,seval,zT,jR,qh,qY,eTr,eTk,qx,ql,qc,mTk,qg,qf,qm,buO,shT,shH,qK,yx,jD,s1L,dfE,rTr,List.length_map,nth,hwL,Nat.zero_add,Nat.sub_zero];(try simp only [ite_and]);(repeat' (first|with_reducible assumption|refine And.intro ?_ ?_|intro hp));all_goals (first|(refine hQ _ ?_;clear hQ Q)|(refine hQ _ (fun h=>?_) (fun h=>?_) <;> clear hQ Q <;> (try simp only [vki,reduceCtorEq] at h))|(refine kx ?_;kernel_rfl)|omega|assumption|with_reducible rfl|skip)))
  simp only [vrt,Tryz.results56,Qb.eq_2,Qb.eq_3,vkt,seval,zT,jR,qh,qY,eTr,eTk,qx,ql,qc,mTk,qg,qf,qm,buO,shT,shH,qK,yx,jD,s1L,dfE,rTr,List.length_map,nth,hwL,Nat.zero_add,Nat.sub_zero,i0,hput,hkT]
  refine Fin.ok some [] ?_ ?_ ?_ ?_ ?_ rfl
  all_goals (try simp only [vle,Option.getD_none,Option.isSome_none,Option.getD_some,Option.isSome_some,vkt,seval,zT,jR,qh,qY,eTr,eTk,qx,ql,qc,mTk,qg,qf,qm,buO,shT,shH,qK,yx,jD,s1L,dfE,rTr,List.length_map,nth,hwL,Nat.zero_add,Nat.sub_zero])
  all_goals first|rfl|(simp;done)|exact fun i hi=>(match i,hi with|0,_=>rfl|1,_=>rfl)
 ·obtain ⟨l,hoR⟩:∃ l,JO cs s a r sold k R=some l:=by
   unfold JO
   rw [if_neg (by omega),hf]
   cases hq:f ((qV cs).getD (R - 1) default) with
   |none=>rw [hq] at hlast;exact absurd hlast (by simp)
   |some l=>exact ⟨l,rfl⟩
  obtain ⟨T,hT⟩:∃ T,JM cs sold k R=T:=⟨_,rfl⟩
  have hTs:=hcs R
  rw [hT] at hTs
  have hkT:k < T.length:=by rw [hTs.1];exact hnl
  have hput:QF T k ⟨w.cab,w.bed⟩=sold:=by rw [hTs.2];exact hself
  have eh:qj ((10,AObj.mark) :: shH cs s a ts k w (JM cs sold k R) (JO cs s a r sold k R)++zf [9] (10+1) 0 [buO cs s])=qj [(10,.mark),(0,qg cs s 1),(1,qf T),(2,.cells [.ptr 0 0]),(3,.cells [.sl (ts.map wz)]),(4,.cells (ql a)),(5,.cells [.sl (l.map eTr)]),(6,.cells [aB true]),(7,.cells [aI k]),(8,.cells [.v (.int .i64 w.cab),.v (.int .i64 w.bed)]),(9,buO cs s)]:=by
   rw [show zf [9] (10+1) 0 [buO cs s]=zf [9] 11 0 [buO cs s] from rfl,VK,hT,hoR];rfl
  rw [eh,hoR]
  repeat' (first|(apply nx;with_reducible constructor)|refine jq (by decide) ?_|refine zk ?_|refine zF ?_|refine zD ?_|refine zC ?_)
  simp only [vrt,Tryz.results56,Qb.eq_2,Qb.eq_3,vkt,seval,zT,jR,qh,qY,eTr,eTk,qx,ql,qc,mTk,qg,qf,qm,buO,shT,shH,qK,yx,jD,s1L,dfE,rTr,List.length_map,nth,hwL,Nat.zero_add,Nat.sub_zero,i0,hput,hkT]
  refine Fin.ok some [] ?_ ?_ ?_ ?_ ?_ rfl
  all_goals (try simp only [vle,Option.getD_none,Option.isSome_none,Option.getD_some,Option.isSome_some,vkt,seval,zT,jR,qh,qY,eTr,eTk,qx,ql,qc,mTk,qg,qf,qm,buO,shT,shH,qK,yx,jD,s1L,dfE,rTr,List.length_map,nth,hwL,Nat.zero_add,Nat.sub_zero])
  all_goals first|rfl|(simp;done)|exact fun i hi=>(match i,hi with|0,_=>rfl|1,_=>rfl)
theorem Rk (cs:List Cabin) (s:Int) (a:Ask):∀ m,Qe4 cs s a m
 |0=>QaW cs s a
 |m+1=>Qb1 cs s a m (Rk cs s a m)
def xO (cs:List Cabin) (s:Int) (a:Ask) (m:Nat) (S:St):List AV→Option Pk
 |[.ptr p 0,.row q,.agg aa]=>match S.h p,S.h q with
  |some (.cells [.sl cc,.v (.int .i64 s'),.row r]),some (.row _ _ ts)=>match S.h r with
   |some (.row _ _ xs)=>some { pre:=cc=cs.map qo∧s'=s∧aa=ql a∧ts=(ts.map zQ).map wz∧xs=(xs.map dTk).map eTk∧(ts.map zQ).length=m∧ShOk cs s a (xs.map dTk) (ts.map zQ),hs:=[p,r],bo:=[q],ar:=[.ptr 0 0,.sl ts,.agg aa],L0:=qm cs s (xs.map dTk),v:=.tup [qY ((vQ cs s a (ts.map zQ) (xs.map dTk)).getD []),aB (vQ cs s a (ts.map zQ) (xs.map dTk)).isSome],L1:=(qm cs s (xs.map dTk)).map some }
   |_=>none
  |_,_=>none
 |_=>none
theorem QiG {A:Frm→Prop} {cs:List Cabin} {s:Int} {a:Ask} {m:Nat}:qC A Tryz.prog 56 (fnE (xO cs s a m)):=wK fun S bs q h hp=>by
 unfold xO at h
 split at h
 ·split at h
  ·split at h
   ·cases h
    obtain ⟨_,_,h3,h4,_,h6,h7⟩:=hp
    have:=Rk cs s a m _ _ h6 h7
    rw [qD,← h4,qx,← h3] at this
    exact this
   ·cases h
  ·cases h
 ·cases h
def mvW (c:Chart) (a:Ask) (l:List Int):Option (List Tr):=vQ c.cabins c.secs a (QX c l) c.sold
def mvL (c:Chart) (a:Ask) (out:List Tr):List AObj:=[qg c.cabins c.secs 1,qf c.sold,.cells [.ptr 0 0],.cells [.sl ((yw c.sold).map wz)],.cells (ql a),.cells [.sl (out.map eTr)]]
structure MvOk (c:Chart) (a:Ask) (l:List Int):Prop where
 val:Val c
 sx:a.sexes.length≤3
 len:l.length≤2
 mem:∀ i ∈ l,0≤i∧i.toNat < (yw c.sold).length
theorem QgR {sold:List Tk} {i:Int} (h:i ∈ yw sold):0≤i∧i.toNat < sold.length:=by
 unfold yw at h
 obtain ⟨j,hj,rfl⟩:=List.mem_map.1 h
 have:=(List.mem_filter.1 hj).1
 rw [List.mem_range] at this
 exact ⟨Int.natCast_nonneg _,this⟩
theorem QgU (sold:List Tk):(yw sold).length≤sold.length:=Qcy sold sold.length
theorem MvOk.sh {c:Chart} {a:Ask} {l:List Int} (h:MvOk c a l):ShOk c.cabins c.secs a c.sold (QX c l):=by
 refine ⟨h.val.car.cabs,h.val.car.beds,h.val.many,h.sx,by have:=h.len;simp [QX];omega,fun n hn=>?_⟩
 obtain ⟨i,hi,rfl⟩:=List.mem_map.1 hn
 exact QgR (xV (h.mem i hi).2)
theorem Qdj {c:Chart} {a:Ask} {o:List Tr}:∀ i ob,qj (qH 0 (mvL c a o)) i=some ob→i < 6∧∀ id ∈ ob.ids,id < 6:=by
 intro i ob hi
 have h:=qQ hi
 simp [qH,mvL] at h
 rcases h with ⟨rfl,rfl⟩|⟨rfl,rfl⟩|⟨rfl,rfl⟩|⟨rfl,rfl⟩|⟨rfl,rfl⟩|⟨rfl,rfl⟩ <;> simp [AObj.ids,AV.ids,AV.idsL,qg,qf,ql]
def mvS (c:Chart) (a:Ask) (o:List Tr) (l:List Int) (k:Nat):St:={ t:=asg [(1,.ptr 3 0),(2,.ptr 2 0),(3,.ptr 4 0),(4,.ptr 5 0),(6,aB false),(7,.row 6),(12,qD l),(13,aI l.length),(14,aI k)],h:=qj [(0,qg c.cabins c.secs 1),(1,qf c.sold),(2,.cells [.ptr 0 0]),(3,.cells [.sl ((yw c.sold).map wz)]),(4,.cells (ql a)),(5,.cells [.sl (o.map eTr)]),(6,.row 3 1 (((QX c l).take k).map wz))],n:=7,m:=6 }
def vZ:=kk @ty3 (kk @WE (kk @Q0 (kk @Qd8 (kk @Qel (kk @Wl (kk @ti3.eq_1 (kk @Zr.eq_1 (kk @Ql.eq_1 (kk @UX.eq_1 (kk @UL.eq_1 @Zt.eq_1))))))))))
def QC:=kk @aI.eq_1 (kk @aB.eq_1 (kk @qD.eq_1 (kk @wz.eq_1 (kk @Ue (kk @Qaj (@QJ))))))
set_option maxHeartbeats 1000000 in
theorem QjQ (c:Chart) (a:Ask) (o:List Tr) (l:List Int) (ok:MvOk c a l):Fn noB Tryz.prog 55 [qD l,.ptr 3 0,.ptr 2 0,.ptr 4 0,.ptr 5 0] (qj (qH 0 (mvL c a o))) (aB (mvW c a l).isSome) (qj (wP 0 ((mvL c a ((mvW c a l).getD o)).map some))) 0:=by
 have env:Env (fun _=>True) Tryz.prog tyB (tab [(56,fnE (xO c.cabins c.secs a l.length))]):=qO ⟨QiG,trivial⟩
 refine Fn.of (A:=fun _=>True) (n0:=6) (D:=noD) (Fn0 Tryz.func55 rfl (fun vs w=>by kernel_rfl) (by kernel_rfl)) (by simp) (by simp [AV.ids,AV.idsL,qD]) Qdj (fun _ _ _ _=>trivial) qG ?_
 have hsh:=ok.sh
 have hlen:=ok.len
 have hmx:(100000:Nat)≤maxLen:=by decide
 have hsl:(QX c l).length=l.length:=by simp [QX]
 obtain ⟨W,hW⟩:∃ W,mvW c a l=W:=⟨_,rfl⟩
 rw [hW]
 unfold mvW at hW
 show Sym _ _ _ (zR [qD l,.ptr 3 0,.ptr 2 0,.ptr 4 0,.ptr 5 0] 6 (qj [(0,qg c.cabins c.secs 1),(1,qf c.sold),(2,.cells [.ptr 0 0]),(3,.cells [.sl ((yw c.sold).map wz)]),(4,.cells (ql a)),(5,.cells [.sl (o.map eTr)])])) (vo tyB noD Tryz.f55 fun S rv=>Fin S rv _ 6 (qj [(0,qg c.cabins c.secs 1),(1,qf c.sold),(2,.cells [.ptr 0 0]),(3,.cells [.sl ((yw c.sold).map wz)]),(4,.cells (ql a)),(5,.cells [.sl ((W.getD o).map eTr)])]) 0)
 repeat' (first|(apply nx;with_reducible constructor)|refine jq (by decide) ?_|((first|refine kz env fun Q hQ=>?_|refine kj fun Q hQ=>?_);simp only [vkt,seval,vZ,QC,qY,mTk,qg,qf,qm,mvL,mvS,ql,xO,List.length_map];(try simp only [ite_and]);(repeat' (first|with_reducible assumption|refine And.intro ?_ ?_|intro hp));all_goals (first|(refine hQ _ ?_;clear hQ Q)|(refine hQ _ (fun h=>?_) (fun h=>?_) <;> clear hQ Q <;> (try simp only [vki,reduceCtorEq] at h))|(refine kx ?_;kernel_rfl)|omega|assumption|with_reducible rfl|skip)))
 refine zt (fun k:{ k:Nat // k≤l.length }=>mvS c a o l k.1) (fun k=>l.length - k.1) ⟨0,Nat.zero_le _⟩ ?_ fun ⟨k,hk⟩=>?_
 ·(refine Le.ok (fun i=>if i=6 then none else some i) [] ?_;constructor;all_goals (try simp only [vle,vkt,seval,vZ,QC,qY,mTk,qg,qf,qm,mvL,mvS,ql,xO,List.length_map]))
  all_goals first|rfl|(simp;done)|(intro i hi;rw [if_neg (by omega)];done)
 simp only at hk ⊢
 by_cases hkl:k < l.length
 ·have d1:decide ((k:Int) < (l.length:Int))=true:=decide_eq_true (by omega)
  have e9:IntKind.wrap .i64 ((k:Int)+1)=((k+1:Nat):Int):=by rw [wrap64 (by omega) (by omega)];rfl
  obtain ⟨x,hx⟩:∃ x,l.getD k 0=x:=⟨_,rfl⟩
  obtain ⟨hx0,hxl⟩:=ok.mem x (by rw [← hx];exact xV hkl)
  obtain ⟨i,rfl⟩:∃ i:Nat,x=i:=⟨x.toNat,by omega⟩
  have i0:((i:Int)).toNat=i:=rfl
  rw [i0] at hxl
  obtain ⟨y,hy⟩:∃ y,(yw c.sold).getD i 0=y:=⟨_,rfl⟩
  have hS:(QX c l).take (k+1)=(QX c l).take k++[y]:=by
   rw [List.take_succ_eq_append_getElem (by rw [hsl];exact hkl)]
   congr 2
   unfold QX
   rw [List.getElem_map]
   rw [show l[k]=(i:Int) by rw [← hx];simp [List.getD_eq_getElem?_getD,hkl]]
   exact hy
  have hl1:((QX c l).take k).length+1≤maxLen:=by rw [List.length_take];omega
  have hl2:((QX c l).take k).length≤2:=by rw [List.length_take];omega
  repeat' (first|(apply nx;with_reducible constructor)|refine jq (by decide) ?_|((first|refine kz env fun Q hQ=>?_|refine kj fun Q hQ=>?_);simp only [vkt,seval,vZ,QC,qY,mTk,qg,qf,qm,mvL,mvS,ql,xO,List.length_map,d1,e9,hx,hy,i0,hxl,hl1];(try simp only [ite_and]);(repeat' (first|with_reducible assumption|refine And.intro ?_ ?_|intro hp));all_goals (first|(refine hQ _ ?_;clear hQ Q)|(refine hQ _ (fun h=>?_) (fun h=>?_) <;> clear hQ Q <;> (try simp only [vki,reduceCtorEq] at h))|(refine kx ?_;kernel_rfl)|omega|assumption|with_reducible rfl|skip)))
  refine ⟨⟨k+1,hkl⟩,by show l.length - (k+1) < l.length - k;omega, ?_⟩
  show Le _ (mvS c a o l (k+1))
  unfold mvS
  rw [hS]
  (refine Le.ok (fun i=>if i=6 then some 8 else some i) [] ?_;constructor;all_goals (try simp only [vle,vkt,seval,vZ,QC,qY,mTk,qg,qf,qm,mvL,mvS,ql,xO,List.length_map]))
  all_goals first|rfl|(rw [List.map_append];rfl)|(simp;done)|(intro i hi;rw [if_neg (by omega)];done)
 ·have d1:decide ((k:Int) < (l.length:Int))=false:=decide_eq_false (by omega)
  obtain rfl:k=l.length:=by omega
  have htk:(QX c l).take l.length=QX c l:=List.take_of_length_le (by omega)
  cases W with
  |none =>
   repeat' (first|(apply nx;with_reducible constructor)|refine jq (by decide) ?_|((first|refine kz env fun Q hQ=>?_|refine kj fun Q hQ=>?_);simp only [vkt,seval,vZ,QC,qY,mTk,qg,qf,qm,mvL,mvS,ql,xO,List.length_map,d1,htk,hsl,hsh,hW,Option.getD_none,Option.isSome_none];(try simp only [ite_and]);(repeat' (first|with_reducible assumption|refine And.intro ?_ ?_|intro hp));all_goals (first|(refine hQ _ ?_;clear hQ Q)|(refine hQ _ (fun h=>?_) (fun h=>?_) <;> clear hQ Q <;> (try simp only [vki,reduceCtorEq] at h))|(refine kx ?_;kernel_rfl)|omega|assumption|with_reducible rfl|skip)))
   ·exact ⟨_,_,rfl⟩
   (simp only [vrt,Tryz.results55,vkt,seval,vZ,QC,qY,mTk,qg,qf,qm,mvL,mvS,ql,xO,List.length_map];refine Fin.ok some [] ?_ ?_ ?_ ?_ ?_ rfl;all_goals (try simp only [vle,vkt,seval,vZ,QC,qY,mTk,qg,qf,qm,mvL,mvS,ql,xO,List.length_map]))
   all_goals first|rfl|(simp;done)|exact fun i hi=>(match i,hi with|0,_=>rfl|1,_=>rfl)
  |some t =>
   repeat' (first|(apply nx;with_reducible constructor)|refine jq (by decide) ?_|((first|refine kz env fun Q hQ=>?_|refine kj fun Q hQ=>?_);simp only [vkt,seval,vZ,QC,qY,mTk,qg,qf,qm,mvL,mvS,ql,xO,List.length_map,d1,htk,hsl,hsh,hW,Option.getD_some,Option.isSome_some];(try simp only [ite_and]);(repeat' (first|with_reducible assumption|refine And.intro ?_ ?_|intro hp));all_goals (first|(refine hQ _ ?_;clear hQ Q)|(refine hQ _ (fun h=>?_) (fun h=>?_) <;> clear hQ Q <;> (try simp only [vki,reduceCtorEq] at h))|(refine kx ?_;kernel_rfl)|omega|assumption|with_reducible rfl|skip)))
   ·exact ⟨_,_,rfl⟩
   (simp only [vrt,Tryz.results55,vkt,seval,vZ,QC,qY,mTk,qg,qf,qm,mvL,mvS,ql,xO,List.length_map];refine Fin.ok some [] ?_ ?_ ?_ ?_ ?_ rfl;all_goals (try simp only [vle,vkt,seval,vZ,QC,qY,mTk,qg,qf,qm,mvL,mvS,ql,xO,List.length_map]))
   all_goals first|rfl|(simp;done)|exact fun i hi=>(match i,hi with|0,_=>rfl|1,_=>rfl)
def yL:=kk @ty3 (kk @WE (kk @ti3.eq_1 @Zr.eq_1))
theorem QdL (xs:List (List DV)) (h1:wJ 1 xs) (h2:xs.length≤100000):Fn noB Tryz.prog 76 [.sl xs] noH (.row 0) (qj [(0,.row 3 1 xs)]) 0:=by
 have env:Env (fun _=>True) Tryz.prog tyB (tab []):=qO trivial
 obtain ⟨b1,b2,b3,b5,b4⟩:=b47 h2
 refine Fn.of (A:=fun _=>True) (n0:=0) (D:=noD) (Fn0 Tryz.func76 rfl (fun vs w=>by kernel_rfl) (by kernel_rfl)) (by simp) (by simp [AV.ids]) (fun i o h=>by cases h) (fun _ _ _ _=>trivial) qG ?_
 repeat' (first|(apply nx;with_reducible constructor)|refine jq (by decide) ?_)
 (refine kz env fun Q hQ=>?_;simp only [vkt,seval,yL,@true_and];(try simp only [ite_and]);(repeat' (first|with_reducible assumption|refine And.intro ?_ ?_|intro hp));all_goals (first|(refine hQ _ ?_;clear hQ Q)|(refine kx ?_;kernel_rfl)|omega|assumption|with_reducible rfl|skip))
 repeat' (first|(apply nx;with_reducible constructor)|refine jq (by decide) ?_)
 refine ZB (d1:=3) (d2:=4) (t:=35) (e:=3) (x:=.tmp 0) (xs:=xs) rfl rfl rfl rfl rfl rfl Tryz.underlying35 rfl fun b hb=>?_
 repeat' (first|(apply nx;with_reducible constructor)|refine jq (by decide) ?_)
 (refine yf (by simp only [vkt,seval,yL,@true_and];rfl) (fun h=>?_) (fun h=>?_) <;> (try simp only [vki,reduceCtorEq] at h))
 ·have hx:=hb h
  subst hx
  repeat' (first|(apply nx;with_reducible constructor)|refine jq (by decide) ?_|((first|refine kz env fun Q hQ=>?_|refine kj fun Q hQ=>?_);simp only [vkt,seval,yL,@true_and];(try simp only [ite_and]);(repeat' (first|with_reducible assumption|refine And.intro ?_ ?_|intro hp));all_goals (first|(refine hQ _ ?_;clear hQ Q)|(refine hQ _ (fun h=>?_) (fun h=>?_) <;> clear hQ Q <;> (try simp only [vki,reduceCtorEq] at h))|(refine kx ?_;kernel_rfl)|omega|assumption|with_reducible rfl|skip)))
  (simp only [vrt,Tryz.results76,vkt,seval,yL,@true_and];refine Fin.ok (fun _=>none) [] ?_ ?_ ?_ ?_ ?_ rfl;all_goals (try simp only [vle,vkt,seval,yL,@true_and]))
  all_goals simp
 ·repeat' (first|(apply nx;with_reducible constructor)|refine jq (by decide) ?_|((first|refine kz env fun Q hQ=>?_|refine kj fun Q hQ=>?_);simp only [vkt,seval,yL,@true_and];(try simp only [ite_and]);(repeat' (first|with_reducible assumption|refine And.intro ?_ ?_|intro hp));all_goals (first|(refine hQ _ ?_;clear hQ Q)|(refine hQ _ (fun h=>?_) (fun h=>?_) <;> clear hQ Q <;> (try simp only [vki,reduceCtorEq] at h))|(refine kx ?_;kernel_rfl)|omega|assumption|with_reducible rfl|skip)))
  (simp only [vrt,Tryz.results76,vkt,seval,yL,@true_and];refine Fin.ok some [] ?_ ?_ ?_ ?_ ?_ rfl;all_goals (try simp only [vle,vkt,seval,yL,@true_and]))
  all_goals simp
def zI (_:St):List AV→Option Pk
 |[.sl xs]=>some { pre:=wJ 1 xs∧xs.length≤100000,ar:=[.sl xs],v:=.row 0,L1:=[some (.row 3 1 xs)] }
 |_=>none
theorem Qdb {A:Frm→Prop}:qC A Tryz.prog 76 (fnE zI):=wK fun S bs q h hp=>by
 unfold zI at h
 split at h
 ·cases h;exact QdL _ hp.1 hp.2
 ·cases h
theorem fsr {α:Type} {g:Nat→Option α} {k N:Nat} (h:∀ j,j < k→g j=none) (hk:k < N) {t:α} (ht:g k=some t):(List.range N).findSome? g=some t:=by
 rw [show N=k+(N - k) by omega,List.range_add,List.findSome?_append]
 rw [show (List.range k).findSome? g=none from List.findSome?_eq_none_iff.2 fun j hj=>h j (List.mem_range.1 hj)]
 rw [show N - k=(N - k - 1)+1 by omega,List.range_succ_eq_map]
 simp [ht]
theorem Qam {α:Type} {g:Nat→Option α} {N:Nat} (h:∀ j,j < N→g j=none):(List.range N).findSome? g=none:=List.findSome?_eq_none_iff.2 fun j hj=>h j (List.mem_range.1 hj)
def lsG (c:Chart) (a:Ask) (l:List Int):Option (List Int × List Tr):=(mvW c a l).map fun t=>(l,t)
def lsF (c:Chart) (a:Ask) (m:Nat) (l:List Int) (f:Nat):Option (List Int × List Tr):=(Ja (yw c.sold).length m l f).findSome? (lsG c a)
theorem Qf5 (c:Chart) (a:Ask) (l:List Int) (f:Nat):lsF c a 0 l f=lsG c a l:=by
 unfold lsF
 rw [Ja]
 cases h:lsG c a l <;> simp [h]
theorem R4 {α β γ:Type} (f:α→List β) (g:β→Option γ):∀ l:List α,(l.flatMap f).findSome? g=l.findSome? fun a=>(f a).findSome? g
 |[]=>rfl
 |a :: l=>by rw [List.flatMap_cons,List.findSome?_append,List.findSome?_cons,R4 f g l];cases (f a).findSome? g <;> rfl
theorem Qfj (c:Chart) (a:Ask) (m:Nat) (l:List Int) (f:Nat):lsF c a (m+1) l f=(List.range ((yw c.sold).length - f)).findSome? fun k=>lsF c a m (l++[((f+k:Nat):Int)]) (f+k+1):=by
 unfold lsF
 rw [Ja,R4]
structure LsOk (c:Chart) (a:Ask) (l:List Int) (f m:Nat):Prop where
 val:Val c
 sx:a.sexes.length≤3
 len:l.length+m≤2
 from':f≤(yw c.sold).length∨m=0
 mem:∀ i ∈ l,0≤i∧i.toNat < (yw c.sold).length
def lsL (c:Chart) (a:Ask) (many:Nat) (o:Option (List Int × List Tr)):List AObj:=[qg c.cabins c.secs 1,qf c.sold,.cells [.ptr 0 0],.cells [.sl ((yw c.sold).map wz)],.cells (ql a),.cells [.sl (((o.map (·.2)).getD []).map eTr)],
 .cells [aI many],.cells [.clo 55 [.ptr 3 0,.ptr 2 0,.ptr 4 0,.ptr 5 0]],.cells [.sl (((o.map (·.1)).getD []).map wz)],.cells [aB o.isSome],.cells [aI (yw c.sold).length],.cells [.clo 75 [.ptr 6 0,.ptr 7 0,.ptr 8 0,.ptr 9 0,.ptr 10 0,.ptr 11 0]]]
theorem Qc0 {c:Chart} {a:Ask} {many:Nat} {o:Option (List Int × List Tr)}:∀ i ob,qj (qH 0 (lsL c a many o)) i=some ob→i < 12∧∀ id ∈ ob.ids,id < 12:=by
 intro i ob hi
 have h:=qQ hi
 simp [qH,lsL] at h
 rcases h with ⟨rfl,rfl⟩|⟨rfl,rfl⟩|⟨rfl,rfl⟩|⟨rfl,rfl⟩|⟨rfl,rfl⟩|⟨rfl,rfl⟩|⟨rfl,rfl⟩|⟨rfl,rfl⟩|⟨rfl,rfl⟩|⟨rfl,rfl⟩|⟨rfl,rfl⟩|⟨rfl,rfl⟩ <;> simp [AObj.ids,AV.ids,AV.idsL,qg,qf,ql,aI,aB]
def LsFn (c:Chart) (a:Ask) (many m:Nat):Prop:=∀ (l:List Int) (f:Nat),l.length+m=many→LsOk c a l f m →
 Fn noB Tryz.prog 75 [qD l,aI f,.ptr 6 0,.ptr 7 0,.ptr 8 0,.ptr 9 0,.ptr 10 0,.ptr 11 0] (qj (qH 0 (lsL c a many none))) (.tup []) (qj (wP 0 ((lsL c a many (lsF c a m l f)).map some))) 0
def Zx (c:Chart) (a:Ask) (S:St):List AV→Option Pk
 |[.sl xs,.ptr p3 0,.ptr p2 0,.ptr p4 0,.ptr p5 0]=>match S.h p2,S.h p5 with
  |some (.cells [.ptr p0 0]),some (.cells [.sl os])=>match S.h p0 with
   |some (.cells [_,_,.row p1])=>some { pre:=xs=(xs.map zQ).map wz∧os=(os.map dTr).map eTr∧MvOk c a (xs.map zQ),hs:=[p0,p1,p2,p3,p4,p5],ar:=[.sl xs,.ptr 3 0,.ptr 2 0,.ptr 4 0,.ptr 5 0],L0:=mvL c a (os.map dTr),v:=aB (mvW c a (xs.map zQ)).isSome,L1:=(mvL c a ((mvW c a (xs.map zQ)).getD (os.map dTr))).map some }
   |_=>none
  |_,_=>none
 |_=>none
theorem eMv1 {A:Frm→Prop} {c:Chart} {a:Ask}:qC A Tryz.prog 55 (fnE (Zx c a)):=wK fun S bs q h hp=>by
 unfold Zx at h
 split at h
 ·split at h
  ·split at h
   ·cases h
    obtain ⟨h1,h2,h3⟩:=hp
    have:=QjQ c a (List.map dTr (by assumption)) _ h3
    rw [qD,← h1] at this
    exact this
   ·cases h
  ·cases h
 ·cases h
def Zv (c:Chart) (a:Ask) (many m:Nat) (S:St):List AV→Option Pk
 |[.row q,.v (.int .i64 f),.ptr p6 0,.ptr p7 0,.ptr p8 0,.ptr p9 0,.ptr p10 0,.ptr p11 0]=>match S.h q,S.h p7 with
  |some (.row _ _ xs),some (.cells [.clo _ [.ptr p3 0,.ptr p2 0,.ptr p4 0,.ptr p5 0]])=>match S.h p2 with
   |some (.cells [.ptr p0 0])=>match S.h p0 with
    |some (.cells [_,_,.row p1])=>some { pre:=xs=(xs.map zQ).map wz∧f=(f.toNat:Int)∧(xs.map zQ).length+m=many∧LsOk c a (xs.map zQ) f.toNat m,hs:=[p0,p1,p2,p3,p4,p5,p6,p7,p8,p9,p10,p11],bo:=[q],ar:=[.sl xs,.v (.int .i64 f),.ptr 6 0,.ptr 7 0,.ptr 8 0,.ptr 9 0,.ptr 10 0,.ptr 11 0],L0:=lsL c a many none,v:=.tup [],L1:=(lsL c a many (lsF c a m (xs.map zQ) f.toNat)).map some }
    |_=>none
   |_=>none
  |_,_=>none
 |_=>none
theorem eLs1 {A:Frm→Prop} {c:Chart} {a:Ask} {many m:Nat} (ih:LsFn c a many m):qC A Tryz.prog 75 (fnE (Zv c a many m)):=wK fun S bs q h hp=>by
 unfold Zv at h
 split at h
 ·split at h
  ·split at h
   ·split at h
    ·cases h
     obtain ⟨h1,h2,h3,h4⟩:=hp
     have:=ih _ _ h3 h4
     rw [qD,← h1,aI,← h2] at this
     exact this
    ·cases h
   ·cases h
  ·cases h
 ·cases h
def lsS (c:Chart) (a:Ask) (many:Nat) (l:List Int) (i:Nat) (o:Option (List Int × List Tr)):St:={ t:=asg [(0,qD l),(2,.ptr 6 0),(3,.ptr 7 0),(4,.ptr 8 0),(5,.ptr 9 0),(6,.ptr 10 0),(7,.ptr 11 0),(10,aI i)],h:=qj [(0,qg c.cabins c.secs 1),(1,qf c.sold),(2,.cells [.ptr 0 0]),(3,.cells [.sl ((yw c.sold).map wz)]),(4,.cells (ql a)),(5,.cells [.sl (((o.map (·.2)).getD []).map eTr)]),
 (6,.cells [aI many]),(7,.cells [.clo 55 [.ptr 3 0,.ptr 2 0,.ptr 4 0,.ptr 5 0]]),(8,.cells [.sl (((o.map (·.1)).getD []).map wz)]),(9,.cells [aB o.isSome]),(10,.cells [aI (yw c.sold).length]),(11,.cells [.clo 75 [.ptr 6 0,.ptr 7 0,.ptr 8 0,.ptr 9 0,.ptr 10 0,.ptr 11 0]])],n:=12,m:=12 }
def zN:=kk @ty3 (kk @ty4 (kk @WE (kk @Qjg (kk @Qdg (kk @ti3.eq_1 (kk @ti4.eq_1 (kk @Zr.eq_1 (kk @LD.eq_1 @Xf.eq_1))))))))
def yg:=kk @aI.eq_1 (kk @aB.eq_1 (kk @qD.eq_1 (kk @wz.eq_1 (kk @Ue (kk @Qaj (@QJ))))))
set_option maxHeartbeats 2000000 in
theorem Kt (c:Chart) (a:Ask) (many m:Nat) (ih:∀ m',m=m'+1→LsFn c a many m'):LsFn c a many m:=by
 intro l f hlm ok
 have hlen:=ok.len
 have hlo:=QgU c.sold
 have hv8:=ok.val.many
 have hmx:(100000:Nat)≤maxLen:=by decide
 have hmm:l.length≤100000:=by omega
 have hml1:l.length+1≤maxLen:=by omega
 obtain ⟨n,hn⟩:∃ n,(yw c.sold).length=n:=⟨_,rfl⟩
 rw [hn] at hlo
 cases m with
 |zero =>
  have env:Env (fun _=>True) Tryz.prog tyB (tab [(55,fnE (Zx c a))]):=qO ⟨eMv1,trivial⟩
  refine Fn.of (A:=fun _=>True) (n0:=12) (D:=noD) (Fn0 Tryz.func75 rfl (fun vs w=>by kernel_rfl) (by kernel_rfl)) (by simp) (by simp [AV.ids,AV.idsL,qD,aI]) Qc0 (fun _ _ _ _=>trivial) qG ?_
  have hmv:MvOk c a l:=⟨ok.val,ok.sx,by omega,ok.mem⟩
  have d0:decide ((l.length:Int)=(many:Int))=true:=decide_eq_true (by omega)
  rw [Qf5]
  show Sym _ _ _ (zR [qD l,aI f,.ptr 6 0,.ptr 7 0,.ptr 8 0,.ptr 9 0,.ptr 10 0,.ptr 11 0] 12 (lsS c a many l f none).h) (vo tyB noD Tryz.f75 fun S rv=>Fin S rv _ 12 (lsS c a many l f (lsG c a l)).h 0)
  unfold lsG
  cases hW:mvW c a l with
  |none =>
   repeat' (first|(apply nx;with_reducible constructor)|refine jq (by decide) ?_|((first|refine kz env fun Q hQ=>?_|refine kj fun Q hQ=>?_);simp only [vkt,seval,zN,yg,qY,eTr,mTr,mTk,qg,qf,mvL,lsL,lsS,ql,Zx,Zv,zI,List.length_map,d0,hmv,hW,Option.getD_none,Option.isSome_none,Option.map_none];(try simp only [ite_and]);(repeat' (first|with_reducible assumption|refine And.intro ?_ ?_|intro hp));all_goals (first|(refine hQ _ ?_;clear hQ Q)|(refine hQ _ (fun h=>?_) (fun h=>?_) <;> clear hQ Q <;> (try simp only [vki,reduceCtorEq] at h))|(refine kx ?_;kernel_rfl)|omega|assumption|with_reducible rfl|skip)))
   (simp only [vrt,Tryz.results75,vkt,seval,zN,yg,qY,eTr,mTr,mTk,qg,qf,mvL,lsL,lsS,ql,Zx,Zv,zI,List.length_map];refine Fin.ok some [] ?_ ?_ ?_ ?_ ?_ rfl;all_goals (try simp only [vle,vkt,seval,zN,yg,qY,eTr,mTr,mTk,qg,qf,mvL,lsL,lsS,ql,Zx,Zv,zI,List.length_map]))
   all_goals (try simp only [Option.getD_none,Option.isSome_none,Option.map_none])
   all_goals first|rfl|(simp;done)
  |some t =>
   repeat' (first|(apply nx;with_reducible constructor)|refine jq (by decide) ?_|((first|refine kz env fun Q hQ=>?_|refine kj fun Q hQ=>?_);simp only [vkt,seval,zN,yg,qY,eTr,mTr,mTk,qg,qf,mvL,lsL,lsS,ql,Zx,Zv,zI,List.length_map,d0,hmv,hW,Option.getD_some,Option.isSome_some,Option.map_some,Option.getD_none,Option.isSome_none,Option.map_none];(try simp only [ite_and]);(repeat' (first|with_reducible assumption|refine And.intro ?_ ?_|intro hp));all_goals (first|(refine hQ _ ?_;clear hQ Q)|(refine hQ _ (fun h=>?_) (fun h=>?_) <;> clear hQ Q <;> (try simp only [vki,reduceCtorEq] at h))|(refine kx ?_;kernel_rfl)|omega|assumption|with_reducible rfl|skip)))
   (simp only [vrt,Tryz.results75,vkt,seval,zN,yg,qY,eTr,mTr,mTk,qg,qf,mvL,lsL,lsS,ql,Zx,Zv,zI,List.length_map];refine Fin.ok some [] ?_ ?_ ?_ ?_ ?_ rfl;all_goals (try simp only [vle,vkt,seval,zN,yg,qY,eTr,mTr,mTk,qg,qf,mvL,lsL,lsS,ql,Zx,Zv,zI,List.length_map]))
   all_goals (try simp only [Option.getD_some,Option.isSome_some,Option.map_some])
   all_goals first|rfl|(simp;done)
 |succ m =>
  have env:Env (fun _=>True) Tryz.prog tyB (tab [(76,fnE zI),(75,fnE (Zv c a many m))]):=qO ⟨Qdb,eLs1 (ih m rfl),trivial⟩
  refine Fn.of (A:=fun _=>True) (n0:=12) (D:=noD) (Fn0 Tryz.func75 rfl (fun vs w=>by kernel_rfl) (by kernel_rfl)) (by simp) (by simp [AV.ids,AV.idsL,qD,aI]) Qc0 (fun _ _ _ _=>trivial) qG ?_
  have d0:decide ((l.length:Int)=(many:Int))=false:=decide_eq_false (by omega)
  have hfn:f≤n:=by have:=ok.from';omega
  rw [Qfj,hn]
  obtain ⟨g,hg⟩:∃ g:Nat→Option (List Int × List Tr),(fun k=>lsF c a m (l++[((f+k:Nat):Int)]) (f+k+1))=g:=⟨_,rfl⟩
  rw [hg]
  show Sym _ _ _ (zR [qD l,aI f,.ptr 6 0,.ptr 7 0,.ptr 8 0,.ptr 9 0,.ptr 10 0,.ptr 11 0] 12 (lsS c a many l f none).h) (vo tyB noD Tryz.f75 fun S rv=>Fin S rv _ 12 (lsS c a many l f ((List.range (n - f)).findSome? g)).h 0)
  repeat' (first|(apply nx;with_reducible constructor)|refine jq (by decide) ?_|((first|refine kz env fun Q hQ=>?_|refine kj fun Q hQ=>?_);simp only [vkt,seval,zN,yg,qY,eTr,mTr,mTk,qg,qf,mvL,lsL,lsS,ql,Zx,Zv,zI,List.length_map,d0,Option.getD_none,Option.isSome_none,Option.map_none];(try simp only [ite_and]);(repeat' (first|with_reducible assumption|refine And.intro ?_ ?_|intro hp));all_goals (first|(refine hQ _ ?_;clear hQ Q)|(refine hQ _ (fun h=>?_) (fun h=>?_) <;> clear hQ Q <;> (try simp only [vki,reduceCtorEq] at h))|(refine kx ?_;kernel_rfl)|omega|assumption|with_reducible rfl|skip)))
  refine zt (fun x:{ x:Nat × Option (List Int × List Tr) // x.1≤n - f∧((x.2=none∧∀ j,j < x.1→g j=none)∨∃ t,x.2=some t∧(List.range (n - f)).findSome? g=some t) }=>lsS c a many l (f+x.1.1) x.1.2) (fun x=>n - f - x.1.1) ⟨(0,none),Nat.zero_le _,.inl ⟨rfl,fun j h=>absurd h (Nat.not_lt_zero _)⟩⟩ ?_ fun ⟨(k,o),hk,ho⟩=>?_
  ·show Le _ (lsS c a many l f none)
   unfold lsS
   (refine Le.ok some [] ?_;constructor;all_goals (try simp only [vle,vkt,seval,zN,yg,qY,eTr,mTr,mTk,qg,qf,mvL,lsL,lsS,ql,Zx,Zv,zI,List.length_map]))
   all_goals first|rfl|(simp;done)
  simp only at hk ho ⊢
  rcases ho with ⟨rfl,hno⟩|⟨t,rfl,ht⟩
  ·by_cases hkl:k < n - f
   ·have d1:decide (((f+k:Nat):Int) < (n:Int))=true:=decide_eq_true (by omega)
    have w1:IntKind.wrap .i64 (((f+k:Nat):Int)+1)=((f+k+1:Nat):Int):=by rw [wrap64 (by omega) (by omega)];rfl
    have hla:l.map wz++[[.v (.int .i64 ((f+k:Nat):Int))]]=(l++[((f+k:Nat):Int)]).map wz:=by rw [List.map_append];rfl
    have hll:(l++[((f+k:Nat):Int)]).length=l.length+1:=by simp
    have hnm:l.length+1+m=many:=by omega
    have i0:(((f+k+1:Nat):Int)).toNat=f+k+1:=rfl
    have hok:LsOk c a (l++[((f+k:Nat):Int)]) (f+k+1) m:=⟨ok.val,ok.sx,by rw [hll];omega,.inl (by omega),fun i hi=>by
     rcases List.mem_append.1 hi with hi|hi
     ·exact ok.mem i hi
     ·rw [List.mem_singleton.1 hi,hn];omega⟩
    obtain ⟨o',ho'⟩:∃ o',lsF c a m (l++[((f+k:Nat):Int)]) (f+k+1)=o':=⟨_,rfl⟩
    have hgk:g k=o':=by rw [← hg];exact ho'
    repeat' (first|(apply nx;with_reducible constructor)|refine jq (by decide) ?_|((first|refine kz env fun Q hQ=>?_|refine kj fun Q hQ=>?_);simp only [vkt,seval,zN,yg,qY,eTr,mTr,mTk,qg,qf,mvL,lsL,lsS,ql,Zx,Zv,zI,List.length_map,hn,d1,w1,hla,hll,hnm,i0,hok,ho',hmm,hml1,Option.getD_none,Option.isSome_none,Option.map_none];(try simp only [ite_and]);(repeat' (first|with_reducible assumption|refine And.intro ?_ ?_|intro hp));all_goals (first|(refine hQ _ ?_;clear hQ Q)|(refine hQ _ (fun h=>?_) (fun h=>?_) <;> clear hQ Q <;> (try simp only [vki,reduceCtorEq] at h))|(refine kx ?_;kernel_rfl)|omega|assumption|with_reducible rfl|skip)))
    ·exact ⟨_,_,rfl⟩
    refine ⟨⟨(k+1,o'),by show k+1≤n - f;omega, ?_⟩,by show n - f - (k+1) < n - f - k;omega, ?_⟩
    ·cases o' with
     |none =>
      refine .inl ⟨rfl,fun j hj=>?_⟩
      rcases Nat.lt_or_eq_of_le (Nat.le_of_lt_succ hj) with h1|h1
      ·exact hno j h1
      ·rw [h1];exact hgk
     |some t=>exact .inr ⟨t,rfl,fsr hno hkl hgk⟩
    ·show Le _ (lsS c a many l (f+k+1) o')
     unfold lsS
     rw [hn]
     (refine Le.ok some [] ?_;constructor;all_goals (try simp only [vle,vkt,seval,zN,yg,qY,eTr,mTr,mTk,qg,qf,mvL,lsL,lsS,ql,Zx,Zv,zI,List.length_map]))
     all_goals first|rfl|(simp;done)
   ·have d1:decide (((f+k:Nat):Int) < (n:Int))=false:=decide_eq_false (by omega)
    rw [Qam (fun j hj=>hno j (by omega))]
    repeat' (first|(apply nx;with_reducible constructor)|refine jq (by decide) ?_|((first|refine kz env fun Q hQ=>?_|refine kj fun Q hQ=>?_);simp only [vkt,seval,zN,yg,qY,eTr,mTr,mTk,qg,qf,mvL,lsL,lsS,ql,Zx,Zv,zI,List.length_map,hn,d1,Option.getD_none,Option.isSome_none,Option.map_none];(try simp only [ite_and]);(repeat' (first|with_reducible assumption|refine And.intro ?_ ?_|intro hp));all_goals (first|(refine hQ _ ?_;clear hQ Q)|(refine hQ _ (fun h=>?_) (fun h=>?_) <;> clear hQ Q <;> (try simp only [vki,reduceCtorEq] at h))|(refine kx ?_;kernel_rfl)|omega|assumption|with_reducible rfl|skip)))
    (simp only [vrt,Tryz.results75,vkt,seval,zN,yg,qY,eTr,mTr,mTk,qg,qf,mvL,lsL,lsS,ql,Zx,Zv,zI,List.length_map];refine Fin.ok some [] ?_ ?_ ?_ ?_ ?_ rfl;all_goals (try simp only [vle,vkt,seval,zN,yg,qY,eTr,mTr,mTk,qg,qf,mvL,lsL,lsS,ql,Zx,Zv,zI,List.length_map]))
    all_goals (try simp only [hn,Option.getD_none,Option.isSome_none,Option.map_none])
    all_goals first|rfl|(simp;done)
  ·rw [ht]
   by_cases hkl:f+k < n
   ·have d1:decide (((f+k:Nat):Int) < (n:Int))=true:=decide_eq_true (by omega)
    repeat' (first|(apply nx;with_reducible constructor)|refine jq (by decide) ?_|((first|refine kz env fun Q hQ=>?_|refine kj fun Q hQ=>?_);simp only [vkt,seval,zN,yg,qY,eTr,mTr,mTk,qg,qf,mvL,lsL,lsS,ql,Zx,Zv,zI,List.length_map,hn,d1,Option.getD_some,Option.isSome_some,Option.map_some];(try simp only [ite_and]);(repeat' (first|with_reducible assumption|refine And.intro ?_ ?_|intro hp));all_goals (first|(refine hQ _ ?_;clear hQ Q)|(refine hQ _ (fun h=>?_) (fun h=>?_) <;> clear hQ Q <;> (try simp only [vki,reduceCtorEq] at h))|(refine kx ?_;kernel_rfl)|omega|assumption|with_reducible rfl|skip)))
    (simp only [vrt,Tryz.results75,vkt,seval,zN,yg,qY,eTr,mTr,mTk,qg,qf,mvL,lsL,lsS,ql,Zx,Zv,zI,List.length_map];refine Fin.ok some [] ?_ ?_ ?_ ?_ ?_ rfl;all_goals (try simp only [vle,vkt,seval,zN,yg,qY,eTr,mTr,mTk,qg,qf,mvL,lsL,lsS,ql,Zx,Zv,zI,List.length_map]))
    all_goals (try simp only [hn,Option.getD_some,Option.isSome_some,Option.map_some])
    all_goals first|rfl|(simp;done)
   ·have d1:decide (((f+k:Nat):Int) < (n:Int))=false:=decide_eq_false (by omega)
    repeat' (first|(apply nx;with_reducible constructor)|refine jq (by decide) ?_|((first|refine kz env fun Q hQ=>?_|refine kj fun Q hQ=>?_);simp only [vkt,seval,zN,yg,qY,eTr,mTr,mTk,qg,qf,mvL,lsL,lsS,ql,Zx,Zv,zI,List.length_map,hn,d1,Option.getD_some,Option.isSome_some,Option.map_some];(try simp only [ite_and]);(repeat' (first|with_reducible assumption|refine And.intro ?_ ?_|intro hp));all_goals (first|(refine hQ _ ?_;clear hQ Q)|(refine hQ _ (fun h=>?_) (fun h=>?_) <;> clear hQ Q <;> (try simp only [vki,reduceCtorEq] at h))|(refine kx ?_;kernel_rfl)|omega|assumption|with_reducible rfl|skip)))
    (simp only [vrt,Tryz.results75,vkt,seval,zN,yg,qY,eTr,mTr,mTk,qg,qf,mvL,lsL,lsS,ql,Zx,Zv,zI,List.length_map];refine Fin.ok some [] ?_ ?_ ?_ ?_ ?_ rfl;all_goals (try simp only [vle,vkt,seval,zN,yg,qY,eTr,mTr,mTk,qg,qf,mvL,lsL,lsS,ql,Zx,Zv,zI,List.length_map]))
    all_goals (try simp only [hn,Option.getD_some,Option.isSome_some,Option.map_some])
    all_goals first|rfl|(simp;done)
theorem Xw (c:Chart) (a:Ask) (many:Nat):∀ m,LsFn c a many m
 |0=>Kt c a many 0 fun _ h=>by omega
 |m+1=>Kt c a many (m+1) fun m' h=>by
  obtain rfl:m=m':=by omega
  exact Xw c a many m
def Qd7 (c:Chart) (a:Ask) (many:Nat) (S:St):List AV→Option Pk
 |[.nil,.v (.int .i64 f),.ptr p6 0,.ptr p7 0,.ptr p8 0,.ptr p9 0,.ptr p10 0,.ptr p11 0]=>match S.h p7 with
  |some (.cells [.clo _ [.ptr p3 0,.ptr p2 0,.ptr p4 0,.ptr p5 0]])=>match S.h p2 with
   |some (.cells [.ptr p0 0])=>match S.h p0 with
    |some (.cells [_,_,.row p1])=>some { pre:=f=0∧LsOk c a [] 0 many,hs:=[p0,p1,p2,p3,p4,p5,p6,p7,p8,p9,p10,p11],ar:=[.sl [],.v (.int .i64 0),.ptr 6 0,.ptr 7 0,.ptr 8 0,.ptr 9 0,.ptr 10 0,.ptr 11 0],L0:=lsL c a many none,v:=.tup [],L1:=(lsL c a many (lsF c a many [] 0)).map some }
    |_=>none
   |_=>none
  |_=>none
 |_=>none
theorem eLs0 {A:Frm→Prop} {c:Chart} {a:Ask} {many:Nat}:qC A Tryz.prog 75 (fnE (Qd7 c a many)):=wK fun S bs q h hp=>by
 unfold Qd7 at h
 split at h
 ·split at h
  ·split at h
   ·split at h
    ·cases h
     exact Xw c a many many [] 0 (by simp) hp.2
    ·cases h
   ·cases h
  ·cases h
 ·cases h
def WV:=kk @ty3 (kk @ty4 (kk @WE (kk @Qdg (kk @ti3.eq_1 (kk @ti4.eq_1 (kk @Zr.eq_1 @Xf.eq_1))))))
def R9:=kk @aI.eq_1 (kk @aB.eq_1 (kk @qD.eq_1 (kk @wz.eq_1 (kk @Qaj (@QJ)))))
set_option maxHeartbeats 1000000 in
theorem QfU (c:Chart) (a:Ask) (many:Nat) (ok:LsOk c a [] 0 many):Fn noB Tryz.prog 50 [aI (yw c.sold).length,aI many,.clo 55 [.ptr 3 0,.ptr 2 0,.ptr 4 0,.ptr 5 0]] (qj (qH 0 (mvL c a []))) (.tup [qD (((lsF c a many [] 0).map (·.1)).getD []),aB (lsF c a many [] 0).isSome]) (qj (wP 0 ((mvL c a (((lsF c a many [] 0).map (·.2)).getD [])).map some))) 0:=by
 have env:Env (fun _=>True) Tryz.prog tyB (tab [(75,fnE (Qd7 c a many))]):=qO ⟨eLs0,trivial⟩
 refine Fn.of (A:=fun _=>True) (n0:=6) (D:=noD) (Fn0 Tryz.func50 rfl (fun vs w=>by kernel_rfl) (by kernel_rfl)) (by simp) (by simp [AV.ids,AV.idsL,aI]) Qdj (fun _ _ _ _=>trivial) qG ?_
 obtain ⟨o,ho⟩:∃ o,lsF c a many [] 0=o:=⟨_,rfl⟩
 rw [ho]
 show Sym _ _ _ (zR [aI (yw c.sold).length,aI many,.clo 55 [.ptr 3 0,.ptr 2 0,.ptr 4 0,.ptr 5 0]] 6 (qj [(0,qg c.cabins c.secs 1),(1,qf c.sold),(2,.cells [.ptr 0 0]),(3,.cells [.sl ((yw c.sold).map wz)]),(4,.cells (ql a)),(5,.cells [.sl []])])) (vo tyB noD Tryz.f50 fun S rv=>Fin S rv _ 6 (qj [(0,qg c.cabins c.secs 1),(1,qf c.sold),(2,.cells [.ptr 0 0]),(3,.cells [.sl ((yw c.sold).map wz)]),(4,.cells (ql a)),(5,.cells [.sl (((o.map (·.2)).getD []).map eTr)])]) 0)
 repeat' (first|(apply nx;with_reducible constructor)|refine jq (by decide) ?_|((first|refine kz env fun Q hQ=>?_|refine kj fun Q hQ=>?_);simp only [vkt,seval,WV,R9,qY,eTr,mTr,mTk,qg,qf,mvL,lsL,ql,Qd7,List.length_map,List.map_nil,ho,ok,Option.getD_none,Option.isSome_none,Option.map_none];(try simp only [ite_and]);(repeat' (first|with_reducible assumption|refine And.intro ?_ ?_|intro hp));all_goals (first|(refine hQ _ ?_;clear hQ Q)|(refine hQ _ (fun h=>?_) (fun h=>?_) <;> clear hQ Q <;> (try simp only [vki,reduceCtorEq] at h))|(refine kx ?_;kernel_rfl)|omega|assumption|with_reducible rfl|skip)))
 (simp only [vrt,Tryz.results50,vkt,seval,WV,R9,qY,eTr,mTr,mTk,qg,qf,mvL,lsL,ql,Qd7,List.length_map,List.map_nil];refine Fin.ok some [] ?_ ?_ ?_ ?_ ?_ rfl;all_goals (try simp only [vle,vkt,seval,WV,R9,qY,eTr,mTr,mTk,qg,qf,mvL,lsL,ql,Qd7,List.length_map,List.map_nil]))
 all_goals first|rfl|(simp;done)|exact fun i hi=>(match i,hi with|0,_=>rfl|1,_=>rfl)
theorem QeM (c:Chart) (a:Ask) (m:Nat):YK c a m=(lsF c a m [] 0).map (·.2):=by
 unfold YK lsF
 generalize Ja (yw c.sold).length m [] 0=L
 induction L with
 |nil=>rfl
 |cons l L ih =>
  rw [List.findSome?_cons,List.findSome?_cons]
  have hl:lsG c a l=(vQ c.cabins c.secs a (QX c l) c.sold).map fun t=>(l,t):=rfl
  rw [hl]
  cases vQ c.cabins c.secs a (QX c l) c.sold with
  |none=>exact ih
  |some t=>rfl
def Qm (c:Chart) (a:Ask) (many:Nat) (S:St):List AV→Option Pk
 |[.v (.int .i64 n),.v (.int .i64 m),.clo f [.ptr p3 0,.ptr p2 0,.ptr p4 0,.ptr p5 0]]=>match S.h p2 with
  |some (.cells [.ptr p0 0])=>match S.h p0 with
   |some (.cells [_,_,.row p1])=>some { pre:=n=(yw c.sold).length∧m=(many:Int)∧f=55∧LsOk c a [] 0 many,hs:=[p0,p1,p2,p3,p4,p5],ar:=[aI (yw c.sold).length,aI many,.clo 55 [.ptr 3 0,.ptr 2 0,.ptr 4 0,.ptr 5 0]],L0:=mvL c a [],v:=.tup [qD (((lsF c a many [] 0).map (·.1)).getD []),aB (lsF c a many [] 0).isSome],L1:=(mvL c a (((lsF c a many [] 0).map (·.2)).getD [])).map some }
   |_=>none
  |_=>none
 |_=>none
theorem Qkt {A:Frm→Prop} {c:Chart} {a:Ask} {many:Nat}:qC A Tryz.prog 50 (fnE (Qm c a many)):=wK fun S bs q h hp=>by
 unfold Qm at h
 split at h
 ·split at h
  ·split at h
   ·cases h
    exact QfU c a many hp.2.2.2
   ·cases h
  ·cases h
 ·cases h
theorem LF {c:Chart} {a:Ask} (h:wX c a=0) {t:List Tr} (ht:(List.range 3).findSome? (YK c a)=some t):QS c a=(t,0):=by
 unfold QS
 rw [if_neg (by simpa using h),ht]
theorem QaO {c:Chart} {a:Ask} (h:wX c a=0) (ht:(List.range 3).findSome? (YK c a)=none):QS c a=([],11):=by
 unfold QS
 rw [if_neg (by simpa using h),ht]
def mdS (c:Chart) (a:Ask) (k:Nat):St:={ t:=asg [(3,.ptr 1 0),(4,.nil),(5,aI 0),(6,.ptr 4 0),(8,.ptr 5 0),(24,aI k)],h:=qj [(1,.cells (ql a)),(2,qg c.cabins c.secs 3),(3,qf c.sold),(4,.cells [.ptr 2 0]),(5,.cells [.sl ((yw c.sold).map wz)])],n:=6 }
def ym:=kk @ty3 (kk @xg (kk @Zu (kk @WE (kk @Q0 (kk @Qd8 (kk @Qel (kk @Wl (kk @ti3.eq_1 (kk @y9.eq_1 (kk @QP.eq_1 (kk @Zr.eq_1 (kk @Ql.eq_1 (kk @UX.eq_1 (kk @UL.eq_1 @Zt.eq_1))))))))))))))
def Qw:=kk @aI.eq_1 (kk @aB.eq_1 (kk @qD.eq_1 (@QJ)))
set_option maxHeartbeats 1000000 in
theorem Qg9 (c:Chart) (a:Ask) (hc:c.cabins.length≤maxLen) (ha:a.sexes.length≤maxLen):FnV Tryz.prog 21 [qa c,qx a] (.tup [qY (QS c a).1,aI (QS c a).2]):=by
 have ec:(⟨c.cabins,c.secs,c.sold⟩:Chart)=c:=rfl
 have ea:(⟨a.party,a.frm,a.to,a.sexes,a.dog⟩:Ask)=a:=rfl
 by_cases h0:wX c a=0
 ·have hval:=(Za h0).val
  have hsx:=(Za h0).sx
  have h8:=hval.many
  have h100:c.sold.length≤100:=by omega
  have env0:Env (fun _=>True) Tryz.prog tyB (tab [(34,fnE zn),(54,za false ZW)]):=qO ⟨VT,elone,trivial⟩
  have env1:∀ k,Env (fun _=>True) Tryz.prog tyB (tab [(50,fnE (Qm c a k))]):=fun k=>qO ⟨Qkt,trivial⟩
  have env:=env0
  refine Fn.of (A:=fun _=>True) (n0:=0) (D:=noD) (Fn0 Tryz.func21 rfl (fun vs w=>by kernel_rfl) (by kernel_rfl)) (by simp) (by simp [AV.ids,AV.idsL,qa,qb,qx,ql]) (fun i o h=>by cases h) (fun _ _ _ _=>trivial) qG ?_
  repeat' (first|(apply nx;with_reducible constructor)|refine jq (by decide) ?_|((first|refine kz env fun Q hQ=>?_|refine kj fun Q hQ=>?_);simp only [vkt,seval,ym,Qw,qY,qa,qb,qx,ql,mTk,qc,qg,qf,qm,mvL,mdS,zn,ZW,Qm,List.length_map,List.map_nil,ec,ea,h0,h100];(try simp only [ite_and]);(repeat' (first|with_reducible assumption|refine And.intro ?_ ?_|intro hp));all_goals (first|(refine hQ _ ?_;clear hQ Q)|(refine hQ _ (fun h=>?_) (fun h=>?_) <;> clear hQ Q <;> (try simp only [vki,reduceCtorEq] at h))|(refine kx ?_;kernel_rfl)|omega|assumption|with_reducible rfl|skip)))
  refine zt (fun k:{ k:Nat // k≤3∧∀ j,j < k→YK c a j=none }=>mdS c a k.1) (fun k=>3 - k.1) ⟨0,Nat.zero_le _,fun j h=>absurd h (Nat.not_lt_zero _)⟩ ?_ fun ⟨k,hk,hno⟩=>?_
  ·(refine Le.ok some [] ?_;constructor;all_goals (try simp only [vle,vkt,seval,ym,Qw,qY,qa,qb,qx,ql,mTk,qc,qg,qf,qm,mvL,mdS,zn,ZW,Qm,List.length_map,List.map_nil]))
   all_goals first|rfl|(simp;done)
  simp only at hk hno ⊢
  clear env
  have env:=env1 k
  by_cases hk3:k < 3
  ·have d1:decide ((k:Int) < 3)=true:=decide_eq_true (by omega)
   have w1:IntKind.wrap .i64 ((k:Int)+1)=((k+1:Nat):Int):=by rw [wrap64 (by omega) (by omega)];rfl
   have hok:LsOk c a [] 0 k:=⟨hval,hsx,by simp;omega,.inl (Nat.zero_le _),by simp⟩
   have hN:=QeM c a k
   obtain ⟨o,ho⟩:∃ o,lsF c a k [] 0=o:=⟨_,rfl⟩
   rw [ho] at hN
   cases o with
   |none =>
    repeat' (first|(apply nx;with_reducible constructor)|refine jq (by decide) ?_|((first|refine kz env fun Q hQ=>?_|refine kj fun Q hQ=>?_);simp only [vkt,seval,ym,Qw,qY,qa,qb,qx,ql,mTk,qc,qg,qf,qm,mvL,mdS,zn,ZW,Qm,List.length_map,List.map_nil,d1,w1,hok,ho,Option.getD_none,Option.isSome_none,Option.map_none];(try simp only [ite_and]);(repeat' (first|with_reducible assumption|refine And.intro ?_ ?_|intro hp));all_goals (first|(refine hQ _ ?_;clear hQ Q)|(refine hQ _ (fun h=>?_) (fun h=>?_) <;> clear hQ Q <;> (try simp only [vki,reduceCtorEq] at h))|(refine kx ?_;kernel_rfl)|omega|assumption|with_reducible rfl|skip)))
    refine ⟨⟨k+1,hk3,fun j hj=>?_⟩,by show 3 - (k+1) < 3 - k;omega, ?_⟩
    ·rcases Nat.lt_or_eq_of_le (Nat.le_of_lt_succ hj) with h1|h1
     ·exact hno j h1
     ·rw [h1];exact hN
    ·(refine Le.ok some [] ?_;constructor;all_goals (try simp only [vle,vkt,seval,ym,Qw,qY,qa,qb,qx,ql,mTk,qc,qg,qf,qm,mvL,mdS,zn,ZW,Qm,List.length_map,List.map_nil]))
     all_goals first|rfl|(simp;done)
   |some t =>
    rw [LF h0 (fsr hno hk3 hN)]
    repeat' (first|(apply nx;with_reducible constructor)|refine jq (by decide) ?_|((first|refine kz env fun Q hQ=>?_|refine kj fun Q hQ=>?_);simp only [vkt,seval,ym,Qw,qY,qa,qb,qx,ql,mTk,qc,qg,qf,qm,mvL,mdS,zn,ZW,Qm,List.length_map,List.map_nil,d1,w1,hok,ho,Option.getD_some,Option.isSome_some,Option.map_some];(try simp only [ite_and]);(repeat' (first|with_reducible assumption|refine And.intro ?_ ?_|intro hp));all_goals (first|(refine hQ _ ?_;clear hQ Q)|(refine hQ _ (fun h=>?_) (fun h=>?_) <;> clear hQ Q <;> (try simp only [vki,reduceCtorEq] at h))|(refine kx ?_;kernel_rfl)|omega|assumption|with_reducible rfl|skip)))
    (simp only [vrt,Tryz.results21,vkt,seval,ym,Qw,qY,qa,qb,qx,ql,mTk,qc,qg,qf,qm,mvL,mdS,zn,ZW,Qm,List.length_map,List.map_nil];refine Fin.val rfl ?_;(try simp only [AV.le,AV.leL]))
    all_goals first|rfl|(simp;done)
  ·have d1:decide ((k:Int) < 3)=false:=decide_eq_false (by omega)
   rw [QaO h0 (Qam (fun j hj=>hno j (by omega)))]
   repeat' (first|(apply nx;with_reducible constructor)|refine jq (by decide) ?_|((first|refine kz env fun Q hQ=>?_|refine kj fun Q hQ=>?_);simp only [vkt,seval,ym,Qw,qY,qa,qb,qx,ql,mTk,qc,qg,qf,qm,mvL,mdS,zn,ZW,Qm,List.length_map,List.map_nil,d1];(try simp only [ite_and]);(repeat' (first|with_reducible assumption|refine And.intro ?_ ?_|intro hp));all_goals (first|(refine hQ _ ?_;clear hQ Q)|(refine hQ _ (fun h=>?_) (fun h=>?_) <;> clear hQ Q <;> (try simp only [vki,reduceCtorEq] at h))|(refine kx ?_;kernel_rfl)|omega|assumption|with_reducible rfl|skip)))
   (simp only [vrt,Tryz.results21,vkt,seval,ym,Qw,qY,qa,qb,qx,ql,mTk,qc,qg,qf,qm,mvL,mdS,zn,ZW,Qm,List.length_map,List.map_nil];refine Fin.val rfl ?_;(try simp only [AV.le,AV.leL]))
   all_goals first|rfl|(simp;done)
 ·have env:Env (fun _=>True) Tryz.prog tyB (tab [(34,fnE zn)]):=qO ⟨VT,trivial⟩
  refine Fn.of (A:=fun _=>True) (n0:=0) (D:=noD) (Fn0 Tryz.func21 rfl (fun vs w=>by kernel_rfl) (by kernel_rfl)) (by simp) (by simp [AV.ids,AV.idsL,qa,qb,qx,ql]) (fun i o h=>by cases h) (fun _ _ _ _=>trivial) qG ?_
  rw [show QS c a=([],wX c a) by unfold QS;rw [if_pos (by simpa using h0)]]
  repeat' (first|(apply nx;with_reducible constructor)|refine jq (by decide) ?_|((first|refine kz env fun Q hQ=>?_|refine kj fun Q hQ=>?_);simp only [vkt,seval,ym,Qw,qY,qa,qb,qx,ql,mTk,qc,qg,qf,qm,mvL,mdS,zn,ZW,Qm,List.length_map,List.map_nil,ec,ea,h0];(try simp only [ite_and]);(repeat' (first|with_reducible assumption|refine And.intro ?_ ?_|intro hp));all_goals (first|(refine hQ _ ?_;clear hQ Q)|(refine hQ _ (fun h=>?_) (fun h=>?_) <;> clear hQ Q <;> (try simp only [vki,reduceCtorEq] at h))|(refine kx ?_;kernel_rfl)|omega|assumption|with_reducible rfl|skip)))
  (simp only [vrt,Tryz.results21,vkt,seval,ym,Qw,qY,qa,qb,qx,ql,mTk,qc,qg,qf,qm,mvL,mdS,zn,ZW,Qm,List.length_map,List.map_nil];refine Fin.val rfl ?_;(try simp only [AV.le,AV.leL]))
  all_goals first|rfl|(simp;done)
theorem YL {cs:List Cabin} {a:Ask}:∀ (m:Nat) (sold:List Tk) (begun:List Bunk),∀ x ∈ wZ cs a m sold begun,x.1.length=begun.length+m
 |0,sold,begun,x,hx=>by
  simp only [wZ,List.mem_singleton] at hx
  subst hx;rfl
 |m+1,sold,begun,x,hx=>by
  rw [Qt,List.mem_flatMap] at hx
  obtain ⟨b,hb,hx⟩:=hx
  unfold gbL at hx
  split at hx
  ·rw [YL m _ _ x hx];simp;omega
  ·simp at hx
theorem QkB {c:Chart} {a:Ask} (h:a.sexes.length=1) {j:Nat} (hj:j < (plP c a).length):((plP c a).getD j default).1=[((plP c a).getD j default).1.getD 0 default]:=by
 have:=YL a.sexes.length c.sold [] _ (xV (l:=plP c a) (d:=default) hj)
 rw [h] at this
 generalize ((plP c a).getD j default).1=l at this ⊢
 match l,this with
 |[b],_=>rfl
theorem Wz (c:Chart) (a:Ask) (s:Int):(x8 c a s).length=(plP c (X7 a s)).length:=by simp [x8]
theorem Qby {c:Chart} {a:Ask} {s:Int} {j:Nat} (hj:j < (plP c (X7 a s)).length):(x8 c a s).getD j default=((plP c (X7 a s)).getD j default).1.getD 0 default:=by
 simp [x8,List.getD_eq_getElem?_getD,hj]
def opR (c:Chart) (a:Ask) (s:Int) (j:Nat):List (List DV):=((x8 c a s).take j).map qy
theorem QgG {c:Chart} {a:Ask} {s:Int} {j:Nat} (hj:j < (plP c (X7 a s)).length):opR c a s (j+1)=opR c a s j++[qy (((plP c (X7 a s)).getD j default).1.getD 0 default)]:=by
 unfold opR
 rw [← Qby hj,List.take_succ_eq_append_getElem (by rw [Wz];exact hj),List.map_append]
 simp [List.getD_eq_getElem?_getD,show j < (x8 c a s).length by rw [Wz];exact hj]
theorem jc (c:Chart) (a:Ask) (s:Int) (j:Nat):wJ 2 (opR c a s j)=True:=by
 unfold opR
 exact wo _
theorem K9 (c:Chart) (a:Ask) (k:Nat):(ZE c a k).length=k:=by simp [ZE]
theorem QeE (c:Chart) (a:Ask):(Jd c a).length=(a.to - a.frm).toNat:=K9 _ _ _
theorem Qds {c:Chart} {a:Ask} {i:Nat} (hi:i < (a.to - a.frm).toNat) (h:x8 c a (a.frm+i)=[]):(Jd c a).any (·.isEmpty)=true:=by
 rw [List.any_eq_true]
 refine ⟨_,List.mem_map.2 ⟨i,List.mem_range.2 hi,rfl⟩, ?_⟩
 show (x8 c a (a.frm+i)).isEmpty=true
 rw [h];rfl
theorem QeC {c:Chart} {a:Ask} (h:∀ i,i < (a.to - a.frm).toNat→x8 c a (a.frm+i) ≠ []):(Jd c a).any (·.isEmpty)=false:=by
 rw [List.any_eq_false]
 intro l hl
 obtain ⟨i,hi,rfl⟩:=List.mem_map.1 hl
 have:=h i (List.mem_range.1 hi)
 simpa using this
theorem Qdh {c:Chart} {a:Ask} (h:wX c a=0):0≤a.frm∧a.frm < a.to∧a.to≤c.secs:=by
 have hk:=(Q7 h).2
 unfold kW at hk
 split at hk
 ·exact absurd hk (by decide)
 split at hk
 ·exact absurd hk (by decide)
 split at hk
 ·exact absurd hk ‹_›
 rename_i h3
 exact Ua (Decidable.not_not.1 h3)
theorem U9 {c:Chart} {a:Ask} (h:wX c a=0) (s:Int):PlOk c (X7 a s):=⟨(Za h).val,(Za h).sx⟩
theorem BhOk.mono {L:List (List Bunk)} {es:List (Value × Value)} {i j:Nat} (h:BhOk L es i) (hij:i≤j):BhOk L es j:=⟨h.ok,fun k h1 h2=>h.look k (by omega) h2⟩
theorem Qdq {c:Chart} {a:Ask} (h:wX c a=0):∀ l ∈ Jd c a,l.length≤1000:=by
 intro l hl
 obtain ⟨i,hi,rfl⟩:=List.mem_map.1 hl
 rw [Wz]
 have:=QbK (U9 h (a.frm+i))
 omega
def chC (L:List (List Bunk)) (k:Nat):Int:=if k=0 then 0 else (yY L ⟨-1,0⟩).2 - 1
def mks:Nat→List (Nat × AObj)
 |0=>[]
 |k+1=>(20+k,.mark) :: mks k
def dks:Nat→List ADf
 |0=>[]
 |k+1=>.mark (20+k) :: dks k
def chT (s:Int):List (Nat × AV):=[(3,.ptr 1 0),(4,.nil),(5,aI 0),(6,aI 0),(7,.ptr 2 0),(8,.ptr 4 0),(9,aI s)]
def chS (c:Chart) (a:Ask) (i:Nat):St:={ t:=asg (chT (a.frm+i)),h:=qj ([(1,.cells (ql a)),(2,qg c.cabins c.secs 3),(3,qf c.sold),(4,.cells [.row 5]),(5,.row 43 1 ((ZE c a i).map qB))]++mks i),n:=25,d:=dks i }
def crL0 (s:Int):List (Nat × AV):=chT s++[(11,.ptr 26 0),(56,.clo 67 [.ptr 27 0,.ptr 28 0])]
def crL (s:Int):List (Nat × AV):=chT s++[(11,.ptr 26 0)]
def crH (c:Chart) (a:Ask) (T:List (Nat × AObj)) (i j:Nat):List (Nat × AObj):=[(1,.cells (ql a)),(4,.cells [.row 5]),(5,.row 43 1 ((ZE c a i).map qB)),(26,.cells [.row 29]),(29,.row 28 2 (opR c a (a.frm+i) j))]++T
theorem Ls (c:Chart) (a:Ask):zf [2,3,27,28] 31 0 (plL c a)=[(2,qg c.cabins c.secs 3),(3,qf c.sold),(27,.cells [.ptr 2 0]),(28,.cells (ql a))]:=by
 simp [zf,plL,qz,AObj.ren,AV.renL,AV.ren,qg,qf,ql]
theorem Ru (c:Chart) (a:Ask) (j:Nat):zf [2] 31 0 (plH c a j)=[(2,qg c.cabins c.secs 31),(31,qf ((plP c a).getD j default).2)]:=by
 simp [zf,plH,qm,qz,AObj.ren,AV.renL,AV.ren,qg,qf]
def c2O (L:List (List Bunk)) (es:List (Value × Value)):List (Nat × AObj):=[(4,.cells [.row 5]),(5,.row 43 1 (L.map qB)),(25,.map es),(26,.cells [.mp 25])]
def c2T:List (Nat × AV):=[(4,.nil),(5,aI 0),(6,aI 0),(8,.ptr 4 0),(13,.ptr 26 0),(14,.clo 41 [.ptr 4 0,.ptr 26 0])]
def c2S (T:List (Nat × AObj)) (D:List ADf) (L:List (List Bunk)) (es:List (Value × Value)) (y:Nat):St:={ t:=asg (c2T++[(15,aI ((y:Int) - 1))]),h:=qj (c2O L es++T),n:=27,d:=D }
def c3S (T:List (Nat × AObj)) (D:List ADf) (L:List (List Bunk)) (es:List (Value × Value)) (A:Nat) (l:List Bunk) (k:Nat):St:={ t:=asg (c2T++[(15,aI (A:Nat)),(83,qd l),(84,aI l.length),(85,aI k)]),h:=qj (c2O L es++T),n:=27,d:=D }
def c4S (T:List (Nat × AObj)) (D:List ADf) (L:List (List Bunk)) (es:List (Value × Value)) (k:Nat):St:={ t:=asg [(4,.row 27),(5,aI (chC L k)),(6,aI 0),(8,.ptr 4 0),(13,.ptr 26 0),(14,.clo 41 [.ptr 4 0,.ptr 26 0]),(103,aI L.length),(104,aI k)],h:=qj (c2O L es++(27,.row 28 2 ((wkK L k).map qy)) :: T),n:=28,d:=D }
def qN:=kk @ty3 (kk @ty4 (kk @xg (kk @QU (kk @Zu (kk @WE (kk @YM (kk @Q0 (kk @Qfb (kk @Qi5 (kk @QiZ (kk @ti3.eq_1 (kk @ti4.eq_1 (kk @y9.eq_1 (kk @Qi.eq_1 (kk @QP.eq_1 (kk @Zr.eq_1 (kk @JN.eq_1 (kk @Ql.eq_1 (kk @QaG.eq_1 (kk @QaB.eq_1 @Qau.eq_1))))))))))))))))))))
def wu:=kk @aI.eq_1 (kk @aB.eq_1 (kk @fnQ.eq_1 (kk @QfM.eq_1 (kk @QfM.eq_2 (@QJ)))))
end Go.Sym.B
