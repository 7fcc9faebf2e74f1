/- Walks and what they compute, joined: part 2. -/
import Derived.Test.YtcmfagpdahhfpaaGreatDoorZS3
import Derived.Test.YtcmfagpdahhfpaaGreatDoorProg
import Derived.KernelRfl
import Derived.Shelf.Strings.OnBuilder
import Derived.Shelf.Strconv.Itoa3
import Derived.Shelf.Strconv.AtoiAll
import Derived.Shelf.Strings.Split
import Derived.Shelf.Strings.Cut
import Derived.Test.YtcmfagpdahhfpaaGreatDoorZB1
set_option linter.all false
set_option maxHeartbeats 40000000
namespace Go.Sym.B
open Go Go.Sym Go.Proofs Go.Proofs.Tryz Go.Sym.C
def Vf {A:Frm->Prop}:qm A prog 78 (fnE yB):=zJ fun S bs q h hp=>by
 unfold yB at h
 split at h
 ·rename_i a0 a1 a2 a3 a4
  split at h
  ·split at h
   ·rename_i cs s _ _ _ _ _ xs _
    cases h
    obtain ⟨h1,h2,h3⟩:=hp
    have:=Qfn ⟨cs.map qh,s,xs.map dTk⟩ ⟨a0,a1,a2,a3.map zI,a4⟩
    simp only [zl,qo,<- h3] at this
    exact this
   ·cases h
  ·cases h
 ·cases h
def UI {N:Nat}:Rounds (fun _=>true) N N:=⟨aw _,fun _ _=>rfl,fun h=>absurd h (du _)⟩
def Qgo {Z β:Type} {f:Z->List β} {M:Nat}:∀ {l:List Z},(∀ a ∈ l,(f a).length<=M)->(l.flatMap f).length<=l.length * M
 |[],_=>by simp
 |a :: l,h=>by
  have h1:=Qgo (l:=l) fun b hb=>h b (aZ _ hb)
  have h2:=h a ba
  rw [ca,aA,bi,cF];omega
def QaO (cs:List Cabin) (a:Ask) {K:Nat} (hK:(qZ cs).length<=K):∀ (m:Nat) (sold:List Tk) (begun:List Bunk),(zS cs a m sold begun).length<=K ^ m
 |0,_,_=>by simp [zS]
 |m+1,sold,begun=>by
  have h1:(zS cs a (m+1) sold begun).length<=(qZ cs).length * K ^ m:=Qgo fun b _=>by
   split
   ·exact QaO cs a hK m _ _
   ·simp
  rw [Nat.pow_succ,ce (K ^ m) K]
  exact aN h1 (aM _ hK)
def QfZ {cs:List Cabin} (h1:cs.length<=3) (h2:∀ x ∈ cs,x.beds<=3):(qZ cs).length<=9:=by
 rw [JI]
 refine aN (Qgo (M:=3) fun i hi=>?_) (by rw [dw];omega)
 rw [ao,dw]
 have:=h2 _ (vG (d:=default) (aY.1 hi))
 omega
def Qbj {c:Chart} {a:Ask} (h:PlOk c a):(plP c a).length<=729:=by
 have h1:=QaO c.cabins a (QfZ h.val.car.cabs.2 fun x hx=>(h.val.car.beds x hx).2) a.sexes.length c.sold []
 refine aN h1 ?_
 have:=h.sx
 exact aN (Nat.pow_le_pow_right (by omega) this) (by decide)
def plR (c:Chart) (a:Ask) (j:Nat):List (List DV):=((plP c a).take j).map fun x=>zM x.1
def Qhc {c:Chart} {a:Ask} {j:Nat} (h:j < (plP c a).length):plR c a (j+1)=plR c a j++[zM ((plP c a).getD j default).1]:=by
 unfold plR
 rw [bQ h,aq]
 simp [ai,h]
def Qm7 (c:Chart) (a:Ask) (j:Nat):zu 1 (plR c a j)=True:=by
 unfold plR
 exact yo (f:=fun x:List Bunk × List Tk=>zM x.1) (k:=1) (fun _=>rfl) _
def aqL:List (Nat × AV):=[(2,.ptr 4 0)]
def aqL0:List (Nat × AV):=[(2,.ptr 4 0),(6,.clo 140 [.ptr 2 0,.ptr 3 0])]
def aqH (c:Chart) (a:Ask) (j:Nat):List (Nat × AObj):=[(4,.cells [.row 5]),(5,.row 65 1 (plR c a j))]
def Qat (c:Chart) (a:Ask):qU [0,1,2,3] 7 0 (plL c a)=[(0,qg c.cabins c.secs 1),(1,qf c.sold),(2,.cells [.ptr 0 0]),(3,.cells (qo a))]:=by
 simp [qU,plL,qj,AObj.ren,AV.renL,AV.ren,qg,qf,qo]
def Qc3 (c:Chart) (a:Ask) (j:Nat):qU [0] 7 0 (plH c a j)=[(0,qg c.cabins c.secs 7),(7,qf ((plP c a).getD j default).2)]:=by
 simp [qU,plH,qJ,qj,AObj.ren,AV.renL,AV.ren,qg,qf]
def Zw:=jv @ty59 (jv @Vy (jv @QaZ.eq_1 @JY.eq_1))
def Qfk {c:Chart} {a:Ask} (h:PlOk c a):Fn noB prog 139 [.nil,.clo 140 [.ptr 2 0,.ptr 3 0]] (qb (qB 0 (plL c a))) (.row 4) (qb (ze 0 ((plL c a).map some++[some (.row 65 1 (plR c a (plP c a).length))]))) 0:=by
 have env:Env (fun F=>F.r=none) prog tyB (tab []):=qA trivial
 refine Fn.of (A:=fun F=>F.r=none) (n0:=4) (D:=noD) (Fn0 func139 rfl (fun vs w=>by kernel_rfl) (by kernel_rfl)) (by simp) (by simp [AV.ids,AV.idsL]) Ur (fun _ _ _ h=>h) qX ?_
 have hbd:=Qbj h
 have hm:(729:Nat)+1<=maxLen:=by decide
 obtain ⟨N,hN⟩:∃ N,(plP c a).length=N:=⟨_,rfl⟩
 rw [hN] at hbd ⊢
 show Sym _ _ _ (qV [.nil,.clo 140 [.ptr 2 0,.ptr 3 0]] 4 (qb [(0,qg c.cabins c.secs 1),(1,qf c.sold),(2,.cells [.ptr 0 0]),(3,.cells (qo a))])) (yc tyB noD Tryz.f139 fun S rv=>Fin S rv _ 4 (qb [(0,qg c.cabins c.secs 1),(1,qf c.sold),(2,.cells [.ptr 0 0]),(3,.cells (qo a)),(4,.row 65 1 (plR c a N))]) 0)
 repeat' first|(apply nx;with_reducible constructor)|apply jq (by decide)|((first|apply jz env|apply jw);intro Q hQ;simp only [vkt,seval,qg,qf,ite_and];(repeat' first|with_reducible assumption|apply jv|intro hp);all_goals first|(apply hQ;clear hQ Q)|(apply jx;kernel_rfl)|omega|assumption|rfl|skip)
 refine ve (S':={ t:=asg aqL0,h:=qb (aqH c a 0++[(0,qg c.cabins c.secs 1),(1,qf c.sold),(2,.cells [.ptr 0 0]),(3,.cells (qo a))]),n:=6,j:=0,d:=[],m:=4 }) ?_ ?_
 ·show Le _ { t:=asg [(2,.ptr 4 0),(6,.clo 140 [.ptr 2 0,.ptr 3 0])],h:=qb [(4,.cells [.row 5]),(5,.row 65 1 []),(0,qg c.cabins c.secs 1),(1,qf c.sold),(2,.cells [.ptr 0 0]),(3,.cells (qo a))],n:=6,j:=0,d:=[],m:=4 }
  (refine Le.ok (fun i=>if i=5 then none else some i) [] ?_;constructor;all_goals (try simp only [vle,vkt,seval,qg,qf]))
  all_goals first|rfl|(simp [qo,AV.leL,AV.le,AV.idsL,AV.ids];done)|(intro i hi;rw [if_neg (by omega)];done)
 rw [<- Qat c a]
 refine vw (fun F h=>h) 1 (L:=aqL0) (L':=aqL) (xs:=[1,2,3]) (hs:=[0,1,2,3]) (n:=6) (nl:=1) (hc:=aqH c a) (Lp:=plL c a) (jj:=fun _=>0) (d:=[]) (ys:=plY c a) (hl:=plH c a) (ans:=fun _=>true) (ex:=.ret) (caps:=[.ptr 2 0,.ptr 3 0]) (caps0:=[.ptr 2 0,.ptr 3 0]) (N:=(plP c a).length) (R:=N) (A':=fun _ _=>True) rfl (Wz h) (by rw [hN];exact UI) (.inl rfl) ?_ ?_ ?_ rfl (by simp) ?_ (by simp) (fun _ _ _ _ _ _=>trivial) ?_ ?_ ?_ ?_ ?_ ?_ (fun j hj=>?_) ?_ (fun j hj=>?_) (fun _=>?_) (fun _ h=>by cases h)
 ·simp [AV.leL,AV.le]
 ·simp [AV.nocbL,AV.nocb]
 ·simp [WS,plL,qg,qf,qo,AObj.nocb,AV.nocbL,AV.nocb,AObj.ids,AV.ids,AV.idsL,AObj.ren,AV.renL,AV.ren,AObj.le,AV.leL,AV.le,qj]
 ·simp [aqH,qb]
 ·simp [aqH,qb]
 ·simp [aqH,AObj.ids,AV.ids,AV.idsL]
 ·simp [QaA,aqL,aqL0,asg]
 ·simp [QbF]
 ·intro j hj
  simp [absent,aqH,Qc3]
 ·simp [Yw,aqL,AV.ids]
 ·refine ⟨?_,rfl, ?_, ?_,rfl, ?_⟩
  ·simp [kZ,aqH,AObj.ids,AV.ids,AV.idsL]
  ·simp [ZZ,plH,qJ,qg,qf,AObj.nocb,AV.nocbL,AV.nocb,AObj.ids,AV.ids,AV.idsL]
  ·simp [V8,plY,qc,AV.nocb,AV.ids]
  ·simp [kX,WT,Qc3,aqH,aqL,vW,AV.ids,ADf.ids,bC]
 ·simp [kZ,aqH,AObj.ids,AV.ids,AV.idsL]
 ·have env:Env (fun _:Frm=>True) prog tyB (tab []):=qA trivial
  obtain ⟨x,hx⟩:∃ x,((plP c a).getD j default).1=x:=⟨_,rfl⟩
  have hS:=Qhc (c:=c) (a:=a) (j:=j) (by omega)
  rw [hx] at hS
  have hl:(plR c a j).length<=729:=by simp [plR];omega
  have hl1:(plR c a j).length+1<=maxLen:=by omega
  have hst:wV aqL [7] [0] 6 1 (plY c a j) (aqH c a j) (plH c a j)={ t:=asg [(7,qc x),(2,.ptr 4 0)],h:=qb [(6,.mark),(4,.cells [.row 5]),(5,.row 65 1 (plR c a j)),(0,qg c.cabins c.secs 7),(7,qf ((plP c a).getD j default).2)],n:=8,m:=8 }:=by
   simp only [wV,plY,hx,qc,aj,au,AV.ren,cn,cz,aqH,aqL,QE,aQ,aF]
   rfl
  show Sym _ _ _ (wV aqL [7] [0] 6 1 (plY c a j) (aqH c a j) (plH c a j)) _
  rw [hst]
  obtain ⟨r,hr⟩:∃ r,((plP c a).getD j default).2=r:=⟨_,rfl⟩
  rw [hr]
  repeat' first|(apply nx;with_reducible constructor)|apply jq (by decide)|((first|apply jz env|apply jw);intro Q hQ;simp only [vkt,seval,Zw,qc,qg,qf,Qm7,hl1,ite_and];(repeat' first|with_reducible assumption|apply jv|intro hp);all_goals first|(apply hQ;clear hQ Q)|(apply jx;kernel_rfl)|omega|assumption|rfl|skip)
  refine ⟨rfl,rfl,(fun i=>if i=5 then some 9 else some i),_,RFin.okQ (fun i=>if i=5 then some 9 else some i) [] ?_⟩
  constructor
  all_goals (try simp only [vle,vO,vC,qj,plH,aqH,hr,hS,zM,vkt,seval,zM,qg,qf,qJ,aqL])
  all_goals first|rfl|(simp;done)|(simp [vW,AV.ids,ADf.ids,bC];done)
 ·have eh:qb ((6,AObj.mark) :: aqH c a N++qU [0,1,2,3] (6+1) 0 (plL c a))=qb [(6,.mark),(4,.cells [.row 5]),(5,.row 65 1 (plR c a N)),(0,qg c.cabins c.secs 1),(1,qf c.sold),(2,.cells [.ptr 0 0]),(3,.cells (qo a))]:=by
   rw [show qU [0,1,2,3] (6+1) 0 (plL c a)=qU [0,1,2,3] 7 0 (plL c a) from rfl,Qat];rfl
  rw [eh]
  repeat' first|(apply nx;with_reducible constructor)|apply jq (by decide)|((first|apply jz env|apply jw);intro Q hQ;simp only [vkt,seval,Zw,qg,qf,aqL,ite_and];(repeat' first|with_reducible assumption|apply jv|intro hp);all_goals first|(apply hQ;clear hQ Q)|(apply jx;kernel_rfl)|omega|assumption|rfl|skip)
  (simp only [vrt,results139,vkt,seval,qg,qf];refine Fin.ok (fun j=>[0,1,2,3,5][j]?) [] ?_ ?_ ?_ ?_ ?_ rfl;all_goals (try simp only [vle,vkt,seval]))
  all_goals first|rfl|(simp [qo,AV.leL,AV.le];done)|exact fun i hi=>(match i,hi with|0,_=>rfl|1,_=>rfl|2,_=>rfl|3,_=>rfl)
def Y3 (c:Chart) (a:Ask) (S:St):List AV->Option Pk
 |[.nil,.clo f [.ptr p2 0,.ptr p3 0]]=>match S.h p2 with
  |some (.cells [.ptr p 0])=>match S.h p with
   |some (.cells [_,_,.row r])=>some { pre:=f=140/\PlOk c a,hs:=[p,r,p2,p3],ar:=[.nil,.clo 140 [.ptr 2 0,.ptr 3 0]],L0:=plL c a,v:=.row 4,L1:=(plL c a).map some++[some (.row 65 1 (plR c a (plP c a).length))] }
   |_=>none
  |_=>none
 |_=>none
def QjK {A:Frm->Prop} {c:Chart} {a:Ask}:qm A prog 139 (fnE (Y3 c a)):=zJ fun S bs q h hp=>by
 unfold Y3 at h
 split at h
 ·split at h
  ·split at h
   ·cases h;exact Qfk hp.2
   ·cases h
  ·cases h
 ·cases h
def Qa6 {c:Chart} {a:Ask} (h:PlOk c a):Fn noB prog 77 [.clo 140 [.ptr 2 0,.ptr 3 0]] (qb (qB 0 (plL c a))) (.row 4) (qb (ze 0 ((plL c a).map some++[some (.row 65 1 (plR c a (plP c a).length))]))) 0:=by
 have env:Env (fun _=>True) prog tyB (tab [(139,fnE (Y3 c a))]):=qA ⟨QjK,trivial⟩
 refine Fn.of (A:=fun _=>True) (n0:=4) (D:=noD) (Fn0 func77 rfl (fun vs w=>by kernel_rfl) (by kernel_rfl)) (by simp) (by simp [AV.ids,AV.idsL]) Ur (fun _ _ _ _=>trivial) qX ?_
 obtain ⟨X,hX⟩:∃ X,plR c a (plP c a).length=X:=⟨_,rfl⟩
 rw [hX]
 show Sym _ _ _ (qV [.clo 140 [.ptr 2 0,.ptr 3 0]] 4 (qb [(0,qg c.cabins c.secs 1),(1,qf c.sold),(2,.cells [.ptr 0 0]),(3,.cells (qo a))])) (yc tyB noD Tryz.f77 fun S rv=>Fin S rv _ 4 (qb [(0,qg c.cabins c.secs 1),(1,qf c.sold),(2,.cells [.ptr 0 0]),(3,.cells (qo a)),(4,.row 65 1 X)]) 0)
 repeat' first|(apply nx;with_reducible constructor)|apply jq (by decide)|((first|apply jz env|apply jw);intro Q hQ;simp only [vkt,seval,qo,qg,qf,plL,Y3,h,hX,ite_and];(repeat' first|with_reducible assumption|apply jv|intro hp);all_goals first|(apply hQ;clear hQ Q)|(apply jx;kernel_rfl)|omega|assumption|rfl|skip)
 (simp only [vrt,results77,vkt,seval,qo,qg,qf];refine Fin.ok some [] ?_ ?_ ?_ ?_ ?_ rfl;all_goals (try simp only [vle,vkt,seval]))
 all_goals first|rfl|(simp [qo,AV.leL,AV.le];done)|exact fun i hi=>(match i,hi with|0,_=>rfl|1,_=>rfl|2,_=>rfl|3,_=>rfl)
def JS (c:Chart) (a:Ask) (S:St):List AV->Option Pk
 |[.clo f [.ptr p2 0,.ptr p3 0]]=>match S.h p2 with
  |some (.cells [.ptr p 0])=>match S.h p with
   |some (.cells [_,_,.row r])=>some { pre:=f=140/\PlOk c a,hs:=[p,r,p2,p3],ar:=[.clo 140 [.ptr 2 0,.ptr 3 0]],L0:=plL c a,v:=.row 4,L1:=(plL c a).map some++[some (.row 65 1 (plR c a (plP c a).length))] }
   |_=>none
  |_=>none
 |_=>none
def Qgn {A:Frm->Prop} {c:Chart} {a:Ask}:qm A prog 77 (fnE (JS c a)):=zJ fun S bs q h hp=>by
 unfold JS at h
 split at h
 ·split at h
  ·split at h
   ·cases h;exact Qa6 hp.2
   ·cases h
  ·cases h
 ·cases h
def QgB {c:Chart} {a:Ask} (h:Q9 c a=0):a.sexes.length<=3/\1<=a.sexes.length:=by
 unfold Q9 at h
 split at h
 ·exact absurd h (by decide)
 split at h
 ·exact absurd h (by decide)
 split at h
 ·exact absurd h ‹_›
 split at h
 ·exact absurd h ‹_›
 rename_i h4
 have h4:=Decidable.not_not.1 h4
 unfold zG at h4
 split at h4
 ·exact absurd h4 (by decide)
 ·split at h4
  ·exact absurd h4 (by decide)
  ·omega
def Zq {c:Chart} {a:Ask} (h:wz c a=0):PlOk c a:=⟨Ze (Qe h).1,(QgB (Qe h).2).1⟩
def Vi (c:Chart) (a:Ask):List (List Bunk):=if wz c a=0 then (plP c a).map (·.1) else []
def JQ:=jv @jm (jv @Qa (jv @Jp (jv @wY.eq_1 (jv @xQ.eq_1 @ZG.eq_1))))
def Y1:=jv @aI.eq_1 (jv @aB.eq_1 (@Ju))
def Qfs (c:Chart) (a:Ask) (hc:c.cabins.length<=maxLen) (ha:a.sexes.length<=maxLen):Fn noB prog 27 [qd c,zl a] noH (.tup [.row 0,aI (wz c a)]) (qb [(0,.row 65 1 ((Vi c a).map zM))]) 0:=by
 have env:Env (fun _=>True) prog tyB (tab [(76,fnE yg),(78,fnE yB),(77,fnE (JS c a))]):=qA ⟨Vv,Vf,Qgn,trivial⟩
 refine Fn.of (A:=fun _=>True) (n0:=0) (D:=noD) (Fn0 func27 rfl (fun vs w=>by kernel_rfl) (by kernel_rfl)) (by simp) (by simp [AV.ids,AV.idsL,qd,qa,zl,qo]) (fun i o h=>by cases h) (fun _ _ _ _=>trivial) qX ?_
 have ec:(⟨c.cabins,c.secs,c.sold⟩:Chart)=c:=rfl
 have ea:(⟨a.party,a.frm,a.to,a.sexes,a.dog⟩:Ask)=a:=rfl
 unfold Vi
 by_cases h0:wz c a=0
 ·have hok:=Zq h0
  rw [if_pos h0,h0]
  obtain ⟨X,hX⟩:∃ X,plR c a (plP c a).length=X:=⟨_,rfl⟩
  have hXe:(List.map (fun x=>x.1) (plP c a)).map zM=X:=by rw [<- hX];unfold plR;rw [bO,bT];rfl
  rw [hXe]
  repeat' first|(apply nx;with_reducible constructor)|apply jq (by decide)|((first|apply jz env|apply jw);intro Q hQ;simp only [vkt,seval,JQ,Y1,qd,qa,zl,qo,mTk,qC,qg,qf,qJ,plL,yg,yB,JS,ec,ea,h0,hok,hX,ite_and];(repeat' first|with_reducible assumption|apply jv|intro hp);all_goals first|(apply hQ;clear hQ Q)|(apply jx;kernel_rfl)|omega|assumption|rfl|skip)
  (simp only [vrt,results27,vkt,seval,Y1];refine Fin.ok (fun j=>[6][j]?) [] ?_ ?_ ?_ ?_ ?_ rfl;all_goals (try simp only [vle,vkt,seval]))
  all_goals first|rfl|simp
 ·rw [if_neg h0]
  repeat' first|(apply nx;with_reducible constructor)|apply jq (by decide)|((first|apply jz env|apply jw);intro Q hQ;simp only [vkt,seval,JQ,Y1,qd,qa,zl,qo,mTk,qC,yg,ec,ea,h0,ite_and];(repeat' first|with_reducible assumption|apply jv|intro hp);all_goals first|(apply hQ;clear hQ Q)|(apply jx;kernel_rfl)|omega|assumption|rfl|skip)
  (simp only [vrt,results27,vkt,seval,Y1];refine Fin.ok (fun _=>none) [] ?_ ?_ ?_ ?_ ?_ rfl;all_goals (try simp only [vle,vkt,seval]))
  all_goals first|rfl|simp
def aU (n:Int):AV:=.v (.int .u64 n)
def QhN (a b:Int):Int:=IntKind.wrap .u64 (BitVec.ofInt IntKind.u64.bits a ||| BitVec.ofInt IntKind.u64.bits (IntKind.wrap .u64 (1 * 2 ^ min b.toNat IntKind.u64.bits))).toNat
def Qar:=jv @QiR @XX.eq_1
def QcX:=jv @aI.eq_1 (jv @aB.eq_1 (@aU.eq_1))
def Qhm (a b:Int) (hb:0<=b):FnV prog 170 [aU a,aI b] (aU (QhN a b)):=by
 have env:=qA (A:=fun _=>True) kN
 refine kV (Fn0 func170 rfl (fun vs w=>by kernel_rfl) (by kernel_rfl)) (by simp) (by simp [AV.ids,aU,aI]) ?_
 repeat' first|(apply nx;with_reducible constructor)|apply jq (by decide)|((first|apply jz env|apply jw);intro Q hQ;simp only [vkt,seval,Qar,QcX,hb,ite_and];(repeat' first|with_reducible assumption|apply jv|intro hp);all_goals first|(apply hQ;clear hQ Q)|(apply jx;kernel_rfl)|omega|assumption|rfl|skip)
 (simp only [vrt,results170,vkt,seval,QcX];refine Fin.val rfl ?_;(try simp only [AV.le]))
 all_goals first|rfl|simp
def Qb4:List AV->Prop × AV
 |[.v (.int .u64 a),.v (.int .i64 b)]=>(0<=b,aU (QhN a b))
 |_=>(False,.junk)
def QlY {A:Frm->Prop}:qm A prog 170 (zw true Qb4):=qL fun vs hv h=>by
 clear hv
 unfold Qb4 at h ⊢
 split at h
 ·exact ⟨by simp [aU,AV.plain],fun _=>by simp [aU,AV.flat],Qhm _ _ h⟩
 ·exact h.elim
def QgS (p:List Int):(p.map aU).all jh=true:=by simp [aU,jh]
def Zd:∀ p:List Int,AV.idsL (p.map aU)=[]
 |[]=>rfl
 |x :: p=>by rw [aj,AV.idsL,Zd p];rfl
def Zt (h:Nat->Option AObj) (σ:Nat->Option Nat):∀ p:List Int,AV.leL h σ (p.map aU) (p.map aU)=True
 |[]=>by simp [AV.leL]
 |x :: p=>by simp [AV.leL,AV.le,aU,Zt h σ p]
def U4:∀ p:List Int,AV.plainL (p.map aU)=True
 |[]=>by simp [AV.plainL]
 |x :: p=>by simp [AV.plainL,AV.plain,aU,U4 p]
def QdG:∀ p:List Int,AV.flatL (p.map aU)=True
 |[]=>by simp [AV.flatL]
 |x :: p=>by simp [AV.flatL,AV.flat,aU,QdG p]
def Qir {p:List Int} {i:Nat} (h:i < p.length):(((p.map aU).drop i).take 1).headD .junk=aU (p.getD i 0):=by
 rw [cm (by simpa using h)]
 simp [ai,h]
def Qmt {p:List Int} {i:Nat} {n:Int} (h:i < p.length):(p.map aU).take i++[aU n]++(p.map aU).drop (i+1)=(p.set i n).map aU:=by
 apply cN
 intro j
 rw [List.set_eq_take_append_cons_drop,if_pos h]
 simp
structure Van (c:Chart):Prop where
 car:CarOk c
 many:c.sold.length<=100
 tk:∀ t ∈ c.sold,TkOk c t
def Val.van {c:Chart} (h:Val c):Van c:=⟨h.car,by have:=h.many;omega,h.tk⟩
def ZW (s:Int) (h:List Int) (t:Tk):List Int:=if inB s t.frm (t.to - 1) then h.set t.cab.toNat (QhN (h.getD t.cab.toNat 0) t.bed) else h
def QF (l:List Tk) (s:Int) (k:Nat):List Int:=(l.take k).foldl (ZW s) [0,0,0]
def Jk {l:List Tk} {s:Int} {k:Nat} (h:k < l.length):QF l s (k+1)=ZW s (QF l s k) (l.getD k default):=by
 unfold QF
 rw [bQ h,dQ]
 simp [ai,h]
def ky (l:List Tk) (s:Int):∀ k,k<=l.length->(QF l s k).length=3
 |0,_=>rfl
 |k+1,h=>by
  rw [Jk (by omega),ZW]
  split
  ·rw [List.length_set];exact ky l s k (by omega)
  ·exact ky l s k (by omega)
def heT (c:Chart) (s:Int) (k:Nat):St:={ t:=asg [(1,aI s),(4,.ptr 1 0),(5,.ptr 2 0),(10,qy c.sold),(11,aI c.sold.length),(12,aI k)],h:=qb [(0,.cells (qa c)),(1,.cells [aU 0,aU 0,aU 0]),(2,.cells ((QF c.sold s k).map aU))],n:=3 }
def yA:=jv @ty3 (jv @vJ (jv @jm (jv @vS (jv @jC (jv @QiR (jv @QlF (jv @ti3.eq_1 (jv @yI.eq_1 (jv @wY.eq_1 (jv @yG.eq_1 (jv @je.eq_1 (jv @XX.eq_1 @LW.eq_1))))))))))))
def Q0:=jv @aI.eq_1 (jv @aB.eq_1 (@aU.eq_1))
def Qem (c:Chart) (s:Int) (hv:Van c):FnV prog 136 [qd c,aI s] (.agg ((QF c.sold s c.sold.length).map aU)):=by
 have env:=qA (A:=fun _=>True) (kC ein (kC QlY kN))
 refine kV (Fn0 func136 rfl (fun vs w=>by kernel_rfl) (by kernel_rfl)) (by simp) (by simp [AV.ids,AV.idsL,qd,qa,aI]) ?_
 have hsl:=hv.many
 repeat' first|(apply nx;with_reducible constructor)|apply jq (by decide)|((first|apply jz env|apply jw);intro Q hQ;simp only [vkt,seval,yA,Q0,qd,qa,ite_and];(repeat' first|with_reducible assumption|apply jv|intro hp);all_goals first|(apply hQ;clear hQ Q)|(apply jx;kernel_rfl)|omega|assumption|rfl|skip)
 refine qN (fun k:{ k:Nat // k<=c.sold.length }=>heT c s k.1) (fun k=>c.sold.length - k.1) ⟨0,ag _⟩ ?_ fun ⟨k,hk⟩=>?_
 ·(refine Le.ok some [] ?_;constructor;all_goals (try simp only [vle,vkt,seval,Q0,qy,qa,Zd]))
  all_goals first|rfl|(simp [QF,AV.leL,AV.le,aU];done)
 ·repeat' first|(apply nx;with_reducible constructor)|apply jq (by decide)
  (apply jz env;intro Q hQ;simp only [vkt,seval,yA,Q0,qy,qa,heT,ite_and];(repeat' first|with_reducible assumption|apply jv|intro hp);all_goals first|(apply hQ;clear hQ Q)|(apply jx;kernel_rfl)|omega|assumption|rfl|skip)
  repeat' first|(apply nx;with_reducible constructor)|apply jq (by decide)
  (refine jE (by simp only [vkt,seval];rfl) (fun h=>?_) (fun h=>?_) <;> (try simp only [vki] at h))
  ·have hlt:k < c.sold.length:=by omega
   have e9:=k9 k (by omega)
   obtain ⟨x,hx⟩:∃ x,c.sold.getD k default=x:=⟨_,rfl⟩
   have hS:=Jk (s:=s) hlt
   rw [hx] at hS
   have hok:=hv.tk x (hx ▸ vG hlt)
   have hcl:=hv.car.cabs
   obtain ⟨⟨g1,g2⟩,g3,g4,g5,g6⟩:=(⟨hok.cab,hok.bed.1,hok.frm,hok.way,hok.to⟩:_/\_/\_/\_/\_)
   have gs:=hv.car.secs
   have w1:IntKind.wrap .i64 (x.to - 1)=x.to - 1:=wrap64 (by omega) (by omega)
   obtain ⟨i,hi⟩:∃ i:Nat,x.cab=(i:Int):=⟨x.cab.toNat,by omega⟩
   have hi3:i < 3:=by omega
   have hi3':(i:Int) < 3:=by omega
   have i0:(0:Int)<=(i:Int):=by omega
   obtain ⟨P,hP⟩:∃ P,QF c.sold s k=P:=⟨_,rfl⟩
   have hPl:P.length=3:=by rw [<- hP];exact ky _ _ _ hk
   rw [hP,ZW,hi,cA] at hS
   try simp only [heT,hP]
   have hiP:i < P.length:=by omega
   have hiP1:i+1<=P.length:=by omega
   have pg:=Qir hiP
   have ps:=Qmt (n:=QhN (P.getD i 0) x.bed) hiP
   cases hb:inB s x.frm (x.to - 1) with
   |false =>
    rw [hb] at hS
    repeat' first|(apply nx;with_reducible constructor)|apply jq (by decide)|((first|apply jz env|apply jw);intro Q hQ;simp only [vkt,seval,yA,Q0,eTk,gTk,sin,hx,hb,w1,e9,ite_and];(repeat' first|with_reducible assumption|apply jv|intro hp);all_goals first|(apply hQ;clear hQ Q)|(apply jx;kernel_rfl)|omega|assumption|rfl|skip)
    refine ⟨⟨k+1,hlt⟩,by show c.sold.length - (k+1) < c.sold.length - k;omega, ?_⟩
    simp only [hS]
    (refine Le.ok some [] ?_;constructor;all_goals (try simp only [vle,vkt,seval,Q0,qy,qa,Zd,Zt]))
    all_goals first|rfl|(simp [Zt];done)
   |true =>
    rw [hb] at hS
    simp only [if_true] at hS
    simp only [aU] at pg ps
    repeat' first|(apply nx;with_reducible constructor)|apply jq (by decide)|((first|apply jz env|apply jw);intro Q hQ;simp only [vkt,seval,yA,Q0,eTk,gTk,sin,Qb4,bK,hx,hb,w1,e9,hi,i0,hPl,pg,ps,g3,ite_and];(repeat' first|with_reducible assumption|apply jv|intro hp);all_goals first|(apply hQ;clear hQ Q)|(apply jx;kernel_rfl)|omega|assumption|rfl|skip)
    refine ⟨⟨k+1,hlt⟩,by show c.sold.length - (k+1) < c.sold.length - k;omega, ?_⟩
    simp only [hS]
    (refine Le.ok some [] ?_;constructor;all_goals (try simp only [vle,vkt,seval,Q0,qy,qa,Zd,Zt]))
    all_goals first|rfl|(simp [Zt];done)
  ·have hke:k=c.sold.length:=by omega
   subst hke
   obtain ⟨P,hP⟩:∃ P,QF c.sold s c.sold.length=P:=⟨_,rfl⟩
   have hPl:P.length=3:=by rw [<- hP];exact ky _ _ _ (aw _)
   try simp only [heT,hP]
   have tP:(P.map aU).take 3=P.map aU:=bF (by simp [hPl])
   repeat' first|(apply nx;with_reducible constructor)|apply jq (by decide)|((first|apply jz env|apply jw);intro Q hQ;simp only [vkt,seval,yA,QgS,hPl,tP,ite_and];(repeat' first|with_reducible assumption|apply jv|intro hp);all_goals first|(apply hQ;clear hQ Q)|(apply jx;kernel_rfl)|omega|assumption|rfl|skip)
   (simp only [vrt,results136,hPl,tP,vkt,seval,yA];refine Fin.val rfl ?_;(try simp only [AV.le]))
   all_goals first|rfl|(simp [Zt];done)
def Ua:List AV->Prop × AV
 |[.agg [.sl cs,.v (.int .i64 n),.sl ts],.v (.int .i64 s)]=>(cs=(cs.map qh).map qx/\ts=(ts.map dTk).map eTk/\Van ⟨cs.map qh,n,ts.map dTk⟩,.agg ((QF (ts.map dTk) s ts.length).map aU))
 |_=>(False,.junk)
def Qjn {A:Frm->Prop}:qm A prog 136 (zw true Ua):=qL fun vs hv h=>by
 clear hv
 unfold Ua at h ⊢
 split at h
 ·rename_i cs n ts s
  obtain ⟨h1,h2,h3⟩:=h
  refine ⟨by simp only [AV.plain,U4],fun _=>by simp only [AV.flat,QdG], ?_⟩
  have:=Qem ⟨cs.map qh,n,ts.map dTk⟩ s h3
  simp only [qd,qa,<- h1,<- h2,ao] at this
  exact this
 ·exact h.elim
def wrapU {n:Int} (h0:0<=n) (h1:n < 18446744073709551616):IntKind.wrap .u64 n=n:=by
 rw [show IntKind.wrap .u64 n=n % 18446744073709551616 from rfl];omega
def Qng (x y:BitVec 64) (hy:y ≠ 0):IntKind.wrap .u64 ((x ||| y).toNat:Int) ≠ 0:=fun h=>by
 have hlt:=(x ||| y).isLt
 rw [wrapU (by omega) (by omega)] at h
 have h1:(x ||| y)=0:=by apply BitVec.eq_of_toNat_eq;rw [show (x ||| y).toNat=0 by omega];rfl
 exact hy (BitVec.or_eq_zero_iff.1 h1).2
def Qjo {a b:Int} (h0:0<=b) (h3:b<=3):QhN a b ≠ 0:=by
 refine Qng (BitVec.ofInt 64 a) (BitVec.ofInt 64 (IntKind.wrap .u64 (1 * 2 ^ min b.toNat 64))) ?_
 rcases (by omega:b=0\/b=1\/b=2\/b=3) with rfl|rfl|rfl|rfl <;> decide
def V6 {l:List Tk} {s:Int} (hl:∀ t ∈ l,0<=t.cab/\t.cab < 3/\0<=t.bed/\t.bed<=3) {i:Nat} (hi:i < 3):∀ k,k<=l.length->decide ((QF l s k).getD i 0=0)=(l.take k).all fun t=>!(atB s t && decide (t.cab=(i:Int)))
 |0,_=>by
  rw [dt]
  match i,hi with
  |0,_=>rfl
  |1,_=>rfl
  |2,_=>rfl
 |k+1,hk=>by
  have hkl:k < l.length:=by omega
  have ih:=V6 (s:=s) hl hi k (by omega)
  have hlen:=ky l s k (by omega)
  obtain ⟨g1,g2,g3,g4⟩:=hl _ (vG (d:=default) hkl)
  rw [Jk hkl,bQ hkl,List.all_append,<- ih]
  rw [show l[k]=l.getD k default by simp [ai,hkl]]
  generalize l.getD k default=t at *
  have ha:inB s t.frm (t.to - 1)=atB s t:=by
   unfold inB atB
   rw [show decide (s<=t.to - 1)=decide (s < t.to) by rw [decide_eq_decide];omega]
  unfold ZW
  rw [ha]
  simp only [dp,List.all_nil,cH]
  cases atB s t with
  |false=>simp
  |true =>
   simp only [if_true,bm]
   by_cases hc:t.cab=(i:Int)
   ·have e:t.cab.toNat=i:=by omega
    rw [e,decide_eq_true hc,ai,List.getElem?_set_self (by omega),c8,decide_eq_false (Qjo g3 g4)]
    simp
   ·have e:t.cab.toNat ≠ i:=by omega
    rw [decide_eq_false hc,ai,List.getElem?_set_ne e,<- ai]
    simp
def rcN (c:Chart) (s i:Nat):Nat:=((List.range i).filter fun (j:Nat)=>YE c.sold s j).length
def rtN (c:Chart) (s:Nat):Nat:=((List.range s).map fun s=>rcN c s c.cabins.length).sum
def Qgh (c:Chart) (s i:Nat):rcN c s (i+1)=rcN c s i+if YE c.sold s i then 1 else 0:=by
 unfold rcN
 rw [bC,List.filter_append,aA]
 cases h:YE c.sold s i <;> simp [h]
def Qai (c:Chart) (s:Nat):rtN c (s+1)=rtN c s+rcN c s c.cabins.length:=by
 unfold rtN
 rw [bC,aq,List.sum_append]
 simp
def QiN (c:Chart) (s i:Nat):rcN c s i<=i:=by
 unfold rcN
 exact aN (dN _ _) (by simp)
def Qiu (c:Chart):∀ s,rtN c s<=s * c.cabins.length
 |0=>by simp [rtN]
 |s+1=>by
  have:=Qiu c s
  have:=QiN c s c.cabins.length
  rw [Qai,cF];omega
def Qic (c:Chart):Zx c.cabins c.secs c.sold=(rtN c c.secs.toNat:Int):=by
 unfold Zx rtN
 rw [List.length_flatMap]
 rfl
def rsO (c:Chart) (s:Nat):St:={ t:=asg [(1,.ptr 0 0),(2,aI 0),(3,aI (rtN c s:Nat)),(8,aI c.secs),(9,aI s)],h:=qb [(0,.cells (qa c))],n:=1 }
def rsI (c:Chart) (s i:Nat):St:={ t:=asg [(1,.ptr 0 0),(2,aI 0),(3,aI (rtN c s+rcN c s i:Nat)),(4,aI s),(5,.ptr 1 0),(8,aI c.secs),(9,aI s),(17,aI c.cabins.length),(18,aI i)],h:=qb [(0,.cells (qa c)),(1,.cells ((QF c.sold s c.sold.length).map aU))],n:=2 }
def vk:=jv @ty3 (jv @ZF (jv @jm (jv @ZC (jv @QiR (jv @QlF (jv @ti3.eq_1 (jv @Qv.eq_1 (jv @wY.eq_1 (jv @Qz.eq_1 (jv @XX.eq_1 @LW.eq_1))))))))))
def Qp:=jv @aI.eq_1 (@aB.eq_1)
def QjW (c:Chart) (hv:Van c):FnV prog 74 [qd c] (aI (Zx c.cabins c.secs c.sold)):=by
 have env:=qA (A:=fun _=>True) (kC Qjn kN)
 refine kV (Fn0 func74 rfl (fun vs w=>by kernel_rfl) (by kernel_rfl)) (by simp) (by simp [AV.ids,AV.idsL,qd,qa]) ?_
 have hcl:=hv.car.cabs
 have hsec:=hv.car.secs
 have ec:(⟨c.cabins,c.secs,c.sold⟩:Chart)=c:=rfl
 have htk:∀ t ∈ c.sold,0<=t.cab/\t.cab < 3/\0<=t.bed/\t.bed<=3:=fun t ht=>by
  have h1:=hv.tk t ht
  have h2:=h1.cab
  have h3:=h1.bed
  have h4:=(hv.car.beds _ (vG (d:=default) h2.2)).2
  omega
 rw [Qic]
 repeat' first|(apply nx;with_reducible constructor)|apply jq (by decide)|((first|apply jz env|apply jw);intro Q hQ;simp only [vkt,seval,vk,qd,qa,ite_and];(repeat' first|with_reducible assumption|apply jv|intro hp);all_goals first|(apply hQ;clear hQ Q)|(apply jx;kernel_rfl)|omega|assumption|rfl|skip)
 refine qN (fun s:{ s:Nat // s<=c.secs.toNat }=>rsO c s.1) (fun s=>c.secs.toNat - s.1) ⟨0,ag _⟩ ?_ fun ⟨s,hs⟩=>?_
 ·(refine Le.ok some [] ?_;constructor;all_goals (try simp only [vle,vkt,seval,Qp,qa]))
  all_goals first|rfl|(simp [rtN];done)
 simp only at hs ⊢
 repeat' first|(apply nx;with_reducible constructor)|apply jq (by decide)
 (apply jz env;intro Q hQ;simp only [vkt,seval,vk,Qp,qa,rsO,ite_and];(repeat' first|with_reducible assumption|apply jv|intro hp);all_goals first|(apply hQ;clear hQ Q)|(apply jx;kernel_rfl)|omega|assumption|rfl|skip)
 repeat' first|(apply nx;with_reducible constructor)|apply jq (by decide)
 (refine jE (by simp only [vkt,seval];rfl) (fun h=>?_) (fun h=>?_) <;> (try simp only [vki] at h))
 ·have hlt:s < c.secs.toNat:=by omega
  have hT:=Qiu c s
  have hT3:rtN c s<=s * 3:=aN hT (Nat.mul_le_mul_left _ hcl.2)
  have e9:=k9 s (by omega)
  obtain ⟨P,hP⟩:∃ P,QF c.sold s c.sold.length=P:=⟨_,rfl⟩
  have hPl:P.length=3:=by rw [<- hP];exact ky _ _ _ (aw _)
  repeat' first|(apply nx;with_reducible constructor)|apply jq (by decide)|((first|apply jz env|apply jw);intro Q hQ;simp only [vkt,seval,vk,qC,mTk,Ua,QgS,ec,hv,hP,ite_and];(repeat' first|with_reducible assumption|apply jv|intro hp);all_goals first|(apply hQ;clear hQ Q)|(apply jx;kernel_rfl)|omega|assumption|rfl|skip)
  refine qN (fun i:{ i:Nat // i<=c.cabins.length }=>rsI c s i.1) (fun i=>c.cabins.length - i.1) ⟨0,ag _⟩ ?_ fun ⟨i,hi⟩=>?_
  ·simp only [rsI,hP,rcN,List.range_zero,List.filter_nil,bH,bj]
   (refine Le.ok some [] ?_;constructor;all_goals (try simp only [vle,vkt,seval,Qp,qa,Zd]))
   all_goals first|rfl|(simp [Zt];done)|(simp [hPl,Zt];done)
  simp only at hi ⊢
  repeat' first|(apply nx;with_reducible constructor)|apply jq (by decide)
  (apply jz env;intro Q hQ;simp only [vkt,seval,vk,Qp,qa,rsI,ite_and];(repeat' first|with_reducible assumption|apply jv|intro hp);all_goals first|(apply hQ;clear hQ Q)|(apply jx;kernel_rfl)|omega|assumption|rfl|skip)
  repeat' first|(apply nx;with_reducible constructor)|apply jq (by decide)
  (refine jE (by simp only [vkt,seval];rfl) (fun h=>?_) (fun h=>?_) <;> (try simp only [vki] at h))
  ·have hil:i < c.cabins.length:=by omega
   have hC:=QiN c s i
   have e8:=k9 i (by omega)
   have e7:IntKind.wrap .i64 (((rtN c s+rcN c s i:Nat):Int)+1)=((rtN c s+rcN c s i+1:Nat):Int):=by rw [wrap64 (by omega) (by omega)];rfl
   have hz:=V6 (s:=(s:Int)) htk (show i < 3 by omega) c.sold.length (aw _)
   rw [bO,hP] at hz
   have hz:decide (P.getD i 0=0)=YE c.sold s i:=hz
   have hS:=Qgh c s i
   have i3:(i:Int) < 3:=by omega
   have hiP:i < P.length:=by omega
   have hiP1:i+1<=P.length:=by omega
   have pg:=Qir hiP
   simp only [aU] at pg
   cases hE:YE c.sold s i with
   |true =>
    rw [hE] at hz hS
    simp only [if_true] at hS
    repeat' first|(apply nx;with_reducible constructor)|apply jq (by decide)|((first|apply jz env|apply jw);intro Q hQ;simp only [vkt,seval,vk,bK,hP,hPl,pg,hz,e8,e7,ite_and];(repeat' first|with_reducible assumption|apply jv|intro hp);all_goals first|(apply hQ;clear hQ Q)|(apply jx;kernel_rfl)|omega|assumption|rfl|skip)
    refine ⟨⟨i+1,hil⟩,by show c.cabins.length - (i+1) < c.cabins.length - i;omega, ?_⟩
    simp only [rsI,hP,hS,<- bZ]
    (refine Le.ok some [] ?_;constructor;all_goals (try simp only [vle,vkt,seval,Qp,qa,Zd,Zt]))
    all_goals first|rfl|(simp [Zt];done)
   |false =>
    rw [hE] at hz hS
    simp only [bM,if_false,bj] at hS
    repeat' first|(apply nx;with_reducible constructor)|apply jq (by decide)|((first|apply jz env|apply jw);intro Q hQ;simp only [vkt,seval,vk,bK,hP,hPl,pg,hz,e8,ite_and];(repeat' first|with_reducible assumption|apply jv|intro hp);all_goals first|(apply hQ;clear hQ Q)|(apply jx;kernel_rfl)|omega|assumption|rfl|skip)
    refine ⟨⟨i+1,hil⟩,by show c.cabins.length - (i+1) < c.cabins.length - i;omega, ?_⟩
    simp only [rsI,hP,hS]
    (refine Le.ok some [] ?_;constructor;all_goals (try simp only [vle,vkt,seval,Qp,qa,Zd,Zt]))
    all_goals first|rfl|(simp [Zt];done)
  ·have hie:i=c.cabins.length:=by omega
   subst hie
   have hS:=Qai c s
   repeat' first|(apply nx;with_reducible constructor)|apply jq (by decide)|((first|apply jz env|apply jw);intro Q hQ;simp only [vkt,seval,vk,hP,e9,ite_and];(repeat' first|with_reducible assumption|apply jv|intro hp);all_goals first|(apply hQ;clear hQ Q)|(apply jx;kernel_rfl)|omega|assumption|rfl|skip)
   refine ⟨⟨s+1,hlt⟩,by show c.secs.toNat - (s+1) < c.secs.toNat - s;omega, ?_⟩
   simp only [rsO,hS]
   (refine Le.ok some [] ?_;constructor;all_goals (try simp only [vle,vkt,seval,Qp,qa]))
   all_goals first|rfl|simp
 ·have hse:s=c.secs.toNat:=by omega
  subst hse
  repeat' first|(apply nx;with_reducible constructor)|apply jq (by decide)|((first|apply jz env|apply jw);intro Q hQ;simp only [vkt,seval,ite_and];(repeat' first|with_reducible assumption|apply jv|intro hp);all_goals first|(apply hQ;clear hQ Q)|(apply jx;kernel_rfl)|omega|assumption|rfl|skip)
  (simp only [vrt,results74,vkt,seval,Qp];refine Fin.val rfl ?_;(try simp only [AV.le]))
  all_goals first|rfl|simp
def QdH:List AV->Prop × AV
 |[.agg [.sl cs,.v (.int .i64 n),.sl ts]]=>(cs=(cs.map qh).map qx/\ts=(ts.map dTk).map eTk/\Van ⟨cs.map qh,n,ts.map dTk⟩,aI (Zx (cs.map qh) n (ts.map dTk)))
 |_=>(False,.junk)
def QlJ {A:Frm->Prop}:qm A prog 74 (zw true QdH):=qL fun vs hv h=>by
 clear hv
 unfold QdH at h ⊢
 split at h
 ·rename_i cs n ts
  obtain ⟨h1,h2,h3⟩:=h
  refine ⟨by simp [aI,AV.plain],fun _=>by simp [aI,AV.flat], ?_⟩
  have:=QjW ⟨cs.map qh,n,ts.map dTk⟩ h3
  simp only [qd,qa,<- h1,<- h2] at this
  exact this
 ·exact h.elim
def Qc2 (c:Chart):Int:=if zt c=0 then Zx c.cabins c.secs c.sold else 0
def XB:=jv @jm (jv @Qa (jv @wY.eq_1 @xQ.eq_1))
def Y5:=jv @aI.eq_1 (@aB.eq_1)
def Qku (c:Chart) (hc:c.cabins.length<=maxLen):FnV prog 25 [qd c] (.tup [aI (Qc2 c),aI (zt c)]):=by
 have env:=qA (A:=fun _=>True) (kC YF (kC QlJ kN))
 refine kV (Fn0 func25 rfl (fun vs w=>by kernel_rfl) (by kernel_rfl)) (by simp) (by simp [AV.ids,AV.idsL,qd,qa]) ?_
 have ec:(⟨c.cabins,c.secs,c.sold⟩:Chart)=c:=rfl
 unfold Qc2
 by_cases h1:zt c=0
 ·have hv:=(Ze h1).van
  rw [if_pos h1,h1]
  repeat' first|(apply nx;with_reducible constructor)|apply jq (by decide)|((first|apply jz env|apply jw);intro Q hQ;simp only [vkt,seval,XB,Y5,qd,qa,qC,mTk,yT,QdH,ec,h1,hv,ite_and];(repeat' first|with_reducible assumption|apply jv|intro hp);all_goals first|(apply hQ;clear hQ Q)|(apply jx;kernel_rfl)|omega|assumption|rfl|skip)
  (simp only [vrt,results25,vkt,seval,Y5];refine Fin.val rfl ?_;(try simp only [AV.le,AV.leL]))
  all_goals first|rfl|simp
 ·rw [if_neg h1]
  repeat' first|(apply nx;with_reducible constructor)|apply jq (by decide)|((first|apply jz env|apply jw);intro Q hQ;simp only [vkt,seval,XB,Y5,qd,qa,qC,mTk,yT,ec,h1,ite_and];(repeat' first|with_reducible assumption|apply jv|intro hp);all_goals first|(apply hQ;clear hQ Q)|(apply jx;kernel_rfl)|omega|assumption|rfl|skip)
  (simp only [vrt,results25,vkt,seval,Y5];refine Fin.val rfl ?_;(try simp only [AV.le,AV.leL]))
  all_goals first|rfl|simp
def bL3 (cs:List Cabin) (s:Int) (l:List Tk):List AObj:=[qg cs s 2,.cells [.ptr 0 0],qf l]
def Qf7:=jv @jm (jv @QM (jv @WP (jv @wY.eq_1 (jv @xW.eq_1 @QC.eq_1))))
def QcZ:=jv @aI.eq_1 (@aB.eq_1)
def bb_fn (cs:List Cabin) (s:Int) (l:List Tk) (hv:Van ⟨cs,s,l⟩):Fn noB prog 81 [.ptr 1 0] (qb (qB 0 (bL3 cs s l))) (aI (Zx cs s l)) (qb (ze 0 ((bL3 cs s l).map some))) 0:=by
 have env:=qA (A:=fun _=>True) (kC QlJ kN)
 refine Fn.of (A:=fun _=>True) (n0:=3) (D:=noD) (Fn0 func81 rfl (fun vs w=>by kernel_rfl) (by kernel_rfl)) (by simp) (by simp [AV.ids]) ?_ (fun _ _ _ _=>trivial) qX ?_
 ·intro i o hi
  have h:=qG hi
  simp [qB,bL3] at h
  rcases h with ⟨rfl,rfl⟩|⟨rfl,rfl⟩|⟨rfl,rfl⟩ <;> simp [AObj.ids,AV.ids,AV.idsL,qg,qf]
 show Sym _ _ _ (qV [.ptr 1 0] 3 (qb [(0,qg cs s 2),(1,.cells [.ptr 0 0]),(2,qf l)])) (yc tyB noD Tryz.f81 fun S rv=>Fin S rv _ 3 (qb [(0,qg cs s 2),(1,.cells [.ptr 0 0]),(2,qf l)]) 0)
 repeat' first|(apply nx;with_reducible constructor)|apply jq (by decide)|((first|apply jz env|apply jw);intro Q hQ;simp only [vkt,seval,Qf7,QcZ,qC,mTk,qg,qf,QdH,hv,ite_and];(repeat' first|with_reducible assumption|apply jv|intro hp);all_goals first|(apply hQ;clear hQ Q)|(apply jx;kernel_rfl)|omega|assumption|rfl|skip)
 (simp only [vrt,results81,vkt,seval,QcZ,qg,qf];refine Fin.ok some [] ?_ ?_ ?_ ?_ ?_ rfl;all_goals (try simp only [vle,vkt,seval]))
 all_goals first|rfl|(simp;done)|exact fun i hi=>(match i,hi with|0,_=>rfl|1,_=>rfl|2,_=>rfl)
def jJ (c:Chart) (a:Ask):List AObj:=[qg c.cabins c.secs 2,.cells [.ptr 0 0],qf c.sold,.cells (qo a)]
def xS (c:Chart) (a:Ask) (j:Nat):List AV:=[.agg [qc ((plP c a).getD j default).1,.clo 81 [.ptr 1 0]]]
def vD (c:Chart) (a:Ask) (j:Nat):List AObj:=bL3 c.cabins c.secs ((plP c a).getD j default).2
def bgL0:List (Nat × AV):=[(1,.ptr 1 0),(3,.ptr 4 0),(7,.clo 140 [.ptr 5 0,.ptr 6 0])]
def bgL:List (Nat × AV):=[(1,.ptr 1 0),(3,.ptr 4 0)]
def bgH (a:Ask):List (Nat × AObj):=[(1,.cells [.ptr 0 0]),(3,.cells (qo a)),(4,.cells [.cb])]
def Xz (c:Chart) (a:Ask):qU [0,2,5,6] 8 0 (plL c a)=[(0,qg c.cabins c.secs 2),(2,qf c.sold),(5,.cells [.ptr 0 0]),(6,.cells (qo a))]:=by
 simp [qU,plL,qj,AObj.ren,AV.renL,AV.ren,qg,qf,qo]
def Um (c:Chart) (a:Ask) (j:Nat):qU [0] 8 0 (plH c a j)=[(0,qg c.cabins c.secs 8),(8,qf ((plP c a).getD j default).2)]:=by
 simp [qU,plH,qJ,qj,AObj.ren,AV.renL,AV.ren,qg,qf]
def We:=jv @Jp (jv @QM (jv @ty150 (jv @Qla (jv @ZG.eq_1 (jv @xW.eq_1 (jv @QdJ.eq_1 @La.eq_1))))))
def Us:=jv @aI.eq_1 (jv @aB.eq_1 (@Ju))
def QgU {c:Chart} {a:Ask} (h:PlOk c a):QcN prog 80 [.cb,.ptr 1 0,.ptr 3 0] (nth ((jJ c a).take 2)) (nth (jJ c a)) (xS c a) (plP c a).length (fun j=>nth (vD c a j)) (fun _ _=>.tup []):=by
 intro ans R hr
 rw [JA,JA]
 obtain ⟨A0,hA0⟩:∃ A0:Frm->Prop,A0=fun F=>F.r=none/\Acb prog (qb (qB 0 ((jJ c a).take 2))) (qb (qB 0 (jJ c a))) (xS c a) (fun j=>nth (vD c a j)) ans R F:=⟨_,rfl⟩
 have hr0:∀ F,A0 F->F.r=none:=fun F h=>by rw [hA0] at h;exact h.1
 have hA:∀ F,A0 F->Acb prog (qb (qB 0 ((jJ c a).take 2))) (qb (qB 0 (jJ c a))) (xS c a) (fun j=>nth (vD c a j)) ans R F:=fun F h=>by rw [hA0] at h;exact h.2
 have hp2:∀ i o,qb (qB 0 ((jJ c a).take 2)) i=some o->i=0\/i=1:=fun i o hi=>by
  rw [zZ,if_neg (by omega)] at hi
  have:=(am.1 hi).1
  simp [jJ] at this
  omega
 have env:Env A0 prog tyB (tab [(78,fnE yB)]):=qA ⟨Vf,trivial⟩
 refine Fn.of (A:=A0) (n0:=4) (D:=noD) (Fn0 func80 rfl (fun vs w=>by kernel_rfl) (by kernel_rfl)) (by simp) (by simp [AV.ids]) ?_ (fun F hb h0 h1=>by rw [hA0];exact ⟨h1,h0,fun i o hi=>(by rcases hp2 i o hi with rfl|rfl <;> exact ⟨_,rfl⟩),hb⟩) qX ?_
 ·intro i o hi
  have h:=qG hi
  simp [qB,jJ] at h
  rcases h with ⟨rfl,rfl⟩|⟨rfl,rfl⟩|⟨rfl,rfl⟩|⟨rfl,rfl⟩ <;> simp [AObj.ids,AV.ids,AV.idsL,qg,qf,qo]
 show Sym _ _ _ (qV [.cb,.ptr 1 0,.ptr 3 0] 4 (qb [(0,qg c.cabins c.secs 2),(1,.cells [.ptr 0 0]),(2,qf c.sold),(3,.cells (qo a))])) (yc tyB noD Tryz.f80 fun S rv=>Fin S rv _ 4 (qb [(0,qg c.cabins c.secs 2),(1,.cells [.ptr 0 0]),(2,qf c.sold),(3,.cells (qo a))]) R)
 repeat' first|(apply nx;with_reducible constructor)|apply jq (by decide)|((first|apply jz env|apply jw);intro Q hQ;simp only [vkt,seval,We,Us,qo,mTk,qC,qg,qf,qJ,plL,yB,hwL,ite_and];(repeat' first|with_reducible assumption|apply jv|intro hp);all_goals first|(apply hQ;clear hQ Q)|(apply jx;kernel_rfl)|omega|assumption|rfl|skip)
 refine ve (S':={ t:=asg bgL0,h:=qb (bgH a++[(0,qg c.cabins c.secs 2),(2,qf c.sold),(5,.cells [.ptr 0 0]),(6,.cells (qo a))]),n:=7,j:=0,d:=[],m:=4 }) ?_ ?_
 ·show Le _ { t:=asg [(1,.ptr 1 0),(3,.ptr 4 0),(7,.clo 140 [.ptr 5 0,.ptr 6 0])],h:=qb [(1,.cells [.ptr 0 0]),(3,.cells (qo a)),(4,.cells [.cb]),(0,qg c.cabins c.secs 2),(2,qf c.sold),(5,.cells [.ptr 0 0]),(6,.cells (qo a))],n:=7,j:=0,d:=[],m:=4 }
  (refine Le.ok some [] ?_;constructor;all_goals (try simp only [vle,vkt,seval,qo,qg,qf]))
  all_goals first|rfl|simp
 rw [<- Xz c a]
 refine vw hr0 1 (L:=bgL0) (L':=bgL) (xs:=[2]) (hs:=[0,2,5,6]) (n:=7) (nl:=1) (hc:=fun _=>bgH a) (Lp:=plL c a) (jj:=fun j=>j) (d:=[]) (ys:=plY c a) (hl:=plH c a) (ans:=ans) (ex:=.ret) (caps:=[.ptr 5 0,.ptr 6 0]) (caps0:=[.ptr 2 0,.ptr 3 0]) (N:=(plP c a).length) (R:=R) (A':=fun j=>Acb prog (qb (qB 0 ((jJ c a).take 2))) (qb ((7,.mark) :: bgH a++qU [0] 8 0 (plH c a j))) (fun k=>xS c a (j+k)) (fun k=>nth (vD c a (j+k))) (fun k=>ans (j+k)) (R - j)) rfl (Wz h) hr (.inl rfl) ?_ ?_ ?_ rfl (by simp) ?_ (by simp) ?_ ?_ ?_ ?_ ?_ ?_ ?_ (fun j hj=>?_) ?_ (fun j hj=>?_) (fun _=>?_) (fun hpos hlast=>?_)
 ·simp [AV.leL,AV.le]
 ·simp [AV.nocbL,AV.nocb]
 ·simp [WS,plL,qg,qf,qo,AObj.nocb,AV.nocbL,AV.nocb,AObj.ids,AV.ids,AV.idsL,AObj.ren,AV.renL,AV.ren,AObj.le,AV.leL,AV.le,qj]
 ·simp [bgH,qb]
 ·intro F hF j hj F' hR
  refine XU (hA F hF) hR fun i o hi=>?_
  rcases hp2 i o hi with rfl|rfl
  ·exact ⟨_,rfl⟩
  ·exact ⟨_,rfl⟩
 ·simp [bgH,qb]
 ·simp [bgH,AObj.ids,AV.ids,AV.idsL,qo]
 ·simp [QaA,bgL,bgL0,asg]
 ·simp [QbF]
 ·intro j hj
  simp [absent,bgH,Um]
 ·simp [Yw,bgL,AV.ids]
 ·refine ⟨?_,rfl, ?_, ?_,rfl, ?_⟩
  ·simp [kZ,bgH,AObj.ids,AV.ids,AV.idsL,qo]
  ·simp [ZZ,plH,qJ,qg,qf,AObj.nocb,AV.nocbL,AV.nocb,AObj.ids,AV.ids,AV.idsL]
  ·simp [V8,plY,qc,AV.nocb,AV.ids]
  ·simp [kX,WT,Um,bgH,bgL,vW,AV.ids,ADf.ids,bC]
 ·simp [kZ,bgH,AObj.ids,AV.ids,AV.idsL,qo]
 ·obtain ⟨x,hx⟩:∃ x,((plP c a).getD j default).1=x:=⟨_,rfl⟩
  obtain ⟨r,hr2⟩:∃ r,((plP c a).getD j default).2=r:=⟨_,rfl⟩
  obtain ⟨A1,hA1⟩:∃ A1:Frm->Prop,A1=Acb prog (qb (qB 0 ((jJ c a).take 2))) (qb ((7,.mark) :: bgH a++qU [0] 8 0 (plH c a j))) (fun k=>xS c a (j+k)) (fun k=>nth (vD c a (j+k))) (fun k=>ans (j+k)) (R - j):=⟨_,rfl⟩
  rw [<- hA1]
  have hB:∀ F,A1 F->Acb prog (qb (qB 0 ((jJ c a).take 2))) (qb ((7,.mark) :: bgH a++qU [0] 8 0 (plH c a j))) (fun k=>xS c a (j+k)) (fun k=>nth (vD c a (j+k))) (fun k=>ans (j+k)) (R - j) F:=fun F h=>hA1 ▸ h
  have env:Env A1 prog tyB (Go.Sym.tabC (cbX [0,1,8] (fun k=>xS c a (j+k)) (fun k=>vD c a (j+k)) (fun k=>ans (j+k)) (R - j)) []):=⟨Xe,RN (fun S bs h hS ops o g args tys caps hw ho hg hb=>Yy hB (fun i o hi=>by rcases hp2 i o hi with rfl|rfl <;> rfl) (by simp) h hS hw ho hg hb) trivial,by kernel_rfl⟩
  have hst:wV bgL [8] [0] 7 1 (plY c a j) (bgH a) (plH c a j)={ t:=asg [(8,qc x),(1,.ptr 1 0),(3,.ptr 4 0)],h:=qb [(7,.mark),(1,.cells [.ptr 0 0]),(3,.cells (qo a)),(4,.cells [.cb]),(0,qg c.cabins c.secs 8),(8,qf r)],n:=9,m:=9 }:=by
   simp only [wV,Nat.reduceAdd,Um,plY,hx,hr2,qc,aj,au,AV.ren,cn,cz,bgH,bgL,QE,aQ,aF]
   rfl
  show Sym _ _ _ (wV bgL [8] [0] 7 1 (plY c a j) (bgH a) (plH c a j)) _
  rw [hst]
  have hjR:0 < R - j:=by omega
  cases hb:ans j with
  |true =>
   repeat' first|(apply nx;with_reducible constructor)|apply jq (by decide)|((first|apply jz env|apply jw);intro Q hQ;simp only [vkt,seval,We,qo,qc,qg,qf,bL3,xS,vD,Go.Sym.tabC,cbX,xc,hwL,hx,hr2,hjR,hb,ite_and];(repeat' first|with_reducible assumption|apply jv|intro hp);all_goals first|(apply hQ;clear hQ Q)|(apply jx;kernel_rfl)|omega|assumption|rfl|skip)
   refine ⟨by rw [hb];rfl,rfl,some,_,RFin.okQ some [] ?_⟩
   constructor
   all_goals (try simp only [vle,vO,vC,qj,plH,bgH,hr2,vkt,seval,qo,qg,qf,qJ,bgL])
   all_goals first|rfl|(simp;done)|(simp [qo,AV.leL,AV.le];done)
  |false =>
   repeat' first|(apply nx;with_reducible constructor)|apply jq (by decide)|((first|apply jz env|apply jw);intro Q hQ;simp only [vkt,seval,We,qo,qc,qg,qf,bL3,xS,vD,Go.Sym.tabC,cbX,xc,hwL,hx,hr2,hjR,hb,ite_and];(repeat' first|with_reducible assumption|apply jv|intro hp);all_goals first|(apply hQ;clear hQ Q)|(apply jx;kernel_rfl)|omega|assumption|rfl|skip)
   refine ⟨by rw [hb];rfl,rfl,some,_,RFin.okQ some [] ?_⟩
   constructor
   all_goals (try simp only [vle,vO,vC,qj,plH,bgH,hr2,vkt,seval,qo,qg,qf,qJ,bgL])
   all_goals first|rfl|(simp;done)|(simp [qo,AV.leL,AV.le];done)
 ·have eh:qb ((7,AObj.mark) :: bgH a++qU [0,2,5,6] (7+1) 0 (plL c a))=qb [(7,.mark),(1,.cells [.ptr 0 0]),(3,.cells (qo a)),(4,.cells [.cb]),(0,qg c.cabins c.secs 2),(2,qf c.sold),(5,.cells [.ptr 0 0]),(6,.cells (qo a))]:=by
   rw [show qU [0,2,5,6] (7+1) 0 (plL c a)=qU [0,2,5,6] 8 0 (plL c a) from rfl,Xz];rfl
  rw [eh]
  repeat' first|(apply nx;with_reducible constructor)|apply jq (by decide)|((first|apply jz env|apply jw);intro Q hQ;simp only [vkt,seval,We,Us,zl,qo,qc,mTk,qC,qg,qf,qJ,plL,bgL,yB,bL3,xS,vD,ao,Go.Sym.tabC,cbX,Y0,xc,nth,hwL,bf,aO,bj,ite_and];(repeat' first|with_reducible assumption|apply jv|intro hp);all_goals first|(apply hQ;clear hQ Q)|(apply jx;kernel_rfl)|omega|assumption|rfl|skip)
  (simp only [vrt,results80,vkt,seval,qo,qg,qf,bgL];refine Fin.ok some [] ?_ ?_ ?_ ?_ ?_ rfl;all_goals (try simp only [vle,vkt,seval]))
  all_goals first|rfl|(simp [qo,AV.leL,AV.le];done)|exact fun i hi=>(match i,hi with|0,_=>rfl|1,_=>rfl|2,_=>rfl|3,_=>rfl)
 ·have eh:qb ((7,AObj.mark) :: bgH a++qU [0,2,5,6] (7+1) 0 (plL c a))=qb [(7,.mark),(1,.cells [.ptr 0 0]),(3,.cells (qo a)),(4,.cells [.cb]),(0,qg c.cabins c.secs 2),(2,qf c.sold),(5,.cells [.ptr 0 0]),(6,.cells (qo a))]:=by
   rw [show qU [0,2,5,6] (7+1) 0 (plL c a)=qU [0,2,5,6] 8 0 (plL c a) from rfl,Xz];rfl
  rw [eh]
  repeat' first|(apply nx;with_reducible constructor)|apply jq (by decide)|((first|apply jz env|apply jw);intro Q hQ;simp only [vkt,seval,We,Us,zl,qo,qc,mTk,qC,qg,qf,qJ,plL,bgL,yB,bL3,xS,vD,ao,Go.Sym.tabC,cbX,Y0,xc,nth,hwL,bf,aO,bj,ite_and];(repeat' first|with_reducible assumption|apply jv|intro hp);all_goals first|(apply hQ;clear hQ Q)|(apply jx;kernel_rfl)|omega|assumption|rfl|skip)
  (simp only [vrt,results80,vkt,seval,qo,qg,qf,bgL];refine Fin.ok some [] ?_ ?_ ?_ ?_ ?_ rfl;all_goals (try simp only [vle,vkt,seval]))
  all_goals first|rfl|(simp [qo,AV.leL,AV.le];done)|exact fun i hi=>(match i,hi with|0,_=>rfl|1,_=>rfl|2,_=>rfl|3,_=>rfl)
def KN {cs:List Cabin} {a:Ask} {p:Tk->Prop}:∀ (m:Nat) (sold:List Tk) (begun:List Bunk),(∀ t ∈ sold,p t)->(∀ i b,i < begun.length+m->b ∈ qZ cs->p (WM a i b))->∀ x ∈ zS cs a m sold begun,(∀ t ∈ x.2,p t)/\x.2.length=sold.length+m
 |0,sold,begun,h1,_,x,hx=>by
  simp only [zS,aW] at hx
  subst hx
  exact ⟨h1,rfl⟩
 |m+1,sold,begun,h1,h2,x,hx=>by
  rw [QV,db] at hx
  obtain ⟨b,hb,hx⟩:=hx
  unfold gbL at hx
  split at hx
  ·obtain ⟨g1,g2⟩:=KN m _ _ (fun t ht=>by
    rcases aD.1 ht with ht|ht
    ·exact h1 t ht
    ·rw [aW.1 ht];exact h2 _ _ (by omega) hb) (fun i b' hi hb'=>h2 i b' (by simp at hi;omega) hb') x hx
   exact ⟨g1,by rw [g2];simp;omega⟩
  ·simp at hx
def Qmp {c:Chart} {a:Ask} (h:wz c a=0) {i:Nat} (hi:i < a.sexes.length) {b:Bunk} (hb:b ∈ qZ c.cabins):TkOk c (WM a i b):=by
 have hk:=(Qe h).2
 unfold Q9 at hk
 split at hk
 ·exact absurd hk (by decide)
 rename_i h1
 split at hk
 ·exact absurd hk (by decide)
 split at hk
 ·exact absurd hk ‹_›
 rename_i h3
 split at hk
 ·exact absurd hk ‹_›
 have g1:inB a.party 1 99=true:=by simpa using h1
 obtain ⟨w1,w2,w3⟩:=R9 (Decidable.not_not.1 h3)
 have gs:=Qh hk _ (ap.2 ⟨a.sexes.getD i 0,vG hi,rfl⟩)
 have g2:inB (a.sexes.getD i 0) 1 2=true:=by
  cases hq:inB (a.sexes.getD i 0) 1 2 with
  |true=>rfl
  |false=>rw [hq] at gs;exact absurd gs (by decide)
 obtain ⟨x,y,b1,b2,rfl⟩:=Ll.1 hb
 refine ⟨jc.1 g1,jc.1 g2,⟨cJ _,by simpa [WM] using b1⟩,⟨cJ _, ?_⟩,w1,w2,w3⟩
 show (y:Int) < (c.cabins.getD ((x:Int)).toNat default).beds
 rw [cA]
 omega
def Qmv {c:Chart} {a:Ask} (h:wz c a=0) {j:Nat} (hj:j < (plP c a).length):Van ⟨c.cabins,c.secs,((plP c a).getD j default).2⟩:=by
 have hv:=Ze (Qe h).1
 have hs:=(QgB (Qe h).2).1
 obtain ⟨g1,g2⟩:=KN (p:=TkOk c) a.sexes.length c.sold [] hv.tk (fun i b hi hb=>Qmp h (by simpa using hi) hb) _ (vG (d:=default) hj)
 have hm:=hv.many
 exact ⟨⟨hv.car.cabs,hv.car.beds,hv.car.secs⟩,by show ((plP c a).getD j default).2.length<=100;rw [show ((plP c a).getD j default).2.length=c.sold.length+a.sexes.length from g2];omega,fun t ht=>⟨(g1 t ht).party,(g1 t ht).sex,(g1 t ht).cab,(g1 t ht).bed,(g1 t ht).frm,(g1 t ht).way,(g1 t ht).to⟩⟩
def pBb (S:St):List AV->Option Pk
 |[.ptr q 0]=>match S.h q with
  |some (.cells [.ptr p 0])=>match S.h p with
   |some (.cells [.sl cs,.v (.int .i64 s),.row r])=>match S.h r with
    |some (.row _ _ xs)=>some { pre:=cs=(cs.map qh).map qx/\xs=(xs.map dTk).map eTk/\Van ⟨cs.map qh,s,xs.map dTk⟩,hs:=[p,q,r],ar:=[.ptr 1 0],L0:=bL3 (cs.map qh) s (xs.map dTk),v:=aI (Zx (cs.map qh) s (xs.map dTk)),L1:=(bL3 (cs.map qh) s (xs.map dTk)).map some }
    |_=>none
   |_=>none
  |_=>none
 |_=>none
def eBb {A:Frm->Prop}:qm A prog 81 (fnE pBb):=zJ fun S bs q h hp=>by
 unfold pBb at h
 split at h
 ·split at h
  ·split at h
   ·split at h
    ·cases h;exact bb_fn _ _ _ hp.2.2
    ·cases h
   ·cases h
  ·cases h
 ·cases h
def bsK (c:Chart) (a:Ask):Nat->Bool × List Bunk × Int
 |0=>(false,[],0)
 |j+1=>if !(bsK c a j).1 || decide ((bsK c a j).2.2 < Zx c.cabins c.secs ((plP c a).getD j default).2) then (true,((plP c a).getD j default).1,Zx c.cabins c.secs ((plP c a).getD j default).2) else bsK c a j
def beL0:List (Nat × AV):=[(2,.ptr 4 0),(3,.ptr 5 0),(4,.ptr 6 0),(7,.clo 80 [.ptr 1 0,.ptr 3 0])]
def beL:List (Nat × AV):=[(2,.ptr 4 0),(3,.ptr 5 0),(4,.ptr 6 0)]
def beH (c:Chart) (a:Ask) (j:Nat):List (Nat × AObj):=[(4,.cells [.sl ((bsK c a j).2.1.map qK)]),(5,.cells [aB (bsK c a j).1]),(6,.cells [aI (bsK c a j).2.2])]
def VM (c:Chart) (a:Ask):qU [0,1,2,3] 8 0 (jJ c a)=[(0,qg c.cabins c.secs 2),(1,.cells [.ptr 0 0]),(2,qf c.sold),(3,.cells (qo a))]:=by
 simp [qU,jJ,qj,AObj.ren,AV.renL,AV.ren,qg,qf,qo]
def RY (c:Chart) (a:Ask) (j:Nat):qU [0,1] 8 0 (vD c a j)=[(0,qg c.cabins c.secs 8),(1,.cells [.ptr 0 0]),(8,qf ((plP c a).getD j default).2)]:=by
 simp [qU,vD,bL3,qj,AObj.ren,AV.renL,AV.ren,qg,qf]
def xn:=jv @ty3 (jv @ty4 (jv @Vy (jv @vS (jv @ty153 (jv @Qla (jv @ti3.eq_1 (jv @ti4.eq_1 (jv @JY.eq_1 (jv @yG.eq_1 (jv @QcQ.eq_1 @La.eq_1))))))))))
def kg:=jv @aI.eq_1 (@aB.eq_1)
def Qjh {c:Chart} {a:Ask} (h:wz c a=0):Fn noB prog 79 [.clo 80 [.ptr 1 0,.ptr 3 0]] (qb (qB 0 (jJ c a))) (.tup [.sl ((bsK c a (plP c a).length).2.1.map qK),aB (bsK c a (plP c a).length).1]) (qb (ze 0 ((jJ c a).map some))) 0:=by
 have hok:=Zq h
 have env:Env (fun F=>F.r=none) prog tyB (tab []):=qA trivial
 refine Fn.of (A:=fun F=>F.r=none) (n0:=4) (D:=noD) (Fn0 func79 rfl (fun vs w=>by kernel_rfl) (by kernel_rfl)) (by simp) (by simp [AV.ids,AV.idsL]) ?_ (fun _ _ _ h=>h) qX ?_
 ·intro i o hi
  have h:=qG hi
  simp [qB,jJ] at h
  rcases h with ⟨rfl,rfl⟩|⟨rfl,rfl⟩|⟨rfl,rfl⟩|⟨rfl,rfl⟩ <;> simp [AObj.ids,AV.ids,AV.idsL,qg,qf,qo]
 obtain ⟨N,hN⟩:∃ N,(plP c a).length=N:=⟨_,rfl⟩
 rw [hN]
 show Sym _ _ _ (qV [.clo 80 [.ptr 1 0,.ptr 3 0]] 4 (qb [(0,qg c.cabins c.secs 2),(1,.cells [.ptr 0 0]),(2,qf c.sold),(3,.cells (qo a))])) (yc tyB noD Tryz.f79 fun S rv=>Fin S rv _ 4 (qb [(0,qg c.cabins c.secs 2),(1,.cells [.ptr 0 0]),(2,qf c.sold),(3,.cells (qo a))]) 0)
 repeat' first|(apply nx;with_reducible constructor)|apply jq (by decide)|((first|apply jz env|apply jw);intro Q hQ;simp only [vkt,seval,xn,qg,qf,ite_and];(repeat' first|with_reducible assumption|apply jv|intro hp);all_goals first|(apply hQ;clear hQ Q)|(apply jx;kernel_rfl)|omega|assumption|rfl|skip)
 refine ve (S':={ t:=asg beL0,h:=qb (beH c a 0++[(0,qg c.cabins c.secs 2),(1,.cells [.ptr 0 0]),(2,qf c.sold),(3,.cells (qo a))]),n:=7,j:=0,d:=[],m:=4 }) ?_ ?_
 ·show Le _ { t:=asg [(2,.ptr 4 0),(3,.ptr 5 0),(4,.ptr 6 0),(7,.clo 80 [.ptr 1 0,.ptr 3 0])],h:=qb [(4,.cells [.sl []]),(5,.cells [aB false]),(6,.cells [aI 0]),(0,qg c.cabins c.secs 2),(1,.cells [.ptr 0 0]),(2,qf c.sold),(3,.cells (qo a))],n:=7,j:=0,d:=[],m:=4 }
  (refine Le.ok some [] ?_;constructor;all_goals (try simp only [vle,vkt,seval,kg,qg,qf]))
  all_goals first|rfl|(simp [qo,AV.leL,AV.le,AV.idsL,AV.ids];done)
 rw [<- VM c a]
 refine vw (fun F h=>h) 2 (L:=beL0) (L':=beL) (xs:=[2,3]) (hs:=[0,1,2,3]) (n:=7) (nl:=1) (hc:=beH c a) (Lp:=jJ c a) (jj:=fun _=>0) (d:=[]) (ys:=xS c a) (hl:=vD c a) (ans:=fun _=>true) (ex:=.ret) (caps:=[.ptr 1 0,.ptr 3 0]) (caps0:=[.ptr 1 0,.ptr 3 0]) (N:=(plP c a).length) (R:=N) (A':=fun _ _=>True) rfl (QgU hok) (by rw [hN];exact UI) (.inl rfl) ?_ ?_ ?_ rfl (by simp) ?_ (by simp) (fun _ _ _ _ _ _=>trivial) ?_ ?_ ?_ ?_ ?_ ?_ (fun j hj=>?_) ?_ (fun j hj=>?_) (fun _=>?_) (fun _ h=>by cases h)
 ·simp [AV.leL,AV.le]
 ·simp [AV.nocbL,AV.nocb]
 ·simp [WS,jJ,qg,qf,qo,AObj.nocb,AV.nocbL,AV.nocb,AObj.ids,AV.ids,AV.idsL,AObj.ren,AV.renL,AV.ren,AObj.le,AV.leL,AV.le,qj]
 ·simp [beH,qb]
 ·simp [beH,qb]
 ·simp [beH,AObj.ids,AV.ids,AV.idsL,aB,aI]
 ·simp [QaA,beL,beL0,asg]
 ·simp [QbF]
 ·intro j hj
  simp [absent,beH,RY]
 ·simp [Yw,beL,AV.ids]
 ·refine ⟨?_,rfl, ?_, ?_,rfl, ?_⟩
  ·simp [kZ,beH,AObj.ids,AV.ids,AV.idsL,aB,aI]
  ·simp [ZZ,vD,bL3,qg,qf,AObj.nocb,AV.nocbL,AV.nocb,AObj.ids,AV.ids,AV.idsL]
  ·simp [V8,xS,qc,AV.nocb,AV.nocbL,AV.ids,AV.idsL]
  ·simp [kX,WT,RY,beH,beL,vW,AV.ids,ADf.ids,bC]
 ·simp [kZ,beH,AObj.ids,AV.ids,AV.idsL,aB,aI]
 ·have env:Env (fun _:Frm=>True) prog tyB (tab [(81,fnE pBb)]):=qA ⟨eBb,trivial⟩
  have hvan:=Qmv h (j:=j) (by omega)
  have hS:bsK c a (j+1)=if !(bsK c a j).1 || decide ((bsK c a j).2.2 < Zx c.cabins c.secs ((plP c a).getD j default).2) then (true,((plP c a).getD j default).1,Zx c.cabins c.secs ((plP c a).getD j default).2) else bsK c a j:=rfl
  obtain ⟨⟨x,r⟩,hx⟩:∃ x,(plP c a).getD j default=x:=⟨_,rfl⟩
  obtain ⟨⟨f,p,v⟩,hK⟩:∃ x,bsK c a j=x:=⟨_,rfl⟩
  simp only [hx,hK] at hS hvan
  obtain ⟨w,hw⟩:∃ w,Zx c.cabins c.secs r=w:=⟨_,rfl⟩
  rw [hw] at hS
  have hst:wV beL [8] [0,1] 7 1 (xS c a j) (beH c a j) (vD c a j)={ t:=asg [(8,.agg [qc x,.clo 81 [.ptr 1 0]]),(2,.ptr 4 0),(3,.ptr 5 0),(4,.ptr 6 0)],h:=qb [(7,.mark),(4,.cells [.sl (p.map qK)]),(5,.cells [aB f]),(6,.cells [aI v]),(0,qg c.cabins c.secs 8),(1,.cells [.ptr 0 0]),(8,qf r)],n:=9,m:=9 }:=by
   simp only [wV,Nat.reduceAdd,RY,xS,hx,hK,qc,aj,au,AV.ren,AV.renL,cn,cz,beH,beL,QE,aQ,aF]
   rfl
  show Sym _ _ _ (wV beL [8] [0,1] 7 1 (xS c a j) (beH c a j) (vD c a j)) _
  rw [hst]
  cases f with
  |false =>
   simp only [Bool.not_false,Bool.true_or,if_true] at hS
   repeat' first|(apply nx;with_reducible constructor)|apply jq (by decide)|((first|apply jz env|apply jw);intro Q hQ;simp only [vkt,seval,xn,kg,qc,mTk,qC,qg,qf,bL3,pBb,hwL,hvan,hw,ite_and];(repeat' first|with_reducible assumption|apply jv|intro hp);all_goals first|(apply hQ;clear hQ Q)|(apply jx;kernel_rfl)|omega|assumption|rfl|skip)
   all_goals (refine ⟨rfl,rfl,some,_,RFin.okQ some [] ?_⟩;constructor)
   all_goals (try simp only [vle,vO,vC,qj,vD,beH,hx,hS,vkt,seval,kg,qg,qf,bL3,beL])
   all_goals first|rfl|(simp;done)|(simp [beL,vW,AV.ids,ADf.ids,bC];done)
  |true =>
   cases hd:decide (v < w) with
   |true =>
    simp only [hd,cY,Bool.false_or,if_true] at hS
    repeat' first|(apply nx;with_reducible constructor)|apply jq (by decide)|((first|apply jz env|apply jw);intro Q hQ;simp only [vkt,seval,xn,kg,qc,mTk,qC,qg,qf,bL3,pBb,hwL,hvan,hw,hd,ite_and];(repeat' first|with_reducible assumption|apply jv|intro hp);all_goals first|(apply hQ;clear hQ Q)|(apply jx;kernel_rfl)|omega|assumption|rfl|skip)
    all_goals (refine ⟨rfl,rfl,some,_,RFin.okQ some [] ?_⟩;constructor)
    all_goals (try simp only [vle,vO,vC,qj,vD,beH,hx,hS,vkt,seval,kg,qg,qf,bL3,beL])
    all_goals first|rfl|(simp;done)|(simp [beL,vW,AV.ids,ADf.ids,bC];done)
   |false =>
    simp only [hd,cY,Bool.false_or,bM,if_false] at hS
    repeat' first|(apply nx;with_reducible constructor)|apply jq (by decide)|((first|apply jz env|apply jw);intro Q hQ;simp only [vkt,seval,xn,kg,qc,mTk,qC,qg,qf,bL3,pBb,hwL,hvan,hw,hd,ite_and];(repeat' first|with_reducible assumption|apply jv|intro hp);all_goals first|(apply hQ;clear hQ Q)|(apply jx;kernel_rfl)|omega|assumption|rfl|skip)
    all_goals (refine ⟨rfl,rfl,some,_,RFin.okQ some [] ?_⟩;constructor)
    all_goals (try simp only [vle,vO,vC,qj,vD,beH,hx,hS,vkt,seval,kg,qg,qf,bL3,beL])
    all_goals first|rfl|(simp;done)|(simp [beL,vW,AV.ids,ADf.ids,bC];done)
 ·have eh:qb ((7,AObj.mark) :: beH c a N++qU [0,1,2,3] (7+1) 0 (jJ c a))=qb [(7,.mark),(4,.cells [.sl ((bsK c a N).2.1.map qK)]),(5,.cells [aB (bsK c a N).1]),(6,.cells [aI (bsK c a N).2.2]),(0,qg c.cabins c.secs 2),(1,.cells [.ptr 0 0]),(2,qf c.sold),(3,.cells (qo a))]:=by
   rw [show qU [0,1,2,3] (7+1) 0 (jJ c a)=qU [0,1,2,3] 8 0 (jJ c a) from rfl,VM];rfl
  rw [eh,VM c a]
  repeat' first|(apply nx;with_reducible constructor)|apply jq (by decide)|((first|apply jz env|apply jw);intro Q hQ;simp only [vkt,seval,xn,kg,qg,qf,beL,ite_and];(repeat' first|with_reducible assumption|apply jv|intro hp);all_goals first|(apply hQ;clear hQ Q)|(apply jx;kernel_rfl)|omega|assumption|rfl|skip)
  (simp only [vrt,results79,vkt,seval,xn,kg,qg,qf];refine Fin.ok some [] ?_ ?_ ?_ ?_ ?_ rfl;all_goals (try simp only [vle,vkt,seval]))
  all_goals first|rfl|(simp [qo,AV.leL,AV.le];done)|exact fun i hi=>(match i,hi with|0,_=>rfl|1,_=>rfl|2,_=>rfl|3,_=>rfl)
def Qaf (c:Chart) (a:Ask) (S:St):List AV->Option Pk
 |[.clo f [.ptr q 0,.ptr p3 0]]=>match S.h q with
  |some (.cells [.ptr p 0])=>match S.h p with
   |some (.cells [_,_,.row r])=>some { pre:=f=80/\wz c a=0,hs:=[p,q,r,p3],ar:=[.clo 80 [.ptr 1 0,.ptr 3 0]],L0:=jJ c a,v:=.tup [.sl ((bsK c a (plP c a).length).2.1.map qK),aB (bsK c a (plP c a).length).1],L1:=(jJ c a).map some }
   |_=>none
  |_=>none
 |_=>none
def eBest {A:Frm->Prop} {c:Chart} {a:Ask}:qm A prog 79 (fnE (Qaf c a)):=zJ fun S bs q h hp=>by
 unfold Qaf at h
 split at h
 ·split at h
  ·split at h
   ·cases h;exact Qjh hp.2
   ·cases h
  ·cases h
 ·cases h
def ZO (c:Chart) (a:Ask):List Bunk × Int:=if wz c a=0 then (if (bsK c a (plP c a).length).1 then ((bsK c a (plP c a).length).2.1,0) else ([],11)) else ([],wz c a)
def Jh:=jv @jm (jv @Qa (jv @Jp (jv @QM (jv @wY.eq_1 (jv @xQ.eq_1 (jv @ZG.eq_1 @xW.eq_1))))))
def Wn:=jv @aI.eq_1 (jv @aB.eq_1 (@Ju))
def Qj5 (c:Chart) (a:Ask) (hc:c.cabins.length<=maxLen) (ha:a.sexes.length<=maxLen):FnV prog 29 [qd c,zl a] (.tup [.sl ((ZO c a).1.map qK),aI (ZO c a).2]):=by
 have env:Env (fun _=>True) prog tyB (tab [(76,fnE yg),(79,fnE (Qaf c a))]):=qA ⟨Vv,eBest,trivial⟩
 refine Fn.of (A:=fun _=>True) (n0:=0) (D:=noD) (Fn0 func29 rfl (fun vs w=>by kernel_rfl) (by kernel_rfl)) (by simp) (by simp [AV.ids,AV.idsL,qd,qa,zl,qo]) (fun i o h=>by cases h) (fun _ _ _ _=>trivial) qX ?_
 have ec:(⟨c.cabins,c.secs,c.sold⟩:Chart)=c:=rfl
 have ea:(⟨a.party,a.frm,a.to,a.sexes,a.dog⟩:Ask)=a:=rfl
 by_cases h0:wz c a=0
 ·obtain ⟨⟨f,p,v⟩,hK⟩:∃ x,bsK c a (plP c a).length=x:=⟨_,rfl⟩
  cases f with
  |true =>
   rw [show ZO c a=(p,0) by unfold ZO;rw [if_pos h0,hK];rfl]
   repeat' first|(apply nx;with_reducible constructor)|apply jq (by decide)|((first|apply jz env|apply jw);intro Q hQ;simp only [vkt,seval,Jh,Wn,qd,qa,zl,qo,mTk,qC,qg,qf,qJ,jJ,yg,Qaf,ec,ea,h0,hK,ite_and];(repeat' first|with_reducible assumption|apply jv|intro hp);all_goals first|(apply hQ;clear hQ Q)|(apply jx;kernel_rfl)|omega|assumption|rfl|skip)
   (simp only [vrt,results29,vkt,seval,Wn];refine Fin.val rfl ?_;(try simp only [AV.le,AV.leL]))
   all_goals first|rfl|simp
  |false =>
   rw [show ZO c a=([],11) by unfold ZO;rw [if_pos h0,hK];rfl]
   repeat' first|(apply nx;with_reducible constructor)|apply jq (by decide)|((first|apply jz env|apply jw);intro Q hQ;simp only [vkt,seval,Jh,Wn,qd,qa,zl,qo,mTk,qC,qg,qf,qJ,jJ,yg,Qaf,ec,ea,h0,hK,ite_and];(repeat' first|with_reducible assumption|apply jv|intro hp);all_goals first|(apply hQ;clear hQ Q)|(apply jx;kernel_rfl)|omega|assumption|rfl|skip)
   (simp only [vrt,results29,vkt,seval,Wn];refine Fin.val rfl ?_;(try simp only [AV.le,AV.leL]))
   all_goals first|rfl|simp
 ·rw [show ZO c a=([],wz c a) by unfold ZO;rw [if_neg h0]]
  repeat' first|(apply nx;with_reducible constructor)|apply jq (by decide)|((first|apply jz env|apply jw);intro Q hQ;simp only [vkt,seval,Jh,Wn,qd,qa,zl,qo,mTk,qC,yg,ec,ea,h0,ite_and];(repeat' first|with_reducible assumption|apply jv|intro hp);all_goals first|(apply hQ;clear hQ Q)|(apply jx;kernel_rfl)|omega|assumption|rfl|skip)
  (simp only [vrt,results29,vkt,seval,Wn];refine Fin.val rfl ?_;(try simp only [AV.le,AV.leL]))
  all_goals first|rfl|simp
def Vr:=jv @vS @yG.eq_1
def Qj7:=jv @aI.eq_1 (@aB.eq_1)
def Qkm (a b:Int):FnV prog 34 [aI a,aI b] (qw ⟨a,b⟩):=by
 have env:=qA (A:=fun _=>True) kN
 refine kV (Fn0 func34 rfl (fun vs w=>by kernel_rfl) (by kernel_rfl)) (by simp) (by simp [AV.ids,aI]) ?_
 repeat' first|(apply nx;with_reducible constructor)|apply jq (by decide)|((first|apply jz env|apply jw);intro Q hQ;simp only [vkt,seval,Vr,Qj7,ite_and];(repeat' first|with_reducible assumption|apply jv|intro hp);all_goals first|(apply hQ;clear hQ Q)|(apply jx;kernel_rfl)|omega|assumption|rfl|skip)
 (simp only [vrt,results34,vkt,seval,Vr,qw];refine Fin.val rfl ?_;(try simp only [AV.le,AV.leL]))
 all_goals first|rfl|simp
def Qdq:List AV->Prop × AV
 |[.v (.int .i64 a),.v (.int .i64 b)]=>(True,qw ⟨a,b⟩)
 |_=>(False,.junk)
def Qld {A:Frm->Prop}:qm A prog 34 (zw false Qdq):=qL fun vs hv h=>by
 clear hv
 unfold Qdq at h ⊢
 split at h
 ·rename_i a b;clear h
  refine ⟨by first|trivial|(repeat' split) <;> simp [AV.plain,AV.plainL,aI,aB,qz,qc,qy,qw,aTk,cTk],fun h=>absurd h (by decide), ?_⟩
  have:=Qkm a b
  simp only [aI] at this
  first|exact this|(simp only [aI];exact this)
 ·exact h.elim
def XA:=jv @jC @je.eq_1
def QkX:=jv @aI.eq_1 (@aB.eq_1)
def Qi1 (p x c b f t:Int):FnV prog 75 [aI p,aI x,aI c,aI b,aI f,aI t] (aTk ⟨p,x,c,b,f,t,false⟩):=by
 have env:=qA (A:=fun _=>True) (kC Qld kN)
 refine kV (Fn0 func75 rfl (fun vs w=>by kernel_rfl) (by kernel_rfl)) (by simp) (by simp [AV.ids,aI]) ?_
 repeat' first|(apply nx;with_reducible constructor)|apply jq (by decide)|((first|apply jz env|apply jw);intro Q hQ;simp only [vkt,seval,XA,QkX,qw,Qdq,ite_and];(repeat' first|with_reducible assumption|apply jv|intro hp);all_goals first|(apply hQ;clear hQ Q)|(apply jx;kernel_rfl)|omega|assumption|rfl|skip)
 (simp only [vrt,results75,vkt,seval,XA,aTk,cTk];refine Fin.val rfl ?_;(try simp only [AV.le,AV.leL]))
 all_goals first|rfl|simp
def Qc7:List AV->Prop × AV
 |[.v (.int .i64 p),.v (.int .i64 x),.v (.int .i64 c),.v (.int .i64 b),.v (.int .i64 f),.v (.int .i64 t)]=>(True,aTk ⟨p,x,c,b,f,t,false⟩)
 |_=>(False,.junk)
def QlQ {A:Frm->Prop}:qm A prog 75 (zw false Qc7):=qL fun vs hv h=>by
 clear hv
 unfold Qc7 at h ⊢
 split at h
 ·rename_i p x c b f t;clear h
  refine ⟨by first|trivial|(repeat' split) <;> simp [AV.plain,AV.plainL,aI,aB,qz,qc,qy,qw,aTk,cTk],fun h=>absurd h (by decide), ?_⟩
  have:=Qi1 p x c b f t
  simp only [aI] at this
  first|exact this|(simp only [aI];exact this)
 ·exact h.elim
end Go.Sym.B
namespace Go.Proofs
open Go Go.Shelf Go.Proofs.Tryz
def Tryz.lays156_ren:Go.Shelf.Ren:=⟨fun|156=>45|165=>91|166=>92|169=>93|240=>150|241=>151|276=>190|277=>191|n=>n,fun|31=>33|9=>9|3=>3|4=>4|0=>0|20=>20|72=>172|76=>176|70=>170|37=>99|75=>175|127=>242|164=>272|5=>5|80=>178|n=>n,fun|n=>n⟩
def Tryz.lays156:Go.Proofs.Lays.n156 prog Tryz.lays156_ren:={
 mixed:=by kernel_rfl
 f156:=func45.trans (congrArg some (by kernel_rfl))
 f165:=func91.trans (congrArg some (by kernel_rfl))
 f166:=func92.trans (congrArg some (by kernel_rfl))
 f169:=func93.trans (congrArg some (by kernel_rfl))
 f240:=func150.trans (congrArg some (by kernel_rfl))
 f241:=func151.trans (congrArg some (by kernel_rfl))
 f276:=func190.trans (congrArg some (by kernel_rfl))
 f277:=func191.trans (congrArg some (by kernel_rfl))
 t0:=underlying0
 a0:=isAgg0
 z0:=sizeOf0
 v0:=zeroValue0
 t3:=underlying3
 a3:=isAgg3
 z3:=sizeOf3
 v3:=zeroValue3
 t4:=underlying4
 a4:=isAgg4
 z4:=sizeOf4
 v4:=zeroValue4
 t9:=underlying9
 a9:=isAgg9
 z9:=sizeOf9
 v9:=zeroValue9
 t20:=underlying20
 a20:=isAgg20
 z20:=sizeOf20
 v20:=zeroValue20
 t31:=underlying33
 a31:=isAgg33
 z31:=sizeOf33
 v31:=zeroValue33
 t37:=underlying99
 a37:=isAgg99
 z37:=sizeOf99
 v37:=zeroValue99
 t70:=underlying170
 a70:=isAgg170
 z70:=sizeOf170
 v70:=zeroValue170
 t72:=underlying172
 a72:=isAgg172
 z72:=sizeOf172
 v72:=zeroValue172
 t75:=underlying175
 a75:=isAgg175
 z75:=sizeOf175
 v75:=zeroValue175
 t76:=underlying176
 a76:=isAgg176
 z76:=sizeOf176
 v76:=zeroValue176
 t127:=underlying242
 a127:=isAgg242
 z127:=sizeOf242
 v127:=zeroValue242
 t164:=underlying272
 a164:=isAgg272
 z164:=sizeOf272
 v164:=zeroValue272 }
def Tryz.Builder_Extra_156:Builder.Extra prog Tryz.lays156_ren:={
 sizeBuilder:=by kernel_rfl
 liesBuilder:=by kernel_rfl
 t5:=underlying5
 a5:=isAgg5
 z5:=sizeOf5
 v5:=zeroValue5
 infoByte:=by kernel_rfl
 cellsByte:=by kernel_rfl
 sizeByte:=by kernel_rfl
 neB5:=by decide }
open Go.RowKit in
def Tryz.strings_Join_none (a:Option Addr) (c:Nat) (sep:ByteArray) (w:World) :
  Calls prog 45 #[.slice a 0 c,.string sep] w fun e w'=>e=.returned (.string ⟨#[]⟩)/\w'=w:=Any.strings_Join_none Tryz.lays156 Tryz.Builder_Extra_156 a c sep w
open Go.RowKit in
def Tryz.strings_Join (bk o c:Nat) (xs:List ByteArray) (sep:ByteArray) (w:World) (hcells:∀ (j:Nat) x,xs[j]?=some x->w.cell? ⟨bk,o+j,none⟩=some (.string x)) (hbk:bk < w.heap.size) (hN:xs.length<=140737488355328) (hcap:xs.length<=c) (hlen:(Lib.join (xs.map (·.data.toList)) sep.data.toList).length<=140737488355328) :
  Calls prog 45 #[.slice (some ⟨bk,o,none⟩) xs.length c,.string sep] w fun e w'=>e=.returned (.string ⟨(Lib.join (xs.map (·.data.toList)) sep.data.toList).toArray⟩)/\Below w.heap.size w w':=Any.strings_Join Tryz.lays156 Tryz.Builder_Extra_156 bk o c xs sep w hcells hbk hN hcap hlen
def Tryz.laysM171_ren:Go.Shelf.Ren:=⟨fun|171=>43|243=>90|246=>149|283=>186|284=>187|285=>188|286=>189|129=>212|317=>211|318=>213|319=>214|320=>215|337=>225|338=>226|n=>n,fun|3=>3|9=>9|2=>2|4=>4|171=>267|0=>0|53=>90|37=>99|5=>5|173=>270|212=>293|51=>280|20=>20|213=>294|46=>93|232=>308|233=>309|n=>n,fun|17=>0|18=>2|19=>3|n=>n⟩
def Tryz.laysM171:Go.Proofs.LaysM.n171 prog Tryz.laysM171_ren:={
 mixed:=by kernel_rfl
 f129:=func212.trans (congrArg some (by kernel_rfl))
 f171:=func43.trans (congrArg some (by kernel_rfl))
 f243:=func90.trans (congrArg some (by kernel_rfl))
 f246:=func149.trans (congrArg some (by kernel_rfl))
 f283:=func186.trans (congrArg some (by kernel_rfl))
 f284:=func187.trans (congrArg some (by kernel_rfl))
 f285:=func188.trans (congrArg some (by kernel_rfl))
 f286:=func189.trans (congrArg some (by kernel_rfl))
 f317:=func211.trans (congrArg some (by kernel_rfl))
 f318:=func213.trans (congrArg some (by kernel_rfl))
 f319:=func214.trans (congrArg some (by kernel_rfl))
 f320:=func215.trans (congrArg some (by kernel_rfl))
 f337:=func225.trans (congrArg some (by kernel_rfl))
 f338:=func226.trans (congrArg some (by kernel_rfl))
 t0:=underlying0
 a0:=isAgg0
 z0:=sizeOf0
 v0:=zeroValue0
 t2:=underlying2
 a2:=isAgg2
 z2:=sizeOf2
 v2:=zeroValue2
 t3:=underlying3
 a3:=isAgg3
 z3:=sizeOf3
 v3:=zeroValue3
 t4:=underlying4
 a4:=isAgg4
 z4:=sizeOf4
 v4:=zeroValue4
 t5:=underlying5
 a5:=isAgg5
 z5:=sizeOf5
 v5:=zeroValue5
 t9:=underlying9
 a9:=isAgg9
 z9:=sizeOf9
 v9:=zeroValue9
 t20:=underlying20
 a20:=isAgg20
 z20:=sizeOf20
 v20:=zeroValue20
 t37:=underlying99
 a37:=isAgg99
 z37:=sizeOf99
 v37:=zeroValue99
 t46:=underlying93
 a46:=isAgg93
 z46:=sizeOf93
 v46:=zeroValue93
 t51:=underlying280
 a51:=isAgg280
 z51:=sizeOf280
 v51:=zeroValue280
 t53:=underlying90
 a53:=isAgg90
 z53:=sizeOf90
 v53:=zeroValue90
 t171:=underlying267
 a171:=isAgg267
 z171:=sizeOf267
 v171:=zeroValue267
 t173:=underlying270
 a173:=isAgg270
 z173:=sizeOf270
 v173:=zeroValue270
 t212:=underlying293
 a212:=isAgg293
 z212:=sizeOf293
 v212:=zeroValue293
 t213:=underlying294
 a213:=isAgg294
 z213:=sizeOf294
 t232:=underlying308
 a232:=isAgg308
 z232:=sizeOf308
 v232:=zeroValue308
 t233:=underlying309
 a233:=isAgg309
 z233:=sizeOf309
 v233:=zeroValue309
 g17:=by kernel_rfl
 g18:=by kernel_rfl
 g19:=by kernel_rfl
 i0:=by kernel_rfl
 i2:=by kernel_rfl
 i3:=by kernel_rfl
 i4:=by kernel_rfl
 i5:=by kernel_rfl
 i9:=by kernel_rfl
 i20:=by kernel_rfl
 i37:=by kernel_rfl
 i46:=by kernel_rfl
 i51:=by kernel_rfl
 i53:=by kernel_rfl
 i171:=by kernel_rfl
 i173:=by kernel_rfl
 i212:=by kernel_rfl
 i232:=by kernel_rfl
 i233:=by kernel_rfl
 m17:=by kernel_rfl
 m18:=by kernel_rfl
 m19:=by kernel_rfl }
open Go.RowKit Go.Sort Go.Lib in
def Tryz.strconv_Itoa (n : Int) (h0 : -9223372036854775808 <= n) (h1 : n <= 9223372036854775807) (w : World) (htab : Lib.TabIs prog w "internal/strconv.uint64pow10" .u64 Lib.pow10Tab) :
  Calls prog 43 #[.int .i64 n] w fun e w'=>e=.returned (.string ⟨(Lib.itoa n).toArray⟩)/\∃ k os,w'=grow (w.drewN k) os:=Any.strconv_Itoa Tryz.laysM171 n h0 h1 w htab
def Tryz.lays171_ren:Go.Shelf.Ren:=⟨fun|171=>43|243=>90|246=>149|283=>186|284=>187|285=>188|286=>189|129=>212|317=>211|318=>213|319=>214|320=>215|337=>225|338=>226|n=>n,fun|3=>3|9=>9|2=>2|4=>4|171=>267|0=>0|53=>90|37=>99|5=>5|173=>270|212=>293|51=>280|20=>20|213=>294|46=>93|232=>308|233=>309|n=>n,fun|17=>0|18=>2|19=>3|n=>n⟩
def Tryz.lays171:Go.Proofs.Lays.n171 prog Tryz.lays171_ren:={
 mixed:=by kernel_rfl
 f129:=func212.trans (congrArg some (by kernel_rfl))
 f171:=func43.trans (congrArg some (by kernel_rfl))
 f243:=func90.trans (congrArg some (by kernel_rfl))
 f246:=func149.trans (congrArg some (by kernel_rfl))
 f283:=func186.trans (congrArg some (by kernel_rfl))
 f284:=func187.trans (congrArg some (by kernel_rfl))
 f285:=func188.trans (congrArg some (by kernel_rfl))
 f286:=func189.trans (congrArg some (by kernel_rfl))
 f317:=func211.trans (congrArg some (by kernel_rfl))
 f318:=func213.trans (congrArg some (by kernel_rfl))
 f319:=func214.trans (congrArg some (by kernel_rfl))
 f320:=func215.trans (congrArg some (by kernel_rfl))
 f337:=func225.trans (congrArg some (by kernel_rfl))
 f338:=func226.trans (congrArg some (by kernel_rfl))
 t0:=underlying0
 a0:=isAgg0
 z0:=sizeOf0
 v0:=zeroValue0
 t2:=underlying2
 a2:=isAgg2
 z2:=sizeOf2
 v2:=zeroValue2
 t3:=underlying3
 a3:=isAgg3
 z3:=sizeOf3
 v3:=zeroValue3
 t4:=underlying4
 a4:=isAgg4
 z4:=sizeOf4
 v4:=zeroValue4
 t5:=underlying5
 a5:=isAgg5
 z5:=sizeOf5
 v5:=zeroValue5
 t9:=underlying9
 a9:=isAgg9
 z9:=sizeOf9
 v9:=zeroValue9
 t20:=underlying20
 a20:=isAgg20
 z20:=sizeOf20
 v20:=zeroValue20
 t37:=underlying99
 a37:=isAgg99
 z37:=sizeOf99
 v37:=zeroValue99
 t46:=underlying93
 a46:=isAgg93
 z46:=sizeOf93
 v46:=zeroValue93
 t51:=underlying280
 a51:=isAgg280
 z51:=sizeOf280
 v51:=zeroValue280
 t53:=underlying90
 a53:=isAgg90
 z53:=sizeOf90
 v53:=zeroValue90
 t171:=underlying267
 a171:=isAgg267
 z171:=sizeOf267
 v171:=zeroValue267
 t173:=underlying270
 a173:=isAgg270
 z173:=sizeOf270
 v173:=zeroValue270
 t212:=underlying293
 a212:=isAgg293
 z212:=sizeOf293
 v212:=zeroValue293
 t213:=underlying294
 a213:=isAgg294
 z213:=sizeOf294
 t232:=underlying308
 a232:=isAgg308
 z232:=sizeOf308
 v232:=zeroValue308
 t233:=underlying309
 a233:=isAgg309
 z233:=sizeOf309
 v233:=zeroValue309
 g17:=by kernel_rfl
 g18:=by kernel_rfl
 g19:=by kernel_rfl }
open Go.RowKit Go.Sort Go.Lib in
def Tryz.strconv_Itoa_small (i:Nat) (hi:i < 100) (w:World) :
  Calls prog 43 #[.int .i64 i] w fun e w'=>e=.returned (.string ⟨(Lib.decDigits i).toArray⟩)/\w'=w:=Any.strconv_Itoa_small Tryz.lays171 i hi w
def Tryz.laysC172_ren:Go.Shelf.Ren:=⟨fun|172=>199|244=>220|245=>221|247=>232|279=>233|280=>234|281=>235|282=>236|287=>240|316=>241|171=>43|205=>242|321=>243|322=>244|243=>90|246=>149|283=>186|284=>187|285=>188|286=>189|129=>212|317=>211|318=>213|319=>214|320=>215|337=>225|338=>226|n=>n,fun|9=>9|3=>3|75=>175|76=>176|4=>4|5=>5|167=>302|37=>99|0=>0|85=>303|2=>2|168=>305|53=>90|175=>315|46=>93|210=>319|127=>242|145=>325|143=>323|21=>21|171=>267|173=>270|212=>293|51=>280|20=>20|213=>294|232=>308|233=>309|80=>178|n=>n,fun|15=>6|16=>7|17=>0|18=>2|19=>3|n=>n⟩
def Tryz.laysC172:Go.Proofs.LaysC.n172 prog Tryz.laysC172_ren:={
 mixed:=by kernel_rfl
 f129:=func212.trans (congrArg some (by kernel_rfl))
 f171:=func43.trans (congrArg some (by kernel_rfl))
 f172:=func199.trans (congrArg some (by kernel_rfl))
 f205:=func242.trans (congrArg some (by kernel_rfl))
 f243:=func90.trans (congrArg some (by kernel_rfl))
 f244:=func220.trans (congrArg some (by kernel_rfl))
 f245:=func221.trans (congrArg some (by kernel_rfl))
 f246:=func149.trans (congrArg some (by kernel_rfl))
 f247:=func232.trans (congrArg some (by kernel_rfl))
 f279:=func233.trans (congrArg some (by kernel_rfl))
 f280:=func234.trans (congrArg some (by kernel_rfl))
 f281:=func235.trans (congrArg some (by kernel_rfl))
 f282:=func236.trans (congrArg some (by kernel_rfl))
 f283:=func186.trans (congrArg some (by kernel_rfl))
 f284:=func187.trans (congrArg some (by kernel_rfl))
 f285:=func188.trans (congrArg some (by kernel_rfl))
 f286:=func189.trans (congrArg some (by kernel_rfl))
 f287:=func240.trans (congrArg some (by kernel_rfl))
 f316:=func241.trans (congrArg some (by kernel_rfl))
 f317:=func211.trans (congrArg some (by kernel_rfl))
 f318:=func213.trans (congrArg some (by kernel_rfl))
 f319:=func214.trans (congrArg some (by kernel_rfl))
 f320:=func215.trans (congrArg some (by kernel_rfl))
 f321:=func243.trans (congrArg some (by kernel_rfl))
 f322:=func244.trans (congrArg some (by kernel_rfl))
 f337:=func225.trans (congrArg some (by kernel_rfl))
 f338:=func226.trans (congrArg some (by kernel_rfl))
 t0:=underlying0
 a0:=isAgg0
 z0:=sizeOf0
 v0:=zeroValue0
 t2:=underlying2
 a2:=isAgg2
 z2:=sizeOf2
 v2:=zeroValue2
 t3:=underlying3
 a3:=isAgg3
 z3:=sizeOf3
 v3:=zeroValue3
 t4:=underlying4
 a4:=isAgg4
 z4:=sizeOf4
 v4:=zeroValue4
 t5:=underlying5
 a5:=isAgg5
 z5:=sizeOf5
 v5:=zeroValue5
 t9:=underlying9
 a9:=isAgg9
 z9:=sizeOf9
 v9:=zeroValue9
 t20:=underlying20
 a20:=isAgg20
 z20:=sizeOf20
 v20:=zeroValue20
 t21:=underlying21
 a21:=isAgg21
 z21:=sizeOf21
 v21:=zeroValue21
 t37:=underlying99
 a37:=isAgg99
 z37:=sizeOf99
 v37:=zeroValue99
 t46:=underlying93
 a46:=isAgg93
 z46:=sizeOf93
 v46:=zeroValue93
 t51:=underlying280
 a51:=isAgg280
 z51:=sizeOf280
 v51:=zeroValue280
 t53:=underlying90
 a53:=isAgg90
 z53:=sizeOf90
 v53:=zeroValue90
 t75:=underlying175
 a75:=isAgg175
 z75:=sizeOf175
 v75:=zeroValue175
 t76:=underlying176
 a76:=isAgg176
 z76:=sizeOf176
 v76:=zeroValue176
 t85:=underlying303
 a85:=isAgg303
 z85:=sizeOf303
 v85:=zeroValue303
 t127:=underlying242
 a127:=isAgg242
 z127:=sizeOf242
 v127:=zeroValue242
 t143:=underlying323
 a143:=isAgg323
 z143:=sizeOf323
 v143:=zeroValue323
 t145:=underlying325
 a145:=isAgg325
 z145:=sizeOf325
 v145:=zeroValue325
 t167:=underlying302
 a167:=isAgg302
 z167:=sizeOf302
 v167:=zeroValue302
 t168:=underlying305
 a168:=isAgg305
 z168:=sizeOf305
 v168:=zeroValue305
 t171:=underlying267
 a171:=isAgg267
 z171:=sizeOf267
 v171:=zeroValue267
 t173:=underlying270
 a173:=isAgg270
 z173:=sizeOf270
 v173:=zeroValue270
 t175:=underlying315
 a175:=isAgg315
 z175:=sizeOf315
 v175:=zeroValue315
 t210:=underlying319
 a210:=isAgg319
 z210:=sizeOf319
 v210:=zeroValue319
 t212:=underlying293
 a212:=isAgg293
 z212:=sizeOf293
 v212:=zeroValue293
 t213:=underlying294
 a213:=isAgg294
 z213:=sizeOf294
 t232:=underlying308
 a232:=isAgg308
 z232:=sizeOf308
 v232:=zeroValue308
 t233:=underlying309
 a233:=isAgg309
 z233:=sizeOf309
 v233:=zeroValue309
 g15:=by kernel_rfl
 g16:=by kernel_rfl
 g17:=by kernel_rfl
 g18:=by kernel_rfl
 g19:=by kernel_rfl
 t80:=underlying178
 a80:=isAgg178
 z80:=sizeOf178
 v80:=zeroValue178
 i0:=by kernel_rfl
 i2:=by kernel_rfl
 i3:=by kernel_rfl
 i4:=by kernel_rfl
 i5:=by kernel_rfl
 i9:=by kernel_rfl
 i20:=by kernel_rfl
 i21:=by kernel_rfl
 i37:=by kernel_rfl
 i46:=by kernel_rfl
 i51:=by kernel_rfl
 i53:=by kernel_rfl
 i75:=by kernel_rfl
 i76:=by kernel_rfl
 i80:=by kernel_rfl
 i85:=by kernel_rfl
 i127:=by kernel_rfl
 i143:=by kernel_rfl
 i145:=by kernel_rfl
 i167:=by kernel_rfl
 i168:=by kernel_rfl
 i171:=by kernel_rfl
 i173:=by kernel_rfl
 i175:=by kernel_rfl
 i210:=by kernel_rfl
 i212:=by kernel_rfl
 i232:=by kernel_rfl
 i233:=by kernel_rfl
 m15:=by kernel_rfl
 m16:=by kernel_rfl
 m17:=by kernel_rfl
 m18:=by kernel_rfl
 m19:=by kernel_rfl
 c0:=by kernel_rfl
 c2:=by kernel_rfl
 c3:=by kernel_rfl
 c4:=by kernel_rfl
 c5:=by kernel_rfl
 c9:=by kernel_rfl
 c20:=by kernel_rfl
 c21:=by kernel_rfl
 c37:=by kernel_rfl
 c46:=by kernel_rfl
 c51:=by kernel_rfl
 c53:=by kernel_rfl
 c75:=by kernel_rfl
 c76:=by kernel_rfl
 c80:=by kernel_rfl
 c85:=by kernel_rfl
 c127:=by kernel_rfl
 c143:=by kernel_rfl
 c145:=by kernel_rfl
 c167:=by kernel_rfl
 c168:=by kernel_rfl
 c171:=by kernel_rfl
 c173:=by kernel_rfl
 c175:=by kernel_rfl
 c210:=by kernel_rfl
 c212:=by kernel_rfl
 c213:=by kernel_rfl
 c232:=by kernel_rfl
 c233:=by kernel_rfl }
open Go.RowKit in
def Tryz.strconv_Atoi_ok (s:ByteArray) (hmax:s.size<=9223372036854775806) (v:Int) (h:Lib.atoiAll s.data.toList=.ok v) (w:World) :
  Calls prog 199 #[.string s] w fun e w'=>e=.returned (.tuple #[.int .i64 v,.nilIface])/\(w'=w\/∃ t,w'=Lib.bytesWorld w 5 t):=Any.strconv_Atoi_ok Tryz.laysC172 s hmax v h w
open Go.RowKit in
def Tryz.strconv_Atoi_syntax (s:ByteArray) (hlim:s.size<=281474976710656) (h:Lib.atoiAll s.data.toList=Lib.atoiAll []) (ev:Value) (w:World) (hv:w.cell? ⟨6,0,none⟩=some ev) (hev:ev=.nilIface\/∃ te pe,ev=.iface te pe) :
  Calls prog 199 #[.string s] w fun e w'=>∃ N,e=.returned (.tuple #[.int .i64 (0),.iface 305 (.pointer (some ⟨N,0,none⟩))])/\w.heap.size<=N/\w'.heap[N]?=some (.cells #[.string ⟨#[65,116,111,105]⟩,.string s,ev] 319 (0,0))/\Below w.heap.size w w':=Any.strconv_Atoi_syntax Tryz.laysC172 s hlim h ev w hv hev
open Go.RowKit in
def Tryz.strconv_Atoi_range (s:ByteArray) (hlim:s.size<=281474976710656) (h:Lib.atoiAll s.data.toList=.range) (ev:Value) (w:World) (hv:w.cell? ⟨7,0,none⟩=some ev) (hev:ev=.nilIface\/∃ te pe,ev=.iface te pe) :
  Calls prog 199 #[.string s] w fun e w'=>∃ N,e=.returned (.tuple #[.int .i64 (Lib.atoiSat s.data.toList),.iface 305 (.pointer (some ⟨N,0,none⟩))])/\w.heap.size<=N/\w'.heap[N]?=some (.cells #[.string ⟨#[65,116,111,105]⟩,.string s,ev] 319 (0,0))/\Below w.heap.size w w':=Any.strconv_Atoi_range Tryz.laysC172 s hlim h ev w hv hev
def Tryz.lays145_ren:Go.Shelf.Ren:=⟨fun|145=>207|220=>223|219=>219|217=>228|225=>229|224=>230|267=>231|266=>238|314=>239|n=>n,fun|9=>9|4=>4|59=>287|3=>3|5=>5|46=>93|146=>281|51=>280|n=>n,fun|1=>1|n=>n⟩
def Tryz.lays145:Go.Proofs.Lays.n145 prog Tryz.lays145_ren:={
 mixed:=by kernel_rfl
 f145:=func207.trans (congrArg some (by kernel_rfl))
 f217:=func228.trans (congrArg some (by kernel_rfl))
 f219:=func219.trans (congrArg some (by kernel_rfl))
 f220:=func223.trans (congrArg some (by kernel_rfl))
 f224:=func230.trans (congrArg some (by kernel_rfl))
 f225:=func229.trans (congrArg some (by kernel_rfl))
 f266:=func238.trans (congrArg some (by kernel_rfl))
 f267:=func231.trans (congrArg some (by kernel_rfl))
 f314:=func239.trans (congrArg some (by kernel_rfl))
 t3:=underlying3
 a3:=isAgg3
 z3:=sizeOf3
 v3:=zeroValue3
 t4:=underlying4
 a4:=isAgg4
 z4:=sizeOf4
 v4:=zeroValue4
 t5:=underlying5
 a5:=isAgg5
 z5:=sizeOf5
 v5:=zeroValue5
 t9:=underlying9
 a9:=isAgg9
 z9:=sizeOf9
 v9:=zeroValue9
 t46:=underlying93
 a46:=isAgg93
 z46:=sizeOf93
 v46:=zeroValue93
 t51:=underlying280
 a51:=isAgg280
 z51:=sizeOf280
 v51:=zeroValue280
 t59:=underlying287
 a59:=isAgg287
 z59:=sizeOf287
 v59:=zeroValue287
 t146:=underlying281
 a146:=isAgg281
 z146:=sizeOf281
 v146:=zeroValue281
 g1:=by kernel_rfl }
open Go.RowKit Go.Lib in
def Tryz.strings_Cut (s sep:ByteArray) (m:Int) (w:World) (hs:s.size < 4294967281) (hm:w.cell? ⟨1,0,none⟩=some (.int .i64 m)) :
  Calls prog 207 #[.string s,.string sep] w fun e w'=>e=.returned (.tuple #[.string ⟨(Lib.cut s.data.toList sep.data.toList).1.toArray⟩,.string ⟨(Lib.cut s.data.toList sep.data.toList).2.1.toArray⟩,.bool (Lib.cut s.data.toList sep.data.toList).2.2])/\∃ n,w'=w.drewN n:=Any.strings_Cut Tryz.lays145 s sep m w hs hm
def Tryz.lays146_ren:Go.Shelf.Ren:=⟨fun|146=>96|221=>154|268=>196|138=>197|143=>198|195=>216|197=>217|218=>218|219=>219|260=>227|217=>228|225=>229|224=>230|267=>231|266=>238|314=>239|n=>n,fun|9=>9|31=>33|3=>3|4=>4|0=>0|105=>297|21=>21|5=>5|46=>93|119=>310|139=>313|138=>312|146=>281|51=>280|n=>n,fun|1=>1|3=>4|4=>5|n=>n⟩
def Tryz.lays146:Go.Proofs.Lays.n146 prog Tryz.lays146_ren:={
 mixed:=by kernel_rfl
 f138:=func197.trans (congrArg some (by kernel_rfl))
 f143:=func198.trans (congrArg some (by kernel_rfl))
 f146:=func96.trans (congrArg some (by kernel_rfl))
 f195:=func216.trans (congrArg some (by kernel_rfl))
 f197:=func217.trans (congrArg some (by kernel_rfl))
 f217:=func228.trans (congrArg some (by kernel_rfl))
 f218:=func218.trans (congrArg some (by kernel_rfl))
 f219:=func219.trans (congrArg some (by kernel_rfl))
 f221:=func154.trans (congrArg some (by kernel_rfl))
 f224:=func230.trans (congrArg some (by kernel_rfl))
 f225:=func229.trans (congrArg some (by kernel_rfl))
 f260:=func227.trans (congrArg some (by kernel_rfl))
 f266:=func238.trans (congrArg some (by kernel_rfl))
 f267:=func231.trans (congrArg some (by kernel_rfl))
 f268:=func196.trans (congrArg some (by kernel_rfl))
 f314:=func239.trans (congrArg some (by kernel_rfl))
 t0:=underlying0
 a0:=isAgg0
 z0:=sizeOf0
 v0:=zeroValue0
 t3:=underlying3
 a3:=isAgg3
 z3:=sizeOf3
 v3:=zeroValue3
 t4:=underlying4
 a4:=isAgg4
 z4:=sizeOf4
 v4:=zeroValue4
 t5:=underlying5
 a5:=isAgg5
 z5:=sizeOf5
 v5:=zeroValue5
 t9:=underlying9
 a9:=isAgg9
 z9:=sizeOf9
 v9:=zeroValue9
 t21:=underlying21
 a21:=isAgg21
 z21:=sizeOf21
 v21:=zeroValue21
 t31:=underlying33
 a31:=isAgg33
 z31:=sizeOf33
 v31:=zeroValue33
 t46:=underlying93
 a46:=isAgg93
 z46:=sizeOf93
 v46:=zeroValue93
 t51:=underlying280
 a51:=isAgg280
 z51:=sizeOf280
 v51:=zeroValue280
 t105:=underlying297
 a105:=isAgg297
 z105:=sizeOf297
 v105:=zeroValue297
 t119:=underlying310
 a119:=isAgg310
 z119:=sizeOf310
 t138:=underlying312
 a138:=isAgg312
 z138:=sizeOf312
 v138:=zeroValue312
 t139:=underlying313
 a139:=isAgg313
 z139:=sizeOf313
 v139:=zeroValue313
 t146:=underlying281
 a146:=isAgg281
 z146:=sizeOf281
 v146:=zeroValue281
 g1:=by kernel_rfl
 g3:=by kernel_rfl
 g4:=by kernel_rfl }
open Go.RowKit Go.Lib in
def Tryz.strings_Split (s sep:ByteArray) (m:Int) (w:World) (hs:s.size < 4294967281) (hm:w.cell? ⟨1,0,none⟩=some (.int .i64 m)) (h1:1<=sep.size) :
  Calls prog 96 #[.string s,.string sep] w fun e w' =>
   e=.returned (.slice (some ⟨w.heap.size,0,none⟩) (Lib.countB s sep+1) (Lib.countB s sep+1))/\w'=w.alloc (.cells ((Lib.splitB sep 0 (Lib.countB s sep) s).map Value.string).toArray 9):=Any.strings_Split Tryz.lays146 (by kernel_rfl) s sep m w hs hm h1
end Go.Proofs
namespace Go.Sym.B
open Go Go.Sym Go.Proofs Go.Proofs.Tryz Go.Sym.C
def yf (x:Int):List (Nat × AObj):=[(0,.cells [.v (.int .u64 x)])]
def xsh (s:Int) (k:Nat):Int:=IntKind.u64.wrap (BitVec.ofInt IntKind.u64.bits s ^^^ BitVec.ofInt IntKind.u64.bits (s.fdiv (2 ^ min k IntKind.u64.bits))).toNat
def nxS (x:Int):Int:=IntKind.u64.wrap (IntKind.u64.wrap (x * 2862933555777941757)+3037000493)
def nxV (x:Int):Int:=xsh (IntKind.u64.wrap (xsh (nxS x) 31 * 10723151780598845931)) 30
def Qec:=jv @ty90 (jv @ty92 (jv @QeU.eq_1 @Qib.eq_1))
def Qkt (x:Int):Fn noB prog 87 [.ptr 0 0] (qb (yf x)) (.v (.int .u64 (nxV x))) (qb (yf (nxS x))) 0:=by
 have env:=qA (A:=fun _=>True) kN
 refine Fn.of (A:=fun _=>True) (n0:=1) (D:=noD) (Fn0 func87 rfl (fun vs w=>by kernel_rfl) (by kernel_rfl)) (by simp) (by simp [AV.ids]) ?_ (fun _ _ _ _=>trivial) qX ?_
 ·intro i o hi
  have h:=qG hi
  simp [yf] at h
  rcases h with ⟨rfl,rfl⟩;simp [AObj.ids,AV.ids,AV.idsL]
 repeat' first|(apply nx;with_reducible constructor)|apply jq (by decide)|((first|apply jz env|apply jw);intro Q hQ;simp only [vkt,seval,Qec,yf,ite_and];(repeat' first|with_reducible assumption|apply jv|intro hp);all_goals first|(apply hQ;clear hQ Q)|(apply jx;kernel_rfl)|omega|assumption|rfl|skip)
 (simp only [vrt,results87,vkt,seval,yf];refine Fin.ok some [] ?_ ?_ ?_ ?_ ?_ rfl;all_goals (try simp only [vle,vkt,seval]))
 all_goals rfl
def Qh3 (S:St):List AV->Option Pk
 |[.ptr i 0]=>match S.h i with
  |some (.cells [.v (.int .u64 x)])=>some { hs:=[i],ar:=[.ptr 0 0],L0:=[.cells [.v (.int .u64 x)]],v:=.v (.int .u64 (nxV x)),L1:=[some (.cells [.v (.int .u64 (nxS x))])] }
  |_=>none
 |_=>none
def eNext {A:Frm->Prop}:qm A prog 87 (fnE Qh3):=zJ fun S bs q h hp=>by
 unfold Qh3 at h
 split at h
 ·split at h
  ·cases h;exact Qkt _
  ·cases h
 ·cases h
def Qft (x m:Int):Int:=if m < 1 then 0 else IntKind.i64.wrap (((nxV x).fdiv (2 ^ min 13 IntKind.u64.bits)).tmod (IntKind.u64.wrap (IntKind.i64.wrap (m+1))))
def Qg7 (x m:Int):Int:=if m < 1 then x else nxS x
def QdM:∃ f:Int->Int->Int × Int,∀ x m,f x m=(Qft x m,Qg7 x m):=⟨fun x m=>(Qft x m,Qg7 x m),fun _ _=>rfl⟩
noncomputable def upV (x m:Int):Int:=(Classical.choose QdM x m).1
noncomputable def upS (x m:Int):Int:=(Classical.choose QdM x m).2
def QhW (x m:Int):upV x m=Qft x m:=by unfold upV;rw [Classical.choose_spec QdM]
def QlU (x m:Int):upS x m=Qg7 x m:=by unfold upS;rw [Classical.choose_spec QdM]
def Qih {n:Int} (h0:0<=n) (h1:n < 18446744073709551616):IntKind.u64.wrap n=n:=by
 unfold IntKind.wrap
 simp only [IntKind.bits,IntKind.signed]
 simp
 omega
def QhO (n:Int):0<=IntKind.u64.wrap n:=by
 unfold IntKind.wrap
 simp only [IntKind.bits,IntKind.signed]
 simp
 omega
def Qby {x m:Int} (h:m < 9223372036854775807):0<=upV x m/\(upV x m<=m\/upV x m=0):=by
 rw [QhW]
 unfold Qft
 split
 ·exact ⟨cS _,.inr rfl⟩
 ·have h1:IntKind.i64.wrap (m+1)=m+1:=wrap64 (by omega) (by omega)
  have h2:IntKind.u64.wrap (m+1)=m+1:=Qih (by omega) (by omega)
  rw [h1,h2]
  have h3:0<=(nxV x).fdiv (2 ^ min 13 IntKind.u64.bits):=Int.fdiv_nonneg (by unfold nxV xsh;exact QhO _) (by decide)
  rw [Int.tmod_eq_emod_of_nonneg h3]
  have h4:=Int.emod_nonneg ((nxV x).fdiv (2 ^ min 13 IntKind.u64.bits)) (show m+1 ≠ 0 by omega)
  have h5:=Int.emod_lt_of_pos ((nxV x).fdiv (2 ^ min 13 IntKind.u64.bits)) (show 0 < m+1 by omega)
  rw [wrap64 (by omega) (by omega)]
  omega
def QdA:=jv @ty3 (jv @ty90 (jv @ti3.eq_1 @QeU.eq_1))
def RU:=jv @aI.eq_1 (@aB.eq_1)
def up_fn (x m:Int) (h:m < 9223372036854775807):Fn noB prog 38 [.ptr 0 0,aI m] (qb (yf x)) (aI (upV x m)) (qb (yf (upS x m))) 0:=by
 have env:=qA (A:=fun _=>True) (kC eNext kN)
 refine Fn.of (A:=fun _=>True) (n0:=1) (D:=noD) (Fn0 func38 rfl (fun vs w=>by kernel_rfl) (by kernel_rfl)) (by simp) (by simp [AV.ids,aI]) ?_ (fun _ _ _ _=>trivial) qX ?_
 ·intro i o hi
  have h:=qG hi
  simp [yf] at h
  rcases h with ⟨rfl,rfl⟩;simp [AObj.ids,AV.ids,AV.idsL]
 rw [QhW,QlU]
 by_cases c1:m < 1
 ·rw [show Qft x m=0 from if_pos c1,show Qg7 x m=x from if_pos c1]
  repeat' first|(apply nx;with_reducible constructor)|apply jq (by decide)|((first|apply jz env|apply jw);intro Q hQ;simp only [vkt,seval,QdA,RU,yf,c1,ite_and];(repeat' first|with_reducible assumption|apply jv|intro hp);all_goals first|(apply hQ;clear hQ Q)|(apply jx;kernel_rfl)|omega|assumption|rfl|skip)
  (simp only [vrt,results38,vkt,seval,RU,yf];refine Fin.ok some [] ?_ ?_ ?_ ?_ ?_ rfl;all_goals (try simp only [vle,vkt,seval]))
  all_goals simp
 ·rw [show Qft x m=_ from if_neg c1,show Qg7 x m=_ from if_neg c1]
  have h1:IntKind.i64.wrap (m+1)=m+1:=wrap64 (by omega) (by omega)
  have h2:IntKind.u64.wrap (m+1)=m+1:=Qih (by omega) (by omega)
  have h0:¬ m+1=0:=by omega
  repeat' first|(apply nx;with_reducible constructor)|apply jq (by decide)|((first|apply jz env|apply jw);intro Q hQ;simp only [vkt,seval,QdA,RU,yf,Qh3,c1,h1,h2,h0,ite_and];(repeat' first|with_reducible assumption|apply jv|intro hp);all_goals first|(apply hQ;clear hQ Q)|(apply jx;kernel_rfl)|omega|assumption|rfl|skip)
  (simp only [vrt,results38,vkt,seval,RU,yf];refine Fin.ok some [] ?_ ?_ ?_ ?_ ?_ rfl;all_goals (try simp only [vle,vkt,seval]))
  all_goals (first|rfl|rw [h1,h2])
noncomputable def pUp (S:St):List AV->Option Pk
 |[.ptr i 0,.v (.int .i64 m)]=>match S.h i with
  |some (.cells [.v (.int .u64 x)])=>some { pre:=m < 9223372036854775807,hs:=[i],ar:=[.ptr 0 0,.v (.int .i64 m)],L0:=[.cells [.v (.int .u64 x)]],v:=.v (.int .i64 (upV x m)),L1:=[some (.cells [.v (.int .u64 (upS x m))])] }
  |_=>none
 |_=>none
def eUp {A:Frm->Prop}:qm A prog 38 (fnE pUp):=zJ fun S bs q h hp=>by
 unfold pUp at h
 split at h
 ·split at h
  ·cases h;exact up_fn _ _ hp
  ·cases h
 ·cases h
def QfI:=jv @ty3 @ti3.eq_1
def QgN:=jv @aI.eq_1 (@aB.eq_1)
def QjR (x a b:Int) (h:-100000<=a/\a<=100000/\-100000<=b/\b<=100000):Fn noB prog 36 [.ptr 0 0,aI a,aI b] (qb (yf x)) (aI (a+upV x (b - a))) (qb (yf (upS x (b - a)))) 0:=by
 have env:=qA (A:=fun _=>True) (kC eUp kN)
 refine Fn.of (A:=fun _=>True) (n0:=1) (D:=noD) (Fn0 func36 rfl (fun vs w=>by kernel_rfl) (by kernel_rfl)) (by simp) (by simp [AV.ids,aI]) ?_ (fun _ _ _ _=>trivial) qX ?_
 ·intro i o hi
  have h:=qG hi
  simp [yf] at h
  rcases h with ⟨rfl,rfl⟩;simp [AObj.ids,AV.ids,AV.idsL]
 have b1:=Qby (x:=x) (m:=b - a) (by omega)
 have h1:IntKind.i64.wrap (b - a)=b - a:=wrap64 (by omega) (by omega)
 have h2:IntKind.i64.wrap (a+upV x (b - a))=a+upV x (b - a):=wrap64 (by omega) (by omega)
 have h3:b - a < 9223372036854775807:=by omega
 repeat' first|(apply nx;with_reducible constructor)|apply jq (by decide)|((first|apply jz env|apply jw);intro Q hQ;simp only [vkt,seval,QfI,QgN,yf,pUp,h1,h2,ite_and];(repeat' first|with_reducible assumption|apply jv|intro hp);all_goals first|(apply hQ;clear hQ Q)|(apply jx;kernel_rfl)|omega|assumption|rfl|skip)
 (simp only [vrt,results36,vkt,seval,QgN,yf];refine Fin.ok some [] ?_ ?_ ?_ ?_ ?_ rfl;all_goals (try simp only [vle,vkt,seval]))
 all_goals rfl
noncomputable def KJ (S:St):List AV->Option Pk
 |[.ptr i 0,.v (.int .i64 a),.v (.int .i64 b)]=>match S.h i with
  |some (.cells [.v (.int .u64 x)])=>some { pre:=-100000<=a/\a<=100000/\-100000<=b/\b<=100000,hs:=[i],ar:=[.ptr 0 0,.v (.int .i64 a),.v (.int .i64 b)],L0:=[.cells [.v (.int .u64 x)]],v:=.v (.int .i64 (a+upV x (b - a))),L1:=[some (.cells [.v (.int .u64 (upS x (b - a)))])] }
  |_=>none
 |_=>none
def eFrom {A:Frm->Prop}:qm A prog 36 (fnE KJ):=zJ fun S bs q h hp=>by
 unfold KJ at h
 split at h
 ·split at h
  ·cases h;exact QjR _ _ _ hp
  ·cases h
 ·cases h
def nbK (l:List Int):Nat->Int
 |0=>11400714819323198485
 |k+1=>xsh (IntKind.u64.wrap (IntKind.u64.wrap (nbK l k+IntKind.u64.wrap (l.getD k 0)) * 13787848793156543929)) 29
def nbS (l:List Int):Int:=nbK l l.length
def nbI (l:List Int) (k:Nat):St:={ t:=asg [(0,qz l),(3,.ptr 0 0),(4,aI k)],h:=qb (yf (nbK l k)),n:=1 }
def VC:=jv @ty3 (jv @Jj (jv @ty90 (jv @ty92 (jv @ti3.eq_1 (jv @ZE.eq_1 (jv @QeU.eq_1 @Qib.eq_1))))))
def VH:=jv @aI.eq_1 (jv @aB.eq_1 (jv @nbI.eq_1 (jv @qz.eq_1 (jv @QeB (@zL.eq_1)))))
def QmC (l:List Int) (hl:l.length<=maxLen):Fn noB prog 10 [qz l] noH (.ptr 0 0) (qb (yf (nbS l))) 0:=by
 have env:=qA (A:=fun _=>True) kN
 refine kV (Fn0 func10 rfl (fun vs w=>by kernel_rfl) (by kernel_rfl)) (by simp) (by simp [AV.ids,qz]) ?_
 repeat' first|(apply nx;with_reducible constructor)|apply jq (by decide)|((first|apply jz env|apply jw);intro Q hQ;simp only [vkt,seval,VC,VH,ite_and];(repeat' first|with_reducible assumption|apply jv|intro hp);all_goals first|(apply hQ;clear hQ Q)|(apply jx;kernel_rfl)|omega|assumption|rfl|skip)
 refine qN (fun k:{ k:Nat // k<=l.length }=>nbI l k.1) (fun k=>l.length - k.1) ⟨0,ag _⟩ ?_ fun ⟨k,hk⟩=>?_
 ·(refine Le.ok some [] ?_;constructor;all_goals (try simp only [vle,vkt,seval,VH,yf]))
  all_goals first|rfl|simp
 ·repeat' first|(apply nx;with_reducible constructor)|apply jq (by decide)
  (apply jz env;intro Q hQ;simp only [vkt,seval,VC,VH,yf,ite_and];(repeat' first|with_reducible assumption|apply jv|intro hp);all_goals first|(apply hQ;clear hQ Q)|(apply jx;kernel_rfl)|omega|assumption|rfl|skip)
  repeat' first|(apply nx;with_reducible constructor)|apply jq (by decide)
  (refine jE (by simp only [vkt,seval];rfl) (fun h=>?_) (fun h=>?_) <;> (try simp only [vki] at h))
  ·have hlt:k < l.length:=by omega
   have e9:=QeE hlt hl
   repeat' first|(apply nx;with_reducible constructor)|apply jq (by decide)|((first|apply jz env|apply jw);intro Q hQ;simp only [vkt,seval,VC,VH,e9,ite_and];(repeat' first|with_reducible assumption|apply jv|intro hp);all_goals first|(apply hQ;clear hQ Q)|(apply jx;kernel_rfl)|omega|assumption|rfl|skip)
   refine ⟨⟨k+1,hlt⟩,by show l.length - (k+1) < l.length - k;omega, ?_⟩
   (refine Le.ok some [] ?_;constructor;all_goals (try simp only [vle,vkt,seval,VH,yf]))
   all_goals first|rfl|(simp [e9];done)
  ·have hkn:k=l.length:=by omega
   subst hkn
   repeat' first|(apply nx;with_reducible constructor)|apply jq (by decide)|((first|apply jz env|apply jw);intro Q hQ;simp only [vkt,seval,ite_and];(repeat' first|with_reducible assumption|apply jv|intro hp);all_goals first|(apply hQ;clear hQ Q)|(apply jx;kernel_rfl)|omega|assumption|rfl|skip)
   (simp only [vrt,results10,vkt,seval,yf];refine Fin.ok some [] ?_ ?_ ?_ ?_ ?_ rfl;all_goals (try simp only [vle,vkt,seval]))
   all_goals rfl
def pBag (_:St):List AV->Option Pk
 |[.sl xs]=>some { pre:=xs=(xs.map zI).map zL/\xs.length<=maxLen,ar:=[.sl xs],v:=.ptr 0 0,L1:=[some (.cells [.v (.int .u64 (nbS (xs.map zI)))])] }
 |_=>none
def eBag {A:Frm->Prop}:qm A prog 10 (fnE pBag):=zJ fun S bs q h hp=>by
 unfold pBag at h
 split at h <;> cases h
 have:=QmC (List.map zI _) (by rw [ao];exact hp.2)
 simp only [qz,<- hp.1] at this
 exact this
def LJ:=jv @ty3 @ti3.eq_1
def Qg5:=jv @aI.eq_1 (@aB.eq_1)
def QeJ (x n m:Int) (h:0<=m/\m<=100000):Fn noB prog 37 [.ptr 0 0,aI n,aI m] (qb (yf x)) (aB (decide (upV x (m - 1) < n))) (qb (yf (upS x (m - 1)))) 0:=by
 have env:=qA (A:=fun _=>True) (kC eUp kN)
 refine Fn.of (A:=fun _=>True) (n0:=1) (D:=noD) (Fn0 func37 rfl (fun vs w=>by kernel_rfl) (by kernel_rfl)) (by simp) (by simp [AV.ids,aI]) ?_ (fun _ _ _ _=>trivial) qX ?_
 ·intro i o hi
  have h:=qG hi
  simp [yf] at h
  rcases h with ⟨rfl,rfl⟩;simp [AObj.ids,AV.ids,AV.idsL]
 have h1:IntKind.wrap .i64 (m - 1)=m - 1:=wrap64 (by omega) (by omega)
 have h2:m - 1 < 9223372036854775807:=by omega
 repeat' first|(apply nx;with_reducible constructor)|apply jq (by decide)|((first|apply jz env|apply jw);intro Q hQ;simp only [vkt,seval,LJ,Qg5,yf,pUp,h1,h2,ite_and];(repeat' first|with_reducible assumption|apply jv|intro hp);all_goals first|(apply hQ;clear hQ Q)|(apply jx;kernel_rfl)|omega|assumption|rfl|skip)
 (simp only [vrt,results37,vkt,seval,Qg5,yf];refine Fin.ok some [] ?_ ?_ ?_ ?_ ?_ rfl;all_goals (try simp only [vle,vkt,seval]))
 all_goals first|rfl|simp
noncomputable def JC (S:St):List AV->Option Pk
 |[.ptr i 0,.v (.int .i64 n),.v (.int .i64 m)]=>match S.h i with
  |some (.cells [.v (.int .u64 x)])=>some { pre:=0<=m/\m<=100000,hs:=[i],ar:=[.ptr 0 0,.v (.int .i64 n),.v (.int .i64 m)],L0:=[.cells [.v (.int .u64 x)]],v:=.v (.bool (decide (upV x (m - 1) < n))),L1:=[some (.cells [.v (.int .u64 (upS x (m - 1)))])] }
  |_=>none
 |_=>none
def Qju {A:Frm->Prop}:qm A prog 37 (fnE JC):=zJ fun S bs q h hp=>by
 unfold JC at h
 split at h
 ·split at h
  ·cases h;exact QeJ _ _ _ hp
  ·cases h
 ·cases h
def QiF:=jv @ty3 (jv @Jj (jv @ti3.eq_1 @ZE.eq_1))
def Qix:=jv @aI.eq_1 (jv @aB.eq_1 (jv @qz.eq_1 (jv @zL.eq_1 (@QeB))))
def Qnf (x:Int) (l:List Int) (h:0 < l.length/\l.length<=100000):Fn noB prog 39 [.ptr 0 0,qz l] (qb (yf x)) (aI (l.getD (upV x ((l.length:Int) - 1)).toNat 0)) (qb (yf (upS x ((l.length:Int) - 1)))) 0:=by
 have env:=qA (A:=fun _=>True) (kC eUp kN)
 refine Fn.of (A:=fun _=>True) (n0:=1) (D:=noD) (Fn0 func39 rfl (fun vs w=>by kernel_rfl) (by kernel_rfl)) (by simp) (by simp [AV.ids,qz]) ?_ (fun _ _ _ _=>trivial) qX ?_
 ·intro i o hi
  have h:=qG hi
  simp [yf] at h
  rcases h with ⟨rfl,rfl⟩;simp [AObj.ids,AV.ids,AV.idsL]
 have h1:IntKind.wrap .i64 ((l.length:Int) - 1)=(l.length:Int) - 1:=wrap64 (by omega) (by omega)
 have h2:(l.length:Int) - 1 < 9223372036854775807:=by omega
 have hb:=Qby (x:=x) (m:=(l.length:Int) - 1) h2
 obtain ⟨i,hi⟩:∃ i:Nat,upV x ((l.length:Int) - 1)=i:=⟨(upV x ((l.length:Int) - 1)).toNat,by omega⟩
 rw [hi] at hb ⊢
 have i0:((i:Int)).toNat=i:=rfl
 have hil:i < l.length:=by omega
 have d0:decide ((l.length:Int)=0)=false:=decide_eq_false (by omega)
 obtain ⟨y,hy⟩:∃ y,l.getD i 0=y:=⟨_,rfl⟩
 rw [i0,hy]
 repeat' first|(apply nx;with_reducible constructor)|apply jq (by decide)|((first|apply jz env|apply jw);intro Q hQ;simp only [vkt,seval,QiF,Qix,yf,pUp,h1,h2,hi,i0,hil,d0,hy,ite_and];(repeat' first|with_reducible assumption|apply jv|intro hp);all_goals first|(apply hQ;clear hQ Q)|(apply jx;kernel_rfl)|omega|assumption|rfl|skip)
 (simp only [vrt,results39,vkt,seval,Qix,yf];refine Fin.ok some [] ?_ ?_ ?_ ?_ ?_ rfl;all_goals (try simp only [vle,vkt,seval]))
 all_goals first|rfl|simp
noncomputable def pOne (S:St):List AV->Option Pk
 |[.ptr i 0,.row r]=>match S.h i,S.h r with
  |some (.cells [.v (.int .u64 x)]),some (.row _ _ xs)=>some { pre:=xs=(xs.map zI).map zL/\0 < (xs.map zI).length/\(xs.map zI).length<=100000,hs:=[i],bo:=[r],ar:=[.ptr 0 0,.sl xs],L0:=[.cells [.v (.int .u64 x)]],v:=.v (.int .i64 ((xs.map zI).getD (upV x (((xs.map zI).length:Int) - 1)).toNat 0)),L1:=[some (.cells [.v (.int .u64 (upS x (((xs.map zI).length:Int) - 1)))])] }
  |_,_=>none
 |_=>none
def eOne {A:Frm->Prop}:qm A prog 39 (fnE pOne):=zJ fun S bs q h hp=>by
 unfold pOne at h
 split at h
 ·split at h
  ·cases h
   have:=Qnf (by assumption) _ hp.2
   rw [qz,<- hp.1] at this
   exact this
  ·cases h
 ·cases h
def YD (t x:Tk):Bool:=decide (x.cab=t.cab) && !decide (t.to<=x.frm) && !decide (x.to<=t.frm) && (decide (x.bed=t.bed) || (!decide (x.party=t.party) && (!decide (x.sex=t.sex) || x.dog || t.dog)))
def Zr (l:List Tk) (t:Tk):Bool:=!l.any (YD t)
def Qgi {l:List Tk} {t:Tk} {k:Nat} (hk:k < l.length) (h:YD t (l.getD k default)=true):Zr l t=false:=by
 unfold Zr
 rw [bY.2 ⟨_,vG hk,h⟩];rfl
def QeX {l:List Tk} {t:Tk} (h:∀ j,j < l.length->YD t (l.getD j default)=false):Zr l t=true:=by
 unfold Zr
 rw [show l.any (YD t)=false from dz.2 fun x hx=>?_]
 ·rfl
 ·obtain ⟨j,hj,rfl⟩:=cu.1 hx
  have:=h j hj
  rw [show l.getD j default=l[j] by simp [ai,hj]] at this
  rw [this];simp
def goS (l:List Tk) (t:Tk) (k:Nat):St:={ t:=asg [(0,qy l),(3,.ptr 0 0),(4,aB false),(5,aI k)],h:=qb [(0,.cells (cTk t))],n:=1 }
def jW:=jv @ty3 (jv @ty4 (jv @vJ (jv @vS (jv @jC (jv @ti3.eq_1 (jv @ti4.eq_1 (jv @yI.eq_1 (jv @yG.eq_1 @je.eq_1))))))))
def jA:=jv @aI.eq_1 (@aB.eq_1)
def Qk1 (l:List Tk) (t:Tk) (hl:l.length<=100):FnV prog 40 [qy l,aTk t] (aB (Zr l t)):=by
 have env:=qA (A:=fun _=>True) kN
 refine kV (Fn0 func40 rfl (fun vs w=>by kernel_rfl) (by kernel_rfl)) (by simp) (by simp [AV.ids,AV.idsL,qy,aTk,cTk]) ?_
 repeat' first|(apply nx;with_reducible constructor)|apply jq (by decide)|((first|apply jz env|apply jw);intro Q hQ;simp only [vkt,seval,aTk,cTk,qy,ite_and];(repeat' first|with_reducible assumption|apply jv|intro hp);all_goals first|(apply hQ;clear hQ Q)|(apply jx;kernel_rfl)|omega|assumption|rfl|skip)
 refine qN (fun k:{ k:Nat // k<=l.length/\∀ j,j < k->YD t (l.getD j default)=false }=>goS l t k.1) (fun k=>l.length - k.1) ⟨0,ag _,fun j h=>absurd h (bp _)⟩ ?_ fun ⟨k,hk,hno⟩=>?_
 ·(refine Le.ok some [] ?_;constructor;all_goals (try simp only [vle,vkt,seval,jA,cTk,qy]))
  all_goals first|rfl|simp
 simp only at hk hno ⊢
 by_cases hkl:k < l.length
 ·have d1:decide ((k:Int) < (l.length:Int))=true:=decide_eq_true (by omega)
  have e9:=k9 k (by omega)
  have i0:((k:Int)).toNat=k:=rfl
  obtain ⟨x,hx⟩:∃ x,l.getD k default=x:=⟨_,rfl⟩
  have nxt:YD t x=false->∀ S,Le S (goS l t (k+1))->∃ y:{ k:Nat // k<=l.length/\∀ j,j < k->YD t (l.getD j default)=false },(l.length - y.1 < l.length - k)/\Le S (goS l t y.1):=fun hb S hS=>⟨⟨k+1,hkl,fun j hj=>by
   rcases bq (bt hj) with h1|h1
   ·exact hno j h1
   ·rw [h1,hx];exact hb⟩,by show l.length - (k+1) < l.length - k;omega,hS⟩
  have fin:YD t x=true->Zr l t=false:=fun hb=>Qgi hkl (by rw [hx];exact hb)
  have hbx:YD t x=(decide (x.cab=t.cab) && !decide (t.to<=x.frm) && !decide (x.to<=t.frm) && (decide (x.bed=t.bed) || (!decide (x.party=t.party) && (!decide (x.sex=t.sex) || x.dog || t.dog)))):=rfl
  cases q1:decide (x.cab=t.cab)
  ·repeat' first|(apply nx;with_reducible constructor)|apply jq (by decide)|((first|apply jz env|apply jw);intro Q hQ;simp only [vkt,seval,jW,jA,cTk,qy,eTk,gTk,goS,d1,e9,i0,hkl,hx,q1,ite_and];(repeat' first|with_reducible assumption|apply jv|intro hp);all_goals first|(apply hQ;clear hQ Q)|(apply jx;kernel_rfl)|omega|assumption|rfl|skip)
   refine nxt (by rw [hbx,q1];rfl) _ ?_
   (refine Le.ok some [] ?_;constructor;all_goals (try simp only [vle,vkt,seval,jA,cTk,qy]))
   all_goals first|rfl|simp
  cases q2:decide (t.to<=x.frm)
  case true =>
   repeat' first|(apply nx;with_reducible constructor)|apply jq (by decide)|((first|apply jz env|apply jw);intro Q hQ;simp only [vkt,seval,jW,jA,cTk,qy,eTk,gTk,goS,d1,e9,i0,hkl,hx,q1,q2,ite_and];(repeat' first|with_reducible assumption|apply jv|intro hp);all_goals first|(apply hQ;clear hQ Q)|(apply jx;kernel_rfl)|omega|assumption|rfl|skip)
   refine nxt (by rw [hbx,q1,q2];rfl) _ ?_
   (refine Le.ok some [] ?_;constructor;all_goals (try simp only [vle,vkt,seval,jA,cTk,qy]))
   all_goals first|rfl|simp
  cases q3:decide (x.to<=t.frm)
  case true =>
   repeat' first|(apply nx;with_reducible constructor)|apply jq (by decide)|((first|apply jz env|apply jw);intro Q hQ;simp only [vkt,seval,jW,jA,cTk,qy,eTk,gTk,goS,d1,e9,i0,hkl,hx,q1,q2,q3,ite_and];(repeat' first|with_reducible assumption|apply jv|intro hp);all_goals first|(apply hQ;clear hQ Q)|(apply jx;kernel_rfl)|omega|assumption|rfl|skip)
   refine nxt (by rw [hbx,q1,q2,q3];rfl) _ ?_
   (refine Le.ok some [] ?_;constructor;all_goals (try simp only [vle,vkt,seval,jA,cTk,qy]))
   all_goals first|rfl|simp
  cases q4:decide (x.bed=t.bed)
  case true =>
   rw [fin (by rw [hbx,q1,q2,q3,q4];rfl)]
   repeat' first|(apply nx;with_reducible constructor)|apply jq (by decide)|((first|apply jz env|apply jw);intro Q hQ;simp only [vkt,seval,jW,jA,cTk,qy,eTk,gTk,goS,d1,i0,hkl,hx,q1,q2,q3,q4,ite_and];(repeat' first|with_reducible assumption|apply jv|intro hp);all_goals first|(apply hQ;clear hQ Q)|(apply jx;kernel_rfl)|omega|assumption|rfl|skip)
   (simp only [vrt,results40,vkt,seval,jA];refine Fin.val rfl ?_;(try simp only [AV.le]))
   all_goals first|rfl|simp
  cases q5:decide (x.party=t.party)
  case true =>
   repeat' first|(apply nx;with_reducible constructor)|apply jq (by decide)|((first|apply jz env|apply jw);intro Q hQ;simp only [vkt,seval,jW,jA,cTk,qy,eTk,gTk,goS,d1,e9,i0,hkl,hx,q1,q2,q3,q4,q5,ite_and];(repeat' first|with_reducible assumption|apply jv|intro hp);all_goals first|(apply hQ;clear hQ Q)|(apply jx;kernel_rfl)|omega|assumption|rfl|skip)
   refine nxt (by rw [hbx,q1,q2,q3,q4,q5];rfl) _ ?_
   (refine Le.ok some [] ?_;constructor;all_goals (try simp only [vle,vkt,seval,jA,cTk,qy]))
   all_goals first|rfl|simp
  cases q6:decide (x.sex=t.sex)
  ·rw [fin (by rw [hbx,q1,q2,q3,q4,q5,q6];rfl)]
   repeat' first|(apply nx;with_reducible constructor)|apply jq (by decide)|((first|apply jz env|apply jw);intro Q hQ;simp only [vkt,seval,jW,jA,cTk,qy,eTk,gTk,goS,d1,i0,hkl,hx,q1,q2,q3,q4,q5,q6,ite_and];(repeat' first|with_reducible assumption|apply jv|intro hp);all_goals first|(apply hQ;clear hQ Q)|(apply jx;kernel_rfl)|omega|assumption|rfl|skip)
   (simp only [vrt,results40,vkt,seval,jA];refine Fin.val rfl ?_;(try simp only [AV.le]))
   all_goals first|rfl|simp
  cases q7:x.dog
  case true =>
   rw [fin (by rw [hbx,q1,q2,q3,q4,q5,q6,q7];rfl)]
   repeat' first|(apply nx;with_reducible constructor)|apply jq (by decide)|((first|apply jz env|apply jw);intro Q hQ;simp only [vkt,seval,jW,jA,cTk,qy,eTk,gTk,goS,d1,i0,hkl,hx,q1,q2,q3,q4,q5,q6,q7,ite_and];(repeat' first|with_reducible assumption|apply jv|intro hp);all_goals first|(apply hQ;clear hQ Q)|(apply jx;kernel_rfl)|omega|assumption|rfl|skip)
   (simp only [vrt,results40,vkt,seval,jA];refine Fin.val rfl ?_;(try simp only [AV.le]))
   all_goals first|rfl|simp
  cases q8:t.dog
  ·repeat' first|(apply nx;with_reducible constructor)|apply jq (by decide)|((first|apply jz env|apply jw);intro Q hQ;simp only [vkt,seval,jW,jA,cTk,qy,eTk,gTk,goS,d1,e9,i0,hkl,hx,q1,q2,q3,q4,q5,q6,q7,q8,ite_and];(repeat' first|with_reducible assumption|apply jv|intro hp);all_goals first|(apply hQ;clear hQ Q)|(apply jx;kernel_rfl)|omega|assumption|rfl|skip)
   refine nxt (by rw [hbx,q1,q2,q3,q4,q5,q6,q7,q8];rfl) _ ?_
   (refine Le.ok some [] ?_;constructor;all_goals (try simp only [vle,vkt,seval,jA,cTk,qy]))
   all_goals first|rfl|(simp [q8];done)
  ·rw [fin (by rw [hbx,q1,q2,q3,q4,q5,q6,q7,q8];rfl)]
   repeat' first|(apply nx;with_reducible constructor)|apply jq (by decide)|((first|apply jz env|apply jw);intro Q hQ;simp only [vkt,seval,jW,jA,cTk,qy,eTk,gTk,goS,d1,i0,hkl,hx,q1,q2,q3,q4,q5,q6,q7,q8,ite_and];(repeat' first|with_reducible assumption|apply jv|intro hp);all_goals first|(apply hQ;clear hQ Q)|(apply jx;kernel_rfl)|omega|assumption|rfl|skip)
   (simp only [vrt,results40,vkt,seval,jA];refine Fin.val rfl ?_;(try simp only [AV.le]))
   all_goals first|rfl|simp
 ·have d1:decide ((k:Int) < (l.length:Int))=false:=decide_eq_false (by omega)
  rw [QeX (fun j hj=>hno j (by omega))]
  repeat' first|(apply nx;with_reducible constructor)|apply jq (by decide)|((first|apply jz env|apply jw);intro Q hQ;simp only [vkt,seval,jW,jA,cTk,qy,goS,d1,ite_and];(repeat' first|with_reducible assumption|apply jv|intro hp);all_goals first|(apply hQ;clear hQ Q)|(apply jx;kernel_rfl)|omega|assumption|rfl|skip)
  (simp only [vrt,results40,vkt,seval,jA];refine Fin.val rfl ?_;(try simp only [AV.le]))
  all_goals first|rfl|simp
def Qg6:List AV->Prop × AV
 |[.sl l,.agg [.v (.int .i64 t0),.v (.int .i64 t1),.v (.int .i64 t2),.v (.int .i64 t3),.v (.int .i64 t4),.v (.int .i64 t5),.v (.bool t6)]]=>(l=(l.map dTk).map eTk/\(l.map dTk).length<=100,aB (Zr (l.map dTk) (⟨t0,t1,t2,t3,t4,t5,t6⟩:Tk)))
 |_=>(False,.junk)
def egoes {A:Frm->Prop}:qm A prog 40 (zw true Qg6):=qL fun vs hv h=>by
 clear hv
 unfold Qg6 at h ⊢
 split at h
 ·rename_i l t0 t1 t2 t3 t4 t5 t6;obtain ⟨q0,k0⟩:=h
  refine ⟨by first|trivial|(repeat' split) <;> simp [AV.plain,AV.plainL,aI,aB,qz,qc,qy,qw,aTk,cTk],fun _=>(by simp [AV.flat,aB]), ?_⟩
  have:=Qk1 (l.map dTk) (⟨t0,t1,t2,t3,t4,t5,t6⟩:Tk) k0
  simp only [aB,aTk,qy,cTk,<- q0] at this
  first|exact this|(simp only [aB,aI,aTk,qy,cTk,<- q0];exact this)
 ·exact h.elim
def dI1 (a:Int):zI [.v (.int .i64 a)]=a:=rfl
noncomputable def yO (x:Int):Nat->List Cabin × Int
 |0=>([],x)
 |k+1=>((yO x k).1++[⟨1+upV (yO x k).2 2,decide (upV (upS (yO x k).2 2) 2 < 2)⟩],upS (upS (yO x k).2 2) 2)
noncomputable def pA (p s:Int):Int × Int:=if p=0 then (p+(1+upV s 2),upS s 2) else if upV s 3 < 1 then (p,upS s 3) else (p+(1+upV (upS s 3) 2),upS (upS s 3) 2)
noncomputable def yC (cs:List Cabin) (secs p s1:Int):Tk × Int :=
 let n:=upV s1 ((cs.length:Int) - 1)
 let s2:=upS s1 ((cs.length:Int) - 1)
 let s3:=upS s2 1
 let b:=(cs.getD n.toNat default).beds
 let s4:=upS s3 (b - 1)
 let f:=upV s4 (secs - 1)
 let s5:=upS s4 (secs - 1)
 let s6:=upS s5 7
 (⟨p,([1,2]:List Int).getD (upV s2 1).toNat 0,n,upV s3 (b - 1),f,f+1+upV s6 (secs - (f+1)),decide (upV s5 7 < 1)⟩,upS s6 (secs - (f+1)))
noncomputable def tkK (cs:List Cabin) (secs x:Int):Nat->Int × List Tk × Int
 |0=>(0,[],x)
 |k+1=>((pA (tkK cs secs x k).1 (tkK cs secs x k).2.2).1,if Zr (tkK cs secs x k).2.1 (yC cs secs (pA (tkK cs secs x k).1 (tkK cs secs x k).2.2).1 (pA (tkK cs secs x k).1 (tkK cs secs x k).2.2).2).1 then (tkK cs secs x k).2.1++[(yC cs secs (pA (tkK cs secs x k).1 (tkK cs secs x k).2.2).1 (pA (tkK cs secs x k).1 (tkK cs secs x k).2.2).2).1] else (tkK cs secs x k).2.1,
   (yC cs secs (pA (tkK cs secs x k).1 (tkK cs secs x k).2.2).1 (pA (tkK cs secs x k).1 (tkK cs secs x k).2.2).2).2)
noncomputable def kM (x g:Int):Int:=1+upV x (g - 1)
noncomputable def Xr (x g:Int):Int:=upS x (g - 1)
noncomputable def yJ (x g a:Int):List Cabin × Int:=yO (upS (Xr x g) (a - 1)) (1+upV (Xr x g) (a - 1)).toNat
noncomputable def Qew (x g a s:Int):Int × List Tk × Int:=tkK (yJ x g a).1 (kM x g) (upS (yJ x g a).2 s) (upV (yJ x g a).2 s).toNat
noncomputable def coC (x a g s:Int):Chart:=⟨(yJ x g a).1,kM x g,(Qew x g a s).2.1⟩
noncomputable def coX (x a g s:Int):Int:=(Qew x g a s).2.2
def up2 (x:Int) {m:Int} (h0:0<=m) (h:m<=100000):0<=upV x m/\upV x m<=m:=by
 have:=Qby (x:=x) (m:=m) (by omega)
 omega
def QiD {p s p1 s1:Int} (h:pA p s=(p1,s1)) (hp:0<=p/\p<=1000) :
  ∃ (b:Bool) (sB:Int),((decide (p=0)=true/\True/\b=true/\sB=s)\/(decide (p=0)=false/\decide (upV s 3 < 1)=!b/\True/\sB=upS s 3))/\((b=true/\IntKind.wrap .i64 (p+(1+upV sB 2))=p1/\upS sB 2=s1)\/(b=false/\p=p1/\sB=s1)):=by
 unfold pA at h
 split at h
 ·rename_i h0
  have:=up2 s (m:=2) (by omega) (by omega)
  cases h
  exact ⟨true,s,.inl ⟨decide_eq_true h0,trivial,rfl,rfl⟩,.inl ⟨rfl,wrap64 (by omega) (by omega),rfl⟩⟩
 ·rename_i h0
  split at h
  ·rename_i h1
   cases h
   exact ⟨false,upS s 3,.inr ⟨decide_eq_false h0,decide_eq_true h1,trivial,rfl⟩,.inr ⟨rfl,rfl,rfl⟩⟩
  ·rename_i h1
   have:=up2 (upS s 3) (m:=2) (by omega) (by omega)
   cases h
   exact ⟨true,upS s 3,.inr ⟨decide_eq_false h0,decide_eq_false h1,trivial,rfl⟩,.inl ⟨rfl,wrap64 (by omega) (by omega),rfl⟩⟩
def QlK {p s:Int} (hp:0<=p):p<=(pA p s).1/\1<=(pA p s).1/\(pA p s).1<=p+3:=by
 have h1:=up2 s (m:=2) (by omega) (by omega)
 have h2:=up2 (upS s 3) (m:=2) (by omega) (by omega)
 unfold pA
 split
 ·simp only;omega
 ·split
  ·simp only;omega
  ·simp only;omega
def Rl (cs:List Cabin) (secs x:Int):∀ k,0<=(tkK cs secs x k).1/\(tkK cs secs x k).1<=3 * k/\(tkK cs secs x k).2.1.length<=k
 |0=>⟨cS _,cS _,aw _⟩
 |k+1=>by
  obtain ⟨h1,h2,h3⟩:=Rl cs secs x k
  have h4:=QlK (s:=(tkK cs secs x k).2.2) h1
  rw [tkK]
  refine ⟨by simp only;omega,by simp only;omega, ?_⟩
  simp only
  split
  ·rw [aA,List.length_singleton];omega
  ·omega
def Ri (x:Int):∀ k,(yO x k).1.length=k/\∀ c ∈ (yO x k).1,1<=c.beds/\c.beds<=3
 |0=>⟨rfl,by simp [yO]⟩
 |k+1=>by
  obtain ⟨h1,h2⟩:=Ri x k
  have h3:=up2 (yO x k).2 (m:=2) (by omega) (by omega)
  rw [yO]
  refine ⟨by simp [h1],fun c hc=>?_⟩
  rcases aD.1 hc with hc|hc
  ·exact h2 c hc
  ·rw [aW.1 hc];simp only;omega
def coA (secs s m:Int) (i:Nat) (cs:List Cabin):St:={ t:=asg [(0,.ptr 0 0),(3,aI m),(8,.ptr 1 0),(9,.ptr 2 0),(10,aI i)],h:=qb [(0,.cells [.v (.int .u64 s)]),(1,.cells [.nil,aI 0,.nil]),(2,.cells [.row 3,aI secs,.nil]),(3,.row 84 2 (cs.map qx))],n:=4,m:=1 }
def coB (cs:List Cabin) (secs s p:Int) (i:Nat) (l:List Tk):St:={ t:=asg [(0,.ptr 0 0),(8,.ptr 1 0),(9,.ptr 2 0),(11,aI p),(12,aI i)],h:=qb [(0,.cells [.v (.int .u64 s)]),(1,.cells [.nil,aI 0,.nil]),(2,.cells [.row 3,aI secs,.row 4]),(3,.row 84 2 (cs.map qx)),(4,.row 88 7 (l.map eTk))],n:=5,m:=1 }
def coM (cs:List Cabin) (secs s p:Int) (i:Nat) (l:List Tk) (T:List (Nat × AV)) (O:List (Nat × AObj)) (n:Nat):St:={ t:=asg (T++[(0,.ptr 0 0),(8,.ptr 1 0),(9,.ptr 2 0),(11,aI p),(12,aI i)]),h:=qb ([(0,.cells [.v (.int .u64 s)]),(1,.cells [.nil,aI 0,.nil]),(2,.cells [.row 3,aI secs,.row 4]),(3,.row 84 2 (cs.map qx)),(4,.row 88 7 (l.map eTk))]++O),n:=n,m:=1 }
def zy:=jv @ty3 (jv @ZF (jv @vJ (jv @jm (jv @Jj (jv @vS (jv @ZC (jv @jC (jv @ti3.eq_1 (jv @Qv.eq_1 (jv @yI.eq_1 (jv @wY.eq_1 (jv @ZE.eq_1 (jv @yG.eq_1 (jv @Qz.eq_1 @je.eq_1))))))))))))))
def jQ:=jv @aI.eq_1 (jv @aB.eq_1 (@zL.eq_1))
def QbL (x a g s:Int) (ha:1<=a/\a<=3) (hg:1<=g/\g<=5) (hs:0<=s/\s<=8):Fn noB prog 9 [.ptr 0 0,aI a,aI g,aI s] (qb (yf x)) (qd (coC x a g s)) (qb (yf (coX x a g s))) 0:=by
 have env:=qA (A:=fun _=>True) (kC eFrom (kC eUp (kC Qju (kC eOne (kC egoes kN)))))
 refine Fn.of (A:=fun _=>True) (n0:=1) (D:=noD) (Fn0 func9 rfl (fun vs w=>by kernel_rfl) (by kernel_rfl)) (by simp) (by simp [AV.ids,aI]) ?_ (fun _ _ _ _=>trivial) qX ?_
 ·intro i o hi
  have h:=qG hi
  simp [yf] at h
  rcases h with ⟨rfl,rfl⟩;simp [AObj.ids,AV.ids,AV.idsL]
 have m1:min g 5=g:=by omega
 have m2:min a 3=a:=by omega
 have m3:min s 8=s:=by omega
 have hmx:(100000:Nat)<=maxLen:=by decide
 have hsc:=up2 x (m:=g - 1) (by omega) (by omega)
 have hx1:upS x (g - 1)=Xr x g:=rfl
 have hsb:1<=kM x g/\kM x g<=5:=by unfold kM;omega
 have hcs:1+upV x (g - 1)=kM x g:=rfl
 have hnc:=up2 (Xr x g) (m:=a - 1) (by omega) (by omega)
 obtain ⟨nc,hnc1⟩:∃ nc:Nat,1+upV (Xr x g) (a - 1)=nc:=⟨(1+upV (Xr x g) (a - 1)).toNat,by omega⟩
 obtain ⟨y,hy⟩:∃ y,upS (Xr x g) (a - 1)=y:=⟨_,rfl⟩
 have hcc:yJ x g a=yO y nc:=by unfold yJ;rw [hy,hnc1];rfl
 have hcb:=Ri y
 have hnt:=up2 (yO y nc).2 (m:=s) (by omega) (by omega)
 obtain ⟨nt,hnt1⟩:∃ nt:Nat,upV (yO y nc).2 s=nt:=⟨(upV (yO y nc).2 s).toNat,by omega⟩
 obtain ⟨z,hz⟩:∃ z,upS (yO y nc).2 s=z:=⟨_,rfl⟩
 have htk:Qew x g a s=tkK (yO y nc).1 (kM x g) z nt:=by unfold Qew;rw [hcc,hz,hnt1];rfl
 unfold coC coX
 rw [hcc,htk]
 obtain ⟨S,hS⟩:∃ S,kM x g=S:=⟨_,rfl⟩
 rw [hS] at hsb hcs ⊢
 obtain ⟨X1,hX1⟩:∃ X1,Xr x g=X1:=⟨_,rfl⟩
 rw [hX1] at hx1 hnc1 hy hnc
 have hal:-100000<=(1:Int):=by decide
 have b1:g<=100000:=by omega
 have b2:a<=100000:=by omega
 have b3:-100000<=g:=by omega
 have b4:-100000<=a:=by omega
 have b5:s < 9223372036854775807:=by omega
 show Sym _ _ _ (qV [.ptr 0 0,aI a,aI g,aI s] 1 (qb [(0,.cells [.v (.int .u64 x)])])) (yc tyB noD Tryz.f9 fun S' rv=>Fin S' rv _ 1 (qb [(0,.cells [.v (.int .u64 (tkK (yO y nc).1 S z nt).2.2)])]) 0)
 repeat' first|(apply nx;with_reducible constructor)|apply jq (by decide)|((first|apply jz env|apply jw);intro Q hQ;simp only [vkt,seval,zy,jQ,KJ,m1,m2,hcs,hx1,hnc1,hy,ite_and];(repeat' first|with_reducible assumption|apply jv|intro hp);all_goals first|(apply hQ;clear hQ Q)|(apply jx;kernel_rfl)|omega|assumption|rfl|skip)
 refine qN (fun k:{ k:Nat // k<=nc }=>coA S (yO y k.1).2 s (nc - k.1) (yO y k.1).1) (fun k=>nc - k.1) ⟨0,ag _⟩ ?_ fun ⟨k,hk⟩=>?_
 ·(refine Le.ok (fun i=>if i=3 then none else some i) [] ?_;constructor;all_goals (try simp only [vle,vkt,seval,jQ]))
  all_goals first|rfl|(simp [yO];done)|(intro i hi;rw [if_neg (by omega)];done)
 simp only at hk ⊢
 by_cases hkl:k < nc
 ·have d1:decide ((0:Int) < ((nc - k:Nat):Int))=true:=decide_eq_true (by omega)
  have w1:IntKind.wrap .i64 (((nc - k:Nat):Int) - 1)=((nc - (k+1):Nat):Int):=by rw [wrap64 (by omega) (by omega)];omega
  have hl:=(hcb k).1
  have hl1:(yO y k).1.length+1<=maxLen:=by omega
  have hS1:(yO y (k+1)).1=(yO y k).1++[⟨1+upV (yO y k).2 2,decide (upV (upS (yO y k).2 2) 2 < 2)⟩]:=by rw [yO]
  have hS2:(yO y (k+1)).2=upS (upS (yO y k).2 2) 2:=by rw [yO]
  repeat' first|(apply nx;with_reducible constructor)|apply jq (by decide)|((first|apply jz env|apply jw);intro Q hQ;simp only [vkt,seval,zy,jQ,wP,coA,KJ,JC,d1,w1,hl1,ite_and];(repeat' first|with_reducible assumption|apply jv|intro hp);all_goals first|(apply hQ;clear hQ Q)|(apply jx;kernel_rfl)|omega|assumption|rfl|skip)
  refine ⟨⟨k+1,hkl⟩,by show nc - (k+1) < nc - k;omega, ?_⟩
  show Le _ (coA S (yO y (k+1)).2 s (nc - (k+1)) (yO y (k+1)).1)
  rw [hS1,hS2]
  (refine Le.ok (fun i=>if i=3 then some 5 else some i) [] ?_;constructor;all_goals (try simp only [vle,vkt,seval,jQ]))
  all_goals first|rfl|(rw [aq];rfl)|(simp;done)|(intro i hi;rw [if_neg (by omega)];done)
 ·have d1:decide ((0:Int) < ((nc - k:Nat):Int))=false:=decide_eq_false (by omega)
  obtain rfl:k=nc:=by omega
  obtain ⟨hcl,hcm⟩:=hcb k
  obtain ⟨⟨cs,u⟩,hcu⟩:∃ c,yO y k=c:=⟨_,rfl⟩
  rw [hcu] at hcl hcm hnt hnt1 hz ⊢
  simp only at hcl hcm hnt hnt1 hz ⊢
  repeat' first|(apply nx;with_reducible constructor)|apply jq (by decide)|((first|apply jz env|apply jw);intro Q hQ;simp only [vkt,seval,zy,jQ,coA,pUp,d1,m3,hnt1,hz,ite_and];(repeat' first|with_reducible assumption|apply jv|intro hp);all_goals first|(apply hQ;clear hQ Q)|(apply jx;kernel_rfl)|omega|assumption|rfl|skip)
  refine qN (fun j:{ j:Nat // j<=nt }=>coB cs S (tkK cs S z j.1).2.2 (tkK cs S z j.1).1 (nt - j.1) (tkK cs S z j.1).2.1) (fun j=>nt - j.1) ⟨0,ag _⟩ ?_ fun ⟨j,hj⟩=>?_
  ·(refine Le.ok (fun i=>if i=4 then none else some i) [] ?_;constructor;all_goals (try simp only [vle,vkt,seval,jQ]))
   all_goals first|rfl|(simp [tkK];done)|(intro i hi;rw [if_neg (by omega)];done)
  simp only at hj ⊢
  by_cases hjl:j < nt
  ·have d1:decide ((0:Int) < ((nt - j:Nat):Int))=true:=decide_eq_true (by omega)
   have w1:IntKind.wrap .i64 (((nt - j:Nat):Int) - 1)=((nt - (j+1):Nat):Int):=by rw [wrap64 (by omega) (by omega)];omega
   obtain ⟨hp0,hp3,hll⟩:=Rl cs S z j
   have hK1:tkK cs S z (j+1)=((pA (tkK cs S z j).1 (tkK cs S z j).2.2).1,if Zr (tkK cs S z j).2.1 (yC cs S (pA (tkK cs S z j).1 (tkK cs S z j).2.2).1 (pA (tkK cs S z j).1 (tkK cs S z j).2.2).2).1 then (tkK cs S z j).2.1++[(yC cs S (pA (tkK cs S z j).1 (tkK cs S z j).2.2).1 (pA (tkK cs S z j).1 (tkK cs S z j).2.2).2).1] else (tkK cs S z j).2.1,(yC cs S (pA (tkK cs S z j).1 (tkK cs S z j).2.2).1 (pA (tkK cs S z j).1 (tkK cs S z j).2.2).2).2):=by rw [tkK]
   obtain ⟨⟨p,l,s0⟩,hK⟩:∃ q,tkK cs S z j=q:=⟨_,rfl⟩
   rw [hK] at hp0 hp3 hll hK1 ⊢
   simp only at hp0 hp3 hll hK1 ⊢
   have hl1:l.length+1<=maxLen:=by omega
   have hl100:l.length<=100:=by omega
   obtain ⟨⟨p1,s1⟩,hA⟩:∃ q,pA p s0=q:=⟨_,rfl⟩
   have hAc:=QiD hA ⟨hp0,by omega⟩
   rw [hA] at hK1
   simp only at hK1
   have hn0:=up2 s1 (m:=(k:Int) - 1) (by omega) (by omega)
   obtain ⟨n,hn⟩:∃ n:Nat,upV s1 ((k:Int) - 1)=n:=⟨(upV s1 ((k:Int) - 1)).toNat,by omega⟩
   obtain ⟨s2,hs2⟩:∃ q,upS s1 ((k:Int) - 1)=q:=⟨_,rfl⟩
   obtain ⟨sx,hsx⟩:∃ q,([1,2]:List Int).getD (upV s2 1).toNat 0=q:=⟨_,rfl⟩
   obtain ⟨s3,hs3⟩:∃ q,upS s2 1=q:=⟨_,rfl⟩
   have hnk:n < cs.length:=by omega
   obtain ⟨cb,hcbv⟩:∃ q,cs.getD n default=q:=⟨_,rfl⟩
   have hcg:=Qa3 hnk
   rw [hcbv] at hcg
   have hbb:=hcm cb (by rw [<- hcbv];exact vG hnk)
   obtain ⟨bd,hbd⟩:∃ q,upV s3 (cb.beds - 1)=q:=⟨_,rfl⟩
   obtain ⟨s4,hs4⟩:∃ q,upS s3 (cb.beds - 1)=q:=⟨_,rfl⟩
   have hf0:=up2 s4 (m:=S - 1) (by omega) (by omega)
   obtain ⟨f,hf⟩:∃ q,upV s4 (S - 1)=q:=⟨_,rfl⟩
   rw [hf] at hf0
   obtain ⟨s5,hs5⟩:∃ q,upS s4 (S - 1)=q:=⟨_,rfl⟩
   obtain ⟨dg,hdg⟩:∃ q,decide (upV s5 7 < 1)=q:=⟨_,rfl⟩
   obtain ⟨s6,hs6⟩:∃ q,upS s5 7=q:=⟨_,rfl⟩
   obtain ⟨tt,htt⟩:∃ q,f+1+upV s6 (S - (f+1))=q:=⟨_,rfl⟩
   obtain ⟨s7,hs7⟩:∃ q,upS s6 (S - (f+1))=q:=⟨_,rfl⟩
   have hTn:yC cs S p1 s1=(⟨p1,sx,n,bd,f,tt,dg⟩,s7):=by
    unfold yC
    simp only [hcl,hn,hs2,hsx,hs3,cA,hcbv,hbd,hs4,hf,hs5,hdg,hs6,htt,hs7]
   rw [hTn] at hK1
   simp only at hK1
   have w2:IntKind.wrap .i64 ((k:Int) - 1)=(k:Int) - 1:=wrap64 (by omega) (by omega)
   have w3:IntKind.wrap .i64 (cb.beds - 1)=cb.beds - 1:=wrap64 (by omega) (by omega)
   have w4:IntKind.wrap .i64 (S - 1)=S - 1:=wrap64 (by omega) (by omega)
   have w5:IntKind.wrap .i64 (f+1)=f+1:=wrap64 (by omega) (by omega)
   have e1:(k:Int) - 1 < 9223372036854775807:=by omega
   have e2:cb.beds - 1 < 9223372036854775807:=by omega
   have e3:S - 1 < 9223372036854775807:=by omega
   have e4:-100000<=f+1:=by omega
   have e5:f+1<=100000:=by omega
   have e6:-100000<=S:=by omega
   have e7:S<=100000:=by omega
   have i0:((n:Int)).toNat=n:=rfl
   obtain ⟨gb,hgb⟩:∃ q,Zr l ⟨p1,sx,n,bd,f,tt,dg⟩=q:=⟨_,rfl⟩
   rw [hgb] at hK1
   obtain ⟨bb,sB,hc1,hc2⟩:=hAc
   repeat' first|(apply nx;with_reducible constructor)|apply jq (by decide)
   ((first|apply jz env|apply jw);intro Q hQ;simp only [vkt,seval,zy,jQ,coB,d1,ite_and];(repeat' first|with_reducible assumption|apply jv|intro hp);all_goals first|(apply hQ;clear hQ Q)|(apply jx;kernel_rfl)|omega|assumption|rfl|skip)
   repeat' first|(apply nx;with_reducible constructor)|apply jq (by decide)
   ((first|apply jz env|apply jw);intro Q hQ;simp only [vkt,seval,ite_and];(repeat' first|with_reducible assumption|apply jv|intro hp);all_goals first|(apply hQ;clear hQ Q)|(apply jx;kernel_rfl)|omega|assumption|rfl|skip)
   repeat' first|(apply nx;with_reducible constructor)|apply jq (by decide)
   refine Sym.mono (K:=fun e S1=>e=.normal/\Le S1 (coM cs S sB p (nt - j) l [(52,aB bb)] [] 5)) ?_ ?_
   ·rcases hc1 with ⟨q0,q1,rfl,rfl⟩|⟨q0,q1,q2,rfl⟩
    all_goals
     ((first|apply jz env|apply jw);intro Q hQ;simp only [vkt,seval,zy,JC,q0,q1,Bool.not_not,ite_and];(repeat' first|with_reducible assumption|apply jv|intro hp);all_goals first|(apply hQ;clear hQ Q)|(apply jx;kernel_rfl)|omega|assumption|rfl|skip)
     refine ⟨rfl, ?_⟩
     simp only [coM,aQ,aF]
     (refine Le.ok some [] ?_;constructor;all_goals (try simp only [vle,vkt,seval,jQ]))
     all_goals first|rfl|simp
   rintro e S1 ⟨rfl,hle⟩
   refine (ve hle ?_:Sym _ _ _ S1 _)
   clear hle S1 hc1
   refine Sym.mono (K:=fun e S1=>e=.normal/\Le S1 (coM cs S s1 p1 (nt - j) l [] [] 5)) ?_ ?_
   ·rcases hc2 with ⟨rfl,wp,hs1⟩|⟨rfl,wp,hs1⟩
    all_goals
     repeat' first|(apply nx;with_reducible constructor)|apply jq (by decide)|((first|apply jz env|apply jw);intro Q hQ;simp only [vkt,seval,zy,jQ,coM,KJ,wp,hs1,ite_and];(repeat' first|with_reducible assumption|apply jv|intro hp);all_goals first|(apply hQ;clear hQ Q)|(apply jx;kernel_rfl)|omega|assumption|rfl|skip)
     refine ⟨rfl, ?_⟩
     simp only [coM,aQ,aF]
     (refine Le.ok some [] ?_;constructor;all_goals (try simp only [vle,vkt,seval,jQ]))
     all_goals first|rfl|(rw [wp];done)|(rw [hs1];done)|(simp;done)
   rintro e S1 ⟨rfl,hle⟩
   refine (ve hle ?_:Sym _ _ _ S1 _)
   clear hle S1 hc2
   simp only [coM,aF,be]
   repeat' first|(apply nx;with_reducible constructor)|apply jq (by decide)
   refine Sym.mono (K:=fun e S1=>e=.normal/\Le S1 (coM cs S s2 p1 (nt - j) l [(13,aI n)] [] 5)) ?_ ?_
   ·((first|apply jz env|apply jw);intro Q hQ;simp only [vkt,seval,zy,jQ,pUp,hcl,w2,hn,hs2,ite_and];(repeat' first|with_reducible assumption|apply jv|intro hp);all_goals first|(apply hQ;clear hQ Q)|(apply jx;kernel_rfl)|omega|assumption|rfl|skip)
    refine ⟨rfl, ?_⟩
    simp only [coM,aQ,aF]
    (refine Le.ok some [] ?_;constructor;all_goals (try simp only [vle,vkt,seval,jQ]))
    all_goals first|rfl|simp
   rintro e S1 ⟨rfl,hle⟩
   refine (ve hle ?_:Sym _ _ _ S1 _)
   clear hle S1
   simp only [coM,aQ,aF,be]
   repeat' first|(apply nx;with_reducible constructor)|apply jq (by decide)
   refine Sym.mono (K:=fun e S1=>e=.normal/\Le S1 (coM cs S s6 p1 (nt - j) l [(14,.ptr 5 0)] [(5,.cells [aI p1,aI sx,aI n,aI bd,aI f,aI 0,aB dg])] 6)) ?_ ?_
   ·((first|apply jz env|apply jw);intro Q hQ;simp only [vkt,seval,zy,jQ,qx,dI1,pUp,JC,pOne,hsx,hs3,i0,hnk,hcg,w3,hbd,hs4,w4,hf,hs5,hdg,hs6,ite_and];(repeat' first|with_reducible assumption|apply jv|intro hp);all_goals first|(apply hQ;clear hQ Q)|(apply jx;kernel_rfl)|omega|assumption|rfl|skip)
    ·exact ⟨_,_,rfl⟩
    refine ⟨rfl, ?_⟩
    simp only [coM,aQ,aF]
    (refine Le.ok (fun i=>if i=5 then some 6 else some i) [] ?_;constructor;all_goals (try simp only [vle,vkt,seval,jQ]))
    all_goals first|rfl|(simp;done)|(intro i hi;rw [if_neg (by omega)];done)
   rintro e S1 ⟨rfl,hle⟩
   refine (ve hle ?_:Sym _ _ _ S1 _)
   clear hle S1
   simp only [coM,aQ,aF]
   repeat' first|(apply nx;with_reducible constructor)|apply jq (by decide)
   ((first|apply jz env|apply jw);intro Q hQ;simp only [vkt,seval,zy,jQ,KJ,w5,htt,hs7,ite_and];(repeat' first|with_reducible assumption|apply jv|intro hp);all_goals first|(apply hQ;clear hQ Q)|(apply jx;kernel_rfl)|omega|assumption|rfl|skip)
   repeat' first|(apply nx;with_reducible constructor)|apply jq (by decide)
   ((first|apply jz env|apply jw);intro Q hQ;simp only [vkt,seval,zy,jQ,mTk,Qg6,hl100,hgb,ite_and];(repeat' first|with_reducible assumption|apply jv|intro hp);all_goals first|(apply hQ;clear hQ Q)|(apply jx;kernel_rfl)|omega|assumption|rfl|skip)
   cases gb with
   |true =>
    rw [if_pos rfl] at hK1
    repeat' first|(apply nx;with_reducible constructor)|apply jq (by decide)|((first|apply jz env|apply jw);intro Q hQ;simp only [vkt,seval,zy,rTk,hl1,w1,ite_and];(repeat' first|with_reducible assumption|apply jv|intro hp);all_goals first|(apply hQ;clear hQ Q)|(apply jx;kernel_rfl)|omega|assumption|rfl|skip)
    refine ⟨⟨j+1,hjl⟩,by show nt - (j+1) < nt - j;omega, ?_⟩
    show Le _ (coB cs S (tkK cs S z (j+1)).2.2 (tkK cs S z (j+1)).1 (nt - (j+1)) (tkK cs S z (j+1)).2.1)
    rw [hK1]
    (refine Le.ok (fun i=>if i=4 then some 7 else some i) [] ?_;constructor;all_goals (try simp only [vle,vkt,seval,jQ]))
    all_goals first|rfl|(rw [aq];rfl)|(simp;done)|(intro i hi;rw [if_neg (by omega)];done)
   |false =>
    rw [if_neg (by decide)] at hK1
    repeat' first|(apply nx;with_reducible constructor)|apply jq (by decide)|((first|apply jz env|apply jw);intro Q hQ;simp only [vkt,seval,zy,w1,ite_and];(repeat' first|with_reducible assumption|apply jv|intro hp);all_goals first|(apply hQ;clear hQ Q)|(apply jx;kernel_rfl)|omega|assumption|rfl|skip)
    refine ⟨⟨j+1,hjl⟩,by show nt - (j+1) < nt - j;omega, ?_⟩
    show Le _ (coB cs S (tkK cs S z (j+1)).2.2 (tkK cs S z (j+1)).1 (nt - (j+1)) (tkK cs S z (j+1)).2.1)
    rw [hK1]
    (refine Le.ok some [] ?_;constructor;all_goals (try simp only [vle,vkt,seval,jQ]))
    all_goals first|rfl|simp
  ·have d1:decide ((0:Int) < ((nt - j:Nat):Int))=false:=decide_eq_false (by omega)
   obtain rfl:j=nt:=by omega
   obtain ⟨⟨p,l,s0⟩,hK⟩:∃ q,tkK cs S z j=q:=⟨_,rfl⟩
   rw [hK]
   repeat' first|(apply nx;with_reducible constructor)|apply jq (by decide)|((first|apply jz env|apply jw);intro Q hQ;simp only [vkt,seval,zy,jQ,coB,d1,ite_and];(repeat' first|with_reducible assumption|apply jv|intro hp);all_goals first|(apply hQ;clear hQ Q)|(apply jx;kernel_rfl)|omega|assumption|rfl|skip)
   (simp only [vrt,results9,vkt,seval,zy,qd,qa];refine Fin.ok some [3,4] ?_ ?_ ?_ ?_ ?_ rfl;all_goals (try simp only [vle,vkt,seval]))
   all_goals first|rfl|simp
noncomputable def sxV (s:Int):Int:=([1,2]:List Int).getD (upV s 1).toNat 0
def Qmn (s:Int):1<=sxV s/\sxV s<=2:=by
 have h:=up2 s (m:=1) (by omega) (by omega)
 unfold sxV
 obtain h0|h0:(upV s 1).toNat=0\/(upV s 1).toNat=1:=by omega
 ·rw [h0];decide
 ·rw [h0];decide
def QdK {t x:Tk} (h:YD t x=false):Qw t x=false/\QQ x t=true:=by
 have e1:decide (t.to<=x.frm)=!decide (x.frm < t.to):=by rw [<- decide_not,decide_eq_decide];omega
 have e2:decide (x.to<=t.frm)=!decide (t.frm < x.to):=by rw [<- decide_not,decide_eq_decide];omega
 have e3:decide (x.cab ≠ t.cab)=!decide (x.cab=t.cab):=by rw [<- decide_not]
 unfold YD at h
 unfold Qw QQ xL
 rw [e1,e2] at h
 rw [e3]
 generalize decide (x.cab=t.cab)=A at *
 generalize decide (x.frm < t.to)=B at *
 generalize decide (t.frm < x.to)=C at *
 generalize decide (x.bed=t.bed)=D at *
 generalize decide (x.party=t.party)=E at *
 generalize decide (x.sex=t.sex)=F at *
 generalize x.dog=G at *
 generalize t.dog=H at *
 clear e1 e2 e3
 revert A B C D E F G H
 decide
def UQ {l:List Tk} {t:Tk} (h:Zr l t=true):wE t l=0:=by
 have hb:∀ x ∈ l,YD t x=false:=by
  unfold Zr at h
  intro x hx
  have:l.any (YD t)=false:=by simpa using h
  have:=dz.1 this x hx
  simpa using this
 unfold wE
 rw [if_neg,if_neg]
 ·rw [bY]
  rintro ⟨x,hx,h1⟩
  rw [(QdK (hb x hx)).2] at h1
  exact absurd h1 (by decide)
 ·rw [bY]
  rintro ⟨x,hx,h1⟩
  rw [(QdK (hb x hx)).1] at h1
  exact absurd h1 (by decide)
def Ls {cs:List Cabin} {secs:Int} {t:Tk} {l:List Tk} (h1:1<=t.party/\t.party<=99) (h2:1<=t.sex/\t.sex<=2) (h3:0<=t.cab/\t.cab.toNat < cs.length) (h4:0<=t.bed/\t.bed < (cs.getD t.cab.toNat default).beds) (h5:0<=t.frm/\t.frm < t.to/\t.to<=secs) (h6:wE t l=0) :
  zg ⟨cs,secs,[]⟩ t l=0:=by
 have b1:inB t.party 1 99=true:=jc.2 h1
 have b2:inB t.sex 1 2=true:=jc.2 h2
 have b3:yx cs t.cab t.bed=true:=by
  unfold yx
  rw [jc.2 (by omega),jc.2 (by omega)];rfl
 have b4:Qc secs t.frm t.to=0:=by unfold Qc;rw [if_neg (by omega)]
 unfold zg
 rw [b1,b2]
 simp only [b3,b4,h6,cY,bM,if_false,ne_eq,not_true_eq_false]
def Qg3 {cs:List Cabin} {secs p s1:Int} (hc:1<=cs.length/\cs.length<=3) (hb:∀ x ∈ cs,1<=x.beds/\x.beds<=3) (hs:1<=secs/\secs<=5):(yC cs secs p s1).1.party=p/\(1<=(yC cs secs p s1).1.sex/\(yC cs secs p s1).1.sex<=2)/\(0<=(yC cs secs p s1).1.cab/\(yC cs secs p s1).1.cab.toNat < cs.length) /\
  (0<=(yC cs secs p s1).1.bed/\(yC cs secs p s1).1.bed < (cs.getD (yC cs secs p s1).1.cab.toNat default).beds)/\0<=(yC cs secs p s1).1.frm/\(yC cs secs p s1).1.frm < (yC cs secs p s1).1.to/\(yC cs secs p s1).1.to<=secs:=by
 have hn:=up2 s1 (m:=(cs.length:Int) - 1) (by omega) (by omega)
 have hnl:(upV s1 ((cs.length:Int) - 1)).toNat < cs.length:=by omega
 have hbb:=hb _ (vG (d:=default) hnl)
 obtain ⟨bb,hbv⟩:∃ q,(cs.getD (upV s1 ((cs.length:Int) - 1)).toNat default).beds=q:=⟨_,rfl⟩
 rw [hbv] at hbb
 have hbd:=up2 (upS (upS s1 ((cs.length:Int) - 1)) 1) (m:=bb - 1) (by omega) (by omega)
 have hf:=up2 (upS (upS (upS s1 ((cs.length:Int) - 1)) 1) (bb - 1)) (m:=secs - 1) (by omega) (by omega)
 have hsx:=Qmn (upS s1 ((cs.length:Int) - 1))
 unfold sxV at hsx
 unfold yC
 simp only [hbv]
 obtain ⟨f,hfv⟩:∃ q,upV (upS (upS (upS s1 ((cs.length:Int) - 1)) 1) (bb - 1)) (secs - 1)=q:=⟨_,rfl⟩
 rw [hfv] at hf
 simp only [hfv]
 have ht:=up2 (upS (upS (upS (upS (upS s1 ((cs.length:Int) - 1)) 1) (bb - 1)) (secs - 1)) 7) (m:=secs - (f+1)) (by omega) (by omega)
 generalize upV (upS (upS (upS (upS (upS s1 ((cs.length:Int) - 1)) 1) (bb - 1)) (secs - 1)) 7) (secs - (f+1))=tt at ht ⊢
 generalize upV (upS (upS s1 ((cs.length:Int) - 1)) 1) (bb - 1)=bd at hbd ⊢
 refine ⟨trivial,hsx,⟨hn.1,hnl⟩,⟨hbd.1,by omega⟩,hf.1,by omega,by omega⟩
def QgL {cs:List Cabin} {secs x:Int} (hc:1<=cs.length/\cs.length<=3) (hb:∀ x ∈ cs,1<=x.beds/\x.beds<=3) (hs:1<=secs/\secs<=5):∀ k,k<=8 ->
  (∀ i,i < (tkK cs secs x k).2.1.length->zg ⟨cs,secs,[]⟩ ((tkK cs secs x k).2.1.getD i default) ((tkK cs secs x k).2.1.take i)=0)/\∀ t ∈ (tkK cs secs x k).2.1,t.party<=24
 |0,_=>by simp [tkK]
 |k+1,hk=>by
  obtain ⟨ih1,ih2⟩:=QgL (x:=x) hc hb hs k (by omega)
  obtain ⟨h1,h2,h3⟩:=Rl cs secs x k
  rw [tkK]
  simp only
  obtain ⟨⟨p,l,s⟩,hK⟩:∃ q,tkK cs secs x k=q:=⟨_,rfl⟩
  rw [hK] at ih1 ih2 h1 h2 h3 ⊢
  simp only at ih1 ih2 h1 h2 h3 ⊢
  have h4:=QlK (s:=s) h1
  obtain ⟨⟨p1,s1⟩,hA⟩:∃ q,pA p s=q:=⟨_,rfl⟩
  rw [hA] at h4 ⊢
  simp only at h4 ⊢
  obtain ⟨g1,g2,g3,g4,g5⟩:=Qg3 (p:=p1) (s1:=s1) hc hb hs
  obtain ⟨⟨T,s7⟩,hT⟩:∃ q,yC cs secs p1 s1=q:=⟨_,rfl⟩
  rw [hT] at g1 g2 g3 g4 g5 ⊢
  simp only at g1 g2 g3 g4 g5 ⊢
  split
  ·rename_i hg
   refine ⟨fun i hi=>?_,fun t ht=>?_⟩
   ·rw [aA,List.length_singleton] at hi
    rcases bq (bt hi) with h|h
    ·have:=ih1 i h
     rw [ai,bv h,<- ai,List.take_append_of_le_length (by omega)]
     exact this
    ·subst h
     rw [show (l++[T]).getD l.length default=T by simp [ai],List.take_append_of_le_length (aw _),bO]
     exact Ls (by omega) g2 g3 g4 g5 (UQ hg)
   ·rcases aD.1 ht with ht|ht
    ·exact ih2 t ht
    ·rw [aW.1 ht];omega
  ·exact ⟨ih1,ih2⟩
def co_ok {x a g s:Int} (ha:1<=a/\a<=3) (hg:1<=g/\g<=5) (hs:0<=s/\s<=8):zt (coC x a g s)=0/\(∀ t ∈ (coC x a g s).sold,t.party<=24)/\((coC x a g s).sold.length:Int)<=s/\((coC x a g s).cabins.length:Int)<=a/\(coC x a g s).secs<=g:=by
 have hsc:=up2 x (m:=g - 1) (by omega) (by omega)
 have hsb:1<=kM x g/\kM x g<=g:=by unfold kM;omega
 have hnc:=up2 (Xr x g) (m:=a - 1) (by omega) (by omega)
 have hcab:((yJ x g a).1.length:Int)<=a/\1<=(yJ x g a).1.length/\∀ c ∈ (yJ x g a).1,1<=c.beds/\c.beds<=3:=by
  unfold yJ
  obtain ⟨h1,h2⟩:=Ri (upS (Xr x g) (a - 1)) (1+upV (Xr x g) (a - 1)).toNat
  refine ⟨by rw [h1];omega,by rw [h1];omega,h2⟩
 obtain ⟨hc0,hc1,hc2⟩:=hcab
 have hnt:=up2 (yJ x g a).2 (m:=s) (by omega) (by omega)
 have htk:(Qew x g a s)=tkK (yJ x g a).1 (kM x g) (upS (yJ x g a).2 s) (upV (yJ x g a).2 s).toNat:=rfl
 obtain ⟨k1,k2⟩:=QgL (x:=upS (yJ x g a).2 s) (cs:=(yJ x g a).1) (secs:=kM x g) (by omega) hc2 (by omega) (upV (yJ x g a).2 s).toNat (by omega)
 obtain ⟨k3,k4,k5⟩:=Rl (yJ x g a).1 (kM x g) (upS (yJ x g a).2 s) (upV (yJ x g a).2 s).toNat
 rw [<- htk] at k1 k2 k5
 unfold coC
 simp only
 generalize yJ x g a=C at *
 generalize kM x g=S at *
 generalize (Qew x g a s).2.1=T at *
 refine ⟨?_,k2,by omega,hc0,hsb.2⟩
 have hcar:QY ⟨C.1,S,T⟩=0:=by
  unfold QY
  have b1:zG (C.1.length:Int) 1 3=0:=by unfold zG;rw [if_neg (by omega),if_neg (by omega)]
  have b2:jy (C.1.map vT)=0:=yU fun j hj=>by
   rw [ao] at hj
   rw [ai,aC,ak hj]
   have:=hc2 C.1[j] (bE hj)
   show vT C.1[j]=0
   unfold vT
   rw [jc.2 this];rfl
  have b3:inB S 1 5=true:=jc.2 (by omega)
  have b4:zG (T.length:Int) 0 8=0:=by unfold zG;rw [if_neg (by omega),if_neg (by omega)]
  simp only [b1,b2,b3,b4,ne_eq,not_true_eq_false,if_false,cY,bM]
 unfold zt
 rw [hcar]
 rw [if_neg (by decide)]
 unfold jD
 refine yU fun j hj=>?_
 rw [ao,dw] at hj
 rw [ai,aC,List.getElem?_range hj]
 exact k1 j hj
def Jv {Z:Type} [Inhabited Z] {l m:List Z} (h0:l.length=m.length) (h:∀ j,j < l.length->l.getD j default=m.getD j default):l=m:=by
 apply List.ext_getElem h0
 intro j h1 h2
 have:=h j h1
 simpa [ai,h1,h2] using this
def eqS (l m:List Bunk) (k:Nat):St:={ t:=asg [(0,qc l),(1,qc m),(4,aB false),(5,aI k)],h:=qb [],n:=0 }
def kw:=jv @ty3 (jv @Vy (jv @vS (jv @ti3.eq_1 (jv @JY.eq_1 @yG.eq_1))))
def Zc:=jv @aI.eq_1 (@aB.eq_1)
def QmL (l m:List Bunk) (hl:l.length<=1000) (hm:m.length<=1000):FnV prog 33 [qc l,qc m] (aB (decide (l=m))):=by
 have env:=qA (A:=fun _=>True) kN
 refine kV (Fn0 func33 rfl (fun vs w=>by kernel_rfl) (by kernel_rfl)) (by simp) (by simp [AV.ids,qc]) ?_
 by_cases h0:l.length=m.length
 ·have d0:decide ((l.length:Int)=(m.length:Int))=true:=decide_eq_true (by omega)
  repeat' first|(apply nx;with_reducible constructor)|apply jq (by decide)|((first|apply jz env|apply jw);intro Q hQ;simp only [vkt,seval,kw,qc,d0,ite_and];(repeat' first|with_reducible assumption|apply jv|intro hp);all_goals first|(apply hQ;clear hQ Q)|(apply jx;kernel_rfl)|omega|assumption|rfl|skip)
  refine qN (fun k:{ k:Nat // k<=l.length/\∀ j,j < k->l.getD j default=m.getD j default }=>eqS l m k.1) (fun k=>l.length - k.1) ⟨0,ag _,fun j h=>absurd h (bp _)⟩ ?_ fun ⟨k,hk,hno⟩=>?_
  ·(refine Le.ok some [] ?_;constructor;all_goals (try simp only [vle,vkt,seval,Zc,qc]))
   all_goals first|rfl|simp
  ·repeat' first|(apply nx;with_reducible constructor)|apply jq (by decide)
   (apply jz env;intro Q hQ;simp only [vkt,seval,kw,Zc,qc,eqS,ite_and];(repeat' first|with_reducible assumption|apply jv|intro hp);all_goals first|(apply hQ;clear hQ Q)|(apply jx;kernel_rfl)|omega|assumption|rfl|skip)
   repeat' first|(apply nx;with_reducible constructor)|apply jq (by decide)
   (refine jE (by simp only [vkt,seval];rfl) (fun h=>?_) (fun h=>?_) <;> (try simp only [vki] at h))
   ·have hlt:k < l.length:=by omega
    have hlm:k < m.length:=by omega
    have e9:=k9 k (by omega)
    obtain ⟨x,hx⟩:∃ x,l.getD k default=x:=⟨_,rfl⟩
    obtain ⟨y,hy⟩:∃ x,m.getD k default=x:=⟨_,rfl⟩
    have hxy:(x=y)=(x.cab=y.cab/\x.bed=y.bed):=by cases x;cases y;simp
    have hne:¬ x=y->decide (l=m)=false:=fun h=>decide_eq_false fun e=>h (by rw [<- hx,<- hy,e])
    cases q1:decide (x.cab=y.cab)
    ·rw [hne (by rw [hxy];exact fun h=>of_decide_eq_false q1 h.1)]
     repeat' first|(apply nx;with_reducible constructor)|apply jq (by decide)|((first|apply jz env|apply jw);intro Q hQ;simp only [vkt,seval,kw,qK,wy,aT,hx,hy,q1,hlm,ite_and];(repeat' first|with_reducible assumption|apply jv|intro hp);all_goals first|(apply hQ;clear hQ Q)|(apply jx;kernel_rfl)|omega|assumption|rfl|skip)
     (simp only [vrt,results33,vkt,seval,Zc];refine Fin.val rfl ?_;(try simp only [AV.le]))
     all_goals first|rfl|simp
    ·cases q2:decide (x.bed=y.bed)
     ·rw [hne (by rw [hxy];exact fun h=>of_decide_eq_false q2 h.2)]
      repeat' first|(apply nx;with_reducible constructor)|apply jq (by decide)|((first|apply jz env|apply jw);intro Q hQ;simp only [vkt,seval,kw,qK,wy,hx,hy,q1,q2,hlm,ite_and];(repeat' first|with_reducible assumption|apply jv|intro hp);all_goals first|(apply hQ;clear hQ Q)|(apply jx;kernel_rfl)|omega|assumption|rfl|skip)
      (simp only [vrt,results33,vkt,seval,Zc];refine Fin.val rfl ?_;(try simp only [AV.le]))
      all_goals first|rfl|simp
     ·have he:x=y:=by rw [hxy];exact ⟨of_decide_eq_true q1,of_decide_eq_true q2⟩
      repeat' first|(apply nx;with_reducible constructor)|apply jq (by decide)|((first|apply jz env|apply jw);intro Q hQ;simp only [vkt,seval,kw,qK,wy,hx,hy,q1,q2,hlm,e9,ite_and];(repeat' first|with_reducible assumption|apply jv|intro hp);all_goals first|(apply hQ;clear hQ Q)|(apply jx;kernel_rfl)|omega|assumption|rfl|skip)
      refine ⟨⟨k+1,hlt,fun j hj=>?_⟩,by show l.length - (k+1) < l.length - k;omega, ?_⟩
      ·rcases bq (bt hj) with h1|h1
       ·exact hno j h1
       ·rw [h1,hx,hy];exact he
      ·(refine Le.ok some [] ?_;constructor;all_goals (try simp only [vle,vkt,seval,Zc,qc]))
       all_goals first|rfl|simp
   ·have hke:k=l.length:=by omega
    subst hke
    rw [decide_eq_true (Jv h0 hno)]
    repeat' first|(apply nx;with_reducible constructor)|apply jq (by decide)|((first|apply jz env|apply jw);intro Q hQ;simp only [vkt,seval,ite_and];(repeat' first|with_reducible assumption|apply jv|intro hp);all_goals first|(apply hQ;clear hQ Q)|(apply jx;kernel_rfl)|omega|assumption|rfl|skip)
    (simp only [vrt,results33,vkt,seval,Zc];refine Fin.val rfl ?_;(try simp only [AV.le]))
    all_goals first|rfl|simp
 ·have d0:decide ((l.length:Int)=(m.length:Int))=false:=decide_eq_false (by omega)
  rw [decide_eq_false (fun e=>h0 (by rw [e]))]
  repeat' first|(apply nx;with_reducible constructor)|apply jq (by decide)|((first|apply jz env|apply jw);intro Q hQ;simp only [vkt,seval,kw,qc,d0,ite_and];(repeat' first|with_reducible assumption|apply jv|intro hp);all_goals first|(apply hQ;clear hQ Q)|(apply jx;kernel_rfl)|omega|assumption|rfl|skip)
  (simp only [vrt,results33,vkt,seval,Zc];refine Fin.val rfl ?_;(try simp only [AV.le]))
  all_goals first|rfl|simp
def seqB:List AV->Prop × AV
 |[.sl l,.sl m]=>(l=(l.map zO).map qK/\m=(m.map zO).map qK/\(l.map zO).length<=1000/\(m.map zO).length<=1000,aB (decide ((l.map zO)=(m.map zO))))
 |_=>(False,.junk)
def eeqB {A:Frm->Prop}:qm A prog 33 (zw true seqB):=qL fun vs hv h=>by
 clear hv
 unfold seqB at h ⊢
 split at h
 ·rename_i l m;obtain ⟨q0,q1,k0,k1⟩:=h
  refine ⟨by first|trivial|(repeat' split) <;> simp [AV.plain,AV.plainL,aI,aB,qz,qc,qy,qw,aTk,cTk],fun _=>(by simp [AV.flat,aB]), ?_⟩
  have:=QmL (l.map zO) (m.map zO) k0 k1
  simp only [qc,<- q0,<- q1] at this
  first|exact this|(simp only [qc,<- q0,<- q1];exact this)
 ·exact h.elim
def j5 (more:List Tk):Chart:=⟨[⟨2,true⟩,⟨2,false⟩,⟨1,false⟩],4,⟨1,1,0,0,0,2,false⟩ :: ⟨2,2,1,0,1,4,false⟩ :: more⟩
def YO:=jv @ZF (jv @vJ (jv @jm (jv @ZC (jv @jC (jv @Qv.eq_1 (jv @yI.eq_1 (jv @wY.eq_1 (jv @Qz.eq_1 @je.eq_1))))))))
def Qid (more:List Tk) (hm:more.length<=100):FnV prog 26 [qy more] (qd (j5 more)):=by
 have env:=qA (A:=fun _=>True) (kC QlQ kN)
 refine kV (Fn0 func26 rfl (fun vs w=>by kernel_rfl) (by kernel_rfl)) (by simp) (by simp [AV.ids,qy]) ?_
 have hx:(100:Nat)+2<=maxLen:=by decide
 have h1:more.length+2<=maxLen:=by omega
 have h2:2+more.length<=maxLen:=by omega
 show Sym _ _ _ (qV [qy more] 0 noH) (yc tyB noD Tryz.f26 fun S rv=>Fin S rv _ 0 (qb []) 0)
 repeat' first|(apply nx;with_reducible constructor)|apply jq (by decide)|((first|apply jz env|apply jw);intro Q hQ;simp only [vkt,seval,YO,aTk,cTk,qy,rTk,Qc7,h2,ite_and];(repeat' first|with_reducible assumption|apply jv|intro hp);all_goals first|(apply hQ;clear hQ Q)|(apply jx;kernel_rfl)|omega|assumption|rfl|skip)
 simp only [j5,qd,qa,qx,aj,au]
 (simp only [vrt,results26,vkt,seval,YO,eTk];refine Fin.ok some [1,3] ?_ ?_ ?_ ?_ ?_ rfl;all_goals (try simp only [vle,vkt,seval]))
 all_goals first|rfl|(simp [];done)
def VL:=jv @Jp @ZG.eq_1
def QkJ:=jv @aI.eq_1 (jv @aB.eq_1 (@qz.eq_1))
def Qkr (f t:Int) (d:Bool) (l:List Int):FnV prog 28 [aI f,aI t,aB d,qz l] (zl ⟨9,f,t,l,d⟩):=by
 have env:=qA (A:=fun _=>True) kN
 refine kV (Fn0 func28 rfl (fun vs w=>by kernel_rfl) (by kernel_rfl)) (by simp) (by simp [AV.ids,aI,aB,qz]) ?_
 repeat' first|(apply nx;with_reducible constructor)|apply jq (by decide)|((first|apply jz env|apply jw);intro Q hQ;simp only [vkt,seval,VL,QkJ,ite_and];(repeat' first|with_reducible assumption|apply jv|intro hp);all_goals first|(apply hQ;clear hQ Q)|(apply jx;kernel_rfl)|omega|assumption|rfl|skip)
 (simp only [vrt,results28,vkt,seval,VL,zl,qo];refine Fin.val rfl ?_;(try simp only [AV.le,AV.leL]))
 all_goals first|rfl|simp
def pkK (f:Bunk->Int) (l:List Bunk):Nat->Bunk × Int
 |0=>(⟨0,0⟩,0)
 |i+1=>if i=0\/f (l.getD i default) < (pkK f l i).2 then (l.getD i default,f (l.getD i default)) else pkK f l i
def jI:List (List Bunk)->Bunk->Bunk × Int
 |[],_=>(⟨0,0⟩,0)
 |l :: rest,b=>pkK (fun y=>(jI rest y).2+if y=b then 0 else 1) l l.length
def nxF (L:List (List Bunk)) (at_:Nat) (b y:Bunk):Int:=(jI (L.drop (at_+1)) y).2+if y=b then 0 else 1
def Qij {L:List (List Bunk)} {i:Nat} (h:i < L.length) (b:Bunk):jI (L.drop i) b=pkK (nxF L i b) (L.getD i []) (L.getD i []).length:=by
 rw [cm h,jI]
 rw [show L.getD i []=L[i] by simp [ai,h]]
 rfl
def VV:List (List Bunk)->Bunk->List Bunk
 |[],_=>[]
 |l :: rest,b=>(jI (l :: rest) b).1 :: VV rest (jI (l :: rest) b).1
def Qie {f:Bunk->Int} {l:List Bunk} {n:Int} (hn:0<=n) (h:∀ b ∈ l,0<=f b/\f b<=n):∀ i,i<=l.length->0<=(pkK f l i).2/\(pkK f l i).2<=n
 |0,_=>⟨cS 0,hn⟩
 |i+1,hi=>by
  rw [pkK]
  split
  ·exact h _ (vG hi)
  ·exact Qie hn h i (by omega)
def Xu:∀ (L:List (List Bunk)) (b:Bunk),0<=(jI L b).2/\(jI L b).2<=(L.length:Int)
 |[],_=>by simp [jI]
 |l :: rest,b=>by
  rw [jI]
  refine Qie (by omega) (fun y _=>?_) _ (aw _)
  have:=Xu rest y
  rw [bi]
  split <;> omega
def QmQ (L:List (List Bunk)) (i:Nat) (b y:Bunk):0<=nxF L i b y/\nxF L i b y<=(L.length:Int)+1:=by
 have h:=Xu (L.drop (i+1)) y
 rw [cZ] at h
 unfold nxF
 split <;> omega
def wkK (L:List (List Bunk)):Nat->List Bunk
 |0=>[]
 |i+1=>wkK L i++[(jI (L.drop i) (if i=0 then ⟨-1,0⟩ else (wkK L i).getD (i - 1) default)).1]
def Uy (L:List (List Bunk)):∀ i,(wkK L i).length=i
 |0=>rfl
 |i+1=>by rw [wkK,aA,Uy L i];rfl
def wkB (L:List (List Bunk)) (i:Nat):Bunk:=if i=0 then ⟨-1,0⟩ else (wkK L i).getD (i - 1) default
def V3 (L:List (List Bunk)) (i:Nat):wkK L (i+1)=wkK L i++[(jI (L.drop i) (wkB L i)).1]:=rfl
def QhV (L:List (List Bunk)) (i:Nat):wkB L (i+1)=(jI (L.drop i) (wkB L i)).1:=by
 unfold wkB
 rw [if_neg (by omega),V3]
 have h:=Uy L i
 rw [show i+1 - 1=i by omega,ai,bA (by omega),h]
 simp
 rfl
def QcY (L:List (List Bunk)):∀ i,i<=L.length->VV L ⟨-1,0⟩=wkK L i++VV (L.drop i) (wkB L i)
 |0,_=>by simp [wkK,wkB]
 |i+1,h=>by
  rw [QcY L i (by omega),V3,QhV]
  conv=>lhs;rw [cm (show i < L.length by omega),VV]
  rw [<- cm (show i < L.length by omega)]
  simp
def Qml (L:List (List Bunk)):wkK L L.length=VV L ⟨-1,0⟩:=by
 rw [QcY L L.length (aw _),List.drop_length,VV,be]
def XJ (a:Ask) (s:Int):Ask:=⟨a.party,s,s+1,a.sexes,a.dog⟩
def yV (c:Chart) (a:Ask) (s:Int):List Bunk:=(plP c (XJ a s)).map fun x=>x.1.getD 0 default
def QS (c:Chart) (a:Ask) (k:Nat):List (List Bunk):=(List.range k).map fun (i:Nat)=>yV c a (a.frm+i)
def Z9 (c:Chart) (a:Ask):List (List Bunk):=QS c a (a.to - a.frm).toNat
def Qa4 (c:Chart) (a:Ask) (k:Nat):QS c a (k+1)=QS c a k++[yV c a (a.frm+k)]:=by
 unfold QS;rw [bC,aq];rfl
def Qf (c:Chart) (a:Ask):List Bunk × Int × Int :=
 if wz c a ≠ 0 then ([],0,wz c a) else if 1 < a.sexes.length then ([],0,6) else if a.dog then ([],0,9) else
 if (Z9 c a).any (·.isEmpty) then ([],0,11) else (VV (Z9 c a) ⟨-1,0⟩,(jI (Z9 c a) ⟨-1,0⟩).2 - 1,0)
def QP (i:Int) (b:Bunk):Value:=.agg #[.int .i64 i,.int .i64 b.cab,.int .i64 b.bed]
def L9 {i j:Int} {b c:Bunk} (h:QP i b=QP j c):i=j/\b=c:=by
 cases b;cases c
 simp [QP] at h
 obtain ⟨rfl,rfl,rfl⟩:=h
 exact ⟨rfl,rfl⟩
def Qdd:KeyInfo:={ kd:=.agg [some .i64,some .i64,some .i64],z:=.v (.int .i64 0),agg:=false }
def R3 (es:List (Value × Value)) (kv:Value) (n:Int):Prop:=∃ b,jV Qdd (jH es kv)=(True,.v (.int .i64 n),b)
def QeQ {es:List (Value × Value)} {kv:Value} (h:jH es kv=none):R3 es kv 0:=by
 refine ⟨false, ?_⟩
 rw [h]
 show (_,_,_)=_
 simp [Qdd,AV.ids]
def Qee {es:List (Value × Value)} {kv:Value} {n:Int} (h:jH es kv=some (.int .i64 n)):R3 es kv n:=by
 refine ⟨true, ?_⟩
 rw [h]
 show (_,_,_)=_
 simp [Qdd,XP,Value.oneCell',vAV]
def Qfz {es:List (Value × Value)} {kv:Value} {n:Int}:R3 (ym es kv (.int .i64 n)) kv n:=Qee (by rw [J2,if_pos rfl])
def QcU {es:List (Value × Value)} {kv kv' v:Value} {n:Int} (hne:kv ≠ kv') (h:R3 es kv' n):R3 (ym es kv v) kv' n:=by
 unfold R3
 rw [J2,if_neg hne]
 exact h
def JD {es:List (Value × Value)} {k v:Value}:(ym es k v).length<=es.length+1:=by
 induction es with
 |nil=>simp [ym]
 |cons p es ih =>
  rw [ym]
  split
  ·simp
  ·rw [bi,bi];omega
abbrev QlI:Value->Prop:=KD.Q (.agg [some .i64,some .i64,some .i64])
def spotQ (i:Int) (b:Bunk):QlI (QP i b):=⟨⟨_,rfl⟩,⟨_,rfl⟩,⟨_,rfl⟩,trivial⟩
structure BhOk (L:List (List Bunk)) (es:List (Value × Value)) (at_:Nat):Prop where
 ok:MOK QlI es
 look:∀ j,at_<=j->j < L.length->∀ x ∈ L.getD j [],R3 es (QP j x) (jI (L.drop (j+1)) x).2
def QmB (L:List (List Bunk)):BhOk L [] (L.length - 1):=⟨MOK.nil _,fun j h1 h2 x _=>by
 rw [List.drop_eq_nil_iff.2 (by omega)]
 exact QeQ rfl⟩
structure BhIn (L:List (List Bunk)) (es:List (Value × Value)) (at_ i:Nat):Prop where
 bh:BhOk L es (at_+1)
 cur:∀ k,k < i->k < (L.getD at_ []).length->R3 es (QP at_ ((L.getD at_ []).getD k default)) (jI (L.drop (at_+1)) ((L.getD at_ []).getD k default)).2
def BhOk.inn {L:List (List Bunk)} {es:List (Value × Value)} {i:Nat} (h:BhOk L es (i+1)):BhIn L es i 0:=⟨h,fun k hk=>absurd hk (bp _)⟩
def BhIn.step {L:List (List Bunk)} {es:List (Value × Value)} {at_ i:Nat} (h:BhIn L es at_ i) {b:Bunk} (hb:(L.getD at_ []).getD i default=b) {n:Int} (hn:(jI (L.drop (at_+1)) b).2=n) :
  BhIn L (ym es (QP at_ b) (.int .i64 n)) at_ (i+1):=by
 refine ⟨⟨h.bh.ok.set (spotQ _ _),fun j h1 h2 x hx=>QcU (fun e=>?_) (h.bh.look j h1 h2 x hx)⟩,fun k hk hl=>?_⟩
 ·have:=(L9 e).1;omega
 ·obtain ⟨x,hx⟩:∃ x,(L.getD at_ []).getD k default=x:=⟨_,rfl⟩
  rw [hx]
  by_cases hxb:b=x
  ·subst hxb;rw [hn];exact Qfz
  ·have hki:k < i:=by
    rcases bq (bt hk) with h1|h1
    ·exact h1
    ·subst h1;exact absurd (hb.symm.trans hx) hxb
   have:=h.cur k hki hl
   rw [hx] at this
   exact QcU (fun e=>hxb (L9 e).2) this
def BhIn.out {L:List (List Bunk)} {es:List (Value × Value)} {i:Nat} (h:BhIn L es i (L.getD i []).length):BhOk L es i:=⟨h.bh.ok,fun j h1 h2 x hx=>by
 rcases bq h1 with h3|h3
 ·exact h.bh.look j h3 h2 x hx
 ·subst h3
  obtain ⟨k,hk,rfl⟩:=cu.1 hx
  have:=h.cur k hk hk
  rwa [show (L.getD i []).getD k default=(L.getD i [])[k] by rw [ai,ak hk];rfl] at this⟩
structure NxOk (L:List (List Bunk)) (es:List (Value × Value)) (i:Nat):Prop where
 len:L.length<=100
 lt:i < L.length
 each:∀ l ∈ L,l.length<=1000
 bh:BhOk L es i
def nxL (L:List (List Bunk)) (es:List (Value × Value)):List AObj:=[.cells [.row 2],.cells [.mp 3],.row 65 1 (L.map zM),.map es]
def Qi2 {L:List (List Bunk)} {es:List (Value × Value)}:∀ i o,qb (qB 0 (nxL L es)) i=some o->i < 4/\∀ id ∈ o.ids,id < 4:=by
 intro i o hi
 have h:=qG hi
 simp [qB,nxL] at h
 rcases h with ⟨rfl,rfl⟩|⟨rfl,rfl⟩|⟨rfl,rfl⟩|⟨rfl,rfl⟩ <;> simp [AObj.ids,AV.ids,AV.idsL]
def ncS (L:List (List Bunk)) (es:List (Value × Value)) (i:Nat) (b:Bunk) (l:List Bunk) (k:Nat) (o:Bunk) (n:Int):St:={ t:=asg [(0,aI i),(2,.ptr 0 0),(3,.ptr 1 0),(5,.ptr 4 0),(6,.ptr 5 0),(7,aI n),(14,qc l),(15,aI l.length),(16,aI k)],h:=qb [(0,.cells [.row 2]),(1,.cells [.mp 3]),(2,.row 65 1 (L.map zM)),(3,.map es),(4,.cells [.v (.int .i64 b.cab),.v (.int .i64 b.bed)]),(5,.cells [.v (.int .i64 o.cab),.v (.int .i64 o.bed)])],n:=6,m:=4 }
def jX:=jv @ty3 (jv @ty59 (jv @Vy (jv @vS (jv @Qlo (jv @Qk6 (jv @ti3.eq_1 (jv @QaZ.eq_1 (jv @JY.eq_1 (jv @yG.eq_1 (jv @LB.eq_1 @LF.eq_1))))))))))
def xy:=jv @aI.eq_1 (@aB.eq_1)
def Qme (L:List (List Bunk)) (es:List (Value × Value)) (i:Nat) (b:Bunk) (ok:NxOk L es i):Fn noB prog 82 [aI i,qw b,.ptr 0 0,.ptr 1 0] (qb (qB 0 (nxL L es))) (.tup [qw (jI (L.drop i) b).1,aI (jI (L.drop i) b).2]) (qb (ze 0 ((nxL L es).map some))) 0:=by
 have env:=qA (A:=fun _=>True) kN
 refine Fn.of (A:=fun _=>True) (n0:=4) (D:=noD) (Fn0 func82 rfl (fun vs w=>by kernel_rfl) (by kernel_rfl)) (by simp) (by simp [AV.ids,AV.idsL,aI,qw]) Qi2 (fun _ _ _ _=>trivial) qX ?_
 have hlen:=ok.len
 have hlt:=ok.lt
 have hbd:=QmQ L i b
 rw [Qij hlt]
 obtain ⟨l,hl⟩:∃ l,L.getD i []=l:=⟨_,rfl⟩
 have hll:l.length<=1000:=ok.each l (by rw [<- hl];exact vG hlt)
 have hlook:∀ x ∈ l,R3 es (QP i x) (jI (L.drop (i+1)) x).2:=fun x hx=>ok.bh.look i (aw _) hlt x (by rw [hl];exact hx)
 have hM:MOK (KD.Q (.agg [some .i64,some .i64,some .i64])) es:=ok.bh.ok
 rw [hl]
 show Sym _ _ _ (qV [aI i,qw b,.ptr 0 0,.ptr 1 0] 4 (qb [(0,.cells [.row 2]),(1,.cells [.mp 3]),(2,.row 65 1 (L.map zM)),(3,.map es)])) (yc tyB noD Tryz.f82 fun S rv=>Fin S rv _ 4 (qb [(0,.cells [.row 2]),(1,.cells [.mp 3]),(2,.row 65 1 (L.map zM)),(3,.map es)]) 0)
 have i0:((i:Int)).toNat=i:=rfl
 have hg:=Qgu hlt
 rw [hl] at hg
 repeat' first|(apply nx;with_reducible constructor)|apply jq (by decide)|((first|apply jz env|apply jw);intro Q hQ;simp only [vkt,seval,jX,xy,qw,zM,hg,hlt,i0,ite_and];(repeat' first|with_reducible assumption|apply jv|intro hp);all_goals first|(apply hQ;clear hQ Q)|(apply jx;kernel_rfl)|omega|assumption|rfl|skip)
 refine qN (fun k:{ k:Nat // k<=l.length }=>ncS L es i b l k.1 (pkK (nxF L i b) l k.1).1 (pkK (nxF L i b) l k.1).2) (fun k=>l.length - k.1) ⟨0,ag _⟩ ?_ fun ⟨k,hk⟩=>?_
 ·(refine Le.ok some [] ?_;constructor;all_goals (try simp only [vle,vkt,seval,xy,qc]))
  all_goals first|rfl|(simp [pkK];done)
 simp only at hk ⊢
 obtain ⟨⟨o,n⟩,hon⟩:∃ z,pkK (nxF L i b) l k=z:=⟨_,rfl⟩
 have hS:pkK (nxF L i b) l (k+1)=if k=0\/nxF L i b (l.getD k default) < n then (l.getD k default,nxF L i b (l.getD k default)) else (o,n):=by rw [pkK,hon]
 rw [hon]
 repeat' first|(apply nx;with_reducible constructor)|apply jq (by decide)
 (apply jz env;intro Q hQ;simp only [vkt,seval,jX,xy,qc,ncS,ite_and];(repeat' first|with_reducible assumption|apply jv|intro hp);all_goals first|(apply hQ;clear hQ Q)|(apply jx;kernel_rfl)|omega|assumption|rfl|skip)
 repeat' first|(apply nx;with_reducible constructor)|apply jq (by decide)
 (refine jE (by simp only [vkt,seval];rfl) (fun h=>?_) (fun h=>?_) <;> (try simp only [vki] at h))
 ·have hkl:k < l.length:=by omega
  have e9:=k9 k (by omega)
  obtain ⟨x,hx⟩:∃ x,l.getD k default=x:=⟨_,rfl⟩
  obtain ⟨v,hv⟩:∃ v,(jI (L.drop (i+1)) x).2=v:=⟨_,rfl⟩
  obtain ⟨bb,hlk⟩:=hlook x (by rw [<- hx];exact vG hkl)
  rw [hv] at hlk
  simp only [Qdd,QP] at hlk
  have hF:nxF L i b x=v+if x=b then 0 else 1:=by unfold nxF;rw [hv]
  have hb:=hbd x
  rw [hx] at hS
  obtain ⟨f,hf⟩:∃ f,nxF L i b x=f:=⟨_,rfl⟩
  rw [hf] at hS hF hb
  have key:∀ (o':Bunk) (n':Int),pkK (nxF L i b) l (k+1)=(o',n')->ncS L es i b l (k+1) (pkK (nxF L i b) l (k+1)).1 (pkK (nxF L i b) l (k+1)).2=ncS L es i b l (k+1) o' n':=fun o' n' h=>by rw [h]
  have fin:∀ (S:St) (o':Bunk) (n':Int),pkK (nxF L i b) l (k+1)=(o',n')->Le S (ncS L es i b l (k+1) o' n')->∃ y:{ k:Nat // k<=l.length },(l.length - y.1 < l.length - k)/\Le S (ncS L es i b l y.1 (pkK (nxF L i b) l y.1).1 (pkK (nxF L i b) l y.1).2):=fun S o' n' h hle=>⟨⟨k+1,hkl⟩,by show l.length - (k+1) < l.length - k;omega,by rw [key o' n' h];exact hle⟩
  by_cases hxb:x=b
  ·subst hxb
   rw [if_pos rfl,Int.add_zero] at hF
   subst hF
   have xx:((x.cab == x.cab) && (x.bed == x.bed))=true:=by simp
   by_cases hk0:k=0
   ·rw [if_pos (.inl hk0)] at hS
    have d0:decide ((k:Int)=0)=true:=decide_eq_true (by omega)
    repeat' first|(apply nx;with_reducible constructor)|apply jq (by decide)|((first|apply jz env|apply jw);intro Q hQ;simp only [vkt,seval,jX,qK,wy,hx,e9,hlk,hM,d0,ite_and];(repeat' first|with_reducible assumption|apply jv|intro hp);all_goals first|(apply hQ;clear hQ Q)|(apply jx;kernel_rfl)|omega|assumption|rfl|skip)
    refine fin _ _ _ hS ?_
    (refine Le.ok some [] ?_;constructor;all_goals (try simp only [vle,vkt,seval,xy,qc]))
    all_goals first|rfl|simp
   ·have d0:decide ((k:Int)=0)=false:=decide_eq_false (by omega)
    by_cases hc:f < n
    ·rw [if_pos (.inr hc)] at hS
     have d1:decide (f < n)=true:=decide_eq_true hc
     repeat' first|(apply nx;with_reducible constructor)|apply jq (by decide)|((first|apply jz env|apply jw);intro Q hQ;simp only [vkt,seval,jX,qK,wy,hx,e9,hlk,hM,d0,d1,ite_and];(repeat' first|with_reducible assumption|apply jv|intro hp);all_goals first|(apply hQ;clear hQ Q)|(apply jx;kernel_rfl)|omega|assumption|rfl|skip)
     refine fin _ _ _ hS ?_
     (refine Le.ok some [] ?_;constructor;all_goals (try simp only [vle,vkt,seval,xy,qc]))
     all_goals first|rfl|simp
    ·rw [if_neg (by omega)] at hS
     have d1:decide (f < n)=false:=decide_eq_false hc
     repeat' first|(apply nx;with_reducible constructor)|apply jq (by decide)|((first|apply jz env|apply jw);intro Q hQ;simp only [vkt,seval,jX,qK,wy,hx,e9,hlk,hM,d0,d1,ite_and];(repeat' first|with_reducible assumption|apply jv|intro hp);all_goals first|(apply hQ;clear hQ Q)|(apply jx;kernel_rfl)|omega|assumption|rfl|skip)
     refine fin _ _ _ hS ?_
     (refine Le.ok some [] ?_;constructor;all_goals (try simp only [vle,vkt,seval,xy,qc]))
     all_goals first|rfl|simp
  ·rw [if_neg hxb] at hF
   have w1:IntKind.wrap .i64 (v+1)=f:=by rw [wrap64 (by omega) (by omega)];exact hF.symm
   have hne:(decide (x.cab=b.cab) && decide (x.bed=b.bed))=false:=by
    cases x;cases b
    simp at hxb ⊢
    exact hxb
   by_cases hk0:k=0
   ·rw [if_pos (.inl hk0)] at hS
    have d0:decide ((k:Int)=0)=true:=decide_eq_true (by omega)
    repeat' first|(apply nx;with_reducible constructor)|apply jq (by decide)|((first|apply jz env|apply jw);intro Q hQ;simp only [vkt,seval,jX,qK,wy,hx,e9,hlk,hM,hne,w1,d0,ite_and];(repeat' first|with_reducible assumption|apply jv|intro hp);all_goals first|(apply hQ;clear hQ Q)|(apply jx;kernel_rfl)|omega|assumption|rfl|skip)
    refine fin _ _ _ hS ?_
    (refine Le.ok some [] ?_;constructor;all_goals (try simp only [vle,vkt,seval,xy,qc]))
    all_goals first|rfl|simp
   ·have d0:decide ((k:Int)=0)=false:=decide_eq_false (by omega)
    by_cases hc:f < n
    ·rw [if_pos (.inr hc)] at hS
     have d1:decide (f < n)=true:=decide_eq_true hc
     repeat' first|(apply nx;with_reducible constructor)|apply jq (by decide)|((first|apply jz env|apply jw);intro Q hQ;simp only [vkt,seval,jX,qK,wy,hx,e9,hlk,hM,hne,w1,d0,d1,ite_and];(repeat' first|with_reducible assumption|apply jv|intro hp);all_goals first|(apply hQ;clear hQ Q)|(apply jx;kernel_rfl)|omega|assumption|rfl|skip)
     refine fin _ _ _ hS ?_
     (refine Le.ok some [] ?_;constructor;all_goals (try simp only [vle,vkt,seval,xy,qc]))
     all_goals first|rfl|simp
    ·rw [if_neg (by omega)] at hS
     have d1:decide (f < n)=false:=decide_eq_false hc
     repeat' first|(apply nx;with_reducible constructor)|apply jq (by decide)|((first|apply jz env|apply jw);intro Q hQ;simp only [vkt,seval,jX,qK,wy,hx,e9,hlk,hM,hne,w1,d0,d1,ite_and];(repeat' first|with_reducible assumption|apply jv|intro hp);all_goals first|(apply hQ;clear hQ Q)|(apply jx;kernel_rfl)|omega|assumption|rfl|skip)
     refine fin _ _ _ hS ?_
     (refine Le.ok some [] ?_;constructor;all_goals (try simp only [vle,vkt,seval,xy,qc]))
     all_goals first|rfl|simp
 ·have hke:k=l.length:=by omega
  subst hke
  repeat' first|(apply nx;with_reducible constructor)|apply jq (by decide)|((first|apply jz env|apply jw);intro Q hQ;simp only [vkt,seval,jX,ite_and];(repeat' first|with_reducible assumption|apply jv|intro hp);all_goals first|(apply hQ;clear hQ Q)|(apply jx;kernel_rfl)|omega|assumption|rfl|skip)
  (simp only [vrt,results82,vkt,seval,jX,xy,qw];refine Fin.ok some [] ?_ ?_ ?_ ?_ ?_ rfl;all_goals (try simp only [vle,vkt,seval]))
  all_goals first|rfl|(simp;done)|(rw [hon];exact ⟨⟨rfl,rfl⟩,rfl⟩)
def Qbt (S:St):List AV->Option Pk
 |[.v (.int .i64 i),.agg [.v (.int .i64 c),.v (.int .i64 d)],.ptr p 0,.ptr q 0]=>match S.h p,S.h q with
  |some (.cells [.row r]),some (.cells [.mp m])=>match S.h r,S.h m with
   |some (.row _ _ xs),some (.map es)=>some { pre:=xs=(xs.map ZR).map zM/\i=(i.toNat:Int)/\NxOk (xs.map ZR) es i.toNat,hs:=[p,q,r,m],ar:=[.v (.int .i64 i),.agg [.v (.int .i64 c),.v (.int .i64 d)],.ptr 0 0,.ptr 1 0],L0:=nxL (xs.map ZR) es,v:=.tup [qw (jI ((xs.map ZR).drop i.toNat) ⟨c,d⟩).1,aI (jI ((xs.map ZR).drop i.toNat) ⟨c,d⟩).2],L1:=(nxL (xs.map ZR) es).map some }
   |_,_=>none
  |_,_=>none
 |_=>none
def QjM:∀ S bs q,Qbt S bs=some q->q.pre->Fn noB prog 82 q.ar (qb (qB 0 q.L0)) q.v (qb (ze 0 q.L1)) 0:=fun S bs q h hp=>by
 unfold Qbt at h
 split at h
 ·rename_i i c d p q
  split at h
  ·split at h
   ·rename_i m _ _ _ _ _ xs es _ _
    cases h
    obtain ⟨h1,h2,h3⟩:=hp
    have:=Qme _ _ _ ⟨c,d⟩ h3
    rw [aI,<- h2] at this
    exact this
   ·cases h
  ·cases h
 ·cases h
def eNx1 {A:Frm->Prop}:qm A prog 82 (fnQ Qbt):=Qmw QjM
def KU (n:Nat):Nat->List Int->Nat->List (List Int)
 |0,l,_=>[l]
 |m+1,l,f=>(List.range (n - f)).flatMap fun k=>KU n m (l++[((f+k:Nat):Int)]) (f+k+1)
def kS (sold:List Tk) (p:Int):Nat:=sold.countP fun t=>decide (t.party=p)
def wX (sold:List Tk):List Int:=((List.range sold.length).filter fun i=>decide (kS sold (sold.getD i default).party=1)).map fun (i:Nat)=>(i:Int)
def xI (sold:List Tk) (n:Nat) (b:Bunk):List Tk:=sold.set n ⟨(sold.getD n default).party,(sold.getD n default).sex,b.cab,b.bed,(sold.getD n default).frm,(sold.getD n default).to,(sold.getD n default).dog⟩
def jU (cs:List Cabin) (s:Int) (a:Ask):List Int->List Tk->Option (List Tr)
 |[],sold=>if zt ⟨cs,s,sold⟩=0/\plP ⟨cs,s,sold⟩ a ≠ [] then some [] else none
 |n :: r,sold=>(qZ cs).findSome? fun b=>if b=(sold.getD n.toNat default).bunk then none else (jU cs s a r (xI sold n.toNat b)).map (⟨n,b.cab,b.bed⟩ :: ·)
def xU (c:Chart) (l:List Int):List Int:=l.map fun i=>(wX c.sold).getD i.toNat 0
def Yp (c:Chart) (a:Ask) (m:Nat):Option (List Tr):=(KU (wX c.sold).length m [] 0).findSome? fun l=>jU c.cabins c.secs a (xU c l) c.sold
def kE (c:Chart) (a:Ask):List Tr × Int :=
 if wz c a ≠ 0 then ([],wz c a) else match (List.range 3).findSome? (Yp c a) with
 |some t=>(t,0)
 |none=>([],11)
def Qgm:KeyInfo:={ kd:=.one (.int .i64),z:=.v (.int .i64 0),agg:=false }
def KX (es:List (Value × Value)) (p n:Int):Prop:=∃ b,jV Qgm (jH es (.int .i64 p))=(True,.v (.int .i64 n),b)
def Qa8 {es:List (Value × Value)} {p:Int} (h:jH es (.int .i64 p)=none):KX es p 0:=by
 refine ⟨false, ?_⟩
 rw [h]
 show (_,_,_)=_
 simp [Qgm,AV.ids]
def Qca {es:List (Value × Value)} {p n:Int} (h:jH es (.int .i64 p)=some (.int .i64 n)):KX es p n:=by
 refine ⟨true, ?_⟩
 rw [h]
 show (_,_,_)=_
 simp [Qgm,XP,Value.oneCell',vAV]
def QeK {es:List (Value × Value)} {p q n m:Int} (h:p ≠ q->KX es q m) (h2:p=q->n=m):KX (ym es (.int .i64 p) (.int .i64 n)) q m:=by
 by_cases hpq:p=q
 ·subst hpq
  rw [<- h2 rfl]
  exact Qca (by rw [J2,if_pos rfl])
 ·unfold KX
  rw [J2,if_neg (by simpa using hpq)]
  exact h hpq
structure LnOk (sold:List Tk) (es:List (Value × Value)) (k:Nat):Prop where
 ok:MOK (KD.Q (.one (.int .i64))) es
 look:∀ p,KX es p (kS (sold.take k) p)
 len:es.length<=k
def QmD (sold:List Tk):LnOk sold [] 0:=⟨MOK.nil _,fun p=>by rw [dt];exact Qa8 rfl,aw _⟩
def Qae {sold:List Tk} {k:Nat} (h:k < sold.length) (p:Int):kS (sold.take (k+1)) p=kS (sold.take k) p+if (sold.getD k default).party=p then 1 else 0:=by
 unfold kS
 rw [bQ h,List.countP_append]
 rw [show sold.getD k default=sold[k] by simp [ai,h]]
 simp
def LnOk.step {sold:List Tk} {es:List (Value × Value)} {k:Nat} (h:LnOk sold es k) (hk:k < sold.length) {p:Int} (hp:(sold.getD k default).party=p) {n:Nat} (hn:kS (sold.take k) p=n) :
  LnOk sold (ym es (.int .i64 p) (.int .i64 ((n+1:Nat):Int))) (k+1):=by
 refine ⟨h.ok.set rfl,fun q=>?_, ?_⟩
 ·rw [Qae hk,hp]
  refine QeK (fun hne=>?_) fun e=>?_
  ·rw [if_neg hne,bj];exact h.look q
  ·subst e;rw [if_pos rfl,hn]
 ·have:=JD (es:=es) (k:=.int .i64 p) (v:=.int .i64 ((n+1:Nat):Int))
  have:=h.len
  omega
def Qfp (sold:List Tk) (p:Int):kS sold p<=sold.length:=List.countP_le_length
def lnK (sold:List Tk) (k:Nat):List Int:=((List.range k).filter fun i=>decide (kS sold (sold.getD i default).party=1)).map fun (i:Nat)=>(i:Int)
def QfX (sold:List Tk) (k:Nat):lnK sold (k+1)=if kS sold (sold.getD k default).party=1 then lnK sold k++[(k:Int)] else lnK sold k:=by
 unfold lnK
 rw [bC,List.filter_append,aq]
 split
 ·rename_i h;simp [-List.getD_eq_getElem?_getD,h]
 ·rename_i h;simp [-List.getD_eq_getElem?_getD,h]
def QcM (sold:List Tk) (k:Nat):(lnK sold k).length<=k:=by
 unfold lnK
 rw [ao]
 exact aN (dN _ _) (by simp)
def Qji (sold:List Tk):lnK sold sold.length=wX sold:=rfl
def lnA (c:Chart) (es:List (Value × Value)) (k:Nat):St:={ t:=asg [(1,.ptr 0 0),(3,.mp 1),(11,qy c.sold),(12,aI c.sold.length),(13,aI k)],h:=qb [(0,.cells (qa c)),(1,.map es)],n:=2 }
def lnB (c:Chart) (es:List (Value × Value)) (k:Nat):St:={ t:=asg [(3,.mp 1),(6,.row 2),(24,qy c.sold),(25,aI c.sold.length),(26,aI k)],h:=qb [(1,.map es),(2,.row 3 1 ((lnK c.sold k).map zL))],n:=3 }
def xk:=jv @ty3 (jv @vJ (jv @jm (jv @Jj (jv @jC (jv @ty234 (jv @ti3.eq_1 (jv @yI.eq_1 (jv @wY.eq_1 (jv @ZE.eq_1 (jv @je.eq_1 @QcR.eq_1))))))))))
def vQ:=jv @aI.eq_1 (jv @aB.eq_1 (jv @zL.eq_1 (jv @QiJ (@qz.eq_1))))
def Qjk (c:Chart) (hc:c.sold.length<=100):FnV prog 83 [qd c] (qz (wX c.sold)):=by
 have env:=qA (A:=fun _=>True) kN
 refine kV (Fn0 func83 rfl (fun vs w=>by kernel_rfl) (by kernel_rfl)) (by simp) (by simp [AV.ids,AV.idsL,qd,qa]) ?_
 have hmx:(100000:Nat)<=maxLen:=by decide
 repeat' first|(apply nx;with_reducible constructor)|apply jq (by decide)|((first|apply jz env|apply jw);intro Q hQ;simp only [vkt,seval,xk,qd,qa,ite_and];(repeat' first|with_reducible assumption|apply jv|intro hp);all_goals first|(apply hQ;clear hQ Q)|(apply jx;kernel_rfl)|omega|assumption|rfl|skip)
 refine qN (fun x:{ x:Nat × List (Value × Value) // x.1<=c.sold.length/\LnOk c.sold x.2 x.1 }=>lnA c x.1.2 x.1.1) (fun x=>c.sold.length - x.1.1) ⟨(0,[]),ag _,QmD _⟩ ?_ fun ⟨(k,es),hk,hL⟩=>?_
 ·(refine Le.ok some [] ?_;constructor;all_goals (try simp only [vle,vkt,seval,vQ,qy,qa]))
  all_goals first|rfl|simp
 simp only at hk hL ⊢
 by_cases hkl:k < c.sold.length
 ·have d1:decide ((k:Int) < (c.sold.length:Int))=true:=decide_eq_true (by omega)
  have e9:=k9 k (by omega)
  obtain ⟨x,hx⟩:∃ x,c.sold.getD k default=x:=⟨_,rfl⟩
  obtain ⟨n,hn⟩:∃ n,kS (c.sold.take k) x.party=n:=⟨_,rfl⟩
  have hnb:=Qfp (c.sold.take k) x.party
  rw [hn,aR] at hnb
  obtain ⟨b,hl⟩:=hL.look x.party
  rw [hn] at hl
  simp only [Qgm] at hl
  have hM:=hL.ok
  have w1:=k9 n (by omega)
  have hml:(ym es (.int .i64 x.party) (.int .i64 ((n+1:Nat):Int))).length<=maxLen:=by
   have h1:=JD (es:=es) (k:=.int .i64 x.party) (v:=.int .i64 ((n+1:Nat):Int))
   have h2:=hL.len
   omega
  repeat' first|(apply nx;with_reducible constructor)|apply jq (by decide)|((first|apply jz env|apply jw);intro Q hQ;simp only [vkt,seval,xk,vQ,qy,eTk,gTk,qa,lnA,MapKept.IsKey,d1,e9,hx,hl,hM,w1,hml,ite_and];(repeat' first|with_reducible assumption|apply jv|intro hp);all_goals first|(apply hQ;clear hQ Q)|(apply jx;kernel_rfl)|omega|assumption|rfl|skip)
  refine ⟨⟨(k+1,ym es (.int .i64 x.party) (.int .i64 ((n+1:Nat):Int))),hkl,hL.step hkl (by rw [hx]) hn⟩,by show c.sold.length - (k+1) < c.sold.length - k;omega, ?_⟩
  (refine Le.ok some [] ?_;constructor;all_goals (try simp only [vle,vkt,seval,vQ,qy,qa]))
  all_goals first|rfl|simp
 ·have d1:decide ((k:Int) < (c.sold.length:Int))=false:=decide_eq_false (by omega)
  obtain rfl:k=c.sold.length:=by omega
  repeat' first|(apply nx;with_reducible constructor)|apply jq (by decide)|((first|apply jz env|apply jw);intro Q hQ;simp only [vkt,seval,xk,vQ,qy,qa,lnA,d1,ite_and];(repeat' first|with_reducible assumption|apply jv|intro hp);all_goals first|(apply hQ;clear hQ Q)|(apply jx;kernel_rfl)|omega|assumption|rfl|skip)
  refine qN (fun k:{ k:Nat // k<=c.sold.length }=>lnB c es k.1) (fun k=>c.sold.length - k.1) ⟨0,ag _⟩ ?_ fun ⟨k,hk⟩=>?_
  ·(refine Le.ok (fun i=>if i=2 then none else some i) [] ?_;constructor;all_goals (try simp only [vle,vkt,seval,vQ,qy]))
   all_goals first|rfl|(simp [lnK];done)|(intro i hi;rw [if_neg (by omega)];done)
  simp only at hk ⊢
  by_cases hkl:k < c.sold.length
  ·have d1:decide ((k:Int) < (c.sold.length:Int))=true:=decide_eq_true (by omega)
   have e9:=k9 k (by omega)
   obtain ⟨x,hx⟩:∃ x,c.sold.getD k default=x:=⟨_,rfl⟩
   obtain ⟨n,hn⟩:∃ n,kS c.sold x.party=n:=⟨_,rfl⟩
   obtain ⟨b,hl⟩:=hL.look x.party
   rw [bO,hn] at hl
   simp only [Qgm] at hl
   have hM:=hL.ok
   have hS:=QfX c.sold k
   have hkn:=QcM c.sold k
   have hkm:(lnK c.sold k).length+1<=maxLen:=by omega
   rw [hx,hn] at hS
   by_cases h1:n=1
   ·rw [if_pos h1] at hS
    rw [show (n:Int)=1 by omega] at hl
    repeat' first|(apply nx;with_reducible constructor)|apply jq (by decide)|((first|apply jz env|apply jw);intro Q hQ;simp only [vkt,seval,xk,vQ,qy,eTk,gTk,lnB,MapKept.IsKey,d1,e9,hx,hl,hM,hkm,decide_true,ite_and];(repeat' first|with_reducible assumption|apply jv|intro hp);all_goals first|(apply hQ;clear hQ Q)|(apply jx;kernel_rfl)|omega|assumption|rfl|skip)
    refine ⟨⟨k+1,hkl⟩,by show c.sold.length - (k+1) < c.sold.length - k;omega, ?_⟩
    show Le _ (lnB c es (k+1))
    unfold lnB
    rw [hS]
    (refine Le.ok (fun i=>if i=2 then some 5 else some i) [] ?_;constructor;all_goals (try simp only [vle,vkt,seval,vQ,qy]))
    all_goals first|rfl|(rw [aq];rfl)|(simp;done)|(intro i hi;rw [if_neg (by omega)];done)
   ·rw [if_neg h1] at hS
    have d2:decide ((n:Int)=1)=false:=decide_eq_false (by omega)
    repeat' first|(apply nx;with_reducible constructor)|apply jq (by decide)|((first|apply jz env|apply jw);intro Q hQ;simp only [vkt,seval,xk,vQ,qy,eTk,gTk,lnB,MapKept.IsKey,d1,e9,hx,hl,hM,d2,ite_and];(repeat' first|with_reducible assumption|apply jv|intro hp);all_goals first|(apply hQ;clear hQ Q)|(apply jx;kernel_rfl)|omega|assumption|rfl|skip)
    refine ⟨⟨k+1,hkl⟩,by show c.sold.length - (k+1) < c.sold.length - k;omega, ?_⟩
    show Le _ (lnB c es (k+1))
    unfold lnB
    rw [hS]
    (refine Le.ok some [] ?_;constructor;all_goals (try simp only [vle,vkt,seval,vQ,qy]))
    all_goals first|rfl|simp
  ·have d1:decide ((k:Int) < (c.sold.length:Int))=false:=decide_eq_false (by omega)
   obtain rfl:k=c.sold.length:=by omega
   have hall:=Qji c.sold
   repeat' first|(apply nx;with_reducible constructor)|apply jq (by decide)|((first|apply jz env|apply jw);intro Q hQ;simp only [vkt,seval,xk,vQ,qy,lnB,d1,hall,ite_and];(repeat' first|with_reducible assumption|apply jv|intro hp);all_goals first|(apply hQ;clear hQ Q)|(apply jx;kernel_rfl)|omega|assumption|rfl|skip)
   simp only [vrt,results83,vkt,seval,vQ]
   show Fin _ _ _ 0 (qb []) 0
   refine Fin.ok some [2] ?_ ?_ ?_ ?_ ?_ rfl
   all_goals (try simp only [vle,vkt,seval])
   all_goals first|rfl|simp
def Qdm:List AV->Prop × AV
 |[.agg [.sl c0,.v (.int .i64 c1),.sl c2]]=>(c0=(c0.map qh).map qx/\c2=(c2.map dTk).map eTk/\((⟨(c0.map qh),c1,(c2.map dTk)⟩:Chart)).sold.length<=100,qz (wX ((⟨(c0.map qh),c1,(c2.map dTk)⟩:Chart)).sold))
 |_=>(False,.junk)
def elone {A:Frm->Prop}:qm A prog 83 (zw false Qdm):=qL fun vs hv h=>by
 clear hv
 unfold Qdm at h ⊢
 split at h
 ·rename_i c0 c1 c2;obtain ⟨q0,q1,k0⟩:=h
  refine ⟨by first|trivial|(repeat' split) <;> simp [AV.plain,AV.plainL,aI,aB,qz,qc,qy,qw,aTk,cTk],fun h=>absurd h (by decide), ?_⟩
  have:=Qjk ((⟨(c0.map qh),c1,(c2.map dTk)⟩:Chart)) k0
  simp only [qd,qa,<- q0,<- q1] at this
  first|exact this|(simp only [zF,qd,aI,qy,qa,<- q0,<- q1];exact this)
 ·exact h.elim
def QaT (sold:List Tk) (n:Nat) (b:Bunk) {x:Tk} (hx:sold.getD n default=x):(xI sold n b).map eTk=(sold.map eTk).set n [.v (.int .i64 x.party),.v (.int .i64 x.sex),.v (.int .i64 b.cab),.v (.int .i64 b.bed),.v (.int .i64 x.frm),.v (.int .i64 x.to),.v (.bool x.dog)]:=by
 unfold xI
 rw [hx,List.map_set]
 rfl
def Xv (sold:List Tk) (n:Nat) (b:Bunk):(xI sold n b).length=sold.length:=by simp [xI]
def Qgv (sold:List Tk) (n:Nat) (b d:Bunk) (h:n < sold.length):xI (xI sold n b) n d=xI sold n d:=by
 unfold xI
 rw [show (sold.set n ⟨(sold.getD n default).party,(sold.getD n default).sex,b.cab,b.bed,(sold.getD n default).frm,(sold.getD n default).to,(sold.getD n default).dog⟩).getD n default=⟨(sold.getD n default).party,(sold.getD n default).sex,b.cab,b.bed,(sold.getD n default).frm,(sold.getD n default).to,(sold.getD n default).dog⟩ by simp [ai,h]]
 simp
def QfV (sold:List Tk) (n:Nat) (h:n < sold.length):xI sold n (sold.getD n default).bunk=sold:=by
 unfold xI Tk.bunk
 rw [show (⟨(sold.getD n default).party,(sold.getD n default).sex,(sold.getD n default).cab,(sold.getD n default).bed,(sold.getD n default).frm,(sold.getD n default).to,(sold.getD n default).dog⟩:Tk)=sold[n] by simp [ai,h]]
 exact List.set_getElem_self h
def s1L (cs:List Cabin) (s:Int) (sold:List Tk) (was:Bunk) (n:Nat):List AObj:=[qg cs s 1,qf sold,.cells [.ptr 0 0],.cells [.v (.int .i64 was.cab),.v (.int .i64 was.bed)],.cells [aI n]]
def R7:=jv @ty3 (jv @vJ (jv @jm (jv @vS (jv @jC (jv @QM (jv @WP (jv @ti3.eq_1 (jv @yI.eq_1 (jv @wY.eq_1 (jv @yG.eq_1 (jv @je.eq_1 (jv @xW.eq_1 @QC.eq_1))))))))))))
def Qdu:=jv @aI.eq_1 (@aB.eq_1)
def Qea (cs:List Cabin) (s:Int) (sold:List Tk) (was:Bunk) (n:Nat) (hn:n < sold.length):FnD prog 143 [.ptr 3 0,.ptr 2 0,.ptr 4 0] (qb (qB 0 (s1L cs s sold was n))) (.tup []) (qb (ze 0 ((s1L cs s (xI sold n was) was n).map some))):=by
 have env:Env (fun F=>F.r=none) prog tyB (tab []):=qA trivial
 refine FnD.of (n0:=5) (Fn0 func143 rfl (fun vs w=>by kernel_rfl) (by kernel_rfl)) (by simp) (by simp [AV.ids]) ?_ ?_
 ·intro i o hi
  have h:=qG hi
  simp [qB,s1L] at h
  rcases h with ⟨rfl,rfl⟩|⟨rfl,rfl⟩|⟨rfl,rfl⟩|⟨rfl,rfl⟩|⟨rfl,rfl⟩ <;> simp [AObj.ids,AV.ids,AV.idsL,qg,qf,aI]
 obtain ⟨x,hx⟩:∃ x,sold.getD n default=x:=⟨_,rfl⟩
 have hp:=QaT sold n was hx
 have hg:=hTk hn
 rw [hx] at hg
 have i0:((n:Int)).toNat=n:=rfl
 show Sym _ _ _ (qV [.ptr 3 0,.ptr 2 0,.ptr 4 0] 5 (qb [(0,qg cs s 1),(1,qf sold),(2,.cells [.ptr 0 0]),(3,.cells [.v (.int .i64 was.cab),.v (.int .i64 was.bed)]),(4,.cells [aI n])])) (Qg9 tyB Tryz.f143 fun S rv=>Fin S rv _ 5 (qb [(0,qg cs s 1),(1,.row 88 7 ((xI sold n was).map eTk)),(2,.cells [.ptr 0 0]),(3,.cells [.v (.int .i64 was.cab),.v (.int .i64 was.bed)]),(4,.cells [aI n])]) 0)
 rw [hp]
 repeat' first|(apply nx;with_reducible constructor)|apply jq (by decide)|((first|apply jz env|apply jw);intro Q hQ;simp only [vkt,seval,R7,Qdu,eTk,qg,qf,hg,i0,hn,ite_and];(repeat' first|with_reducible assumption|apply jv|intro hp);all_goals first|(apply hQ;clear hQ Q)|(apply jx;kernel_rfl)|omega|assumption|rfl|skip)
 simp only [Qg9.eq_1]
 refine ⟨trivial, ?_⟩
 (simp only [vrt,results143,vkt,seval,Qdu,qg];refine Fin.ok some [] ?_ ?_ ?_ ?_ ?_ rfl;all_goals (try simp only [vle,vkt,seval]))
 all_goals first|rfl|simp
def JR (S:St):List AV->Option Pk
 |[.ptr w 0,.ptr q 0,.ptr m 0]=>match S.h w,S.h q,S.h m with
  |some (.cells [.v (.int .i64 a),.v (.int .i64 b)]),some (.cells [.ptr c 0]),some (.cells [.v (.int .i64 n)])=>match S.h c with
   |some (.cells [.sl cs,.v (.int .i64 s),.row r])=>match S.h r with
    |some (.row _ _ xs)=>some { pre:=cs=(cs.map qh).map qx/\xs=(xs.map dTk).map eTk/\n=(n.toNat:Int)/\n.toNat < (xs.map dTk).length,hs:=[c,r,q,w,m],ar:=[.ptr 3 0,.ptr 2 0,.ptr 4 0],L0:=s1L (cs.map qh) s (xs.map dTk) ⟨a,b⟩ n.toNat,v:=.tup [],L1:=(s1L (cs.map qh) s (xI (xs.map dTk) n.toNat ⟨a,b⟩) ⟨a,b⟩ n.toNat).map some }
    |_=>none
   |_=>none
  |_,_,_=>none
 |_=>none
def QkM {A:Frm->Prop}:yP.OK A prog (dfE 143 JR):=QgI fun S bs q h hp=>by
 unfold JR at h
 split at h
 ·split at h
  ·split at h
   ·split at h
    ·cases h
     obtain ⟨h1,h2,h3,h4⟩:=hp
     exact Qea _ _ _ _ _ h4
    ·cases h
   ·cases h
  ·cases h
 ·cases h
def Qdt (f:Bunk->Option (List Tr)):∀ l:List Bunk,∃ R,R<=l.length/\(∀ j,j+1 < R->f (l.getD j default)=none)/\(R < l.length->0 < R/\f (l.getD (R - 1) default) ≠ none)/\l.findSome? f=if R=0 then none else f (l.getD (R - 1) default)
 |[]=>⟨0,aw _,fun _ h=>absurd h (bp _),fun h=>absurd h (du _),rfl⟩
 |b :: l=>by
  cases hb:f b with
  |some t =>
   refine ⟨1,by simp,fun j h=>by omega,fun _=>⟨by omega, ?_⟩, ?_⟩
   ·show f b ≠ none
    rw [hb];simp
   ·rw [c6,hb,if_neg (by omega)]
    exact hb.symm
  |none =>
   obtain ⟨R,h1,h2,h3,h4⟩:=Qdt f l
   refine ⟨R+1,by simpa using h1,fun j hj=>?_,fun hlt=>?_, ?_⟩
   ·cases j with
    |zero=>exact hb
    |succ j=>exact h2 j (by omega)
   ·obtain ⟨g1,g2⟩:=h3 (by simpa using hlt)
    refine ⟨by omega, ?_⟩
    rw [show R+1 - 1=(R - 1)+1 by omega]
    exact g2
   ·rw [c6,hb,if_neg (by omega)]
    simp only
    rw [h4]
    by_cases hR:R=0
    ·subst hR;rw [if_pos rfl];exact hb.symm
    ·rw [if_neg hR,show R+1 - 1=(R - 1)+1 by omega];rfl
def shF (cs:List Cabin) (s:Int) (a:Ask) (r:List Int) (sold:List Tk) (k:Nat) (b:Bunk):Option (List Tr):=if b=(sold.getD k default).bunk then none else (jU cs s a r (xI sold k b)).map (⟨(k:Int),b.cab,b.bed⟩ :: ·)
def QaR (cs:List Cabin) (s:Int) (a:Ask) (r:List Int) (sold:List Tk) (k:Nat):jU cs s a ((k:Int) :: r) sold=(qZ cs).findSome? (shF cs s a r sold k):=rfl
def WO (cs:List Cabin) (sold:List Tk) (k:Nat):Nat->List Tk
 |0=>sold
 |j+1=>if (qZ cs).getD j default=(sold.getD k default).bunk then WO cs sold k j else xI sold k ((qZ cs).getD j default)
def KQ (cs:List Cabin) (sold:List Tk) (k:Nat) (h:k < sold.length):∀ j,(WO cs sold k j).length=sold.length/\∀ d,xI (WO cs sold k j) k d=xI sold k d
 |0=>⟨rfl,fun _=>rfl⟩
 |j+1=>by
  rw [WO]
  split
  ·exact KQ cs sold k h j
  ·exact ⟨Xv _ _ _,fun d=>Qgv _ _ _ _ h⟩
structure ShOk (cs:List Cabin) (s:Int) (a:Ask) (sold:List Tk) (ts:List Int):Prop where
 cabs:1<=cs.length/\cs.length<=3
 beds:∀ x ∈ cs,1<=x.beds/\x.beds<=3
 many:sold.length<=8
 sx:a.sexes.length<=3
 lenT:ts.length<=3
 ts:∀ n ∈ ts,0<=n/\n.toNat < sold.length
def ShOk.tail {cs:List Cabin} {s:Int} {a:Ask} {sold:List Tk} {n:Int} {r:List Int} (h:ShOk cs s a sold (n :: r)) (m:Nat) (b:Bunk):ShOk cs s a (xI sold m b) r:=by
 refine ⟨h.cabs,h.beds,by rw [Xv];exact h.many,h.sx,by have:=h.lenT;simp at this;omega,fun n hn=>?_⟩
 rw [Xv]
 exact h.ts n (aZ _ hn)
def VP {cs:List Cabin} {s:Int} {a:Ask}:∀ {ts:List Int} {sold:List Tk} {l:List Tr},jU cs s a ts sold=some l->l.length=ts.length
 |[],sold,l,h=>by
  unfold jU at h
  split at h
  ·cases h;rfl
  ·cases h
 |n :: r,sold,l,h=>by
  unfold jU at h
  obtain ⟨b,hb⟩:∃ b,(if b=(sold.getD n.toNat default).bunk then none else (jU cs s a r (xI sold n.toNat b)).map (⟨n,b.cab,b.bed⟩ :: ·))=some l:=by
   obtain ⟨b,_,hb⟩:=List.exists_of_findSome?_eq_some h
   exact ⟨b,hb⟩
  split at hb
  ·cases hb
  ·obtain ⟨l',hl',rfl⟩:=aG.1 hb
   rw [bi,VP hl',bi]
def Qgd (cs:List Cabin) (s:Int) (a:Ask) (m:Nat):Prop:=∀ (sold:List Tk) (ts:List Int),ts.length=m->ShOk cs s a sold ts ->
 Fn noB prog 86 [.ptr 0 0,qz ts,zl a] (qb (qB 0 (qJ cs s sold))) (.tup [yn ((jU cs s a ts sold).getD []),aB (jU cs s a ts sold).isSome]) (qb (ze 0 ((qJ cs s sold).map some))) 0
def s0L0:List (Nat × AV):=[(6,.ptr 5 0),(7,.ptr 6 0),(24,.clo 140 [.ptr 7 0,.ptr 8 0])]
def s0L:List (Nat × AV):=[(6,.ptr 5 0),(7,.ptr 6 0)]
def s0H (k:Nat):List (Nat × AObj):=[(5,.cells [.nil]),(6,.cells [aB (decide (0 < k))])]
def VU (c:Chart) (a:Ask):qU [0,1,7,8] 10 0 (plL c a)=[(0,qg c.cabins c.secs 1),(1,qf c.sold),(7,.cells [.ptr 0 0]),(8,.cells (qo a))]:=by
 simp [qU,plL,qj,AObj.ren,AV.renL,AV.ren,qg,qf,qo]
def Rq (c:Chart) (a:Ask) (j:Nat):qU [0] 10 0 (plH c a j)=[(0,qg c.cabins c.secs 10),(10,qf ((plP c a).getD j default).2)]:=by
 simp [qU,plH,qJ,qj,AObj.ren,AV.renL,AV.ren,qg,qf]
def jK:=jv @ty3 (jv @ty4 (jv @vJ (jv @jm (jv @Jj (jv @Qa (jv @Jp (jv @QfO (jv @vS (jv @QfJ (jv @jC (jv @QM (jv @WP (jv @ti3.eq_1 (jv @ti4.eq_1 (jv @yI.eq_1 (jv @wY.eq_1 (jv @ZE.eq_1 (jv @xQ.eq_1 (jv @ZG.eq_1 (jv @RV.eq_1 (jv @yG.eq_1 (jv @K4.eq_1 (jv @je.eq_1 (jv @xW.eq_1 @QC.eq_1))))))))))))))))))))))))
def xz:=jv @aI.eq_1 (jv @aB.eq_1 (jv @qz.eq_1 (@Ju)))
def QbC (cs:List Cabin) (s:Int) (a:Ask):Qgd cs s a 0:=by
 intro sold ts ht ok
 obtain rfl:=bu ht
 have env:Env (fun F=>F.r=none) prog tyB (tab [(41,zw true yT),(78,fnE yB)]):=qA ⟨YF,Vf,trivial⟩
 refine Fn.of (A:=fun F=>F.r=none) (n0:=2) (D:=noD) (Fn0 func86 rfl (fun vs w=>by kernel_rfl) (by kernel_rfl)) (by simp) (by simp [AV.ids,AV.idsL,qz,zl,qo]) vZ (fun _ _ _ h=>h) qX ?_
 obtain ⟨c,hc⟩:∃ c:Chart,(⟨cs,s,sold⟩:Chart)=c:=⟨_,rfl⟩
 have e1:cs=c.cabins:=by rw [<- hc]
 have e2:s=c.secs:=by rw [<- hc]
 have e3:sold=c.sold:=by rw [<- hc]
 have hcm:c.cabins.length<=maxLen:=by
  have h1:=ok.cabs
  have h2:(3:Nat)<=maxLen:=by decide
  rw [<- e1];omega
 show Sym _ _ _ (qV [.ptr 0 0,qz [],zl a] 2 (qb [(0,qg cs s 1),(1,qf sold)])) (yc tyB noD Tryz.f86 fun S rv=>Fin S rv (.tup [yn ((if zt ⟨cs,s,sold⟩=0/\plP ⟨cs,s,sold⟩ a ≠ [] then some [] else none:Option (List Tr)).getD []),aB (if zt ⟨cs,s,sold⟩=0/\plP ⟨cs,s,sold⟩ a ≠ [] then some [] else none:Option (List Tr)).isSome]) 2 (qb [(0,qg cs s 1),(1,qf sold)]) 0)
 rw [e1,e2,e3] at hc ⊢
 rw [hc]
 by_cases h0:zt c=0
 ·have hpo:PlOk c a:=⟨Ze h0,ok.sx⟩
  repeat' first|(apply nx;with_reducible constructor)|apply jq (by decide)|refine zR ?_|refine wJ ?_|refine wI ?_|refine wH ?_|((first|apply jz env|apply jw);intro Q hQ;simp only [vkt,seval,jK,xz,zl,qo,qC,mTk,qg,qf,qJ,plL,yT,yB,hwL,hc,h0,decide_true,ite_and];(repeat' first|with_reducible assumption|apply jv|intro hp);all_goals first|(apply hQ;clear hQ Q)|(apply jx;kernel_rfl)|omega|assumption|rfl|skip)
  refine ve (S':={ t:=asg s0L0,h:=qb (s0H 0++[(0,qg c.cabins c.secs 1),(1,qf c.sold),(7,.cells [.ptr 0 0]),(8,.cells (qo a))]),n:=9,j:=0,d:=[],m:=2 }) ?_ ?_
  ·show Le _ { t:=asg [(6,.ptr 5 0),(7,.ptr 6 0),(24,.clo 140 [.ptr 7 0,.ptr 8 0])],h:=qb [(5,.cells [.nil]),(6,.cells [aB false]),(0,qg c.cabins c.secs 1),(1,qf c.sold),(7,.cells [.ptr 0 0]),(8,.cells (qo a))],n:=9,j:=0,d:=[],m:=2 }
   (refine Le.ok some [] ?_;constructor;all_goals (try simp only [vle,vkt,seval,xz,qo,qg,qf]))
   all_goals first|rfl|(simp [qo,AV.leL,AV.le,AV.idsL,AV.ids];done)
  rw [<- VU c a]
  obtain ⟨N,hN⟩:∃ N,(plP c a).length=N:=⟨_,rfl⟩
  obtain ⟨R,hR⟩:∃ R,(if N=0 then 0 else 1)=R:=⟨_,rfl⟩
  have hRo:Rounds (fun _=>false) R N:=by
   by_cases hN0:N=0
   ·rw [if_pos hN0] at hR
    exact ⟨by omega,fun j hj=>by omega,fun h=>by omega⟩
   ·rw [if_neg hN0] at hR
    exact ⟨by omega,fun j hj=>by omega,fun h=>⟨by omega,rfl⟩⟩
  have hR1:∀ j,j < R->j=0/\R=1:=fun j hj=>by
   by_cases hN0:N=0
   ·rw [if_pos hN0] at hR;omega
   ·rw [if_neg hN0] at hR;omega
  refine vw (fun F h=>h) 1 (L:=s0L0) (L':=s0L) (xs:=[1,7,8]) (hs:=[0,1,7,8]) (n:=9) (nl:=1) (hc:=s0H) (Lp:=plL c a) (jj:=fun _=>0) (d:=[]) (ys:=plY c a) (hl:=plH c a) (ans:=fun _=>false) (ex:=.ret) (caps:=[.ptr 7 0,.ptr 8 0]) (caps0:=[.ptr 2 0,.ptr 3 0]) (N:=(plP c a).length) (R:=R) (A':=fun _ _=>True) rfl (Wz hpo) (by rw [hN];exact hRo) (.inl rfl) ?_ ?_ ?_ rfl (by simp) ?_ (by simp) (fun _ _ _ _ _ _=>trivial) ?_ ?_ ?_ ?_ ?_ ?_ (fun j hj=>?_) ?_ (fun j hj=>?_) (fun hall=>?_) (fun hpos _=>?_)
  ·simp [AV.leL,AV.le]
  ·simp [AV.nocbL,AV.nocb]
  ·simp [WS,plL,qg,qf,qo,AObj.nocb,AV.nocbL,AV.nocb,AObj.ids,AV.ids,AV.idsL,AObj.ren,AV.renL,AV.ren,AObj.le,AV.leL,AV.le,qj]
  ·simp [s0H,qb]
  ·simp [s0H,qb]
  ·simp [s0H,AObj.ids,AV.ids,AV.idsL,aB]
  ·simp [QaA,s0L,s0L0,asg]
  ·simp [QbF]
  ·intro j hj
   simp [absent,s0H,Rq]
  ·simp [Yw,s0L,AV.ids]
  ·refine ⟨?_,rfl, ?_, ?_,rfl, ?_⟩
   ·simp [kZ,s0H,AObj.ids,AV.ids,AV.idsL,aB]
   ·simp [ZZ,plH,qJ,qg,qf,AObj.nocb,AV.nocbL,AV.nocb,AObj.ids,AV.ids,AV.idsL]
   ·simp [V8,plY,qc,AV.nocb,AV.ids]
   ·simp [kX,WT,Rq,s0H,s0L,vW,AV.ids,ADf.ids,bC]
  ·simp [kZ,s0H,AObj.ids,AV.ids,AV.idsL,aB]
  ·obtain ⟨rfl,hR1⟩:=hR1 j hj
   have env:Env (fun _:Frm=>True) prog tyB (tab []):=qA trivial
   obtain ⟨x,hx⟩:∃ x,((plP c a).getD 0 default).1=x:=⟨_,rfl⟩
   obtain ⟨r,hr⟩:∃ r,((plP c a).getD 0 default).2=r:=⟨_,rfl⟩
   have hst:wV s0L [25] [0] 9 1 (plY c a 0) (s0H 0) (plH c a 0)={ t:=asg [(25,qc x),(6,.ptr 5 0),(7,.ptr 6 0)],h:=qb [(9,.mark),(5,.cells [.nil]),(6,.cells [aB false]),(0,qg c.cabins c.secs 10),(10,qf r)],n:=11,m:=11 }:=by
    simp only [wV,Nat.reduceAdd,Rq,plY,hx,hr,qc,aj,au,AV.ren,cn,cz,s0H,s0L,QE,aQ,aF]
    rfl
   show Sym _ _ _ (wV s0L [25] [0] 9 1 (plY c a 0) (s0H 0) (plH c a 0)) _
   rw [hst]
   repeat' first|(apply nx;with_reducible constructor)|apply jq (by decide)|refine zR ?_|refine wJ ?_|refine wI ?_|refine wH ?_|((first|apply jz env|apply jw);intro Q hQ;simp only [vkt,seval,jK,xz,qg,qf,ite_and];(repeat' first|with_reducible assumption|apply jv|intro hp);all_goals first|(apply hQ;clear hQ Q)|(apply jx;kernel_rfl)|omega|assumption|rfl|skip)
   refine ⟨rfl,rfl,some,_,RFin.okQ some [] ?_⟩
   constructor
   all_goals (try simp only [vle,vO,vC,qj,plH,hr,vkt,seval,xz,qg,qf,qJ,s0L,s0H])
   all_goals first|rfl|simp
  ·have hR0:R=0:=by
    by_cases h:R=0
    ·exact h
    ·exact absurd (hall 0 (by omega)) (by simp)
   have hN0:N=0:=by
    by_cases h:N=0
    ·exact h
    ·rw [if_neg h] at hR;omega
   have hpe:plP c a=[]:=bu (by rw [hN];exact hN0)
   have eh:qb ((9,AObj.mark) :: s0H R++qU [0,1,7,8] (9+1) 0 (plL c a))=qb [(9,.mark),(5,.cells [.nil]),(6,.cells [aB false]),(0,qg c.cabins c.secs 1),(1,qf c.sold),(7,.cells [.ptr 0 0]),(8,.cells (qo a))]:=by
    rw [show qU [0,1,7,8] (9+1) 0 (plL c a)=qU [0,1,7,8] 10 0 (plL c a) from rfl,VU,hR0];rfl
   rw [eh,if_neg (by simp [hpe])]
   repeat' first|(apply nx;with_reducible constructor)|apply jq (by decide)|refine zR ?_|refine wJ ?_|refine wI ?_|refine wH ?_|((first|apply jz env|apply jw);intro Q hQ;simp only [vkt,seval,jK,xz,qo,qg,qf,s0L,ite_and];(repeat' first|with_reducible assumption|apply jv|intro hp);all_goals first|(apply hQ;clear hQ Q)|(apply jx;kernel_rfl)|omega|assumption|rfl|skip)
   (simp only [vrt,results86,vkt,seval,jK,xz,yn,qg,qf];refine Fin.ok some [] ?_ ?_ ?_ ?_ ?_ rfl;all_goals (try simp only [vle,vkt,seval]))
   all_goals first|rfl|(simp [];done)|exact fun i hi=>(match i,hi with|0,_=>rfl|1,_=>rfl)
  ·have hRe:=(hR1 0 hpos).2
   have hN0:¬ N=0:=fun h=>by rw [if_pos h] at hR;omega
   have hpe:plP c a ≠ []:=fun h=>by rw [h] at hN;exact hN0 hN.symm
   have eh:qb ((9,AObj.mark) :: s0H R++qU [0,1,7,8] (9+1) 0 (plL c a))=qb [(9,.mark),(5,.cells [.nil]),(6,.cells [aB true]),(0,qg c.cabins c.secs 1),(1,qf c.sold),(7,.cells [.ptr 0 0]),(8,.cells (qo a))]:=by
    rw [show qU [0,1,7,8] (9+1) 0 (plL c a)=qU [0,1,7,8] 10 0 (plL c a) from rfl,VU,hRe];rfl
   rw [eh,if_pos ⟨h0,hpe⟩]
   repeat' first|(apply nx;with_reducible constructor)|apply jq (by decide)|refine zR ?_|refine wJ ?_|refine wI ?_|refine wH ?_|((first|apply jz env|apply jw);intro Q hQ;simp only [vkt,seval,jK,xz,yn,zl,qo,qC,mTk,qg,qf,qJ,plL,s0L,s0H,yT,yB,ao,au,nth,hwL,bf,aO,ite_and];(repeat' first|with_reducible assumption|apply jv|intro hp);all_goals first|(apply hQ;clear hQ Q)|(apply jx;kernel_rfl)|omega|assumption|rfl|skip)
   (simp only [vrt,results86,vkt,seval,jK,xz,yn,qo,qg,qf,s0L];refine Fin.ok some [] ?_ ?_ ?_ ?_ ?_ rfl;all_goals (try simp only [vle,vkt,seval]))
   all_goals first|rfl|(simp [qo,AV.leL,AV.le];done)|exact fun i hi=>(match i,hi with|0,_=>rfl|1,_=>rfl)
 ·rw [if_neg (fun h=>h0 h.1)]
  repeat' first|(apply nx;with_reducible constructor)|apply jq (by decide)|refine zR ?_|refine wJ ?_|refine wI ?_|refine wH ?_|((first|apply jz env|apply jw);intro Q hQ;simp only [vkt,seval,jK,xz,zl,qo,qC,mTk,qg,qf,yT,hc,h0,decide_true,ite_and];(repeat' first|with_reducible assumption|apply jv|intro hp);all_goals first|(apply hQ;clear hQ Q)|(apply jx;kernel_rfl)|omega|assumption|rfl|skip)
  (simp only [vrt,results86,vkt,seval,jK,xz,yn,qg,qf];refine Fin.ok some [] ?_ ?_ ?_ ?_ ?_ rfl;all_goals (try simp only [vle,vkt,seval]))
  all_goals first|rfl|(simp [];done)
def Vz (cs:List Cabin) (s:Int) (a:Ask) (m:Nat) (S:St):List AV->Option Pk
 |[.ptr p 0,.sl ts,.agg aa]=>match S.h p with
  |some (.cells [.sl cc,.v (.int .i64 s'),.row r])=>match S.h r with
   |some (.row _ _ xs)=>some { pre:=cc=cs.map qx/\s'=s/\aa=qo a/\ts=(ts.map zI).map zL/\xs=(xs.map dTk).map eTk/\(ts.map zI).length=m/\ShOk cs s a (xs.map dTk) (ts.map zI),hs:=[p,r],ar:=[.ptr 0 0,.sl ts,.agg aa],L0:=qJ cs s (xs.map dTk),v:=.tup [yn ((jU cs s a (ts.map zI) (xs.map dTk)).getD []),aB (jU cs s a (ts.map zI) (xs.map dTk)).isSome],L1:=(qJ cs s (xs.map dTk)).map some }
   |_=>none
  |_=>none
 |_=>none
def QmU {A:Frm->Prop} {cs:List Cabin} {s:Int} {a:Ask} {m:Nat} (ih:Qgd cs s a m):qm A prog 86 (fnE (Vz cs s a m)):=zJ fun S bs q h hp=>by
 unfold Vz at h
 split at h
 ·split at h
  ·split at h
   ·cases h
    obtain ⟨_,_,h3,h4,_,h6,h7⟩:=hp
    have:=ih _ _ h6 h7
    rw [qz,<- h4,zl,<- h3] at this
    exact this
   ·cases h
  ·cases h
 ·cases h
def shT:List (Nat × AV):=[(3,.ptr 2 0),(4,.ptr 3 0),(5,.ptr 4 0),(6,.ptr 5 0),(7,.ptr 6 0),(8,.ptr 7 0),(9,.ptr 8 0)]
def shT0:List (Nat × AV):=shT++[(43,.clo 181 [.ptr 9 0])]
def WL (cs:List Cabin) (s:Int) (a:Ask) (r:List Int) (sold:List Tk) (k j:Nat):Option (List Tr):=if j=0 then none else shF cs s a r sold k ((qZ cs).getD (j - 1) default)
def shH (cs:List Cabin) (s:Int) (a:Ask) (ts:List Int) (k:Nat) (was:Bunk) (T:List Tk) (o:Option (List Tr)):List (Nat × AObj):=[(0,qg cs s 1),(1,qf T),(2,.cells [.ptr 0 0]),(3,.cells [.sl (ts.map zL)]),(4,.cells (qo a)),(5,.cells [.sl ((o.getD []).map eTr)]),(6,.cells [aB o.isSome]),(7,.cells [aI k]),(8,.cells [.v (.int .i64 was.cab),.v (.int .i64 was.bed)])]
def Vj (cs:List Cabin) (s:Int):qU [9] 11 0 [buO cs s]=[(9,buO cs s)]:=by
 simp [qU,qj,buO,AObj.ren,AV.renL,AV.ren]
def wG:=jv @ty3 (jv @ty4 (jv @vJ (jv @jm (jv @Jj (jv @Qa (jv @Jp (jv @QfO (jv @vS (jv @QfJ (jv @jC (jv @QM (jv @WP (jv @ti3.eq_1 (jv @ti4.eq_1 (jv @yI.eq_1 (jv @wY.eq_1 (jv @ZE.eq_1 (jv @xQ.eq_1 (jv @ZG.eq_1 (jv @RV.eq_1 (jv @yG.eq_1 (jv @K4.eq_1 (jv @je.eq_1 (jv @xW.eq_1 @QC.eq_1))))))))))))))))))))))))
def vR:=jv @aI.eq_1 (jv @aB.eq_1 (jv @qz.eq_1 (jv @Ju (jv @QiJ (@zL.eq_1)))))
def QcD (cs:List Cabin) (s:Int) (a:Ask) (m:Nat) (ih:Qgd cs s a m):Qgd cs s a (m+1):=by
 intro sold ts ht ok
 have env:Env (fun F=>F.r=none) prog tyB (tab [(144,fnE Jb)]):=qA ⟨Qdx,trivial⟩
 refine Fn.of (A:=fun F=>F.r=none) (n0:=2) (D:=dfE 143 JR) (Fn0 func86 rfl (fun vs w=>by kernel_rfl) (by kernel_rfl)) (by simp) (by simp [AV.ids,AV.idsL,qz,zl,qo]) vZ (fun _ _ _ h=>h) QkM ?_
 obtain ⟨n,r,rfl⟩:∃ n r,ts=n :: r:=by
  cases ts with
  |nil=>simp at ht
  |cons n r=>exact ⟨n,r,rfl⟩
 obtain ⟨hn0,hnl⟩:=ok.ts n ba
 obtain ⟨k,rfl⟩:∃ k:Nat,n=k:=⟨n.toNat,by omega⟩
 have hnl:k < sold.length:=hnl
 have hrl:r.length=m:=by simpa using ht
 rw [QaR]
 obtain ⟨ts,hts⟩:∃ ts,(k:Int) :: r=ts:=⟨_,rfl⟩
 have hl1:ts.length=m+1:=by rw [<- hts];exact ht
 have hg0:(ts.map zL).getD 0 [.v (.int .i64 0)]=[.v (.int .i64 (k:Int))]:=by rw [<- hts];rfl
 have hdr:List.drop 1 (List.take (m+1) (ts.map zL))=r.map zL:=by
  rw [bF (by rw [ao,hl1];exact aw _),<- hts];rfl
 rw [hts]
 obtain ⟨x,hx⟩:∃ x,sold.getD k default=x:=⟨_,rfl⟩
 have hg:=hTk hnl
 rw [hx] at hg
 have i0:((k:Int)).toNat=k:=rfl
 have d0:decide ((((m+1:Nat)):Int)=0)=false:=decide_eq_false (by omega)
 obtain ⟨w,hw⟩:∃ w:Bunk,x.bunk=w:=⟨_,rfl⟩
 have hwc:x.cab=w.cab:=by rw [<- hw];rfl
 have hwb:x.bed=w.bed:=by rw [<- hw];rfl
 have hsw:(sold.getD k default).bunk=w:=by rw [hx];exact hw
 have hfb:∀ b,shF cs s a r sold k b=if b=w then none else (jU cs s a r (xI sold k b)).map (⟨(k:Int),b.cab,b.bed⟩ :: ·):=fun b=>by unfold shF;rw [hsw]
 have hcS:∀ j,WO cs sold k (j+1)=if (qZ cs).getD j default=w then WO cs sold k j else xI sold k ((qZ cs).getD j default):=fun j=>by rw [WO,hsw]
 have hcs:=KQ cs sold k hnl
 have hself:xI sold k w=sold:=by rw [<- hsw];exact QfV _ _ hnl
 obtain ⟨f,hf⟩:∃ f,shF cs s a r sold k=f:=⟨_,rfl⟩
 obtain ⟨R,hR1,hR2,hR3,hR4⟩:=Qdt f (qZ cs)
 have hRo:Rounds (fun j=>(f ((qZ cs).getD j default)).isNone) R (qZ cs).length:=⟨hR1,fun j hj=>by show Option.isNone _=true;rw [hR2 j hj];rfl,fun h=>⟨(hR3 h).1,by
  have:=(hR3 h).2
  show Option.isNone _=false
  cases hq:f ((qZ cs).getD (R - 1) default) with
  |none=>exact absurd hq this
  |some _=>rfl⟩⟩
 have hout:∀ j,WL cs s a r sold k (j+1)=f ((qZ cs).getD j default):=fun j=>by unfold WL;rw [if_neg (by omega),hf];rfl
 have houtN:∀ j,j < R->WL cs s a r sold k j=none:=fun j hj=>by
  cases j with
  |zero=>rfl
  |succ j=>rw [hout];exact hR2 j hj
 have hres:(qZ cs).findSome? f=WL cs s a r sold k R:=by
  rw [hR4]
  unfold WL
  rw [hf]
 have hcab:CabsOk cs:=⟨by have:=ok.cabs;omega,fun y hy=>by have:=ok.beds y hy;omega⟩
 have hm7:=ok.lenT
 rw [hts,hl1] at hm7
 have h1m:(1:Int)<=((m+1:Nat):Int):=by omega
 have hmx:(100:Nat)<=maxLen:=by decide
 rw [hf,hres]
 show Sym _ _ _ (qV [.ptr 0 0,qz ts,zl a] 2 (qb [(0,qg cs s 1),(1,qf sold)])) (yc tyB _ Tryz.f86 fun S rv=>Fin S rv _ 2 (qb [(0,qg cs s 1),(1,qf sold)]) 0)
 repeat' first|(apply nx;with_reducible constructor)|apply jq (by decide)|refine zR ?_|refine wJ ?_|refine wI ?_|refine wH ?_
 ((first|apply jz env|apply jw);intro Q hQ;simp only [vkt,seval,wG,vR,zl,qo,qg,qf,ite_and];(repeat' first|with_reducible assumption|apply jv|intro hp);all_goals first|(apply hQ;clear hQ Q)|(apply jx;kernel_rfl)|omega|assumption|rfl|skip)
 repeat' first|(apply nx;with_reducible constructor)|apply jq (by decide)|refine zR ?_|refine wJ ?_|refine wI ?_|refine wH ?_
 ((first|apply jz env|apply jw);intro Q hQ;simp only [vkt,seval,wG,hl1,d0,ite_and];(repeat' first|with_reducible assumption|apply jv|intro hp);all_goals first|(apply hQ;clear hQ Q)|(apply jx;kernel_rfl)|omega|assumption|rfl|skip)
 repeat' first|(apply nx;with_reducible constructor)|apply jq (by decide)|refine zR ?_|refine wJ ?_|refine wI ?_|refine wH ?_
 ((first|apply jz env|apply jw);intro Q hQ;simp only [vkt,seval,ite_and];(repeat' first|with_reducible assumption|apply jv|intro hp);all_goals first|(apply hQ;clear hQ Q)|(apply jx;kernel_rfl)|omega|assumption|rfl|skip)
 repeat' first|(apply nx;with_reducible constructor)|apply jq (by decide)|refine zR ?_|refine wJ ?_|refine wI ?_|refine wH ?_
 ((first|apply jz env|apply jw);intro Q hQ;simp only [vkt,seval,wG,hg0,ite_and];(repeat' first|with_reducible assumption|apply jv|intro hp);all_goals first|(apply hQ;clear hQ Q)|(apply jx;kernel_rfl)|omega|assumption|rfl|skip)
 repeat' first|(apply nx;with_reducible constructor)|apply jq (by decide)|refine zR ?_|refine wJ ?_|refine wI ?_|refine wH ?_
 ((first|apply jz env|apply jw);intro Q hQ;simp only [vkt,seval,wG,eTk,hg,i0,hnl,ite_and];(repeat' first|with_reducible assumption|apply jv|intro hp);all_goals first|(apply hQ;clear hQ Q)|(apply jx;kernel_rfl)|omega|assumption|rfl|skip)
 repeat' first|(apply nx;with_reducible constructor)|apply jq (by decide)|refine zR ?_|refine wJ ?_|refine wI ?_|refine wH ?_
 refine VK (fun F h=>h) env rfl rfl rfl fun Q hQ=>?_
 simp only [List.dropLast]
 simp only [vkt,seval]
 refine hQ _ _ _ (by simp only [vkt,seval];rfl) ?_
 clear hQ Q
 dsimp only [put]
 repeat' first|(apply nx;with_reducible constructor)|apply jq (by decide)|refine zR ?_|refine wJ ?_|refine wI ?_|refine wH ?_|((first|apply jz env|apply jw);intro Q hQ;simp only [vkt,seval,wG,qC,Jb,hwL,aO,ite_and];(repeat' first|with_reducible assumption|apply jv|intro hp);all_goals first|(apply hQ;clear hQ Q)|(apply jx;kernel_rfl)|omega|assumption|rfl|skip)
 refine ve (S':={ t:=asg shT0,h:=qb (shH cs s a ts k w (WO cs sold k 0) (WL cs s a r sold k 0)++[(9,buO cs s)]),n:=10,j:=0,d:=[.call 143 [.ptr 8 0,.ptr 2 0,.ptr 7 0]],m:=2 }) ?_ ?_
 ·show Le _ { t:=asg [(3,.ptr 2 0),(4,.ptr 3 0),(5,.ptr 4 0),(6,.ptr 5 0),(7,.ptr 6 0),(8,.ptr 7 0),(9,.ptr 8 0),(43,.clo 181 [.ptr 9 0])],h:=qb [(0,qg cs s 1),(1,qf sold),(2,.cells [.ptr 0 0]),(3,.cells [.sl (ts.map zL)]),(4,.cells (qo a)),(5,.cells [.sl []]),(6,.cells [aB false]),(7,.cells [aI k]),(8,.cells [.v (.int .i64 w.cab),.v (.int .i64 w.bed)]),(9,buO cs s)],n:=10,j:=0,d:=[.call 143 [.ptr 8 0,.ptr 2 0,.ptr 7 0]],m:=2 }
  rw [<- hwc,<- hwb]
  (refine Le.ok some [] ?_;constructor;all_goals (try simp only [vle,vkt,seval,vR,qo,qg,qf,buO]))
  all_goals first|rfl|(simp [ADf.le,ADf.ids,AV.leL,AV.le,AV.idsL,AV.ids];done)
 rw [<- Vj cs s]
 refine vw (fun F h=>h) 1 (L:=shT0) (L':=shT) (xs:=[]) (hs:=[9]) (n:=10) (nl:=0) (hc:=fun j=>shH cs s a ts k w (WO cs sold k j) (WL cs s a r sold k j)) (Lp:=[buO cs s]) (jj:=fun _=>0) (d:=[.call 143 [.ptr 8 0,.ptr 2 0,.ptr 7 0]]) (ys:=buY cs) (hl:=fun _=>[buO cs s]) (ans:=fun j=>(f ((qZ cs).getD j default)).isNone) (ex:=.ret) (caps:=[.ptr 9 0]) (caps0:=[.ptr 0 0]) (N:=(qZ cs).length) (R:=R) (A':=fun _ _=>True) rfl (Qas cs s hcab) hRo (.inl rfl) ?_ ?_ ?_ rfl (by simp) ?_ (by simp) (fun _ _ _ _ _ _=>trivial) ?_ ?_ ?_ ?_ ?_ ?_ (fun j hj=>?_) ?_ (fun j hj=>?_) (fun hall=>?_) (fun hpos hlast=>?_)
 ·simp [AV.leL,AV.le]
 ·simp [AV.nocbL,AV.nocb]
 ·simp [WS,buO,AObj.nocb,AV.nocbL,AV.nocb,AObj.ids,AV.ids,AV.idsL,AObj.ren,AV.renL,AV.ren,AObj.le,AV.leL,AV.le,jh]
 ·simp [shH,qb]
 ·simp [shH,qb]
 ·exact fun _ _ _ _ h=>h
 ·simp [QaA,shT,shT0,asg]
 ·simp [QbF]
 ·intro j hj
  simp [absent]
 ·simp [Yw,shT,AV.ids]
 ·refine ⟨?_,rfl, ?_, ?_,rfl, ?_⟩
  ·simp [kZ,shH,AObj.ids,AV.ids,AV.idsL,qg,qf,qo,aB,aI]
  ·simp [ZZ,buO,AObj.nocb,AV.nocbL,AV.nocb,AObj.ids,AV.ids,AV.idsL]
  ·simp [V8,buY,qw,AV.nocb,AV.nocbL,AV.ids,AV.idsL]
  ·simp [kX,WT,qU,qj,shH,shT,vW,AV.ids,AV.idsL,ADf.ids,bC]
 ·simp [kZ,shH,AObj.ids,AV.ids,AV.idsL,qg,qf,qo,aB,aI]
 ·have env:Env (fun _:Frm=>True) prog tyB (tab [(86,fnE (Vz cs s a m))]):=qA ⟨QmU ih,trivial⟩
  obtain ⟨b,hb⟩:∃ b,(qZ cs).getD j default=b:=⟨_,rfl⟩
  obtain ⟨T,hT⟩:∃ T,WO cs sold k j=T:=⟨_,rfl⟩
  have hTs:=hcs j
  rw [hT] at hTs
  have hcS:=hcS j
  rw [hb,hT] at hcS
  have hoS:=hout j
  rw [hb] at hoS
  have hfb:=hfb b
  rw [hf] at hfb
  have hst:wV shT [44] [9] 10 0 (buY cs j) (shH cs s a ts k w (WO cs sold k j) (WL cs s a r sold k j)) [buO cs s]={ t:=asg [(44,qw b),(3,.ptr 2 0),(4,.ptr 3 0),(5,.ptr 4 0),(6,.ptr 5 0),(7,.ptr 6 0),(8,.ptr 7 0),(9,.ptr 8 0)],h:=qb [(10,.mark),(0,qg cs s 1),(1,qf T),(2,.cells [.ptr 0 0]),(3,.cells [.sl (ts.map zL)]),(4,.cells (qo a)),(5,.cells [.sl []]),(6,.cells [aB false]),(7,.cells [aI k]),(8,.cells [.v (.int .i64 w.cab),.v (.int .i64 w.bed)]),(9,buO cs s)],n:=11,m:=11 }:=by
   simp only [wV,Nat.reduceAdd,buY,hb,hT,houtN j hj,Vj,qw,aj,au,AV.ren,AV.renL,cn,cz,shH,shT,QE,aQ,aF]
   rfl
  show Sym _ _ _ (wV shT [44] [9] 10 0 (buY cs j) (shH cs s a ts k w (WO cs sold k j) (WL cs s a r sold k j)) [buO cs s]) _
  rw [hst]
  by_cases hbw:b=w
  ·rw [if_pos hbw] at hcS hfb
   have hba:(f ((qZ cs).getD j default)).isNone=true:=by rw [hb,hfb];rfl
   rw [hfb] at hoS
   rw [hbw]
   repeat' first|(apply nx;with_reducible constructor)|apply jq (by decide)|refine zR ?_|refine wJ ?_|refine wI ?_|refine wH ?_|((first|apply jz env|apply jw);intro Q hQ;simp only [vkt,seval,wG,vR,qw,qo,qg,qf,buO,decide_true,ite_and];(repeat' first|with_reducible assumption|apply jv|intro hp);all_goals first|(apply hQ;clear hQ Q)|(apply jx;kernel_rfl)|omega|assumption|rfl|skip)
   refine ⟨by simp only [hba];rfl,rfl,some,_,RFin.okQ some [] ?_⟩
   constructor
   all_goals (try simp only [vle,vO,vC,qj,hcS,hoS,bG,bD,vkt,seval,vR,qo,qg,qf,buO,shT,shH])
   all_goals first|rfl|(simp;done)|(simp [qo,AV.leL,AV.le];done)
  ·rw [if_neg hbw] at hcS hfb
   have hne:(decide (b.cab=w.cab) && decide (b.bed=w.bed))=false:=by
    cases b;cases w
    simp at hbw ⊢
    exact hbw
   obtain ⟨y,hy⟩:∃ y,T.getD k default=y:=⟨_,rfl⟩
   have hkT:k < T.length:=by rw [hTs.1];exact hnl
   have hgT:=hTk hkT
   rw [hy] at hgT
   have hset:=QaT T k b hy
   rw [hTs.2] at hset
   obtain ⟨U,hU⟩:∃ U,xI sold k b=U:=⟨_,rfl⟩
   have hok:ShOk cs s a U r:=by
    have h:=ok.tail k b
    rwa [hU] at h
   rw [hU] at hset hcS hfb
   have hset:=hset.symm
   cases hsh:jU cs s a r U with
   |none =>
    rw [hsh,bX] at hfb
    have hba:(f ((qZ cs).getD j default)).isNone=true:=by rw [hb,hfb];rfl
    rw [hfb] at hoS
    repeat' first|(apply nx;with_reducible constructor)|apply jq (by decide)|refine zR ?_|refine wJ ?_|refine wI ?_|refine wH ?_|((first|apply jz env|apply jw);intro Q hQ;simp only [vkt,seval,wG,vR,qw,yn,eTk,qo,mTk,qg,qf,qJ,buO,Vz,hwL,hne,hgT,i0,hkT,hset,hl1,hdr,h1m,hrl,hok,hsh,bG,bD,ite_and];(repeat' first|with_reducible assumption|apply jv|intro hp);all_goals first|(apply hQ;clear hQ Q)|(apply jx;kernel_rfl)|omega|assumption|rfl|skip)
    refine ⟨by simp only [hba];rfl,rfl,some,_,RFin.okQ some [] ?_⟩
    constructor
    all_goals (try simp only [vle,vO,vC,qj,hcS,hoS,bG,bD,vkt,seval,vR,qo,qg,qf,buO,shT,shH])
    all_goals first|rfl|(simp;done)|(simp [qo,AV.leL,AV.le];done)
   |some l =>
    have hll:=VP hsh
    rw [hrl] at hll
    have hl2:1+l.length<=maxLen:=by omega
    rw [hsh,bP] at hfb
    have hba:(f ((qZ cs).getD j default)).isNone=false:=by rw [hb,hfb];rfl
    rw [hfb] at hoS
    repeat' first|(apply nx;with_reducible constructor)|apply jq (by decide)|refine zR ?_|refine wJ ?_|refine wI ?_|refine wH ?_|((first|apply jz env|apply jw);intro Q hQ;simp only [vkt,seval,wG,vR,qw,yn,eTk,qo,mTk,qg,qf,qJ,buO,Vz,rTr,hwL,hne,hgT,i0,hkT,hset,hl1,hdr,h1m,hrl,hok,hsh,hl2,ite_and];(repeat' first|with_reducible assumption|apply jv|intro hp);all_goals first|(apply hQ;clear hQ Q)|(apply jx;kernel_rfl)|omega|assumption|rfl|skip)
    refine ⟨by simp only [hba];rfl,rfl,some,_,RFin.okQ some [13] ?_⟩
    constructor
    all_goals (try simp only [vle,vO,vC,qj,hcS,hoS,c8,Option.isSome_some,vkt,seval,vR,eTr,qo,qg,qf,buO,shT,shH])
    all_goals first|rfl|(simp;done)|(simp [qo,AV.leL,AV.le];done)
 ·have hoR:WL cs s a r sold k R=none:=by
   by_cases hR0:R=0
   ·unfold WL;rw [if_pos hR0]
   ·have h1:=hall (R - 1) (by omega)
    unfold WL
    rw [if_neg hR0,hf]
    simpa using h1
  obtain ⟨T,hT⟩:∃ T,WO cs sold k R=T:=⟨_,rfl⟩
  have hTs:=hcs R
  rw [hT] at hTs
  have hkT:k < T.length:=by rw [hTs.1];exact hnl
  have hput:xI T k ⟨w.cab,w.bed⟩=sold:=by rw [hTs.2];exact hself
  have eh:qb ((10,AObj.mark) :: shH cs s a ts k w (WO cs sold k R) (WL cs s a r sold k R)++qU [9] (10+1) 0 [buO cs s])=qb [(10,.mark),(0,qg cs s 1),(1,qf T),(2,.cells [.ptr 0 0]),(3,.cells [.sl (ts.map zL)]),(4,.cells (qo a)),(5,.cells [.sl []]),(6,.cells [aB false]),(7,.cells [aI k]),(8,.cells [.v (.int .i64 w.cab),.v (.int .i64 w.bed)]),(9,buO cs s)]:=by
   rw [show qU [9] (10+1) 0 [buO cs s]=qU [9] 11 0 [buO cs s] from rfl,Vj,hT,hoR];rfl
  rw [eh,hoR]
  repeat' first|(apply nx;with_reducible constructor)|apply jq (by decide)|refine zR ?_|refine wJ ?_|refine wI ?_|refine wH ?_|((first|apply jz env|apply jw);intro Q hQ;simp only [vkt,seval,wG,vR,qo,qg,qf,buO,shT,ite_and];(repeat' first|with_reducible assumption|apply jv|intro hp);all_goals first|(apply hQ;clear hQ Q)|(apply jx;kernel_rfl)|omega|assumption|rfl|skip)
  simp only [vrt,results86,vkt,seval,wG,vR,yn,qC,mTk,qg,qf,JR,s1L,dfE,hwL,i0,hput,hkT]
  refine Fin.ok some [] ?_ ?_ ?_ ?_ ?_ rfl
  all_goals (try simp only [vle,bG,bD,vkt,seval])
  all_goals first|rfl|(simp;done)|exact fun i hi=>(match i,hi with|0,_=>rfl|1,_=>rfl)
 ·obtain ⟨l,hoR⟩:∃ l,WL cs s a r sold k R=some l:=by
   unfold WL
   rw [if_neg (by omega),hf]
   cases hq:f ((qZ cs).getD (R - 1) default) with
   |none=>rw [hq] at hlast;exact absurd hlast (by simp)
   |some l=>exact ⟨l,rfl⟩
  obtain ⟨T,hT⟩:∃ T,WO cs sold k R=T:=⟨_,rfl⟩
  have hTs:=hcs R
  rw [hT] at hTs
  have hkT:k < T.length:=by rw [hTs.1];exact hnl
  have hput:xI T k ⟨w.cab,w.bed⟩=sold:=by rw [hTs.2];exact hself
  have eh:qb ((10,AObj.mark) :: shH cs s a ts k w (WO cs sold k R) (WL cs s a r sold k R)++qU [9] (10+1) 0 [buO cs s])=qb [(10,.mark),(0,qg cs s 1),(1,qf T),(2,.cells [.ptr 0 0]),(3,.cells [.sl (ts.map zL)]),(4,.cells (qo a)),(5,.cells [.sl (l.map eTr)]),(6,.cells [aB true]),(7,.cells [aI k]),(8,.cells [.v (.int .i64 w.cab),.v (.int .i64 w.bed)]),(9,buO cs s)]:=by
   rw [show qU [9] (10+1) 0 [buO cs s]=qU [9] 11 0 [buO cs s] from rfl,Vj,hT,hoR];rfl
  rw [eh,hoR]
  repeat' first|(apply nx;with_reducible constructor)|apply jq (by decide)|refine zR ?_|refine wJ ?_|refine wI ?_|refine wH ?_
  simp only [vrt,results86,vkt,seval,wG,vR,yn,qo,qC,mTk,qg,qf,buO,shT,JR,s1L,dfE,hwL,i0,hput,hkT]
  refine Fin.ok some [] ?_ ?_ ?_ ?_ ?_ rfl
  all_goals (try simp only [vle,vkt,seval])
  all_goals first|rfl|(simp;done)|exact fun i hi=>(match i,hi with|0,_=>rfl|1,_=>rfl)
def X6 (cs:List Cabin) (s:Int) (a:Ask):∀ m,Qgd cs s a m
 |0=>QbC cs s a
 |m+1=>QcD cs s a m (X6 cs s a m)
def JX (cs:List Cabin) (s:Int) (a:Ask) (m:Nat) (S:St):List AV->Option Pk
 |[.ptr p 0,.row q,.agg aa]=>match S.h p,S.h q with
  |some (.cells [.sl cc,.v (.int .i64 s'),.row r]),some (.row _ _ ts)=>match S.h r with
   |some (.row _ _ xs)=>some { pre:=cc=cs.map qx/\s'=s/\aa=qo a/\ts=(ts.map zI).map zL/\xs=(xs.map dTk).map eTk/\(ts.map zI).length=m/\ShOk cs s a (xs.map dTk) (ts.map zI),hs:=[p,r],bo:=[q],ar:=[.ptr 0 0,.sl ts,.agg aa],L0:=qJ cs s (xs.map dTk),v:=.tup [yn ((jU cs s a (ts.map zI) (xs.map dTk)).getD []),aB (jU cs s a (ts.map zI) (xs.map dTk)).isSome],L1:=(qJ cs s (xs.map dTk)).map some }
   |_=>none
  |_,_=>none
 |_=>none
def QkR {A:Frm->Prop} {cs:List Cabin} {s:Int} {a:Ask} {m:Nat}:qm A prog 86 (fnE (JX cs s a m)):=zJ fun S bs q h hp=>by
 unfold JX at h
 split at h
 ·split at h
  ·split at h
   ·cases h
    obtain ⟨_,_,h3,h4,_,h6,h7⟩:=hp
    have:=X6 cs s a m _ _ h6 h7
    rw [qz,<- h4,zl,<- h3] at this
    exact this
   ·cases h
  ·cases h
 ·cases h
def mvW (c:Chart) (a:Ask) (l:List Int):Option (List Tr):=jU c.cabins c.secs a (xU c l) c.sold
def mvL (c:Chart) (a:Ask) (out:List Tr):List AObj:=[qg c.cabins c.secs 1,qf c.sold,.cells [.ptr 0 0],.cells [.sl ((wX c.sold).map zL)],.cells (qo a),.cells [.sl (out.map eTr)]]
structure MvOk (c:Chart) (a:Ask) (l:List Int):Prop where
 val:Val c
 sx:a.sexes.length<=3
 len:l.length<=2
 mem:∀ i ∈ l,0<=i/\i.toNat < (wX c.sold).length
def Qh9 {sold:List Tk} {i:Int} (h:i ∈ wX sold):0<=i/\i.toNat < sold.length:=by
 unfold wX at h
 obtain ⟨j,hj,rfl⟩:=ap.1 h
 have:=(List.mem_filter.1 hj).1
 rw [aY] at this
 exact ⟨cJ _,this⟩
def Qhn (sold:List Tk):(wX sold).length<=sold.length:=QcM sold sold.length
def MvOk.sh {c:Chart} {a:Ask} {l:List Int} (h:MvOk c a l):ShOk c.cabins c.secs a c.sold (xU c l):=by
 refine ⟨h.val.car.cabs,h.val.car.beds,h.val.many,h.sx,by have:=h.len;simp [xU];omega,fun n hn=>?_⟩
 obtain ⟨i,hi,rfl⟩:=ap.1 hn
 exact Qh9 (vG (h.mem i hi).2)
def QcF {c:Chart} {a:Ask} {o:List Tr}:∀ i ob,qb (qB 0 (mvL c a o)) i=some ob->i < 6/\∀ id ∈ ob.ids,id < 6:=by
 intro i ob hi
 have h:=qG hi
 simp [qB,mvL] at h
 rcases h with ⟨rfl,rfl⟩|⟨rfl,rfl⟩|⟨rfl,rfl⟩|⟨rfl,rfl⟩|⟨rfl,rfl⟩|⟨rfl,rfl⟩ <;> simp [AObj.ids,AV.ids,AV.idsL,qg,qf,qo]
def mvS (c:Chart) (a:Ask) (o:List Tr) (l:List Int) (k:Nat):St:={ t:=asg [(1,.ptr 3 0),(2,.ptr 2 0),(3,.ptr 4 0),(4,.ptr 5 0),(6,aB false),(7,.row 6),(12,qz l),(13,aI l.length),(14,aI k)],h:=qb [(0,qg c.cabins c.secs 1),(1,qf c.sold),(2,.cells [.ptr 0 0]),(3,.cells [.sl ((wX c.sold).map zL)]),(4,.cells (qo a)),(5,.cells [.sl (o.map eTr)]),(6,.row 3 1 (((xU c l).take k).map zL))],n:=7,m:=6 }
def WE:=jv @ty3 (jv @Jj (jv @Jp (jv @QfO (jv @QfJ (jv @QM (jv @ti3.eq_1 (jv @ZE.eq_1 (jv @ZG.eq_1 (jv @RV.eq_1 (jv @K4.eq_1 @xW.eq_1))))))))))
def Qg:=jv @aI.eq_1 (jv @aB.eq_1 (jv @qz.eq_1 (jv @zL.eq_1 (jv @QeB (jv @QiJ (@Ju))))))
def Qmo (c:Chart) (a:Ask) (o:List Tr) (l:List Int) (ok:MvOk c a l):Fn noB prog 85 [qz l,.ptr 3 0,.ptr 2 0,.ptr 4 0,.ptr 5 0] (qb (qB 0 (mvL c a o))) (aB (mvW c a l).isSome) (qb (ze 0 ((mvL c a ((mvW c a l).getD o)).map some))) 0:=by
 have env:Env (fun _=>True) prog tyB (tab [(86,fnE (JX c.cabins c.secs a l.length))]):=qA ⟨QkR,trivial⟩
 refine Fn.of (A:=fun _=>True) (n0:=6) (D:=noD) (Fn0 func85 rfl (fun vs w=>by kernel_rfl) (by kernel_rfl)) (by simp) (by simp [AV.ids,qz]) QcF (fun _ _ _ _=>trivial) qX ?_
 have hsh:=ok.sh
 have hlen:=ok.len
 have hmx:(100000:Nat)<=maxLen:=by decide
 have hsl:(xU c l).length=l.length:=by simp [xU]
 obtain ⟨W,hW⟩:∃ W,mvW c a l=W:=⟨_,rfl⟩
 rw [hW]
 unfold mvW at hW
 show Sym _ _ _ (qV [qz l,.ptr 3 0,.ptr 2 0,.ptr 4 0,.ptr 5 0] 6 (qb [(0,qg c.cabins c.secs 1),(1,qf c.sold),(2,.cells [.ptr 0 0]),(3,.cells [.sl ((wX c.sold).map zL)]),(4,.cells (qo a)),(5,.cells [.sl (o.map eTr)])])) (yc tyB noD Tryz.f85 fun S rv=>Fin S rv _ 6 (qb [(0,qg c.cabins c.secs 1),(1,qf c.sold),(2,.cells [.ptr 0 0]),(3,.cells [.sl ((wX c.sold).map zL)]),(4,.cells (qo a)),(5,.cells [.sl ((W.getD o).map eTr)])]) 0)
 repeat' first|(apply nx;with_reducible constructor)|apply jq (by decide)|((first|apply jz env|apply jw);intro Q hQ;simp only [vkt,seval,WE,Qg,qg,qf,qo,ite_and];(repeat' first|with_reducible assumption|apply jv|intro hp);all_goals first|(apply hQ;clear hQ Q)|(apply jx;kernel_rfl)|omega|assumption|rfl|skip)
 refine qN (fun k:{ k:Nat // k<=l.length }=>mvS c a o l k.1) (fun k=>l.length - k.1) ⟨0,ag _⟩ ?_ fun ⟨k,hk⟩=>?_
 ·(refine Le.ok (fun i=>if i=6 then none else some i) [] ?_;constructor;all_goals (try simp only [vle,vkt,seval,Qg,qg,qf,qo]))
  all_goals first|rfl|(simp;done)|(intro i hi;rw [if_neg (by omega)];done)
 simp only at hk ⊢
 by_cases hkl:k < l.length
 ·have d1:decide ((k:Int) < (l.length:Int))=true:=decide_eq_true (by omega)
  have e9:IntKind.wrap .i64 ((k:Int)+1)=((k+1:Nat):Int):=by rw [wrap64 (by omega) (by omega)];rfl
  obtain ⟨x,hx⟩:∃ x,l.getD k 0=x:=⟨_,rfl⟩
  obtain ⟨hx0,hxl⟩:=ok.mem x (by rw [<- hx];exact vG hkl)
  obtain ⟨i,rfl⟩:∃ i:Nat,x=i:=⟨x.toNat,by omega⟩
  have i0:((i:Int)).toNat=i:=rfl
  rw [i0] at hxl
  obtain ⟨y,hy⟩:∃ y,(wX c.sold).getD i 0=y:=⟨_,rfl⟩
  have hS:(xU c l).take (k+1)=(xU c l).take k++[y]:=by
   rw [bQ (by rw [hsl];exact hkl)]
   congr 2
   unfold xU
   rw [List.getElem_map]
   rw [show l[k]=(i:Int) by rw [<- hx];simp [ai,hkl]]
   exact hy
  have hl1:((xU c l).take k).length+1<=maxLen:=by rw [aR];omega
  have hl2:((xU c l).take k).length<=2:=by rw [aR];omega
  repeat' first|(apply nx;with_reducible constructor)|apply jq (by decide)|((first|apply jz env|apply jw);intro Q hQ;simp only [vkt,seval,WE,Qg,qg,qf,mvS,qo,d1,e9,hx,hy,i0,hxl,hl1,ite_and];(repeat' first|with_reducible assumption|apply jv|intro hp);all_goals first|(apply hQ;clear hQ Q)|(apply jx;kernel_rfl)|omega|assumption|rfl|skip)
  refine ⟨⟨k+1,hkl⟩,by show l.length - (k+1) < l.length - k;omega, ?_⟩
  show Le _ (mvS c a o l (k+1))
  unfold mvS
  rw [hS]
  (refine Le.ok (fun i=>if i=6 then some 8 else some i) [] ?_;constructor;all_goals (try simp only [vle,vkt,seval,Qg,qg,qf,qo]))
  all_goals first|rfl|(rw [aq];rfl)|(simp;done)|(intro i hi;rw [if_neg (by omega)];done)
 ·have d1:decide ((k:Int) < (l.length:Int))=false:=decide_eq_false (by omega)
  obtain rfl:k=l.length:=by omega
  have htk:(xU c l).take l.length=xU c l:=bF (by omega)
  cases W with
  |none =>
   repeat' first|(apply nx;with_reducible constructor)|apply jq (by decide)|((first|apply jz env|apply jw);intro Q hQ;simp only [vkt,seval,WE,Qg,yn,mTk,qg,qf,qJ,mvS,qo,JX,d1,htk,hsl,hsh,hW,bG,bD,ite_and];(repeat' first|with_reducible assumption|apply jv|intro hp);all_goals first|(apply hQ;clear hQ Q)|(apply jx;kernel_rfl)|omega|assumption|rfl|skip)
   ·exact ⟨_,_,rfl⟩
   (simp only [vrt,results85,vkt,seval,Qg,qg,qf,qo];refine Fin.ok some [] ?_ ?_ ?_ ?_ ?_ rfl;all_goals (try simp only [vle,vkt,seval]))
   all_goals first|rfl|(simp;done)|exact fun i hi=>(match i,hi with|0,_=>rfl|1,_=>rfl)
  |some t =>
   repeat' first|(apply nx;with_reducible constructor)|apply jq (by decide)|((first|apply jz env|apply jw);intro Q hQ;simp only [vkt,seval,WE,Qg,yn,mTk,qg,qf,qJ,mvS,qo,JX,d1,htk,hsl,hsh,hW,ite_and];(repeat' first|with_reducible assumption|apply jv|intro hp);all_goals first|(apply hQ;clear hQ Q)|(apply jx;kernel_rfl)|omega|assumption|rfl|skip)
   ·exact ⟨_,_,rfl⟩
   (simp only [vrt,results85,vkt,seval,Qg,qg,qf,qo];refine Fin.ok some [] ?_ ?_ ?_ ?_ ?_ rfl;all_goals (try simp only [vle,vkt,seval]))
   all_goals first|rfl|(simp;done)|exact fun i hi=>(match i,hi with|0,_=>rfl|1,_=>rfl)
def RL:=jv @ty3 (jv @Jj (jv @ti3.eq_1 @ZE.eq_1))
def Qfg (xs:List (List DV)) (h1:zu 1 xs) (h2:xs.length<=100000):Fn noB prog 114 [.sl xs] noH (.row 0) (qb [(0,.row 3 1 xs)]) 0:=by
 have env:=qA (A:=fun _=>True) kN
 obtain ⟨b1,b2,b3,b5,b4⟩:=b47 h2
 refine kV (Fn0 func114 rfl (fun vs w=>by kernel_rfl) (by kernel_rfl)) (by simp) (by simp [AV.ids]) ?_
 repeat' first|(apply nx;with_reducible constructor)|apply jq (by decide)
 (apply jz env;intro Q hQ;simp only [vkt,seval,ite_and];(repeat' first|with_reducible assumption|apply jv|intro hp);all_goals first|(apply hQ;clear hQ Q)|(apply jx;kernel_rfl)|omega|assumption|rfl|skip)
 repeat' first|(apply nx;with_reducible constructor)|apply jq (by decide)
 refine Qj (d1:=3) (d2:=4) (t:=26) (e:=3) (x:=.tmp 0) (xs:=xs) rfl rfl rfl rfl rfl rfl underlying26 rfl fun b hb=>?_
 repeat' first|(apply nx;with_reducible constructor)|apply jq (by decide)
 (refine jE (by simp only [vkt,seval];rfl) (fun h=>?_) (fun h=>?_) <;> (try simp only [vki,reduceCtorEq] at h))
 ·have hx:=hb h
  subst hx
  repeat' first|(apply nx;with_reducible constructor)|apply jq (by decide)|((first|apply jz env|apply jw);intro Q hQ;simp only [vkt,seval,ite_and];(repeat' first|with_reducible assumption|apply jv|intro hp);all_goals first|(apply hQ;clear hQ Q)|(apply jx;kernel_rfl)|omega|assumption|rfl|skip)
  (simp only [vrt,results114,vkt,seval];refine Fin.ok (fun _=>none) [] ?_ ?_ ?_ ?_ ?_ rfl;all_goals (try simp only [vle,vkt,seval]))
  all_goals simp
 ·repeat' first|(apply nx;with_reducible constructor)|apply jq (by decide)|((first|apply jz env|apply jw);intro Q hQ;simp only [vkt,seval,RL,ite_and];(repeat' first|with_reducible assumption|apply jv|intro hp);all_goals first|(apply hQ;clear hQ Q)|(apply jx;kernel_rfl)|omega|assumption|rfl|skip)
  (simp only [vrt,results114,vkt,seval];refine Fin.ok some [] ?_ ?_ ?_ ?_ ?_ rfl;all_goals (try simp only [vle,vkt,seval]))
  all_goals simp
def Y8 (_:St):List AV->Option Pk
 |[.sl xs]=>some { pre:=zu 1 xs/\xs.length<=100000,ar:=[.sl xs],v:=.row 0,L1:=[some (.row 3 1 xs)] }
 |_=>none
def Qkw {A:Frm->Prop}:qm A prog 114 (fnE Y8):=zJ fun S bs q h hp=>by
 unfold Y8 at h
 split at h
 ·cases h;exact Qfg _ hp.1 hp.2
 ·cases h
def fsr {Z:Type} {g:Nat->Option Z} {k N:Nat} (h:∀ j,j < k->g j=none) (hk:k < N) {t:Z} (ht:g k=some t):(List.range N).findSome? g=some t:=by
 rw [show N=k+(N - k) by omega,List.range_add,List.findSome?_append]
 rw [show (List.range k).findSome? g=none from List.findSome?_eq_none_iff.2 fun j hj=>h j (aY.1 hj)]
 rw [show N - k=(N - k - 1)+1 by omega,dq]
 simp [ht]
def UX {Z:Type} {g:Nat->Option Z} {N:Nat} (h:∀ j,j < N->g j=none):(List.range N).findSome? g=none:=List.findSome?_eq_none_iff.2 fun j hj=>h j (aY.1 hj)
def lsG (c:Chart) (a:Ask) (l:List Int):Option (List Int × List Tr):=(mvW c a l).map fun t=>(l,t)
def lsF (c:Chart) (a:Ask) (m:Nat) (l:List Int) (f:Nat):Option (List Int × List Tr):=(KU (wX c.sold).length m l f).findSome? (lsG c a)
def Qiz (c:Chart) (a:Ask) (l:List Int) (f:Nat):lsF c a 0 l f=lsG c a l:=by
 unfold lsF
 rw [KU]
 cases h:lsG c a l <;> simp [h]
def QcP {Z β γ:Type} (f:Z->List β) (g:β->Option γ):∀ l:List Z,(l.flatMap f).findSome? g=l.findSome? fun a=>(f a).findSome? g
 |[]=>rfl
 |a :: l=>by rw [ca,List.findSome?_append,c6,QcP f g l];cases (f a).findSome? g <;> rfl
def QiG (c:Chart) (a:Ask) (m:Nat) (l:List Int) (f:Nat):lsF c a (m+1) l f=(List.range ((wX c.sold).length - f)).findSome? fun k=>lsF c a m (l++[((f+k:Nat):Int)]) (f+k+1):=by
 unfold lsF
 rw [KU,QcP]
structure LsOk (c:Chart) (a:Ask) (l:List Int) (f m:Nat):Prop where
 val:Val c
 sx:a.sexes.length<=3
 len:l.length+m<=2
 from':f<=(wX c.sold).length\/m=0
 mem:∀ i ∈ l,0<=i/\i.toNat < (wX c.sold).length
def lsL (c:Chart) (a:Ask) (many:Nat) (o:Option (List Int × List Tr)):List AObj:=[qg c.cabins c.secs 1,qf c.sold,.cells [.ptr 0 0],.cells [.sl ((wX c.sold).map zL)],.cells (qo a),.cells [.sl (((o.map (·.2)).getD []).map eTr)],
 .cells [aI many],.cells [.clo 85 [.ptr 3 0,.ptr 2 0,.ptr 4 0,.ptr 5 0]],.cells [.sl (((o.map (·.1)).getD []).map zL)],.cells [aB o.isSome],.cells [aI (wX c.sold).length],.cells [.clo 142 [.ptr 6 0,.ptr 7 0,.ptr 8 0,.ptr 9 0,.ptr 10 0,.ptr 11 0]]]
def QdE {c:Chart} {a:Ask} {many:Nat} {o:Option (List Int × List Tr)}:∀ i ob,qb (qB 0 (lsL c a many o)) i=some ob->i < 12/\∀ id ∈ ob.ids,id < 12:=by
 intro i ob hi
 have h:=qG hi
 simp [qB,lsL] at h
 rcases h with ⟨rfl,rfl⟩|⟨rfl,rfl⟩|⟨rfl,rfl⟩|⟨rfl,rfl⟩|⟨rfl,rfl⟩|⟨rfl,rfl⟩|⟨rfl,rfl⟩|⟨rfl,rfl⟩|⟨rfl,rfl⟩|⟨rfl,rfl⟩|⟨rfl,rfl⟩|⟨rfl,rfl⟩ <;> simp [AObj.ids,AV.ids,AV.idsL,qg,qf,qo,aI,aB]
def LsFn (c:Chart) (a:Ask) (many m:Nat):Prop:=∀ (l:List Int) (f:Nat),l.length+m=many->LsOk c a l f m ->
 Fn noB prog 142 [qz l,aI f,.ptr 6 0,.ptr 7 0,.ptr 8 0,.ptr 9 0,.ptr 10 0,.ptr 11 0] (qb (qB 0 (lsL c a many none))) (.tup []) (qb (ze 0 ((lsL c a many (lsF c a m l f)).map some))) 0
def Qg2 (c:Chart) (a:Ask) (S:St):List AV->Option Pk
 |[.sl xs,.ptr p3 0,.ptr p2 0,.ptr p4 0,.ptr p5 0]=>match S.h p2,S.h p5 with
  |some (.cells [.ptr p0 0]),some (.cells [.sl os])=>match S.h p0 with
   |some (.cells [_,_,.row p1])=>some { pre:=xs=(xs.map zI).map zL/\os=(os.map dTr).map eTr/\MvOk c a (xs.map zI),hs:=[p0,p1,p2,p3,p4,p5],ar:=[.sl xs,.ptr 3 0,.ptr 2 0,.ptr 4 0,.ptr 5 0],L0:=mvL c a (os.map dTr),v:=aB (mvW c a (xs.map zI)).isSome,L1:=(mvL c a ((mvW c a (xs.map zI)).getD (os.map dTr))).map some }
   |_=>none
  |_,_=>none
 |_=>none
def eMv1 {A:Frm->Prop} {c:Chart} {a:Ask}:qm A prog 85 (fnE (Qg2 c a)):=zJ fun S bs q h hp=>by
 unfold Qg2 at h
 split at h
 ·split at h
  ·split at h
   ·cases h
    obtain ⟨h1,h2,h3⟩:=hp
    have:=Qmo c a (List.map dTr (by assumption)) _ h3
    rw [qz,<- h1] at this
    exact this
   ·cases h
  ·cases h
 ·cases h
def pLs1 (c:Chart) (a:Ask) (many m:Nat) (S:St):List AV->Option Pk
 |[.row q,.v (.int .i64 f),.ptr p6 0,.ptr p7 0,.ptr p8 0,.ptr p9 0,.ptr p10 0,.ptr p11 0]=>match S.h q,S.h p7 with
  |some (.row _ _ xs),some (.cells [.clo _ [.ptr p3 0,.ptr p2 0,.ptr p4 0,.ptr p5 0]])=>match S.h p2 with
   |some (.cells [.ptr p0 0])=>match S.h p0 with
    |some (.cells [_,_,.row p1])=>some { pre:=xs=(xs.map zI).map zL/\f=(f.toNat:Int)/\(xs.map zI).length+m=many/\LsOk c a (xs.map zI) f.toNat m,hs:=[p0,p1,p2,p3,p4,p5,p6,p7,p8,p9,p10,p11],bo:=[q],ar:=[.sl xs,.v (.int .i64 f),.ptr 6 0,.ptr 7 0,.ptr 8 0,.ptr 9 0,.ptr 10 0,.ptr 11 0],L0:=lsL c a many none,v:=.tup [],L1:=(lsL c a many (lsF c a m (xs.map zI) f.toNat)).map some }
    |_=>none
   |_=>none
  |_,_=>none
 |_=>none
def eLs1 {A:Frm->Prop} {c:Chart} {a:Ask} {many m:Nat} (ih:LsFn c a many m):qm A prog 142 (fnE (pLs1 c a many m)):=zJ fun S bs q h hp=>by
 unfold pLs1 at h
 split at h
 ·split at h
  ·split at h
   ·split at h
    ·cases h
     obtain ⟨h1,h2,h3,h4⟩:=hp
     have:=ih _ _ h3 h4
     rw [qz,<- h1,aI,<- h2] at this
     exact this
    ·cases h
   ·cases h
  ·cases h
 ·cases h
def lsS (c:Chart) (a:Ask) (many:Nat) (l:List Int) (i:Nat) (o:Option (List Int × List Tr)):St:={ t:=asg [(0,qz l),(2,.ptr 6 0),(3,.ptr 7 0),(4,.ptr 8 0),(5,.ptr 9 0),(6,.ptr 10 0),(7,.ptr 11 0),(10,aI i)],h:=qb [(0,qg c.cabins c.secs 1),(1,qf c.sold),(2,.cells [.ptr 0 0]),(3,.cells [.sl ((wX c.sold).map zL)]),(4,.cells (qo a)),(5,.cells [.sl (((o.map (·.2)).getD []).map eTr)]),
 (6,.cells [aI many]),(7,.cells [.clo 85 [.ptr 3 0,.ptr 2 0,.ptr 4 0,.ptr 5 0]]),(8,.cells [.sl (((o.map (·.1)).getD []).map zL)]),(9,.cells [aB o.isSome]),(10,.cells [aI (wX c.sold).length]),(11,.cells [.clo 142 [.ptr 6 0,.ptr 7 0,.ptr 8 0,.ptr 9 0,.ptr 10 0,.ptr 11 0]])],n:=12,m:=12 }
def jP:=jv @ty3 (jv @ty4 (jv @Jj (jv @ty167 (jv @Qk3 (jv @ti3.eq_1 (jv @ti4.eq_1 (jv @ZE.eq_1 (jv @Qdy.eq_1 @U7.eq_1))))))))
def j3:=jv @aI.eq_1 (jv @aB.eq_1 (jv @qz.eq_1 (jv @zL.eq_1 (jv @QeB (jv @QiJ (@Ju))))))
def Kt (c:Chart) (a:Ask) (many m:Nat) (ih:∀ m',m=m'+1->LsFn c a many m'):LsFn c a many m:=by
 intro l f hlm ok
 have hlen:=ok.len
 have hlo:=Qhn c.sold
 have hv8:=ok.val.many
 have hmx:(100000:Nat)<=maxLen:=by decide
 have hmm:l.length<=100000:=by omega
 have hml1:l.length+1<=maxLen:=by omega
 obtain ⟨n,hn⟩:∃ n,(wX c.sold).length=n:=⟨_,rfl⟩
 rw [hn] at hlo
 cases m with
 |zero =>
  have env:Env (fun _=>True) prog tyB (tab [(85,fnE (Qg2 c a))]):=qA ⟨eMv1,trivial⟩
  refine Fn.of (A:=fun _=>True) (n0:=12) (D:=noD) (Fn0 func142 rfl (fun vs w=>by kernel_rfl) (by kernel_rfl)) (by simp) (by simp [AV.ids,qz,aI]) QdE (fun _ _ _ _=>trivial) qX ?_
  have hmv:MvOk c a l:=⟨ok.val,ok.sx,by omega,ok.mem⟩
  have d0:decide ((l.length:Int)=(many:Int))=true:=decide_eq_true (by omega)
  rw [Qiz]
  show Sym _ _ _ (qV [qz l,aI f,.ptr 6 0,.ptr 7 0,.ptr 8 0,.ptr 9 0,.ptr 10 0,.ptr 11 0] 12 (lsS c a many l f none).h) (yc tyB noD Tryz.f142 fun S rv=>Fin S rv _ 12 (lsS c a many l f (lsG c a l)).h 0)
  unfold lsG
  cases hW:mvW c a l with
  |none =>
   repeat' first|(apply nx;with_reducible constructor)|apply jq (by decide)|((first|apply jz env|apply jw);intro Q hQ;simp only [vkt,seval,jP,j3,qg,qf,mvL,lsS,qo,Qg2,d0,hmv,hW,bG,bD,ite_and];(repeat' first|with_reducible assumption|apply jv|intro hp);all_goals first|(apply hQ;clear hQ Q)|(apply jx;kernel_rfl)|omega|assumption|rfl|skip)
   (simp only [vrt,results142,vkt,seval,j3,qg,qf,lsS,qo];refine Fin.ok some [] ?_ ?_ ?_ ?_ ?_ rfl;all_goals (try simp only [vle,vkt,seval]))
   all_goals (try simp only [bG,bD])
   all_goals first|rfl|simp
  |some t =>
   repeat' first|(apply nx;with_reducible constructor)|apply jq (by decide)|((first|apply jz env|apply jw);intro Q hQ;simp only [vkt,seval,jP,j3,qg,qf,mvL,lsS,qo,Qg2,d0,hmv,hW,bG,bD,ite_and];(repeat' first|with_reducible assumption|apply jv|intro hp);all_goals first|(apply hQ;clear hQ Q)|(apply jx;kernel_rfl)|omega|assumption|rfl|skip)
   (simp only [vrt,results142,vkt,seval,j3,qg,qf,lsS,qo];refine Fin.ok some [] ?_ ?_ ?_ ?_ ?_ rfl;all_goals (try simp only [vle,vkt,seval]))
   all_goals (try simp only [c8,Option.isSome_some,bP])
   all_goals first|rfl|simp
 |succ m =>
  have env:Env (fun _=>True) prog tyB (tab [(114,fnE Y8),(142,fnE (pLs1 c a many m))]):=qA ⟨Qkw,eLs1 (ih m rfl),trivial⟩
  refine Fn.of (A:=fun _=>True) (n0:=12) (D:=noD) (Fn0 func142 rfl (fun vs w=>by kernel_rfl) (by kernel_rfl)) (by simp) (by simp [AV.ids,qz,aI]) QdE (fun _ _ _ _=>trivial) qX ?_
  have d0:decide ((l.length:Int)=(many:Int))=false:=decide_eq_false (by omega)
  have hfn:f<=n:=by have:=ok.from';omega
  rw [QiG,hn]
  obtain ⟨g,hg⟩:∃ g:Nat->Option (List Int × List Tr),(fun k=>lsF c a m (l++[((f+k:Nat):Int)]) (f+k+1))=g:=⟨_,rfl⟩
  rw [hg]
  show Sym _ _ _ (qV [qz l,aI f,.ptr 6 0,.ptr 7 0,.ptr 8 0,.ptr 9 0,.ptr 10 0,.ptr 11 0] 12 (lsS c a many l f none).h) (yc tyB noD Tryz.f142 fun S rv=>Fin S rv _ 12 (lsS c a many l f ((List.range (n - f)).findSome? g)).h 0)
  repeat' first|(apply nx;with_reducible constructor)|apply jq (by decide)|((first|apply jz env|apply jw);intro Q hQ;simp only [vkt,seval,jP,j3,qg,qf,lsS,qo,d0,bG,bD,ite_and];(repeat' first|with_reducible assumption|apply jv|intro hp);all_goals first|(apply hQ;clear hQ Q)|(apply jx;kernel_rfl)|omega|assumption|rfl|skip)
  refine qN (fun x:{ x:Nat × Option (List Int × List Tr) // x.1<=n - f/\((x.2=none/\∀ j,j < x.1->g j=none)\/∃ t,x.2=some t/\(List.range (n - f)).findSome? g=some t) }=>lsS c a many l (f+x.1.1) x.1.2) (fun x=>n - f - x.1.1) ⟨(0,none),ag _,.inl ⟨rfl,fun j h=>absurd h (bp _)⟩⟩ ?_ fun ⟨(k,o),hk,ho⟩=>?_
  ·show Le _ (lsS c a many l f none)
   unfold lsS
   (refine Le.ok some [] ?_;constructor;all_goals (try simp only [vle,vkt,seval,j3,qg,qf,qo]))
   all_goals first|rfl|simp
  simp only at hk ho ⊢
  rcases ho with ⟨rfl,hno⟩|⟨t,rfl,ht⟩
  ·by_cases hkl:k < n - f
   ·have d1:decide (((f+k:Nat):Int) < (n:Int))=true:=decide_eq_true (by omega)
    have w1:IntKind.wrap .i64 (((f+k:Nat):Int)+1)=((f+k+1:Nat):Int):=by rw [wrap64 (by omega) (by omega)];rfl
    have hla:l.map zL++[[.v (.int .i64 ((f+k:Nat):Int))]]=(l++[((f+k:Nat):Int)]).map zL:=by rw [aq];rfl
    have hll:(l++[((f+k:Nat):Int)]).length=l.length+1:=by simp
    have hnm:l.length+1+m=many:=by omega
    have i0:(((f+k+1:Nat):Int)).toNat=f+k+1:=rfl
    have hok:LsOk c a (l++[((f+k:Nat):Int)]) (f+k+1) m:=⟨ok.val,ok.sx,by rw [hll];omega,.inl (by omega),fun i hi=>by
     rcases aD.1 hi with hi|hi
     ·exact ok.mem i hi
     ·rw [aW.1 hi,hn];omega⟩
    obtain ⟨o',ho'⟩:∃ o',lsF c a m (l++[((f+k:Nat):Int)]) (f+k+1)=o':=⟨_,rfl⟩
    have hgk:g k=o':=by rw [<- hg];exact ho'
    repeat' first|(apply nx;with_reducible constructor)|apply jq (by decide)|((first|apply jz env|apply jw);intro Q hQ;simp only [vkt,seval,jP,j3,qg,qf,lsL,lsS,qo,pLs1,Y8,hn,d1,w1,hla,hll,hnm,i0,hok,ho',hmm,hml1,bG,bD,ite_and];(repeat' first|with_reducible assumption|apply jv|intro hp);all_goals first|(apply hQ;clear hQ Q)|(apply jx;kernel_rfl)|omega|assumption|rfl|skip)
    ·exact ⟨_,_,rfl⟩
    refine ⟨⟨(k+1,o'),by show k+1<=n - f;omega, ?_⟩,by show n - f - (k+1) < n - f - k;omega, ?_⟩
    ·cases o' with
     |none =>
      refine .inl ⟨rfl,fun j hj=>?_⟩
      rcases bq (bt hj) with h1|h1
      ·exact hno j h1
      ·rw [h1];exact hgk
     |some t=>exact .inr ⟨t,rfl,fsr hno hkl hgk⟩
    ·show Le _ (lsS c a many l (f+k+1) o')
     unfold lsS
     rw [hn]
     (refine Le.ok some [] ?_;constructor;all_goals (try simp only [vle,vkt,seval,j3,qg,qf,qo]))
     all_goals first|rfl|simp
   ·have d1:decide (((f+k:Nat):Int) < (n:Int))=false:=decide_eq_false (by omega)
    rw [UX (fun j hj=>hno j (by omega))]
    repeat' first|(apply nx;with_reducible constructor)|apply jq (by decide)|((first|apply jz env|apply jw);intro Q hQ;simp only [vkt,seval,jP,j3,qg,qf,lsS,qo,hn,d1,bG,bD,ite_and];(repeat' first|with_reducible assumption|apply jv|intro hp);all_goals first|(apply hQ;clear hQ Q)|(apply jx;kernel_rfl)|omega|assumption|rfl|skip)
    (simp only [vrt,results142,vkt,seval,j3,qg,qf,lsS,qo];refine Fin.ok some [] ?_ ?_ ?_ ?_ ?_ rfl;all_goals (try simp only [vle,vkt,seval]))
    all_goals (try simp only [hn,bG,bD])
    all_goals first|rfl|simp
  ·rw [ht]
   by_cases hkl:f+k < n
   ·have d1:decide (((f+k:Nat):Int) < (n:Int))=true:=decide_eq_true (by omega)
    repeat' first|(apply nx;with_reducible constructor)|apply jq (by decide)|((first|apply jz env|apply jw);intro Q hQ;simp only [vkt,seval,jP,j3,qg,qf,lsS,qo,hn,d1,ite_and];(repeat' first|with_reducible assumption|apply jv|intro hp);all_goals first|(apply hQ;clear hQ Q)|(apply jx;kernel_rfl)|omega|assumption|rfl|skip)
    (simp only [vrt,results142,vkt,seval,j3,qg,qf,lsS,qo];refine Fin.ok some [] ?_ ?_ ?_ ?_ ?_ rfl;all_goals (try simp only [vle,vkt,seval]))
    all_goals (try simp only [hn])
    all_goals first|rfl|simp
   ·have d1:decide (((f+k:Nat):Int) < (n:Int))=false:=decide_eq_false (by omega)
    repeat' first|(apply nx;with_reducible constructor)|apply jq (by decide)|((first|apply jz env|apply jw);intro Q hQ;simp only [vkt,seval,jP,j3,qg,qf,lsS,qo,hn,d1,ite_and];(repeat' first|with_reducible assumption|apply jv|intro hp);all_goals first|(apply hQ;clear hQ Q)|(apply jx;kernel_rfl)|omega|assumption|rfl|skip)
    (simp only [vrt,results142,vkt,seval,j3,qg,qf,lsS,qo];refine Fin.ok some [] ?_ ?_ ?_ ?_ ?_ rfl;all_goals (try simp only [vle,vkt,seval]))
    all_goals (try simp only [hn])
    all_goals first|rfl|simp
def V9 (c:Chart) (a:Ask) (many:Nat):∀ m,LsFn c a many m
 |0=>Kt c a many 0 fun _ h=>by omega
 |m+1=>Kt c a many (m+1) fun m' h=>by
  obtain rfl:m=m':=by omega
  exact V9 c a many m
end Go.Sym.B
