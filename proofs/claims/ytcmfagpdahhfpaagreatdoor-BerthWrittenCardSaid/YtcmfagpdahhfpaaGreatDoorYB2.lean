/- Walks and what they compute, joined: part 2. -/
import Derived.Test.YtcmfagpdahhfpaaGreatDoorYS3
import Derived.Test.YtcmfagpdahhfpaaGreatDoorProg
import Derived.KernelRfl
import Derived.Shelf.Strings.OnBuilder
import Derived.Shelf.Strconv.Itoa3
import Derived.Shelf.Strconv.AtoiAll
import Derived.Shelf.Strings.Split
import Derived.Shelf.Strings.Cut
import Derived.Test.YtcmfagpdahhfpaaGreatDoorYB1
set_option linter.all false
set_option maxHeartbeats 40000000
namespace Go.Sym.B
open Go Go.Sym Go.Proofs Go.Sym.C
theorem Qey {c:Chart} {a:Ask} (h:PlOk c a):Fn noB Tryz.prog 139 [.nil,.clo 140 [.ptr 2 0,.ptr 3 0]] (qa (qz 0 (plL c a))) (.row 4) (qa (za 0 ((plL c a).map some++[some (.row 65 1 (plR c a (plP c a).length))]))) 0:=by
 have env:Env (fun F=>F.r=none) Tryz.prog tyB (tab []):=qB trivial
 refine Fn.of (A:=fun F=>F.r=none) (n0:=4) (D:=noD) (Fn0 Tryz.func139 rfl (fun vs w=>by kernel_rfl) (by kernel_rfl)) (by simp) (by simp [AV.ids,AV.idsL]) KV (fun _ _ _ h=>h) q9 ?_
 have hbd:=QaH h
 have hm:(729:Nat)+1<=maxLen:=by decide
 obtain ⟨N,hN⟩:∃ N,(plP c a).length=N:=⟨_,rfl⟩
 rw [hN] at hbd ⊢
 show Sym _ _ _ (qP [.nil,.clo 140 [.ptr 2 0,.ptr 3 0]] 4 (qa [(0,qf c.cabins c.secs 1),(1,qc c.sold),(2,.cells [.ptr 0 0]),(3,.cells (qj a))])) (jP tyB noD Tryz.f139 fun S rv=>Fin S rv _ 4 (qa [(0,qf c.cabins c.secs 1),(1,qc c.sold),(2,.cells [.ptr 0 0]),(3,.cells (qj a)),(4,.row 65 1 (plR c a N))]) 0)
 repeat' first|(apply nx;with_reducible constructor)|apply jq (by decide)|((first|apply jz env|apply jw);intro Q hQ;simp only [vkt,seval,qf,qc,ite_and];(repeat' first|with_reducible assumption|apply jv|intro hp);all_goals first|(apply hQ;clear hQ Q)|(apply jx;kernel_rfl)|omega|assumption|with_reducible rfl|skip)
 refine ve (S':={ t:=asg aqL0,h:=qa (aqH c a 0++[(0,qf c.cabins c.secs 1),(1,qc c.sold),(2,.cells [.ptr 0 0]),(3,.cells (qj a))]),n:=6,j:=0,d:=[],m:=4 }) ?_ ?_
 ·show Le _ { t:=asg [(2,.ptr 4 0),(6,.clo 140 [.ptr 2 0,.ptr 3 0])],h:=qa [(4,.cells [.row 5]),(5,.row 65 1 []),(0,qf c.cabins c.secs 1),(1,qc c.sold),(2,.cells [.ptr 0 0]),(3,.cells (qj a))],n:=6,j:=0,d:=[],m:=4 }
  (refine Le.ok (fun i=>if i=5 then none else some i) [] ?_;constructor;all_goals (try simp only [vle,vkt,seval,qf,qc]))
  all_goals first|rfl|(simp [qj,AV.leL,AV.le,AV.idsL,AV.ids];done)|(intro i hi;rw [if_neg (by omega)];done)
 rw [<- UE c a]
 refine yw (fun F h=>h) 1 (L:=aqL0) (L':=aqL) (xs:=[1,2,3]) (hs:=[0,1,2,3]) (n:=6) (nl:=1) (hc:=aqH c a) (Lp:=plL c a) (jj:=fun _=>0) (d:=[]) (ys:=plY c a) (hl:=plH c a) (ans:=fun _=>true) (ex:=.ret) (caps:=[.ptr 2 0,.ptr 3 0]) (caps0:=[.ptr 2 0,.ptr 3 0]) (N:=(plP c a).length) (R:=N) (A':=fun _ _=>True) rfl (ZB h) (by rw [hN];exact KS) (.inl rfl) ?_ ?_ ?_ rfl (by simp) ?_ (by simp) (fun _ _ _ _ _ _=>trivial) ?_ ?_ ?_ ?_ ?_ ?_ (fun j hj=>?_) ?_ (fun j hj=>?_) (fun _=>?_) (fun _ h=>by cases h)
 ·simp [AV.leL,AV.le]
 ·simp [AV.nocbL,AV.nocb]
 ·simp [Z9,plL,qf,qc,qj,AObj.nocb,AV.nocbL,AV.nocb,AObj.ids,AV.ids,AV.idsL,AObj.ren,AV.renL,AV.ren,AObj.le,AV.leL,AV.le,qg]
 ·simp [aqH,qa]
 ·simp [aqH,qa]
 ·simp [aqH,AObj.ids,AV.ids,AV.idsL]
 ·simp [LZ,aqL,aqL0,asg]
 ·simp [Qa9]
 ·intro j hj
  simp [absent,aqH,Qcm]
 ·simp [JR,aqL,AV.ids]
 ·refine ⟨?_,rfl, ?_, ?_,rfl, ?_⟩
  ·simp [ku,aqH,AObj.ids,AV.ids,AV.idsL]
  ·simp [Za,plH,qH,qf,qc,AObj.nocb,AV.nocbL,AV.nocb,AObj.ids,AV.ids,AV.idsL]
  ·simp [Vx,plY,qb,AV.nocb,AV.ids]
  ·simp [xV,Wh,Qcm,aqH,aqL,yU,AV.ids,ADf.ids,bB]
 ·simp [ku,aqH,AObj.ids,AV.ids,AV.idsL]
 ·have env:Env (fun _:Frm=>True) Tryz.prog tyB (tab []):=qB trivial
  obtain ⟨x,hx⟩:∃ x,((plP c a).getD j default).1=x:=⟨_,rfl⟩
  have hS:=QfT (c:=c) (a:=a) (j:=j) (by omega)
  rw [hx] at hS
  have hl:(plR c a j).length<=729:=by simp [plR];omega
  have hl1:(plR c a j).length+1<=maxLen:=by omega
  have hst:wL aqL [7] [0] 6 1 (plY c a j) (aqH c a j) (plH c a j)={ t:=asg [(7,qb x),(2,.ptr 4 0)],h:=qa [(6,.mark),(4,.cells [.row 5]),(5,.row 65 1 (plR c a j)),(0,qf c.cabins c.secs 7),(7,qc ((plP c a).getD j default).2)],n:=8,m:=8 }:=by
   simp only [wL,plY,hx,qb,af,au,AV.ren,ck,cw,aqH,aqL,Qh,aT,aG]
   rfl
  show Sym _ _ _ (wL aqL [7] [0] 6 1 (plY c a j) (aqH c a j) (plH c a j)) _
  rw [hst]
  obtain ⟨r,hr⟩:∃ r,((plP c a).getD j default).2=r:=⟨_,rfl⟩
  rw [hr]
  repeat' first|(apply nx;with_reducible constructor)|apply jq (by decide)|((first|apply jz env|apply jw);intro Q hQ;simp only [vkt,seval,QM,qb,qf,qc,QkB,hl1,ite_and];(repeat' first|with_reducible assumption|apply jv|intro hp);all_goals first|(apply hQ;clear hQ Q)|(apply jx;kernel_rfl)|omega|assumption|with_reducible rfl|skip)
  refine ⟨rfl,rfl,(fun i=>if i=5 then some 9 else some i),_,RFin.okQ (fun i=>if i=5 then some 9 else some i) [] ?_⟩
  constructor
  all_goals (try simp only [vle,yS,yH,qg,plH,aqH,hr,hS,zI,vkt,seval,zI,qf,qc,qH,aqL])
  all_goals first|rfl|(simp;done)|(simp [yU,AV.ids,ADf.ids,bB];done)
 ·have eh:qa ((6,AObj.mark) :: aqH c a N++qO [0,1,2,3] (6+1) 0 (plL c a))=qa [(6,.mark),(4,.cells [.row 5]),(5,.row 65 1 (plR c a N)),(0,qf c.cabins c.secs 1),(1,qc c.sold),(2,.cells [.ptr 0 0]),(3,.cells (qj a))]:=by
   rw [show qO [0,1,2,3] (6+1) 0 (plL c a)=qO [0,1,2,3] 7 0 (plL c a) from rfl,UE];rfl
  rw [eh]
  repeat' first|(apply nx;with_reducible constructor)|apply jq (by decide)|((first|apply jz env|apply jw);intro Q hQ;simp only [vkt,seval,QM,qf,qc,aqL,ite_and];(repeat' first|with_reducible assumption|apply jv|intro hp);all_goals first|(apply hQ;clear hQ Q)|(apply jx;kernel_rfl)|omega|assumption|with_reducible rfl|skip)
  (simp only [vrt,Tryz.results139,vkt,seval,qf,qc];refine Fin.ok (fun j=>[0,1,2,3,5][j]?) [] ?_ ?_ ?_ ?_ ?_ rfl;all_goals (try simp only [vle,vkt,seval]))
  all_goals first|rfl|(simp [qj,AV.leL,AV.le];done)|exact fun i hi=>(match i,hi with|0,_=>rfl|1,_=>rfl|2,_=>rfl|3,_=>rfl)
def Yr (c:Chart) (a:Ask) (S:St):List AV->Option Pk
 |[.nil,.clo f [.ptr p2 0,.ptr p3 0]]=>match S.h p2 with
  |some (.cells [.ptr p 0])=>match S.h p with
   |some (.cells [_,_,.row r])=>some { pre:=f=140/\PlOk c a,hs:=[p,r,p2,p3],ar:=[.nil,.clo 140 [.ptr 2 0,.ptr 3 0]],L0:=plL c a,v:=.row 4,L1:=(plL c a).map some++[some (.row 65 1 (plR c a (plP c a).length))] }
   |_=>none
  |_=>none
 |_=>none
theorem Qiq {A:Frm->Prop} {c:Chart} {a:Ask}:qm A Tryz.prog 139 (fnE (Yr c a)):=zB fun S bs q h hp=>by
 unfold Yr at h
 split at h
 ·split at h
  ·split at h
   ·cases h;exact Qey hp.2
   ·cases h
  ·cases h
 ·cases h
theorem QaN {c:Chart} {a:Ask} (h:PlOk c a):Fn noB Tryz.prog 77 [.clo 140 [.ptr 2 0,.ptr 3 0]] (qa (qz 0 (plL c a))) (.row 4) (qa (za 0 ((plL c a).map some++[some (.row 65 1 (plR c a (plP c a).length))]))) 0:=by
 have env:Env (fun _=>True) Tryz.prog tyB (tab [(139,fnE (Yr c a))]):=qB ⟨Qiq,trivial⟩
 refine Fn.of (A:=fun _=>True) (n0:=4) (D:=noD) (Fn0 Tryz.func77 rfl (fun vs w=>by kernel_rfl) (by kernel_rfl)) (by simp) (by simp [AV.ids,AV.idsL]) KV (fun _ _ _ _=>trivial) q9 ?_
 obtain ⟨X,hX⟩:∃ X,plR c a (plP c a).length=X:=⟨_,rfl⟩
 rw [hX]
 show Sym _ _ _ (qP [.clo 140 [.ptr 2 0,.ptr 3 0]] 4 (qa [(0,qf c.cabins c.secs 1),(1,qc c.sold),(2,.cells [.ptr 0 0]),(3,.cells (qj a))])) (jP tyB noD Tryz.f77 fun S rv=>Fin S rv _ 4 (qa [(0,qf c.cabins c.secs 1),(1,qc c.sold),(2,.cells [.ptr 0 0]),(3,.cells (qj a)),(4,.row 65 1 X)]) 0)
 repeat' first|(apply nx;with_reducible constructor)|apply jq (by decide)|((first|apply jz env|apply jw);intro Q hQ;simp only [vkt,seval,qj,qf,qc,plL,Yr,h,hX,ite_and];(repeat' first|with_reducible assumption|apply jv|intro hp);all_goals first|(apply hQ;clear hQ Q)|(apply jx;kernel_rfl)|omega|assumption|with_reducible rfl|skip)
 (simp only [vrt,Tryz.results77,vkt,seval,qj,qf,qc];refine Fin.ok some [] ?_ ?_ ?_ ?_ ?_ rfl;all_goals (try simp only [vle,vkt,seval]))
 all_goals first|rfl|(simp [qj,AV.leL,AV.le];done)|exact fun i hi=>(match i,hi with|0,_=>rfl|1,_=>rfl|2,_=>rfl|3,_=>rfl)
def Jy (c:Chart) (a:Ask) (S:St):List AV->Option Pk
 |[.clo f [.ptr p2 0,.ptr p3 0]]=>match S.h p2 with
  |some (.cells [.ptr p 0])=>match S.h p with
   |some (.cells [_,_,.row r])=>some { pre:=f=140/\PlOk c a,hs:=[p,r,p2,p3],ar:=[.clo 140 [.ptr 2 0,.ptr 3 0]],L0:=plL c a,v:=.row 4,L1:=(plL c a).map some++[some (.row 65 1 (plR c a (plP c a).length))] }
   |_=>none
  |_=>none
 |_=>none
theorem Qha {A:Frm->Prop} {c:Chart} {a:Ask}:qm A Tryz.prog 77 (fnE (Jy c a)):=zB fun S bs q h hp=>by
 unfold Jy at h
 split at h
 ·split at h
  ·split at h
   ·cases h;exact QaN hp.2
   ·cases h
  ·cases h
 ·cases h
theorem QfY {c:Chart} {a:Ask} (h:Qq c a=0):a.sexes.length<=3/\1<=a.sexes.length:=by
 unfold Qq at h
 split at h
 ·exact absurd h (by decide)
 split at h
 ·exact absurd h (by decide)
 split at h
 ·exact absurd h ‹_›
 split at h
 ·exact absurd h ‹_›
 rename_i h4
 have h4:=Decidable.not_not.1 h4
 unfold zH at h4
 split at h4
 ·exact absurd h4 (by decide)
 ·split at h4
  ·exact absurd h4 (by decide)
  ·omega
theorem Qs {c:Chart} {a:Ask} (h:wo c a=0):PlOk c a:=⟨kU (kz h).1,(QfY (kz h).2).1⟩
def Yw (c:Chart) (a:Ask):List (List Bunk):=if wo c a=0 then (plP c a).map (·.1) else []
def WM:=jv @jW (jv @Zq (jv @WB (jv @jE.eq_1 (jv @kY.eq_1 @QT.eq_1))))
def Yt:=jv @aI.eq_1 (jv @aB.eq_1 (@WK))
theorem QeA (c:Chart) (a:Ask) (hc:c.cabins.length<=maxLen) (ha:a.sexes.length<=maxLen):Fn noB Tryz.prog 27 [qh c,zh a] noH (.tup [.row 0,aI (wo c a)]) (qa [(0,.row 65 1 ((Yw c a).map zI))]) 0:=by
 have env:Env (fun _=>True) Tryz.prog tyB (tab [(76,fnE jS),(78,fnE jZ),(77,fnE (Jy c a))]):=qB ⟨Vj,Yz,Qha,trivial⟩
 refine Fn.of (A:=fun _=>True) (n0:=0) (D:=noD) (Fn0 Tryz.func27 rfl (fun vs w=>by kernel_rfl) (by kernel_rfl)) (by simp) (by simp [AV.ids,AV.idsL,qh,qd,zh,qj]) (fun i o h=>by cases h) (fun _ _ _ _=>trivial) q9 ?_
 have ec:(⟨c.cabins,c.secs,c.sold⟩:Chart)=c:=rfl
 have ea:(⟨a.party,a.frm,a.to,a.sexes,a.dog⟩:Ask)=a:=rfl
 unfold Yw
 by_cases h0:wo c a=0
 ·have hok:=Qs h0
  rw [if_pos h0,h0]
  obtain ⟨X,hX⟩:∃ X,plR c a (plP c a).length=X:=⟨_,rfl⟩
  have hXe:(List.map (fun x=>x.1) (plP c a)).map zI=X:=by rw [<- hX];unfold plR;rw [bF,bT];rfl
  rw [hXe]
  repeat' first|(apply nx;with_reducible constructor)|apply jq (by decide)|((first|apply jz env|apply jw);intro Q hQ;simp only [vkt,seval,WM,Yt,qh,qd,zh,qj,mTk,qD,qf,qc,qH,plL,jS,jZ,Jy,ec,ea,h0,hok,hX,ite_and];(repeat' first|with_reducible assumption|apply jv|intro hp);all_goals first|(apply hQ;clear hQ Q)|(apply jx;kernel_rfl)|omega|assumption|with_reducible rfl|skip)
  (simp only [vrt,Tryz.results27,vkt,seval,Yt];refine Fin.ok (fun j=>[6][j]?) [] ?_ ?_ ?_ ?_ ?_ rfl;all_goals (try simp only [vle,vkt,seval]))
  all_goals first|rfl|simp
 ·rw [if_neg h0]
  repeat' first|(apply nx;with_reducible constructor)|apply jq (by decide)|((first|apply jz env|apply jw);intro Q hQ;simp only [vkt,seval,WM,Yt,qh,qd,zh,qj,mTk,qD,jS,ec,ea,h0,ite_and];(repeat' first|with_reducible assumption|apply jv|intro hp);all_goals first|(apply hQ;clear hQ Q)|(apply jx;kernel_rfl)|omega|assumption|with_reducible rfl|skip)
  (simp only [vrt,Tryz.results27,vkt,seval,Yt];refine Fin.ok (fun _=>none) [] ?_ ?_ ?_ ?_ ?_ rfl;all_goals (try simp only [vle,vkt,seval]))
  all_goals first|rfl|simp
def aU (n:Int):AV:=.v (.int .u64 n)
def Qgg (a b:Int):Int:=IntKind.wrap .u64 (BitVec.ofInt IntKind.u64.bits a ||| BitVec.ofInt IntKind.u64.bits (IntKind.wrap .u64 (1 * 2 ^ min b.toNat IntKind.u64.bits))).toNat
def Ui:=jv @QgZ @Xm.eq_1
def Qb0:=jv @aI.eq_1 (jv @aB.eq_1 (@aU.eq_1))
theorem Qhk (a b:Int) (hb:0<=b):FnV Tryz.prog 170 [aU a,aI b] (aU (Qgg a b)):=by
 have env:=qB (A:=fun _=>True) kN
 refine kV (Fn0 Tryz.func170 rfl (fun vs w=>by kernel_rfl) (by kernel_rfl)) (by simp) (by simp [AV.ids,aU,aI]) ?_
 repeat' first|(apply nx;with_reducible constructor)|apply jq (by decide)|((first|apply jz env|apply jw);intro Q hQ;simp only [vkt,seval,Ui,Qb0,hb,ite_and];(repeat' first|with_reducible assumption|apply jv|intro hp);all_goals first|(apply hQ;clear hQ Q)|(apply jx;kernel_rfl)|omega|assumption|with_reducible rfl|skip)
 (simp only [vrt,Tryz.results170,vkt,seval,Qb0];refine Fin.val rfl ?_;(try simp only [AV.le]))
 all_goals first|rfl|simp
def QbF:List AV->Prop × AV
 |[.v (.int .u64 a),.v (.int .i64 b)]=>(0<=b,aU (Qgg a b))
 |_=>(False,.junk)
theorem Qlk {A:Frm->Prop}:qm A Tryz.prog 170 (zU true QbF):=ze fun vs hv h=>by
 clear hv
 unfold QbF at h ⊢
 split at h
 ·exact ⟨by simp [aU,AV.plain],fun _=>by simp [aU,AV.flat],Qhk _ _ h⟩
 ·exact h.elim
theorem Qgo (p:List Int):(p.map aU).all wW=true:=by simp [aU,wW]
theorem QA:∀ p:List Int,AV.idsL (p.map aU)=[]
 |[]=>rfl
 |x :: p=>by rw [af,AV.idsL,QA p];rfl
theorem QS (h:Nat->Option AObj) (σ:Nat->Option Nat):∀ p:List Int,AV.leL h σ (p.map aU) (p.map aU)=True
 |[]=>by simp [AV.leL]
 |x :: p=>by simp [AV.leL,AV.le,aU,QS h σ p]
theorem LA:∀ p:List Int,AV.plainL (p.map aU)=True
 |[]=>by simp [AV.plainL]
 |x :: p=>by simp [AV.plainL,AV.plain,aU,LA p]
theorem Qcp:∀ p:List Int,AV.flatL (p.map aU)=True
 |[]=>by simp [AV.flatL]
 |x :: p=>by simp [AV.flatL,AV.flat,aU,Qcp p]
theorem Qe7 {p:List Int} {i:Nat} (h:i < p.length):(((p.map aU).drop i).take 1).headD .junk=aU (p.getD i 0):=by
 rw [cE (by simpa using h)]
 simp [ah,h]
theorem Qlq {p:List Int} {i:Nat} {n:Int} (h:i < p.length):(p.map aU).take i++[aU n]++(p.map aU).drop (i+1)=(p.set i n).map aU:=by
 apply cN
 intro j
 rw [List.set_eq_take_append_cons_drop,if_pos h]
 simp
structure Van (c:Chart):Prop where
 car:CarOk c
 many:c.sold.length<=100
 tk:∀ t ∈ c.sold,TkOk c t
theorem Val.van {c:Chart} (h:Val c):Van c:=⟨h.car,by have:=h.many;omega,h.tk⟩
def QY (s:Int) (h:List Int) (t:Tk):List Int:=if inB s t.frm (t.to - 1) then h.set t.cab.toNat (Qgg (h.getD t.cab.toNat 0) t.bed) else h
def Qi (l:List Tk) (s:Int) (k:Nat):List Int:=(l.take k).foldl (QY s) [0,0,0]
theorem Wx {l:List Tk} {s:Int} {k:Nat} (h:k < l.length):Qi l s (k+1)=QY s (Qi l s k) (l.getD k default):=by
 unfold Qi
 rw [bP h,dM]
 simp [ah,h]
theorem xB (l:List Tk) (s:Int):∀ k,k<=l.length->(Qi l s k).length=3
 |0,_=>rfl
 |k+1,h=>by
  rw [Wx (by omega),QY]
  split
  ·rw [List.length_set];exact xB l s k (by omega)
  ·exact xB l s k (by omega)
def heT (c:Chart) (s:Int) (k:Nat):St:={ t:=asg [(1,aI s),(4,.ptr 1 0),(5,.ptr 2 0),(10,qy c.sold),(11,aI c.sold.length),(12,aI k)],h:=qa [(0,.cells (qd c)),(1,.cells [aU 0,aU 0,aU 0]),(2,.cells ((Qi c.sold s k).map aU))],n:=3 }
def jX:=jv @ty3 (jv @xW (jv @jW (jv @xy (jv @yc (jv @QgZ (jv @Qkm (jv @ti3.eq_1 (jv @vW.eq_1 (jv @jE.eq_1 (jv @yY.eq_1 (jv @jM.eq_1 (jv @Xm.eq_1 @Ll.eq_1))))))))))))
def QB:=jv @aI.eq_1 (jv @aB.eq_1 (@aU.eq_1))
theorem Qet (c:Chart) (s:Int) (hv:Van c):FnV Tryz.prog 136 [qh c,aI s] (.agg ((Qi c.sold s c.sold.length).map aU)):=by
 have env:=qB (A:=fun _=>True) (kC ein (kC Qlk kN))
 refine kV (Fn0 Tryz.func136 rfl (fun vs w=>by kernel_rfl) (by kernel_rfl)) (by simp) (by simp [AV.ids,AV.idsL,qh,qd,aI]) ?_
 have hsl:=hv.many
 repeat' first|(apply nx;with_reducible constructor)|apply jq (by decide)|((first|apply jz env|apply jw);intro Q hQ;simp only [vkt,seval,jX,QB,qh,qd,ite_and];(repeat' first|with_reducible assumption|apply jv|intro hp);all_goals first|(apply hQ;clear hQ Q)|(apply jx;kernel_rfl)|omega|assumption|with_reducible rfl|skip)
 refine qY (fun k:{ k:Nat // k<=c.sold.length }=>heT c s k.1) (fun k=>c.sold.length - k.1) ⟨0,ap _⟩ ?_ fun ⟨k,hk⟩=>?_
 ·(refine Le.ok some [] ?_;constructor;all_goals (try simp only [vle,vkt,seval,QB,qy,qd,QA]))
  all_goals first|rfl|(simp [Qi,AV.leL,AV.le,aU];done)
 ·repeat' first|(apply nx;with_reducible constructor)|apply jq (by decide)
  (apply jz env;intro Q hQ;simp only [vkt,seval,jX,QB,qy,qd,heT,ite_and];(repeat' first|with_reducible assumption|apply jv|intro hp);all_goals first|(apply hQ;clear hQ Q)|(apply jx;kernel_rfl)|omega|assumption|with_reducible rfl|skip)
  repeat' first|(apply nx;with_reducible constructor)|apply jq (by decide)
  (refine jc (by simp only [vkt,seval];rfl) (fun h=>?_) (fun h=>?_) <;> (try simp only [vki] at h))
  ·have hlt:k < c.sold.length:=by omega
   have e9:=k9 k (by omega)
   obtain ⟨x,hx⟩:∃ x,c.sold.getD k default=x:=⟨_,rfl⟩
   have hS:=Wx (s:=s) hlt
   rw [hx] at hS
   have hok:=hv.tk x (hx ▸ yX hlt)
   have hcl:=hv.car.cabs
   obtain ⟨⟨g1,g2⟩,g3,g4,g5,g6⟩:=(⟨hok.cab,hok.bed.1,hok.frm,hok.way,hok.to⟩:_/\_/\_/\_/\_)
   have gs:=hv.car.secs
   have w1:IntKind.wrap .i64 (x.to - 1)=x.to - 1:=wrap64 (by omega) (by omega)
   obtain ⟨i,hi⟩:∃ i:Nat,x.cab=(i:Int):=⟨x.cab.toNat,by omega⟩
   have hi3:i < 3:=by omega
   have hi3':(i:Int) < 3:=by omega
   have i0:(0:Int)<=(i:Int):=by omega
   obtain ⟨P,hP⟩:∃ P,Qi c.sold s k=P:=⟨_,rfl⟩
   have hPl:P.length=3:=by rw [<- hP];exact xB _ _ _ hk
   rw [hP,QY,hi,cn] at hS
   try simp only [heT,hP]
   have hiP:i < P.length:=by omega
   have hiP1:i+1<=P.length:=by omega
   have pg:=Qe7 hiP
   have ps:=Qlq (n:=Qgg (P.getD i 0) x.bed) hiP
   cases hb:inB s x.frm (x.to - 1) with
   |false =>
    rw [hb] at hS
    repeat' first|(apply nx;with_reducible constructor)|apply jq (by decide)|((first|apply jz env|apply jw);intro Q hQ;simp only [vkt,seval,jX,QB,eTk,gTk,sin,hx,hb,w1,e9,ite_and];(repeat' first|with_reducible assumption|apply jv|intro hp);all_goals first|(apply hQ;clear hQ Q)|(apply jx;kernel_rfl)|omega|assumption|with_reducible rfl|skip)
    refine ⟨⟨k+1,hlt⟩,by show c.sold.length - (k+1) < c.sold.length - k;omega, ?_⟩
    simp only [hS]
    (refine Le.ok some [] ?_;constructor;all_goals (try simp only [vle,vkt,seval,QB,qy,qd,QA,QS]))
    all_goals first|rfl|(simp [QS];done)
   |true =>
    rw [hb] at hS
    simp only [if_true] at hS
    simp only [aU] at pg ps
    repeat' first|(apply nx;with_reducible constructor)|apply jq (by decide)|((first|apply jz env|apply jw);intro Q hQ;simp only [vkt,seval,jX,QB,eTk,gTk,sin,QbF,bL,hx,hb,w1,e9,hi,i0,hPl,pg,ps,g3,ite_and];(repeat' first|with_reducible assumption|apply jv|intro hp);all_goals first|(apply hQ;clear hQ Q)|(apply jx;kernel_rfl)|omega|assumption|with_reducible rfl|skip)
    refine ⟨⟨k+1,hlt⟩,by show c.sold.length - (k+1) < c.sold.length - k;omega, ?_⟩
    simp only [hS]
    (refine Le.ok some [] ?_;constructor;all_goals (try simp only [vle,vkt,seval,QB,qy,qd,QA,QS]))
    all_goals first|rfl|(simp [QS];done)
  ·have hke:k=c.sold.length:=by omega
   subst hke
   obtain ⟨P,hP⟩:∃ P,Qi c.sold s c.sold.length=P:=⟨_,rfl⟩
   have hPl:P.length=3:=by rw [<- hP];exact xB _ _ _ (aA _)
   try simp only [heT,hP]
   have tP:(P.map aU).take 3=P.map aU:=bJ (by simp [hPl])
   repeat' first|(apply nx;with_reducible constructor)|apply jq (by decide)|((first|apply jz env|apply jw);intro Q hQ;simp only [vkt,seval,jX,Qgo,hPl,tP,ite_and];(repeat' first|with_reducible assumption|apply jv|intro hp);all_goals first|(apply hQ;clear hQ Q)|(apply jx;kernel_rfl)|omega|assumption|with_reducible rfl|skip)
   (simp only [vrt,Tryz.results136,hPl,tP,vkt,seval,jX];refine Fin.val rfl ?_;(try simp only [AV.le]))
   all_goals first|rfl|(simp [QS];done)
def RZ:List AV->Prop × AV
 |[.agg [.sl cs,.v (.int .i64 n),.sl ts],.v (.int .i64 s)]=>(cs=(cs.map qp).map qo/\ts=(ts.map dTk).map eTk/\Van ⟨cs.map qp,n,ts.map dTk⟩,.agg ((Qi (ts.map dTk) s ts.length).map aU))
 |_=>(False,.junk)
theorem QjJ {A:Frm->Prop}:qm A Tryz.prog 136 (zU true RZ):=ze fun vs hv h=>by
 clear hv
 unfold RZ at h ⊢
 split at h
 ·rename_i cs n ts s
  obtain ⟨h1,h2,h3⟩:=h
  refine ⟨by simp only [AV.plain,LA],fun _=>by simp only [AV.flat,Qcp], ?_⟩
  have:=Qet ⟨cs.map qp,n,ts.map dTk⟩ s h3
  simp only [qh,qd,<- h1,<- h2,aj] at this
  exact this
 ·exact h.elim
theorem wrapU {n:Int} (h0:0<=n) (h1:n < 18446744073709551616):IntKind.wrap .u64 n=n:=by
 rw [show IntKind.wrap .u64 n=n % 18446744073709551616 from rfl];omega
theorem QkH (x y:BitVec 64) (hy:y ≠ 0):IntKind.wrap .u64 ((x ||| y).toNat:Int) ≠ 0:=fun h=>by
 have hlt:=(x ||| y).isLt
 rw [wrapU (by omega) (by omega)] at h
 have h1:(x ||| y)=0:=by apply BitVec.eq_of_toNat_eq;rw [show (x ||| y).toNat=0 by omega];rfl
 exact hy (BitVec.or_eq_zero_iff.1 h1).2
theorem QiF {a b:Int} (h0:0<=b) (h3:b<=3):Qgg a b ≠ 0:=by
 refine QkH (BitVec.ofInt 64 a) (BitVec.ofInt 64 (IntKind.wrap .u64 (1 * 2 ^ min b.toNat 64))) ?_
 rcases (by omega:b=0\/b=1\/b=2\/b=3) with rfl|rfl|rfl|rfl <;> decide
theorem Vp {l:List Tk} {s:Int} (hl:∀ t ∈ l,0<=t.cab/\t.cab < 3/\0<=t.bed/\t.bed<=3) {i:Nat} (hi:i < 3):∀ k,k<=l.length->decide ((Qi l s k).getD i 0=0)=(l.take k).all fun t=>!(atB s t && decide (t.cab=(i:Int)))
 |0,_=>by
  rw [dn]
  match i,hi with
  |0,_=>rfl
  |1,_=>rfl
  |2,_=>rfl
 |k+1,hk=>by
  have hkl:k < l.length:=by omega
  have ih:=Vp (s:=s) hl hi k (by omega)
  have hlen:=xB l s k (by omega)
  obtain ⟨g1,g2,g3,g4⟩:=hl _ (yX (d:=default) hkl)
  rw [Wx hkl,bP hkl,List.all_append,<- ih]
  rw [show l[k]=l.getD k default by simp [ah,hkl]]
  generalize l.getD k default=t at *
  have ha:inB s t.frm (t.to - 1)=atB s t:=by
   unfold inB atB
   rw [show decide (s<=t.to - 1)=decide (s < t.to) by rw [decide_eq_decide];omega]
  unfold QY
  rw [ha]
  simp only [di,List.all_nil,Bool.and_true]
  cases atB s t with
  |false=>simp
  |true =>
   simp only [if_true,bE]
   by_cases hc:t.cab=(i:Int)
   ·have e:t.cab.toNat=i:=by omega
    rw [e,decide_eq_true hc,ah,List.getElem?_set_self (by omega),cM,decide_eq_false (QiF g3 g4)]
    simp
   ·have e:t.cab.toNat ≠ i:=by omega
    rw [decide_eq_false hc,ah,List.getElem?_set_ne e,<- ah]
    simp
def rcN (c:Chart) (s i:Nat):Nat:=((List.range i).filter fun (j:Nat)=>JP c.sold s j).length
def rtN (c:Chart) (s:Nat):Nat:=((List.range s).map fun s=>rcN c s c.cabins.length).sum
theorem Qf3 (c:Chart) (s i:Nat):rcN c s (i+1)=rcN c s i+if JP c.sold s i then 1 else 0:=by
 unfold rcN
 rw [bB,List.filter_append,aF]
 cases h:JP c.sold s i <;> simp [h]
theorem UD (c:Chart) (s:Nat):rtN c (s+1)=rtN c s+rcN c s c.cabins.length:=by
 unfold rtN
 rw [bB,aq,List.sum_append]
 simp
theorem QfL (c:Chart) (s i:Nat):rcN c s i<=i:=by
 unfold rcN
 exact aN (dJ _ _) (by simp)
theorem Qg4 (c:Chart):∀ s,rtN c s<=s * c.cabins.length
 |0=>by simp [rtN]
 |s+1=>by
  have:=Qg4 c s
  have:=QfL c s c.cabins.length
  rw [UD,cF];omega
theorem QgY (c:Chart):QR c.cabins c.secs c.sold=(rtN c c.secs.toNat:Int):=by
 unfold QR rtN
 rw [List.length_flatMap]
 rfl
def rsO (c:Chart) (s:Nat):St:={ t:=asg [(1,.ptr 0 0),(2,aI 0),(3,aI (rtN c s:Nat)),(8,aI c.secs),(9,aI s)],h:=qa [(0,.cells (qd c))],n:=1 }
def rsI (c:Chart) (s i:Nat):St:={ t:=asg [(1,.ptr 0 0),(2,aI 0),(3,aI (rtN c s+rcN c s i:Nat)),(4,aI s),(5,.ptr 1 0),(8,aI c.secs),(9,aI s),(17,aI c.cabins.length),(18,aI i)],h:=qa [(0,.cells (qd c)),(1,.cells ((Qi c.sold s c.sold.length).map aU))],n:=2 }
def yG:=jv @ty3 (jv @JH (jv @jW (jv @JI (jv @QgZ (jv @Qkm (jv @ti3.eq_1 (jv @ZW.eq_1 (jv @jE.eq_1 (jv @Z5.eq_1 (jv @Xm.eq_1 @Ll.eq_1))))))))))
def kH:=jv @aI.eq_1 (@aB.eq_1)
theorem QjD (c:Chart) (hv:Van c):FnV Tryz.prog 74 [qh c] (aI (QR c.cabins c.secs c.sold)):=by
 have env:=qB (A:=fun _=>True) (kC QjJ kN)
 refine kV (Fn0 Tryz.func74 rfl (fun vs w=>by kernel_rfl) (by kernel_rfl)) (by simp) (by simp [AV.ids,AV.idsL,qh,qd]) ?_
 have hcl:=hv.car.cabs
 have hsec:=hv.car.secs
 have ec:(⟨c.cabins,c.secs,c.sold⟩:Chart)=c:=rfl
 have htk:∀ t ∈ c.sold,0<=t.cab/\t.cab < 3/\0<=t.bed/\t.bed<=3:=fun t ht=>by
  have h1:=hv.tk t ht
  have h2:=h1.cab
  have h3:=h1.bed
  have h4:=(hv.car.beds _ (yX (d:=default) h2.2)).2
  omega
 rw [QgY]
 repeat' first|(apply nx;with_reducible constructor)|apply jq (by decide)|((first|apply jz env|apply jw);intro Q hQ;simp only [vkt,seval,yG,qh,qd,ite_and];(repeat' first|with_reducible assumption|apply jv|intro hp);all_goals first|(apply hQ;clear hQ Q)|(apply jx;kernel_rfl)|omega|assumption|with_reducible rfl|skip)
 refine qY (fun s:{ s:Nat // s<=c.secs.toNat }=>rsO c s.1) (fun s=>c.secs.toNat - s.1) ⟨0,ap _⟩ ?_ fun ⟨s,hs⟩=>?_
 ·(refine Le.ok some [] ?_;constructor;all_goals (try simp only [vle,vkt,seval,kH,qd]))
  all_goals first|rfl|(simp [rtN];done)
 simp only at hs ⊢
 repeat' first|(apply nx;with_reducible constructor)|apply jq (by decide)
 (apply jz env;intro Q hQ;simp only [vkt,seval,yG,kH,qd,rsO,ite_and];(repeat' first|with_reducible assumption|apply jv|intro hp);all_goals first|(apply hQ;clear hQ Q)|(apply jx;kernel_rfl)|omega|assumption|with_reducible rfl|skip)
 repeat' first|(apply nx;with_reducible constructor)|apply jq (by decide)
 (refine jc (by simp only [vkt,seval];rfl) (fun h=>?_) (fun h=>?_) <;> (try simp only [vki] at h))
 ·have hlt:s < c.secs.toNat:=by omega
  have hT:=Qg4 c s
  have hT3:rtN c s<=s * 3:=aN hT (Nat.mul_le_mul_left _ hcl.2)
  have e9:=k9 s (by omega)
  obtain ⟨P,hP⟩:∃ P,Qi c.sold s c.sold.length=P:=⟨_,rfl⟩
  have hPl:P.length=3:=by rw [<- hP];exact xB _ _ _ (aA _)
  repeat' first|(apply nx;with_reducible constructor)|apply jq (by decide)|((first|apply jz env|apply jw);intro Q hQ;simp only [vkt,seval,yG,qD,mTk,RZ,Qgo,ec,hv,hP,ite_and];(repeat' first|with_reducible assumption|apply jv|intro hp);all_goals first|(apply hQ;clear hQ Q)|(apply jx;kernel_rfl)|omega|assumption|with_reducible rfl|skip)
  refine qY (fun i:{ i:Nat // i<=c.cabins.length }=>rsI c s i.1) (fun i=>c.cabins.length - i.1) ⟨0,ap _⟩ ?_ fun ⟨i,hi⟩=>?_
  ·simp only [rsI,hP,rcN,List.range_zero,List.filter_nil,bK,bg]
   (refine Le.ok some [] ?_;constructor;all_goals (try simp only [vle,vkt,seval,kH,qd,QA]))
   all_goals first|rfl|(simp [QS];done)|(simp [hPl,QS];done)
  simp only at hi ⊢
  repeat' first|(apply nx;with_reducible constructor)|apply jq (by decide)
  (apply jz env;intro Q hQ;simp only [vkt,seval,yG,kH,qd,rsI,ite_and];(repeat' first|with_reducible assumption|apply jv|intro hp);all_goals first|(apply hQ;clear hQ Q)|(apply jx;kernel_rfl)|omega|assumption|with_reducible rfl|skip)
  repeat' first|(apply nx;with_reducible constructor)|apply jq (by decide)
  (refine jc (by simp only [vkt,seval];rfl) (fun h=>?_) (fun h=>?_) <;> (try simp only [vki] at h))
  ·have hil:i < c.cabins.length:=by omega
   have hC:=QfL c s i
   have e8:=k9 i (by omega)
   have e7:IntKind.wrap .i64 (((rtN c s+rcN c s i:Nat):Int)+1)=((rtN c s+rcN c s i+1:Nat):Int):=by rw [wrap64 (by omega) (by omega)];rfl
   have hz:=Vp (s:=(s:Int)) htk (show i < 3 by omega) c.sold.length (aA _)
   rw [bF,hP] at hz
   have hz:decide (P.getD i 0=0)=JP c.sold s i:=hz
   have hS:=Qf3 c s i
   have i3:(i:Int) < 3:=by omega
   have hiP:i < P.length:=by omega
   have hiP1:i+1<=P.length:=by omega
   have pg:=Qe7 hiP
   simp only [aU] at pg
   cases hE:JP c.sold s i with
   |true =>
    rw [hE] at hz hS
    simp only [if_true] at hS
    repeat' first|(apply nx;with_reducible constructor)|apply jq (by decide)|((first|apply jz env|apply jw);intro Q hQ;simp only [vkt,seval,yG,bL,hP,hPl,pg,hz,e8,e7,ite_and];(repeat' first|with_reducible assumption|apply jv|intro hp);all_goals first|(apply hQ;clear hQ Q)|(apply jx;kernel_rfl)|omega|assumption|with_reducible rfl|skip)
    refine ⟨⟨i+1,hil⟩,by show c.cabins.length - (i+1) < c.cabins.length - i;omega, ?_⟩
    simp only [rsI,hP,hS,<- bY]
    (refine Le.ok some [] ?_;constructor;all_goals (try simp only [vle,vkt,seval,kH,qd,QA,QS]))
    all_goals first|rfl|(simp [QS];done)
   |false =>
    rw [hE] at hz hS
    simp only [bS,if_false,bg] at hS
    repeat' first|(apply nx;with_reducible constructor)|apply jq (by decide)|((first|apply jz env|apply jw);intro Q hQ;simp only [vkt,seval,yG,bL,hP,hPl,pg,hz,e8,ite_and];(repeat' first|with_reducible assumption|apply jv|intro hp);all_goals first|(apply hQ;clear hQ Q)|(apply jx;kernel_rfl)|omega|assumption|with_reducible rfl|skip)
    refine ⟨⟨i+1,hil⟩,by show c.cabins.length - (i+1) < c.cabins.length - i;omega, ?_⟩
    simp only [rsI,hP,hS]
    (refine Le.ok some [] ?_;constructor;all_goals (try simp only [vle,vkt,seval,kH,qd,QA,QS]))
    all_goals first|rfl|(simp [QS];done)
  ·have hie:i=c.cabins.length:=by omega
   subst hie
   have hS:=UD c s
   repeat' first|(apply nx;with_reducible constructor)|apply jq (by decide)|((first|apply jz env|apply jw);intro Q hQ;simp only [vkt,seval,yG,hP,e9,ite_and];(repeat' first|with_reducible assumption|apply jv|intro hp);all_goals first|(apply hQ;clear hQ Q)|(apply jx;kernel_rfl)|omega|assumption|with_reducible rfl|skip)
   refine ⟨⟨s+1,hlt⟩,by show c.secs.toNat - (s+1) < c.secs.toNat - s;omega, ?_⟩
   simp only [rsO,hS]
   (refine Le.ok some [] ?_;constructor;all_goals (try simp only [vle,vkt,seval,kH,qd]))
   all_goals first|rfl|simp
 ·have hse:s=c.secs.toNat:=by omega
  subst hse
  repeat' first|(apply nx;with_reducible constructor)|apply jq (by decide)|((first|apply jz env|apply jw);intro Q hQ;simp only [vkt,seval,ite_and];(repeat' first|with_reducible assumption|apply jv|intro hp);all_goals first|(apply hQ;clear hQ Q)|(apply jx;kernel_rfl)|omega|assumption|with_reducible rfl|skip)
  (simp only [vrt,Tryz.results74,vkt,seval,kH];refine Fin.val rfl ?_;(try simp only [AV.le]))
  all_goals first|rfl|simp
def Qcu:List AV->Prop × AV
 |[.agg [.sl cs,.v (.int .i64 n),.sl ts]]=>(cs=(cs.map qp).map qo/\ts=(ts.map dTk).map eTk/\Van ⟨cs.map qp,n,ts.map dTk⟩,aI (QR (cs.map qp) n (ts.map dTk)))
 |_=>(False,.junk)
theorem Qkq {A:Frm->Prop}:qm A Tryz.prog 74 (zU true Qcu):=ze fun vs hv h=>by
 clear hv
 unfold Qcu at h ⊢
 split at h
 ·rename_i cs n ts
  obtain ⟨h1,h2,h3⟩:=h
  refine ⟨by simp [aI,AV.plain],fun _=>by simp [aI,AV.flat], ?_⟩
  have:=QjD ⟨cs.map qp,n,ts.map dTk⟩ h3
  simp only [qh,qd,<- h1,<- h2] at this
  exact this
 ·exact h.elim
def QcY (c:Chart):Int:=if zo c=0 then QR c.cabins c.secs c.sold else 0
def Y5:=jv @jW (jv @Zq (jv @jE.eq_1 @kY.eq_1))
def Yq:=jv @aI.eq_1 (@aB.eq_1)
theorem Qjc (c:Chart) (hc:c.cabins.length<=maxLen):FnV Tryz.prog 25 [qh c] (.tup [aI (QcY c),aI (zo c)]):=by
 have env:=qB (A:=fun _=>True) (kC JF (kC Qkq kN))
 refine kV (Fn0 Tryz.func25 rfl (fun vs w=>by kernel_rfl) (by kernel_rfl)) (by simp) (by simp [AV.ids,AV.idsL,qh,qd]) ?_
 have ec:(⟨c.cabins,c.secs,c.sold⟩:Chart)=c:=rfl
 unfold QcY
 by_cases h1:zo c=0
 ·have hv:=(kU h1).van
  rw [if_pos h1,h1]
  repeat' first|(apply nx;with_reducible constructor)|apply jq (by decide)|((first|apply jz env|apply jw);intro Q hQ;simp only [vkt,seval,Y5,Yq,qh,qd,qD,mTk,yB,Qcu,ec,h1,hv,ite_and];(repeat' first|with_reducible assumption|apply jv|intro hp);all_goals first|(apply hQ;clear hQ Q)|(apply jx;kernel_rfl)|omega|assumption|with_reducible rfl|skip)
  (simp only [vrt,Tryz.results25,vkt,seval,Yq];refine Fin.val rfl ?_;(try simp only [AV.le,AV.leL]))
  all_goals first|rfl|simp
 ·rw [if_neg h1]
  repeat' first|(apply nx;with_reducible constructor)|apply jq (by decide)|((first|apply jz env|apply jw);intro Q hQ;simp only [vkt,seval,Y5,Yq,qh,qd,qD,mTk,yB,ec,h1,ite_and];(repeat' first|with_reducible assumption|apply jv|intro hp);all_goals first|(apply hQ;clear hQ Q)|(apply jx;kernel_rfl)|omega|assumption|with_reducible rfl|skip)
  (simp only [vrt,Tryz.results25,vkt,seval,Yq];refine Fin.val rfl ?_;(try simp only [AV.le,AV.leL]))
  all_goals first|rfl|simp
def bL3 (cs:List Cabin) (s:Int) (l:List Tk):List AObj:=[qf cs s 2,.cells [.ptr 0 0],qc l]
def Qhi:=jv @jW (jv @Qn (jv @Z7 (jv @jE.eq_1 (jv @xh.eq_1 @Qb.eq_1))))
def Qco:=jv @aI.eq_1 (@aB.eq_1)
theorem bb_fn (cs:List Cabin) (s:Int) (l:List Tk) (hv:Van ⟨cs,s,l⟩):Fn noB Tryz.prog 81 [.ptr 1 0] (qa (qz 0 (bL3 cs s l))) (aI (QR cs s l)) (qa (za 0 ((bL3 cs s l).map some))) 0:=by
 have env:=qB (A:=fun _=>True) (kC Qkq kN)
 refine Fn.of (A:=fun _=>True) (n0:=3) (D:=noD) (Fn0 Tryz.func81 rfl (fun vs w=>by kernel_rfl) (by kernel_rfl)) (by simp) (by simp [AV.ids]) ?_ (fun _ _ _ _=>trivial) q9 ?_
 ·intro i o hi
  have h:=qE hi
  simp [qz,bL3] at h
  rcases h with ⟨rfl,rfl⟩|⟨rfl,rfl⟩|⟨rfl,rfl⟩ <;> simp [AObj.ids,AV.ids,AV.idsL,qf,qc]
 show Sym _ _ _ (qP [.ptr 1 0] 3 (qa [(0,qf cs s 2),(1,.cells [.ptr 0 0]),(2,qc l)])) (jP tyB noD Tryz.f81 fun S rv=>Fin S rv _ 3 (qa [(0,qf cs s 2),(1,.cells [.ptr 0 0]),(2,qc l)]) 0)
 repeat' first|(apply nx;with_reducible constructor)|apply jq (by decide)|((first|apply jz env|apply jw);intro Q hQ;simp only [vkt,seval,Qhi,Qco,qD,mTk,qf,qc,Qcu,hv,ite_and];(repeat' first|with_reducible assumption|apply jv|intro hp);all_goals first|(apply hQ;clear hQ Q)|(apply jx;kernel_rfl)|omega|assumption|with_reducible rfl|skip)
 (simp only [vrt,Tryz.results81,vkt,seval,Qco,qf,qc];refine Fin.ok some [] ?_ ?_ ?_ ?_ ?_ rfl;all_goals (try simp only [vle,vkt,seval]))
 all_goals first|rfl|(simp;done)|exact fun i hi=>(match i,hi with|0,_=>rfl|1,_=>rfl|2,_=>rfl)
def ji (c:Chart) (a:Ask):List AObj:=[qf c.cabins c.secs 2,.cells [.ptr 0 0],qc c.sold,.cells (qj a)]
def xg (c:Chart) (a:Ask) (j:Nat):List AV:=[.agg [qb ((plP c a).getD j default).1,.clo 81 [.ptr 1 0]]]
def yI (c:Chart) (a:Ask) (j:Nat):List AObj:=bL3 c.cabins c.secs ((plP c a).getD j default).2
def bgL0:List (Nat × AV):=[(1,.ptr 1 0),(3,.ptr 4 0),(7,.clo 140 [.ptr 5 0,.ptr 6 0])]
def bgL:List (Nat × AV):=[(1,.ptr 1 0),(3,.ptr 4 0)]
def bgH (a:Ask):List (Nat × AObj):=[(1,.cells [.ptr 0 0]),(3,.cells (qj a)),(4,.cells [.cb])]
theorem YU (c:Chart) (a:Ask):qO [0,2,5,6] 8 0 (plL c a)=[(0,qf c.cabins c.secs 2),(2,qc c.sold),(5,.cells [.ptr 0 0]),(6,.cells (qj a))]:=by
 simp [qO,plL,qg,AObj.ren,AV.renL,AV.ren,qf,qc,qj]
theorem K9 (c:Chart) (a:Ask) (j:Nat):qO [0] 8 0 (plH c a j)=[(0,qf c.cabins c.secs 8),(8,qc ((plP c a).getD j default).2)]:=by
 simp [qO,plH,qH,qg,AObj.ren,AV.renL,AV.ren,qf,qc]
def Zn:=jv @WB (jv @Qn (jv @ty150 (jv @QjN (jv @QT.eq_1 (jv @xh.eq_1 (jv @Qb6.eq_1 @Qab.eq_1))))))
def KC:=jv @aI.eq_1 (jv @aB.eq_1 (@WK))
theorem Qht {c:Chart} {a:Ask} (h:PlOk c a):QcD Tryz.prog 80 [.cb,.ptr 1 0,.ptr 3 0] (nth ((ji c a).take 2)) (nth (ji c a)) (xg c a) (plP c a).length (fun j=>nth (yI c a j)) (fun _ _=>.tup []):=by
 intro ans R hr
 rw [W9,W9]
 obtain ⟨A0,hA0⟩:∃ A0:Frm->Prop,A0=fun F=>F.r=none/\Acb Tryz.prog (qa (qz 0 ((ji c a).take 2))) (qa (qz 0 (ji c a))) (xg c a) (fun j=>nth (yI c a j)) ans R F:=⟨_,rfl⟩
 have hr0:∀ F,A0 F->F.r=none:=fun F h=>by rw [hA0] at h;exact h.1
 have hA:∀ F,A0 F->Acb Tryz.prog (qa (qz 0 ((ji c a).take 2))) (qa (qz 0 (ji c a))) (xg c a) (fun j=>nth (yI c a j)) ans R F:=fun F h=>by rw [hA0] at h;exact h.2
 have hp2:∀ i o,qa (qz 0 ((ji c a).take 2)) i=some o->i=0\/i=1:=fun i o hi=>by
  rw [zT,if_neg (by omega)] at hi
  have:=(al.1 hi).1
  simp [ji] at this
  omega
 have env:Env A0 Tryz.prog tyB (tab [(78,fnE jZ)]):=qB ⟨Yz,trivial⟩
 refine Fn.of (A:=A0) (n0:=4) (D:=noD) (Fn0 Tryz.func80 rfl (fun vs w=>by kernel_rfl) (by kernel_rfl)) (by simp) (by simp [AV.ids]) ?_ (fun F hb h0 h1=>by rw [hA0];exact ⟨h1,h0,fun i o hi=>(by rcases hp2 i o hi with rfl|rfl <;> exact ⟨_,rfl⟩),hb⟩) q9 ?_
 ·intro i o hi
  have h:=qE hi
  simp [qz,ji] at h
  rcases h with ⟨rfl,rfl⟩|⟨rfl,rfl⟩|⟨rfl,rfl⟩|⟨rfl,rfl⟩ <;> simp [AObj.ids,AV.ids,AV.idsL,qf,qc,qj]
 show Sym _ _ _ (qP [.cb,.ptr 1 0,.ptr 3 0] 4 (qa [(0,qf c.cabins c.secs 2),(1,.cells [.ptr 0 0]),(2,qc c.sold),(3,.cells (qj a))])) (jP tyB noD Tryz.f80 fun S rv=>Fin S rv _ 4 (qa [(0,qf c.cabins c.secs 2),(1,.cells [.ptr 0 0]),(2,qc c.sold),(3,.cells (qj a))]) R)
 repeat' first|(apply nx;with_reducible constructor)|apply jq (by decide)|((first|apply jz env|apply jw);intro Q hQ;simp only [vkt,seval,Zn,KC,qj,mTk,qD,qf,qc,qH,plL,jZ,hwL,ite_and];(repeat' first|with_reducible assumption|apply jv|intro hp);all_goals first|(apply hQ;clear hQ Q)|(apply jx;kernel_rfl)|omega|assumption|with_reducible rfl|skip)
 refine ve (S':={ t:=asg bgL0,h:=qa (bgH a++[(0,qf c.cabins c.secs 2),(2,qc c.sold),(5,.cells [.ptr 0 0]),(6,.cells (qj a))]),n:=7,j:=0,d:=[],m:=4 }) ?_ ?_
 ·show Le _ { t:=asg [(1,.ptr 1 0),(3,.ptr 4 0),(7,.clo 140 [.ptr 5 0,.ptr 6 0])],h:=qa [(1,.cells [.ptr 0 0]),(3,.cells (qj a)),(4,.cells [.cb]),(0,qf c.cabins c.secs 2),(2,qc c.sold),(5,.cells [.ptr 0 0]),(6,.cells (qj a))],n:=7,j:=0,d:=[],m:=4 }
  (refine Le.ok some [] ?_;constructor;all_goals (try simp only [vle,vkt,seval,qj,qf,qc]))
  all_goals first|rfl|simp
 rw [<- YU c a]
 refine yw hr0 1 (L:=bgL0) (L':=bgL) (xs:=[2]) (hs:=[0,2,5,6]) (n:=7) (nl:=1) (hc:=fun _=>bgH a) (Lp:=plL c a) (jj:=fun j=>j) (d:=[]) (ys:=plY c a) (hl:=plH c a) (ans:=ans) (ex:=.ret) (caps:=[.ptr 5 0,.ptr 6 0]) (caps0:=[.ptr 2 0,.ptr 3 0]) (N:=(plP c a).length) (R:=R) (A':=fun j=>Acb Tryz.prog (qa (qz 0 ((ji c a).take 2))) (qa ((7,.mark) :: bgH a++qO [0] 8 0 (plH c a j))) (fun k=>xg c a (j+k)) (fun k=>nth (yI c a (j+k))) (fun k=>ans (j+k)) (R - j)) rfl (ZB h) hr (.inl rfl) ?_ ?_ ?_ rfl (by simp) ?_ (by simp) ?_ ?_ ?_ ?_ ?_ ?_ ?_ (fun j hj=>?_) ?_ (fun j hj=>?_) (fun _=>?_) (fun hpos hlast=>?_)
 ·simp [AV.leL,AV.le]
 ·simp [AV.nocbL,AV.nocb]
 ·simp [Z9,plL,qf,qc,qj,AObj.nocb,AV.nocbL,AV.nocb,AObj.ids,AV.ids,AV.idsL,AObj.ren,AV.renL,AV.ren,AObj.le,AV.leL,AV.le,qg]
 ·simp [bgH,qa]
 ·intro F hF j hj F' hR
  refine XJ (hA F hF) hR fun i o hi=>?_
  rcases hp2 i o hi with rfl|rfl
  ·exact ⟨_,rfl⟩
  ·exact ⟨_,rfl⟩
 ·simp [bgH,qa]
 ·simp [bgH,AObj.ids,AV.ids,AV.idsL,qj]
 ·simp [LZ,bgL,bgL0,asg]
 ·simp [Qa9]
 ·intro j hj
  simp [absent,bgH,K9]
 ·simp [JR,bgL,AV.ids]
 ·refine ⟨?_,rfl, ?_, ?_,rfl, ?_⟩
  ·simp [ku,bgH,AObj.ids,AV.ids,AV.idsL,qj]
  ·simp [Za,plH,qH,qf,qc,AObj.nocb,AV.nocbL,AV.nocb,AObj.ids,AV.ids,AV.idsL]
  ·simp [Vx,plY,qb,AV.nocb,AV.ids]
  ·simp [xV,Wh,K9,bgH,bgL,yU,AV.ids,ADf.ids,bB]
 ·simp [ku,bgH,AObj.ids,AV.ids,AV.idsL,qj]
 ·obtain ⟨x,hx⟩:∃ x,((plP c a).getD j default).1=x:=⟨_,rfl⟩
  obtain ⟨r,hr2⟩:∃ r,((plP c a).getD j default).2=r:=⟨_,rfl⟩
  obtain ⟨A1,hA1⟩:∃ A1:Frm->Prop,A1=Acb Tryz.prog (qa (qz 0 ((ji c a).take 2))) (qa ((7,.mark) :: bgH a++qO [0] 8 0 (plH c a j))) (fun k=>xg c a (j+k)) (fun k=>nth (yI c a (j+k))) (fun k=>ans (j+k)) (R - j):=⟨_,rfl⟩
  rw [<- hA1]
  have hB:∀ F,A1 F->Acb Tryz.prog (qa (qz 0 ((ji c a).take 2))) (qa ((7,.mark) :: bgH a++qO [0] 8 0 (plH c a j))) (fun k=>xg c a (j+k)) (fun k=>nth (yI c a (j+k))) (fun k=>ans (j+k)) (R - j) F:=fun F h=>hA1 ▸ h
  have env:Env A1 Tryz.prog tyB (Go.Sym.tabC (cbX [0,1,8] (fun k=>xg c a (j+k)) (fun k=>yI c a (j+k)) (fun k=>ans (j+k)) (R - j)) []):=⟨Y4,X5 (fun S bs h hS ops o g args tys caps hw ho hg hb=>JD hB (fun i o hi=>by rcases hp2 i o hi with rfl|rfl <;> rfl) (by simp) h hS hw ho hg hb) trivial,by kernel_rfl⟩
  have hst:wL bgL [8] [0] 7 1 (plY c a j) (bgH a) (plH c a j)={ t:=asg [(8,qb x),(1,.ptr 1 0),(3,.ptr 4 0)],h:=qa [(7,.mark),(1,.cells [.ptr 0 0]),(3,.cells (qj a)),(4,.cells [.cb]),(0,qf c.cabins c.secs 8),(8,qc r)],n:=9,m:=9 }:=by
   simp only [wL,Nat.reduceAdd,K9,plY,hx,hr2,qb,af,au,AV.ren,ck,cw,bgH,bgL,Qh,aT,aG]
   rfl
  show Sym _ _ _ (wL bgL [8] [0] 7 1 (plY c a j) (bgH a) (plH c a j)) _
  rw [hst]
  have hjR:0 < R - j:=by omega
  cases hb:ans j with
  |true =>
   repeat' first|(apply nx;with_reducible constructor)|apply jq (by decide)|((first|apply jz env|apply jw);intro Q hQ;simp only [vkt,seval,Zn,qj,qb,qf,qc,bL3,xg,yI,Go.Sym.tabC,cbX,vH,hwL,hx,hr2,hjR,hb,ite_and];(repeat' first|with_reducible assumption|apply jv|intro hp);all_goals first|(apply hQ;clear hQ Q)|(apply jx;kernel_rfl)|omega|assumption|with_reducible rfl|skip)
   refine ⟨by rw [hb];rfl,rfl,some,_,RFin.okQ some [] ?_⟩
   constructor
   all_goals (try simp only [vle,yS,yH,qg,plH,bgH,hr2,vkt,seval,qj,qf,qc,qH,bgL])
   all_goals first|rfl|(simp;done)|(simp [qj,AV.leL,AV.le];done)
  |false =>
   repeat' first|(apply nx;with_reducible constructor)|apply jq (by decide)|((first|apply jz env|apply jw);intro Q hQ;simp only [vkt,seval,Zn,qj,qb,qf,qc,bL3,xg,yI,Go.Sym.tabC,cbX,vH,hwL,hx,hr2,hjR,hb,ite_and];(repeat' first|with_reducible assumption|apply jv|intro hp);all_goals first|(apply hQ;clear hQ Q)|(apply jx;kernel_rfl)|omega|assumption|with_reducible rfl|skip)
   refine ⟨by rw [hb];rfl,rfl,some,_,RFin.okQ some [] ?_⟩
   constructor
   all_goals (try simp only [vle,yS,yH,qg,plH,bgH,hr2,vkt,seval,qj,qf,qc,qH,bgL])
   all_goals first|rfl|(simp;done)|(simp [qj,AV.leL,AV.le];done)
 ·have eh:qa ((7,AObj.mark) :: bgH a++qO [0,2,5,6] (7+1) 0 (plL c a))=qa [(7,.mark),(1,.cells [.ptr 0 0]),(3,.cells (qj a)),(4,.cells [.cb]),(0,qf c.cabins c.secs 2),(2,qc c.sold),(5,.cells [.ptr 0 0]),(6,.cells (qj a))]:=by
   rw [show qO [0,2,5,6] (7+1) 0 (plL c a)=qO [0,2,5,6] 8 0 (plL c a) from rfl,YU];rfl
  rw [eh]
  repeat' first|(apply nx;with_reducible constructor)|apply jq (by decide)|((first|apply jz env|apply jw);intro Q hQ;simp only [vkt,seval,Zn,KC,zh,qj,qb,mTk,qD,qf,qc,qH,plL,bgL,jZ,bL3,xg,yI,aj,Go.Sym.tabC,cbX,Yk,vH,nth,hwL,bj,aP,bg,ite_and];(repeat' first|with_reducible assumption|apply jv|intro hp);all_goals first|(apply hQ;clear hQ Q)|(apply jx;kernel_rfl)|omega|assumption|with_reducible rfl|skip)
  (simp only [vrt,Tryz.results80,vkt,seval,qj,qf,qc,bgL];refine Fin.ok some [] ?_ ?_ ?_ ?_ ?_ rfl;all_goals (try simp only [vle,vkt,seval]))
  all_goals first|rfl|(simp [qj,AV.leL,AV.le];done)|exact fun i hi=>(match i,hi with|0,_=>rfl|1,_=>rfl|2,_=>rfl|3,_=>rfl)
 ·have eh:qa ((7,AObj.mark) :: bgH a++qO [0,2,5,6] (7+1) 0 (plL c a))=qa [(7,.mark),(1,.cells [.ptr 0 0]),(3,.cells (qj a)),(4,.cells [.cb]),(0,qf c.cabins c.secs 2),(2,qc c.sold),(5,.cells [.ptr 0 0]),(6,.cells (qj a))]:=by
   rw [show qO [0,2,5,6] (7+1) 0 (plL c a)=qO [0,2,5,6] 8 0 (plL c a) from rfl,YU];rfl
  rw [eh]
  repeat' first|(apply nx;with_reducible constructor)|apply jq (by decide)|((first|apply jz env|apply jw);intro Q hQ;simp only [vkt,seval,Zn,KC,zh,qj,qb,mTk,qD,qf,qc,qH,plL,bgL,jZ,bL3,xg,yI,aj,Go.Sym.tabC,cbX,Yk,vH,nth,hwL,bj,aP,bg,ite_and];(repeat' first|with_reducible assumption|apply jv|intro hp);all_goals first|(apply hQ;clear hQ Q)|(apply jx;kernel_rfl)|omega|assumption|with_reducible rfl|skip)
  (simp only [vrt,Tryz.results80,vkt,seval,qj,qf,qc,bgL];refine Fin.ok some [] ?_ ?_ ?_ ?_ ?_ rfl;all_goals (try simp only [vle,vkt,seval]))
  all_goals first|rfl|(simp [qj,AV.leL,AV.le];done)|exact fun i hi=>(match i,hi with|0,_=>rfl|1,_=>rfl|2,_=>rfl|3,_=>rfl)
theorem XC {cs:List Cabin} {a:Ask} {p:Tk->Prop}:∀ (m:Nat) (sold:List Tk) (begun:List Bunk),(∀ t ∈ sold,p t)->(∀ i b,i < begun.length+m->b ∈ qW cs->p (ZV a i b))->∀ x ∈ zO cs a m sold begun,(∀ t ∈ x.2,p t)/\x.2.length=sold.length+m
 |0,sold,begun,h1,_,x,hx=>by
  simp only [zO,aO] at hx
  subst hx
  exact ⟨h1,rfl⟩
 |m+1,sold,begun,h1,h2,x,hx=>by
  rw [Qw,cZ] at hx
  obtain ⟨b,hb,hx⟩:=hx
  unfold gbL at hx
  split at hx
  ·obtain ⟨g1,g2⟩:=XC m _ _ (fun t ht=>by
    rcases aw.1 ht with ht|ht
    ·exact h1 t ht
    ·rw [aO.1 ht];exact h2 _ _ (by omega) hb) (fun i b' hi hb'=>h2 i b' (by simp at hi;omega) hb') x hx
   exact ⟨g1,by rw [g2];simp;omega⟩
  ·simp at hx
theorem Qlm {c:Chart} {a:Ask} (h:wo c a=0) {i:Nat} (hi:i < a.sexes.length) {b:Bunk} (hb:b ∈ qW c.cabins):TkOk c (ZV a i b):=by
 have hk:=(kz h).2
 unfold Qq at hk
 split at hk
 ·exact absurd hk (by decide)
 rename_i h1
 split at hk
 ·exact absurd hk (by decide)
 split at hk
 ·exact absurd hk ‹_›
 rename_i h3
 split at hk
 ·exact absurd hk ‹_›
 have g1:inB a.party 1 99=true:=by simpa using h1
 obtain ⟨w1,w2,w3⟩:=Ry (Decidable.not_not.1 h3)
 have gs:=Zr hk _ (am.2 ⟨a.sexes.getD i 0,yX hi,rfl⟩)
 have g2:inB (a.sexes.getD i 0) 1 2=true:=by
  cases hq:inB (a.sexes.getD i 0) 1 2 with
  |true=>rfl
  |false=>rw [hq] at gs;exact absurd gs (by decide)
 obtain ⟨x,y,b1,b2,rfl⟩:=Uk.1 hb
 refine ⟨jo.1 g1,jo.1 g2,⟨cJ _,by simpa [ZV] using b1⟩,⟨cJ _, ?_⟩,w1,w2,w3⟩
 show (y:Int) < (c.cabins.getD ((x:Int)).toNat default).beds
 rw [cn]
 omega
theorem Qlj {c:Chart} {a:Ask} (h:wo c a=0) {j:Nat} (hj:j < (plP c a).length):Van ⟨c.cabins,c.secs,((plP c a).getD j default).2⟩:=by
 have hv:=kU (kz h).1
 have hs:=(QfY (kz h).2).1
 obtain ⟨g1,g2⟩:=XC (p:=TkOk c) a.sexes.length c.sold [] hv.tk (fun i b hi hb=>Qlm h (by simpa using hi) hb) _ (yX (d:=default) hj)
 have hm:=hv.many
 exact ⟨⟨hv.car.cabs,hv.car.beds,hv.car.secs⟩,by show ((plP c a).getD j default).2.length<=100;rw [show ((plP c a).getD j default).2.length=c.sold.length+a.sexes.length from g2];omega,fun t ht=>⟨(g1 t ht).party,(g1 t ht).sex,(g1 t ht).cab,(g1 t ht).bed,(g1 t ht).frm,(g1 t ht).way,(g1 t ht).to⟩⟩
def pBb (S:St):List AV->Option Pk
 |[.ptr q 0]=>match S.h q with
  |some (.cells [.ptr p 0])=>match S.h p with
   |some (.cells [.sl cs,.v (.int .i64 s),.row r])=>match S.h r with
    |some (.row _ _ xs)=>some { pre:=cs=(cs.map qp).map qo/\xs=(xs.map dTk).map eTk/\Van ⟨cs.map qp,s,xs.map dTk⟩,hs:=[p,q,r],ar:=[.ptr 1 0],L0:=bL3 (cs.map qp) s (xs.map dTk),v:=aI (QR (cs.map qp) s (xs.map dTk)),L1:=(bL3 (cs.map qp) s (xs.map dTk)).map some }
    |_=>none
   |_=>none
  |_=>none
 |_=>none
theorem eBb {A:Frm->Prop}:qm A Tryz.prog 81 (fnE pBb):=zB fun S bs q h hp=>by
 unfold pBb at h
 split at h
 ·split at h
  ·split at h
   ·split at h
    ·cases h;exact bb_fn _ _ _ hp.2.2
    ·cases h
   ·cases h
  ·cases h
 ·cases h
def bsK (c:Chart) (a:Ask):Nat->Bool × List Bunk × Int
 |0=>(false,[],0)
 |j+1=>if !(bsK c a j).1 || decide ((bsK c a j).2.2 < QR c.cabins c.secs ((plP c a).getD j default).2) then (true,((plP c a).getD j default).1,QR c.cabins c.secs ((plP c a).getD j default).2) else bsK c a j
def beL0:List (Nat × AV):=[(2,.ptr 4 0),(3,.ptr 5 0),(4,.ptr 6 0),(7,.clo 80 [.ptr 1 0,.ptr 3 0])]
def beL:List (Nat × AV):=[(2,.ptr 4 0),(3,.ptr 5 0),(4,.ptr 6 0)]
def beH (c:Chart) (a:Ask) (j:Nat):List (Nat × AObj):=[(4,.cells [.sl ((bsK c a j).2.1.map qI)]),(5,.cells [aB (bsK c a j).1]),(6,.cells [aI (bsK c a j).2.2])]
theorem YX (c:Chart) (a:Ask):qO [0,1,2,3] 8 0 (ji c a)=[(0,qf c.cabins c.secs 2),(1,.cells [.ptr 0 0]),(2,qc c.sold),(3,.cells (qj a))]:=by
 simp [qO,ji,qg,AObj.ren,AV.renL,AV.ren,qf,qc,qj]
theorem Ku (c:Chart) (a:Ask) (j:Nat):qO [0,1] 8 0 (yI c a j)=[(0,qf c.cabins c.secs 8),(1,.cells [.ptr 0 0]),(8,qc ((plP c a).getD j default).2)]:=by
 simp [qO,yI,bL3,qg,AObj.ren,AV.renL,AV.ren,qf,qc]
def vo:=jv @ty3 (jv @ty4 (jv @VH (jv @xy (jv @ty153 (jv @QjN (jv @ti3.eq_1 (jv @ti4.eq_1 (jv @WP.eq_1 (jv @yY.eq_1 (jv @Qct.eq_1 @Qab.eq_1))))))))))
def xk:=jv @aI.eq_1 (@aB.eq_1)
theorem Qic {c:Chart} {a:Ask} (h:wo c a=0):Fn noB Tryz.prog 79 [.clo 80 [.ptr 1 0,.ptr 3 0]] (qa (qz 0 (ji c a))) (.tup [.sl ((bsK c a (plP c a).length).2.1.map qI),aB (bsK c a (plP c a).length).1]) (qa (za 0 ((ji c a).map some))) 0:=by
 have hok:=Qs h
 have env:Env (fun F=>F.r=none) Tryz.prog tyB (tab []):=qB trivial
 refine Fn.of (A:=fun F=>F.r=none) (n0:=4) (D:=noD) (Fn0 Tryz.func79 rfl (fun vs w=>by kernel_rfl) (by kernel_rfl)) (by simp) (by simp [AV.ids,AV.idsL]) ?_ (fun _ _ _ h=>h) q9 ?_
 ·intro i o hi
  have h:=qE hi
  simp [qz,ji] at h
  rcases h with ⟨rfl,rfl⟩|⟨rfl,rfl⟩|⟨rfl,rfl⟩|⟨rfl,rfl⟩ <;> simp [AObj.ids,AV.ids,AV.idsL,qf,qc,qj]
 obtain ⟨N,hN⟩:∃ N,(plP c a).length=N:=⟨_,rfl⟩
 rw [hN]
 show Sym _ _ _ (qP [.clo 80 [.ptr 1 0,.ptr 3 0]] 4 (qa [(0,qf c.cabins c.secs 2),(1,.cells [.ptr 0 0]),(2,qc c.sold),(3,.cells (qj a))])) (jP tyB noD Tryz.f79 fun S rv=>Fin S rv _ 4 (qa [(0,qf c.cabins c.secs 2),(1,.cells [.ptr 0 0]),(2,qc c.sold),(3,.cells (qj a))]) 0)
 repeat' first|(apply nx;with_reducible constructor)|apply jq (by decide)|((first|apply jz env|apply jw);intro Q hQ;simp only [vkt,seval,vo,qf,qc,ite_and];(repeat' first|with_reducible assumption|apply jv|intro hp);all_goals first|(apply hQ;clear hQ Q)|(apply jx;kernel_rfl)|omega|assumption|with_reducible rfl|skip)
 refine ve (S':={ t:=asg beL0,h:=qa (beH c a 0++[(0,qf c.cabins c.secs 2),(1,.cells [.ptr 0 0]),(2,qc c.sold),(3,.cells (qj a))]),n:=7,j:=0,d:=[],m:=4 }) ?_ ?_
 ·show Le _ { t:=asg [(2,.ptr 4 0),(3,.ptr 5 0),(4,.ptr 6 0),(7,.clo 80 [.ptr 1 0,.ptr 3 0])],h:=qa [(4,.cells [.sl []]),(5,.cells [aB false]),(6,.cells [aI 0]),(0,qf c.cabins c.secs 2),(1,.cells [.ptr 0 0]),(2,qc c.sold),(3,.cells (qj a))],n:=7,j:=0,d:=[],m:=4 }
  (refine Le.ok some [] ?_;constructor;all_goals (try simp only [vle,vkt,seval,xk,qf,qc]))
  all_goals first|rfl|(simp [qj,AV.leL,AV.le,AV.idsL,AV.ids];done)
 rw [<- YX c a]
 refine yw (fun F h=>h) 2 (L:=beL0) (L':=beL) (xs:=[2,3]) (hs:=[0,1,2,3]) (n:=7) (nl:=1) (hc:=beH c a) (Lp:=ji c a) (jj:=fun _=>0) (d:=[]) (ys:=xg c a) (hl:=yI c a) (ans:=fun _=>true) (ex:=.ret) (caps:=[.ptr 1 0,.ptr 3 0]) (caps0:=[.ptr 1 0,.ptr 3 0]) (N:=(plP c a).length) (R:=N) (A':=fun _ _=>True) rfl (Qht hok) (by rw [hN];exact KS) (.inl rfl) ?_ ?_ ?_ rfl (by simp) ?_ (by simp) (fun _ _ _ _ _ _=>trivial) ?_ ?_ ?_ ?_ ?_ ?_ (fun j hj=>?_) ?_ (fun j hj=>?_) (fun _=>?_) (fun _ h=>by cases h)
 ·simp [AV.leL,AV.le]
 ·simp [AV.nocbL,AV.nocb]
 ·simp [Z9,ji,qf,qc,qj,AObj.nocb,AV.nocbL,AV.nocb,AObj.ids,AV.ids,AV.idsL,AObj.ren,AV.renL,AV.ren,AObj.le,AV.leL,AV.le,qg]
 ·simp [beH,qa]
 ·simp [beH,qa]
 ·simp [beH,AObj.ids,AV.ids,AV.idsL,aB,aI]
 ·simp [LZ,beL,beL0,asg]
 ·simp [Qa9]
 ·intro j hj
  simp [absent,beH,Ku]
 ·simp [JR,beL,AV.ids]
 ·refine ⟨?_,rfl, ?_, ?_,rfl, ?_⟩
  ·simp [ku,beH,AObj.ids,AV.ids,AV.idsL,aB,aI]
  ·simp [Za,yI,bL3,qf,qc,AObj.nocb,AV.nocbL,AV.nocb,AObj.ids,AV.ids,AV.idsL]
  ·simp [Vx,xg,qb,AV.nocb,AV.nocbL,AV.ids,AV.idsL]
  ·simp [xV,Wh,Ku,beH,beL,yU,AV.ids,ADf.ids,bB]
 ·simp [ku,beH,AObj.ids,AV.ids,AV.idsL,aB,aI]
 ·have env:Env (fun _:Frm=>True) Tryz.prog tyB (tab [(81,fnE pBb)]):=qB ⟨eBb,trivial⟩
  have hvan:=Qlj h (j:=j) (by omega)
  have hS:bsK c a (j+1)=if !(bsK c a j).1 || decide ((bsK c a j).2.2 < QR c.cabins c.secs ((plP c a).getD j default).2) then (true,((plP c a).getD j default).1,QR c.cabins c.secs ((plP c a).getD j default).2) else bsK c a j:=rfl
  obtain ⟨⟨x,r⟩,hx⟩:∃ x,(plP c a).getD j default=x:=⟨_,rfl⟩
  obtain ⟨⟨f,p,v⟩,hK⟩:∃ x,bsK c a j=x:=⟨_,rfl⟩
  simp only [hx,hK] at hS hvan
  obtain ⟨w,hw⟩:∃ w,QR c.cabins c.secs r=w:=⟨_,rfl⟩
  rw [hw] at hS
  have hst:wL beL [8] [0,1] 7 1 (xg c a j) (beH c a j) (yI c a j)={ t:=asg [(8,.agg [qb x,.clo 81 [.ptr 1 0]]),(2,.ptr 4 0),(3,.ptr 5 0),(4,.ptr 6 0)],h:=qa [(7,.mark),(4,.cells [.sl (p.map qI)]),(5,.cells [aB f]),(6,.cells [aI v]),(0,qf c.cabins c.secs 8),(1,.cells [.ptr 0 0]),(8,qc r)],n:=9,m:=9 }:=by
   simp only [wL,Nat.reduceAdd,Ku,xg,hx,hK,qb,af,au,AV.ren,AV.renL,ck,cw,beH,beL,Qh,aT,aG]
   rfl
  show Sym _ _ _ (wL beL [8] [0,1] 7 1 (xg c a j) (beH c a j) (yI c a j)) _
  rw [hst]
  cases f with
  |false =>
   simp only [Bool.not_false,Bool.true_or,if_true] at hS
   repeat' first|(apply nx;with_reducible constructor)|apply jq (by decide)|((first|apply jz env|apply jw);intro Q hQ;simp only [vkt,seval,vo,xk,qb,mTk,qD,qf,qc,bL3,pBb,hwL,hvan,hw,ite_and];(repeat' first|with_reducible assumption|apply jv|intro hp);all_goals first|(apply hQ;clear hQ Q)|(apply jx;kernel_rfl)|omega|assumption|with_reducible rfl|skip)
   all_goals (refine ⟨rfl,rfl,some,_,RFin.okQ some [] ?_⟩;constructor)
   all_goals (try simp only [vle,yS,yH,qg,yI,beH,hx,hS,vkt,seval,xk,qf,qc,bL3,beL])
   all_goals first|rfl|(simp;done)|(simp [beL,yU,AV.ids,ADf.ids,bB];done)
  |true =>
   cases hd:decide (v < w) with
   |true =>
    simp only [hd,dw,Bool.false_or,if_true] at hS
    repeat' first|(apply nx;with_reducible constructor)|apply jq (by decide)|((first|apply jz env|apply jw);intro Q hQ;simp only [vkt,seval,vo,xk,qb,mTk,qD,qf,qc,bL3,pBb,hwL,hvan,hw,hd,ite_and];(repeat' first|with_reducible assumption|apply jv|intro hp);all_goals first|(apply hQ;clear hQ Q)|(apply jx;kernel_rfl)|omega|assumption|with_reducible rfl|skip)
    all_goals (refine ⟨rfl,rfl,some,_,RFin.okQ some [] ?_⟩;constructor)
    all_goals (try simp only [vle,yS,yH,qg,yI,beH,hx,hS,vkt,seval,xk,qf,qc,bL3,beL])
    all_goals first|rfl|(simp;done)|(simp [beL,yU,AV.ids,ADf.ids,bB];done)
   |false =>
    simp only [hd,dw,Bool.false_or,bS,if_false] at hS
    repeat' first|(apply nx;with_reducible constructor)|apply jq (by decide)|((first|apply jz env|apply jw);intro Q hQ;simp only [vkt,seval,vo,xk,qb,mTk,qD,qf,qc,bL3,pBb,hwL,hvan,hw,hd,ite_and];(repeat' first|with_reducible assumption|apply jv|intro hp);all_goals first|(apply hQ;clear hQ Q)|(apply jx;kernel_rfl)|omega|assumption|with_reducible rfl|skip)
    all_goals (refine ⟨rfl,rfl,some,_,RFin.okQ some [] ?_⟩;constructor)
    all_goals (try simp only [vle,yS,yH,qg,yI,beH,hx,hS,vkt,seval,xk,qf,qc,bL3,beL])
    all_goals first|rfl|(simp;done)|(simp [beL,yU,AV.ids,ADf.ids,bB];done)
 ·have eh:qa ((7,AObj.mark) :: beH c a N++qO [0,1,2,3] (7+1) 0 (ji c a))=qa [(7,.mark),(4,.cells [.sl ((bsK c a N).2.1.map qI)]),(5,.cells [aB (bsK c a N).1]),(6,.cells [aI (bsK c a N).2.2]),(0,qf c.cabins c.secs 2),(1,.cells [.ptr 0 0]),(2,qc c.sold),(3,.cells (qj a))]:=by
   rw [show qO [0,1,2,3] (7+1) 0 (ji c a)=qO [0,1,2,3] 8 0 (ji c a) from rfl,YX];rfl
  rw [eh,YX c a]
  repeat' first|(apply nx;with_reducible constructor)|apply jq (by decide)|((first|apply jz env|apply jw);intro Q hQ;simp only [vkt,seval,vo,xk,qf,qc,beL,ite_and];(repeat' first|with_reducible assumption|apply jv|intro hp);all_goals first|(apply hQ;clear hQ Q)|(apply jx;kernel_rfl)|omega|assumption|with_reducible rfl|skip)
  (simp only [vrt,Tryz.results79,vkt,seval,vo,xk,qf,qc];refine Fin.ok some [] ?_ ?_ ?_ ?_ ?_ rfl;all_goals (try simp only [vle,vkt,seval]))
  all_goals first|rfl|(simp [qj,AV.leL,AV.le];done)|exact fun i hi=>(match i,hi with|0,_=>rfl|1,_=>rfl|2,_=>rfl|3,_=>rfl)
def Uw (c:Chart) (a:Ask) (S:St):List AV->Option Pk
 |[.clo f [.ptr q 0,.ptr p3 0]]=>match S.h q with
  |some (.cells [.ptr p 0])=>match S.h p with
   |some (.cells [_,_,.row r])=>some { pre:=f=80/\wo c a=0,hs:=[p,q,r,p3],ar:=[.clo 80 [.ptr 1 0,.ptr 3 0]],L0:=ji c a,v:=.tup [.sl ((bsK c a (plP c a).length).2.1.map qI),aB (bsK c a (plP c a).length).1],L1:=(ji c a).map some }
   |_=>none
  |_=>none
 |_=>none
theorem eBest {A:Frm->Prop} {c:Chart} {a:Ask}:qm A Tryz.prog 79 (fnE (Uw c a)):=zB fun S bs q h hp=>by
 unfold Uw at h
 split at h
 ·split at h
  ·split at h
   ·cases h;exact Qic hp.2
   ·cases h
  ·cases h
 ·cases h
def Zf (c:Chart) (a:Ask):List Bunk × Int:=if wo c a=0 then (if (bsK c a (plP c a).length).1 then ((bsK c a (plP c a).length).2.1,0) else ([],11)) else ([],wo c a)
def WJ:=jv @jW (jv @Zq (jv @WB (jv @Qn (jv @jE.eq_1 (jv @kY.eq_1 (jv @QT.eq_1 @xh.eq_1))))))
def ZQ:=jv @aI.eq_1 (jv @aB.eq_1 (@WK))
theorem Qim (c:Chart) (a:Ask) (hc:c.cabins.length<=maxLen) (ha:a.sexes.length<=maxLen):FnV Tryz.prog 29 [qh c,zh a] (.tup [.sl ((Zf c a).1.map qI),aI (Zf c a).2]):=by
 have env:Env (fun _=>True) Tryz.prog tyB (tab [(76,fnE jS),(79,fnE (Uw c a))]):=qB ⟨Vj,eBest,trivial⟩
 refine Fn.of (A:=fun _=>True) (n0:=0) (D:=noD) (Fn0 Tryz.func29 rfl (fun vs w=>by kernel_rfl) (by kernel_rfl)) (by simp) (by simp [AV.ids,AV.idsL,qh,qd,zh,qj]) (fun i o h=>by cases h) (fun _ _ _ _=>trivial) q9 ?_
 have ec:(⟨c.cabins,c.secs,c.sold⟩:Chart)=c:=rfl
 have ea:(⟨a.party,a.frm,a.to,a.sexes,a.dog⟩:Ask)=a:=rfl
 by_cases h0:wo c a=0
 ·obtain ⟨⟨f,p,v⟩,hK⟩:∃ x,bsK c a (plP c a).length=x:=⟨_,rfl⟩
  cases f with
  |true =>
   rw [show Zf c a=(p,0) by unfold Zf;rw [if_pos h0,hK];rfl]
   repeat' first|(apply nx;with_reducible constructor)|apply jq (by decide)|((first|apply jz env|apply jw);intro Q hQ;simp only [vkt,seval,WJ,ZQ,qh,qd,zh,qj,mTk,qD,qf,qc,qH,ji,jS,Uw,ec,ea,h0,hK,ite_and];(repeat' first|with_reducible assumption|apply jv|intro hp);all_goals first|(apply hQ;clear hQ Q)|(apply jx;kernel_rfl)|omega|assumption|with_reducible rfl|skip)
   (simp only [vrt,Tryz.results29,vkt,seval,ZQ];refine Fin.val rfl ?_;(try simp only [AV.le,AV.leL]))
   all_goals first|rfl|simp
  |false =>
   rw [show Zf c a=([],11) by unfold Zf;rw [if_pos h0,hK];rfl]
   repeat' first|(apply nx;with_reducible constructor)|apply jq (by decide)|((first|apply jz env|apply jw);intro Q hQ;simp only [vkt,seval,WJ,ZQ,qh,qd,zh,qj,mTk,qD,qf,qc,qH,ji,jS,Uw,ec,ea,h0,hK,ite_and];(repeat' first|with_reducible assumption|apply jv|intro hp);all_goals first|(apply hQ;clear hQ Q)|(apply jx;kernel_rfl)|omega|assumption|with_reducible rfl|skip)
   (simp only [vrt,Tryz.results29,vkt,seval,ZQ];refine Fin.val rfl ?_;(try simp only [AV.le,AV.leL]))
   all_goals first|rfl|simp
 ·rw [show Zf c a=([],wo c a) by unfold Zf;rw [if_neg h0]]
  repeat' first|(apply nx;with_reducible constructor)|apply jq (by decide)|((first|apply jz env|apply jw);intro Q hQ;simp only [vkt,seval,WJ,ZQ,qh,qd,zh,qj,mTk,qD,jS,ec,ea,h0,ite_and];(repeat' first|with_reducible assumption|apply jv|intro hp);all_goals first|(apply hQ;clear hQ Q)|(apply jx;kernel_rfl)|omega|assumption|with_reducible rfl|skip)
  (simp only [vrt,Tryz.results29,vkt,seval,ZQ];refine Fin.val rfl ?_;(try simp only [AV.le,AV.leL]))
  all_goals first|rfl|simp
def VL:=jv @xy @yY.eq_1
def Qh5:=jv @aI.eq_1 (@aB.eq_1)
theorem Qh6 (a b:Int):FnV Tryz.prog 34 [aI a,aI b] (qw ⟨a,b⟩):=by
 have env:=qB (A:=fun _=>True) kN
 refine kV (Fn0 Tryz.func34 rfl (fun vs w=>by kernel_rfl) (by kernel_rfl)) (by simp) (by simp [AV.ids,aI]) ?_
 repeat' first|(apply nx;with_reducible constructor)|apply jq (by decide)|((first|apply jz env|apply jw);intro Q hQ;simp only [vkt,seval,VL,Qh5,ite_and];(repeat' first|with_reducible assumption|apply jv|intro hp);all_goals first|(apply hQ;clear hQ Q)|(apply jx;kernel_rfl)|omega|assumption|with_reducible rfl|skip)
 (simp only [vrt,Tryz.results34,vkt,seval,VL,qw];refine Fin.val rfl ?_;(try simp only [AV.le,AV.leL]))
 all_goals first|rfl|simp
def QcF:List AV->Prop × AV
 |[.v (.int .i64 a),.v (.int .i64 b)]=>(True,qw ⟨a,b⟩)
 |_=>(False,.junk)
theorem QjV {A:Frm->Prop}:qm A Tryz.prog 34 (zU false QcF):=ze fun vs hv h=>by
 clear hv
 unfold QcF at h ⊢
 split at h
 ·rename_i a b;clear h
  refine ⟨by first|trivial|(repeat' split) <;> simp [AV.plain,AV.plainL,aI,aB,qx,qb,qy,qw,aTk,cTk],fun h=>absurd h (by decide), ?_⟩
  have:=Qh6 a b
  simp only [aI] at this
  first|exact this|(simp only [aI];exact this)
 ·exact h.elim
def Y6:=jv @yc @jM.eq_1
def Qif:=jv @aI.eq_1 (@aB.eq_1)
theorem Qi8 (p x c b f t:Int):FnV Tryz.prog 75 [aI p,aI x,aI c,aI b,aI f,aI t] (aTk ⟨p,x,c,b,f,t,false⟩):=by
 have env:=qB (A:=fun _=>True) (kC QjV kN)
 refine kV (Fn0 Tryz.func75 rfl (fun vs w=>by kernel_rfl) (by kernel_rfl)) (by simp) (by simp [AV.ids,aI]) ?_
 repeat' first|(apply nx;with_reducible constructor)|apply jq (by decide)|((first|apply jz env|apply jw);intro Q hQ;simp only [vkt,seval,Y6,Qif,qw,QcF,ite_and];(repeat' first|with_reducible assumption|apply jv|intro hp);all_goals first|(apply hQ;clear hQ Q)|(apply jx;kernel_rfl)|omega|assumption|with_reducible rfl|skip)
 (simp only [vrt,Tryz.results75,vkt,seval,Y6,aTk,cTk];refine Fin.val rfl ?_;(try simp only [AV.le,AV.leL]))
 all_goals first|rfl|simp
def Qca:List AV->Prop × AV
 |[.v (.int .i64 p),.v (.int .i64 x),.v (.int .i64 c),.v (.int .i64 b),.v (.int .i64 f),.v (.int .i64 t)]=>(True,aTk ⟨p,x,c,b,f,t,false⟩)
 |_=>(False,.junk)
theorem Qko {A:Frm->Prop}:qm A Tryz.prog 75 (zU false Qca):=ze fun vs hv h=>by
 clear hv
 unfold Qca at h ⊢
 split at h
 ·rename_i p x c b f t;clear h
  refine ⟨by first|trivial|(repeat' split) <;> simp [AV.plain,AV.plainL,aI,aB,qx,qb,qy,qw,aTk,cTk],fun h=>absurd h (by decide), ?_⟩
  have:=Qi8 p x c b f t
  simp only [aI] at this
  first|exact this|(simp only [aI];exact this)
 ·exact h.elim
end Go.Sym.B
namespace Go.Proofs
open Go Go.Shelf
def Tryz.lays156_ren:Go.Shelf.Ren:=⟨fun|156=>45|165=>91|166=>92|169=>93|240=>150|241=>151|276=>190|277=>191|n=>n,fun|31=>33|9=>9|3=>3|4=>4|0=>0|20=>20|72=>172|76=>176|70=>170|37=>99|75=>175|127=>242|164=>272|5=>5|80=>178|n=>n,fun|n=>n⟩
theorem Tryz.lays156:Go.Proofs.Lays.n156 Tryz.prog Tryz.lays156_ren:={
 mixed:=by kernel_rfl
 f156:=Tryz.func45.trans (congrArg some (by kernel_rfl))
 f165:=Tryz.func91.trans (congrArg some (by kernel_rfl))
 f166:=Tryz.func92.trans (congrArg some (by kernel_rfl))
 f169:=Tryz.func93.trans (congrArg some (by kernel_rfl))
 f240:=Tryz.func150.trans (congrArg some (by kernel_rfl))
 f241:=Tryz.func151.trans (congrArg some (by kernel_rfl))
 f276:=Tryz.func190.trans (congrArg some (by kernel_rfl))
 f277:=Tryz.func191.trans (congrArg some (by kernel_rfl))
 t0:=Tryz.underlying0
 a0:=Tryz.isAgg0
 z0:=Tryz.sizeOf0
 v0:=Tryz.zeroValue0
 t3:=Tryz.underlying3
 a3:=Tryz.isAgg3
 z3:=Tryz.sizeOf3
 v3:=Tryz.zeroValue3
 t4:=Tryz.underlying4
 a4:=Tryz.isAgg4
 z4:=Tryz.sizeOf4
 v4:=Tryz.zeroValue4
 t9:=Tryz.underlying9
 a9:=Tryz.isAgg9
 z9:=Tryz.sizeOf9
 v9:=Tryz.zeroValue9
 t20:=Tryz.underlying20
 a20:=Tryz.isAgg20
 z20:=Tryz.sizeOf20
 v20:=Tryz.zeroValue20
 t31:=Tryz.underlying33
 a31:=Tryz.isAgg33
 z31:=Tryz.sizeOf33
 v31:=Tryz.zeroValue33
 t37:=Tryz.underlying99
 a37:=Tryz.isAgg99
 z37:=Tryz.sizeOf99
 v37:=Tryz.zeroValue99
 t70:=Tryz.underlying170
 a70:=Tryz.isAgg170
 z70:=Tryz.sizeOf170
 v70:=Tryz.zeroValue170
 t72:=Tryz.underlying172
 a72:=Tryz.isAgg172
 z72:=Tryz.sizeOf172
 v72:=Tryz.zeroValue172
 t75:=Tryz.underlying175
 a75:=Tryz.isAgg175
 z75:=Tryz.sizeOf175
 v75:=Tryz.zeroValue175
 t76:=Tryz.underlying176
 a76:=Tryz.isAgg176
 z76:=Tryz.sizeOf176
 v76:=Tryz.zeroValue176
 t127:=Tryz.underlying242
 a127:=Tryz.isAgg242
 z127:=Tryz.sizeOf242
 v127:=Tryz.zeroValue242
 t164:=Tryz.underlying272
 a164:=Tryz.isAgg272
 z164:=Tryz.sizeOf272
 v164:=Tryz.zeroValue272 }
theorem Tryz.Builder_Extra_156:Builder.Extra Tryz.prog Tryz.lays156_ren:={
 sizeBuilder:=by kernel_rfl
 liesBuilder:=by kernel_rfl
 t5:=Tryz.underlying5
 a5:=Tryz.isAgg5
 z5:=Tryz.sizeOf5
 v5:=Tryz.zeroValue5
 infoByte:=by kernel_rfl
 cellsByte:=by kernel_rfl
 sizeByte:=by kernel_rfl
 neB5:=by decide }
open Go.RowKit in
theorem Tryz.strings_Join_none (a:Option Addr) (c:Nat) (sep:ByteArray) (w:World) :
  Calls Tryz.prog 45 #[.slice a 0 c,.string sep] w fun e w'=>e=.returned (.string ⟨#[]⟩)/\w'=w:=Any.strings_Join_none Tryz.lays156 Tryz.Builder_Extra_156 a c sep w
open Go.RowKit in
theorem Tryz.strings_Join (bk o c:Nat) (xs:List ByteArray) (sep:ByteArray) (w:World) (hcells:∀ (j:Nat) x,xs[j]?=some x->w.cell? ⟨bk,o+j,none⟩=some (.string x)) (hbk:bk < w.heap.size) (hN:xs.length<=140737488355328) (hcap:xs.length<=c) (hlen:(Lib.join (xs.map (·.data.toList)) sep.data.toList).length<=140737488355328) :
  Calls Tryz.prog 45 #[.slice (some ⟨bk,o,none⟩) xs.length c,.string sep] w fun e w'=>e=.returned (.string ⟨(Lib.join (xs.map (·.data.toList)) sep.data.toList).toArray⟩)/\Below w.heap.size w w':=Any.strings_Join Tryz.lays156 Tryz.Builder_Extra_156 bk o c xs sep w hcells hbk hN hcap hlen
def Tryz.laysM171_ren:Go.Shelf.Ren:=⟨fun|171=>43|243=>90|246=>149|283=>186|284=>187|285=>188|286=>189|129=>212|317=>211|318=>213|319=>214|320=>215|337=>225|338=>226|n=>n,fun|3=>3|9=>9|2=>2|4=>4|171=>267|0=>0|53=>90|37=>99|5=>5|173=>270|212=>293|51=>280|20=>20|213=>294|46=>93|232=>308|233=>309|n=>n,fun|17=>0|18=>2|19=>3|n=>n⟩
theorem Tryz.laysM171:Go.Proofs.LaysM.n171 Tryz.prog Tryz.laysM171_ren:={
 mixed:=by kernel_rfl
 f129:=Tryz.func212.trans (congrArg some (by kernel_rfl))
 f171:=Tryz.func43.trans (congrArg some (by kernel_rfl))
 f243:=Tryz.func90.trans (congrArg some (by kernel_rfl))
 f246:=Tryz.func149.trans (congrArg some (by kernel_rfl))
 f283:=Tryz.func186.trans (congrArg some (by kernel_rfl))
 f284:=Tryz.func187.trans (congrArg some (by kernel_rfl))
 f285:=Tryz.func188.trans (congrArg some (by kernel_rfl))
 f286:=Tryz.func189.trans (congrArg some (by kernel_rfl))
 f317:=Tryz.func211.trans (congrArg some (by kernel_rfl))
 f318:=Tryz.func213.trans (congrArg some (by kernel_rfl))
 f319:=Tryz.func214.trans (congrArg some (by kernel_rfl))
 f320:=Tryz.func215.trans (congrArg some (by kernel_rfl))
 f337:=Tryz.func225.trans (congrArg some (by kernel_rfl))
 f338:=Tryz.func226.trans (congrArg some (by kernel_rfl))
 t0:=Tryz.underlying0
 a0:=Tryz.isAgg0
 z0:=Tryz.sizeOf0
 v0:=Tryz.zeroValue0
 t2:=Tryz.underlying2
 a2:=Tryz.isAgg2
 z2:=Tryz.sizeOf2
 v2:=Tryz.zeroValue2
 t3:=Tryz.underlying3
 a3:=Tryz.isAgg3
 z3:=Tryz.sizeOf3
 v3:=Tryz.zeroValue3
 t4:=Tryz.underlying4
 a4:=Tryz.isAgg4
 z4:=Tryz.sizeOf4
 v4:=Tryz.zeroValue4
 t5:=Tryz.underlying5
 a5:=Tryz.isAgg5
 z5:=Tryz.sizeOf5
 v5:=Tryz.zeroValue5
 t9:=Tryz.underlying9
 a9:=Tryz.isAgg9
 z9:=Tryz.sizeOf9
 v9:=Tryz.zeroValue9
 t20:=Tryz.underlying20
 a20:=Tryz.isAgg20
 z20:=Tryz.sizeOf20
 v20:=Tryz.zeroValue20
 t37:=Tryz.underlying99
 a37:=Tryz.isAgg99
 z37:=Tryz.sizeOf99
 v37:=Tryz.zeroValue99
 t46:=Tryz.underlying93
 a46:=Tryz.isAgg93
 z46:=Tryz.sizeOf93
 v46:=Tryz.zeroValue93
 t51:=Tryz.underlying280
 a51:=Tryz.isAgg280
 z51:=Tryz.sizeOf280
 v51:=Tryz.zeroValue280
 t53:=Tryz.underlying90
 a53:=Tryz.isAgg90
 z53:=Tryz.sizeOf90
 v53:=Tryz.zeroValue90
 t171:=Tryz.underlying267
 a171:=Tryz.isAgg267
 z171:=Tryz.sizeOf267
 v171:=Tryz.zeroValue267
 t173:=Tryz.underlying270
 a173:=Tryz.isAgg270
 z173:=Tryz.sizeOf270
 v173:=Tryz.zeroValue270
 t212:=Tryz.underlying293
 a212:=Tryz.isAgg293
 z212:=Tryz.sizeOf293
 v212:=Tryz.zeroValue293
 t213:=Tryz.underlying294
 a213:=Tryz.isAgg294
 z213:=Tryz.sizeOf294
 t232:=Tryz.underlying308
 a232:=Tryz.isAgg308
 z232:=Tryz.sizeOf308
 v232:=Tryz.zeroValue308
 t233:=Tryz.underlying309
 a233:=Tryz.isAgg309
 z233:=Tryz.sizeOf309
 v233:=Tryz.zeroValue309
 g17:=by kernel_rfl
 g18:=by kernel_rfl
 g19:=by kernel_rfl
 i0:=by kernel_rfl
 i2:=by kernel_rfl
 i3:=by kernel_rfl
 i4:=by kernel_rfl
 i5:=by kernel_rfl
 i9:=by kernel_rfl
 i20:=by kernel_rfl
 i37:=by kernel_rfl
 i46:=by kernel_rfl
 i51:=by kernel_rfl
 i53:=by kernel_rfl
 i171:=by kernel_rfl
 i173:=by kernel_rfl
 i212:=by kernel_rfl
 i232:=by kernel_rfl
 i233:=by kernel_rfl
 m17:=by kernel_rfl
 m18:=by kernel_rfl
 m19:=by kernel_rfl }
open Go.RowKit Go.Sort Go.Lib in
theorem Tryz.strconv_Itoa (n : Int) (h0 : -9223372036854775808 <= n) (h1 : n <= 9223372036854775807) (w : World) (htab : Lib.TabIs Tryz.prog w "internal/strconv.uint64pow10" .u64 Lib.pow10Tab) :
  Calls Tryz.prog 43 #[.int .i64 n] w fun e w'=>e=.returned (.string ⟨(Lib.itoa n).toArray⟩)/\∃ k os,w'=grow (w.drewN k) os:=Any.strconv_Itoa Tryz.laysM171 n h0 h1 w htab
def Tryz.lays171_ren:Go.Shelf.Ren:=⟨fun|171=>43|243=>90|246=>149|283=>186|284=>187|285=>188|286=>189|129=>212|317=>211|318=>213|319=>214|320=>215|337=>225|338=>226|n=>n,fun|3=>3|9=>9|2=>2|4=>4|171=>267|0=>0|53=>90|37=>99|5=>5|173=>270|212=>293|51=>280|20=>20|213=>294|46=>93|232=>308|233=>309|n=>n,fun|17=>0|18=>2|19=>3|n=>n⟩
theorem Tryz.lays171:Go.Proofs.Lays.n171 Tryz.prog Tryz.lays171_ren:={
 mixed:=by kernel_rfl
 f129:=Tryz.func212.trans (congrArg some (by kernel_rfl))
 f171:=Tryz.func43.trans (congrArg some (by kernel_rfl))
 f243:=Tryz.func90.trans (congrArg some (by kernel_rfl))
 f246:=Tryz.func149.trans (congrArg some (by kernel_rfl))
 f283:=Tryz.func186.trans (congrArg some (by kernel_rfl))
 f284:=Tryz.func187.trans (congrArg some (by kernel_rfl))
 f285:=Tryz.func188.trans (congrArg some (by kernel_rfl))
 f286:=Tryz.func189.trans (congrArg some (by kernel_rfl))
 f317:=Tryz.func211.trans (congrArg some (by kernel_rfl))
 f318:=Tryz.func213.trans (congrArg some (by kernel_rfl))
 f319:=Tryz.func214.trans (congrArg some (by kernel_rfl))
 f320:=Tryz.func215.trans (congrArg some (by kernel_rfl))
 f337:=Tryz.func225.trans (congrArg some (by kernel_rfl))
 f338:=Tryz.func226.trans (congrArg some (by kernel_rfl))
 t0:=Tryz.underlying0
 a0:=Tryz.isAgg0
 z0:=Tryz.sizeOf0
 v0:=Tryz.zeroValue0
 t2:=Tryz.underlying2
 a2:=Tryz.isAgg2
 z2:=Tryz.sizeOf2
 v2:=Tryz.zeroValue2
 t3:=Tryz.underlying3
 a3:=Tryz.isAgg3
 z3:=Tryz.sizeOf3
 v3:=Tryz.zeroValue3
 t4:=Tryz.underlying4
 a4:=Tryz.isAgg4
 z4:=Tryz.sizeOf4
 v4:=Tryz.zeroValue4
 t5:=Tryz.underlying5
 a5:=Tryz.isAgg5
 z5:=Tryz.sizeOf5
 v5:=Tryz.zeroValue5
 t9:=Tryz.underlying9
 a9:=Tryz.isAgg9
 z9:=Tryz.sizeOf9
 v9:=Tryz.zeroValue9
 t20:=Tryz.underlying20
 a20:=Tryz.isAgg20
 z20:=Tryz.sizeOf20
 v20:=Tryz.zeroValue20
 t37:=Tryz.underlying99
 a37:=Tryz.isAgg99
 z37:=Tryz.sizeOf99
 v37:=Tryz.zeroValue99
 t46:=Tryz.underlying93
 a46:=Tryz.isAgg93
 z46:=Tryz.sizeOf93
 v46:=Tryz.zeroValue93
 t51:=Tryz.underlying280
 a51:=Tryz.isAgg280
 z51:=Tryz.sizeOf280
 v51:=Tryz.zeroValue280
 t53:=Tryz.underlying90
 a53:=Tryz.isAgg90
 z53:=Tryz.sizeOf90
 v53:=Tryz.zeroValue90
 t171:=Tryz.underlying267
 a171:=Tryz.isAgg267
 z171:=Tryz.sizeOf267
 v171:=Tryz.zeroValue267
 t173:=Tryz.underlying270
 a173:=Tryz.isAgg270
 z173:=Tryz.sizeOf270
 v173:=Tryz.zeroValue270
 t212:=Tryz.underlying293
 a212:=Tryz.isAgg293
 z212:=Tryz.sizeOf293
 v212:=Tryz.zeroValue293
 t213:=Tryz.underlying294
 a213:=Tryz.isAgg294
 z213:=Tryz.sizeOf294
 t232:=Tryz.underlying308
 a232:=Tryz.isAgg308
 z232:=Tryz.sizeOf308
 v232:=Tryz.zeroValue308
 t233:=Tryz.underlying309
 a233:=Tryz.isAgg309
 z233:=Tryz.sizeOf309
 v233:=Tryz.zeroValue309
 g17:=by kernel_rfl
 g18:=by kernel_rfl
 g19:=by kernel_rfl }
open Go.RowKit Go.Sort Go.Lib in
theorem Tryz.strconv_Itoa_small (i:Nat) (hi:i < 100) (w:World) :
  Calls Tryz.prog 43 #[.int .i64 i] w fun e w'=>e=.returned (.string ⟨(Lib.decDigits i).toArray⟩)/\w'=w:=Any.strconv_Itoa_small Tryz.lays171 i hi w
def Tryz.laysC172_ren:Go.Shelf.Ren:=⟨fun|172=>199|244=>220|245=>221|247=>232|279=>233|280=>234|281=>235|282=>236|287=>240|316=>241|171=>43|205=>242|321=>243|322=>244|243=>90|246=>149|283=>186|284=>187|285=>188|286=>189|129=>212|317=>211|318=>213|319=>214|320=>215|337=>225|338=>226|n=>n,fun|9=>9|3=>3|75=>175|76=>176|4=>4|5=>5|167=>302|37=>99|0=>0|85=>303|2=>2|168=>305|53=>90|175=>315|46=>93|210=>319|127=>242|145=>325|143=>323|21=>21|171=>267|173=>270|212=>293|51=>280|20=>20|213=>294|232=>308|233=>309|80=>178|n=>n,fun|15=>6|16=>7|17=>0|18=>2|19=>3|n=>n⟩
theorem Tryz.laysC172:Go.Proofs.LaysC.n172 Tryz.prog Tryz.laysC172_ren:={
 mixed:=by kernel_rfl
 f129:=Tryz.func212.trans (congrArg some (by kernel_rfl))
 f171:=Tryz.func43.trans (congrArg some (by kernel_rfl))
 f172:=Tryz.func199.trans (congrArg some (by kernel_rfl))
 f205:=Tryz.func242.trans (congrArg some (by kernel_rfl))
 f243:=Tryz.func90.trans (congrArg some (by kernel_rfl))
 f244:=Tryz.func220.trans (congrArg some (by kernel_rfl))
 f245:=Tryz.func221.trans (congrArg some (by kernel_rfl))
 f246:=Tryz.func149.trans (congrArg some (by kernel_rfl))
 f247:=Tryz.func232.trans (congrArg some (by kernel_rfl))
 f279:=Tryz.func233.trans (congrArg some (by kernel_rfl))
 f280:=Tryz.func234.trans (congrArg some (by kernel_rfl))
 f281:=Tryz.func235.trans (congrArg some (by kernel_rfl))
 f282:=Tryz.func236.trans (congrArg some (by kernel_rfl))
 f283:=Tryz.func186.trans (congrArg some (by kernel_rfl))
 f284:=Tryz.func187.trans (congrArg some (by kernel_rfl))
 f285:=Tryz.func188.trans (congrArg some (by kernel_rfl))
 f286:=Tryz.func189.trans (congrArg some (by kernel_rfl))
 f287:=Tryz.func240.trans (congrArg some (by kernel_rfl))
 f316:=Tryz.func241.trans (congrArg some (by kernel_rfl))
 f317:=Tryz.func211.trans (congrArg some (by kernel_rfl))
 f318:=Tryz.func213.trans (congrArg some (by kernel_rfl))
 f319:=Tryz.func214.trans (congrArg some (by kernel_rfl))
 f320:=Tryz.func215.trans (congrArg some (by kernel_rfl))
 f321:=Tryz.func243.trans (congrArg some (by kernel_rfl))
 f322:=Tryz.func244.trans (congrArg some (by kernel_rfl))
 f337:=Tryz.func225.trans (congrArg some (by kernel_rfl))
 f338:=Tryz.func226.trans (congrArg some (by kernel_rfl))
 t0:=Tryz.underlying0
 a0:=Tryz.isAgg0
 z0:=Tryz.sizeOf0
 v0:=Tryz.zeroValue0
 t2:=Tryz.underlying2
 a2:=Tryz.isAgg2
 z2:=Tryz.sizeOf2
 v2:=Tryz.zeroValue2
 t3:=Tryz.underlying3
 a3:=Tryz.isAgg3
 z3:=Tryz.sizeOf3
 v3:=Tryz.zeroValue3
 t4:=Tryz.underlying4
 a4:=Tryz.isAgg4
 z4:=Tryz.sizeOf4
 v4:=Tryz.zeroValue4
 t5:=Tryz.underlying5
 a5:=Tryz.isAgg5
 z5:=Tryz.sizeOf5
 v5:=Tryz.zeroValue5
 t9:=Tryz.underlying9
 a9:=Tryz.isAgg9
 z9:=Tryz.sizeOf9
 v9:=Tryz.zeroValue9
 t20:=Tryz.underlying20
 a20:=Tryz.isAgg20
 z20:=Tryz.sizeOf20
 v20:=Tryz.zeroValue20
 t21:=Tryz.underlying21
 a21:=Tryz.isAgg21
 z21:=Tryz.sizeOf21
 v21:=Tryz.zeroValue21
 t37:=Tryz.underlying99
 a37:=Tryz.isAgg99
 z37:=Tryz.sizeOf99
 v37:=Tryz.zeroValue99
 t46:=Tryz.underlying93
 a46:=Tryz.isAgg93
 z46:=Tryz.sizeOf93
 v46:=Tryz.zeroValue93
 t51:=Tryz.underlying280
 a51:=Tryz.isAgg280
 z51:=Tryz.sizeOf280
 v51:=Tryz.zeroValue280
 t53:=Tryz.underlying90
 a53:=Tryz.isAgg90
 z53:=Tryz.sizeOf90
 v53:=Tryz.zeroValue90
 t75:=Tryz.underlying175
 a75:=Tryz.isAgg175
 z75:=Tryz.sizeOf175
 v75:=Tryz.zeroValue175
 t76:=Tryz.underlying176
 a76:=Tryz.isAgg176
 z76:=Tryz.sizeOf176
 v76:=Tryz.zeroValue176
 t85:=Tryz.underlying303
 a85:=Tryz.isAgg303
 z85:=Tryz.sizeOf303
 v85:=Tryz.zeroValue303
 t127:=Tryz.underlying242
 a127:=Tryz.isAgg242
 z127:=Tryz.sizeOf242
 v127:=Tryz.zeroValue242
 t143:=Tryz.underlying323
 a143:=Tryz.isAgg323
 z143:=Tryz.sizeOf323
 v143:=Tryz.zeroValue323
 t145:=Tryz.underlying325
 a145:=Tryz.isAgg325
 z145:=Tryz.sizeOf325
 v145:=Tryz.zeroValue325
 t167:=Tryz.underlying302
 a167:=Tryz.isAgg302
 z167:=Tryz.sizeOf302
 v167:=Tryz.zeroValue302
 t168:=Tryz.underlying305
 a168:=Tryz.isAgg305
 z168:=Tryz.sizeOf305
 v168:=Tryz.zeroValue305
 t171:=Tryz.underlying267
 a171:=Tryz.isAgg267
 z171:=Tryz.sizeOf267
 v171:=Tryz.zeroValue267
 t173:=Tryz.underlying270
 a173:=Tryz.isAgg270
 z173:=Tryz.sizeOf270
 v173:=Tryz.zeroValue270
 t175:=Tryz.underlying315
 a175:=Tryz.isAgg315
 z175:=Tryz.sizeOf315
 v175:=Tryz.zeroValue315
 t210:=Tryz.underlying319
 a210:=Tryz.isAgg319
 z210:=Tryz.sizeOf319
 v210:=Tryz.zeroValue319
 t212:=Tryz.underlying293
 a212:=Tryz.isAgg293
 z212:=Tryz.sizeOf293
 v212:=Tryz.zeroValue293
 t213:=Tryz.underlying294
 a213:=Tryz.isAgg294
 z213:=Tryz.sizeOf294
 t232:=Tryz.underlying308
 a232:=Tryz.isAgg308
 z232:=Tryz.sizeOf308
 v232:=Tryz.zeroValue308
 t233:=Tryz.underlying309
 a233:=Tryz.isAgg309
 z233:=Tryz.sizeOf309
 v233:=Tryz.zeroValue309
 g15:=by kernel_rfl
 g16:=by kernel_rfl
 g17:=by kernel_rfl
 g18:=by kernel_rfl
 g19:=by kernel_rfl
 t80:=Tryz.underlying178
 a80:=Tryz.isAgg178
 z80:=Tryz.sizeOf178
 v80:=Tryz.zeroValue178
 i0:=by kernel_rfl
 i2:=by kernel_rfl
 i3:=by kernel_rfl
 i4:=by kernel_rfl
 i5:=by kernel_rfl
 i9:=by kernel_rfl
 i20:=by kernel_rfl
 i21:=by kernel_rfl
 i37:=by kernel_rfl
 i46:=by kernel_rfl
 i51:=by kernel_rfl
 i53:=by kernel_rfl
 i75:=by kernel_rfl
 i76:=by kernel_rfl
 i80:=by kernel_rfl
 i85:=by kernel_rfl
 i127:=by kernel_rfl
 i143:=by kernel_rfl
 i145:=by kernel_rfl
 i167:=by kernel_rfl
 i168:=by kernel_rfl
 i171:=by kernel_rfl
 i173:=by kernel_rfl
 i175:=by kernel_rfl
 i210:=by kernel_rfl
 i212:=by kernel_rfl
 i232:=by kernel_rfl
 i233:=by kernel_rfl
 m15:=by kernel_rfl
 m16:=by kernel_rfl
 m17:=by kernel_rfl
 m18:=by kernel_rfl
 m19:=by kernel_rfl
 c0:=by kernel_rfl
 c2:=by kernel_rfl
 c3:=by kernel_rfl
 c4:=by kernel_rfl
 c5:=by kernel_rfl
 c9:=by kernel_rfl
 c20:=by kernel_rfl
 c21:=by kernel_rfl
 c37:=by kernel_rfl
 c46:=by kernel_rfl
 c51:=by kernel_rfl
 c53:=by kernel_rfl
 c75:=by kernel_rfl
 c76:=by kernel_rfl
 c80:=by kernel_rfl
 c85:=by kernel_rfl
 c127:=by kernel_rfl
 c143:=by kernel_rfl
 c145:=by kernel_rfl
 c167:=by kernel_rfl
 c168:=by kernel_rfl
 c171:=by kernel_rfl
 c173:=by kernel_rfl
 c175:=by kernel_rfl
 c210:=by kernel_rfl
 c212:=by kernel_rfl
 c213:=by kernel_rfl
 c232:=by kernel_rfl
 c233:=by kernel_rfl }
open Go.RowKit in
theorem Tryz.strconv_Atoi_ok (s:ByteArray) (hmax:s.size<=9223372036854775806) (v:Int) (h:Lib.atoiAll s.data.toList=.ok v) (w:World) :
  Calls Tryz.prog 199 #[.string s] w fun e w'=>e=.returned (.tuple #[.int .i64 v,.nilIface])/\(w'=w\/∃ t,w'=Lib.bytesWorld w 5 t):=Any.strconv_Atoi_ok Tryz.laysC172 s hmax v h w
open Go.RowKit in
theorem Tryz.strconv_Atoi_syntax (s:ByteArray) (hlim:s.size<=281474976710656) (h:Lib.atoiAll s.data.toList=Lib.atoiAll []) (ev:Value) (w:World) (hv:w.cell? ⟨6,0,none⟩=some ev) (hev:ev=.nilIface\/∃ te pe,ev=.iface te pe) :
  Calls Tryz.prog 199 #[.string s] w fun e w'=>∃ N,e=.returned (.tuple #[.int .i64 (0),.iface 305 (.pointer (some ⟨N,0,none⟩))])/\w.heap.size<=N/\w'.heap[N]?=some (.cells #[.string ⟨#[65,116,111,105]⟩,.string s,ev] 319 (0,0))/\Below w.heap.size w w':=Any.strconv_Atoi_syntax Tryz.laysC172 s hlim h ev w hv hev
open Go.RowKit in
theorem Tryz.strconv_Atoi_range (s:ByteArray) (hlim:s.size<=281474976710656) (h:Lib.atoiAll s.data.toList=.range) (ev:Value) (w:World) (hv:w.cell? ⟨7,0,none⟩=some ev) (hev:ev=.nilIface\/∃ te pe,ev=.iface te pe) :
  Calls Tryz.prog 199 #[.string s] w fun e w'=>∃ N,e=.returned (.tuple #[.int .i64 (Lib.atoiSat s.data.toList),.iface 305 (.pointer (some ⟨N,0,none⟩))])/\w.heap.size<=N/\w'.heap[N]?=some (.cells #[.string ⟨#[65,116,111,105]⟩,.string s,ev] 319 (0,0))/\Below w.heap.size w w':=Any.strconv_Atoi_range Tryz.laysC172 s hlim h ev w hv hev
def Tryz.lays145_ren:Go.Shelf.Ren:=⟨fun|145=>207|220=>223|219=>219|217=>228|225=>229|224=>230|267=>231|266=>238|314=>239|n=>n,fun|9=>9|4=>4|59=>287|3=>3|5=>5|46=>93|146=>281|51=>280|n=>n,fun|1=>1|n=>n⟩
theorem Tryz.lays145:Go.Proofs.Lays.n145 Tryz.prog Tryz.lays145_ren:={
 mixed:=by kernel_rfl
 f145:=Tryz.func207.trans (congrArg some (by kernel_rfl))
 f217:=Tryz.func228.trans (congrArg some (by kernel_rfl))
 f219:=Tryz.func219.trans (congrArg some (by kernel_rfl))
 f220:=Tryz.func223.trans (congrArg some (by kernel_rfl))
 f224:=Tryz.func230.trans (congrArg some (by kernel_rfl))
 f225:=Tryz.func229.trans (congrArg some (by kernel_rfl))
 f266:=Tryz.func238.trans (congrArg some (by kernel_rfl))
 f267:=Tryz.func231.trans (congrArg some (by kernel_rfl))
 f314:=Tryz.func239.trans (congrArg some (by kernel_rfl))
 t3:=Tryz.underlying3
 a3:=Tryz.isAgg3
 z3:=Tryz.sizeOf3
 v3:=Tryz.zeroValue3
 t4:=Tryz.underlying4
 a4:=Tryz.isAgg4
 z4:=Tryz.sizeOf4
 v4:=Tryz.zeroValue4
 t5:=Tryz.underlying5
 a5:=Tryz.isAgg5
 z5:=Tryz.sizeOf5
 v5:=Tryz.zeroValue5
 t9:=Tryz.underlying9
 a9:=Tryz.isAgg9
 z9:=Tryz.sizeOf9
 v9:=Tryz.zeroValue9
 t46:=Tryz.underlying93
 a46:=Tryz.isAgg93
 z46:=Tryz.sizeOf93
 v46:=Tryz.zeroValue93
 t51:=Tryz.underlying280
 a51:=Tryz.isAgg280
 z51:=Tryz.sizeOf280
 v51:=Tryz.zeroValue280
 t59:=Tryz.underlying287
 a59:=Tryz.isAgg287
 z59:=Tryz.sizeOf287
 v59:=Tryz.zeroValue287
 t146:=Tryz.underlying281
 a146:=Tryz.isAgg281
 z146:=Tryz.sizeOf281
 v146:=Tryz.zeroValue281
 g1:=by kernel_rfl }
open Go.RowKit Go.Lib in
theorem Tryz.strings_Cut (s sep:ByteArray) (m:Int) (w:World) (hs:s.size < 4294967281) (hm:w.cell? ⟨1,0,none⟩=some (.int .i64 m)) :
  Calls Tryz.prog 207 #[.string s,.string sep] w fun e w'=>e=.returned (.tuple #[.string ⟨(Lib.cut s.data.toList sep.data.toList).1.toArray⟩,.string ⟨(Lib.cut s.data.toList sep.data.toList).2.1.toArray⟩,.bool (Lib.cut s.data.toList sep.data.toList).2.2])/\∃ n,w'=w.drewN n:=Any.strings_Cut Tryz.lays145 s sep m w hs hm
def Tryz.lays146_ren:Go.Shelf.Ren:=⟨fun|146=>96|221=>154|268=>196|138=>197|143=>198|195=>216|197=>217|218=>218|219=>219|260=>227|217=>228|225=>229|224=>230|267=>231|266=>238|314=>239|n=>n,fun|9=>9|31=>33|3=>3|4=>4|0=>0|105=>297|21=>21|5=>5|46=>93|119=>310|139=>313|138=>312|146=>281|51=>280|n=>n,fun|1=>1|3=>4|4=>5|n=>n⟩
theorem Tryz.lays146:Go.Proofs.Lays.n146 Tryz.prog Tryz.lays146_ren:={
 mixed:=by kernel_rfl
 f138:=Tryz.func197.trans (congrArg some (by kernel_rfl))
 f143:=Tryz.func198.trans (congrArg some (by kernel_rfl))
 f146:=Tryz.func96.trans (congrArg some (by kernel_rfl))
 f195:=Tryz.func216.trans (congrArg some (by kernel_rfl))
 f197:=Tryz.func217.trans (congrArg some (by kernel_rfl))
 f217:=Tryz.func228.trans (congrArg some (by kernel_rfl))
 f218:=Tryz.func218.trans (congrArg some (by kernel_rfl))
 f219:=Tryz.func219.trans (congrArg some (by kernel_rfl))
 f221:=Tryz.func154.trans (congrArg some (by kernel_rfl))
 f224:=Tryz.func230.trans (congrArg some (by kernel_rfl))
 f225:=Tryz.func229.trans (congrArg some (by kernel_rfl))
 f260:=Tryz.func227.trans (congrArg some (by kernel_rfl))
 f266:=Tryz.func238.trans (congrArg some (by kernel_rfl))
 f267:=Tryz.func231.trans (congrArg some (by kernel_rfl))
 f268:=Tryz.func196.trans (congrArg some (by kernel_rfl))
 f314:=Tryz.func239.trans (congrArg some (by kernel_rfl))
 t0:=Tryz.underlying0
 a0:=Tryz.isAgg0
 z0:=Tryz.sizeOf0
 v0:=Tryz.zeroValue0
 t3:=Tryz.underlying3
 a3:=Tryz.isAgg3
 z3:=Tryz.sizeOf3
 v3:=Tryz.zeroValue3
 t4:=Tryz.underlying4
 a4:=Tryz.isAgg4
 z4:=Tryz.sizeOf4
 v4:=Tryz.zeroValue4
 t5:=Tryz.underlying5
 a5:=Tryz.isAgg5
 z5:=Tryz.sizeOf5
 v5:=Tryz.zeroValue5
 t9:=Tryz.underlying9
 a9:=Tryz.isAgg9
 z9:=Tryz.sizeOf9
 v9:=Tryz.zeroValue9
 t21:=Tryz.underlying21
 a21:=Tryz.isAgg21
 z21:=Tryz.sizeOf21
 v21:=Tryz.zeroValue21
 t31:=Tryz.underlying33
 a31:=Tryz.isAgg33
 z31:=Tryz.sizeOf33
 v31:=Tryz.zeroValue33
 t46:=Tryz.underlying93
 a46:=Tryz.isAgg93
 z46:=Tryz.sizeOf93
 v46:=Tryz.zeroValue93
 t51:=Tryz.underlying280
 a51:=Tryz.isAgg280
 z51:=Tryz.sizeOf280
 v51:=Tryz.zeroValue280
 t105:=Tryz.underlying297
 a105:=Tryz.isAgg297
 z105:=Tryz.sizeOf297
 v105:=Tryz.zeroValue297
 t119:=Tryz.underlying310
 a119:=Tryz.isAgg310
 z119:=Tryz.sizeOf310
 t138:=Tryz.underlying312
 a138:=Tryz.isAgg312
 z138:=Tryz.sizeOf312
 v138:=Tryz.zeroValue312
 t139:=Tryz.underlying313
 a139:=Tryz.isAgg313
 z139:=Tryz.sizeOf313
 v139:=Tryz.zeroValue313
 t146:=Tryz.underlying281
 a146:=Tryz.isAgg281
 z146:=Tryz.sizeOf281
 v146:=Tryz.zeroValue281
 g1:=by kernel_rfl
 g3:=by kernel_rfl
 g4:=by kernel_rfl }
open Go.RowKit Go.Lib in
theorem Tryz.strings_Split (s sep:ByteArray) (m:Int) (w:World) (hs:s.size < 4294967281) (hm:w.cell? ⟨1,0,none⟩=some (.int .i64 m)) (h1:1<=sep.size) :
  Calls Tryz.prog 96 #[.string s,.string sep] w fun e w' =>
   e=.returned (.slice (some ⟨w.heap.size,0,none⟩) (Lib.countB s sep+1) (Lib.countB s sep+1))/\w'=w.alloc (.cells ((Lib.splitB sep 0 (Lib.countB s sep) s).map Value.string).toArray 9):=Any.strings_Split Tryz.lays146 (by kernel_rfl) s sep m w hs hm h1
end Go.Proofs
namespace Go.Sym.B
open Go Go.Sym Go.Proofs Go.Sym.C
def jN (x:Int):List (Nat × AObj):=[(0,.cells [.v (.int .u64 x)])]
def xsh (s:Int) (k:Nat):Int:=IntKind.u64.wrap (BitVec.ofInt IntKind.u64.bits s ^^^ BitVec.ofInt IntKind.u64.bits (s.fdiv (2 ^ min k IntKind.u64.bits))).toNat
def nxS (x:Int):Int:=IntKind.u64.wrap (IntKind.u64.wrap (x * 2862933555777941757)+3037000493)
def nxV (x:Int):Int:=xsh (IntKind.u64.wrap (xsh (nxS x) 31 * 10723151780598845931)) 30
def QdX:=jv @ty90 (jv @ty92 (jv @Qdk.eq_1 @QhP.eq_1))
theorem Qie (x:Int):Fn noB Tryz.prog 87 [.ptr 0 0] (qa (jN x)) (.v (.int .u64 (nxV x))) (qa (jN (nxS x))) 0:=by
 have env:=qB (A:=fun _=>True) kN
 refine Fn.of (A:=fun _=>True) (n0:=1) (D:=noD) (Fn0 Tryz.func87 rfl (fun vs w=>by kernel_rfl) (by kernel_rfl)) (by simp) (by simp [AV.ids]) ?_ (fun _ _ _ _=>trivial) q9 ?_
 ·intro i o hi
  have h:=qE hi
  simp [jN] at h
  rcases h with ⟨rfl,rfl⟩;simp [AObj.ids,AV.ids,AV.idsL]
 repeat' first|(apply nx;with_reducible constructor)|apply jq (by decide)|((first|apply jz env|apply jw);intro Q hQ;simp only [vkt,seval,QdX,jN,ite_and];(repeat' first|with_reducible assumption|apply jv|intro hp);all_goals first|(apply hQ;clear hQ Q)|(apply jx;kernel_rfl)|omega|assumption|with_reducible rfl|skip)
 (simp only [vrt,Tryz.results87,vkt,seval,jN];refine Fin.ok some [] ?_ ?_ ?_ ?_ ?_ rfl;all_goals (try simp only [vle,vkt,seval]))
 all_goals rfl
def Qfi (S:St):List AV->Option Pk
 |[.ptr i 0]=>match S.h i with
  |some (.cells [.v (.int .u64 x)])=>some { hs:=[i],ar:=[.ptr 0 0],L0:=[.cells [.v (.int .u64 x)]],v:=.v (.int .u64 (nxV x)),L1:=[some (.cells [.v (.int .u64 (nxS x))])] }
  |_=>none
 |_=>none
theorem eNext {A:Frm->Prop}:qm A Tryz.prog 87 (fnE Qfi):=zB fun S bs q h hp=>by
 unfold Qfi at h
 split at h
 ·split at h
  ·cases h;exact Qie _
  ·cases h
 ·cases h
def Qen (x m:Int):Int:=if m < 1 then 0 else IntKind.i64.wrap (((nxV x).fdiv (2 ^ min 13 IntKind.u64.bits)).tmod (IntKind.u64.wrap (IntKind.i64.wrap (m+1))))
def QhI (x m:Int):Int:=if m < 1 then x else nxS x
theorem QcB:∃ f:Int->Int->Int × Int,∀ x m,f x m=(Qen x m,QhI x m):=⟨fun x m=>(Qen x m,QhI x m),fun _ _=>rfl⟩
noncomputable def upV (x m:Int):Int:=(Classical.choose QcB x m).1
noncomputable def upS (x m:Int):Int:=(Classical.choose QcB x m).2
theorem QgO (x m:Int):upV x m=Qen x m:=by unfold upV;rw [Classical.choose_spec QcB]
theorem Qlb (x m:Int):upS x m=QhI x m:=by unfold upS;rw [Classical.choose_spec QcB]
theorem QhX {n:Int} (h0:0<=n) (h1:n < 18446744073709551616):IntKind.u64.wrap n=n:=by
 unfold IntKind.wrap
 simp only [IntKind.bits,IntKind.signed]
 simp
 omega
theorem Qhc (n:Int):0<=IntKind.u64.wrap n:=by
 unfold IntKind.wrap
 simp only [IntKind.bits,IntKind.signed]
 simp
 omega
theorem Qbm {x m:Int} (h:m < 9223372036854775807):0<=upV x m/\(upV x m<=m\/upV x m=0):=by
 rw [QgO]
 unfold Qen
 split
 ·exact ⟨cS _,.inr rfl⟩
 ·have h1:IntKind.i64.wrap (m+1)=m+1:=wrap64 (by omega) (by omega)
  have h2:IntKind.u64.wrap (m+1)=m+1:=QhX (by omega) (by omega)
  rw [h1,h2]
  have h3:0<=(nxV x).fdiv (2 ^ min 13 IntKind.u64.bits):=Int.fdiv_nonneg (by unfold nxV xsh;exact Qhc _) (by decide)
  rw [Int.tmod_eq_emod_of_nonneg h3]
  have h4:=Int.emod_nonneg ((nxV x).fdiv (2 ^ min 13 IntKind.u64.bits)) (show m+1 ≠ 0 by omega)
  have h5:=Int.emod_lt_of_pos ((nxV x).fdiv (2 ^ min 13 IntKind.u64.bits)) (show 0 < m+1 by omega)
  rw [wrap64 (by omega) (by omega)]
  omega
def Qcs:=jv @ty3 (jv @ty90 (jv @ti3.eq_1 @Qdk.eq_1))
def KU:=jv @aI.eq_1 (@aB.eq_1)
theorem up_fn (x m:Int) (h:m < 9223372036854775807):Fn noB Tryz.prog 38 [.ptr 0 0,aI m] (qa (jN x)) (aI (upV x m)) (qa (jN (upS x m))) 0:=by
 have env:=qB (A:=fun _=>True) (kC eNext kN)
 refine Fn.of (A:=fun _=>True) (n0:=1) (D:=noD) (Fn0 Tryz.func38 rfl (fun vs w=>by kernel_rfl) (by kernel_rfl)) (by simp) (by simp [AV.ids,aI]) ?_ (fun _ _ _ _=>trivial) q9 ?_
 ·intro i o hi
  have h:=qE hi
  simp [jN] at h
  rcases h with ⟨rfl,rfl⟩;simp [AObj.ids,AV.ids,AV.idsL]
 rw [QgO,Qlb]
 by_cases c1:m < 1
 ·rw [show Qen x m=0 from if_pos c1,show QhI x m=x from if_pos c1]
  repeat' first|(apply nx;with_reducible constructor)|apply jq (by decide)|((first|apply jz env|apply jw);intro Q hQ;simp only [vkt,seval,Qcs,KU,jN,c1,ite_and];(repeat' first|with_reducible assumption|apply jv|intro hp);all_goals first|(apply hQ;clear hQ Q)|(apply jx;kernel_rfl)|omega|assumption|with_reducible rfl|skip)
  (simp only [vrt,Tryz.results38,vkt,seval,KU,jN];refine Fin.ok some [] ?_ ?_ ?_ ?_ ?_ rfl;all_goals (try simp only [vle,vkt,seval]))
  all_goals simp
 ·rw [show Qen x m=_ from if_neg c1,show QhI x m=_ from if_neg c1]
  have h1:IntKind.i64.wrap (m+1)=m+1:=wrap64 (by omega) (by omega)
  have h2:IntKind.u64.wrap (m+1)=m+1:=QhX (by omega) (by omega)
  have h0:¬ m+1=0:=by omega
  repeat' first|(apply nx;with_reducible constructor)|apply jq (by decide)|((first|apply jz env|apply jw);intro Q hQ;simp only [vkt,seval,Qcs,KU,jN,Qfi,c1,h1,h2,h0,ite_and];(repeat' first|with_reducible assumption|apply jv|intro hp);all_goals first|(apply hQ;clear hQ Q)|(apply jx;kernel_rfl)|omega|assumption|with_reducible rfl|skip)
  (simp only [vrt,Tryz.results38,vkt,seval,KU,jN];refine Fin.ok some [] ?_ ?_ ?_ ?_ ?_ rfl;all_goals (try simp only [vle,vkt,seval]))
  all_goals (first|rfl|rw [h1,h2])
noncomputable def pUp (S:St):List AV->Option Pk
 |[.ptr i 0,.v (.int .i64 m)]=>match S.h i with
  |some (.cells [.v (.int .u64 x)])=>some { pre:=m < 9223372036854775807,hs:=[i],ar:=[.ptr 0 0,.v (.int .i64 m)],L0:=[.cells [.v (.int .u64 x)]],v:=.v (.int .i64 (upV x m)),L1:=[some (.cells [.v (.int .u64 (upS x m))])] }
  |_=>none
 |_=>none
theorem eUp {A:Frm->Prop}:qm A Tryz.prog 38 (fnE pUp):=zB fun S bs q h hp=>by
 unfold pUp at h
 split at h
 ·split at h
  ·cases h;exact up_fn _ _ hp
  ·cases h
 ·cases h
def QeL:=jv @ty3 @ti3.eq_1
def QgP:=jv @aI.eq_1 (@aB.eq_1)
theorem Qjl (x a b:Int) (h:-100000<=a/\a<=100000/\-100000<=b/\b<=100000):Fn noB Tryz.prog 36 [.ptr 0 0,aI a,aI b] (qa (jN x)) (aI (a+upV x (b - a))) (qa (jN (upS x (b - a)))) 0:=by
 have env:=qB (A:=fun _=>True) (kC eUp kN)
 refine Fn.of (A:=fun _=>True) (n0:=1) (D:=noD) (Fn0 Tryz.func36 rfl (fun vs w=>by kernel_rfl) (by kernel_rfl)) (by simp) (by simp [AV.ids,aI]) ?_ (fun _ _ _ _=>trivial) q9 ?_
 ·intro i o hi
  have h:=qE hi
  simp [jN] at h
  rcases h with ⟨rfl,rfl⟩;simp [AObj.ids,AV.ids,AV.idsL]
 have b1:=Qbm (x:=x) (m:=b - a) (by omega)
 have h1:IntKind.i64.wrap (b - a)=b - a:=wrap64 (by omega) (by omega)
 have h2:IntKind.i64.wrap (a+upV x (b - a))=a+upV x (b - a):=wrap64 (by omega) (by omega)
 have h3:b - a < 9223372036854775807:=by omega
 repeat' first|(apply nx;with_reducible constructor)|apply jq (by decide)|((first|apply jz env|apply jw);intro Q hQ;simp only [vkt,seval,QeL,QgP,jN,pUp,h1,h2,ite_and];(repeat' first|with_reducible assumption|apply jv|intro hp);all_goals first|(apply hQ;clear hQ Q)|(apply jx;kernel_rfl)|omega|assumption|with_reducible rfl|skip)
 (simp only [vrt,Tryz.results36,vkt,seval,QgP,jN];refine Fin.ok some [] ?_ ?_ ?_ ?_ ?_ rfl;all_goals (try simp only [vle,vkt,seval]))
 all_goals rfl
noncomputable def XP (S:St):List AV->Option Pk
 |[.ptr i 0,.v (.int .i64 a),.v (.int .i64 b)]=>match S.h i with
  |some (.cells [.v (.int .u64 x)])=>some { pre:=-100000<=a/\a<=100000/\-100000<=b/\b<=100000,hs:=[i],ar:=[.ptr 0 0,.v (.int .i64 a),.v (.int .i64 b)],L0:=[.cells [.v (.int .u64 x)]],v:=.v (.int .i64 (a+upV x (b - a))),L1:=[some (.cells [.v (.int .u64 (upS x (b - a)))])] }
  |_=>none
 |_=>none
theorem eFrom {A:Frm->Prop}:qm A Tryz.prog 36 (fnE XP):=zB fun S bs q h hp=>by
 unfold XP at h
 split at h
 ·split at h
  ·cases h;exact Qjl _ _ _ hp
  ·cases h
 ·cases h
def nbK (l:List Int):Nat->Int
 |0=>11400714819323198485
 |k+1=>xsh (IntKind.u64.wrap (IntKind.u64.wrap (nbK l k+IntKind.u64.wrap (l.getD k 0)) * 13787848793156543929)) 29
def nbS (l:List Int):Int:=nbK l l.length
def nbI (l:List Int) (k:Nat):St:={ t:=asg [(0,qx l),(3,.ptr 0 0),(4,aI k)],h:=qa (jN (nbK l k)),n:=1 }
def YJ:=jv @ty3 (jv @WG (jv @ty90 (jv @ty92 (jv @ti3.eq_1 (jv @QV.eq_1 (jv @Qdk.eq_1 @QhP.eq_1))))))
def Ve:=jv @aI.eq_1 (jv @aB.eq_1 (jv @nbI.eq_1 (jv @qx.eq_1 (jv @QeK (@zG.eq_1)))))
theorem Qle (l:List Int) (hl:l.length<=maxLen):Fn noB Tryz.prog 10 [qx l] noH (.ptr 0 0) (qa (jN (nbS l))) 0:=by
 have env:=qB (A:=fun _=>True) kN
 refine kV (Fn0 Tryz.func10 rfl (fun vs w=>by kernel_rfl) (by kernel_rfl)) (by simp) (by simp [AV.ids,qx]) ?_
 repeat' first|(apply nx;with_reducible constructor)|apply jq (by decide)|((first|apply jz env|apply jw);intro Q hQ;simp only [vkt,seval,YJ,Ve,ite_and];(repeat' first|with_reducible assumption|apply jv|intro hp);all_goals first|(apply hQ;clear hQ Q)|(apply jx;kernel_rfl)|omega|assumption|with_reducible rfl|skip)
 refine qY (fun k:{ k:Nat // k<=l.length }=>nbI l k.1) (fun k=>l.length - k.1) ⟨0,ap _⟩ ?_ fun ⟨k,hk⟩=>?_
 ·(refine Le.ok some [] ?_;constructor;all_goals (try simp only [vle,vkt,seval,Ve,jN]))
  all_goals first|rfl|simp
 ·repeat' first|(apply nx;with_reducible constructor)|apply jq (by decide)
  (apply jz env;intro Q hQ;simp only [vkt,seval,YJ,Ve,jN,ite_and];(repeat' first|with_reducible assumption|apply jv|intro hp);all_goals first|(apply hQ;clear hQ Q)|(apply jx;kernel_rfl)|omega|assumption|with_reducible rfl|skip)
  repeat' first|(apply nx;with_reducible constructor)|apply jq (by decide)
  (refine jc (by simp only [vkt,seval];rfl) (fun h=>?_) (fun h=>?_) <;> (try simp only [vki] at h))
  ·have hlt:k < l.length:=by omega
   have e9:=Qd7 hlt hl
   repeat' first|(apply nx;with_reducible constructor)|apply jq (by decide)|((first|apply jz env|apply jw);intro Q hQ;simp only [vkt,seval,YJ,Ve,e9,ite_and];(repeat' first|with_reducible assumption|apply jv|intro hp);all_goals first|(apply hQ;clear hQ Q)|(apply jx;kernel_rfl)|omega|assumption|with_reducible rfl|skip)
   refine ⟨⟨k+1,hlt⟩,by show l.length - (k+1) < l.length - k;omega, ?_⟩
   (refine Le.ok some [] ?_;constructor;all_goals (try simp only [vle,vkt,seval,Ve,jN]))
   all_goals first|rfl|(simp [e9];done)
  ·have hkn:k=l.length:=by omega
   subst hkn
   repeat' first|(apply nx;with_reducible constructor)|apply jq (by decide)|((first|apply jz env|apply jw);intro Q hQ;simp only [vkt,seval,ite_and];(repeat' first|with_reducible assumption|apply jv|intro hp);all_goals first|(apply hQ;clear hQ Q)|(apply jx;kernel_rfl)|omega|assumption|with_reducible rfl|skip)
   (simp only [vrt,Tryz.results10,vkt,seval,jN];refine Fin.ok some [] ?_ ?_ ?_ ?_ ?_ rfl;all_goals (try simp only [vle,vkt,seval]))
   all_goals rfl
def pBag (_:St):List AV->Option Pk
 |[.sl xs]=>some { pre:=xs=(xs.map zD).map zG/\xs.length<=maxLen,ar:=[.sl xs],v:=.ptr 0 0,L1:=[some (.cells [.v (.int .u64 (nbS (xs.map zD)))])] }
 |_=>none
theorem eBag {A:Frm->Prop}:qm A Tryz.prog 10 (fnE pBag):=zB fun S bs q h hp=>by
 unfold pBag at h
 split at h <;> cases h
 have:=Qle (List.map zD _) (by rw [aj];exact hp.2)
 simp only [qx,<- hp.1] at this
 exact this
def UR:=jv @ty3 @ti3.eq_1
def QfD:=jv @aI.eq_1 (@aB.eq_1)
theorem Qc9 (x n m:Int) (h:0<=m/\m<=100000):Fn noB Tryz.prog 37 [.ptr 0 0,aI n,aI m] (qa (jN x)) (aB (decide (upV x (m - 1) < n))) (qa (jN (upS x (m - 1)))) 0:=by
 have env:=qB (A:=fun _=>True) (kC eUp kN)
 refine Fn.of (A:=fun _=>True) (n0:=1) (D:=noD) (Fn0 Tryz.func37 rfl (fun vs w=>by kernel_rfl) (by kernel_rfl)) (by simp) (by simp [AV.ids,aI]) ?_ (fun _ _ _ _=>trivial) q9 ?_
 ·intro i o hi
  have h:=qE hi
  simp [jN] at h
  rcases h with ⟨rfl,rfl⟩;simp [AObj.ids,AV.ids,AV.idsL]
 have h1:IntKind.wrap .i64 (m - 1)=m - 1:=wrap64 (by omega) (by omega)
 have h2:m - 1 < 9223372036854775807:=by omega
 repeat' first|(apply nx;with_reducible constructor)|apply jq (by decide)|((first|apply jz env|apply jw);intro Q hQ;simp only [vkt,seval,UR,QfD,jN,pUp,h1,h2,ite_and];(repeat' first|with_reducible assumption|apply jv|intro hp);all_goals first|(apply hQ;clear hQ Q)|(apply jx;kernel_rfl)|omega|assumption|with_reducible rfl|skip)
 (simp only [vrt,Tryz.results37,vkt,seval,QfD,jN];refine Fin.ok some [] ?_ ?_ ?_ ?_ ?_ rfl;all_goals (try simp only [vle,vkt,seval]))
 all_goals first|rfl|simp
noncomputable def WO (S:St):List AV->Option Pk
 |[.ptr i 0,.v (.int .i64 n),.v (.int .i64 m)]=>match S.h i with
  |some (.cells [.v (.int .u64 x)])=>some { pre:=0<=m/\m<=100000,hs:=[i],ar:=[.ptr 0 0,.v (.int .i64 n),.v (.int .i64 m)],L0:=[.cells [.v (.int .u64 x)]],v:=.v (.bool (decide (upV x (m - 1) < n))),L1:=[some (.cells [.v (.int .u64 (upS x (m - 1)))])] }
  |_=>none
 |_=>none
theorem Qh7 {A:Frm->Prop}:qm A Tryz.prog 37 (fnE WO):=zB fun S bs q h hp=>by
 unfold WO at h
 split at h
 ·split at h
  ·cases h;exact Qc9 _ _ _ hp
  ·cases h
 ·cases h
def Qgm:=jv @ty3 (jv @WG (jv @ti3.eq_1 @QV.eq_1))
def Qfe:=jv @aI.eq_1 (jv @aB.eq_1 (jv @qx.eq_1 (jv @zG.eq_1 (@QeK))))
theorem Qln (x:Int) (l:List Int) (h:0 < l.length/\l.length<=100000):Fn noB Tryz.prog 39 [.ptr 0 0,qx l] (qa (jN x)) (aI (l.getD (upV x ((l.length:Int) - 1)).toNat 0)) (qa (jN (upS x ((l.length:Int) - 1)))) 0:=by
 have env:=qB (A:=fun _=>True) (kC eUp kN)
 refine Fn.of (A:=fun _=>True) (n0:=1) (D:=noD) (Fn0 Tryz.func39 rfl (fun vs w=>by kernel_rfl) (by kernel_rfl)) (by simp) (by simp [AV.ids,qx]) ?_ (fun _ _ _ _=>trivial) q9 ?_
 ·intro i o hi
  have h:=qE hi
  simp [jN] at h
  rcases h with ⟨rfl,rfl⟩;simp [AObj.ids,AV.ids,AV.idsL]
 have h1:IntKind.wrap .i64 ((l.length:Int) - 1)=(l.length:Int) - 1:=wrap64 (by omega) (by omega)
 have h2:(l.length:Int) - 1 < 9223372036854775807:=by omega
 have hb:=Qbm (x:=x) (m:=(l.length:Int) - 1) h2
 obtain ⟨i,hi⟩:∃ i:Nat,upV x ((l.length:Int) - 1)=i:=⟨(upV x ((l.length:Int) - 1)).toNat,by omega⟩
 rw [hi] at hb ⊢
 have i0:((i:Int)).toNat=i:=rfl
 have hil:i < l.length:=by omega
 have d0:decide ((l.length:Int)=0)=false:=decide_eq_false (by omega)
 obtain ⟨y,hy⟩:∃ y,l.getD i 0=y:=⟨_,rfl⟩
 rw [i0,hy]
 repeat' first|(apply nx;with_reducible constructor)|apply jq (by decide)|((first|apply jz env|apply jw);intro Q hQ;simp only [vkt,seval,Qgm,Qfe,jN,pUp,h1,h2,hi,i0,hil,d0,hy,ite_and];(repeat' first|with_reducible assumption|apply jv|intro hp);all_goals first|(apply hQ;clear hQ Q)|(apply jx;kernel_rfl)|omega|assumption|with_reducible rfl|skip)
 (simp only [vrt,Tryz.results39,vkt,seval,Qfe,jN];refine Fin.ok some [] ?_ ?_ ?_ ?_ ?_ rfl;all_goals (try simp only [vle,vkt,seval]))
 all_goals first|rfl|simp
noncomputable def pOne (S:St):List AV->Option Pk
 |[.ptr i 0,.row r]=>match S.h i,S.h r with
  |some (.cells [.v (.int .u64 x)]),some (.row _ _ xs)=>some { pre:=xs=(xs.map zD).map zG/\0 < (xs.map zD).length/\(xs.map zD).length<=100000,hs:=[i],bo:=[r],ar:=[.ptr 0 0,.sl xs],L0:=[.cells [.v (.int .u64 x)]],v:=.v (.int .i64 ((xs.map zD).getD (upV x (((xs.map zD).length:Int) - 1)).toNat 0)),L1:=[some (.cells [.v (.int .u64 (upS x (((xs.map zD).length:Int) - 1)))])] }
  |_,_=>none
 |_=>none
theorem eOne {A:Frm->Prop}:qm A Tryz.prog 39 (fnE pOne):=zB fun S bs q h hp=>by
 unfold pOne at h
 split at h
 ·split at h
  ·cases h
   have:=Qln (by assumption) _ hp.2
   rw [qx,<- hp.1] at this
   exact this
  ·cases h
 ·cases h
def JU (t x:Tk):Bool:=decide (x.cab=t.cab) && !decide (t.to<=x.frm) && !decide (x.to<=t.frm) && (decide (x.bed=t.bed) || (!decide (x.party=t.party) && (!decide (x.sex=t.sex) || x.dog || t.dog)))
def QP (l:List Tk) (t:Tk):Bool:=!l.any (JU t)
theorem Qhr {l:List Tk} {t:Tk} {k:Nat} (hk:k < l.length) (h:JU t (l.getD k default)=true):QP l t=false:=by
 unfold QP
 rw [cm.2 ⟨_,yX hk,h⟩];rfl
theorem Qdg {l:List Tk} {t:Tk} (h:∀ j,j < l.length->JU t (l.getD j default)=false):QP l t=true:=by
 unfold QP
 rw [show l.any (JU t)=false from dN.2 fun x hx=>?_]
 ·rfl
 ·obtain ⟨j,hj,rfl⟩:=cG.1 hx
  have:=h j hj
  rw [show l.getD j default=l[j] by simp [ah,hj]] at this
  rw [this];simp
def goS (l:List Tk) (t:Tk) (k:Nat):St:={ t:=asg [(0,qy l),(3,.ptr 0 0),(4,aB false),(5,aI k)],h:=qa [(0,.cells (cTk t))],n:=1 }
def jF:=jv @ty3 (jv @ty4 (jv @xW (jv @xy (jv @yc (jv @ti3.eq_1 (jv @ti4.eq_1 (jv @vW.eq_1 (jv @yY.eq_1 @jM.eq_1))))))))
def wY:=jv @aI.eq_1 (@aB.eq_1)
theorem Qh3 (l:List Tk) (t:Tk) (hl:l.length<=100):FnV Tryz.prog 40 [qy l,aTk t] (aB (QP l t)):=by
 have env:=qB (A:=fun _=>True) kN
 refine kV (Fn0 Tryz.func40 rfl (fun vs w=>by kernel_rfl) (by kernel_rfl)) (by simp) (by simp [AV.ids,AV.idsL,qy,aTk,cTk]) ?_
 repeat' first|(apply nx;with_reducible constructor)|apply jq (by decide)|((first|apply jz env|apply jw);intro Q hQ;simp only [vkt,seval,aTk,cTk,qy,ite_and];(repeat' first|with_reducible assumption|apply jv|intro hp);all_goals first|(apply hQ;clear hQ Q)|(apply jx;kernel_rfl)|omega|assumption|with_reducible rfl|skip)
 refine qY (fun k:{ k:Nat // k<=l.length/\∀ j,j < k->JU t (l.getD j default)=false }=>goS l t k.1) (fun k=>l.length - k.1) ⟨0,ap _,fun j h=>absurd h (bu _)⟩ ?_ fun ⟨k,hk,hno⟩=>?_
 ·(refine Le.ok some [] ?_;constructor;all_goals (try simp only [vle,vkt,seval,wY,cTk,qy]))
  all_goals first|rfl|simp
 simp only at hk hno ⊢
 by_cases hkl:k < l.length
 ·have d1:decide ((k:Int) < (l.length:Int))=true:=decide_eq_true (by omega)
  have e9:=k9 k (by omega)
  have i0:((k:Int)).toNat=k:=rfl
  obtain ⟨x,hx⟩:∃ x,l.getD k default=x:=⟨_,rfl⟩
  have nxt:JU t x=false->∀ S,Le S (goS l t (k+1))->∃ y:{ k:Nat // k<=l.length/\∀ j,j < k->JU t (l.getD j default)=false },(l.length - y.1 < l.length - k)/\Le S (goS l t y.1):=fun hb S hS=>⟨⟨k+1,hkl,fun j hj=>by
   rcases bw (bx hj) with h1|h1
   ·exact hno j h1
   ·rw [h1,hx];exact hb⟩,by show l.length - (k+1) < l.length - k;omega,hS⟩
  have fin:JU t x=true->QP l t=false:=fun hb=>Qhr hkl (by rw [hx];exact hb)
  have hbx:JU t x=(decide (x.cab=t.cab) && !decide (t.to<=x.frm) && !decide (x.to<=t.frm) && (decide (x.bed=t.bed) || (!decide (x.party=t.party) && (!decide (x.sex=t.sex) || x.dog || t.dog)))):=rfl
  cases q1:decide (x.cab=t.cab)
  ·repeat' first|(apply nx;with_reducible constructor)|apply jq (by decide)|((first|apply jz env|apply jw);intro Q hQ;simp only [vkt,seval,jF,wY,cTk,qy,eTk,gTk,goS,d1,e9,i0,hkl,hx,q1,ite_and];(repeat' first|with_reducible assumption|apply jv|intro hp);all_goals first|(apply hQ;clear hQ Q)|(apply jx;kernel_rfl)|omega|assumption|with_reducible rfl|skip)
   refine nxt (by rw [hbx,q1];rfl) _ ?_
   (refine Le.ok some [] ?_;constructor;all_goals (try simp only [vle,vkt,seval,wY,cTk,qy]))
   all_goals first|rfl|simp
  cases q2:decide (t.to<=x.frm)
  case true =>
   repeat' first|(apply nx;with_reducible constructor)|apply jq (by decide)|((first|apply jz env|apply jw);intro Q hQ;simp only [vkt,seval,jF,wY,cTk,qy,eTk,gTk,goS,d1,e9,i0,hkl,hx,q1,q2,ite_and];(repeat' first|with_reducible assumption|apply jv|intro hp);all_goals first|(apply hQ;clear hQ Q)|(apply jx;kernel_rfl)|omega|assumption|with_reducible rfl|skip)
   refine nxt (by rw [hbx,q1,q2];rfl) _ ?_
   (refine Le.ok some [] ?_;constructor;all_goals (try simp only [vle,vkt,seval,wY,cTk,qy]))
   all_goals first|rfl|simp
  cases q3:decide (x.to<=t.frm)
  case true =>
   repeat' first|(apply nx;with_reducible constructor)|apply jq (by decide)|((first|apply jz env|apply jw);intro Q hQ;simp only [vkt,seval,jF,wY,cTk,qy,eTk,gTk,goS,d1,e9,i0,hkl,hx,q1,q2,q3,ite_and];(repeat' first|with_reducible assumption|apply jv|intro hp);all_goals first|(apply hQ;clear hQ Q)|(apply jx;kernel_rfl)|omega|assumption|with_reducible rfl|skip)
   refine nxt (by rw [hbx,q1,q2,q3];rfl) _ ?_
   (refine Le.ok some [] ?_;constructor;all_goals (try simp only [vle,vkt,seval,wY,cTk,qy]))
   all_goals first|rfl|simp
  cases q4:decide (x.bed=t.bed)
  case true =>
   rw [fin (by rw [hbx,q1,q2,q3,q4];rfl)]
   repeat' first|(apply nx;with_reducible constructor)|apply jq (by decide)|((first|apply jz env|apply jw);intro Q hQ;simp only [vkt,seval,jF,wY,cTk,qy,eTk,gTk,goS,d1,i0,hkl,hx,q1,q2,q3,q4,ite_and];(repeat' first|with_reducible assumption|apply jv|intro hp);all_goals first|(apply hQ;clear hQ Q)|(apply jx;kernel_rfl)|omega|assumption|with_reducible rfl|skip)
   (simp only [vrt,Tryz.results40,vkt,seval,wY];refine Fin.val rfl ?_;(try simp only [AV.le]))
   all_goals first|rfl|simp
  cases q5:decide (x.party=t.party)
  case true =>
   repeat' first|(apply nx;with_reducible constructor)|apply jq (by decide)|((first|apply jz env|apply jw);intro Q hQ;simp only [vkt,seval,jF,wY,cTk,qy,eTk,gTk,goS,d1,e9,i0,hkl,hx,q1,q2,q3,q4,q5,ite_and];(repeat' first|with_reducible assumption|apply jv|intro hp);all_goals first|(apply hQ;clear hQ Q)|(apply jx;kernel_rfl)|omega|assumption|with_reducible rfl|skip)
   refine nxt (by rw [hbx,q1,q2,q3,q4,q5];rfl) _ ?_
   (refine Le.ok some [] ?_;constructor;all_goals (try simp only [vle,vkt,seval,wY,cTk,qy]))
   all_goals first|rfl|simp
  cases q6:decide (x.sex=t.sex)
  ·rw [fin (by rw [hbx,q1,q2,q3,q4,q5,q6];rfl)]
   repeat' first|(apply nx;with_reducible constructor)|apply jq (by decide)|((first|apply jz env|apply jw);intro Q hQ;simp only [vkt,seval,jF,wY,cTk,qy,eTk,gTk,goS,d1,i0,hkl,hx,q1,q2,q3,q4,q5,q6,ite_and];(repeat' first|with_reducible assumption|apply jv|intro hp);all_goals first|(apply hQ;clear hQ Q)|(apply jx;kernel_rfl)|omega|assumption|with_reducible rfl|skip)
   (simp only [vrt,Tryz.results40,vkt,seval,wY];refine Fin.val rfl ?_;(try simp only [AV.le]))
   all_goals first|rfl|simp
  cases q7:x.dog
  case true =>
   rw [fin (by rw [hbx,q1,q2,q3,q4,q5,q6,q7];rfl)]
   repeat' first|(apply nx;with_reducible constructor)|apply jq (by decide)|((first|apply jz env|apply jw);intro Q hQ;simp only [vkt,seval,jF,wY,cTk,qy,eTk,gTk,goS,d1,i0,hkl,hx,q1,q2,q3,q4,q5,q6,q7,ite_and];(repeat' first|with_reducible assumption|apply jv|intro hp);all_goals first|(apply hQ;clear hQ Q)|(apply jx;kernel_rfl)|omega|assumption|with_reducible rfl|skip)
   (simp only [vrt,Tryz.results40,vkt,seval,wY];refine Fin.val rfl ?_;(try simp only [AV.le]))
   all_goals first|rfl|simp
  cases q8:t.dog
  ·repeat' first|(apply nx;with_reducible constructor)|apply jq (by decide)|((first|apply jz env|apply jw);intro Q hQ;simp only [vkt,seval,jF,wY,cTk,qy,eTk,gTk,goS,d1,e9,i0,hkl,hx,q1,q2,q3,q4,q5,q6,q7,q8,ite_and];(repeat' first|with_reducible assumption|apply jv|intro hp);all_goals first|(apply hQ;clear hQ Q)|(apply jx;kernel_rfl)|omega|assumption|with_reducible rfl|skip)
   refine nxt (by rw [hbx,q1,q2,q3,q4,q5,q6,q7,q8];rfl) _ ?_
   (refine Le.ok some [] ?_;constructor;all_goals (try simp only [vle,vkt,seval,wY,cTk,qy]))
   all_goals first|rfl|(simp [q8];done)
  ·rw [fin (by rw [hbx,q1,q2,q3,q4,q5,q6,q7,q8];rfl)]
   repeat' first|(apply nx;with_reducible constructor)|apply jq (by decide)|((first|apply jz env|apply jw);intro Q hQ;simp only [vkt,seval,jF,wY,cTk,qy,eTk,gTk,goS,d1,i0,hkl,hx,q1,q2,q3,q4,q5,q6,q7,q8,ite_and];(repeat' first|with_reducible assumption|apply jv|intro hp);all_goals first|(apply hQ;clear hQ Q)|(apply jx;kernel_rfl)|omega|assumption|with_reducible rfl|skip)
   (simp only [vrt,Tryz.results40,vkt,seval,wY];refine Fin.val rfl ?_;(try simp only [AV.le]))
   all_goals first|rfl|simp
 ·have d1:decide ((k:Int) < (l.length:Int))=false:=decide_eq_false (by omega)
  rw [Qdg (fun j hj=>hno j (by omega))]
  repeat' first|(apply nx;with_reducible constructor)|apply jq (by decide)|((first|apply jz env|apply jw);intro Q hQ;simp only [vkt,seval,jF,wY,cTk,qy,goS,d1,ite_and];(repeat' first|with_reducible assumption|apply jv|intro hp);all_goals first|(apply hQ;clear hQ Q)|(apply jx;kernel_rfl)|omega|assumption|with_reducible rfl|skip)
  (simp only [vrt,Tryz.results40,vkt,seval,wY];refine Fin.val rfl ?_;(try simp only [AV.le]))
  all_goals first|rfl|simp
def Qg5:List AV->Prop × AV
 |[.sl l,.agg [.v (.int .i64 t0),.v (.int .i64 t1),.v (.int .i64 t2),.v (.int .i64 t3),.v (.int .i64 t4),.v (.int .i64 t5),.v (.bool t6)]]=>(l=(l.map dTk).map eTk/\(l.map dTk).length<=100,aB (QP (l.map dTk) (⟨t0,t1,t2,t3,t4,t5,t6⟩:Tk)))
 |_=>(False,.junk)
theorem egoes {A:Frm->Prop}:qm A Tryz.prog 40 (zU true Qg5):=ze fun vs hv h=>by
 clear hv
 unfold Qg5 at h ⊢
 split at h
 ·rename_i l t0 t1 t2 t3 t4 t5 t6;obtain ⟨q0,k0⟩:=h
  refine ⟨by first|trivial|(repeat' split) <;> simp [AV.plain,AV.plainL,aI,aB,qx,qb,qy,qw,aTk,cTk],fun _=>(by simp [AV.flat,aB]), ?_⟩
  have:=Qh3 (l.map dTk) (⟨t0,t1,t2,t3,t4,t5,t6⟩:Tk) k0
  simp only [aB,aTk,qy,cTk,<- q0] at this
  first|exact this|(simp only [aB,aI,aTk,qy,cTk,<- q0];exact this)
 ·exact h.elim
theorem dI1 (a:Int):zD [.v (.int .i64 a)]=a:=rfl
noncomputable def yl (x:Int):Nat->List Cabin × Int
 |0=>([],x)
 |k+1=>((yl x k).1++[⟨1+upV (yl x k).2 2,decide (upV (upS (yl x k).2 2) 2 < 2)⟩],upS (upS (yl x k).2 2) 2)
noncomputable def pA (p s:Int):Int × Int:=if p=0 then (p+(1+upV s 2),upS s 2) else if upV s 3 < 1 then (p,upS s 3) else (p+(1+upV (upS s 3) 2),upS (upS s 3) 2)
noncomputable def j4 (cs:List Cabin) (secs p s1:Int):Tk × Int :=
 let n:=upV s1 ((cs.length:Int) - 1)
 let s2:=upS s1 ((cs.length:Int) - 1)
 let s3:=upS s2 1
 let b:=(cs.getD n.toNat default).beds
 let s4:=upS s3 (b - 1)
 let f:=upV s4 (secs - 1)
 let s5:=upS s4 (secs - 1)
 let s6:=upS s5 7
 (⟨p,([1,2]:List Int).getD (upV s2 1).toNat 0,n,upV s3 (b - 1),f,f+1+upV s6 (secs - (f+1)),decide (upV s5 7 < 1)⟩,upS s6 (secs - (f+1)))
noncomputable def tkK (cs:List Cabin) (secs x:Int):Nat->Int × List Tk × Int
 |0=>(0,[],x)
 |k+1=>((pA (tkK cs secs x k).1 (tkK cs secs x k).2.2).1,if QP (tkK cs secs x k).2.1 (j4 cs secs (pA (tkK cs secs x k).1 (tkK cs secs x k).2.2).1 (pA (tkK cs secs x k).1 (tkK cs secs x k).2.2).2).1 then (tkK cs secs x k).2.1++[(j4 cs secs (pA (tkK cs secs x k).1 (tkK cs secs x k).2.2).1 (pA (tkK cs secs x k).1 (tkK cs secs x k).2.2).2).1] else (tkK cs secs x k).2.1,
   (j4 cs secs (pA (tkK cs secs x k).1 (tkK cs secs x k).2.2).1 (pA (tkK cs secs x k).1 (tkK cs secs x k).2.2).2).2)
noncomputable def xL (x g:Int):Int:=1+upV x (g - 1)
noncomputable def YR (x g:Int):Int:=upS x (g - 1)
noncomputable def ym (x g a:Int):List Cabin × Int:=yl (upS (YR x g) (a - 1)) (1+upV (YR x g) (a - 1)).toNat
noncomputable def QeT (x g a s:Int):Int × List Tk × Int:=tkK (ym x g a).1 (xL x g) (upS (ym x g a).2 s) (upV (ym x g a).2 s).toNat
noncomputable def coC (x a g s:Int):Chart:=⟨(ym x g a).1,xL x g,(QeT x g a s).2.1⟩
noncomputable def coX (x a g s:Int):Int:=(QeT x g a s).2.2
theorem up2 (x:Int) {m:Int} (h0:0<=m) (h:m<=100000):0<=upV x m/\upV x m<=m:=by
 have:=Qbm (x:=x) (m:=m) (by omega)
 omega
theorem Qhj {p s p1 s1:Int} (h:pA p s=(p1,s1)) (hp:0<=p/\p<=1000) :
  ∃ (b:Bool) (sB:Int),((decide (p=0)=true/\True/\b=true/\sB=s)\/(decide (p=0)=false/\decide (upV s 3 < 1)=!b/\True/\sB=upS s 3))/\((b=true/\IntKind.wrap .i64 (p+(1+upV sB 2))=p1/\upS sB 2=s1)\/(b=false/\p=p1/\sB=s1)):=by
 unfold pA at h
 split at h
 ·rename_i h0
  have:=up2 s (m:=2) (by omega) (by omega)
  cases h
  exact ⟨true,s,.inl ⟨decide_eq_true h0,trivial,rfl,rfl⟩,.inl ⟨rfl,wrap64 (by omega) (by omega),rfl⟩⟩
 ·rename_i h0
  split at h
  ·rename_i h1
   cases h
   exact ⟨false,upS s 3,.inr ⟨decide_eq_false h0,decide_eq_true h1,trivial,rfl⟩,.inr ⟨rfl,rfl,rfl⟩⟩
  ·rename_i h1
   have:=up2 (upS s 3) (m:=2) (by omega) (by omega)
   cases h
   exact ⟨true,upS s 3,.inr ⟨decide_eq_false h0,decide_eq_false h1,trivial,rfl⟩,.inl ⟨rfl,wrap64 (by omega) (by omega),rfl⟩⟩
theorem Qj1 {p s:Int} (hp:0<=p):p<=(pA p s).1/\1<=(pA p s).1/\(pA p s).1<=p+3:=by
 have h1:=up2 s (m:=2) (by omega) (by omega)
 have h2:=up2 (upS s 3) (m:=2) (by omega) (by omega)
 unfold pA
 split
 ·simp only;omega
 ·split
  ·simp only;omega
  ·simp only;omega
theorem KE (cs:List Cabin) (secs x:Int):∀ k,0<=(tkK cs secs x k).1/\(tkK cs secs x k).1<=3 * k/\(tkK cs secs x k).2.1.length<=k
 |0=>⟨cS _,cS _,aA _⟩
 |k+1=>by
  obtain ⟨h1,h2,h3⟩:=KE cs secs x k
  have h4:=Qj1 (s:=(tkK cs secs x k).2.2) h1
  rw [tkK]
  refine ⟨by simp only;omega,by simp only;omega, ?_⟩
  simp only
  split
  ·rw [aF,dO];omega
  ·omega
theorem KH (x:Int):∀ k,(yl x k).1.length=k/\∀ c ∈ (yl x k).1,1<=c.beds/\c.beds<=3
 |0=>⟨rfl,by simp [yl]⟩
 |k+1=>by
  obtain ⟨h1,h2⟩:=KH x k
  have h3:=up2 (yl x k).2 (m:=2) (by omega) (by omega)
  rw [yl]
  refine ⟨by simp [h1],fun c hc=>?_⟩
  rcases aw.1 hc with hc|hc
  ·exact h2 c hc
  ·rw [aO.1 hc];simp only;omega
def coA (secs s m:Int) (i:Nat) (cs:List Cabin):St:={ t:=asg [(0,.ptr 0 0),(3,aI m),(8,.ptr 1 0),(9,.ptr 2 0),(10,aI i)],h:=qa [(0,.cells [.v (.int .u64 s)]),(1,.cells [.nil,aI 0,.nil]),(2,.cells [.row 3,aI secs,.nil]),(3,.row 84 2 (cs.map qo))],n:=4,m:=1 }
def coB (cs:List Cabin) (secs s p:Int) (i:Nat) (l:List Tk):St:={ t:=asg [(0,.ptr 0 0),(8,.ptr 1 0),(9,.ptr 2 0),(11,aI p),(12,aI i)],h:=qa [(0,.cells [.v (.int .u64 s)]),(1,.cells [.nil,aI 0,.nil]),(2,.cells [.row 3,aI secs,.row 4]),(3,.row 84 2 (cs.map qo)),(4,.row 88 7 (l.map eTk))],n:=5,m:=1 }
def coM (cs:List Cabin) (secs s p:Int) (i:Nat) (l:List Tk) (T:List (Nat × AV)) (O:List (Nat × AObj)) (n:Nat):St:={ t:=asg (T++[(0,.ptr 0 0),(8,.ptr 1 0),(9,.ptr 2 0),(11,aI p),(12,aI i)]),h:=qa ([(0,.cells [.v (.int .u64 s)]),(1,.cells [.nil,aI 0,.nil]),(2,.cells [.row 3,aI secs,.row 4]),(3,.row 84 2 (cs.map qo)),(4,.row 88 7 (l.map eTk))]++O),n:=n,m:=1 }
def zw:=jv @ty3 (jv @JH (jv @xW (jv @jW (jv @WG (jv @xy (jv @JI (jv @yc (jv @ti3.eq_1 (jv @ZW.eq_1 (jv @vW.eq_1 (jv @jE.eq_1 (jv @QV.eq_1 (jv @yY.eq_1 (jv @Z5.eq_1 @jM.eq_1))))))))))))))
def jr:=jv @aI.eq_1 (jv @aB.eq_1 (@zG.eq_1))
theorem QbA (x a g s:Int) (ha:1<=a/\a<=3) (hg:1<=g/\g<=5) (hs:0<=s/\s<=8):Fn noB Tryz.prog 9 [.ptr 0 0,aI a,aI g,aI s] (qa (jN x)) (qh (coC x a g s)) (qa (jN (coX x a g s))) 0:=by
 have env:=qB (A:=fun _=>True) (kC eFrom (kC eUp (kC Qh7 (kC eOne (kC egoes kN)))))
 refine Fn.of (A:=fun _=>True) (n0:=1) (D:=noD) (Fn0 Tryz.func9 rfl (fun vs w=>by kernel_rfl) (by kernel_rfl)) (by simp) (by simp [AV.ids,aI]) ?_ (fun _ _ _ _=>trivial) q9 ?_
 ·intro i o hi
  have h:=qE hi
  simp [jN] at h
  rcases h with ⟨rfl,rfl⟩;simp [AObj.ids,AV.ids,AV.idsL]
 have m1:min g 5=g:=by omega
 have m2:min a 3=a:=by omega
 have m3:min s 8=s:=by omega
 have hmx:(100000:Nat)<=maxLen:=by decide
 have hsc:=up2 x (m:=g - 1) (by omega) (by omega)
 have hx1:upS x (g - 1)=YR x g:=rfl
 have hsb:1<=xL x g/\xL x g<=5:=by unfold xL;omega
 have hcs:1+upV x (g - 1)=xL x g:=rfl
 have hnc:=up2 (YR x g) (m:=a - 1) (by omega) (by omega)
 obtain ⟨nc,hnc1⟩:∃ nc:Nat,1+upV (YR x g) (a - 1)=nc:=⟨(1+upV (YR x g) (a - 1)).toNat,by omega⟩
 obtain ⟨y,hy⟩:∃ y,upS (YR x g) (a - 1)=y:=⟨_,rfl⟩
 have hcc:ym x g a=yl y nc:=by unfold ym;rw [hy,hnc1];rfl
 have hcb:=KH y
 have hnt:=up2 (yl y nc).2 (m:=s) (by omega) (by omega)
 obtain ⟨nt,hnt1⟩:∃ nt:Nat,upV (yl y nc).2 s=nt:=⟨(upV (yl y nc).2 s).toNat,by omega⟩
 obtain ⟨z,hz⟩:∃ z,upS (yl y nc).2 s=z:=⟨_,rfl⟩
 have htk:QeT x g a s=tkK (yl y nc).1 (xL x g) z nt:=by unfold QeT;rw [hcc,hz,hnt1];rfl
 unfold coC coX
 rw [hcc,htk]
 obtain ⟨S,hS⟩:∃ S,xL x g=S:=⟨_,rfl⟩
 rw [hS] at hsb hcs ⊢
 obtain ⟨X1,hX1⟩:∃ X1,YR x g=X1:=⟨_,rfl⟩
 rw [hX1] at hx1 hnc1 hy hnc
 have hal:-100000<=(1:Int):=by decide
 have b1:g<=100000:=by omega
 have b2:a<=100000:=by omega
 have b3:-100000<=g:=by omega
 have b4:-100000<=a:=by omega
 have b5:s < 9223372036854775807:=by omega
 show Sym _ _ _ (qP [.ptr 0 0,aI a,aI g,aI s] 1 (qa [(0,.cells [.v (.int .u64 x)])])) (jP tyB noD Tryz.f9 fun S' rv=>Fin S' rv _ 1 (qa [(0,.cells [.v (.int .u64 (tkK (yl y nc).1 S z nt).2.2)])]) 0)
 repeat' first|(apply nx;with_reducible constructor)|apply jq (by decide)|((first|apply jz env|apply jw);intro Q hQ;simp only [vkt,seval,zw,jr,XP,m1,m2,hcs,hx1,hnc1,hy,ite_and];(repeat' first|with_reducible assumption|apply jv|intro hp);all_goals first|(apply hQ;clear hQ Q)|(apply jx;kernel_rfl)|omega|assumption|with_reducible rfl|skip)
 refine qY (fun k:{ k:Nat // k<=nc }=>coA S (yl y k.1).2 s (nc - k.1) (yl y k.1).1) (fun k=>nc - k.1) ⟨0,ap _⟩ ?_ fun ⟨k,hk⟩=>?_
 ·(refine Le.ok (fun i=>if i=3 then none else some i) [] ?_;constructor;all_goals (try simp only [vle,vkt,seval,jr]))
  all_goals first|rfl|(simp [yl];done)|(intro i hi;rw [if_neg (by omega)];done)
 simp only at hk ⊢
 by_cases hkl:k < nc
 ·have d1:decide ((0:Int) < ((nc - k:Nat):Int))=true:=decide_eq_true (by omega)
  have w1:IntKind.wrap .i64 (((nc - k:Nat):Int) - 1)=((nc - (k+1):Nat):Int):=by rw [wrap64 (by omega) (by omega)];omega
  have hl:=(hcb k).1
  have hl1:(yl y k).1.length+1<=maxLen:=by omega
  have hS1:(yl y (k+1)).1=(yl y k).1++[⟨1+upV (yl y k).2 2,decide (upV (upS (yl y k).2 2) 2 < 2)⟩]:=by rw [yl]
  have hS2:(yl y (k+1)).2=upS (upS (yl y k).2 2) 2:=by rw [yl]
  repeat' first|(apply nx;with_reducible constructor)|apply jq (by decide)|((first|apply jz env|apply jw);intro Q hQ;simp only [vkt,seval,zw,jr,wR,coA,XP,WO,d1,w1,hl1,ite_and];(repeat' first|with_reducible assumption|apply jv|intro hp);all_goals first|(apply hQ;clear hQ Q)|(apply jx;kernel_rfl)|omega|assumption|with_reducible rfl|skip)
  refine ⟨⟨k+1,hkl⟩,by show nc - (k+1) < nc - k;omega, ?_⟩
  show Le _ (coA S (yl y (k+1)).2 s (nc - (k+1)) (yl y (k+1)).1)
  rw [hS1,hS2]
  (refine Le.ok (fun i=>if i=3 then some 5 else some i) [] ?_;constructor;all_goals (try simp only [vle,vkt,seval,jr]))
  all_goals first|rfl|(rw [aq];rfl)|(simp;done)|(intro i hi;rw [if_neg (by omega)];done)
 ·have d1:decide ((0:Int) < ((nc - k:Nat):Int))=false:=decide_eq_false (by omega)
  obtain rfl:k=nc:=by omega
  obtain ⟨hcl,hcm⟩:=hcb k
  obtain ⟨⟨cs,u⟩,hcu⟩:∃ c,yl y k=c:=⟨_,rfl⟩
  rw [hcu] at hcl hcm hnt hnt1 hz ⊢
  simp only at hcl hcm hnt hnt1 hz ⊢
  repeat' first|(apply nx;with_reducible constructor)|apply jq (by decide)|((first|apply jz env|apply jw);intro Q hQ;simp only [vkt,seval,zw,jr,coA,pUp,d1,m3,hnt1,hz,ite_and];(repeat' first|with_reducible assumption|apply jv|intro hp);all_goals first|(apply hQ;clear hQ Q)|(apply jx;kernel_rfl)|omega|assumption|with_reducible rfl|skip)
  refine qY (fun j:{ j:Nat // j<=nt }=>coB cs S (tkK cs S z j.1).2.2 (tkK cs S z j.1).1 (nt - j.1) (tkK cs S z j.1).2.1) (fun j=>nt - j.1) ⟨0,ap _⟩ ?_ fun ⟨j,hj⟩=>?_
  ·(refine Le.ok (fun i=>if i=4 then none else some i) [] ?_;constructor;all_goals (try simp only [vle,vkt,seval,jr]))
   all_goals first|rfl|(simp [tkK];done)|(intro i hi;rw [if_neg (by omega)];done)
  simp only at hj ⊢
  by_cases hjl:j < nt
  ·have d1:decide ((0:Int) < ((nt - j:Nat):Int))=true:=decide_eq_true (by omega)
   have w1:IntKind.wrap .i64 (((nt - j:Nat):Int) - 1)=((nt - (j+1):Nat):Int):=by rw [wrap64 (by omega) (by omega)];omega
   obtain ⟨hp0,hp3,hll⟩:=KE cs S z j
   have hK1:tkK cs S z (j+1)=((pA (tkK cs S z j).1 (tkK cs S z j).2.2).1,if QP (tkK cs S z j).2.1 (j4 cs S (pA (tkK cs S z j).1 (tkK cs S z j).2.2).1 (pA (tkK cs S z j).1 (tkK cs S z j).2.2).2).1 then (tkK cs S z j).2.1++[(j4 cs S (pA (tkK cs S z j).1 (tkK cs S z j).2.2).1 (pA (tkK cs S z j).1 (tkK cs S z j).2.2).2).1] else (tkK cs S z j).2.1,(j4 cs S (pA (tkK cs S z j).1 (tkK cs S z j).2.2).1 (pA (tkK cs S z j).1 (tkK cs S z j).2.2).2).2):=by rw [tkK]
   obtain ⟨⟨p,l,s0⟩,hK⟩:∃ q,tkK cs S z j=q:=⟨_,rfl⟩
   rw [hK] at hp0 hp3 hll hK1 ⊢
   simp only at hp0 hp3 hll hK1 ⊢
   have hl1:l.length+1<=maxLen:=by omega
   have hl100:l.length<=100:=by omega
   obtain ⟨⟨p1,s1⟩,hA⟩:∃ q,pA p s0=q:=⟨_,rfl⟩
   have hAc:=Qhj hA ⟨hp0,by omega⟩
   rw [hA] at hK1
   simp only at hK1
   have hn0:=up2 s1 (m:=(k:Int) - 1) (by omega) (by omega)
   obtain ⟨n,hn⟩:∃ n:Nat,upV s1 ((k:Int) - 1)=n:=⟨(upV s1 ((k:Int) - 1)).toNat,by omega⟩
   obtain ⟨s2,hs2⟩:∃ q,upS s1 ((k:Int) - 1)=q:=⟨_,rfl⟩
   obtain ⟨sx,hsx⟩:∃ q,([1,2]:List Int).getD (upV s2 1).toNat 0=q:=⟨_,rfl⟩
   obtain ⟨s3,hs3⟩:∃ q,upS s2 1=q:=⟨_,rfl⟩
   have hnk:n < cs.length:=by omega
   obtain ⟨cb,hcbv⟩:∃ q,cs.getD n default=q:=⟨_,rfl⟩
   have hcg:=QhF hnk
   rw [hcbv] at hcg
   have hbb:=hcm cb (by rw [<- hcbv];exact yX hnk)
   obtain ⟨bd,hbd⟩:∃ q,upV s3 (cb.beds - 1)=q:=⟨_,rfl⟩
   obtain ⟨s4,hs4⟩:∃ q,upS s3 (cb.beds - 1)=q:=⟨_,rfl⟩
   have hf0:=up2 s4 (m:=S - 1) (by omega) (by omega)
   obtain ⟨f,hf⟩:∃ q,upV s4 (S - 1)=q:=⟨_,rfl⟩
   rw [hf] at hf0
   obtain ⟨s5,hs5⟩:∃ q,upS s4 (S - 1)=q:=⟨_,rfl⟩
   obtain ⟨dg,hdg⟩:∃ q,decide (upV s5 7 < 1)=q:=⟨_,rfl⟩
   obtain ⟨s6,hs6⟩:∃ q,upS s5 7=q:=⟨_,rfl⟩
   obtain ⟨tt,htt⟩:∃ q,f+1+upV s6 (S - (f+1))=q:=⟨_,rfl⟩
   obtain ⟨s7,hs7⟩:∃ q,upS s6 (S - (f+1))=q:=⟨_,rfl⟩
   have hTn:j4 cs S p1 s1=(⟨p1,sx,n,bd,f,tt,dg⟩,s7):=by
    unfold j4
    simp only [hcl,hn,hs2,hsx,hs3,cn,hcbv,hbd,hs4,hf,hs5,hdg,hs6,htt,hs7]
   rw [hTn] at hK1
   simp only at hK1
   have w2:IntKind.wrap .i64 ((k:Int) - 1)=(k:Int) - 1:=wrap64 (by omega) (by omega)
   have w3:IntKind.wrap .i64 (cb.beds - 1)=cb.beds - 1:=wrap64 (by omega) (by omega)
   have w4:IntKind.wrap .i64 (S - 1)=S - 1:=wrap64 (by omega) (by omega)
   have w5:IntKind.wrap .i64 (f+1)=f+1:=wrap64 (by omega) (by omega)
   have e1:(k:Int) - 1 < 9223372036854775807:=by omega
   have e2:cb.beds - 1 < 9223372036854775807:=by omega
   have e3:S - 1 < 9223372036854775807:=by omega
   have e4:-100000<=f+1:=by omega
   have e5:f+1<=100000:=by omega
   have e6:-100000<=S:=by omega
   have e7:S<=100000:=by omega
   have i0:((n:Int)).toNat=n:=rfl
   obtain ⟨gb,hgb⟩:∃ q,QP l ⟨p1,sx,n,bd,f,tt,dg⟩=q:=⟨_,rfl⟩
   rw [hgb] at hK1
   obtain ⟨bb,sB,hc1,hc2⟩:=hAc
   repeat' first|(apply nx;with_reducible constructor)|apply jq (by decide)
   ((first|apply jz env|apply jw);intro Q hQ;simp only [vkt,seval,zw,jr,coB,d1,ite_and];(repeat' first|with_reducible assumption|apply jv|intro hp);all_goals first|(apply hQ;clear hQ Q)|(apply jx;kernel_rfl)|omega|assumption|with_reducible rfl|skip)
   repeat' first|(apply nx;with_reducible constructor)|apply jq (by decide)
   ((first|apply jz env|apply jw);intro Q hQ;simp only [vkt,seval,ite_and];(repeat' first|with_reducible assumption|apply jv|intro hp);all_goals first|(apply hQ;clear hQ Q)|(apply jx;kernel_rfl)|omega|assumption|with_reducible rfl|skip)
   repeat' first|(apply nx;with_reducible constructor)|apply jq (by decide)
   refine Sym.mono (K:=fun e S1=>e=.normal/\Le S1 (coM cs S sB p (nt - j) l [(52,aB bb)] [] 5)) ?_ ?_
   ·rcases hc1 with ⟨q0,q1,rfl,rfl⟩|⟨q0,q1,q2,rfl⟩
    all_goals
     ((first|apply jz env|apply jw);intro Q hQ;simp only [vkt,seval,zw,WO,q0,q1,Bool.not_not,ite_and];(repeat' first|with_reducible assumption|apply jv|intro hp);all_goals first|(apply hQ;clear hQ Q)|(apply jx;kernel_rfl)|omega|assumption|with_reducible rfl|skip)
     refine ⟨rfl, ?_⟩
     simp only [coM,aT,aG]
     (refine Le.ok some [] ?_;constructor;all_goals (try simp only [vle,vkt,seval,jr]))
     all_goals first|rfl|simp
   rintro e S1 ⟨rfl,hle⟩
   refine (ve hle ?_:Sym _ _ _ S1 _)
   clear hle S1 hc1
   refine Sym.mono (K:=fun e S1=>e=.normal/\Le S1 (coM cs S s1 p1 (nt - j) l [] [] 5)) ?_ ?_
   ·rcases hc2 with ⟨rfl,wp,hs1⟩|⟨rfl,wp,hs1⟩
    all_goals
     repeat' first|(apply nx;with_reducible constructor)|apply jq (by decide)|((first|apply jz env|apply jw);intro Q hQ;simp only [vkt,seval,zw,jr,coM,XP,wp,hs1,ite_and];(repeat' first|with_reducible assumption|apply jv|intro hp);all_goals first|(apply hQ;clear hQ Q)|(apply jx;kernel_rfl)|omega|assumption|with_reducible rfl|skip)
     refine ⟨rfl, ?_⟩
     simp only [coM,aT,aG]
     (refine Le.ok some [] ?_;constructor;all_goals (try simp only [vle,vkt,seval,jr]))
     all_goals first|rfl|(rw [wp];done)|(rw [hs1];done)|(simp;done)
   rintro e S1 ⟨rfl,hle⟩
   refine (ve hle ?_:Sym _ _ _ S1 _)
   clear hle S1 hc2
   simp only [coM,aG,aR]
   repeat' first|(apply nx;with_reducible constructor)|apply jq (by decide)
   refine Sym.mono (K:=fun e S1=>e=.normal/\Le S1 (coM cs S s2 p1 (nt - j) l [(13,aI n)] [] 5)) ?_ ?_
   ·((first|apply jz env|apply jw);intro Q hQ;simp only [vkt,seval,zw,jr,pUp,hcl,w2,hn,hs2,ite_and];(repeat' first|with_reducible assumption|apply jv|intro hp);all_goals first|(apply hQ;clear hQ Q)|(apply jx;kernel_rfl)|omega|assumption|with_reducible rfl|skip)
    refine ⟨rfl, ?_⟩
    simp only [coM,aT,aG]
    (refine Le.ok some [] ?_;constructor;all_goals (try simp only [vle,vkt,seval,jr]))
    all_goals first|rfl|simp
   rintro e S1 ⟨rfl,hle⟩
   refine (ve hle ?_:Sym _ _ _ S1 _)
   clear hle S1
   simp only [coM,aT,aG,aR]
   repeat' first|(apply nx;with_reducible constructor)|apply jq (by decide)
   refine Sym.mono (K:=fun e S1=>e=.normal/\Le S1 (coM cs S s6 p1 (nt - j) l [(14,.ptr 5 0)] [(5,.cells [aI p1,aI sx,aI n,aI bd,aI f,aI 0,aB dg])] 6)) ?_ ?_
   ·((first|apply jz env|apply jw);intro Q hQ;simp only [vkt,seval,zw,jr,qo,dI1,pUp,WO,pOne,hsx,hs3,i0,hnk,hcg,w3,hbd,hs4,w4,hf,hs5,hdg,hs6,ite_and];(repeat' first|with_reducible assumption|apply jv|intro hp);all_goals first|(apply hQ;clear hQ Q)|(apply jx;kernel_rfl)|omega|assumption|with_reducible rfl|skip)
    ·exact ⟨_,_,rfl⟩
    refine ⟨rfl, ?_⟩
    simp only [coM,aT,aG]
    (refine Le.ok (fun i=>if i=5 then some 6 else some i) [] ?_;constructor;all_goals (try simp only [vle,vkt,seval,jr]))
    all_goals first|rfl|(simp;done)|(intro i hi;rw [if_neg (by omega)];done)
   rintro e S1 ⟨rfl,hle⟩
   refine (ve hle ?_:Sym _ _ _ S1 _)
   clear hle S1
   simp only [coM,aT,aG]
   repeat' first|(apply nx;with_reducible constructor)|apply jq (by decide)
   ((first|apply jz env|apply jw);intro Q hQ;simp only [vkt,seval,zw,jr,XP,w5,htt,hs7,ite_and];(repeat' first|with_reducible assumption|apply jv|intro hp);all_goals first|(apply hQ;clear hQ Q)|(apply jx;kernel_rfl)|omega|assumption|with_reducible rfl|skip)
   repeat' first|(apply nx;with_reducible constructor)|apply jq (by decide)
   ((first|apply jz env|apply jw);intro Q hQ;simp only [vkt,seval,zw,jr,mTk,Qg5,hl100,hgb,ite_and];(repeat' first|with_reducible assumption|apply jv|intro hp);all_goals first|(apply hQ;clear hQ Q)|(apply jx;kernel_rfl)|omega|assumption|with_reducible rfl|skip)
   cases gb with
   |true =>
    rw [if_pos rfl] at hK1
    repeat' first|(apply nx;with_reducible constructor)|apply jq (by decide)|((first|apply jz env|apply jw);intro Q hQ;simp only [vkt,seval,zw,rTk,hl1,w1,ite_and];(repeat' first|with_reducible assumption|apply jv|intro hp);all_goals first|(apply hQ;clear hQ Q)|(apply jx;kernel_rfl)|omega|assumption|with_reducible rfl|skip)
    refine ⟨⟨j+1,hjl⟩,by show nt - (j+1) < nt - j;omega, ?_⟩
    show Le _ (coB cs S (tkK cs S z (j+1)).2.2 (tkK cs S z (j+1)).1 (nt - (j+1)) (tkK cs S z (j+1)).2.1)
    rw [hK1]
    (refine Le.ok (fun i=>if i=4 then some 7 else some i) [] ?_;constructor;all_goals (try simp only [vle,vkt,seval,jr]))
    all_goals first|rfl|(rw [aq];rfl)|(simp;done)|(intro i hi;rw [if_neg (by omega)];done)
   |false =>
    rw [if_neg (by decide)] at hK1
    repeat' first|(apply nx;with_reducible constructor)|apply jq (by decide)|((first|apply jz env|apply jw);intro Q hQ;simp only [vkt,seval,zw,w1,ite_and];(repeat' first|with_reducible assumption|apply jv|intro hp);all_goals first|(apply hQ;clear hQ Q)|(apply jx;kernel_rfl)|omega|assumption|with_reducible rfl|skip)
    refine ⟨⟨j+1,hjl⟩,by show nt - (j+1) < nt - j;omega, ?_⟩
    show Le _ (coB cs S (tkK cs S z (j+1)).2.2 (tkK cs S z (j+1)).1 (nt - (j+1)) (tkK cs S z (j+1)).2.1)
    rw [hK1]
    (refine Le.ok some [] ?_;constructor;all_goals (try simp only [vle,vkt,seval,jr]))
    all_goals first|rfl|simp
  ·have d1:decide ((0:Int) < ((nt - j:Nat):Int))=false:=decide_eq_false (by omega)
   obtain rfl:j=nt:=by omega
   obtain ⟨⟨p,l,s0⟩,hK⟩:∃ q,tkK cs S z j=q:=⟨_,rfl⟩
   rw [hK]
   repeat' first|(apply nx;with_reducible constructor)|apply jq (by decide)|((first|apply jz env|apply jw);intro Q hQ;simp only [vkt,seval,zw,jr,coB,d1,ite_and];(repeat' first|with_reducible assumption|apply jv|intro hp);all_goals first|(apply hQ;clear hQ Q)|(apply jx;kernel_rfl)|omega|assumption|with_reducible rfl|skip)
   (simp only [vrt,Tryz.results9,vkt,seval,zw,qh,qd];refine Fin.ok some [3,4] ?_ ?_ ?_ ?_ ?_ rfl;all_goals (try simp only [vle,vkt,seval]))
   all_goals first|rfl|simp
noncomputable def sxV (s:Int):Int:=([1,2]:List Int).getD (upV s 1).toNat 0
theorem QlT (s:Int):1<=sxV s/\sxV s<=2:=by
 have h:=up2 s (m:=1) (by omega) (by omega)
 unfold sxV
 obtain h0|h0:(upV s 1).toNat=0\/(upV s 1).toNat=1:=by omega
 ·rw [h0];decide
 ·rw [h0];decide
theorem Qb8 {t x:Tk} (h:JU t x=false):Zp t x=false/\Yl x t=true:=by
 have e1:decide (t.to<=x.frm)=!decide (x.frm < t.to):=by rw [<- decide_not,decide_eq_decide];omega
 have e2:decide (x.to<=t.frm)=!decide (t.frm < x.to):=by rw [<- decide_not,decide_eq_decide];omega
 have e3:decide (x.cab ≠ t.cab)=!decide (x.cab=t.cab):=by rw [<- decide_not]
 unfold JU at h
 unfold Zp Yl Wl
 rw [e1,e2] at h
 rw [e3]
 generalize decide (x.cab=t.cab)=A at *
 generalize decide (x.frm < t.to)=B at *
 generalize decide (t.frm < x.to)=C at *
 generalize decide (x.bed=t.bed)=D at *
 generalize decide (x.party=t.party)=E at *
 generalize decide (x.sex=t.sex)=F at *
 generalize x.dog=G at *
 generalize t.dog=H at *
 clear e1 e2 e3
 revert A B C D E F G H
 decide
theorem Qae {l:List Tk} {t:Tk} (h:QP l t=true):wI t l=0:=by
 have hb:∀ x ∈ l,JU t x=false:=by
  unfold QP at h
  intro x hx
  have:l.any (JU t)=false:=by simpa using h
  have:=dN.1 this x hx
  simpa using this
 unfold wI
 rw [if_neg,if_neg]
 ·rw [cm]
  rintro ⟨x,hx,h1⟩
  rw [(Qb8 (hb x hx)).2] at h1
  exact absurd h1 (by decide)
 ·rw [cm]
  rintro ⟨x,hx,h1⟩
  rw [(Qb8 (hb x hx)).1] at h1
  exact absurd h1 (by decide)
theorem U5 {cs:List Cabin} {secs:Int} {t:Tk} {l:List Tk} (h1:1<=t.party/\t.party<=99) (h2:1<=t.sex/\t.sex<=2) (h3:0<=t.cab/\t.cab.toNat < cs.length) (h4:0<=t.bed/\t.bed < (cs.getD t.cab.toNat default).beds) (h5:0<=t.frm/\t.frm < t.to/\t.to<=secs) (h6:wI t l=0) :
  zY ⟨cs,secs,[]⟩ t l=0:=by
 have b1:inB t.party 1 99=true:=jo.2 h1
 have b2:inB t.sex 1 2=true:=jo.2 h2
 have b3:xm cs t.cab t.bed=true:=by
  unfold xm
  rw [jo.2 (by omega),jo.2 (by omega)];rfl
 have b4:ZU secs t.frm t.to=0:=by unfold ZU;rw [if_neg (by omega)]
 unfold zY
 rw [b1,b2]
 simp only [b3,b4,h6,dw,bS,if_false,ne_eq,not_true_eq_false]
theorem QfJ {cs:List Cabin} {secs p s1:Int} (hc:1<=cs.length/\cs.length<=3) (hb:∀ x ∈ cs,1<=x.beds/\x.beds<=3) (hs:1<=secs/\secs<=5):(j4 cs secs p s1).1.party=p/\(1<=(j4 cs secs p s1).1.sex/\(j4 cs secs p s1).1.sex<=2)/\(0<=(j4 cs secs p s1).1.cab/\(j4 cs secs p s1).1.cab.toNat < cs.length) /\
  (0<=(j4 cs secs p s1).1.bed/\(j4 cs secs p s1).1.bed < (cs.getD (j4 cs secs p s1).1.cab.toNat default).beds)/\0<=(j4 cs secs p s1).1.frm/\(j4 cs secs p s1).1.frm < (j4 cs secs p s1).1.to/\(j4 cs secs p s1).1.to<=secs:=by
 have hn:=up2 s1 (m:=(cs.length:Int) - 1) (by omega) (by omega)
 have hnl:(upV s1 ((cs.length:Int) - 1)).toNat < cs.length:=by omega
 have hbb:=hb _ (yX (d:=default) hnl)
 obtain ⟨bb,hbv⟩:∃ q,(cs.getD (upV s1 ((cs.length:Int) - 1)).toNat default).beds=q:=⟨_,rfl⟩
 rw [hbv] at hbb
 have hbd:=up2 (upS (upS s1 ((cs.length:Int) - 1)) 1) (m:=bb - 1) (by omega) (by omega)
 have hf:=up2 (upS (upS (upS s1 ((cs.length:Int) - 1)) 1) (bb - 1)) (m:=secs - 1) (by omega) (by omega)
 have hsx:=QlT (upS s1 ((cs.length:Int) - 1))
 unfold sxV at hsx
 unfold j4
 simp only [hbv]
 obtain ⟨f,hfv⟩:∃ q,upV (upS (upS (upS s1 ((cs.length:Int) - 1)) 1) (bb - 1)) (secs - 1)=q:=⟨_,rfl⟩
 rw [hfv] at hf
 simp only [hfv]
 have ht:=up2 (upS (upS (upS (upS (upS s1 ((cs.length:Int) - 1)) 1) (bb - 1)) (secs - 1)) 7) (m:=secs - (f+1)) (by omega) (by omega)
 generalize upV (upS (upS (upS (upS (upS s1 ((cs.length:Int) - 1)) 1) (bb - 1)) (secs - 1)) 7) (secs - (f+1))=tt at ht ⊢
 generalize upV (upS (upS s1 ((cs.length:Int) - 1)) 1) (bb - 1)=bd at hbd ⊢
 refine ⟨trivial,hsx,⟨hn.1,hnl⟩,⟨hbd.1,by omega⟩,hf.1,by omega,by omega⟩
theorem Qfj {cs:List Cabin} {secs x:Int} (hc:1<=cs.length/\cs.length<=3) (hb:∀ x ∈ cs,1<=x.beds/\x.beds<=3) (hs:1<=secs/\secs<=5):∀ k,k<=8 ->
  (∀ i,i < (tkK cs secs x k).2.1.length->zY ⟨cs,secs,[]⟩ ((tkK cs secs x k).2.1.getD i default) ((tkK cs secs x k).2.1.take i)=0)/\∀ t ∈ (tkK cs secs x k).2.1,t.party<=24
 |0,_=>by simp [tkK]
 |k+1,hk=>by
  obtain ⟨ih1,ih2⟩:=Qfj (x:=x) hc hb hs k (by omega)
  obtain ⟨h1,h2,h3⟩:=KE cs secs x k
  rw [tkK]
  simp only
  obtain ⟨⟨p,l,s⟩,hK⟩:∃ q,tkK cs secs x k=q:=⟨_,rfl⟩
  rw [hK] at ih1 ih2 h1 h2 h3 ⊢
  simp only at ih1 ih2 h1 h2 h3 ⊢
  have h4:=Qj1 (s:=s) h1
  obtain ⟨⟨p1,s1⟩,hA⟩:∃ q,pA p s=q:=⟨_,rfl⟩
  rw [hA] at h4 ⊢
  simp only at h4 ⊢
  obtain ⟨g1,g2,g3,g4,g5⟩:=QfJ (p:=p1) (s1:=s1) hc hb hs
  obtain ⟨⟨T,s7⟩,hT⟩:∃ q,j4 cs secs p1 s1=q:=⟨_,rfl⟩
  rw [hT] at g1 g2 g3 g4 g5 ⊢
  simp only at g1 g2 g3 g4 g5 ⊢
  split
  ·rename_i hg
   refine ⟨fun i hi=>?_,fun t ht=>?_⟩
   ·rw [aF,dO] at hi
    rcases bw (bx hi) with h|h
    ·have:=ih1 i h
     rw [ah,bp h,<- ah,List.take_append_of_le_length (by omega)]
     exact this
    ·subst h
     rw [show (l++[T]).getD l.length default=T by simp [ah],List.take_append_of_le_length (aA _),bF]
     exact U5 (by omega) g2 g3 g4 g5 (Qae hg)
   ·rcases aw.1 ht with ht|ht
    ·exact ih2 t ht
    ·rw [aO.1 ht];omega
  ·exact ⟨ih1,ih2⟩
theorem co_ok {x a g s:Int} (ha:1<=a/\a<=3) (hg:1<=g/\g<=5) (hs:0<=s/\s<=8):zo (coC x a g s)=0/\(∀ t ∈ (coC x a g s).sold,t.party<=24)/\((coC x a g s).sold.length:Int)<=s/\((coC x a g s).cabins.length:Int)<=a/\(coC x a g s).secs<=g:=by
 have hsc:=up2 x (m:=g - 1) (by omega) (by omega)
 have hsb:1<=xL x g/\xL x g<=g:=by unfold xL;omega
 have hnc:=up2 (YR x g) (m:=a - 1) (by omega) (by omega)
 have hcab:((ym x g a).1.length:Int)<=a/\1<=(ym x g a).1.length/\∀ c ∈ (ym x g a).1,1<=c.beds/\c.beds<=3:=by
  unfold ym
  obtain ⟨h1,h2⟩:=KH (upS (YR x g) (a - 1)) (1+upV (YR x g) (a - 1)).toNat
  refine ⟨by rw [h1];omega,by rw [h1];omega,h2⟩
 obtain ⟨hc0,hc1,hc2⟩:=hcab
 have hnt:=up2 (ym x g a).2 (m:=s) (by omega) (by omega)
 have htk:(QeT x g a s)=tkK (ym x g a).1 (xL x g) (upS (ym x g a).2 s) (upV (ym x g a).2 s).toNat:=rfl
 obtain ⟨k1,k2⟩:=Qfj (x:=upS (ym x g a).2 s) (cs:=(ym x g a).1) (secs:=xL x g) (by omega) hc2 (by omega) (upV (ym x g a).2 s).toNat (by omega)
 obtain ⟨k3,k4,k5⟩:=KE (ym x g a).1 (xL x g) (upS (ym x g a).2 s) (upV (ym x g a).2 s).toNat
 rw [<- htk] at k1 k2 k5
 unfold coC
 simp only
 generalize ym x g a=C at *
 generalize xL x g=S at *
 generalize (QeT x g a s).2.1=T at *
 refine ⟨?_,k2,by omega,hc0,hsb.2⟩
 have hcar:QW ⟨C.1,S,T⟩=0:=by
  unfold QW
  have b1:zH (C.1.length:Int) 1 3=0:=by unfold zH;rw [if_neg (by omega),if_neg (by omega)]
  have b2:yu (C.1.map Jw)=0:=xJ fun j hj=>by
   rw [aj] at hj
   rw [ah,aC,ai hj]
   have:=hc2 C.1[j] (bH hj)
   show Jw C.1[j]=0
   unfold Jw
   rw [jo.2 this];rfl
  have b3:inB S 1 5=true:=jo.2 (by omega)
  have b4:zH (T.length:Int) 0 8=0:=by unfold zH;rw [if_neg (by omega),if_neg (by omega)]
  simp only [b1,b2,b3,b4,ne_eq,not_true_eq_false,if_false,dw,bS]
 unfold zo
 rw [hcar]
 rw [if_neg (by decide)]
 unfold ko
 refine xJ fun j hj=>?_
 rw [aj,dq] at hj
 rw [ah,aC,List.getElem?_range hj]
 exact k1 j hj
theorem Jd {Z:Type} [Inhabited Z] {l m:List Z} (h0:l.length=m.length) (h:∀ j,j < l.length->l.getD j default=m.getD j default):l=m:=by
 apply List.ext_getElem h0
 intro j h1 h2
 have:=h j h1
 simpa [ah,h1,h2] using this
def eqS (l m:List Bunk) (k:Nat):St:={ t:=asg [(0,qb l),(1,qb m),(4,aB false),(5,aI k)],h:=qa [],n:=0 }
def xC:=jv @ty3 (jv @VH (jv @xy (jv @ti3.eq_1 (jv @WP.eq_1 @yY.eq_1))))
def QE:=jv @aI.eq_1 (@aB.eq_1)
theorem QkP (l m:List Bunk) (hl:l.length<=1000) (hm:m.length<=1000):FnV Tryz.prog 33 [qb l,qb m] (aB (decide (l=m))):=by
 have env:=qB (A:=fun _=>True) kN
 refine kV (Fn0 Tryz.func33 rfl (fun vs w=>by kernel_rfl) (by kernel_rfl)) (by simp) (by simp [AV.ids,qb]) ?_
 by_cases h0:l.length=m.length
 ·have d0:decide ((l.length:Int)=(m.length:Int))=true:=decide_eq_true (by omega)
  repeat' first|(apply nx;with_reducible constructor)|apply jq (by decide)|((first|apply jz env|apply jw);intro Q hQ;simp only [vkt,seval,xC,qb,d0,ite_and];(repeat' first|with_reducible assumption|apply jv|intro hp);all_goals first|(apply hQ;clear hQ Q)|(apply jx;kernel_rfl)|omega|assumption|with_reducible rfl|skip)
  refine qY (fun k:{ k:Nat // k<=l.length/\∀ j,j < k->l.getD j default=m.getD j default }=>eqS l m k.1) (fun k=>l.length - k.1) ⟨0,ap _,fun j h=>absurd h (bu _)⟩ ?_ fun ⟨k,hk,hno⟩=>?_
  ·(refine Le.ok some [] ?_;constructor;all_goals (try simp only [vle,vkt,seval,QE,qb]))
   all_goals first|rfl|simp
  ·repeat' first|(apply nx;with_reducible constructor)|apply jq (by decide)
   (apply jz env;intro Q hQ;simp only [vkt,seval,xC,QE,qb,eqS,ite_and];(repeat' first|with_reducible assumption|apply jv|intro hp);all_goals first|(apply hQ;clear hQ Q)|(apply jx;kernel_rfl)|omega|assumption|with_reducible rfl|skip)
   repeat' first|(apply nx;with_reducible constructor)|apply jq (by decide)
   (refine jc (by simp only [vkt,seval];rfl) (fun h=>?_) (fun h=>?_) <;> (try simp only [vki] at h))
   ·have hlt:k < l.length:=by omega
    have hlm:k < m.length:=by omega
    have e9:=k9 k (by omega)
    obtain ⟨x,hx⟩:∃ x,l.getD k default=x:=⟨_,rfl⟩
    obtain ⟨y,hy⟩:∃ x,m.getD k default=x:=⟨_,rfl⟩
    have hxy:(x=y)=(x.cab=y.cab/\x.bed=y.bed):=by cases x;cases y;simp
    have hne:¬ x=y->decide (l=m)=false:=fun h=>decide_eq_false fun e=>h (by rw [<- hx,<- hy,e])
    cases q1:decide (x.cab=y.cab)
    ·rw [hne (by rw [hxy];exact fun h=>of_decide_eq_false q1 h.1)]
     repeat' first|(apply nx;with_reducible constructor)|apply jq (by decide)|((first|apply jz env|apply jw);intro Q hQ;simp only [vkt,seval,xC,qI,wh,bz,hx,hy,q1,hlm,ite_and];(repeat' first|with_reducible assumption|apply jv|intro hp);all_goals first|(apply hQ;clear hQ Q)|(apply jx;kernel_rfl)|omega|assumption|with_reducible rfl|skip)
     (simp only [vrt,Tryz.results33,vkt,seval,QE];refine Fin.val rfl ?_;(try simp only [AV.le]))
     all_goals first|rfl|simp
    ·cases q2:decide (x.bed=y.bed)
     ·rw [hne (by rw [hxy];exact fun h=>of_decide_eq_false q2 h.2)]
      repeat' first|(apply nx;with_reducible constructor)|apply jq (by decide)|((first|apply jz env|apply jw);intro Q hQ;simp only [vkt,seval,xC,qI,wh,hx,hy,q1,q2,hlm,ite_and];(repeat' first|with_reducible assumption|apply jv|intro hp);all_goals first|(apply hQ;clear hQ Q)|(apply jx;kernel_rfl)|omega|assumption|with_reducible rfl|skip)
      (simp only [vrt,Tryz.results33,vkt,seval,QE];refine Fin.val rfl ?_;(try simp only [AV.le]))
      all_goals first|rfl|simp
     ·have he:x=y:=by rw [hxy];exact ⟨of_decide_eq_true q1,of_decide_eq_true q2⟩
      repeat' first|(apply nx;with_reducible constructor)|apply jq (by decide)|((first|apply jz env|apply jw);intro Q hQ;simp only [vkt,seval,xC,qI,wh,hx,hy,q1,q2,hlm,e9,ite_and];(repeat' first|with_reducible assumption|apply jv|intro hp);all_goals first|(apply hQ;clear hQ Q)|(apply jx;kernel_rfl)|omega|assumption|with_reducible rfl|skip)
      refine ⟨⟨k+1,hlt,fun j hj=>?_⟩,by show l.length - (k+1) < l.length - k;omega, ?_⟩
      ·rcases bw (bx hj) with h1|h1
       ·exact hno j h1
       ·rw [h1,hx,hy];exact he
      ·(refine Le.ok some [] ?_;constructor;all_goals (try simp only [vle,vkt,seval,QE,qb]))
       all_goals first|rfl|simp
   ·have hke:k=l.length:=by omega
    subst hke
    rw [decide_eq_true (Jd h0 hno)]
    repeat' first|(apply nx;with_reducible constructor)|apply jq (by decide)|((first|apply jz env|apply jw);intro Q hQ;simp only [vkt,seval,ite_and];(repeat' first|with_reducible assumption|apply jv|intro hp);all_goals first|(apply hQ;clear hQ Q)|(apply jx;kernel_rfl)|omega|assumption|with_reducible rfl|skip)
    (simp only [vrt,Tryz.results33,vkt,seval,QE];refine Fin.val rfl ?_;(try simp only [AV.le]))
    all_goals first|rfl|simp
 ·have d0:decide ((l.length:Int)=(m.length:Int))=false:=decide_eq_false (by omega)
  rw [decide_eq_false (fun e=>h0 (by rw [e]))]
  repeat' first|(apply nx;with_reducible constructor)|apply jq (by decide)|((first|apply jz env|apply jw);intro Q hQ;simp only [vkt,seval,xC,qb,d0,ite_and];(repeat' first|with_reducible assumption|apply jv|intro hp);all_goals first|(apply hQ;clear hQ Q)|(apply jx;kernel_rfl)|omega|assumption|with_reducible rfl|skip)
  (simp only [vrt,Tryz.results33,vkt,seval,QE];refine Fin.val rfl ?_;(try simp only [AV.le]))
  all_goals first|rfl|simp
def seqB:List AV->Prop × AV
 |[.sl l,.sl m]=>(l=(l.map zK).map qI/\m=(m.map zK).map qI/\(l.map zK).length<=1000/\(m.map zK).length<=1000,aB (decide ((l.map zK)=(m.map zK))))
 |_=>(False,.junk)
theorem eeqB {A:Frm->Prop}:qm A Tryz.prog 33 (zU true seqB):=ze fun vs hv h=>by
 clear hv
 unfold seqB at h ⊢
 split at h
 ·rename_i l m;obtain ⟨q0,q1,k0,k1⟩:=h
  refine ⟨by first|trivial|(repeat' split) <;> simp [AV.plain,AV.plainL,aI,aB,qx,qb,qy,qw,aTk,cTk],fun _=>(by simp [AV.flat,aB]), ?_⟩
  have:=QkP (l.map zK) (m.map zK) k0 k1
  simp only [qb,<- q0,<- q1] at this
  first|exact this|(simp only [qb,<- q0,<- q1];exact this)
 ·exact h.elim
def jK (more:List Tk):Chart:=⟨[⟨2,true⟩,⟨2,false⟩,⟨1,false⟩],4,⟨1,1,0,0,0,2,false⟩ :: ⟨2,2,1,0,1,4,false⟩ :: more⟩
def Yc:=jv @JH (jv @xW (jv @jW (jv @JI (jv @yc (jv @ZW.eq_1 (jv @vW.eq_1 (jv @jE.eq_1 (jv @Z5.eq_1 @jM.eq_1))))))))
theorem Qe1 (more:List Tk) (hm:more.length<=100):FnV Tryz.prog 26 [qy more] (qh (jK more)):=by
 have env:=qB (A:=fun _=>True) (kC Qko kN)
 refine kV (Fn0 Tryz.func26 rfl (fun vs w=>by kernel_rfl) (by kernel_rfl)) (by simp) (by simp [AV.ids,qy]) ?_
 have hx:(100:Nat)+2<=maxLen:=by decide
 have h1:more.length+2<=maxLen:=by omega
 have h2:2+more.length<=maxLen:=by omega
 show Sym _ _ _ (qP [qy more] 0 noH) (jP tyB noD Tryz.f26 fun S rv=>Fin S rv _ 0 (qa []) 0)
 repeat' first|(apply nx;with_reducible constructor)|apply jq (by decide)|((first|apply jz env|apply jw);intro Q hQ;simp only [vkt,seval,Yc,aTk,cTk,qy,rTk,Qca,h2,ite_and];(repeat' first|with_reducible assumption|apply jv|intro hp);all_goals first|(apply hQ;clear hQ Q)|(apply jx;kernel_rfl)|omega|assumption|with_reducible rfl|skip)
 simp only [jK,qh,qd,qo,af,au]
 (simp only [vrt,Tryz.results26,vkt,seval,Yc,eTk];refine Fin.ok some [1,3] ?_ ?_ ?_ ?_ ?_ rfl;all_goals (try simp only [vle,vkt,seval]))
 all_goals first|rfl|(simp [];done)
def YN:=jv @WB @QT.eq_1
def Qiu:=jv @aI.eq_1 (jv @aB.eq_1 (@qx.eq_1))
theorem QiN (f t:Int) (d:Bool) (l:List Int):FnV Tryz.prog 28 [aI f,aI t,aB d,qx l] (zh ⟨9,f,t,l,d⟩):=by
 have env:=qB (A:=fun _=>True) kN
 refine kV (Fn0 Tryz.func28 rfl (fun vs w=>by kernel_rfl) (by kernel_rfl)) (by simp) (by simp [AV.ids,aI,aB,qx]) ?_
 repeat' first|(apply nx;with_reducible constructor)|apply jq (by decide)|((first|apply jz env|apply jw);intro Q hQ;simp only [vkt,seval,YN,Qiu,ite_and];(repeat' first|with_reducible assumption|apply jv|intro hp);all_goals first|(apply hQ;clear hQ Q)|(apply jx;kernel_rfl)|omega|assumption|with_reducible rfl|skip)
 (simp only [vrt,Tryz.results28,vkt,seval,YN,zh,qj];refine Fin.val rfl ?_;(try simp only [AV.le,AV.leL]))
 all_goals first|rfl|simp
def pkK (f:Bunk->Int) (l:List Bunk):Nat->Bunk × Int
 |0=>(⟨0,0⟩,0)
 |i+1=>if i=0\/f (l.getD i default) < (pkK f l i).2 then (l.getD i default,f (l.getD i default)) else pkK f l i
def jb:List (List Bunk)->Bunk->Bunk × Int
 |[],_=>(⟨0,0⟩,0)
 |l :: rest,b=>pkK (fun y=>(jb rest y).2+if y=b then 0 else 1) l l.length
def nxF (L:List (List Bunk)) (at_:Nat) (b y:Bunk):Int:=(jb (L.drop (at_+1)) y).2+if y=b then 0 else 1
theorem Qgv {L:List (List Bunk)} {i:Nat} (h:i < L.length) (b:Bunk):jb (L.drop i) b=pkK (nxF L i b) (L.getD i []) (L.getD i []).length:=by
 rw [cE h,jb]
 rw [show L.getD i []=L[i] by simp [ah,h]]
 rfl
def VS:List (List Bunk)->Bunk->List Bunk
 |[],_=>[]
 |l :: rest,b=>(jb (l :: rest) b).1 :: VS rest (jb (l :: rest) b).1
theorem Qhz {f:Bunk->Int} {l:List Bunk} {n:Int} (hn:0<=n) (h:∀ b ∈ l,0<=f b/\f b<=n):∀ i,i<=l.length->0<=(pkK f l i).2/\(pkK f l i).2<=n
 |0,_=>⟨cS 0,hn⟩
 |i+1,hi=>by
  rw [pkK]
  split
  ·exact h _ (yX hi)
  ·exact Qhz hn h i (by omega)
theorem Vw:∀ (L:List (List Bunk)) (b:Bunk),0<=(jb L b).2/\(jb L b).2<=(L.length:Int)
 |[],_=>by simp [jb]
 |l :: rest,b=>by
  rw [jb]
  refine Qhz (by omega) (fun y _=>?_) _ (aA _)
  have:=Vw rest y
  rw [bf]
  split <;> omega
theorem QlB (L:List (List Bunk)) (i:Nat) (b y:Bunk):0<=nxF L i b y/\nxF L i b y<=(L.length:Int)+1:=by
 have h:=Vw (L.drop (i+1)) y
 rw [List.length_drop] at h
 unfold nxF
 split <;> omega
def wkK (L:List (List Bunk)):Nat->List Bunk
 |0=>[]
 |i+1=>wkK L i++[(jb (L.drop i) (if i=0 then ⟨-1,0⟩ else (wkK L i).getD (i - 1) default)).1]
theorem KL (L:List (List Bunk)):∀ i,(wkK L i).length=i
 |0=>rfl
 |i+1=>by rw [wkK,aF,KL L i];rfl
def wkB (L:List (List Bunk)) (i:Nat):Bunk:=if i=0 then ⟨-1,0⟩ else (wkK L i).getD (i - 1) default
theorem VQ (L:List (List Bunk)) (i:Nat):wkK L (i+1)=wkK L i++[(jb (L.drop i) (wkB L i)).1]:=rfl
theorem Qfh (L:List (List Bunk)) (i:Nat):wkB L (i+1)=(jb (L.drop i) (wkB L i)).1:=by
 unfold wkB
 rw [if_neg (by omega),VQ]
 have h:=KL L i
 rw [show i+1 - 1=i by omega,ah,bv (by omega),h]
 simp
 rfl
theorem QcA (L:List (List Bunk)):∀ i,i<=L.length->VS L ⟨-1,0⟩=wkK L i++VS (L.drop i) (wkB L i)
 |0,_=>by simp [wkK,wkB]
 |i+1,h=>by
  rw [QcA L i (by omega),VQ,Qfh]
  conv=>lhs;rw [cE (show i < L.length by omega),VS]
  rw [<- cE (show i < L.length by omega)]
  simp
theorem Qk9 (L:List (List Bunk)):wkK L L.length=VS L ⟨-1,0⟩:=by
 rw [QcA L L.length (aA _),List.drop_length,VS,aR]
def V4 (a:Ask) (s:Int):Ask:=⟨a.party,s,s+1,a.sexes,a.dog⟩
def yC (c:Chart) (a:Ask) (s:Int):List Bunk:=(plP c (V4 a s)).map fun x=>x.1.getD 0 default
def Qe (c:Chart) (a:Ask) (k:Nat):List (List Bunk):=(List.range k).map fun (i:Nat)=>yC c a (a.frm+i)
def Zj (c:Chart) (a:Ask):List (List Bunk):=Qe c a (a.to - a.frm).toNat
theorem QbC (c:Chart) (a:Ask) (k:Nat):Qe c a (k+1)=Qe c a k++[yC c a (a.frm+k)]:=by
 unfold Qe;rw [bB,aq];rfl
def kI (c:Chart) (a:Ask):List Bunk × Int × Int :=
 if wo c a ≠ 0 then ([],0,wo c a) else if 1 < a.sexes.length then ([],0,6) else if a.dog then ([],0,9) else
 if (Zj c a).any (·.isEmpty) then ([],0,11) else (VS (Zj c a) ⟨-1,0⟩,(jb (Zj c a) ⟨-1,0⟩).2 - 1,0)
def Qd (i:Int) (b:Bunk):Value:=.agg #[.int .i64 i,.int .i64 b.cab,.int .i64 b.bed]
theorem UW {i j:Int} {b c:Bunk} (h:Qd i b=Qd j c):i=j/\b=c:=by
 cases b;cases c
 simp [Qd] at h
 obtain ⟨rfl,rfl,rfl⟩:=h
 exact ⟨rfl,rfl⟩
def Qci:KeyInfo:={ kd:=.agg [some .i64,some .i64,some .i64],z:=.v (.int .i64 0),agg:=false }
def RD (es:List (Value × Value)) (kv:Value) (n:Int):Prop:=∃ b,jD Qci (je es kv)=(True,.v (.int .i64 n),b)
theorem Qdf {es:List (Value × Value)} {kv:Value} (h:je es kv=none):RD es kv 0:=by
 refine ⟨false, ?_⟩
 rw [h]
 show (_,_,_)=_
 simp [Qci,AV.ids]
theorem Qdo {es:List (Value × Value)} {kv:Value} {n:Int} (h:je es kv=some (.int .i64 n)):RD es kv n:=by
 refine ⟨true, ?_⟩
 rw [h]
 show (_,_,_)=_
 simp [Qci,V7,Value.oneCell',vAV]
theorem Qdn {es:List (Value × Value)} {kv:Value} {n:Int}:RD (jT es kv (.int .i64 n)) kv n:=Qdo (by rw [Jv,if_pos rfl])
theorem Qb2 {es:List (Value × Value)} {kv kv' v:Value} {n:Int} (hne:kv ≠ kv') (h:RD es kv' n):RD (jT es kv v) kv' n:=by
 unfold RD
 rw [Jv,if_neg hne]
 exact h
theorem Jn {es:List (Value × Value)} {k v:Value}:(jT es k v).length<=es.length+1:=by
 induction es with
 |nil=>simp [jT]
 |cons p es ih =>
  rw [jT]
  split
  ·simp
  ·rw [bf,bf];omega
abbrev Qkt:Value->Prop:=KD.Q (.agg [some .i64,some .i64,some .i64])
theorem spotQ (i:Int) (b:Bunk):Qkt (Qd i b):=⟨⟨_,rfl⟩,⟨_,rfl⟩,⟨_,rfl⟩,trivial⟩
structure BhOk (L:List (List Bunk)) (es:List (Value × Value)) (at_:Nat):Prop where
 ok:MOK Qkt es
 look:∀ j,at_<=j->j < L.length->∀ x ∈ L.getD j [],RD es (Qd j x) (jb (L.drop (j+1)) x).2
theorem QkZ (L:List (List Bunk)):BhOk L [] (L.length - 1):=⟨MOK.nil _,fun j h1 h2 x _=>by
 rw [List.drop_eq_nil_iff.2 (by omega)]
 exact Qdf rfl⟩
structure BhIn (L:List (List Bunk)) (es:List (Value × Value)) (at_ i:Nat):Prop where
 bh:BhOk L es (at_+1)
 cur:∀ k,k < i->k < (L.getD at_ []).length->RD es (Qd at_ ((L.getD at_ []).getD k default)) (jb (L.drop (at_+1)) ((L.getD at_ []).getD k default)).2
theorem BhOk.inn {L:List (List Bunk)} {es:List (Value × Value)} {i:Nat} (h:BhOk L es (i+1)):BhIn L es i 0:=⟨h,fun k hk=>absurd hk (bu _)⟩
theorem BhIn.step {L:List (List Bunk)} {es:List (Value × Value)} {at_ i:Nat} (h:BhIn L es at_ i) {b:Bunk} (hb:(L.getD at_ []).getD i default=b) {n:Int} (hn:(jb (L.drop (at_+1)) b).2=n) :
  BhIn L (jT es (Qd at_ b) (.int .i64 n)) at_ (i+1):=by
 refine ⟨⟨h.bh.ok.set (spotQ _ _),fun j h1 h2 x hx=>Qb2 (fun e=>?_) (h.bh.look j h1 h2 x hx)⟩,fun k hk hl=>?_⟩
 ·have:=(UW e).1;omega
 ·obtain ⟨x,hx⟩:∃ x,(L.getD at_ []).getD k default=x:=⟨_,rfl⟩
  rw [hx]
  by_cases hxb:b=x
  ·subst hxb;rw [hn];exact Qdn
  ·have hki:k < i:=by
    rcases bw (bx hk) with h1|h1
    ·exact h1
    ·subst h1;exact absurd (hb.symm.trans hx) hxb
   have:=h.cur k hki hl
   rw [hx] at this
   exact Qb2 (fun e=>hxb (UW e).2) this
theorem BhIn.out {L:List (List Bunk)} {es:List (Value × Value)} {i:Nat} (h:BhIn L es i (L.getD i []).length):BhOk L es i:=⟨h.bh.ok,fun j h1 h2 x hx=>by
 rcases bw h1 with h3|h3
 ·exact h.bh.look j h3 h2 x hx
 ·subst h3
  obtain ⟨k,hk,rfl⟩:=cG.1 hx
  have:=h.cur k hk hk
  rwa [show (L.getD i []).getD k default=(L.getD i [])[k] by rw [ah,ai hk];rfl] at this⟩
structure NxOk (L:List (List Bunk)) (es:List (Value × Value)) (i:Nat):Prop where
 len:L.length<=100
 lt:i < L.length
 each:∀ l ∈ L,l.length<=1000
 bh:BhOk L es i
def nxL (L:List (List Bunk)) (es:List (Value × Value)):List AObj:=[.cells [.row 2],.cells [.mp 3],.row 65 1 (L.map zI),.map es]
theorem Qjt {L:List (List Bunk)} {es:List (Value × Value)}:∀ i o,qa (qz 0 (nxL L es)) i=some o->i < 4/\∀ id ∈ o.ids,id < 4:=by
 intro i o hi
 have h:=qE hi
 simp [qz,nxL] at h
 rcases h with ⟨rfl,rfl⟩|⟨rfl,rfl⟩|⟨rfl,rfl⟩|⟨rfl,rfl⟩ <;> simp [AObj.ids,AV.ids,AV.idsL]
def ncS (L:List (List Bunk)) (es:List (Value × Value)) (i:Nat) (b:Bunk) (l:List Bunk) (k:Nat) (o:Bunk) (n:Int):St:={ t:=asg [(0,aI i),(2,.ptr 0 0),(3,.ptr 1 0),(5,.ptr 4 0),(6,.ptr 5 0),(7,aI n),(14,qb l),(15,aI l.length),(16,aI k)],h:=qa [(0,.cells [.row 2]),(1,.cells [.mp 3]),(2,.row 65 1 (L.map zI)),(3,.map es),(4,.cells [.v (.int .i64 b.cab),.v (.int .i64 b.bed)]),(5,.cells [.v (.int .i64 o.cab),.v (.int .i64 o.bed)])],n:=6,m:=4 }
def jG:=jv @ty3 (jv @ty59 (jv @VH (jv @xy (jv @Qkn (jv @QjZ (jv @ti3.eq_1 (jv @Qbp.eq_1 (jv @WP.eq_1 (jv @yY.eq_1 (jv @U0.eq_1 @UJ.eq_1))))))))))
def vK:=jv @aI.eq_1 (@aB.eq_1)
theorem Qlz (L:List (List Bunk)) (es:List (Value × Value)) (i:Nat) (b:Bunk) (ok:NxOk L es i):Fn noB Tryz.prog 82 [aI i,qw b,.ptr 0 0,.ptr 1 0] (qa (qz 0 (nxL L es))) (.tup [qw (jb (L.drop i) b).1,aI (jb (L.drop i) b).2]) (qa (za 0 ((nxL L es).map some))) 0:=by
 have env:=qB (A:=fun _=>True) kN
 refine Fn.of (A:=fun _=>True) (n0:=4) (D:=noD) (Fn0 Tryz.func82 rfl (fun vs w=>by kernel_rfl) (by kernel_rfl)) (by simp) (by simp [AV.ids,AV.idsL,aI,qw]) Qjt (fun _ _ _ _=>trivial) q9 ?_
 have hlen:=ok.len
 have hlt:=ok.lt
 have hbd:=QlB L i b
 rw [Qgv hlt]
 obtain ⟨l,hl⟩:∃ l,L.getD i []=l:=⟨_,rfl⟩
 have hll:l.length<=1000:=ok.each l (by rw [<- hl];exact yX hlt)
 have hlook:∀ x ∈ l,RD es (Qd i x) (jb (L.drop (i+1)) x).2:=fun x hx=>ok.bh.look i (aA _) hlt x (by rw [hl];exact hx)
 have hM:MOK (KD.Q (.agg [some .i64,some .i64,some .i64])) es:=ok.bh.ok
 rw [hl]
 show Sym _ _ _ (qP [aI i,qw b,.ptr 0 0,.ptr 1 0] 4 (qa [(0,.cells [.row 2]),(1,.cells [.mp 3]),(2,.row 65 1 (L.map zI)),(3,.map es)])) (jP tyB noD Tryz.f82 fun S rv=>Fin S rv _ 4 (qa [(0,.cells [.row 2]),(1,.cells [.mp 3]),(2,.row 65 1 (L.map zI)),(3,.map es)]) 0)
 have i0:((i:Int)).toNat=i:=rfl
 have hg:=Qg6 hlt
 rw [hl] at hg
 repeat' first|(apply nx;with_reducible constructor)|apply jq (by decide)|((first|apply jz env|apply jw);intro Q hQ;simp only [vkt,seval,jG,vK,qw,zI,hg,hlt,i0,ite_and];(repeat' first|with_reducible assumption|apply jv|intro hp);all_goals first|(apply hQ;clear hQ Q)|(apply jx;kernel_rfl)|omega|assumption|with_reducible rfl|skip)
 refine qY (fun k:{ k:Nat // k<=l.length }=>ncS L es i b l k.1 (pkK (nxF L i b) l k.1).1 (pkK (nxF L i b) l k.1).2) (fun k=>l.length - k.1) ⟨0,ap _⟩ ?_ fun ⟨k,hk⟩=>?_
 ·(refine Le.ok some [] ?_;constructor;all_goals (try simp only [vle,vkt,seval,vK,qb]))
  all_goals first|rfl|(simp [pkK];done)
 simp only at hk ⊢
 obtain ⟨⟨o,n⟩,hon⟩:∃ z,pkK (nxF L i b) l k=z:=⟨_,rfl⟩
 have hS:pkK (nxF L i b) l (k+1)=if k=0\/nxF L i b (l.getD k default) < n then (l.getD k default,nxF L i b (l.getD k default)) else (o,n):=by rw [pkK,hon]
 rw [hon]
 repeat' first|(apply nx;with_reducible constructor)|apply jq (by decide)
 (apply jz env;intro Q hQ;simp only [vkt,seval,jG,vK,qb,ncS,ite_and];(repeat' first|with_reducible assumption|apply jv|intro hp);all_goals first|(apply hQ;clear hQ Q)|(apply jx;kernel_rfl)|omega|assumption|with_reducible rfl|skip)
 repeat' first|(apply nx;with_reducible constructor)|apply jq (by decide)
 (refine jc (by simp only [vkt,seval];rfl) (fun h=>?_) (fun h=>?_) <;> (try simp only [vki] at h))
 ·have hkl:k < l.length:=by omega
  have e9:=k9 k (by omega)
  obtain ⟨x,hx⟩:∃ x,l.getD k default=x:=⟨_,rfl⟩
  obtain ⟨v,hv⟩:∃ v,(jb (L.drop (i+1)) x).2=v:=⟨_,rfl⟩
  obtain ⟨bb,hlk⟩:=hlook x (by rw [<- hx];exact yX hkl)
  rw [hv] at hlk
  simp only [Qci,Qd] at hlk
  have hF:nxF L i b x=v+if x=b then 0 else 1:=by unfold nxF;rw [hv]
  have hb:=hbd x
  rw [hx] at hS
  obtain ⟨f,hf⟩:∃ f,nxF L i b x=f:=⟨_,rfl⟩
  rw [hf] at hS hF hb
  have key:∀ (o':Bunk) (n':Int),pkK (nxF L i b) l (k+1)=(o',n')->ncS L es i b l (k+1) (pkK (nxF L i b) l (k+1)).1 (pkK (nxF L i b) l (k+1)).2=ncS L es i b l (k+1) o' n':=fun o' n' h=>by rw [h]
  have fin:∀ (S:St) (o':Bunk) (n':Int),pkK (nxF L i b) l (k+1)=(o',n')->Le S (ncS L es i b l (k+1) o' n')->∃ y:{ k:Nat // k<=l.length },(l.length - y.1 < l.length - k)/\Le S (ncS L es i b l y.1 (pkK (nxF L i b) l y.1).1 (pkK (nxF L i b) l y.1).2):=fun S o' n' h hle=>⟨⟨k+1,hkl⟩,by show l.length - (k+1) < l.length - k;omega,by rw [key o' n' h];exact hle⟩
  by_cases hxb:x=b
  ·subst hxb
   rw [if_pos rfl,Int.add_zero] at hF
   subst hF
   have xx:((x.cab == x.cab) && (x.bed == x.bed))=true:=by simp
   by_cases hk0:k=0
   ·rw [if_pos (.inl hk0)] at hS
    have d0:decide ((k:Int)=0)=true:=decide_eq_true (by omega)
    repeat' first|(apply nx;with_reducible constructor)|apply jq (by decide)|((first|apply jz env|apply jw);intro Q hQ;simp only [vkt,seval,jG,qI,wh,hx,e9,hlk,hM,d0,ite_and];(repeat' first|with_reducible assumption|apply jv|intro hp);all_goals first|(apply hQ;clear hQ Q)|(apply jx;kernel_rfl)|omega|assumption|with_reducible rfl|skip)
    refine fin _ _ _ hS ?_
    (refine Le.ok some [] ?_;constructor;all_goals (try simp only [vle,vkt,seval,vK,qb]))
    all_goals first|rfl|simp
   ·have d0:decide ((k:Int)=0)=false:=decide_eq_false (by omega)
    by_cases hc:f < n
    ·rw [if_pos (.inr hc)] at hS
     have d1:decide (f < n)=true:=decide_eq_true hc
     repeat' first|(apply nx;with_reducible constructor)|apply jq (by decide)|((first|apply jz env|apply jw);intro Q hQ;simp only [vkt,seval,jG,qI,wh,hx,e9,hlk,hM,d0,d1,ite_and];(repeat' first|with_reducible assumption|apply jv|intro hp);all_goals first|(apply hQ;clear hQ Q)|(apply jx;kernel_rfl)|omega|assumption|with_reducible rfl|skip)
     refine fin _ _ _ hS ?_
     (refine Le.ok some [] ?_;constructor;all_goals (try simp only [vle,vkt,seval,vK,qb]))
     all_goals first|rfl|simp
    ·rw [if_neg (by omega)] at hS
     have d1:decide (f < n)=false:=decide_eq_false hc
     repeat' first|(apply nx;with_reducible constructor)|apply jq (by decide)|((first|apply jz env|apply jw);intro Q hQ;simp only [vkt,seval,jG,qI,wh,hx,e9,hlk,hM,d0,d1,ite_and];(repeat' first|with_reducible assumption|apply jv|intro hp);all_goals first|(apply hQ;clear hQ Q)|(apply jx;kernel_rfl)|omega|assumption|with_reducible rfl|skip)
     refine fin _ _ _ hS ?_
     (refine Le.ok some [] ?_;constructor;all_goals (try simp only [vle,vkt,seval,vK,qb]))
     all_goals first|rfl|simp
  ·rw [if_neg hxb] at hF
   have w1:IntKind.wrap .i64 (v+1)=f:=by rw [wrap64 (by omega) (by omega)];exact hF.symm
   have hne:(decide (x.cab=b.cab) && decide (x.bed=b.bed))=false:=by
    cases x;cases b
    simp at hxb ⊢
    exact hxb
   by_cases hk0:k=0
   ·rw [if_pos (.inl hk0)] at hS
    have d0:decide ((k:Int)=0)=true:=decide_eq_true (by omega)
    repeat' first|(apply nx;with_reducible constructor)|apply jq (by decide)|((first|apply jz env|apply jw);intro Q hQ;simp only [vkt,seval,jG,qI,wh,hx,e9,hlk,hM,hne,w1,d0,ite_and];(repeat' first|with_reducible assumption|apply jv|intro hp);all_goals first|(apply hQ;clear hQ Q)|(apply jx;kernel_rfl)|omega|assumption|with_reducible rfl|skip)
    refine fin _ _ _ hS ?_
    (refine Le.ok some [] ?_;constructor;all_goals (try simp only [vle,vkt,seval,vK,qb]))
    all_goals first|rfl|simp
   ·have d0:decide ((k:Int)=0)=false:=decide_eq_false (by omega)
    by_cases hc:f < n
    ·rw [if_pos (.inr hc)] at hS
     have d1:decide (f < n)=true:=decide_eq_true hc
     repeat' first|(apply nx;with_reducible constructor)|apply jq (by decide)|((first|apply jz env|apply jw);intro Q hQ;simp only [vkt,seval,jG,qI,wh,hx,e9,hlk,hM,hne,w1,d0,d1,ite_and];(repeat' first|with_reducible assumption|apply jv|intro hp);all_goals first|(apply hQ;clear hQ Q)|(apply jx;kernel_rfl)|omega|assumption|with_reducible rfl|skip)
     refine fin _ _ _ hS ?_
     (refine Le.ok some [] ?_;constructor;all_goals (try simp only [vle,vkt,seval,vK,qb]))
     all_goals first|rfl|simp
    ·rw [if_neg (by omega)] at hS
     have d1:decide (f < n)=false:=decide_eq_false hc
     repeat' first|(apply nx;with_reducible constructor)|apply jq (by decide)|((first|apply jz env|apply jw);intro Q hQ;simp only [vkt,seval,jG,qI,wh,hx,e9,hlk,hM,hne,w1,d0,d1,ite_and];(repeat' first|with_reducible assumption|apply jv|intro hp);all_goals first|(apply hQ;clear hQ Q)|(apply jx;kernel_rfl)|omega|assumption|with_reducible rfl|skip)
     refine fin _ _ _ hS ?_
     (refine Le.ok some [] ?_;constructor;all_goals (try simp only [vle,vkt,seval,vK,qb]))
     all_goals first|rfl|simp
 ·have hke:k=l.length:=by omega
  subst hke
  repeat' first|(apply nx;with_reducible constructor)|apply jq (by decide)|((first|apply jz env|apply jw);intro Q hQ;simp only [vkt,seval,jG,ite_and];(repeat' first|with_reducible assumption|apply jv|intro hp);all_goals first|(apply hQ;clear hQ Q)|(apply jx;kernel_rfl)|omega|assumption|with_reducible rfl|skip)
  (simp only [vrt,Tryz.results82,vkt,seval,jG,vK,qw];refine Fin.ok some [] ?_ ?_ ?_ ?_ ?_ rfl;all_goals (try simp only [vle,vkt,seval]))
  all_goals first|rfl|(simp;done)|(rw [hon];exact ⟨⟨rfl,rfl⟩,rfl⟩)
def QbS (S:St):List AV->Option Pk
 |[.v (.int .i64 i),.agg [.v (.int .i64 c),.v (.int .i64 d)],.ptr p 0,.ptr q 0]=>match S.h p,S.h q with
  |some (.cells [.row r]),some (.cells [.mp m])=>match S.h r,S.h m with
   |some (.row _ _ xs),some (.map es)=>some { pre:=xs=(xs.map Q0).map zI/\i=(i.toNat:Int)/\NxOk (xs.map Q0) es i.toNat,hs:=[p,q,r,m],ar:=[.v (.int .i64 i),.agg [.v (.int .i64 c),.v (.int .i64 d)],.ptr 0 0,.ptr 1 0],L0:=nxL (xs.map Q0) es,v:=.tup [qw (jb ((xs.map Q0).drop i.toNat) ⟨c,d⟩).1,aI (jb ((xs.map Q0).drop i.toNat) ⟨c,d⟩).2],L1:=(nxL (xs.map Q0) es).map some }
   |_,_=>none
  |_,_=>none
 |_=>none
theorem Qir:∀ S bs q,QbS S bs=some q->q.pre->Fn noB Tryz.prog 82 q.ar (qa (qz 0 q.L0)) q.v (qa (za 0 q.L1)) 0:=fun S bs q h hp=>by
 unfold QbS at h
 split at h
 ·rename_i i c d p q
  split at h
  ·split at h
   ·rename_i m _ _ _ _ _ xs es _ _
    cases h
    obtain ⟨h1,h2,h3⟩:=hp
    have:=Qlz _ _ _ ⟨c,d⟩ h3
    rw [aI,<- h2] at this
    exact this
   ·cases h
  ·cases h
 ·cases h
theorem eNx1 {A:Frm->Prop}:qm A Tryz.prog 82 (fnQ QbS):=QkA Qir
def Xn (n:Nat):Nat->List Int->Nat->List (List Int)
 |0,l,_=>[l]
 |m+1,l,f=>(List.range (n - f)).flatMap fun k=>Xn n m (l++[((f+k:Nat):Int)]) (f+k+1)
def xM (sold:List Tk) (p:Int):Nat:=sold.countP fun t=>decide (t.party=p)
def wM (sold:List Tk):List Int:=((List.range sold.length).filter fun i=>decide (xM sold (sold.getD i default).party=1)).map fun (i:Nat)=>(i:Int)
def vM (sold:List Tk) (n:Nat) (b:Bunk):List Tk:=sold.set n ⟨(sold.getD n default).party,(sold.getD n default).sex,b.cab,b.bed,(sold.getD n default).frm,(sold.getD n default).to,(sold.getD n default).dog⟩
def jy (cs:List Cabin) (s:Int) (a:Ask):List Int->List Tk->Option (List Tr)
 |[],sold=>if zo ⟨cs,s,sold⟩=0/\plP ⟨cs,s,sold⟩ a ≠ [] then some [] else none
 |n :: r,sold=>(qW cs).findSome? fun b=>if b=(sold.getD n.toNat default).bunk then none else (jy cs s a r (vM sold n.toNat b)).map (⟨n,b.cab,b.bed⟩ :: ·)
def xf (c:Chart) (l:List Int):List Int:=l.map fun i=>(wM c.sold).getD i.toNat 0
def JX (c:Chart) (a:Ask) (m:Nat):Option (List Tr):=(Xn (wM c.sold).length m [] 0).findSome? fun l=>jy c.cabins c.secs a (xf c l) c.sold
def xI (c:Chart) (a:Ask):List Tr × Int :=
 if wo c a ≠ 0 then ([],wo c a) else match (List.range 3).findSome? (JX c a) with
 |some t=>(t,0)
 |none=>([],11)
def Qhl:KeyInfo:={ kd:=.one (.int .i64),z:=.v (.int .i64 0),agg:=false }
def XY (es:List (Value × Value)) (p n:Int):Prop:=∃ b,jD Qhl (je es (.int .i64 p))=(True,.v (.int .i64 n),b)
theorem Qax {es:List (Value × Value)} {p:Int} (h:je es (.int .i64 p)=none):XY es p 0:=by
 refine ⟨false, ?_⟩
 rw [h]
 show (_,_,_)=_
 simp [Qhl,AV.ids]
theorem QaT {es:List (Value × Value)} {p n:Int} (h:je es (.int .i64 p)=some (.int .i64 n)):XY es p n:=by
 refine ⟨true, ?_⟩
 rw [h]
 show (_,_,_)=_
 simp [Qhl,V7,Value.oneCell',vAV]
theorem Qd3 {es:List (Value × Value)} {p q n m:Int} (h:p ≠ q->XY es q m) (h2:p=q->n=m):XY (jT es (.int .i64 p) (.int .i64 n)) q m:=by
 by_cases hpq:p=q
 ·subst hpq
  rw [<- h2 rfl]
  exact QaT (by rw [Jv,if_pos rfl])
 ·unfold XY
  rw [Jv,if_neg (by simpa using hpq)]
  exact h hpq
structure LnOk (sold:List Tk) (es:List (Value × Value)) (k:Nat):Prop where
 ok:MOK (KD.Q (.one (.int .i64))) es
 look:∀ p,XY es p (xM (sold.take k) p)
 len:es.length<=k
theorem QkL (sold:List Tk):LnOk sold [] 0:=⟨MOK.nil _,fun p=>by rw [dn];exact Qax rfl,aA _⟩
theorem Lh {sold:List Tk} {k:Nat} (h:k < sold.length) (p:Int):xM (sold.take (k+1)) p=xM (sold.take k) p+if (sold.getD k default).party=p then 1 else 0:=by
 unfold xM
 rw [bP h,List.countP_append]
 rw [show sold.getD k default=sold[k] by simp [ah,h]]
 simp
theorem LnOk.step {sold:List Tk} {es:List (Value × Value)} {k:Nat} (h:LnOk sold es k) (hk:k < sold.length) {p:Int} (hp:(sold.getD k default).party=p) {n:Nat} (hn:xM (sold.take k) p=n) :
  LnOk sold (jT es (.int .i64 p) (.int .i64 ((n+1:Nat):Int))) (k+1):=by
 refine ⟨h.ok.set rfl,fun q=>?_, ?_⟩
 ·rw [Lh hk,hp]
  refine Qd3 (fun hne=>?_) fun e=>?_
  ·rw [if_neg hne,bg];exact h.look q
  ·subst e;rw [if_pos rfl,hn]
 ·have:=Jn (es:=es) (k:=.int .i64 p) (v:=.int .i64 ((n+1:Nat):Int))
  have:=h.len
  omega
theorem Qdw (sold:List Tk) (p:Int):xM sold p<=sold.length:=List.countP_le_length
def lnK (sold:List Tk) (k:Nat):List Int:=((List.range k).filter fun i=>decide (xM sold (sold.getD i default).party=1)).map fun (i:Nat)=>(i:Int)
theorem Qhh (sold:List Tk) (k:Nat):lnK sold (k+1)=if xM sold (sold.getD k default).party=1 then lnK sold k++[(k:Int)] else lnK sold k:=by
 unfold lnK
 rw [bB,List.filter_append,aq]
 split
 ·rename_i h;simp [-List.getD_eq_getElem?_getD,h]
 ·rename_i h;simp [-List.getD_eq_getElem?_getD,h]
theorem Qcl (sold:List Tk) (k:Nat):(lnK sold k).length<=k:=by
 unfold lnK
 rw [aj]
 exact aN (dJ _ _) (by simp)
theorem QjE (sold:List Tk):lnK sold sold.length=wM sold:=rfl
def lnA (c:Chart) (es:List (Value × Value)) (k:Nat):St:={ t:=asg [(1,.ptr 0 0),(3,.mp 1),(11,qy c.sold),(12,aI c.sold.length),(13,aI k)],h:=qa [(0,.cells (qd c)),(1,.map es)],n:=2 }
def lnB (c:Chart) (es:List (Value × Value)) (k:Nat):St:={ t:=asg [(3,.mp 1),(6,.row 2),(24,qy c.sold),(25,aI c.sold.length),(26,aI k)],h:=qa [(1,.map es),(2,.row 3 1 ((lnK c.sold k).map zG))],n:=3 }
def vg:=jv @ty3 (jv @xW (jv @jW (jv @WG (jv @yc (jv @ty234 (jv @ti3.eq_1 (jv @vW.eq_1 (jv @jE.eq_1 (jv @QV.eq_1 (jv @jM.eq_1 @Qb9.eq_1))))))))))
def yR:=jv @aI.eq_1 (jv @aB.eq_1 (jv @zG.eq_1 (jv @Qgn (@qx.eq_1))))
theorem Qja (c:Chart) (hc:c.sold.length<=100):FnV Tryz.prog 83 [qh c] (qx (wM c.sold)):=by
 have env:=qB (A:=fun _=>True) kN
 refine kV (Fn0 Tryz.func83 rfl (fun vs w=>by kernel_rfl) (by kernel_rfl)) (by simp) (by simp [AV.ids,AV.idsL,qh,qd]) ?_
 have hmx:(100000:Nat)<=maxLen:=by decide
 repeat' first|(apply nx;with_reducible constructor)|apply jq (by decide)|((first|apply jz env|apply jw);intro Q hQ;simp only [vkt,seval,vg,qh,qd,ite_and];(repeat' first|with_reducible assumption|apply jv|intro hp);all_goals first|(apply hQ;clear hQ Q)|(apply jx;kernel_rfl)|omega|assumption|with_reducible rfl|skip)
 refine qY (fun x:{ x:Nat × List (Value × Value) // x.1<=c.sold.length/\LnOk c.sold x.2 x.1 }=>lnA c x.1.2 x.1.1) (fun x=>c.sold.length - x.1.1) ⟨(0,[]),ap _,QkL _⟩ ?_ fun ⟨(k,es),hk,hL⟩=>?_
 ·(refine Le.ok some [] ?_;constructor;all_goals (try simp only [vle,vkt,seval,yR,qy,qd]))
  all_goals first|rfl|simp
 simp only at hk hL ⊢
 by_cases hkl:k < c.sold.length
 ·have d1:decide ((k:Int) < (c.sold.length:Int))=true:=decide_eq_true (by omega)
  have e9:=k9 k (by omega)
  obtain ⟨x,hx⟩:∃ x,c.sold.getD k default=x:=⟨_,rfl⟩
  obtain ⟨n,hn⟩:∃ n,xM (c.sold.take k) x.party=n:=⟨_,rfl⟩
  have hnb:=Qdw (c.sold.take k) x.party
  rw [hn,be] at hnb
  obtain ⟨b,hl⟩:=hL.look x.party
  rw [hn] at hl
  simp only [Qhl] at hl
  have hM:=hL.ok
  have w1:=k9 n (by omega)
  have hml:(jT es (.int .i64 x.party) (.int .i64 ((n+1:Nat):Int))).length<=maxLen:=by
   have h1:=Jn (es:=es) (k:=.int .i64 x.party) (v:=.int .i64 ((n+1:Nat):Int))
   have h2:=hL.len
   omega
  repeat' first|(apply nx;with_reducible constructor)|apply jq (by decide)|((first|apply jz env|apply jw);intro Q hQ;simp only [vkt,seval,vg,yR,qy,eTk,gTk,qd,lnA,MapKept.IsKey,d1,e9,hx,hl,hM,w1,hml,ite_and];(repeat' first|with_reducible assumption|apply jv|intro hp);all_goals first|(apply hQ;clear hQ Q)|(apply jx;kernel_rfl)|omega|assumption|with_reducible rfl|skip)
  refine ⟨⟨(k+1,jT es (.int .i64 x.party) (.int .i64 ((n+1:Nat):Int))),hkl,hL.step hkl (by rw [hx]) hn⟩,by show c.sold.length - (k+1) < c.sold.length - k;omega, ?_⟩
  (refine Le.ok some [] ?_;constructor;all_goals (try simp only [vle,vkt,seval,yR,qy,qd]))
  all_goals first|rfl|simp
 ·have d1:decide ((k:Int) < (c.sold.length:Int))=false:=decide_eq_false (by omega)
  obtain rfl:k=c.sold.length:=by omega
  repeat' first|(apply nx;with_reducible constructor)|apply jq (by decide)|((first|apply jz env|apply jw);intro Q hQ;simp only [vkt,seval,vg,yR,qy,qd,lnA,d1,ite_and];(repeat' first|with_reducible assumption|apply jv|intro hp);all_goals first|(apply hQ;clear hQ Q)|(apply jx;kernel_rfl)|omega|assumption|with_reducible rfl|skip)
  refine qY (fun k:{ k:Nat // k<=c.sold.length }=>lnB c es k.1) (fun k=>c.sold.length - k.1) ⟨0,ap _⟩ ?_ fun ⟨k,hk⟩=>?_
  ·(refine Le.ok (fun i=>if i=2 then none else some i) [] ?_;constructor;all_goals (try simp only [vle,vkt,seval,yR,qy]))
   all_goals first|rfl|(simp [lnK];done)|(intro i hi;rw [if_neg (by omega)];done)
  simp only at hk ⊢
  by_cases hkl:k < c.sold.length
  ·have d1:decide ((k:Int) < (c.sold.length:Int))=true:=decide_eq_true (by omega)
   have e9:=k9 k (by omega)
   obtain ⟨x,hx⟩:∃ x,c.sold.getD k default=x:=⟨_,rfl⟩
   obtain ⟨n,hn⟩:∃ n,xM c.sold x.party=n:=⟨_,rfl⟩
   obtain ⟨b,hl⟩:=hL.look x.party
   rw [bF,hn] at hl
   simp only [Qhl] at hl
   have hM:=hL.ok
   have hS:=Qhh c.sold k
   have hkn:=Qcl c.sold k
   have hkm:(lnK c.sold k).length+1<=maxLen:=by omega
   rw [hx,hn] at hS
   by_cases h1:n=1
   ·rw [if_pos h1] at hS
    rw [show (n:Int)=1 by omega] at hl
    repeat' first|(apply nx;with_reducible constructor)|apply jq (by decide)|((first|apply jz env|apply jw);intro Q hQ;simp only [vkt,seval,vg,yR,qy,eTk,gTk,lnB,MapKept.IsKey,d1,e9,hx,hl,hM,hkm,decide_true,ite_and];(repeat' first|with_reducible assumption|apply jv|intro hp);all_goals first|(apply hQ;clear hQ Q)|(apply jx;kernel_rfl)|omega|assumption|with_reducible rfl|skip)
    refine ⟨⟨k+1,hkl⟩,by show c.sold.length - (k+1) < c.sold.length - k;omega, ?_⟩
    show Le _ (lnB c es (k+1))
    unfold lnB
    rw [hS]
    (refine Le.ok (fun i=>if i=2 then some 5 else some i) [] ?_;constructor;all_goals (try simp only [vle,vkt,seval,yR,qy]))
    all_goals first|rfl|(rw [aq];rfl)|(simp;done)|(intro i hi;rw [if_neg (by omega)];done)
   ·rw [if_neg h1] at hS
    have d2:decide ((n:Int)=1)=false:=decide_eq_false (by omega)
    repeat' first|(apply nx;with_reducible constructor)|apply jq (by decide)|((first|apply jz env|apply jw);intro Q hQ;simp only [vkt,seval,vg,yR,qy,eTk,gTk,lnB,MapKept.IsKey,d1,e9,hx,hl,hM,d2,ite_and];(repeat' first|with_reducible assumption|apply jv|intro hp);all_goals first|(apply hQ;clear hQ Q)|(apply jx;kernel_rfl)|omega|assumption|with_reducible rfl|skip)
    refine ⟨⟨k+1,hkl⟩,by show c.sold.length - (k+1) < c.sold.length - k;omega, ?_⟩
    show Le _ (lnB c es (k+1))
    unfold lnB
    rw [hS]
    (refine Le.ok some [] ?_;constructor;all_goals (try simp only [vle,vkt,seval,yR,qy]))
    all_goals first|rfl|simp
  ·have d1:decide ((k:Int) < (c.sold.length:Int))=false:=decide_eq_false (by omega)
   obtain rfl:k=c.sold.length:=by omega
   have hall:=QjE c.sold
   repeat' first|(apply nx;with_reducible constructor)|apply jq (by decide)|((first|apply jz env|apply jw);intro Q hQ;simp only [vkt,seval,vg,yR,qy,lnB,d1,hall,ite_and];(repeat' first|with_reducible assumption|apply jv|intro hp);all_goals first|(apply hQ;clear hQ Q)|(apply jx;kernel_rfl)|omega|assumption|with_reducible rfl|skip)
   simp only [vrt,Tryz.results83,vkt,seval,yR]
   show Fin _ _ _ 0 (qa []) 0
   refine Fin.ok some [2] ?_ ?_ ?_ ?_ ?_ rfl
   all_goals (try simp only [vle,vkt,seval])
   all_goals first|rfl|simp
def Qcb:List AV->Prop × AV
 |[.agg [.sl c0,.v (.int .i64 c1),.sl c2]]=>(c0=(c0.map qp).map qo/\c2=(c2.map dTk).map eTk/\((⟨(c0.map qp),c1,(c2.map dTk)⟩:Chart)).sold.length<=100,qx (wM ((⟨(c0.map qp),c1,(c2.map dTk)⟩:Chart)).sold))
 |_=>(False,.junk)
theorem elone {A:Frm->Prop}:qm A Tryz.prog 83 (zU false Qcb):=ze fun vs hv h=>by
 clear hv
 unfold Qcb at h ⊢
 split at h
 ·rename_i c0 c1 c2;obtain ⟨q0,q1,k0⟩:=h
  refine ⟨by first|trivial|(repeat' split) <;> simp [AV.plain,AV.plainL,aI,aB,qx,qb,qy,qw,aTk,cTk],fun h=>absurd h (by decide), ?_⟩
  have:=Qja ((⟨(c0.map qp),c1,(c2.map dTk)⟩:Chart)) k0
  simp only [qh,qd,<- q0,<- q1] at this
  first|exact this|(simp only [wH,qh,aI,qy,qd,<- q0,<- q1];exact this)
 ·exact h.elim
theorem R6 (sold:List Tk) (n:Nat) (b:Bunk) {x:Tk} (hx:sold.getD n default=x):(vM sold n b).map eTk=(sold.map eTk).set n [.v (.int .i64 x.party),.v (.int .i64 x.sex),.v (.int .i64 b.cab),.v (.int .i64 b.bed),.v (.int .i64 x.frm),.v (.int .i64 x.to),.v (.bool x.dog)]:=by
 unfold vM
 rw [hx,List.map_set]
 rfl
theorem VC (sold:List Tk) (n:Nat) (b:Bunk):(vM sold n b).length=sold.length:=by simp [vM]
theorem Qf2 (sold:List Tk) (n:Nat) (b d:Bunk) (h:n < sold.length):vM (vM sold n b) n d=vM sold n d:=by
 unfold vM
 rw [show (sold.set n ⟨(sold.getD n default).party,(sold.getD n default).sex,b.cab,b.bed,(sold.getD n default).frm,(sold.getD n default).to,(sold.getD n default).dog⟩).getD n default=⟨(sold.getD n default).party,(sold.getD n default).sex,b.cab,b.bed,(sold.getD n default).frm,(sold.getD n default).to,(sold.getD n default).dog⟩ by simp [ah,h]]
 simp
theorem Qdd (sold:List Tk) (n:Nat) (h:n < sold.length):vM sold n (sold.getD n default).bunk=sold:=by
 unfold vM Tk.bunk
 rw [show (⟨(sold.getD n default).party,(sold.getD n default).sex,(sold.getD n default).cab,(sold.getD n default).bed,(sold.getD n default).frm,(sold.getD n default).to,(sold.getD n default).dog⟩:Tk)=sold[n] by simp [ah,h]]
 exact List.set_getElem_self h
def s1L (cs:List Cabin) (s:Int) (sold:List Tk) (was:Bunk) (n:Nat):List AObj:=[qf cs s 1,qc sold,.cells [.ptr 0 0],.cells [.v (.int .i64 was.cab),.v (.int .i64 was.bed)],.cells [aI n]]
def K3:=jv @ty3 (jv @xW (jv @jW (jv @xy (jv @yc (jv @Qn (jv @Z7 (jv @ti3.eq_1 (jv @vW.eq_1 (jv @jE.eq_1 (jv @yY.eq_1 (jv @jM.eq_1 (jv @xh.eq_1 @Qb.eq_1))))))))))))
def QcT:=jv @aI.eq_1 (@aB.eq_1)
theorem Qez (cs:List Cabin) (s:Int) (sold:List Tk) (was:Bunk) (n:Nat) (hn:n < sold.length):FnD Tryz.prog 143 [.ptr 3 0,.ptr 2 0,.ptr 4 0] (qa (qz 0 (s1L cs s sold was n))) (.tup []) (qa (za 0 ((s1L cs s (vM sold n was) was n).map some))):=by
 have env:Env (fun F=>F.r=none) Tryz.prog tyB (tab []):=qB trivial
 refine FnD.of (n0:=5) (Fn0 Tryz.func143 rfl (fun vs w=>by kernel_rfl) (by kernel_rfl)) (by simp) (by simp [AV.ids]) ?_ ?_
 ·intro i o hi
  have h:=qE hi
  simp [qz,s1L] at h
  rcases h with ⟨rfl,rfl⟩|⟨rfl,rfl⟩|⟨rfl,rfl⟩|⟨rfl,rfl⟩|⟨rfl,rfl⟩ <;> simp [AObj.ids,AV.ids,AV.idsL,qf,qc,aI]
 obtain ⟨x,hx⟩:∃ x,sold.getD n default=x:=⟨_,rfl⟩
 have hp:=R6 sold n was hx
 have hg:=hTk hn
 rw [hx] at hg
 have i0:((n:Int)).toNat=n:=rfl
 show Sym _ _ _ (qP [.ptr 3 0,.ptr 2 0,.ptr 4 0] 5 (qa [(0,qf cs s 1),(1,qc sold),(2,.cells [.ptr 0 0]),(3,.cells [.v (.int .i64 was.cab),.v (.int .i64 was.bed)]),(4,.cells [aI n])])) (QfU tyB Tryz.f143 fun S rv=>Fin S rv _ 5 (qa [(0,qf cs s 1),(1,.row 88 7 ((vM sold n was).map eTk)),(2,.cells [.ptr 0 0]),(3,.cells [.v (.int .i64 was.cab),.v (.int .i64 was.bed)]),(4,.cells [aI n])]) 0)
 rw [hp]
 repeat' first|(apply nx;with_reducible constructor)|apply jq (by decide)|((first|apply jz env|apply jw);intro Q hQ;simp only [vkt,seval,K3,QcT,eTk,qf,qc,hg,i0,hn,ite_and];(repeat' first|with_reducible assumption|apply jv|intro hp);all_goals first|(apply hQ;clear hQ Q)|(apply jx;kernel_rfl)|omega|assumption|with_reducible rfl|skip)
 simp only [QfU.eq_1]
 refine ⟨trivial, ?_⟩
 (simp only [vrt,Tryz.results143,vkt,seval,QcT,qf];refine Fin.ok some [] ?_ ?_ ?_ ?_ ?_ rfl;all_goals (try simp only [vle,vkt,seval]))
 all_goals first|rfl|simp
def WX (S:St):List AV->Option Pk
 |[.ptr w 0,.ptr q 0,.ptr m 0]=>match S.h w,S.h q,S.h m with
  |some (.cells [.v (.int .i64 a),.v (.int .i64 b)]),some (.cells [.ptr c 0]),some (.cells [.v (.int .i64 n)])=>match S.h c with
   |some (.cells [.sl cs,.v (.int .i64 s),.row r])=>match S.h r with
    |some (.row _ _ xs)=>some { pre:=cs=(cs.map qp).map qo/\xs=(xs.map dTk).map eTk/\n=(n.toNat:Int)/\n.toNat < (xs.map dTk).length,hs:=[c,r,q,w,m],ar:=[.ptr 3 0,.ptr 2 0,.ptr 4 0],L0:=s1L (cs.map qp) s (xs.map dTk) ⟨a,b⟩ n.toNat,v:=.tup [],L1:=(s1L (cs.map qp) s (vM (xs.map dTk) n.toNat ⟨a,b⟩) ⟨a,b⟩ n.toNat).map some }
    |_=>none
   |_=>none
  |_,_,_=>none
 |_=>none
theorem Qjf {A:Frm->Prop}:yj.OK A Tryz.prog (dfE 143 WX):=QfA fun S bs q h hp=>by
 unfold WX at h
 split at h
 ·split at h
  ·split at h
   ·split at h
    ·cases h
     obtain ⟨h1,h2,h3,h4⟩:=hp
     exact Qez _ _ _ _ _ h4
    ·cases h
   ·cases h
  ·cases h
 ·cases h
theorem QcN (f:Bunk->Option (List Tr)):∀ l:List Bunk,∃ R,R<=l.length/\(∀ j,j+1 < R->f (l.getD j default)=none)/\(R < l.length->0 < R/\f (l.getD (R - 1) default) ≠ none)/\l.findSome? f=if R=0 then none else f (l.getD (R - 1) default)
 |[]=>⟨0,aA _,fun _ h=>absurd h (bu _),fun h=>absurd h (dp _),rfl⟩
 |b :: l=>by
  cases hb:f b with
  |some t =>
   refine ⟨1,by simp,fun j h=>by omega,fun _=>⟨by omega, ?_⟩, ?_⟩
   ·show f b ≠ none
    rw [hb];simp
   ·rw [cW,hb,if_neg (by omega)]
    exact hb.symm
  |none =>
   obtain ⟨R,h1,h2,h3,h4⟩:=QcN f l
   refine ⟨R+1,by simpa using h1,fun j hj=>?_,fun hlt=>?_, ?_⟩
   ·cases j with
    |zero=>exact hb
    |succ j=>exact h2 j (by omega)
   ·obtain ⟨g1,g2⟩:=h3 (by simpa using hlt)
    refine ⟨by omega, ?_⟩
    rw [show R+1 - 1=(R - 1)+1 by omega]
    exact g2
   ·rw [cW,hb,if_neg (by omega)]
    simp only
    rw [h4]
    by_cases hR:R=0
    ·subst hR;rw [if_pos rfl];exact hb.symm
    ·rw [if_neg hR,show R+1 - 1=(R - 1)+1 by omega];rfl
def shF (cs:List Cabin) (s:Int) (a:Ask) (r:List Int) (sold:List Tk) (k:Nat) (b:Bunk):Option (List Tr):=if b=(sold.getD k default).bunk then none else (jy cs s a r (vM sold k b)).map (⟨(k:Int),b.cab,b.bed⟩ :: ·)
theorem Ut (cs:List Cabin) (s:Int) (a:Ask) (r:List Int) (sold:List Tk) (k:Nat):jy cs s a ((k:Int) :: r) sold=(qW cs).findSome? (shF cs s a r sold k):=rfl
def ZY (cs:List Cabin) (sold:List Tk) (k:Nat):Nat->List Tk
 |0=>sold
 |j+1=>if (qW cs).getD j default=(sold.getD k default).bunk then ZY cs sold k j else vM sold k ((qW cs).getD j default)
theorem XH (cs:List Cabin) (sold:List Tk) (k:Nat) (h:k < sold.length):∀ j,(ZY cs sold k j).length=sold.length/\∀ d,vM (ZY cs sold k j) k d=vM sold k d
 |0=>⟨rfl,fun _=>rfl⟩
 |j+1=>by
  rw [ZY]
  split
  ·exact XH cs sold k h j
  ·exact ⟨VC _ _ _,fun d=>Qf2 _ _ _ _ h⟩
structure ShOk (cs:List Cabin) (s:Int) (a:Ask) (sold:List Tk) (ts:List Int):Prop where
 cabs:1<=cs.length/\cs.length<=3
 beds:∀ x ∈ cs,1<=x.beds/\x.beds<=3
 many:sold.length<=8
 sx:a.sexes.length<=3
 lenT:ts.length<=3
 ts:∀ n ∈ ts,0<=n/\n.toNat < sold.length
theorem ShOk.tail {cs:List Cabin} {s:Int} {a:Ask} {sold:List Tk} {n:Int} {r:List Int} (h:ShOk cs s a sold (n :: r)) (m:Nat) (b:Bunk):ShOk cs s a (vM sold m b) r:=by
 refine ⟨h.cabs,h.beds,by rw [VC];exact h.many,h.sx,by have:=h.lenT;simp at this;omega,fun n hn=>?_⟩
 rw [VC]
 exact h.ts n (aY _ hn)
theorem Vh {cs:List Cabin} {s:Int} {a:Ask}:∀ {ts:List Int} {sold:List Tk} {l:List Tr},jy cs s a ts sold=some l->l.length=ts.length
 |[],sold,l,h=>by
  unfold jy at h
  split at h
  ·cases h;rfl
  ·cases h
 |n :: r,sold,l,h=>by
  unfold jy at h
  obtain ⟨b,hb⟩:∃ b,(if b=(sold.getD n.toNat default).bunk then none else (jy cs s a r (vM sold n.toNat b)).map (⟨n,b.cab,b.bed⟩ :: ·))=some l:=by
   obtain ⟨b,_,hb⟩:=List.exists_of_findSome?_eq_some h
   exact ⟨b,hb⟩
  split at hb
  ·cases hb
  ·obtain ⟨l',hl',rfl⟩:=aE.1 hb
   rw [bf,Vh hl',bf]
def QhK (cs:List Cabin) (s:Int) (a:Ask) (m:Nat):Prop:=∀ (sold:List Tk) (ts:List Int),ts.length=m->ShOk cs s a sold ts ->
 Fn noB Tryz.prog 86 [.ptr 0 0,qx ts,zh a] (qa (qz 0 (qH cs s sold))) (.tup [jU ((jy cs s a ts sold).getD []),aB (jy cs s a ts sold).isSome]) (qa (za 0 ((qH cs s sold).map some))) 0
def s0L0:List (Nat × AV):=[(6,.ptr 5 0),(7,.ptr 6 0),(24,.clo 140 [.ptr 7 0,.ptr 8 0])]
def s0L:List (Nat × AV):=[(6,.ptr 5 0),(7,.ptr 6 0)]
def s0H (k:Nat):List (Nat × AObj):=[(5,.cells [.nil]),(6,.cells [aB (decide (0 < k))])]
theorem YL (c:Chart) (a:Ask):qO [0,1,7,8] 10 0 (plL c a)=[(0,qf c.cabins c.secs 1),(1,qc c.sold),(7,.cells [.ptr 0 0]),(8,.cells (qj a))]:=by
 simp [qO,plL,qg,AObj.ren,AV.renL,AV.ren,qf,qc,qj]
theorem Kq (c:Chart) (a:Ask) (j:Nat):qO [0] 10 0 (plH c a j)=[(0,qf c.cabins c.secs 10),(10,qc ((plP c a).getD j default).2)]:=by
 simp [qO,plH,qH,qg,AObj.ren,AV.renL,AV.ren,qf,qc]
def jg:=jv @ty3 (jv @ty4 (jv @xW (jv @jW (jv @WG (jv @Zq (jv @WB (jv @QdS (jv @xy (jv @QdF (jv @yc (jv @Qn (jv @Z7 (jv @ti3.eq_1 (jv @ti4.eq_1 (jv @vW.eq_1 (jv @jE.eq_1 (jv @QV.eq_1 (jv @kY.eq_1 (jv @QT.eq_1 (jv @KO.eq_1 (jv @yY.eq_1 (jv @X7.eq_1 (jv @jM.eq_1 (jv @xh.eq_1 @Qb.eq_1))))))))))))))))))))))))
def vI:=jv @aI.eq_1 (jv @aB.eq_1 (jv @qx.eq_1 (@WK)))
theorem QaP (cs:List Cabin) (s:Int) (a:Ask):QhK cs s a 0:=by
 intro sold ts ht ok
 obtain rfl:=bl ht
 have env:Env (fun F=>F.r=none) Tryz.prog tyB (tab [(41,zU true yB),(78,fnE jZ)]):=qB ⟨JF,Yz,trivial⟩
 refine Fn.of (A:=fun F=>F.r=none) (n0:=2) (D:=noD) (Fn0 Tryz.func86 rfl (fun vs w=>by kernel_rfl) (by kernel_rfl)) (by simp) (by simp [AV.ids,AV.idsL,qx,zh,qj]) vG (fun _ _ _ h=>h) q9 ?_
 obtain ⟨c,hc⟩:∃ c:Chart,(⟨cs,s,sold⟩:Chart)=c:=⟨_,rfl⟩
 have e1:cs=c.cabins:=by rw [<- hc]
 have e2:s=c.secs:=by rw [<- hc]
 have e3:sold=c.sold:=by rw [<- hc]
 have hcm:c.cabins.length<=maxLen:=by
  have h1:=ok.cabs
  have h2:(3:Nat)<=maxLen:=by decide
  rw [<- e1];omega
 show Sym _ _ _ (qP [.ptr 0 0,qx [],zh a] 2 (qa [(0,qf cs s 1),(1,qc sold)])) (jP tyB noD Tryz.f86 fun S rv=>Fin S rv (.tup [jU ((if zo ⟨cs,s,sold⟩=0/\plP ⟨cs,s,sold⟩ a ≠ [] then some [] else none:Option (List Tr)).getD []),aB (if zo ⟨cs,s,sold⟩=0/\plP ⟨cs,s,sold⟩ a ≠ [] then some [] else none:Option (List Tr)).isSome]) 2 (qa [(0,qf cs s 1),(1,qc sold)]) 0)
 rw [e1,e2,e3] at hc ⊢
 rw [hc]
 by_cases h0:zo c=0
 ·have hpo:PlOk c a:=⟨kU h0,ok.sx⟩
  repeat' first|(apply nx;with_reducible constructor)|apply jq (by decide)|refine zN ?_|refine wz ?_|refine wB ?_|refine wy ?_|((first|apply jz env|apply jw);intro Q hQ;simp only [vkt,seval,jg,vI,zh,qj,qD,mTk,qf,qc,qH,plL,yB,jZ,hwL,hc,h0,decide_true,ite_and];(repeat' first|with_reducible assumption|apply jv|intro hp);all_goals first|(apply hQ;clear hQ Q)|(apply jx;kernel_rfl)|omega|assumption|with_reducible rfl|skip)
  refine ve (S':={ t:=asg s0L0,h:=qa (s0H 0++[(0,qf c.cabins c.secs 1),(1,qc c.sold),(7,.cells [.ptr 0 0]),(8,.cells (qj a))]),n:=9,j:=0,d:=[],m:=2 }) ?_ ?_
  ·show Le _ { t:=asg [(6,.ptr 5 0),(7,.ptr 6 0),(24,.clo 140 [.ptr 7 0,.ptr 8 0])],h:=qa [(5,.cells [.nil]),(6,.cells [aB false]),(0,qf c.cabins c.secs 1),(1,qc c.sold),(7,.cells [.ptr 0 0]),(8,.cells (qj a))],n:=9,j:=0,d:=[],m:=2 }
   (refine Le.ok some [] ?_;constructor;all_goals (try simp only [vle,vkt,seval,vI,qj,qf,qc]))
   all_goals first|rfl|(simp [qj,AV.leL,AV.le,AV.idsL,AV.ids];done)
  rw [<- YL c a]
  obtain ⟨N,hN⟩:∃ N,(plP c a).length=N:=⟨_,rfl⟩
  obtain ⟨R,hR⟩:∃ R,(if N=0 then 0 else 1)=R:=⟨_,rfl⟩
  have hRo:Rounds (fun _=>false) R N:=by
   by_cases hN0:N=0
   ·rw [if_pos hN0] at hR
    exact ⟨by omega,fun j hj=>by omega,fun h=>by omega⟩
   ·rw [if_neg hN0] at hR
    exact ⟨by omega,fun j hj=>by omega,fun h=>⟨by omega,rfl⟩⟩
  have hR1:∀ j,j < R->j=0/\R=1:=fun j hj=>by
   by_cases hN0:N=0
   ·rw [if_pos hN0] at hR;omega
   ·rw [if_neg hN0] at hR;omega
  refine yw (fun F h=>h) 1 (L:=s0L0) (L':=s0L) (xs:=[1,7,8]) (hs:=[0,1,7,8]) (n:=9) (nl:=1) (hc:=s0H) (Lp:=plL c a) (jj:=fun _=>0) (d:=[]) (ys:=plY c a) (hl:=plH c a) (ans:=fun _=>false) (ex:=.ret) (caps:=[.ptr 7 0,.ptr 8 0]) (caps0:=[.ptr 2 0,.ptr 3 0]) (N:=(plP c a).length) (R:=R) (A':=fun _ _=>True) rfl (ZB hpo) (by rw [hN];exact hRo) (.inl rfl) ?_ ?_ ?_ rfl (by simp) ?_ (by simp) (fun _ _ _ _ _ _=>trivial) ?_ ?_ ?_ ?_ ?_ ?_ (fun j hj=>?_) ?_ (fun j hj=>?_) (fun hall=>?_) (fun hpos _=>?_)
  ·simp [AV.leL,AV.le]
  ·simp [AV.nocbL,AV.nocb]
  ·simp [Z9,plL,qf,qc,qj,AObj.nocb,AV.nocbL,AV.nocb,AObj.ids,AV.ids,AV.idsL,AObj.ren,AV.renL,AV.ren,AObj.le,AV.leL,AV.le,qg]
  ·simp [s0H,qa]
  ·simp [s0H,qa]
  ·simp [s0H,AObj.ids,AV.ids,AV.idsL,aB]
  ·simp [LZ,s0L,s0L0,asg]
  ·simp [Qa9]
  ·intro j hj
   simp [absent,s0H,Kq]
  ·simp [JR,s0L,AV.ids]
  ·refine ⟨?_,rfl, ?_, ?_,rfl, ?_⟩
   ·simp [ku,s0H,AObj.ids,AV.ids,AV.idsL,aB]
   ·simp [Za,plH,qH,qf,qc,AObj.nocb,AV.nocbL,AV.nocb,AObj.ids,AV.ids,AV.idsL]
   ·simp [Vx,plY,qb,AV.nocb,AV.ids]
   ·simp [xV,Wh,Kq,s0H,s0L,yU,AV.ids,ADf.ids,bB]
  ·simp [ku,s0H,AObj.ids,AV.ids,AV.idsL,aB]
  ·obtain ⟨rfl,hR1⟩:=hR1 j hj
   have env:Env (fun _:Frm=>True) Tryz.prog tyB (tab []):=qB trivial
   obtain ⟨x,hx⟩:∃ x,((plP c a).getD 0 default).1=x:=⟨_,rfl⟩
   obtain ⟨r,hr⟩:∃ r,((plP c a).getD 0 default).2=r:=⟨_,rfl⟩
   have hst:wL s0L [25] [0] 9 1 (plY c a 0) (s0H 0) (plH c a 0)={ t:=asg [(25,qb x),(6,.ptr 5 0),(7,.ptr 6 0)],h:=qa [(9,.mark),(5,.cells [.nil]),(6,.cells [aB false]),(0,qf c.cabins c.secs 10),(10,qc r)],n:=11,m:=11 }:=by
    simp only [wL,Nat.reduceAdd,Kq,plY,hx,hr,qb,af,au,AV.ren,ck,cw,s0H,s0L,Qh,aT,aG]
    rfl
   show Sym _ _ _ (wL s0L [25] [0] 9 1 (plY c a 0) (s0H 0) (plH c a 0)) _
   rw [hst]
   repeat' first|(apply nx;with_reducible constructor)|apply jq (by decide)|refine zN ?_|refine wz ?_|refine wB ?_|refine wy ?_|((first|apply jz env|apply jw);intro Q hQ;simp only [vkt,seval,jg,vI,qf,qc,ite_and];(repeat' first|with_reducible assumption|apply jv|intro hp);all_goals first|(apply hQ;clear hQ Q)|(apply jx;kernel_rfl)|omega|assumption|with_reducible rfl|skip)
   refine ⟨rfl,rfl,some,_,RFin.okQ some [] ?_⟩
   constructor
   all_goals (try simp only [vle,yS,yH,qg,plH,hr,vkt,seval,vI,qf,qc,qH,s0L,s0H])
   all_goals first|rfl|simp
  ·have hR0:R=0:=by
    by_cases h:R=0
    ·exact h
    ·exact absurd (hall 0 (by omega)) (by simp)
   have hN0:N=0:=by
    by_cases h:N=0
    ·exact h
    ·rw [if_neg h] at hR;omega
   have hpe:plP c a=[]:=bl (by rw [hN];exact hN0)
   have eh:qa ((9,AObj.mark) :: s0H R++qO [0,1,7,8] (9+1) 0 (plL c a))=qa [(9,.mark),(5,.cells [.nil]),(6,.cells [aB false]),(0,qf c.cabins c.secs 1),(1,qc c.sold),(7,.cells [.ptr 0 0]),(8,.cells (qj a))]:=by
    rw [show qO [0,1,7,8] (9+1) 0 (plL c a)=qO [0,1,7,8] 10 0 (plL c a) from rfl,YL,hR0];rfl
   rw [eh,if_neg (by simp [hpe])]
   repeat' first|(apply nx;with_reducible constructor)|apply jq (by decide)|refine zN ?_|refine wz ?_|refine wB ?_|refine wy ?_|((first|apply jz env|apply jw);intro Q hQ;simp only [vkt,seval,jg,vI,qj,qf,qc,s0L,ite_and];(repeat' first|with_reducible assumption|apply jv|intro hp);all_goals first|(apply hQ;clear hQ Q)|(apply jx;kernel_rfl)|omega|assumption|with_reducible rfl|skip)
   (simp only [vrt,Tryz.results86,vkt,seval,jg,vI,jU,qf,qc];refine Fin.ok some [] ?_ ?_ ?_ ?_ ?_ rfl;all_goals (try simp only [vle,vkt,seval]))
   all_goals first|rfl|(simp [];done)|exact fun i hi=>(match i,hi with|0,_=>rfl|1,_=>rfl)
  ·have hRe:=(hR1 0 hpos).2
   have hN0:¬ N=0:=fun h=>by rw [if_pos h] at hR;omega
   have hpe:plP c a ≠ []:=fun h=>by rw [h] at hN;exact hN0 hN.symm
   have eh:qa ((9,AObj.mark) :: s0H R++qO [0,1,7,8] (9+1) 0 (plL c a))=qa [(9,.mark),(5,.cells [.nil]),(6,.cells [aB true]),(0,qf c.cabins c.secs 1),(1,qc c.sold),(7,.cells [.ptr 0 0]),(8,.cells (qj a))]:=by
    rw [show qO [0,1,7,8] (9+1) 0 (plL c a)=qO [0,1,7,8] 10 0 (plL c a) from rfl,YL,hRe];rfl
   rw [eh,if_pos ⟨h0,hpe⟩]
   repeat' first|(apply nx;with_reducible constructor)|apply jq (by decide)|refine zN ?_|refine wz ?_|refine wB ?_|refine wy ?_|((first|apply jz env|apply jw);intro Q hQ;simp only [vkt,seval,jg,vI,jU,zh,qj,qD,mTk,qf,qc,qH,plL,s0L,s0H,yB,jZ,aj,au,nth,hwL,bj,aP,ite_and];(repeat' first|with_reducible assumption|apply jv|intro hp);all_goals first|(apply hQ;clear hQ Q)|(apply jx;kernel_rfl)|omega|assumption|with_reducible rfl|skip)
   (simp only [vrt,Tryz.results86,vkt,seval,jg,vI,jU,qj,qf,qc,s0L];refine Fin.ok some [] ?_ ?_ ?_ ?_ ?_ rfl;all_goals (try simp only [vle,vkt,seval]))
   all_goals first|rfl|(simp [qj,AV.leL,AV.le];done)|exact fun i hi=>(match i,hi with|0,_=>rfl|1,_=>rfl)
 ·rw [if_neg (fun h=>h0 h.1)]
  repeat' first|(apply nx;with_reducible constructor)|apply jq (by decide)|refine zN ?_|refine wz ?_|refine wB ?_|refine wy ?_|((first|apply jz env|apply jw);intro Q hQ;simp only [vkt,seval,jg,vI,zh,qj,qD,mTk,qf,qc,yB,hc,h0,decide_true,ite_and];(repeat' first|with_reducible assumption|apply jv|intro hp);all_goals first|(apply hQ;clear hQ Q)|(apply jx;kernel_rfl)|omega|assumption|with_reducible rfl|skip)
  (simp only [vrt,Tryz.results86,vkt,seval,jg,vI,jU,qf,qc];refine Fin.ok some [] ?_ ?_ ?_ ?_ ?_ rfl;all_goals (try simp only [vle,vkt,seval]))
  all_goals first|rfl|(simp [];done)
def Vr (cs:List Cabin) (s:Int) (a:Ask) (m:Nat) (S:St):List AV->Option Pk
 |[.ptr p 0,.sl ts,.agg aa]=>match S.h p with
  |some (.cells [.sl cc,.v (.int .i64 s'),.row r])=>match S.h r with
   |some (.row _ _ xs)=>some { pre:=cc=cs.map qo/\s'=s/\aa=qj a/\ts=(ts.map zD).map zG/\xs=(xs.map dTk).map eTk/\(ts.map zD).length=m/\ShOk cs s a (xs.map dTk) (ts.map zD),hs:=[p,r],ar:=[.ptr 0 0,.sl ts,.agg aa],L0:=qH cs s (xs.map dTk),v:=.tup [jU ((jy cs s a (ts.map zD) (xs.map dTk)).getD []),aB (jy cs s a (ts.map zD) (xs.map dTk)).isSome],L1:=(qH cs s (xs.map dTk)).map some }
   |_=>none
  |_=>none
 |_=>none
theorem QlU {A:Frm->Prop} {cs:List Cabin} {s:Int} {a:Ask} {m:Nat} (ih:QhK cs s a m):qm A Tryz.prog 86 (fnE (Vr cs s a m)):=zB fun S bs q h hp=>by
 unfold Vr at h
 split at h
 ·split at h
  ·split at h
   ·cases h
    obtain ⟨_,_,h3,h4,_,h6,h7⟩:=hp
    have:=ih _ _ h6 h7
    rw [qx,<- h4,zh,<- h3] at this
    exact this
   ·cases h
  ·cases h
 ·cases h
def shT:List (Nat × AV):=[(3,.ptr 2 0),(4,.ptr 3 0),(5,.ptr 4 0),(6,.ptr 5 0),(7,.ptr 6 0),(8,.ptr 7 0),(9,.ptr 8 0)]
def shT0:List (Nat × AV):=shT++[(43,.clo 181 [.ptr 9 0])]
def Z0 (cs:List Cabin) (s:Int) (a:Ask) (r:List Int) (sold:List Tk) (k j:Nat):Option (List Tr):=if j=0 then none else shF cs s a r sold k ((qW cs).getD (j - 1) default)
def shH (cs:List Cabin) (s:Int) (a:Ask) (ts:List Int) (k:Nat) (was:Bunk) (T:List Tk) (o:Option (List Tr)):List (Nat × AObj):=[(0,qf cs s 1),(1,qc T),(2,.cells [.ptr 0 0]),(3,.cells [.sl (ts.map zG)]),(4,.cells (qj a)),(5,.cells [.sl ((o.getD []).map eTr)]),(6,.cells [aB o.isSome]),(7,.cells [aI k]),(8,.cells [.v (.int .i64 was.cab),.v (.int .i64 was.bed)])]
theorem YB (cs:List Cabin) (s:Int):qO [9] 11 0 [buO cs s]=[(9,buO cs s)]:=by
 simp [qO,qg,buO,AObj.ren,AV.renL,AV.ren]
def wC:=jv @ty3 (jv @ty4 (jv @xW (jv @jW (jv @WG (jv @Zq (jv @WB (jv @QdS (jv @xy (jv @QdF (jv @yc (jv @Qn (jv @Z7 (jv @ti3.eq_1 (jv @ti4.eq_1 (jv @vW.eq_1 (jv @jE.eq_1 (jv @QV.eq_1 (jv @kY.eq_1 (jv @QT.eq_1 (jv @KO.eq_1 (jv @yY.eq_1 (jv @X7.eq_1 (jv @jM.eq_1 (jv @xh.eq_1 @Qb.eq_1))))))))))))))))))))))))
def yM:=jv @aI.eq_1 (jv @aB.eq_1 (jv @qx.eq_1 (jv @WK (jv @Qgn (@zG.eq_1)))))
theorem QbI (cs:List Cabin) (s:Int) (a:Ask) (m:Nat) (ih:QhK cs s a m):QhK cs s a (m+1):=by
 intro sold ts ht ok
 have env:Env (fun F=>F.r=none) Tryz.prog tyB (tab [(144,fnE WA)]):=qB ⟨QcM,trivial⟩
 refine Fn.of (A:=fun F=>F.r=none) (n0:=2) (D:=dfE 143 WX) (Fn0 Tryz.func86 rfl (fun vs w=>by kernel_rfl) (by kernel_rfl)) (by simp) (by simp [AV.ids,AV.idsL,qx,zh,qj]) vG (fun _ _ _ h=>h) Qjf ?_
 obtain ⟨n,r,rfl⟩:∃ n r,ts=n :: r:=by
  cases ts with
  |nil=>simp at ht
  |cons n r=>exact ⟨n,r,rfl⟩
 obtain ⟨hn0,hnl⟩:=ok.ts n aZ
 obtain ⟨k,rfl⟩:∃ k:Nat,n=k:=⟨n.toNat,by omega⟩
 have hnl:k < sold.length:=hnl
 have hrl:r.length=m:=by simpa using ht
 rw [Ut]
 obtain ⟨ts,hts⟩:∃ ts,(k:Int) :: r=ts:=⟨_,rfl⟩
 have hl1:ts.length=m+1:=by rw [<- hts];exact ht
 have hg0:(ts.map zG).getD 0 [.v (.int .i64 0)]=[.v (.int .i64 (k:Int))]:=by rw [<- hts];rfl
 have hdr:List.drop 1 (List.take (m+1) (ts.map zG))=r.map zG:=by
  rw [bJ (by rw [aj,hl1];exact aA _),<- hts];rfl
 rw [hts]
 obtain ⟨x,hx⟩:∃ x,sold.getD k default=x:=⟨_,rfl⟩
 have hg:=hTk hnl
 rw [hx] at hg
 have i0:((k:Int)).toNat=k:=rfl
 have d0:decide ((((m+1:Nat)):Int)=0)=false:=decide_eq_false (by omega)
 obtain ⟨w,hw⟩:∃ w:Bunk,x.bunk=w:=⟨_,rfl⟩
 have hwc:x.cab=w.cab:=by rw [<- hw];rfl
 have hwb:x.bed=w.bed:=by rw [<- hw];rfl
 have hsw:(sold.getD k default).bunk=w:=by rw [hx];exact hw
 have hfb:∀ b,shF cs s a r sold k b=if b=w then none else (jy cs s a r (vM sold k b)).map (⟨(k:Int),b.cab,b.bed⟩ :: ·):=fun b=>by unfold shF;rw [hsw]
 have hcS:∀ j,ZY cs sold k (j+1)=if (qW cs).getD j default=w then ZY cs sold k j else vM sold k ((qW cs).getD j default):=fun j=>by rw [ZY,hsw]
 have hcs:=XH cs sold k hnl
 have hself:vM sold k w=sold:=by rw [<- hsw];exact Qdd _ _ hnl
 obtain ⟨f,hf⟩:∃ f,shF cs s a r sold k=f:=⟨_,rfl⟩
 obtain ⟨R,hR1,hR2,hR3,hR4⟩:=QcN f (qW cs)
 have hRo:Rounds (fun j=>(f ((qW cs).getD j default)).isNone) R (qW cs).length:=⟨hR1,fun j hj=>by show Option.isNone _=true;rw [hR2 j hj];rfl,fun h=>⟨(hR3 h).1,by
  have:=(hR3 h).2
  show Option.isNone _=false
  cases hq:f ((qW cs).getD (R - 1) default) with
  |none=>exact absurd hq this
  |some _=>rfl⟩⟩
 have hout:∀ j,Z0 cs s a r sold k (j+1)=f ((qW cs).getD j default):=fun j=>by unfold Z0;rw [if_neg (by omega),hf];rfl
 have houtN:∀ j,j < R->Z0 cs s a r sold k j=none:=fun j hj=>by
  cases j with
  |zero=>rfl
  |succ j=>rw [hout];exact hR2 j hj
 have hres:(qW cs).findSome? f=Z0 cs s a r sold k R:=by
  rw [hR4]
  unfold Z0
  rw [hf]
 have hcab:CabsOk cs:=⟨by have:=ok.cabs;omega,fun y hy=>by have:=ok.beds y hy;omega⟩
 have hm7:=ok.lenT
 rw [hts,hl1] at hm7
 have h1m:(1:Int)<=((m+1:Nat):Int):=by omega
 have hmx:(100:Nat)<=maxLen:=by decide
 rw [hf,hres]
 show Sym _ _ _ (qP [.ptr 0 0,qx ts,zh a] 2 (qa [(0,qf cs s 1),(1,qc sold)])) (jP tyB _ Tryz.f86 fun S rv=>Fin S rv _ 2 (qa [(0,qf cs s 1),(1,qc sold)]) 0)
 repeat' first|(apply nx;with_reducible constructor)|apply jq (by decide)|refine zN ?_|refine wz ?_|refine wB ?_|refine wy ?_
 ((first|apply jz env|apply jw);intro Q hQ;simp only [vkt,seval,wC,yM,zh,qj,qf,qc,ite_and];(repeat' first|with_reducible assumption|apply jv|intro hp);all_goals first|(apply hQ;clear hQ Q)|(apply jx;kernel_rfl)|omega|assumption|with_reducible rfl|skip)
 repeat' first|(apply nx;with_reducible constructor)|apply jq (by decide)|refine zN ?_|refine wz ?_|refine wB ?_|refine wy ?_
 ((first|apply jz env|apply jw);intro Q hQ;simp only [vkt,seval,wC,hl1,d0,ite_and];(repeat' first|with_reducible assumption|apply jv|intro hp);all_goals first|(apply hQ;clear hQ Q)|(apply jx;kernel_rfl)|omega|assumption|with_reducible rfl|skip)
 repeat' first|(apply nx;with_reducible constructor)|apply jq (by decide)|refine zN ?_|refine wz ?_|refine wB ?_|refine wy ?_
 ((first|apply jz env|apply jw);intro Q hQ;simp only [vkt,seval,ite_and];(repeat' first|with_reducible assumption|apply jv|intro hp);all_goals first|(apply hQ;clear hQ Q)|(apply jx;kernel_rfl)|omega|assumption|with_reducible rfl|skip)
 repeat' first|(apply nx;with_reducible constructor)|apply jq (by decide)|refine zN ?_|refine wz ?_|refine wB ?_|refine wy ?_
 ((first|apply jz env|apply jw);intro Q hQ;simp only [vkt,seval,wC,hg0,ite_and];(repeat' first|with_reducible assumption|apply jv|intro hp);all_goals first|(apply hQ;clear hQ Q)|(apply jx;kernel_rfl)|omega|assumption|with_reducible rfl|skip)
 repeat' first|(apply nx;with_reducible constructor)|apply jq (by decide)|refine zN ?_|refine wz ?_|refine wB ?_|refine wy ?_
 ((first|apply jz env|apply jw);intro Q hQ;simp only [vkt,seval,wC,eTk,hg,i0,hnl,ite_and];(repeat' first|with_reducible assumption|apply jv|intro hp);all_goals first|(apply hQ;clear hQ Q)|(apply jx;kernel_rfl)|omega|assumption|with_reducible rfl|skip)
 repeat' first|(apply nx;with_reducible constructor)|apply jq (by decide)|refine zN ?_|refine wz ?_|refine wB ?_|refine wy ?_
 refine VF (fun F h=>h) env rfl rfl rfl fun Q hQ=>?_
 simp only [List.dropLast]
 simp only [vkt,seval]
 refine hQ _ _ _ (by simp only [vkt,seval];rfl) ?_
 clear hQ Q
 dsimp only [put]
 repeat' first|(apply nx;with_reducible constructor)|apply jq (by decide)|refine zN ?_|refine wz ?_|refine wB ?_|refine wy ?_|((first|apply jz env|apply jw);intro Q hQ;simp only [vkt,seval,wC,qD,WA,hwL,aP,ite_and];(repeat' first|with_reducible assumption|apply jv|intro hp);all_goals first|(apply hQ;clear hQ Q)|(apply jx;kernel_rfl)|omega|assumption|with_reducible rfl|skip)
 refine ve (S':={ t:=asg shT0,h:=qa (shH cs s a ts k w (ZY cs sold k 0) (Z0 cs s a r sold k 0)++[(9,buO cs s)]),n:=10,j:=0,d:=[.call 143 [.ptr 8 0,.ptr 2 0,.ptr 7 0]],m:=2 }) ?_ ?_
 ·show Le _ { t:=asg [(3,.ptr 2 0),(4,.ptr 3 0),(5,.ptr 4 0),(6,.ptr 5 0),(7,.ptr 6 0),(8,.ptr 7 0),(9,.ptr 8 0),(43,.clo 181 [.ptr 9 0])],h:=qa [(0,qf cs s 1),(1,qc sold),(2,.cells [.ptr 0 0]),(3,.cells [.sl (ts.map zG)]),(4,.cells (qj a)),(5,.cells [.sl []]),(6,.cells [aB false]),(7,.cells [aI k]),(8,.cells [.v (.int .i64 w.cab),.v (.int .i64 w.bed)]),(9,buO cs s)],n:=10,j:=0,d:=[.call 143 [.ptr 8 0,.ptr 2 0,.ptr 7 0]],m:=2 }
  rw [<- hwc,<- hwb]
  (refine Le.ok some [] ?_;constructor;all_goals (try simp only [vle,vkt,seval,yM,qj,qf,qc,buO]))
  all_goals first|rfl|(simp [ADf.le,ADf.ids,AV.leL,AV.le,AV.idsL,AV.ids];done)
 rw [<- YB cs s]
 refine yw (fun F h=>h) 1 (L:=shT0) (L':=shT) (xs:=[]) (hs:=[9]) (n:=10) (nl:=0) (hc:=fun j=>shH cs s a ts k w (ZY cs sold k j) (Z0 cs s a r sold k j)) (Lp:=[buO cs s]) (jj:=fun _=>0) (d:=[.call 143 [.ptr 8 0,.ptr 2 0,.ptr 7 0]]) (ys:=buY cs) (hl:=fun _=>[buO cs s]) (ans:=fun j=>(f ((qW cs).getD j default)).isNone) (ex:=.ret) (caps:=[.ptr 9 0]) (caps0:=[.ptr 0 0]) (N:=(qW cs).length) (R:=R) (A':=fun _ _=>True) rfl (R4 cs s hcab) hRo (.inl rfl) ?_ ?_ ?_ rfl (by simp) ?_ (by simp) (fun _ _ _ _ _ _=>trivial) ?_ ?_ ?_ ?_ ?_ ?_ (fun j hj=>?_) ?_ (fun j hj=>?_) (fun hall=>?_) (fun hpos hlast=>?_)
 ·simp [AV.leL,AV.le]
 ·simp [AV.nocbL,AV.nocb]
 ·simp [Z9,buO,AObj.nocb,AV.nocbL,AV.nocb,AObj.ids,AV.ids,AV.idsL,AObj.ren,AV.renL,AV.ren,AObj.le,AV.leL,AV.le,wW]
 ·simp [shH,qa]
 ·simp [shH,qa]
 ·exact fun _ _ _ _ h=>h
 ·simp [LZ,shT,shT0,asg]
 ·simp [Qa9]
 ·intro j hj
  simp [absent]
 ·simp [JR,shT,AV.ids]
 ·refine ⟨?_,rfl, ?_, ?_,rfl, ?_⟩
  ·simp [ku,shH,AObj.ids,AV.ids,AV.idsL,qf,qc,qj,aB,aI]
  ·simp [Za,buO,AObj.nocb,AV.nocbL,AV.nocb,AObj.ids,AV.ids,AV.idsL]
  ·simp [Vx,buY,qw,AV.nocb,AV.nocbL,AV.ids,AV.idsL]
  ·simp [xV,Wh,qO,qg,shH,shT,yU,AV.ids,AV.idsL,ADf.ids,bB]
 ·simp [ku,shH,AObj.ids,AV.ids,AV.idsL,qf,qc,qj,aB,aI]
 ·have env:Env (fun _:Frm=>True) Tryz.prog tyB (tab [(86,fnE (Vr cs s a m))]):=qB ⟨QlU ih,trivial⟩
  obtain ⟨b,hb⟩:∃ b,(qW cs).getD j default=b:=⟨_,rfl⟩
  obtain ⟨T,hT⟩:∃ T,ZY cs sold k j=T:=⟨_,rfl⟩
  have hTs:=hcs j
  rw [hT] at hTs
  have hcS:=hcS j
  rw [hb,hT] at hcS
  have hoS:=hout j
  rw [hb] at hoS
  have hfb:=hfb b
  rw [hf] at hfb
  have hst:wL shT [44] [9] 10 0 (buY cs j) (shH cs s a ts k w (ZY cs sold k j) (Z0 cs s a r sold k j)) [buO cs s]={ t:=asg [(44,qw b),(3,.ptr 2 0),(4,.ptr 3 0),(5,.ptr 4 0),(6,.ptr 5 0),(7,.ptr 6 0),(8,.ptr 7 0),(9,.ptr 8 0)],h:=qa [(10,.mark),(0,qf cs s 1),(1,qc T),(2,.cells [.ptr 0 0]),(3,.cells [.sl (ts.map zG)]),(4,.cells (qj a)),(5,.cells [.sl []]),(6,.cells [aB false]),(7,.cells [aI k]),(8,.cells [.v (.int .i64 w.cab),.v (.int .i64 w.bed)]),(9,buO cs s)],n:=11,m:=11 }:=by
   simp only [wL,Nat.reduceAdd,buY,hb,hT,houtN j hj,YB,qw,af,au,AV.ren,AV.renL,ck,cw,shH,shT,Qh,aT,aG]
   rfl
  show Sym _ _ _ (wL shT [44] [9] 10 0 (buY cs j) (shH cs s a ts k w (ZY cs sold k j) (Z0 cs s a r sold k j)) [buO cs s]) _
  rw [hst]
  by_cases hbw:b=w
  ·rw [if_pos hbw] at hcS hfb
   have hba:(f ((qW cs).getD j default)).isNone=true:=by rw [hb,hfb];rfl
   rw [hfb] at hoS
   rw [hbw]
   repeat' first|(apply nx;with_reducible constructor)|apply jq (by decide)|refine zN ?_|refine wz ?_|refine wB ?_|refine wy ?_|((first|apply jz env|apply jw);intro Q hQ;simp only [vkt,seval,wC,yM,qw,qj,qf,qc,buO,decide_true,ite_and];(repeat' first|with_reducible assumption|apply jv|intro hp);all_goals first|(apply hQ;clear hQ Q)|(apply jx;kernel_rfl)|omega|assumption|with_reducible rfl|skip)
   refine ⟨by simp only [hba];rfl,rfl,some,_,RFin.okQ some [] ?_⟩
   constructor
   all_goals (try simp only [vle,yS,yH,qg,hcS,hoS,bG,bD,vkt,seval,yM,qj,qf,qc,buO,shT,shH])
   all_goals first|rfl|(simp;done)|(simp [qj,AV.leL,AV.le];done)
  ·rw [if_neg hbw] at hcS hfb
   have hne:(decide (b.cab=w.cab) && decide (b.bed=w.bed))=false:=by
    cases b;cases w
    simp at hbw ⊢
    exact hbw
   obtain ⟨y,hy⟩:∃ y,T.getD k default=y:=⟨_,rfl⟩
   have hkT:k < T.length:=by rw [hTs.1];exact hnl
   have hgT:=hTk hkT
   rw [hy] at hgT
   have hset:=R6 T k b hy
   rw [hTs.2] at hset
   obtain ⟨U,hU⟩:∃ U,vM sold k b=U:=⟨_,rfl⟩
   have hok:ShOk cs s a U r:=by
    have h:=ok.tail k b
    rwa [hU] at h
   rw [hU] at hset hcS hfb
   have hset:=hset.symm
   cases hsh:jy cs s a r U with
   |none =>
    rw [hsh,bX] at hfb
    have hba:(f ((qW cs).getD j default)).isNone=true:=by rw [hb,hfb];rfl
    rw [hfb] at hoS
    repeat' first|(apply nx;with_reducible constructor)|apply jq (by decide)|refine zN ?_|refine wz ?_|refine wB ?_|refine wy ?_|((first|apply jz env|apply jw);intro Q hQ;simp only [vkt,seval,wC,yM,qw,jU,eTk,qj,mTk,qf,qc,qH,buO,Vr,hwL,hne,hgT,i0,hkT,hset,hl1,hdr,h1m,hrl,hok,hsh,bG,bD,ite_and];(repeat' first|with_reducible assumption|apply jv|intro hp);all_goals first|(apply hQ;clear hQ Q)|(apply jx;kernel_rfl)|omega|assumption|with_reducible rfl|skip)
    refine ⟨by simp only [hba];rfl,rfl,some,_,RFin.okQ some [] ?_⟩
    constructor
    all_goals (try simp only [vle,yS,yH,qg,hcS,hoS,bG,bD,vkt,seval,yM,qj,qf,qc,buO,shT,shH])
    all_goals first|rfl|(simp;done)|(simp [qj,AV.leL,AV.le];done)
   |some l =>
    have hll:=Vh hsh
    rw [hrl] at hll
    have hl2:1+l.length<=maxLen:=by omega
    rw [hsh,bO] at hfb
    have hba:(f ((qW cs).getD j default)).isNone=false:=by rw [hb,hfb];rfl
    rw [hfb] at hoS
    repeat' first|(apply nx;with_reducible constructor)|apply jq (by decide)|refine zN ?_|refine wz ?_|refine wB ?_|refine wy ?_|((first|apply jz env|apply jw);intro Q hQ;simp only [vkt,seval,wC,yM,qw,jU,eTk,qj,mTk,qf,qc,qH,buO,Vr,rTr,hwL,hne,hgT,i0,hkT,hset,hl1,hdr,h1m,hrl,hok,hsh,hl2,ite_and];(repeat' first|with_reducible assumption|apply jv|intro hp);all_goals first|(apply hQ;clear hQ Q)|(apply jx;kernel_rfl)|omega|assumption|with_reducible rfl|skip)
    refine ⟨by simp only [hba];rfl,rfl,some,_,RFin.okQ some [13] ?_⟩
    constructor
    all_goals (try simp only [vle,yS,yH,qg,hcS,hoS,cM,Option.isSome_some,vkt,seval,yM,eTr,qj,qf,qc,buO,shT,shH])
    all_goals first|rfl|(simp;done)|(simp [qj,AV.leL,AV.le];done)
 ·have hoR:Z0 cs s a r sold k R=none:=by
   by_cases hR0:R=0
   ·unfold Z0;rw [if_pos hR0]
   ·have h1:=hall (R - 1) (by omega)
    unfold Z0
    rw [if_neg hR0,hf]
    simpa using h1
  obtain ⟨T,hT⟩:∃ T,ZY cs sold k R=T:=⟨_,rfl⟩
  have hTs:=hcs R
  rw [hT] at hTs
  have hkT:k < T.length:=by rw [hTs.1];exact hnl
  have hput:vM T k ⟨w.cab,w.bed⟩=sold:=by rw [hTs.2];exact hself
  have eh:qa ((10,AObj.mark) :: shH cs s a ts k w (ZY cs sold k R) (Z0 cs s a r sold k R)++qO [9] (10+1) 0 [buO cs s])=qa [(10,.mark),(0,qf cs s 1),(1,qc T),(2,.cells [.ptr 0 0]),(3,.cells [.sl (ts.map zG)]),(4,.cells (qj a)),(5,.cells [.sl []]),(6,.cells [aB false]),(7,.cells [aI k]),(8,.cells [.v (.int .i64 w.cab),.v (.int .i64 w.bed)]),(9,buO cs s)]:=by
   rw [show qO [9] (10+1) 0 [buO cs s]=qO [9] 11 0 [buO cs s] from rfl,YB,hT,hoR];rfl
  rw [eh,hoR]
  repeat' first|(apply nx;with_reducible constructor)|apply jq (by decide)|refine zN ?_|refine wz ?_|refine wB ?_|refine wy ?_|((first|apply jz env|apply jw);intro Q hQ;simp only [vkt,seval,wC,yM,qj,qf,qc,buO,shT,ite_and];(repeat' first|with_reducible assumption|apply jv|intro hp);all_goals first|(apply hQ;clear hQ Q)|(apply jx;kernel_rfl)|omega|assumption|with_reducible rfl|skip)
  simp only [vrt,Tryz.results86,vkt,seval,wC,yM,jU,qD,mTk,qf,qc,WX,s1L,dfE,hwL,i0,hput,hkT]
  refine Fin.ok some [] ?_ ?_ ?_ ?_ ?_ rfl
  all_goals (try simp only [vle,bG,bD,vkt,seval])
  all_goals first|rfl|(simp;done)|exact fun i hi=>(match i,hi with|0,_=>rfl|1,_=>rfl)
 ·obtain ⟨l,hoR⟩:∃ l,Z0 cs s a r sold k R=some l:=by
   unfold Z0
   rw [if_neg (by omega),hf]
   cases hq:f ((qW cs).getD (R - 1) default) with
   |none=>rw [hq] at hlast;exact absurd hlast (by simp)
   |some l=>exact ⟨l,rfl⟩
  obtain ⟨T,hT⟩:∃ T,ZY cs sold k R=T:=⟨_,rfl⟩
  have hTs:=hcs R
  rw [hT] at hTs
  have hkT:k < T.length:=by rw [hTs.1];exact hnl
  have hput:vM T k ⟨w.cab,w.bed⟩=sold:=by rw [hTs.2];exact hself
  have eh:qa ((10,AObj.mark) :: shH cs s a ts k w (ZY cs sold k R) (Z0 cs s a r sold k R)++qO [9] (10+1) 0 [buO cs s])=qa [(10,.mark),(0,qf cs s 1),(1,qc T),(2,.cells [.ptr 0 0]),(3,.cells [.sl (ts.map zG)]),(4,.cells (qj a)),(5,.cells [.sl (l.map eTr)]),(6,.cells [aB true]),(7,.cells [aI k]),(8,.cells [.v (.int .i64 w.cab),.v (.int .i64 w.bed)]),(9,buO cs s)]:=by
   rw [show qO [9] (10+1) 0 [buO cs s]=qO [9] 11 0 [buO cs s] from rfl,YB,hT,hoR];rfl
  rw [eh,hoR]
  repeat' first|(apply nx;with_reducible constructor)|apply jq (by decide)|refine zN ?_|refine wz ?_|refine wB ?_|refine wy ?_
  simp only [vrt,Tryz.results86,vkt,seval,wC,yM,jU,qj,qD,mTk,qf,qc,buO,shT,WX,s1L,dfE,hwL,i0,hput,hkT]
  refine Fin.ok some [] ?_ ?_ ?_ ?_ ?_ rfl
  all_goals (try simp only [vle,vkt,seval])
  all_goals first|rfl|(simp;done)|exact fun i hi=>(match i,hi with|0,_=>rfl|1,_=>rfl)
theorem XX (cs:List Cabin) (s:Int) (a:Ask):∀ m,QhK cs s a m
 |0=>QaP cs s a
 |m+1=>QbI cs s a m (XX cs s a m)
def Js (cs:List Cabin) (s:Int) (a:Ask) (m:Nat) (S:St):List AV->Option Pk
 |[.ptr p 0,.row q,.agg aa]=>match S.h p,S.h q with
  |some (.cells [.sl cc,.v (.int .i64 s'),.row r]),some (.row _ _ ts)=>match S.h r with
   |some (.row _ _ xs)=>some { pre:=cc=cs.map qo/\s'=s/\aa=qj a/\ts=(ts.map zD).map zG/\xs=(xs.map dTk).map eTk/\(ts.map zD).length=m/\ShOk cs s a (xs.map dTk) (ts.map zD),hs:=[p,r],bo:=[q],ar:=[.ptr 0 0,.sl ts,.agg aa],L0:=qH cs s (xs.map dTk),v:=.tup [jU ((jy cs s a (ts.map zD) (xs.map dTk)).getD []),aB (jy cs s a (ts.map zD) (xs.map dTk)).isSome],L1:=(qH cs s (xs.map dTk)).map some }
   |_=>none
  |_,_=>none
 |_=>none
theorem QiV {A:Frm->Prop} {cs:List Cabin} {s:Int} {a:Ask} {m:Nat}:qm A Tryz.prog 86 (fnE (Js cs s a m)):=zB fun S bs q h hp=>by
 unfold Js at h
 split at h
 ·split at h
  ·split at h
   ·cases h
    obtain ⟨_,_,h3,h4,_,h6,h7⟩:=hp
    have:=XX cs s a m _ _ h6 h7
    rw [qx,<- h4,zh,<- h3] at this
    exact this
   ·cases h
  ·cases h
 ·cases h
def mvW (c:Chart) (a:Ask) (l:List Int):Option (List Tr):=jy c.cabins c.secs a (xf c l) c.sold
def mvL (c:Chart) (a:Ask) (out:List Tr):List AObj:=[qf c.cabins c.secs 1,qc c.sold,.cells [.ptr 0 0],.cells [.sl ((wM c.sold).map zG)],.cells (qj a),.cells [.sl (out.map eTr)]]
structure MvOk (c:Chart) (a:Ask) (l:List Int):Prop where
 val:Val c
 sx:a.sexes.length<=3
 len:l.length<=2
 mem:∀ i ∈ l,0<=i/\i.toNat < (wM c.sold).length
theorem QhC {sold:List Tk} {i:Int} (h:i ∈ wM sold):0<=i/\i.toNat < sold.length:=by
 unfold wM at h
 obtain ⟨j,hj,rfl⟩:=am.1 h
 have:=(List.mem_filter.1 hj).1
 rw [aX] at this
 exact ⟨cJ _,this⟩
theorem QhV (sold:List Tk):(wM sold).length<=sold.length:=Qcl sold sold.length
theorem MvOk.sh {c:Chart} {a:Ask} {l:List Int} (h:MvOk c a l):ShOk c.cabins c.secs a c.sold (xf c l):=by
 refine ⟨h.val.car.cabs,h.val.car.beds,h.val.many,h.sx,by have:=h.len;simp [xf];omega,fun n hn=>?_⟩
 obtain ⟨i,hi,rfl⟩:=am.1 hn
 exact QhC (yX (h.mem i hi).2)
theorem Qb4 {c:Chart} {a:Ask} {o:List Tr}:∀ i ob,qa (qz 0 (mvL c a o)) i=some ob->i < 6/\∀ id ∈ ob.ids,id < 6:=by
 intro i ob hi
 have h:=qE hi
 simp [qz,mvL] at h
 rcases h with ⟨rfl,rfl⟩|⟨rfl,rfl⟩|⟨rfl,rfl⟩|⟨rfl,rfl⟩|⟨rfl,rfl⟩|⟨rfl,rfl⟩ <;> simp [AObj.ids,AV.ids,AV.idsL,qf,qc,qj]
def mvS (c:Chart) (a:Ask) (o:List Tr) (l:List Int) (k:Nat):St:={ t:=asg [(1,.ptr 3 0),(2,.ptr 2 0),(3,.ptr 4 0),(4,.ptr 5 0),(6,aB false),(7,.row 6),(12,qx l),(13,aI l.length),(14,aI k)],h:=qa [(0,qf c.cabins c.secs 1),(1,qc c.sold),(2,.cells [.ptr 0 0]),(3,.cells [.sl ((wM c.sold).map zG)]),(4,.cells (qj a)),(5,.cells [.sl (o.map eTr)]),(6,.row 3 1 (((xf c l).take k).map zG))],n:=7,m:=6 }
def ZJ:=jv @ty3 (jv @WG (jv @WB (jv @QdS (jv @QdF (jv @Qn (jv @ti3.eq_1 (jv @QV.eq_1 (jv @QT.eq_1 (jv @KO.eq_1 (jv @X7.eq_1 @xh.eq_1))))))))))
def kK:=jv @aI.eq_1 (jv @aB.eq_1 (jv @qx.eq_1 (jv @zG.eq_1 (jv @QeK (jv @Qgn (@WK))))))
theorem QlJ (c:Chart) (a:Ask) (o:List Tr) (l:List Int) (ok:MvOk c a l):Fn noB Tryz.prog 85 [qx l,.ptr 3 0,.ptr 2 0,.ptr 4 0,.ptr 5 0] (qa (qz 0 (mvL c a o))) (aB (mvW c a l).isSome) (qa (za 0 ((mvL c a ((mvW c a l).getD o)).map some))) 0:=by
 have env:Env (fun _=>True) Tryz.prog tyB (tab [(86,fnE (Js c.cabins c.secs a l.length))]):=qB ⟨QiV,trivial⟩
 refine Fn.of (A:=fun _=>True) (n0:=6) (D:=noD) (Fn0 Tryz.func85 rfl (fun vs w=>by kernel_rfl) (by kernel_rfl)) (by simp) (by simp [AV.ids,qx]) Qb4 (fun _ _ _ _=>trivial) q9 ?_
 have hsh:=ok.sh
 have hlen:=ok.len
 have hmx:(100000:Nat)<=maxLen:=by decide
 have hsl:(xf c l).length=l.length:=by simp [xf]
 obtain ⟨W,hW⟩:∃ W,mvW c a l=W:=⟨_,rfl⟩
 rw [hW]
 unfold mvW at hW
 show Sym _ _ _ (qP [qx l,.ptr 3 0,.ptr 2 0,.ptr 4 0,.ptr 5 0] 6 (qa [(0,qf c.cabins c.secs 1),(1,qc c.sold),(2,.cells [.ptr 0 0]),(3,.cells [.sl ((wM c.sold).map zG)]),(4,.cells (qj a)),(5,.cells [.sl (o.map eTr)])])) (jP tyB noD Tryz.f85 fun S rv=>Fin S rv _ 6 (qa [(0,qf c.cabins c.secs 1),(1,qc c.sold),(2,.cells [.ptr 0 0]),(3,.cells [.sl ((wM c.sold).map zG)]),(4,.cells (qj a)),(5,.cells [.sl ((W.getD o).map eTr)])]) 0)
 repeat' first|(apply nx;with_reducible constructor)|apply jq (by decide)|((first|apply jz env|apply jw);intro Q hQ;simp only [vkt,seval,ZJ,kK,qf,qc,qj,ite_and];(repeat' first|with_reducible assumption|apply jv|intro hp);all_goals first|(apply hQ;clear hQ Q)|(apply jx;kernel_rfl)|omega|assumption|with_reducible rfl|skip)
 refine qY (fun k:{ k:Nat // k<=l.length }=>mvS c a o l k.1) (fun k=>l.length - k.1) ⟨0,ap _⟩ ?_ fun ⟨k,hk⟩=>?_
 ·(refine Le.ok (fun i=>if i=6 then none else some i) [] ?_;constructor;all_goals (try simp only [vle,vkt,seval,kK,qf,qc,qj]))
  all_goals first|rfl|(simp;done)|(intro i hi;rw [if_neg (by omega)];done)
 simp only at hk ⊢
 by_cases hkl:k < l.length
 ·have d1:decide ((k:Int) < (l.length:Int))=true:=decide_eq_true (by omega)
  have e9:IntKind.wrap .i64 ((k:Int)+1)=((k+1:Nat):Int):=by rw [wrap64 (by omega) (by omega)];rfl
  obtain ⟨x,hx⟩:∃ x,l.getD k 0=x:=⟨_,rfl⟩
  obtain ⟨hx0,hxl⟩:=ok.mem x (by rw [<- hx];exact yX hkl)
  obtain ⟨i,rfl⟩:∃ i:Nat,x=i:=⟨x.toNat,by omega⟩
  have i0:((i:Int)).toNat=i:=rfl
  rw [i0] at hxl
  obtain ⟨y,hy⟩:∃ y,(wM c.sold).getD i 0=y:=⟨_,rfl⟩
  have hS:(xf c l).take (k+1)=(xf c l).take k++[y]:=by
   rw [bP (by rw [hsl];exact hkl)]
   congr 2
   unfold xf
   rw [List.getElem_map]
   rw [show l[k]=(i:Int) by rw [<- hx];simp [ah,hkl]]
   exact hy
  have hl1:((xf c l).take k).length+1<=maxLen:=by rw [be];omega
  have hl2:((xf c l).take k).length<=2:=by rw [be];omega
  repeat' first|(apply nx;with_reducible constructor)|apply jq (by decide)|((first|apply jz env|apply jw);intro Q hQ;simp only [vkt,seval,ZJ,kK,qf,qc,mvS,qj,d1,e9,hx,hy,i0,hxl,hl1,ite_and];(repeat' first|with_reducible assumption|apply jv|intro hp);all_goals first|(apply hQ;clear hQ Q)|(apply jx;kernel_rfl)|omega|assumption|with_reducible rfl|skip)
  refine ⟨⟨k+1,hkl⟩,by show l.length - (k+1) < l.length - k;omega, ?_⟩
  show Le _ (mvS c a o l (k+1))
  unfold mvS
  rw [hS]
  (refine Le.ok (fun i=>if i=6 then some 8 else some i) [] ?_;constructor;all_goals (try simp only [vle,vkt,seval,kK,qf,qc,qj]))
  all_goals first|rfl|(rw [aq];rfl)|(simp;done)|(intro i hi;rw [if_neg (by omega)];done)
 ·have d1:decide ((k:Int) < (l.length:Int))=false:=decide_eq_false (by omega)
  obtain rfl:k=l.length:=by omega
  have htk:(xf c l).take l.length=xf c l:=bJ (by omega)
  cases W with
  |none =>
   repeat' first|(apply nx;with_reducible constructor)|apply jq (by decide)|((first|apply jz env|apply jw);intro Q hQ;simp only [vkt,seval,ZJ,kK,jU,mTk,qf,qc,qH,mvS,qj,Js,d1,htk,hsl,hsh,hW,bG,bD,ite_and];(repeat' first|with_reducible assumption|apply jv|intro hp);all_goals first|(apply hQ;clear hQ Q)|(apply jx;kernel_rfl)|omega|assumption|with_reducible rfl|skip)
   ·exact ⟨_,_,rfl⟩
   (simp only [vrt,Tryz.results85,vkt,seval,kK,qf,qc,qj];refine Fin.ok some [] ?_ ?_ ?_ ?_ ?_ rfl;all_goals (try simp only [vle,vkt,seval]))
   all_goals first|rfl|(simp;done)|exact fun i hi=>(match i,hi with|0,_=>rfl|1,_=>rfl)
  |some t =>
   repeat' first|(apply nx;with_reducible constructor)|apply jq (by decide)|((first|apply jz env|apply jw);intro Q hQ;simp only [vkt,seval,ZJ,kK,jU,mTk,qf,qc,qH,mvS,qj,Js,d1,htk,hsl,hsh,hW,ite_and];(repeat' first|with_reducible assumption|apply jv|intro hp);all_goals first|(apply hQ;clear hQ Q)|(apply jx;kernel_rfl)|omega|assumption|with_reducible rfl|skip)
   ·exact ⟨_,_,rfl⟩
   (simp only [vrt,Tryz.results85,vkt,seval,kK,qf,qc,qj];refine Fin.ok some [] ?_ ?_ ?_ ?_ ?_ rfl;all_goals (try simp only [vle,vkt,seval]))
   all_goals first|rfl|(simp;done)|exact fun i hi=>(match i,hi with|0,_=>rfl|1,_=>rfl)
def KN:=jv @ty3 (jv @WG (jv @ti3.eq_1 @QV.eq_1))
theorem Qeo (xs:List (List DV)) (h1:zn 1 xs) (h2:xs.length<=100000):Fn noB Tryz.prog 114 [.sl xs] noH (.row 0) (qa [(0,.row 3 1 xs)]) 0:=by
 have env:=qB (A:=fun _=>True) kN
 obtain ⟨b1,b2,b3,b5,b4⟩:=b47 h2
 refine kV (Fn0 Tryz.func114 rfl (fun vs w=>by kernel_rfl) (by kernel_rfl)) (by simp) (by simp [AV.ids]) ?_
 repeat' first|(apply nx;with_reducible constructor)|apply jq (by decide)
 (apply jz env;intro Q hQ;simp only [vkt,seval,ite_and];(repeat' first|with_reducible assumption|apply jv|intro hp);all_goals first|(apply hQ;clear hQ Q)|(apply jx;kernel_rfl)|omega|assumption|with_reducible rfl|skip)
 repeat' first|(apply nx;with_reducible constructor)|apply jq (by decide)
 refine kG (d1:=3) (d2:=4) (t:=26) (e:=3) (x:=.tmp 0) (xs:=xs) rfl rfl rfl rfl rfl rfl Tryz.underlying26 rfl fun b hb=>?_
 repeat' first|(apply nx;with_reducible constructor)|apply jq (by decide)
 (refine jc (by simp only [vkt,seval];rfl) (fun h=>?_) (fun h=>?_) <;> (try simp only [vki,reduceCtorEq] at h))
 ·have hx:=hb h
  subst hx
  repeat' first|(apply nx;with_reducible constructor)|apply jq (by decide)|((first|apply jz env|apply jw);intro Q hQ;simp only [vkt,seval,ite_and];(repeat' first|with_reducible assumption|apply jv|intro hp);all_goals first|(apply hQ;clear hQ Q)|(apply jx;kernel_rfl)|omega|assumption|with_reducible rfl|skip)
  (simp only [vrt,Tryz.results114,vkt,seval];refine Fin.ok (fun _=>none) [] ?_ ?_ ?_ ?_ ?_ rfl;all_goals (try simp only [vle,vkt,seval]))
  all_goals simp
 ·repeat' first|(apply nx;with_reducible constructor)|apply jq (by decide)|((first|apply jz env|apply jw);intro Q hQ;simp only [vkt,seval,KN,ite_and];(repeat' first|with_reducible assumption|apply jv|intro hp);all_goals first|(apply hQ;clear hQ Q)|(apply jx;kernel_rfl)|omega|assumption|with_reducible rfl|skip)
  (simp only [vrt,Tryz.results114,vkt,seval];refine Fin.ok some [] ?_ ?_ ?_ ?_ ?_ rfl;all_goals (try simp only [vle,vkt,seval]))
  all_goals simp
def YG (_:St):List AV->Option Pk
 |[.sl xs]=>some { pre:=zn 1 xs/\xs.length<=100000,ar:=[.sl xs],v:=.row 0,L1:=[some (.row 3 1 xs)] }
 |_=>none
theorem QjA {A:Frm->Prop}:qm A Tryz.prog 114 (fnE YG):=zB fun S bs q h hp=>by
 unfold YG at h
 split at h
 ·cases h;exact Qeo _ hp.1 hp.2
 ·cases h
theorem fsr {Z:Type} {g:Nat->Option Z} {k N:Nat} (h:∀ j,j < k->g j=none) (hk:k < N) {t:Z} (ht:g k=some t):(List.range N).findSome? g=some t:=by
 rw [show N=k+(N - k) by omega,List.range_add,List.findSome?_append]
 rw [show (List.range k).findSome? g=none from List.findSome?_eq_none_iff.2 fun j hj=>h j (aX.1 hj)]
 rw [show N - k=(N - k - 1)+1 by omega,dk]
 simp [ht]
theorem La {Z:Type} {g:Nat->Option Z} {N:Nat} (h:∀ j,j < N->g j=none):(List.range N).findSome? g=none:=List.findSome?_eq_none_iff.2 fun j hj=>h j (aX.1 hj)
def lsG (c:Chart) (a:Ask) (l:List Int):Option (List Int × List Tr):=(mvW c a l).map fun t=>(l,t)
def lsF (c:Chart) (a:Ask) (m:Nat) (l:List Int) (f:Nat):Option (List Int × List Tr):=(Xn (wM c.sold).length m l f).findSome? (lsG c a)
theorem QfX (c:Chart) (a:Ask) (l:List Int) (f:Nat):lsF c a 0 l f=lsG c a l:=by
 unfold lsF
 rw [Xn]
 cases h:lsG c a l <;> simp [h]
theorem Qcy {Z β γ:Type} (f:Z->List β) (g:β->Option γ):∀ l:List Z,(l.flatMap f).findSome? g=l.findSome? fun a=>(f a).findSome? g
 |[]=>rfl
 |a :: l=>by rw [bZ,List.findSome?_append,cW,Qcy f g l];cases (f a).findSome? g <;> rfl
theorem Qgx (c:Chart) (a:Ask) (m:Nat) (l:List Int) (f:Nat):lsF c a (m+1) l f=(List.range ((wM c.sold).length - f)).findSome? fun k=>lsF c a m (l++[((f+k:Nat):Int)]) (f+k+1):=by
 unfold lsF
 rw [Xn,Qcy]
structure LsOk (c:Chart) (a:Ask) (l:List Int) (f m:Nat):Prop where
 val:Val c
 sx:a.sexes.length<=3
 len:l.length+m<=2
 from':f<=(wM c.sold).length\/m=0
 mem:∀ i ∈ l,0<=i/\i.toNat < (wM c.sold).length
def lsL (c:Chart) (a:Ask) (many:Nat) (o:Option (List Int × List Tr)):List AObj:=[qf c.cabins c.secs 1,qc c.sold,.cells [.ptr 0 0],.cells [.sl ((wM c.sold).map zG)],.cells (qj a),.cells [.sl (((o.map (·.2)).getD []).map eTr)],
 .cells [aI many],.cells [.clo 85 [.ptr 3 0,.ptr 2 0,.ptr 4 0,.ptr 5 0]],.cells [.sl (((o.map (·.1)).getD []).map zG)],.cells [aB o.isSome],.cells [aI (wM c.sold).length],.cells [.clo 142 [.ptr 6 0,.ptr 7 0,.ptr 8 0,.ptr 9 0,.ptr 10 0,.ptr 11 0]]]
theorem QcO {c:Chart} {a:Ask} {many:Nat} {o:Option (List Int × List Tr)}:∀ i ob,qa (qz 0 (lsL c a many o)) i=some ob->i < 12/\∀ id ∈ ob.ids,id < 12:=by
 intro i ob hi
 have h:=qE hi
 simp [qz,lsL] at h
 rcases h with ⟨rfl,rfl⟩|⟨rfl,rfl⟩|⟨rfl,rfl⟩|⟨rfl,rfl⟩|⟨rfl,rfl⟩|⟨rfl,rfl⟩|⟨rfl,rfl⟩|⟨rfl,rfl⟩|⟨rfl,rfl⟩|⟨rfl,rfl⟩|⟨rfl,rfl⟩|⟨rfl,rfl⟩ <;> simp [AObj.ids,AV.ids,AV.idsL,qf,qc,qj,aI,aB]
def LsFn (c:Chart) (a:Ask) (many m:Nat):Prop:=∀ (l:List Int) (f:Nat),l.length+m=many->LsOk c a l f m ->
 Fn noB Tryz.prog 142 [qx l,aI f,.ptr 6 0,.ptr 7 0,.ptr 8 0,.ptr 9 0,.ptr 10 0,.ptr 11 0] (qa (qz 0 (lsL c a many none))) (.tup []) (qa (za 0 ((lsL c a many (lsF c a m l f)).map some))) 0
def QfG (c:Chart) (a:Ask) (S:St):List AV->Option Pk
 |[.sl xs,.ptr p3 0,.ptr p2 0,.ptr p4 0,.ptr p5 0]=>match S.h p2,S.h p5 with
  |some (.cells [.ptr p0 0]),some (.cells [.sl os])=>match S.h p0 with
   |some (.cells [_,_,.row p1])=>some { pre:=xs=(xs.map zD).map zG/\os=(os.map dTr).map eTr/\MvOk c a (xs.map zD),hs:=[p0,p1,p2,p3,p4,p5],ar:=[.sl xs,.ptr 3 0,.ptr 2 0,.ptr 4 0,.ptr 5 0],L0:=mvL c a (os.map dTr),v:=aB (mvW c a (xs.map zD)).isSome,L1:=(mvL c a ((mvW c a (xs.map zD)).getD (os.map dTr))).map some }
   |_=>none
  |_,_=>none
 |_=>none
theorem eMv1 {A:Frm->Prop} {c:Chart} {a:Ask}:qm A Tryz.prog 85 (fnE (QfG c a)):=zB fun S bs q h hp=>by
 unfold QfG at h
 split at h
 ·split at h
  ·split at h
   ·cases h
    obtain ⟨h1,h2,h3⟩:=hp
    have:=QlJ c a (List.map dTr (by assumption)) _ h3
    rw [qx,<- h1] at this
    exact this
   ·cases h
  ·cases h
 ·cases h
def pLs1 (c:Chart) (a:Ask) (many m:Nat) (S:St):List AV->Option Pk
 |[.row q,.v (.int .i64 f),.ptr p6 0,.ptr p7 0,.ptr p8 0,.ptr p9 0,.ptr p10 0,.ptr p11 0]=>match S.h q,S.h p7 with
  |some (.row _ _ xs),some (.cells [.clo _ [.ptr p3 0,.ptr p2 0,.ptr p4 0,.ptr p5 0]])=>match S.h p2 with
   |some (.cells [.ptr p0 0])=>match S.h p0 with
    |some (.cells [_,_,.row p1])=>some { pre:=xs=(xs.map zD).map zG/\f=(f.toNat:Int)/\(xs.map zD).length+m=many/\LsOk c a (xs.map zD) f.toNat m,hs:=[p0,p1,p2,p3,p4,p5,p6,p7,p8,p9,p10,p11],bo:=[q],ar:=[.sl xs,.v (.int .i64 f),.ptr 6 0,.ptr 7 0,.ptr 8 0,.ptr 9 0,.ptr 10 0,.ptr 11 0],L0:=lsL c a many none,v:=.tup [],L1:=(lsL c a many (lsF c a m (xs.map zD) f.toNat)).map some }
    |_=>none
   |_=>none
  |_,_=>none
 |_=>none
theorem eLs1 {A:Frm->Prop} {c:Chart} {a:Ask} {many m:Nat} (ih:LsFn c a many m):qm A Tryz.prog 142 (fnE (pLs1 c a many m)):=zB fun S bs q h hp=>by
 unfold pLs1 at h
 split at h
 ·split at h
  ·split at h
   ·split at h
    ·cases h
     obtain ⟨h1,h2,h3,h4⟩:=hp
     have:=ih _ _ h3 h4
     rw [qx,<- h1,aI,<- h2] at this
     exact this
    ·cases h
   ·cases h
  ·cases h
 ·cases h
def lsS (c:Chart) (a:Ask) (many:Nat) (l:List Int) (i:Nat) (o:Option (List Int × List Tr)):St:={ t:=asg [(0,qx l),(2,.ptr 6 0),(3,.ptr 7 0),(4,.ptr 8 0),(5,.ptr 9 0),(6,.ptr 10 0),(7,.ptr 11 0),(10,aI i)],h:=qa [(0,qf c.cabins c.secs 1),(1,qc c.sold),(2,.cells [.ptr 0 0]),(3,.cells [.sl ((wM c.sold).map zG)]),(4,.cells (qj a)),(5,.cells [.sl (((o.map (·.2)).getD []).map eTr)]),
 (6,.cells [aI many]),(7,.cells [.clo 85 [.ptr 3 0,.ptr 2 0,.ptr 4 0,.ptr 5 0]]),(8,.cells [.sl (((o.map (·.1)).getD []).map zG)]),(9,.cells [aB o.isSome]),(10,.cells [aI (wM c.sold).length]),(11,.cells [.clo 142 [.ptr 6 0,.ptr 7 0,.ptr 8 0,.ptr 9 0,.ptr 10 0,.ptr 11 0]])],n:=12,m:=12 }
def jA:=jv @ty3 (jv @ty4 (jv @WG (jv @ty167 (jv @Qj4 (jv @ti3.eq_1 (jv @ti4.eq_1 (jv @QV.eq_1 (jv @QcE.eq_1 @UC.eq_1))))))))
def jJ:=jv @aI.eq_1 (jv @aB.eq_1 (jv @qx.eq_1 (jv @zG.eq_1 (jv @QeK (jv @Qgn (@WK))))))
theorem XK (c:Chart) (a:Ask) (many m:Nat) (ih:∀ m',m=m'+1->LsFn c a many m'):LsFn c a many m:=by
 intro l f hlm ok
 have hlen:=ok.len
 have hlo:=QhV c.sold
 have hv8:=ok.val.many
 have hmx:(100000:Nat)<=maxLen:=by decide
 have hmm:l.length<=100000:=by omega
 have hml1:l.length+1<=maxLen:=by omega
 obtain ⟨n,hn⟩:∃ n,(wM c.sold).length=n:=⟨_,rfl⟩
 rw [hn] at hlo
 cases m with
 |zero =>
  have env:Env (fun _=>True) Tryz.prog tyB (tab [(85,fnE (QfG c a))]):=qB ⟨eMv1,trivial⟩
  refine Fn.of (A:=fun _=>True) (n0:=12) (D:=noD) (Fn0 Tryz.func142 rfl (fun vs w=>by kernel_rfl) (by kernel_rfl)) (by simp) (by simp [AV.ids,qx,aI]) QcO (fun _ _ _ _=>trivial) q9 ?_
  have hmv:MvOk c a l:=⟨ok.val,ok.sx,by omega,ok.mem⟩
  have d0:decide ((l.length:Int)=(many:Int))=true:=decide_eq_true (by omega)
  rw [QfX]
  show Sym _ _ _ (qP [qx l,aI f,.ptr 6 0,.ptr 7 0,.ptr 8 0,.ptr 9 0,.ptr 10 0,.ptr 11 0] 12 (lsS c a many l f none).h) (jP tyB noD Tryz.f142 fun S rv=>Fin S rv _ 12 (lsS c a many l f (lsG c a l)).h 0)
  unfold lsG
  cases hW:mvW c a l with
  |none =>
   repeat' first|(apply nx;with_reducible constructor)|apply jq (by decide)|((first|apply jz env|apply jw);intro Q hQ;simp only [vkt,seval,jA,jJ,qf,qc,mvL,lsS,qj,QfG,d0,hmv,hW,bG,bD,ite_and];(repeat' first|with_reducible assumption|apply jv|intro hp);all_goals first|(apply hQ;clear hQ Q)|(apply jx;kernel_rfl)|omega|assumption|with_reducible rfl|skip)
   (simp only [vrt,Tryz.results142,vkt,seval,jJ,qf,qc,lsS,qj];refine Fin.ok some [] ?_ ?_ ?_ ?_ ?_ rfl;all_goals (try simp only [vle,vkt,seval]))
   all_goals (try simp only [bG,bD])
   all_goals first|rfl|simp
  |some t =>
   repeat' first|(apply nx;with_reducible constructor)|apply jq (by decide)|((first|apply jz env|apply jw);intro Q hQ;simp only [vkt,seval,jA,jJ,qf,qc,mvL,lsS,qj,QfG,d0,hmv,hW,bG,bD,ite_and];(repeat' first|with_reducible assumption|apply jv|intro hp);all_goals first|(apply hQ;clear hQ Q)|(apply jx;kernel_rfl)|omega|assumption|with_reducible rfl|skip)
   (simp only [vrt,Tryz.results142,vkt,seval,jJ,qf,qc,lsS,qj];refine Fin.ok some [] ?_ ?_ ?_ ?_ ?_ rfl;all_goals (try simp only [vle,vkt,seval]))
   all_goals (try simp only [cM,Option.isSome_some,bO])
   all_goals first|rfl|simp
 |succ m =>
  have env:Env (fun _=>True) Tryz.prog tyB (tab [(114,fnE YG),(142,fnE (pLs1 c a many m))]):=qB ⟨QjA,eLs1 (ih m rfl),trivial⟩
  refine Fn.of (A:=fun _=>True) (n0:=12) (D:=noD) (Fn0 Tryz.func142 rfl (fun vs w=>by kernel_rfl) (by kernel_rfl)) (by simp) (by simp [AV.ids,qx,aI]) QcO (fun _ _ _ _=>trivial) q9 ?_
  have d0:decide ((l.length:Int)=(many:Int))=false:=decide_eq_false (by omega)
  have hfn:f<=n:=by have:=ok.from';omega
  rw [Qgx,hn]
  obtain ⟨g,hg⟩:∃ g:Nat->Option (List Int × List Tr),(fun k=>lsF c a m (l++[((f+k:Nat):Int)]) (f+k+1))=g:=⟨_,rfl⟩
  rw [hg]
  show Sym _ _ _ (qP [qx l,aI f,.ptr 6 0,.ptr 7 0,.ptr 8 0,.ptr 9 0,.ptr 10 0,.ptr 11 0] 12 (lsS c a many l f none).h) (jP tyB noD Tryz.f142 fun S rv=>Fin S rv _ 12 (lsS c a many l f ((List.range (n - f)).findSome? g)).h 0)
  repeat' first|(apply nx;with_reducible constructor)|apply jq (by decide)|((first|apply jz env|apply jw);intro Q hQ;simp only [vkt,seval,jA,jJ,qf,qc,lsS,qj,d0,bG,bD,ite_and];(repeat' first|with_reducible assumption|apply jv|intro hp);all_goals first|(apply hQ;clear hQ Q)|(apply jx;kernel_rfl)|omega|assumption|with_reducible rfl|skip)
  refine qY (fun x:{ x:Nat × Option (List Int × List Tr) // x.1<=n - f/\((x.2=none/\∀ j,j < x.1->g j=none)\/∃ t,x.2=some t/\(List.range (n - f)).findSome? g=some t) }=>lsS c a many l (f+x.1.1) x.1.2) (fun x=>n - f - x.1.1) ⟨(0,none),ap _,.inl ⟨rfl,fun j h=>absurd h (bu _)⟩⟩ ?_ fun ⟨(k,o),hk,ho⟩=>?_
  ·show Le _ (lsS c a many l f none)
   unfold lsS
   (refine Le.ok some [] ?_;constructor;all_goals (try simp only [vle,vkt,seval,jJ,qf,qc,qj]))
   all_goals first|rfl|simp
  simp only at hk ho ⊢
  rcases ho with ⟨rfl,hno⟩|⟨t,rfl,ht⟩
  ·by_cases hkl:k < n - f
   ·have d1:decide (((f+k:Nat):Int) < (n:Int))=true:=decide_eq_true (by omega)
    have w1:IntKind.wrap .i64 (((f+k:Nat):Int)+1)=((f+k+1:Nat):Int):=by rw [wrap64 (by omega) (by omega)];rfl
    have hla:l.map zG++[[.v (.int .i64 ((f+k:Nat):Int))]]=(l++[((f+k:Nat):Int)]).map zG:=by rw [aq];rfl
    have hll:(l++[((f+k:Nat):Int)]).length=l.length+1:=by simp
    have hnm:l.length+1+m=many:=by omega
    have i0:(((f+k+1:Nat):Int)).toNat=f+k+1:=rfl
    have hok:LsOk c a (l++[((f+k:Nat):Int)]) (f+k+1) m:=⟨ok.val,ok.sx,by rw [hll];omega,.inl (by omega),fun i hi=>by
     rcases aw.1 hi with hi|hi
     ·exact ok.mem i hi
     ·rw [aO.1 hi,hn];omega⟩
    obtain ⟨o',ho'⟩:∃ o',lsF c a m (l++[((f+k:Nat):Int)]) (f+k+1)=o':=⟨_,rfl⟩
    have hgk:g k=o':=by rw [<- hg];exact ho'
    repeat' first|(apply nx;with_reducible constructor)|apply jq (by decide)|((first|apply jz env|apply jw);intro Q hQ;simp only [vkt,seval,jA,jJ,qf,qc,lsL,lsS,qj,pLs1,YG,hn,d1,w1,hla,hll,hnm,i0,hok,ho',hmm,hml1,bG,bD,ite_and];(repeat' first|with_reducible assumption|apply jv|intro hp);all_goals first|(apply hQ;clear hQ Q)|(apply jx;kernel_rfl)|omega|assumption|with_reducible rfl|skip)
    ·exact ⟨_,_,rfl⟩
    refine ⟨⟨(k+1,o'),by show k+1<=n - f;omega, ?_⟩,by show n - f - (k+1) < n - f - k;omega, ?_⟩
    ·cases o' with
     |none =>
      refine .inl ⟨rfl,fun j hj=>?_⟩
      rcases bw (bx hj) with h1|h1
      ·exact hno j h1
      ·rw [h1];exact hgk
     |some t=>exact .inr ⟨t,rfl,fsr hno hkl hgk⟩
    ·show Le _ (lsS c a many l (f+k+1) o')
     unfold lsS
     rw [hn]
     (refine Le.ok some [] ?_;constructor;all_goals (try simp only [vle,vkt,seval,jJ,qf,qc,qj]))
     all_goals first|rfl|simp
   ·have d1:decide (((f+k:Nat):Int) < (n:Int))=false:=decide_eq_false (by omega)
    rw [La (fun j hj=>hno j (by omega))]
    repeat' first|(apply nx;with_reducible constructor)|apply jq (by decide)|((first|apply jz env|apply jw);intro Q hQ;simp only [vkt,seval,jA,jJ,qf,qc,lsS,qj,hn,d1,bG,bD,ite_and];(repeat' first|with_reducible assumption|apply jv|intro hp);all_goals first|(apply hQ;clear hQ Q)|(apply jx;kernel_rfl)|omega|assumption|with_reducible rfl|skip)
    (simp only [vrt,Tryz.results142,vkt,seval,jJ,qf,qc,lsS,qj];refine Fin.ok some [] ?_ ?_ ?_ ?_ ?_ rfl;all_goals (try simp only [vle,vkt,seval]))
    all_goals (try simp only [hn,bG,bD])
    all_goals first|rfl|simp
  ·rw [ht]
   by_cases hkl:f+k < n
   ·have d1:decide (((f+k:Nat):Int) < (n:Int))=true:=decide_eq_true (by omega)
    repeat' first|(apply nx;with_reducible constructor)|apply jq (by decide)|((first|apply jz env|apply jw);intro Q hQ;simp only [vkt,seval,jA,jJ,qf,qc,lsS,qj,hn,d1,ite_and];(repeat' first|with_reducible assumption|apply jv|intro hp);all_goals first|(apply hQ;clear hQ Q)|(apply jx;kernel_rfl)|omega|assumption|with_reducible rfl|skip)
    (simp only [vrt,Tryz.results142,vkt,seval,jJ,qf,qc,lsS,qj];refine Fin.ok some [] ?_ ?_ ?_ ?_ ?_ rfl;all_goals (try simp only [vle,vkt,seval]))
    all_goals (try simp only [hn])
    all_goals first|rfl|simp
   ·have d1:decide (((f+k:Nat):Int) < (n:Int))=false:=decide_eq_false (by omega)
    repeat' first|(apply nx;with_reducible constructor)|apply jq (by decide)|((first|apply jz env|apply jw);intro Q hQ;simp only [vkt,seval,jA,jJ,qf,qc,lsS,qj,hn,d1,ite_and];(repeat' first|with_reducible assumption|apply jv|intro hp);all_goals first|(apply hQ;clear hQ Q)|(apply jx;kernel_rfl)|omega|assumption|with_reducible rfl|skip)
    (simp only [vrt,Tryz.results142,vkt,seval,jJ,qf,qc,lsS,qj];refine Fin.ok some [] ?_ ?_ ?_ ?_ ?_ rfl;all_goals (try simp only [vle,vkt,seval]))
    all_goals (try simp only [hn])
    all_goals first|rfl|simp
theorem YY (c:Chart) (a:Ask) (many:Nat):∀ m,LsFn c a many m
 |0=>XK c a many 0 fun _ h=>by omega
 |m+1=>XK c a many (m+1) fun m' h=>by
  obtain rfl:m=m':=by omega
  exact YY c a many m
def pLs0 (c:Chart) (a:Ask) (many:Nat) (S:St):List AV->Option Pk
 |[.nil,.v (.int .i64 f),.ptr p6 0,.ptr p7 0,.ptr p8 0,.ptr p9 0,.ptr p10 0,.ptr p11 0]=>match S.h p7 with
  |some (.cells [.clo _ [.ptr p3 0,.ptr p2 0,.ptr p4 0,.ptr p5 0]])=>match S.h p2 with
   |some (.cells [.ptr p0 0])=>match S.h p0 with
    |some (.cells [_,_,.row p1])=>some { pre:=f=0/\LsOk c a [] 0 many,hs:=[p0,p1,p2,p3,p4,p5,p6,p7,p8,p9,p10,p11],ar:=[.sl [],.v (.int .i64 0),.ptr 6 0,.ptr 7 0,.ptr 8 0,.ptr 9 0,.ptr 10 0,.ptr 11 0],L0:=lsL c a many none,v:=.tup [],L1:=(lsL c a many (lsF c a many [] 0)).map some }
    |_=>none
   |_=>none
  |_=>none
 |_=>none
theorem eLs0 {A:Frm->Prop} {c:Chart} {a:Ask} {many:Nat}:qm A Tryz.prog 142 (fnE (pLs0 c a many)):=zB fun S bs q h hp=>by
 unfold pLs0 at h
 split at h
 ·split at h
  ·split at h
   ·split at h
    ·cases h
     exact YY c a many many [] 0 (by simp) hp.2
    ·cases h
   ·cases h
  ·cases h
 ·cases h
def U9:=jv @ty3 (jv @ty4 (jv @WG (jv @Qj4 (jv @ti3.eq_1 (jv @ti4.eq_1 (jv @QV.eq_1 @UC.eq_1))))))
def Qb5:=jv @aI.eq_1 (jv @aB.eq_1 (jv @qx.eq_1 (jv @zG.eq_1 (jv @Qgn (@WK)))))
theorem Qfm (c:Chart) (a:Ask) (many:Nat) (ok:LsOk c a [] 0 many):Fn noB Tryz.prog 84 [aI (wM c.sold).length,aI many,.clo 85 [.ptr 3 0,.ptr 2 0,.ptr 4 0,.ptr 5 0]] (qa (qz 0 (mvL c a []))) (.tup [qx (((lsF c a many [] 0).map (·.1)).getD []),aB (lsF c a many [] 0).isSome]) (qa (za 0 ((mvL c a (((lsF c a many [] 0).map (·.2)).getD [])).map some))) 0:=by
 have env:Env (fun _=>True) Tryz.prog tyB (tab [(142,fnE (pLs0 c a many))]):=qB ⟨eLs0,trivial⟩
 refine Fn.of (A:=fun _=>True) (n0:=6) (D:=noD) (Fn0 Tryz.func84 rfl (fun vs w=>by kernel_rfl) (by kernel_rfl)) (by simp) (by simp [AV.ids,AV.idsL,aI]) Qb4 (fun _ _ _ _=>trivial) q9 ?_
 obtain ⟨o,ho⟩:∃ o,lsF c a many [] 0=o:=⟨_,rfl⟩
 rw [ho]
 show Sym _ _ _ (qP [aI (wM c.sold).length,aI many,.clo 85 [.ptr 3 0,.ptr 2 0,.ptr 4 0,.ptr 5 0]] 6 (qa [(0,qf c.cabins c.secs 1),(1,qc c.sold),(2,.cells [.ptr 0 0]),(3,.cells [.sl ((wM c.sold).map zG)]),(4,.cells (qj a)),(5,.cells [.sl []])])) (jP tyB noD Tryz.f84 fun S rv=>Fin S rv _ 6 (qa [(0,qf c.cabins c.secs 1),(1,qc c.sold),(2,.cells [.ptr 0 0]),(3,.cells [.sl ((wM c.sold).map zG)]),(4,.cells (qj a)),(5,.cells [.sl (((o.map (·.2)).getD []).map eTr)])]) 0)
 repeat' first|(apply nx;with_reducible constructor)|apply jq (by decide)|((first|apply jz env|apply jw);intro Q hQ;simp only [vkt,seval,U9,Qb5,qf,qc,lsL,qj,pLs0,ho,ok,bG,bD,ite_and];(repeat' first|with_reducible assumption|apply jv|intro hp);all_goals first|(apply hQ;clear hQ Q)|(apply jx;kernel_rfl)|omega|assumption|with_reducible rfl|skip)
 (simp only [vrt,Tryz.results84,vkt,seval,Qb5,qf,qc,qj];refine Fin.ok some [] ?_ ?_ ?_ ?_ ?_ rfl;all_goals (try simp only [vle,vkt,seval]))
 all_goals first|rfl|(simp;done)|exact fun i hi=>(match i,hi with|0,_=>rfl|1,_=>rfl)
end Go.Sym.B
