/- Walks and what they compute, joined: part 2. -/
import Derived.Test.YtcmfagpdahhfpaaGreatDoorWB2
import Derived.Lib.AppendIntMem
import Derived.WalkKit
import Derived.BigCall
import Derived.WalkSmall
import Derived.Recover
import Derived.TacticsInMore
import Derived.RegionIn
import Derived.RecoverIn
import Derived.Lib.CountLaws
import Derived.Lib.ItoaNum
import Derived.Lib.IndexMore
import Derived.IntWalk
import Derived.Test.YtcmfagpdahhfpaaGreatDoorRows
import Derived.MakeChecks
import Derived.LaidSub
import Derived.LaidMore
import Derived.Lib.LaidU8
import Derived.Lib.LaidTab
import Derived.Shelf.Vars
import Derived.Handed
import GoSem.PinnedTables
import Derived.Test.YtcmfagpdahhfpaaGreatDoorW1
set_option linter.all false
set_option maxRecDepth 100000
set_option maxHeartbeats 40000000
namespace Go.Sym.B
open Go Go.Sym Go.Proofs Go.Proofs.Tryz Go.Sym.C
noncomputable def Qcy (rs:List (List Sh)) (w:Int) (s:EnS) (day coin to am x:Int):EnS :=
 if upV x (10 - 1) < w then WS s day coin to am (Qal rs day coin to am+(1+upV (upS x (10 - 1)) (3 - 1))) (upS (upS x (10 - 1)) (3 - 1))
 else WS s day coin to am (Qal rs day coin to am) (upS x (10 - 1))
noncomputable def Vz (C:Nat) (coin x:Int):Int:=Zp (coin+(1+upV x ((C:Int) - 1 - 1))) C
noncomputable def enS3 (C:Nat) (rs:List (List Sh)) (w:Int) (s:EnS) (day coin x:Int):EnS :=
 if C=1 then ⟨day,s.till,s.es,x⟩ else
 Qcy rs w s day coin (Vz C coin x) (upV (upS x ((C:Int) - 1 - 1)) (min (s.till.getD coin.toNat 0) 40)) (upS (upS x ((C:Int) - 1 - 1)) (min (s.till.getD coin.toNat 0) 40))
noncomputable def LF (C:Nat) (rs:List (List Sh)) (w:Int) (s:EnS) (day kind coin x:Int):EnS :=
 if kind=1 then enS1 s day coin x else if kind=2 then enS2 s day coin x else if kind=4 then enS4 s day coin x else enS3 C rs w s day coin x
noncomputable def enK0 (R:Nat) (s:EnS):Int:=Qb6 (enX1 R s) kinds
noncomputable def Qbq (R:Nat) (s:EnS):Int:=upS (enX1 R s) ((6:Nat) - 1)
noncomputable def Xa (C:Nat) (rs:List (List Sh)) (w:Int) (s:EnS):EnS :=
 LF C rs w s (enD rs.length s) (enK0 rs.length s) (upV (Qbq rs.length s) ((C:Int) - 1)) (upS (Qbq rs.length s) ((C:Int) - 1))
noncomputable def enK (C:Nat) (rs:List (List Sh)) (w:Int) (s:EnS):Nat->EnS
 |0=>s
 |k+1=>Xa C rs w (enK C rs w s k)
structure EnI (C R k:Nat) (s:EnS):Prop where
 d0:0<=s.day
 d1:s.day<=(R:Int) - 1
 len:s.till.length=C
 b:∀ v ∈ s.till,0<=v/\v<=999 * ((k:Int)+1)
 es:s.es.length<=k
def Qb8 {C R k:Nat} {s:EnS} (h:EnI C R k s) (hR:R<=100):s.day<=enD R s/\enD R s<=(R:Int) - 1:=by
 have h0:=h.d0;have h1:=h.d1
 have:=jo (x:=s.x) (m:=min (s.day+1) ((R:Int) - 1) - s.day) (by omega) (by omega)
 unfold enD;omega
structure EnJ (C R k:Nat) (s:EnS) (day coin:Int):Prop where
 i:EnI C R k s
 d0:0<=day
 d1:day<=(R:Int) - 1
 c0:0<=coin
 c1:coin<=(C:Int) - 1
def EnJ.h {C R k:Nat} {s:EnS} {day coin:Int} (j:EnJ C R k s day coin):0<=s.till.getD coin.toNat 0/\s.till.getD coin.toNat 0<=999 * ((k:Int)+1):=by
 have:=j.c0;have:=j.c1
 have:=j.i.len;exact j.i.b _ (jb (by omega))
def Jm {l:List Int} {i:Nat} {v:Int} {P:Int->Prop} (h:∀ x ∈ l,P x) (hv:P v):∀ x ∈ l.set i v,P x:=fun x hx=>by
 rcases bV hx with h1|h1
 ·exact h x h1
 ·exact h1 ▸ hv
def EnJ.bd {C R k:Nat} {s:EnS} {day coin:Int} (j:EnJ C R k s day coin):∀ v ∈ s.till,0<=v/\v<=999 * (((k+1:Nat):Int)+1):=fun v hv=>by
 have:=j.i.b v hv;omega
def EnJ.set {C R k:Nat} {s:EnS} {day coin:Int} (j:EnJ C R k s day coin) {v:Int} {e:Ent} {x:Int} (h:0<=v/\v<=999 * ((k:Int)+1)+999):EnI C R (k+1) ⟨day,s.till.set coin.toNat v,s.es++[e],x⟩ :=
 ⟨j.d0,j.d1,by simp [j.i.len],Jm j.bd (by omega),by simp;exact j.i.es⟩
def Rz (h x:Int):0<=RU h x/\RU h x<=999:=by unfold RU;omega
def LU {C R k:Nat} {s:EnS} {day coin:Int} (j:EnJ C R k s day coin) {to am got x:Int} (ha:0<=am) (ha':am<=s.till.getD coin.toNat 0) (ht:0<=to/\to < C) (hg:0<=got):EnI C R (k+1) (WS s day coin to am got x):=by
 unfold WS;have hh:=j.h
 have hl:=j.i.len;split
 ·exact ⟨j.d0,j.d1,hl,j.bd,Nat.le_succ_of_le j.i.es⟩
 ·have h2:=j.i.b _ (jb (l:=s.till) (k:=to.toNat) (d:=0) (by omega))
  exact ⟨j.d0,j.d1,by simp [hl],Jm (Jm j.bd (by omega)) (by omega),by simp;exact j.i.es⟩
def K7 {rs:List (List Sh)} {day coin to am:Int} (h1:ShOk ((rs.getD day.toNat []).getD coin.toNat default)) (h2:ShOk ((rs.getD day.toNat []).getD to.toNat default)) (ha:0<=am) (ha':am<=40) :
  0<=Qal rs day coin to am/\Qal rs day coin to am<=9600:=by
 unfold Qal;have a1:=h1.n
 have a2:=h1.d;have a3:=h2.n
 have a4:=h2.d;generalize ((rs.getD day.toNat []).getD coin.toNat default).num=p at *
 generalize ((rs.getD day.toNat []).getD coin.toNat default).den=q at *;generalize ((rs.getD day.toNat []).getD to.toNat default).num=r at *
 generalize ((rs.getD day.toNat []).getD to.toNat default).den=u at *;have m1:0<=am * p * u:=dq (dq ha (by omega)) (by omega)
 have m2:am * p<=40 * 20:=cF ha' a1.2 (by omega) (by omega)
 have m3:am * p * u<=40 * 20 * 12:=cF m2 a4.2 (by omega) (by omega)
 have m4:0 < q * r:=cE (by omega) (by omega)
 rw [dx m1];refine ⟨Int.ediv_nonneg m1 (by omega),bQ (dA _ m1) (by omega)⟩
structure RsOk (rs:List (List Sh)) (C:Nat):Prop where
 len:1<=rs.length/\rs.length<=4
 all:∀ r ∈ rs,RwOk r C
def RsOk.sh {rs:List (List Sh)} {C:Nat} (h:RsOk rs C) {day coin:Int} (h1:0<=day) (h2:day<=(rs.length:Int) - 1) (h3:0<=coin) (h4:coin<=(C:Int) - 1):ShOk ((rs.getD day.toNat []).getD coin.toNat default):=by
 have hr:=h.all _ (jb (l:=rs) (k:=day.toNat) (d:=[]) (by omega))
 exact hr.all _ (jb (by have:=hr.len;omega))
def QiS {C k:Nat} {rs:List (List Sh)} (hr:RsOk rs C) (hC:1<=C/\C<=4) {w:Int} {s:EnS} {day coin:Int} (j:EnJ C rs.length k s day coin) (kind x:Int):EnI C rs.length (k+1) (LF C rs w s day kind coin x):=by
 have hh:=j.h;have hc0:=j.c0
 have hc1:=j.c1;unfold LF
 split
 ·unfold enS1
  have:=jo (x:=x) (m:=90) (by decide) (by decide)
  exact j.set (by omega)
 split
 ·unfold enS2
  have:=vZ (x:=x) (m:=min (s.till.getD coin.toNat 0) 90) (by omega)
  exact j.set (by omega)
 split
 ·unfold enS4
  have:=Rz (s.till.getD coin.toNat 0) x;exact j.set (by omega)
 ·unfold enS3
  split
  ·exact ⟨j.d0,j.d1,j.i.len,j.bd,Nat.le_succ_of_le j.i.es⟩
  ·have ht:0<=Vz C coin x/\Vz C coin x < C:=V3 (by omega)
   generalize Vz C coin x=to at *;generalize upS x ((C:Int) - 1 - 1)=y
   have ha:=vZ (x:=y) (m:=min (s.till.getD coin.toNat 0) 40) (by omega)
   generalize upV y (min (s.till.getD coin.toNat 0) 40)=am at *;have s1:=hr.sh j.d0 j.d1 hc0 hc1
   have s2:=hr.sh j.d0 j.d1 ht.1 (show to<=(C:Int) - 1 by omega)
   have hg:=K7 s1 s2 (am:=am) (by omega) (by omega)
   unfold Qcy;split
   ·have:=vZ (x:=upS (upS y (min (s.till.getD coin.toNat 0) 40)) (10 - 1)) (m:=3 - 1) (by decide)
    exact LU j (by omega) (by omega) ht (by omega)
   ·exact LU j (by omega) (by omega) ht (by omega)
def Qb3 {C k:Nat} {rs:List (List Sh)} (hr:RsOk rs C) (hC:1<=C/\C<=4) {s:EnS} (h:EnI C rs.length k s):EnJ C rs.length k s (enD rs.length s) (upV (Qbq rs.length s) ((C:Int) - 1)):=by
 have h1:=Qb8 h (by have:=hr.len;omega)
 have h2:=jo (x:=Qbq rs.length s) (m:=(C:Int) - 1) (by omega) (by omega)
 exact ⟨h,by have:=h.d0;omega,h1.2,h2.1,h2.2⟩
def RV {C:Nat} {rs:List (List Sh)} (hr:RsOk rs C) (hC:1<=C/\C<=4) {w:Int} {s:EnS} (h:EnI C rs.length 0 s):∀ k,EnI C rs.length k (enK C rs w s k)
 |0=>h
 |k+1=>QiS hr hC (Qb3 hr hC (RV hr hC h k)) _ _
noncomputable def lg1 (x c:Int):CoS:=coK (upS x (c - 1)) (1+upV x (c - 1)).toNat
noncomputable def lg2 (x c d:Int):List (List Sh) × Int:=dyK ((lg1 x c).cs.length - 1) (upS (lg1 x c).x (d - 1)) (1+upV (lg1 x c).x (d - 1)).toNat
noncomputable def lg3 (x c d e w:Int):EnS:=enK (lg1 x c).cs.length (lg2 x c d).1 w ⟨0,(lg1 x c).ss,[],upS (lg2 x c d).2 e⟩ (upV (lg2 x c d).2 e).toNat
noncomputable def lgL (x c d e w:Int):Led:=⟨(lg1 x c).cs,(lg2 x c d).1,(lg1 x c).ss,(lg3 x c d e w).es⟩
noncomputable def lgS (x c d e w:Int):Int:=(lg3 x c d e w).x
def WV:=vz @ty3 (vz @jK (vz @ti3.eq_1 @jr.eq_1))
def QiV:=vz @aI.eq_1 (vz @aB.eq_1 (vz @qj.eq_1 (@JA)))
def LJ (l:List Int) (hl:l.length<=100000):Fn noB prog 63 [qj l] noH (.row 0) (qf [(0,.row 3 1 (l.map ql))]) 0:=by
 have env:=qz (A:=fun _=>True) kN
 refine kV (Fn0 func63 rfl (fun vs w=>by kernel_rfl) (by kernel_rfl)) (by simp) (by simp [AV.ids,qj]) ?_
 obtain ⟨b1,b2,b3,b4⟩:=b47 hl
 repeat' first|(apply nx;with_reducible constructor)|apply uq (by decide)|((first|apply uz env|apply uj);intro Q hQ;simp only [vkt,Nat.reduceEqDiff,reduceCtorEq,↓reduceIte,WV,QiV,ite_and];(repeat' first|with_reducible assumption|apply vz|intro hp);all_goals first|(apply hQ;clear hQ Q)|omega|assumption|with_reducible rfl|(apply ux;kernel_rfl)|skip)
 (simp only [vrt,results63,vkt];refine Fin.ok some [] ?_ ?_ ?_ ?_ ?_ rfl;all_goals (try simp only [vle,vkt,↓reduceIte]))
 all_goals first|rfl|simp
def flInt (l:List Int):(∀ r ∈ l.map ql,∀ d ∈ r,∃ x,d=DV.v x)=True:=by
 simp [ql]
def QeX (S:St):List AV->Option Pk
 |[.row r]=>match S.h r with
  |some (.row _ _ xs)=>some { pre:=xs=(xs.map qE).map ql/\xs.length<=100000,bo:=[r],ar:=[.sl xs],v:=.row 0,L1:=[some (.row 3 1 xs)],fl:=true }
  |_=>none
 |[.sl xs]=>some { pre:=xs=(xs.map qE).map ql/\xs.length<=100000,ar:=[.sl xs],v:=.row 0,L1:=[some (.row 3 1 xs)] }
 |_=>none
def e23r {A:Frm->Prop}:qc A prog 63 (fnE QeX):=wB fun S bs q h hp=>by
 unfold QeX at h;split at h
 ·split at h
  ·cases h
   rename_i xs _;have:=LJ (List.map qE xs) (by rw [ab];exact hp.2)
   simp only [qj,<- hp.1] at this;exact this
  ·cases h
 ·cases h
  rename_i xs;have:=LJ (List.map qE xs) (by rw [ab];exact hp.2)
  simp only [qj,<- hp.1] at this;exact this
 ·cases h
def pcK_1 (y:Int) (j:Nat):(pcK y (j+1)).1=(pcK y j).1++[(pcK y j).1.getD j 0+(1+upV (pcK y j).2 (12 - 1))]:=rfl
def pcK_2 (y:Int) (j:Nat):(pcK y (j+1)).2=upS (pcK y j).2 (12 - 1):=rfl
def rtK_1 (y:Int) (j:Nat):(rtK y (j+1)).1=(rtK y j).1++[rtV (rtK y j).2]:=rfl
def rtK_2 (y:Int) (j:Nat):(rtK y (j+1)).2=rtS (rtK y j).2:=rfl
def dyK_1 (m:Nat) (y:Int) (j:Nat):(dyK m y (j+1)).1=(dyK m y j).1++[(rtK (dyK m y j).2 m).1]:=rfl
def dyK_2 (m:Nat) (y:Int) (j:Nat):(dyK m y (j+1)).2=(rtK (dyK m y j).2 m).2:=rfl
def enK_1 (C:Nat) (rs:List (List Sh)) (w:Int) (s:EnS) (k:Nat):enK C rs w s (k+1)=Xa C rs w (enK C rs w s k):=rfl
def gRow {l:List (List Sh)} {n:Nat} (h:n < l.length):(l.map wM).getD n []=wM (l.getD n []):=by simp [ah,h]
def dIntW (n:Int):qE [.v (.int .i64 n)]=n:=rfl
def loT (c d e w:Int):List (Nat × AV):=[(0,.ptr 0 0),(1,aI c),(2,aI d),(3,aI e),(4,aI w),(10,.ptr 1 0),(11,.ptr 2 0)]
def U0:List AV:=[.nil,.nil,.nil,.nil]
noncomputable def lo1 (c d e w:Int) (b:Int) (V k:Nat):St:={ t:=asg (loT c d e w++[(12,aI ((V:Int) - (k:Int)))]),h:=qf [(0,.cells [.v (.int .u64 (coK b k).x)]),(1,.cells U0),(2,.cells [.row 3,.nil,.row 4,.nil]),(3,.row 26 1 ((coK b k).cs.map qG)),(4,.row 3 1 ((coK b k).ss.map ql))],n:=5,m:=1 }
noncomputable def lo2 (c d e w:Int) (s:CoS) (y:Int) (V k K j:Nat):St:={ t:=asg (loT c d e w++[(12,aI ((V:Int) - (k:Int))),(13,.row 5),(14,aI ((K:Int) - (j:Int)))]),h:=qf [(0,.cells [.v (.int .u64 (pcK y j).2)]),(1,.cells U0),(2,.cells [.row 3,.nil,.row 4,.nil]),(3,.row 26 1 (s.cs.map qG)),(4,.row 3 1 (s.ss.map ql)),(5,.row 3 1 ((pcK y j).1.map ql))],n:=6,m:=1 }
def lo3 (c d e w:Int) (s:CoS) (p:List Int) (y:Int) (V k:Nat):St:={ t:=asg (loT c d e w++[(12,aI ((V:Int) - (k:Int))),(13,qj p)]),h:=qf [(0,.cells [.v (.int .u64 y)]),(1,.cells U0),(2,.cells [.row 3,.nil,.row 4,.nil]),(3,.row 26 1 (s.cs.map qG)),(4,.row 3 1 (s.ss.map ql))],n:=5,m:=1 }
noncomputable def ld1 (c d e w:Int) (s:CoS) (m:Nat) (b:Int) (V k:Nat):St:={ t:=asg (loT c d e w++[(15,aI ((V:Int) - (k:Int)))]),h:=qf [(0,.cells [.v (.int .u64 (dyK m b k).2)]),(1,.cells U0),(2,.cells [.row 3,.row 5,.row 4,.nil]),(3,.row 26 1 (s.cs.map qG)),(4,.row 3 1 (s.ss.map ql)),(5,.row 108 1 ((dyK m b k).1.map wM))],n:=6,m:=1 }
noncomputable def ld2 (c d e w:Int) (s:CoS) (rs:List (List Sh)) (y:Int) (V k j:Nat):St:={ t:=asg (loT c d e w++[(15,aI ((V:Int) - (k:Int))),(16,.row 6),(17,aI ((j:Int)+1))]),h:=qf [(0,.cells [.v (.int .u64 (rtK y j).2)]),(1,.cells U0),(2,.cells [.row 3,.row 5,.row 4,.nil]),(3,.row 26 1 (s.cs.map qG)),(4,.row 3 1 (s.ss.map ql)),(5,.row 108 1 (rs.map wM)),(6,.row 110 2 ((rtK y j).1.map eSh))],n:=7,m:=1 }
def ld3 (c d e w:Int) (s:CoS) (rs:List (List Sh)) (r:List Sh) (y:Int) (V k:Nat):St:={ t:=asg (loT c d e w++[(15,aI ((V:Int) - (k:Int))),(16,xB r)]),h:=qf [(0,.cells [.v (.int .u64 y)]),(1,.cells U0),(2,.cells [.row 3,.row 5,.row 4,.nil]),(3,.row 26 1 (s.cs.map qG)),(4,.row 3 1 (s.ss.map ql)),(5,.row 108 1 (rs.map wM))],n:=6,m:=1 }
def le1 (c d e w:Int) (s:CoS) (rs:List (List Sh)) (t:EnS) (V k:Nat):St:={ t:=asg (loT c d e w++[(18,.row 6),(19,aI t.day),(20,aI ((V:Int) - (k:Int)))]),h:=qf [(0,.cells [.v (.int .u64 t.x)]),(1,.cells U0),(2,.cells [.row 3,.row 5,.row 4,.row 7]),(3,.row 26 1 (s.cs.map qG)),(4,.row 3 1 (s.ss.map ql)),(5,.row 108 1 (rs.map wM)),(6,.row 3 1 (t.till.map ql)),(7,.row 129 6 (t.es.map wz))],n:=8,m:=1 }
def qd:=vz @ty3 (vz @jK (vz @Zv (vz @Yj (vz @Y9 (vz @xI (vz @xW (vz @QL (vz @kD (vz @ti3.eq_1 (vz @jr.eq_1 (vz @Qo.eq_1 (vz @WG.eq_1 (vz @JZ.eq_1 (vz @vO.eq_1 (vz @vD.eq_1 (vz @xS.eq_1 @vR.eq_1))))))))))))))))
def qJ:=vz @aI.eq_1 (vz @aB.eq_1 (vz @aSh.eq_1 (vz @zo.eq_1 (vz @qY.eq_1 (vz @qj.eq_1 (vz @xB.eq_1 (vz @bgH.eq_1 (vz @kE (vz @dIntW (vz @loT.eq_1 (vz @U0.eq_1 (vz @lo1.eq_1 (vz @lo2.eq_1 (vz @lo3.eq_1 (vz @ld1.eq_1 (vz @ld2.eq_1 (vz @ld3.eq_1 (vz @le1.eq_1 (vz @p21.eq_1 (vz @p21.eq_2 (vz @p22.eq_1 (vz @p22.eq_2 (vz @p84.eq_1 (vz @p84.eq_2 (vz @p85.eq_1 (vz @p85.eq_2 (vz @p71.eq_1 (vz @p71.eq_2 (vz @s54.eq_1 (vz @s54.eq_2 (vz @QeX.eq_1 (vz @QeX.eq_2 (vz @QeX.eq_3 (vz @ZG (vz @ql.eq_1 (vz @wM.eq_1 (vz @JA (vz @rSh (vz @YU (vz @kw (vz @YS (@flInt))))))))))))))))))))))))))))))))))))))))))
def UU (x c d e w:Int) (hc:1<=c/\c<=4) (hd:1<=d/\d<=4) (he:0<=e/\e<=6):Fn noB prog 19 [.ptr 0 0,aI c,aI d,aI e,aI w] (qf (bgH x)) (zo (lgL x c d e w)) (qf (bgH (lgS x c d e w))) 0:=by
 have env:=qz (A:=fun _=>True) (kC e21 (kC e22 (kC e23r (kC e84 (kC e85 (kC e71 (kC e54 kN)))))))
 refine Fn.of (A:=fun _=>True) (n0:=1) (D:=noD) (Fn0 func19 rfl (fun vs w=>by kernel_rfl) (by kernel_rfl)) (by simp) (by simp [AV.ids,aI]) ?_ (fun _ _ _ _=>trivial) zt ?_
 ·intro i o hi
  have h:=qB hi
  simp [bgH] at h
  rcases h with ⟨rfl,rfl⟩;simp [AObj.ids,AV.ids,AV.idsL]
 have mc:min c 4=c:=by omega
 have md:min d 4=d:=by omega
 have me:min e 6=e:=by omega
 have big:(100000:Nat)<=maxLen:=by decide
 have hu:=jo (x:=x) (m:=c - 1) (by omega) (by omega)
 obtain ⟨V,hV⟩:∃ V:Nat,1+upV x (c - 1)=(V:Int):=⟨(1+upV x (c - 1)).toNat,by omega⟩
 have hV1:1<=V/\V<=4:=by omega
 have g1:lg1 x c=coK (upS x (c - 1)) V:=by unfold lg1;rw [hV];rfl
 generalize hb:upS x (c - 1)=b at *
 repeat' first|(apply nx;with_reducible constructor)|apply uq (by decide)|((first|apply uz env|apply uj);intro Q hQ;simp only [vkt,Nat.reduceEqDiff,Nat.reduceAdd,Nat.reduceSub,Nat.reduceLeDiff,reduceCtorEq,↓reduceIte,Int.reduceLE,Int.reduceNeg,qd,qJ,mc,hV,hb,ite_and];(repeat' first|with_reducible assumption|apply vz|intro hp);all_goals first|(apply hQ;clear hQ Q)|omega|assumption|with_reducible rfl|(apply ux;kernel_rfl)|skip)
 refine qi (fun k:{ k:Nat // k<=V }=>lo1 c d e w b V k.1) (fun k=>V - k.1) ⟨0,af _⟩ ?_ fun ⟨k,hk⟩=>?_
 ·(refine Le.ok (fun j=>if j=3\/j=4 then none else some j) [] ?_;constructor;all_goals (try simp only [vle,vkt,Nat.reduceEqDiff,Nat.reduceLeDiff,reduceCtorEq,↓reduceIte,qJ]))
  all_goals first|rfl|(simp [coK];done)
 ·repeat' first|(apply nx;with_reducible constructor)|apply uq (by decide)
  (apply uz env;intro Q hQ;simp only [vkt,Nat.reduceEqDiff,reduceCtorEq,qd,qJ,ite_and];(repeat' first|with_reducible assumption|apply vz|intro hp);all_goals first|(apply hQ;clear hQ Q)|omega|assumption|with_reducible rfl|(apply ux;kernel_rfl)|skip)
  repeat' first|(apply nx;with_reducible constructor)|apply uq (by decide)
  (refine zg (by simp only [vkt];rfl) (fun h=>?_) (fun h=>?_) <;> (try simp only [vki] at h))
  ·have hlt:k < V:=by omega
   have ok:=KW b k;have hs:=Qag b k
   generalize coK b k=s at *;have u1:=jo (x:=s.x) (m:=3) (by decide) (by decide)
   unfold R3 at hs;obtain ⟨K,hK⟩:∃ K:Nat,upV s.x 3=(K:Int):=⟨(upV s.x 3).toNat,by omega⟩
   rw [hK,aR] at hs;generalize hy:upS s.x 3=y at *
   repeat' first|(apply nx;with_reducible constructor)|apply uq (by decide)|((first|apply uz env|apply uj);intro Q hQ;simp only [vkt,Nat.reduceEqDiff,Nat.reduceAdd,Nat.reduceMul,Nat.reduceSub,Nat.reduceLeDiff,reduceCtorEq,↓reduceIte,Int.reduceLT,qd,qJ,hK,hy,ite_and];(repeat' first|with_reducible assumption|apply vz|intro hp);all_goals first|(apply hQ;clear hQ Q)|omega|assumption|with_reducible rfl|(apply ux;kernel_rfl)|skip)
   refine qi (fun j:{ j:Nat // j<=K }=>lo2 c d e w s y V k K j.1) (fun j=>K - j.1) ⟨0,af _⟩ ?_ fun ⟨j,hj⟩=>?_
   ·(refine Le.ok some [] ?_;constructor;all_goals (try simp only [vle,vkt,Nat.reduceEqDiff,Nat.reduceLeDiff,reduceCtorEq,↓reduceIte,qJ]))
    all_goals first|rfl|(simp [pcK,ql];done)
   ·repeat' first|(apply nx;with_reducible constructor)|apply uq (by decide)
    (apply uz env;intro Q hQ;simp only [vkt,Nat.reduceEqDiff,reduceCtorEq,qd,qJ,ite_and];(repeat' first|with_reducible assumption|apply vz|intro hp);all_goals first|(apply hQ;clear hQ Q)|omega|assumption|with_reducible rfl|(apply ux;kernel_rfl)|skip)
    repeat' first|(apply nx;with_reducible constructor)|apply uq (by decide)
    (refine zg (by simp only [vkt];rfl) (fun h=>?_) (fun h=>?_) <;> (try simp only [vki] at h))
    ·have hjl:j < K:=by omega
     have pk:=Ry y j;have pl:=pk.len
     have pb:=pk.le j (ag _);have hp1:=pcK_1 y j
     have hp2:=(pcK_2 y j).symm;have q1:=jo (x:=(pcK y j).2) (m:=12 - 1) (by decide) (by decide)
     generalize (pcK y j).1=p at *;generalize (pcK y j).2=z at *
     have e7:IntKind.wrap .i64 ((K:Int) - (j:Int) - 1)=(K:Int) - ((j+1:Nat):Int):=by rw [wrap64 (by omega) (by omega)];omega
     have e8:IntKind.wrap .i64 (((j+1:Nat):Int) - 1)=(j:Int):=by rw [wrap64 (by omega) (by omega)];omega
     have e9:IntKind.wrap .i64 (p.getD j 0+(1+upV z (12 - 1)))=p.getD j 0+(1+upV z (12 - 1)):=wrap64 (by omega) (by omega)
     have e5:j < p.length:=by omega
     have m1:(j+1+1) * 8<=140737488355328/\j+1+1<=maxLen:=by omega
     have e6:=gI0 e5;have e4:p.map ql++[[.v (.int .i64 (p.getD j 0+(1+upV z (12 - 1))))]]=(pcK y (j+1)).1.map ql:=by rw [hp1,ai];rfl
     repeat' first|(apply nx;with_reducible constructor)|apply uq (by decide)|((first|apply uz env|apply uj);intro Q hQ;simp only [vkt,Nat.reduceEqDiff,Nat.reduceAdd,Nat.reduceMul,Nat.reduceSub,Nat.reduceLeDiff,reduceCtorEq,↓reduceIte,Int.reduceLE,Int.reduceNeg,qd,qJ,e7,e8,e6,e9,e4,pl,hp2,ite_and];(repeat' first|with_reducible assumption|apply vz|intro hp);all_goals first|(apply hQ;clear hQ Q)|omega|assumption|with_reducible rfl|(apply ux;kernel_rfl)|skip)
     refine ⟨⟨j+1,hjl⟩,by show K - (j+1) < K - j;omega, ?_⟩
     (refine Le.ok (fun j=>if j=5 then some 7 else some j) [] ?_;constructor;all_goals (try simp only [vle,vkt,Nat.reduceEqDiff,Nat.reduceLeDiff,reduceCtorEq,↓reduceIte,qJ]))
     all_goals first|rfl|simp
    ·have hjk:j=K:=by omega
     subst hjk;have okc:=ok.c
     have okl:=ok.l;have pl:=(Ry y j).len
     generalize hq1:(pcK y j).1=p at *;generalize hq2:(pcK y j).2=z at *
     refine Qb5 (S':=lo3 c d e w s p z V k) ?_ ?_
     ·(refine Le.ok some [5] ?_;constructor;all_goals (try simp only [vle,vkt,Nat.reduceEqDiff,Nat.reduceLeDiff,reduceCtorEq,↓reduceIte,qJ]))
      all_goals first|rfl|(simp [];done)|(rw [hq1];exact ⟨_,_,rfl⟩)|exact ⟨_,_,rfl⟩
     have m1:(k+1) * 24<=140737488355328/\(k+1) * 8<=140737488355328/\k+1<=maxLen:=by omega
     have e7:IntKind.wrap .i64 ((V:Int) - (k:Int) - 1)=(V:Int) - ((k+1:Nat):Int):=by rw [wrap64 (by omega) (by omega)];omega
     have e4:s.cs.map qG++[[.sl (p.map ql)]]=(s.cs++[p]).map qG:=by rw [ai];rfl
     have e5:s.ss.map ql++[[.v (.int .i64 (upV z 200))]]=(s.ss++[upV z 200]).map ql:=by rw [ai];rfl
     repeat' first|(apply nx;with_reducible constructor)|apply uq (by decide)|((first|apply uz env|apply uj);intro Q hQ;simp only [vkt,Nat.reduceEqDiff,Nat.reduceAdd,Nat.reduceMul,Nat.reduceSub,Nat.reduceLeDiff,reduceCtorEq,↓reduceIte,Int.reduceLT,qd,qJ,e7,e4,e5,okc,okl,ite_and];(repeat' first|with_reducible assumption|apply vz|intro hp);all_goals first|(apply hQ;clear hQ Q)|omega|assumption|with_reducible rfl|(apply ux;kernel_rfl)|skip)
     refine ⟨⟨k+1,hlt⟩,by show V - (k+1) < V - k;omega, ?_⟩
     (refine Le.ok (fun j=>if j=3 then some 6 else if j=4 then some 8 else some j) [] ?_;constructor;all_goals (try simp only [vle,vkt,Nat.reduceEqDiff,Nat.reduceLeDiff,reduceCtorEq,↓reduceIte,qJ]))
     all_goals first|rfl|(simp [hs];done)
  ·have hkV:k=V:=by omega
   subst hkV;have ok:=KW b k
   have g2:lg2 x c d=dyK ((lg1 x c).cs.length - 1) (upS (lg1 x c).x (d - 1)) (1+upV (lg1 x c).x (d - 1)).toNat:=rfl;have g3:lg3 x c d e w=enK (lg1 x c).cs.length (lg2 x c d).1 w ⟨0,(lg1 x c).ss,[],upS (lg2 x c d).2 e⟩ (upV (lg2 x c d).2 e).toNat:=rfl
   have gL:lgL x c d e w=⟨(lg1 x c).cs,(lg2 x c d).1,(lg1 x c).ss,(lg3 x c d e w).es⟩:=rfl;have gS:lgS x c d e w=(lg3 x c d e w).x:=rfl
   generalize lg1 x c=co at *;rw [<- g1] at ok ⊢
   clear g1 hb;have okc:=ok.c
   have okl:=ok.l;have hu2:=jo (x:=co.x) (m:=d - 1) (by omega) (by omega)
   obtain ⟨W,hW⟩:∃ W:Nat,1+upV co.x (d - 1)=(W:Int):=⟨(1+upV co.x (d - 1)).toNat,by omega⟩
   have hW1:1<=W/\W<=4:=by omega
   obtain ⟨m,hm⟩:∃ m,m+1=co.cs.length:=⟨co.cs.length - 1,by omega⟩
   have hmC:co.cs.length - 1=m:=by omega
   rw [hW,hmC,aR] at g2;generalize hb2:upS co.x (d - 1)=b2 at *
   repeat' first|(apply nx;with_reducible constructor)|apply uq (by decide)|((first|apply uz env|apply uj);intro Q hQ;simp only [vkt,Nat.reduceEqDiff,Nat.reduceSub,reduceCtorEq,↓reduceIte,Int.reduceLE,Int.reduceNeg,qJ,md,hW,hb2,ite_and];(repeat' first|with_reducible assumption|apply vz|intro hp);all_goals first|(apply hQ;clear hQ Q)|omega|assumption|with_reducible rfl|(apply ux;kernel_rfl)|skip)
   refine qi (fun k:{ k:Nat // k<=W }=>ld1 c d e w co m b2 W k.1) (fun k=>W - k.1) ⟨0,af _⟩ ?_ fun ⟨i,hi⟩=>?_
   ·(refine Le.ok (fun j=>if j=5 then none else some j) [] ?_;constructor;all_goals (try simp only [vle,vkt,Nat.reduceEqDiff,Nat.reduceLeDiff,reduceCtorEq,↓reduceIte,qJ]))
    all_goals first|rfl|(simp [dyK];done)
   ·repeat' first|(apply nx;with_reducible constructor)|apply uq (by decide)
    (apply uz env;intro Q hQ;simp only [vkt,Nat.reduceEqDiff,reduceCtorEq,qd,qJ,ite_and];(repeat' first|with_reducible assumption|apply vz|intro hp);all_goals first|(apply hQ;clear hQ Q)|omega|assumption|with_reducible rfl|(apply ux;kernel_rfl)|skip)
    repeat' first|(apply nx;with_reducible constructor)|apply uq (by decide)
    (refine zg (by simp only [vkt];rfl) (fun h=>?_) (fun h=>?_) <;> (try simp only [vki] at h))
    ·have hlt:i < W:=by omega
     have okd:=Rb m b2 i;have hs1:=dyK_1 m b2 i
     have hs2:=dyK_2 m b2 i;generalize (dyK m b2 i).1=rs at *
     generalize (dyK m b2 i).2=y at *
     repeat' first|(apply nx;with_reducible constructor)|apply uq (by decide)|((first|apply uz env|apply uj);intro Q hQ;simp only [vkt,Nat.reduceEqDiff,Nat.reduceAdd,Nat.reduceMul,Nat.reduceLeDiff,reduceCtorEq,↓reduceIte,qd,ite_and];(repeat' first|with_reducible assumption|apply vz|intro hp);all_goals first|(apply hQ;clear hQ Q)|omega|assumption|with_reducible rfl|(apply ux;kernel_rfl)|skip)
     refine qi (fun j:{ j:Nat // j<=m }=>ld2 c d e w co rs y W i j.1) (fun j=>m - j.1) ⟨0,af _⟩ ?_ fun ⟨j,hj⟩=>?_
     ·(refine Le.ok some [] ?_;constructor;all_goals (try simp only [vle,vkt,Nat.reduceEqDiff,Nat.reduceLeDiff,reduceCtorEq,↓reduceIte,qJ]))
      all_goals first|rfl|(simp [rtK,eSh];done)
     ·repeat' first|(apply nx;with_reducible constructor)|apply uq (by decide)
      (apply uz env;intro Q hQ;simp only [vkt,Nat.reduceEqDiff,Nat.reduceAdd,Nat.reduceLeDiff,reduceCtorEq,qd,qJ,ite_and];(repeat' first|with_reducible assumption|apply vz|intro hp);all_goals first|(apply hQ;clear hQ Q)|omega|assumption|with_reducible rfl|(apply ux;kernel_rfl)|skip)
      repeat' first|(apply nx;with_reducible constructor)|apply uq (by decide)
      (refine zg (by simp only [vkt];rfl) (fun h=>?_) (fun h=>?_) <;> (try simp only [vki] at h))
      ·have hjl:j < m:=by omega
       have pl:=(QaN y j).len;have hp1:=rtK_1 y j
       have hp2:=(rtK_2 y j).symm;generalize (rtK y j).1=r at *
       generalize (rtK y j).2=z at *;have e7:IntKind.wrap .i64 ((j:Int)+1+1)=((j+1:Nat):Int)+1:=by rw [wrap64 (by omega) (by omega)];omega
       have m1:(j+1+1) * 16<=140737488355328/\j+1+1<=maxLen:=by omega
       have e4:r.map eSh++[[.v (.int .i64 (rtV z).num),.v (.int .i64 (rtV z).den)]]=(rtK y (j+1)).1.map eSh:=by rw [hp1,ai];rfl
       repeat' first|(apply nx;with_reducible constructor)|apply uq (by decide)|((first|apply uz env|apply uj);intro Q hQ;simp only [vkt,Nat.reduceEqDiff,Nat.reduceAdd,Nat.reduceMul,Nat.reduceSub,Nat.reduceLeDiff,reduceCtorEq,↓reduceIte,qd,qJ,e7,e4,pl,hp2,ite_and];(repeat' first|with_reducible assumption|apply vz|intro hp);all_goals first|(apply hQ;clear hQ Q)|omega|assumption|with_reducible rfl|(apply ux;kernel_rfl)|skip)
       refine ⟨⟨j+1,hjl⟩,by show m - (j+1) < m - j;omega, ?_⟩
       (refine Le.ok (fun j=>if j=6 then some 8 else some j) [] ?_;constructor;all_goals (try simp only [vle,vkt,Nat.reduceEqDiff,Nat.reduceLeDiff,reduceCtorEq,↓reduceIte,qJ]))
       all_goals first|rfl|simp
      ·have hjm:j=m:=by omega
       subst hjm;generalize hq1:(rtK y j).1=r at *
       generalize hq2:(rtK y j).2=z at *;have okd1:=okd.1
       refine Qb5 (S':=ld3 c d e w co rs r z W i) ?_ ?_
       ·(refine Le.ok some [6] ?_;constructor;all_goals (try simp only [vle,vkt,Nat.reduceEqDiff,Nat.reduceLeDiff,reduceCtorEq,↓reduceIte,qJ]))
        all_goals first|rfl|(simp [];done)|(rw [hq1];exact ⟨_,_,rfl⟩)|exact ⟨_,_,rfl⟩
       have m1:(i+1) * 24<=140737488355328/\i+1<=maxLen:=by omega
       have e7:IntKind.wrap .i64 ((W:Int) - (i:Int) - 1)=(W:Int) - ((i+1:Nat):Int):=by rw [wrap64 (by omega) (by omega)];omega
       have e4:rs.map wM++[[.sl (r.map eSh)]]=(rs++[r]).map wM:=by rw [ai];rfl
       repeat' first|(apply nx;with_reducible constructor)|apply uq (by decide)|((first|apply uz env|apply uj);intro Q hQ;simp only [vkt,Nat.reduceEqDiff,Nat.reduceAdd,Nat.reduceMul,Nat.reduceLeDiff,reduceCtorEq,↓reduceIte,qd,qJ,e7,e4,okd1,ite_and];(repeat' first|with_reducible assumption|apply vz|intro hp);all_goals first|(apply hQ;clear hQ Q)|omega|assumption|with_reducible rfl|(apply ux;kernel_rfl)|skip)
       refine ⟨⟨i+1,hlt⟩,by show W - (i+1) < W - i;omega, ?_⟩
       (refine Le.ok (fun j=>if j=5 then some 7 else some j) [] ?_;constructor;all_goals (try simp only [vle,vkt,Nat.reduceEqDiff,Nat.reduceLeDiff,reduceCtorEq,↓reduceIte,qJ]))
       all_goals first|rfl|(simp [hs1,hs2];done)
    ·have hiW:i=W:=by omega
     subst hiW;have okd:=Rb m b2 i
     generalize lg2 x c d=dy at *;rw [<- g2] at okd ⊢
     clear g2 hb2;obtain ⟨rs,y⟩:=dy
     dsimp only at okd g3 gL ⊢;obtain ⟨okd1,okd2⟩:=okd
     subst okd1;subst okc
     have hrs:RsOk rs co.cs.length:=⟨by omega,fun r hr=>by have:=okd2 r hr;rwa [hm] at this⟩
     have hC:1<=co.cs.length/\co.cs.length<=4:=by omega
     have hu3:=jo (x:=y) (m:=e) (by omega) (by omega)
     obtain ⟨U,hU⟩:∃ U:Nat,upV y e=(U:Int):=⟨(upV y e).toNat,by omega⟩
     rw [hU,aR] at g3;have hU6:U<=6:=by omega
     have m6:co.ss.length<=100000:=by omega
     have m7:e < 9223372036854775807:=by omega
     generalize hy3:upS y e=y3 at *;have hI0:EnI co.cs.length rs.length 0 ⟨0,co.ss,[],y3⟩:=⟨cw _,by show (0:Int)<=_;omega,okl,fun v hv=>by have:=ok.v v hv;omega,ag _⟩
     have hIk:=RV hrs hC (w:=w) hI0;have hE0:enK co.cs.length rs w ⟨0,co.ss,[],y3⟩ 0=⟨0,co.ss,[],y3⟩:=rfl
     have hst:=enK_1 co.cs.length rs w ⟨0,co.ss,[],y3⟩;generalize enK co.cs.length rs w ⟨0,co.ss,[],y3⟩=EK at *
     repeat' first|(apply nx;with_reducible constructor)|apply uq (by decide)|((first|apply uz env|apply uj);intro Q hQ;simp only [vkt,Nat.reduceEqDiff,Nat.reduceAdd,Nat.reduceSub,Nat.reduceLeDiff,reduceCtorEq,↓reduceIte,qd,qJ,me,hU,hy3,ite_and];(repeat' first|with_reducible assumption|apply vz|intro hp);all_goals first|(apply hQ;clear hQ Q)|omega|assumption|with_reducible rfl|(apply ux;kernel_rfl)|skip)
     all_goals first|exact ⟨_,_,rfl⟩|skip
     refine qi (fun k:{ k:Nat // k<=U }=>le1 c d e w co rs (EK k.1) U k.1) (fun k=>U - k.1) ⟨0,af _⟩ ?_ fun ⟨q,hq⟩=>?_
     ·(refine Le.ok (fun j=>if j=7 then none else some j) [] ?_;constructor;all_goals (try simp only [vle,vkt,Nat.reduceEqDiff,Nat.reduceLeDiff,reduceCtorEq,↓reduceIte,qJ]))
      all_goals first|rfl|(simp [hE0];done)
     ·repeat' first|(apply nx;with_reducible constructor)|apply uq (by decide)
      (apply uz env;intro Q hQ;simp only [vkt,Nat.reduceEqDiff,reduceCtorEq,qd,qJ,ite_and];(repeat' first|with_reducible assumption|apply vz|intro hp);all_goals first|(apply hQ;clear hQ Q)|omega|assumption|with_reducible rfl|(apply ux;kernel_rfl)|skip)
      repeat' first|(apply nx;with_reducible constructor)|apply uq (by decide)
      (refine zg (by simp only [vkt];rfl) (fun h=>?_) (fun h=>?_) <;> (try simp only [vki] at h))
      ·have hlt:q < U:=by omega
       have hI:=hIk q;have hJ:=Qb3 hrs hC hI
       have hst:=hst q;generalize EK q=t at *
       unfold Xa enK0 Qbq kinds at hst;unfold Qbq at hJ
       have hDb:=Qb8 hI (by omega)
       obtain ⟨D,hD⟩:∃ D,enD rs.length t=D:=⟨_,rfl⟩;obtain ⟨X1,hX1⟩:∃ X1,enX1 rs.length t=X1:=⟨_,rfl⟩
       rw [hD] at hst hJ;rw [hX1] at hst hJ
       have hD':t.day+upV t.x (min (t.day+1) ((rs.length:Int) - 1) - t.day)=D:=hD;have hX1':upS t.x (min (t.day+1) ((rs.length:Int) - 1) - t.day)=X1:=hX1
       clear hD hX1 hDb;obtain ⟨κ,hκ⟩:∃ κ,Qb6 X1 [1,2,3,3,3,4]=κ:=⟨_,rfl⟩
       obtain ⟨X2,hX2⟩:∃ X2,upS X1 ((6:Nat) - 1)=X2:=⟨_,rfl⟩;rw [hκ,hX2] at hst
       rw [hX2] at hJ;obtain ⟨cn,hcn⟩:∃ cn,upV X2 ((co.cs.length:Int) - 1)=cn:=⟨_,rfl⟩
       obtain ⟨X3,hX3⟩:∃ X3,upS X2 ((co.cs.length:Int) - 1)=X3:=⟨_,rfl⟩;rw [hcn] at hst hJ
       rw [hX3] at hst;have t1:=hI.len
       have t2:=hI.es;have t3:=hI.d0
       have t4:=hI.d1;have j1:=hJ.d0
       have j2:=hJ.d1;have j3:=hJ.c0
       have j4:=hJ.c1;have j5:=hJ.h
       have wD:IntKind.wrap .i64 (t.day+1)=t.day+1:=wrap64 (by omega) (by omega)
       have wR:IntKind.wrap .i64 ((rs.length:Int) - 1)=(rs.length:Int) - 1:=wrap64 (by omega) (by omega)
       have wC:IntKind.wrap .i64 ((co.cs.length:Int) - 1)=(co.cs.length:Int) - 1:=wrap64 (by omega) (by omega)
       have e7:IntKind.wrap .i64 ((U:Int) - (q:Int) - 1)=(U:Int) - ((q+1:Nat):Int):=by rw [wrap64 (by omega) (by omega)];omega
       have m1:(t.es.length+1) * 48<=140737488355328/\t.es.length+1<=maxLen:=by omega
       have lc:cn.toNat < t.till.length:=by omega
       have e6:=gI0 lc;have p1:-100000<=t.day/\t.day<=100000/\-100000<=min (t.day+1) ((rs.length:Int) - 1)/\min (t.day+1) ((rs.length:Int) - 1)<=100000:=by omega
       have p2:(co.cs.length:Int) - 1 < 9223372036854775807:=by omega
       generalize hh:t.till.getD cn.toNat 0=hv at *
       by_cases k1:κ=1
       ·subst k1
        have hst:EK (q+1)=⟨D,t.till.set cn.toNat (hv+upV X3 90),t.es++[⟨D,1,cn,0,upV X3 90,0⟩],upS X3 90⟩:=by rw [hst];unfold LF enS1;rw [if_pos rfl,hh]
        have u1:=jo (x:=X3) (m:=90) (by decide) (by decide)
        have w1:IntKind.wrap .i64 (hv+upV X3 90)=hv+upV X3 90:=wrap64 (by omega) (by omega)
        have e4:t.es.map wz++[[.v (.int .i64 D),.v (.int .i64 1),.v (.int .i64 cn),.v (.int .i64 0),.v (.int .i64 (upV X3 90)),.v (.int .i64 0)]]=(t.es++[(⟨D,1,cn,0,upV X3 90,0⟩:Ent)]).map wz:=by rw [ai];rfl
        repeat' first|(apply nx;with_reducible constructor)|apply uq (by decide)|((first|apply uz env|apply uj);intro Q hQ;simp only [vkt,Nat.reduceEqDiff,Nat.reduceAdd,Nat.reduceMul,Nat.reduceSub,Nat.reduceLeDiff,reduceCtorEq,↓reduceIte,Int.reduceLT,Int.reduceNeg,qd,qJ,wD,wR,wC,hD',hX1',hκ,hX2,hcn,hX3,e6,w1,e4,e7,Rl,ite_and];(repeat' first|with_reducible assumption|apply vz);all_goals first|(apply hQ;clear hQ Q)|omega|with_reducible assumption|rfl|(apply ux;kernel_rfl)|skip)
        all_goals first|exact ⟨_,_,rfl⟩|skip
        refine ⟨⟨q+1,hlt⟩,by show U - (q+1) < U - q;omega, ?_⟩
        (refine Le.ok (fun j=>if j=7 then some 11 else some j) [] ?_;constructor;all_goals (try simp only [vle,vkt,Nat.reduceEqDiff,Nat.reduceLeDiff,reduceCtorEq,↓reduceIte,qJ]))
        all_goals first|rfl|(simp [hst];done)
       by_cases k2:κ=2
       ·subst k2
        have u1:=vZ (x:=X3) (m:=min hv 90) (by omega)
        have hst:EK (q+1)=⟨D,t.till.set cn.toNat (hv - upV X3 (min hv 90)),t.es++[(⟨D,2,cn,0,upV X3 (min hv 90),0⟩:Ent)],upS X3 (min hv 90)⟩:=by rw [hst];unfold LF enS2;rw [if_neg (by decide),if_pos rfl,hh]
        obtain ⟨am,hA⟩:∃ am,upV X3 (min hv 90)=am:=⟨_,rfl⟩;obtain ⟨X4,hX4⟩:∃ X4,upS X3 (min hv 90)=X4:=⟨_,rfl⟩
        rw [hA,hX4] at hst;rw [hA] at u1
        have p3:min hv 90 < 9223372036854775807:=by omega
        have w1:IntKind.wrap .i64 (hv - am)=hv - am:=wrap64 (by omega) (by omega)
        have e4:t.es.map wz++[[.v (.int .i64 D),.v (.int .i64 2),.v (.int .i64 cn),.v (.int .i64 0),.v (.int .i64 am),.v (.int .i64 0)]]=(t.es++[(⟨D,2,cn,0,am,0⟩:Ent)]).map wz:=by rw [ai];rfl
        repeat' first|(apply nx;with_reducible constructor)|apply uq (by decide)|((first|apply uz env|apply uj);intro Q hQ;simp only [vkt,Nat.reduceEqDiff,Nat.reduceAdd,Nat.reduceMul,Nat.reduceSub,Nat.reduceLeDiff,reduceCtorEq,↓reduceIte,Int.reduceEq,Int.reduceNeg,qd,qJ,wD,wR,wC,hD',hX1',hκ,hX2,hcn,hX3,e6,hA,hX4,w1,e4,e7,Rl,ite_and];(repeat' first|with_reducible assumption|apply vz);all_goals first|(apply hQ;clear hQ Q)|omega|with_reducible assumption|rfl|(apply ux;kernel_rfl)|skip)
        all_goals first|exact ⟨_,_,rfl⟩|skip
        refine ⟨⟨q+1,hlt⟩,by show U - (q+1) < U - q;omega, ?_⟩
        (refine Le.ok (fun j=>if j=7 then some 11 else some j) [] ?_;constructor;all_goals (try simp only [vle,vkt,Nat.reduceEqDiff,Nat.reduceLeDiff,reduceCtorEq,↓reduceIte,qJ]))
        all_goals first|rfl|(simp [hst];done)
       by_cases k4:κ=4
       ·subst k4
        have u1:=Rz hv X3;have u2:=vZ (x:=X3) (m:=3 - -3) (by decide)
        have hst:EK (q+1)=⟨D,t.till.set cn.toNat (RU hv X3),t.es++[(⟨D,4,cn,0,RU hv X3,0⟩:Ent)],upS (upS X3 (3 - -3)) ((2:Nat) - 1)⟩:=by rw [hst];unfold LF enS4;rw [if_neg (by decide),if_neg (by decide),if_pos rfl,hh]
        unfold RU enF at hst u1;obtain ⟨f,hf⟩:∃ f,-3+upV X3 (3 - -3)=f:=⟨_,rfl⟩
        obtain ⟨X4,hX4⟩:∃ X4,upS X3 (3 - -3)=X4:=⟨_,rfl⟩;have hf3:-3<=f/\f<=3:=by omega
        rw [hf,hX4] at hst u1;have ho:=La (x:=X4) (l:=[0,f]) (by simp) (by simp)
        obtain ⟨o,hO⟩:∃ o,Qb6 X4 [0,f]=o:=⟨_,rfl⟩;obtain ⟨X5,hX5⟩:∃ X5,upS X4 ((2:Nat) - 1)=X5:=⟨_,rfl⟩
        rw [hO,hX5] at hst;rw [hO] at u1 ho
        have ho:-3<=o/\o<=3:=by simp at ho;omega
        have w1:IntKind.wrap .i64 (hv+o)=hv+o:=wrap64 (by omega) (by omega)
        obtain ⟨am,hA⟩:∃ am,max 0 (min 999 (hv+o))=am:=⟨_,rfl⟩;rw [hA] at hst
        have e4:t.es.map wz++[[.v (.int .i64 D),.v (.int .i64 4),.v (.int .i64 cn),.v (.int .i64 0),.v (.int .i64 am),.v (.int .i64 0)]]=(t.es++[(⟨D,4,cn,0,am,0⟩:Ent)]).map wz:=by rw [ai];rfl
        repeat' first|(apply nx;with_reducible constructor)|apply uq (by decide)|((first|apply uz env|apply uj);intro Q hQ;simp only [vkt,Nat.reduceEqDiff,Nat.reduceAdd,Nat.reduceMul,Nat.reduceSub,Nat.reduceLeDiff,reduceCtorEq,↓reduceIte,Int.reduceLE,Int.reduceEq,Int.reduceNeg,qd,qJ,wD,wR,wC,hD',hX1',hκ,hX2,hcn,hX3,e6,hf,hX4,hO,hX5,w1,hA,e4,e7,Rl,ite_and];(repeat' first|with_reducible assumption|apply vz);all_goals first|(apply hQ;clear hQ Q)|omega|with_reducible assumption|rfl|(apply ux;kernel_rfl)|skip)
        all_goals first|exact ⟨_,_,rfl⟩|skip
        all_goals first|exact ⟨_,_,rfl⟩|skip
        refine ⟨⟨q+1,hlt⟩,by show U - (q+1) < U - q;omega, ?_⟩
        (refine Le.ok (fun j=>if j=7 then some 12 else some j) [] ?_;constructor;all_goals (try simp only [vle,vkt,Nat.reduceEqDiff,Nat.reduceLeDiff,reduceCtorEq,↓reduceIte,qJ]))
        all_goals first|rfl|(simp [hst];done)
       have k3:κ=3:=by
        have:=La (x:=X1) (l:=[1,2,3,3,3,4]) (by simp) (by simp)
        rw [hκ] at this
        simp at this
        omega
       subst k3;unfold LF at hst
       rw [if_neg k1,if_neg k2,if_neg k4] at hst;unfold enS3 at hst
       by_cases cC:co.cs.length=1
       ·rw [if_pos cC] at hst
        have cC':decide ((co.cs.length:Int)=1)=true:=by simp [cC]
        repeat' first|(apply nx;with_reducible constructor)|apply uq (by decide)|((first|apply uz env|apply uj);intro Q hQ;simp only [vkt,Nat.reduceEqDiff,Nat.reduceAdd,Nat.reduceMul,Nat.reduceSub,Nat.reduceLeDiff,reduceCtorEq,↓reduceIte,Int.reduceEq,Int.reduceNeg,qd,qJ,wD,wR,wC,hD',hX1',hκ,hX2,hcn,hX3,cC',e7,ite_and];(repeat' first|with_reducible assumption|apply vz);all_goals first|(apply hQ;clear hQ Q)|omega|with_reducible assumption|rfl|(apply ux;kernel_rfl)|skip)
        all_goals first|exact ⟨_,_,rfl⟩|skip
        refine ⟨⟨q+1,hlt⟩,by show U - (q+1) < U - q;omega, ?_⟩
        (refine Le.ok some [] ?_;constructor;all_goals (try simp only [vle,vkt,Nat.reduceEqDiff,Nat.reduceLeDiff,reduceCtorEq,↓reduceIte,qJ]))
        all_goals first|rfl|(simp [hst];done)
       ·rw [if_neg cC] at hst
        have cC':¬ (co.cs.length:Int)=1:=by omega
        have u1:=jo (x:=X3) (m:=(co.cs.length:Int) - 1 - 1) (by omega) (by omega)
        have wT:IntKind.wrap .i64 (cn+(1+upV X3 ((co.cs.length:Int) - 1 - 1)))=cn+(1+upV X3 ((co.cs.length:Int) - 1 - 1)):=wrap64 (by omega) (by omega)
        have hT2:Zp (cn+(1+upV X3 ((co.cs.length:Int) - 1 - 1))) (co.cs.length:Int)=Vz co.cs.length cn X3:=rfl;have hTb:0<=Vz co.cs.length cn X3/\Vz co.cs.length cn X3 < (co.cs.length:Int):=V3 (by omega)
        obtain ⟨to,hT⟩:∃ to,Zp (cn+(1+upV X3 ((co.cs.length:Int) - 1 - 1))) (co.cs.length:Int)=to:=⟨_,rfl⟩;rw [<- hT2,hT] at hst hTb
        clear hT2;obtain ⟨X4,hX4⟩:∃ X4,upS X3 ((co.cs.length:Int) - 1 - 1)=X4:=⟨_,rfl⟩
        rw [hX4,hh] at hst;have u2:=vZ (x:=X4) (m:=min hv 40) (by omega)
        obtain ⟨am,hA⟩:∃ am,upV X4 (min hv 40)=am:=⟨_,rfl⟩;obtain ⟨X5,hX5⟩:∃ X5,upS X4 (min hv 40)=X5:=⟨_,rfl⟩
        rw [hA,hX5] at hst;rw [hA] at u2
        have am0:0<=am/\am<=40/\am<=hv:=by omega
        have s1:=hrs.sh j1 j2 j3 j4;have s2:=hrs.sh j1 j2 hTb.1 (show to<=(co.cs.length:Int) - 1 by omega)
        have hGb:=K7 s1 s2 am0.1 am0.2.1;have lD:D.toNat < rs.length:=by omega
        have g1:=gRow lD;have lR:=(okd2 _ (jb (l:=rs) (k:=D.toNat) (d:=[]) lD)).len
        have q1:=s1.n;have q2:=s1.d
        have q3:=s2.n;have q4:=s2.d
        obtain ⟨G,hG0⟩:∃ G,Qal rs D cn to am=G:=⟨_,rfl⟩;unfold Qcy at hst
        rw [hG0] at hst hGb;unfold Qal at hG0
        generalize rs.getD D.toNat []=rw at *;obtain ⟨f,hf⟩:∃ f,rw.getD cn.toNat default=f:=⟨_,rfl⟩
        obtain ⟨g,hg⟩:∃ g,rw.getD to.toNat default=g:=⟨_,rfl⟩;rw [hf] at q1 q2 hG0
        rw [hg] at q3 q4 hG0;have lf:cn.toNat < rw.length:=by omega
        have lg:to.toNat < rw.length:=by omega
        have G1:(rw.map eSh).getD cn.toNat [.v (.int .i64 0),.v (.int .i64 0)]=[.v (.int .i64 f.num),.v (.int .i64 f.den)]:=by rw [gSh,hf];rfl
        have G2:(rw.map eSh).getD to.toNat [.v (.int .i64 0),.v (.int .i64 0)]=[.v (.int .i64 g.num),.v (.int .i64 g.den)]:=by rw [gSh,hg];rfl
        have m1':0<=am * f.num/\am * f.num<=800:=⟨dq am0.1 (by omega),bQ (cF am0.2.1 q1.2 (by omega) (by omega)) (by decide)⟩
        have m2':0<=am * f.num * g.den/\am * f.num * g.den<=9600:=⟨dq m1'.1 (by omega),bQ (cF m1'.2 q4.2 (by omega) (by omega)) (by decide)⟩
        have m3':0 < f.den * g.num/\f.den * g.num<=240:=⟨cE (by omega) (by omega),bQ (cF q2.2 q3.2 (by omega) (by omega)) (by decide)⟩
        have wa:IntKind.wrap .i64 (am * f.num)=am * f.num:=wrap64 (by omega) (by omega)
        have wb:IntKind.wrap .i64 (am * f.num * g.den)=am * f.num * g.den:=wrap64 (by omega) (by omega)
        have wc:IntKind.wrap .i64 (f.den * g.num)=f.den * g.num:=wrap64 (by omega) (by omega)
        have nz:¬ f.den * g.num=0:=by omega
        have hG:(am * f.num * g.den).tdiv (f.den * g.num)=G:=hG0;have wd:IntKind.wrap .i64 G=G:=wrap64 (by omega) (by omega)
        have ltl:to.toNat < t.till.length:=by omega
        have g2:=gI0 ltl;have hht0:=hI.b _ (jb (l:=t.till) (k:=to.toNat) (d:=0) ltl)
        obtain ⟨ht,hht⟩:∃ ht,t.till.getD to.toNat 0=ht:=⟨_,rfl⟩;rw [hht] at g2 hht0
        have w0:IntKind.wrap .i64 (hv - am)=hv - am:=wrap64 (by omega) (by omega)
        have p3:min hv 40 < 9223372036854775807:=by omega
        have p4:(co.cs.length:Int)<=1000000:=by omega
        have et:to.toNat < (t.till.set cn.toNat (hv - am)).length:=by rw [dp];exact ltl
        have g3:=gI0 et;obtain ⟨X6,hX6⟩:∃ X6,upS X5 (10 - 1)=X6:=⟨_,rfl⟩
        rw [hX6] at hst
        by_cases c5:upV X5 (10 - 1) < w
        ·rw [if_pos c5] at hst
         have u3:=jo (x:=X6) (m:=3 - 1) (by decide) (by decide)
         obtain ⟨v,hv3⟩:∃ v,1+upV X6 (3 - 1)=v:=⟨_,rfl⟩;obtain ⟨X7,hX7⟩:∃ X7,upS X6 (3 - 1)=X7:=⟨_,rfl⟩
         rw [hv3,hX7] at hst;have wg:IntKind.wrap .i64 (G+v)=G+v:=wrap64 (by omega) (by omega)
         by_cases c6:999 < G+v
         ·have hst:EK (q+1)=⟨D,t.till,t.es,X7⟩:=by rw [hst];unfold WS;rw [if_pos c6]
          repeat' first|(apply nx;with_reducible constructor)|apply uq (by decide)|((first|apply uz env|apply uj);intro Q hQ;simp only [vkt,Nat.reduceEqDiff,Nat.reduceAdd,Nat.reduceMul,Nat.reduceSub,Nat.reduceLeDiff,reduceCtorEq,↓reduceIte,Int.reduceLE,Int.reduceNeg,qd,qJ,wD,wR,wC,hD',hX1',hκ,hX2,hcn,hX3,e6,g1,G1,G2,wT,hT,hX4,hA,hX5,wa,wb,wc,wd,nz,hG,cC',c5,hX6,hv3,hX7,wg,c6,k1,k2,k4,e7,ite_and];(repeat' first|with_reducible assumption|apply vz);all_goals first|(apply hQ;clear hQ Q)|omega|with_reducible assumption|rfl|(apply ux;kernel_rfl)|skip)
          all_goals first|exact ⟨_,_,rfl⟩|skip
          refine ⟨⟨q+1,hlt⟩,by show U - (q+1) < U - q;omega, ?_⟩
          (refine Le.ok some [] ?_;constructor;all_goals (try simp only [vle,vkt,Nat.reduceEqDiff,Nat.reduceLeDiff,reduceCtorEq,↓reduceIte,qJ]))
          all_goals first|rfl|(simp [hst];done)
         ·have hst:EK (q+1)=⟨D,(t.till.set cn.toNat (hv - am)).set to.toNat (ht+(G+v)),t.es++[(⟨D,3,cn,to,am,G+v⟩:Ent)],X7⟩:=by rw [hst];unfold WS;rw [if_neg c6,hh,hht]
          have w1:IntKind.wrap .i64 (ht+(G+v))=ht+(G+v):=wrap64 (by omega) (by omega)
          have e4:t.es.map wz++[[.v (.int .i64 D),.v (.int .i64 3),.v (.int .i64 cn),.v (.int .i64 to),.v (.int .i64 am),.v (.int .i64 (G+v))]]=(t.es++[(⟨D,3,cn,to,am,G+v⟩:Ent)]).map wz:=by rw [ai];rfl
          repeat' first|(apply nx;with_reducible constructor)|apply uq (by decide)|((first|apply uz env|apply uj);intro Q hQ;simp only [vkt,Nat.reduceEqDiff,Nat.reduceAdd,Nat.reduceMul,Nat.reduceSub,Nat.reduceLeDiff,reduceCtorEq,↓reduceIte,Int.reduceLE,Int.reduceNeg,qd,qJ,wD,wR,wC,hD',hX1',hκ,hX2,hcn,hX3,e6,g1,g2,G1,G2,wT,hT,hX4,hA,hX5,wa,wb,wc,wd,nz,hG,cC',c5,hX6,hv3,hX7,wg,c6,k1,k2,k4,e7,et,g3,w0,w1,e4,Rl,ite_and];(repeat' first|with_reducible assumption|apply vz);all_goals first|(apply hQ;clear hQ Q)|omega|with_reducible assumption|rfl|(apply ux;kernel_rfl)|skip)
          all_goals first|exact ⟨_,_,rfl⟩|skip
          refine ⟨⟨q+1,hlt⟩,by show U - (q+1) < U - q;omega, ?_⟩
          (refine Le.ok (fun j=>if j=7 then some 13 else some j) [] ?_;constructor;all_goals (try simp only [vle,vkt,Nat.reduceEqDiff,Nat.reduceLeDiff,reduceCtorEq,↓reduceIte,qJ]))
          all_goals first|rfl|(simp [hst];done)
        ·rw [if_neg c5] at hst
         by_cases c6:999 < G
         ·have hst:EK (q+1)=⟨D,t.till,t.es,X6⟩:=by rw [hst];unfold WS;rw [if_pos c6]
          repeat' first|(apply nx;with_reducible constructor)|apply uq (by decide)|((first|apply uz env|apply uj);intro Q hQ;simp only [vkt,Nat.reduceEqDiff,Nat.reduceAdd,Nat.reduceMul,Nat.reduceSub,Nat.reduceLeDiff,reduceCtorEq,↓reduceIte,Int.reduceLE,Int.reduceNeg,qd,qJ,wD,wR,wC,hD',hX1',hκ,hX2,hcn,hX3,e6,g1,G1,G2,wT,hT,hX4,hA,hX5,wa,wb,wc,wd,nz,hG,cC',c5,hX6,c6,k1,k2,k4,e7,ite_and];(repeat' first|with_reducible assumption|apply vz);all_goals first|(apply hQ;clear hQ Q)|omega|with_reducible assumption|rfl|(apply ux;kernel_rfl)|skip)
          all_goals first|exact ⟨_,_,rfl⟩|skip
          refine ⟨⟨q+1,hlt⟩,by show U - (q+1) < U - q;omega, ?_⟩
          (refine Le.ok some [] ?_;constructor;all_goals (try simp only [vle,vkt,Nat.reduceEqDiff,Nat.reduceLeDiff,reduceCtorEq,↓reduceIte,qJ]))
          all_goals first|rfl|(simp [hst];done)
         ·have hst:EK (q+1)=⟨D,(t.till.set cn.toNat (hv - am)).set to.toNat (ht+G),t.es++[(⟨D,3,cn,to,am,G⟩:Ent)],X6⟩:=by rw [hst];unfold WS;rw [if_neg c6,hh,hht]
          have w1:IntKind.wrap .i64 (ht+(G))=ht+(G):=wrap64 (by omega) (by omega)
          have e4:t.es.map wz++[[.v (.int .i64 D),.v (.int .i64 3),.v (.int .i64 cn),.v (.int .i64 to),.v (.int .i64 am),.v (.int .i64 (G))]]=(t.es++[(⟨D,3,cn,to,am,G⟩:Ent)]).map wz:=by rw [ai];rfl
          repeat' first|(apply nx;with_reducible constructor)|apply uq (by decide)|((first|apply uz env|apply uj);intro Q hQ;simp only [vkt,Nat.reduceEqDiff,Nat.reduceAdd,Nat.reduceMul,Nat.reduceSub,Nat.reduceLeDiff,reduceCtorEq,↓reduceIte,Int.reduceLE,Int.reduceNeg,qd,qJ,wD,wR,wC,hD',hX1',hκ,hX2,hcn,hX3,e6,g1,g2,G1,G2,wT,hT,hX4,hA,hX5,wa,wb,wc,wd,nz,hG,cC',c5,hX6,c6,k1,k2,k4,e7,et,g3,w0,w1,e4,Rl,ite_and];(repeat' first|with_reducible assumption|apply vz);all_goals first|(apply hQ;clear hQ Q)|omega|with_reducible assumption|rfl|(apply ux;kernel_rfl)|skip)
          all_goals first|exact ⟨_,_,rfl⟩|skip
          refine ⟨⟨q+1,hlt⟩,by show U - (q+1) < U - q;omega, ?_⟩
          (refine Le.ok (fun j=>if j=7 then some 13 else some j) [] ?_;constructor;all_goals (try simp only [vle,vkt,Nat.reduceEqDiff,Nat.reduceLeDiff,reduceCtorEq,↓reduceIte,qJ]))
          all_goals first|rfl|(simp [hst];done)
      ·have hqU:q=U:=by omega
       subst hqU;rw [gL,gS,g3]
       repeat' first|(apply nx;with_reducible constructor)|apply uq (by decide)|((first|apply uz env|apply uj);intro Q hQ;simp only [vkt,Nat.reduceEqDiff,Nat.reduceAdd,reduceCtorEq,qd,ite_and];(repeat' first|with_reducible assumption|apply vz);all_goals first|(apply hQ;clear hQ Q)|omega|with_reducible assumption|rfl|(apply ux;kernel_rfl)|skip)
       (simp only [vrt,results19,vkt,Nat.reduceEqDiff,Nat.reduceAdd,reduceCtorEq,qd,qJ];refine Fin.ok some [3,5,4,7] ?_ ?_ ?_ ?_ ?_ rfl;all_goals (try simp only [vle,vkt,Nat.reduceEqDiff,reduceCtorEq,↓reduceIte]))
       all_goals first|rfl|(simp;done)|exact ⟨⟨_,_,rfl⟩,⟨_,_,rfl⟩,⟨_,_,rfl⟩,⟨_,_,rfl⟩⟩|exact ⟨⟨_,_,rfl⟩,⟨_,_,rfl⟩,⟨_,_,rfl⟩,⟨_,_,rfl⟩,trivial⟩
noncomputable def p27 (S:St):List AV->Option Pk
 |[.ptr i 0,.v (.int .i64 c),.v (.int .i64 d),.v (.int .i64 e),.v (.int .i64 w)]=>match S.h i with
  |some (.cells [.v (.int .u64 x)])=>some { pre:=(1<=c/\c<=4)/\(1<=d/\d<=4)/\(0<=e/\e<=6),hs:=[i],ar:=[.ptr 0 0,.v (.int .i64 c),.v (.int .i64 d),.v (.int .i64 e),.v (.int .i64 w)],L0:=[.cells [.v (.int .u64 x)]],v:=zo (lgL x c d e w),L1:=[some (.cells [.v (.int .u64 (lgS x c d e w))])] }
  |_=>none
 |_=>none
def e27 {A:Frm->Prop}:qc A prog 19 (fnE p27):=wB fun S bs q h hp=>by
 unfold p27 at h;split at h
 ·split at h
  ·cases h;exact UU _ _ _ _ _ hp.1 hp.2.1 hp.2.2
  ·cases h
 ·cases h
def Yi {n:Nat} {f:Nat->Int} (h:∀ k,k < n->f k=0):zS (errs n f)=0:=by
 have hall:∀ E:List Int,(∀ e ∈ E,e=0)->zS E=0:=fun E=>by
  induction E with
  |nil=>intro _;rfl
  |cons e E ih=>intro h;rw [zS,if_pos (h e aV)];exact ih fun x hx=>h x (aQ _ hx)
 refine hall _ fun e he=>?_
 obtain ⟨j,hj,rfl⟩:=aj.1 he;exact h j (aF.1 hj)
def JP {n a b:Int} (h1:a<=n) (h2:n<=b):qR n a b=0:=by unfold qR;rw [if_neg (by omega),if_neg (by omega)]
def QfJ {q:List Int} {j:Nat} (h:PcOk q j) (hj:j<=3):Qi q=0:=by
 have hl:=h.len;unfold Qi
 rw [if_neg (by rw [JP (by omega) (by omega)];simp),if_neg (by rw [h.one];simp)]
 refine Yi fun i hi=>?_
 have h1:=h.up i (by omega)
 have h2:=h.le (i+1) (by omega)
 unfold Qw;rw [bR 1 i,if_neg (by omega),if_neg (by omega)]
def QkU {s:Sh} (h:ShOk s):shE s=0:=by
 unfold shE;rw [zy.2 h.n,zy.2 h.d,if_neg (by simp),if_neg (by simp),if_neg (by rw [ne_eq,Decidable.not_not];exact h.r)]
def QdI {r:List Sh} {n:Nat} (h:RwOk r n) (hn:1<=n):yw r n=0:=by
 have hl:=h.len;unfold yw
 rw [if_neg (by simp [hl]),if_neg (by rw [h.one];simp)]
 refine Yi fun i hi=>?_
 exact QkU (h.all _ (jb (by omega)))
structure LgOk (L:Led):Prop where
 c:1<=L.coins.length/\L.coins.length<=4
 p:∀ q ∈ L.coins,∃ j,j<=3/\PcOk q j
 s:L.start.length=L.coins.length
 v:∀ n ∈ L.start,0<=n/\n<=200
 r:RsOk L.rates L.coins.length
 e:L.entries.length<=6
def lg_ok {x c d e w:Int} (hc:1<=c/\c<=4) (hd:1<=d/\d<=4) (he:0<=e/\e<=6):LgOk (lgL x c d e w):=by
 have h1:=jo (x:=x) (m:=c - 1) (by omega) (by omega)
 have ok1:CoOk (lg1 x c) (1+upV x (c - 1)).toNat:=KW _ _;have hl1:=ok1.c
 have h2:=jo (x:=(lg1 x c).x) (m:=d - 1) (by omega) (by omega)
 have ok2:(lg2 x c d).1.length=(1+upV (lg1 x c).x (d - 1)).toNat/\∀ r ∈ (lg2 x c d).1,RwOk r ((lg1 x c).cs.length - 1+1):=Rb _ _ _;rw [show (lg1 x c).cs.length - 1+1=(lg1 x c).cs.length by omega] at ok2
 have hr:RsOk (lg2 x c d).1 (lg1 x c).cs.length:=⟨by have:=ok2.1;omega,ok2.2⟩
 have h3:=jo (x:=(lg2 x c d).2) (m:=e) (by omega) (by omega)
 have hI:EnI (lg1 x c).cs.length (lg2 x c d).1.length 0 ⟨0,(lg1 x c).ss,[],upS (lg2 x c d).2 e⟩:=⟨cw _,by show (0:Int)<=_;have:=hr.len;omega,by rw [ok1.c];exact ok1.l,fun v hv=>by have:=ok1.v v hv;omega,ag _⟩
 have h4:=(RV hr (by omega) (w:=w) hI (upV (lg2 x c d).2 e).toNat).es
 refine ⟨?_,ok1.p, ?_,ok1.v,hr, ?_⟩
 ·show 1<=(lg1 x c).cs.length/\(lg1 x c).cs.length<=4;omega
 ·show (lg1 x c).ss.length=(lg1 x c).cs.length;rw [ok1.c];exact ok1.l
 ·show (lg3 x c d e w).es.length<=6
  unfold lg3;omega
def LgOk.check {L:Led} (h:LgOk L):qO L=jX L:=by
 have c:=h.c;have r:=h.r.len
 have hs:=h.s;unfold qO
 rw [if_neg (by rw [JP (by omega) (by omega)];simp)]
 rw [if_neg (by
  rw [Yi (f:=Rk L) fun k hk=>by
   obtain ⟨j,hj,hp⟩:=h.p _ (jb (l:=L.coins) (k:=k) (d:=[]) hk);exact QfJ hp hj]
  simp)]
 rw [if_neg (by rw [JP (by omega) (by omega)];simp)]
 rw [if_neg (by
  rw [Yi (f:=Ue L) fun k hk=>QdI (h.r.all _ (jb (l:=L.rates) (k:=k) (d:=[]) hk)) c.1]
  simp)]
 rw [if_neg (by simp [hs])]
 rw [if_neg (by
  rw [Yi (f:=kW L) fun k hk=>by
   have:=h.v _ (jb (l:=L.start) (k:=k) (d:=0) hk);unfold kW
   rw [zy.2 (by omega)];rfl]
  simp)]
end Go.Sym.B
namespace Go.Sym.B
open Go Go.Sym Go.Proofs Go.Proofs.Tryz Go.Sym.C Go.RowKit
def QkJ:∀ F,zQ TabC F->zQ Xq F:=fun _ h j own w hj=>(h j own w hj).pow
def pRea (S:St):List AV->Option Pk
 |[.v (.string ⟨⟨t⟩⟩)]=>some { pre:=True,ar:=[.v (.string ⟨⟨t⟩⟩)],v:=.tup [zo (QD t).1,aI (QD t).2.1,aI (QD t).2.2] }
 |_=>none
def eRea:qc (zQ TabC) prog 22 (fnE pRea):=QbW fun S bs q h hp=>by
 unfold pRea at h;split at h
 ·cases h
  exact QiG _
 ·cases h
def QiR:∀ n:_root_.Fin 1000,∀ x ∈ dgN n.1,48<=x.toNat/\x.toNat<=57:=by decide +kernel
def Qkm {n:Nat} (h:n < 1000) {b:UInt8} (hb:b.toNat < 48\/57 < b.toNat):b ∉ dgN n:=fun hm=>by
 have:=QiR ⟨n,h⟩ b hm;omega
def JF (b:UInt8) (r:List UInt8):∀ (x cur:List UInt8),b ∉ x->cuts b cur (x++b :: r)=(cur++x) :: cuts b [] r
 |[],cur,_=>by rw [bc,cuts,if_pos rfl,bf]
 |y :: x,cur,h=>by
  simp only [ae,not_or] at h;rw [cD,cuts,if_neg (Ne.symm h.1),JF b r x _ h.2];simp
def Vu (b:UInt8):∀ (x cur:List UInt8),b ∉ x->cuts b cur x=[cur++x]
 |[],cur,_=>by rw [cuts,bf]
 |y :: x,cur,h=>by
  simp only [ae,not_or] at h;rw [cuts,if_neg (Ne.symm h.1),Vu b x _ h.2];simp
def UR:∀ (l:List (List UInt8)),(∀ x ∈ l,(10:UInt8) ∉ x)->jH (flatL l) 10=l++[[]]
 |[],_=>rfl
 |x :: l,h=>by
  unfold jH;rw [Zh,bU,db,JF 10 _ x [] (h x (.head _))]
  have:=UR l fun y hy=>h y (.tail _ hy)
  unfold jH at this;rw [this];rfl
def Qe (sep x:List UInt8) (l:List (List UInt8)):Lib.joinTail sep (x :: l)=sep++x++Lib.joinTail sep l:=by simp [Lib.joinTail]
def Qgb (b:UInt8):∀ (l:List (List UInt8)) (x:List UInt8),b ∉ x->(∀ y ∈ l,b ∉ y)->jH (x++Lib.joinTail [b] l) b=x :: l
 |[],x,h,_=>by
  unfold jH;rw [show Lib.joinTail [b] []=[] from rfl,bf,Vu b x [] h];rfl
 |y :: l,x,h,hl=>by
  unfold jH;rw [Qe,bU,db,JF b _ x [] h]
  have:=Qgb b l y (hl y (.head _)) fun z hz=>hl z (.tail _ hz)
  unfold jH at this;rw [this];rfl
def Qfw (b:UInt8) {l:List (List UInt8)} (h0:l ≠ []) (hl:∀ y ∈ l,b ∉ y):jH (Lib.join l [b]) b=l:=by
 match l,h0 with
 |x :: l,_=>rw [Lib.join_cons];exact Qgb b l x (hl x (.head _)) fun y hy=>hl y (.tail _ hy)
def Qfd (b:UInt8):∀ (s cur:List UInt8),Lib.join (cuts b cur s) [b]=cur++s
 |[],cur=>by rw [cuts,Lib.join_cons];rfl
 |x :: s,cur=>by
  rw [cuts];split
  ·subst ‹x=b›
   have h:=Qfd x s [];rw [Lib.join_cons]
   have hn:=ZF x s [];cases hc:cuts x [] s with
   |nil=>rw [hc] at hn;exact absurd rfl hn
   |cons y l =>
    rw [hc,Lib.join_cons] at h;rw [Qe,bU,h];simp
  ·rw [Qfd b s (cur++[x])];simp
def VR {s:List UInt8} {b:UInt8} {l:List (List UInt8)} (h:jH s b=l):s=Lib.join l [b]:=by
 have:=Qfd b s [];unfold jH at h
 rw [h] at this;exact this.symm
def Qdo {s:List UInt8} {l:List (List UInt8)} (h:jH s 10=l++[[]]):s=flatL l:=by
 rw [VR h];cases l with
 |nil=>rfl
 |cons x l =>
  rw [<- Kw (by simp)]
  have e:∀ (l:List (List UInt8)),Lib.joinTail [10] (l++[[]])=Lib.joinTail [10] l++[10]:=fun l=>by
   induction l with
   |nil=>rfl
   |cons y l ih=>rw [cD,Qe,Qe,ih];simp
  rw [cD,Lib.join_cons,Lib.join_cons,e];simp
def Qgt {n:Nat} (h:n < 1000):wE (dgN n)=some (n:Int):=(Qbx ⟨n,h⟩).1
def N3 (l:List Int):Prop:=∀ n ∈ l,0<=n/\n < 1000
def dW (n:Int):List UInt8:=dgN n.toNat
def Qcn {n:Int} (h0:0<=n) (h1:n < 1000):dg n=dW n:=by
 have:=Uh (n:=n.toNat) (by omega)
 rw [bZ h0] at this;exact this
def Y5 {n:Int} (h0:0<=n) (h1:n < 1000):wE (dW n)=some n:=by
 have:=Qgt (n:=n.toNat) (by omega)
 rw [bZ h0] at this;exact this
def KC {s:List UInt8} {v:Int} (h:wE s=some v):(0<=v/\v < 1000)/\s=dW v:=by
 obtain ⟨n,rfl,rfl⟩:=X8 h;have:=n.2
 exact ⟨by omega,by unfold dW;rw [aR]⟩
def VL {n:Int} (h:0<=n/\n < 1000) {b:UInt8} (hb:b.toNat < 48\/57 < b.toNat):b ∉ dW n:=Qkm (by omega) hb
def JV:∀ {l:List Int},N3 l->zx (l.map dW)=some l
 |[],_=>rfl
 |n :: l,h=>by
  have h1:=h n (.head _);rw [aw,zx,Y5 h1.1 h1.2,JV fun x hx=>h x (.tail _ hx)]
def ky:∀ {l:List (List UInt8)} {r:List Int},zx l=some r->N3 r/\l=r.map dW
 |[],r,h=>by cases h;exact ⟨(fun n hn=>by cases hn),rfl⟩
 |s :: l,r,h=>by
  rw [zx] at h;split at h
  ·rename_i v q h1 h2
   cases h;obtain ⟨g1,g2⟩:=KC h1
   obtain ⟨g3,g4⟩:=ky h2;refine ⟨fun n hn=>?_,by rw [g2,g4];rfl⟩
   rcases ae.1 hn with rfl|hn
   ·exact g1
   ·exact g3 n hn
  ·cases h
def S3 (s:Sh):Prop:=(0<=s.num/\s.num < 1000)/\0<=s.den/\s.den < 1000
def sW (s:Sh):List UInt8:=dW s.num++[47]++dW s.den
def QjW {s:Sh} (h:S3 s):shP (sW s)=some s:=by
 have e:jH (sW s) 47=[dW s.num,dW s.den]:=by
  unfold jH sW;rw [bU,db,JF 47 _ _ [] (VL h.1 (.inl (by decide))),Vu 47 _ [] (VL h.2 (.inl (by decide)))];rfl
 rw [QgZ];unfold shR
 rw [e,KO,Y5 h.1.1 h.1.2,Y5 h.2.1 h.2.2]
 rfl
def QgP {s:List UInt8} {v:Sh} (h:shP s=some v):S3 v/\s=sW v:=by
 rw [QgZ] at h;unfold shR at h
 split at h
 ·rename_i l hl
  split at h
  ·rename_i h2
   cases h;obtain ⟨g1,g2⟩:=ky hl
   match l,h2 with
   |[a,b],_ =>
    refine ⟨⟨g1 a (.head _),g1 b (.tail _ (.head _))⟩, ?_⟩
    rw [VR g2]
    simp [Lib.join_cons,Lib.joinTail,sW]
  ·cases h
 ·cases h
def L6:∀ {l:List Sh},(∀ s ∈ l,S3 s)->wI (l.map sW)=some l
 |[],_=>rfl
 |n :: l,h=>by
  rw [aw,wI,QjW (h n (.head _)),L6 fun x hx=>h x (.tail _ hx)]
def Vg:∀ {l:List (List UInt8)} {r:List Sh},wI l=some r->(∀ s ∈ r,S3 s)/\l=r.map sW
 |[],r,h=>by cases h;exact ⟨(fun n hn=>by cases hn),rfl⟩
 |s :: l,r,h=>by
  rw [wI] at h;split at h
  ·rename_i v q h1 h2
   cases h;obtain ⟨g1,g2⟩:=QgP h1
   obtain ⟨g3,g4⟩:=Vg h2;refine ⟨fun n hn=>?_,by rw [g2,g4];rfl⟩
   rcases ae.1 hn with rfl|hn
   ·exact g1
   ·exact g3 n hn
  ·cases h
structure EnN (x:Ent):Prop where
 day:0<=x.day/\x.day < 1000
 kind:1<=x.kind/\x.kind<=4
 coin:0<=x.coin/\x.coin < 1000
 amount:0<=x.amount/\x.amount < 1000
 swap:x.kind=3->(0<=x.to/\x.to < 1000)/\0<=x.got/\x.got < 1000
 no:x.kind ≠ 3->x.to=0/\x.got=0
def eW (x:Ent):List (List UInt8):=dW x.day :: kG x.kind :: (YT x).map dW
def KU {x:Ent} (h:EnN x):N3 (YT x):=by
 unfold YT;split
 ·rename_i h3
  have:=h.swap h3;intro n hn
  simp only [ae,aO,or_false] at hn
  rcases hn with rfl|rfl|rfl|rfl
  ·exact h.coin
  ·exact h.amount
  ·exact this.1
  ·exact this.2
 ·intro n hn
  simp only [ae,aO,or_false] at hn
  rcases hn with rfl|rfl
  ·exact h.coin
  ·exact h.amount
def QeN {k:Int} (h:1<=k/\k<=4):kdP (kG k)=k:=by
 have:k=1\/k=2\/k=3\/k=4:=by omega
 rcases this with rfl|rfl|rfl|rfl <;> decide
def Lc {w:List UInt8} (h:kdP w ≠ 0):(1<=kdP w/\kdP w<=4)/\w=kG (kdP w):=by
 have hb:=Qet w 5 (ag _);have hk:∀ j:Nat,j<=4->Jd.getD j []=w->w=kG (kdP w):=fun j hj e=>by
  have h1:=Qj5 hj;rw [e] at h1
  rw [h1,QeA hj,e]
 refine ⟨?_, ?_⟩
 ·unfold kdP at h ⊢
  omega
 ·refine Classical.byContradiction fun hn=>h (Qj6 fun j h1 h2 e=>hn (hk j (by omega) e))
def Qhq {x:Ent} (h:EnN x):Q0 (eW x)=some x:=by
 have hl:¬ (eW x).length < 2:=by unfold eW;simp
 unfold Q0;rw [if_neg hl]
 have e1:(eW x).getD 0 []=dW x.day:=rfl;have e2:(eW x).getD 1 []=kG x.kind:=rfl
 have e3:(eW x).drop 2=(YT x).map dW:=rfl;rw [e1,e2,e3,Y5 h.day.1 h.day.2,JV (KU h),QeN h.kind]
 dsimp only;unfold Qgu YT
 have hk:=h.kind;obtain ⟨d,k,c,t,a,g⟩:=x
 dsimp only at hk ⊢
 by_cases h3:k=3
 ·rw [if_pos h3,if_pos ⟨h3,rfl⟩];rfl
 ·have:=h.no h3
  dsimp only at this;obtain ⟨rfl,rfl⟩:=this
  rw [if_neg h3,if_neg (fun e=>h3 e.1),if_neg (by rintro (e|e|e) <;> first|omega|exact e rfl)]
  rfl
def Qdj {l:List (List UInt8)} {x:Ent} (h:Q0 l=some x):EnN x/\l=eW x:=by
 unfold Q0 at h;split at h
 ·cases h
 rename_i hl;split at h
 ·rename_i d n hd hn
  obtain ⟨g1,g2⟩:=KC hd;obtain ⟨g3,g4⟩:=ky hn
  have hL:l=l.getD 0 [] :: l.getD 1 [] :: l.drop 2:=by
   match l,hl with
   |_ :: _ :: _,_=>rfl
   |[_],hl=>exact absurd (by simp) hl
   |[],hl=>exact absurd (by simp) hl
  generalize l.getD 1 []=w1 at h hL;rw [g2,g4] at hL
  unfold Qgu at h;split at h
  ·rename_i hc
   obtain ⟨h3,h4⟩:=hc;cases h
   have hb:=Lc (w:=w1) (by omega)
   match n,h4 with
   |[a,b,c,e],_ =>
    refine ⟨⟨g1,hb.1,g3 a (by simp),g3 b (by simp),fun _=>⟨g3 c (by simp),g3 e (by simp)⟩,fun e=>absurd h3 e⟩, ?_⟩
    rw [hL];unfold eW YT
    dsimp only;rw [if_pos h3,<- hb.2]
    rfl
  ·split at h
   ·cases h
   ·rename_i hc
    cases h;have h0:kdP w1 ≠ 0:=fun e=>hc (.inl e)
    have h3:kdP w1 ≠ 3:=fun e=>hc (.inr (.inl e))
    have h2:n.length=2:=by
     by_cases e:n.length=2
     ·exact e
     ·exact absurd (.inr (.inr e)) hc
    have hb:=Lc h0
    match n,h2 with
    |[a,b],_ =>
     refine ⟨⟨g1,hb.1,g3 a (by simp),g3 b (by simp),fun e=>absurd e h3,fun _=>⟨rfl,rfl⟩⟩, ?_⟩
     rw [hL];unfold eW YT
     dsimp only;rw [if_neg h3,<- hb.2]
     rfl
 ·cases h
def coW (p:List Int):List (List UInt8):=yY :: p.map dW
def raW (q:List Sh):List (List UInt8):=jP :: q.map sW
def stW (p:List Int):List (List UInt8):=yg :: p.map dW
def YA:Ln->List (List UInt8)
 |.coin n=>coW n
 |.rates r=>raW (r.drop 1)
 |.start n=>stW n
 |.bal=>[Z4]
 |.entry x=>eW x
def lnT (x:Ln):List UInt8:=Lib.join (YA x) [32]
def LnN:Ln->Prop
 |.coin n=>N3 n
 |.rates r=>∃ q,r=⟨1,1⟩ :: q/\∀ s ∈ q,S3 s
 |.start n=>N3 n
 |.bal=>True
 |.entry x=>EnN x
def sW_no {s:Sh} (h:S3 s) {b:UInt8} (hb:b=10\/b=32):b ∉ sW s:=by
 have e1:=VL h.1 (b:=b) (.inl (by rcases hb with rfl|rfl <;> decide))
 have e2:=VL h.2 (b:=b) (.inl (by rcases hb with rfl|rfl <;> decide))
 unfold sW;simp only [au,aM,not_or]
 exact ⟨⟨e1,by rcases hb with rfl|rfl <;> decide⟩,e2⟩
def QfZ {l:List Int} (h:N3 l) {b:UInt8} (hb:b=10\/b=32):∀ y ∈ l.map dW,b ∉ y:=fun y hy=>by
 obtain ⟨n,hn,rfl⟩:=aj.1 hy;exact VL (h n hn) (.inl (by rcases hb with rfl|rfl <;> decide))
def Qfn {k:Int} (h:1<=k/\k<=4) {b:UInt8} (hb:b=10\/b=32):b ∉ kG k:=by
 have:k=1\/k=2\/k=3\/k=4:=by omega
 rcases hb with rfl|rfl <;> rcases this with rfl|rfl|rfl|rfl <;> decide
def QcV {x:Ln} (h:LnN x) {b:UInt8} (hb:b=10\/b=32):∀ y ∈ YA x,b ∉ y:=fun y hy=>by
 cases x with
 |coin n =>
  rcases ae.1 hy with rfl|hy
  ·rcases hb with rfl|rfl <;> decide
  ·exact QfZ h hb y hy
 |rates r =>
  obtain ⟨q,rfl,hq⟩:=h
  rcases ae.1 hy with rfl|hy
  ·rcases hb with rfl|rfl <;> decide
  ·obtain ⟨s,hs,rfl⟩:=aj.1 hy
   exact sW_no (hq s hs) hb
 |start n =>
  rcases ae.1 hy with rfl|hy
  ·rcases hb with rfl|rfl <;> decide
  ·exact QfZ h hb y hy
 |bal =>
  obtain rfl:y=Z4:=by simpa [YA] using hy
  rcases hb with rfl|rfl <;> decide
 |entry x =>
  rcases ae.1 hy with rfl|hy
  ·exact VL h.day (.inl (by rcases hb with rfl|rfl <;> decide))
  ·rcases ae.1 hy with rfl|hy
   ·exact Qfn h.kind hb
   ·exact QfZ (KU h) hb y hy
def QhA (x:Ln):YA x ≠ []:=by cases x <;> simp [YA,coW,raW,stW,eW]
def Qiw {x:Ln} (h:LnN x):jH (lnT x) 32=YA x:=Qfw 32 (QhA x) (QcV h (.inr rfl))
def QhQ {n:Int} (h:0<=n/\n < 1000) {w:List UInt8} (hw:∃ b ∈ w,b.toNat < 48\/57 < b.toNat):dW n ≠ w:=fun e=>by
 obtain ⟨b,hb,hd⟩:=hw;exact VL h hd (e ▸ hb)
def Qe5 {x:Ln} (h:LnN x):Qj (lnT x)=some x:=by
 unfold Qj;rw [K6,Qiw h]
 unfold Yu;cases x with
 |coin n =>
  rw [if_pos (c:=(YA (.coin n)).headD []=yY) rfl];show (zx (n.map dW)).map Ln.coin=_
  rw [JV h];rfl
 |rates r =>
  obtain ⟨q,rfl,hq⟩:=h;rw [if_neg (c:=(YA (.rates (⟨1,1⟩ :: q))).headD []=yY) (by show ¬ jP=yY;decide),if_pos (c:=(YA (.rates (⟨1,1⟩ :: q))).headD []=jP) rfl]
  show (wI (q.map sW)).map (fun r=>Ln.rates (⟨1,1⟩ :: r))=_
  rw [L6 hq];rfl
 |start n =>
  rw [if_neg (c:=(YA (.start n)).headD []=yY) (by show ¬ yg=yY;decide),if_neg (c:=(YA (.start n)).headD []=jP) (by show ¬ yg=jP;decide),if_pos (c:=(YA (.start n)).headD []=yg) rfl]
  show (zx (n.map dW)).map Ln.start=_
  rw [JV h];rfl
 |bal=>rfl
 |entry x =>
  have h1:∀ {w:List UInt8},(∃ b ∈ w,b.toNat < 48\/57 < b.toNat)->¬ (YA (.entry x)).headD []=w:=fun hw=>QhQ h.day hw
  rw [if_neg (h1 ⟨99,by decide,by decide⟩),if_neg (h1 ⟨114,by decide,by decide⟩),if_neg (h1 ⟨115,by decide,by decide⟩),if_neg (h1 ⟨98,by decide,by decide⟩)]
  show (Q0 (eW x)).map Ln.entry=_
  rw [Qhq h];rfl
def Qer {s:List UInt8} {x:Ln} (h:Qj s=some x):LnN x/\s=lnT x:=by
 have hne:(jH s 32).length ≠ 0:=ZF 32 s [];have hbk:s=Lib.join (jH s 32) [32]:=VR rfl
 unfold Qj at h;rw [K6] at h
 generalize jH s 32=L at h hne hbk;subst hbk
 have hL:L=L.headD [] :: L.drop 1:=by
  match L,hne with
  |_ :: _,_=>rfl
 unfold Yu at h;split at h
 ·rename_i h0
  obtain ⟨n,hn,rfl⟩:=aA.1 h;obtain ⟨g1,g2⟩:=ky hn
  refine ⟨g1, ?_⟩
  rw [hL,h0,g2];rfl
 ·split at h
  ·rename_i h0
   obtain ⟨n,hn,rfl⟩:=aA.1 h;obtain ⟨g1,g2⟩:=Vg hn
   refine ⟨⟨n,rfl,g1⟩, ?_⟩
   rw [hL,h0,g2];rfl
  ·split at h
   ·rename_i h0
    obtain ⟨n,hn,rfl⟩:=aA.1 h;obtain ⟨g1,g2⟩:=ky hn
    refine ⟨g1, ?_⟩
    rw [hL,h0,g2];rfl
   ·split at h
    ·rename_i h0
     split at h
     ·rename_i h1
      cases h;refine ⟨trivial, ?_⟩
      match L,h1 with
      |[w],_ =>
       obtain rfl:w=Z4:=h0
       rfl
     ·cases h
    ·obtain ⟨n,hn,rfl⟩:=aA.1 h
     obtain ⟨g1,g2⟩:=Qdj hn;exact ⟨g1,by rw [g2];rfl⟩
def lnW (c:Led) (st:Int):List (List UInt8):=c.coins.map (fun p=>lnT (.coin p))++c.rates.map (fun r=>lnT (.rates r))++(if st < 2 then [] else [lnT (.start c.start)])++c.entries.map (fun x=>lnT (.entry x))++if st=4 then [lnT .bal] else []
structure Num (c:Led):Prop where
 co:∀ p ∈ c.coins,LnN (.coin p)
 ra:∀ r ∈ c.rates,LnN (.rates r)
 st:LnN (.start c.start)
 en:∀ x ∈ c.entries,LnN (.entry x)
def StOk (c:Led) (st:Int):Prop:=St5 st/\(st < 1->c.rates=[])/\(st < 2->c.start=[])/\(st < 3->c.entries=[])
def QcF {st k:Int}:wy st k=true ↔ k < st\/st=4\/(k=2/\st=2)\/(2 < k/\st < 2):=by
 unfold wy;simp only [cL,aZ,decide_eq_true_eq,or_assoc]
def QdC {c:Led} {st:Int} {i:Nat} {s:List UInt8} {p:Led × Int} (h:yZ c st i s=.ok p) (hn:Num c) (hs:StOk c st):Num p.1/\StOk p.1 p.2/\lnW p.1 p.2=lnW c st++[s]:=by
 obtain ⟨h5,z1,z2,z3⟩:=hs;unfold yZ at h
 split at h
 ·cases h
 rename_i x hx;split at h
 ·cases h
 rename_i hb;cases h
 rw [QcF] at hb;obtain ⟨g1,rfl⟩:=Qer hx
 obtain ⟨cs,rs,ss,es⟩:=c;dsimp only at z1 z2 z3
 unfold St5 at h5;cases x with
 |coin n =>
  simp only [qg] at hb;obtain rfl:st=0:=by omega
  obtain rfl:=z1 (by omega)
  obtain rfl:=z2 (by omega)
  obtain rfl:=z3 (by omega)
  refine ⟨⟨fun p hp=>?_,hn.ra,hn.st,hn.en⟩,⟨.inl rfl,fun _=>rfl,fun _=>rfl,fun _=>rfl⟩, ?_⟩
  ·rcases au.1 hp with hp|hp
   ·exact hn.co p hp
   ·rw [aM.1 hp];exact g1
  ·simp [lnW,q8,qg]
 |rates r =>
  simp only [qg] at hb;have h1:st < 2:=by omega
  obtain rfl:=z2 h1;obtain rfl:=z3 (by omega)
  refine ⟨⟨hn.co,fun p hp=>?_,hn.st,hn.en⟩,⟨.inr (.inl rfl),fun e=>absurd e (by simp only [qg];omega),fun _=>rfl,fun _=>rfl⟩, ?_⟩
  ·rcases au.1 hp with hp|hp
   ·exact hn.ra p hp
   ·rw [aM.1 hp];exact g1
  ·have h4:¬ st=4:=by omega
   simp [lnW,q8,qg,h1,h4]
 |start n =>
  simp only [qg] at hb;have h1:st < 2:=by simp only [true_and] at hb;omega
  obtain rfl:=z3 (by omega)
  refine ⟨⟨hn.co,hn.ra,g1,hn.en⟩,⟨.inr (.inr (.inl rfl)),fun e=>absurd e (by simp only [qg];omega),fun e=>absurd e (by simp only [qg];omega),fun _=>rfl⟩, ?_⟩
  have h4:¬ st=4:=by omega
  simp [lnW,q8,qg,h1,h4]
 |entry x =>
  simp only [qg] at hb;have h1:¬ st < 2:=by omega
  have h4:¬ st=4:=by omega
  refine ⟨⟨hn.co,hn.ra,hn.st,fun p hp=>?_⟩,⟨.inr (.inr (.inr (.inl rfl))),fun e=>absurd e (by simp only [qg];omega),fun e=>absurd e (by simp only [qg];omega),fun e=>absurd e (by simp only [qg];omega)⟩, ?_⟩
  ·rcases au.1 hp with hp|hp
   ·exact hn.en p hp
   ·rw [aM.1 hp];exact g1
  ·simp [lnW,q8,qg,h1,h4]
 |bal =>
  simp only [qg] at hb;have h1:¬ st < 2:=by omega
  have h4:¬ st=4:=by omega
  refine ⟨hn,⟨.inr (.inr (.inr (.inr rfl))),fun e=>absurd e (by simp only [qg];omega),fun e=>absurd e (by simp only [qg];omega),fun e=>absurd e (by simp only [qg];omega)⟩, ?_⟩
  simp [lnW,q8,qg,h1,h4]
def go_back:∀ (l:List (List UInt8)) (c:Led) (st:Int) (i:Nat) {p:Led × Int},Num c->StOk c st->qX c st i l=.ok p->Num p.1/\StOk p.1 p.2/\lnW p.1 p.2=lnW c st++l
 |[],c,st,i,p,hn,hs,h=>by
  rw [qX] at h;cases h
  exact ⟨hn,hs,by simp⟩
 |s :: l,c,st,i,p,hn,hs,h=>by
  rw [qX] at h;cases hr:yZ c st i s with
  |error n=>rw [hr] at h;cases h
  |ok q =>
   rw [hr] at h;obtain ⟨g1,g2,g3⟩:=QdC hr hn hs
   obtain ⟨k1,k2,k3⟩:=go_back l q.1 q.2 (i+1) g1 g2 h;exact ⟨k1,k2,by rw [k3,g3];simp⟩
def ZE (c:Led) {st:Int} (i:Nat) {x:Ln} (h:LnN x) (hb:¬ (qg x < st\/st=4\/(qg x=2/\st=2)\/(2 < qg x/\st < 2))):yZ c st i (lnT x)=.ok (q8 c x,qg x):=by
 unfold yZ;rw [Qe5 h]
 dsimp only;rw [if_neg (by rw [QcF];exact hb)]
def Qgs (q:List (List Int)):∀ (l:List (List Int)) (i:Nat),(∀ p ∈ l,LnN (.coin p))->qX ⟨q,[],[],[]⟩ 0 i (l.map fun p=>lnT (.coin p))=.ok (⟨q++l,[],[],[]⟩,0):=fun l=>by
 induction l generalizing q with
 |nil=>intro i _;rw [bf];rfl
 |cons x l ih =>
  intro i h;rw [aw,qX,ZE _ i (h x (.head _)) (by simp [qg])]
  show qX ⟨q++[x],[],[],[]⟩ 0 (i+1) _=_
  rw [ih (q++[x]) (i+1) fun y hy=>h y (.tail _ hy)]
  simp
def Qg0 (cs:List (List Int)) (q:List (List Sh)):∀ (l:List (List Sh)) (st:Int) (i:Nat),(st=0\/st=1)->(∀ r ∈ l,LnN (.rates r))->∃ st',(st'=0\/st'=1)/\qX ⟨cs,q,[],[]⟩ st i (l.map fun r=>lnT (.rates r))=.ok (⟨cs,q++l,[],[]⟩,st'):=fun l=>by
 induction l generalizing q with
 |nil=>intro st i hs _;exact ⟨st,hs,by rw [bf];rfl⟩
 |cons x l ih =>
  intro st i hs h;obtain ⟨st',h1,h2⟩:=ih (q++[x]) 1 (i+1) (.inr rfl) fun y hy=>h y (.tail _ hy)
  refine ⟨st',h1, ?_⟩
  rw [aw,qX,ZE _ i (h x (.head _)) (by simp only [qg];omega)]
  show qX ⟨cs,q++[x],[],[]⟩ 1 (i+1) _=_
  rw [h2];simp
def Qcc (cs:List (List Int)) (rs:List (List Sh)) (ss:List Int) (q:List Ent):∀ (l:List Ent) (st:Int) (i:Nat),(st=2\/st=3)->(∀ r ∈ l,LnN (.entry r))->∃ st',(st'=2\/st'=3)/\qX ⟨cs,rs,ss,q⟩ st i (l.map fun r=>lnT (.entry r))=.ok (⟨cs,rs,ss,q++l⟩,st'):=fun l=>by
 induction l generalizing q with
 |nil=>intro st i hs _;exact ⟨st,hs,by rw [bf];rfl⟩
 |cons x l ih =>
  intro st i hs h;obtain ⟨st',h1,h2⟩:=ih (q++[x]) 3 (i+1) (.inr rfl) fun y hy=>h y (.tail _ hy)
  refine ⟨st',h1, ?_⟩
  rw [aw,qX,ZE _ i (h x (.head _)) (by simp only [qg];omega)]
  show qX ⟨cs,rs,ss,q++[x]⟩ 3 (i+1) _=_
  rw [h2];simp
def Qkw {c:Led} (hn:Num c):qX vk 0 0 (lnW c 4)=.ok (c,4):=by
 unfold lnW;rw [if_neg (by decide),if_pos rfl,yS,yS,yS,yS]
 have e1:=Qgs [] c.coins 0 hn.co;rw [bc] at e1
 rw [show vk=⟨[],[],[],[]⟩ from rfl,e1]
 dsimp only;obtain ⟨st1,h1,e2⟩:=Qg0 c.coins [] c.rates 0 (0+(List.map (fun p=>lnT (.coin p)) c.coins).length) (.inl rfl) hn.ra
 rw [bc] at e2;rw [e2]
 dsimp only;rw [qX,ZE _ _ hn.st (by simp only [qg];omega)]
 dsimp only;rw [qX]
 dsimp only;obtain ⟨st2,h2,e3⟩:=Qcc c.coins c.rates c.start [] c.entries 2 (0+(List.map (fun p=>lnT (.coin p)) c.coins++List.map (fun r=>lnT (.rates r)) c.rates++[lnT (.start c.start)]).length) (.inl rfl) hn.en
 rw [bc] at e3;rw [show q8 ⟨c.coins,c.rates,[],[]⟩ (.start c.start)=⟨c.coins,c.rates,c.start,[]⟩ from rfl,show qg (.start c.start)=2 from rfl,e3]
 dsimp only;rw [qX,ZE _ _ (x:=.bal) trivial (by simp only [qg];omega)]
 rfl
def Vf (w:List UInt8) {l:List Int} (h:N3 l):jnd w l=Lib.join (w :: l.map dW) [32]:=by
 rw [Lib.join_cons];unfold jnd
 congr 1
 induction l with
 |nil=>rfl
 |cons n l ih =>
  rw [aw,Qe,cM,ih fun x hx=>h x (.tail _ hx),Qcn (h n (.head _)).1 (h n (.head _)).2]
  simp
def QaQ {l:List Sh} (h:∀ s ∈ l,S3 s):xQ l=Lib.join (raW l) [32]:=by
 unfold raW;rw [Lib.join_cons]
 unfold xQ
 congr 1
 induction l with
 |nil=>rfl
 |cons s l ih =>
  have h1:=h s (.head _);rw [aw,Qe,cM,ih fun x hx=>h x (.tail _ hx),Qcn h1.1.1 h1.1.2,Qcn h1.2.1 h1.2.2]
  simp [sW]
def QdZ {x:Ent} (h:EnN x):Yw x=Lib.join (eW x) [32]:=by
 rw [Qav,Vf _ (KU h),Qcn h.day.1 h.day.2];unfold eW
 rw [Lib.join_cons,Lib.join_cons,Qe];simp
def QaV {c:Led} (h:qO c=0):Num c:=by
 have hv:=Qv h;have ht:=QcM hv
 refine ⟨fun p hp=>(ht.cs p hp).2,fun r hr=>?_,ht.s.2,fun x hx=>?_⟩
 ·obtain ⟨k,hk,rfl⟩:=bB hr
  have h1:=hv.rs k hk;rw [show c.rates.getD k []=c.rates[k] by simp [ah,hk]] at h1
  obtain ⟨⟨hl,_⟩,hs⟩:=ht.rs _ hr;have h0:(c.rates[k]).getD 0 default=⟨1,1⟩:=by
   unfold yw at h1;split at h1
   ·exact absurd h1 (by decide)
   ·split at h1
    ·exact absurd h1 (by decide)
    ·rename_i hh;exact Decidable.not_not.1 hh
  generalize c.rates[k]=r at hl hs h0
  match r,hl with
  |a :: q,_ =>
   obtain rfl:a=⟨1,1⟩:=h0;exact ⟨q,rfl,fun s hs'=>hs s (.tail _ hs')⟩
 ·have h1:=ht.es x hx
  obtain ⟨g1,g2,g3,g4,g5⟩:=h1;obtain ⟨k,hk,rfl⟩:=bB hx
  have h2:=hv.es k hk;rw [U7] at h2
  have h3:=(QE (show jN _ _ _=0 from by
   unfold eV at h2;split at h2
   ·rename_i hh;exact absurd h2 hh
   ·rename_i hh;exact Decidable.not_not.1 hh)).no
  rw [show c.entries.getD k default=c.entries[k] by simp [ah,hk]] at h3
  exact ⟨g2,g1,g3,g4,g5,h3⟩
def QgN {c:Led} (h:qO c=0):Qc c c.entries.length++[[98,97,108,97,110,99,101]]=lnW c 4:=by
 have hn:=QaV h;unfold lnW Qc ZC WH
 rw [if_neg (by decide),if_pos rfl,bx,bx,bx]
 have e1:c.coins.map (jnd [99,111,105,110])=c.coins.map fun p=>lnT (.coin p):=bP fun x hx=>Vf _ (hn.co x hx)
 have e2:(c.rates.map fun r=>xQ (r.drop 1))=c.rates.map fun r=>lnT (.rates r):=bP fun r hr=>by
  obtain ⟨q,rfl,hq⟩:=hn.ra r hr;exact QaQ hq
 have e3:jnd [115,116,97,114,116] c.start=lnT (.start c.start):=Vf _ hn.st;have e4:c.entries.map Yw=c.entries.map fun x=>lnT (.entry x):=bP fun x hx=>QdZ (hn.en x hx)
 rw [e1,e2,e3,e4]
 rfl
def Y1 {c:Led} (h:qO c=0):vV c=(flatL (lnW c 4),0):=by
 unfold vV;rw [if_pos h,QgN h,Kw (by rw [<- QgN h];simp)]
def Qic {b:UInt8} (hb:b ≠ 32):∀ {l:List (List UInt8)},(∀ y ∈ l,b ∉ y)->b ∉ Lib.join l [32]
 |[],_=>by simp [Lib.join_nil]
 |x :: l,h=>by
  rw [Lib.join_cons];have hj:∀ l:List (List UInt8),(∀ y ∈ l,b ∉ y)->b ∉ Lib.joinTail [32] l:=fun l=>by
   induction l with
   |nil=>intro _;simp [Lib.joinTail]
   |cons y l ih =>
    intro h;rw [Qe]
    simp only [au,aM,not_or];exact ⟨⟨hb,h y (.head _)⟩,ih fun z hz=>h z (.tail _ hz)⟩
  simp only [au,not_or];exact ⟨h x (.head _),hj l fun y hy=>h y (.tail _ hy)⟩
def Qkh {c:Led} (hn:Num c):∀ x ∈ lnW c 4,(10:UInt8) ∉ x:=fun x hx=>by
 have key:∀ {y:Ln},LnN y->(10:UInt8) ∉ lnT y:=fun h=>Qic (by decide) (QcV h (.inl rfl))
 unfold lnW at hx;rw [if_neg (by decide),if_pos rfl] at hx
 simp only [au,aM,aj] at hx
 rcases hx with (((⟨y,hy,rfl⟩|⟨y,hy,rfl⟩)|rfl)|⟨y,hy,rfl⟩)|rfl
 ·exact key (hn.co y hy)
 ·exact key (hn.ra y hy)
 ·exact key hn.st
 ·exact key (hn.en y hy)
 ·exact key (y:=.bal) trivial
def Qem {c:Led} (h:qO c=0):(vV c).1.length<=400:=by
 have hv:=QcM (Qv h);rw [Y1 h]
 dsimp only;rw [<- QgN h]
 have fa:∀ a b:List (List UInt8),flatL (a++b)=flatL a++flatL b:=fun a b=>by simp [flatL]
 unfold Qc ZC WH;rw [bx,bx,bx,fa,fa,fa,fa]
 have g1:=QC (l:=c.coins.map (jnd [99,111,105,110])) 20 fun x hx=>by
  obtain ⟨p,hp,rfl⟩:=aj.1 hx;obtain ⟨k1,k2⟩:=hv.cs p hp
  have:=xh [99,111,105,110] p k2
  simp at this ⊢;omega
 have g2:=QC (l:=c.rates.map fun r=>xQ (r.drop 1)) 29 fun x hx=>by
  obtain ⟨r,hr,rfl⟩:=aj.1 hx;obtain ⟨k1,k2⟩:=hv.rs r hr
  have:=Yk (r.drop 1) fun s hs=>k2 s (aW hs)
  simp at this ⊢;omega
 have g3:=QC (l:=[jnd [115,116,97,114,116] c.start]) 21 fun x hx=>by
  obtain rfl:x=_:=aM.1 hx;have:=xh [115,116,97,114,116] c.start hv.s.2
  have:=hv.s.1
  simp at *;omega
 have g4:=QC (l:=c.entries.map Yw) 25 fun x hx=>by
  obtain ⟨y,hy,rfl⟩:=aj.1 hx;obtain ⟨k0,k1,k2,k3,k4⟩:=hv.es y hy
  have a1:=QY k1.1 k1.2;have a2:=KF y.kind
  rw [Qav];have a3:=xh (kG y.kind) (YT y) (KU ⟨k1,k0,k2,k3,k4,fun e=>(QaV h).en y hy |>.no e⟩)
  have a4:(YT y).length<=4:=by unfold YT;split <;> simp
  simp;omega
 have g5:(flatL [[98,97,108,97,110,99,101]]).length=8:=rfl;have m1:=hv.c
 have m2:=hv.r;have m3:=hv.e
 simp only [ab,List.length_singleton] at g1 g2 g3 g4;simp only [aD]
 omega
def Qce {c:Led} (h:qO c=0):QD (vV c).1=(c,0,0):=by
 have hn:=QaV h;rw [XH _ (Qem h),Y1 h]
 dsimp only;rw [UR _ (Qkh hn)]
 have e1:(lnW c 4++[[]]).length - 1=(lnW c 4).length:=by simp
 rw [e1,List.take_left',Qkw hn];dsimp only
 rw [if_pos ⟨rfl,by simp⟩,if_pos h]
 rfl
def QbK {t:List UInt8} {c:Led} {n:Int} (h:QD t=(c,n,0)):vV c=(t,0)/\qO c=0:=by
 by_cases hl:t.length<=400
 ·rw [XH t hl] at h
  cases hg:qX vk 0 0 ((jH t 10).take ((jH t 10).length - 1)) with
  |error m=>rw [hg] at h;simp at h
  |ok p =>
   rw [hg] at h;dsimp only at h
   split at h
   ·rename_i he
    split at h
    ·rename_i hc
     cases h;obtain ⟨q1,q2⟩:=he
     obtain ⟨_,_,g3⟩:=go_back _ vk 0 0 ⟨by simp [vk],by simp [vk],by simp [vk,LnN,N3],by simp [vk]⟩ ⟨.inl rfl,fun _=>rfl,fun _=>rfl,fun _=>rfl⟩ hg
     have e0:lnW vk 0=[]:=rfl;rw [e0,bc,q1] at g3
     have hL0:=ZF 10 t [];have e1:jH t 10=lnW p.1 4++[[]]:=by
      rw [g3];unfold jH at q2 ⊢
      generalize cuts 10 [] t=L at q2 hL0;have:L=L.take (L.length - 1)++[L.getD (L.length - 1) []]:=by
       have h2:L.length - 1 < L.length:=by omega
       have h3:=List.take_append_getElem h2;rw [show L.length - 1+1=L.length by omega,bx] at h3
       rw [show L.getD (L.length - 1) []=L[L.length - 1] by simp [ah,h2]]
       exact h3.symm
      rw [q2] at this;exact this
     exact ⟨by rw [Y1 hc,Qdo e1],hc⟩
    ·rename_i hc
     simp only [Prod.mk.injEq] at h;exact absurd h.2.2 hc
   ·simp at h
 ·unfold QD at h
  rw [if_pos (by omega)] at h
  simp at h
end Go.Sym.B
namespace Go.Sym.B
open Go Go.Sym Go.Proofs Go.Proofs.Tryz Go.Sym.C
def QeD {f g n:Int} (hf:0<=f) (hg:1<=g) (hg2:g<=n - 1):Zp (f+g) n ≠ f:=by
 intro h;unfold Zp at h
 rw [if_neg (by omega),bX (show 0<=f+g by omega)] at h
 have e1:=dn (f+g) n;have e2:=cG (f+g) (show n ≠ 0 by omega)
 rw [bX (by omega)] at h
 have e3:=dn ((f+g) % n+n) n;rw [h] at e3
 have e4:g=n * ((f+g) / n+((f+g) % n+n) / n - 1):=by rw [cH,Int.mul_add];omega
 generalize (f+g) / n+((f+g) % n+n) / n - 1=k at e4
 rcases Int.lt_or_le 0 k with hk|hk
 ·have:=dB (show 1<=k by omega) (show 0<=n by omega);omega
 ·have:=dB hk (show 0<=n by omega);omega
def stE (ss:List Int) (es:List Ent):Int × List Int:=es.foldl (fun s x=>(x.day,jF s.2 x)) (0,ss)
def Uo (ss:List Int) (es:List Ent) (x:Ent):stE ss (es++[x])=(x.day,jF (stE ss es).2 x):=by unfold stE;rw [List.foldl_append];rfl
def stK_E (l:Led) (k:Nat):stK l k=stE l.start (l.entries.take k):=rfl
def VE (l:Led):Prop:=∀ j,j < l.entries.length->eV l (l.entries.getD j default) (stE l.start (l.entries.take j)).1 (stE l.start (l.entries.take j)).2=0
def VE.snoc {cs:List (List Int)} {rs:List (List Sh)} {ss:List Int} {es:List Ent} {x:Ent} (h:VE ⟨cs,rs,ss,es⟩) (hx:eV ⟨cs,rs,ss,[]⟩ x (stE ss es).1 (stE ss es).2=0):VE ⟨cs,rs,ss,es++[x]⟩:=fun j hj=>by
 have hj:j < es.length+1:=by simpa using hj
 show eV _ ((es++[x]).getD j default) (stE ss ((es++[x]).take j)).1 (stE ss ((es++[x]).take j)).2=0
 rcases bz (bY hj) with h1|h1
 ·rw [yU h1,List.take_append_of_le_length (by omega)]
  exact h j h1
 ·subst h1
  rw [Ji rfl,List.take_left];exact hx
def QcN {l:Led} {x:Ent} {b:Int} {has:List Int} (h1:0<=x.day/\x.day<=(l.rates.length:Int) - 1) (h2:b<=x.day) (h3:1<=x.kind/\x.kind<=4) (h4:0<=x.coin/\x.coin<=(l.coins.length:Int) - 1)
  (h5:x.kind=3->(0<=x.to/\x.to<=(l.coins.length:Int) - 1)/\x.to ≠ x.coin/\0<=x.got/\x.got<=999) (h6:x.kind ≠ 3->x.to=0/\x.got=0) (h7:0<=x.amount/\x.amount<=999)
  (h8:x.kind=2\/x.kind=3->x.amount<=has.getD x.coin.toNat 0):eV l x b has=0:=by
 have hE:jN l x b=0:=by
  unfold jN;rw [zy.2 h1,zy.2 h3,zy.2 h4,zy.2 h7,if_neg (by simp),if_neg (by omega),if_neg (by simp),if_neg (by simp)]
  by_cases hk:x.kind=3
  ·obtain ⟨a1,a2,a3⟩:=h5 hk
   rw [zy.2 a1,zy.2 a3,if_neg (by simp),if_neg (fun h=>a2 h.2),if_neg (by simp),if_neg (fun h=>h.1 hk),if_neg (by simp)]
  ·obtain ⟨a1,a2⟩:=h6 hk
   rw [if_neg (fun h=>hk h.1),if_neg (fun h=>hk h.1),if_neg (fun h=>hk h.1),if_neg (fun h=>by rcases h.2 with h|h <;> contradiction),if_neg (by simp)]
 unfold eV;rw [if_neg (by rw [hE];simp),if_neg (fun h=>by have:=h8 h.1;omega)]
structure EnV (cs:List (List Int)) (rs:List (List Sh)) (ss:List Int) (s:EnS):Prop where
 v:VE ⟨cs,rs,ss,s.es⟩
 t:(stE ss s.es).2=s.till
 d:(stE ss s.es).1<=s.day
def EnV.add {cs:List (List Int)} {rs:List (List Sh)} {ss:List Int} {s:EnS} (h:EnV cs rs ss s) {x:Ent} {y:Int} {till:List Int} (hx:eV ⟨cs,rs,ss,[]⟩ x (stE ss s.es).1 s.till=0) (ht:jF s.till x=till):EnV cs rs ss ⟨x.day,till,s.es++[x],y⟩ :=
 ⟨h.v.snoc (by rw [h.t];exact hx),by show (stE ss (s.es++[x])).2=till;rw [Uo,h.t];exact ht,by show (stE ss (s.es++[x])).1<=x.day;rw [Uo];exact cw _⟩
def EnV.skip {cs:List (List Int)} {rs:List (List Sh)} {ss:List Int} {s:EnS} (h:EnV cs rs ss s) {d x:Int} (hd:s.day<=d):EnV cs rs ss ⟨d,s.till,s.es,x⟩ :=
 ⟨h.v,h.t,bQ h.d hd⟩
def QgD {cs:List (List Int)} {rs:List (List Sh)} {ss:List Int} (hr:RsOk rs cs.length) (hC:1<=cs.length/\cs.length<=4) {w:Int} {s:EnS} {k:Nat} (hI:EnI cs.length rs.length k s) (h:EnV cs rs ss s):EnV cs rs ss (Xa cs.length rs w s):=by
 have hJ:=Qb3 hr hC hI;have hD:=(Qb8 hI (by have:=hr.len;omega)).1
 unfold Xa;generalize enD rs.length s=D at *
 generalize Qbq rs.length s=X2 at *;generalize upS X2 ((cs.length:Int) - 1)=x
 generalize upV X2 ((cs.length:Int) - 1)=cn at *;generalize enK0 rs.length s=κ
 have hh:=hJ.h;have hd:=h.d
 have j1:=hJ.d0;have j2:=hJ.d1
 have j3:=hJ.c0;have j4:=hJ.c1
 unfold LF;split
 ·unfold enS1
  have u:=jo (x:=x) (m:=90) (by decide) (by decide)
  refine h.add (x:=⟨D,1,cn,0,upV x 90,0⟩) (QcN ⟨j1,j2⟩ (bQ hd hD) (show (1:Int)<=1/\(1:Int)<=4 by decide) ⟨j3,j4⟩ (fun h=>absurd (show (1:Int)=3 from h) (by decide)) (fun _=>⟨rfl,rfl⟩) ⟨u.1,by show upV x 90<=999;omega⟩ (fun h=>absurd (show (1:Int)=2\/(1:Int)=3 from h) (by decide))) ?_
  rfl
 split
 ·unfold enS2
  have u:=jo (x:=x) (m:=min (s.till.getD cn.toNat 0) 90) (by omega) (by omega)
  generalize upV x (min (s.till.getD cn.toNat 0) 90)=am at *;refine h.add (x:=⟨D,2,cn,0,am,0⟩) (QcN ⟨j1,j2⟩ (bQ hd hD) (show (1:Int)<=2/\(2:Int)<=4 by decide) ⟨j3,j4⟩ (fun h=>absurd (show (2:Int)=3 from h) (by decide)) (fun _=>⟨rfl,rfl⟩) ⟨u.1,by show am<=999;omega⟩ (fun _=>by show am<=s.till.getD cn.toNat 0;omega)) ?_
  rfl
 split
 ·unfold enS4
  have u:=Rz (s.till.getD cn.toNat 0) x;generalize RU (s.till.getD cn.toNat 0) x=am at *
  refine h.add (x:=⟨D,4,cn,0,am,0⟩) (QcN ⟨j1,j2⟩ (bQ hd hD) (show (1:Int)<=4/\(4:Int)<=4 by decide) ⟨j3,j4⟩ (fun h=>absurd (show (4:Int)=3 from h) (by decide)) (fun _=>⟨rfl,rfl⟩) u (fun h=>absurd (show (4:Int)=2\/(4:Int)=3 from h) (by decide))) ?_
  rfl
 ·unfold enS3
  split
  ·exact h.skip hD
  ·rename_i hC1
   have u0:=jo (x:=x) (m:=(cs.length:Int) - 1 - 1) (by omega) (by omega)
   have hT:0<=Vz cs.length cn x/\Vz cs.length cn x < (cs.length:Int):=V3 (by omega)
   have hTn:Vz cs.length cn x ≠ cn:=QeD j3 (show 1<=1+upV x ((cs.length:Int) - 1 - 1) by omega) (by omega)
   generalize Vz cs.length cn x=to at *;generalize upS x ((cs.length:Int) - 1 - 1)=y
   have u:=jo (x:=y) (m:=min (s.till.getD cn.toNat 0) 40) (by omega) (by omega)
   generalize upV y (min (s.till.getD cn.toNat 0) 40)=am at *;have s1:=hr.sh j1 j2 j3 j4
   have s2:=hr.sh j1 j2 hT.1 (show to<=(cs.length:Int) - 1 by omega)
   have hG:=K7 s1 s2 (am:=am) u.1 (by omega)
   unfold Qcy;generalize Qal rs D cn to am=G at *
   have key:∀ got z,0<=got->EnV cs rs ss (WS s D cn to am got z):=fun got z hg=>by
    unfold WS;split
    ·exact h.skip hD
    ·rename_i hg9
     refine h.add (x:=⟨D,3,cn,to,am,got⟩) (QcN ⟨j1,j2⟩ (bQ hd hD) (show (1:Int)<=3/\(3:Int)<=4 by decide) ⟨j3,j4⟩ (fun _=>⟨⟨hT.1,by show to<=(cs.length:Int) - 1;omega⟩,hTn,hg,by show got<=999;omega⟩) (fun h=>absurd rfl h) ⟨u.1,by show am<=999;omega⟩ (fun _=>by show am<=s.till.getD cn.toNat 0;omega)) ?_
     show yN (yN s.till cn (-am)) to got=_
     unfold yN;rw [<- Int.sub_eq_add_neg]
     congr 1
     have:(s.till.set cn.toNat (s.till.getD cn.toNat 0 - am)).getD to.toNat 0=s.till.getD to.toNat 0:=by
      simp only [ah];rw [List.getElem?_set_ne (by omega)]
     rw [this]
   split
   ·have u3:=jo (x:=upS (upS y (min (s.till.getD cn.toNat 0) 40)) (10 - 1)) (m:=3 - 1) (by decide) (by decide)
    exact key _ _ (by omega)
   ·exact key _ _ (by omega)
def Qjb {cs:List (List Int)} {rs:List (List Sh)} {ss:List Int} (hr:RsOk rs cs.length) (hC:1<=cs.length/\cs.length<=4) {w:Int} {s:EnS} (hI:EnI cs.length rs.length 0 s) (h:EnV cs rs ss s):∀ k,EnV cs rs ss (enK cs.length rs w s k)
 |0=>h
 |k+1=>QgD hr hC (RV hr hC hI k) (Qjb hr hC hI h k)
def Qcb {l:Led} (h:VE l) (h6:l.entries.length<=6):jX l=0:=by
 unfold jX;rw [if_neg (by rw [JP (by omega) (by omega)];simp)]
 exact Yi fun k hk=>by rw [U7,stK_E];exact h k hk
def QjQ {x c d e w:Int} (hc:1<=c/\c<=4) (hd:1<=d/\d<=4) (he:0<=e/\e<=6):qO (lgL x c d e w)=0:=by
 have hok:=lg_ok (x:=x) (w:=w) hc hd he;rw [hok.check]
 refine Qcb ?_ hok.e
 have h1:=hok.c;have h2:=hok.r
 have h3:=hok.s;have h4:=hok.v
 change 1<=(lg1 x c).cs.length/\(lg1 x c).cs.length<=4 at h1;change RsOk (lg2 x c d).1 (lg1 x c).cs.length at h2
 change (lg1 x c).ss.length=(lg1 x c).cs.length at h3;change ∀ n ∈ (lg1 x c).ss,0<=n/\n<=200 at h4
 have hI:EnI (lg1 x c).cs.length (lg2 x c d).1.length 0 ⟨0,(lg1 x c).ss,[],upS (lg2 x c d).2 e⟩:=⟨cw _,by show (0:Int)<=_;have:=h2.len;omega,h3,fun v hv=>by have:=h4 v hv;omega,ag _⟩
 have hV:EnV (lg1 x c).cs (lg2 x c d).1 (lg1 x c).ss ⟨0,(lg1 x c).ss,[],upS (lg2 x c d).2 e⟩:=⟨fun j hj=>by simp at hj,rfl,cw _⟩
 exact (Qjb h2 h1 (w:=w) hI hV (upV (lg2 x c d).2 e).toNat).v
end Go.Sym.B
namespace Go.Sym.B
open Go Go.Sym Go.Proofs Go.Proofs.Tryz Go.Sym.C Go.RowKit
def QcZ {c:Led} (h:qO c=0):Fit c:=by
 have h:=QcM (Qv h);exact ⟨by have:=h.c;omega,fun p hp=>by have:=(h.cs p hp).1;omega,by have:=h.r;omega,fun p hp=>by have:=(h.rs p hp).1;omega,by have:=h.s.1;omega,by have:=h.e;omega⟩
def Ye:=vz @ty3 (vz @ty9 (vz @WU (vz @xI (vz @ti3.eq_1 (vz @ti9.eq_1 (vz @Zy.eq_1 @vO.eq_1))))))
def Wt:=vz @aI.eq_1 (vz @aB.eq_1 (vz @qj.eq_1 (vz @ql.eq_1 (vz @xR (vz @yF (vz @kE (vz @zo.eq_1 (vz @qY.eq_1 (vz @bgH.eq_1 (vz @p20.eq_1 (vz @p20.eq_2 (vz @p27.eq_1 (vz @p27.eq_2 (vz @c19.eq_1 (@c19.eq_2)))))))))))))))
def writtenC_fn (nums:List Int) (text:List UInt8) (hnums:nums.length<=maxLen):Fn (jh TabC) prog 6 [qj nums,aS text] noH (aB true) noH 0:=by
 have env:=qz (A:=zQ TabC) (kC e20 (kC e27 (kC (Qkv.anti QkJ) (kC eRea (kC e52w (kC d19 kN))))));refine kT (Fn0 func6 rfl (fun vs w=>by kernel_rfl) (by kernel_rfl)) (by simp) (by simp [AV.ids,qj,aS]) ?_
 have hsz:(ByteArray.mk ⟨text⟩).size=text.length:=rfl
 by_cases q0:350 < text.length
 ·have d1:decide ((350:Int) < (text.length:Int))=true:=decide_eq_true (by omega)
  repeat' first|(apply nx;with_reducible constructor)|apply uq (by decide)|((first|apply uz env|apply uj);intro Q hQ;simp only [vkt,seval,Ye,Wt,aS,hsz,d1,ite_and];(repeat' first|with_reducible assumption|apply vz|intro hp);all_goals first|(apply hQ;clear hQ Q)|(apply ux;kernel_rfl)|omega|assumption|with_reducible rfl|skip)
  (simp only [vrt,results6,vkt,seval,Wt];refine Fin.val rfl ?_;(try simp only [AV.le]))
  all_goals first|rfl|simp
 have d1:decide ((350:Int) < (text.length:Int))=false:=decide_eq_false (by omega)
 obtain ⟨x0,hx0⟩:∃ x,nbS nums=x:=⟨_,rfl⟩;have z1:(1:Int)<=4/\(4:Int)<=4:=by decide
 have z2:(0:Int)<=6/\(6:Int)<=6:=by decide
 have hchk:=QjQ (x:=x0) (w:=3) z1 z1 z2;obtain ⟨C,hC⟩:∃ L,lgL x0 4 4 6 3=L:=⟨_,rfl⟩
 obtain ⟨y0,hy0⟩:∃ y,lgS x0 4 4 6 3=y:=⟨_,rfl⟩;rw [hC] at hchk
 have b1:=QcZ hchk;have b2:=b1.w
 have eC:=yF C;have fC:=xR C
 have hrw:=Qce hchk;have hw2:=Y1 hchk
 obtain ⟨T,hT⟩:∃ T,flatL (lnW C 4)=T:=⟨_,rfl⟩;rw [hT] at hw2
 rw [hw2] at hrw;dsimp only at hrw
 obtain ⟨⟨x,n,e⟩,hR⟩:∃ p,QD text=p:=⟨_,rfl⟩
 by_cases he:e=0
 ·have d2:decide (e=0)=true:=decide_eq_true he
  rw [he] at hR;obtain ⟨hwr,hxk⟩:=QbK hR
  have b3:=QcZ hxk;have ex:=yF x
  have fx:=xR x;have hbb:(text == text)=true:=beq_iff_eq.2 rfl
  repeat' first|(apply nx;with_reducible constructor)|apply uq (by decide)|((first|apply uz env|apply uj);intro Q hQ;simp only [vkt,seval,Ye,Wt,aS,RG,pRea,s52w,hsz,d1,hx0,hC,hy0,eC,fC,b1,b2,hw2,hrw,hR,ex,fx,b3,hwr,ite_and];(repeat' first|with_reducible assumption|apply vz|intro hp);all_goals first|(apply hQ;clear hQ Q)|(apply ux;kernel_rfl)|omega|assumption|with_reducible rfl|skip)
  (simp only [vrt,results6,vkt,seval,Wt];refine Fin.val rfl ?_;(try simp only [AV.le]))
  all_goals first|rfl|simp
 ·have d2:decide (e=0)=false:=decide_eq_false he
  repeat' first|(apply nx;with_reducible constructor)|apply uq (by decide)|((first|apply uz env|apply uj);intro Q hQ;simp only [vkt,seval,Ye,Wt,aS,RG,pRea,s52w,hsz,d1,hx0,hC,hy0,eC,fC,b1,b2,hw2,hrw,hR,d2,ite_and];(repeat' first|with_reducible assumption|apply vz|intro hp);all_goals first|(apply hQ;clear hQ Q)|(apply ux;kernel_rfl)|omega|assumption|with_reducible rfl|skip)
  (simp only [vrt,results6,vkt,seval,Wt];refine Fin.val rfl ?_;(try simp only [AV.le]))
  all_goals first|rfl|simp
def spI:Sp:=.int .i64
def eI_of (r:List DV) (h:r.length=1) (hs:∀ (j:Nat) (s:Sp) (d:DV),[spI][j]?=some s->r[j]?=some d->D1 s d):∃ a,r=ql a:=by
 obtain ⟨d,rfl⟩:=List.length_eq_one_iff.1 h;obtain ⟨n,rfl,_⟩:=(hs 0 spI d rfl rfl).int_inv
 exact ⟨n,rfl⟩
def fl22:Fl prog 26 [.sl [spI]]:=Yt (n:=6) (by kernel_rfl)
variable {H : Type} {enc : TypeId × Value -> H} {W : World} {base : Nat} {spare : Nat -> Bool} {held : Bool}
def Qe1 {fuel:Nat} {v:Value} {x:DataW H × List MemPlace} (h:DataW.trod enc prog W base spare held fuel 26 [v]=some x):∃ l:List Int,ARel W (okW W) QgM undef (qj l) v/\l.length<=maxLen:=by
 obtain ⟨ds,hd⟩:=QiJ fl22 h;obtain ⟨d,rfl,h1,h2⟩:=hd.one_inv
 obtain ⟨l,rfl,hl⟩:=h1.sl_inv ql eI_of;exact ⟨l,LA h2,hl⟩
def ints_of {v:Value} {d:DataW H} {p:List MemPlace} {r:Reach} {b0:Nat} (h:DataW.Trod enc prog W base spare held 26 v d p) (hu:prog.underlying 26=some (.slice 3)) (hv:Value.okWide prog W r b0 26 v):∃ l:List Int,ARel W (okW W) QgM undef (qj l) v/\l.length<=maxLen:=by
 obtain ⟨fuel,hf⟩:=h;obtain ⟨a,n,c,rfl⟩:=WideShapes.okWide_slice hu hv
 exact Qe1 hf
def laid7 : List (String × DataW Unit) := [("math/bits.deBruijn32tab", YtcmfagpdahhfpaaGreatDoor.Rows.laid_math_bits_deBruijn32tab), ("math/bits.deBruijn64tab", YtcmfagpdahhfpaaGreatDoor.Rows.laid_math_bits_deBruijn64tab), ("internal/strconv.uint64pow10", YtcmfagpdahhfpaaGreatDoor.Rows.laid_internal_strconv_uint64pow10), ("unicode/utf8.acceptRanges", YtcmfagpdahhfpaaGreatDoor.Rows.laid_unicode_utf8_acceptRanges), ("strconv.ErrRange", YtcmfagpdahhfpaaGreatDoor.Rows.laid_strconv_ErrRange), ("strconv.ErrSyntax", YtcmfagpdahhfpaaGreatDoor.Rows.laid_strconv_ErrSyntax), ("unicode/utf8.first", YtcmfagpdahhfpaaGreatDoor.Rows.laid_unicode_utf8_first)]
def QeY {H:Type} {enc:TypeId × Value->H} {P:Program} {w:World} {base:Nat} {sp:Nat->Bool} {held:Bool} {fuel:Nat} {t:TypeId} {cs:List Value} {nm:String} {d:DataW H} {p:List MemPlace} {ms:Array (String × TypeId)} (ht:P.underlying t=some (.interface ms)) (h:DataW.trod enc P w base sp held fuel t cs=some (.iface nm d,p)):∃ u v,cs=[.iface u v]:=by
 cases fuel with
 |zero=>simp [DataW.trod] at h
 |succ n =>
  unfold DataW.trod at h;rw [ht] at h
  match cs,h with
  |[],h=>simp at h
  |[x],h =>
   cases x with
   |iface u v=>exact ⟨u,v,rfl⟩
   |_=>simp at h
  |_ :: _ :: _,h=>simp at h
def XU {P:Program} {w:World} {l:List (String × DataW Unit)} (h:laidMet P l w) {n:String} {nm:String} {d:DataW Unit} (hm:(n,DataW.iface nm d) ∈ l) {g:Nat} {t:TypeId} {ms:Array (String × TypeId)} (hg:P.globalNamed n=some g) (hty:(P.globals[g]?).map (·.type)=some t) (ht:P.underlying t=some (.interface ms)):∃ u v,w.cell? ⟨g,0,none⟩=some (.iface u v):=by
 obtain ⟨g',t',cs,fuel,p,h1,h2,h3,h4⟩:=Lib.laidMet.reads h hm;obtain rfl:=Option.some.inj (hg.symm.trans h1)
 obtain rfl:=Option.some.inj (hty.symm.trans h2);obtain ⟨u,v,hc⟩:=QeY ht h4
 refine ⟨u,v, ?_⟩
 rw [World.var?_cell h1 h3 0];have:cs=#[Value.iface u v]:=by cases cs;simp_all
 rw [this];rfl
def tab_of {W:World} (hL:laidMetH prog laid7 W) (hS:W.ShapedOpen prog):TabC W:=by
 have hL:=hL;rw [Go.MakeChecks.laidMetH_plain _ _ _ (by kernel_rfl)] at hL
 have h1 := laidMetH.filter (fun x => x.1 == "internal/strconv.uint64pow10") (show laidMetH prog laid7 W by rw [Go.MakeChecks.laidMetH_plain _ _ _ (by kernel_rfl)]; exact hL)
 have e : laid7.filter (fun x => x.1 == "internal/strconv.uint64pow10") = [("internal/strconv.uint64pow10", Lib.tabData .u64 Lib.pow10Tab)] := by kernel_rfl
 rw [e,Go.MakeChecks.laidMetH_plain _ _ _ (by kernel_rfl)] at h1
 refine ⟨Lib.tabIs_of_head (g := (prog.globalNamed "internal/strconv.uint64pow10").getD 0) (t := 293) (e := 90) (n := 20) (by kernel_rfl) (by kernel_rfl) underlying293 underlying90 (by kernel_rfl) (by kernel_rfl) h1,
  cell_of_shapedOpen_int (zero:=#[.int .i64 0]) (t:=3) hS (of_decide_eq_true (by kernel_rfl)) (by kernel_rfl) rfl (by kernel_rfl) (by kernel_rfl) underlying3,
  XU hL (n := "strconv.ErrSyntax") (nm := "*errors.errorString") (d := .ptr (.agg [.lit (.string [105, 110, 118, 97, 108, 105, 100, 32, 115, 121, 110, 116, 97, 120])])) (.tail _ (.tail _ (.tail _ (.tail _ (.tail _ (.head _)))))) (t := 175) (by kernel_rfl) (by kernel_rfl) underlying175,
  XU hL (n := "strconv.ErrRange") (nm := "*errors.errorString") (d := .ptr (.agg [.lit (.string [118, 97, 108, 117, 101, 32, 111, 117, 116, 32, 111, 102, 32, 114, 97, 110, 103, 101])])) (.tail _ (.tail _ (.tail _ (.tail _ (.head _))))) (t := 175) (by kernel_rfl) (by kernel_rfl) underlying175⟩
def Je {w w':World} (hb:Below w.heap.size w w') {a:Addr} {v:Value} (h:w.cell? a=some v):w'.cell? a=some v:=by
 have hlt:a.block < w.heap.size:=by
  by_cases hl:a.block < w.heap.size
  ·exact hl
  ·unfold World.cell? at h
   rw [cq (by omega)] at h
   simp at h
 rw [hb.cell hlt];exact h
def TabC.below {w w':World} (h:TabC w) (hb:Below w.heap.size w w'):TabC w':=by
 obtain ⟨m,hm⟩:=h.max;obtain ⟨a,b,hs⟩:=h.syn
 obtain ⟨c,d,hr⟩:=h.rng;exact ⟨Lib.tabBelow_of_tabIs h.pow w' hb,⟨m,Je hb hm⟩,⟨a,b,Je hb hs⟩,⟨c,d,Je hb hr⟩⟩
noncomputable def doorW (os:Os):World :=
 {World.doorLaid prog 4000 os with heap := (World.doorLaid prog 4000 os).heap.setIfInBounds ((prog.globalNamed "unicode/utf8.first").getD 0) (match (World.doorLaid prog 4000 os).heap[(prog.globalNamed "unicode/utf8.first").getD 0]? with
  |some (.cells _ t fr)=>.cells (Pinned.utf8FirstZ.map fun (n:Nat)=>Value.int .u8 (n:Int)).toArray t fr
  |_=>.cells #[] 0 (0,0)) }
def door_met (os:Os) (args:Array Value):laidMetH prog laid7 ((doorW os).forCall (fun _ _=>0) ⟨#[],args,[]⟩).memory :=
 laidMetH_of_parts3 (fuel:=800) (laidMet_of_run' 800 (by kernel_rfl) (by kernel_rfl)) (by kernel_rfl) (by kernel_rfl)
def handed_laid {a:Assume} {C:Checked} {os:Os} {f:FuncId} {fn:Func} {s:ChangeSpec} {conds:List PathCond} {apart fresh handsOn again:Bool} {H:Type} {enc:TypeId × Value->H} {X:World->Prop} (hX:∀ w w':World,w.heap=w'.heap->X w->X w')
  (own:ownKnob C.prog.godebug=none) (started:os.Started) (noInit:C.prog.inits.idxOf? f=none) (hfn:C.prog.funcs[f]?=some fn)
  (witness:∃ (w:World) (tape:Tape) (i:Input),w.os=os/\(w.forCall tape i).Shaped C.prog/\i.vars=[]/\Input.okWide C.prog (w.forCall tape i) .any w.heap.size f i /\
   ((s.pre enc C.prog fn conds apart (w.forCall tape i).memory i.args/\X (w.forCall tape i).memory)/\sizedMet enc C.prog fn (OpenSpec.ofChange s) apart (w.forCall tape i).memory i.args)/\a.holds C.prog (lone (Frame.enter C.prog f i.args .normal) [] (w.forCall tape i)))
  (contract:∀ (W:World) (base:Nat) (args:Array Value) (ds gs:List (DataW H)) (before:List MemPlace),(∀ (j:Nat) t v,fn.params[j]?=some t->args[j]?=some v->Value.okWide C.prog W .any base t v)->DataW.Whole enc C.prog fn.params.toList s.vars apart W args.toList ds gs before->X W->W.ShapedOpen C.prog ->
   Calls C.prog f args W fun e W'=>∃ v,e=.returned v/\s.post enc C.prog fn apart fresh handsOn again W args v W') :
  ReturnsInHanded a C os f .any (fun w args=>(s.pre enc C.prog fn conds apart w args/\X w)/\sizedMet enc C.prog fn (OpenSpec.ofChange s) apart w args) (s.post enc C.prog fn apart fresh handsOn again):=by
 refine returnsInHanded_of_calls own started noInit witness fun w tape i _ hsh _ hok hpre _=>?_
 obtain ⟨_,_,_,fn',hfn',_,_,_,_,hval⟩:=hok;obtain rfl:fn'=fn:=Option.some.inj (hfn'.symm.trans hfn)
 obtain ⟨⟨⟨ds,gs,before,hw,_⟩,hx⟩,_⟩:=hpre;refine (contract (w.forCall tape i) w.heap.size i.args ds gs before hval (DataW.Whole.of_heap (w:=(w.forCall tape i).memory) (w':=w.forCall tape i) rfl hw) (hX (w.forCall tape i).memory _ rfl hx) hsh).mono fun e W' ⟨v,he,hp⟩=>?_
 subst he;exact ChangeSpec.post_blind hp
end Go.Sym.B
