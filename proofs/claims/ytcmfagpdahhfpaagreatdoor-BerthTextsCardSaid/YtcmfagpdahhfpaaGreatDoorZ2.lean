/- Walks and what they compute, joined: part 2. -/
import Derived.Test.YtcmfagpdahhfpaaGreatDoorZB3
import Derived.Lib.AppendIntMem
import Derived.WalkKit
import Derived.BigCall
import Derived.WalkSmall
import Derived.Lib.SplitLaws
import Derived.Recover
import Derived.TacticsInMore
import Derived.RegionIn
import Derived.RecoverIn
import Derived.IntWalk
import Derived.Lib.CountLaws
import Derived.Lib.ItoaNum
import Derived.Lib.IndexMore
import Derived.Test.YtcmfagpdahhfpaaGreatDoorRows
import Derived.MakeChecks
import Derived.LaidSub
import Derived.LaidMore
import Derived.Lib.LaidU8
import Derived.Lib.LaidTab
import Derived.Shelf.Vars
import Derived.Handed
import GoSem.PinnedTables
import Derived.Test.YtcmfagpdahhfpaaGreatDoorZ1
set_option linter.all false
set_option maxHeartbeats 40000000
namespace Go.Sym.B
open Go Go.Sym Go.Proofs Go.Proofs.Tryz Go.Sym.C
def Qjl (s:List UInt8) (a h:Int) (b:UInt8) (hl:s.length<=1000000):FnV prog 13 [aS s,aI a,aI h,.v (.int .u8 (b.toNat:Int))] (aS (Qao s a h b)):=by
 have env:=qA (A:=fun _=>True) (kC efold kN)
 refine kV (Fn0 func13 rfl (fun vs w=>by kernel_rfl) (by kernel_rfl)) (by simp) (by simp [AV.ids,aI,aS]) ?_
 have hsz:(ByteArray.mk ⟨s⟩).size=s.length:=rfl
 unfold Qao
 by_cases h0:s=[]
 ·have b0:(s == [])=true:=beq_iff_eq.2 h0
  rw [if_pos h0]
  repeat' first|(apply nx;with_reducible constructor)|apply uq (by decide)|((first|apply uz env|apply uj);intro Q hQ;simp only [vkt,seval,Zo,Ve,aS,b0,ite_and];(repeat' first|with_reducible assumption|apply vz|intro hp);all_goals first|(apply hQ;clear hQ Q)|(apply ux;kernel_rfl)|omega|assumption|rfl|skip)
  (simp only [vrt,results13,vkt,seval,aS];refine Fin.val rfl ?_;(try simp only [AV.le]))
  all_goals first|rfl|simp
 have b0:(s == [])=false:=beq_eq_false_iff_ne.2 h0
 have hpos:0 < s.length:=List.length_pos_iff.2 h0
 rw [if_neg h0]
 have hf:=QlS (x:=a) (n:=(s.length:Int)) (by omega)
 obtain ⟨j,hj⟩:∃ j:Nat,fdT a s.length=(j:Int):=⟨(fdT a s.length).toNat,by omega⟩
 rw [hj] at hf ⊢
 have hjs:j < s.length:=by omega
 have g0:(0:Int)<=(s.length:Int):=by omega
 have g1:(s.length:Int)<=1000000:=by omega
 have e1:=k9 j (by omega)
 have p0:(0:Int)<=(j:Int):=by omega
 have p1:(j:Int)<=(s.length:Int):=by omega
 have p2:((j+1:Nat):Int)<=(s.length:Int):=by omega
 have p3:(0:Int)<=((j+1:Nat):Int):=by omega
 have q0:0<=((b.toNat:Nat):Int):=by omega
 have q1:((b.toNat:Nat):Int) < 256:=by have:=UInt8.toNat_lt b;omega
 have q2:UInt8.ofNat b.toNat=b:=UInt8.ofNat_toNat
 have ml:(s.take j).length=j:=by rw [aR];omega
 have ml2:(s.drop (j+1)).length=s.length - (j+1):=cZ ..
 have ml3:(s.drop j).length=s.length - j:=cZ ..
 rw [cA]
 by_cases h1:h=0
 ·have d1:decide (h=0)=true:=decide_eq_true h1
  rw [if_pos h1]
  repeat' first|(apply nx;with_reducible constructor)|apply uq (by decide)|((first|apply uz env|apply uj);intro Q hQ;simp only [vkt,seval,Zo,Ve,aS,QaX,aA,bO,b0,hsz,hj,g0,g1,e1,p0,p1,p2,p3,q2,d1,ite_and];(repeat' first|with_reducible assumption|apply vz|intro hp);all_goals first|(apply hQ;clear hQ Q)|(apply ux;kernel_rfl)|omega|assumption|rfl|skip)
  (simp only [vrt,results13,vkt,seval,aS];refine Fin.val rfl ?_;(try simp only [AV.le]))
  all_goals first|rfl|simp
 have d1:decide (h=0)=false:=decide_eq_false h1
 rw [if_neg h1]
 by_cases h2:h=1
 ·have d2:decide (h=1)=true:=decide_eq_true h2
  rw [if_pos h2]
  repeat' first|(apply nx;with_reducible constructor)|apply uq (by decide)|((first|apply uz env|apply uj);intro Q hQ;simp only [vkt,seval,Zo,Ve,aS,QaX,bO,b0,hsz,hj,g0,g1,e1,p0,p1,p2,p3,d1,d2,ite_and];(repeat' first|with_reducible assumption|apply vz|intro hp);all_goals first|(apply hQ;clear hQ Q)|(apply ux;kernel_rfl)|omega|assumption|rfl|skip)
  (simp only [vrt,results13,vkt,seval,aS];refine Fin.val rfl ?_;(try simp only [AV.le]))
  all_goals first|rfl|simp
 have d2:decide (h=1)=false:=decide_eq_false h2
 rw [if_neg h2]
 repeat' first|(apply nx;with_reducible constructor)|apply uq (by decide)|((first|apply uz env|apply uj);intro Q hQ;simp only [vkt,seval,Zo,Ve,aS,QaX,aA,bO,b0,hsz,hj,g0,g1,p0,p1,q2,d1,d2,ite_and];(repeat' first|with_reducible assumption|apply vz|intro hp);all_goals first|(apply hQ;clear hQ Q)|(apply ux;kernel_rfl)|omega|assumption|rfl|skip)
 (simp only [vrt,results13,vkt,seval,aS];refine Fin.val rfl ?_;(try simp only [AV.le]))
 all_goals first|rfl|simp
end Go.Sym.B
namespace Go.Sym.B
open Go Go.Sym Go.Proofs Go.Proofs.Tryz Go.Sym.C Go.RowKit
def Qbd:List AV->Prop × AV
 |[.v (.string ⟨⟨t⟩⟩)]=>(True,.tup [qd (yH t).1,aI (yH t).2.1,aI (yH t).2.2])
 |_=>(False,.junk)
def Qmx {A:Frm->Prop}:qm A prog 15 (zw false Qbd):=qL fun vs hv h=>by
 clear hv
 unfold Qbd at h ⊢
 split at h
 ·rename_i t;have k0:True:=h;clear h
  refine ⟨by first|trivial|(repeat' split) <;> simp [AV.plain,AV.plainL,aI,aB,qz,qc,qy,qw,aTk,cTk],fun h=>absurd h (by decide), ?_⟩
  have:=Qgy t
  simp only [aS] at this
  first|exact this|(simp only [aS];exact this)
 ·exact h.elim
def pRea (S:St):List AV->Option Pk
 |[.v (.string ⟨⟨t⟩⟩)]=>some { pre:=True,ar:=[.v (.string ⟨⟨t⟩⟩)],v:=.tup [qd (yH t).1,aI (yH t).2.1,aI (yH t).2.2] }
 |_=>none
def eRea:qm (zW TabT) prog 14 (fnE pRea):=Qbp fun S bs q h hp=>by
 unfold pRea at h
 split at h
 ·cases h
  exact QkV _
 ·cases h
def QiP:List AV->Prop × AV
 |[.v (.string ⟨⟨s⟩⟩),.v (.int .i64 a),.v (.int .i64 h),.v (.int .u8 b)]=>(s.length<=1000000/\0<=b/\b < 256,aS (Qao s a h (UInt8.ofNat b.toNat)))
 |_=>(False,.junk)
def etorn {A:Frm->Prop}:qm A prog 13 (zw true QiP):=qL fun vs hv h=>by
 unfold QiP at h ⊢
 split at h
 ·rename_i s a g b
  obtain ⟨h1,h2,h3⟩:=h
  refine ⟨by simp [aS,AV.plain],fun _=>by simp [aS,AV.flat], ?_⟩
  have:=Qjl s a g (UInt8.ofNat b.toNat) h1
  rw [Uz h2 h3] at this
  exact this
 ·exact h.elim
def Qbi (t:List UInt8):(yH t).1.cabins.length<=301/\(yH t).1.sold.length<=301:=by
 unfold yH
 split
 ·simp
 ·rename_i h
  split
  ·simp
  ·rename_i c hc
   have:=XC hc
   split
   ·exact ⟨by show c.cabins.length<=301;omega,by show c.sold.length<=301;omega⟩
   ·simp
def Qcr (c:Chart):(jr c).1.length<=10001:=by
 unfold jr
 split
 ·rename_i h
  have hv:=Ze h
  have:=Qc0 c hv.car.cabs.2 hv.many
  dsimp only
  rw [aA]
  exact Nat.add_le_add_right this 1
 ·simp
def wtL (text:List UInt8) (CL:List Chart) (i:Nat):List (List UInt8):=text :: (CL.take i).map fun c=>(jr c).1
def Qf0 (text:List UInt8) (CL:List Chart) {i:Nat} (h:i < CL.length):wtL text CL (i+1)=wtL text CL i++[(jr (CL.getD i default)).1]:=by
 unfold wtL
 rw [cK,ak h,aq]
 simp [ai,h]
def Qks (text:List UInt8) (CL:List Chart) {i:Nat} (h:i<=CL.length):(wtL text CL i).length=i+1:=by simp [wtL];omega
def tx1 (text:List UInt8) (CL:List Chart) (ar hw:Int) (b:UInt8) (i:Nat):St:={ t:=asg [(3,aI ar),(4,aI hw),(5,aU8 b),(13,.row 0),(14,.row 1),(15,aI i)],h:=qb [(0,.row 25 3 (CL.map Xf)),(1,.row 9 1 ((wtL text CL i).map qF))],n:=2 }
def tx2 (TL:List (List UInt8)) (i:Nat):St:={ t:=asg [(14,.row 0),(20,aI i)],h:=qb [(0,.row 9 1 (TL.map qF))],n:=1 }
def yz:=vz @ty3 (vz @ty9 (vz @jm (vz @ty32 (vz @XN (vz @Qa (vz @ti3.eq_1 (vz @ti9.eq_1 (vz @wY.eq_1 (vz @ti32.eq_1 (vz @YA.eq_1 @xQ.eq_1))))))))))
def wR:=vz @aI.eq_1 (vz @aB.eq_1 (vz @qz.eq_1 (vz @zL.eq_1 (@Ju))))
set_option maxRecDepth 100000 in
def textsLaw_fn (c:Chart) (text:List UInt8) (nums:List Int) (ar hw:Int) (b:UInt8) (hnums:nums.length<=maxLen):Fn (jd TabT) prog 3 [qd c,aS text,qz nums,aI ar,aI hw,aU8 b] noH (aB true) noH 0:=by
 have env:=qA (A:=zW TabT) (kC Qmr (kC eBag (kC Qip (kC Ql0 (kC Qjx (kC etorn (kC eRea (kC Qmx (kC eeqC (kC QiZ kN))))))))))
 refine kT (Fn0 func3 rfl (fun vs w=>by kernel_rfl) (by kernel_rfl)) (by simp) (by simp [AV.ids,AV.idsL,qz,qd,qa,aS,aI,aU8]) ?_
 have hsz:(ByteArray.mk ⟨text⟩).size=text.length:=rfl
 cases q0:decide (20 < (c.cabins.length:Int)) with
 |true =>
  repeat' first|(apply nx;with_reducible constructor)|apply uq (by decide)|((first|apply uz env|apply uj);intro Q hQ;simp only [vkt,seval,yz,wR,aS,aU8,mTk,qC,qd,qa,YM,QU,q0,ite_and];(repeat' first|with_reducible assumption|apply vz|intro hp);all_goals first|(apply hQ;clear hQ Q)|(apply ux;kernel_rfl)|omega|assumption|rfl|skip)
  (simp only [vrt,results3,vkt,seval,wR];refine Fin.val rfl ?_;(try simp only [AV.le]))
  all_goals first|rfl|simp
 |false =>
 cases q1:decide (20 < (c.sold.length:Int)) with
 |true =>
  repeat' first|(apply nx;with_reducible constructor)|apply uq (by decide)|((first|apply uz env|apply uj);intro Q hQ;simp only [vkt,seval,yz,wR,aS,aU8,mTk,qC,qd,qa,YM,QU,q0,q1,ite_and];(repeat' first|with_reducible assumption|apply vz|intro hp);all_goals first|(apply hQ;clear hQ Q)|(apply ux;kernel_rfl)|omega|assumption|rfl|skip)
  (simp only [vrt,results3,vkt,seval,wR];refine Fin.val rfl ?_;(try simp only [AV.le]))
  all_goals first|rfl|simp
 |false =>
 have g0:=of_decide_eq_false q0
 have g1:=of_decide_eq_false q1
 by_cases q2:250 < text.length/\text.length<=300
 ·have d2:decide ((250:Int) < (text.length:Int))=true:=decide_eq_true (by omega)
  have d3:decide ((text.length:Int)<=300)=true:=decide_eq_true (by omega)
  repeat' first|(apply nx;with_reducible constructor)|apply uq (by decide)|((first|apply uz env|apply uj);intro Q hQ;simp only [vkt,seval,yz,wR,aS,aU8,mTk,qC,qd,qa,YM,QU,q0,q1,hsz,d2,d3,ite_and];(repeat' first|with_reducible assumption|apply vz|intro hp);all_goals first|(apply hQ;clear hQ Q)|(apply ux;kernel_rfl)|omega|assumption|rfl|skip)
  (simp only [vrt,results3,vkt,seval,wR];refine Fin.val rfl ?_;(try simp only [AV.le]))
  all_goals first|rfl|simp
 have hq:(decide ((250:Int) < (text.length:Int))=false/\True)\/(decide ((250:Int) < (text.length:Int))=true/\decide ((text.length:Int)<=300)=false):=by
  by_cases h1:250 < text.length
  ·exact .inr ⟨decide_eq_true (by omega),decide_eq_false (by omega)⟩
  ·exact .inl ⟨decide_eq_false (by omega),trivial⟩
 obtain ⟨x0,hx0⟩:∃ x,nbS nums=x:=⟨_,rfl⟩
 obtain ⟨hC0,hCp,hCs,hCc,hCg⟩:=co_ok (x:=x0) (a:=3) (g:=5) (s:=8) (by decide) (by decide) (by decide)
 obtain ⟨C,hC⟩:∃ C,coC x0 3 5 8=C:=⟨_,rfl⟩
 rw [hC] at hC0 hCp hCs hCc hCg
 have hmx:(100000:Nat)<=maxLen:=by decide
 obtain ⟨CL,hCL⟩:∃ CL,[c,C]=CL:=⟨_,rfl⟩
 have hCl:CL.length=2:=by rw [<- hCL];rfl
 have hCb:∀ x ∈ CL,x.cabins.length<=100000/\x.sold.length<=100000:=by
  rw [<- hCL]
  intro x hx
  simp only [ah,aX,or_false] at hx
  rcases hx with rfl|rfl <;> omega
 repeat' first|(apply nx;with_reducible constructor)|apply uq (by decide)
 ((first|apply uz env|apply uj);intro Q hQ;simp only [vkt,seval,wR,aS,aU8,qd,qa,ite_and];(repeat' first|with_reducible assumption|apply vz|intro hp);all_goals first|(apply hQ;clear hQ Q)|(apply ux;kernel_rfl)|omega|assumption|rfl|skip)
 repeat' first|(apply nx;with_reducible constructor)|apply uq (by decide)
 refine Sym.mono (K:=fun e S1=>e=.normal/\Le S1 { t:=asg [(1,aS text),(2,qz nums),(3,aI ar),(4,aI hw),(5,aU8 b),(6,.ptr 0 0),(38,aB false)],h:=qb [(0,.cells (qa c))],n:=1 }) ?_ ?_
 ·rcases hq with ⟨d2,d3⟩|⟨d2,d3⟩
  all_goals
   ((first|apply uz env|apply uj);intro Q hQ;simp only [vkt,seval,yz,wR,mTk,qC,YM,q0,q1,hsz,d2,d3,ite_and];(repeat' first|with_reducible assumption|apply vz|intro hp);all_goals first|(apply hQ;clear hQ Q)|(apply ux;kernel_rfl)|omega|assumption|rfl|skip)
   refine ⟨rfl, ?_⟩
   (refine Le.ok some [] ?_;constructor;all_goals (try simp only [vle,vkt,seval,wR,aS,aU8,qa]))
   all_goals first|rfl|simp
 rintro e S1 ⟨rfl,hle⟩
 refine (ve hle ?_:Sym _ _ _ S1 _)
 clear hle S1
 repeat' first|(apply nx;with_reducible constructor)|apply uq (by decide)|((first|apply uz env|apply uj);intro Q hQ;simp only [vkt,seval,yz,wR,aS,aU8,qd,qa,pBag,Xm,hx0,hC,ite_and];(repeat' first|with_reducible assumption|apply vz|intro hp);all_goals first|(apply hQ;clear hQ Q)|(apply ux;kernel_rfl)|omega|assumption|rfl|skip)
 refine qN (fun i:{ i:Nat // i<=CL.length }=>tx1 text CL ar hw b i.1) (fun i=>CL.length - i.1) ⟨0,ag _⟩ ?_ fun ⟨i,hi⟩=>?_
 ·simp only [tx1,<- hCL]
  (refine Le.ok (fun i=>if i=0 then some 2 else if i=1 then some 3 else none) [] ?_;constructor;all_goals (try simp only [vle,vkt,seval,wR,aU8,Xf]))
  all_goals first|rfl|simp
 simp only at hi ⊢
 have hwl:=Qks text CL hi
 by_cases hil:i < CL.length
 ·have d1:decide ((i:Int) < (CL.length:Int))=true:=decide_eq_true (by omega)
  have e9:=k9 i (by omega)
  have hg:=QmM hil
  obtain ⟨b1,b2⟩:=hCb _ (vG (d:=default) hil)
  have hS:=Qf0 text CL hil
  obtain ⟨W,hW⟩:∃ W,wtL text CL i=W:=⟨_,rfl⟩
  obtain ⟨x,hx⟩:∃ x,CL.getD i default=x:=⟨_,rfl⟩
  rw [hx] at hg b1 b2
  rw [hx,hW] at hS
  rw [hW] at hwl
  have ex:(⟨x.cabins,x.secs,x.sold⟩:Chart)=x:=rfl
  have b3:x.cabins.length<=maxLen:=by omega
  have hm:W.length+1<=maxLen:=by omega
  obtain ⟨⟨T,e1⟩,hT⟩:∃ p,jr x=p:=⟨_,rfl⟩
  rw [hT] at hS
  have hbb:(T == T)=true:=beq_iff_eq.2 rfl
  have e4:W.map qF++[[.v (.string ⟨⟨T⟩⟩)]]=(wtL text CL (i+1)).map qF:=by rw [hS,aq];rfl
  simp only [tx1,hW]
  repeat' first|(apply nx;with_reducible constructor)|apply uq (by decide)|((first|apply uz env|apply uj);intro Q hQ;simp only [vkt,seval,yz,wR,aS,aU8,Yl,Xf,mTk,qC,Qbv,RS,d1,e9,hil,hg,ex,b2,b3,hT,hm,e4,decide_true,ite_and];(repeat' first|with_reducible assumption|apply vz|intro hp);all_goals first|(apply hQ;clear hQ Q)|(apply ux;kernel_rfl)|omega|assumption|rfl|skip)
  refine ⟨⟨i+1,hil⟩,by show CL.length - (i+1) < CL.length - i;omega, ?_⟩
  (refine Le.ok (fun i=>if i=1 then some 3 else some i) [] ?_;constructor;all_goals (try simp only [vle,vkt,seval,wR,aU8]))
  all_goals first|rfl|(simp;done)|(intro i hi;rw [if_neg (by omega)];done)
 ·have d1:decide ((i:Int) < (CL.length:Int))=false:=decide_eq_false (by omega)
  obtain rfl:i=CL.length:=by omega
  have hlen:∀ z ∈ (wtL text CL CL.length).drop 2,z.length<=1000000:=by
   rw [<- hCL]
   intro z hz
   simp [wtL] at hz
   rw [hz]
   exact aN (Qcr C) (by decide)
  obtain ⟨W,hW⟩:∃ W,wtL text CL CL.length=W:=⟨_,rfl⟩
  rw [hW] at hwl hlen
  rw [hCl] at hwl
  have hx:∀ d,(W.map qF).getD 2 d=[.v (.string ⟨⟨W.getD 2 []⟩⟩)]:=fun d=>Qak W 2 d (by omega)
  have hz:(W.getD 2 []).length<=1000000:=by
   match W,hwl with
   |[_,_,z],_=>exact hlen z (.head _)
  generalize W.getD 2 []=z at hx hz
  have l2:2 < W.length:=by omega
  have q0:0<=((b.toNat:Nat):Int):=by omega
  have q1:((b.toNat:Nat):Int) < 256:=by have:=UInt8.toNat_lt b;omega
  have q2:UInt8.ofNat b.toNat=b:=UInt8.ofNat_toNat
  have hm:W.length+1<=maxLen:=by omega
  obtain ⟨TL,hTL⟩:∃ TL,W++[Qao z ar hw b]=TL:=⟨_,rfl⟩
  have hTl:TL.length=4:=by rw [<- hTL,aA,hwl];rfl
  have e4:W.map qF++[[.v (.string ⟨⟨Qao z ar hw b⟩⟩)]]=TL.map qF:=by rw [<- hTL,aq];rfl
  simp only [tx1,hW]
  repeat' first|(apply nx;with_reducible constructor)|apply uq (by decide)|((first|apply uz env|apply uj);intro Q hQ;simp only [vkt,seval,yz,wR,aS,aU8,Yl,QiP,d1,hx,hz,l2,q0,q1,q2,hm,e4,ite_and];(repeat' first|with_reducible assumption|apply vz|intro hp);all_goals first|(apply hQ;clear hQ Q)|(apply ux;kernel_rfl)|omega|assumption|rfl|skip)
  refine qN (fun i:{ i:Nat // i<=TL.length }=>tx2 TL i.1) (fun i=>TL.length - i.1) ⟨0,ag _⟩ ?_ fun ⟨i,hi⟩=>?_
  ·simp only [tx2]
   (refine Le.ok (fun i=>if i=0 then some 3 else none) [] ?_;constructor;all_goals (try simp only [vle,vkt,seval,wR]))
   all_goals first|rfl|simp
  simp only at hi ⊢
  clear hx hz
  by_cases hil:i < TL.length
  ·have d1:decide ((i:Int) < (TL.length:Int))=true:=decide_eq_true (by omega)
   have e9:=k9 i (by omega)
   have hx:∀ d,(TL.map qF).getD i d=[.v (.string ⟨⟨TL.getD i []⟩⟩)]:=fun d=>Qak TL i d hil
   generalize TL.getD i []=t at hx
   have hsx:=Qbi t
   obtain ⟨⟨x,n,e1⟩,hR⟩:∃ p,yH t=p:=⟨_,rfl⟩
   rw [hR] at hsx
   obtain ⟨s1,s2⟩:=hsx
   dsimp only at s1 s2
   have ex:(⟨x.cabins,x.secs,x.sold⟩:Chart)=x:=rfl
   have b3:x.cabins.length<=maxLen:=by omega
   have b4:x.sold.length<=maxLen:=by omega
   simp only [tx2]
   repeat' first|(apply nx;with_reducible constructor)|apply uq (by decide)|((first|apply uz env|apply uj);intro Q hQ;simp only [vkt,seval,yz,wR,mTk,qC,qd,qa,pRea,Qbd,seqC,d1,e9,hil,hx,hR,ex,b3,b4,decide_true,ite_and];(repeat' first|with_reducible assumption|apply vz|intro hp);all_goals first|(apply hQ;clear hQ Q)|(apply ux;kernel_rfl)|omega|assumption|rfl|skip)
   refine ⟨⟨i+1,hil⟩,by show TL.length - (i+1) < TL.length - i;omega, ?_⟩
   (refine Le.ok some [] ?_;constructor;all_goals (try simp only [vle,vkt,seval,wR]))
   all_goals first|rfl|simp
  ·have d1:decide ((i:Int) < (TL.length:Int))=false:=decide_eq_false (by omega)
   simp only [tx2]
   repeat' first|(apply nx;with_reducible constructor)|apply uq (by decide)|((first|apply uz env|apply uj);intro Q hQ;simp only [vkt,seval,yz,wR,QU,d1,ite_and];(repeat' first|with_reducible assumption|apply vz|intro hp);all_goals first|(apply hQ;clear hQ Q)|(apply ux;kernel_rfl)|omega|assumption|rfl|skip)
   (simp only [vrt,results3,vkt,seval,wR];refine Fin.val rfl ?_;(try simp only [AV.le]))
   all_goals first|rfl|simp
end Go.Sym.B
namespace Go.Sym.B
open Go Go.Sym Go.Proofs Go.Proofs.Tryz Go.RowKit
def spI:Sp:=.int .i64
def spB:Sp:=.bool
def eI_of (r:List DV) (h:r.length=1) (hs:∀ (j:Nat) (s:Sp) (d:DV),[spI][j]?=some s->r[j]?=some d->D1 s d):∃ a,r=zL a:=by
 obtain ⟨d,rfl⟩:=List.length_eq_one_iff.1 h
 obtain ⟨n,rfl,_⟩:=(hs 0 spI d rfl rfl).int_inv
 exact ⟨n,rfl⟩
def Qm1 (r:List DV) (h:r.length=2) (hs:∀ (j:Nat) (s:Sp) (d:DV),[spI,spB][j]?=some s->r[j]?=some d->D1 s d):∃ a,r=qx a:=by
 match r,h with
 |[a,b],_ =>
  obtain ⟨n,rfl,_⟩:=(hs 0 spI a rfl rfl).int_inv
  obtain ⟨m,rfl⟩:=(hs 1 spB b rfl rfl).bool_inv
  exact ⟨⟨n,m⟩,rfl⟩
def eT_of (r:List DV) (h:r.length=7) (hs:∀ (j:Nat) (s:Sp) (d:DV),[spI,spI,spI,spI,spI,spI,spB][j]?=some s->r[j]?=some d->D1 s d):∃ a,r=eTk a:=by
 match r,h with
 |[a,b,c,d,e,f,g],_ =>
  obtain ⟨n1,rfl,_⟩:=(hs 0 spI a rfl rfl).int_inv
  obtain ⟨n2,rfl,_⟩:=(hs 1 spI b rfl rfl).int_inv
  obtain ⟨n3,rfl,_⟩:=(hs 2 spI c rfl rfl).int_inv
  obtain ⟨n4,rfl,_⟩:=(hs 3 spI d rfl rfl).int_inv
  obtain ⟨n5,rfl,_⟩:=(hs 4 spI e rfl rfl).int_inv
  obtain ⟨n6,rfl,_⟩:=(hs 5 spI f rfl rfl).int_inv
  obtain ⟨n7,rfl⟩:=(hs 6 spB g rfl rfl).bool_inv
  exact ⟨⟨n1,n2,n3,n4,n5,n6,n7⟩,rfl⟩
def spC:List Sp:=[.sl [spI,spB],spI,.sl [spI,spI,spI,spI,spI,spI,spB]]
def flN:Fl prog 26 [.sl [spI]]:=WI (n:=6) (by kernel_rfl)
def flC:Fl prog 25 spC:=WI (n:=6) (by kernel_rfl)
variable {H : Type} {enc : TypeId × Value -> H} {W : World} {base : Nat} {spare : Nat -> Bool} {held : Bool}
def Qim {fuel:Nat} {v:Value} {x:DataW H × List MemPlace} (h:DataW.trod enc prog W base spare held fuel 26 [v]=some x):∃ l:List Int,ARel W (okW W) QbU undef (qz l) v/\l.length<=maxLen:=by
 obtain ⟨ds,hd⟩:=UH flN h
 obtain ⟨d,rfl,h1,h2⟩:=hd.one_inv
 obtain ⟨l,rfl,hl⟩:=h1.sl_inv zL eI_of
 exact ⟨l,UV h2,hl⟩
def QdX {fuel:Nat} {cs:Array Value} {x:DataW H × List MemPlace} (h:DataW.trod enc prog W base spare held fuel 25 cs.toList=some x):∃ l:Chart,ARel W (okW W) QbU undef (qd l) (.agg cs):=by
 obtain ⟨ds,hd⟩:=UH flC h
 match ds,hd with
 |[a,b,c],hd =>
  obtain ⟨l1,rfl,_⟩:=(hd.shape 0 _ a rfl rfl).sl_inv qx Qm1
  obtain ⟨n,rfl,_⟩:=(hd.shape 1 _ b rfl rfl).int_inv
  obtain ⟨l3,rfl,_⟩:=(hd.shape 2 _ c rfl rfl).sl_inv eTk eT_of
  exact ⟨⟨l1,n,l3⟩,hd.agg⟩
 |[],hd=>exact absurd hd.len (by simp [spC])
 |[_],hd=>exact absurd hd.len (by simp [spC])
 |[_,_],hd=>exact absurd hd.len (by simp [spC])
 |_ :: _ :: _ :: _ :: _,hd=>exact absurd hd.len (by simp [spC])
def Qfo {v:Value} (h:v.cells.toList.length ≠ 1):∃ cs,v=.agg cs:=by
 cases v <;> first|exact ⟨_,rfl⟩|(simp [Value.cells] at h)
def chart_of {v:Value} {d:DataW H} {p:List MemPlace} (h:DataW.Trod enc prog W base spare held 25 v d p):∃ l:Chart,ARel W (okW W) QbU undef (qd l) v:=by
 obtain ⟨fuel,hf⟩:=h
 obtain ⟨ds,hd⟩:=UH flC hf
 obtain ⟨cs,rfl⟩:=Qfo (v:=v) (by rw [hd.clen];simp [spC])
 exact QdX hf
set_option maxRecDepth 100000 in
def ints_of {v:Value} {d:DataW H} {p:List MemPlace} {r:Reach} {b0:Nat} (h:DataW.Trod enc prog W base spare held 26 v d p) (hu:prog.underlying 26=some (.slice 3)) (hv:Value.okWide prog W r b0 26 v):∃ l:List Int,ARel W (okW W) QbU undef (qz l) v/\l.length<=maxLen:=by
 obtain ⟨fuel,hf⟩:=h
 obtain ⟨a,n,c,rfl⟩:=WideShapes.okWide_slice hu hv
 exact Qim hf
end Go.Sym.B
namespace Go.Sym.B
open Go Go.Sym Go.Proofs Go.Proofs.Tryz Go.RowKit
def laid7 : List (String × DataW Unit) := [("math/bits.deBruijn32tab", YtcmfagpdahhfpaaGreatDoor.Rows.laid_math_bits_deBruijn32tab), ("math/bits.deBruijn64tab", YtcmfagpdahhfpaaGreatDoor.Rows.laid_math_bits_deBruijn64tab), ("internal/strconv.uint64pow10", YtcmfagpdahhfpaaGreatDoor.Rows.laid_internal_strconv_uint64pow10), ("unicode/utf8.acceptRanges", YtcmfagpdahhfpaaGreatDoor.Rows.laid_unicode_utf8_acceptRanges), ("strconv.ErrRange", YtcmfagpdahhfpaaGreatDoor.Rows.laid_strconv_ErrRange), ("strconv.ErrSyntax", YtcmfagpdahhfpaaGreatDoor.Rows.laid_strconv_ErrSyntax), ("unicode/utf8.first", YtcmfagpdahhfpaaGreatDoor.Rows.laid_unicode_utf8_first)]
def QhJ {H:Type} {enc:TypeId × Value->H} {P:Program} {w:World} {base:Nat} {sp:Nat->Bool} {held:Bool} {fuel:Nat} {t:TypeId} {cs:List Value} {nm:String} {d:DataW H} {p:List MemPlace} {ms:Array (String × TypeId)} (ht:P.underlying t=some (.interface ms)) (h:DataW.trod enc P w base sp held fuel t cs=some (.iface nm d,p)):∃ u v,cs=[.iface u v]:=by
 cases fuel with
 |zero=>simp [DataW.trod] at h
 |succ n =>
  unfold DataW.trod at h
  rw [ht] at h
  match cs,h with
  |[],h=>simp at h
  |[x],h =>
   cases x with
   |iface u v=>exact ⟨u,v,rfl⟩
   |_=>simp at h
  |_ :: _ :: _,h=>simp at h
def KA {P:Program} {w:World} {l:List (String × DataW Unit)} (h:laidMet P l w) {n:String} {nm:String} {d:DataW Unit} (hm:(n,DataW.iface nm d) ∈ l) {g:Nat} {t:TypeId} {ms:Array (String × TypeId)} (hg:P.globalNamed n=some g) (hty:(P.globals[g]?).map (·.type)=some t) (ht:P.underlying t=some (.interface ms)):∃ u v,w.cell? ⟨g,0,none⟩=some (.iface u v):=by
 obtain ⟨g',t',cs,fuel,p,h1,h2,h3,h4⟩:=Lib.laidMet.reads h hm
 obtain rfl:=Option.some.inj (hg.symm.trans h1)
 obtain rfl:=Option.some.inj (hty.symm.trans h2)
 obtain ⟨u,v,hc⟩:=QhJ ht h4
 refine ⟨u,v, ?_⟩
 rw [World.var?_cell h1 h3 0]
 have:cs=#[Value.iface u v]:=by cases cs;simp_all
 rw [this];rfl
def tab_of {W:World} (hL:laidMetH prog laid7 W) (hS:W.ShapedOpen prog):TabT W:=by
 have hL:=hL
 rw [Go.MakeChecks.laidMetH_plain _ _ _ (by kernel_rfl)] at hL
 have h1 := laidMetH.filter (fun x => x.1 == "internal/strconv.uint64pow10") (show laidMetH prog laid7 W by rw [Go.MakeChecks.laidMetH_plain _ _ _ (by kernel_rfl)]; exact hL)
 have e : laid7.filter (fun x => x.1 == "internal/strconv.uint64pow10") = [("internal/strconv.uint64pow10", Lib.tabData .u64 Lib.pow10Tab)] := by kernel_rfl
 rw [e,Go.MakeChecks.laidMetH_plain _ _ _ (by kernel_rfl)] at h1
 refine ⟨Lib.tabIs_of_head (g := (prog.globalNamed "internal/strconv.uint64pow10").getD 0) (t := 293) (e := 90) (n := 20) (by kernel_rfl) (by kernel_rfl) underlying293 underlying90 (by kernel_rfl) (by kernel_rfl) h1,
  cell_of_shapedOpen_int (zero:=#[.int .i64 0]) (t:=3) hS (of_decide_eq_true (by kernel_rfl)) (by kernel_rfl) rfl (by kernel_rfl) (by kernel_rfl) underlying3,
  KA hL (n := "strconv.ErrSyntax") (nm := "*errors.errorString") (d := .ptr (.agg [.lit (.string [105, 110, 118, 97, 108, 105, 100, 32, 115, 121, 110, 116, 97, 120])])) (.tail _ (.tail _ (.tail _ (.tail _ (.tail _ (.head _)))))) (t := 175) (by kernel_rfl) (by kernel_rfl) underlying175,
  KA hL (n := "strconv.ErrRange") (nm := "*errors.errorString") (d := .ptr (.agg [.lit (.string [118, 97, 108, 117, 101, 32, 111, 117, 116, 32, 111, 102, 32, 114, 97, 110, 103, 101])])) (.tail _ (.tail _ (.tail _ (.tail _ (.head _))))) (t := 175) (by kernel_rfl) (by kernel_rfl) underlying175⟩
def Jd {w w':World} (hb:Below w.heap.size w w') {a:Addr} {v:Value} (h:w.cell? a=some v):w'.cell? a=some v:=by
 have hlt:a.block < w.heap.size:=by
  by_cases hl:a.block < w.heap.size
  ·exact hl
  ·unfold World.cell? at h
   rw [cp (by omega)] at h
   simp at h
 rw [hb.cell hlt];exact h
def TabT.below {w w':World} (h:TabT w) (hb:Below w.heap.size w w'):TabT w':=by
 obtain ⟨m,hm⟩:=h.max
 obtain ⟨a,b,hs⟩:=h.syn
 obtain ⟨c,d,hr⟩:=h.rng
 exact ⟨Lib.tabBelow_of_tabIs h.pow w' hb,⟨m,Jd hb hm⟩,⟨a,b,Jd hb hs⟩,⟨c,d,Jd hb hr⟩⟩
noncomputable def doorW (os:Os):World :=
 {World.doorLaid prog 4000 os with heap := (World.doorLaid prog 4000 os).heap.setIfInBounds ((prog.globalNamed "unicode/utf8.first").getD 0) (match (World.doorLaid prog 4000 os).heap[(prog.globalNamed "unicode/utf8.first").getD 0]? with
  |some (.cells _ t fr)=>.cells (Pinned.utf8FirstZ.map fun (n:Nat)=>Value.int .u8 (n:Int)).toArray t fr
  |_=>.cells #[] 0 (0,0)) }
def door_met (os:Os) (args:Array Value):laidMetH prog laid7 ((doorW os).forCall (fun _ _=>0) ⟨#[],args,[]⟩).memory :=
 laidMetH_of_parts3 (fuel:=800) (laidMet_of_run' 800 (by kernel_rfl) (by kernel_rfl)) (by kernel_rfl) (by kernel_rfl)
def letter_of {n:Int} (h:(Lit.int .u8 n).wf=true):∃ b:UInt8,n=(b.toNat:Int):=by
 have h:0<=n/\n<=255:=by
  simp only [Lit.wf,bz] at h
  exact ⟨of_decide_eq_true h.1,of_decide_eq_true h.2⟩
 refine ⟨UInt8.ofNat n.toNat, ?_⟩
 rw [UInt8.toNat_ofNat',cg (by omega)];omega
def handed_laid {a:Assume} {C:Checked} {os:Os} {f:FuncId} {fn:Func} {s:ChangeSpec} {conds:List PathCond} {apart fresh handsOn again:Bool} {H:Type} {enc:TypeId × Value->H} {X:World->Prop} (hX:∀ w w':World,w.heap=w'.heap->X w->X w')
  (own:ownKnob C.prog.godebug=none) (started:os.Started) (noInit:C.prog.inits.idxOf? f=none) (hfn:C.prog.funcs[f]?=some fn)
  (witness:∃ (w:World) (tape:Tape) (i:Input),w.os=os/\(w.forCall tape i).Shaped C.prog/\i.vars=[]/\Input.okWide C.prog (w.forCall tape i) .any w.heap.size f i /\
   ((s.pre enc C.prog fn conds apart (w.forCall tape i).memory i.args/\X (w.forCall tape i).memory)/\sizedMet enc C.prog fn (OpenSpec.ofChange s) apart (w.forCall tape i).memory i.args)/\a.holds C.prog (lone (Frame.enter C.prog f i.args .normal) [] (w.forCall tape i)))
  (contract:∀ (W:World) (base:Nat) (args:Array Value) (ds gs:List (DataW H)) (before:List MemPlace),(∀ (j:Nat) t v,fn.params[j]?=some t->args[j]?=some v->Value.okWide C.prog W .any base t v)->DataW.Whole enc C.prog fn.params.toList s.vars apart W args.toList ds gs before->X W->W.ShapedOpen C.prog ->
   Calls C.prog f args W fun e W'=>∃ v,e=.returned v/\s.post enc C.prog fn apart fresh handsOn again W args v W') :
  ReturnsInHanded a C os f .any (fun w args=>(s.pre enc C.prog fn conds apart w args/\X w)/\sizedMet enc C.prog fn (OpenSpec.ofChange s) apart w args) (s.post enc C.prog fn apart fresh handsOn again):=by
 refine returnsInHanded_of_calls own started noInit witness fun w tape i _ hsh _ hok hpre _=>?_
 obtain ⟨_,_,_,fn',hfn',_,_,_,_,hval⟩:=hok
 obtain rfl:fn'=fn:=Option.some.inj (hfn'.symm.trans hfn)
 obtain ⟨⟨⟨ds,gs,before,hw,_⟩,hx⟩,_⟩:=hpre
 refine (contract (w.forCall tape i) w.heap.size i.args ds gs before hval (DataW.Whole.of_heap (w:=(w.forCall tape i).memory) (w':=w.forCall tape i) rfl hw) (hX (w.forCall tape i).memory _ rfl hx) hsh).mono fun e W' ⟨v,he,hp⟩=>?_
 subst he
 exact ChangeSpec.post_blind hp
end Go.Sym.B
