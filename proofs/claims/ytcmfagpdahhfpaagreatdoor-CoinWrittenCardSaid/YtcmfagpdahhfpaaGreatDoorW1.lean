/- Walks and what they compute, joined: part 1. -/
import Derived.Test.YtcmfagpdahhfpaaGreatDoorWB2
import Derived.Lib.AppendIntMem
import Derived.WalkKit
import Derived.BigCall
import Derived.WalkSmall
import Derived.Recover
import Derived.TacticsInMore
import Derived.RegionIn
import Derived.RecoverIn
import Derived.Lib.CountLaws
import Derived.Lib.ItoaNum
import Derived.Lib.IndexMore
import Derived.IntWalk
import Derived.Test.YtcmfagpdahhfpaaGreatDoorRows
import Derived.MakeChecks
import Derived.LaidSub
import Derived.LaidMore
import Derived.Lib.LaidU8
import Derived.Lib.LaidTab
import Derived.Shelf.Vars
import Derived.Handed
import GoSem.PinnedTables
set_option linter.all false
set_option maxRecDepth 100000
set_option maxHeartbeats 40000000
namespace Go.Sym.B
open Go Go.Sym Go.Proofs Go.Proofs.Tryz Go.Sym.C Go.RowKit
def _root_.Go.Sym.vz {a b:Prop} (x:a) (y:b):a/\b:=⟨x,y⟩
def _root_.Go.Sym.uq:=@YF
def _root_.Go.Sym.ux:=@UC
def _root_.Go.Sym.uz:=@Qct
def _root_.Go.Sym.uj:=@QgH
def _root_.Go.Sym.uk:=@Qei
def _root_.Go.Sym.uw:=@QdH
def _root_.Go.Sym.uv:=@Qbd
def _root_.Go.Sym.vq:=@Qiz
def _root_.Go.Sym.vx:=@Qfe
def Xq (w : World) : Prop := Lib.TabIs prog w "internal/strconv.uint64pow10" .u64 Lib.pow10Tab
def aS (s:List UInt8):AV:=.v (.string ⟨⟨s⟩⟩)
def qb (l:List (List UInt8)):AV:=.sl (l.map qp)
def xY:List DV->List UInt8
 |[.v (.string ⟨⟨s⟩⟩)]=>s
 |_=>[]
def jA (l:List (List UInt8)):(l.map qp).map xY=l:=by rw [bO];exact (bP fun _ _=>rfl).trans (List.map_id _)
def RL (l:List (List UInt8)):zu 1 (l.map qp)=True:=yX (f:=qp) (k:=1) (fun _=>rfl) l
def dg (n:Int):List UInt8:=Lib.itoa n
def QY {n:Int} (h0:0<=n) (h1:n < 1000):(dg n).length<=3:=by
 unfold dg Lib.itoa;rw [if_neg (by omega),Lib.decDigits_length]
 have h:n.toNat < 1000:=by omega
 by_cases h2:n.toNat < 10
 ·rw [Lib.nDigits_small h2];decide
 ·by_cases h3:n.toNat < 100
  ·rw [Lib.nDigits_unique 1 _ (by omega) (by omega)];decide
  ·rw [Lib.nDigits_unique 2 _ (by omega) (by omega)];decide
def jnd (w:List UInt8) (l:List Int):List UInt8:=w++l.flatMap fun n=>32 :: dg n
def QiH (w:List UInt8):jnd w []=w:=by simp [jnd]
def Qe0 (w:List UInt8) (l:List Int) {k:Nat} (h:k < l.length):jnd w (l.take (k+1))=jnd w (l.take k)++([32]++dg (l.getD k 0)):=by
 unfold jnd;rw [cI,al h,cX]
 simp [ah,h]
def QaP {α:Type} (f:α->List UInt8) (m:Nat):∀ (l:List α),(∀ x ∈ l,(f x).length<=m)->(l.flatMap f).length<=l.length * m
 |[],_=>by simp
 |x :: l,h=>by
  have h1:=QaP f m l fun y hy=>h y (.tail _ hy)
  have h2:=h x (.head _);rw [cM,aD,bl,cA]
  omega
def xh (w:List UInt8) (l:List Int) (h:∀ n ∈ l,0<=n/\n < 1000):(jnd w l).length<=w.length+l.length * 4:=by
 unfold jnd;rw [aD]
 have:=QaP (fun n=>32 :: dg n) 4 l fun n hn=>by have:=QY (h n hn).1 (h n hn).2;simp;omega
 omega
def xQ (r:List Sh):List UInt8:=[114,97,116,101,115]++r.flatMap fun s=>[32]++dg s.num++[47]++dg s.den
def QbF (r:List Sh) {k:Nat} (h:k < r.length):xQ (r.take (k+1))=xQ (r.take k)++([32]++dg (r.getD k default).num++[47]++dg (r.getD k default).den):=by
 unfold xQ;rw [cI,al h,cX]
 simp [ah,h]
def Yk (r:List Sh) (h:∀ s ∈ r,(0<=s.num/\s.num < 1000)/\0<=s.den/\s.den < 1000):(xQ r).length<=5+r.length * 8:=by
 unfold xQ;rw [aD]
 have:=QaP (fun s:Sh=>[32]++dg s.num++[47]++dg s.den) 8 r fun s hs=>by
  have h1:=QY (h s hs).1.1 (h s hs).1.2;have h2:=QY (h s hs).2.1 (h s hs).2.2
  simp;omega
 simp at this ⊢;omega
def kG (k:Int):List UInt8:=if k=1 then [116,97,107,101] else if k=2 then [112,97,121] else if k=3 then [115,119,97,112] else if k=4 then [99,111,117,110,116] else []
def Yw (x:Ent):List UInt8:=if x.kind=3 then jnd (jnd (dg x.day++[32]++kG x.kind) [x.coin,x.amount]) [x.to,x.got] else jnd (dg x.day++[32]++kG x.kind) [x.coin,x.amount]
def WH (l:Led) (k:Nat):List (List UInt8):=(l.coins.take k).map (jnd [99,111,105,110])
def ZC (l:Led) (k:Nat):List (List UInt8):=WH l l.coins.length++(l.rates.take k).map fun r=>xQ (r.drop 1)
def Qc (l:Led) (k:Nat):List (List UInt8):=ZC l l.rates.length++[jnd [115,116,97,114,116] l.start]++(l.entries.take k).map Yw
def vV (l:Led):List UInt8 × Int:=if qO l=0 then (Lib.join (Qc l l.entries.length++[[98,97,108,97,110,99,101]]) [10]++[10],0) else ([],qO l)
def QeK (sep:List UInt8) (m:Nat):∀ l:List (List UInt8),(∀ x ∈ l,x.length<=m)->(Lib.joinTail sep l).length<=l.length * (m+sep.length)
 |[],_=>by simp [Lib.joinTail]
 |x :: l,h=>by
  have h1:=QeK sep m l fun y hy=>h y (.tail _ hy)
  have h2:=h x (.head _);have e:Lib.joinTail sep (x :: l)=sep++x++Lib.joinTail sep l:=by simp [Lib.joinTail]
  rw [e,aD,aD,bl,cA];omega
def QkM {l:List (List UInt8)} {sep:List UInt8} {m:Nat} (h:∀ x ∈ l,x.length<=m):(Lib.join l sep).length<=l.length * (m+sep.length):=by
 match l,h with
 |[],_=>rw [Lib.join_nil];exact af _
 |x :: l,h =>
  have h1:=QeK sep m l fun y hy=>h y (.tail _ hy)
  have h2:=h x (.head _);rw [Lib.join_cons,aD,bl,cA]
  omega
def QhD (n:Int) (h0:-9223372036854775808<=n) (h1:n<=9223372036854775807):Fn (jh Xq) prog 43 [aI n] noH (aS (dg n)) noH 0:=Fn.of_callsT (fun vs w=>by kernel_rfl) rfl fun w ok ρ y vs hT _ hs ha=>by
 obtain ⟨v,rfl⟩:∃ v,vs=#[v]:=by
  match vs,hs with
  |⟨[v]⟩,_=>exact ⟨v,rfl⟩
 have h2:=ha 0 _ rfl;have h2:ARel w ok ρ y (.v (.int .i64 n)) v:=h2
 cases h2 with
 |v _ =>
  refine wo (Tryz.strconv_Itoa n h0 h1 w hT) fun e w' ⟨he,k,os,hw⟩=>⟨he, ?_⟩
  rw [hw];exact Lib.below_grow _ _ (ag _) _ _
def QiM (l:List (List UInt8)) (sep:List UInt8) (h1:l.length<=100000) (h2:(Lib.join l sep).length<=140737488355328):FnV prog 45 [qb l,aS sep] (aS (Lib.join l sep)):=Fn.of_calls (fun vs w=>by kernel_rfl) rfl fun w ok ρ y vs _ hs ha=>by
 obtain ⟨v,u,rfl⟩:∃ v u,vs=#[v,u]:=by
  match vs,hs with
  |⟨[v,u]⟩,_=>exact ⟨v,u,rfl⟩
 have h3:ARel w ok ρ y (aS sep) u:=ha 1 _ rfl;have h4:=Qio (show ARel w ok ρ y (.sl (l.map qp)) v from ha 0 _ rfl)
 unfold aS at h3;cases h3 with
 |v _ =>
  rcases h4 with ⟨rfl,a,c,rfl⟩|⟨b,o,c,rfl,hp,hc,hm,hb,hcell⟩
  ·exact wo (Tryz.strings_Join_none a c ⟨⟨sep⟩⟩ w) fun e w' ⟨he,hw⟩=>⟨he,by rw [hw];exact Below.refl _ _⟩
  ·have e1:(l.map fun s=>(⟨⟨s⟩⟩:ByteArray)).map (·.data.toList)=l:=by rw [bO];exact (bP fun _ _=>rfl).trans (List.map_id _)
   have:=Tryz.strings_Join b o c (l.map fun s=>(⟨⟨s⟩⟩:ByteArray)) ⟨⟨sep⟩⟩ w (fun j x hx=>by
    rw [aC] at hx;obtain ⟨s,hs,rfl⟩:=aA.1 hx
    exact hcell j s hs) hb (by simp;omega) (by simp;omega) (by rw [e1];exact h2)
   rw [e1] at this;simp only [ab] at this
   exact this
def YG:List AV->Prop × AV
 |[.v (.int .i64 n)]=>(-9223372036854775808<=n/\n<=9223372036854775807,aS (dg n))
 |_=>(False,.junk)
def QjP:qc (zQ Xq) prog 43 (zD true YG):=xX fun vs hv h=>by
 clear hv;unfold YG at h ⊢
 split at h
 ·rename_i n;obtain ⟨k0,k1⟩:=h
  refine ⟨by first|trivial|(repeat' split) <;> simp [AV.plain,AV.plainL,aI,aB,qj,aBunks,aTks,aBunk,aTk,cTk,aS,qb],fun _=>(by simp [AV.flat,aS]), ?_⟩
  have:=QhD n k0 k1;simp only [aI] at this
  first|exact this|(simp only [aI];exact this)
 ·exact h.elim
def QeP:List AV->Prop × AV
 |[.sl l,.v (.string ⟨⟨s⟩⟩)]=>(l=(l.map xY).map qp/\(l.map xY).length<=100000/\(Lib.join (l.map xY) s).length<=140737488355328,aS (Lib.join (l.map xY) s))
 |_=>(False,.junk)
def ejoin {A:Frm->Prop}:qc A prog 45 (zD true QeP):=qL fun vs hv h=>by
 clear hv;unfold QeP at h ⊢
 split at h
 ·rename_i l s;obtain ⟨q0,k0,k1⟩:=h
  refine ⟨by first|trivial|(repeat' split) <;> simp [AV.plain,AV.plainL,aI,aB,qj,aBunks,aTks,aBunk,aTk,cTk,aS,qb],fun _=>(by simp [AV.flat,aS]), ?_⟩
  have:=QiM (l.map xY) s k0 k1;simp only [aS,qb,<- q0] at this
  first|exact this|(simp only [aS,qb,<- q0];exact this)
 ·exact h.elim
def jnS (w:List UInt8) (l:List Int) (k:Nat):St:={ t:=asg [(0,aS (jnd w (l.take k))),(7,.sl (l.map ql)),(8,aI l.length),(9,aI k)],h:=qf [],n:=0 }
def Zi:=vz @ty3 (vz @ty9 (vz @jK (vz @ti3.eq_1 (vz @ti9.eq_1 @jr.eq_1))))
def JO:=vz @aI.eq_1 (vz @aB.eq_1 (vz @qj.eq_1 (vz @ql.eq_1 (@ZG))))
def Qec (w:List UInt8) (l:List Int) (hw:w.length<=10000) (hl:l.length<=100) (hn:∀ n ∈ l,0<=n/\n < 1000):Fn (jh Xq) prog 65 [aS w,qj l] noH (aS (jnd w l)) noH 0:=by
 have env:=qz (A:=zQ Xq) (kC QjP kN);refine kT (Fn0 func65 rfl (fun vs w=>by kernel_rfl) (by kernel_rfl)) (by simp) (by simp [AV.ids,qj,aS]) ?_
 have hmx:(100:Nat)<=maxLen:=by decide
 repeat' first|(apply nx;with_reducible constructor)|apply uq (by decide)|((first|apply uz env|apply uj);intro Q hQ;simp only [vkt,seval,Zi,JO,aS,ite_and];(repeat' first|with_reducible assumption|apply vz|intro hp);all_goals first|(apply hQ;clear hQ Q)|(apply ux;kernel_rfl)|omega|assumption|with_reducible rfl|skip)
 refine qi (fun s:{ s:Nat // s<=l.length }=>jnS w l s.1) (fun s=>l.length - s.1) ⟨0,af _⟩ ?_ fun ⟨k,hk⟩=>?_
 ·simp only [jnS,List.take_zero,QiH]
  (refine Le.ok some [] ?_;constructor;all_goals (try simp only [vle,vkt,seval,JO,aS]))
  all_goals first|rfl|simp
 simp only at hk ⊢;have hj:=xh w (l.take k) fun n hm=>hn n (aY hm)
 have hj2:(l.take k).length<=100:=by simp;omega
 by_cases hlt:k < l.length
 ·have d1:decide ((k:Int) < (l.length:Int))=true:=decide_eq_true (by omega)
  have e9:=k9 k (by omega)
  have hS:=Qe0 w l hlt;have hx:=ZG l k
  have hb:=hn _ (jb (d:=0) hlt);generalize l.getD k 0=n at hx hb hS
  have hd:=QY hb.1 hb.2;obtain ⟨W,hW⟩:∃ W,jnd w (l.take k)=W:=⟨_,rfl⟩
  rw [hW] at hS hj;simp only [jnS,hW]
  have b0:-9223372036854775808<=n:=by omega
  have b1:n<=9223372036854775807:=by omega
  have b2:[(32:UInt8)].length+(dg n).length<=9223372036854775807:=by simp;omega
  have b3:W.length+([(32:UInt8)]++dg n).length<=9223372036854775807:=by simp;omega
  repeat' first|(apply nx;with_reducible constructor)|apply uq (by decide)|((first|apply uz env|apply uj);intro Q hQ;simp only [vkt,seval,Zi,JO,aS,YG,d1,e9,hx,ite_and];(repeat' first|with_reducible assumption|apply vz|intro hp);all_goals first|(apply hQ;clear hQ Q)|(apply ux;kernel_rfl)|omega|assumption|with_reducible rfl|skip)
  refine ⟨⟨k+1,hlt⟩,by show l.length - (k+1) < l.length - k;omega, ?_⟩
  simp only [hS]
  (refine Le.ok some [] ?_;constructor;all_goals (try simp only [vle,vkt,seval,JO,aS]))
  all_goals first|rfl|simp
 ·have d1:decide ((k:Int) < (l.length:Int))=false:=decide_eq_false (by omega)
  obtain rfl:k=l.length:=by omega
  simp only [jnS,bx]
  repeat' first|(apply nx;with_reducible constructor)|apply uq (by decide)|((first|apply uz env|apply uj);intro Q hQ;simp only [vkt,seval,Zi,JO,aS,d1,ite_and];(repeat' first|with_reducible assumption|apply vz|intro hp);all_goals first|(apply hQ;clear hQ Q)|(apply ux;kernel_rfl)|omega|assumption|with_reducible rfl|skip)
  (simp only [vrt,results65,vkt,seval,aS];refine Fin.val rfl ?_;(try simp only [AV.le]))
  all_goals first|rfl|simp
def Qk:List AV->Prop × AV
 |[.v (.string ⟨⟨w⟩⟩),.sl l]=>(l=(l.map qE).map ql/\w.length<=10000/\(l.map qE).length<=100/\∀ n ∈ (l.map qE),0<=n/\n < 1000,aS (jnd w (l.map qE)))
 |_=>(False,.junk)
def Qix:qc (zQ Xq) prog 65 (zD true Qk):=xX fun vs hv h=>by
 clear hv;unfold Qk at h ⊢
 split at h
 ·rename_i w l;obtain ⟨q0,k0,k1,k2⟩:=h
  refine ⟨by first|trivial|(repeat' split) <;> simp [AV.plain,AV.plainL,aI,aB,qj,aBunks,aTks,aBunk,aTk,cTk,aS,qb],fun _=>(by simp [AV.flat,aS]), ?_⟩
  have:=Qec w (l.map qE) k0 k1 k2;simp only [qj,aS,<- q0] at this
  first|exact this|(simp only [qj,aS,<- q0];exact this)
 ·exact h.elim
end Go.Sym.B
namespace Go.Sym.B
open Go Go.Sym Go.Proofs Go.Proofs.Tryz Go.Sym.C
structure TxOk (l:Led):Prop where
 c:l.coins.length<=4
 cs:∀ p ∈ l.coins,p.length<=4/\∀ n ∈ p,0<=n/\n < 1000
 r:l.rates.length<=4
 rs:∀ r ∈ l.rates,(1<=r.length/\r.length<=4)/\∀ s ∈ r,(0<=s.num/\s.num < 1000)/\0<=s.den/\s.den < 1000
 s:l.start.length<=4/\∀ n ∈ l.start,0<=n/\n < 1000
 e:l.entries.length<=6
 es:∀ x ∈ l.entries,(1<=x.kind/\x.kind<=4)/\(0<=x.day/\x.day < 1000)/\(0<=x.coin/\x.coin < 1000)/\(0<=x.amount/\x.amount < 1000)/\(x.kind=3->(0<=x.to/\x.to < 1000)/\0<=x.got/\x.got < 1000)
def QiX {r:List Sh} {n:Int} (h:yw r n=0):(r.length:Int)=n/\∀ s ∈ r,(0<=s.num/\s.num < 1000)/\0<=s.den/\s.den < 1000:=by
 unfold yw at h;split at h
 ·exact absurd h (by decide)
 rename_i a1;split at h
 ·exact absurd h (by decide)
 rename_i a2;refine ⟨Decidable.not_not.1 a1,fun s hs=>?_⟩
 obtain ⟨j,hj,rfl⟩:=bB hs;have e:r[j]=r.getD j default:=by simp [ah,hj]
 rw [e];cases j with
 |zero=>rw [Decidable.not_not.1 a2];decide
 |succ j =>
  have h2:=ku h (k:=j) (by omega)
  unfold YE at h2;rw [bR 1 j] at h2
  generalize r.getD (j+1) default=s at *;change shE s=0 at h2
  unfold shE at h2;split at h2
  ·exact absurd h2 (by decide)
  rename_i b1;split at h2
  ·exact absurd h2 (by decide)
  rename_i b2;have b1:1<=s.num/\s.num<=20:=by simpa [inB] using b1
  have b2:1<=s.den/\s.den<=12:=by simpa [inB] using b2
  omega
def QcM {l:Led} (h:Val l):TxOk l:=by
 have hc:=h.c;have hr:=h.r
 refine ⟨hc.2,fun p hp=>?_,hr.2,fun r hm=>?_,⟨by rw [h.sl];exact hc.2,fun n hn=>by have:=h.s n hn;omega⟩,h.e,fun x hx=>?_⟩
 ·obtain ⟨j,hj,rfl⟩:=bB hp
  have h1:=Qcx (h.cs j hj);have e:l.coins[j]=l.coins.getD j []:=by simp [ah,hj]
  rw [e];exact ⟨h1.l.2,fun n hn=>by have:=h1.b n hn;omega⟩
 ·obtain ⟨j,hj,rfl⟩:=bB hm
  obtain ⟨h1,h2⟩:=QiX (h.rs j hj);have e:l.rates[j]=l.rates.getD j []:=by simp [ah,hj]
  rw [e];exact ⟨by omega,h2⟩
 ·obtain ⟨j,hj,rfl⟩:=bB hx
  have e:l.entries[j]=l.entries.getD j default:=by simp [ah,hj]
  rw [e];have g:=QN h hj
  have g1:=g.day;have g2:=g.coin
  have g3:=g.am;refine ⟨g.kind,by omega,by omega,by omega,fun hk=>?_⟩
  have:=g.to hk;have:=g.got hk
  omega
def Qdq (l:Led) {k:Nat} (h:k < l.coins.length):WH l (k+1)=WH l k++[jnd [99,111,105,110] (l.coins.getD k [])]:=by
 unfold WH;rw [cI,al h,ai]
 simp [ah,h]
def Qd5 (l:Led) {k:Nat} (h:k < l.rates.length):ZC l (k+1)=ZC l k++[xQ ((l.rates.getD k []).drop 1)]:=by
 unfold ZC;rw [cI,al h,ai]
 simp [ah,h]
def QdF (l:Led) {k:Nat} (h:k < l.entries.length):Qc l (k+1)=Qc l k++[Yw (l.entries.getD k default)]:=by
 unfold Qc;rw [cI,al h,ai]
 simp [ah,h]
def QgI (l:Led) {k:Nat} (h:k<=l.coins.length):(WH l k).length=k:=by simp [WH];omega
def Ll (l:Led) {k:Nat} (h:k<=l.rates.length):(ZC l k).length=l.coins.length+k:=by simp [ZC,WH];omega
def VK (l:Led) {k:Nat} (h:k<=l.entries.length):(Qc l k).length=l.coins.length+l.rates.length+1+k:=by simp [Qc,ZC,WH];omega
def KF (k:Int):(kG k).length<=5:=by unfold kG;repeat' split <;> try decide
def UE {x:Ent} (h:(1<=x.kind/\x.kind<=4)/\(0<=x.day/\x.day < 1000)/\(0<=x.coin/\x.coin < 1000)/\(0<=x.amount/\x.amount < 1000)/\(x.kind=3->(0<=x.to/\x.to < 1000)/\0<=x.got/\x.got < 1000)):(Yw x).length<=100:=by
 obtain ⟨_,h1,h2,h3,h4⟩:=h;have a1:=QY h1.1 h1.2
 have a2:=KF x.kind;have a3:=xh (dg x.day++[32]++kG x.kind) [x.coin,x.amount] fun n hn=>by simp at hn;rcases hn with rfl|rfl <;> assumption
 simp at a3
 unfold Yw;split
 ·rename_i hk
  obtain ⟨h5,h6⟩:=h4 hk;have a4:=xh (jnd (dg x.day++[32]++kG x.kind) [x.coin,x.amount]) [x.to,x.got] fun n hn=>by simp at hn;rcases hn with rfl|rfl <;> assumption
  simp at a4 ⊢
  omega
 ·simp
  omega
def QhH {l:Led} (h:TxOk l):(Lib.join (Qc l l.entries.length++[[98,97,108,97,110,99,101]]) [10]).length<=100000:=by
 refine bj (QkM (m:=100) fun y hy=>?_) ?_
 ·unfold Qc ZC WH at hy
  simp only [au,aj,aM] at hy
  rcases hy with (((⟨p,hp,rfl⟩|⟨r,hr,rfl⟩)|rfl)|⟨x,hx,rfl⟩)|rfl
  ·obtain ⟨g1,g2⟩:=h.cs p (aY hp)
   have:=xh [99,111,105,110] p g2
   simp at this ⊢;omega
  ·obtain ⟨g1,g2⟩:=h.rs r (aY hr)
   have:=Yk (r.drop 1) fun s hs=>g2 s (aW hs)
   simp at this ⊢;omega
  ·have:=xh [115,116,97,114,116] l.start h.s.2
   have:=h.s.1
   simp at *;omega
  ·exact UE (h.es x (aY hx))
  ·decide
 ·have:=h.c
  have:=h.r;have:=h.e
  rw [aD,VK l (ag _)]
  simp
  omega
def UV:=vz @ty9 (vz @Ls (vz @ti9.eq_1 @VC.eq_1))
def Qfo:FnV prog 66 [] (qb [[],[116,97,107,101],[112,97,121],[115,119,97,112],[99,111,117,110,116]]):=by
 have env:=qz (A:=fun _=>True) kN
 refine kV (Fn0 func66 rfl (fun vs w=>by kernel_rfl) (by kernel_rfl)) (by simp) (by simp []) ?_
 have q1:(5:Nat)<=maxLen:=by decide
 repeat' first|(apply nx;with_reducible constructor)|apply uq (by decide)|((first|apply uz env|apply uj);intro Q hQ;simp only [vkt,seval,UV,ite_and];(repeat' first|with_reducible assumption|apply vz|intro hp);all_goals first|(apply hQ;clear hQ Q)|(apply ux;kernel_rfl)|omega|assumption|with_reducible rfl|skip)
 (simp only [vrt,results66,vkt,seval];refine Fin.val rfl ?_;(try simp only [AV.le]))
 all_goals first|exact ⟨_,_,rfl⟩|rfl|(simp;done)
def yc:List AV->Prop × AV
 |[]=>(True,qb [[],[116,97,107,101],[112,97,121],[115,119,97,112],[99,111,117,110,116]])
 |_=>(False,.junk)
def QbB {A:Frm->Prop}:qc A prog 66 (zD false yc):=qL fun vs hv h=>by
 clear hv;unfold yc at h ⊢
 split at h
 ·clear h
  refine ⟨by first|trivial|(repeat' split) <;> simp [AV.plain,AV.plainL,aI,aB,qj,aBunks,aTks,aBunk,aTk,cTk,aS,qb],fun h=>absurd h (by decide), ?_⟩
  have:=Qfo
  first|exact this|(simp only [];exact this)
 ·exact h.elim
def wr1 (l:Led) (k:Nat):St:={ t:=asg [(1,.ptr 0 0),(5,.row 1),(22,.sl (l.coins.map qG)),(23,aI l.coins.length),(24,aI k)],h:=qf [(0,.cells (qY l)),(1,.row 9 1 ((WH l k).map qp))],n:=2 }
def wr2 (l:Led) (k:Nat):St:={ t:=asg [(1,.ptr 0 0),(5,.row 1),(35,.sl (l.rates.map wM)),(36,aI l.rates.length),(37,aI k)],h:=qf [(0,.cells (qY l)),(1,.row 9 1 ((ZC l k).map qp))],n:=2 }
def wr2i (l:Led) (k:Nat) (K:List (List UInt8)) (r:List Sh) (q:Nat):St:={ t:=asg [(1,.ptr 0 0),(5,.row 1),(35,.sl (l.rates.map wM)),(36,aI l.rates.length),(37,aI k),(10,aS (xQ (r.take q))),(42,.sl (r.map eSh)),(43,aI r.length),(44,aI q)],h:=qf [(0,.cells (qY l)),(1,.row 9 1 (K.map qp))],n:=2 }
def wr3 (l:Led) (k:Nat):St:={ t:=asg [(1,.ptr 0 0),(5,.row 1),(72,.sl (l.entries.map wz)),(73,aI l.entries.length),(74,aI k)],h:=qf [(0,.cells (qY l)),(1,.row 9 1 ((Qc l k).map qp))],n:=2 }
def QdE:xQ []=[114,97,116,101,115]:=by simp [xQ]
def Uf (n:Int):qE [.v (.int .i64 n)]=n:=rfl
def QkV (r:List Sh):((r.map eSh).drop 1)=(r.drop 1).map eSh:=by rw [bA]
def zN:=vz @ty3 (vz @ty9 (vz @jK (vz @Ls (vz @WU (vz @Zv (vz @Yj (vz @Y9 (vz @xI (vz @xW (vz @QL (vz @kD (vz @ti3.eq_1 (vz @ti9.eq_1 (vz @jr.eq_1 (vz @VC.eq_1 (vz @Zy.eq_1 (vz @Qo.eq_1 (vz @WG.eq_1 (vz @JZ.eq_1 (vz @vO.eq_1 (vz @vD.eq_1 (vz @xS.eq_1 @vR.eq_1))))))))))))))))))))))
def zF:=vz @aI.eq_1 (vz @aB.eq_1 (vz @qj.eq_1 (vz @ql.eq_1 (vz @qG.eq_1 (vz @eSh.eq_1 (vz @wM.eq_1 (vz @wz.eq_1 (vz @zo.eq_1 (vz @qY.eq_1 (vz @kE (vz @xV (vz @Rn (vz @mSh (vz @W9 (vz @xR (vz @yF (@rSh)))))))))))))))))
def Qfb (l:Led) (hf:Fit l):Fn (jh Xq) prog 20 [zo l] noH (.tup [aS (vV l).1,aI (vV l).2]) noH 0:=by
 have env:=qz (A:=zQ Xq) (kC e50 (kC QjP (kC ejoin (kC Qix (kC QbB kN)))));refine kT (Fn0 func20 rfl (fun vs w=>by kernel_rfl) (by kernel_rfl)) (by simp) (by simp [AV.ids,AV.idsL,zo,qY]) ?_
 have ec:(⟨l.coins,l.rates,l.start,l.entries⟩:Led)=l:=rfl;have hmx:(100000:Nat)<=maxLen:=by decide
 obtain ⟨e,he⟩:∃ e,qO l=e:=⟨_,rfl⟩
 by_cases h0:e=0
 ·rw [h0] at he
  have hv:=QcM (Qv he);have hjl:=QhH hv
  have hc4:=hv.c;have hr4':=hv.r
  have he6:=hv.e;have hs4:=hv.s.1
  have hE:vV l=(Lib.join (Qc l l.entries.length++[[98,97,108,97,110,99,101]]) [10]++[10],0):=by unfold vV;rw [if_pos he]
  rw [hE]
  repeat' first|(apply nx;with_reducible constructor)|apply uq (by decide)|((first|apply uz env|apply uj);intro Q hQ;simp only [vkt,seval,zN,zF,s50,ec,he,hf,ite_and];(repeat' first|with_reducible assumption|apply vz|intro hp);all_goals first|(apply hQ;clear hQ Q)|(apply ux;kernel_rfl)|omega|assumption|with_reducible rfl|skip)
  refine qi (fun s:{ s:Nat // s<=l.coins.length }=>wr1 l s.1) (fun s=>l.coins.length - s.1) ⟨0,af _⟩ ?_ fun ⟨k,hk⟩=>?_
  ·simp only [wr1,show WH l 0=[] from rfl]
   (refine Le.ok (fun i=>if i=1 then none else some i) [] ?_;constructor;all_goals (try simp only [vle,vkt,seval,zF]))
   all_goals first|rfl|simp
  simp only at hk ⊢
  by_cases hlt:k < l.coins.length
  ·have d1:decide ((k:Int) < (l.coins.length:Int))=true:=decide_eq_true (by omega)
   have e9:IntKind.wrap .i64 ((k:Int)+1)=((k+1:Nat):Int):=by have:=hv.c;rw [wrap64 (by omega) (by omega)];rfl
   have hS:=Qdq l hlt;have hl:=QgI l hk
   have hx:=Xi l.coins k;obtain ⟨hb1,hb2⟩:=hv.cs _ (jb (d:=[]) hlt)
   obtain ⟨K,hK⟩:∃ K,WH l k=K:=⟨_,rfl⟩;rw [hK] at hS hl
   simp only [wr1,hK];generalize l.coins.getD k []=p at hx hb1 hb2 hS
   have hm:K.length+1<=maxLen:=by have:=hv.c;omega
   have e4:K.map qp++[[.v (.string ⟨⟨jnd [99,111,105,110] p⟩⟩)]]=(WH l (k+1)).map qp:=by rw [hS,ai];rfl
   have q1:[(99:UInt8),111,105,110].length<=10000:=by decide
   have q2:p.length<=100:=by omega
   repeat' first|(apply nx;with_reducible constructor)|apply uq (by decide)|((first|apply uz env|apply uj);intro Q hQ;simp only [vkt,seval,zN,zF,aS,RL,Qk,d1,e9,hx,hm,e4,q2,ite_and];(repeat' first|with_reducible assumption|apply vz|intro hp);all_goals first|(apply hQ;clear hQ Q)|(apply ux;kernel_rfl)|omega|assumption|with_reducible rfl|skip)
   refine ⟨⟨k+1,hlt⟩,by show l.coins.length - (k+1) < l.coins.length - k;omega, ?_⟩
   (refine Le.ok (fun i=>if i=1 then some 3 else some i) [] ?_;constructor;all_goals (try simp only [vle,vkt,seval,zF]))
   all_goals first|rfl|(simp;done)|(intro i hi;rw [if_neg (by omega)];done)
  have d1:decide ((k:Int) < (l.coins.length:Int))=false:=decide_eq_false (by omega)
  obtain rfl:k=l.coins.length:=by omega
  have hB0:ZC l 0=WH l l.coins.length:=by simp [ZC]
  simp only [wr1,<- hB0]
  repeat' first|(apply nx;with_reducible constructor)|apply uq (by decide)|((first|apply uz env|apply uj);intro Q hQ;simp only [vkt,seval,zN,zF,d1,ite_and];(repeat' first|with_reducible assumption|apply vz|intro hp);all_goals first|(apply hQ;clear hQ Q)|(apply ux;kernel_rfl)|omega|assumption|with_reducible rfl|skip)
  refine qi (fun s:{ s:Nat // s<=l.rates.length }=>wr2 l s.1) (fun s=>l.rates.length - s.1) ⟨0,af _⟩ ?_ fun ⟨k,hk⟩=>?_
  ·simp only [wr2]
   (refine Le.ok some [] ?_;constructor;all_goals (try simp only [vle,vkt,seval,zF]))
   all_goals first|rfl|simp
  clear hB0 d1;simp only at hk ⊢
  by_cases hlt:k < l.rates.length
  ·have d1:decide ((k:Int) < (l.rates.length:Int))=true:=decide_eq_true (by omega)
   have e9:IntKind.wrap .i64 ((k:Int)+1)=((k+1:Nat):Int):=by have:=hv.r;rw [wrap64 (by omega) (by omega)];rfl
   have hS:=Qd5 l hlt;have hl:=Ll l hk
   have hx:=gShs l.rates k;obtain ⟨hb1,hb2⟩:=hv.rs _ (jb (d:=[]) hlt)
   obtain ⟨K,hK⟩:∃ K,ZC l k=K:=⟨_,rfl⟩;rw [hK] at hS hl
   simp only [wr2,hK];generalize l.rates.getD k []=r0 at hx hb1 hb2 hS
   have hm:K.length+1<=maxLen:=by have:=hv.c;have:=hv.r;omega
   obtain ⟨r,hr⟩:∃ r,r0.drop 1=r:=⟨_,rfl⟩;have hrl:r.length<=4:=by rw [<- hr];simp;omega
   have hrb:∀ s ∈ r,(0<=s.num/\s.num < 1000)/\0<=s.den/\s.den < 1000:=fun s hs=>hb2 s (aW (hr ▸ hs))
   have hr2:=QkV r0;have hr3:r0.length - 1=r.length:=by rw [<- hr];simp
   rw [hr] at hS hr2;have hr4:(1:Int)<=(r0.length:Int):=by omega
   have hr5:(r0.map eSh).take r0.length=r0.map eSh:=bb (by simp)
   repeat' first|(apply nx;with_reducible constructor)|apply uq (by decide)|((first|apply uz env|apply uj);intro Q hQ;simp only [vkt,seval,zN,zF,d1,hx,hr5,hr2,hr4,ite_and];(repeat' first|with_reducible assumption|apply vz|intro hp);all_goals first|(apply hQ;clear hQ Q)|(apply ux;kernel_rfl)|omega|assumption|with_reducible rfl|skip)
   refine qi (fun s:{ s:Nat // s<=r.length }=>wr2i l k K r s.1) (fun s=>r.length - s.1) ⟨0,af _⟩ ?_ fun ⟨q,hq⟩=>?_
   ·simp only [wr2i,List.take_zero,QdE]
    (refine Le.ok some [] ?_;constructor;all_goals (try simp only [vle,vkt,seval,zF,aS]))
    all_goals first|rfl|simp
   simp only at hq ⊢
   by_cases hq1:q < r.length
   ·have d2:decide ((q:Int) < (r.length:Int))=true:=decide_eq_true (by omega)
    have e8:=k9 q (by omega)
    have hx3:=gSh r q;have hsq:=QbF r hq1
    have hj:=Yk (r.take q) fun s hs=>hrb s (aY hs)
    have hj2:(r.take q).length<=4:=by simp;omega
    obtain ⟨⟨n0,n1⟩,n2,n3⟩:=hrb _ (jb (d:=default) hq1);obtain ⟨V,hV⟩:∃ V,xQ (r.take q)=V:=⟨_,rfl⟩
    rw [hV] at hsq hj;simp only [wr2i,hV]
    generalize r.getD q default=s0 at hx3 n0 n1 n2 n3 hsq;obtain ⟨nu,de⟩:=s0
    dsimp only at n0 n1 n2 n3;have dl1:=QY n0 n1
    have dl2:=QY n2 n3;have c0:-9223372036854775808<=nu:=by omega
    have c1:nu<=9223372036854775807:=by omega
    have c2:-9223372036854775808<=de:=by omega
    have c3:de<=9223372036854775807:=by omega
    have b1:[(32:UInt8)].length+(dg nu).length<=9223372036854775807:=by simp;omega
    have b2:([(32:UInt8)]++dg nu).length+[(47:UInt8)].length<=9223372036854775807:=by simp;omega
    have b3:([(32:UInt8)]++dg nu++[47]).length+(dg de).length<=9223372036854775807:=by simp;omega
    have b4:V.length+([(32:UInt8)]++dg nu++[47]++dg de).length<=9223372036854775807:=by simp;omega
    repeat' first|(apply nx;with_reducible constructor)|apply uq (by decide)|((first|apply uz env|apply uj);intro Q hQ;simp only [vkt,seval,zN,zF,aS,YG,d2,e8,hx3,ite_and];(repeat' first|with_reducible assumption|apply vz|intro hp);all_goals first|(apply hQ;clear hQ Q)|(apply ux;kernel_rfl)|omega|assumption|with_reducible rfl|skip)
    refine ⟨⟨q+1,hq1⟩,by show r.length - (q+1) < r.length - q;omega, ?_⟩
    simp only [hsq]
    (refine Le.ok some [] ?_;constructor;all_goals (try simp only [vle,vkt,seval,zF,aS]))
    all_goals first|rfl|simp
   ·have d2:decide ((q:Int) < (r.length:Int))=false:=decide_eq_false (by omega)
    obtain rfl:q=r.length:=by omega
    have e4:K.map qp++[[.v (.string ⟨⟨xQ r⟩⟩)]]=(ZC l (k+1)).map qp:=by rw [hS,ai];rfl
    simp only [wr2i,bx]
    repeat' first|(apply nx;with_reducible constructor)|apply uq (by decide)|((first|apply uz env|apply uj);intro Q hQ;simp only [vkt,seval,zN,zF,aS,RL,d2,e9,hm,e4,ite_and];(repeat' first|with_reducible assumption|apply vz|intro hp);all_goals first|(apply hQ;clear hQ Q)|(apply ux;kernel_rfl)|omega|assumption|with_reducible rfl|skip)
    refine ⟨⟨k+1,hlt⟩,by show l.rates.length - (k+1) < l.rates.length - k;omega, ?_⟩
    (refine Le.ok (fun i=>if i=1 then some 3 else some i) [] ?_;constructor;all_goals (try simp only [vle,vkt,seval,zF]))
    all_goals first|rfl|(simp;done)|(intro i hi;rw [if_neg (by omega)];done)
  have d1:decide ((k:Int) < (l.rates.length:Int))=false:=decide_eq_false (by omega)
  obtain rfl:k=l.rates.length:=by omega
  have hl:=Ll l (ag _);have hC0:Qc l 0=ZC l l.rates.length++[jnd [115,116,97,114,116] l.start]:=by simp [Qc]
  have hjs:=xh [115,116,97,114,116] l.start hv.s.2;obtain ⟨K,hK⟩:∃ K,ZC l l.rates.length=K:=⟨_,rfl⟩
  rw [hK] at hC0 hl;simp only [wr2,hK]
  have hm:K.length+1<=maxLen:=by omega
  have e4:K.map qp++[[.v (.string ⟨⟨jnd [115,116,97,114,116] l.start⟩⟩)]]=(Qc l 0).map qp:=by rw [hC0,ai];rfl
  have q1:[(115:UInt8),116,97,114,116].length<=10000:=by decide
  have q2:l.start.length<=100:=by omega
  have q3:=hv.s.2
  repeat' first|(apply nx;with_reducible constructor)|apply uq (by decide)|((first|apply uz env|apply uj);intro Q hQ;simp only [vkt,seval,zN,zF,aS,RL,Qk,d1,hm,e4,q2,ite_and];(repeat' first|with_reducible assumption|apply vz|intro hp);all_goals first|(apply hQ;clear hQ Q)|(apply ux;kernel_rfl)|omega|assumption|with_reducible rfl|skip)
  refine qi (fun s:{ s:Nat // s<=l.entries.length }=>wr3 l s.1) (fun s=>l.entries.length - s.1) ⟨0,af _⟩ ?_ fun ⟨q,hq⟩=>?_
  ·simp only [wr3]
   (refine Le.ok (fun i=>if i=1 then some 3 else some i) [] ?_;constructor;all_goals (try simp only [vle,vkt,seval,zF]))
   all_goals first|rfl|(simp;done)|(intro i hi;rw [if_neg (by omega)];done)
  simp only at hq ⊢;clear e4 d1 hm hl hK hC0
  by_cases hlt:q < l.entries.length
  ·have d1:decide ((q:Int) < (l.entries.length:Int))=true:=decide_eq_true (by omega)
   have e9:=k9 q (by omega)
   have hS:=QdF l hlt;have hl:=VK l hq
   have hx:=Qbs l.entries q;have hb:=hv.es _ (jb (d:=default) hlt)
   obtain ⟨K,hK⟩:∃ K,Qc l q=K:=⟨_,rfl⟩;rw [hK] at hS hl
   simp only [wr3,hK];generalize l.entries.getD q default=x at hx hb hS
   have hj:=UE hb;obtain ⟨dy,ki,co,to,am,go⟩:=x
   obtain ⟨g1,g2,g3,g4,g5⟩:=hb;dsimp only at g1 g2 g3 g4 g5
   have hm:K.length+1<=maxLen:=by omega
   have dl:=QY g2.1 g2.2;have c0:-9223372036854775808<=dy:=by omega
   have c1:dy<=9223372036854775807:=by omega
   have b1:(dg dy).length+[(32:UInt8)].length<=9223372036854775807:=by simp;omega
   have q5:(2:Nat)<=100:=by decide
   rcases (show ki=1\/ki=2\/ki=3\/ki=4 by omega) with rfl|rfl|rfl|rfl
   ·have hc0:Yw ⟨dy,1,co,to,am,go⟩=jnd (dg dy++[32]++[(116:UInt8),97,107,101]) [co,am]:=rfl
    rw [hc0] at hj hS;have e4:K.map qp++[[.v (.string ⟨⟨jnd (dg dy++[32]++[(116:UInt8),97,107,101]) [co,am]⟩⟩)]]=(Qc l (q+1)).map qp:=by rw [hS,ai];rfl
    have b2:(dg dy++[32]).length+[(116:UInt8),97,107,101].length<=9223372036854775807:=by simp;omega
    have b5:(dg dy++[32]).length<=9223372036854775803:=by simp;omega
    have b3:(dg dy++[32]++[(116:UInt8),97,107,101]).length<=10000:=by simp;omega
    have b4:∀ n ∈ [co,am],0<=n/\n < 1000:=fun n hn=>by simp at hn;rcases hn with rfl|rfl <;> omega
    repeat' first|(apply nx;with_reducible constructor)|apply uq (by decide)|((first|apply uz env|apply uj);intro Q hQ;simp only [vkt,seval,zN,zF,aS,qb,RL,qp,YG,Qk,yc,d1,e9,hx,hm,e4,b3,q5,dJ,dK,Uf,ite_and];(repeat' first|with_reducible assumption|apply vz|intro hp);all_goals first|(apply hQ;clear hQ Q)|(apply ux;kernel_rfl)|omega|assumption|with_reducible rfl|skip)
    refine ⟨⟨q+1,hlt⟩,by show l.entries.length - (q+1) < l.entries.length - q;omega, ?_⟩
    (refine Le.ok (fun i=>if i=1 then some 5 else some i) [] ?_;constructor;all_goals (try simp only [vle,vkt,seval,zF]))
    all_goals first|rfl|(simp;done)|(intro i hi;rw [if_neg (by omega)];done)
   ·have hc0:Yw ⟨dy,2,co,to,am,go⟩=jnd (dg dy++[32]++[(112:UInt8),97,121]) [co,am]:=rfl
    rw [hc0] at hj hS;have e4:K.map qp++[[.v (.string ⟨⟨jnd (dg dy++[32]++[(112:UInt8),97,121]) [co,am]⟩⟩)]]=(Qc l (q+1)).map qp:=by rw [hS,ai];rfl
    have b2:(dg dy++[32]).length+[(112:UInt8),97,121].length<=9223372036854775807:=by simp;omega
    have b5:(dg dy++[32]).length<=9223372036854775804:=by simp;omega
    have b3:(dg dy++[32]++[(112:UInt8),97,121]).length<=10000:=by simp;omega
    have b4:∀ n ∈ [co,am],0<=n/\n < 1000:=fun n hn=>by simp at hn;rcases hn with rfl|rfl <;> omega
    repeat' first|(apply nx;with_reducible constructor)|apply uq (by decide)|((first|apply uz env|apply uj);intro Q hQ;simp only [vkt,seval,zN,zF,aS,qb,RL,qp,YG,Qk,yc,d1,e9,hx,hm,e4,b3,q5,dJ,dK,Uf,ite_and];(repeat' first|with_reducible assumption|apply vz|intro hp);all_goals first|(apply hQ;clear hQ Q)|(apply ux;kernel_rfl)|omega|assumption|with_reducible rfl|skip)
    refine ⟨⟨q+1,hlt⟩,by show l.entries.length - (q+1) < l.entries.length - q;omega, ?_⟩
    (refine Le.ok (fun i=>if i=1 then some 5 else some i) [] ?_;constructor;all_goals (try simp only [vle,vkt,seval,zF]))
    all_goals first|rfl|(simp;done)|(intro i hi;rw [if_neg (by omega)];done)
   ·have hc0:Yw ⟨dy,3,co,to,am,go⟩=jnd (jnd (dg dy++[32]++[(115:UInt8),119,97,112]) [co,am]) [to,go]:=rfl
    rw [hc0] at hj hS;have e4:K.map qp++[[.v (.string ⟨⟨jnd (jnd (dg dy++[32]++[(115:UInt8),119,97,112]) [co,am]) [to,go]⟩⟩)]]=(Qc l (q+1)).map qp:=by rw [hS,ai];rfl
    have b2:(dg dy++[32]).length+[(115:UInt8),119,97,112].length<=9223372036854775807:=by simp;omega
    have b5:(dg dy++[32]).length<=9223372036854775803:=by simp;omega
    have b3:(dg dy++[32]++[(115:UInt8),119,97,112]).length<=10000:=by simp;omega
    have b4:∀ n ∈ [co,am],0<=n/\n < 1000:=fun n hn=>by simp at hn;rcases hn with rfl|rfl <;> omega
    obtain ⟨⟨t0,t1⟩,u0,u1⟩:=g5 rfl;have b6:∀ n ∈ [to,go],0<=n/\n < 1000:=fun n hn=>by simp at hn;rcases hn with rfl|rfl <;> omega
    have b7:(jnd (dg dy++[32]++[(115:UInt8),119,97,112]) [co,am]).length<=10000:=by have:=xh (dg dy++[32]++[(115:UInt8),119,97,112]) [co,am] b4;simp at this ⊢;omega
    repeat' first|(apply nx;with_reducible constructor)|apply uq (by decide)|((first|apply uz env|apply uj);intro Q hQ;simp only [vkt,seval,zN,zF,aS,qb,RL,qp,YG,Qk,yc,d1,e9,hx,hm,e4,b3,q5,dJ,dK,Uf,b7,ite_and];(repeat' first|with_reducible assumption|apply vz|intro hp);all_goals first|(apply hQ;clear hQ Q)|(apply ux;kernel_rfl)|omega|assumption|with_reducible rfl|skip)
    refine ⟨⟨q+1,hlt⟩,by show l.entries.length - (q+1) < l.entries.length - q;omega, ?_⟩
    (refine Le.ok (fun i=>if i=1 then some 6 else some i) [] ?_;constructor;all_goals (try simp only [vle,vkt,seval,zF]))
    all_goals first|rfl|(simp;done)|(intro i hi;rw [if_neg (by omega)];done)
   ·have hc0:Yw ⟨dy,4,co,to,am,go⟩=jnd (dg dy++[32]++[(99:UInt8),111,117,110,116]) [co,am]:=rfl
    rw [hc0] at hj hS;have e4:K.map qp++[[.v (.string ⟨⟨jnd (dg dy++[32]++[(99:UInt8),111,117,110,116]) [co,am]⟩⟩)]]=(Qc l (q+1)).map qp:=by rw [hS,ai];rfl
    have b2:(dg dy++[32]).length+[(99:UInt8),111,117,110,116].length<=9223372036854775807:=by simp;omega
    have b5:(dg dy++[32]).length<=9223372036854775802:=by simp;omega
    have b3:(dg dy++[32]++[(99:UInt8),111,117,110,116]).length<=10000:=by simp;omega
    have b4:∀ n ∈ [co,am],0<=n/\n < 1000:=fun n hn=>by simp at hn;rcases hn with rfl|rfl <;> omega
    repeat' first|(apply nx;with_reducible constructor)|apply uq (by decide)|((first|apply uz env|apply uj);intro Q hQ;simp only [vkt,seval,zN,zF,aS,qb,RL,qp,YG,Qk,yc,d1,e9,hx,hm,e4,b3,q5,dJ,dK,Uf,ite_and];(repeat' first|with_reducible assumption|apply vz|intro hp);all_goals first|(apply hQ;clear hQ Q)|(apply ux;kernel_rfl)|omega|assumption|with_reducible rfl|skip)
    refine ⟨⟨q+1,hlt⟩,by show l.entries.length - (q+1) < l.entries.length - q;omega, ?_⟩
    (refine Le.ok (fun i=>if i=1 then some 5 else some i) [] ?_;constructor;all_goals (try simp only [vle,vkt,seval,zF]))
    all_goals first|rfl|(simp;done)|(intro i hi;rw [if_neg (by omega)];done)
  ·have d1:decide ((q:Int) < (l.entries.length:Int))=false:=decide_eq_false (by omega)
   obtain rfl:q=l.entries.length:=by omega
   have hl:=VK l (ag _);obtain ⟨K,hK⟩:∃ K,Qc l l.entries.length=K:=⟨_,rfl⟩
   rw [hK] at hl hjl;simp only [wr3,hK]
   have hm:K.length+1<=maxLen:=by omega
   have e4:K.map qp++[[.v (.string ⟨⟨[98,97,108,97,110,99,101]⟩⟩)]]=(K++[[98,97,108,97,110,99,101]]).map qp:=by rw [ai];rfl
   have e5:(K++[[98,97,108,97,110,99,101]]).length<=100000:=by rw [aD,hl];simp;omega
   have e6:(Lib.join (K++[[98,97,108,97,110,99,101]]) [10]).length<=140737488355328:=by omega
   have e7:(Lib.join (K++[[98,97,108,97,110,99,101]]) [10]).length+1<=9223372036854775807:=by omega
   repeat' first|(apply nx;with_reducible constructor)|apply uq (by decide)|((first|apply uz env|apply uj);intro Q hQ;simp only [vkt,seval,zN,zF,aS,RL,QeP,d1,hm,e4,jA,e7,ite_and];(repeat' first|with_reducible assumption|apply vz|intro hp);all_goals first|(apply hQ;clear hQ Q)|(apply ux;kernel_rfl)|omega|assumption|with_reducible rfl|skip)
   (simp only [vrt,results20,vkt,seval,zF,aS];refine Fin.val rfl ?_;(try simp only [AV.le,AV.leL]))
   all_goals first|rfl|simp
 ·have hE:vV l=([],e):=by unfold vV;rw [if_neg (by rw [he];exact h0),he]
  rw [hE];have d0:decide (e=0)=false:=decide_eq_false h0
  repeat' first|(apply nx;with_reducible constructor)|apply uq (by decide)|((first|apply uz env|apply uj);intro Q hQ;simp only [vkt,seval,zN,zF,s50,ec,he,hf,d0,ite_and];(repeat' first|with_reducible assumption|apply vz|intro hp);all_goals first|(apply hQ;clear hQ Q)|(apply ux;kernel_rfl)|omega|assumption|with_reducible rfl|skip)
  (simp only [vrt,results20,vkt,seval,zF,aS];refine Fin.val rfl ?_;(try simp only [AV.le,AV.leL]))
  all_goals first|rfl|simp
def RG:List AV->Prop × AV
 |[.agg [.sl cs,.sl rs,.sl ss,.sl es]]=>(isL cs rs ss es/\Fit (wJ cs rs ss es),.tup [aS (vV (wJ cs rs ss es)).1,aI (vV (wJ cs rs ss es)).2])
 |_=>(False,.junk)
def Qkv:qc (zQ Xq) prog 20 (zD true RG):=xX fun vs hv h=>by
 clear hv;unfold RG at h ⊢
 split at h
 ·refine ⟨by simp [AV.plain,AV.plainL,aI,aS],fun _=>by simp [AV.flat,AV.flatL,aI,aS], ?_⟩
  rw [<- yC h.1];exact Qfb _ h.2
 ·exact h.elim
end Go.Sym.B
namespace Go.Sym.B
open Go Go.Sym Go.Proofs Go.Proofs.Tryz Go.Sym.C Go.RowKit
structure TabC (w:World):Prop where
 pow:Xq w
 max:∃ m,w.cell? ⟨1,0,none⟩=some (.int .i64 m)
 syn:∃ te pe,w.cell? ⟨6,0,none⟩=some (.iface te pe)
 rng:∃ te pe,w.cell? ⟨7,0,none⟩=some (.iface te pe)
def wE (s:List UInt8):Option Int:=match Lib.atoiAll s with
 |.ok v=>if v < 0\/3 < s.length\/Lib.itoa v ≠ s then none else some v
 |_=>none
def refusal:List PanicEntry:=[{ v:=.iface 217 (.agg #[]),recovered:=false }]
def Jn (s:List UInt8):Ending:=match wE s with
 |some n=>.returned (.int .i64 n)
 |none=>.panicked refusal
def Qcv {s:List UInt8} {v:Int} (h:Lib.atoiAll s=.ok v):-9223372036854775808<=v/\v<=9223372036854775807:=by
 unfold Lib.atoiAll at h;split at h
 ·cases h
 ·dsimp only at h
  split at h
  ·cases h
  ·cases h
  ·split at h
   ·cases h
   ·split at h
    ·cases h
    ·injection h with h
     split at h <;> omega
def J3 (s:List UInt8) (hl:s.length<=100000) (w:World) (hT:TabC w):Calls prog 206 #[.string ⟨⟨s⟩⟩] w fun e w'=>e=Jn s/\Below w.heap.size w w':=by
 obtain ⟨⟨te0,pe0,hsyn⟩,⟨te1,pe1,hrng⟩⟩:=ea hT.syn hT.rng;cases h:Lib.atoiAll s with
 |ok v =>
  go_enter func206,ntmps206
  go_wp2_with (go_at_call 199;refine (Tryz.strconv_Atoi_ok ⟨⟨s⟩⟩ (by show s.length<=_;omega) v h _).mono ?_;rintro e w' ⟨rfl,hw⟩)
  all_goals
   have hw:Below w.heap.size w w':=by
    rcases hw with rfl|⟨t,rfl⟩
    ·exact Below.refl _ _
    ·exact Lib.bytesWorld_below _ _ _
  ·have htab:=Lib.tabBelow_of_tabIs hT.pow w' hw
   refine (Tryz.strconv_Itoa v (Qcv h).1 (Qcv h).2 w' htab).mono ?_
   rintro e w2 ⟨rfl,k,os,rfl⟩;have hw2:=hw.trans (Lib.below_grow (B:=w.heap.size) w' hw.size k os)
   go_wp2
   ·rename_i hne _ _
    have hne:Lib.itoa v ≠ s:=by rcases hne with (h1|h1)|h1 <;> first|omega|simpa using h1
    have e:Jn s=.panicked refusal:=by simp only [Jn,wE,h];rw [if_pos (.inr (.inr hne))]
    exact ⟨rfl,e.symm,hw2⟩
   ·rename_i h0 h3 hne
    have e:Jn s=.returned (.int .i64 v):=by
     simp only [Jn,wE,h];have h4:Lib.itoa v=s:=by simpa using hne.2
     rw [if_neg (by rintro (h1|h1|h1) <;> first|omega|exact h1 h4)]
    go_ret
    exact ⟨e.symm,hw2⟩
  ·have e:Jn s=.panicked refusal:=by simp only [Jn,wE,h];rw [if_pos (.inr (.inl (by omega)))]
   exact ⟨rfl,e.symm,hw⟩
  ·have e:Jn s=.panicked refusal:=by simp only [Jn,wE,h];rw [if_pos (.inl (by omega))]
   exact ⟨rfl,e.symm,hw⟩
 |range =>
  have e:Jn s=.panicked refusal:=by simp only [Jn,wE,h]
  go_enter func206,ntmps206
  go_wp2_with (go_at_call 199;refine (Tryz.strconv_Atoi_range ⟨⟨s⟩⟩ (by show s.length<=_;omega) h _ _ hrng (.inr ⟨_,_,rfl⟩)).mono ?_;rintro _ W1 ⟨N,rfl,-,-,hb⟩)
  exact ⟨rfl,e.symm,hb⟩
 |_ =>
  have e:Jn s=.panicked refusal:=by simp only [Jn,wE,h]
  go_enter func206,ntmps206
  go_wp2_with (go_at_call 199;refine (Tryz.strconv_Atoi_syntax ⟨⟨s⟩⟩ (by show s.length<=_;omega) h _ _ hsyn (.inr ⟨_,_,rfl⟩)).mono ?_)
  rintro _ W1 ⟨N,rfl,-,-,hb⟩
  go_wp2
  exact ⟨rfl,e.symm,hb⟩
def Wj {w:World} {ok:Nat->Prop} {ρ:Nat->Value} {y:Value} {s:List UInt8} {v:Value} (h:ARel w ok ρ y (aS s) v):v=.string ⟨⟨s⟩⟩:=by
 unfold aS at h;cases h;rfl
def QcK {vs:Array Value} (hs:vs.size=1):∃ v,vs=#[v]:=by
 match vs,hs with
 |⟨[v]⟩,_=>exact ⟨v,rfl⟩
def Lx {vs:Array Value} (hs:vs.size=2):∃ v u,vs=#[v,u]:=by
 match vs,hs with
 |⟨[v,u]⟩,_=>exact ⟨v,u,rfl⟩
def Qdr (s:List UInt8) (h:(wE s).isSome=true) (hl:s.length<=100000):Fn (jh TabC) prog 206 [aS s] noH (aI ((wE s).getD 0)) noH 0:=FnG.of_callsT (fun vs w=>by kernel_rfl) fun w ok ρ y vs hT _ hs ha=>by
 obtain ⟨v,rfl⟩:=QcK hs;obtain rfl:=Wj (ha 0 _ rfl)
 refine wo (J3 s hl w hT) fun e w' ⟨he,hw⟩=>?_
 obtain ⟨n,hn⟩:=cB.1 h;exact ⟨.int .i64 n,by rw [he,Jn,hn],hw,fun _ _ _=>by rw [hn];exact .v rfl⟩
def Qf4 (s:List UInt8) (h:wE s=none) (hl:s.length<=100000):FnX refusal (jh TabC) prog 206 [aS s] noH noH:=FnX.of_callsT (fun vs w=>by kernel_rfl) fun w ok ρ y vs hT _ hs ha=>by
 obtain ⟨v,rfl⟩:=QcK hs;obtain rfl:=Wj (ha 0 _ rfl)
 refine wo (J3 s hl w hT) fun e w' ⟨he,hw⟩=>⟨by rw [he,Jn,h],hw⟩
def yJ:List AV->Prop
 |[.v (.string ⟨⟨s⟩⟩)]=>wE s=none/\s.length<=100000
 |_=>False
def YW:XOK (zQ TabC) prog 206 (Jq refusal yJ):=Y4 fun l h=>by
 unfold yJ at h;split at h
 ·exact Qf4 _ h.1 h.2
 ·exact h.elim
def Qky (s sep:List UInt8) (hl:s.length<=100000):Fn (jh TabC) prog 207 [aS s,aS sep] noH (.tup [aS (Lib.cut s sep).1,aS (Lib.cut s sep).2.1,aB (Lib.cut s sep).2.2]) noH 0:=FnG.of_callsT (fun vs w=>by kernel_rfl) fun w ok ρ y vs hT _ hs ha=>by
 obtain ⟨v,u,rfl⟩:=Lx hs;obtain rfl:=Wj (ha 0 _ rfl)
 obtain rfl:=Wj (ha 1 _ rfl);obtain ⟨m,hm⟩:=hT.max
 refine wo (Tryz.strings_Cut ⟨⟨s⟩⟩ ⟨⟨sep⟩⟩ m w (by show s.length < _;omega) hm) fun e w' ⟨he,n,hw⟩=>?_
 refine ⟨_,he, ?_,fun ok' _ _=>.tup rfl fun i c hc=>?_⟩
 ·rw [hw];exact ⟨rfl,rfl,rfl,ag _,fun _ _=>rfl⟩
 ·match i,hc with
  |0,hc=>simp only [aK,ak] at hc;subst hc;exact .v rfl
  |1,hc=>simp only [bt,aK,ak] at hc;subst hc;exact .v rfl
  |2,hc=>simp only [bt,aK,ak] at hc;subst hc;exact .v rfl
  |i+3,hc=>simp at hc
def QcP (s sep:List UInt8):(Lib.cut s sep).1.length<=s.length/\(Lib.cut s sep).2.1.length<=s.length:=by
 unfold Lib.cut;split <;> constructor <;> simp <;> omega
def q9:List AV->Prop × AV
 |[.v (.string ⟨⟨s⟩⟩)]=>((wE s).isSome=true/\s.length<=100000,aI ((wE s).getD 0))
 |_=>(False,.junk)
def Wy:qc (zQ TabC) prog 206 (zD true q9):=xX fun vs hv h=>by
 clear hv;unfold q9 at h ⊢
 split at h
 ·rename_i s;obtain ⟨k0,k1⟩:=h
  refine ⟨by first|trivial|(repeat' split) <;> simp [AV.plain,AV.plainL,aI,aB,qj,aBunks,aTks,aBunk,aTk,cTk],fun _=>(by simp [AV.flat,aI]), ?_⟩
  have:=Qdr s k0 k1;simp only [aS] at this
  first|exact this|(simp only [aS];exact this)
 ·exact h.elim
def WK:List AV->Prop × AV
 |[.v (.string ⟨⟨s⟩⟩),.v (.string ⟨⟨t⟩⟩)]=>(s.length<=100000,.tup [aS (Lib.cut s t).1,aS (Lib.cut s t).2.1,aB (Lib.cut s t).2.2])
 |_=>(False,.junk)
def ecut:qc (zQ TabC) prog 207 (zD true WK):=xX fun vs hv h=>by
 clear hv;unfold WK at h ⊢
 split at h
 ·rename_i s t;have k0:s.length<=100000:=h;clear h
  refine ⟨by first|trivial|(repeat' split) <;> simp [AV.plain,AV.plainL,aI,aB,qj,aBunks,aTks,aBunk,aTk,cTk,aS,qb],fun _=>(by simp [AV.flat,AV.flatL,aB,aS]), ?_⟩
  have:=Qky s t k0;simp only [aS] at this
  first|exact this|(simp only [aS];exact this)
 ·exact h.elim
def spS (s sep:List UInt8):List (List UInt8):=(Lib.splitB ⟨⟨sep⟩⟩ 0 (Lib.countB ⟨⟨s⟩⟩ ⟨⟨sep⟩⟩) ⟨⟨s⟩⟩).map (·.data.toList)
def Qc2 {s sep:List UInt8} (h1:1<=sep.length):(spS s sep).length=Lib.countB ⟨⟨s⟩⟩ ⟨⟨sep⟩⟩+1:=by
 unfold spS;rw [ab,Lib.splitB_all ⟨⟨sep⟩⟩ h1 0 _ _ rfl]
def wH {s sep:List UInt8} (h1:1<=sep.length):0 < (spS s sep).length/\(spS s sep).length<=s.length+1:=by
 have:=Lib.countB_le ⟨⟨sep⟩⟩ h1 s.length ⟨⟨s⟩⟩ (ag _);have e:(⟨⟨s⟩⟩:ByteArray).size=s.length:=rfl
 rw [e] at this;rw [Qc2 h1];omega
def QkD (s sep:List UInt8) (hl:s.length<=100000) (h1:1<=sep.length):Fn (jh TabC) prog 96 [aS s,aS sep] noH (qb (spS s sep)) noH 0:=FnG.of_callsT (fun vs w=>by kernel_rfl) fun w ok ρ y vs hT _ hs ha=>by
 obtain ⟨v,u,rfl⟩:=Lx hs;obtain rfl:=Wj (ha 0 _ rfl)
 obtain rfl:=Wj (ha 1 _ rfl);obtain ⟨m,hm⟩:=hT.max
 refine wo (Tryz.strings_Split ⟨⟨s⟩⟩ ⟨⟨sep⟩⟩ m w (by show s.length < _;omega) hm h1) fun e w' ⟨he,hw⟩=>?_
 have hle:=wH (s:=s) h1;have hmx:(100001:Nat)<=maxLen:=by decide
 have hc:(Lib.splitB ⟨⟨sep⟩⟩ 0 (Lib.countB ⟨⟨s⟩⟩ ⟨⟨sep⟩⟩) ⟨⟨s⟩⟩).map Value.string=(spS s sep).map fun s=>Value.string ⟨⟨s⟩⟩:=by
  unfold spS;rw [bO]
  rfl
 rw [hc] at hw;rw [<- Qc2 h1] at he
 refine ⟨_,he, ?_,fun ok' _ hfr=>Qfy hw hle.1 (by omega) (hfr _ (ag _) (by rw [hw];exact Nat.lt_of_lt_of_eq (Nat.lt_succ_self _) (Array.size_push (xs:=w.heap) _).symm))⟩
 rw [hw];exact (Below.refl _ w).alloc (ag _) _
def zA:List AV->Prop × AV
 |[.v (.string ⟨⟨s⟩⟩),.v (.string ⟨⟨t⟩⟩)]=>(s.length<=100000/\1<=t.length,qb (spS s t))
 |_=>(False,.junk)
def kQ:qc (zQ TabC) prog 96 (zD false zA):=xX fun vs hv h=>by
 clear hv;unfold zA at h ⊢
 split at h
 ·rename_i s t;obtain ⟨k0,k1⟩:=h
  refine ⟨by first|trivial|(repeat' split) <;> simp [AV.plain,AV.plainL,aI,aB,qj,aBunks,aTks,aBunk,aTk,cTk,aS,qb],fun h=>absurd h (by decide), ?_⟩
  have:=QkD s t k0 k1;simp only [aS] at this
  first|exact this|(simp only [aS];exact this)
 ·exact h.elim
def Z0 (sep:List UInt8):∀ (k:Nat) (s:List UInt8),∀ w ∈ Lib.splitK sep 0 k s,w.length<=s.length
 |0,s,w,h=>by
  simp only [Lib.splitK,aM] at h;rw [h];exact ag _
 |k+1,s,w,h=>by
  unfold Lib.splitK at h;split at h
  ·simp only [aM] at h
   rw [h];exact ag _
  ·rcases ae.1 h with h|h
   ·rw [h,bi];omega
   ·have:=Z0 sep k _ w h
    rw [be] at this;omega
def QaZ (s sep:List UInt8):spS s sep=Lib.splitK sep 0 (Lib.countB ⟨⟨s⟩⟩ ⟨⟨sep⟩⟩) s:=Lib.splitB_data _ _ _ _
def yK {s sep:List UInt8} (hs:s.length<=100000):∀ w ∈ spS s sep,w.length<=100000:=fun w hw=>by
 rw [QaZ] at hw;exact bj (Z0 sep _ s w hw) hs
def XY {s sep:List UInt8}:∀ w ∈ spS s sep,w.length<=s.length:=fun w hw=>by
 rw [QaZ] at hw;exact Z0 sep _ s w hw
def yf (l:List (List UInt8)):Prop:=∀ w ∈ l,w.length<=100000
def zx:List (List UInt8)->Option (List Int)
 |[]=>some []
 |s :: r=>match wE s,zx r with
  |some v,some l=>some (v :: l)
  |_,_=>none
def Wx:∀ (a b:List (List UInt8)),zx (a++b)=match zx a,zx b with
  |some x,some y=>some (x++y)
  |_,_=>none
 |[],b=>by rw [bc];simp only [zx];cases zx b <;> rfl
 |s :: a,b=>by
  rw [cD,zx,zx,Wx a b];cases wE s <;> cases zx a <;> cases zx b <;> rfl
def vU:∀ (l:List (List UInt8)) {r:List Int},zx l=some r->r.length=l.length
 |[],r,h=>by cases h;rfl
 |s :: l,r,h=>by
  rw [zx] at h;split at h
  ·rename_i v q h1 h2
   cases h;rw [bl,bl,vU l h2]
  ·cases h
def YQ (l:List (List UInt8)) (k:Nat) (d:List DV) (h:k < l.length):(l.map qp).getD k d=qp (l.getD k []):=by
 simp [ah,h]
def Jr (l:List (List UInt8)) {k:Nat} (h:k < l.length):l.take (k+1)=l.take k++[l.getD k []]:=by
 rw [cI,al h]
 simp [ah,h]
def yf.at {l:List (List UInt8)} (hl:yf l) {k:Nat} (h:k < l.length):(l.getD k []).length<=100000:=by
 rw [show l.getD k []=l[k] by simp [ah,h]]
 exact hl _ (bF _)
def nmS (L:List (List UInt8)) (k:Nat) (a:List Int):St:={ t:=asg [(2,.sl []),(6,qb L),(7,aI L.length),(8,aI k),(3,.row 0)],h:=qf [(0,.row 3 1 (a.map ql))],n:=1 }
def wh:=vz @ty3 (vz @ty9 (vz @jK (vz @Ls (vz @ti3.eq_1 (vz @ti9.eq_1 (vz @jr.eq_1 @VC.eq_1))))))
def Qh:=vz @aI.eq_1 (vz @aB.eq_1 (vz @qj.eq_1 (vz @ql.eq_1 (@JA))))
def Qia (l:List (List UInt8)) (hl:yf l) (hn:l.length<=1000) (h:(zx l).isSome=true):Fn (jh TabC) prog 167 [qb l] noH (qj ((zx l).getD [])) noH 0:=by
 have env:=qz (A:=zQ TabC) (kC Wy kN);refine kT (Fn0 func167 rfl (fun vs w=>by kernel_rfl) (by kernel_rfl)) (by simp) (by simp [AV.ids,qb]) ?_
 have hmx:(100000:Nat)<=maxLen:=by decide
 repeat' first|(apply nx;with_reducible constructor)|apply uq (by decide)|refine vq ?_|refine vx ?_|(refine uk env 2 rfl rfl rfl (fun Q hQ=>?_);simp only [vkt,seval,wh,Qh,aS,qp,jA,qb,q9,yJ,nmS,ab,ab];(try simp only [ite_and]);(repeat' first|with_reducible assumption|apply vz);all_goals (first|(refine ⟨_,_,rfl,hQ _ _ ?_⟩;clear hQ Q)|(apply ux;kernel_rfl)|omega|assumption|with_reducible rfl|skip))|((first|apply uz env|apply uj);intro Q hQ;simp only [vkt,seval,wh,qb,ite_and];(repeat' first|with_reducible assumption|apply vz|intro hp);all_goals first|(apply hQ;clear hQ Q)|(apply ux;kernel_rfl)|omega|assumption|with_reducible rfl|skip)
 refine qi (fun s:{ p:Nat × List Int // p.1<=l.length/\zx (l.take p.1)=some p.2 }=>nmS l s.1.1 s.1.2) (fun s=>l.length - s.1.1) ⟨(0,[]),af _,rfl⟩ ?_ fun ⟨⟨k,a⟩,hk,hg⟩=>?_
 ·simp only [nmS]
  (refine Le.ok (fun i=>if i=0 then none else some i) [] ?_;constructor;all_goals (try simp only [vle,vkt,seval,Qh,qb]))
  all_goals first|rfl|(simp;done)|exact ⟨rfl,trivial⟩|(intro i hi;rw [if_neg (by omega)];done)
 simp only at hk hg ⊢;have hal:=vU _ hg
 rw [bi] at hal;have ha1:a.length+1<=maxLen:=by omega
 have ha2:a.length<=1000:=by omega
 by_cases hlt:k < l.length
 ·have d1:decide ((k:Int) < (l.length:Int))=true:=decide_eq_true (by omega)
  have e9:=k9 k (by omega)
  have hx:∀ d,(l.map qp).getD k d=[.v (.string ⟨⟨l.getD k []⟩⟩)]:=fun d=>YQ l k d hlt
  have hs:=hl.at hlt;have hS:=Jr l hlt
  have hd:l=l.take k++l.getD k [] :: l.drop (k+1):=by
   have h1:=dt (k+1) l;rw [hS] at h1
   simpa using h1.symm
  have hsm:(wE (l.getD k [])).isSome=true:=by
   rw [hd,Wx,hg,zx] at h;cases hn:wE (l.getD k []) with
   |some v=>rfl
   |none=>rw [hn] at h;cases h
  generalize l.getD k []=s at hx hs hS hsm;have hnew:zx (l.take (k+1))=some (a++[(wE s).getD 0]):=by
   rw [hS,Wx,hg,zx];obtain ⟨v,hv⟩:=cB.1 hsm
   rw [hv];rfl
  obtain ⟨v,hv⟩:∃ v,(wE s).getD 0=v:=⟨_,rfl⟩;rw [hv] at hnew
  have e4:a.map ql++[[.v (.int .i64 v)]]=(a++[v]).map ql:=by rw [ai];rfl
  simp only [nmS]
  repeat' first|(apply nx;with_reducible constructor)|apply uq (by decide)|refine vq ?_|refine vx ?_|(refine uk env 2 rfl rfl rfl (fun Q hQ=>?_);simp only [vkt,seval,wh,Qh,aS,qp,jA,qb,q9,yJ,nmS,ab,d1,e9,hx,hs,hsm,hv,hlt,ha1,e4];(try simp only [ite_and]);(repeat' first|with_reducible assumption|apply vz);all_goals (first|(refine ⟨_,_,rfl,hQ _ _ ?_⟩;clear hQ Q)|(apply ux;kernel_rfl)|omega|assumption|with_reducible rfl|skip))|((first|apply uz env|apply uj);intro Q hQ;simp only [vkt,seval,wh,Qh,qb,q9,d1,e9,hx,hs,hsm,hv,hlt,ha1,e4,ite_and];(repeat' first|with_reducible assumption|apply vz|intro hp);all_goals first|(apply hQ;clear hQ Q)|(apply ux;kernel_rfl)|omega|assumption|with_reducible rfl|skip)
  refine ⟨⟨(k+1,a++[v]),hlt,hnew⟩,by show l.length - (k+1) < l.length - k;omega, ?_⟩
  (refine Le.ok (fun i=>if i=0 then some 2 else some i) [] ?_;constructor;all_goals (try simp only [vle,vkt,seval,Qh,qb]))
  all_goals first|rfl|(simp;done)|(intro i hi;rw [if_neg (by omega)];done)
 ·have d1:decide ((k:Int) < (l.length:Int))=false:=decide_eq_false (by omega)
  obtain rfl:k=l.length:=by omega
  rw [bx] at hg;rw [hg]
  simp only [nmS,Option.getD_some]
  repeat' first|(apply nx;with_reducible constructor)|apply uq (by decide)|refine vq ?_|refine vx ?_|(refine uk env 2 rfl rfl rfl (fun Q hQ=>?_);simp only [vkt,seval,wh,Qh,aS,qp,jA,qb,q9,yJ,nmS,ab,d1];(try simp only [ite_and]);(repeat' first|with_reducible assumption|apply vz);all_goals (first|(refine ⟨_,_,rfl,hQ _ _ ?_⟩;clear hQ Q)|(apply ux;kernel_rfl)|omega|assumption|with_reducible rfl|skip))|((first|apply uz env|apply uj);intro Q hQ;simp only [vkt,seval,wh,Qh,qb,d1,ite_and];(repeat' first|with_reducible assumption|apply vz|intro hp);all_goals first|(apply hQ;clear hQ Q)|(apply ux;kernel_rfl)|omega|assumption|with_reducible rfl|skip)
  (simp only [vrt,results167,vkt,seval,Qh];refine Fin.val rfl ?_;(try simp only [AV.le]))
  all_goals first|rfl|exact ⟨_,_,rfl⟩|(simp;done)
def Q8:=vz @aI.eq_1 (vz @aB.eq_1 (vz @qj.eq_1 (vz @ql.eq_1 (@JA))))
def Qk1 (l:List (List UInt8)) (hl:yf l) (hn:l.length<=1000) (h:zx l=none):FnX refusal (jh TabC) prog 167 [qb l] noH noH:=by
 have env:=qz (A:=zQ TabC) (kC Wy kN);refine FnX.of (A:=zQ TabC) (n0:=0) (Fn0 func167 rfl (fun vs w=>by kernel_rfl) (by kernel_rfl)) (by simp) (by simp [AV.ids,qb]) (fun i o h=>by cases h) (fun _ hB _ _=>hB) ?_
 have hmx:(100000:Nat)<=maxLen:=by decide
 repeat' first|(apply nx;with_reducible constructor)|apply uq (by decide)|refine vq ?_|refine vx ?_|(refine uk env 2 rfl rfl rfl (fun Q hQ=>?_);simp only [vkt,seval,wh,Q8,aS,qp,jA,qb,q9,yJ,nmS,ab,ab];(try simp only [ite_and]);(repeat' first|with_reducible assumption|apply vz);all_goals (first|(refine ⟨_,_,rfl,hQ _ _ ?_⟩;clear hQ Q)|(apply ux;kernel_rfl)|omega|assumption|with_reducible rfl|skip))|((first|apply uz env|apply uj);intro Q hQ;simp only [vkt,seval,wh,qb,ite_and];(repeat' first|with_reducible assumption|apply vz|intro hp);all_goals first|(apply hQ;clear hQ Q)|(apply ux;kernel_rfl)|omega|assumption|with_reducible rfl|skip)
 refine qi (fun s:{ p:Nat × List Int // p.1<=l.length/\zx (l.take p.1)=some p.2 }=>nmS l s.1.1 s.1.2) (fun s=>l.length - s.1.1) ⟨(0,[]),af _,rfl⟩ ?_ fun ⟨⟨k,a⟩,hk,hg⟩=>?_
 ·simp only [nmS]
  (refine Le.ok (fun i=>if i=0 then none else some i) [] ?_;constructor;all_goals (try simp only [vle,vkt,seval,Q8,qb]))
  all_goals first|rfl|(simp;done)|exact ⟨rfl,trivial⟩|(intro i hi;rw [if_neg (by omega)];done)
 simp only at hk hg ⊢;have hal:=vU _ hg
 rw [bi] at hal;have ha1:a.length+1<=maxLen:=by omega
 have ha2:a.length<=1000:=by omega
 have hlt:k < l.length:=by
  by_cases hlt:k < l.length
  ·exact hlt
  ·obtain rfl:k=l.length:=by omega
   rw [bx,h] at hg;cases hg
 have d1:decide ((k:Int) < (l.length:Int))=true:=decide_eq_true (by omega)
 have e9:=k9 k (by omega)
 have hx:∀ d,(l.map qp).getD k d=[.v (.string ⟨⟨l.getD k []⟩⟩)]:=fun d=>YQ l k d hlt
 have hs:=hl.at hlt;have hS:=Jr l hlt
 generalize l.getD k []=s at hx hs hS;simp only [nmS]
 cases hp:wE s with
 |none =>
  repeat' first|(apply nx;with_reducible constructor)|apply uq (by decide)|refine vq ?_|refine vx ?_|(refine uk env 2 rfl rfl rfl (fun Q hQ=>?_);simp only [vkt,seval,wh,Q8,aS,qp,jA,qb,q9,yJ,nmS,ab, d1,e9,hx,hs,hp,hlt,ha1];(try simp only [ite_and]);(repeat' first|with_reducible assumption|apply vz);all_goals (first|(refine ⟨_,_,rfl,hQ _ _ ?_⟩;clear hQ Q)|(apply ux;kernel_rfl)|omega|assumption|with_reducible rfl|skip))|(refine uw env YW 2 rfl rfl (fun Q hQ=>?_);simp only [Qd,Jq,vkt,seval,wh,yJ,hx,hs,hp,hlt];(try simp only [ite_and]);(repeat' first|with_reducible assumption|apply vz|intro hp);all_goals (first|(refine hQ _ _ _ ?_;clear hQ Q)|(apply ux;kernel_rfl)|omega|assumption|(with_reducible rfl)))|((first|apply uz env|apply uj);intro Q hQ;simp only [vkt,seval,wh,Q8,qb,d1,hx,hlt,ite_and];(repeat' first|with_reducible assumption|apply vz|intro hp);all_goals first|(apply hQ;clear hQ Q)|(apply ux;kernel_rfl)|omega|assumption|with_reducible rfl|skip)
  exact ⟨rfl,rfl,Fin.val rfl (by simp only [AV.le])⟩
 |some v =>
  have hsm:(wE s).isSome=true:=by rw [hp];rfl
  have hv:(wE s).getD 0=v:=by rw [hp];rfl
  have hnew:zx (l.take (k+1))=some (a++[v]):=by
   rw [hS,Wx,hg,zx,hp];rfl
  have e4:a.map ql++[[.v (.int .i64 v)]]=(a++[v]).map ql:=by rw [ai];rfl
  repeat' first|(apply nx;with_reducible constructor)|apply uq (by decide)|refine vq ?_|refine vx ?_|(refine uk env 2 rfl rfl rfl (fun Q hQ=>?_);simp only [vkt,seval,wh,Q8,aS,qp,jA,qb,q9,yJ,nmS,ab,d1,e9,hx,hs,hsm,hv,hlt,ha1,e4];(try simp only [ite_and]);(repeat' first|with_reducible assumption|apply vz);all_goals (first|(refine ⟨_,_,rfl,hQ _ _ ?_⟩;clear hQ Q)|(apply ux;kernel_rfl)|omega|assumption|with_reducible rfl|skip))|((first|apply uz env|apply uj);intro Q hQ;simp only [vkt,seval,wh,Q8,qb,q9,d1,e9,hx,hs,hsm,hv,hlt,ha1,e4,ite_and];(repeat' first|with_reducible assumption|apply vz|intro hp);all_goals first|(apply hQ;clear hQ Q)|(apply ux;kernel_rfl)|omega|assumption|with_reducible rfl|skip)
  refine ⟨⟨(k+1,a++[v]),hlt,hnew⟩,by show l.length - (k+1) < l.length - k;omega, ?_⟩
  (refine Le.ok (fun i=>if i=0 then some 2 else some i) [] ?_;constructor;all_goals (try simp only [vle,vkt,seval,Q8,qb]))
  all_goals first|rfl|(simp;done)|(intro i hi;rw [if_neg (by omega)];done)
def jv:List AV->Prop × AV
 |[.sl l]=>(l=(l.map xY).map qp/\yf (l.map xY)/\(l.map xY).length<=1000/\(zx (l.map xY)).isSome=true,qj ((zx (l.map xY)).getD []))
 |_=>(False,.junk)
def Zq:qc (zQ TabC) prog 167 (zD false jv):=xX fun vs hv h=>by
 clear hv;unfold jv at h ⊢
 split at h
 ·rename_i l;obtain ⟨q0,k0,k1,k2⟩:=h
  refine ⟨by first|trivial|(repeat' split) <;> simp [AV.plain,AV.plainL,aI,aB,qj,aBunks,aTks,aBunk,aTk,cTk],fun h=>absurd h (by decide), ?_⟩
  have:=Qia (l.map xY) k0 k1 k2;simp only [qb,<- q0] at this
  first|exact this|(simp only [qb,<- q0];exact this)
 ·exact h.elim
def je:List AV->Prop
 |[.sl xs]=>∃ l:List (List UInt8),xs=l.map qp/\zx l=none/\yf l/\l.length<=1000
 |_=>False
def QfY:XOK (zQ TabC) prog 167 (Jq refusal je):=Y4 fun l h=>by
 unfold je at h;split at h
 ·obtain ⟨l,rfl,h1,h2,h3⟩:=h
  exact Qk1 l h2 h3 h1
 ·exact h.elim
def shP (s:List UInt8):Option Sh:=if (Lib.cut s [47]).2.2=true then match wE (Lib.cut s [47]).1,wE (Lib.cut s [47]).2.1 with
  |some a,some b=>some ⟨a,b⟩
  |_,_=>none
 else none
def wI:List (List UInt8)->Option (List Sh)
 |[]=>some []
 |s :: r=>match shP s,wI r with
  |some v,some l=>some (v :: l)
  |_,_=>none
def Wl:∀ (a b:List (List UInt8)),wI (a++b)=match wI a,wI b with
  |some x,some y=>some (x++y)
  |_,_=>none
 |[],b=>by rw [bc];simp only [wI];cases wI b <;> rfl
 |s :: a,b=>by
  rw [cD,wI,wI,Wl a b];cases shP s <;> cases wI a <;> cases wI b <;> rfl
def WA:∀ (l:List (List UInt8)) {r:List Sh},wI l=some r->r.length=l.length
 |[],r,h=>by cases h;rfl
 |s :: l,r,h=>by
  rw [wI] at h;split at h
  ·rename_i v q h1 h2
   cases h;rw [bl,bl,WA l h2]
  ·cases h
def Ju (L:List (List UInt8)) (k:Nat) (b:List Sh):St:={ t:=asg [(2,.sl []),(11,qb L),(12,aI L.length),(13,aI k),(3,.row 0)],h:=qf [(0,.row 110 2 (b.map eSh))],n:=1 }
def Qjj (l:List (List UInt8)) (p:Nat × List Sh):Prop:=p.1<=l.length/\∃ a,p.2=⟨1,1⟩ :: a/\wI (l.take p.1)=some a
def QK (l:List (List UInt8)):AV:=.sl ((⟨1,1⟩ :: (wI l).getD []:List Sh).map eSh)
def zz:=vz @ty3 (vz @ty9 (vz @Ls (vz @xW (vz @QL (vz @U9 (vz @ti3.eq_1 (vz @ti9.eq_1 (vz @VC.eq_1 (vz @vD.eq_1 (vz @xS.eq_1 @YI.eq_1))))))))))
def QX:=vz @aI.eq_1 (vz @aB.eq_1 (vz @xB.eq_1 (vz @eSh.eq_1 (@rSh))))
def Qim (l:List (List UInt8)) (hl:yf l) (hn:l.length<=1000) (h:(wI l).isSome=true):Fn (jh TabC) prog 168 [qb l] noH (QK l) noH 0:=by
 have env:=qz (A:=zQ TabC) (kC Wy (kC ecut kN));refine kT (Fn0 func168 rfl (fun vs w=>by kernel_rfl) (by kernel_rfl)) (by simp) (by simp [AV.ids,qb]) ?_
 have hmx:(100000:Nat)<=maxLen:=by decide
 unfold QK
 repeat' first|(apply nx;with_reducible constructor)|apply uq (by decide)|refine vq ?_|refine vx ?_|(refine uk env 2 rfl rfl rfl (fun Q hQ=>?_);simp only [vkt,seval,zz,QX,aS,qp,jA,qb,q9,WK,Ju,ab,ab];(try simp only [ite_and]);(repeat' first|with_reducible assumption|apply vz);all_goals (first|(refine ⟨_,_,rfl,hQ _ _ ?_⟩;clear hQ Q)|(apply ux;kernel_rfl)|omega|assumption|with_reducible rfl|skip))|((first|apply uz env|apply uj);intro Q hQ;simp only [vkt,seval,zz,qb,ite_and];(repeat' first|with_reducible assumption|apply vz|intro hp);all_goals first|(apply hQ;clear hQ Q)|(apply ux;kernel_rfl)|omega|assumption|with_reducible rfl|skip)
 refine qi (fun s:{ p:Nat × List Sh // Qjj l p }=>Ju l s.1.1 s.1.2) (fun s=>l.length - s.1.1) ⟨(0,[⟨1,1⟩]),af _,[],rfl,rfl⟩ ?_ fun ⟨⟨k,b⟩,hk,a,hb,hg⟩=>?_
 ·simp only [Ju]
  (refine Le.ok (fun i=>if i=0 then some 0 else some i) [] ?_;constructor;all_goals (try simp only [vle,vkt,seval,QX,qb]))
  all_goals first|rfl|(simp;done)|exact ⟨rfl,trivial⟩|(intro i hi;rw [if_neg (by omega)];done)
 simp only at hk hb hg ⊢;have hal:=WA _ hg
 rw [bi] at hal;have hbl:b.length=a.length+1:=by rw [hb];rfl
 have ha1:b.length+1<=maxLen:=by omega
 by_cases hlt:k < l.length
 ·have d1:decide ((k:Int) < (l.length:Int))=true:=decide_eq_true (by omega)
  have e9:=k9 k (by omega)
  have hx:∀ d,(l.map qp).getD k d=[.v (.string ⟨⟨l.getD k []⟩⟩)]:=fun d=>YQ l k d hlt
  have hs:=hl.at hlt;have hS:=Jr l hlt
  have hd:l=l.take k++l.getD k [] :: l.drop (k+1):=by
   have h1:=dt (k+1) l;rw [hS] at h1
   simpa using h1.symm
  have hsm:(shP (l.getD k [])).isSome=true:=by
   rw [hd,Wl,hg,wI] at h;cases hn:shP (l.getD k []) with
   |some v=>rfl
   |none=>rw [hn] at h;cases h
  generalize l.getD k []=s at hx hs hS hsm;obtain ⟨v,hv⟩:=cB.1 hsm
  have hnew:wI (l.take (k+1))=some (a++[v]):=by rw [hS,Wl,hg,wI,hv];rfl
  have ⟨l1,l2⟩:=QcP s [47];unfold shP at hv
  obtain ⟨⟨c1,c2,c3⟩,hc⟩:∃ c,Lib.cut s [47]=c:=⟨_,rfl⟩;rw [hc] at l1 l2 hv
  dsimp only at l1 l2 hv;split at hv
  ·rename_i h0
   subst h0;split at hv
   ·rename_i x y h1 h2
    cases hv;have g1:c1.length<=100000:=by omega
    have g2:c2.length<=100000:=by omega
    have e1:(wE c1).isSome=true:=by rw [h1];rfl
    have e2:(wE c2).isSome=true:=by rw [h2];rfl
    have e4:b.map eSh++[[.v (.int .i64 x),.v (.int .i64 y)]]=(b++[(⟨x,y⟩:Sh)]).map eSh:=by rw [ai];rfl
    simp only [Ju]
    repeat' first|(apply nx;with_reducible constructor)|apply uq (by decide)|refine vq ?_|refine vx ?_|(refine uk env 2 rfl rfl rfl (fun Q hQ=>?_);simp only [vkt,seval,zz,QX,aS,qp,jA,qb,q9,WK,Ju,ab,d1,e9,hx,hs,hc,h1,h2,e1,e2,g1,g2,hlt,ha1,e4];(try simp only [ite_and]);(repeat' first|with_reducible assumption|apply vz);all_goals (first|(refine ⟨_,_,rfl,hQ _ _ ?_⟩;clear hQ Q)|(apply ux;kernel_rfl)|omega|assumption|with_reducible rfl|skip))|((first|apply uz env|apply uj);intro Q hQ;simp only [vkt,seval,zz,QX,aS,qb,q9,WK,d1,e9,hx,hs,hc,h1,h2,g1,g2,hlt,ha1,e4,ite_and];(repeat' first|with_reducible assumption|apply vz|intro hp);all_goals first|(apply hQ;clear hQ Q)|(apply ux;kernel_rfl)|omega|assumption|with_reducible rfl|skip)
    refine ⟨⟨(k+1,b++[(⟨x,y⟩:Sh)]),hlt,a++[(⟨x,y⟩:Sh)],by rw [hb];rfl,hnew⟩,by show l.length - (k+1) < l.length - k;omega, ?_⟩
    (refine Le.ok (fun i=>if i=0 then some 2 else some i) [] ?_;constructor;all_goals (try simp only [vle,vkt,seval,QX,qb]))
    all_goals first|rfl|(simp;done)|(intro i hi;rw [if_neg (by omega)];done)
   ·cases hv
  ·cases hv
 ·have d1:decide ((k:Int) < (l.length:Int))=false:=decide_eq_false (by omega)
  obtain rfl:k=l.length:=by omega
  rw [bx] at hg;rw [hg]
  simp only [Ju,Option.getD_some];rw [<- hb]
  repeat' first|(apply nx;with_reducible constructor)|apply uq (by decide)|refine vq ?_|refine vx ?_|(refine uk env 2 rfl rfl rfl (fun Q hQ=>?_);simp only [vkt,seval,zz,QX,aS,qp,jA,qb,q9,WK,Ju,ab,d1];(try simp only [ite_and]);(repeat' first|with_reducible assumption|apply vz);all_goals (first|(refine ⟨_,_,rfl,hQ _ _ ?_⟩;clear hQ Q)|(apply ux;kernel_rfl)|omega|assumption|with_reducible rfl|skip))|((first|apply uz env|apply uj);intro Q hQ;simp only [vkt,seval,zz,QX,qb,d1,ite_and];(repeat' first|with_reducible assumption|apply vz|intro hp);all_goals first|(apply hQ;clear hQ Q)|(apply ux;kernel_rfl)|omega|assumption|with_reducible rfl|skip)
  (simp only [vrt,results168,vkt,seval];refine Fin.val rfl ?_;(try simp only [AV.le]))
  all_goals first|rfl|exact ⟨_,_,rfl⟩|(simp;done)
def yP:=vz @aI.eq_1 (vz @aB.eq_1 (vz @xB.eq_1 (vz @eSh.eq_1 (@rSh))))
def Qj3 (l:List (List UInt8)) (hl:yf l) (hn:l.length<=1000) (h:wI l=none):FnX refusal (jh TabC) prog 168 [qb l] noH noH:=by
 have env:=qz (A:=zQ TabC) (kC Wy (kC ecut kN));refine FnX.of (A:=zQ TabC) (n0:=0) (Fn0 func168 rfl (fun vs w=>by kernel_rfl) (by kernel_rfl)) (by simp) (by simp [AV.ids,qb]) (fun i o h=>by cases h) (fun _ hB _ _=>hB) ?_
 have hmx:(100000:Nat)<=maxLen:=by decide
 repeat' first|(apply nx;with_reducible constructor)|apply uq (by decide)|refine vq ?_|refine vx ?_|(refine uk env 2 rfl rfl rfl (fun Q hQ=>?_);simp only [vkt,seval,zz,yP,aS,qp,jA,qb,q9,WK,yJ,Ju,ab,ab];(try simp only [ite_and]);(repeat' first|with_reducible assumption|apply vz);all_goals (first|(refine ⟨_,_,rfl,hQ _ _ ?_⟩;clear hQ Q)|(apply ux;kernel_rfl)|omega|assumption|with_reducible rfl|skip))|((first|apply uz env|apply uj);intro Q hQ;simp only [vkt,seval,zz,qb,ite_and];(repeat' first|with_reducible assumption|apply vz|intro hp);all_goals first|(apply hQ;clear hQ Q)|(apply ux;kernel_rfl)|omega|assumption|with_reducible rfl|skip)
 refine qi (fun s:{ p:Nat × List Sh // Qjj l p }=>Ju l s.1.1 s.1.2) (fun s=>l.length - s.1.1) ⟨(0,[⟨1,1⟩]),af _,[],rfl,rfl⟩ ?_ fun ⟨⟨k,b⟩,hk,a,hb,hg⟩=>?_
 ·simp only [Ju]
  (refine Le.ok (fun i=>if i=0 then some 0 else some i) [] ?_;constructor;all_goals (try simp only [vle,vkt,seval,yP,qb]))
  all_goals first|rfl|(simp;done)|exact ⟨rfl,trivial⟩|(intro i hi;rw [if_neg (by omega)];done)
 simp only at hk hb hg ⊢;have hal:=WA _ hg
 rw [bi] at hal;have hbl:b.length=a.length+1:=by rw [hb];rfl
 have ha1:b.length+1<=maxLen:=by omega
 have hlt:k < l.length:=by
  by_cases hlt:k < l.length
  ·exact hlt
  ·obtain rfl:k=l.length:=by omega
   rw [bx,h] at hg;cases hg
 have d1:decide ((k:Int) < (l.length:Int))=true:=decide_eq_true (by omega)
 have e9:=k9 k (by omega)
 have hx:∀ d,(l.map qp).getD k d=[.v (.string ⟨⟨l.getD k []⟩⟩)]:=fun d=>YQ l k d hlt
 have hs:=hl.at hlt;have hS:=Jr l hlt
 generalize l.getD k []=s at hx hs hS;have ⟨l1,l2⟩:=QcP s [47]
 have hnew:∀ v,shP s=some v->wI (l.take (k+1))=some (a++[v]):=fun v hv=>by rw [hS,Wl,hg,wI,hv];rfl
 unfold shP at hnew;obtain ⟨⟨c1,c2,c3⟩,hc⟩:∃ c,Lib.cut s [47]=c:=⟨_,rfl⟩
 rw [hc] at l1 l2 hnew;dsimp only at l1 l2 hnew
 have g1:c1.length<=100000:=by omega
 have g2:c2.length<=100000:=by omega
 simp only [Ju];cases c3 with
 |false =>
  repeat' first|(apply nx;with_reducible constructor)|apply uq (by decide)|refine vq ?_|refine vx ?_|(refine uk env 2 rfl rfl rfl (fun Q hQ=>?_);simp only [vkt,seval,zz];(try simp only [ite_and]);(repeat' first|with_reducible assumption|apply vz);all_goals (first|(refine ⟨_,_,rfl,hQ _ _ ?_⟩;clear hQ Q)|(apply ux;kernel_rfl)|omega|assumption|with_reducible rfl|skip))|((first|apply uz env|apply uj);intro Q hQ;simp only [vkt,seval,zz,yP,aS,qb,WK,d1,hx,hs,hc,hlt,ite_and];(repeat' first|with_reducible assumption|apply vz|intro hp);all_goals first|(apply hQ;clear hQ Q)|(apply ux;kernel_rfl)|omega|assumption|with_reducible rfl|skip)
  exact ⟨rfl,rfl,Fin.val rfl (by simp only [AV.le])⟩
 |true =>
  rw [if_pos rfl] at hnew;cases h1:wE c1 with
  |none =>
   repeat' first|(apply nx;with_reducible constructor)|apply uq (by decide)|refine vq ?_|refine vx ?_|(refine uk env 2 rfl rfl rfl (fun Q hQ=>?_);simp only [vkt,seval,zz,yP,aS,qp,jA,qb,q9,WK,yJ,Ju,ab, d1,e9,hx,hs,hc,hlt,ha1,h1,g1];(try simp only [ite_and]);(repeat' first|with_reducible assumption|apply vz);all_goals (first|(refine ⟨_,_,rfl,hQ _ _ ?_⟩;clear hQ Q)|(apply ux;kernel_rfl)|omega|assumption|with_reducible rfl|skip))|(refine uw env YW 2 rfl rfl (fun Q hQ=>?_);simp only [Qd,Jq,vkt,seval,zz,yP,aS,WK,yJ,hx,hs,hc,hlt,h1,g1];(try simp only [ite_and]);(repeat' first|with_reducible assumption|apply vz|intro hp);all_goals (first|(refine hQ _ _ _ ?_;clear hQ Q)|(apply ux;kernel_rfl)|omega|assumption|(with_reducible rfl)))|((first|apply uz env|apply uj);intro Q hQ;simp only [vkt,seval,zz,yP,aS,qb,WK,d1,hx,hs,hc,hlt,ite_and];(repeat' first|with_reducible assumption|apply vz|intro hp);all_goals first|(apply hQ;clear hQ Q)|(apply ux;kernel_rfl)|omega|assumption|with_reducible rfl|skip)
   exact ⟨rfl,rfl,Fin.val rfl (by simp only [AV.le])⟩
  |some x =>
   have e1:(wE c1).isSome=true:=by rw [h1];rfl
   cases h2:wE c2 with
   |none =>
    repeat' first|(apply nx;with_reducible constructor)|apply uq (by decide)|refine vq ?_|refine vx ?_|(refine uk env 2 rfl rfl rfl (fun Q hQ=>?_);simp only [vkt,seval,zz,yP,aS,qp,jA,qb,q9,WK,yJ,Ju,ab, d1,e9,hx,hs,hc,hlt,ha1,h1,e1,g1,h2,g2];(try simp only [ite_and]);(repeat' first|with_reducible assumption|apply vz);all_goals (first|(refine ⟨_,_,rfl,hQ _ _ ?_⟩;clear hQ Q)|(apply ux;kernel_rfl)|omega|assumption|with_reducible rfl|skip))|(refine uw env YW 4 rfl rfl (fun Q hQ=>?_);simp only [Qd,Jq,vkt,seval,yP,aS,q9,WK,yJ,hs,hc,h1,g1,h2,g2];(try simp only [ite_and]);(repeat' first|with_reducible assumption|apply vz|intro hp);all_goals (first|(refine hQ _ _ _ ?_;clear hQ Q)|(apply ux;kernel_rfl)|omega|assumption|(with_reducible rfl)))|((first|apply uz env|apply uj);intro Q hQ;simp only [vkt,seval,zz,yP,aS,qb,WK,d1,hx,hs,hc,hlt,ite_and];(repeat' first|with_reducible assumption|apply vz|intro hp);all_goals first|(apply hQ;clear hQ Q)|(apply ux;kernel_rfl)|omega|assumption|with_reducible rfl|skip)
    exact ⟨rfl,rfl,Fin.val rfl (by simp only [AV.le])⟩
   |some y =>
    have e2:(wE c2).isSome=true:=by rw [h2];rfl
    have hn2:=hnew ⟨x,y⟩ (by rw [h1,h2])
    have e4:b.map eSh++[[.v (.int .i64 x),.v (.int .i64 y)]]=(b++[(⟨x,y⟩:Sh)]).map eSh:=by rw [ai];rfl
    repeat' first|(apply nx;with_reducible constructor)|apply uq (by decide)|refine vq ?_|refine vx ?_|(refine uk env 2 rfl rfl rfl (fun Q hQ=>?_);simp only [vkt,seval,zz,yP,aS,qp,jA,qb,q9,WK,yJ,Ju,ab,d1,e9,hx,hs,hc,h1,h2,e1,e2,g1,g2,hlt,ha1,e4];(try simp only [ite_and]);(repeat' first|with_reducible assumption|apply vz);all_goals (first|(refine ⟨_,_,rfl,hQ _ _ ?_⟩;clear hQ Q)|(apply ux;kernel_rfl)|omega|assumption|with_reducible rfl|skip))|((first|apply uz env|apply uj);intro Q hQ;simp only [vkt,seval,zz,yP,aS,qb,q9,WK,d1,e9,hx,hs,hc,h1,h2,g1,g2,hlt,ha1,e4,ite_and];(repeat' first|with_reducible assumption|apply vz|intro hp);all_goals first|(apply hQ;clear hQ Q)|(apply ux;kernel_rfl)|omega|assumption|with_reducible rfl|skip)
    refine ⟨⟨(k+1,b++[(⟨x,y⟩:Sh)]),hlt,a++[(⟨x,y⟩:Sh)],by rw [hb];rfl,hn2⟩,by show l.length - (k+1) < l.length - k;omega, ?_⟩
    (refine Le.ok (fun i=>if i=0 then some 2 else some i) [] ?_;constructor;all_goals (try simp only [vle,vkt,seval,yP,qb]))
    all_goals first|rfl|(simp;done)|(intro i hi;rw [if_neg (by omega)];done)
def Zr:List AV->Prop × AV
 |[.sl l]=>(l=(l.map xY).map qp/\yf (l.map xY)/\(l.map xY).length<=1000/\(wI (l.map xY)).isSome=true,QK (l.map xY))
 |_=>(False,.junk)
def WM:qc (zQ TabC) prog 168 (zD false Zr):=xX fun vs hv h=>by
 clear hv;unfold Zr at h ⊢
 split at h
 ·rename_i l;obtain ⟨q0,k0,k1,k2⟩:=h
  refine ⟨by first|trivial|(repeat' split) <;> simp [AV.plain,AV.plainL,aI,aB,qj,aBunks,aTks,aBunk,aTk,cTk],fun h=>absurd h (by decide), ?_⟩
  have:=Qim (l.map xY) k0 k1 k2;simp only [qb,<- q0] at this
  first|exact this|(simp only [qb,<- q0];exact this)
 ·exact h.elim
def vT:List AV->Prop
 |[.sl xs]=>∃ l:List (List UInt8),xs=l.map qp/\wI l=none/\yf l/\l.length<=1000
 |_=>False
def xRats:XOK (zQ TabC) prog 168 (Jq refusal vT):=Y4 fun l h=>by
 unfold vT at h;split at h
 ·obtain ⟨l,rfl,h1,h2,h3⟩:=h
  exact Qj3 l h2 h3 h1
 ·exact h.elim
def Jd:List (List UInt8):=[[],[116,97,107,101],[112,97,121],[115,119,97,112],[99,111,117,110,116]]
def kdU (w:List UInt8):Nat->Int
 |0=>0
 |k+1=>if Jd.getD k []=w then k else kdU w k
def kdP (w:List UInt8):Int:=kdU w 5
def Qet (w:List UInt8):∀ k:Nat,k<=5->0<=kdU w k/\kdU w k<=4
 |0,_=>by simp [kdU]
 |k+1,h=>by
  rw [kdU];split
  ·omega
  ·exact Qet w k (by omega)
def Qgu (d k:Int) (n:List Int):Option Ent:=if k=3/\n.length=4 then some ⟨d,k,n.getD 0 0,n.getD 2 0,n.getD 1 0,n.getD 3 0⟩ else if k=0\/k=3\/n.length ≠ 2 then none else some ⟨d,k,n.getD 0 0,0,n.getD 1 0,0⟩
def Q0 (l:List (List UInt8)):Option Ent:=if l.length < 2 then none else match wE (l.getD 0 []),zx (l.drop 2) with
 |some d,some n=>Qgu d (kdP (l.getD 1 [])) n
 |_,_=>none
def etS (L V:List (List UInt8)) (d q:Int) (k:Nat):St:={ t:=asg [(0,qb L),(2,.ptr 0 0),(3,.ptr 1 0),(17,qb V),(18,aI 5),(19,aI k)],h:=qf [(0,.cells [aI 0,aI 0,aI 0,aI 0,aI 0,aI 0]),(1,.cells [aI d,aI q,aI 0,aI 0,aI 0,aI 0])],n:=2 }
def QP (l:List (List UInt8)):zu 1 (l.map qp):=by rw [RL];trivial
def gI (l:List Int) {k:Nat} (h:k < l.length) (d:List DV):(l.map ql).getD k d=[.v (.int .i64 (l.getD k 0))]:=by
 simp [ah,h,ql]
def qD:=vz @ty3 (vz @ty9 (vz @jK (vz @Ls (vz @kD (vz @U9 (vz @ti3.eq_1 (vz @ti9.eq_1 (vz @jr.eq_1 (vz @VC.eq_1 (vz @vR.eq_1 @YI.eq_1))))))))))
def jR:=vz @aI.eq_1 (vz @aB.eq_1 (vz @qj.eq_1 (vz @Qt.eq_1 (vz @ql.eq_1 (@JA)))))
def QkL (l:List (List UInt8)) (hl:yf l) (hn:l.length<=1000) (x:Ent) (hE:Q0 l=some x):Fn (jh TabC) prog 169 [qb l] noH (Qt x) noH 0:=by
 have env:=qz (A:=zQ TabC) (kC Wy (kC Zq (kC QbB kN)));refine kT (Fn0 func169 rfl (fun vs w=>by kernel_rfl) (by kernel_rfl)) (by simp) (by simp [AV.ids,qb]) ?_
 have hmx:(100000:Nat)<=maxLen:=by decide
 unfold Q0 at hE;split at hE
 ·cases hE
 rename_i h2;split at hE
 rotate_left
 ·cases hE
 rename_i d n hd hN;have d1:decide ((l.length:Int) < 2)=false:=decide_eq_false (by omega)
 have x0:∀ d,(l.map qp).getD 0 d=[.v (.string ⟨⟨l.getD 0 []⟩⟩)]:=fun d=>YQ l 0 d (by omega)
 have x1:∀ d,(l.map qp).getD 1 d=[.v (.string ⟨⟨l.getD 1 []⟩⟩)]:=fun d=>YQ l 1 d (by omega)
 have l0:0 < l.length:=by omega
 have l1:1 < l.length:=by omega
 have s0:=hl.at l0;have e0:(wE (l.getD 0 [])).isSome=true:=by rw [hd];rfl
 obtain ⟨R,hR⟩:∃ R,l.drop 2=R:=⟨_,rfl⟩;rw [hR] at hN
 have hRl:R.length<=1000:=by rw [<- hR,be];omega
 have hRi:yf R:=fun w hw=>hl _ (aW (hR ▸ hw))
 have hD:((l.map qp).take l.length).drop 2=R.map qp:=by rw [<- hR,bA,bb (by rw [ab];exact ag _)]
 have e2:(zx R).isSome=true:=by rw [hN];rfl
 have hnl:=vU _ hN;have hrw:=QP l
 have g2:(2:Int)<=(l.length:Int):=by omega
 generalize l.getD 0 []=w0 at hd x0 s0 e0;generalize l.getD 1 []=w1 at hE x1
 obtain ⟨V,hV⟩:∃ V,Jd=V:=⟨_,rfl⟩;have hV2:([[],[116,97,107,101],[112,97,121],[115,119,97,112],[99,111,117,110,116]]:List (List UInt8))=V:=hV
 have hVl:V.length=5:=by rw [<- hV];rfl
 have hVi:(V.length:Int)=5:=by omega
 repeat' first|(apply nx;with_reducible constructor)|apply uq (by decide)|refine vq ?_|refine vx ?_|(refine uk env 2 rfl rfl rfl (fun Q hQ=>?_);simp only [vkt,seval,qD,jR,aS,qp,jA,qb,q9,jv,yc,etS,ab,d1,x0,x1,l0,l1,s0,e0,hd,hV2,hVi,ab];(try simp only [ite_and]);(repeat' first|with_reducible assumption|apply vz);all_goals (first|(refine ⟨_,_,rfl,hQ _ _ ?_⟩;clear hQ Q)|(apply ux;kernel_rfl)|omega|assumption|with_reducible rfl|skip))|((first|apply uz env|apply uj);intro Q hQ;simp only [vkt,seval,qD,jR,qb,q9,yc,d1,x0,l0,s0,hd,hV2,hVi,ite_and];(repeat' first|with_reducible assumption|apply vz|intro hp);all_goals first|(apply hQ;clear hQ Q)|(apply ux;kernel_rfl)|omega|assumption|with_reducible rfl|skip)
 refine qi (fun s:{ k:Nat // k<=5 }=>etS l V d (kdU w1 s.1) s.1) (fun s=>5 - s.1) ⟨0,af _⟩ ?_ fun ⟨k,hk⟩=>?_
 ·simp only [etS,kdU]
  (refine Le.ok some [] ?_;constructor;all_goals (try simp only [vle,vkt,seval,jR,qb]))
  all_goals first|rfl|(simp;done)|exact ⟨rfl,trivial⟩|(intro i hi;rw [if_neg (by omega)];done)
 simp only at hk ⊢
 by_cases hlt:k < 5
 ·have d2:decide ((k:Int) < 5)=true:=decide_eq_true (by omega)
  have e9:=k9 k (by omega)
  have hx:∀ d,(V.map qp).getD k d=[.v (.string ⟨⟨V.getD k []⟩⟩)]:=fun d=>YQ V k d (by omega)
  have hkV:k < V.length:=by omega
  have hq:kdU w1 (k+1)=if V.getD k []=w1 then (k:Int) else kdU w1 k:=by rw [kdU,hV]
  generalize V.getD k []=v at hx hq;simp only [etS]
  by_cases hv:v=w1
  ·have b1:(v == w1)=true:=by simp [hv]
   rw [if_pos hv] at hq
   repeat' first|(apply nx;with_reducible constructor)|apply uq (by decide)|refine vq ?_|refine vx ?_|(refine uk env 2 rfl rfl rfl (fun Q hQ=>?_);simp only [vkt,seval,qD,jR,aS,qp,jA,qb,q9,jv,yc,etS,ab,d2,e9,hx,hkV,x1,l1,b1];(try simp only [ite_and]);(repeat' first|with_reducible assumption|apply vz);all_goals (first|(refine ⟨_,_,rfl,hQ _ _ ?_⟩;clear hQ Q)|(apply ux;kernel_rfl)|omega|assumption|with_reducible rfl|skip))|((first|apply uz env|apply uj);intro Q hQ;simp only [vkt,seval,qD,jR,qb,d2,e9,hx,hkV,x1,l1,b1,ite_and];(repeat' first|with_reducible assumption|apply vz|intro hp);all_goals first|(apply hQ;clear hQ Q)|(apply ux;kernel_rfl)|omega|assumption|with_reducible rfl|skip)
   refine ⟨⟨k+1,hlt⟩,by show 5 - (k+1) < 5 - k;omega, ?_⟩
   dsimp only;rw [hq]
   (refine Le.ok some [] ?_;constructor;all_goals (try simp only [vle,vkt,seval,jR,qb]))
   all_goals first|rfl|(simp;done)|(intro i hi;rw [if_neg (by omega)];done)
  ·have b1:(v == w1)=false:=by simp [hv]
   rw [if_neg hv] at hq
   repeat' first|(apply nx;with_reducible constructor)|apply uq (by decide)|refine vq ?_|refine vx ?_|(refine uk env 2 rfl rfl rfl (fun Q hQ=>?_);simp only [vkt,seval,qD,jR,aS,qp,jA,qb,q9,jv,yc,etS,ab,d2,e9,hx,hkV,x1,l1,b1];(try simp only [ite_and]);(repeat' first|with_reducible assumption|apply vz);all_goals (first|(refine ⟨_,_,rfl,hQ _ _ ?_⟩;clear hQ Q)|(apply ux;kernel_rfl)|omega|assumption|with_reducible rfl|skip))|((first|apply uz env|apply uj);intro Q hQ;simp only [vkt,seval,qD,jR,qb,d2,e9,hx,hkV,x1,l1,b1,ite_and];(repeat' first|with_reducible assumption|apply vz|intro hp);all_goals first|(apply hQ;clear hQ Q)|(apply ux;kernel_rfl)|omega|assumption|with_reducible rfl|skip)
   refine ⟨⟨k+1,hlt⟩,by show 5 - (k+1) < 5 - k;omega, ?_⟩
   dsimp only;rw [hq]
   (refine Le.ok some [] ?_;constructor;all_goals (try simp only [vle,vkt,seval,jR,qb]))
   all_goals first|rfl|(simp;done)|(intro i hi;rw [if_neg (by omega)];done)
 ·have d2:decide ((k:Int) < 5)=false:=decide_eq_false (by omega)
  obtain rfl:k=5:=by omega
  have hkd:kdU w1 5=kdP w1:=rfl;rw [hkd]
  generalize kdP w1=q at hE;unfold Qgu at hE
  simp only [etS];split at hE
  ·rename_i hs
   cases hE;obtain ⟨rfl,h4⟩:=hs
   have y0:=gI n (k:=0) (by omega)
   have y1:=gI n (k:=1) (by omega)
   have y2:=gI n (k:=2) (by omega)
   have y3:=gI n (k:=3) (by omega)
   have m0:0 < n.length:=by omega
   have m1:1 < n.length:=by omega
   have m2:2 < n.length:=by omega
   have m3:3 < n.length:=by omega
   have c4:decide ((n.length:Int)=4)=true:=decide_eq_true (by omega)
   generalize n.getD 0 0=n0 at y0;generalize n.getD 1 0=n1 at y1
   generalize n.getD 2 0=n2 at y2;generalize n.getD 3 0=n3 at y3
   repeat' first|(apply nx;with_reducible constructor)|apply uq (by decide)|refine vq ?_|refine vx ?_|(refine uk env 2 rfl rfl rfl (fun Q hQ=>?_);simp only [vkt,seval,qD,jR,aS,qp,jA,qb,q9,jv,yc,etS,ab,d2,hD,hrw,g2,hRi,hRl,e2,hN,c4,y0,y1,y2,y3,m0,m1,m2,m3,Int.reduceToNat,ab];(try simp only [ite_and]);(repeat' first|with_reducible assumption|apply vz);all_goals (first|(refine ⟨_,_,rfl,hQ _ _ ?_⟩;clear hQ Q)|(apply ux;kernel_rfl)|omega|assumption|with_reducible rfl|skip))|((first|apply uz env|apply uj);intro Q hQ;simp only [vkt,seval,qD,jR,jA,qb,jv,hD,hrw,g2,hRi,hRl,hN,c4,y0,y1,y2,y3,m0,m1,m2,m3,Int.reduceToNat,ite_and];(repeat' first|with_reducible assumption|apply vz|intro hp);all_goals first|(apply hQ;clear hQ Q)|(apply ux;kernel_rfl)|omega|assumption|with_reducible rfl|skip)
   (simp only [vrt,results169,vkt,seval,qD,jR];refine Fin.val rfl ?_;(try simp only [AV.le,AV.leL]))
   all_goals first|rfl|simp
  ·rename_i hs
   split at hE
   ·cases hE
   rename_i hs2;cases hE
   have n2:n.length=2:=by
    by_cases e:n.length=2
    ·exact e
    ·exact absurd (.inr (.inr e)) hs2
   have c0:decide (q=0)=false:=decide_eq_false fun e=>hs2 (.inl e)
   have c3:decide (q=3)=false:=decide_eq_false fun e=>hs2 (.inr (.inl e))
   have c2:decide ((n.length:Int)=2)=true:=decide_eq_true (by omega)
   have y0:=gI n (k:=0) (by omega)
   have y1:=gI n (k:=1) (by omega)
   have m0:0 < n.length:=by omega
   have m1:1 < n.length:=by omega
   generalize n.getD 0 0=n0 at y0;generalize n.getD 1 0=n1 at y1
   repeat' first|(apply nx;with_reducible constructor)|apply uq (by decide)|refine vq ?_|refine vx ?_|(refine uk env 2 rfl rfl rfl (fun Q hQ=>?_);simp only [vkt,seval,qD,jR,aS,qp,jA,qb,q9,jv,yc,etS,ab,d2,hD,hrw,g2,hRi,hRl,e2,hN,c0,c3,c2,y0,y1,m0,m1,Int.reduceToNat,ab];(try simp only [ite_and]);(repeat' first|with_reducible assumption|apply vz);all_goals (first|(refine ⟨_,_,rfl,hQ _ _ ?_⟩;clear hQ Q)|(apply ux;kernel_rfl)|omega|assumption|with_reducible rfl|skip))|((first|apply uz env|apply uj);intro Q hQ;simp only [vkt,seval,qD,jR,jA,qb,jv,hD,hrw,g2,hRi,hRl,hN,c0,c3,c2,y0,y1,m0,m1,Int.reduceToNat,ite_and];(repeat' first|with_reducible assumption|apply vz|intro hp);all_goals first|(apply hQ;clear hQ Q)|(apply ux;kernel_rfl)|omega|assumption|with_reducible rfl|skip)
   (simp only [vrt,results169,vkt,seval,qD,jR];refine Fin.val rfl ?_;(try simp only [AV.le,AV.leL]))
   all_goals first|rfl|simp
def jT:=vz @aI.eq_1 (vz @aB.eq_1 (vz @qj.eq_1 (vz @Qt.eq_1 (vz @ql.eq_1 (@JA)))))
def ent_x (l:List (List UInt8)) (hl:yf l) (hn:l.length<=1000) (hE:Q0 l=none):FnX refusal (jh TabC) prog 169 [qb l] noH noH:=by
 have env:=qz (A:=zQ TabC) (kC Wy (kC Zq (kC QbB kN)));refine FnX.of (A:=zQ TabC) (n0:=0) (Fn0 func169 rfl (fun vs w=>by kernel_rfl) (by kernel_rfl)) (by simp) (by simp [AV.ids,qb]) (fun i o h=>by cases h) (fun _ hB _ _=>hB) ?_
 have hmx:(100000:Nat)<=maxLen:=by decide
 by_cases h2:l.length < 2
 ·have d1:decide ((l.length:Int) < 2)=true:=decide_eq_true (by omega)
  repeat' first|(apply nx;with_reducible constructor)|apply uq (by decide)|refine vq ?_|refine vx ?_|(refine uk env 2 rfl rfl rfl (fun Q hQ=>?_);simp only [vkt,seval,qD];(try simp only [ite_and]);(repeat' first|with_reducible assumption|apply vz);all_goals (first|(refine ⟨_,_,rfl,hQ _ _ ?_⟩;clear hQ Q)|(apply ux;kernel_rfl)|omega|assumption|with_reducible rfl|skip))|((first|apply uz env|apply uj);intro Q hQ;simp only [vkt,seval,qD,qb,d1,ite_and];(repeat' first|with_reducible assumption|apply vz|intro hp);all_goals first|(apply hQ;clear hQ Q)|(apply ux;kernel_rfl)|omega|assumption|with_reducible rfl|skip)
  exact ⟨rfl,rfl,Fin.val rfl (by simp only [AV.le])⟩
 unfold Q0 at hE;rw [if_neg h2] at hE
 have d1:decide ((l.length:Int) < 2)=false:=decide_eq_false (by omega)
 have x0:∀ d,(l.map qp).getD 0 d=[.v (.string ⟨⟨l.getD 0 []⟩⟩)]:=fun d=>YQ l 0 d (by omega)
 have x1:∀ d,(l.map qp).getD 1 d=[.v (.string ⟨⟨l.getD 1 []⟩⟩)]:=fun d=>YQ l 1 d (by omega)
 have l0:0 < l.length:=by omega
 have l1:1 < l.length:=by omega
 have s0:=hl.at l0;obtain ⟨R,hR⟩:∃ R,l.drop 2=R:=⟨_,rfl⟩
 rw [hR] at hE;have hRl:R.length<=1000:=by rw [<- hR,be];omega
 have hRi:yf R:=fun w hw=>hl _ (aW (hR ▸ hw))
 have hD:((l.map qp).take l.length).drop 2=R.map qp:=by rw [<- hR,bA,bb (by rw [ab];exact ag _)]
 have hrw:=QP l;have g2:(2:Int)<=(l.length:Int):=by omega
 generalize l.getD 0 []=w0 at hE x0 s0;generalize l.getD 1 []=w1 at hE x1
 obtain ⟨V,hV⟩:∃ V,Jd=V:=⟨_,rfl⟩;have hV2:([[],[116,97,107,101],[112,97,121],[115,119,97,112],[99,111,117,110,116]]:List (List UInt8))=V:=hV
 have hVl:V.length=5:=by rw [<- hV];rfl
 have hVi:(V.length:Int)=5:=by omega
 cases hd:wE w0 with
 |none =>
  repeat' first|(apply nx;with_reducible constructor)|apply uq (by decide)|refine vq ?_|refine vx ?_|(refine uk env 2 rfl rfl rfl (fun Q hQ=>?_);simp only [vkt,seval,qD,jT,aS,qp,jA,qb,q9,jv,yc,etS,yJ,je,ab, d1,x0,x1,l0,l1,s0,hd,ab];(try simp only [ite_and]);(repeat' first|with_reducible assumption|apply vz);all_goals (first|(refine ⟨_,_,rfl,hQ _ _ ?_⟩;clear hQ Q)|(apply ux;kernel_rfl)|omega|assumption|with_reducible rfl|skip))|(refine uw env YW 3 rfl rfl (fun Q hQ=>?_);simp only [Qd,Jq,vkt,seval,qD,yJ,x0,l0,s0,hd];(try simp only [ite_and]);(repeat' first|with_reducible assumption|apply vz|intro hp);all_goals (first|(refine hQ _ _ _ ?_;clear hQ Q)|(apply ux;kernel_rfl)|omega|assumption|(with_reducible rfl)))|((first|apply uz env|apply uj);intro Q hQ;simp only [vkt,seval,qD,qb,d1,ite_and];(repeat' first|with_reducible assumption|apply vz|intro hp);all_goals first|(apply hQ;clear hQ Q)|(apply ux;kernel_rfl)|omega|assumption|with_reducible rfl|skip)
  exact ⟨rfl,rfl,Fin.val rfl (by simp only [AV.le])⟩
 |some d =>
  have e0:(wE w0).isSome=true:=by rw [hd];rfl
  rw [hd] at hE
  repeat' first|(apply nx;with_reducible constructor)|apply uq (by decide)|refine vq ?_|refine vx ?_|(refine uk env 2 rfl rfl rfl (fun Q hQ=>?_);simp only [vkt,seval,qD,jT,aS,qp,jA,qb,q9,jv,yc,etS,yJ,je,ab,d1,x0,x1,l0,l1,s0,e0,hd,hV2,hVi,ab];(try simp only [ite_and]);(repeat' first|with_reducible assumption|apply vz);all_goals (first|(refine ⟨_,_,rfl,hQ _ _ ?_⟩;clear hQ Q)|(apply ux;kernel_rfl)|omega|assumption|with_reducible rfl|skip))|((first|apply uz env|apply uj);intro Q hQ;simp only [vkt,seval,qD,jT,qb,q9,yc,d1,x0,l0,s0,hd,hV2,hVi,ite_and];(repeat' first|with_reducible assumption|apply vz|intro hp);all_goals first|(apply hQ;clear hQ Q)|(apply ux;kernel_rfl)|omega|assumption|with_reducible rfl|skip)
  refine qi (fun s:{ k:Nat // k<=5 }=>etS l V d (kdU w1 s.1) s.1) (fun s=>5 - s.1) ⟨0,af _⟩ ?_ fun ⟨k,hk⟩=>?_
  ·simp only [etS,kdU]
   (refine Le.ok some [] ?_;constructor;all_goals (try simp only [vle,vkt,seval,jT,qb]))
   all_goals first|rfl|(simp;done)|exact ⟨rfl,trivial⟩|(intro i hi;rw [if_neg (by omega)];done)
  simp only at hk ⊢
  by_cases hlt:k < 5
  ·have d2:decide ((k:Int) < 5)=true:=decide_eq_true (by omega)
   have e9:=k9 k (by omega)
   have hx:∀ d,(V.map qp).getD k d=[.v (.string ⟨⟨V.getD k []⟩⟩)]:=fun d=>YQ V k d (by omega)
   have hkV:k < V.length:=by omega
   have hq:kdU w1 (k+1)=if V.getD k []=w1 then (k:Int) else kdU w1 k:=by rw [kdU,hV]
   generalize V.getD k []=v at hx hq;simp only [etS]
   by_cases hv:v=w1
   ·have b1:(v == w1)=true:=by simp [hv]
    rw [if_pos hv] at hq
    repeat' first|(apply nx;with_reducible constructor)|apply uq (by decide)|refine vq ?_|refine vx ?_|(refine uk env 2 rfl rfl rfl (fun Q hQ=>?_);simp only [vkt,seval,qD,jT,aS,qp,jA,qb,q9,jv,yc,etS,yJ,je,ab,d2,e9,hx,hkV,x1,l1,b1];(try simp only [ite_and]);(repeat' first|with_reducible assumption|apply vz);all_goals (first|(refine ⟨_,_,rfl,hQ _ _ ?_⟩;clear hQ Q)|(apply ux;kernel_rfl)|omega|assumption|with_reducible rfl|skip))|((first|apply uz env|apply uj);intro Q hQ;simp only [vkt,seval,qD,jT,qb,d2,e9,hx,hkV,x1,l1,b1,ite_and];(repeat' first|with_reducible assumption|apply vz|intro hp);all_goals first|(apply hQ;clear hQ Q)|(apply ux;kernel_rfl)|omega|assumption|with_reducible rfl|skip)
    refine ⟨⟨k+1,hlt⟩,by show 5 - (k+1) < 5 - k;omega, ?_⟩
    dsimp only;rw [hq]
    (refine Le.ok some [] ?_;constructor;all_goals (try simp only [vle,vkt,seval,jT,qb]))
    all_goals first|rfl|(simp;done)|(intro i hi;rw [if_neg (by omega)];done)
   ·have b1:(v == w1)=false:=by simp [hv]
    rw [if_neg hv] at hq
    repeat' first|(apply nx;with_reducible constructor)|apply uq (by decide)|refine vq ?_|refine vx ?_|(refine uk env 2 rfl rfl rfl (fun Q hQ=>?_);simp only [vkt,seval,qD,jT,aS,qp,jA,qb,q9,jv,yc,etS,yJ,je,ab,d2,e9,hx,hkV,x1,l1,b1];(try simp only [ite_and]);(repeat' first|with_reducible assumption|apply vz);all_goals (first|(refine ⟨_,_,rfl,hQ _ _ ?_⟩;clear hQ Q)|(apply ux;kernel_rfl)|omega|assumption|with_reducible rfl|skip))|((first|apply uz env|apply uj);intro Q hQ;simp only [vkt,seval,qD,jT,qb,d2,e9,hx,hkV,x1,l1,b1,ite_and];(repeat' first|with_reducible assumption|apply vz|intro hp);all_goals first|(apply hQ;clear hQ Q)|(apply ux;kernel_rfl)|omega|assumption|with_reducible rfl|skip)
    refine ⟨⟨k+1,hlt⟩,by show 5 - (k+1) < 5 - k;omega, ?_⟩
    dsimp only;rw [hq]
    (refine Le.ok some [] ?_;constructor;all_goals (try simp only [vle,vkt,seval,jT,qb]))
    all_goals first|rfl|(simp;done)|(intro i hi;rw [if_neg (by omega)];done)
  ·have d2:decide ((k:Int) < 5)=false:=decide_eq_false (by omega)
   obtain rfl:k=5:=by omega
   have hkd:kdU w1 5=kdP w1:=rfl;rw [hkd]
   generalize kdP w1=q at hE;simp only [etS]
   cases hN:zx R with
   |none =>
    have hq:je [.sl (R.map qp)]:=⟨R,rfl,hN,hRi,hRl⟩
    repeat' first|(apply nx;with_reducible constructor)|apply uq (by decide)|refine vq ?_|refine vx ?_|(refine uk env 2 rfl rfl rfl (fun Q hQ=>?_);simp only [vkt,seval,qD,jT,aS,qp,jA,qb,q9,jv,yc,etS,yJ,je,ab, d2,hD,hrw,g2,hq,Int.reduceToNat,ab];(try simp only [ite_and]);(repeat' first|with_reducible assumption|apply vz);all_goals (first|(refine ⟨_,_,rfl,hQ _ _ ?_⟩;clear hQ Q)|(apply ux;kernel_rfl)|omega|assumption|with_reducible rfl|skip))|(refine uw env QfY 2 rfl rfl (fun Q hQ=>?_);simp only [Qd,Jq,vkt,seval,qD,je,hD,hrw,g2,Int.reduceToNat];(try simp only [ite_and]);(repeat' first|with_reducible assumption|apply vz|intro hp);all_goals (first|(refine hQ _ _ _ ?_;clear hQ Q)|(apply ux;kernel_rfl)|omega|assumption|(with_reducible rfl)))|((first|apply uz env|apply uj);intro Q hQ;simp only [vkt,seval,qD,jT,qb,ite_and];(repeat' first|with_reducible assumption|apply vz|intro hp);all_goals first|(apply hQ;clear hQ Q)|(apply ux;kernel_rfl)|omega|assumption|with_reducible rfl|skip)
    exact ⟨rfl,rfl,Fin.val rfl (by simp only [AV.le])⟩
   |some n =>
    have e2:(zx R).isSome=true:=by rw [hN];rfl
    rw [hN] at hE;dsimp only at hE
    unfold Qgu at hE;split at hE
    ·cases hE
    rename_i hs;split at hE
    rotate_left
    ·cases hE
    rename_i hs2
    by_cases c3:q=3
    ·have c3':decide (q=3)=true:=decide_eq_true c3
     have c0:decide (q=0)=false:=decide_eq_false (by omega)
     have c4:decide ((n.length:Int)=4)=false:=decide_eq_false fun e=>hs ⟨c3,by omega⟩
     repeat' first|(apply nx;with_reducible constructor)|apply uq (by decide)|refine vq ?_|refine vx ?_|(refine uk env 2 rfl rfl rfl (fun Q hQ=>?_);simp only [vkt,seval,qD];(try simp only [ite_and]);(repeat' first|with_reducible assumption|apply vz);all_goals (first|(refine ⟨_,_,rfl,hQ _ _ ?_⟩;clear hQ Q)|(apply ux;kernel_rfl)|omega|assumption|with_reducible rfl|skip))|((first|apply uz env|apply uj);intro Q hQ;simp only [vkt,seval,qD,jT,jA,qb,jv,hD,hrw,g2,hRi,hRl,hN,c0,c3',c4,Int.reduceToNat,ite_and];(repeat' first|with_reducible assumption|apply vz|intro hp);all_goals first|(apply hQ;clear hQ Q)|(apply ux;kernel_rfl)|omega|assumption|with_reducible rfl|skip)
     exact ⟨rfl,rfl,Fin.val rfl (by simp only [AV.le])⟩
    ·have c3':decide (q=3)=false:=decide_eq_false c3
     by_cases c0:q=0
     ·have c0':decide (q=0)=true:=decide_eq_true c0
      repeat' first|(apply nx;with_reducible constructor)|apply uq (by decide)|refine vq ?_|refine vx ?_|(refine uk env 2 rfl rfl rfl (fun Q hQ=>?_);simp only [vkt,seval,qD];(try simp only [ite_and]);(repeat' first|with_reducible assumption|apply vz);all_goals (first|(refine ⟨_,_,rfl,hQ _ _ ?_⟩;clear hQ Q)|(apply ux;kernel_rfl)|omega|assumption|with_reducible rfl|skip))|((first|apply uz env|apply uj);intro Q hQ;simp only [vkt,seval,qD,jT,jA,qb,jv,hD,hrw,g2,hRi,hRl,hN,c0',c3',Int.reduceToNat,ite_and];(repeat' first|with_reducible assumption|apply vz|intro hp);all_goals first|(apply hQ;clear hQ Q)|(apply ux;kernel_rfl)|omega|assumption|with_reducible rfl|skip)
      exact ⟨rfl,rfl,Fin.val rfl (by simp only [AV.le])⟩
     ·have c0':decide (q=0)=false:=decide_eq_false c0
      have c2:decide ((n.length:Int)=2)=false:=decide_eq_false fun e=>by
       rcases hs2 with h|h|h
       ·exact c0 h
       ·exact c3 h
       ·exact h (by omega)
      repeat' first|(apply nx;with_reducible constructor)|apply uq (by decide)|refine vq ?_|refine vx ?_|(refine uk env 2 rfl rfl rfl (fun Q hQ=>?_);simp only [vkt,seval,qD];(try simp only [ite_and]);(repeat' first|with_reducible assumption|apply vz);all_goals (first|(refine ⟨_,_,rfl,hQ _ _ ?_⟩;clear hQ Q)|(apply ux;kernel_rfl)|omega|assumption|with_reducible rfl|skip))|((first|apply uz env|apply uj);intro Q hQ;simp only [vkt,seval,qD,jT,jA,qb,jv,hD,hrw,g2,hRi,hRl,hN,c0',c3',c2,Int.reduceToNat,ite_and];(repeat' first|with_reducible assumption|apply vz|intro hp);all_goals first|(apply hQ;clear hQ Q)|(apply ux;kernel_rfl)|omega|assumption|with_reducible rfl|skip)
      exact ⟨rfl,rfl,Fin.val rfl (by simp only [AV.le])⟩
def Qz:List AV->Prop
 |[.sl xs]=>∃ l:List (List UInt8),xs=l.map qp/\Q0 l=none/\yf l/\l.length<=1000
 |_=>False
def xEnt:XOK (zQ TabC) prog 169 (Jq refusal Qz):=Y4 fun l h=>by
 unfold Qz at h;split at h
 ·obtain ⟨l,rfl,h1,h2,h3⟩:=h
  exact ent_x l h2 h3 h1
 ·exact h.elim
def Qh9 (l:List (List UInt8)) (hl:yf l) (hn:l.length<=1000) (h:(Q0 l).isSome=true):Fn (jh TabC) prog 169 [qb l] noH (Qt ((Q0 l).getD default)) noH 0:=by
 obtain ⟨x,hx⟩:=cB.1 h;rw [hx]
 exact QkL l hl hn x hx
def sent:List AV->Prop × AV
 |[.sl l]=>(l=(l.map xY).map qp/\yf (l.map xY)/\(l.map xY).length<=1000/\(Q0 (l.map xY)).isSome=true,Qt ((Q0 (l.map xY)).getD default))
 |_=>(False,.junk)
def Xo:qc (zQ TabC) prog 169 (zD false sent):=xX fun vs hv h=>by
 clear hv;unfold sent at h ⊢
 split at h
 ·rename_i l;obtain ⟨q0,k0,k1,k2⟩:=h
  refine ⟨by first|trivial|(repeat' split) <;> simp [AV.plain,AV.plainL,aI,aB,qj,aBunks,aTks,aBunk,aTk,cTk],fun h=>absurd h (by decide), ?_⟩
  have:=Qh9 (l.map xY) k0 k1 k2;simp only [qb,<- q0] at this
  first|exact this|(simp only [qb,<- q0];exact this)
 ·exact h.elim
inductive Ln where
 |coin (n:List Int)
 |rates (r:List Sh)
 |start (n:List Int)
 |bal
 |entry (x:Ent)
def yY:List UInt8:=[99,111,105,110]
def jP:List UInt8:=[114,97,116,101,115]
def yg:List UInt8:=[115,116,97,114,116]
def Z4:List UInt8:=[98,97,108,97,110,99,101]
def Yu (l:List (List UInt8)):Option Ln:=if l.headD []=yY then (zx (l.drop 1)).map .coin else if l.headD []=jP then (wI (l.drop 1)).map fun r=>.rates (⟨1,1⟩ :: r) else if l.headD []=yg then (zx (l.drop 1)).map .start else if l.headD []=Z4 then if l.length=1 then some .bal else none else (Q0 l).map .entry
def Qj (s:List UInt8):Option Ln:=Yu (spS s [32])
def rwI (l:List (List Int)):AObj:=.row 26 1 (l.map qG)
def rwS (l:List (List Sh)):AObj:=.row 108 1 (l.map wM)
def rwE (l:List Ent):AObj:=.row 129 6 (l.map wz)
def ldR (st:List Int) (a b c:Nat):AObj:=.cells [.row a,.row b,.sl (st.map ql),.row c]
def wm (l:Led):List AObj:=[ldR l.start 1 2 3,rwI l.coins,rwS l.rates,rwE l.entries]
def yM {l:Led}:∀ i o,qf (yn 0 (wm l)) i=some o->i < 4/\∀ id ∈ o.ids,id < 4:=by
 intro i o hi;have h:=qB hi
 simp [yn,wm] at h
 rcases h with ⟨rfl,rfl⟩|⟨rfl,rfl⟩|⟨rfl,rfl⟩|⟨rfl,rfl⟩ <;> simp [AObj.ids,AV.ids,AV.idsL,ldR,rwI,rwS,rwE]
def j6:=vz @ty3 (vz @ty9 (vz @jK (vz @Ls (vz @Zv (vz @Yj (vz @Y9 (vz @xI (vz @xW (vz @kD (vz @U9 (vz @ti3.eq_1 (vz @ti9.eq_1 (vz @jr.eq_1 (vz @VC.eq_1 (vz @Qo.eq_1 (vz @WG.eq_1 (vz @JZ.eq_1 (vz @vO.eq_1 (vz @vD.eq_1 (vz @vR.eq_1 @YI.eq_1))))))))))))))))))))
def Re:=vz @aI.eq_1 (vz @aB.eq_1 (vz @qj.eq_1 (vz @xB.eq_1 (vz @Qt.eq_1 (vz @qG.eq_1 (vz @wM.eq_1 (vz @wz.eq_1 (vz @kw (vz @YS (@YU))))))))))
def UY (l:Led) (s:List UInt8) (L:List (List UInt8)) (n:List Int) (hs:spS s [32]=L) (h0:L.headD []=yY) (hn:zx (L.drop 1)=some n) (hc:l.coins.length<=1000) (hl:s.length<=900):Fn (jh TabC) prog 132 [.ptr 0 0,aS s] (qf (yn 0 (wm l))) (aI 0) (qf (jc 0 [some (ldR l.start 4 2 3),none,some (rwS l.rates),some (rwE l.entries),some (rwI (l.coins++[n]))])) 0:=by
 have env:=qz (A:=zQ TabC) (kC kQ (kC Zq (kC WM (kC Xo kN))));refine Fn.of (A:=zQ TabC) (n0:=4) (D:=noD) (Fn0 func132 rfl (fun vs w=>by kernel_rfl) (by kernel_rfl)) (by simp) (by simp [AV.ids,aS]) yM (fun _ hB _ _=>hB) zt ?_
 have hm:(1000:Nat)+1<=maxLen:=by decide
 show Sym _ _ _ (wW [.ptr 0 0,aS s] 4 (qf [(0,ldR l.start 1 2 3),(1,rwI l.coins),(2,rwS l.rates),(3,rwE l.entries)])) (Vt tyB noD Tryz.f132 fun S rv=>Fin S rv _ 4 (qf [(0,ldR l.start 4 2 3),(2,rwS l.rates),(3,rwE l.entries),(4,rwI (l.coins++[n]))]) 0)
 have hpos:=(wH (s:=s) (sep:=[32]) (by decide)).1
 have hle:=(wH (s:=s) (sep:=[32]) (by decide)).2
 have hit:=yK (s:=s) (sep:=[32]) (by omega)
 rw [hs] at hpos hle hit;have hl2:s.length<=100000:=by omega
 have hx:∀ d,(L.map qp).getD 0 d=[.v (.string ⟨⟨[99,111,105,110]⟩⟩)]:=fun d=>by
  match L,h0,hpos with
  |w :: r,h0,_=>simp only [bH] at h0;subst h0;rfl
 have hrw:=QP L;have g1:(1:Int)<=(L.length:Int):=by omega
 have hi:yf L:=hit;have hL:L.length<=1000:=by omega
 obtain ⟨R,hR⟩:∃ R,L.drop 1=R:=⟨_,rfl⟩;have hRl:R.length<=1000:=by rw [<- hR,be];omega
 have hRi:yf R:=fun w hw=>hi _ (aW (hR ▸ hw))
 have hD:((L.map qp).take L.length).drop 1=R.map qp:=by rw [<- hR,bA,bb (by rw [ab];exact ag _)]
 rw [hR] at hn;have b0:(([99,111,105,110]:List UInt8) == [99,111,105,110])=true:=by decide
 have e2:(zx R).isSome=true:=by rw [hn];rfl
 have c1:l.coins.length+1<=maxLen:=by omega
 have e4:l.coins.map qG++[[.sl (n.map ql)]]=(l.coins++[n]).map qG:=by rw [ai];rfl
 repeat' first|(apply nx;with_reducible constructor)|apply uq (by decide)|refine vq ?_|refine vx ?_|(refine uk env 2 rfl rfl rfl (fun Q hQ=>?_);simp only [vkt,seval,j6,Re,aS,QK,zA,jv,Zr,sent,je,vT,Qz,qp,jA,qb,ldR,rwI,rwS,rwE,wm,ab,aD,yY,jP,yg,Z4,hs,hl2,hx,hpos,b0,hrw,g1,hD,hRi,hRl,e2,hn,c1,e4,ab];(try simp only [ite_and]);(repeat' first|with_reducible assumption|apply vz);all_goals (first|(refine ⟨_,_,rfl,hQ _ _ ?_⟩;clear hQ Q)|(apply ux;kernel_rfl)|omega|assumption|with_reducible rfl|skip))|((first|apply uz env|apply uj);intro Q hQ;simp only [vkt,seval,j6,Re,aS,zA,jv,jA,qb,ldR,rwI,rwS,rwE,hs,hl2,hx,hpos,hrw,g1,hD,hRi,hRl,hn,c1,e4,ite_and];(repeat' first|with_reducible assumption|apply vz|intro hp);all_goals first|(apply hQ;clear hQ Q)|(apply ux;kernel_rfl)|omega|assumption|with_reducible rfl|skip)
 (simp only [vrt,results132,vkt,seval,Re,ldR,rwI,rwS,rwE];refine Fin.ok (fun j=>[0,1,2,3,5][j]?) [] ?_ ?_ ?_ ?_ ?_ rfl;all_goals (try simp only [vle,vkt,seval]))
 all_goals first|rfl|(simp;done)|exact fun i hi=>(match i,hi with|0,_=>rfl|1,_=>rfl|2,_=>rfl|3,_=>rfl)
def KZ:=vz @aI.eq_1 (vz @aB.eq_1 (vz @qj.eq_1 (vz @xB.eq_1 (vz @Qt.eq_1 (vz @qG.eq_1 (vz @wM.eq_1 (vz @wz.eq_1 (vz @kw (vz @YS (@YU))))))))))
def KV (l:Led) (s:List UInt8) (L:List (List UInt8)) (n:List Sh) (hs:spS s [32]=L) (h0:L.headD []=jP) (hn:wI (L.drop 1)=some n) (hc:l.rates.length<=1000) (hl:s.length<=900):Fn (jh TabC) prog 132 [.ptr 0 0,aS s] (qf (yn 0 (wm l))) (aI 1) (qf (jc 0 [some (ldR l.start 1 4 3),some (rwI l.coins),none,some (rwE l.entries),some (rwS (l.rates++[⟨1,1⟩ :: n]))])) 0:=by
 have env:=qz (A:=zQ TabC) (kC kQ (kC Zq (kC WM (kC Xo kN))));refine Fn.of (A:=zQ TabC) (n0:=4) (D:=noD) (Fn0 func132 rfl (fun vs w=>by kernel_rfl) (by kernel_rfl)) (by simp) (by simp [AV.ids,aS]) yM (fun _ hB _ _=>hB) zt ?_
 have hm:(1000:Nat)+1<=maxLen:=by decide
 show Sym _ _ _ (wW [.ptr 0 0,aS s] 4 (qf [(0,ldR l.start 1 2 3),(1,rwI l.coins),(2,rwS l.rates),(3,rwE l.entries)])) (Vt tyB noD Tryz.f132 fun S rv=>Fin S rv _ 4 (qf [(0,ldR l.start 1 4 3),(1,rwI l.coins),(3,rwE l.entries),(4,rwS (l.rates++[⟨1,1⟩ :: n]))]) 0)
 have hpos:=(wH (s:=s) (sep:=[32]) (by decide)).1
 have hle:=(wH (s:=s) (sep:=[32]) (by decide)).2
 have hit:=yK (s:=s) (sep:=[32]) (by omega)
 rw [hs] at hpos hle hit;have hl2:s.length<=100000:=by omega
 have hx:∀ d,(L.map qp).getD 0 d=[.v (.string ⟨⟨[114,97,116,101,115]⟩⟩)]:=fun d=>by
  match L,h0,hpos with
  |w :: r,h0,_=>simp only [bH] at h0;subst h0;rfl
 have hrw:=QP L;have g1:(1:Int)<=(L.length:Int):=by omega
 have hi:yf L:=hit;have hL:L.length<=1000:=by omega
 obtain ⟨R,hR⟩:∃ R,L.drop 1=R:=⟨_,rfl⟩;have hRl:R.length<=1000:=by rw [<- hR,be];omega
 have hRi:yf R:=fun w hw=>hi _ (aW (hR ▸ hw))
 have hD:((L.map qp).take L.length).drop 1=R.map qp:=by rw [<- hR,bA,bb (by rw [ab];exact ag _)]
 rw [hR] at hn;have b0:(([114,97,116,101,115]:List UInt8) == [99,111,105,110])=false:=by decide
 have b1:(([114,97,116,101,115]:List UInt8) == [114,97,116,101,115])=true:=by decide
 have e2:(wI R).isSome=true:=by rw [hn];rfl
 have hn2:(wI R).getD []=n:=by rw [hn];rfl
 have c1:l.rates.length+1<=maxLen:=by omega
 obtain ⟨m,hm2⟩:∃ m:List Sh,⟨1,1⟩ :: n=m:=⟨_,rfl⟩;rw [hm2]
 have e4:l.rates.map wM++[[.sl (m.map eSh)]]=(l.rates++[m]).map wM:=by rw [ai];rfl
 repeat' first|(apply nx;with_reducible constructor)|apply uq (by decide)|refine vq ?_|refine vx ?_|(refine uk env 2 rfl rfl rfl (fun Q hQ=>?_);simp only [vkt,seval,j6,KZ,aS,QK,zA,jv,Zr,sent,je,vT,Qz,qp,jA,qb,ldR,rwI,rwS,rwE,wm,ab,aD,yY,jP,yg,Z4,hs,hl2,hx,hpos,b0,b1,hrw,g1,hD,hRi,hRl,e2,hn2,hm2,c1,e4,ab];(try simp only [ite_and]);(repeat' first|with_reducible assumption|apply vz);all_goals (first|(refine ⟨_,_,rfl,hQ _ _ ?_⟩;clear hQ Q)|(apply ux;kernel_rfl)|omega|assumption|with_reducible rfl|skip))|((first|apply uz env|apply uj);intro Q hQ;simp only [vkt,seval,j6,KZ,aS,QK,zA,Zr,jA,qb,ldR,rwI,rwS,rwE,hs,hl2,hx,hpos,b0,hrw,g1,hD,hRi,hRl,e2,hn2,hm2,c1,e4,ite_and];(repeat' first|with_reducible assumption|apply vz|intro hp);all_goals first|(apply hQ;clear hQ Q)|(apply ux;kernel_rfl)|omega|assumption|with_reducible rfl|skip)
 (simp only [vrt,results132,vkt,seval,KZ,ldR,rwI,rwS,rwE];refine Fin.ok (fun j=>[0,1,2,3,5][j]?) [] ?_ ?_ ?_ ?_ ?_ rfl;all_goals (try simp only [vle,vkt,seval]))
 all_goals first|rfl|(simp;done)|exact fun i hi=>(match i,hi with|0,_=>rfl|1,_=>rfl|2,_=>rfl|3,_=>rfl)
def R4:=vz @aI.eq_1 (vz @aB.eq_1 (vz @qj.eq_1 (vz @xB.eq_1 (vz @Qt.eq_1 (vz @qG.eq_1 (vz @wM.eq_1 (vz @wz.eq_1 (vz @kw (vz @YS (@YU))))))))))
def KY (l:Led) (s:List UInt8) (L:List (List UInt8)) (n:List Int) (hs:spS s [32]=L) (h0:L.headD []=yg) (hn:zx (L.drop 1)=some n) (hl:s.length<=900):Fn (jh TabC) prog 132 [.ptr 0 0,aS s] (qf (yn 0 (wm l))) (aI 2) (qf (jc 0 [some (ldR n 1 2 3),some (rwI l.coins),some (rwS l.rates),some (rwE l.entries)])) 0:=by
 have env:=qz (A:=zQ TabC) (kC kQ (kC Zq (kC WM (kC Xo kN))));refine Fn.of (A:=zQ TabC) (n0:=4) (D:=noD) (Fn0 func132 rfl (fun vs w=>by kernel_rfl) (by kernel_rfl)) (by simp) (by simp [AV.ids,aS]) yM (fun _ hB _ _=>hB) zt ?_
 have hm:(1000:Nat)+1<=maxLen:=by decide
 show Sym _ _ _ (wW [.ptr 0 0,aS s] 4 (qf [(0,ldR l.start 1 2 3),(1,rwI l.coins),(2,rwS l.rates),(3,rwE l.entries)])) (Vt tyB noD Tryz.f132 fun S rv=>Fin S rv _ 4 (qf [(0,ldR n 1 2 3),(1,rwI l.coins),(2,rwS l.rates),(3,rwE l.entries)]) 0)
 have hpos:=(wH (s:=s) (sep:=[32]) (by decide)).1
 have hle:=(wH (s:=s) (sep:=[32]) (by decide)).2
 have hit:=yK (s:=s) (sep:=[32]) (by omega)
 rw [hs] at hpos hle hit;have hl2:s.length<=100000:=by omega
 have hx:∀ d,(L.map qp).getD 0 d=[.v (.string ⟨⟨[115,116,97,114,116]⟩⟩)]:=fun d=>by
  match L,h0,hpos with
  |w :: r,h0,_=>simp only [bH] at h0;subst h0;rfl
 have hrw:=QP L;have g1:(1:Int)<=(L.length:Int):=by omega
 have hi:yf L:=hit;have hL:L.length<=1000:=by omega
 obtain ⟨R,hR⟩:∃ R,L.drop 1=R:=⟨_,rfl⟩;have hRl:R.length<=1000:=by rw [<- hR,be];omega
 have hRi:yf R:=fun w hw=>hi _ (aW (hR ▸ hw))
 have hD:((L.map qp).take L.length).drop 1=R.map qp:=by rw [<- hR,bA,bb (by rw [ab];exact ag _)]
 rw [hR] at hn;have b0:(([115,116,97,114,116]:List UInt8) == [99,111,105,110])=false:=by decide
 have b1:(([115,116,97,114,116]:List UInt8) == [114,97,116,101,115])=false:=by decide
 have b2:(([115,116,97,114,116]:List UInt8) == [115,116,97,114,116])=true:=by decide
 have e2:(zx R).isSome=true:=by rw [hn];rfl
 repeat' first|(apply nx;with_reducible constructor)|apply uq (by decide)|refine vq ?_|refine vx ?_|(refine uk env 2 rfl rfl rfl (fun Q hQ=>?_);simp only [vkt,seval,j6,R4,aS,QK,zA,jv,Zr,sent,je,vT,Qz,qp,jA,qb,ldR,rwI,rwS,rwE,wm,ab,aD,yY,jP,yg,Z4,hs,hl2,hx,hpos,b0,b1,b2,hrw,g1,hD,hRi,hRl,e2,hn,ab];(try simp only [ite_and]);(repeat' first|with_reducible assumption|apply vz);all_goals (first|(refine ⟨_,_,rfl,hQ _ _ ?_⟩;clear hQ Q)|(apply ux;kernel_rfl)|omega|assumption|with_reducible rfl|skip))|((first|apply uz env|apply uj);intro Q hQ;simp only [vkt,seval,j6,R4,aS,zA,jv,jA,qb,ldR,rwI,rwS,rwE,hs,hl2,hx,hpos,b0,b1,hrw,g1,hD,hRi,hRl,hn,ite_and];(repeat' first|with_reducible assumption|apply vz|intro hp);all_goals first|(apply hQ;clear hQ Q)|(apply ux;kernel_rfl)|omega|assumption|with_reducible rfl|skip)
 (simp only [vrt,results132,vkt,seval,R4,ldR,rwI,rwS,rwE];refine Fin.ok (fun j=>[0,1,2,3][j]?) [] ?_ ?_ ?_ ?_ ?_ rfl;all_goals (try simp only [vle,vkt,seval]))
 all_goals first|rfl|(simp;done)|exact fun i hi=>(match i,hi with|0,_=>rfl|1,_=>rfl|2,_=>rfl|3,_=>rfl)
def Qcw:=vz @aI.eq_1 (vz @aB.eq_1 (vz @qj.eq_1 (vz @xB.eq_1 (vz @Qt.eq_1 (vz @qG.eq_1 (vz @wM.eq_1 (vz @wz.eq_1 (vz @kw (vz @YS (@YU))))))))))
def QbZ (l:Led) (s:List UInt8) (L:List (List UInt8)) (hs:spS s [32]=L) (h0:L.headD []=Z4) (h1:L.length=1) (hl:s.length<=900):Fn (jh TabC) prog 132 [.ptr 0 0,aS s] (qf (yn 0 (wm l))) (aI 4) (qf (jc 0 [some (ldR l.start 1 2 3),some (rwI l.coins),some (rwS l.rates),some (rwE l.entries)])) 0:=by
 have env:=qz (A:=zQ TabC) (kC kQ (kC Zq (kC WM (kC Xo kN))));refine Fn.of (A:=zQ TabC) (n0:=4) (D:=noD) (Fn0 func132 rfl (fun vs w=>by kernel_rfl) (by kernel_rfl)) (by simp) (by simp [AV.ids,aS]) yM (fun _ hB _ _=>hB) zt ?_
 have hm:(1000:Nat)+1<=maxLen:=by decide
 show Sym _ _ _ (wW [.ptr 0 0,aS s] 4 (qf [(0,ldR l.start 1 2 3),(1,rwI l.coins),(2,rwS l.rates),(3,rwE l.entries)])) (Vt tyB noD Tryz.f132 fun S rv=>Fin S rv _ 4 (qf [(0,ldR l.start 1 2 3),(1,rwI l.coins),(2,rwS l.rates),(3,rwE l.entries)]) 0)
 have hpos:=(wH (s:=s) (sep:=[32]) (by decide)).1
 have hle:=(wH (s:=s) (sep:=[32]) (by decide)).2
 have hit:=yK (s:=s) (sep:=[32]) (by omega)
 rw [hs] at hpos hle hit;have hl2:s.length<=100000:=by omega
 have hx:∀ d,(L.map qp).getD 0 d=[.v (.string ⟨⟨[98,97,108,97,110,99,101]⟩⟩)]:=fun d=>by
  match L,h0,hpos with
  |w :: r,h0,_=>simp only [bH] at h0;subst h0;rfl
 have hrw:=QP L;have g1:(1:Int)<=(L.length:Int):=by omega
 have hi:yf L:=hit;have hL:L.length<=1000:=by omega
 obtain ⟨R,hR⟩:∃ R,L.drop 1=R:=⟨_,rfl⟩;have hRl:R.length<=1000:=by rw [<- hR,be];omega
 have hRi:yf R:=fun w hw=>hi _ (aW (hR ▸ hw))
 have hD:((L.map qp).take L.length).drop 1=R.map qp:=by rw [<- hR,bA,bb (by rw [ab];exact ag _)]
 have b0:(([98,97,108,97,110,99,101]:List UInt8) == [99,111,105,110])=false:=by decide
 have b1:(([98,97,108,97,110,99,101]:List UInt8) == [114,97,116,101,115])=false:=by decide
 have b2:(([98,97,108,97,110,99,101]:List UInt8) == [115,116,97,114,116])=false:=by decide
 have b3:(([98,97,108,97,110,99,101]:List UInt8) == [98,97,108,97,110,99,101])=true:=by decide
 have d1:decide ((1:Int) < (L.length:Int))=false:=decide_eq_false (by omega)
 repeat' first|(apply nx;with_reducible constructor)|apply uq (by decide)|refine vq ?_|refine vx ?_|(refine uk env 2 rfl rfl rfl (fun Q hQ=>?_);simp only [vkt,seval,j6,Qcw,aS,QK,zA,jv,Zr,sent,je,vT,Qz,qp,jA,qb,ldR,rwI,rwS,rwE,wm,ab,aD,yY,jP,yg,Z4,hs,hl2,hx,hpos,b0,b1,b2,b3,d1,ab];(try simp only [ite_and]);(repeat' first|with_reducible assumption|apply vz);all_goals (first|(refine ⟨_,_,rfl,hQ _ _ ?_⟩;clear hQ Q)|(apply ux;kernel_rfl)|omega|assumption|with_reducible rfl|skip))|((first|apply uz env|apply uj);intro Q hQ;simp only [vkt,seval,j6,aS,zA,qb,ldR,rwI,rwS,rwE,hs,hl2,hx,hpos,b0,b1,b2,d1,ite_and];(repeat' first|with_reducible assumption|apply vz|intro hp);all_goals first|(apply hQ;clear hQ Q)|(apply ux;kernel_rfl)|omega|assumption|with_reducible rfl|skip)
 (simp only [vrt,results132,vkt,seval,Qcw,ldR,rwI,rwS,rwE];refine Fin.ok (fun j=>[0,1,2,3][j]?) [] ?_ ?_ ?_ ?_ ?_ rfl;all_goals (try simp only [vle,vkt,seval]))
 all_goals first|rfl|(simp;done)|exact fun i hi=>(match i,hi with|0,_=>rfl|1,_=>rfl|2,_=>rfl|3,_=>rfl)
def Ru:=vz @aI.eq_1 (vz @aB.eq_1 (vz @qj.eq_1 (vz @xB.eq_1 (vz @Qt.eq_1 (vz @qG.eq_1 (vz @wM.eq_1 (vz @wz.eq_1 (vz @kw (vz @YS (@YU))))))))))
def R9 (l:Led) (s:List UInt8) (L:List (List UInt8)) (w0:List UInt8) (n:Ent) (hs:spS s [32]=L) (h0:L.headD []=w0) (h1:w0 ≠ yY) (h2:w0 ≠ jP) (h3:w0 ≠ yg) (h4:w0 ≠ Z4) (hn:Q0 L=some n) (hc:l.entries.length<=1000) (hl:s.length<=900):Fn (jh TabC) prog 132 [.ptr 0 0,aS s] (qf (yn 0 (wm l))) (aI 3) (qf (jc 0 [some (ldR l.start 1 2 4),some (rwI l.coins),some (rwS l.rates),none,some (rwE (l.entries++[n]))])) 0:=by
 have env:=qz (A:=zQ TabC) (kC kQ (kC Zq (kC WM (kC Xo kN))));refine Fn.of (A:=zQ TabC) (n0:=4) (D:=noD) (Fn0 func132 rfl (fun vs w=>by kernel_rfl) (by kernel_rfl)) (by simp) (by simp [AV.ids,aS]) yM (fun _ hB _ _=>hB) zt ?_
 have hm:(1000:Nat)+1<=maxLen:=by decide
 show Sym _ _ _ (wW [.ptr 0 0,aS s] 4 (qf [(0,ldR l.start 1 2 3),(1,rwI l.coins),(2,rwS l.rates),(3,rwE l.entries)])) (Vt tyB noD Tryz.f132 fun S rv=>Fin S rv _ 4 (qf [(0,ldR l.start 1 2 4),(1,rwI l.coins),(2,rwS l.rates),(4,rwE (l.entries++[n]))]) 0)
 have hpos:=(wH (s:=s) (sep:=[32]) (by decide)).1
 have hle:=(wH (s:=s) (sep:=[32]) (by decide)).2
 have hit:=yK (s:=s) (sep:=[32]) (by omega)
 rw [hs] at hpos hle hit;have hl2:s.length<=100000:=by omega
 have hx:∀ d,(L.map qp).getD 0 d=[.v (.string ⟨⟨w0⟩⟩)]:=fun d=>by
  match L,h0,hpos with
  |w :: r,h0,_=>simp only [bH] at h0;subst h0;rfl
 have hrw:=QP L;have g1:(1:Int)<=(L.length:Int):=by omega
 have hi:yf L:=hit;have hL:L.length<=1000:=by omega
 obtain ⟨R,hR⟩:∃ R,L.drop 1=R:=⟨_,rfl⟩;have hRl:R.length<=1000:=by rw [<- hR,be];omega
 have hRi:yf R:=fun w hw=>hi _ (aW (hR ▸ hw))
 have hD:((L.map qp).take L.length).drop 1=R.map qp:=by rw [<- hR,bA,bb (by rw [ab];exact ag _)]
 have b0:(w0 == [99,111,105,110])=false:=beq_eq_false_iff_ne.2 h1;have b1:(w0 == [114,97,116,101,115])=false:=beq_eq_false_iff_ne.2 h2
 have b2:(w0 == [115,116,97,114,116])=false:=beq_eq_false_iff_ne.2 h3;have b3:(w0 == [98,97,108,97,110,99,101])=false:=beq_eq_false_iff_ne.2 h4
 have e2:(Q0 L).isSome=true:=by rw [hn];rfl
 have hn2:(Q0 L).getD default=n:=by rw [hn];rfl
 have c1:l.entries.length+1<=maxLen:=by omega
 have e4:l.entries.map wz++[[.v (.int .i64 n.day),.v (.int .i64 n.kind),.v (.int .i64 n.coin),.v (.int .i64 n.to),.v (.int .i64 n.amount),.v (.int .i64 n.got)]]=(l.entries++[n]).map wz:=by rw [ai];rfl
 repeat' first|(apply nx;with_reducible constructor)|apply uq (by decide)|refine vq ?_|refine vx ?_|(refine uk env 2 rfl rfl rfl (fun Q hQ=>?_);simp only [vkt,seval,j6,Ru,aS,QK,zA,jv,Zr,sent,je,vT,Qz,qp,jA,qb,ldR,rwI,rwS,rwE,wm,ab,aD,yY,jP,yg,Z4,hs,hl2,hx,hpos,b0,b1,b2,b3,hi,hL,e2,hn2,c1,e4,ab];(try simp only [ite_and]);(repeat' first|with_reducible assumption|apply vz);all_goals (first|(refine ⟨_,_,rfl,hQ _ _ ?_⟩;clear hQ Q)|(apply ux;kernel_rfl)|omega|assumption|with_reducible rfl|skip))|((first|apply uz env|apply uj);intro Q hQ;simp only [vkt,seval,j6,Ru,aS,zA,sent,jA,qb,ldR,rwI,rwS,rwE,hs,hl2,hx,hpos,b0,b1,b2,b3,hi,hL,e2,hn2,c1,e4,ite_and];(repeat' first|with_reducible assumption|apply vz|intro hp);all_goals first|(apply hQ;clear hQ Q)|(apply ux;kernel_rfl)|omega|assumption|with_reducible rfl|skip)
 (simp only [vrt,results132,vkt,seval,Ru,ldR,rwI,rwS,rwE];refine Fin.ok (fun j=>[0,1,2,3,5][j]?) [] ?_ ?_ ?_ ?_ ?_ rfl;all_goals (try simp only [vle,vkt,seval]))
 all_goals first|rfl|(simp;done)|exact fun i hi=>(match i,hi with|0,_=>rfl|1,_=>rfl|2,_=>rfl|3,_=>rfl)
def wF:=vz @ty3 (vz @ty9 (vz @jK (vz @Ls (vz @Zv (vz @Yj (vz @Y9 (vz @xI (vz @xW (vz @kD (vz @U9 (vz @ti3.eq_1 (vz @ti9.eq_1 (vz @jr.eq_1 (vz @VC.eq_1 (vz @Qo.eq_1 (vz @WG.eq_1 (vz @JZ.eq_1 (vz @vO.eq_1 (vz @vD.eq_1 (vz @vR.eq_1 @YI.eq_1))))))))))))))))))))
def Qih:=vz @aI.eq_1 (vz @aB.eq_1 (vz @qj.eq_1 (vz @xB.eq_1 (vz @Qt.eq_1 (vz @qG.eq_1 (vz @wM.eq_1 (vz @wz.eq_1 (vz @kw (vz @YS (@YU))))))))))
def Qcd (l:Led) (s:List UInt8) (L:List (List UInt8)) (hs:spS s [32]=L) (h0:L.headD []=yY) (hn:zx (L.drop 1)=none) (hl:s.length<=900):FnX refusal (jh TabC) prog 132 [.ptr 0 0,aS s] (qf (yn 0 (wm l))) (qf (jc 0 ((wm l).map some))):=by
 have env:=qz (A:=zQ TabC) (kC kQ (kC Zq (kC WM (kC Xo kN))));refine FnX.of (A:=zQ TabC) (n0:=4) (Fn0 func132 rfl (fun vs w=>by kernel_rfl) (by kernel_rfl)) (by simp) (by simp [AV.ids,aS]) yM (fun _ hB _ _=>hB) ?_
 show Sym _ _ _ (wW [.ptr 0 0,aS s] 4 (qf [(0,ldR l.start 1 2 3),(1,rwI l.coins),(2,rwS l.rates),(3,rwE l.entries)])) fun e S=>e=.panic refusal/\S.d=[]/\Fin S .junk .junk 4 (qf [(0,ldR l.start 1 2 3),(1,rwI l.coins),(2,rwS l.rates),(3,rwE l.entries)]) 0
 have hpos:=(wH (s:=s) (sep:=[32]) (by decide)).1
 have hle:=(wH (s:=s) (sep:=[32]) (by decide)).2
 have hit:=yK (s:=s) (sep:=[32]) (by omega)
 rw [hs] at hpos hle hit;have hl2:s.length<=100000:=by omega
 have hx:∀ d,(L.map qp).getD 0 d=[.v (.string ⟨⟨[99,111,105,110]⟩⟩)]:=fun d=>by
  match L,h0,hpos with
  |w :: r,h0,_=>simp only [bH] at h0;subst h0;rfl
 have hrw:=QP L;have g1:(1:Int)<=(L.length:Int):=by omega
 have hi:yf L:=hit;have hL:L.length<=1000:=by omega
 obtain ⟨R,hR⟩:∃ R,L.drop 1=R:=⟨_,rfl⟩;have hRl:R.length<=1000:=by rw [<- hR,be];omega
 have hRi:yf R:=fun w hw=>hi _ (aW (hR ▸ hw))
 have hD:((L.map qp).take L.length).drop 1=R.map qp:=by rw [<- hR,bA,bb (by rw [ab];exact ag _)]
 rw [hR] at hn;have b0:(([99,111,105,110]:List UInt8) == [99,111,105,110])=true:=by decide
 have hq:je [.sl (R.map qp)]:=⟨R,rfl,hn,hRi,hRl⟩
 repeat' first|(apply nx;with_reducible constructor)|apply uq (by decide)|refine vq ?_|refine vx ?_|(refine uk env 2 rfl rfl rfl (fun Q hQ=>?_);simp only [vkt,seval,wF,Qih,aS,QK,zA,jv,Zr,sent,je,vT,Qz,qp,jA,qb,ldR,rwI,rwS,rwE,wm,ab,aD,yY,jP,yg,Z4, hs,hl2,hx,hpos,b0,ab,hrw,g1,hD,hq];(try simp only [ite_and]);(repeat' first|with_reducible assumption|apply vz);all_goals (first|(refine ⟨_,_,rfl,hQ _ _ ?_⟩;clear hQ Q)|(apply ux;kernel_rfl)|omega|assumption|with_reducible rfl|skip))|(refine uv env QfY 7 [0,1,2,3,4,5,6] rfl rfl (by kernel_rfl) (fun Q hQ=>?_);simp only [Qd,Jq,Qby,QfX,di,d8,cu,aK,bt,vkt,seval,wF,je,hrw,g1,hD];(try simp only [ite_and]);(repeat' first|with_reducible assumption|apply vz|intro hp);all_goals (first|(refine hQ _ _ _ ?_;clear hQ Q)|(apply ux;kernel_rfl)|omega|assumption|(with_reducible rfl)))|((first|apply uz env|apply uj);intro Q hQ;simp only [vkt,seval,wF,aS,zA,qb,ldR,rwI,rwS,rwE,hs,hl2,hx,hpos,ite_and];(repeat' first|with_reducible assumption|apply vz|intro hp);all_goals first|(apply hQ;clear hQ Q)|(apply ux;kernel_rfl)|omega|assumption|with_reducible rfl|skip)
 (refine ⟨rfl,rfl, ?_⟩;refine Fin.ok (fun j=>[0,1,2,3][j]?)   [] ?_ ?_ ?_ ?_ ?_ rfl;all_goals (try simp only [St.nil,vle,vkt,seval,ldR,rwI,rwS,rwE]))
 all_goals first|rfl|(simp;done)|exact fun i hi=>(match i,hi with|0,_=>rfl|1,_=>rfl|2,_=>rfl|3,_=>rfl)
def Qip:=vz @aI.eq_1 (vz @aB.eq_1 (vz @qj.eq_1 (vz @xB.eq_1 (vz @Qt.eq_1 (vz @qG.eq_1 (vz @wM.eq_1 (vz @wz.eq_1 (vz @kw (vz @YS (@YU))))))))))
def Lr (l:Led) (s:List UInt8) (L:List (List UInt8)) (hs:spS s [32]=L) (h0:L.headD []=jP) (hn:wI (L.drop 1)=none) (hl:s.length<=900):FnX refusal (jh TabC) prog 132 [.ptr 0 0,aS s] (qf (yn 0 (wm l))) (qf (jc 0 ((wm l).map some))):=by
 have env:=qz (A:=zQ TabC) (kC kQ (kC Zq (kC WM (kC Xo kN))));refine FnX.of (A:=zQ TabC) (n0:=4) (Fn0 func132 rfl (fun vs w=>by kernel_rfl) (by kernel_rfl)) (by simp) (by simp [AV.ids,aS]) yM (fun _ hB _ _=>hB) ?_
 show Sym _ _ _ (wW [.ptr 0 0,aS s] 4 (qf [(0,ldR l.start 1 2 3),(1,rwI l.coins),(2,rwS l.rates),(3,rwE l.entries)])) fun e S=>e=.panic refusal/\S.d=[]/\Fin S .junk .junk 4 (qf [(0,ldR l.start 1 2 3),(1,rwI l.coins),(2,rwS l.rates),(3,rwE l.entries)]) 0
 have hpos:=(wH (s:=s) (sep:=[32]) (by decide)).1
 have hle:=(wH (s:=s) (sep:=[32]) (by decide)).2
 have hit:=yK (s:=s) (sep:=[32]) (by omega)
 rw [hs] at hpos hle hit;have hl2:s.length<=100000:=by omega
 have hx:∀ d,(L.map qp).getD 0 d=[.v (.string ⟨⟨[114,97,116,101,115]⟩⟩)]:=fun d=>by
  match L,h0,hpos with
  |w :: r,h0,_=>simp only [bH] at h0;subst h0;rfl
 have hrw:=QP L;have g1:(1:Int)<=(L.length:Int):=by omega
 have hi:yf L:=hit;have hL:L.length<=1000:=by omega
 obtain ⟨R,hR⟩:∃ R,L.drop 1=R:=⟨_,rfl⟩;have hRl:R.length<=1000:=by rw [<- hR,be];omega
 have hRi:yf R:=fun w hw=>hi _ (aW (hR ▸ hw))
 have hD:((L.map qp).take L.length).drop 1=R.map qp:=by rw [<- hR,bA,bb (by rw [ab];exact ag _)]
 rw [hR] at hn;have b0:(([114,97,116,101,115]:List UInt8) == [99,111,105,110])=false:=by decide
 have b1:(([114,97,116,101,115]:List UInt8) == [114,97,116,101,115])=true:=by decide
 have hq:vT [.sl (R.map qp)]:=⟨R,rfl,hn,hRi,hRl⟩
 repeat' first|(apply nx;with_reducible constructor)|apply uq (by decide)|refine vq ?_|refine vx ?_|(refine uk env 2 rfl rfl rfl (fun Q hQ=>?_);simp only [vkt,seval,wF,Qip,aS,QK,zA,jv,Zr,sent,je,vT,Qz,qp,jA,qb,ldR,rwI,rwS,rwE,wm,ab,aD,yY,jP,yg,Z4, hs,hl2,hx,hpos,b0,b1,ab,hrw,g1,hD,hq];(try simp only [ite_and]);(repeat' first|with_reducible assumption|apply vz);all_goals (first|(refine ⟨_,_,rfl,hQ _ _ ?_⟩;clear hQ Q)|(apply ux;kernel_rfl)|omega|assumption|with_reducible rfl|skip))|(refine uv env xRats 7 [0,1,2,3,4,5,6] rfl rfl (by kernel_rfl) (fun Q hQ=>?_);simp only [Qd,Jq,Qby,QfX,di,d8,cu,aK,bt,vkt,seval,wF,vT,hrw,g1,hD];(try simp only [ite_and]);(repeat' first|with_reducible assumption|apply vz|intro hp);all_goals (first|(refine hQ _ _ _ ?_;clear hQ Q)|(apply ux;kernel_rfl)|omega|assumption|(with_reducible rfl)))|((first|apply uz env|apply uj);intro Q hQ;simp only [vkt,seval,wF,aS,zA,qb,ldR,rwI,rwS,rwE,hs,hl2,hx,hpos,b0,ite_and];(repeat' first|with_reducible assumption|apply vz|intro hp);all_goals first|(apply hQ;clear hQ Q)|(apply ux;kernel_rfl)|omega|assumption|with_reducible rfl|skip)
 (refine ⟨rfl,rfl, ?_⟩;refine Fin.ok (fun j=>[0,1,2,3][j]?)   [] ?_ ?_ ?_ ?_ ?_ rfl;all_goals (try simp only [St.nil,vle,vkt,seval,ldR,rwI,rwS,rwE]))
 all_goals first|rfl|(simp;done)|exact fun i hi=>(match i,hi with|0,_=>rfl|1,_=>rfl|2,_=>rfl|3,_=>rfl)
def Qhr:=vz @aI.eq_1 (vz @aB.eq_1 (vz @qj.eq_1 (vz @xB.eq_1 (vz @Qt.eq_1 (vz @qG.eq_1 (vz @wM.eq_1 (vz @wz.eq_1 (vz @kw (vz @YS (@YU))))))))))
def LZ (l:Led) (s:List UInt8) (L:List (List UInt8)) (hs:spS s [32]=L) (h0:L.headD []=yg) (hn:zx (L.drop 1)=none) (hl:s.length<=900):FnX refusal (jh TabC) prog 132 [.ptr 0 0,aS s] (qf (yn 0 (wm l))) (qf (jc 0 ((wm l).map some))):=by
 have env:=qz (A:=zQ TabC) (kC kQ (kC Zq (kC WM (kC Xo kN))));refine FnX.of (A:=zQ TabC) (n0:=4) (Fn0 func132 rfl (fun vs w=>by kernel_rfl) (by kernel_rfl)) (by simp) (by simp [AV.ids,aS]) yM (fun _ hB _ _=>hB) ?_
 show Sym _ _ _ (wW [.ptr 0 0,aS s] 4 (qf [(0,ldR l.start 1 2 3),(1,rwI l.coins),(2,rwS l.rates),(3,rwE l.entries)])) fun e S=>e=.panic refusal/\S.d=[]/\Fin S .junk .junk 4 (qf [(0,ldR l.start 1 2 3),(1,rwI l.coins),(2,rwS l.rates),(3,rwE l.entries)]) 0
 have hpos:=(wH (s:=s) (sep:=[32]) (by decide)).1
 have hle:=(wH (s:=s) (sep:=[32]) (by decide)).2
 have hit:=yK (s:=s) (sep:=[32]) (by omega)
 rw [hs] at hpos hle hit;have hl2:s.length<=100000:=by omega
 have hx:∀ d,(L.map qp).getD 0 d=[.v (.string ⟨⟨[115,116,97,114,116]⟩⟩)]:=fun d=>by
  match L,h0,hpos with
  |w :: r,h0,_=>simp only [bH] at h0;subst h0;rfl
 have hrw:=QP L;have g1:(1:Int)<=(L.length:Int):=by omega
 have hi:yf L:=hit;have hL:L.length<=1000:=by omega
 obtain ⟨R,hR⟩:∃ R,L.drop 1=R:=⟨_,rfl⟩;have hRl:R.length<=1000:=by rw [<- hR,be];omega
 have hRi:yf R:=fun w hw=>hi _ (aW (hR ▸ hw))
 have hD:((L.map qp).take L.length).drop 1=R.map qp:=by rw [<- hR,bA,bb (by rw [ab];exact ag _)]
 rw [hR] at hn;have b0:(([115,116,97,114,116]:List UInt8) == [99,111,105,110])=false:=by decide
 have b1:(([115,116,97,114,116]:List UInt8) == [114,97,116,101,115])=false:=by decide
 have b2:(([115,116,97,114,116]:List UInt8) == [115,116,97,114,116])=true:=by decide
 have hq:je [.sl (R.map qp)]:=⟨R,rfl,hn,hRi,hRl⟩
 repeat' first|(apply nx;with_reducible constructor)|apply uq (by decide)|refine vq ?_|refine vx ?_|(refine uk env 2 rfl rfl rfl (fun Q hQ=>?_);simp only [vkt,seval,wF,Qhr,aS,QK,zA,jv,Zr,sent,je,vT,Qz,qp,jA,qb,ldR,rwI,rwS,rwE,wm,ab,aD,yY,jP,yg,Z4, hs,hl2,hx,hpos,b0,b1,b2,ab,hrw,g1,hD,hq];(try simp only [ite_and]);(repeat' first|with_reducible assumption|apply vz);all_goals (first|(refine ⟨_,_,rfl,hQ _ _ ?_⟩;clear hQ Q)|(apply ux;kernel_rfl)|omega|assumption|with_reducible rfl|skip))|(refine uw env QfY 3 rfl rfl (fun Q hQ=>?_);simp only [Qd,Jq,vkt,seval,wF,je,hrw,g1,hD];(try simp only [ite_and]);(repeat' first|with_reducible assumption|apply vz|intro hp);all_goals (first|(refine hQ _ _ _ ?_;clear hQ Q)|(apply ux;kernel_rfl)|omega|assumption|(with_reducible rfl)))|((first|apply uz env|apply uj);intro Q hQ;simp only [vkt,seval,wF,aS,zA,qb,ldR,rwI,rwS,rwE,hs,hl2,hx,hpos,b0,b1,ite_and];(repeat' first|with_reducible assumption|apply vz|intro hp);all_goals first|(apply hQ;clear hQ Q)|(apply ux;kernel_rfl)|omega|assumption|with_reducible rfl|skip)
 (refine ⟨rfl,rfl, ?_⟩;refine Fin.ok (fun j=>[0,1,2,3][j]?)   [] ?_ ?_ ?_ ?_ ?_ rfl;all_goals (try simp only [vle,vkt,seval,ldR,rwI,rwS,rwE]))
 all_goals first|rfl|(simp;done)|exact fun i hi=>(match i,hi with|0,_=>rfl|1,_=>rfl|2,_=>rfl|3,_=>rfl)
def Qdm (l:Led) (s:List UInt8) (L:List (List UInt8)) (hs:spS s [32]=L) (h0:L.headD []=Z4) (h1:L.length ≠ 1) (hl:s.length<=900):FnX refusal (jh TabC) prog 132 [.ptr 0 0,aS s] (qf (yn 0 (wm l))) (qf (jc 0 ((wm l).map some))):=by
 have env:=qz (A:=zQ TabC) (kC kQ (kC Zq (kC WM (kC Xo kN))));refine FnX.of (A:=zQ TabC) (n0:=4) (Fn0 func132 rfl (fun vs w=>by kernel_rfl) (by kernel_rfl)) (by simp) (by simp [AV.ids,aS]) yM (fun _ hB _ _=>hB) ?_
 show Sym _ _ _ (wW [.ptr 0 0,aS s] 4 (qf [(0,ldR l.start 1 2 3),(1,rwI l.coins),(2,rwS l.rates),(3,rwE l.entries)])) fun e S=>e=.panic refusal/\S.d=[]/\Fin S .junk .junk 4 (qf [(0,ldR l.start 1 2 3),(1,rwI l.coins),(2,rwS l.rates),(3,rwE l.entries)]) 0
 have hpos:=(wH (s:=s) (sep:=[32]) (by decide)).1
 have hle:=(wH (s:=s) (sep:=[32]) (by decide)).2
 have hit:=yK (s:=s) (sep:=[32]) (by omega)
 rw [hs] at hpos hle hit;have hl2:s.length<=100000:=by omega
 have hx:∀ d,(L.map qp).getD 0 d=[.v (.string ⟨⟨[98,97,108,97,110,99,101]⟩⟩)]:=fun d=>by
  match L,h0,hpos with
  |w :: r,h0,_=>simp only [bH] at h0;subst h0;rfl
 have hrw:=QP L;have g1:(1:Int)<=(L.length:Int):=by omega
 have hi:yf L:=hit;have hL:L.length<=1000:=by omega
 obtain ⟨R,hR⟩:∃ R,L.drop 1=R:=⟨_,rfl⟩;have hRl:R.length<=1000:=by rw [<- hR,be];omega
 have hRi:yf R:=fun w hw=>hi _ (aW (hR ▸ hw))
 have hD:((L.map qp).take L.length).drop 1=R.map qp:=by rw [<- hR,bA,bb (by rw [ab];exact ag _)]
 have b0:(([98,97,108,97,110,99,101]:List UInt8) == [99,111,105,110])=false:=by decide
 have b1:(([98,97,108,97,110,99,101]:List UInt8) == [114,97,116,101,115])=false:=by decide
 have b2:(([98,97,108,97,110,99,101]:List UInt8) == [115,116,97,114,116])=false:=by decide
 have b3:(([98,97,108,97,110,99,101]:List UInt8) == [98,97,108,97,110,99,101])=true:=by decide
 have d1:decide ((1:Int) < (L.length:Int))=true:=decide_eq_true (by omega)
 repeat' first|(apply nx;with_reducible constructor)|apply uq (by decide)|refine vq ?_|refine vx ?_|(refine uk env 2 rfl rfl rfl (fun Q hQ=>?_);simp only [vkt,seval,wF];(try simp only [ite_and]);(repeat' first|with_reducible assumption|apply vz);all_goals (first|(refine ⟨_,_,rfl,hQ _ _ ?_⟩;clear hQ Q)|(apply ux;kernel_rfl)|omega|assumption|with_reducible rfl|skip))|((first|apply uz env|apply uj);intro Q hQ;simp only [vkt,seval,wF,aS,zA,qb,ldR,rwI,rwS,rwE,hs,hl2,hx,hpos,b0,b1,b2,d1,ite_and];(repeat' first|with_reducible assumption|apply vz|intro hp);all_goals first|(apply hQ;clear hQ Q)|(apply ux;kernel_rfl)|omega|assumption|with_reducible rfl|skip)
 (refine ⟨rfl,rfl, ?_⟩;refine Fin.ok (fun j=>[0,1,2,3][j]?)   [] ?_ ?_ ?_ ?_ ?_ rfl;all_goals (try simp only [vle,vkt,seval,ldR,rwI,rwS,rwE]))
 all_goals first|rfl|(simp;done)|exact fun i hi=>(match i,hi with|0,_=>rfl|1,_=>rfl|2,_=>rfl|3,_=>rfl)
def QhI:=vz @aI.eq_1 (vz @aB.eq_1 (vz @qj.eq_1 (vz @xB.eq_1 (vz @Qt.eq_1 (vz @qG.eq_1 (vz @wM.eq_1 (vz @wz.eq_1 (vz @kw (vz @YS (@YU))))))))))
def L9 (l:Led) (s:List UInt8) (L:List (List UInt8)) (w0:List UInt8) (hs:spS s [32]=L) (h0:L.headD []=w0) (h1:w0 ≠ yY) (h2:w0 ≠ jP) (h3:w0 ≠ yg) (h4:w0 ≠ Z4) (hn:Q0 L=none) (hl:s.length<=900):FnX refusal (jh TabC) prog 132 [.ptr 0 0,aS s] (qf (yn 0 (wm l))) (qf (jc 0 ((wm l).map some))):=by
 have env:=qz (A:=zQ TabC) (kC kQ (kC Zq (kC WM (kC Xo kN))));refine FnX.of (A:=zQ TabC) (n0:=4) (Fn0 func132 rfl (fun vs w=>by kernel_rfl) (by kernel_rfl)) (by simp) (by simp [AV.ids,aS]) yM (fun _ hB _ _=>hB) ?_
 show Sym _ _ _ (wW [.ptr 0 0,aS s] 4 (qf [(0,ldR l.start 1 2 3),(1,rwI l.coins),(2,rwS l.rates),(3,rwE l.entries)])) fun e S=>e=.panic refusal/\S.d=[]/\Fin S .junk .junk 4 (qf [(0,ldR l.start 1 2 3),(1,rwI l.coins),(2,rwS l.rates),(3,rwE l.entries)]) 0
 have hpos:=(wH (s:=s) (sep:=[32]) (by decide)).1
 have hle:=(wH (s:=s) (sep:=[32]) (by decide)).2
 have hit:=yK (s:=s) (sep:=[32]) (by omega)
 rw [hs] at hpos hle hit;have hl2:s.length<=100000:=by omega
 have hx:∀ d,(L.map qp).getD 0 d=[.v (.string ⟨⟨w0⟩⟩)]:=fun d=>by
  match L,h0,hpos with
  |w :: r,h0,_=>simp only [bH] at h0;subst h0;rfl
 have hrw:=QP L;have g1:(1:Int)<=(L.length:Int):=by omega
 have hi:yf L:=hit;have hL:L.length<=1000:=by omega
 obtain ⟨R,hR⟩:∃ R,L.drop 1=R:=⟨_,rfl⟩;have hRl:R.length<=1000:=by rw [<- hR,be];omega
 have hRi:yf R:=fun w hw=>hi _ (aW (hR ▸ hw))
 have hD:((L.map qp).take L.length).drop 1=R.map qp:=by rw [<- hR,bA,bb (by rw [ab];exact ag _)]
 have b0:(w0 == [99,111,105,110])=false:=beq_eq_false_iff_ne.2 h1;have b1:(w0 == [114,97,116,101,115])=false:=beq_eq_false_iff_ne.2 h2
 have b2:(w0 == [115,116,97,114,116])=false:=beq_eq_false_iff_ne.2 h3;have b3:(w0 == [98,97,108,97,110,99,101])=false:=beq_eq_false_iff_ne.2 h4
 have hq:Qz [.sl (L.map qp)]:=⟨L,rfl,hn,hi,hL⟩
 repeat' first|(apply nx;with_reducible constructor)|apply uq (by decide)|refine vq ?_|refine vx ?_|(refine uk env 2 rfl rfl rfl (fun Q hQ=>?_);simp only [vkt,seval,wF,QhI,aS,QK,zA,jv,Zr,sent,je,vT,Qz,qp,jA,qb,ldR,rwI,rwS,rwE,wm,ab,aD,yY,jP,yg,Z4, hs,hl2,hx,hpos,b0,b1,b2,b3,ab,hq];(try simp only [ite_and]);(repeat' first|with_reducible assumption|apply vz);all_goals (first|(refine ⟨_,_,rfl,hQ _ _ ?_⟩;clear hQ Q)|(apply ux;kernel_rfl)|omega|assumption|with_reducible rfl|skip))|(refine uv env xEnt 6 [0,1,2,3,4,5] rfl rfl (by kernel_rfl) (fun Q hQ=>?_);simp only [Qd,Jq,Qby,QfX,di,d8,cu,aK,bt,vkt,seval,wF,Qz];(try simp only [ite_and]);(repeat' first|with_reducible assumption|apply vz|intro hp);all_goals (first|(refine hQ _ _ _ ?_;clear hQ Q)|(apply ux;kernel_rfl)|omega|assumption|(with_reducible rfl)))|((first|apply uz env|apply uj);intro Q hQ;simp only [vkt,seval,wF,aS,zA,qb,ldR,rwI,rwS,rwE,hs,hl2,hx,hpos,b0,b1,b2,b3,ite_and];(repeat' first|with_reducible assumption|apply vz|intro hp);all_goals first|(apply hQ;clear hQ Q)|(apply ux;kernel_rfl)|omega|assumption|with_reducible rfl|skip)
 (refine ⟨rfl,rfl, ?_⟩;refine Fin.ok (fun j=>[0,1,2,3][j]?)   [] ?_ ?_ ?_ ?_ ?_ rfl;all_goals (try simp only [St.nil,vle,vkt,seval,ldR,rwI,rwS,rwE]))
 all_goals first|rfl|(simp;done)|exact fun i hi=>(match i,hi with|0,_=>rfl|1,_=>rfl|2,_=>rfl|3,_=>rfl)
def tak_x (l:Led) (s:List UInt8) (hl:s.length<=900) (h:Qj s=none):FnX refusal (jh TabC) prog 132 [.ptr 0 0,aS s] (qf (yn 0 (wm l))) (qf (jc 0 ((wm l).map some))):=by
 unfold Qj Yu at h;obtain ⟨L,hs⟩:∃ L,spS s [32]=L:=⟨_,rfl⟩
 rw [hs] at h;split at h
 ·exact Qcd l s L hs ‹_› (by simpa using h) hl
 ·split at h
  ·exact Lr l s L hs ‹_› (by simpa using h) hl
  ·split at h
   ·exact LZ l s L hs ‹_› (by simpa using h) hl
   ·split at h
    ·split at h
     ·cases h
     ·exact Qdm l s L hs ‹_› ‹_› hl
    ·exact L9 l s L _ hs rfl ‹_› ‹_› ‹_› ‹_› (by simpa using h) hl
def q8 (l:Led):Ln->Led
 |.coin n=>{ l with coins:=l.coins++[n] }
 |.rates r=>{ l with rates:=l.rates++[r] }
 |.start n=>{ l with start:=n }
 |.bal=>l
 |.entry x=>{ l with entries:=l.entries++[x] }
def qg:Ln->Int
 |.coin _=>0
 |.rates _=>1
 |.start _=>2
 |.entry _=>3
 |.bal=>4
def zP (l:Led):Ln->List (Option AObj)
 |.coin n=>[some (ldR l.start 4 2 3),none,some (rwS l.rates),some (rwE l.entries),some (rwI (l.coins++[n]))]
 |.rates r=>[some (ldR l.start 1 4 3),some (rwI l.coins),none,some (rwE l.entries),some (rwS (l.rates++[r]))]
 |.start n=>[some (ldR n 1 2 3),some (rwI l.coins),some (rwS l.rates),some (rwE l.entries)]
 |.bal=>[some (ldR l.start 1 2 3),some (rwI l.coins),some (rwS l.rates),some (rwE l.entries)]
 |.entry x=>[some (ldR l.start 1 2 4),some (rwI l.coins),some (rwS l.rates),none,some (rwE (l.entries++[x]))]
def QkF (l:Led) (s:List UInt8) (x:Ln) (hl:s.length<=900) (h:Qj s=some x) (hc:l.coins.length<=1000) (hr:l.rates.length<=1000) (he:l.entries.length<=1000):Fn (jh TabC) prog 132 [.ptr 0 0,aS s] (qf (yn 0 (wm l))) (aI (qg x)) (qf (jc 0 (zP l x))) 0:=by
 unfold Qj Yu at h;obtain ⟨L,hs⟩:∃ L,spS s [32]=L:=⟨_,rfl⟩
 rw [hs] at h;split at h
 ·obtain ⟨n,hn,rfl⟩:=aA.1 h
  exact UY l s L n hs ‹_› hn hc hl
 ·split at h
  ·obtain ⟨n,hn,rfl⟩:=aA.1 h
   exact KV l s L n hs ‹_› hn hr hl
  ·split at h
   ·obtain ⟨n,hn,rfl⟩:=aA.1 h
    exact KY l s L n hs ‹_› hn hl
   ·split at h
    ·split at h
     ·cases h
      exact QbZ l s L hs ‹_› ‹_› hl
     ·cases h
    ·obtain ⟨n,hn,rfl⟩:=aA.1 h
     exact R9 l s L _ n hs rfl ‹_› ‹_› ‹_› ‹_› hn he hl
def ldC (cs rs st es:List (List DV)):Led:=⟨cs.map qM,rs.map xC,st.map qE,es.map xy⟩
def xN (S:St):List AV->Option Pk
 |[.ptr c 0,.v (.string ⟨⟨s⟩⟩)]=>match S.h c with
  |some (.cells [.row i,.row j,.sl st,.row k])=>match S.h i with
   |some (.row _ _ cs)=>match S.h j with
    |some (.row _ _ rs)=>match S.h k with
     |some (.row _ _ es)=>match Qj s with
      |some x=>some { pre:=(cs=(cs.map qM).map qG/\rs=(rs.map xC).map wM/\st=(st.map qE).map ql/\es=(es.map xy).map wz)/\s.length<=900/\cs.length<=1000/\rs.length<=1000/\es.length<=1000,hs:=[c,i,j,k],ar:=[.ptr 0 0,.v (.string ⟨⟨s⟩⟩)],L0:=wm (ldC cs rs st es),v:=aI (qg x),L1:=zP (ldC cs rs st es) x }
      |none=>none
     |_=>none
    |_=>none
   |_=>none
  |_=>none
 |_=>none
def eTak:qc (zQ TabC) prog 132 (fnE xN):=QbW fun S bs q h hp=>by
 unfold xN at h;split at h
 ·split at h
  ·split at h
   ·split at h
    ·split at h
     ·split at h
      ·rename_i x hx
       cases h;obtain ⟨h1,h3,h4,h5,h6⟩:=hp
       exact QkF _ _ x h3 hx (by simp only [ldC,ab];exact h4) (by simp only [ldC,ab];exact h5) (by simp only [ldC,ab];exact h6)
      ·cases h
     ·cases h
    ·cases h
   ·cases h
  ·cases h
 ·cases h
def WX:Q3:=fun S bs=>match bs with
 |[.ptr c 0,.v (.string ⟨⟨s⟩⟩)]=>match S.h c with
  |some (.cells [.row i,.row j,.sl st,.row k])=>match S.h i with
   |some (.row _ _ cs)=>match S.h j with
    |some (.row _ _ rs)=>match S.h k with
     |some (.row _ _ es)=>some ({ pre:=(cs=(cs.map qM).map qG/\rs=(rs.map xC).map wM/\st=(st.map qE).map ql/\es=(es.map xy).map wz)/\s.length<=900/\Qj s=none,hs:=[c,i,j,k],ar:=[.ptr 0 0,.v (.string ⟨⟨s⟩⟩)],L0:=wm (ldC cs rs st es),v:=.junk,L1:=(wm (ldC cs rs st es)).map some },refusal)
     |_=>none
    |_=>none
   |_=>none
  |_=>none
 |_=>none
def Qi0:XOK (zQ TabC) prog 132 WX:=fun S bs q ch h hp=>by
 unfold WX at h;split at h
 ·split at h
  ·split at h
   ·split at h
    ·split at h
     ·cases h
      obtain ⟨h1,h3,h4⟩:=hp;exact ⟨rfl,jh TabC,fun _ _ _ _ _ _ _ h=>WB h,tak_x _ _ h3 h4⟩
     ·cases h
    ·cases h
   ·cases h
  ·cases h
 ·cases h
def QgL:RetE prog 131:=⟨fun vs w=>by kernel_rfl,fun w=>by
 refine callsDIn_of_wpSIn func131 rfl trivial fun c₀ cs hu=>?_
 apply wpSIn_seq
 apply wpSIn_region
 simp [wpOpsSIn,go_sem,recoverD,hu,ntmps131,Exit.thenS]
 apply wpSIn_seq
 apply wpSIn_region
 simp [wpOpsSIn,go_sem,Exit.thenS]
 refine wpSIn_cond (t:=false) (by simp [Act.eval,Array.replicate]) ?_
 simp only [cN,if_false];refine wpSIn_of_wpIn rfl (wpIn_skip ?_)
 cases c₀
 simp_all [bodyPostS,results,results131,Ext.refl]⟩
def Qhj:RecE prog 131 refusal:=⟨fun vs w=>by kernel_rfl,fun w=>by
 refine callsDIn_of_wpSIn func131 rfl trivial fun c₀ cs hu=>?_
 apply wpSIn_seq
 apply wpSIn_region
 simp [wpOpsSIn,go_sem,recoverD,hu,ntmps131,Exit.thenS,refusal]
 apply wpSIn_seq
 apply wpSIn_region
 simp [wpOpsSIn,go_sem,Exit.thenS]
 refine wpSIn_cond (t:=true) (by simp [Act.eval,Array.replicate]) ?_
 simp only [if_true];have hta:∀ w,(Instr.typeAssert (.iface 217 (.agg #[])) 20 217 true).run prog w=.ok (.tuple #[.agg #[],.bool true]) w:=fun w=>by kernel_rfl
 apply wpSIn_seq
 apply wpSIn_region
 simp [wpOpsSIn,go_sem,Exit.thenS,hta]
 apply wpSIn_seq
 apply wpSIn_region
 simp [wpOpsSIn,go_sem,Exit.thenS]
 refine wpSIn_cond (t:=false) (by simp [Act.eval,Array.replicate]) ?_
 simp only [cN,if_false];refine wpSIn_of_wpIn rfl (wpIn_skip ?_)
 simp [bodyPostS,results,results131]
 have hb:Below w.heap.size w (w.alloc (Obj.cells #[] 217)):=(Below.refl _ w).alloc (ag _) _;exact ⟨rfl,hb.os,hb.tape,hb.output,hb.size,fun k hk _=>hb.block k hk⟩⟩
def wy (st k:Int):Bool:=decide (k < st) || decide (st=4) || (decide (k=2) && decide (st=2)) || (decide (2 < k) && decide (st < 2))
def vk:Led:=⟨[],[],[],[]⟩
def yZ (c:Led) (st:Int) (i:Nat) (s:List UInt8):Except Nat (Led × Int):=match Qj s with
 |none=>.error (i+1)
 |some x=>if wy st (qg x)=true then .error (i+1) else .ok (q8 c x,qg x)
def qX (c:Led) (st:Int) (i:Nat):List (List UInt8)->Except Nat (Led × Int)
 |[]=>.ok (c,st)
 |s :: r=>match yZ c st i s with
  |.error n=>.error n
  |.ok p=>qX p.1 p.2 (i+1) r
def yS:∀ (a b:List (List UInt8)) (c:Led) (st:Int) (i:Nat),qX c st i (a++b)=match qX c st i a with
  |.error n=>.error n
  |.ok p=>qX p.1 p.2 (i+a.length) b
 |[],b,c,st,i=>rfl
 |s :: a,b,c,st,i=>by
  rw [cD,qX,qX];cases yZ c st i s with
  |error n=>rfl
  |ok p =>
   dsimp only;rw [yS a b p.1 p.2 (i+1),bl,show i+1+a.length=i+(a.length+1) by omega]
def QbQ (c c':Led) (n:Nat):Prop:=c'.coins.length<=c.coins.length+n/\c'.rates.length<=c.rates.length+n/\c'.entries.length<=c.entries.length+n
def ZK:∀ (a:List (List UInt8)) (c:Led) (st:Int) (i:Nat) {c':Led} {st':Int},qX c st i a=.ok (c',st')->QbQ c c' a.length
 |[],c,st,i,c',st',h=>by
  simp only [qX,Except.ok.injEq,Prod.mk.injEq] at h;obtain ⟨rfl,rfl⟩:=h
  simp [QbQ]
 |s :: a,c,st,i,c',st',h=>by
  rw [qX] at h;split at h
  ·cases h
  ·rename_i p hp
   have ih:=ZK a p.1 p.2 (i+1) h;have h1:QbQ c p.1 1:=by
    unfold yZ at hp;split at hp
    ·cases hp
    ·split at hp
     ·cases hp
     ·rename_i x _ _
      cases hp;cases x <;> simp [q8,QbQ]
   unfold QbQ at ih h1 ⊢;rw [bl]
   omega
def St5 (st:Int):Prop:=st=0\/st=1\/st=2\/st=3\/st=4
def Qef (x:Ln):St5 (qg x):=by
 cases x <;> simp [qg,St5]
def Ku:∀ (a:List (List UInt8)) (c:Led) (st:Int) (i:Nat) {c':Led} {st':Int},St5 st->qX c st i a=.ok (c',st')->St5 st'
 |[],c,st,i,c',st',h0,h=>by
  simp only [qX,Except.ok.injEq,Prod.mk.injEq] at h;obtain ⟨rfl,rfl⟩:=h
  exact h0
 |s :: a,c,st,i,c',st',h0,h=>by
  rw [qX] at h;split at h
  ·cases h
  ·rename_i p hp
   refine Ku a p.1 p.2 (i+1) ?_ h
   unfold yZ at hp;split at hp
   ·cases hp
   ·split at hp
    ·cases hp
    ·rename_i x _ _
     cases hp;exact Qef x
def WL (t:List UInt8):Except Nat Led:=match qX vk 0 0 ((spS t [10]).take ((spS t [10]).length - 1)) with
 |.error n=>.error n
 |.ok p=>if p.2=4/\(spS t [10]).getD ((spS t [10]).length - 1) []=[] then .ok p.1 else .error (spS t [10]).length
def rdV:Except Nat Led->AV
 |.ok c=>.tup [zo c,aI 0]
 |.error n=>.tup [.agg [.any,.any,.any,.any],aI n]
def rdS (L R:List (List UInt8)) (m k:Nat) (c:Led) (st:Int):St:={ t:=asg [(2,.ptr 0 0),(3,aI k),(4,qb L),(5,aI m),(6,aI st),(17,qb R),(18,aI R.length),(19,aI k)],h:=qf [(0,ldR c.start 1 2 3),(1,rwI c.coins),(2,rwS c.rates),(3,rwE c.entries)],n:=4,d:=[.call 131 []] }
def qh:=vz @ty3 (vz @ty9 (vz @Ls (vz @xI (vz @U9 (vz @ti3.eq_1 (vz @ti9.eq_1 (vz @VC.eq_1 (vz @vO.eq_1 @YI.eq_1))))))))
def qA:=vz @aI.eq_1 (vz @aB.eq_1 (vz @kw (vz @YS (vz @YU (vz @JA (vz @xV (vz @Rn (vz @kE (@W9)))))))))
def Qhv (t:List UInt8) (hl:t.length<=400):Fn (jh TabC) prog 70 [aS t] noH (rdV (WL t)) noH 0:=by
 have env:Env (tabN TabC) prog tyB (tab [(96,zD false zA),(132,fnE xN)]):=qz ⟨kQ.anti QaW,eTak.anti QaW,trivial⟩;refine Fn.ofE (A:=tabN TabC) (n0:=0) (D:=dE 131) (fr:=131) (ok:=fun ch=>ch=refusal) (Fn0 func70 rfl (fun vs w=>by kernel_rfl) (by kernel_rfl)) (by rintro _ rfl;exact Qhj) (by simp) (by simp [AV.ids,aS]) (fun i o h=>by cases h) (fun _ hB _ hr=>⟨hB,hr⟩) (dE_ok QgL) ?_
 have hL:=wH (s:=t) (sep:=[10]) (by decide)
 have hit:=XY (s:=t) (sep:=[10]);unfold WL
 obtain ⟨L,hLe⟩:∃ L,spS t [10]=L:=⟨_,rfl⟩;rw [hLe] at hL hit ⊢
 obtain ⟨m,hm⟩:∃ m,L.length=m+1:=⟨L.length - 1,by omega⟩
 rw [hm,Nat.add_sub_cancel];have hl1:t.length<=100000:=by omega
 have e0:IntKind.wrap .i64 ((L.length:Int) - 1)=(m:Int):=by rw [hm,wrap64 (by omega) (by omega)];omega
 obtain ⟨R,hR⟩:∃ R,L.take m=R:=⟨_,rfl⟩;have hRl:R.length=m:=by rw [<- hR,bi];omega
 have hT:(L.map qp).take m=R.map qp:=by rw [<- hR,List.map_take]
 rw [hR]
 repeat' first|(apply nx;with_reducible constructor)|apply uq (by decide)|refine vq ?_|refine vx ?_
 (apply uz env;intro Q hQ;simp only [vkt,seval,qh,aS,ite_and];(repeat' first|with_reducible assumption|apply vz|intro hp);all_goals first|(apply hQ;clear hQ Q)|(apply ux;kernel_rfl)|omega|assumption|with_reducible rfl|skip)
 repeat' first|(apply nx;with_reducible constructor)|apply uq (by decide)|refine vq ?_|refine vx ?_
 refine QfB QkT env rfl rfl rfl fun Q hQ=>?_
 simp only [List.dropLast];simp only [vkt,seval]
 repeat' first|with_reducible assumption|refine ea ?_ ?_|intro hp
 all_goals first|(refine hQ _ _ _ (by simp only [vkt,seval];rfl) ?_;clear hQ Q)|skip
 dsimp only [put];have hm0:(m:Int)<=(L.length:Int):=by omega
 have hm1:(0:Int)<=(m:Int):=by omega
 have hrw:=QP L
 repeat' first|(apply nx;with_reducible constructor)|apply uq (by decide)|refine vq ?_|refine vx ?_|(refine uk env 2 rfl rfl rfl (fun Q hQ=>?_);simp only [vkt,seval,qh,qA,aS,zA,xN,WX,qp,qb,ldC,rwI,rwS,rwE,ldR,wm,ab,aD,ai,rdS,qg,q8,zP,dE,hLe,hl1,e0,hT,hm0,hm1,hrw,aR,List.drop_zero,Int.toNat_zero,ab];(try simp only [ite_and]);(repeat' first|with_reducible assumption|apply vz);all_goals (first|(refine ⟨_,_,rfl,hQ _ _ ?_⟩;clear hQ Q)|(apply ux;kernel_rfl)|omega|assumption|with_reducible rfl|skip))|((first|apply uz env|apply uj);intro Q hQ;simp only [vkt,seval,qh,zA,qb,hLe,hl1,e0,hT,hm0,hm1,hrw,ite_and];(repeat' first|with_reducible assumption|apply vz|intro hp);all_goals first|(apply hQ;clear hQ Q)|(apply ux;kernel_rfl)|omega|assumption|with_reducible rfl|skip)
 refine qi (fun s:{ p:Nat × Led × Int // p.1<=m/\qX vk 0 0 (R.take p.1)=.ok (p.2.1,p.2.2) }=>rdS L R m s.1.1 s.1.2.1 s.1.2.2) (fun s=>m - s.1.1) ⟨(0,vk,0),af _,rfl⟩ ?_ fun ⟨⟨k,c,st⟩,hk,hg⟩=>?_
 ·simp only [rdS,vk]
  (refine Le.ok (fun i=>if i=0 then some 0 else none) [] ?_;constructor;all_goals (try simp only [vle,vkt,seval,qA,qb,rwI,rwS,rwE,ldR]))
  all_goals first|rfl|(simp;done)|exact ⟨rfl,trivial⟩|(simp [ADf.ids,AV.idsL];done)|(intro i hi;rw [if_neg (by omega)];done)
 simp only at hk hg ⊢;have hsz:=ZK _ _ _ _ hg
 have hst:=Ku _ _ _ _ (.inl rfl) hg;have htl:(R.take k).length=k:=by rw [bi];omega
 rw [htl] at hsz;simp only [QbQ,vk,cm,bE] at hsz
 by_cases hlt:k < m
 ·have d1:decide ((k:Int) < (R.length:Int))=true:=decide_eq_true (by omega)
  have e9:=k9 k (by omega)
  have hkR:k < R.length:=by omega
  have hs1:(R.getD k []).length<=900:=by
   have h1:R.getD k []=R[k]:=by simp [hkR]
   rw [h1];refine bj (hit _ (aY (i:=m) ?_)) (by omega)
   rw [hR];exact bF _
  have hS:R.take (k+1)=R.take k++[R.getD k []]:=by
   rw [cI,al hkR]
   simp [hkR]
  have hx:∀ d,(R.map qp).getD k d=[.v (.string ⟨⟨R.getD k []⟩⟩)]:=fun d=>YQ R k d hkR
  generalize R.getD k []=s at hs1 hS hx;have hnx:qX vk 0 0 (R.take (k+1))=match yZ c st k s with
    |.error n=>.error n
    |.ok p=>.ok p:=by
   rw [hS,yS,hg];dsimp only
   rw [htl,bE,qX];cases yZ c st k s <;> rfl
  have herr:∀ n,yZ c st k s=.error n->rdV (match qX vk 0 0 R with
    |.error n=>.error n
    |.ok p=>if p.2=4/\L.getD m []=[] then .ok p.1 else .error (m+1))=.tup [.agg [.any,.any,.any,.any],aI n]:=fun n hn=>by
   have h1:qX vk 0 0 R=.error n:=by
    have h2:=yS (R.take (k+1)) (R.drop (k+1)) vk 0 0;rw [dt,hnx,hn] at h2
    exact h2
   rw [h1];rfl
  have c1:c.coins.length<=1000:=by omega
  have c2:c.rates.length<=1000:=by omega
  have c3:c.entries.length<=1000:=by omega
  obtain ⟨cs,rs,ss,es⟩:=c;dsimp only at c1 c2 c3
  simp only [rdS];cases hln:Qj s with
  |none =>
   have he:yZ ⟨cs,rs,ss,es⟩ st k s=.error (k+1):=by simp only [yZ,hln]
   rw [herr _ he]
   repeat' first|(apply nx;with_reducible constructor)|apply uq (by decide)|refine vq ?_|refine vx ?_|(refine uk env 2 rfl rfl rfl (fun Q hQ=>?_);simp only [vkt,seval,qh,qA,aS,zA,xN,WX,qp,qb,ldC,rwI,rwS,rwE,ldR,wm,ab,aD,ai,rdS,qg,q8,zP,dE, d1,e9,hx,hs1,hln,c1,c2,c3];(try simp only [ite_and]);(repeat' first|with_reducible assumption|apply vz);all_goals (first|(refine ⟨_,_,rfl,hQ _ _ ?_⟩;clear hQ Q)|(apply ux;kernel_rfl)|omega|assumption|with_reducible rfl|skip))|(refine uw env (Qi0.anti QaW) 1 rfl rfl (fun Q hQ=>?_);simp only [Qd,vkt,seval,qA,WX,ldC,rwI,rwS,rwE,ldR,wm,hs1,hln];(try simp only [ite_and]);(repeat' first|with_reducible assumption|apply vz|intro hp);all_goals (first|(refine hQ _ _ _ ?_;clear hQ Q)|(apply ux;kernel_rfl)|omega|assumption|(with_reducible rfl)))|((first|apply uz env|apply uj);intro Q hQ;simp only [vkt,seval,qh,qA,qb,rwI,rwS,rwE,ldR,d1,e9,hx,ite_and];(repeat' first|with_reducible assumption|apply vz|intro hp);all_goals first|(apply hQ;clear hQ Q)|(apply ux;kernel_rfl)|omega|assumption|with_reducible rfl|skip)
   refine ⟨rfl,rfl, ?_⟩
   (simp only [vrt,results70,vkt,seval,qh,qA];refine Fin.val rfl ?_;(try simp only [AV.le,AV.leL]))
   all_goals first|rfl|exact ⟨⟨rfl,rfl,rfl,rfl,trivial⟩,trivial,trivial⟩|(simp;done)
  |some x =>
   by_cases hb:wy st (qg x)=true
   ·have he:yZ ⟨cs,rs,ss,es⟩ st k s=.error (k+1):=by simp only [yZ,hln];rw [if_pos hb]
    rw [herr _ he]
    rcases hst with rfl|rfl|rfl|rfl|rfl <;> cases x <;> first|(exfalso;simp [wy,qg] at hb;done)|skip
    all_goals
     repeat' first|(apply nx;with_reducible constructor)|apply uq (by decide)|refine vq ?_|refine vx ?_|(refine uk env 2 rfl rfl rfl (fun Q hQ=>?_);simp only [vkt,seval,qh];(try simp only [ite_and]);(repeat' first|with_reducible assumption|apply vz);all_goals (first|(refine ⟨_,_,rfl,hQ _ _ ?_⟩;clear hQ Q)|(apply ux;kernel_rfl)|omega|assumption|with_reducible rfl|skip))|((first|apply uz env|apply uj);intro Q hQ;simp only [vkt,seval,qh,qA,xN,qb,ldC,rwI,rwS,rwE,ldR,wm,ai,qg,zP,d1,e9,hx,hs1,hln,c1,c2,c3,ite_and];(repeat' first|with_reducible assumption|apply vz|intro hp);all_goals first|(apply hQ;clear hQ Q)|(apply ux;kernel_rfl)|omega|assumption|with_reducible rfl|skip)
     refine ⟨rfl,rfl, ?_⟩
     (simp only [vrt,results70,vkt,seval,qh,qA];refine Fin.val rfl ?_;(try simp only [AV.le,AV.leL]))
     all_goals first|rfl|exact ⟨⟨rfl,rfl,rfl,rfl,trivial⟩,trivial,trivial⟩|(simp;done)
   ·have he:yZ ⟨cs,rs,ss,es⟩ st k s=.ok (q8 ⟨cs,rs,ss,es⟩ x,qg x):=by simp only [yZ,hln];rw [if_neg hb]
    rw [he] at hnx;dsimp only at hnx
    rcases hst with rfl|rfl|rfl|rfl|rfl
    ·cases x with
     |coin xx =>
      repeat' first|(apply nx;with_reducible constructor)|apply uq (by decide)|refine vq ?_|refine vx ?_|(refine uk env 2 rfl rfl rfl (fun Q hQ=>?_);simp only [vkt,seval,qh,qA,aS,zA,xN,WX,qp,qb,ldC,rwI,rwS,rwE,ldR,wm,ab,aD,ai,rdS,qg,q8,zP,dE,d1,e9,hx,hs1,hln,c1,c2,c3];(try simp only [ite_and]);(repeat' first|with_reducible assumption|apply vz);all_goals (first|(refine ⟨_,_,rfl,hQ _ _ ?_⟩;clear hQ Q)|(apply ux;kernel_rfl)|omega|assumption|with_reducible rfl|skip))|((first|apply uz env|apply uj);intro Q hQ;simp only [vkt,seval,qh,qA,xN,qb,ldC,rwI,rwS,rwE,ldR,wm,ai,qg,zP,d1,e9,hx,hs1,hln,c1,c2,c3,ite_and];(repeat' first|with_reducible assumption|apply vz|intro hp);all_goals first|(apply hQ;clear hQ Q)|(apply ux;kernel_rfl)|omega|assumption|with_reducible rfl|skip)
      refine ⟨⟨(k+1,q8 ⟨cs,rs,ss,es⟩ (.coin xx),qg (.coin xx)),hlt,hnx⟩,by show m - (k+1) < m - k;omega, ?_⟩
      (refine Le.ok (fun i=>if i=1 then some 4 else some i) [] ?_;constructor;all_goals (try simp only [vle,vkt,seval,qA,qb,rwI,rwS,rwE,ldR,ai,qg,q8]))
      all_goals first|rfl|(simp;done)|exact ⟨rfl,trivial⟩|(simp [ADf.ids,AV.idsL];done)|(intro i hi;rw [if_neg (by omega)];done)
     |rates xx =>
      repeat' first|(apply nx;with_reducible constructor)|apply uq (by decide)|refine vq ?_|refine vx ?_|(refine uk env 2 rfl rfl rfl (fun Q hQ=>?_);simp only [vkt,seval,qh,qA,aS,zA,xN,WX,qp,qb,ldC,rwI,rwS,rwE,ldR,wm,ab,aD,ai,rdS,qg,q8,zP,dE,d1,e9,hx,hs1,hln,c1,c2,c3];(try simp only [ite_and]);(repeat' first|with_reducible assumption|apply vz);all_goals (first|(refine ⟨_,_,rfl,hQ _ _ ?_⟩;clear hQ Q)|(apply ux;kernel_rfl)|omega|assumption|with_reducible rfl|skip))|((first|apply uz env|apply uj);intro Q hQ;simp only [vkt,seval,qh,qA,xN,qb,ldC,rwI,rwS,rwE,ldR,wm,ai,qg,zP,d1,e9,hx,hs1,hln,c1,c2,c3,ite_and];(repeat' first|with_reducible assumption|apply vz|intro hp);all_goals first|(apply hQ;clear hQ Q)|(apply ux;kernel_rfl)|omega|assumption|with_reducible rfl|skip)
      refine ⟨⟨(k+1,q8 ⟨cs,rs,ss,es⟩ (.rates xx),qg (.rates xx)),hlt,hnx⟩,by show m - (k+1) < m - k;omega, ?_⟩
      (refine Le.ok (fun i=>if i=2 then some 4 else some i) [] ?_;constructor;all_goals (try simp only [vle,vkt,seval,qA,qb,rwI,rwS,rwE,ldR,ai,qg,q8]))
      all_goals first|rfl|(simp;done)|exact ⟨rfl,trivial⟩|(simp [ADf.ids,AV.idsL];done)|(intro i hi;rw [if_neg (by omega)];done)
     |start xx =>
      repeat' first|(apply nx;with_reducible constructor)|apply uq (by decide)|refine vq ?_|refine vx ?_|(refine uk env 2 rfl rfl rfl (fun Q hQ=>?_);simp only [vkt,seval,qh,qA,aS,zA,xN,WX,qp,qb,ldC,rwI,rwS,rwE,ldR,wm,ab,aD,ai,rdS,qg,q8,zP,dE,d1,e9,hx,hs1,hln,c1,c2,c3];(try simp only [ite_and]);(repeat' first|with_reducible assumption|apply vz);all_goals (first|(refine ⟨_,_,rfl,hQ _ _ ?_⟩;clear hQ Q)|(apply ux;kernel_rfl)|omega|assumption|with_reducible rfl|skip))|((first|apply uz env|apply uj);intro Q hQ;simp only [vkt,seval,qh,qA,xN,qb,ldC,rwI,rwS,rwE,ldR,wm,qg,zP,d1,e9,hx,hs1,hln,c1,c2,c3,ite_and];(repeat' first|with_reducible assumption|apply vz|intro hp);all_goals first|(apply hQ;clear hQ Q)|(apply ux;kernel_rfl)|omega|assumption|with_reducible rfl|skip)
      refine ⟨⟨(k+1,q8 ⟨cs,rs,ss,es⟩ (.start xx),qg (.start xx)),hlt,hnx⟩,by show m - (k+1) < m - k;omega, ?_⟩
      (refine Le.ok some [] ?_;constructor;all_goals (try simp only [vle,vkt,seval,qA,qb,rwI,rwS,rwE,ldR,qg,q8]))
      all_goals first|rfl|(simp;done)|exact ⟨rfl,trivial⟩|(simp [ADf.ids,AV.idsL];done)|(intro i hi;rw [if_neg (by omega)];done)
     |bal =>
      simp [wy,qg] at hb
     |entry xx =>
      simp [wy,qg] at hb
    ·cases x with
     |coin xx =>
      simp [wy,qg] at hb
     |rates xx =>
      repeat' first|(apply nx;with_reducible constructor)|apply uq (by decide)|refine vq ?_|refine vx ?_|(refine uk env 2 rfl rfl rfl (fun Q hQ=>?_);simp only [vkt,seval,qh,qA,aS,zA,xN,WX,qp,qb,ldC,rwI,rwS,rwE,ldR,wm,ab,aD,ai,rdS,qg,q8,zP,dE,d1,e9,hx,hs1,hln,c1,c2,c3];(try simp only [ite_and]);(repeat' first|with_reducible assumption|apply vz);all_goals (first|(refine ⟨_,_,rfl,hQ _ _ ?_⟩;clear hQ Q)|(apply ux;kernel_rfl)|omega|assumption|with_reducible rfl|skip))|((first|apply uz env|apply uj);intro Q hQ;simp only [vkt,seval,qh,qA,xN,qb,ldC,rwI,rwS,rwE,ldR,wm,ai,qg,zP,d1,e9,hx,hs1,hln,c1,c2,c3,ite_and];(repeat' first|with_reducible assumption|apply vz|intro hp);all_goals first|(apply hQ;clear hQ Q)|(apply ux;kernel_rfl)|omega|assumption|with_reducible rfl|skip)
      refine ⟨⟨(k+1,q8 ⟨cs,rs,ss,es⟩ (.rates xx),qg (.rates xx)),hlt,hnx⟩,by show m - (k+1) < m - k;omega, ?_⟩
      (refine Le.ok (fun i=>if i=2 then some 4 else some i) [] ?_;constructor;all_goals (try simp only [vle,vkt,seval,qA,qb,rwI,rwS,rwE,ldR,ai,qg,q8]))
      all_goals first|rfl|(simp;done)|exact ⟨rfl,trivial⟩|(simp [ADf.ids,AV.idsL];done)|(intro i hi;rw [if_neg (by omega)];done)
     |start xx =>
      repeat' first|(apply nx;with_reducible constructor)|apply uq (by decide)|refine vq ?_|refine vx ?_|(refine uk env 2 rfl rfl rfl (fun Q hQ=>?_);simp only [vkt,seval,qh,qA,aS,zA,xN,WX,qp,qb,ldC,rwI,rwS,rwE,ldR,wm,ab,aD,ai,rdS,qg,q8,zP,dE,d1,e9,hx,hs1,hln,c1,c2,c3];(try simp only [ite_and]);(repeat' first|with_reducible assumption|apply vz);all_goals (first|(refine ⟨_,_,rfl,hQ _ _ ?_⟩;clear hQ Q)|(apply ux;kernel_rfl)|omega|assumption|with_reducible rfl|skip))|((first|apply uz env|apply uj);intro Q hQ;simp only [vkt,seval,qh,qA,xN,qb,ldC,rwI,rwS,rwE,ldR,wm,qg,zP,d1,e9,hx,hs1,hln,c1,c2,c3,ite_and];(repeat' first|with_reducible assumption|apply vz|intro hp);all_goals first|(apply hQ;clear hQ Q)|(apply ux;kernel_rfl)|omega|assumption|with_reducible rfl|skip)
      refine ⟨⟨(k+1,q8 ⟨cs,rs,ss,es⟩ (.start xx),qg (.start xx)),hlt,hnx⟩,by show m - (k+1) < m - k;omega, ?_⟩
      (refine Le.ok some [] ?_;constructor;all_goals (try simp only [vle,vkt,seval,qA,qb,rwI,rwS,rwE,ldR,qg,q8]))
      all_goals first|rfl|(simp;done)|exact ⟨rfl,trivial⟩|(simp [ADf.ids,AV.idsL];done)|(intro i hi;rw [if_neg (by omega)];done)
     |bal =>
      simp [wy,qg] at hb
     |entry xx =>
      simp [wy,qg] at hb
    ·cases x with
     |coin xx =>
      simp [wy,qg] at hb
     |rates xx =>
      simp [wy,qg] at hb
     |start xx =>
      simp [wy,qg] at hb
     |bal =>
      repeat' first|(apply nx;with_reducible constructor)|apply uq (by decide)|refine vq ?_|refine vx ?_|(refine uk env 2 rfl rfl rfl (fun Q hQ=>?_);simp only [vkt,seval,qh,qA,aS,zA,xN,WX,qp,qb,ldC,rwI,rwS,rwE,ldR,wm,ab,aD,ai,rdS,qg,q8,zP,dE,d1,e9,hx,hs1,hln,c1,c2,c3];(try simp only [ite_and]);(repeat' first|with_reducible assumption|apply vz);all_goals (first|(refine ⟨_,_,rfl,hQ _ _ ?_⟩;clear hQ Q)|(apply ux;kernel_rfl)|omega|assumption|with_reducible rfl|skip))|((first|apply uz env|apply uj);intro Q hQ;simp only [vkt,seval,qh,qA,xN,qb,ldC,rwI,rwS,rwE,ldR,wm,qg,zP,d1,e9,hx,hs1,hln,c1,c2,c3,ite_and];(repeat' first|with_reducible assumption|apply vz|intro hp);all_goals first|(apply hQ;clear hQ Q)|(apply ux;kernel_rfl)|omega|assumption|with_reducible rfl|skip)
      refine ⟨⟨(k+1,q8 ⟨cs,rs,ss,es⟩ .bal,qg .bal),hlt,hnx⟩,by show m - (k+1) < m - k;omega, ?_⟩
      (refine Le.ok some [] ?_;constructor;all_goals (try simp only [vle,vkt,seval,qA,qb,rwI,rwS,rwE,ldR,qg,q8]))
      all_goals first|rfl|(simp;done)|exact ⟨rfl,trivial⟩|(simp [ADf.ids,AV.idsL];done)|(intro i hi;rw [if_neg (by omega)];done)
     |entry xx =>
      repeat' first|(apply nx;with_reducible constructor)|apply uq (by decide)|refine vq ?_|refine vx ?_|(refine uk env 2 rfl rfl rfl (fun Q hQ=>?_);simp only [vkt,seval,qh,qA,aS,zA,xN,WX,qp,qb,ldC,rwI,rwS,rwE,ldR,wm,ab,aD,ai,rdS,qg,q8,zP,dE,d1,e9,hx,hs1,hln,c1,c2,c3];(try simp only [ite_and]);(repeat' first|with_reducible assumption|apply vz);all_goals (first|(refine ⟨_,_,rfl,hQ _ _ ?_⟩;clear hQ Q)|(apply ux;kernel_rfl)|omega|assumption|with_reducible rfl|skip))|((first|apply uz env|apply uj);intro Q hQ;simp only [vkt,seval,qh,qA,xN,qb,ldC,rwI,rwS,rwE,ldR,wm,ai,qg,zP,d1,e9,hx,hs1,hln,c1,c2,c3,ite_and];(repeat' first|with_reducible assumption|apply vz|intro hp);all_goals first|(apply hQ;clear hQ Q)|(apply ux;kernel_rfl)|omega|assumption|with_reducible rfl|skip)
      refine ⟨⟨(k+1,q8 ⟨cs,rs,ss,es⟩ (.entry xx),qg (.entry xx)),hlt,hnx⟩,by show m - (k+1) < m - k;omega, ?_⟩
      (refine Le.ok (fun i=>if i=3 then some 4 else some i) [] ?_;constructor;all_goals (try simp only [vle,vkt,seval,qA,qb,rwI,rwS,rwE,ldR,ai,qg,q8]))
      all_goals first|rfl|(simp;done)|exact ⟨rfl,trivial⟩|(simp [ADf.ids,AV.idsL];done)|(intro i hi;rw [if_neg (by omega)];done)
    ·cases x with
     |coin xx =>
      simp [wy,qg] at hb
     |rates xx =>
      simp [wy,qg] at hb
     |start xx =>
      simp [wy,qg] at hb
     |bal =>
      repeat' first|(apply nx;with_reducible constructor)|apply uq (by decide)|refine vq ?_|refine vx ?_|(refine uk env 2 rfl rfl rfl (fun Q hQ=>?_);simp only [vkt,seval,qh,qA,aS,zA,xN,WX,qp,qb,ldC,rwI,rwS,rwE,ldR,wm,ab,aD,ai,rdS,qg,q8,zP,dE,d1,e9,hx,hs1,hln,c1,c2,c3];(try simp only [ite_and]);(repeat' first|with_reducible assumption|apply vz);all_goals (first|(refine ⟨_,_,rfl,hQ _ _ ?_⟩;clear hQ Q)|(apply ux;kernel_rfl)|omega|assumption|with_reducible rfl|skip))|((first|apply uz env|apply uj);intro Q hQ;simp only [vkt,seval,qh,qA,xN,qb,ldC,rwI,rwS,rwE,ldR,wm,qg,zP,d1,e9,hx,hs1,hln,c1,c2,c3,ite_and];(repeat' first|with_reducible assumption|apply vz|intro hp);all_goals first|(apply hQ;clear hQ Q)|(apply ux;kernel_rfl)|omega|assumption|with_reducible rfl|skip)
      refine ⟨⟨(k+1,q8 ⟨cs,rs,ss,es⟩ .bal,qg .bal),hlt,hnx⟩,by show m - (k+1) < m - k;omega, ?_⟩
      (refine Le.ok some [] ?_;constructor;all_goals (try simp only [vle,vkt,seval,qA,qb,rwI,rwS,rwE,ldR,qg,q8]))
      all_goals first|rfl|(simp;done)|exact ⟨rfl,trivial⟩|(simp [ADf.ids,AV.idsL];done)|(intro i hi;rw [if_neg (by omega)];done)
     |entry xx =>
      repeat' first|(apply nx;with_reducible constructor)|apply uq (by decide)|refine vq ?_|refine vx ?_|(refine uk env 2 rfl rfl rfl (fun Q hQ=>?_);simp only [vkt,seval,qh,qA,aS,zA,xN,WX,qp,qb,ldC,rwI,rwS,rwE,ldR,wm,ab,aD,ai,rdS,qg,q8,zP,dE,d1,e9,hx,hs1,hln,c1,c2,c3];(try simp only [ite_and]);(repeat' first|with_reducible assumption|apply vz);all_goals (first|(refine ⟨_,_,rfl,hQ _ _ ?_⟩;clear hQ Q)|(apply ux;kernel_rfl)|omega|assumption|with_reducible rfl|skip))|((first|apply uz env|apply uj);intro Q hQ;simp only [vkt,seval,qh,qA,xN,qb,ldC,rwI,rwS,rwE,ldR,wm,ai,qg,zP,d1,e9,hx,hs1,hln,c1,c2,c3,ite_and];(repeat' first|with_reducible assumption|apply vz|intro hp);all_goals first|(apply hQ;clear hQ Q)|(apply ux;kernel_rfl)|omega|assumption|with_reducible rfl|skip)
      refine ⟨⟨(k+1,q8 ⟨cs,rs,ss,es⟩ (.entry xx),qg (.entry xx)),hlt,hnx⟩,by show m - (k+1) < m - k;omega, ?_⟩
      (refine Le.ok (fun i=>if i=3 then some 4 else some i) [] ?_;constructor;all_goals (try simp only [vle,vkt,seval,qA,qb,rwI,rwS,rwE,ldR,ai,qg,q8]))
      all_goals first|rfl|(simp;done)|exact ⟨rfl,trivial⟩|(simp [ADf.ids,AV.idsL];done)|(intro i hi;rw [if_neg (by omega)];done)
    ·cases x with
     |coin xx =>
      simp [wy,qg] at hb
     |rates xx =>
      simp [wy,qg] at hb
     |start xx =>
      simp [wy,qg] at hb
     |bal =>
      simp [wy,qg] at hb
     |entry xx =>
      simp [wy,qg] at hb
 ·have d1:decide ((k:Int) < (R.length:Int))=false:=decide_eq_false (by omega)
  obtain rfl:k=m:=by omega
  have hg2:R.take k=R:=bb (by omega)
  rw [hg2] at hg;rw [hg]
  dsimp only;have e5:=k9 k (by omega)
  have hy:∀ d,(L.map qp).getD k d=[.v (.string ⟨⟨L.getD k []⟩⟩)]:=fun d=>YQ L k d (by omega)
  have hkL:k < L.length:=by omega
  generalize L.getD k []=z at hy;obtain ⟨cs,rs,ss,es⟩:=c
  simp only [rdS]
  rcases hst with rfl|rfl|rfl|rfl|rfl
  ·rw [if_neg (by simp)]
   repeat' first|(apply nx;with_reducible constructor)|apply uq (by decide)|refine vq ?_|refine vx ?_|(refine uk env 2 rfl rfl rfl (fun Q hQ=>?_);simp only [vkt,seval,qh];(try simp only [ite_and]);(repeat' first|with_reducible assumption|apply vz);all_goals (first|(refine ⟨_,_,rfl,hQ _ _ ?_⟩;clear hQ Q)|(apply ux;kernel_rfl)|omega|assumption|with_reducible rfl|skip))|((first|apply uz env|apply uj);intro Q hQ;simp only [vkt,seval,qh,qA,qb,rwI,rwS,rwE,ldR,d1,e5,ite_and];(repeat' first|with_reducible assumption|apply vz|intro hp);all_goals first|(apply hQ;clear hQ Q)|(apply ux;kernel_rfl)|omega|assumption|with_reducible rfl|skip)
   refine ⟨rfl,rfl, ?_⟩
   simp only [rdV]
   (simp only [vrt,results70,vkt,seval,qh,qA];refine Fin.val rfl ?_;(try simp only [AV.le,AV.leL]))
   all_goals first|rfl|exact ⟨⟨rfl,rfl,rfl,rfl,trivial⟩,trivial,trivial⟩|(simp;done)
  ·rw [if_neg (by simp)]
   repeat' first|(apply nx;with_reducible constructor)|apply uq (by decide)|refine vq ?_|refine vx ?_|(refine uk env 2 rfl rfl rfl (fun Q hQ=>?_);simp only [vkt,seval,qh];(try simp only [ite_and]);(repeat' first|with_reducible assumption|apply vz);all_goals (first|(refine ⟨_,_,rfl,hQ _ _ ?_⟩;clear hQ Q)|(apply ux;kernel_rfl)|omega|assumption|with_reducible rfl|skip))|((first|apply uz env|apply uj);intro Q hQ;simp only [vkt,seval,qh,qA,qb,rwI,rwS,rwE,ldR,d1,e5,ite_and];(repeat' first|with_reducible assumption|apply vz|intro hp);all_goals first|(apply hQ;clear hQ Q)|(apply ux;kernel_rfl)|omega|assumption|with_reducible rfl|skip)
   refine ⟨rfl,rfl, ?_⟩
   simp only [rdV]
   (simp only [vrt,results70,vkt,seval,qh,qA];refine Fin.val rfl ?_;(try simp only [AV.le,AV.leL]))
   all_goals first|rfl|exact ⟨⟨rfl,rfl,rfl,rfl,trivial⟩,trivial,trivial⟩|(simp;done)
  ·rw [if_neg (by simp)]
   repeat' first|(apply nx;with_reducible constructor)|apply uq (by decide)|refine vq ?_|refine vx ?_|(refine uk env 2 rfl rfl rfl (fun Q hQ=>?_);simp only [vkt,seval,qh];(try simp only [ite_and]);(repeat' first|with_reducible assumption|apply vz);all_goals (first|(refine ⟨_,_,rfl,hQ _ _ ?_⟩;clear hQ Q)|(apply ux;kernel_rfl)|omega|assumption|with_reducible rfl|skip))|((first|apply uz env|apply uj);intro Q hQ;simp only [vkt,seval,qh,qA,qb,rwI,rwS,rwE,ldR,d1,e5,ite_and];(repeat' first|with_reducible assumption|apply vz|intro hp);all_goals first|(apply hQ;clear hQ Q)|(apply ux;kernel_rfl)|omega|assumption|with_reducible rfl|skip)
   refine ⟨rfl,rfl, ?_⟩
   simp only [rdV]
   (simp only [vrt,results70,vkt,seval,qh,qA];refine Fin.val rfl ?_;(try simp only [AV.le,AV.leL]))
   all_goals first|rfl|exact ⟨⟨rfl,rfl,rfl,rfl,trivial⟩,trivial,trivial⟩|(simp;done)
  ·rw [if_neg (by simp)]
   repeat' first|(apply nx;with_reducible constructor)|apply uq (by decide)|refine vq ?_|refine vx ?_|(refine uk env 2 rfl rfl rfl (fun Q hQ=>?_);simp only [vkt,seval,qh];(try simp only [ite_and]);(repeat' first|with_reducible assumption|apply vz);all_goals (first|(refine ⟨_,_,rfl,hQ _ _ ?_⟩;clear hQ Q)|(apply ux;kernel_rfl)|omega|assumption|with_reducible rfl|skip))|((first|apply uz env|apply uj);intro Q hQ;simp only [vkt,seval,qh,qA,qb,rwI,rwS,rwE,ldR,d1,e5,ite_and];(repeat' first|with_reducible assumption|apply vz|intro hp);all_goals first|(apply hQ;clear hQ Q)|(apply ux;kernel_rfl)|omega|assumption|with_reducible rfl|skip)
   refine ⟨rfl,rfl, ?_⟩
   simp only [rdV]
   (simp only [vrt,results70,vkt,seval,qh,qA];refine Fin.val rfl ?_;(try simp only [AV.le,AV.leL]))
   all_goals first|rfl|exact ⟨⟨rfl,rfl,rfl,rfl,trivial⟩,trivial,trivial⟩|(simp;done)
  ·by_cases hz:z=[]
   ·have b1:(z == [])=true:=by simp [hz]
    rw [if_pos ⟨rfl,hz⟩]
    repeat' first|(apply nx;with_reducible constructor)|apply uq (by decide)|refine vq ?_|refine vx ?_|(refine uk env 2 rfl rfl rfl (fun Q hQ=>?_);simp only [vkt,seval,qh,qA,aS,zA,xN,WX,qp,qb,ldC,rwI,rwS,rwE,ldR,wm,ab,aD,ai,rdS,qg,q8,zP,dE,d1,e5,hy,hkL,b1];(try simp only [ite_and]);(repeat' first|with_reducible assumption|apply vz);all_goals (first|(refine ⟨_,_,rfl,hQ _ _ ?_⟩;clear hQ Q)|(apply ux;kernel_rfl)|omega|assumption|with_reducible rfl|skip))|((first|apply uz env|apply uj);intro Q hQ;simp only [vkt,seval,qh,qA,qb,rwI,rwS,rwE,ldR,d1,e5,hy,hkL,b1,ite_and];(repeat' first|with_reducible assumption|apply vz|intro hp);all_goals first|(apply hQ;clear hQ Q)|(apply ux;kernel_rfl)|omega|assumption|with_reducible rfl|skip)
    simp only [rdV,retR];simp only [vrt,results70,dE,vkt,seval,qh,qA,dE]
    refine Fin.val rfl ?_
    simp only [AV.le,AV.leL,zo,qY,vkt,seval];exact ⟨⟨_,_,rfl⟩,⟨_,_,rfl⟩,_,_,rfl⟩
   ·have b1:(z == [])=false:=by simp [hz]
    rw [if_neg (by simp [hz])]
    repeat' first|(apply nx;with_reducible constructor)|apply uq (by decide)|refine vq ?_|refine vx ?_|(refine uk env 2 rfl rfl rfl (fun Q hQ=>?_);simp only [vkt,seval,qh];(try simp only [ite_and]);(repeat' first|with_reducible assumption|apply vz);all_goals (first|(refine ⟨_,_,rfl,hQ _ _ ?_⟩;clear hQ Q)|(apply ux;kernel_rfl)|omega|assumption|with_reducible rfl|skip))|((first|apply uz env|apply uj);intro Q hQ;simp only [vkt,seval,qh,qA,qb,rwI,rwS,rwE,ldR,d1,e5,hy,hkL,b1,ite_and];(repeat' first|with_reducible assumption|apply vz|intro hp);all_goals first|(apply hQ;clear hQ Q)|(apply ux;kernel_rfl)|omega|assumption|with_reducible rfl|skip)
    refine ⟨rfl,rfl, ?_⟩
    simp only [rdV]
    (simp only [vrt,results70,vkt,seval,qh,qA];refine Fin.val rfl ?_;(try simp only [AV.le,AV.leL]))
    all_goals first|rfl|exact ⟨⟨rfl,rfl,rfl,rfl,trivial⟩,trivial,trivial⟩|(simp;done)
def QD (t:List UInt8):Led × Int × Int:=if 400 < t.length then (vk,0,10) else match WL t with
 |.error n=>(vk,n,2)
 |.ok c=>if qO c=0 then (c,0,0) else (vk,0,qO c)
def Va:∀ (a:List (List UInt8)) (c:Led) (st:Int) (i n:Nat),qX c st i a=.error n->i < n/\n<=i+a.length
 |[],c,st,i,n,h=>by cases h
 |s :: a,c,st,i,n,h=>by
  rw [qX] at h;split at h
  ·rename_i n' hn
   cases h;unfold yZ at hn
   rw [bl];split at hn
   ·cases hn;omega
   ·split at hn
    ·cases hn;omega
    ·cases hn
  ·have:=Va a _ _ _ n h
   rw [bl];omega
def Qd1 {t:List UInt8} {n:Nat} (h:WL t=.error n):0 < n/\n<=t.length+1:=by
 have hL:=wH (s:=t) (sep:=[10]) (by decide)
 unfold WL at h;split at h
 ·rename_i n' hn
  cases h;have:=Va _ _ _ _ _ hn
  rw [bi] at this;omega
 ·split at h
  ·cases h
  ·cases h;omega
def WdOk (c:Led):Prop:=(∀ p ∈ c.coins,p.length<=1000)/\(∀ p ∈ c.rates,p.length<=1000)/\c.start.length<=1000
def Qik {s:List UInt8} {x:Ln} (hs:s.length<=900) (h:Qj s=some x) {c:Led} (hc:WdOk c):WdOk (q8 c x):=by
 have hle:=(wH (s:=s) (sep:=[32]) (by decide)).2
 unfold Qj Yu at h;generalize spS s [32]=L at h hle
 split at h
 ·obtain ⟨n,hn,rfl⟩:=aA.1 h
  have:=vU _ hn;rw [be] at this
  refine ⟨fun p hp=>?_,hc.2⟩
  rcases au.1 hp with hp|hp
  ·exact hc.1 p hp
  ·obtain rfl:p=n:=by simpa using hp
   omega
 ·split at h
  ·obtain ⟨n,hn,rfl⟩:=aA.1 h
   have:=WA _ hn;rw [be] at this
   refine ⟨hc.1,fun p hp=>?_,hc.2.2⟩
   rcases au.1 hp with hp|hp
   ·exact hc.2.1 p hp
   ·obtain rfl:p=⟨1,1⟩ :: n:=by simpa using hp
    simp only [bl];omega
  ·split at h
   ·obtain ⟨n,hn,rfl⟩:=aA.1 h
    have:=vU _ hn;rw [be] at this
    exact ⟨hc.1,hc.2.1,by show n.length<=1000;omega⟩
   ·split at h
    ·split at h
     ·cases h;exact hc
     ·cases h
    ·obtain ⟨n,hn,rfl⟩:=aA.1 h
     exact hc
def XP:∀ (a:List (List UInt8)) (c:Led) (st:Int) (i:Nat) {c':Led} {st':Int},(∀ s ∈ a,s.length<=900)->WdOk c->qX c st i a=.ok (c',st')->WdOk c'
 |[],c,st,i,c',st',_,hc,h=>by
  simp only [qX,Except.ok.injEq,Prod.mk.injEq] at h;obtain ⟨rfl,rfl⟩:=h
  exact hc
 |s :: a,c,st,i,c',st',ha,hc,h=>by
  rw [qX] at h;split at h
  ·cases h
  ·rename_i p hp
   refine XP a p.1 p.2 (i+1) (fun s hs=>ha s (.tail _ hs)) ?_ h
   unfold yZ at hp;split at hp
   ·cases hp
   ·split at hp
    ·cases hp
    ·cases hp
     exact Qik (ha s (.head _)) ‹_› hc
def Qej {t:List UInt8} {c:Led} (hl:t.length<=400) (h:WL t=.ok c):FitW c:=by
 have hL:=wH (s:=t) (sep:=[10]) (by decide)
 have hit:=XY (s:=t) (sep:=[10]);unfold WL at h
 split at h
 ·cases h
 ·rename_i p hp
  have h1:=ZK _ _ _ _ hp;have h2:=XP _ _ _ _ (fun s hs=>by have:=hit s (aY hs);omega) ⟨by simp [vk],by simp [vk],by simp [vk]⟩ hp
  rw [bi] at h1;simp only [QbQ,vk,cm] at h1
  split at h
  ·cases h
   exact ⟨by omega,h2.1,by omega,h2.2.1,h2.2.2,by omega⟩
  ·cases h
def Qah (S:St):List AV->Option Pk
 |[.v (.string ⟨⟨t⟩⟩)]=>some { pre:=t.length<=400,ar:=[.v (.string ⟨⟨t⟩⟩)],v:=rdV (WL t) }
 |_=>none
def eRead:qc (zQ TabC) prog 70 (fnE Qah):=QbW fun S bs q h hp=>by
 unfold Qah at h;split at h
 ·cases h
  exact Qhv _ hp
 ·cases h
def ve:=vz @ty3 (vz @ty9 (vz @WU (vz @xI (vz @ti3.eq_1 (vz @ti9.eq_1 (vz @Zy.eq_1 @vO.eq_1))))))
def Za:=vz @aI.eq_1 (vz @aB.eq_1 (vz @zo.eq_1 (vz @qY.eq_1 (vz @xV (vz @Rn (vz @kE (vz @W9 (vz @kw (vz @YS (vz @JA (@YU)))))))))))
def QiG (t:List UInt8):Fn (jh TabC) prog 22 [aS t] noH (.tup [zo (QD t).1,aI (QD t).2.1,aI (QD t).2.2]) noH 0:=by
 have env:=qz (A:=zQ TabC) (kC e50w (kC eRead kN));refine kT (Fn0 func22 rfl (fun vs w=>by kernel_rfl) (by kernel_rfl)) (by simp) (by simp [AV.ids,aS]) ?_
 unfold QD
 by_cases h0:400 < t.length
 ·rw [if_pos h0]
  have d1:decide ((400:Int) < (t.length:Int))=true:=decide_eq_true (by omega)
  have hsz:(ByteArray.mk ⟨t⟩).size=t.length:=rfl
  repeat' first|(apply nx;with_reducible constructor)|apply uq (by decide)|((first|apply uz env|apply uj);intro Q hQ;simp only [vkt,seval,ve,aS,d1,hsz,ite_and];(repeat' first|with_reducible assumption|apply vz|intro hp);all_goals first|(apply hQ;clear hQ Q)|(apply ux;kernel_rfl)|omega|assumption|with_reducible rfl|skip)
  (simp only [vrt,results22,vkt,seval,ve,Za];refine Fin.val rfl ?_;(try simp only [AV.le,AV.leL]))
  all_goals first|rfl|(simp;done)|exact ⟨⟨rfl,rfl,rfl,rfl,trivial⟩,trivial,trivial,trivial⟩
 ·rw [if_neg h0]
  have d1:decide ((400:Int) < (t.length:Int))=false:=decide_eq_false (by omega)
  have hsz:(ByteArray.mk ⟨t⟩).size=t.length:=rfl;have h1:t.length<=400:=by omega
  cases hr:WL t with
  |error n =>
   have hp:=Qd1 hr;have d2:decide ((0:Int) < (n:Int))=true:=decide_eq_true (by omega)
   repeat' first|(apply nx;with_reducible constructor)|apply uq (by decide)|((first|apply uz env|apply uj);intro Q hQ;simp only [vkt,seval,ve,Za,aS,Qah,rdV,d1,hsz,h1,hr,d2,ite_and];(repeat' first|with_reducible assumption|apply vz|intro hp);all_goals first|(apply hQ;clear hQ Q)|(apply ux;kernel_rfl)|omega|assumption|with_reducible rfl|skip)
   (simp only [vrt,results22,vkt,seval,ve,Za];refine Fin.val rfl ?_;(try simp only [AV.le,AV.leL]))
   all_goals first|rfl|(simp;done)|exact ⟨⟨rfl,rfl,rfl,rfl,trivial⟩,trivial,trivial,trivial⟩
  |ok c =>
   have hc:=Qej h1 hr;have ec:(⟨c.coins,c.rates,c.start,c.entries⟩:Led)=c:=rfl
   have d2:decide ((0:Int) < 0)=false:=by decide
   dsimp only;obtain ⟨e,he⟩:∃ e,qO c=e:=⟨_,rfl⟩
   rw [he]
   by_cases hz:e=0
   ·rw [if_pos hz]
    have d3:decide (e=0)=true:=decide_eq_true hz
    repeat' first|(apply nx;with_reducible constructor)|apply uq (by decide)|((first|apply uz env|apply uj);intro Q hQ;simp only [vkt,seval,ve,Za,aS,Qah,rdV,s50w,d1,hsz,h1,hr,ec,he,d3,hc,ite_and];(repeat' first|with_reducible assumption|apply vz|intro hp);all_goals first|(apply hQ;clear hQ Q)|(apply ux;kernel_rfl)|omega|assumption|with_reducible rfl|skip)
    (simp only [vrt,results22,vkt,seval,ve,Za];refine Fin.val rfl ?_;(try simp only [AV.le,AV.leL]))
    all_goals first|rfl|(simp;done)|exact ⟨⟨rfl,rfl,rfl,rfl,trivial⟩,trivial,trivial,trivial⟩
   ·rw [if_neg hz]
    have d3:decide (e=0)=false:=decide_eq_false hz
    repeat' first|(apply nx;with_reducible constructor)|apply uq (by decide)|((first|apply uz env|apply uj);intro Q hQ;simp only [vkt,seval,ve,Za,aS,Qah,rdV,s50w,d1,hsz,h1,hr,ec,he,d3,hc,ite_and];(repeat' first|with_reducible assumption|apply vz|intro hp);all_goals first|(apply hQ;clear hQ Q)|(apply ux;kernel_rfl)|omega|assumption|with_reducible rfl|skip)
    (simp only [vrt,results22,vkt,seval,ve,Za];refine Fin.val rfl ?_;(try simp only [AV.le,AV.leL]))
    all_goals first|rfl|(simp;done)|exact ⟨⟨rfl,rfl,rfl,rfl,trivial⟩,trivial,trivial,trivial⟩
def cuts (b:UInt8) (cur:List UInt8):List UInt8->List (List UInt8)
 |[]=>[cur]
 |x :: r=>if x=b then cur :: cuts b [] r else cuts b (cur++[x]) r
def jH (s:List UInt8) (b:UInt8):List (List UInt8):=cuts b [] s
def VB (b:UInt8):∀ (s cur:List UInt8),(cuts b cur s).length<=s.length+1
 |[],cur=>by simp [cuts]
 |x :: s,cur=>by
  rw [cuts];split
  ·have:=VB b s [];simp;omega
  ·have:=VB b s (cur++[x]);simp;omega
def Qg7 (s:List UInt8) (b:UInt8) (p:Nat × Nat × List (List UInt8)):Prop:=(p.1<=s.length/\p.2.1<=p.1/\p.2.2++cuts b ((s.take p.1).drop p.2.1) (s.drop p.1)=jH s b)\/(p.1=s.length+1/\p.2.1<=s.length+1/\p.2.2=jH s b)
def Qg7.len {s:List UInt8} {b:UInt8} {p:Nat × Nat × List (List UInt8)} (h:Qg7 s b p):p.2.2.length<=s.length+1:=by
 have hc:=VB b s []
 rcases h with ⟨_,_,h⟩|⟨_,_,h⟩
 ·have:=congrArg List.length h
  rw [aD] at this;have h2:(jH s b).length<=s.length+1:=hc
  omega
 ·rw [h];exact hc
def Xv (acc:Int):List UInt8->Option Int
 |[]=>some acc
 |x :: r=>if x.toNat < 48\/57 < x.toNat then none else Xv (10 * acc+((x.toNat:Int) - 48)) r
def LP (s:List UInt8):Option Int:=if s.length < 1\/3 < s.length\/(s.getD 0 0=48/\1 < s.length) then none else Xv 0 s
def dgN (n:Nat):List UInt8:=if n < 10 then [UInt8.ofNat (48+n)] else if n < 100 then [UInt8.ofNat (48+n / 10),UInt8.ofNat (48+n % 10)] else [UInt8.ofNat (48+n / 100),UInt8.ofNat (48+n / 10 % 10),UInt8.ofNat (48+n % 10)]
def QkK {n:Nat} (h:n < 1000):Lib.decDigits n=dgN n:=by
 unfold dgN;split
 ·rw [Lib.decDigits,dif_pos ‹_›]
 ·split
  ·rw [Lib.decDigits,dif_neg ‹_›,Lib.decDigits,dif_pos (by omega)];rfl
  ·rw [Lib.decDigits,dif_neg ‹_›,Lib.decDigits,dif_neg (by omega),Lib.decDigits,dif_pos (by omega)]
   rw [Nat.div_div_eq_div_mul];rfl
def Uh {n:Nat} (h:n < 1000):Lib.itoa (n:Int)=dgN n:=by
 unfold Lib.itoa;rw [if_neg (by omega),aR,QkK h]
def QiA {n:Nat} (h:1000<=n):3 < (Lib.decDigits n).length:=by
 rw [Lib.decDigits,dif_neg (by omega),Lib.decDigits,dif_neg (by omega),Lib.decDigits,dif_neg (by omega),Lib.decDigits]
 split <;> simp
def Qbx:∀ n:_root_.Fin 1000,wE (dgN n.1)=some (n.1:Int)/\LP (dgN n.1)=some (n.1:Int):=by
 have h:∀ n:_root_.Fin 1000,Lib.atoiAll (dgN n.1)=.ok (n.1:Int)/\(dgN n.1).length<=3/\LP (dgN n.1)=some (n.1:Int):=by decide +kernel
 intro n;obtain ⟨h1,h2,h3⟩:=h n
 refine ⟨?_,h3⟩
 unfold wE;rw [h1]
 dsimp only;rw [if_neg (by rw [Uh n.2];rintro (h|h|h) <;> first|omega|exact h rfl)]
def X8 {s:List UInt8} {v:Int} (h:wE s=some v):∃ n:_root_.Fin 1000,v=(n.1:Int)/\s=dgN n.1:=by
 unfold wE at h;split at h
 ·rename_i u _
  split at h
  ·cases h
  ·rename_i hn
   cases h;obtain ⟨h1,h2,h3⟩:¬ v < 0/\¬ 3 < s.length/\Lib.itoa v=s:=⟨fun e=>hn (.inl e),fun e=>hn (.inr (.inl e)),by
    by_cases e:Lib.itoa v=s
    ·exact e
    ·exact absurd (.inr (.inr e)) hn⟩
   obtain ⟨n,rfl⟩:∃ n:Nat,v=n:=⟨v.toNat,by omega⟩
   have hs:Lib.decDigits n=s:=by
    rw [<- h3];unfold Lib.itoa;rw [if_neg h1,aR]
   have hlt:n < 1000:=by
    by_cases e:n < 1000
    ·exact e
    ·have:=QiA (n:=n) (by omega)
     rw [hs] at this;exact absurd this h2
   exact ⟨⟨n,hlt⟩,rfl,by rw [<- h3,Uh hlt]⟩
 ·cases h
def Qgq {x:UInt8} (h1:¬ (x.toNat < 48\/57 < x.toNat)):∃ d:Nat,d < 10/\x=UInt8.ofNat (48+d):=by
 refine ⟨x.toNat - 48,by omega,UInt8.toNat_inj.1 ?_⟩
 rw [UInt8.toNat_ofNat',cv (by omega)];omega
def ko {x:UInt8} {r:List UInt8} {acc v:Int} (h:Xv acc (x :: r)=some v):∃ d:Nat,d < 10/\x=UInt8.ofNat (48+d)/\Xv (10 * acc+d) r=some v:=by
 rw [Xv] at h;split at h
 ·cases h
 ·rename_i hn
  obtain ⟨d,hd,rfl⟩:=Qgq hn;refine ⟨d,hd,rfl, ?_⟩
  rw [UInt8.toNat_ofNat',cv (by omega)] at h
  rw [<- h]
  congr 1
  omega
def QdY {s:List UInt8} {v:Int} (h:LP s=some v):∃ n:_root_.Fin 1000,v=(n.1:Int)/\s=dgN n.1:=by
 unfold LP at h;split at h
 ·cases h
 ·rename_i hn
  have h1:¬ s.length < 1:=fun e=>hn (.inl e)
  have h2:¬ 3 < s.length:=fun e=>hn (.inr (.inl e))
  have h3:¬ (s.getD 0 0=48/\1 < s.length):=fun e=>hn (.inr (.inr e))
  clear hn
  match s,h1,h2 with
  |[a],_,_ =>
   obtain ⟨d,hd,rfl,k⟩:=ko h;rw [Xv] at k
   cases k;refine ⟨⟨d,by omega⟩,by simp, ?_⟩
   unfold dgN;rw [if_pos (by simpa using hd)]
  |[a,b],_,_ =>
   obtain ⟨d,hd,rfl,k⟩:=ko h;obtain ⟨e,he,rfl,m⟩:=ko k
   rw [Xv] at m;cases m
   have hd0:d ≠ 0:=fun z=>h3 ⟨by subst z;rfl,by simp⟩
   refine ⟨⟨10 * d+e,by omega⟩,by simp, ?_⟩
   unfold dgN;dsimp only
   rw [if_neg (by omega),if_pos (by omega),show (10 * d+e) / 10=d by omega,show (10 * d+e) % 10=e by omega]
  |[a,b,c],_,_ =>
   obtain ⟨d,hd,rfl,k⟩:=ko h;obtain ⟨e,he,rfl,m⟩:=ko k
   obtain ⟨f,hf,rfl,o⟩:=ko m;rw [Xv] at o
   cases o;have hd0:d ≠ 0:=fun z=>h3 ⟨by subst z;rfl,by simp⟩
   refine ⟨⟨100 * d+10 * e+f,by omega⟩,by simp;omega, ?_⟩
   unfold dgN;dsimp only
   rw [if_neg (by omega),if_neg (by omega),show (100 * d+10 * e+f) / 100=d by omega,show (100 * d+10 * e+f) / 10 % 10=e by omega,show (100 * d+10 * e+f) % 10=f by omega]
  |_ :: _ :: _ :: _ :: _,_,h2=>exact absurd (by simp) h2
def Qka (s:List UInt8):wE s=LP s:=by
 cases h:wE s with
 |some v =>
  obtain ⟨n,rfl,rfl⟩:=X8 h;rw [(Qbx n).2]
 |none =>
  cases h2:LP s with
  |none=>rfl
  |some v =>
   obtain ⟨n,rfl,rfl⟩:=QdY h2;rw [(Qbx n).1] at h
   cases h
def UI {b:UInt8} (hb:b.toNat < 48\/57 < b.toNat):∀ (s:List UInt8) (acc:Int),b ∈ s->Xv acc s=none
 |x :: r,acc,h=>by
  rw [Xv];split
  ·rfl
  ·rename_i hn
   rcases ae.1 h with rfl|h
   ·exact absurd hb hn
   ·exact UI hb r _ h
def QeJ {b:UInt8} (hb:b.toNat < 48\/57 < b.toNat) {s:List UInt8} (h:b ∈ s):LP s=none:=by
 unfold LP;split
 ·rfl
 ·exact UI hb s 0 h
def index_one (x:UInt8) (l:List UInt8) (b:UInt8):Lib.index (x :: l) [b]=if x=b then 0 else if Lib.index l [b]=-1 then -1 else Lib.index l [b]+1:=by
 rw [Lib.index]
 by_cases h:x=b
 ·rw [if_pos h,if_pos (by simp [h])]
 ·rw [if_neg h,if_neg (by simp [Ne.symm h])]
  simp only [beq_iff_eq]
def Wm (b:UInt8):∀ (s cur:List UInt8),Lib.index s [b]=-1->cuts b cur s=[cur++s]
 |[],cur,_=>by simp [cuts]
 |x :: s,cur,h=>by
  rw [index_one] at h;have hge:=Lib.index_ge s [b]
  split at h
  ·cases h
  ·split at h
   ·rw [cuts,if_neg ‹_›,Wm b s _ ‹_›];simp
   ·omega
def Wq (b:UInt8):∀ (s cur:List UInt8) (i:Nat),Lib.index s [b]=(i:Int)->cuts b cur s=(cur++s.take i) :: cuts b [] (s.drop (i+1))/\i < s.length
 |[],cur,i,h=>by simp [Lib.index] at h
 |x :: s,cur,i,h=>by
  rw [index_one] at h;have hge:=Lib.index_ge s [b]
  split at h
  ·obtain rfl:i=0:=by omega
   rw [cuts,if_pos ‹_›];simp
  ·split at h
   ·omega
   ·obtain ⟨j,rfl⟩:∃ j,i=j+1:=⟨i - 1,by omega⟩
    obtain ⟨e,hl⟩:=Wq b s (cur++[x]) j (by omega)
    rw [cuts,if_neg ‹_›,e]
    simp [hl]
def Qdd (b:UInt8) (s:List UInt8) (i:Nat) (h:Lib.index s [b]=(i:Int)):b ∈ s:=by
 induction s generalizing i with
 |nil=>simp [Lib.index] at h
 |cons x s ih =>
  rw [index_one] at h;split at h
  ·subst ‹x=b›;exact .head _
  ·split at h
   ·omega
   ·exact .tail _ (ih (i - 1) (by omega))
def XC (b:UInt8):∀ (n:Nat) (s:List UInt8),s.length<=n->Lib.splitK [b] 0 (Lib.count s [b]) s=jH s b
 |n,s,hn=>by
  have hge:=Lib.index_ge s [b]
  by_cases h:Lib.index s [b]=-1
  ·rw [Lib.count_miss h,jH,Wm b s [] h];rfl
  ·obtain ⟨i,hi⟩:∃ i:Nat,Lib.index s [b]=(i:Int):=⟨(Lib.index s [b]).toNat,by omega⟩
   obtain ⟨e,hl⟩:=Wq b s [] i hi;rw [Lib.count_hit (by simp) hi,jH,e,bR,Lib.splitK,hi,if_neg (by simp)]
   cases n with
   |zero=>omega
   |succ n =>
    have:=XC b n (s.drop (i+1)) (by simp;omega)
    unfold jH at this
    simpa using this
def K6 (s:List UInt8) (b:UInt8):spS s [b]=jH s b:=(QaZ s [b]).trans (XC b s.length s (ag _))
def ZF (b:UInt8):∀ (s cur:List UInt8),(cuts b cur s).length ≠ 0
 |[],cur=>by simp [cuts]
 |x :: s,cur=>by
  rw [cuts];split
  ·simp
  ·exact ZF b s _
def shR (s:List UInt8):Option Sh:=match zx (jH s 47) with
 |some l=>if l.length=2 then some ⟨l.getD 0 0,l.getD 1 0⟩ else none
 |none=>none
def KO {a b:List UInt8}:zx [a,b]=match wE a,wE b with
  |some x,some y=>some [x,y]
  |_,_=>none:=by
 simp only [zx];cases wE a <;> cases wE b <;> rfl
def QgZ (s:List UInt8):shP s=shR s:=by
 have hge:=Lib.index_ge s [47]
 by_cases h:Lib.index s [47]=-1
 ·have e:jH s 47=[s]:=Wm 47 s [] h
  unfold shP shR Lib.cut;rw [h,e]
  simp only [zx];cases wE s <;> simp
 ·obtain ⟨i,hi⟩:∃ i:Nat,Lib.index s [47]=(i:Int):=⟨(Lib.index s [47]).toNat,by omega⟩
  obtain ⟨e,hl⟩:=Wq 47 s [] i hi;have hc:Lib.cut s [47]=(s.take i,s.drop (i+1),true):=by
   unfold Lib.cut;rw [hi,if_pos (by omega)];simp
  unfold shP shR jH;rw [hc,e]
  simp only [if_true];have hge2:=Lib.index_ge (s.drop (i+1)) [47]
  by_cases h2:Lib.index (s.drop (i+1)) [47]=-1
  ·rw [Wm 47 _ [] h2,bc,bc,KO]
   cases wE (s.take i) <;> cases wE (s.drop (i+1)) <;> rfl
  ·obtain ⟨j,hj⟩:∃ j:Nat,Lib.index (s.drop (i+1)) [47]=(j:Int):=⟨(Lib.index (s.drop (i+1)) [47]).toNat,by omega⟩
   obtain ⟨e2,_⟩:=Wq 47 _ [] j hj;have hn:wE (s.drop (i+1))=none:=by
    rw [Qka];exact QeJ (.inl (by decide)) (Qdd 47 _ j hj)
   rw [hn,e2];have hlen:∀ l,zx (([]++s.take i) :: ([]++(s.drop (i+1)).take j) :: cuts 47 [] ((s.drop (i+1)).drop (j+1)))=some l->¬ l.length=2:=fun l hq h3=>by
    have h4:=vU _ hq;have h5:=ZF 47 ((s.drop (i+1)).drop (j+1)) []
    rw [h3] at h4;simp only [bl] at h4
    omega
   cases wE (s.take i) <;> (dsimp only;split <;> first|rfl|(rename_i l hq;rw [if_neg (hlen l hq)]))
def It9 (l:List (List UInt8)):Prop:=∀ w ∈ l,w.length<=900
def It9.at {l:List (List UInt8)} (hl:It9 l) {k:Nat} (h:k < l.length):(l.getD k []).length<=900:=by
 rw [show l.getD k []=l[k] by simp [ah,h]]
 exact hl _ (bF _)
def QeA {k:Nat} (h:k<=4):kG k=Jd.getD k []:=by
 have hk:k=0\/k=1\/k=2\/k=3\/k=4:=by omega
 rcases hk with rfl|rfl|rfl|rfl|rfl <;> rfl
def Qj5 {k:Nat} (h:k<=4):kdP (Jd.getD k [])=k:=by
 have hk:k=0\/k=1\/k=2\/k=3\/k=4:=by omega
 rcases hk with rfl|rfl|rfl|rfl|rfl <;> decide
def Qj6 {w:List UInt8} (h:∀ j:Nat,1<=j->j < 5->Jd.getD j [] ≠ w):kdP w=0:=by
 unfold kdP;rw [kdU,if_neg (h 4 (by omega) (by omega)),kdU,if_neg (h 3 (by omega) (by omega)),kdU,if_neg (h 2 (by omega) (by omega)),kdU,if_neg (h 1 (by omega) (by omega)),kdU]
 split <;> rfl
end Go.Sym.B
namespace Go.Sym.B
open Go Go.Sym Go.Proofs Go.Proofs.Tryz Go.Sym.C
end Go.Sym.B
namespace Go.Sym.B
open Go Go.Sym Go.Proofs Go.Proofs.Tryz Go.Sym.C Go.RowKit
def XH (t:List UInt8) (h:t.length<=400):QD t=match qX vk 0 0 ((jH t 10).take ((jH t 10).length - 1)) with
  |.error n=>(vk,n,2)
  |.ok p=>if p.2=4/\(jH t 10).getD ((jH t 10).length - 1) []=[] then if qO p.1=0 then (p.1,0,0) else (vk,0,qO p.1) else (vk,(jH t 10).length,2):=by
 unfold QD WL;rw [if_neg (by omega),K6]
 cases qX vk 0 0 ((jH t 10).take ((jH t 10).length - 1)) with
 |error n=>rfl
 |ok p =>
  dsimp only
  by_cases h:p.2=4/\(jH t 10).getD ((jH t 10).length - 1) []=[]
  ·rw [if_pos h,if_pos h]
  ·rw [if_neg h,if_neg h]
end Go.Sym.B
namespace Go.Sym.B
open Go Go.Sym Go.Proofs Go.Proofs.Tryz Go.Sym.C
def flatL (l:List (List UInt8)):List UInt8:=(l.map (·++[10])).flatten
def Zh (l:List (List UInt8)) (x:List UInt8):flatL (x :: l)=x++[10]++flatL l:=by simp [flatL]
def QcX:∀ (l:List (List UInt8)),Lib.joinTail [10] l++[10]=[10]++flatL l
 |[]=>by simp [Lib.joinTail,flatL]
 |x :: l=>by
  have e:Lib.joinTail [10] (x :: l)=[10]++x++Lib.joinTail [10] l:=by simp [Lib.joinTail]
  rw [e,bU,QcX l,Zh];simp
def Kw {l:List (List UInt8)} (h:l ≠ []):Lib.join l [10]++[10]=flatL l:=by
 match l,h with
 |x :: l,_=>rw [Lib.join_cons,bU,QcX,Zh];simp
def QC (m:Nat):∀ {l:List (List UInt8)},(∀ x ∈ l,x.length<=m)->(flatL l).length<=l.length * (m+1)
 |[],_=>by simp [flatL]
 |x :: l,h=>by
  have h1:=QC m fun y hy=>h y (.tail _ hy)
  have h2:=h x (.head _);rw [Zh,aD,aD,show (x :: l).length=l.length+1 from rfl,cA]
  simp;omega
def YT (x:Ent):List Int:=if x.kind=3 then [x.coin,x.amount,x.to,x.got] else [x.coin,x.amount]
def QiQ (w:List UInt8) (a b:List Int):jnd (jnd w a) b=jnd w (a++b):=by simp [jnd]
def Qav (x:Ent):Yw x=dg x.day++[32]++jnd (kG x.kind) (YT x):=by
 unfold Yw YT;split
 ·rw [QiQ];simp [jnd]
 ·simp [jnd]
def ltR (r:Int->Int) (x y:Int):Prop:=r y < r x\/(r y=r x/\x < y)
def Has (l:List Int) (x:Int):Prop:=∃ i,i < l.length/\l.getD i 0=x
structure SoK (r:Int->Int) (n k:Nat) (l:List Int):Prop where
 len:l.length=n
 so:∀ a b,a < b->b<=k->ltR r (l.getD a 0) (l.getD b 0)
 keep:∀ i,k < i->i < n->l.getD i 0=i
 lo:∀ a,a<=k->0<=l.getD a 0/\l.getD a 0<=k
 has:∀ i:Nat,i < n->Has l i
def bgH (x:Int):List (Nat × AObj):=[(0,.cells [.v (.int .u64 x)])]
def xsh (s:Int) (k:Nat):Int:=IntKind.u64.wrap (BitVec.ofInt IntKind.u64.bits s ^^^ BitVec.ofInt IntKind.u64.bits (s.fdiv (2 ^ min k IntKind.u64.bits))).toNat
def nxS (x:Int):Int:=IntKind.u64.wrap (IntKind.u64.wrap (x * 2862933555777941757)+3037000493)
def nxV (x:Int):Int:=xsh (IntKind.u64.wrap (xsh (nxS x) 31 * 10723151780598845931)) 30
def Jj:=vz @ty90 (vz @ty92 (vz @Qbr.eq_1 @Qfk.eq_1))
def QcY:=vz @aI.eq_1 (vz @aB.eq_1 (@bgH.eq_1))
def QiP (x:Int):Fn noB prog 87 [.ptr 0 0] (qf (bgH x)) (.v (.int .u64 (nxV x))) (qf (bgH (nxS x))) 0:=by
 have env:=qz (A:=fun _=>True) kN
 refine Fn.of (A:=fun _=>True) (n0:=1) (D:=noD) (Fn0 func87 rfl (fun vs w=>by kernel_rfl) (by kernel_rfl)) (by simp) (by simp [AV.ids]) ?_ (fun _ _ _ _=>trivial) zt ?_
 ·intro i o hi
  have h:=qB hi
  simp [bgH] at h
  rcases h with ⟨rfl,rfl⟩;simp [AObj.ids,AV.ids,AV.idsL]
 repeat' first|(apply nx;with_reducible constructor)|apply uq (by decide)|((first|apply uz env|apply uj);intro Q hQ;simp only [vkt,seval,Jj,QcY,ite_and];(repeat' first|with_reducible assumption|apply vz|intro hp);all_goals first|(apply hQ;clear hQ Q)|omega|assumption|with_reducible rfl|(apply ux;kernel_rfl)|skip)
 (simp only [vrt,results87,vkt,seval,QcY];refine Fin.ok some [] ?_ ?_ ?_ ?_ ?_ rfl;all_goals (try simp only [vle,vkt,seval]))
 all_goals rfl
def p77 (S:St):List AV->Option Pk
 |[.ptr i 0]=>match S.h i with
  |some (.cells [.v (.int .u64 x)])=>some { hs:=[i],ar:=[.ptr 0 0],L0:=[.cells [.v (.int .u64 x)]],v:=.v (.int .u64 (nxV x)),L1:=[some (.cells [.v (.int .u64 (nxS x))])] }
  |_=>none
 |_=>none
def e77 {A:Frm->Prop}:qc A prog 87 (fnE p77):=wB fun S bs q h hp=>by
 unfold p77 at h;split at h
 ·split at h
  ·cases h;exact QiP _
  ·cases h
 ·cases h
def QdK (x m:Int):Int:=if m < 1 then 0 else IntKind.i64.wrap (((nxV x).fdiv (2 ^ min 13 IntKind.u64.bits)).tmod (IntKind.u64.wrap (IntKind.i64.wrap (m+1))))
def QeQ (x m:Int):Int:=if m < 1 then x else nxS x
def Qc0:∃ f:Int->Int->Int × Int,∀ x m,f x m=(QdK x m,QeQ x m):=⟨fun x m=>(QdK x m,QeQ x m),fun _ _=>rfl⟩
noncomputable def upV (x m:Int):Int:=(Classical.choose Qc0 x m).1
noncomputable def upS (x m:Int):Int:=(Classical.choose Qc0 x m).2
def QfG (x m:Int):upV x m=QdK x m:=by unfold upV;rw [Classical.choose_spec Qc0]
def QjR (x m:Int):upS x m=QeQ x m:=by unfold upS;rw [Classical.choose_spec Qc0]
def Qfu {n:Int} (h0:0<=n) (h1:n < 18446744073709551616):IntKind.u64.wrap n=n:=by
 unfold IntKind.wrap;simp only [IntKind.bits,IntKind.signed]
 simp
 omega
def QgF (n:Int):0<=IntKind.u64.wrap n:=by
 unfold IntKind.wrap;simp only [IntKind.bits,IntKind.signed]
 simp
 omega
def vZ {x m:Int} (h:m < 9223372036854775807):0<=upV x m/\(upV x m<=m\/upV x m=0):=by
 rw [QfG];unfold QdK
 split
 ·exact ⟨cw _,.inr rfl⟩
 ·have h1:IntKind.i64.wrap (m+1)=m+1:=wrap64 (by omega) (by omega)
  have h2:IntKind.u64.wrap (m+1)=m+1:=Qfu (by omega) (by omega)
  rw [h1,h2];have h3:0<=(nxV x).fdiv (2 ^ min 13 IntKind.u64.bits):=Int.fdiv_nonneg (by unfold nxV xsh;exact QgF _) (by decide)
  rw [bX h3];have h4:=cG ((nxV x).fdiv (2 ^ min 13 IntKind.u64.bits)) (show m+1 ≠ 0 by omega)
  have h5:=cV ((nxV x).fdiv (2 ^ min 13 IntKind.u64.bits)) (show 0 < m+1 by omega)
  rw [wrap64 (by omega) (by omega)]
  omega
def QM:=vz @ty3 (vz @ty90 (vz @ti3.eq_1 @Qbr.eq_1))
def YV:=vz @aI.eq_1 (vz @aB.eq_1 (vz @bgH.eq_1 (vz @p77.eq_1 (@p77.eq_2))))
def up_fn (x m:Int) (h:m < 9223372036854775807):Fn noB prog 38 [.ptr 0 0,aI m] (qf (bgH x)) (aI (upV x m)) (qf (bgH (upS x m))) 0:=by
 have env:=qz (A:=fun _=>True) (kC e77 kN)
 refine Fn.of (A:=fun _=>True) (n0:=1) (D:=noD) (Fn0 func38 rfl (fun vs w=>by kernel_rfl) (by kernel_rfl)) (by simp) (by simp [AV.ids,aI]) ?_ (fun _ _ _ _=>trivial) zt ?_
 ·intro i o hi
  have h:=qB hi
  simp [bgH] at h
  rcases h with ⟨rfl,rfl⟩;simp [AObj.ids,AV.ids,AV.idsL]
 rw [QfG,QjR]
 by_cases c1:m < 1
 ·rw [show QdK x m=0 from if_pos c1,show QeQ x m=x from if_pos c1]
  repeat' first|(apply nx;with_reducible constructor)|apply uq (by decide)|((first|apply uz env|apply uj);intro Q hQ;simp only [vkt,seval,QM,YV,c1,ite_and];(repeat' first|with_reducible assumption|apply vz|intro hp);all_goals first|(apply hQ;clear hQ Q)|omega|assumption|with_reducible rfl|(apply ux;kernel_rfl)|skip)
  (simp only [vrt,results38,vkt,seval,YV];refine Fin.ok some [] ?_ ?_ ?_ ?_ ?_ rfl;all_goals (try simp only [vle,vkt,seval]))
  all_goals simp
 ·rw [show QdK x m=_ from if_neg c1,show QeQ x m=_ from if_neg c1]
  have h1:IntKind.i64.wrap (m+1)=m+1:=wrap64 (by omega) (by omega)
  have h2:IntKind.u64.wrap (m+1)=m+1:=Qfu (by omega) (by omega)
  have h0:¬ m+1=0:=by omega
  repeat' first|(apply nx;with_reducible constructor)|apply uq (by decide)|((first|apply uz env|apply uj);intro Q hQ;simp only [vkt,seval,QM,YV,c1,h1,h2,h0,ite_and];(repeat' first|with_reducible assumption|apply vz|intro hp);all_goals first|(apply hQ;clear hQ Q)|omega|assumption|with_reducible rfl|(apply ux;kernel_rfl)|skip)
  (simp only [vrt,results38,vkt,seval,YV];refine Fin.ok some [] ?_ ?_ ?_ ?_ ?_ rfl;all_goals (try simp only [vle,vkt,seval]))
  all_goals (first|rfl|rw [h1,h2])
noncomputable def p22 (S:St):List AV->Option Pk
 |[.ptr i 0,.v (.int .i64 m)]=>match S.h i with
  |some (.cells [.v (.int .u64 x)])=>some { pre:=m < 9223372036854775807,hs:=[i],ar:=[.ptr 0 0,.v (.int .i64 m)],L0:=[.cells [.v (.int .u64 x)]],v:=.v (.int .i64 (upV x m)),L1:=[some (.cells [.v (.int .u64 (upS x m))])] }
  |_=>none
 |_=>none
def e22 {A:Frm->Prop}:qc A prog 38 (fnE p22):=wB fun S bs q h hp=>by
 unfold p22 at h;split at h
 ·split at h
  ·cases h;exact up_fn _ _ hp
  ·cases h
 ·cases h
def WZ:=vz @ty3 @ti3.eq_1
def Qcg:=vz @aI.eq_1 (vz @aB.eq_1 (vz @bgH.eq_1 (vz @p22.eq_1 (@p22.eq_2))))
def Qhi (x a b:Int) (h:-100000<=a/\a<=100000/\-100000<=b/\b<=100000):Fn noB prog 36 [.ptr 0 0,aI a,aI b] (qf (bgH x)) (aI (a+upV x (b - a))) (qf (bgH (upS x (b - a)))) 0:=by
 have env:=qz (A:=fun _=>True) (kC e22 kN)
 refine Fn.of (A:=fun _=>True) (n0:=1) (D:=noD) (Fn0 func36 rfl (fun vs w=>by kernel_rfl) (by kernel_rfl)) (by simp) (by simp [AV.ids,aI]) ?_ (fun _ _ _ _=>trivial) zt ?_
 ·intro i o hi
  have h:=qB hi
  simp [bgH] at h
  rcases h with ⟨rfl,rfl⟩;simp [AObj.ids,AV.ids,AV.idsL]
 have b1:=vZ (x:=x) (m:=b - a) (by omega)
 have h1:IntKind.i64.wrap (b - a)=b - a:=wrap64 (by omega) (by omega)
 have h2:IntKind.i64.wrap (a+upV x (b - a))=a+upV x (b - a):=wrap64 (by omega) (by omega)
 have h3:b - a < 9223372036854775807:=by omega
 repeat' first|(apply nx;with_reducible constructor)|apply uq (by decide)|((first|apply uz env|apply uj);intro Q hQ;simp only [vkt,seval,WZ,Qcg,h1,h2,ite_and];(repeat' first|with_reducible assumption|apply vz|intro hp);all_goals first|(apply hQ;clear hQ Q)|omega|assumption|with_reducible rfl|(apply ux;kernel_rfl)|skip)
 (simp only [vrt,results36,vkt,seval,Qcg];refine Fin.ok some [] ?_ ?_ ?_ ?_ ?_ rfl;all_goals (try simp only [vle,vkt,seval]))
 all_goals rfl
noncomputable def p21 (S:St):List AV->Option Pk
 |[.ptr i 0,.v (.int .i64 a),.v (.int .i64 b)]=>match S.h i with
  |some (.cells [.v (.int .u64 x)])=>some { pre:=-100000<=a/\a<=100000/\-100000<=b/\b<=100000,hs:=[i],ar:=[.ptr 0 0,.v (.int .i64 a),.v (.int .i64 b)],L0:=[.cells [.v (.int .u64 x)]],v:=.v (.int .i64 (a+upV x (b - a))),L1:=[some (.cells [.v (.int .u64 (upS x (b - a)))])] }
  |_=>none
 |_=>none
def e21 {A:Frm->Prop}:qc A prog 36 (fnE p21):=wB fun S bs q h hp=>by
 unfold p21 at h;split at h
 ·split at h
  ·cases h;exact Qhi _ _ _ hp
  ·cases h
 ·cases h
def nbK (l:List Int):Nat->Int
 |0=>11400714819323198485
 |k+1=>xsh (IntKind.u64.wrap (IntKind.u64.wrap (nbK l k+IntKind.u64.wrap (l.getD k 0)) * 13787848793156543929)) 29
def nbS (l:List Int):Int:=nbK l l.length
def nbI (l:List Int) (k:Nat):St:={ t:=asg [(0,qj l),(3,.ptr 0 0),(4,aI k)],h:=qf (bgH (nbK l k)),n:=1 }
def vX:=vz @ty3 (vz @jK (vz @ty90 (vz @ty92 (vz @ti3.eq_1 (vz @jr.eq_1 (vz @Qbr.eq_1 @Qfk.eq_1))))))
def Wz:=vz @aI.eq_1 (vz @aB.eq_1 (vz @bgH.eq_1 (vz @nbI.eq_1 (vz @qj.eq_1 (vz @ZG (@ql.eq_1))))))
def Qkb (l:List Int) (hl:l.length<=maxLen):Fn noB prog 10 [qj l] noH (.ptr 0 0) (qf (bgH (nbS l))) 0:=by
 have env:=qz (A:=fun _=>True) kN
 refine kV (Fn0 func10 rfl (fun vs w=>by kernel_rfl) (by kernel_rfl)) (by simp) (by simp [AV.ids,qj]) ?_
 repeat' first|(apply nx;with_reducible constructor)|apply uq (by decide)|((first|apply uz env|apply uj);intro Q hQ;simp only [vkt,seval,vX,Wz,ite_and];(repeat' first|with_reducible assumption|apply vz|intro hp);all_goals first|(apply hQ;clear hQ Q)|omega|assumption|with_reducible rfl|(apply ux;kernel_rfl)|skip)
 refine qi (fun k:{ k:Nat // k<=l.length }=>nbI l k.1) (fun k=>l.length - k.1) ⟨0,af _⟩ ?_ fun ⟨k,hk⟩=>?_
 ·(refine Le.ok some [] ?_;constructor;all_goals (try simp only [vle,vkt,seval,Wz]))
  all_goals first|rfl|simp
 ·repeat' first|(apply nx;with_reducible constructor)|apply uq (by decide)
  (apply uz env;intro Q hQ;simp only [vkt,seval,vX,Wz,ite_and];(repeat' first|with_reducible assumption|apply vz|intro hp);all_goals first|(apply hQ;clear hQ Q)|omega|assumption|with_reducible rfl|(apply ux;kernel_rfl)|skip)
  repeat' first|(apply nx;with_reducible constructor)|apply uq (by decide)
  (refine zg (by simp only [vkt,seval];rfl) (fun h=>?_) (fun h=>?_) <;> (try simp only [vki] at h))
  ·have hlt:k < l.length:=by omega
   have e9:=qP hlt hl
   repeat' first|(apply nx;with_reducible constructor)|apply uq (by decide)|((first|apply uz env|apply uj);intro Q hQ;simp only [vkt,seval,vX,Wz,e9,ite_and];(repeat' first|with_reducible assumption|apply vz|intro hp);all_goals first|(apply hQ;clear hQ Q)|omega|assumption|with_reducible rfl|(apply ux;kernel_rfl)|skip)
   refine ⟨⟨k+1,hlt⟩,by show l.length - (k+1) < l.length - k;omega, ?_⟩
   (refine Le.ok some [] ?_;constructor;all_goals (try simp only [vle,vkt,seval,Wz]))
   all_goals first|rfl|(simp [e9];done)
  ·have hkn:k=l.length:=by omega
   subst hkn
   repeat' first|(apply nx;with_reducible constructor)|apply uq (by decide)|((first|apply uz env|apply uj);intro Q hQ;simp only [vkt,seval,ite_and];(repeat' first|with_reducible assumption|apply vz|intro hp);all_goals first|(apply hQ;clear hQ Q)|omega|assumption|with_reducible rfl|(apply ux;kernel_rfl)|skip)
   (simp only [vrt,results10,vkt,seval,Wz];refine Fin.ok some [] ?_ ?_ ?_ ?_ ?_ rfl;all_goals (try simp only [vle,vkt,seval]))
   all_goals rfl
def p20 (_:St):List AV->Option Pk
 |[.sl xs]=>some { pre:=xs=(xs.map qE).map ql/\xs.length<=maxLen,ar:=[.sl xs],v:=.ptr 0 0,L1:=[some (.cells [.v (.int .u64 (nbS (xs.map qE)))])] }
 |_=>none
def e20 {A:Frm->Prop}:qc A prog 10 (fnE p20):=wB fun S bs q h hp=>by
 unfold p20 at h;split at h <;> cases h
 have:=Qkb (List.map qE _) (by rw [ab];exact hp.2)
 simp only [qj,<- hp.1] at this;exact this
def esT (r:List Sh) (k:Nat):St:={ t:=asg [(0,xB r),(1,xB r),(4,aB false),(5,aI k)],h:=qf [],n:=0 }
def yh:=vz @ty3 (vz @xW (vz @QL (vz @ti3.eq_1 (vz @vD.eq_1 @xS.eq_1))))
def Z9:=vz @aI.eq_1 (vz @aB.eq_1 (vz @xB.eq_1 (vz @esT.eq_1 (vz @gSh (@eSh.eq_1)))))
def QfK (r:List Sh) (hl:r.length<=maxLen):FnV prog 73 [xB r,xB r] (aB true):=by
 have env:=qz (A:=fun _=>True) kN
 refine kV (Fn0 func73 rfl (fun vs w=>by kernel_rfl) (by kernel_rfl)) (by simp) (by simp [AV.ids,xB]) ?_
 have zn:∀ n:Int,decide (n=n)=true:=fun n=>decide_eq_true rfl
 repeat' first|(apply nx;with_reducible constructor)|apply uq (by decide)|((first|apply uz env|apply uj);intro Q hQ;simp only [vkt,seval,yh,Z9,ite_and];(repeat' first|with_reducible assumption|apply vz|intro hp);all_goals first|(apply hQ;clear hQ Q)|omega|assumption|with_reducible rfl|(apply ux;kernel_rfl)|skip)
 refine qi (fun k:{ k:Nat // k<=r.length }=>esT r k.1) (fun k=>r.length - k.1) ⟨0,af _⟩ ?_ fun ⟨k,hk⟩=>?_
 ·(refine Le.ok some [] ?_;constructor;all_goals (try simp only [vle,vkt,seval,Z9]))
  all_goals first|rfl|simp
 ·by_cases hlt:k < r.length
  ·have d1:decide ((k:Int) < (r.length:Int))=true:=decide_eq_true (by omega)
   have e9:=qP hlt hl
   repeat' first|(apply nx;with_reducible constructor)|apply uq (by decide)|((first|apply uz env|apply uj);intro Q hQ;simp only [vkt,seval,yh,Z9,d1,e9,ite_and];(repeat' first|with_reducible assumption|apply vz|intro hp);all_goals first|(apply hQ;clear hQ Q)|omega|assumption|with_reducible rfl|(apply ux;kernel_rfl)|skip)
   refine ⟨⟨k+1,hlt⟩,by show r.length - (k+1) < r.length - k;omega, ?_⟩
   (refine Le.ok some [] ?_;constructor;all_goals (try simp only [vle,vkt,seval,Z9]))
   all_goals first|rfl|simp
  ·have d1:decide ((k:Int) < (r.length:Int))=false:=decide_eq_false (by omega)
   repeat' first|(apply nx;with_reducible constructor)|apply uq (by decide)|((first|apply uz env|apply uj);intro Q hQ;simp only [vkt,seval,yh,Z9,d1,ite_and];(repeat' first|with_reducible assumption|apply vz|intro hp);all_goals first|(apply hQ;clear hQ Q)|omega|assumption|with_reducible rfl|(apply ux;kernel_rfl)|skip)
   (simp only [vrt,results73,vkt,seval,Z9];refine Fin.val rfl ?_;(try simp only [AV.le]))
   all_goals first|rfl|simp
def c57:List AV->Prop × AV
 |[.sl xs,.sl ys]=>(ys=xs/\xs=(xs.map dSh).map eSh/\xs.length<=100000,aB true)
 |_=>(False,.junk)
def d57 {A:Frm->Prop}:qc A prog 73 (zD true c57):=qL fun vs hv h=>by
 clear hv;unfold c57 at h ⊢
 split at h
 ·rename_i xs ys
  obtain ⟨h1,h2,h3⟩:=h;refine ⟨by simp [AV.plain,aB],fun _=>by simp [AV.flat,aB], ?_⟩
  have:=QfK (xs.map dSh) (by
    rw [ab];have:(100000:Nat)<=maxLen:=by decide
    omega)
  simp only [xB,<- h2] at this;rw [h1];exact this
 ·exact h.elim
def FitW.cslW {l:Led} (h:FitW l):∀ p ∈ l.coins,p.length<=100000:=fun p hp=>by have:=h.cs p hp;omega
def elT1 (l:Led) (k:Nat):St:={ t:=asg [(2,.ptr 0 0),(3,.ptr 1 0),(4,aB false),(5,aI k)],h:=qf [(0,.cells (qY l)),(1,.cells (qY l))],n:=2 }
def elT2 (l:Led) (k:Nat):St:={ t:=asg [(2,.ptr 0 0),(3,.ptr 1 0),(4,aB false),(6,aI k)],h:=qf [(0,.cells (qY l)),(1,.cells (qY l))],n:=2 }
def zR:=vz @ty3 (vz @jK (vz @Zv (vz @Yj (vz @Y9 (vz @xI (vz @xW (vz @QL (vz @kD (vz @ti3.eq_1 (vz @jr.eq_1 (vz @Qo.eq_1 (vz @WG.eq_1 (vz @JZ.eq_1 (vz @vO.eq_1 (vz @vD.eq_1 (vz @xS.eq_1 @vR.eq_1))))))))))))))))
def xm:=vz @aI.eq_1 (vz @aB.eq_1 (vz @zo.eq_1 (vz @qY.eq_1 (vz @elT1.eq_1 (vz @elT2.eq_1 (vz @s36.eq_1 (vz @s36.eq_2 (vz @s26.eq_1 (vz @s26.eq_2 (vz @c57.eq_1 (vz @c57.eq_2 (vz @gShs (vz @wM.eq_1 (vz @Qbs (vz @wz.eq_1 (vz @kE (vz @xV (@mSh))))))))))))))))))
def QdB (l:Led) (hl:FitW l):FnV prog 24 [zo l,zo l] (aB true):=by
 have env:=qz (A:=fun _=>True) (kC d36 (kC e26 (kC d57 kN)))
 refine kV (Fn0 func24 rfl (fun vs w=>by kernel_rfl) (by kernel_rfl)) (by simp) (by simp [AV.ids,AV.idsL,zo,qY]) ?_
 have zn:∀ n:Int,decide (n=n)=true:=fun n=>decide_eq_true rfl
 have zl:∀ p:List (List Int),decide (p=p)=true:=fun n=>decide_eq_true rfl
 have zi:∀ p:List Int,decide (p=p)=true:=fun n=>decide_eq_true rfl
 have q1:=hl.c;have q2:=hl.r
 have q3:=hl.e;have q4:=hl.s
 have q5:=QgB;have q6:=hl.cslW
 have q7:∀ p ∈ l.coins,p.length<=maxLen:=fun p hp=>by have:=hl.cs p hp;omega
 repeat' first|(apply nx;with_reducible constructor)|apply uq (by decide)|((first|apply uz env|apply uj);intro Q hQ;simp only [vkt,seval,zR,xm,ite_and];(repeat' first|with_reducible assumption|apply vz|intro hp);all_goals first|(apply hQ;clear hQ Q)|omega|assumption|with_reducible rfl|(apply ux;kernel_rfl)|skip)
 all_goals first|(refine qi (fun k:{ k:Nat // k<=l.rates.length }=>elT1 l k.1) (fun k=>l.rates.length - k.1) ⟨0,af _⟩ ?_ fun ⟨k,hk⟩=>?_)
 ·(refine Le.ok some [] ?_;constructor;all_goals (try simp only [vle,vkt,seval,xm]))
  all_goals first|rfl|simp
 ·by_cases hlt:k < l.rates.length
  ·have d1:decide ((k:Int) < (l.rates.length:Int))=true:=decide_eq_true (by omega)
   have e9:=qP hlt (show l.rates.length<=maxLen by omega)
   have hpl:=hl.rs _ (jb (d:=[]) hlt);have hp2:(l.rates.getD k []).length<=100000:=by omega
   repeat' first|(apply nx;with_reducible constructor)|apply uq (by decide)|((first|apply uz env|apply uj);intro Q hQ;simp only [vkt,seval,zR,xm,d1,e9,ite_and];(repeat' first|with_reducible assumption|apply vz|intro hp);all_goals first|(apply hQ;clear hQ Q)|omega|assumption|with_reducible rfl|(apply ux;kernel_rfl)|skip)
   refine ⟨⟨k+1,hlt⟩,by show l.rates.length - (k+1) < l.rates.length - k;omega, ?_⟩
   (refine Le.ok some [] ?_;constructor;all_goals (try simp only [vle,vkt,seval,xm]))
   all_goals first|rfl|simp
  ·have d1:decide ((k:Int) < (l.rates.length:Int))=false:=decide_eq_false (by omega)
   repeat' first|(apply nx;with_reducible constructor)|apply uq (by decide)|((first|apply uz env|apply uj);intro Q hQ;simp only [vkt,seval,zR,xm,d1,ite_and];(repeat' first|with_reducible assumption|apply vz|intro hp);all_goals first|(apply hQ;clear hQ Q)|omega|assumption|with_reducible rfl|(apply ux;kernel_rfl)|skip)
   refine qi (fun k:{ k:Nat // k<=l.entries.length }=>elT2 l k.1) (fun k=>l.entries.length - k.1) ⟨0,af _⟩ ?_ fun ⟨k,hk⟩=>?_
   ·(refine Le.ok some [] ?_;constructor;all_goals (try simp only [vle,vkt,seval,xm]))
    all_goals first|rfl|simp
   ·by_cases hlt:k < l.entries.length
    ·have d2:decide ((k:Int) < (l.entries.length:Int))=true:=decide_eq_true (by omega)
     have e9:=qP hlt (show l.entries.length<=maxLen by omega)
     repeat' first|(apply nx;with_reducible constructor)|apply uq (by decide)|((first|apply uz env|apply uj);intro Q hQ;simp only [vkt,seval,zR,xm,d2,e9,ite_and];(repeat' first|with_reducible assumption|apply vz|intro hp);all_goals first|(apply hQ;clear hQ Q)|omega|assumption|with_reducible rfl|(apply ux;kernel_rfl)|skip)
     refine ⟨⟨k+1,hlt⟩,by show l.entries.length - (k+1) < l.entries.length - k;omega, ?_⟩
     (refine Le.ok some [] ?_;constructor;all_goals (try simp only [vle,vkt,seval,xm]))
     all_goals first|rfl|simp
    ·have d2:decide ((k:Int) < (l.entries.length:Int))=false:=decide_eq_false (by omega)
     repeat' first|(apply nx;with_reducible constructor)|apply uq (by decide)|((first|apply uz env|apply uj);intro Q hQ;simp only [vkt,seval,zR,xm,d2,ite_and];(repeat' first|with_reducible assumption|apply vz|intro hp);all_goals first|(apply hQ;clear hQ Q)|omega|assumption|with_reducible rfl|(apply ux;kernel_rfl)|skip)
     (simp only [vrt,results24,vkt,seval,xm];refine Fin.val rfl ?_;(try simp only [AV.le]))
     all_goals first|rfl|simp
def s52w:List AV->Prop × AV
 |[.agg [.sl cs,.sl rs,.sl ss,.sl es],y]=>(y=.agg [.sl cs,.sl rs,.sl ss,.sl es]/\isL cs rs ss es/\FitW (wJ cs rs ss es),aB true)
 |_=>(False,.junk)
def e52w {A:Frm->Prop}:qc A prog 24 (zD true s52w):=qL fun vs hv h=>by
 clear hv;unfold s52w at h ⊢
 split at h
 ·refine ⟨by simp [AV.plain,aB],fun _=>by simp [AV.flat,aB], ?_⟩
  rw [h.1,<- yC h.2.1];exact QdB _ h.2.2
 ·exact h.elim
structure RI (n0 d0 k:Nat) where
 n:Nat
 d:Nat
 n1:1<=n
 n2:n<=n0
 d1:1<=d
 d2:d<=d0
 e:n * d0=d * n0
 c:∀ j,k < j->j<=12->¬ (j ∣ n/\j ∣ d)
def RI.div {n0 d0 k:Nat} (i:RI n0 d0 k) (hk:2<=k) (h1:k ∣ i.n) (h2:k ∣ i.d):RI n0 d0 k where
 n:=i.n / k
 d:=i.d / k
 n1:=Nat.div_pos (dm i.n1 h1) (by omega)
 n2:=bj (Nat.div_le_self _ _) i.n2
 d1:=Nat.div_pos (dm i.d1 h2) (by omega)
 d2:=bj (Nat.div_le_self _ _) i.d2
 e:=by
  obtain ⟨a,ha⟩:=h1;obtain ⟨b,hb⟩:=h2
  have:=i.e;rw [ha,hb] at this ⊢
  rw [Nat.mul_div_cancel_left _ (by omega),Nat.mul_div_cancel_left _ (by omega)]
  rw [Nat.mul_assoc,Nat.mul_assoc] at this;exact Nat.eq_of_mul_eq_mul_left (by omega) this
 c:=fun j hj hl h=>i.c j hj hl ⟨Nat.dvd_trans h.1 (d5 h1),Nat.dvd_trans h.2 (d5 h2)⟩
def RI.less {n0 d0 k:Nat} (i:RI n0 d0 (k+1)) (h:¬ (k+1 ∣ i.n/\k+1 ∣ i.d)):RI n0 d0 k where
 n:=i.n
 d:=i.d
 n1:=i.n1
 n2:=i.n2
 d1:=i.d1
 d2:=i.d2
 e:=i.e
 c:=fun j hj hl hh=>by
  rcases bz (Nat.succ_le_of_lt hj) with h1|h1
  ·exact i.c j h1 hl hh
  ·subst h1;exact h hh
def RI.last {n0 d0:Nat} (i:RI n0 d0 1) (hd:d0<=12) (hd1:1<=d0):shQ (mkRat n0 d0)=⟨i.n,i.d⟩:=by
 have hg:Nat.gcd i.n i.d=1:=by
  have h1:=dw i.n i.d;have h2:=Nat.gcd_dvd_right i.n i.d
  have h3:0 < Nat.gcd i.n i.d:=Nat.gcd_pos_of_pos_left _ i.n1;have h4:=dm i.d1 h2
  have h5:=i.d2
  rcases bz h3 with h6|h6
  ·exact absurd ⟨h1,h2⟩ (i.c _ h6 (by omega))
  ·exact h6.symm
 have hd0:d0 ≠ 0:=by omega
 have hid:i.d ≠ 0:=by have:=i.d1;omega
 have he:mkRat (n0:Int) d0=mkRat (i.n:Int) i.d:=by
  rw [Rat.mkRat_eq_iff hd0 hid];have:=i.e
  rw [bW i.d] at this
  exact_mod_cast this.symm
 have hp:(0:Int) < (i.d:Int):=by have:=i.d1;omega
 have e1:=Ug (a:=(i.n:Int)) hp;have e2:=QbN (a:=(i.n:Int)) hp
 simp only [aR,Int.natAbs_natCast,hg] at e1 e2;simp only [shQ,he,e1,e2]
 simp
noncomputable def rtN (x:Int):Int:=1+upV (upS x (12 - 1)) (20 - 1)
noncomputable def rtD (x:Int):Int:=1+upV x (12 - 1)
noncomputable def rtV (x:Int):Sh:=shQ (mkRat (rtN x) (rtD x).toNat)
noncomputable def rtS (x:Int):Int:=upS (upS x (12 - 1)) (20 - 1)
def QbH (x:Int):(1<=rtN x/\rtN x<=20)/\1<=rtD x/\rtD x<=12:=by
 have h1:=vZ (x:=upS x (12 - 1)) (m:=20 - 1) (by decide)
 have h2:=vZ (x:=x) (m:=12 - 1) (by decide)
 unfold rtN rtD;omega
def rtT (x:Int) (k n d:Nat):St:={ t:=asg [(2,.ptr 1 0),(3,aI d),(4,aI n),(5,aI k)],h:=qf [(0,.cells [.v (.int .u64 x)]),(1,.cells [.v (.int .i64 0),.v (.int .i64 0)])],n:=2,m:=1 }
def tmodN (a b:Nat):((a:Int)).tmod (b:Int)=((a % b:Nat):Int):=rfl
def tdivN (a b:Nat):((a:Int)).tdiv (b:Int)=((a / b:Nat):Int):=rfl
def wdiv {a b:Nat} (h:a<=1000):IntKind.wrap .i64 ((a:Int).tdiv (b:Int))=((a / b:Nat):Int):=by
 rw [tdivN];have:=Nat.div_le_self a b
 generalize a / b=q at *;exact wrap64 (by omega) (by omega)
def zZ:=vz @ty3 (vz @QL (vz @ti3.eq_1 @xS.eq_1))
def vM:=vz @aI.eq_1 (vz @aB.eq_1 (vz @aSh.eq_1 (vz @bgH.eq_1 (vz @p21.eq_1 (vz @p21.eq_2 (vz @rtT.eq_1 (@tmodN)))))))
def Qea (x:Int):Fn noB prog 62 [.ptr 0 0] (qf (bgH x)) (aSh (rtV x)) (qf (bgH (rtS x))) 0:=by
 have env:=qz (A:=fun _=>True) (kC e21 kN)
 refine Fn.of (A:=fun _=>True) (n0:=1) (D:=noD) (Fn0 func62 rfl (fun vs w=>by kernel_rfl) (by kernel_rfl)) (by simp) (by simp [AV.ids]) ?_ (fun _ _ _ _=>trivial) zt ?_
 ·intro i o hi
  have h:=qB hi
  simp [bgH] at h
  rcases h with ⟨rfl,rfl⟩;simp [AObj.ids,AV.ids,AV.idsL]
 have hb:=QbH x;obtain ⟨n0,hn0⟩:∃ n:Nat,rtN x=(n:Int):=⟨(rtN x).toNat,by omega⟩
 obtain ⟨d0,hd0⟩:∃ n:Nat,rtD x=(n:Int):=⟨(rtD x).toNat,by omega⟩
 rw [hn0,hd0] at hb;have hV:rtV x=shQ (mkRat n0 d0):=by unfold rtV;rw [hn0,hd0];rfl
 have hn0':1+upV (upS x (12 - 1)) (20 - 1)=(n0:Int):=hn0;have hd0':1+upV x (12 - 1)=(d0:Int):=hd0
 have hS:upS (upS x (12 - 1)) (20 - 1)=rtS x:=rfl
 repeat' first|(apply nx;with_reducible constructor)|apply uq (by decide)|((first|apply uz env|apply uj);intro Q hQ;simp only [vkt,seval,-Int.reduceSub,-Int.reduceAdd,-Int.reduceMul,zZ,vM,hn0',hd0',hS,ite_and];(repeat' first|with_reducible assumption|apply vz|intro hp);all_goals first|(apply hQ;clear hQ Q)|omega|assumption|with_reducible rfl|(apply ux;kernel_rfl)|skip)
 refine qi (fun i:(k:{ k:Nat // 1<=k/\k<=12 }) × RI n0 d0 k.1=>rtT (rtS x) i.1.1 i.2.n i.2.d) (fun i=>i.1.1) ⟨⟨12,by decide⟩,⟨n0,d0,by omega,ag _,by omega,ag _,bW _ _,fun j h1 h2=>by have:12 < j:=h1;omega⟩⟩ ?_ fun ⟨⟨k,hk⟩,i⟩=>?_
 ·(refine Le.ok some [] ?_;constructor;all_goals (try simp only [vle,vkt,seval,-Int.reduceSub,-Int.reduceAdd,-Int.reduceMul,vM]))
  all_goals first|rfl|simp
 ·repeat' first|(apply nx;with_reducible constructor)|apply uq (by decide)
  (apply uz env;intro Q hQ;simp only [vkt,seval,-Int.reduceSub,-Int.reduceAdd,-Int.reduceMul,zZ,vM,ite_and];(repeat' first|with_reducible assumption|apply vz|intro hp);all_goals first|(apply hQ;clear hQ Q)|omega|assumption|with_reducible rfl|(apply ux;kernel_rfl)|skip)
  repeat' first|(apply nx;with_reducible constructor)|apply uq (by decide)
  (refine zg (by simp only [vkt,seval,-Int.reduceSub,-Int.reduceAdd,-Int.reduceMul];rfl) (fun h=>?_) (fun h=>?_) <;> (try simp only [vki] at h))
  ·have hk2:1 < k:=by omega
   repeat' first|(apply nx;with_reducible constructor)|apply uq (by decide)
   refine qi (fun i:RI n0 d0 k=>rtT (rtS x) k i.n i.d) (fun i=>i.n) i ?_ fun i=>?_
   ·(refine Le.ok some [] ?_;constructor;all_goals (try simp only [vle,vkt,seval,-Int.reduceSub,-Int.reduceAdd,-Int.reduceMul,vM]))
    all_goals first|rfl|simp
   ·have i1:=i.n1
    have i2:=i.n2;have i3:=i.d1
    have i4:=i.d2;have nz:¬ (k:Int)=0:=by omega
    have r1:i.n % k=0 ↔ k ∣ i.n:=(Nat.dvd_iff_mod_eq_zero ..).symm;have r2:i.d % k=0 ↔ k ∣ i.d:=(Nat.dvd_iff_mod_eq_zero ..).symm
    have w1:IntKind.wrap .i64 ((i.n:Int).tdiv (k:Int))=((i.n / k:Nat):Int):=wdiv (by omega)
    have w2:IntKind.wrap .i64 ((i.d:Int).tdiv (k:Int))=((i.d / k:Nat):Int):=wdiv (by omega)
    have w3:IntKind.wrap .i64 ((k:Int) - 1)=((k - 1:Nat):Int):=by rw [wrap64 (by omega) (by omega)];omega
    by_cases c1:i.n % k=0
    ·by_cases c2:i.d % k=0
     ·have c1':(((i.n % k:Nat):Int)=0):=by omega
      have c2':(((i.d % k:Nat):Int)=0):=by omega
      repeat' first|(apply nx;with_reducible constructor)|apply uq (by decide)|((first|apply uz env|apply uj);intro Q hQ;simp only [vkt,seval,-Int.reduceSub,-Int.reduceAdd,-Int.reduceMul,zZ,vM,nz,c1',c2',w1,w2,ite_and];(repeat' first|with_reducible assumption|apply vz|intro hp);all_goals first|(apply hQ;clear hQ Q)|omega|assumption|with_reducible rfl|(apply ux;kernel_rfl)|skip)
      refine ⟨i.div (by omega) (r1.1 c1) (r2.1 c2),by show i.n / k < i.n;exact Nat.div_lt_self (by omega) hk2, ?_⟩
      (refine Le.ok some [] ?_;constructor;all_goals (try simp only [vle,vkt,seval,-Int.reduceSub,-Int.reduceAdd,-Int.reduceMul,vM]))
      all_goals first|rfl|(simp [RI.div];done)
     ·have c1':(((i.n % k:Nat):Int)=0):=by omega
      have c2':¬ (((i.d % k:Nat):Int)=0):=by omega
      obtain ⟨m,rfl⟩:∃ m,k=m+1:=⟨k - 1,by omega⟩
      repeat' first|(apply nx;with_reducible constructor)|apply uq (by decide)|((first|apply uz env|apply uj);intro Q hQ;simp only [vkt,seval,-Int.reduceSub,-Int.reduceAdd,-Int.reduceMul,zZ,vM,nz,c1',c2',w3,ite_and];(repeat' first|with_reducible assumption|apply vz|intro hp);all_goals first|(apply hQ;clear hQ Q)|omega|assumption|with_reducible rfl|(apply ux;kernel_rfl)|skip)
      refine ⟨⟨⟨m,by omega,by omega⟩,i.less fun h=>c2 (r2.2 h.2)⟩,by show m < m+1;omega, ?_⟩
      (refine Le.ok some [] ?_;constructor;all_goals (try simp only [vle,vkt,seval,-Int.reduceSub,-Int.reduceAdd,-Int.reduceMul,vM]))
      all_goals first|rfl|(simp [RI.less];done)
    ·have c1':¬ (((i.n % k:Nat):Int)=0):=by omega
     obtain ⟨m,rfl⟩:∃ m,k=m+1:=⟨k - 1,by omega⟩
     repeat' first|(apply nx;with_reducible constructor)|apply uq (by decide)|((first|apply uz env|apply uj);intro Q hQ;simp only [vkt,seval,-Int.reduceSub,-Int.reduceAdd,-Int.reduceMul,zZ,vM,nz,c1',w3,ite_and];(repeat' first|with_reducible assumption|apply vz|intro hp);all_goals first|(apply hQ;clear hQ Q)|omega|assumption|with_reducible rfl|(apply ux;kernel_rfl)|skip)
     refine ⟨⟨⟨m,by omega,by omega⟩,i.less fun h=>c1 (r1.2 h.1)⟩,by show m < m+1;omega, ?_⟩
     (refine Le.ok some [] ?_;constructor;all_goals (try simp only [vle,vkt,seval,-Int.reduceSub,-Int.reduceAdd,-Int.reduceMul,vM]))
     all_goals first|rfl|(simp [RI.less];done)
  ·have hk1:k=1:=by omega
   subst hk1;have hl:=i.last (by omega) (by omega)
   rw [hV,hl]
   repeat' first|(apply nx;with_reducible constructor)|apply uq (by decide)|((first|apply uz env|apply uj);intro Q hQ;simp only [vkt,seval,-Int.reduceSub,-Int.reduceAdd,-Int.reduceMul,zZ,ite_and];(repeat' first|with_reducible assumption|apply vz|intro hp);all_goals first|(apply hQ;clear hQ Q)|omega|assumption|with_reducible rfl|(apply ux;kernel_rfl)|skip)
   (simp only [vrt,results62,vkt,seval,-Int.reduceSub,-Int.reduceAdd,-Int.reduceMul,zZ,vM];refine Fin.ok some [] ?_ ?_ ?_ ?_ ?_ rfl;all_goals (try simp only [vle,vkt,seval,-Int.reduceSub,-Int.reduceAdd,-Int.reduceMul]))
   all_goals first|rfl|simp
noncomputable def p84 (S:St):List AV->Option Pk
 |[.ptr i 0]=>match S.h i with
  |some (.cells [.v (.int .u64 x)])=>some { hs:=[i],ar:=[.ptr 0 0],L0:=[.cells [.v (.int .u64 x)]],v:=.agg [.v (.int .i64 (rtV x).num),.v (.int .i64 (rtV x).den)],L1:=[some (.cells [.v (.int .u64 (rtS x))])],fl:=true }
  |_=>none
 |_=>none
def e84 {A:Frm->Prop}:qc A prog 62 (fnE p84):=wB fun S bs q h hp=>by
 unfold p84 at h;split at h
 ·split at h
  ·cases h;exact Qea _
  ·cases h
 ·cases h
noncomputable def Qb6 (x:Int) (l:List Int):Int:=l.getD (upV x ((l.length:Int) - 1)).toNat 0
def jo {x m:Int} (h0:0<=m) (h:m < 9223372036854775807):0<=upV x m/\upV x m<=m:=by
 have:=vZ (x:=x) h;omega
def La {x:Int} {l:List Int} (h1:1<=l.length) (h2:l.length<=100):Qb6 x l ∈ l:=by
 have:=jo (x:=x) (m:=(l.length:Int) - 1) (by omega) (by omega)
 exact jb (by omega)
def J5:=vz @ty3 (vz @jK (vz @ti3.eq_1 @jr.eq_1))
def QcH:=vz @aI.eq_1 (vz @aB.eq_1 (vz @qj.eq_1 (vz @bgH.eq_1 (vz @p22.eq_1 (vz @p22.eq_2 (vz @ZG (@ql.eq_1)))))))
def Qke (x:Int) (l:List Int) (h1:1<=l.length) (h2:l.length<=100):Fn noB prog 39 [.ptr 0 0,qj l] (qf (bgH x)) (aI (Qb6 x l)) (qf (bgH (upS x ((l.length:Int) - 1)))) 0:=by
 have env:=qz (A:=fun _=>True) (kC e22 kN)
 refine Fn.of (A:=fun _=>True) (n0:=1) (D:=noD) (Fn0 func39 rfl (fun vs w=>by kernel_rfl) (by kernel_rfl)) (by simp) (by simp [AV.ids,qj]) ?_ (fun _ _ _ _=>trivial) zt ?_
 ·intro i o hi
  have h:=qB hi
  simp [bgH] at h
  rcases h with ⟨rfl,rfl⟩;simp [AObj.ids,AV.ids,AV.idsL]
 have hu:=jo (x:=x) (m:=(l.length:Int) - 1) (by omega) (by omega)
 have w1:IntKind.wrap .i64 ((l.length:Int) - 1)=(l.length:Int) - 1:=wrap64 (by omega) (by omega)
 have nz:¬ (l.length:Int)=0:=by omega
 have h3:(l.length:Int) - 1 < 9223372036854775807:=by omega
 have h4:(upV x ((l.length:Int) - 1)).toNat < l.length:=by omega
 repeat' first|(apply nx;with_reducible constructor)|apply uq (by decide)|((first|apply uz env|apply uj);intro Q hQ;simp only [vkt,seval,-Int.reduceSub,-Int.reduceAdd,-Int.reduceMul,J5,QcH,w1,nz,ite_and];(repeat' first|with_reducible assumption|apply vz|intro hp);all_goals first|(apply hQ;clear hQ Q)|omega|assumption|with_reducible rfl|(apply ux;kernel_rfl)|skip)
 (simp only [vrt,results39,vkt,seval,-Int.reduceSub,-Int.reduceAdd,-Int.reduceMul,QcH];refine Fin.ok some [] ?_ ?_ ?_ ?_ ?_ rfl;all_goals (try simp only [vle,vkt,seval,-Int.reduceSub,-Int.reduceAdd,-Int.reduceMul]))
 all_goals first|rfl|simp
noncomputable def p85 (S:St):List AV->Option Pk
 |[.ptr i 0,.row r]=>match S.h i with
  |some (.cells [.v (.int .u64 x)])=>match S.h r with
   |some (.row _ _ xs)=>some { pre:=xs=(xs.map qE).map ql/\1<=xs.length/\xs.length<=100,hs:=[i],bo:=[r],ar:=[.ptr 0 0,.sl xs],L0:=[.cells [.v (.int .u64 x)]],v:=.v (.int .i64 (Qb6 x (xs.map qE))),L1:=[some (.cells [.v (.int .u64 (upS x ((xs.length:Int) - 1)))])],fl:=true }
   |_=>none
  |_=>none
 |_=>none
def e85 {A:Frm->Prop}:qc A prog 39 (fnE p85):=wB fun S bs q h hp=>by
 unfold p85 at h;split at h
 ·split at h
  ·split at h
   ·cases h
    obtain ⟨h1,h2,h3⟩:=hp;rename_i x _ _ _ _ xs _
    have:=Qke x (List.map qE xs) (by rw [ab];exact h2) (by rw [ab];exact h3)
    simp only [qj,<- h1,ab] at this;exact this
   ·cases h
  ·cases h
 ·cases h
def ZM:=vz @ty3 @ti3.eq_1
def QcT:=vz @aI.eq_1 (vz @aB.eq_1 (vz @qj.eq_1 (vz @bgH.eq_1 (vz @p22.eq_1 (@p22.eq_2)))))
def QdJ (x n m:Int) (h1:1<=m) (h2:m<=1000):Fn noB prog 37 [.ptr 0 0,aI n,aI m] (qf (bgH x)) (aB (decide (upV x (m - 1) < n))) (qf (bgH (upS x (m - 1)))) 0:=by
 have env:=qz (A:=fun _=>True) (kC e22 kN)
 refine Fn.of (A:=fun _=>True) (n0:=1) (D:=noD) (Fn0 func37 rfl (fun vs w=>by kernel_rfl) (by kernel_rfl)) (by simp) (by simp [AV.ids,aI]) ?_ (fun _ _ _ _=>trivial) zt ?_
 ·intro i o hi
  have h:=qB hi
  simp [bgH] at h
  rcases h with ⟨rfl,rfl⟩;simp [AObj.ids,AV.ids,AV.idsL]
 have w1:IntKind.wrap .i64 (m - 1)=m - 1:=wrap64 (by omega) (by omega)
 have h3:m - 1 < 9223372036854775807:=by omega
 repeat' first|(apply nx;with_reducible constructor)|apply uq (by decide)|((first|apply uz env|apply uj);intro Q hQ;simp only [vkt,seval,-Int.reduceSub,-Int.reduceAdd,-Int.reduceMul,ZM,QcT,w1,ite_and];(repeat' first|with_reducible assumption|apply vz|intro hp);all_goals first|(apply hQ;clear hQ Q)|omega|assumption|with_reducible rfl|(apply ux;kernel_rfl)|skip)
 (simp only [vrt,results37,vkt,seval,-Int.reduceSub,-Int.reduceAdd,-Int.reduceMul,QcT];refine Fin.ok some [] ?_ ?_ ?_ ?_ ?_ rfl;all_goals (try simp only [vle,vkt,seval,-Int.reduceSub,-Int.reduceAdd,-Int.reduceMul]))
 all_goals first|rfl|simp
noncomputable def p71 (S:St):List AV->Option Pk
 |[.ptr i 0,.v (.int .i64 n),.v (.int .i64 m)]=>match S.h i with
  |some (.cells [.v (.int .u64 x)])=>some { pre:=1<=m/\m<=1000,hs:=[i],ar:=[.ptr 0 0,.v (.int .i64 n),.v (.int .i64 m)],L0:=[.cells [.v (.int .u64 x)]],v:=.v (.bool (decide (upV x (m - 1) < n))),L1:=[some (.cells [.v (.int .u64 (upS x (m - 1)))])],fl:=true }
  |_=>none
 |_=>none
def e71 {A:Frm->Prop}:qc A prog 37 (fnE p71):=wB fun S bs q h hp=>by
 unfold p71 at h;split at h
 ·split at h
  ·cases h;exact QdJ _ _ _ hp.1 hp.2
  ·cases h
 ·cases h
def Zp (x n:Int):Int:=if n < 2 then 0 else (x.tmod n+n).tmod n
def ZX:=vz @ty3 @ti3.eq_1
def Y0:=vz @aI.eq_1 (@aB.eq_1)
def Qhk (x n:Int) (h2:n<=1000000):FnV prog 47 [aI x,aI n] (aI (Zp x n)):=by
 have env:=qz (A:=fun _=>True) kN
 refine kV (Fn0 func47 rfl (fun vs w=>by kernel_rfl) (by kernel_rfl)) (by simp) (by simp [AV.ids,aI]) ?_
 by_cases c1:n < 2
 ·repeat' first|(apply nx;with_reducible constructor)|apply uq (by decide)|((first|apply uz env|apply uj);intro Q hQ;simp only [vkt,seval,-Int.reduceSub,-Int.reduceAdd,-Int.reduceMul,ZX,Y0,c1,ite_and];(repeat' first|with_reducible assumption|apply vz|intro hp);all_goals first|(apply hQ;clear hQ Q)|omega|assumption|with_reducible rfl|(apply ux;kernel_rfl)|skip)
  (simp only [vrt,results47,vkt,seval,-Int.reduceSub,-Int.reduceAdd,-Int.reduceMul,Y0];refine Fin.val rfl ?_;(try simp only [AV.le]))
  all_goals simp [Zp,c1]
 ·have nz:¬ n=0:=by omega
  have h3:x.tmod n < n:=Int.tmod_lt_of_pos x (by omega)
  have h5:-n < x.tmod n:=d6 x (by omega)
  have w1:IntKind.wrap .i64 (x.tmod n+n)=x.tmod n+n:=wrap64 (by omega) (by omega)
  repeat' first|(apply nx;with_reducible constructor)|apply uq (by decide)|((first|apply uz env|apply uj);intro Q hQ;simp only [vkt,seval,-Int.reduceSub,-Int.reduceAdd,-Int.reduceMul,ZX,Y0,c1,nz,w1,ite_and];(repeat' first|with_reducible assumption|apply vz|intro hp);all_goals first|(apply hQ;clear hQ Q)|omega|assumption|with_reducible rfl|(apply ux;kernel_rfl)|skip)
  (simp only [vrt,results47,vkt,seval,-Int.reduceSub,-Int.reduceAdd,-Int.reduceMul,Y0];refine Fin.val rfl ?_;(try simp only [AV.le]))
  all_goals simp [Zp,c1]
def s54:List AV->Prop × AV
 |[.v (.int .i64 x),.v (.int .i64 n)]=>(n<=1000000,aI (Zp x n))
 |_=>(False,.junk)
def e54 {A:Frm->Prop}:qc A prog 47 (zD true s54):=qL fun vs _ h=>by
 unfold s54 at h ⊢;split at h
 ·exact ⟨trivial,fun _=>trivial,Qhk _ _ h⟩
 ·exact h.elim
def V3 {x n:Int} (h:1<=n):0<=Zp x n/\Zp x n < n:=by
 unfold Zp;split
 ·omega
 ·have h5:-n < x.tmod n:=d6 x (by omega)
  have h1:0<=x.tmod n+n:=by omega
  rw [bX h1];exact ⟨cG _ (by omega),cV _ (by omega)⟩
noncomputable def pcK (x:Int):Nat->List Int × Int
 |0=>([1],x)
 |k+1=>((pcK x k).1++[(pcK x k).1.getD k 0+(1+upV (pcK x k).2 (12 - 1))],upS (pcK x k).2 (12 - 1))
structure PcOk (p:List Int) (k:Nat):Prop where
 len:p.length=k+1
 one:p.getD 0 0=1
 up:∀ i,i < k->p.getD i 0 < p.getD (i+1) 0
 le:∀ i,i<=k->1<=p.getD i 0/\p.getD i 0<=1+12 * (i:Int)
def yU {α:Type} {l:List α} {v d:α} {i:Nat} (h:i < l.length):(l++[v]).getD i d=l.getD i d:=by
 simp [ah,bp h]
def Ji {α:Type} {l:List α} {v d:α} {i:Nat} (h:i=l.length):(l++[v]).getD i d=v:=by
 subst h;simp [ah]
def Ry (x:Int):∀ k,PcOk (pcK x k).1 k
 |0=>⟨rfl,rfl,fun i h=>by omega,fun i h=>by
   obtain rfl:i=0:=by omega
   simp [pcK]⟩
 |k+1=>by
  have ih:=Ry x k;have hu:=vZ (x:=(pcK x k).2) (m:=12 - 1) (by decide)
  have hl:=ih.len;have hk:=ih.le k (ag _)
  rw [pcK];refine ⟨by simp [hl],by rw [yU (by omega)];exact ih.one,fun i hi=>?_,fun i hi=>?_⟩
  ·rcases bz (bY hi) with h|h
   ·rw [yU (by omega),yU (by omega)];exact ih.up i h
   ·subst h;rw [yU (by omega),Ji hl.symm];omega
  ·rcases bz hi with h|h
   ·rw [yU (by omega)];exact ih.le i (by omega)
   ·subst h;rw [Ji hl.symm];omega
structure CoS where
 cs:List (List Int)
 ss:List Int
 x:Int
noncomputable def R3 (s:CoS):CoS:=⟨s.cs++[(pcK (upS s.x 3) (upV s.x 3).toNat).1],s.ss++[upV (pcK (upS s.x 3) (upV s.x 3).toNat).2 200],upS (pcK (upS s.x 3) (upV s.x 3).toNat).2 200⟩
noncomputable def coK (x:Int):Nat->CoS
 |0=>⟨[],[],x⟩
 |k+1=>R3 (coK x k)
def Qag (x:Int) (k:Nat):coK x (k+1)=R3 (coK x k):=rfl
structure CoOk (s:CoS) (k:Nat):Prop where
 c:s.cs.length=k
 l:s.ss.length=k
 p:∀ q ∈ s.cs,∃ j,j<=3/\PcOk q j
 v:∀ n ∈ s.ss,0<=n/\n<=200
def KW (x:Int):∀ k,CoOk (coK x k) k
 |0=>⟨rfl,rfl,fun q hq=>by simp [coK] at hq,fun q hq=>by simp [coK] at hq⟩
 |k+1=>by
  have ih:=KW x k;rw [Qag]
  unfold R3;have h1:=vZ (x:=(coK x k).x) (m:=3) (by decide)
  have h2:=vZ (x:=(pcK (upS (coK x k).x 3) (upV (coK x k).x 3).toNat).2) (m:=200) (by decide)
  refine ⟨by simp [ih.c],by simp [ih.l],fun q hq=>?_,fun q hq=>?_⟩
  ·rcases au.1 hq with hq|hq
   ·exact ih.p q hq
   ·obtain rfl:=aM.1 hq
    exact ⟨_,by omega,Ry _ _⟩
  ·rcases au.1 hq with hq|hq
   ·exact ih.v q hq
   ·obtain rfl:=aM.1 hq
    omega
noncomputable def rtK (x:Int):Nat->List Sh × Int
 |0=>([⟨1,1⟩],x)
 |k+1=>((rtK x k).1++[rtV (rtK x k).2],rtS (rtK x k).2)
structure ShOk (s:Sh):Prop where
 n:1<=s.num/\s.num<=20
 d:1<=s.den/\s.den<=12
 r:s=shQ (mkRat s.num s.den.toNat)
def Qkz {q:Rat} (h1:1<=q.num/\q.num<=20) (h2:(q.den:Int)<=12):ShOk (shQ q) :=
 ⟨h1,⟨by have:=wY q;show (1:Int)<=(q.den:Int);omega,h2⟩,by show shQ q=shQ (mkRat q.num (q.den:Int).toNat);rw [aR,Rat.mkRat_self]⟩
def Qkp {n d:Int} (hn:1<=n/\n<=20) (hd:1<=d/\d<=12):(1<=(mkRat n d.toNat).num/\(mkRat n d.toNat).num<=20)/\((mkRat n d.toNat).den:Int)<=12:=by
 have hq:(0:Int) < d:=by omega
 have e1:=XQ (a:=n) hq;have e2:=XZ (a:=n) hq
 have hp:0 < (mkRat n d.toNat).num:=by
  have hm:=Ug (a:=n) hq;have h5:0 < Nat.gcd n.natAbs d.toNat:=Nat.gcd_pos_of_pos_left _ (by omega)
  have h6:=dw n.natAbs d.toNat;rw [hm]
  generalize Nat.gcd n.natAbs d.toNat=g at *;obtain ⟨q,hq⟩:=h6
  have h7:n=(g:Int) * (q:Int):=by
   rw [show n=(n.natAbs:Int) by omega,hq];exact Int.natCast_mul g q
  rw [h7,Int.mul_tdiv_cancel_left _ (by omega)]
  rcases dT q with h8|h8
  ·subst h8;simp at h7;omega
  ·omega
 omega
def QkW (x:Int):ShOk (rtV x):=by
 have h:=Qkp (QbH x).1 (QbH x).2;unfold rtV
 exact Qkz h.1 h.2
structure RwOk (r:List Sh) (m:Nat):Prop where
 len:r.length=m
 one:r.getD 0 default=⟨1,1⟩
 all:∀ s ∈ r,ShOk s
def QaN (x:Int):∀ k,RwOk (rtK x k).1 (k+1)
 |0=>⟨rfl,rfl,fun s hs=>by
  obtain rfl:=aM.1 hs;exact ⟨by decide,by decide,by decide +kernel⟩⟩
 |k+1=>by
  have ih:=QaN x k;rw [rtK]
  refine ⟨by simp [ih.len],by rw [yU (by have:=ih.len;omega)];exact ih.one,fun s hs=>?_⟩
  rcases au.1 hs with hs|hs
  ·exact ih.all s hs
  ·obtain rfl:=aM.1 hs
   exact QkW _
noncomputable def dyK (m:Nat) (x:Int):Nat->List (List Sh) × Int
 |0=>([],x)
 |k+1=>((dyK m x k).1++[(rtK (dyK m x k).2 m).1],(rtK (dyK m x k).2 m).2)
def Rb (m:Nat) (x:Int):∀ k,(dyK m x k).1.length=k/\∀ r ∈ (dyK m x k).1,RwOk r (m+1)
 |0=>⟨rfl,fun r h=>by simp [dyK] at h⟩
 |k+1=>by
  obtain ⟨h1,h2⟩:=Rb m x k;rw [dyK]
  refine ⟨by simp [h1],fun r hr=>?_⟩
  rcases au.1 hr with hr|hr
  ·exact h2 r hr
  ·obtain rfl:=aM.1 hr
   exact QaN _ _
structure EnS where
 day:Int
 till:List Int
 es:List Ent
 x:Int
noncomputable def enD (R:Nat) (s:EnS):Int:=s.day+upV s.x (min (s.day+1) ((R:Int) - 1) - s.day)
noncomputable def enX1 (R:Nat) (s:EnS):Int:=upS s.x (min (s.day+1) ((R:Int) - 1) - s.day)
def kinds:List Int:=[1,2,3,3,3,4]
noncomputable def enS1 (s:EnS) (day coin x:Int):EnS:=⟨day,s.till.set coin.toNat (s.till.getD coin.toNat 0+upV x 90),s.es++[⟨day,1,coin,0,upV x 90,0⟩],upS x 90⟩
noncomputable def enS2 (s:EnS) (day coin x:Int):EnS:=⟨day,s.till.set coin.toNat (s.till.getD coin.toNat 0 - upV x (min (s.till.getD coin.toNat 0) 90)),s.es++[⟨day,2,coin,0,upV x (min (s.till.getD coin.toNat 0) 90),0⟩],upS x (min (s.till.getD coin.toNat 0) 90)⟩
noncomputable def enF (x:Int):Int:=-3+upV x (3 - -3)
noncomputable def RU (h x:Int):Int:=max 0 (min 999 (h+Qb6 (upS x (3 - -3)) [0,enF x]))
noncomputable def enS4 (s:EnS) (day coin x:Int):EnS:=⟨day,s.till.set coin.toNat (RU (s.till.getD coin.toNat 0) x),s.es++[⟨day,4,coin,0,RU (s.till.getD coin.toNat 0) x,0⟩],upS (upS x (3 - -3)) ((2:Nat) - 1)⟩
def Qal (rs:List (List Sh)) (day coin to am:Int):Int :=
 (am * ((rs.getD day.toNat []).getD coin.toNat default).num * ((rs.getD day.toNat []).getD to.toNat default).den).tdiv (((rs.getD day.toNat []).getD coin.toNat default).den * ((rs.getD day.toNat []).getD to.toNat default).num)
def WS (s:EnS) (day coin to am got x:Int):EnS :=
 if 999 < got then ⟨day,s.till,s.es,x⟩ else ⟨day,(s.till.set coin.toNat (s.till.getD coin.toNat 0 - am)).set to.toNat (s.till.getD to.toNat 0+got),s.es++[⟨day,3,coin,to,am,got⟩],x⟩
end Go.Sym.B
