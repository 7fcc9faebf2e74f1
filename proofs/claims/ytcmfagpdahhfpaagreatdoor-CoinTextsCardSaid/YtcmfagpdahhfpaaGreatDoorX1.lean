/- Walks and what they compute, joined: part 1. -/
import Derived.Test.YtcmfagpdahhfpaaGreatDoorXB2
import Derived.Lib.AppendIntMem
import Derived.WalkKit
import Derived.BigCall
import Derived.WalkSmall
import Derived.Recover
import Derived.TacticsInMore
import Derived.RegionIn
import Derived.RecoverIn
import Derived.Lib.CountLaws
import Derived.Lib.ItoaNum
import Derived.Lib.IndexMore
import Derived.IntWalk
import Derived.Test.YtcmfagpdahhfpaaGreatDoorRows
import Derived.MakeChecks
import Derived.LaidSub
import Derived.LaidMore
import Derived.Lib.LaidU8
import Derived.Lib.LaidTab
import Derived.Shelf.Vars
import Derived.Handed
import GoSem.PinnedTables
set_option linter.all false
set_option maxRecDepth 100000
set_option maxHeartbeats 40000000
namespace Go.Sym.B
open Go Go.Sym Go.Proofs Go.Proofs.Tryz Go.Sym.C Go.RowKit
def _root_.Go.Sym.vj {a b:Prop} (x:a) (y:b):a/\b:=⟨x,y⟩
def _root_.Go.Sym.uq:=@VD
def _root_.Go.Sym.ux:=@QaA
def _root_.Go.Sym.uz:=@Qdy
def _root_.Go.Sym.uj:=@Qch
def _root_.Go.Sym.uk:=@Qgd
def _root_.Go.Sym.uw:=@Qep
def _root_.Go.Sym.uv:=@Qe1
def _root_.Go.Sym.vq:=@Qbv
def _root_.Go.Sym.vx:=@QiH
def _root_.Go.Sym.vz:=@Qgz
def JX (w : World) : Prop := Lib.TabIs prog w "internal/strconv.uint64pow10" .u64 Lib.pow10Tab
def aS (s:List UInt8):AV:=.v (.string ⟨⟨s⟩⟩)
def qa (l:List (List UInt8)):AV:=.sl (l.map ql)
def yF:List DV->List UInt8
 |[.v (.string ⟨⟨s⟩⟩)]=>s
 |_=>[]
def wO (l:List (List UInt8)):(l.map ql).map yF=l:=by rw [bQ];exact (cE fun _ _=>rfl).trans (List.map_id _)
def WQ (l:List (List UInt8)):zK 1 (l.map ql)=True:=xu (f:=ql) (k:=1) (fun _=>rfl) l
def dg (n:Int):List UInt8:=Lib.itoa n
def Qq {n:Int} (h0:0<=n) (h1:n < 1000):(dg n).length<=3:=by
 unfold dg Lib.itoa;rw [if_neg (by omega),Lib.decDigits_length]
 have h:n.toNat < 1000:=by omega
 by_cases h2:n.toNat < 10
 ·rw [Lib.nDigits_small h2];decide
 ·by_cases h3:n.toNat < 100
  ·rw [Lib.nDigits_unique 1 _ (by omega) (by omega)];decide
  ·rw [Lib.nDigits_unique 2 _ (by omega) (by omega)];decide
def jnd (w:List UInt8) (l:List Int):List UInt8:=w++l.flatMap fun n=>32 :: dg n
def Qdw (w:List UInt8):jnd w []=w:=by simp [jnd]
def Qbn (w:List UInt8) (l:List Int) {k:Nat} (h:k < l.length):jnd w (l.take (k+1))=jnd w (l.take k)++([32]++dg (l.getD k 0)):=by
 unfold jnd;rw [bT,ak h,cX]
 simp [ah,h]
def Qb1 {α:Type} (f:α->List UInt8) (m:Nat):∀ (l:List α),(∀ x ∈ l,(f x).length<=m)->(l.flatMap f).length<=l.length * m
 |[],_=>by simp
 |x :: l,h=>by
  have h1:=Qb1 f m l fun y hy=>h y (.tail _ hy)
  have h2:=h x (.head _);rw [dx,au,bj,cB]
  omega
def vC (w:List UInt8) (l:List Int) (h:∀ n ∈ l,0<=n/\n < 1000):(jnd w l).length<=w.length+l.length * 4:=by
 unfold jnd;rw [au]
 have:=Qb1 (fun n=>32 :: dg n) 4 l fun n hn=>by have:=Qq (h n hn).1 (h n hn).2;simp;omega
 omega
def ky (r:List Sh):List UInt8:=[114,97,116,101,115]++r.flatMap fun s=>[32]++dg s.num++[47]++dg s.den
def XK (r:List Sh) {k:Nat} (h:k < r.length):ky (r.take (k+1))=ky (r.take k)++([32]++dg (r.getD k default).num++[47]++dg (r.getD k default).den):=by
 unfold ky;rw [bT,ak h,cX]
 simp [ah,h]
def JM (r:List Sh) (h:∀ s ∈ r,(0<=s.num/\s.num < 1000)/\0<=s.den/\s.den < 1000):(ky r).length<=5+r.length * 8:=by
 unfold ky;rw [au]
 have:=Qb1 (fun s:Sh=>[32]++dg s.num++[47]++dg s.den) 8 r fun s hs=>by
  have h1:=Qq (h s hs).1.1 (h s hs).1.2;have h2:=Qq (h s hs).2.1 (h s hs).2.2
  simp;omega
 simp at this ⊢;omega
def ZP (k:Int):List UInt8:=if k=1 then [116,97,107,101] else if k=2 then [112,97,121] else if k=3 then [115,119,97,112] else if k=4 then [99,111,117,110,116] else []
def Xi (x:Ent):List UInt8:=if x.kind=3 then jnd (jnd (dg x.day++[32]++ZP x.kind) [x.coin,x.amount]) [x.to,x.got] else jnd (dg x.day++[32]++ZP x.kind) [x.coin,x.amount]
def Zu (l:Led) (k:Nat):List (List UInt8):=(l.coins.take k).map (jnd [99,111,105,110])
def Qp (l:Led) (k:Nat):List (List UInt8):=Zu l l.coins.length++(l.rates.take k).map fun r=>ky (r.drop 1)
def xK (l:Led) (k:Nat):List (List UInt8):=Qp l l.rates.length++[jnd [115,116,97,114,116] l.start]++(l.entries.take k).map Xi
def ym (l:Led):List UInt8 × Int:=if zf l=0 then (Lib.join (xK l l.entries.length++[[98,97,108,97,110,99,101]]) [10]++[10],0) else ([],zf l)
def QhR (sep:List UInt8) (m:Nat):∀ l:List (List UInt8),(∀ x ∈ l,x.length<=m)->(Lib.joinTail sep l).length<=l.length * (m+sep.length)
 |[],_=>by simp [Lib.joinTail]
 |x :: l,h=>by
  have h1:=QhR sep m l fun y hy=>h y (.tail _ hy)
  have h2:=h x (.head _);have e:Lib.joinTail sep (x :: l)=sep++x++Lib.joinTail sep l:=by simp [Lib.joinTail]
  rw [e,au,au,bj,cB];omega
def QlW {l:List (List UInt8)} {sep:List UInt8} {m:Nat} (h:∀ x ∈ l,x.length<=m):(Lib.join l sep).length<=l.length * (m+sep.length):=by
 match l,h with
 |[],_=>rw [Lib.join_nil];exact af _
 |x :: l,h =>
  have h1:=QhR sep m l fun y hy=>h y (.tail _ hy)
  have h2:=h x (.head _);rw [Lib.join_cons,au,bj,cB]
  omega
def Qip (n:Int) (h0:-9223372036854775808<=n) (h1:n<=9223372036854775807):Fn (jS JX) prog 43 [aI n] noH (aS (dg n)) noH 0:=Fn.of_callsT (fun vs w=>by kernel_rfl) rfl fun w ok ρ y vs hT _ hs ha=>by
 obtain ⟨v,rfl⟩:∃ v,vs=#[v]:=by
  match vs,hs with
  |⟨[v]⟩,_=>exact ⟨v,rfl⟩
 have h2:=ha 0 _ rfl;have h2:ARel w ok ρ y (.v (.int .i64 n)) v:=h2
 cases h2 with
 |v _ =>
  refine ja (Tryz.strconv_Itoa n h0 h1 w hT) fun e w' ⟨he,k,os,hw⟩=>⟨he, ?_⟩
  rw [hw];exact Lib.below_grow _ _ (ag _) _ _
def Qi0 (l:List (List UInt8)) (sep:List UInt8) (h1:l.length<=100000) (h2:(Lib.join l sep).length<=140737488355328):FnV prog 45 [qa l,aS sep] (aS (Lib.join l sep)):=Fn.of_calls (fun vs w=>by kernel_rfl) rfl fun w ok ρ y vs _ hs ha=>by
 obtain ⟨v,u,rfl⟩:∃ v u,vs=#[v,u]:=by
  match vs,hs with
  |⟨[v,u]⟩,_=>exact ⟨v,u,rfl⟩
 have h3:ARel w ok ρ y (aS sep) u:=ha 1 _ rfl;have h4:=QjL (show ARel w ok ρ y (.sl (l.map ql)) v from ha 0 _ rfl)
 unfold aS at h3;cases h3 with
 |v _ =>
  rcases h4 with ⟨rfl,a,c,rfl⟩|⟨b,o,c,rfl,hp,hc,hm,hb,hcell⟩
  ·exact ja (Tryz.strings_Join_none a c ⟨⟨sep⟩⟩ w) fun e w' ⟨he,hw⟩=>⟨he,by rw [hw];exact Below.refl _ _⟩
  ·have e1:(l.map fun s=>(⟨⟨s⟩⟩:ByteArray)).map (·.data.toList)=l:=by rw [bQ];exact (cE fun _ _=>rfl).trans (List.map_id _)
   have:=Tryz.strings_Join b o c (l.map fun s=>(⟨⟨s⟩⟩:ByteArray)) ⟨⟨sep⟩⟩ w (fun j x hx=>by
    rw [aw] at hx;obtain ⟨s,hs,rfl⟩:=aC.1 hx
    exact hcell j s hs) hb (by simp;omega) (by simp;omega) (by rw [e1];exact h2)
   rw [e1] at this;simp only [ab] at this
   exact this
def WC:List AV->Prop × AV
 |[.v (.int .i64 n)]=>(-9223372036854775808<=n/\n<=9223372036854775807,aS (dg n))
 |_=>(False,.junk)
def Qdn:qf (zZ JX) prog 43 (zq true WC):=xN fun vs hv h=>by
 clear hv;unfold WC at h ⊢
 split at h
 ·rename_i n;obtain ⟨k0,k1⟩:=h
  refine ⟨by first|trivial|(repeat' split) <;> simp [AV.plain,AV.plainL,aI,aB,qi,aBunks,aTks,aBunk,aTk,cTk,aS,qa],fun _=>(by simp [AV.flat,aS]), ?_⟩
  have:=Qip n k0 k1;simp only [aI] at this
  first|exact this|(simp only [aI];exact this)
 ·exact h.elim
def QgI:List AV->Prop × AV
 |[.sl l,.v (.string ⟨⟨s⟩⟩)]=>(l=(l.map yF).map ql/\(l.map yF).length<=100000/\(Lib.join (l.map yF) s).length<=140737488355328,aS (Lib.join (l.map yF) s))
 |_=>(False,.junk)
def ejoin {A:Frm->Prop}:qf A prog 45 (zq true QgI):=qD fun vs hv h=>by
 clear hv;unfold QgI at h ⊢
 split at h
 ·rename_i l s;obtain ⟨q0,k0,k1⟩:=h
  refine ⟨by first|trivial|(repeat' split) <;> simp [AV.plain,AV.plainL,aI,aB,qi,aBunks,aTks,aBunk,aTk,cTk,aS,qa],fun _=>(by simp [AV.flat,aS]), ?_⟩
  have:=Qi0 (l.map yF) s k0 k1;simp only [aS,qa,<- q0] at this
  first|exact this|(simp only [aS,qa,<- q0];exact this)
 ·exact h.elim
def jnS (w:List UInt8) (l:List Int) (k:Nat):St:={ t:=asg [(0,aS (jnd w (l.take k))),(7,.sl (l.map qj)),(8,aI l.length),(9,aI k)],h:=qg [],n:=0 }
def Wz:=vj @ty3 (vj @ty9 (vj @jh (vj @ti3.eq_1 (vj @ti9.eq_1 @jc.eq_1))))
def Y3:=vj @aI.eq_1 (vj @aB.eq_1 (vj @qi.eq_1 (vj @qj.eq_1 (@Q5))))
def QeJ (w:List UInt8) (l:List Int) (hw:w.length<=10000) (hl:l.length<=100) (hn:∀ n ∈ l,0<=n/\n < 1000):Fn (jS JX) prog 65 [aS w,qi l] noH (aS (jnd w l)) noH 0:=by
 have env:=qx (A:=zZ JX) (kC Qdn kN);refine kT (Fn0 func65 rfl (fun vs w=>by kernel_rfl) (by kernel_rfl)) (by simp) (by simp [AV.ids,qi,aS]) ?_
 have hmx:(100:Nat)<=maxLen:=by decide
 repeat' first|(apply nx;with_reducible constructor)|apply uq (by decide)|((first|apply uz env|apply uk);intro Q hQ;simp only [vkt,seval,Wz,Y3,aS,ite_and];(repeat' first|with_reducible assumption|apply vj|intro hp);all_goals first|(apply hQ;clear hQ Q)|(apply ux;kernel_rfl)|omega|assumption|with_reducible rfl|skip)
 refine qh (fun s:{ s:Nat // s<=l.length }=>jnS w l s.1) (fun s=>l.length - s.1) ⟨0,af _⟩ ?_ fun ⟨k,hk⟩=>?_
 ·simp only [jnS,List.take_zero,Qdw]
  (refine Le.ok some [] ?_;constructor;all_goals (try simp only [vle,vkt,seval,Y3,aS]))
  all_goals first|rfl|simp
 simp only at hk ⊢;have hj:=vC w (l.take k) fun n hm=>hn n (aQ hm)
 have hj2:(l.take k).length<=100:=by simp;omega
 by_cases hlt:k < l.length
 ·have d1:decide ((k:Int) < (l.length:Int))=true:=decide_eq_true (by omega)
  have e9:=k9 k (by omega)
  have hS:=Qbn w l hlt;have hx:=Q5 l k
  have hb:=hn _ (jr (d:=0) hlt);generalize l.getD k 0=n at hx hb hS
  have hd:=Qq hb.1 hb.2;obtain ⟨W,hW⟩:∃ W,jnd w (l.take k)=W:=⟨_,rfl⟩
  rw [hW] at hS hj;simp only [jnS,hW]
  have b0:-9223372036854775808<=n:=by omega
  have b1:n<=9223372036854775807:=by omega
  have b2:[(32:UInt8)].length+(dg n).length<=9223372036854775807:=by simp;omega
  have b3:W.length+([(32:UInt8)]++dg n).length<=9223372036854775807:=by simp;omega
  repeat' first|(apply nx;with_reducible constructor)|apply uq (by decide)|((first|apply uz env|apply uk);intro Q hQ;simp only [vkt,seval,Wz,Y3,aS,WC,d1,e9,hx,ite_and];(repeat' first|with_reducible assumption|apply vj|intro hp);all_goals first|(apply hQ;clear hQ Q)|(apply ux;kernel_rfl)|omega|assumption|with_reducible rfl|skip)
  refine ⟨⟨k+1,hlt⟩,by show l.length - (k+1) < l.length - k;omega, ?_⟩
  simp only [hS]
  (refine Le.ok some [] ?_;constructor;all_goals (try simp only [vle,vkt,seval,Y3,aS]))
  all_goals first|rfl|simp
 ·have d1:decide ((k:Int) < (l.length:Int))=false:=decide_eq_false (by omega)
  obtain rfl:k=l.length:=by omega
  simp only [jnS,bt]
  repeat' first|(apply nx;with_reducible constructor)|apply uq (by decide)|((first|apply uz env|apply uk);intro Q hQ;simp only [vkt,seval,Wz,Y3,aS,d1,ite_and];(repeat' first|with_reducible assumption|apply vj|intro hp);all_goals first|(apply hQ;clear hQ Q)|(apply ux;kernel_rfl)|omega|assumption|with_reducible rfl|skip)
  (simp only [vrt,results65,vkt,seval,aS];refine Fin.val rfl ?_;(try simp only [AV.le]))
  all_goals first|rfl|simp
def Za:List AV->Prop × AV
 |[.v (.string ⟨⟨w⟩⟩),.sl l]=>(l=(l.map qL).map qj/\w.length<=10000/\(l.map qL).length<=100/\∀ n ∈ (l.map qL),0<=n/\n < 1000,aS (jnd w (l.map qL)))
 |_=>(False,.junk)
def Qiu:qf (zZ JX) prog 65 (zq true Za):=xN fun vs hv h=>by
 clear hv;unfold Za at h ⊢
 split at h
 ·rename_i w l;obtain ⟨q0,k0,k1,k2⟩:=h
  refine ⟨by first|trivial|(repeat' split) <;> simp [AV.plain,AV.plainL,aI,aB,qi,aBunks,aTks,aBunk,aTk,cTk,aS,qa],fun _=>(by simp [AV.flat,aS]), ?_⟩
  have:=QeJ w (l.map qL) k0 k1 k2;simp only [qi,aS,<- q0] at this
  first|exact this|(simp only [qi,aS,<- q0];exact this)
 ·exact h.elim
end Go.Sym.B
namespace Go.Sym.B
open Go Go.Sym Go.Proofs Go.Proofs.Tryz Go.Sym.C
structure TxOk (l:Led):Prop where
 c:l.coins.length<=4
 cs:∀ p ∈ l.coins,p.length<=4/\∀ n ∈ p,0<=n/\n < 1000
 r:l.rates.length<=4
 rs:∀ r ∈ l.rates,(1<=r.length/\r.length<=4)/\∀ s ∈ r,(0<=s.num/\s.num < 1000)/\0<=s.den/\s.den < 1000
 s:l.start.length<=4/\∀ n ∈ l.start,0<=n/\n < 1000
 e:l.entries.length<=6
 es:∀ x ∈ l.entries,(1<=x.kind/\x.kind<=4)/\(0<=x.day/\x.day < 1000)/\(0<=x.coin/\x.coin < 1000)/\(0<=x.amount/\x.amount < 1000)/\(x.kind=3->(0<=x.to/\x.to < 1000)/\0<=x.got/\x.got < 1000)
def QjX {r:List Sh} {n:Int} (h:jU r n=0):(r.length:Int)=n/\∀ s ∈ r,(0<=s.num/\s.num < 1000)/\0<=s.den/\s.den < 1000:=by
 unfold jU at h;split at h
 ·exact absurd h (by decide)
 rename_i a1;split at h
 ·exact absurd h (by decide)
 rename_i a2;refine ⟨Decidable.not_not.1 a1,fun s hs=>?_⟩
 obtain ⟨j,hj,rfl⟩:=bC hs;have e:r[j]=r.getD j default:=by simp [ah,hj]
 rw [e];cases j with
 |zero=>rw [Decidable.not_not.1 a2];decide
 |succ j =>
  have h2:=kF h (k:=j) (by omega)
  unfold Zi at h2;rw [cd 1 j] at h2
  generalize r.getD (j+1) default=s at *;change shE s=0 at h2
  unfold shE at h2;split at h2
  ·exact absurd h2 (by decide)
  rename_i b1;split at h2
  ·exact absurd h2 (by decide)
  rename_i b2;have b1:1<=s.num/\s.num<=20:=by simpa [inB] using b1
  have b2:1<=s.den/\s.den<=12:=by simpa [inB] using b2
  omega
def QgC {l:Led} (h:Val l):TxOk l:=by
 have hc:=h.c;have hr:=h.r
 refine ⟨hc.2,fun p hp=>?_,hr.2,fun r hm=>?_,⟨by rw [h.sl];exact hc.2,fun n hn=>by have:=h.s n hn;omega⟩,h.e,fun x hx=>?_⟩
 ·obtain ⟨j,hj,rfl⟩:=bC hp
  have h1:=Qdu (h.cs j hj);have e:l.coins[j]=l.coins.getD j []:=by simp [ah,hj]
  rw [e];exact ⟨h1.l.2,fun n hn=>by have:=h1.b n hn;omega⟩
 ·obtain ⟨j,hj,rfl⟩:=bC hm
  obtain ⟨h1,h2⟩:=QjX (h.rs j hj);have e:l.rates[j]=l.rates.getD j []:=by simp [ah,hj]
  rw [e];exact ⟨by omega,h2⟩
 ·obtain ⟨j,hj,rfl⟩:=bC hx
  have e:l.entries[j]=l.entries.getD j default:=by simp [ah,hj]
  rw [e];have g:=Zx h hj
  have g1:=g.day;have g2:=g.coin
  have g3:=g.am;refine ⟨g.kind,by omega,by omega,by omega,fun hk=>?_⟩
  have:=g.to hk;have:=g.got hk
  omega
def RZ (l:Led) {k:Nat} (h:k < l.coins.length):Zu l (k+1)=Zu l k++[jnd [99,111,105,110] (l.coins.getD k [])]:=by
 unfold Zu;rw [bT,ak h,ae]
 simp [ah,h]
def KX (l:Led) {k:Nat} (h:k < l.rates.length):Qp l (k+1)=Qp l k++[ky ((l.rates.getD k []).drop 1)]:=by
 unfold Qp;rw [bT,ak h,ae]
 simp [ah,h]
def RU (l:Led) {k:Nat} (h:k < l.entries.length):xK l (k+1)=xK l k++[Xi (l.entries.getD k default)]:=by
 unfold xK;rw [bT,ak h,ae]
 simp [ah,h]
def Qax (l:Led) {k:Nat} (h:k<=l.coins.length):(Zu l k).length=k:=by simp [Zu];omega
def V9 (l:Led) {k:Nat} (h:k<=l.rates.length):(Qp l k).length=l.coins.length+k:=by simp [Qp,Zu];omega
def YJ (l:Led) {k:Nat} (h:k<=l.entries.length):(xK l k).length=l.coins.length+l.rates.length+1+k:=by simp [xK,Qp,Zu];omega
def RQ (k:Int):(ZP k).length<=5:=by unfold ZP;repeat' split <;> try decide
def XP {x:Ent} (h:(1<=x.kind/\x.kind<=4)/\(0<=x.day/\x.day < 1000)/\(0<=x.coin/\x.coin < 1000)/\(0<=x.amount/\x.amount < 1000)/\(x.kind=3->(0<=x.to/\x.to < 1000)/\0<=x.got/\x.got < 1000)):(Xi x).length<=100:=by
 obtain ⟨_,h1,h2,h3,h4⟩:=h;have a1:=Qq h1.1 h1.2
 have a2:=RQ x.kind;have a3:=vC (dg x.day++[32]++ZP x.kind) [x.coin,x.amount] fun n hn=>by simp at hn;rcases hn with rfl|rfl <;> assumption
 simp at a3
 unfold Xi;split
 ·rename_i hk
  obtain ⟨h5,h6⟩:=h4 hk;have a4:=vC (jnd (dg x.day++[32]++ZP x.kind) [x.coin,x.amount]) [x.to,x.got] fun n hn=>by simp at hn;rcases hn with rfl|rfl <;> assumption
  simp at a4 ⊢
  omega
 ·simp
  omega
def QdF {l:Led} (h:TxOk l):(Lib.join (xK l l.entries.length++[[98,97,108,97,110,99,101]]) [10]).length<=100000:=by
 refine bi (QlW (m:=100) fun y hy=>?_) ?_
 ·unfold xK Qp Zu at hy
  simp only [aA,aj,aZ] at hy
  rcases hy with (((⟨p,hp,rfl⟩|⟨r,hr,rfl⟩)|rfl)|⟨x,hx,rfl⟩)|rfl
  ·obtain ⟨g1,g2⟩:=h.cs p (aQ hp)
   have:=vC [99,111,105,110] p g2
   simp at this ⊢;omega
  ·obtain ⟨g1,g2⟩:=h.rs r (aQ hr)
   have:=JM (r.drop 1) fun s hs=>g2 s (aO hs)
   simp at this ⊢;omega
  ·have:=vC [115,116,97,114,116] l.start h.s.2
   have:=h.s.1
   simp at *;omega
  ·exact XP (h.es x (aQ hx))
  ·decide
 ·have:=h.c
  have:=h.r;have:=h.e
  rw [au,YJ l (ag _)]
  simp
  omega
def LU:=vj @ty9 (vj @JR (vj @ti9.eq_1 @Wj.eq_1))
def Qho:FnV prog 66 [] (qa [[],[116,97,107,101],[112,97,121],[115,119,97,112],[99,111,117,110,116]]):=by
 have env:=qx (A:=fun _=>True) kN
 refine kV (Fn0 func66 rfl (fun vs w=>by kernel_rfl) (by kernel_rfl)) (by simp) (by simp []) ?_
 have q1:(5:Nat)<=maxLen:=by decide
 repeat' first|(apply nx;with_reducible constructor)|apply uq (by decide)|((first|apply uz env|apply uk);intro Q hQ;simp only [vkt,seval,LU,ite_and];(repeat' first|with_reducible assumption|apply vj|intro hp);all_goals first|(apply hQ;clear hQ Q)|(apply ux;kernel_rfl)|omega|assumption|with_reducible rfl|skip)
 (simp only [vrt,results66,vkt,seval];refine Fin.val rfl ?_;(try simp only [AV.le]))
 all_goals first|exact ⟨_,_,rfl⟩|rfl|(simp;done)
def yZ:List AV->Prop × AV
 |[]=>(True,qa [[],[116,97,107,101],[112,97,121],[115,119,97,112],[99,111,117,110,116]])
 |_=>(False,.junk)
def QbF {A:Frm->Prop}:qf A prog 66 (zq false yZ):=qD fun vs hv h=>by
 clear hv;unfold yZ at h ⊢
 split at h
 ·clear h
  refine ⟨by first|trivial|(repeat' split) <;> simp [AV.plain,AV.plainL,aI,aB,qi,aBunks,aTks,aBunk,aTk,cTk,aS,qa],fun h=>absurd h (by decide), ?_⟩
  have:=Qho
  first|exact this|(simp only [];exact this)
 ·exact h.elim
def wr1 (l:Led) (k:Nat):St:={ t:=asg [(1,.ptr 0 0),(5,.row 1),(22,.sl (l.coins.map qC)),(23,aI l.coins.length),(24,aI k)],h:=qg [(0,.cells (qU l)),(1,.row 9 1 ((Zu l k).map ql))],n:=2 }
def wr2 (l:Led) (k:Nat):St:={ t:=asg [(1,.ptr 0 0),(5,.row 1),(35,.sl (l.rates.map zM)),(36,aI l.rates.length),(37,aI k)],h:=qg [(0,.cells (qU l)),(1,.row 9 1 ((Qp l k).map ql))],n:=2 }
def wr2i (l:Led) (k:Nat) (K:List (List UInt8)) (r:List Sh) (q:Nat):St:={ t:=asg [(1,.ptr 0 0),(5,.row 1),(35,.sl (l.rates.map zM)),(36,aI l.rates.length),(37,aI k),(10,aS (ky (r.take q))),(42,.sl (r.map eSh)),(43,aI r.length),(44,aI q)],h:=qg [(0,.cells (qU l)),(1,.row 9 1 (K.map ql))],n:=2 }
def wr3 (l:Led) (k:Nat):St:={ t:=asg [(1,.ptr 0 0),(5,.row 1),(72,.sl (l.entries.map zC)),(73,aI l.entries.length),(74,aI k)],h:=qg [(0,.cells (qU l)),(1,.row 9 1 ((xK l k).map ql))],n:=2 }
def Qek:ky []=[114,97,116,101,115]:=by simp [ky]
def Ux (n:Int):qL [.v (.int .i64 n)]=n:=rfl
def QlJ (r:List Sh):((r.map eSh).drop 1)=(r.drop 1).map eSh:=by rw [bl]
def wu:=vj @ty3 (vj @ty9 (vj @jh (vj @JR (vj @WP (vj @QD (vj @WK (vj @Yt (vj @vU (vj @vQ (vj @Qg (vj @vR (vj @ti3.eq_1 (vj @ti9.eq_1 (vj @jc.eq_1 (vj @Wj.eq_1 (vj @Zn.eq_1 (vj @kI.eq_1 (vj @Zp.eq_1 (vj @WO.eq_1 (vj @vD.eq_1 (vj @yP.eq_1 (vj @xD.eq_1 @yS.eq_1))))))))))))))))))))))
def zW:=vj @aI.eq_1 (vj @aB.eq_1 (vj @qi.eq_1 (vj @qj.eq_1 (vj @qC.eq_1 (vj @eSh.eq_1 (vj @zM.eq_1 (vj @zC.eq_1 (vj @q9.eq_1 (vj @qU.eq_1 (vj @Qo (vj @kg (vj @XI (vj @mSh (vj @Jj (vj @xf (vj @jT (@rSh)))))))))))))))))
def QfS (l:Led) (hf:Fit l):Fn (jS JX) prog 20 [q9 l] noH (.tup [aS (ym l).1,aI (ym l).2]) noH 0:=by
 have env:=qx (A:=zZ JX) (kC e50 (kC Qdn (kC ejoin (kC Qiu (kC QbF kN)))));refine kT (Fn0 func20 rfl (fun vs w=>by kernel_rfl) (by kernel_rfl)) (by simp) (by simp [AV.ids,AV.idsL,q9,qU]) ?_
 have ec:(⟨l.coins,l.rates,l.start,l.entries⟩:Led)=l:=rfl;have hmx:(100000:Nat)<=maxLen:=by decide
 obtain ⟨e,he⟩:∃ e,zf l=e:=⟨_,rfl⟩
 by_cases h0:e=0
 ·rw [h0] at he
  have hv:=QgC (We he);have hjl:=QdF hv
  have hc4:=hv.c;have hr4':=hv.r
  have he6:=hv.e;have hs4:=hv.s.1
  have hE:ym l=(Lib.join (xK l l.entries.length++[[98,97,108,97,110,99,101]]) [10]++[10],0):=by unfold ym;rw [if_pos he]
  rw [hE]
  repeat' first|(apply nx;with_reducible constructor)|apply uq (by decide)|((first|apply uz env|apply uk);intro Q hQ;simp only [vkt,seval,wu,zW,s50,ec,he,hf,ite_and];(repeat' first|with_reducible assumption|apply vj|intro hp);all_goals first|(apply hQ;clear hQ Q)|(apply ux;kernel_rfl)|omega|assumption|with_reducible rfl|skip)
  refine qh (fun s:{ s:Nat // s<=l.coins.length }=>wr1 l s.1) (fun s=>l.coins.length - s.1) ⟨0,af _⟩ ?_ fun ⟨k,hk⟩=>?_
  ·simp only [wr1,show Zu l 0=[] from rfl]
   (refine Le.ok (fun i=>if i=1 then none else some i) [] ?_;constructor;all_goals (try simp only [vle,vkt,seval,zW]))
   all_goals first|rfl|simp
  simp only at hk ⊢
  by_cases hlt:k < l.coins.length
  ·have d1:decide ((k:Int) < (l.coins.length:Int))=true:=decide_eq_true (by omega)
   have e9:IntKind.wrap .i64 ((k:Int)+1)=((k+1:Nat):Int):=by have:=hv.c;rw [wrap64 (by omega) (by omega)];rfl
   have hS:=RZ l hlt;have hl:=Qax l hk
   have hx:=J7 l.coins k;obtain ⟨hb1,hb2⟩:=hv.cs _ (jr (d:=[]) hlt)
   obtain ⟨K,hK⟩:∃ K,Zu l k=K:=⟨_,rfl⟩;rw [hK] at hS hl
   simp only [wr1,hK];generalize l.coins.getD k []=p at hx hb1 hb2 hS
   have hm:K.length+1<=maxLen:=by have:=hv.c;omega
   have e4:K.map ql++[[.v (.string ⟨⟨jnd [99,111,105,110] p⟩⟩)]]=(Zu l (k+1)).map ql:=by rw [hS,ae];rfl
   have q1:[(99:UInt8),111,105,110].length<=10000:=by decide
   have q2:p.length<=100:=by omega
   repeat' first|(apply nx;with_reducible constructor)|apply uq (by decide)|((first|apply uz env|apply uk);intro Q hQ;simp only [vkt,seval,wu,zW,aS,WQ,Za,d1,e9,hx,hm,e4,q2,ite_and];(repeat' first|with_reducible assumption|apply vj|intro hp);all_goals first|(apply hQ;clear hQ Q)|(apply ux;kernel_rfl)|omega|assumption|with_reducible rfl|skip)
   refine ⟨⟨k+1,hlt⟩,by show l.coins.length - (k+1) < l.coins.length - k;omega, ?_⟩
   (refine Le.ok (fun i=>if i=1 then some 3 else some i) [] ?_;constructor;all_goals (try simp only [vle,vkt,seval,zW]))
   all_goals first|rfl|(simp;done)|(intro i hi;rw [if_neg (by omega)];done)
  have d1:decide ((k:Int) < (l.coins.length:Int))=false:=decide_eq_false (by omega)
  obtain rfl:k=l.coins.length:=by omega
  have hB0:Qp l 0=Zu l l.coins.length:=by simp [Qp]
  simp only [wr1,<- hB0]
  repeat' first|(apply nx;with_reducible constructor)|apply uq (by decide)|((first|apply uz env|apply uk);intro Q hQ;simp only [vkt,seval,wu,zW,d1,ite_and];(repeat' first|with_reducible assumption|apply vj|intro hp);all_goals first|(apply hQ;clear hQ Q)|(apply ux;kernel_rfl)|omega|assumption|with_reducible rfl|skip)
  refine qh (fun s:{ s:Nat // s<=l.rates.length }=>wr2 l s.1) (fun s=>l.rates.length - s.1) ⟨0,af _⟩ ?_ fun ⟨k,hk⟩=>?_
  ·simp only [wr2]
   (refine Le.ok some [] ?_;constructor;all_goals (try simp only [vle,vkt,seval,zW]))
   all_goals first|rfl|simp
  clear hB0 d1;simp only at hk ⊢
  by_cases hlt:k < l.rates.length
  ·have d1:decide ((k:Int) < (l.rates.length:Int))=true:=decide_eq_true (by omega)
   have e9:IntKind.wrap .i64 ((k:Int)+1)=((k+1:Nat):Int):=by have:=hv.r;rw [wrap64 (by omega) (by omega)];rfl
   have hS:=KX l hlt;have hl:=V9 l hk
   have hx:=QcA l.rates k;obtain ⟨hb1,hb2⟩:=hv.rs _ (jr (d:=[]) hlt)
   obtain ⟨K,hK⟩:∃ K,Qp l k=K:=⟨_,rfl⟩;rw [hK] at hS hl
   simp only [wr2,hK];generalize l.rates.getD k []=r0 at hx hb1 hb2 hS
   have hm:K.length+1<=maxLen:=by have:=hv.c;have:=hv.r;omega
   obtain ⟨r,hr⟩:∃ r,r0.drop 1=r:=⟨_,rfl⟩;have hrl:r.length<=4:=by rw [<- hr];simp;omega
   have hrb:∀ s ∈ r,(0<=s.num/\s.num < 1000)/\0<=s.den/\s.den < 1000:=fun s hs=>hb2 s (aO (hr ▸ hs))
   have hr2:=QlJ r0;have hr3:r0.length - 1=r.length:=by rw [<- hr];simp
   rw [hr] at hS hr2;have hr4:(1:Int)<=(r0.length:Int):=by omega
   have hr5:(r0.map eSh).take r0.length=r0.map eSh:=aP (by simp)
   repeat' first|(apply nx;with_reducible constructor)|apply uq (by decide)|((first|apply uz env|apply uk);intro Q hQ;simp only [vkt,seval,wu,zW,d1,hx,hr5,hr2,hr4,ite_and];(repeat' first|with_reducible assumption|apply vj|intro hp);all_goals first|(apply hQ;clear hQ Q)|(apply ux;kernel_rfl)|omega|assumption|with_reducible rfl|skip)
   refine qh (fun s:{ s:Nat // s<=r.length }=>wr2i l k K r s.1) (fun s=>r.length - s.1) ⟨0,af _⟩ ?_ fun ⟨q,hq⟩=>?_
   ·simp only [wr2i,List.take_zero,Qek]
    (refine Le.ok some [] ?_;constructor;all_goals (try simp only [vle,vkt,seval,zW,aS]))
    all_goals first|rfl|simp
   simp only at hq ⊢
   by_cases hq1:q < r.length
   ·have d2:decide ((q:Int) < (r.length:Int))=true:=decide_eq_true (by omega)
    have e8:=k9 q (by omega)
    have hx3:=gSh r q;have hsq:=XK r hq1
    have hj:=JM (r.take q) fun s hs=>hrb s (aQ hs)
    have hj2:(r.take q).length<=4:=by simp;omega
    obtain ⟨⟨n0,n1⟩,n2,n3⟩:=hrb _ (jr (d:=default) hq1);obtain ⟨V,hV⟩:∃ V,ky (r.take q)=V:=⟨_,rfl⟩
    rw [hV] at hsq hj;simp only [wr2i,hV]
    generalize r.getD q default=s0 at hx3 n0 n1 n2 n3 hsq;obtain ⟨nu,de⟩:=s0
    dsimp only at n0 n1 n2 n3;have dl1:=Qq n0 n1
    have dl2:=Qq n2 n3;have c0:-9223372036854775808<=nu:=by omega
    have c1:nu<=9223372036854775807:=by omega
    have c2:-9223372036854775808<=de:=by omega
    have c3:de<=9223372036854775807:=by omega
    have b1:[(32:UInt8)].length+(dg nu).length<=9223372036854775807:=by simp;omega
    have b2:([(32:UInt8)]++dg nu).length+[(47:UInt8)].length<=9223372036854775807:=by simp;omega
    have b3:([(32:UInt8)]++dg nu++[47]).length+(dg de).length<=9223372036854775807:=by simp;omega
    have b4:V.length+([(32:UInt8)]++dg nu++[47]++dg de).length<=9223372036854775807:=by simp;omega
    repeat' first|(apply nx;with_reducible constructor)|apply uq (by decide)|((first|apply uz env|apply uk);intro Q hQ;simp only [vkt,seval,wu,zW,aS,WC,d2,e8,hx3,ite_and];(repeat' first|with_reducible assumption|apply vj|intro hp);all_goals first|(apply hQ;clear hQ Q)|(apply ux;kernel_rfl)|omega|assumption|with_reducible rfl|skip)
    refine ⟨⟨q+1,hq1⟩,by show r.length - (q+1) < r.length - q;omega, ?_⟩
    simp only [hsq]
    (refine Le.ok some [] ?_;constructor;all_goals (try simp only [vle,vkt,seval,zW,aS]))
    all_goals first|rfl|simp
   ·have d2:decide ((q:Int) < (r.length:Int))=false:=decide_eq_false (by omega)
    obtain rfl:q=r.length:=by omega
    have e4:K.map ql++[[.v (.string ⟨⟨ky r⟩⟩)]]=(Qp l (k+1)).map ql:=by rw [hS,ae];rfl
    simp only [wr2i,bt]
    repeat' first|(apply nx;with_reducible constructor)|apply uq (by decide)|((first|apply uz env|apply uk);intro Q hQ;simp only [vkt,seval,wu,zW,aS,WQ,d2,e9,hm,e4,ite_and];(repeat' first|with_reducible assumption|apply vj|intro hp);all_goals first|(apply hQ;clear hQ Q)|(apply ux;kernel_rfl)|omega|assumption|with_reducible rfl|skip)
    refine ⟨⟨k+1,hlt⟩,by show l.rates.length - (k+1) < l.rates.length - k;omega, ?_⟩
    (refine Le.ok (fun i=>if i=1 then some 3 else some i) [] ?_;constructor;all_goals (try simp only [vle,vkt,seval,zW]))
    all_goals first|rfl|(simp;done)|(intro i hi;rw [if_neg (by omega)];done)
  have d1:decide ((k:Int) < (l.rates.length:Int))=false:=decide_eq_false (by omega)
  obtain rfl:k=l.rates.length:=by omega
  have hl:=V9 l (ag _);have hC0:xK l 0=Qp l l.rates.length++[jnd [115,116,97,114,116] l.start]:=by simp [xK]
  have hjs:=vC [115,116,97,114,116] l.start hv.s.2;obtain ⟨K,hK⟩:∃ K,Qp l l.rates.length=K:=⟨_,rfl⟩
  rw [hK] at hC0 hl;simp only [wr2,hK]
  have hm:K.length+1<=maxLen:=by omega
  have e4:K.map ql++[[.v (.string ⟨⟨jnd [115,116,97,114,116] l.start⟩⟩)]]=(xK l 0).map ql:=by rw [hC0,ae];rfl
  have q1:[(115:UInt8),116,97,114,116].length<=10000:=by decide
  have q2:l.start.length<=100:=by omega
  have q3:=hv.s.2
  repeat' first|(apply nx;with_reducible constructor)|apply uq (by decide)|((first|apply uz env|apply uk);intro Q hQ;simp only [vkt,seval,wu,zW,aS,WQ,Za,d1,hm,e4,q2,ite_and];(repeat' first|with_reducible assumption|apply vj|intro hp);all_goals first|(apply hQ;clear hQ Q)|(apply ux;kernel_rfl)|omega|assumption|with_reducible rfl|skip)
  refine qh (fun s:{ s:Nat // s<=l.entries.length }=>wr3 l s.1) (fun s=>l.entries.length - s.1) ⟨0,af _⟩ ?_ fun ⟨q,hq⟩=>?_
  ·simp only [wr3]
   (refine Le.ok (fun i=>if i=1 then some 3 else some i) [] ?_;constructor;all_goals (try simp only [vle,vkt,seval,zW]))
   all_goals first|rfl|(simp;done)|(intro i hi;rw [if_neg (by omega)];done)
  simp only at hq ⊢;clear e4 d1 hm hl hK hC0
  by_cases hlt:q < l.entries.length
  ·have d1:decide ((q:Int) < (l.entries.length:Int))=true:=decide_eq_true (by omega)
   have e9:=k9 q (by omega)
   have hS:=RU l hlt;have hl:=YJ l hq
   have hx:=R8 l.entries q;have hb:=hv.es _ (jr (d:=default) hlt)
   obtain ⟨K,hK⟩:∃ K,xK l q=K:=⟨_,rfl⟩;rw [hK] at hS hl
   simp only [wr3,hK];generalize l.entries.getD q default=x at hx hb hS
   have hj:=XP hb;obtain ⟨dy,ki,co,to,am,go⟩:=x
   obtain ⟨g1,g2,g3,g4,g5⟩:=hb;dsimp only at g1 g2 g3 g4 g5
   have hm:K.length+1<=maxLen:=by omega
   have dl:=Qq g2.1 g2.2;have c0:-9223372036854775808<=dy:=by omega
   have c1:dy<=9223372036854775807:=by omega
   have b1:(dg dy).length+[(32:UInt8)].length<=9223372036854775807:=by simp;omega
   have q5:(2:Nat)<=100:=by decide
   rcases (show ki=1\/ki=2\/ki=3\/ki=4 by omega) with rfl|rfl|rfl|rfl
   ·have hc0:Xi ⟨dy,1,co,to,am,go⟩=jnd (dg dy++[32]++[(116:UInt8),97,107,101]) [co,am]:=rfl
    rw [hc0] at hj hS;have e4:K.map ql++[[.v (.string ⟨⟨jnd (dg dy++[32]++[(116:UInt8),97,107,101]) [co,am]⟩⟩)]]=(xK l (q+1)).map ql:=by rw [hS,ae];rfl
    have b2:(dg dy++[32]).length+[(116:UInt8),97,107,101].length<=9223372036854775807:=by simp;omega
    have b5:(dg dy++[32]).length<=9223372036854775803:=by simp;omega
    have b3:(dg dy++[32]++[(116:UInt8),97,107,101]).length<=10000:=by simp;omega
    have b4:∀ n ∈ [co,am],0<=n/\n < 1000:=fun n hn=>by simp at hn;rcases hn with rfl|rfl <;> omega
    repeat' first|(apply nx;with_reducible constructor)|apply uq (by decide)|((first|apply uz env|apply uk);intro Q hQ;simp only [vkt,seval,wu,zW,aS,qa,WQ,ql,WC,Za,yZ,d1,e9,hx,hm,e4,b3,q5,du,dw,Ux,ite_and];(repeat' first|with_reducible assumption|apply vj|intro hp);all_goals first|(apply hQ;clear hQ Q)|(apply ux;kernel_rfl)|omega|assumption|with_reducible rfl|skip)
    refine ⟨⟨q+1,hlt⟩,by show l.entries.length - (q+1) < l.entries.length - q;omega, ?_⟩
    (refine Le.ok (fun i=>if i=1 then some 5 else some i) [] ?_;constructor;all_goals (try simp only [vle,vkt,seval,zW]))
    all_goals first|rfl|(simp;done)|(intro i hi;rw [if_neg (by omega)];done)
   ·have hc0:Xi ⟨dy,2,co,to,am,go⟩=jnd (dg dy++[32]++[(112:UInt8),97,121]) [co,am]:=rfl
    rw [hc0] at hj hS;have e4:K.map ql++[[.v (.string ⟨⟨jnd (dg dy++[32]++[(112:UInt8),97,121]) [co,am]⟩⟩)]]=(xK l (q+1)).map ql:=by rw [hS,ae];rfl
    have b2:(dg dy++[32]).length+[(112:UInt8),97,121].length<=9223372036854775807:=by simp;omega
    have b5:(dg dy++[32]).length<=9223372036854775804:=by simp;omega
    have b3:(dg dy++[32]++[(112:UInt8),97,121]).length<=10000:=by simp;omega
    have b4:∀ n ∈ [co,am],0<=n/\n < 1000:=fun n hn=>by simp at hn;rcases hn with rfl|rfl <;> omega
    repeat' first|(apply nx;with_reducible constructor)|apply uq (by decide)|((first|apply uz env|apply uk);intro Q hQ;simp only [vkt,seval,wu,zW,aS,qa,WQ,ql,WC,Za,yZ,d1,e9,hx,hm,e4,b3,q5,du,dw,Ux,ite_and];(repeat' first|with_reducible assumption|apply vj|intro hp);all_goals first|(apply hQ;clear hQ Q)|(apply ux;kernel_rfl)|omega|assumption|with_reducible rfl|skip)
    refine ⟨⟨q+1,hlt⟩,by show l.entries.length - (q+1) < l.entries.length - q;omega, ?_⟩
    (refine Le.ok (fun i=>if i=1 then some 5 else some i) [] ?_;constructor;all_goals (try simp only [vle,vkt,seval,zW]))
    all_goals first|rfl|(simp;done)|(intro i hi;rw [if_neg (by omega)];done)
   ·have hc0:Xi ⟨dy,3,co,to,am,go⟩=jnd (jnd (dg dy++[32]++[(115:UInt8),119,97,112]) [co,am]) [to,go]:=rfl
    rw [hc0] at hj hS;have e4:K.map ql++[[.v (.string ⟨⟨jnd (jnd (dg dy++[32]++[(115:UInt8),119,97,112]) [co,am]) [to,go]⟩⟩)]]=(xK l (q+1)).map ql:=by rw [hS,ae];rfl
    have b2:(dg dy++[32]).length+[(115:UInt8),119,97,112].length<=9223372036854775807:=by simp;omega
    have b5:(dg dy++[32]).length<=9223372036854775803:=by simp;omega
    have b3:(dg dy++[32]++[(115:UInt8),119,97,112]).length<=10000:=by simp;omega
    have b4:∀ n ∈ [co,am],0<=n/\n < 1000:=fun n hn=>by simp at hn;rcases hn with rfl|rfl <;> omega
    obtain ⟨⟨t0,t1⟩,u0,u1⟩:=g5 rfl;have b6:∀ n ∈ [to,go],0<=n/\n < 1000:=fun n hn=>by simp at hn;rcases hn with rfl|rfl <;> omega
    have b7:(jnd (dg dy++[32]++[(115:UInt8),119,97,112]) [co,am]).length<=10000:=by have:=vC (dg dy++[32]++[(115:UInt8),119,97,112]) [co,am] b4;simp at this ⊢;omega
    repeat' first|(apply nx;with_reducible constructor)|apply uq (by decide)|((first|apply uz env|apply uk);intro Q hQ;simp only [vkt,seval,wu,zW,aS,qa,WQ,ql,WC,Za,yZ,d1,e9,hx,hm,e4,b3,q5,du,dw,Ux,b7,ite_and];(repeat' first|with_reducible assumption|apply vj|intro hp);all_goals first|(apply hQ;clear hQ Q)|(apply ux;kernel_rfl)|omega|assumption|with_reducible rfl|skip)
    refine ⟨⟨q+1,hlt⟩,by show l.entries.length - (q+1) < l.entries.length - q;omega, ?_⟩
    (refine Le.ok (fun i=>if i=1 then some 6 else some i) [] ?_;constructor;all_goals (try simp only [vle,vkt,seval,zW]))
    all_goals first|rfl|(simp;done)|(intro i hi;rw [if_neg (by omega)];done)
   ·have hc0:Xi ⟨dy,4,co,to,am,go⟩=jnd (dg dy++[32]++[(99:UInt8),111,117,110,116]) [co,am]:=rfl
    rw [hc0] at hj hS;have e4:K.map ql++[[.v (.string ⟨⟨jnd (dg dy++[32]++[(99:UInt8),111,117,110,116]) [co,am]⟩⟩)]]=(xK l (q+1)).map ql:=by rw [hS,ae];rfl
    have b2:(dg dy++[32]).length+[(99:UInt8),111,117,110,116].length<=9223372036854775807:=by simp;omega
    have b5:(dg dy++[32]).length<=9223372036854775802:=by simp;omega
    have b3:(dg dy++[32]++[(99:UInt8),111,117,110,116]).length<=10000:=by simp;omega
    have b4:∀ n ∈ [co,am],0<=n/\n < 1000:=fun n hn=>by simp at hn;rcases hn with rfl|rfl <;> omega
    repeat' first|(apply nx;with_reducible constructor)|apply uq (by decide)|((first|apply uz env|apply uk);intro Q hQ;simp only [vkt,seval,wu,zW,aS,qa,WQ,ql,WC,Za,yZ,d1,e9,hx,hm,e4,b3,q5,du,dw,Ux,ite_and];(repeat' first|with_reducible assumption|apply vj|intro hp);all_goals first|(apply hQ;clear hQ Q)|(apply ux;kernel_rfl)|omega|assumption|with_reducible rfl|skip)
    refine ⟨⟨q+1,hlt⟩,by show l.entries.length - (q+1) < l.entries.length - q;omega, ?_⟩
    (refine Le.ok (fun i=>if i=1 then some 5 else some i) [] ?_;constructor;all_goals (try simp only [vle,vkt,seval,zW]))
    all_goals first|rfl|(simp;done)|(intro i hi;rw [if_neg (by omega)];done)
  ·have d1:decide ((q:Int) < (l.entries.length:Int))=false:=decide_eq_false (by omega)
   obtain rfl:q=l.entries.length:=by omega
   have hl:=YJ l (ag _);obtain ⟨K,hK⟩:∃ K,xK l l.entries.length=K:=⟨_,rfl⟩
   rw [hK] at hl hjl;simp only [wr3,hK]
   have hm:K.length+1<=maxLen:=by omega
   have e4:K.map ql++[[.v (.string ⟨⟨[98,97,108,97,110,99,101]⟩⟩)]]=(K++[[98,97,108,97,110,99,101]]).map ql:=by rw [ae];rfl
   have e5:(K++[[98,97,108,97,110,99,101]]).length<=100000:=by rw [au,hl];simp;omega
   have e6:(Lib.join (K++[[98,97,108,97,110,99,101]]) [10]).length<=140737488355328:=by omega
   have e7:(Lib.join (K++[[98,97,108,97,110,99,101]]) [10]).length+1<=9223372036854775807:=by omega
   repeat' first|(apply nx;with_reducible constructor)|apply uq (by decide)|((first|apply uz env|apply uk);intro Q hQ;simp only [vkt,seval,wu,zW,aS,WQ,QgI,d1,hm,e4,wO,e7,ite_and];(repeat' first|with_reducible assumption|apply vj|intro hp);all_goals first|(apply hQ;clear hQ Q)|(apply ux;kernel_rfl)|omega|assumption|with_reducible rfl|skip)
   (simp only [vrt,results20,vkt,seval,zW,aS];refine Fin.val rfl ?_;(try simp only [AV.le,AV.leL]))
   all_goals first|rfl|simp
 ·have hE:ym l=([],e):=by unfold ym;rw [if_neg (by rw [he];exact h0),he]
  rw [hE];have d0:decide (e=0)=false:=decide_eq_false h0
  repeat' first|(apply nx;with_reducible constructor)|apply uq (by decide)|((first|apply uz env|apply uk);intro Q hQ;simp only [vkt,seval,wu,zW,s50,ec,he,hf,d0,ite_and];(repeat' first|with_reducible assumption|apply vj|intro hp);all_goals first|(apply hQ;clear hQ Q)|(apply ux;kernel_rfl)|omega|assumption|with_reducible rfl|skip)
  (simp only [vrt,results20,vkt,seval,zW,aS];refine Fin.val rfl ?_;(try simp only [AV.le,AV.leL]))
  all_goals first|rfl|simp
def QcB:List AV->Prop × AV
 |[.agg [.sl cs,.sl rs,.sl ss,.sl es]]=>(isL cs rs ss es/\Fit (zR cs rs ss es),.tup [aS (ym (zR cs rs ss es)).1,aI (ym (zR cs rs ss es)).2])
 |_=>(False,.junk)
def Qk9:qf (zZ JX) prog 20 (zq true QcB):=xN fun vs hv h=>by
 clear hv;unfold QcB at h ⊢
 split at h
 ·refine ⟨by simp [AV.plain,AV.plainL,aI,aS],fun _=>by simp [AV.flat,AV.flatL,aI,aS], ?_⟩
  rw [<- jA h.1];exact QfS _ h.2
 ·exact h.elim
end Go.Sym.B
namespace Go.Sym.B
open Go Go.Sym Go.Proofs Go.Proofs.Tryz Go.Sym.C Go.RowKit
structure TabC (w:World):Prop where
 pow:JX w
 max:∃ m,w.cell? ⟨1,0,none⟩=some (.int .i64 m)
 syn:∃ te pe,w.cell? ⟨6,0,none⟩=some (.iface te pe)
 rng:∃ te pe,w.cell? ⟨7,0,none⟩=some (.iface te pe)
def wZ (s:List UInt8):Option Int:=match Lib.atoiAll s with
 |.ok v=>if v < 0\/3 < s.length\/Lib.itoa v ≠ s then none else some v
 |_=>none
def refusal:List PanicEntry:=[{ v:=.iface 217 (.agg #[]),recovered:=false }]
def Yb (s:List UInt8):Ending:=match wZ s with
 |some n=>.returned (.int .i64 n)
 |none=>.panicked refusal
def Qdg {s:List UInt8} {v:Int} (h:Lib.atoiAll s=.ok v):-9223372036854775808<=v/\v<=9223372036854775807:=by
 unfold Lib.atoiAll at h;split at h
 ·cases h
 ·dsimp only at h
  split at h
  ·cases h
  ·cases h
  ·split at h
   ·cases h
   ·split at h
    ·cases h
    ·injection h with h
     split at h <;> omega
def YF (s:List UInt8) (hl:s.length<=100000) (w:World) (hT:TabC w):Calls prog 206 #[.string ⟨⟨s⟩⟩] w fun e w'=>e=Yb s/\Below w.heap.size w w':=by
 obtain ⟨⟨te0,pe0,hsyn⟩,⟨te1,pe1,hrng⟩⟩:=eg hT.syn hT.rng;cases h:Lib.atoiAll s with
 |ok v =>
  go_enter func206,ntmps206
  go_wp2_with (go_at_call 199;refine (Tryz.strconv_Atoi_ok ⟨⟨s⟩⟩ (by show s.length<=_;omega) v h _).mono ?_;rintro e w' ⟨rfl,hw⟩)
  all_goals
   have hw:Below w.heap.size w w':=by
    rcases hw with rfl|⟨t,rfl⟩
    ·exact Below.refl _ _
    ·exact Lib.bytesWorld_below _ _ _
  ·have htab:=Lib.tabBelow_of_tabIs hT.pow w' hw
   refine (Tryz.strconv_Itoa v (Qdg h).1 (Qdg h).2 w' htab).mono ?_
   rintro e w2 ⟨rfl,k,os,rfl⟩;have hw2:=hw.trans (Lib.below_grow (B:=w.heap.size) w' hw.size k os)
   go_wp2
   ·rename_i hne _ _
    have hne:Lib.itoa v ≠ s:=by rcases hne with (h1|h1)|h1 <;> first|omega|simpa using h1
    have e:Yb s=.panicked refusal:=by simp only [Yb,wZ,h];rw [if_pos (.inr (.inr hne))]
    exact ⟨rfl,e.symm,hw2⟩
   ·rename_i h0 h3 hne
    have e:Yb s=.returned (.int .i64 v):=by
     simp only [Yb,wZ,h];have h4:Lib.itoa v=s:=by simpa using hne.2
     rw [if_neg (by rintro (h1|h1|h1) <;> first|omega|exact h1 h4)]
    go_ret
    exact ⟨e.symm,hw2⟩
  ·have e:Yb s=.panicked refusal:=by simp only [Yb,wZ,h];rw [if_pos (.inr (.inl (by omega)))]
   exact ⟨rfl,e.symm,hw⟩
  ·have e:Yb s=.panicked refusal:=by simp only [Yb,wZ,h];rw [if_pos (.inl (by omega))]
   exact ⟨rfl,e.symm,hw⟩
 |range =>
  have e:Yb s=.panicked refusal:=by simp only [Yb,wZ,h]
  go_enter func206,ntmps206
  go_wp2_with (go_at_call 199;refine (Tryz.strconv_Atoi_range ⟨⟨s⟩⟩ (by show s.length<=_;omega) h _ _ hrng (.inr ⟨_,_,rfl⟩)).mono ?_;rintro _ W1 ⟨N,rfl,-,-,hb⟩)
  exact ⟨rfl,e.symm,hb⟩
 |_ =>
  have e:Yb s=.panicked refusal:=by simp only [Yb,wZ,h]
  go_enter func206,ntmps206
  go_wp2_with (go_at_call 199;refine (Tryz.strconv_Atoi_syntax ⟨⟨s⟩⟩ (by show s.length<=_;omega) h _ _ hsyn (.inr ⟨_,_,rfl⟩)).mono ?_)
  rintro _ W1 ⟨N,rfl,-,-,hb⟩
  go_wp2
  exact ⟨rfl,e.symm,hb⟩
def JI {w:World} {ok:Nat->Prop} {ρ:Nat->Value} {y:Value} {s:List UInt8} {v:Value} (h:ARel w ok ρ y (aS s) v):v=.string ⟨⟨s⟩⟩:=by
 unfold aS at h;cases h;rfl
def QdC {vs:Array Value} (hs:vs.size=1):∃ v,vs=#[v]:=by
 match vs,hs with
 |⟨[v]⟩,_=>exact ⟨v,rfl⟩
def Lr {vs:Array Value} (hs:vs.size=2):∃ v u,vs=#[v,u]:=by
 match vs,hs with
 |⟨[v,u]⟩,_=>exact ⟨v,u,rfl⟩
def Qe4 (s:List UInt8) (h:(wZ s).isSome=true) (hl:s.length<=100000):Fn (jS TabC) prog 206 [aS s] noH (aI ((wZ s).getD 0)) noH 0:=FnG.of_callsT (fun vs w=>by kernel_rfl) fun w ok ρ y vs hT _ hs ha=>by
 obtain ⟨v,rfl⟩:=QdC hs;obtain rfl:=JI (ha 0 _ rfl)
 refine ja (YF s hl w hT) fun e w' ⟨he,hw⟩=>?_
 obtain ⟨n,hn⟩:=cD.1 h;exact ⟨.int .i64 n,by rw [he,Yb,hn],hw,fun _ _ _=>by rw [hn];exact .v rfl⟩
def QfX (s:List UInt8) (h:wZ s=none) (hl:s.length<=100000):FnX refusal (jS TabC) prog 206 [aS s] noH noH:=FnX.of_callsT (fun vs w=>by kernel_rfl) fun w ok ρ y vs hT _ hs ha=>by
 obtain ⟨v,rfl⟩:=QdC hs;obtain rfl:=JI (ha 0 _ rfl)
 refine ja (YF s hl w hT) fun e w' ⟨he,hw⟩=>⟨by rw [he,Yb,h],hw⟩
def xk:List AV->Prop
 |[.v (.string ⟨⟨s⟩⟩)]=>wZ s=none/\s.length<=100000
 |_=>False
def VL:XOK (zZ TabC) prog 206 (Ym refusal xk):=VO fun l h=>by
 unfold xk at h;split at h
 ·exact QfX _ h.1 h.2
 ·exact h.elim
def QkS (s sep:List UInt8) (hl:s.length<=100000):Fn (jS TabC) prog 207 [aS s,aS sep] noH (.tup [aS (Lib.cut s sep).1,aS (Lib.cut s sep).2.1,aB (Lib.cut s sep).2.2]) noH 0:=FnG.of_callsT (fun vs w=>by kernel_rfl) fun w ok ρ y vs hT _ hs ha=>by
 obtain ⟨v,u,rfl⟩:=Lr hs;obtain rfl:=JI (ha 0 _ rfl)
 obtain rfl:=JI (ha 1 _ rfl);obtain ⟨m,hm⟩:=hT.max
 refine ja (Tryz.strings_Cut ⟨⟨s⟩⟩ ⟨⟨sep⟩⟩ m w (by show s.length < _;omega) hm) fun e w' ⟨he,n,hw⟩=>?_
 refine ⟨_,he, ?_,fun ok' _ _=>.tup rfl fun i c hc=>?_⟩
 ·rw [hw];exact ⟨rfl,rfl,rfl,ag _,fun _ _=>rfl⟩
 ·match i,hc with
  |0,hc=>simp only [aK,al] at hc;subst hc;exact .v rfl
  |1,hc=>simp only [bv,aK,al] at hc;subst hc;exact .v rfl
  |2,hc=>simp only [bv,aK,al] at hc;subst hc;exact .v rfl
  |i+3,hc=>simp at hc
def Qdr (s sep:List UInt8):(Lib.cut s sep).1.length<=s.length/\(Lib.cut s sep).2.1.length<=s.length:=by
 unfold Lib.cut;split <;> constructor <;> simp <;> omega
def zx:List AV->Prop × AV
 |[.v (.string ⟨⟨s⟩⟩)]=>((wZ s).isSome=true/\s.length<=100000,aI ((wZ s).getD 0))
 |_=>(False,.junk)
def JH:qf (zZ TabC) prog 206 (zq true zx):=xN fun vs hv h=>by
 clear hv;unfold zx at h ⊢
 split at h
 ·rename_i s;obtain ⟨k0,k1⟩:=h
  refine ⟨by first|trivial|(repeat' split) <;> simp [AV.plain,AV.plainL,aI,aB,qi,aBunks,aTks,aBunk,aTk,cTk],fun _=>(by simp [AV.flat,aI]), ?_⟩
  have:=Qe4 s k0 k1;simp only [aS] at this
  first|exact this|(simp only [aS];exact this)
 ·exact h.elim
def JW:List AV->Prop × AV
 |[.v (.string ⟨⟨s⟩⟩),.v (.string ⟨⟨t⟩⟩)]=>(s.length<=100000,.tup [aS (Lib.cut s t).1,aS (Lib.cut s t).2.1,aB (Lib.cut s t).2.2])
 |_=>(False,.junk)
def ecut:qf (zZ TabC) prog 207 (zq true JW):=xN fun vs hv h=>by
 clear hv;unfold JW at h ⊢
 split at h
 ·rename_i s t;have k0:s.length<=100000:=h;clear h
  refine ⟨by first|trivial|(repeat' split) <;> simp [AV.plain,AV.plainL,aI,aB,qi,aBunks,aTks,aBunk,aTk,cTk,aS,qa],fun _=>(by simp [AV.flat,AV.flatL,aB,aS]), ?_⟩
  have:=QkS s t k0;simp only [aS] at this
  first|exact this|(simp only [aS];exact this)
 ·exact h.elim
def spS (s sep:List UInt8):List (List UInt8):=(Lib.splitB ⟨⟨sep⟩⟩ 0 (Lib.countB ⟨⟨s⟩⟩ ⟨⟨sep⟩⟩) ⟨⟨s⟩⟩).map (·.data.toList)
def QdS {s sep:List UInt8} (h1:1<=sep.length):(spS s sep).length=Lib.countB ⟨⟨s⟩⟩ ⟨⟨sep⟩⟩+1:=by
 unfold spS;rw [ab,Lib.splitB_all ⟨⟨sep⟩⟩ h1 0 _ _ rfl]
def jv {s sep:List UInt8} (h1:1<=sep.length):0 < (spS s sep).length/\(spS s sep).length<=s.length+1:=by
 have:=Lib.countB_le ⟨⟨sep⟩⟩ h1 s.length ⟨⟨s⟩⟩ (ag _);have e:(⟨⟨s⟩⟩:ByteArray).size=s.length:=rfl
 rw [e] at this;rw [QdS h1];omega
def Qln (s sep:List UInt8) (hl:s.length<=100000) (h1:1<=sep.length):Fn (jS TabC) prog 96 [aS s,aS sep] noH (qa (spS s sep)) noH 0:=FnG.of_callsT (fun vs w=>by kernel_rfl) fun w ok ρ y vs hT _ hs ha=>by
 obtain ⟨v,u,rfl⟩:=Lr hs;obtain rfl:=JI (ha 0 _ rfl)
 obtain rfl:=JI (ha 1 _ rfl);obtain ⟨m,hm⟩:=hT.max
 refine ja (Tryz.strings_Split ⟨⟨s⟩⟩ ⟨⟨sep⟩⟩ m w (by show s.length < _;omega) hm h1) fun e w' ⟨he,hw⟩=>?_
 have hle:=jv (s:=s) h1;have hmx:(100001:Nat)<=maxLen:=by decide
 have hc:(Lib.splitB ⟨⟨sep⟩⟩ 0 (Lib.countB ⟨⟨s⟩⟩ ⟨⟨sep⟩⟩) ⟨⟨s⟩⟩).map Value.string=(spS s sep).map fun s=>Value.string ⟨⟨s⟩⟩:=by
  unfold spS;rw [bQ]
  rfl
 rw [hc] at hw;rw [<- QdS h1] at he
 refine ⟨_,he, ?_,fun ok' _ hfr=>QgH hw hle.1 (by omega) (hfr _ (ag _) (by rw [hw];exact Nat.lt_of_lt_of_eq (Nat.lt_succ_self _) (Array.size_push (xs:=w.heap) _).symm))⟩
 rw [hw];exact (Below.refl _ w).alloc (ag _) _
def zP:List AV->Prop × AV
 |[.v (.string ⟨⟨s⟩⟩),.v (.string ⟨⟨t⟩⟩)]=>(s.length<=100000/\1<=t.length,qa (spS s t))
 |_=>(False,.junk)
def QY:qf (zZ TabC) prog 96 (zq false zP):=xN fun vs hv h=>by
 clear hv;unfold zP at h ⊢
 split at h
 ·rename_i s t;obtain ⟨k0,k1⟩:=h
  refine ⟨by first|trivial|(repeat' split) <;> simp [AV.plain,AV.plainL,aI,aB,qi,aBunks,aTks,aBunk,aTk,cTk,aS,qa],fun h=>absurd h (by decide), ?_⟩
  have:=Qln s t k0 k1;simp only [aS] at this
  first|exact this|(simp only [aS];exact this)
 ·exact h.elim
def Jg (sep:List UInt8):∀ (k:Nat) (s:List UInt8),∀ w ∈ Lib.splitK sep 0 k s,w.length<=s.length
 |0,s,w,h=>by
  simp only [Lib.splitK,aZ] at h;rw [h];exact ag _
 |k+1,s,w,h=>by
  unfold Lib.splitK at h;split at h
  ·simp only [aZ] at h
   rw [h];exact ag _
  ·rcases ai.1 h with h|h
   ·rw [h,aR];omega
   ·have:=Jg sep k _ w h
    rw [aM] at this;omega
def QcE (s sep:List UInt8):spS s sep=Lib.splitK sep 0 (Lib.countB ⟨⟨s⟩⟩ ⟨⟨sep⟩⟩) s:=Lib.splitB_data _ _ _ _
def vZ {s sep:List UInt8} (hs:s.length<=100000):∀ w ∈ spS s sep,w.length<=100000:=fun w hw=>by
 rw [QcE] at hw;exact bi (Jg sep _ s w hw) hs
def Rh {s sep:List UInt8}:∀ w ∈ spS s sep,w.length<=s.length:=fun w hw=>by
 rw [QcE] at hw;exact Jg sep _ s w hw
def yY (l:List (List UInt8)):Prop:=∀ w ∈ l,w.length<=100000
def qO:List (List UInt8)->Option (List Int)
 |[]=>some []
 |s :: r=>match wZ s,qO r with
  |some v,some l=>some (v :: l)
  |_,_=>none
def QF:∀ (a b:List (List UInt8)),qO (a++b)=match qO a,qO b with
  |some x,some y=>some (x++y)
  |_,_=>none
 |[],b=>by rw [bq];simp only [qO];cases qO b <;> rfl
 |s :: a,b=>by
  rw [dA,qO,qO,QF a b];cases wZ s <;> cases qO a <;> cases qO b <;> rfl
def vO:∀ (l:List (List UInt8)) {r:List Int},qO l=some r->r.length=l.length
 |[],r,h=>by cases h;rfl
 |s :: l,r,h=>by
  rw [qO] at h;split at h
  ·rename_i v q h1 h2
   cases h;rw [bj,bj,vO l h2]
  ·cases h
def ZV (l:List (List UInt8)) (k:Nat) (d:List DV) (h:k < l.length):(l.map ql).getD k d=ql (l.getD k []):=by
 simp [ah,h]
def ZM (l:List (List UInt8)) {k:Nat} (h:k < l.length):l.take (k+1)=l.take k++[l.getD k []]:=by
 rw [bT,ak h]
 simp [ah,h]
def yY.at {l:List (List UInt8)} (hl:yY l) {k:Nat} (h:k < l.length):(l.getD k []).length<=100000:=by
 rw [show l.getD k []=l[k] by simp [ah,h]]
 exact hl _ (bF _)
def nmS (L:List (List UInt8)) (k:Nat) (a:List Int):St:={ t:=asg [(2,.sl []),(6,qa L),(7,aI L.length),(8,aI k),(3,.row 0)],h:=qg [(0,.row 3 1 (a.map qj))],n:=1 }
def wY:=vj @ty3 (vj @ty9 (vj @jh (vj @JR (vj @ti3.eq_1 (vj @ti9.eq_1 (vj @jc.eq_1 @Wj.eq_1))))))
def Zf:=vj @aI.eq_1 (vj @aB.eq_1 (vj @qi.eq_1 (vj @qj.eq_1 (@ZJ))))
def Qih (l:List (List UInt8)) (hl:yY l) (hn:l.length<=1000) (h:(qO l).isSome=true):Fn (jS TabC) prog 167 [qa l] noH (qi ((qO l).getD [])) noH 0:=by
 have env:=qx (A:=zZ TabC) (kC JH kN);refine kT (Fn0 func167 rfl (fun vs w=>by kernel_rfl) (by kernel_rfl)) (by simp) (by simp [AV.ids,qa]) ?_
 have hmx:(100000:Nat)<=maxLen:=by decide
 repeat' first|(apply nx;with_reducible constructor)|apply uq (by decide)|refine vx ?_|refine vz ?_|(refine uw env 2 rfl rfl rfl (fun Q hQ=>?_);simp only [vkt,seval,wY,Zf,aS,ql,wO,qa,zx,xk,nmS,ab,ab];(try simp only [ite_and]);(repeat' first|with_reducible assumption|apply vj);all_goals (first|(refine ⟨_,_,rfl,hQ _ _ ?_⟩;clear hQ Q)|(apply ux;kernel_rfl)|omega|assumption|with_reducible rfl|skip))|((first|apply uz env|apply uk);intro Q hQ;simp only [vkt,seval,wY,qa,ite_and];(repeat' first|with_reducible assumption|apply vj|intro hp);all_goals first|(apply hQ;clear hQ Q)|(apply ux;kernel_rfl)|omega|assumption|with_reducible rfl|skip)
 refine qh (fun s:{ p:Nat × List Int // p.1<=l.length/\qO (l.take p.1)=some p.2 }=>nmS l s.1.1 s.1.2) (fun s=>l.length - s.1.1) ⟨(0,[]),af _,rfl⟩ ?_ fun ⟨⟨k,a⟩,hk,hg⟩=>?_
 ·simp only [nmS]
  (refine Le.ok (fun i=>if i=0 then none else some i) [] ?_;constructor;all_goals (try simp only [vle,vkt,seval,Zf,qa]))
  all_goals first|rfl|(simp;done)|exact ⟨rfl,trivial⟩|(intro i hi;rw [if_neg (by omega)];done)
 simp only at hk hg ⊢;have hal:=vO _ hg
 rw [aR] at hal;have ha1:a.length+1<=maxLen:=by omega
 have ha2:a.length<=1000:=by omega
 by_cases hlt:k < l.length
 ·have d1:decide ((k:Int) < (l.length:Int))=true:=decide_eq_true (by omega)
  have e9:=k9 k (by omega)
  have hx:∀ d,(l.map ql).getD k d=[.v (.string ⟨⟨l.getD k []⟩⟩)]:=fun d=>ZV l k d hlt
  have hs:=hl.at hlt;have hS:=ZM l hlt
  have hd:l=l.take k++l.getD k [] :: l.drop (k+1):=by
   have h1:=cF (k+1) l;rw [hS] at h1
   simpa using h1.symm
  have hsm:(wZ (l.getD k [])).isSome=true:=by
   rw [hd,QF,hg,qO] at h;cases hn:wZ (l.getD k []) with
   |some v=>rfl
   |none=>rw [hn] at h;cases h
  generalize l.getD k []=s at hx hs hS hsm;have hnew:qO (l.take (k+1))=some (a++[(wZ s).getD 0]):=by
   rw [hS,QF,hg,qO];obtain ⟨v,hv⟩:=cD.1 hsm
   rw [hv];rfl
  obtain ⟨v,hv⟩:∃ v,(wZ s).getD 0=v:=⟨_,rfl⟩;rw [hv] at hnew
  have e4:a.map qj++[[.v (.int .i64 v)]]=(a++[v]).map qj:=by rw [ae];rfl
  simp only [nmS]
  repeat' first|(apply nx;with_reducible constructor)|apply uq (by decide)|refine vx ?_|refine vz ?_|(refine uw env 2 rfl rfl rfl (fun Q hQ=>?_);simp only [vkt,seval,wY,Zf,aS,ql,wO,qa,zx,xk,nmS,ab,d1,e9,hx,hs,hsm,hv,hlt,ha1,e4];(try simp only [ite_and]);(repeat' first|with_reducible assumption|apply vj);all_goals (first|(refine ⟨_,_,rfl,hQ _ _ ?_⟩;clear hQ Q)|(apply ux;kernel_rfl)|omega|assumption|with_reducible rfl|skip))|((first|apply uz env|apply uk);intro Q hQ;simp only [vkt,seval,wY,Zf,qa,zx,d1,e9,hx,hs,hsm,hv,hlt,ha1,e4,ite_and];(repeat' first|with_reducible assumption|apply vj|intro hp);all_goals first|(apply hQ;clear hQ Q)|(apply ux;kernel_rfl)|omega|assumption|with_reducible rfl|skip)
  refine ⟨⟨(k+1,a++[v]),hlt,hnew⟩,by show l.length - (k+1) < l.length - k;omega, ?_⟩
  (refine Le.ok (fun i=>if i=0 then some 2 else some i) [] ?_;constructor;all_goals (try simp only [vle,vkt,seval,Zf,qa]))
  all_goals first|rfl|(simp;done)|(intro i hi;rw [if_neg (by omega)];done)
 ·have d1:decide ((k:Int) < (l.length:Int))=false:=decide_eq_false (by omega)
  obtain rfl:k=l.length:=by omega
  rw [bt] at hg;rw [hg]
  simp only [nmS,cL]
  repeat' first|(apply nx;with_reducible constructor)|apply uq (by decide)|refine vx ?_|refine vz ?_|(refine uw env 2 rfl rfl rfl (fun Q hQ=>?_);simp only [vkt,seval,wY,Zf,aS,ql,wO,qa,zx,xk,nmS,ab,d1];(try simp only [ite_and]);(repeat' first|with_reducible assumption|apply vj);all_goals (first|(refine ⟨_,_,rfl,hQ _ _ ?_⟩;clear hQ Q)|(apply ux;kernel_rfl)|omega|assumption|with_reducible rfl|skip))|((first|apply uz env|apply uk);intro Q hQ;simp only [vkt,seval,wY,Zf,qa,d1,ite_and];(repeat' first|with_reducible assumption|apply vj|intro hp);all_goals first|(apply hQ;clear hQ Q)|(apply ux;kernel_rfl)|omega|assumption|with_reducible rfl|skip)
  (simp only [vrt,results167,vkt,seval,Zf];refine Fin.val rfl ?_;(try simp only [AV.le]))
  all_goals first|rfl|exact ⟨_,_,rfl⟩|(simp;done)
def Wm:=vj @aI.eq_1 (vj @aB.eq_1 (vj @qi.eq_1 (vj @qj.eq_1 (@ZJ))))
def QlT (l:List (List UInt8)) (hl:yY l) (hn:l.length<=1000) (h:qO l=none):FnX refusal (jS TabC) prog 167 [qa l] noH noH:=by
 have env:=qx (A:=zZ TabC) (kC JH kN);refine FnX.of (A:=zZ TabC) (n0:=0) (Fn0 func167 rfl (fun vs w=>by kernel_rfl) (by kernel_rfl)) (by simp) (by simp [AV.ids,qa]) (fun i o h=>by cases h) (fun _ hB _ _=>hB) ?_
 have hmx:(100000:Nat)<=maxLen:=by decide
 repeat' first|(apply nx;with_reducible constructor)|apply uq (by decide)|refine vx ?_|refine vz ?_|(refine uw env 2 rfl rfl rfl (fun Q hQ=>?_);simp only [vkt,seval,wY,Wm,aS,ql,wO,qa,zx,xk,nmS,ab,ab];(try simp only [ite_and]);(repeat' first|with_reducible assumption|apply vj);all_goals (first|(refine ⟨_,_,rfl,hQ _ _ ?_⟩;clear hQ Q)|(apply ux;kernel_rfl)|omega|assumption|with_reducible rfl|skip))|((first|apply uz env|apply uk);intro Q hQ;simp only [vkt,seval,wY,qa,ite_and];(repeat' first|with_reducible assumption|apply vj|intro hp);all_goals first|(apply hQ;clear hQ Q)|(apply ux;kernel_rfl)|omega|assumption|with_reducible rfl|skip)
 refine qh (fun s:{ p:Nat × List Int // p.1<=l.length/\qO (l.take p.1)=some p.2 }=>nmS l s.1.1 s.1.2) (fun s=>l.length - s.1.1) ⟨(0,[]),af _,rfl⟩ ?_ fun ⟨⟨k,a⟩,hk,hg⟩=>?_
 ·simp only [nmS]
  (refine Le.ok (fun i=>if i=0 then none else some i) [] ?_;constructor;all_goals (try simp only [vle,vkt,seval,Wm,qa]))
  all_goals first|rfl|(simp;done)|exact ⟨rfl,trivial⟩|(intro i hi;rw [if_neg (by omega)];done)
 simp only at hk hg ⊢;have hal:=vO _ hg
 rw [aR] at hal;have ha1:a.length+1<=maxLen:=by omega
 have ha2:a.length<=1000:=by omega
 have hlt:k < l.length:=by
  by_cases hlt:k < l.length
  ·exact hlt
  ·obtain rfl:k=l.length:=by omega
   rw [bt,h] at hg;cases hg
 have d1:decide ((k:Int) < (l.length:Int))=true:=decide_eq_true (by omega)
 have e9:=k9 k (by omega)
 have hx:∀ d,(l.map ql).getD k d=[.v (.string ⟨⟨l.getD k []⟩⟩)]:=fun d=>ZV l k d hlt
 have hs:=hl.at hlt;have hS:=ZM l hlt
 generalize l.getD k []=s at hx hs hS;simp only [nmS]
 cases hp:wZ s with
 |none =>
  repeat' first|(apply nx;with_reducible constructor)|apply uq (by decide)|refine vx ?_|refine vz ?_|(refine uw env 2 rfl rfl rfl (fun Q hQ=>?_);simp only [vkt,seval,wY,Wm,aS,ql,wO,qa,zx,xk,nmS,ab, d1,e9,hx,hs,hp,hlt,ha1];(try simp only [ite_and]);(repeat' first|with_reducible assumption|apply vj);all_goals (first|(refine ⟨_,_,rfl,hQ _ _ ?_⟩;clear hQ Q)|(apply ux;kernel_rfl)|omega|assumption|with_reducible rfl|skip))|(refine uv env VL 2 rfl rfl (fun Q hQ=>?_);simp only [Zc,Ym,vkt,seval,wY,xk,hx,hs,hp,hlt];(try simp only [ite_and]);(repeat' first|with_reducible assumption|apply vj|intro hp);all_goals (first|(refine hQ _ _ _ ?_;clear hQ Q)|(apply ux;kernel_rfl)|omega|assumption|(with_reducible rfl)))|((first|apply uz env|apply uk);intro Q hQ;simp only [vkt,seval,wY,Wm,qa,d1,hx,hlt,ite_and];(repeat' first|with_reducible assumption|apply vj|intro hp);all_goals first|(apply hQ;clear hQ Q)|(apply ux;kernel_rfl)|omega|assumption|with_reducible rfl|skip)
  exact ⟨rfl,rfl,Fin.val rfl (by simp only [AV.le])⟩
 |some v =>
  have hsm:(wZ s).isSome=true:=by rw [hp];rfl
  have hv:(wZ s).getD 0=v:=by rw [hp];rfl
  have hnew:qO (l.take (k+1))=some (a++[v]):=by
   rw [hS,QF,hg,qO,hp];rfl
  have e4:a.map qj++[[.v (.int .i64 v)]]=(a++[v]).map qj:=by rw [ae];rfl
  repeat' first|(apply nx;with_reducible constructor)|apply uq (by decide)|refine vx ?_|refine vz ?_|(refine uw env 2 rfl rfl rfl (fun Q hQ=>?_);simp only [vkt,seval,wY,Wm,aS,ql,wO,qa,zx,xk,nmS,ab,d1,e9,hx,hs,hsm,hv,hlt,ha1,e4];(try simp only [ite_and]);(repeat' first|with_reducible assumption|apply vj);all_goals (first|(refine ⟨_,_,rfl,hQ _ _ ?_⟩;clear hQ Q)|(apply ux;kernel_rfl)|omega|assumption|with_reducible rfl|skip))|((first|apply uz env|apply uk);intro Q hQ;simp only [vkt,seval,wY,Wm,qa,zx,d1,e9,hx,hs,hsm,hv,hlt,ha1,e4,ite_and];(repeat' first|with_reducible assumption|apply vj|intro hp);all_goals first|(apply hQ;clear hQ Q)|(apply ux;kernel_rfl)|omega|assumption|with_reducible rfl|skip)
  refine ⟨⟨(k+1,a++[v]),hlt,hnew⟩,by show l.length - (k+1) < l.length - k;omega, ?_⟩
  (refine Le.ok (fun i=>if i=0 then some 2 else some i) [] ?_;constructor;all_goals (try simp only [vle,vkt,seval,Wm,qa]))
  all_goals first|rfl|(simp;done)|(intro i hi;rw [if_neg (by omega)];done)
def yn:List AV->Prop × AV
 |[.sl l]=>(l=(l.map yF).map ql/\yY (l.map yF)/\(l.map yF).length<=1000/\(qO (l.map yF)).isSome=true,qi ((qO (l.map yF)).getD []))
 |_=>(False,.junk)
def WG:qf (zZ TabC) prog 167 (zq false yn):=xN fun vs hv h=>by
 clear hv;unfold yn at h ⊢
 split at h
 ·rename_i l;obtain ⟨q0,k0,k1,k2⟩:=h
  refine ⟨by first|trivial|(repeat' split) <;> simp [AV.plain,AV.plainL,aI,aB,qi,aBunks,aTks,aBunk,aTk,cTk],fun h=>absurd h (by decide), ?_⟩
  have:=Qih (l.map yF) k0 k1 k2;simp only [qa,<- q0] at this
  first|exact this|(simp only [qa,<- q0];exact this)
 ·exact h.elim
def jV:List AV->Prop
 |[.sl xs]=>∃ l:List (List UInt8),xs=l.map ql/\qO l=none/\yY l/\l.length<=1000
 |_=>False
def Qhi:XOK (zZ TabC) prog 167 (Ym refusal jV):=VO fun l h=>by
 unfold jV at h;split at h
 ·obtain ⟨l,rfl,h1,h2,h3⟩:=h
  exact QlT l h2 h3 h1
 ·exact h.elim
def shP (s:List UInt8):Option Sh:=if (Lib.cut s [47]).2.2=true then match wZ (Lib.cut s [47]).1,wZ (Lib.cut s [47]).2.1 with
  |some a,some b=>some ⟨a,b⟩
  |_,_=>none
 else none
def jl:List (List UInt8)->Option (List Sh)
 |[]=>some []
 |s :: r=>match shP s,jl r with
  |some v,some l=>some (v :: l)
  |_,_=>none
def QE:∀ (a b:List (List UInt8)),jl (a++b)=match jl a,jl b with
  |some x,some y=>some (x++y)
  |_,_=>none
 |[],b=>by rw [bq];simp only [jl];cases jl b <;> rfl
 |s :: a,b=>by
  rw [dA,jl,jl,QE a b];cases shP s <;> cases jl a <;> cases jl b <;> rfl
def ZF:∀ (l:List (List UInt8)) {r:List Sh},jl l=some r->r.length=l.length
 |[],r,h=>by cases h;rfl
 |s :: l,r,h=>by
  rw [jl] at h;split at h
  ·rename_i v q h1 h2
   cases h;rw [bj,bj,ZF l h2]
  ·cases h
def YU (L:List (List UInt8)) (k:Nat) (b:List Sh):St:={ t:=asg [(2,.sl []),(11,qa L),(12,aI L.length),(13,aI k),(3,.row 0)],h:=qg [(0,.row 110 2 (b.map eSh))],n:=1 }
def QhI (l:List (List UInt8)) (p:Nat × List Sh):Prop:=p.1<=l.length/\∃ a,p.2=⟨1,1⟩ :: a/\jl (l.take p.1)=some a
def ZC (l:List (List UInt8)):AV:=.sl ((⟨1,1⟩ :: (jl l).getD []:List Sh).map eSh)
def zO:=vj @ty3 (vj @ty9 (vj @JR (vj @vQ (vj @Qg (vj @Lm (vj @ti3.eq_1 (vj @ti9.eq_1 (vj @Wj.eq_1 (vj @yP.eq_1 (vj @xD.eq_1 @Vy.eq_1))))))))))
def Wy:=vj @aI.eq_1 (vj @aB.eq_1 (vj @yx.eq_1 (vj @eSh.eq_1 (@rSh))))
def Qjq (l:List (List UInt8)) (hl:yY l) (hn:l.length<=1000) (h:(jl l).isSome=true):Fn (jS TabC) prog 168 [qa l] noH (ZC l) noH 0:=by
 have env:=qx (A:=zZ TabC) (kC JH (kC ecut kN));refine kT (Fn0 func168 rfl (fun vs w=>by kernel_rfl) (by kernel_rfl)) (by simp) (by simp [AV.ids,qa]) ?_
 have hmx:(100000:Nat)<=maxLen:=by decide
 unfold ZC
 repeat' first|(apply nx;with_reducible constructor)|apply uq (by decide)|refine vx ?_|refine vz ?_|(refine uw env 2 rfl rfl rfl (fun Q hQ=>?_);simp only [vkt,seval,zO,Wy,aS,ql,wO,qa,zx,JW,YU,ab,ab];(try simp only [ite_and]);(repeat' first|with_reducible assumption|apply vj);all_goals (first|(refine ⟨_,_,rfl,hQ _ _ ?_⟩;clear hQ Q)|(apply ux;kernel_rfl)|omega|assumption|with_reducible rfl|skip))|((first|apply uz env|apply uk);intro Q hQ;simp only [vkt,seval,zO,qa,ite_and];(repeat' first|with_reducible assumption|apply vj|intro hp);all_goals first|(apply hQ;clear hQ Q)|(apply ux;kernel_rfl)|omega|assumption|with_reducible rfl|skip)
 refine qh (fun s:{ p:Nat × List Sh // QhI l p }=>YU l s.1.1 s.1.2) (fun s=>l.length - s.1.1) ⟨(0,[⟨1,1⟩]),af _,[],rfl,rfl⟩ ?_ fun ⟨⟨k,b⟩,hk,a,hb,hg⟩=>?_
 ·simp only [YU]
  (refine Le.ok (fun i=>if i=0 then some 0 else some i) [] ?_;constructor;all_goals (try simp only [vle,vkt,seval,Wy,qa]))
  all_goals first|rfl|(simp;done)|exact ⟨rfl,trivial⟩|(intro i hi;rw [if_neg (by omega)];done)
 simp only at hk hb hg ⊢;have hal:=ZF _ hg
 rw [aR] at hal;have hbl:b.length=a.length+1:=by rw [hb];rfl
 have ha1:b.length+1<=maxLen:=by omega
 by_cases hlt:k < l.length
 ·have d1:decide ((k:Int) < (l.length:Int))=true:=decide_eq_true (by omega)
  have e9:=k9 k (by omega)
  have hx:∀ d,(l.map ql).getD k d=[.v (.string ⟨⟨l.getD k []⟩⟩)]:=fun d=>ZV l k d hlt
  have hs:=hl.at hlt;have hS:=ZM l hlt
  have hd:l=l.take k++l.getD k [] :: l.drop (k+1):=by
   have h1:=cF (k+1) l;rw [hS] at h1
   simpa using h1.symm
  have hsm:(shP (l.getD k [])).isSome=true:=by
   rw [hd,QE,hg,jl] at h;cases hn:shP (l.getD k []) with
   |some v=>rfl
   |none=>rw [hn] at h;cases h
  generalize l.getD k []=s at hx hs hS hsm;obtain ⟨v,hv⟩:=cD.1 hsm
  have hnew:jl (l.take (k+1))=some (a++[v]):=by rw [hS,QE,hg,jl,hv];rfl
  have ⟨l1,l2⟩:=Qdr s [47];unfold shP at hv
  obtain ⟨⟨c1,c2,c3⟩,hc⟩:∃ c,Lib.cut s [47]=c:=⟨_,rfl⟩;rw [hc] at l1 l2 hv
  dsimp only at l1 l2 hv;split at hv
  ·rename_i h0
   subst h0;split at hv
   ·rename_i x y h1 h2
    cases hv;have g1:c1.length<=100000:=by omega
    have g2:c2.length<=100000:=by omega
    have e1:(wZ c1).isSome=true:=by rw [h1];rfl
    have e2:(wZ c2).isSome=true:=by rw [h2];rfl
    have e4:b.map eSh++[[.v (.int .i64 x),.v (.int .i64 y)]]=(b++[(⟨x,y⟩:Sh)]).map eSh:=by rw [ae];rfl
    simp only [YU]
    repeat' first|(apply nx;with_reducible constructor)|apply uq (by decide)|refine vx ?_|refine vz ?_|(refine uw env 2 rfl rfl rfl (fun Q hQ=>?_);simp only [vkt,seval,zO,Wy,aS,ql,wO,qa,zx,JW,YU,ab,d1,e9,hx,hs,hc,h1,h2,e1,e2,g1,g2,hlt,ha1,e4];(try simp only [ite_and]);(repeat' first|with_reducible assumption|apply vj);all_goals (first|(refine ⟨_,_,rfl,hQ _ _ ?_⟩;clear hQ Q)|(apply ux;kernel_rfl)|omega|assumption|with_reducible rfl|skip))|((first|apply uz env|apply uk);intro Q hQ;simp only [vkt,seval,zO,Wy,aS,qa,zx,JW,d1,e9,hx,hs,hc,h1,h2,g1,g2,hlt,ha1,e4,ite_and];(repeat' first|with_reducible assumption|apply vj|intro hp);all_goals first|(apply hQ;clear hQ Q)|(apply ux;kernel_rfl)|omega|assumption|with_reducible rfl|skip)
    refine ⟨⟨(k+1,b++[(⟨x,y⟩:Sh)]),hlt,a++[(⟨x,y⟩:Sh)],by rw [hb];rfl,hnew⟩,by show l.length - (k+1) < l.length - k;omega, ?_⟩
    (refine Le.ok (fun i=>if i=0 then some 2 else some i) [] ?_;constructor;all_goals (try simp only [vle,vkt,seval,Wy,qa]))
    all_goals first|rfl|(simp;done)|(intro i hi;rw [if_neg (by omega)];done)
   ·cases hv
  ·cases hv
 ·have d1:decide ((k:Int) < (l.length:Int))=false:=decide_eq_false (by omega)
  obtain rfl:k=l.length:=by omega
  rw [bt] at hg;rw [hg]
  simp only [YU,cL];rw [<- hb]
  repeat' first|(apply nx;with_reducible constructor)|apply uq (by decide)|refine vx ?_|refine vz ?_|(refine uw env 2 rfl rfl rfl (fun Q hQ=>?_);simp only [vkt,seval,zO,Wy,aS,ql,wO,qa,zx,JW,YU,ab,d1];(try simp only [ite_and]);(repeat' first|with_reducible assumption|apply vj);all_goals (first|(refine ⟨_,_,rfl,hQ _ _ ?_⟩;clear hQ Q)|(apply ux;kernel_rfl)|omega|assumption|with_reducible rfl|skip))|((first|apply uz env|apply uk);intro Q hQ;simp only [vkt,seval,zO,Wy,qa,d1,ite_and];(repeat' first|with_reducible assumption|apply vj|intro hp);all_goals first|(apply hQ;clear hQ Q)|(apply ux;kernel_rfl)|omega|assumption|with_reducible rfl|skip)
  (simp only [vrt,results168,vkt,seval];refine Fin.val rfl ?_;(try simp only [AV.le]))
  all_goals first|rfl|exact ⟨_,_,rfl⟩|(simp;done)
def xm:=vj @aI.eq_1 (vj @aB.eq_1 (vj @yx.eq_1 (vj @eSh.eq_1 (@rSh))))
def Qlz (l:List (List UInt8)) (hl:yY l) (hn:l.length<=1000) (h:jl l=none):FnX refusal (jS TabC) prog 168 [qa l] noH noH:=by
 have env:=qx (A:=zZ TabC) (kC JH (kC ecut kN));refine FnX.of (A:=zZ TabC) (n0:=0) (Fn0 func168 rfl (fun vs w=>by kernel_rfl) (by kernel_rfl)) (by simp) (by simp [AV.ids,qa]) (fun i o h=>by cases h) (fun _ hB _ _=>hB) ?_
 have hmx:(100000:Nat)<=maxLen:=by decide
 repeat' first|(apply nx;with_reducible constructor)|apply uq (by decide)|refine vx ?_|refine vz ?_|(refine uw env 2 rfl rfl rfl (fun Q hQ=>?_);simp only [vkt,seval,zO,xm,aS,ql,wO,qa,zx,JW,xk,YU,ab,ab];(try simp only [ite_and]);(repeat' first|with_reducible assumption|apply vj);all_goals (first|(refine ⟨_,_,rfl,hQ _ _ ?_⟩;clear hQ Q)|(apply ux;kernel_rfl)|omega|assumption|with_reducible rfl|skip))|((first|apply uz env|apply uk);intro Q hQ;simp only [vkt,seval,zO,qa,ite_and];(repeat' first|with_reducible assumption|apply vj|intro hp);all_goals first|(apply hQ;clear hQ Q)|(apply ux;kernel_rfl)|omega|assumption|with_reducible rfl|skip)
 refine qh (fun s:{ p:Nat × List Sh // QhI l p }=>YU l s.1.1 s.1.2) (fun s=>l.length - s.1.1) ⟨(0,[⟨1,1⟩]),af _,[],rfl,rfl⟩ ?_ fun ⟨⟨k,b⟩,hk,a,hb,hg⟩=>?_
 ·simp only [YU]
  (refine Le.ok (fun i=>if i=0 then some 0 else some i) [] ?_;constructor;all_goals (try simp only [vle,vkt,seval,xm,qa]))
  all_goals first|rfl|(simp;done)|exact ⟨rfl,trivial⟩|(intro i hi;rw [if_neg (by omega)];done)
 simp only at hk hb hg ⊢;have hal:=ZF _ hg
 rw [aR] at hal;have hbl:b.length=a.length+1:=by rw [hb];rfl
 have ha1:b.length+1<=maxLen:=by omega
 have hlt:k < l.length:=by
  by_cases hlt:k < l.length
  ·exact hlt
  ·obtain rfl:k=l.length:=by omega
   rw [bt,h] at hg;cases hg
 have d1:decide ((k:Int) < (l.length:Int))=true:=decide_eq_true (by omega)
 have e9:=k9 k (by omega)
 have hx:∀ d,(l.map ql).getD k d=[.v (.string ⟨⟨l.getD k []⟩⟩)]:=fun d=>ZV l k d hlt
 have hs:=hl.at hlt;have hS:=ZM l hlt
 generalize l.getD k []=s at hx hs hS;have ⟨l1,l2⟩:=Qdr s [47]
 have hnew:∀ v,shP s=some v->jl (l.take (k+1))=some (a++[v]):=fun v hv=>by rw [hS,QE,hg,jl,hv];rfl
 unfold shP at hnew;obtain ⟨⟨c1,c2,c3⟩,hc⟩:∃ c,Lib.cut s [47]=c:=⟨_,rfl⟩
 rw [hc] at l1 l2 hnew;dsimp only at l1 l2 hnew
 have g1:c1.length<=100000:=by omega
 have g2:c2.length<=100000:=by omega
 simp only [YU];cases c3 with
 |false =>
  repeat' first|(apply nx;with_reducible constructor)|apply uq (by decide)|refine vx ?_|refine vz ?_|(refine uw env 2 rfl rfl rfl (fun Q hQ=>?_);simp only [vkt,seval,zO];(try simp only [ite_and]);(repeat' first|with_reducible assumption|apply vj);all_goals (first|(refine ⟨_,_,rfl,hQ _ _ ?_⟩;clear hQ Q)|(apply ux;kernel_rfl)|omega|assumption|with_reducible rfl|skip))|((first|apply uz env|apply uk);intro Q hQ;simp only [vkt,seval,zO,xm,aS,qa,JW,d1,hx,hs,hc,hlt,ite_and];(repeat' first|with_reducible assumption|apply vj|intro hp);all_goals first|(apply hQ;clear hQ Q)|(apply ux;kernel_rfl)|omega|assumption|with_reducible rfl|skip)
  exact ⟨rfl,rfl,Fin.val rfl (by simp only [AV.le])⟩
 |true =>
  rw [if_pos rfl] at hnew;cases h1:wZ c1 with
  |none =>
   repeat' first|(apply nx;with_reducible constructor)|apply uq (by decide)|refine vx ?_|refine vz ?_|(refine uw env 2 rfl rfl rfl (fun Q hQ=>?_);simp only [vkt,seval,zO,xm,aS,ql,wO,qa,zx,JW,xk,YU,ab, d1,e9,hx,hs,hc,hlt,ha1,h1,g1];(try simp only [ite_and]);(repeat' first|with_reducible assumption|apply vj);all_goals (first|(refine ⟨_,_,rfl,hQ _ _ ?_⟩;clear hQ Q)|(apply ux;kernel_rfl)|omega|assumption|with_reducible rfl|skip))|(refine uv env VL 2 rfl rfl (fun Q hQ=>?_);simp only [Zc,Ym,vkt,seval,zO,xm,aS,JW,xk,hx,hs,hc,hlt,h1,g1];(try simp only [ite_and]);(repeat' first|with_reducible assumption|apply vj|intro hp);all_goals (first|(refine hQ _ _ _ ?_;clear hQ Q)|(apply ux;kernel_rfl)|omega|assumption|(with_reducible rfl)))|((first|apply uz env|apply uk);intro Q hQ;simp only [vkt,seval,zO,xm,aS,qa,JW,d1,hx,hs,hc,hlt,ite_and];(repeat' first|with_reducible assumption|apply vj|intro hp);all_goals first|(apply hQ;clear hQ Q)|(apply ux;kernel_rfl)|omega|assumption|with_reducible rfl|skip)
   exact ⟨rfl,rfl,Fin.val rfl (by simp only [AV.le])⟩
  |some x =>
   have e1:(wZ c1).isSome=true:=by rw [h1];rfl
   cases h2:wZ c2 with
   |none =>
    repeat' first|(apply nx;with_reducible constructor)|apply uq (by decide)|refine vx ?_|refine vz ?_|(refine uw env 2 rfl rfl rfl (fun Q hQ=>?_);simp only [vkt,seval,zO,xm,aS,ql,wO,qa,zx,JW,xk,YU,ab, d1,e9,hx,hs,hc,hlt,ha1,h1,e1,g1,h2,g2];(try simp only [ite_and]);(repeat' first|with_reducible assumption|apply vj);all_goals (first|(refine ⟨_,_,rfl,hQ _ _ ?_⟩;clear hQ Q)|(apply ux;kernel_rfl)|omega|assumption|with_reducible rfl|skip))|(refine uv env VL 4 rfl rfl (fun Q hQ=>?_);simp only [Zc,Ym,vkt,seval,xm,aS,zx,JW,xk,hs,hc,h1,g1,h2,g2];(try simp only [ite_and]);(repeat' first|with_reducible assumption|apply vj|intro hp);all_goals (first|(refine hQ _ _ _ ?_;clear hQ Q)|(apply ux;kernel_rfl)|omega|assumption|(with_reducible rfl)))|((first|apply uz env|apply uk);intro Q hQ;simp only [vkt,seval,zO,xm,aS,qa,JW,d1,hx,hs,hc,hlt,ite_and];(repeat' first|with_reducible assumption|apply vj|intro hp);all_goals first|(apply hQ;clear hQ Q)|(apply ux;kernel_rfl)|omega|assumption|with_reducible rfl|skip)
    exact ⟨rfl,rfl,Fin.val rfl (by simp only [AV.le])⟩
   |some y =>
    have e2:(wZ c2).isSome=true:=by rw [h2];rfl
    have hn2:=hnew ⟨x,y⟩ (by rw [h1,h2])
    have e4:b.map eSh++[[.v (.int .i64 x),.v (.int .i64 y)]]=(b++[(⟨x,y⟩:Sh)]).map eSh:=by rw [ae];rfl
    repeat' first|(apply nx;with_reducible constructor)|apply uq (by decide)|refine vx ?_|refine vz ?_|(refine uw env 2 rfl rfl rfl (fun Q hQ=>?_);simp only [vkt,seval,zO,xm,aS,ql,wO,qa,zx,JW,xk,YU,ab,d1,e9,hx,hs,hc,h1,h2,e1,e2,g1,g2,hlt,ha1,e4];(try simp only [ite_and]);(repeat' first|with_reducible assumption|apply vj);all_goals (first|(refine ⟨_,_,rfl,hQ _ _ ?_⟩;clear hQ Q)|(apply ux;kernel_rfl)|omega|assumption|with_reducible rfl|skip))|((first|apply uz env|apply uk);intro Q hQ;simp only [vkt,seval,zO,xm,aS,qa,zx,JW,d1,e9,hx,hs,hc,h1,h2,g1,g2,hlt,ha1,e4,ite_and];(repeat' first|with_reducible assumption|apply vj|intro hp);all_goals first|(apply hQ;clear hQ Q)|(apply ux;kernel_rfl)|omega|assumption|with_reducible rfl|skip)
    refine ⟨⟨(k+1,b++[(⟨x,y⟩:Sh)]),hlt,a++[(⟨x,y⟩:Sh)],by rw [hb];rfl,hn2⟩,by show l.length - (k+1) < l.length - k;omega, ?_⟩
    (refine Le.ok (fun i=>if i=0 then some 2 else some i) [] ?_;constructor;all_goals (try simp only [vle,vkt,seval,xm,qa]))
    all_goals first|rfl|(simp;done)|(intro i hi;rw [if_neg (by omega)];done)
def WE:List AV->Prop × AV
 |[.sl l]=>(l=(l.map yF).map ql/\yY (l.map yF)/\(l.map yF).length<=1000/\(jl (l.map yF)).isSome=true,ZC (l.map yF))
 |_=>(False,.junk)
def J8:qf (zZ TabC) prog 168 (zq false WE):=xN fun vs hv h=>by
 clear hv;unfold WE at h ⊢
 split at h
 ·rename_i l;obtain ⟨q0,k0,k1,k2⟩:=h
  refine ⟨by first|trivial|(repeat' split) <;> simp [AV.plain,AV.plainL,aI,aB,qi,aBunks,aTks,aBunk,aTk,cTk],fun h=>absurd h (by decide), ?_⟩
  have:=Qjq (l.map yF) k0 k1 k2;simp only [qa,<- q0] at this
  first|exact this|(simp only [qa,<- q0];exact this)
 ·exact h.elim
def kQ:List AV->Prop
 |[.sl xs]=>∃ l:List (List UInt8),xs=l.map ql/\jl l=none/\yY l/\l.length<=1000
 |_=>False
def xRats:XOK (zZ TabC) prog 168 (Ym refusal kQ):=VO fun l h=>by
 unfold kQ at h;split at h
 ·obtain ⟨l,rfl,h1,h2,h3⟩:=h
  exact Qlz l h2 h3 h1
 ·exact h.elim
def ZY:List (List UInt8):=[[],[116,97,107,101],[112,97,121],[115,119,97,112],[99,111,117,110,116]]
def kdU (w:List UInt8):Nat->Int
 |0=>0
 |k+1=>if ZY.getD k []=w then k else kdU w k
def kdP (w:List UInt8):Int:=kdU w 5
def LJ (d k:Int) (n:List Int):Option Ent:=if k=3/\n.length=4 then some ⟨d,k,n.getD 0 0,n.getD 2 0,n.getD 1 0,n.getD 3 0⟩ else if k=0\/k=3\/n.length ≠ 2 then none else some ⟨d,k,n.getD 0 0,0,n.getD 1 0,0⟩
def xQ (l:List (List UInt8)):Option Ent:=if l.length < 2 then none else match wZ (l.getD 0 []),qO (l.drop 2) with
 |some d,some n=>LJ d (kdP (l.getD 1 [])) n
 |_,_=>none
def etS (L V:List (List UInt8)) (d q:Int) (k:Nat):St:={ t:=asg [(0,qa L),(2,.ptr 0 0),(3,.ptr 1 0),(17,qa V),(18,aI 5),(19,aI k)],h:=qg [(0,.cells [aI 0,aI 0,aI 0,aI 0,aI 0,aI 0]),(1,.cells [aI d,aI q,aI 0,aI 0,aI 0,aI 0])],n:=2 }
def xF (l:List (List UInt8)):zK 1 (l.map ql):=by rw [WQ];trivial
def gI (l:List Int) {k:Nat} (h:k < l.length) (d:List DV):(l.map qj).getD k d=[.v (.int .i64 (l.getD k 0))]:=by
 simp [ah,h,qj]
def qQ:=vj @ty3 (vj @ty9 (vj @jh (vj @JR (vj @vR (vj @Lm (vj @ti3.eq_1 (vj @ti9.eq_1 (vj @jc.eq_1 (vj @Wj.eq_1 (vj @yS.eq_1 @Vy.eq_1))))))))))
def yJ:=vj @aI.eq_1 (vj @aB.eq_1 (vj @qi.eq_1 (vj @yE.eq_1 (vj @qj.eq_1 (@ZJ)))))
def Qlq (l:List (List UInt8)) (hl:yY l) (hn:l.length<=1000) (x:Ent) (hE:xQ l=some x):Fn (jS TabC) prog 169 [qa l] noH (yE x) noH 0:=by
 have env:=qx (A:=zZ TabC) (kC JH (kC WG (kC QbF kN)));refine kT (Fn0 func169 rfl (fun vs w=>by kernel_rfl) (by kernel_rfl)) (by simp) (by simp [AV.ids,qa]) ?_
 have hmx:(100000:Nat)<=maxLen:=by decide
 unfold xQ at hE;split at hE
 ·cases hE
 rename_i h2;split at hE
 rotate_left
 ·cases hE
 rename_i d n hd hN;have d1:decide ((l.length:Int) < 2)=false:=decide_eq_false (by omega)
 have x0:∀ d,(l.map ql).getD 0 d=[.v (.string ⟨⟨l.getD 0 []⟩⟩)]:=fun d=>ZV l 0 d (by omega)
 have x1:∀ d,(l.map ql).getD 1 d=[.v (.string ⟨⟨l.getD 1 []⟩⟩)]:=fun d=>ZV l 1 d (by omega)
 have l0:0 < l.length:=by omega
 have l1:1 < l.length:=by omega
 have s0:=hl.at l0;have e0:(wZ (l.getD 0 [])).isSome=true:=by rw [hd];rfl
 obtain ⟨R,hR⟩:∃ R,l.drop 2=R:=⟨_,rfl⟩;rw [hR] at hN
 have hRl:R.length<=1000:=by rw [<- hR,aM];omega
 have hRi:yY R:=fun w hw=>hl _ (aO (hR ▸ hw))
 have hD:((l.map ql).take l.length).drop 2=R.map ql:=by rw [<- hR,bl,aP (by rw [ab];exact ag _)]
 have e2:(qO R).isSome=true:=by rw [hN];rfl
 have hnl:=vO _ hN;have hrw:=xF l
 have g2:(2:Int)<=(l.length:Int):=by omega
 generalize l.getD 0 []=w0 at hd x0 s0 e0;generalize l.getD 1 []=w1 at hE x1
 obtain ⟨V,hV⟩:∃ V,ZY=V:=⟨_,rfl⟩;have hV2:([[],[116,97,107,101],[112,97,121],[115,119,97,112],[99,111,117,110,116]]:List (List UInt8))=V:=hV
 have hVl:V.length=5:=by rw [<- hV];rfl
 have hVi:(V.length:Int)=5:=by omega
 repeat' first|(apply nx;with_reducible constructor)|apply uq (by decide)|refine vx ?_|refine vz ?_|(refine uw env 2 rfl rfl rfl (fun Q hQ=>?_);simp only [vkt,seval,qQ,yJ,aS,ql,wO,qa,zx,yn,yZ,etS,ab,d1,x0,x1,l0,l1,s0,e0,hd,hV2,hVi,ab];(try simp only [ite_and]);(repeat' first|with_reducible assumption|apply vj);all_goals (first|(refine ⟨_,_,rfl,hQ _ _ ?_⟩;clear hQ Q)|(apply ux;kernel_rfl)|omega|assumption|with_reducible rfl|skip))|((first|apply uz env|apply uk);intro Q hQ;simp only [vkt,seval,qQ,yJ,qa,zx,yZ,d1,x0,l0,s0,hd,hV2,hVi,ite_and];(repeat' first|with_reducible assumption|apply vj|intro hp);all_goals first|(apply hQ;clear hQ Q)|(apply ux;kernel_rfl)|omega|assumption|with_reducible rfl|skip)
 refine qh (fun s:{ k:Nat // k<=5 }=>etS l V d (kdU w1 s.1) s.1) (fun s=>5 - s.1) ⟨0,af _⟩ ?_ fun ⟨k,hk⟩=>?_
 ·simp only [etS,kdU]
  (refine Le.ok some [] ?_;constructor;all_goals (try simp only [vle,vkt,seval,yJ,qa]))
  all_goals first|rfl|(simp;done)|exact ⟨rfl,trivial⟩|(intro i hi;rw [if_neg (by omega)];done)
 simp only at hk ⊢
 by_cases hlt:k < 5
 ·have d2:decide ((k:Int) < 5)=true:=decide_eq_true (by omega)
  have e9:=k9 k (by omega)
  have hx:∀ d,(V.map ql).getD k d=[.v (.string ⟨⟨V.getD k []⟩⟩)]:=fun d=>ZV V k d (by omega)
  have hkV:k < V.length:=by omega
  have hq:kdU w1 (k+1)=if V.getD k []=w1 then (k:Int) else kdU w1 k:=by rw [kdU,hV]
  generalize V.getD k []=v at hx hq;simp only [etS]
  by_cases hv:v=w1
  ·have b1:(v == w1)=true:=by simp [hv]
   rw [if_pos hv] at hq
   repeat' first|(apply nx;with_reducible constructor)|apply uq (by decide)|refine vx ?_|refine vz ?_|(refine uw env 2 rfl rfl rfl (fun Q hQ=>?_);simp only [vkt,seval,qQ,yJ,aS,ql,wO,qa,zx,yn,yZ,etS,ab,d2,e9,hx,hkV,x1,l1,b1];(try simp only [ite_and]);(repeat' first|with_reducible assumption|apply vj);all_goals (first|(refine ⟨_,_,rfl,hQ _ _ ?_⟩;clear hQ Q)|(apply ux;kernel_rfl)|omega|assumption|with_reducible rfl|skip))|((first|apply uz env|apply uk);intro Q hQ;simp only [vkt,seval,qQ,yJ,qa,d2,e9,hx,hkV,x1,l1,b1,ite_and];(repeat' first|with_reducible assumption|apply vj|intro hp);all_goals first|(apply hQ;clear hQ Q)|(apply ux;kernel_rfl)|omega|assumption|with_reducible rfl|skip)
   refine ⟨⟨k+1,hlt⟩,by show 5 - (k+1) < 5 - k;omega, ?_⟩
   dsimp only;rw [hq]
   (refine Le.ok some [] ?_;constructor;all_goals (try simp only [vle,vkt,seval,yJ,qa]))
   all_goals first|rfl|(simp;done)|(intro i hi;rw [if_neg (by omega)];done)
  ·have b1:(v == w1)=false:=by simp [hv]
   rw [if_neg hv] at hq
   repeat' first|(apply nx;with_reducible constructor)|apply uq (by decide)|refine vx ?_|refine vz ?_|(refine uw env 2 rfl rfl rfl (fun Q hQ=>?_);simp only [vkt,seval,qQ,yJ,aS,ql,wO,qa,zx,yn,yZ,etS,ab,d2,e9,hx,hkV,x1,l1,b1];(try simp only [ite_and]);(repeat' first|with_reducible assumption|apply vj);all_goals (first|(refine ⟨_,_,rfl,hQ _ _ ?_⟩;clear hQ Q)|(apply ux;kernel_rfl)|omega|assumption|with_reducible rfl|skip))|((first|apply uz env|apply uk);intro Q hQ;simp only [vkt,seval,qQ,yJ,qa,d2,e9,hx,hkV,x1,l1,b1,ite_and];(repeat' first|with_reducible assumption|apply vj|intro hp);all_goals first|(apply hQ;clear hQ Q)|(apply ux;kernel_rfl)|omega|assumption|with_reducible rfl|skip)
   refine ⟨⟨k+1,hlt⟩,by show 5 - (k+1) < 5 - k;omega, ?_⟩
   dsimp only;rw [hq]
   (refine Le.ok some [] ?_;constructor;all_goals (try simp only [vle,vkt,seval,yJ,qa]))
   all_goals first|rfl|(simp;done)|(intro i hi;rw [if_neg (by omega)];done)
 ·have d2:decide ((k:Int) < 5)=false:=decide_eq_false (by omega)
  obtain rfl:k=5:=by omega
  have hkd:kdU w1 5=kdP w1:=rfl;rw [hkd]
  generalize kdP w1=q at hE;unfold LJ at hE
  simp only [etS];split at hE
  ·rename_i hs
   cases hE;obtain ⟨rfl,h4⟩:=hs
   have y0:=gI n (k:=0) (by omega)
   have y1:=gI n (k:=1) (by omega)
   have y2:=gI n (k:=2) (by omega)
   have y3:=gI n (k:=3) (by omega)
   have m0:0 < n.length:=by omega
   have m1:1 < n.length:=by omega
   have m2:2 < n.length:=by omega
   have m3:3 < n.length:=by omega
   have c4:decide ((n.length:Int)=4)=true:=decide_eq_true (by omega)
   generalize n.getD 0 0=n0 at y0;generalize n.getD 1 0=n1 at y1
   generalize n.getD 2 0=n2 at y2;generalize n.getD 3 0=n3 at y3
   repeat' first|(apply nx;with_reducible constructor)|apply uq (by decide)|refine vx ?_|refine vz ?_|(refine uw env 2 rfl rfl rfl (fun Q hQ=>?_);simp only [vkt,seval,qQ,yJ,aS,ql,wO,qa,zx,yn,yZ,etS,ab,d2,hD,hrw,g2,hRi,hRl,e2,hN,c4,y0,y1,y2,y3,m0,m1,m2,m3,Int.reduceToNat,ab];(try simp only [ite_and]);(repeat' first|with_reducible assumption|apply vj);all_goals (first|(refine ⟨_,_,rfl,hQ _ _ ?_⟩;clear hQ Q)|(apply ux;kernel_rfl)|omega|assumption|with_reducible rfl|skip))|((first|apply uz env|apply uk);intro Q hQ;simp only [vkt,seval,qQ,yJ,wO,qa,yn,hD,hrw,g2,hRi,hRl,hN,c4,y0,y1,y2,y3,m0,m1,m2,m3,Int.reduceToNat,ite_and];(repeat' first|with_reducible assumption|apply vj|intro hp);all_goals first|(apply hQ;clear hQ Q)|(apply ux;kernel_rfl)|omega|assumption|with_reducible rfl|skip)
   (simp only [vrt,results169,vkt,seval,qQ,yJ];refine Fin.val rfl ?_;(try simp only [AV.le,AV.leL]))
   all_goals first|rfl|simp
  ·rename_i hs
   split at hE
   ·cases hE
   rename_i hs2;cases hE
   have n2:n.length=2:=by
    by_cases e:n.length=2
    ·exact e
    ·exact absurd (.inr (.inr e)) hs2
   have c0:decide (q=0)=false:=decide_eq_false fun e=>hs2 (.inl e)
   have c3:decide (q=3)=false:=decide_eq_false fun e=>hs2 (.inr (.inl e))
   have c2:decide ((n.length:Int)=2)=true:=decide_eq_true (by omega)
   have y0:=gI n (k:=0) (by omega)
   have y1:=gI n (k:=1) (by omega)
   have m0:0 < n.length:=by omega
   have m1:1 < n.length:=by omega
   generalize n.getD 0 0=n0 at y0;generalize n.getD 1 0=n1 at y1
   repeat' first|(apply nx;with_reducible constructor)|apply uq (by decide)|refine vx ?_|refine vz ?_|(refine uw env 2 rfl rfl rfl (fun Q hQ=>?_);simp only [vkt,seval,qQ,yJ,aS,ql,wO,qa,zx,yn,yZ,etS,ab,d2,hD,hrw,g2,hRi,hRl,e2,hN,c0,c3,c2,y0,y1,m0,m1,Int.reduceToNat,ab];(try simp only [ite_and]);(repeat' first|with_reducible assumption|apply vj);all_goals (first|(refine ⟨_,_,rfl,hQ _ _ ?_⟩;clear hQ Q)|(apply ux;kernel_rfl)|omega|assumption|with_reducible rfl|skip))|((first|apply uz env|apply uk);intro Q hQ;simp only [vkt,seval,qQ,yJ,wO,qa,yn,hD,hrw,g2,hRi,hRl,hN,c0,c3,c2,y0,y1,m0,m1,Int.reduceToNat,ite_and];(repeat' first|with_reducible assumption|apply vj|intro hp);all_goals first|(apply hQ;clear hQ Q)|(apply ux;kernel_rfl)|omega|assumption|with_reducible rfl|skip)
   (simp only [vrt,results169,vkt,seval,qQ,yJ];refine Fin.val rfl ?_;(try simp only [AV.le,AV.leL]))
   all_goals first|rfl|simp
def yM:=vj @aI.eq_1 (vj @aB.eq_1 (vj @qi.eq_1 (vj @yE.eq_1 (vj @qj.eq_1 (@ZJ)))))
def ent_x (l:List (List UInt8)) (hl:yY l) (hn:l.length<=1000) (hE:xQ l=none):FnX refusal (jS TabC) prog 169 [qa l] noH noH:=by
 have env:=qx (A:=zZ TabC) (kC JH (kC WG (kC QbF kN)));refine FnX.of (A:=zZ TabC) (n0:=0) (Fn0 func169 rfl (fun vs w=>by kernel_rfl) (by kernel_rfl)) (by simp) (by simp [AV.ids,qa]) (fun i o h=>by cases h) (fun _ hB _ _=>hB) ?_
 have hmx:(100000:Nat)<=maxLen:=by decide
 by_cases h2:l.length < 2
 ·have d1:decide ((l.length:Int) < 2)=true:=decide_eq_true (by omega)
  repeat' first|(apply nx;with_reducible constructor)|apply uq (by decide)|refine vx ?_|refine vz ?_|(refine uw env 2 rfl rfl rfl (fun Q hQ=>?_);simp only [vkt,seval,qQ];(try simp only [ite_and]);(repeat' first|with_reducible assumption|apply vj);all_goals (first|(refine ⟨_,_,rfl,hQ _ _ ?_⟩;clear hQ Q)|(apply ux;kernel_rfl)|omega|assumption|with_reducible rfl|skip))|((first|apply uz env|apply uk);intro Q hQ;simp only [vkt,seval,qQ,qa,d1,ite_and];(repeat' first|with_reducible assumption|apply vj|intro hp);all_goals first|(apply hQ;clear hQ Q)|(apply ux;kernel_rfl)|omega|assumption|with_reducible rfl|skip)
  exact ⟨rfl,rfl,Fin.val rfl (by simp only [AV.le])⟩
 unfold xQ at hE;rw [if_neg h2] at hE
 have d1:decide ((l.length:Int) < 2)=false:=decide_eq_false (by omega)
 have x0:∀ d,(l.map ql).getD 0 d=[.v (.string ⟨⟨l.getD 0 []⟩⟩)]:=fun d=>ZV l 0 d (by omega)
 have x1:∀ d,(l.map ql).getD 1 d=[.v (.string ⟨⟨l.getD 1 []⟩⟩)]:=fun d=>ZV l 1 d (by omega)
 have l0:0 < l.length:=by omega
 have l1:1 < l.length:=by omega
 have s0:=hl.at l0;obtain ⟨R,hR⟩:∃ R,l.drop 2=R:=⟨_,rfl⟩
 rw [hR] at hE;have hRl:R.length<=1000:=by rw [<- hR,aM];omega
 have hRi:yY R:=fun w hw=>hl _ (aO (hR ▸ hw))
 have hD:((l.map ql).take l.length).drop 2=R.map ql:=by rw [<- hR,bl,aP (by rw [ab];exact ag _)]
 have hrw:=xF l;have g2:(2:Int)<=(l.length:Int):=by omega
 generalize l.getD 0 []=w0 at hE x0 s0;generalize l.getD 1 []=w1 at hE x1
 obtain ⟨V,hV⟩:∃ V,ZY=V:=⟨_,rfl⟩;have hV2:([[],[116,97,107,101],[112,97,121],[115,119,97,112],[99,111,117,110,116]]:List (List UInt8))=V:=hV
 have hVl:V.length=5:=by rw [<- hV];rfl
 have hVi:(V.length:Int)=5:=by omega
 cases hd:wZ w0 with
 |none =>
  repeat' first|(apply nx;with_reducible constructor)|apply uq (by decide)|refine vx ?_|refine vz ?_|(refine uw env 2 rfl rfl rfl (fun Q hQ=>?_);simp only [vkt,seval,qQ,yM,aS,ql,wO,qa,zx,yn,yZ,etS,xk,jV,ab, d1,x0,x1,l0,l1,s0,hd,ab];(try simp only [ite_and]);(repeat' first|with_reducible assumption|apply vj);all_goals (first|(refine ⟨_,_,rfl,hQ _ _ ?_⟩;clear hQ Q)|(apply ux;kernel_rfl)|omega|assumption|with_reducible rfl|skip))|(refine uv env VL 3 rfl rfl (fun Q hQ=>?_);simp only [Zc,Ym,vkt,seval,qQ,xk,x0,l0,s0,hd];(try simp only [ite_and]);(repeat' first|with_reducible assumption|apply vj|intro hp);all_goals (first|(refine hQ _ _ _ ?_;clear hQ Q)|(apply ux;kernel_rfl)|omega|assumption|(with_reducible rfl)))|((first|apply uz env|apply uk);intro Q hQ;simp only [vkt,seval,qQ,qa,d1,ite_and];(repeat' first|with_reducible assumption|apply vj|intro hp);all_goals first|(apply hQ;clear hQ Q)|(apply ux;kernel_rfl)|omega|assumption|with_reducible rfl|skip)
  exact ⟨rfl,rfl,Fin.val rfl (by simp only [AV.le])⟩
 |some d =>
  have e0:(wZ w0).isSome=true:=by rw [hd];rfl
  rw [hd] at hE
  repeat' first|(apply nx;with_reducible constructor)|apply uq (by decide)|refine vx ?_|refine vz ?_|(refine uw env 2 rfl rfl rfl (fun Q hQ=>?_);simp only [vkt,seval,qQ,yM,aS,ql,wO,qa,zx,yn,yZ,etS,xk,jV,ab,d1,x0,x1,l0,l1,s0,e0,hd,hV2,hVi,ab];(try simp only [ite_and]);(repeat' first|with_reducible assumption|apply vj);all_goals (first|(refine ⟨_,_,rfl,hQ _ _ ?_⟩;clear hQ Q)|(apply ux;kernel_rfl)|omega|assumption|with_reducible rfl|skip))|((first|apply uz env|apply uk);intro Q hQ;simp only [vkt,seval,qQ,yM,qa,zx,yZ,d1,x0,l0,s0,hd,hV2,hVi,ite_and];(repeat' first|with_reducible assumption|apply vj|intro hp);all_goals first|(apply hQ;clear hQ Q)|(apply ux;kernel_rfl)|omega|assumption|with_reducible rfl|skip)
  refine qh (fun s:{ k:Nat // k<=5 }=>etS l V d (kdU w1 s.1) s.1) (fun s=>5 - s.1) ⟨0,af _⟩ ?_ fun ⟨k,hk⟩=>?_
  ·simp only [etS,kdU]
   (refine Le.ok some [] ?_;constructor;all_goals (try simp only [vle,vkt,seval,yM,qa]))
   all_goals first|rfl|(simp;done)|exact ⟨rfl,trivial⟩|(intro i hi;rw [if_neg (by omega)];done)
  simp only at hk ⊢
  by_cases hlt:k < 5
  ·have d2:decide ((k:Int) < 5)=true:=decide_eq_true (by omega)
   have e9:=k9 k (by omega)
   have hx:∀ d,(V.map ql).getD k d=[.v (.string ⟨⟨V.getD k []⟩⟩)]:=fun d=>ZV V k d (by omega)
   have hkV:k < V.length:=by omega
   have hq:kdU w1 (k+1)=if V.getD k []=w1 then (k:Int) else kdU w1 k:=by rw [kdU,hV]
   generalize V.getD k []=v at hx hq;simp only [etS]
   by_cases hv:v=w1
   ·have b1:(v == w1)=true:=by simp [hv]
    rw [if_pos hv] at hq
    repeat' first|(apply nx;with_reducible constructor)|apply uq (by decide)|refine vx ?_|refine vz ?_|(refine uw env 2 rfl rfl rfl (fun Q hQ=>?_);simp only [vkt,seval,qQ,yM,aS,ql,wO,qa,zx,yn,yZ,etS,xk,jV,ab,d2,e9,hx,hkV,x1,l1,b1];(try simp only [ite_and]);(repeat' first|with_reducible assumption|apply vj);all_goals (first|(refine ⟨_,_,rfl,hQ _ _ ?_⟩;clear hQ Q)|(apply ux;kernel_rfl)|omega|assumption|with_reducible rfl|skip))|((first|apply uz env|apply uk);intro Q hQ;simp only [vkt,seval,qQ,yM,qa,d2,e9,hx,hkV,x1,l1,b1,ite_and];(repeat' first|with_reducible assumption|apply vj|intro hp);all_goals first|(apply hQ;clear hQ Q)|(apply ux;kernel_rfl)|omega|assumption|with_reducible rfl|skip)
    refine ⟨⟨k+1,hlt⟩,by show 5 - (k+1) < 5 - k;omega, ?_⟩
    dsimp only;rw [hq]
    (refine Le.ok some [] ?_;constructor;all_goals (try simp only [vle,vkt,seval,yM,qa]))
    all_goals first|rfl|(simp;done)|(intro i hi;rw [if_neg (by omega)];done)
   ·have b1:(v == w1)=false:=by simp [hv]
    rw [if_neg hv] at hq
    repeat' first|(apply nx;with_reducible constructor)|apply uq (by decide)|refine vx ?_|refine vz ?_|(refine uw env 2 rfl rfl rfl (fun Q hQ=>?_);simp only [vkt,seval,qQ,yM,aS,ql,wO,qa,zx,yn,yZ,etS,xk,jV,ab,d2,e9,hx,hkV,x1,l1,b1];(try simp only [ite_and]);(repeat' first|with_reducible assumption|apply vj);all_goals (first|(refine ⟨_,_,rfl,hQ _ _ ?_⟩;clear hQ Q)|(apply ux;kernel_rfl)|omega|assumption|with_reducible rfl|skip))|((first|apply uz env|apply uk);intro Q hQ;simp only [vkt,seval,qQ,yM,qa,d2,e9,hx,hkV,x1,l1,b1,ite_and];(repeat' first|with_reducible assumption|apply vj|intro hp);all_goals first|(apply hQ;clear hQ Q)|(apply ux;kernel_rfl)|omega|assumption|with_reducible rfl|skip)
    refine ⟨⟨k+1,hlt⟩,by show 5 - (k+1) < 5 - k;omega, ?_⟩
    dsimp only;rw [hq]
    (refine Le.ok some [] ?_;constructor;all_goals (try simp only [vle,vkt,seval,yM,qa]))
    all_goals first|rfl|(simp;done)|(intro i hi;rw [if_neg (by omega)];done)
  ·have d2:decide ((k:Int) < 5)=false:=decide_eq_false (by omega)
   obtain rfl:k=5:=by omega
   have hkd:kdU w1 5=kdP w1:=rfl;rw [hkd]
   generalize kdP w1=q at hE;simp only [etS]
   cases hN:qO R with
   |none =>
    have hq:jV [.sl (R.map ql)]:=⟨R,rfl,hN,hRi,hRl⟩
    repeat' first|(apply nx;with_reducible constructor)|apply uq (by decide)|refine vx ?_|refine vz ?_|(refine uw env 2 rfl rfl rfl (fun Q hQ=>?_);simp only [vkt,seval,qQ,yM,aS,ql,wO,qa,zx,yn,yZ,etS,xk,jV,ab, d2,hD,hrw,g2,hq,Int.reduceToNat,ab];(try simp only [ite_and]);(repeat' first|with_reducible assumption|apply vj);all_goals (first|(refine ⟨_,_,rfl,hQ _ _ ?_⟩;clear hQ Q)|(apply ux;kernel_rfl)|omega|assumption|with_reducible rfl|skip))|(refine uv env Qhi 2 rfl rfl (fun Q hQ=>?_);simp only [Zc,Ym,vkt,seval,qQ,jV,hD,hrw,g2,Int.reduceToNat];(try simp only [ite_and]);(repeat' first|with_reducible assumption|apply vj|intro hp);all_goals (first|(refine hQ _ _ _ ?_;clear hQ Q)|(apply ux;kernel_rfl)|omega|assumption|(with_reducible rfl)))|((first|apply uz env|apply uk);intro Q hQ;simp only [vkt,seval,qQ,yM,qa,ite_and];(repeat' first|with_reducible assumption|apply vj|intro hp);all_goals first|(apply hQ;clear hQ Q)|(apply ux;kernel_rfl)|omega|assumption|with_reducible rfl|skip)
    exact ⟨rfl,rfl,Fin.val rfl (by simp only [AV.le])⟩
   |some n =>
    have e2:(qO R).isSome=true:=by rw [hN];rfl
    rw [hN] at hE;dsimp only at hE
    unfold LJ at hE;split at hE
    ·cases hE
    rename_i hs;split at hE
    rotate_left
    ·cases hE
    rename_i hs2
    by_cases c3:q=3
    ·have c3':decide (q=3)=true:=decide_eq_true c3
     have c0:decide (q=0)=false:=decide_eq_false (by omega)
     have c4:decide ((n.length:Int)=4)=false:=decide_eq_false fun e=>hs ⟨c3,by omega⟩
     repeat' first|(apply nx;with_reducible constructor)|apply uq (by decide)|refine vx ?_|refine vz ?_|(refine uw env 2 rfl rfl rfl (fun Q hQ=>?_);simp only [vkt,seval,qQ];(try simp only [ite_and]);(repeat' first|with_reducible assumption|apply vj);all_goals (first|(refine ⟨_,_,rfl,hQ _ _ ?_⟩;clear hQ Q)|(apply ux;kernel_rfl)|omega|assumption|with_reducible rfl|skip))|((first|apply uz env|apply uk);intro Q hQ;simp only [vkt,seval,qQ,yM,wO,qa,yn,hD,hrw,g2,hRi,hRl,hN,c0,c3',c4,Int.reduceToNat,ite_and];(repeat' first|with_reducible assumption|apply vj|intro hp);all_goals first|(apply hQ;clear hQ Q)|(apply ux;kernel_rfl)|omega|assumption|with_reducible rfl|skip)
     exact ⟨rfl,rfl,Fin.val rfl (by simp only [AV.le])⟩
    ·have c3':decide (q=3)=false:=decide_eq_false c3
     by_cases c0:q=0
     ·have c0':decide (q=0)=true:=decide_eq_true c0
      repeat' first|(apply nx;with_reducible constructor)|apply uq (by decide)|refine vx ?_|refine vz ?_|(refine uw env 2 rfl rfl rfl (fun Q hQ=>?_);simp only [vkt,seval,qQ];(try simp only [ite_and]);(repeat' first|with_reducible assumption|apply vj);all_goals (first|(refine ⟨_,_,rfl,hQ _ _ ?_⟩;clear hQ Q)|(apply ux;kernel_rfl)|omega|assumption|with_reducible rfl|skip))|((first|apply uz env|apply uk);intro Q hQ;simp only [vkt,seval,qQ,yM,wO,qa,yn,hD,hrw,g2,hRi,hRl,hN,c0',c3',Int.reduceToNat,ite_and];(repeat' first|with_reducible assumption|apply vj|intro hp);all_goals first|(apply hQ;clear hQ Q)|(apply ux;kernel_rfl)|omega|assumption|with_reducible rfl|skip)
      exact ⟨rfl,rfl,Fin.val rfl (by simp only [AV.le])⟩
     ·have c0':decide (q=0)=false:=decide_eq_false c0
      have c2:decide ((n.length:Int)=2)=false:=decide_eq_false fun e=>by
       rcases hs2 with h|h|h
       ·exact c0 h
       ·exact c3 h
       ·exact h (by omega)
      repeat' first|(apply nx;with_reducible constructor)|apply uq (by decide)|refine vx ?_|refine vz ?_|(refine uw env 2 rfl rfl rfl (fun Q hQ=>?_);simp only [vkt,seval,qQ];(try simp only [ite_and]);(repeat' first|with_reducible assumption|apply vj);all_goals (first|(refine ⟨_,_,rfl,hQ _ _ ?_⟩;clear hQ Q)|(apply ux;kernel_rfl)|omega|assumption|with_reducible rfl|skip))|((first|apply uz env|apply uk);intro Q hQ;simp only [vkt,seval,qQ,yM,wO,qa,yn,hD,hrw,g2,hRi,hRl,hN,c0',c3',c2,Int.reduceToNat,ite_and];(repeat' first|with_reducible assumption|apply vj|intro hp);all_goals first|(apply hQ;clear hQ Q)|(apply ux;kernel_rfl)|omega|assumption|with_reducible rfl|skip)
      exact ⟨rfl,rfl,Fin.val rfl (by simp only [AV.le])⟩
def Zy:List AV->Prop
 |[.sl xs]=>∃ l:List (List UInt8),xs=l.map ql/\xQ l=none/\yY l/\l.length<=1000
 |_=>False
def xEnt:XOK (zZ TabC) prog 169 (Ym refusal Zy):=VO fun l h=>by
 unfold Zy at h;split at h
 ·obtain ⟨l,rfl,h1,h2,h3⟩:=h
  exact ent_x l h2 h3 h1
 ·exact h.elim
def QiJ (l:List (List UInt8)) (hl:yY l) (hn:l.length<=1000) (h:(xQ l).isSome=true):Fn (jS TabC) prog 169 [qa l] noH (yE ((xQ l).getD default)) noH 0:=by
 obtain ⟨x,hx⟩:=cD.1 h;rw [hx]
 exact Qlq l hl hn x hx
def sent:List AV->Prop × AV
 |[.sl l]=>(l=(l.map yF).map ql/\yY (l.map yF)/\(l.map yF).length<=1000/\(xQ (l.map yF)).isSome=true,yE ((xQ (l.map yF)).getD default))
 |_=>(False,.junk)
def KQ:qf (zZ TabC) prog 169 (zq false sent):=xN fun vs hv h=>by
 clear hv;unfold sent at h ⊢
 split at h
 ·rename_i l;obtain ⟨q0,k0,k1,k2⟩:=h
  refine ⟨by first|trivial|(repeat' split) <;> simp [AV.plain,AV.plainL,aI,aB,qi,aBunks,aTks,aBunk,aTk,cTk],fun h=>absurd h (by decide), ?_⟩
  have:=QiJ (l.map yF) k0 k1 k2;simp only [qa,<- q0] at this
  first|exact this|(simp only [qa,<- q0];exact this)
 ·exact h.elim
inductive Ln where
 |coin (n:List Int)
 |rates (r:List Sh)
 |start (n:List Int)
 |bal
 |entry (x:Ent)
def kw:List UInt8:=[99,111,105,110]
def vg:List UInt8:=[114,97,116,101,115]
def ve:List UInt8:=[115,116,97,114,116]
def WL:List UInt8:=[98,97,108,97,110,99,101]
def Xg (l:List (List UInt8)):Option Ln:=if l.headD []=kw then (qO (l.drop 1)).map .coin else if l.headD []=vg then (jl (l.drop 1)).map fun r=>.rates (⟨1,1⟩ :: r) else if l.headD []=ve then (qO (l.drop 1)).map .start else if l.headD []=WL then if l.length=1 then some .bal else none else (xQ l).map .entry
def xB (s:List UInt8):Option Ln:=Xg (spS s [32])
def rwI (l:List (List Int)):AObj:=.row 26 1 (l.map qC)
def rwS (l:List (List Sh)):AObj:=.row 108 1 (l.map zM)
def rwE (l:List Ent):AObj:=.row 129 6 (l.map zC)
def ldR (st:List Int) (a b c:Nat):AObj:=.cells [.row a,.row b,.sl (st.map qj),.row c]
def za (l:Led):List AObj:=[ldR l.start 1 2 3,rwI l.coins,rwS l.rates,rwE l.entries]
def wB {l:Led}:∀ i o,qg (jg 0 (za l)) i=some o->i < 4/\∀ id ∈ o.ids,id < 4:=by
 intro i o hi;have h:=qN hi
 simp [jg,za] at h
 rcases h with ⟨rfl,rfl⟩|⟨rfl,rfl⟩|⟨rfl,rfl⟩|⟨rfl,rfl⟩ <;> simp [AObj.ids,AV.ids,AV.idsL,ldR,rwI,rwS,rwE]
def yX:=vj @ty3 (vj @ty9 (vj @jh (vj @JR (vj @QD (vj @WK (vj @Yt (vj @vU (vj @vQ (vj @vR (vj @Lm (vj @ti3.eq_1 (vj @ti9.eq_1 (vj @jc.eq_1 (vj @Wj.eq_1 (vj @kI.eq_1 (vj @Zp.eq_1 (vj @WO.eq_1 (vj @vD.eq_1 (vj @yP.eq_1 (vj @yS.eq_1 @Vy.eq_1))))))))))))))))))))
def UJ:=vj @aI.eq_1 (vj @aB.eq_1 (vj @qi.eq_1 (vj @yx.eq_1 (vj @yE.eq_1 (vj @qC.eq_1 (vj @zM.eq_1 (vj @zC.eq_1 (vj @yI (vj @QK (@QL))))))))))
def Qai (l:Led) (s:List UInt8) (L:List (List UInt8)) (n:List Int) (hs:spS s [32]=L) (h0:L.headD []=kw) (hn:qO (L.drop 1)=some n) (hc:l.coins.length<=1000) (hl:s.length<=900):Fn (jS TabC) prog 132 [.ptr 0 0,aS s] (qg (jg 0 (za l))) (aI 0) (qg (wE 0 [some (ldR l.start 4 2 3),none,some (rwS l.rates),some (rwE l.entries),some (rwI (l.coins++[n]))])) 0:=by
 have env:=qx (A:=zZ TabC) (kC QY (kC WG (kC J8 (kC KQ kN))));refine Fn.of (A:=zZ TabC) (n0:=4) (D:=noD) (Fn0 func132 rfl (fun vs w=>by kernel_rfl) (by kernel_rfl)) (by simp) (by simp [AV.ids,aS]) wB (fun _ hB _ _=>hB) zb ?_
 have hm:(1000:Nat)+1<=maxLen:=by decide
 show Sym _ _ _ (zV [.ptr 0 0,aS s] 4 (qg [(0,ldR l.start 1 2 3),(1,rwI l.coins),(2,rwS l.rates),(3,rwE l.entries)])) (Zo tyB noD Tryz.f132 fun S rv=>Fin S rv _ 4 (qg [(0,ldR l.start 4 2 3),(2,rwS l.rates),(3,rwE l.entries),(4,rwI (l.coins++[n]))]) 0)
 have hpos:=(jv (s:=s) (sep:=[32]) (by decide)).1
 have hle:=(jv (s:=s) (sep:=[32]) (by decide)).2
 have hit:=vZ (s:=s) (sep:=[32]) (by omega)
 rw [hs] at hpos hle hit;have hl2:s.length<=100000:=by omega
 have hx:∀ d,(L.map ql).getD 0 d=[.v (.string ⟨⟨[99,111,105,110]⟩⟩)]:=fun d=>by
  match L,h0,hpos with
  |w :: r,h0,_=>simp only [bf] at h0;subst h0;rfl
 have hrw:=xF L;have g1:(1:Int)<=(L.length:Int):=by omega
 have hi:yY L:=hit;have hL:L.length<=1000:=by omega
 obtain ⟨R,hR⟩:∃ R,L.drop 1=R:=⟨_,rfl⟩;have hRl:R.length<=1000:=by rw [<- hR,aM];omega
 have hRi:yY R:=fun w hw=>hi _ (aO (hR ▸ hw))
 have hD:((L.map ql).take L.length).drop 1=R.map ql:=by rw [<- hR,bl,aP (by rw [ab];exact ag _)]
 rw [hR] at hn;have b0:(([99,111,105,110]:List UInt8) == [99,111,105,110])=true:=by decide
 have e2:(qO R).isSome=true:=by rw [hn];rfl
 have c1:l.coins.length+1<=maxLen:=by omega
 have e4:l.coins.map qC++[[.sl (n.map qj)]]=(l.coins++[n]).map qC:=by rw [ae];rfl
 repeat' first|(apply nx;with_reducible constructor)|apply uq (by decide)|refine vx ?_|refine vz ?_|(refine uw env 2 rfl rfl rfl (fun Q hQ=>?_);simp only [vkt,seval,yX,UJ,aS,ZC,zP,yn,WE,sent,jV,kQ,Zy,ql,wO,qa,ldR,rwI,rwS,rwE,za,ab,au,kw,vg,ve,WL,hs,hl2,hx,hpos,b0,hrw,g1,hD,hRi,hRl,e2,hn,c1,e4,ab];(try simp only [ite_and]);(repeat' first|with_reducible assumption|apply vj);all_goals (first|(refine ⟨_,_,rfl,hQ _ _ ?_⟩;clear hQ Q)|(apply ux;kernel_rfl)|omega|assumption|with_reducible rfl|skip))|((first|apply uz env|apply uk);intro Q hQ;simp only [vkt,seval,yX,UJ,aS,zP,yn,wO,qa,ldR,rwI,rwS,rwE,hs,hl2,hx,hpos,hrw,g1,hD,hRi,hRl,hn,c1,e4,ite_and];(repeat' first|with_reducible assumption|apply vj|intro hp);all_goals first|(apply hQ;clear hQ Q)|(apply ux;kernel_rfl)|omega|assumption|with_reducible rfl|skip)
 (simp only [vrt,results132,vkt,seval,UJ,ldR,rwI,rwS,rwE];refine Fin.ok (fun j=>[0,1,2,3,5][j]?) [] ?_ ?_ ?_ ?_ ?_ rfl;all_goals (try simp only [vle,vkt,seval]))
 all_goals first|rfl|(simp;done)|exact fun i hi=>(match i,hi with|0,_=>rfl|1,_=>rfl|2,_=>rfl|3,_=>rfl)
def UN:=vj @aI.eq_1 (vj @aB.eq_1 (vj @qi.eq_1 (vj @yx.eq_1 (vj @yE.eq_1 (vj @qC.eq_1 (vj @zM.eq_1 (vj @zC.eq_1 (vj @yI (vj @QK (@QL))))))))))
def Uj (l:Led) (s:List UInt8) (L:List (List UInt8)) (n:List Sh) (hs:spS s [32]=L) (h0:L.headD []=vg) (hn:jl (L.drop 1)=some n) (hc:l.rates.length<=1000) (hl:s.length<=900):Fn (jS TabC) prog 132 [.ptr 0 0,aS s] (qg (jg 0 (za l))) (aI 1) (qg (wE 0 [some (ldR l.start 1 4 3),some (rwI l.coins),none,some (rwE l.entries),some (rwS (l.rates++[⟨1,1⟩ :: n]))])) 0:=by
 have env:=qx (A:=zZ TabC) (kC QY (kC WG (kC J8 (kC KQ kN))));refine Fn.of (A:=zZ TabC) (n0:=4) (D:=noD) (Fn0 func132 rfl (fun vs w=>by kernel_rfl) (by kernel_rfl)) (by simp) (by simp [AV.ids,aS]) wB (fun _ hB _ _=>hB) zb ?_
 have hm:(1000:Nat)+1<=maxLen:=by decide
 show Sym _ _ _ (zV [.ptr 0 0,aS s] 4 (qg [(0,ldR l.start 1 2 3),(1,rwI l.coins),(2,rwS l.rates),(3,rwE l.entries)])) (Zo tyB noD Tryz.f132 fun S rv=>Fin S rv _ 4 (qg [(0,ldR l.start 1 4 3),(1,rwI l.coins),(3,rwE l.entries),(4,rwS (l.rates++[⟨1,1⟩ :: n]))]) 0)
 have hpos:=(jv (s:=s) (sep:=[32]) (by decide)).1
 have hle:=(jv (s:=s) (sep:=[32]) (by decide)).2
 have hit:=vZ (s:=s) (sep:=[32]) (by omega)
 rw [hs] at hpos hle hit;have hl2:s.length<=100000:=by omega
 have hx:∀ d,(L.map ql).getD 0 d=[.v (.string ⟨⟨[114,97,116,101,115]⟩⟩)]:=fun d=>by
  match L,h0,hpos with
  |w :: r,h0,_=>simp only [bf] at h0;subst h0;rfl
 have hrw:=xF L;have g1:(1:Int)<=(L.length:Int):=by omega
 have hi:yY L:=hit;have hL:L.length<=1000:=by omega
 obtain ⟨R,hR⟩:∃ R,L.drop 1=R:=⟨_,rfl⟩;have hRl:R.length<=1000:=by rw [<- hR,aM];omega
 have hRi:yY R:=fun w hw=>hi _ (aO (hR ▸ hw))
 have hD:((L.map ql).take L.length).drop 1=R.map ql:=by rw [<- hR,bl,aP (by rw [ab];exact ag _)]
 rw [hR] at hn;have b0:(([114,97,116,101,115]:List UInt8) == [99,111,105,110])=false:=by decide
 have b1:(([114,97,116,101,115]:List UInt8) == [114,97,116,101,115])=true:=by decide
 have e2:(jl R).isSome=true:=by rw [hn];rfl
 have hn2:(jl R).getD []=n:=by rw [hn];rfl
 have c1:l.rates.length+1<=maxLen:=by omega
 obtain ⟨m,hm2⟩:∃ m:List Sh,⟨1,1⟩ :: n=m:=⟨_,rfl⟩;rw [hm2]
 have e4:l.rates.map zM++[[.sl (m.map eSh)]]=(l.rates++[m]).map zM:=by rw [ae];rfl
 repeat' first|(apply nx;with_reducible constructor)|apply uq (by decide)|refine vx ?_|refine vz ?_|(refine uw env 2 rfl rfl rfl (fun Q hQ=>?_);simp only [vkt,seval,yX,UN,aS,ZC,zP,yn,WE,sent,jV,kQ,Zy,ql,wO,qa,ldR,rwI,rwS,rwE,za,ab,au,kw,vg,ve,WL,hs,hl2,hx,hpos,b0,b1,hrw,g1,hD,hRi,hRl,e2,hn2,hm2,c1,e4,ab];(try simp only [ite_and]);(repeat' first|with_reducible assumption|apply vj);all_goals (first|(refine ⟨_,_,rfl,hQ _ _ ?_⟩;clear hQ Q)|(apply ux;kernel_rfl)|omega|assumption|with_reducible rfl|skip))|((first|apply uz env|apply uk);intro Q hQ;simp only [vkt,seval,yX,UN,aS,ZC,zP,WE,wO,qa,ldR,rwI,rwS,rwE,hs,hl2,hx,hpos,b0,hrw,g1,hD,hRi,hRl,e2,hn2,hm2,c1,e4,ite_and];(repeat' first|with_reducible assumption|apply vj|intro hp);all_goals first|(apply hQ;clear hQ Q)|(apply ux;kernel_rfl)|omega|assumption|with_reducible rfl|skip)
 (simp only [vrt,results132,vkt,seval,UN,ldR,rwI,rwS,rwE];refine Fin.ok (fun j=>[0,1,2,3,5][j]?) [] ?_ ?_ ?_ ?_ ?_ rfl;all_goals (try simp only [vle,vkt,seval]))
 all_goals first|rfl|(simp;done)|exact fun i hi=>(match i,hi with|0,_=>rfl|1,_=>rfl|2,_=>rfl|3,_=>rfl)
def Ul:=vj @aI.eq_1 (vj @aB.eq_1 (vj @qi.eq_1 (vj @yx.eq_1 (vj @yE.eq_1 (vj @qC.eq_1 (vj @zM.eq_1 (vj @zC.eq_1 (vj @yI (vj @QK (@QL))))))))))
def U4 (l:Led) (s:List UInt8) (L:List (List UInt8)) (n:List Int) (hs:spS s [32]=L) (h0:L.headD []=ve) (hn:qO (L.drop 1)=some n) (hl:s.length<=900):Fn (jS TabC) prog 132 [.ptr 0 0,aS s] (qg (jg 0 (za l))) (aI 2) (qg (wE 0 [some (ldR n 1 2 3),some (rwI l.coins),some (rwS l.rates),some (rwE l.entries)])) 0:=by
 have env:=qx (A:=zZ TabC) (kC QY (kC WG (kC J8 (kC KQ kN))));refine Fn.of (A:=zZ TabC) (n0:=4) (D:=noD) (Fn0 func132 rfl (fun vs w=>by kernel_rfl) (by kernel_rfl)) (by simp) (by simp [AV.ids,aS]) wB (fun _ hB _ _=>hB) zb ?_
 have hm:(1000:Nat)+1<=maxLen:=by decide
 show Sym _ _ _ (zV [.ptr 0 0,aS s] 4 (qg [(0,ldR l.start 1 2 3),(1,rwI l.coins),(2,rwS l.rates),(3,rwE l.entries)])) (Zo tyB noD Tryz.f132 fun S rv=>Fin S rv _ 4 (qg [(0,ldR n 1 2 3),(1,rwI l.coins),(2,rwS l.rates),(3,rwE l.entries)]) 0)
 have hpos:=(jv (s:=s) (sep:=[32]) (by decide)).1
 have hle:=(jv (s:=s) (sep:=[32]) (by decide)).2
 have hit:=vZ (s:=s) (sep:=[32]) (by omega)
 rw [hs] at hpos hle hit;have hl2:s.length<=100000:=by omega
 have hx:∀ d,(L.map ql).getD 0 d=[.v (.string ⟨⟨[115,116,97,114,116]⟩⟩)]:=fun d=>by
  match L,h0,hpos with
  |w :: r,h0,_=>simp only [bf] at h0;subst h0;rfl
 have hrw:=xF L;have g1:(1:Int)<=(L.length:Int):=by omega
 have hi:yY L:=hit;have hL:L.length<=1000:=by omega
 obtain ⟨R,hR⟩:∃ R,L.drop 1=R:=⟨_,rfl⟩;have hRl:R.length<=1000:=by rw [<- hR,aM];omega
 have hRi:yY R:=fun w hw=>hi _ (aO (hR ▸ hw))
 have hD:((L.map ql).take L.length).drop 1=R.map ql:=by rw [<- hR,bl,aP (by rw [ab];exact ag _)]
 rw [hR] at hn;have b0:(([115,116,97,114,116]:List UInt8) == [99,111,105,110])=false:=by decide
 have b1:(([115,116,97,114,116]:List UInt8) == [114,97,116,101,115])=false:=by decide
 have b2:(([115,116,97,114,116]:List UInt8) == [115,116,97,114,116])=true:=by decide
 have e2:(qO R).isSome=true:=by rw [hn];rfl
 repeat' first|(apply nx;with_reducible constructor)|apply uq (by decide)|refine vx ?_|refine vz ?_|(refine uw env 2 rfl rfl rfl (fun Q hQ=>?_);simp only [vkt,seval,yX,Ul,aS,ZC,zP,yn,WE,sent,jV,kQ,Zy,ql,wO,qa,ldR,rwI,rwS,rwE,za,ab,au,kw,vg,ve,WL,hs,hl2,hx,hpos,b0,b1,b2,hrw,g1,hD,hRi,hRl,e2,hn,ab];(try simp only [ite_and]);(repeat' first|with_reducible assumption|apply vj);all_goals (first|(refine ⟨_,_,rfl,hQ _ _ ?_⟩;clear hQ Q)|(apply ux;kernel_rfl)|omega|assumption|with_reducible rfl|skip))|((first|apply uz env|apply uk);intro Q hQ;simp only [vkt,seval,yX,Ul,aS,zP,yn,wO,qa,ldR,rwI,rwS,rwE,hs,hl2,hx,hpos,b0,b1,hrw,g1,hD,hRi,hRl,hn,ite_and];(repeat' first|with_reducible assumption|apply vj|intro hp);all_goals first|(apply hQ;clear hQ Q)|(apply ux;kernel_rfl)|omega|assumption|with_reducible rfl|skip)
 (simp only [vrt,results132,vkt,seval,Ul,ldR,rwI,rwS,rwE];refine Fin.ok (fun j=>[0,1,2,3][j]?) [] ?_ ?_ ?_ ?_ ?_ rfl;all_goals (try simp only [vle,vkt,seval]))
 all_goals first|rfl|(simp;done)|exact fun i hi=>(match i,hi with|0,_=>rfl|1,_=>rfl|2,_=>rfl|3,_=>rfl)
def QdZ:=vj @aI.eq_1 (vj @aB.eq_1 (vj @qi.eq_1 (vj @yx.eq_1 (vj @yE.eq_1 (vj @qC.eq_1 (vj @zM.eq_1 (vj @zC.eq_1 (vj @yI (vj @QK (@QL))))))))))
def QbU (l:Led) (s:List UInt8) (L:List (List UInt8)) (hs:spS s [32]=L) (h0:L.headD []=WL) (h1:L.length=1) (hl:s.length<=900):Fn (jS TabC) prog 132 [.ptr 0 0,aS s] (qg (jg 0 (za l))) (aI 4) (qg (wE 0 [some (ldR l.start 1 2 3),some (rwI l.coins),some (rwS l.rates),some (rwE l.entries)])) 0:=by
 have env:=qx (A:=zZ TabC) (kC QY (kC WG (kC J8 (kC KQ kN))));refine Fn.of (A:=zZ TabC) (n0:=4) (D:=noD) (Fn0 func132 rfl (fun vs w=>by kernel_rfl) (by kernel_rfl)) (by simp) (by simp [AV.ids,aS]) wB (fun _ hB _ _=>hB) zb ?_
 have hm:(1000:Nat)+1<=maxLen:=by decide
 show Sym _ _ _ (zV [.ptr 0 0,aS s] 4 (qg [(0,ldR l.start 1 2 3),(1,rwI l.coins),(2,rwS l.rates),(3,rwE l.entries)])) (Zo tyB noD Tryz.f132 fun S rv=>Fin S rv _ 4 (qg [(0,ldR l.start 1 2 3),(1,rwI l.coins),(2,rwS l.rates),(3,rwE l.entries)]) 0)
 have hpos:=(jv (s:=s) (sep:=[32]) (by decide)).1
 have hle:=(jv (s:=s) (sep:=[32]) (by decide)).2
 have hit:=vZ (s:=s) (sep:=[32]) (by omega)
 rw [hs] at hpos hle hit;have hl2:s.length<=100000:=by omega
 have hx:∀ d,(L.map ql).getD 0 d=[.v (.string ⟨⟨[98,97,108,97,110,99,101]⟩⟩)]:=fun d=>by
  match L,h0,hpos with
  |w :: r,h0,_=>simp only [bf] at h0;subst h0;rfl
 have hrw:=xF L;have g1:(1:Int)<=(L.length:Int):=by omega
 have hi:yY L:=hit;have hL:L.length<=1000:=by omega
 obtain ⟨R,hR⟩:∃ R,L.drop 1=R:=⟨_,rfl⟩;have hRl:R.length<=1000:=by rw [<- hR,aM];omega
 have hRi:yY R:=fun w hw=>hi _ (aO (hR ▸ hw))
 have hD:((L.map ql).take L.length).drop 1=R.map ql:=by rw [<- hR,bl,aP (by rw [ab];exact ag _)]
 have b0:(([98,97,108,97,110,99,101]:List UInt8) == [99,111,105,110])=false:=by decide
 have b1:(([98,97,108,97,110,99,101]:List UInt8) == [114,97,116,101,115])=false:=by decide
 have b2:(([98,97,108,97,110,99,101]:List UInt8) == [115,116,97,114,116])=false:=by decide
 have b3:(([98,97,108,97,110,99,101]:List UInt8) == [98,97,108,97,110,99,101])=true:=by decide
 have d1:decide ((1:Int) < (L.length:Int))=false:=decide_eq_false (by omega)
 repeat' first|(apply nx;with_reducible constructor)|apply uq (by decide)|refine vx ?_|refine vz ?_|(refine uw env 2 rfl rfl rfl (fun Q hQ=>?_);simp only [vkt,seval,yX,QdZ,aS,ZC,zP,yn,WE,sent,jV,kQ,Zy,ql,wO,qa,ldR,rwI,rwS,rwE,za,ab,au,kw,vg,ve,WL,hs,hl2,hx,hpos,b0,b1,b2,b3,d1,ab];(try simp only [ite_and]);(repeat' first|with_reducible assumption|apply vj);all_goals (first|(refine ⟨_,_,rfl,hQ _ _ ?_⟩;clear hQ Q)|(apply ux;kernel_rfl)|omega|assumption|with_reducible rfl|skip))|((first|apply uz env|apply uk);intro Q hQ;simp only [vkt,seval,yX,aS,zP,qa,ldR,rwI,rwS,rwE,hs,hl2,hx,hpos,b0,b1,b2,d1,ite_and];(repeat' first|with_reducible assumption|apply vj|intro hp);all_goals first|(apply hQ;clear hQ Q)|(apply ux;kernel_rfl)|omega|assumption|with_reducible rfl|skip)
 (simp only [vrt,results132,vkt,seval,QdZ,ldR,rwI,rwS,rwE];refine Fin.ok (fun j=>[0,1,2,3][j]?) [] ?_ ?_ ?_ ?_ ?_ rfl;all_goals (try simp only [vle,vkt,seval]))
 all_goals first|rfl|(simp;done)|exact fun i hi=>(match i,hi with|0,_=>rfl|1,_=>rfl|2,_=>rfl|3,_=>rfl)
def Uf:=vj @aI.eq_1 (vj @aB.eq_1 (vj @qi.eq_1 (vj @yx.eq_1 (vj @yE.eq_1 (vj @qC.eq_1 (vj @zM.eq_1 (vj @zC.eq_1 (vj @yI (vj @QK (@QL))))))))))
def U7 (l:Led) (s:List UInt8) (L:List (List UInt8)) (w0:List UInt8) (n:Ent) (hs:spS s [32]=L) (h0:L.headD []=w0) (h1:w0 ≠ kw) (h2:w0 ≠ vg) (h3:w0 ≠ ve) (h4:w0 ≠ WL) (hn:xQ L=some n) (hc:l.entries.length<=1000) (hl:s.length<=900):Fn (jS TabC) prog 132 [.ptr 0 0,aS s] (qg (jg 0 (za l))) (aI 3) (qg (wE 0 [some (ldR l.start 1 2 4),some (rwI l.coins),some (rwS l.rates),none,some (rwE (l.entries++[n]))])) 0:=by
 have env:=qx (A:=zZ TabC) (kC QY (kC WG (kC J8 (kC KQ kN))));refine Fn.of (A:=zZ TabC) (n0:=4) (D:=noD) (Fn0 func132 rfl (fun vs w=>by kernel_rfl) (by kernel_rfl)) (by simp) (by simp [AV.ids,aS]) wB (fun _ hB _ _=>hB) zb ?_
 have hm:(1000:Nat)+1<=maxLen:=by decide
 show Sym _ _ _ (zV [.ptr 0 0,aS s] 4 (qg [(0,ldR l.start 1 2 3),(1,rwI l.coins),(2,rwS l.rates),(3,rwE l.entries)])) (Zo tyB noD Tryz.f132 fun S rv=>Fin S rv _ 4 (qg [(0,ldR l.start 1 2 4),(1,rwI l.coins),(2,rwS l.rates),(4,rwE (l.entries++[n]))]) 0)
 have hpos:=(jv (s:=s) (sep:=[32]) (by decide)).1
 have hle:=(jv (s:=s) (sep:=[32]) (by decide)).2
 have hit:=vZ (s:=s) (sep:=[32]) (by omega)
 rw [hs] at hpos hle hit;have hl2:s.length<=100000:=by omega
 have hx:∀ d,(L.map ql).getD 0 d=[.v (.string ⟨⟨w0⟩⟩)]:=fun d=>by
  match L,h0,hpos with
  |w :: r,h0,_=>simp only [bf] at h0;subst h0;rfl
 have hrw:=xF L;have g1:(1:Int)<=(L.length:Int):=by omega
 have hi:yY L:=hit;have hL:L.length<=1000:=by omega
 obtain ⟨R,hR⟩:∃ R,L.drop 1=R:=⟨_,rfl⟩;have hRl:R.length<=1000:=by rw [<- hR,aM];omega
 have hRi:yY R:=fun w hw=>hi _ (aO (hR ▸ hw))
 have hD:((L.map ql).take L.length).drop 1=R.map ql:=by rw [<- hR,bl,aP (by rw [ab];exact ag _)]
 have b0:(w0 == [99,111,105,110])=false:=beq_eq_false_iff_ne.2 h1;have b1:(w0 == [114,97,116,101,115])=false:=beq_eq_false_iff_ne.2 h2
 have b2:(w0 == [115,116,97,114,116])=false:=beq_eq_false_iff_ne.2 h3;have b3:(w0 == [98,97,108,97,110,99,101])=false:=beq_eq_false_iff_ne.2 h4
 have e2:(xQ L).isSome=true:=by rw [hn];rfl
 have hn2:(xQ L).getD default=n:=by rw [hn];rfl
 have c1:l.entries.length+1<=maxLen:=by omega
 have e4:l.entries.map zC++[[.v (.int .i64 n.day),.v (.int .i64 n.kind),.v (.int .i64 n.coin),.v (.int .i64 n.to),.v (.int .i64 n.amount),.v (.int .i64 n.got)]]=(l.entries++[n]).map zC:=by rw [ae];rfl
 repeat' first|(apply nx;with_reducible constructor)|apply uq (by decide)|refine vx ?_|refine vz ?_|(refine uw env 2 rfl rfl rfl (fun Q hQ=>?_);simp only [vkt,seval,yX,Uf,aS,ZC,zP,yn,WE,sent,jV,kQ,Zy,ql,wO,qa,ldR,rwI,rwS,rwE,za,ab,au,kw,vg,ve,WL,hs,hl2,hx,hpos,b0,b1,b2,b3,hi,hL,e2,hn2,c1,e4,ab];(try simp only [ite_and]);(repeat' first|with_reducible assumption|apply vj);all_goals (first|(refine ⟨_,_,rfl,hQ _ _ ?_⟩;clear hQ Q)|(apply ux;kernel_rfl)|omega|assumption|with_reducible rfl|skip))|((first|apply uz env|apply uk);intro Q hQ;simp only [vkt,seval,yX,Uf,aS,zP,sent,wO,qa,ldR,rwI,rwS,rwE,hs,hl2,hx,hpos,b0,b1,b2,b3,hi,hL,e2,hn2,c1,e4,ite_and];(repeat' first|with_reducible assumption|apply vj|intro hp);all_goals first|(apply hQ;clear hQ Q)|(apply ux;kernel_rfl)|omega|assumption|with_reducible rfl|skip)
 (simp only [vrt,results132,vkt,seval,Uf,ldR,rwI,rwS,rwE];refine Fin.ok (fun j=>[0,1,2,3,5][j]?) [] ?_ ?_ ?_ ?_ ?_ rfl;all_goals (try simp only [vle,vkt,seval]))
 all_goals first|rfl|(simp;done)|exact fun i hi=>(match i,hi with|0,_=>rfl|1,_=>rfl|2,_=>rfl|3,_=>rfl)
def jo:=vj @ty3 (vj @ty9 (vj @jh (vj @JR (vj @QD (vj @WK (vj @Yt (vj @vU (vj @vQ (vj @vR (vj @Lm (vj @ti3.eq_1 (vj @ti9.eq_1 (vj @jc.eq_1 (vj @Wj.eq_1 (vj @kI.eq_1 (vj @Zp.eq_1 (vj @WO.eq_1 (vj @vD.eq_1 (vj @yP.eq_1 (vj @yS.eq_1 @Vy.eq_1))))))))))))))))))))
def Qij:=vj @aI.eq_1 (vj @aB.eq_1 (vj @qi.eq_1 (vj @yx.eq_1 (vj @yE.eq_1 (vj @qC.eq_1 (vj @zM.eq_1 (vj @zC.eq_1 (vj @yI (vj @QK (@QL))))))))))
def QcV (l:Led) (s:List UInt8) (L:List (List UInt8)) (hs:spS s [32]=L) (h0:L.headD []=kw) (hn:qO (L.drop 1)=none) (hl:s.length<=900):FnX refusal (jS TabC) prog 132 [.ptr 0 0,aS s] (qg (jg 0 (za l))) (qg (wE 0 ((za l).map some))):=by
 have env:=qx (A:=zZ TabC) (kC QY (kC WG (kC J8 (kC KQ kN))));refine FnX.of (A:=zZ TabC) (n0:=4) (Fn0 func132 rfl (fun vs w=>by kernel_rfl) (by kernel_rfl)) (by simp) (by simp [AV.ids,aS]) wB (fun _ hB _ _=>hB) ?_
 show Sym _ _ _ (zV [.ptr 0 0,aS s] 4 (qg [(0,ldR l.start 1 2 3),(1,rwI l.coins),(2,rwS l.rates),(3,rwE l.entries)])) fun e S=>e=.panic refusal/\S.d=[]/\Fin S .junk .junk 4 (qg [(0,ldR l.start 1 2 3),(1,rwI l.coins),(2,rwS l.rates),(3,rwE l.entries)]) 0
 have hpos:=(jv (s:=s) (sep:=[32]) (by decide)).1
 have hle:=(jv (s:=s) (sep:=[32]) (by decide)).2
 have hit:=vZ (s:=s) (sep:=[32]) (by omega)
 rw [hs] at hpos hle hit;have hl2:s.length<=100000:=by omega
 have hx:∀ d,(L.map ql).getD 0 d=[.v (.string ⟨⟨[99,111,105,110]⟩⟩)]:=fun d=>by
  match L,h0,hpos with
  |w :: r,h0,_=>simp only [bf] at h0;subst h0;rfl
 have hrw:=xF L;have g1:(1:Int)<=(L.length:Int):=by omega
 have hi:yY L:=hit;have hL:L.length<=1000:=by omega
 obtain ⟨R,hR⟩:∃ R,L.drop 1=R:=⟨_,rfl⟩;have hRl:R.length<=1000:=by rw [<- hR,aM];omega
 have hRi:yY R:=fun w hw=>hi _ (aO (hR ▸ hw))
 have hD:((L.map ql).take L.length).drop 1=R.map ql:=by rw [<- hR,bl,aP (by rw [ab];exact ag _)]
 rw [hR] at hn;have b0:(([99,111,105,110]:List UInt8) == [99,111,105,110])=true:=by decide
 have hq:jV [.sl (R.map ql)]:=⟨R,rfl,hn,hRi,hRl⟩
 repeat' first|(apply nx;with_reducible constructor)|apply uq (by decide)|refine vx ?_|refine vz ?_|(refine uw env 2 rfl rfl rfl (fun Q hQ=>?_);simp only [vkt,seval,jo,Qij,aS,ZC,zP,yn,WE,sent,jV,kQ,Zy,ql,wO,qa,ldR,rwI,rwS,rwE,za,ab,au,kw,vg,ve,WL, hs,hl2,hx,hpos,b0,ab,hrw,g1,hD,hq];(try simp only [ite_and]);(repeat' first|with_reducible assumption|apply vj);all_goals (first|(refine ⟨_,_,rfl,hQ _ _ ?_⟩;clear hQ Q)|(apply ux;kernel_rfl)|omega|assumption|with_reducible rfl|skip))|(refine vq env Qhi 7 [0,1,2,3,4,5,6] rfl rfl (by kernel_rfl) (fun Q hQ=>?_);simp only [Zc,Ym,QcY,QhC,di,eb,cw,aK,bv,vkt,seval,jo,jV,hrw,g1,hD];(try simp only [ite_and]);(repeat' first|with_reducible assumption|apply vj|intro hp);all_goals (first|(refine hQ _ _ _ ?_;clear hQ Q)|(apply ux;kernel_rfl)|omega|assumption|(with_reducible rfl)))|((first|apply uz env|apply uk);intro Q hQ;simp only [vkt,seval,jo,aS,zP,qa,ldR,rwI,rwS,rwE,hs,hl2,hx,hpos,ite_and];(repeat' first|with_reducible assumption|apply vj|intro hp);all_goals first|(apply hQ;clear hQ Q)|(apply ux;kernel_rfl)|omega|assumption|with_reducible rfl|skip)
 (refine ⟨rfl,rfl, ?_⟩;refine Fin.ok (fun j=>[0,1,2,3][j]?)   [] ?_ ?_ ?_ ?_ ?_ rfl;all_goals (try simp only [St.nil,vle,vkt,seval,ldR,rwI,rwS,rwE]))
 all_goals first|rfl|(simp;done)|exact fun i hi=>(match i,hi with|0,_=>rfl|1,_=>rfl|2,_=>rfl|3,_=>rfl)
def QjS:=vj @aI.eq_1 (vj @aB.eq_1 (vj @qi.eq_1 (vj @yx.eq_1 (vj @yE.eq_1 (vj @qC.eq_1 (vj @zM.eq_1 (vj @zC.eq_1 (vj @yI (vj @QK (@QL))))))))))
def Qag (l:Led) (s:List UInt8) (L:List (List UInt8)) (hs:spS s [32]=L) (h0:L.headD []=vg) (hn:jl (L.drop 1)=none) (hl:s.length<=900):FnX refusal (jS TabC) prog 132 [.ptr 0 0,aS s] (qg (jg 0 (za l))) (qg (wE 0 ((za l).map some))):=by
 have env:=qx (A:=zZ TabC) (kC QY (kC WG (kC J8 (kC KQ kN))));refine FnX.of (A:=zZ TabC) (n0:=4) (Fn0 func132 rfl (fun vs w=>by kernel_rfl) (by kernel_rfl)) (by simp) (by simp [AV.ids,aS]) wB (fun _ hB _ _=>hB) ?_
 show Sym _ _ _ (zV [.ptr 0 0,aS s] 4 (qg [(0,ldR l.start 1 2 3),(1,rwI l.coins),(2,rwS l.rates),(3,rwE l.entries)])) fun e S=>e=.panic refusal/\S.d=[]/\Fin S .junk .junk 4 (qg [(0,ldR l.start 1 2 3),(1,rwI l.coins),(2,rwS l.rates),(3,rwE l.entries)]) 0
 have hpos:=(jv (s:=s) (sep:=[32]) (by decide)).1
 have hle:=(jv (s:=s) (sep:=[32]) (by decide)).2
 have hit:=vZ (s:=s) (sep:=[32]) (by omega)
 rw [hs] at hpos hle hit;have hl2:s.length<=100000:=by omega
 have hx:∀ d,(L.map ql).getD 0 d=[.v (.string ⟨⟨[114,97,116,101,115]⟩⟩)]:=fun d=>by
  match L,h0,hpos with
  |w :: r,h0,_=>simp only [bf] at h0;subst h0;rfl
 have hrw:=xF L;have g1:(1:Int)<=(L.length:Int):=by omega
 have hi:yY L:=hit;have hL:L.length<=1000:=by omega
 obtain ⟨R,hR⟩:∃ R,L.drop 1=R:=⟨_,rfl⟩;have hRl:R.length<=1000:=by rw [<- hR,aM];omega
 have hRi:yY R:=fun w hw=>hi _ (aO (hR ▸ hw))
 have hD:((L.map ql).take L.length).drop 1=R.map ql:=by rw [<- hR,bl,aP (by rw [ab];exact ag _)]
 rw [hR] at hn;have b0:(([114,97,116,101,115]:List UInt8) == [99,111,105,110])=false:=by decide
 have b1:(([114,97,116,101,115]:List UInt8) == [114,97,116,101,115])=true:=by decide
 have hq:kQ [.sl (R.map ql)]:=⟨R,rfl,hn,hRi,hRl⟩
 repeat' first|(apply nx;with_reducible constructor)|apply uq (by decide)|refine vx ?_|refine vz ?_|(refine uw env 2 rfl rfl rfl (fun Q hQ=>?_);simp only [vkt,seval,jo,QjS,aS,ZC,zP,yn,WE,sent,jV,kQ,Zy,ql,wO,qa,ldR,rwI,rwS,rwE,za,ab,au,kw,vg,ve,WL, hs,hl2,hx,hpos,b0,b1,ab,hrw,g1,hD,hq];(try simp only [ite_and]);(repeat' first|with_reducible assumption|apply vj);all_goals (first|(refine ⟨_,_,rfl,hQ _ _ ?_⟩;clear hQ Q)|(apply ux;kernel_rfl)|omega|assumption|with_reducible rfl|skip))|(refine vq env xRats 7 [0,1,2,3,4,5,6] rfl rfl (by kernel_rfl) (fun Q hQ=>?_);simp only [Zc,Ym,QcY,QhC,di,eb,cw,aK,bv,vkt,seval,jo,kQ,hrw,g1,hD];(try simp only [ite_and]);(repeat' first|with_reducible assumption|apply vj|intro hp);all_goals (first|(refine hQ _ _ _ ?_;clear hQ Q)|(apply ux;kernel_rfl)|omega|assumption|(with_reducible rfl)))|((first|apply uz env|apply uk);intro Q hQ;simp only [vkt,seval,jo,aS,zP,qa,ldR,rwI,rwS,rwE,hs,hl2,hx,hpos,b0,ite_and];(repeat' first|with_reducible assumption|apply vj|intro hp);all_goals first|(apply hQ;clear hQ Q)|(apply ux;kernel_rfl)|omega|assumption|with_reducible rfl|skip)
 (refine ⟨rfl,rfl, ?_⟩;refine Fin.ok (fun j=>[0,1,2,3][j]?)   [] ?_ ?_ ?_ ?_ ?_ rfl;all_goals (try simp only [St.nil,vle,vkt,seval,ldR,rwI,rwS,rwE]))
 all_goals first|rfl|(simp;done)|exact fun i hi=>(match i,hi with|0,_=>rfl|1,_=>rfl|2,_=>rfl|3,_=>rfl)
def QiA:=vj @aI.eq_1 (vj @aB.eq_1 (vj @qi.eq_1 (vj @yx.eq_1 (vj @yE.eq_1 (vj @qC.eq_1 (vj @zM.eq_1 (vj @zC.eq_1 (vj @yI (vj @QK (@QL))))))))))
def LB (l:Led) (s:List UInt8) (L:List (List UInt8)) (hs:spS s [32]=L) (h0:L.headD []=ve) (hn:qO (L.drop 1)=none) (hl:s.length<=900):FnX refusal (jS TabC) prog 132 [.ptr 0 0,aS s] (qg (jg 0 (za l))) (qg (wE 0 ((za l).map some))):=by
 have env:=qx (A:=zZ TabC) (kC QY (kC WG (kC J8 (kC KQ kN))));refine FnX.of (A:=zZ TabC) (n0:=4) (Fn0 func132 rfl (fun vs w=>by kernel_rfl) (by kernel_rfl)) (by simp) (by simp [AV.ids,aS]) wB (fun _ hB _ _=>hB) ?_
 show Sym _ _ _ (zV [.ptr 0 0,aS s] 4 (qg [(0,ldR l.start 1 2 3),(1,rwI l.coins),(2,rwS l.rates),(3,rwE l.entries)])) fun e S=>e=.panic refusal/\S.d=[]/\Fin S .junk .junk 4 (qg [(0,ldR l.start 1 2 3),(1,rwI l.coins),(2,rwS l.rates),(3,rwE l.entries)]) 0
 have hpos:=(jv (s:=s) (sep:=[32]) (by decide)).1
 have hle:=(jv (s:=s) (sep:=[32]) (by decide)).2
 have hit:=vZ (s:=s) (sep:=[32]) (by omega)
 rw [hs] at hpos hle hit;have hl2:s.length<=100000:=by omega
 have hx:∀ d,(L.map ql).getD 0 d=[.v (.string ⟨⟨[115,116,97,114,116]⟩⟩)]:=fun d=>by
  match L,h0,hpos with
  |w :: r,h0,_=>simp only [bf] at h0;subst h0;rfl
 have hrw:=xF L;have g1:(1:Int)<=(L.length:Int):=by omega
 have hi:yY L:=hit;have hL:L.length<=1000:=by omega
 obtain ⟨R,hR⟩:∃ R,L.drop 1=R:=⟨_,rfl⟩;have hRl:R.length<=1000:=by rw [<- hR,aM];omega
 have hRi:yY R:=fun w hw=>hi _ (aO (hR ▸ hw))
 have hD:((L.map ql).take L.length).drop 1=R.map ql:=by rw [<- hR,bl,aP (by rw [ab];exact ag _)]
 rw [hR] at hn;have b0:(([115,116,97,114,116]:List UInt8) == [99,111,105,110])=false:=by decide
 have b1:(([115,116,97,114,116]:List UInt8) == [114,97,116,101,115])=false:=by decide
 have b2:(([115,116,97,114,116]:List UInt8) == [115,116,97,114,116])=true:=by decide
 have hq:jV [.sl (R.map ql)]:=⟨R,rfl,hn,hRi,hRl⟩
 repeat' first|(apply nx;with_reducible constructor)|apply uq (by decide)|refine vx ?_|refine vz ?_|(refine uw env 2 rfl rfl rfl (fun Q hQ=>?_);simp only [vkt,seval,jo,QiA,aS,ZC,zP,yn,WE,sent,jV,kQ,Zy,ql,wO,qa,ldR,rwI,rwS,rwE,za,ab,au,kw,vg,ve,WL, hs,hl2,hx,hpos,b0,b1,b2,ab,hrw,g1,hD,hq];(try simp only [ite_and]);(repeat' first|with_reducible assumption|apply vj);all_goals (first|(refine ⟨_,_,rfl,hQ _ _ ?_⟩;clear hQ Q)|(apply ux;kernel_rfl)|omega|assumption|with_reducible rfl|skip))|(refine uv env Qhi 3 rfl rfl (fun Q hQ=>?_);simp only [Zc,Ym,vkt,seval,jo,jV,hrw,g1,hD];(try simp only [ite_and]);(repeat' first|with_reducible assumption|apply vj|intro hp);all_goals (first|(refine hQ _ _ _ ?_;clear hQ Q)|(apply ux;kernel_rfl)|omega|assumption|(with_reducible rfl)))|((first|apply uz env|apply uk);intro Q hQ;simp only [vkt,seval,jo,aS,zP,qa,ldR,rwI,rwS,rwE,hs,hl2,hx,hpos,b0,b1,ite_and];(repeat' first|with_reducible assumption|apply vj|intro hp);all_goals first|(apply hQ;clear hQ Q)|(apply ux;kernel_rfl)|omega|assumption|with_reducible rfl|skip)
 (refine ⟨rfl,rfl, ?_⟩;refine Fin.ok (fun j=>[0,1,2,3][j]?)   [] ?_ ?_ ?_ ?_ ?_ rfl;all_goals (try simp only [vle,vkt,seval,ldR,rwI,rwS,rwE]))
 all_goals first|rfl|(simp;done)|exact fun i hi=>(match i,hi with|0,_=>rfl|1,_=>rfl|2,_=>rfl|3,_=>rfl)
def Qeu (l:Led) (s:List UInt8) (L:List (List UInt8)) (hs:spS s [32]=L) (h0:L.headD []=WL) (h1:L.length ≠ 1) (hl:s.length<=900):FnX refusal (jS TabC) prog 132 [.ptr 0 0,aS s] (qg (jg 0 (za l))) (qg (wE 0 ((za l).map some))):=by
 have env:=qx (A:=zZ TabC) (kC QY (kC WG (kC J8 (kC KQ kN))));refine FnX.of (A:=zZ TabC) (n0:=4) (Fn0 func132 rfl (fun vs w=>by kernel_rfl) (by kernel_rfl)) (by simp) (by simp [AV.ids,aS]) wB (fun _ hB _ _=>hB) ?_
 show Sym _ _ _ (zV [.ptr 0 0,aS s] 4 (qg [(0,ldR l.start 1 2 3),(1,rwI l.coins),(2,rwS l.rates),(3,rwE l.entries)])) fun e S=>e=.panic refusal/\S.d=[]/\Fin S .junk .junk 4 (qg [(0,ldR l.start 1 2 3),(1,rwI l.coins),(2,rwS l.rates),(3,rwE l.entries)]) 0
 have hpos:=(jv (s:=s) (sep:=[32]) (by decide)).1
 have hle:=(jv (s:=s) (sep:=[32]) (by decide)).2
 have hit:=vZ (s:=s) (sep:=[32]) (by omega)
 rw [hs] at hpos hle hit;have hl2:s.length<=100000:=by omega
 have hx:∀ d,(L.map ql).getD 0 d=[.v (.string ⟨⟨[98,97,108,97,110,99,101]⟩⟩)]:=fun d=>by
  match L,h0,hpos with
  |w :: r,h0,_=>simp only [bf] at h0;subst h0;rfl
 have hrw:=xF L;have g1:(1:Int)<=(L.length:Int):=by omega
 have hi:yY L:=hit;have hL:L.length<=1000:=by omega
 obtain ⟨R,hR⟩:∃ R,L.drop 1=R:=⟨_,rfl⟩;have hRl:R.length<=1000:=by rw [<- hR,aM];omega
 have hRi:yY R:=fun w hw=>hi _ (aO (hR ▸ hw))
 have hD:((L.map ql).take L.length).drop 1=R.map ql:=by rw [<- hR,bl,aP (by rw [ab];exact ag _)]
 have b0:(([98,97,108,97,110,99,101]:List UInt8) == [99,111,105,110])=false:=by decide
 have b1:(([98,97,108,97,110,99,101]:List UInt8) == [114,97,116,101,115])=false:=by decide
 have b2:(([98,97,108,97,110,99,101]:List UInt8) == [115,116,97,114,116])=false:=by decide
 have b3:(([98,97,108,97,110,99,101]:List UInt8) == [98,97,108,97,110,99,101])=true:=by decide
 have d1:decide ((1:Int) < (L.length:Int))=true:=decide_eq_true (by omega)
 repeat' first|(apply nx;with_reducible constructor)|apply uq (by decide)|refine vx ?_|refine vz ?_|(refine uw env 2 rfl rfl rfl (fun Q hQ=>?_);simp only [vkt,seval,jo];(try simp only [ite_and]);(repeat' first|with_reducible assumption|apply vj);all_goals (first|(refine ⟨_,_,rfl,hQ _ _ ?_⟩;clear hQ Q)|(apply ux;kernel_rfl)|omega|assumption|with_reducible rfl|skip))|((first|apply uz env|apply uk);intro Q hQ;simp only [vkt,seval,jo,aS,zP,qa,ldR,rwI,rwS,rwE,hs,hl2,hx,hpos,b0,b1,b2,d1,ite_and];(repeat' first|with_reducible assumption|apply vj|intro hp);all_goals first|(apply hQ;clear hQ Q)|(apply ux;kernel_rfl)|omega|assumption|with_reducible rfl|skip)
 (refine ⟨rfl,rfl, ?_⟩;refine Fin.ok (fun j=>[0,1,2,3][j]?)   [] ?_ ?_ ?_ ?_ ?_ rfl;all_goals (try simp only [vle,vkt,seval,ldR,rwI,rwS,rwE]))
 all_goals first|rfl|(simp;done)|exact fun i hi=>(match i,hi with|0,_=>rfl|1,_=>rfl|2,_=>rfl|3,_=>rfl)
def Qi7:=vj @aI.eq_1 (vj @aB.eq_1 (vj @qi.eq_1 (vj @yx.eq_1 (vj @yE.eq_1 (vj @qC.eq_1 (vj @zM.eq_1 (vj @zC.eq_1 (vj @yI (vj @QK (@QL))))))))))
def Qah (l:Led) (s:List UInt8) (L:List (List UInt8)) (w0:List UInt8) (hs:spS s [32]=L) (h0:L.headD []=w0) (h1:w0 ≠ kw) (h2:w0 ≠ vg) (h3:w0 ≠ ve) (h4:w0 ≠ WL) (hn:xQ L=none) (hl:s.length<=900):FnX refusal (jS TabC) prog 132 [.ptr 0 0,aS s] (qg (jg 0 (za l))) (qg (wE 0 ((za l).map some))):=by
 have env:=qx (A:=zZ TabC) (kC QY (kC WG (kC J8 (kC KQ kN))));refine FnX.of (A:=zZ TabC) (n0:=4) (Fn0 func132 rfl (fun vs w=>by kernel_rfl) (by kernel_rfl)) (by simp) (by simp [AV.ids,aS]) wB (fun _ hB _ _=>hB) ?_
 show Sym _ _ _ (zV [.ptr 0 0,aS s] 4 (qg [(0,ldR l.start 1 2 3),(1,rwI l.coins),(2,rwS l.rates),(3,rwE l.entries)])) fun e S=>e=.panic refusal/\S.d=[]/\Fin S .junk .junk 4 (qg [(0,ldR l.start 1 2 3),(1,rwI l.coins),(2,rwS l.rates),(3,rwE l.entries)]) 0
 have hpos:=(jv (s:=s) (sep:=[32]) (by decide)).1
 have hle:=(jv (s:=s) (sep:=[32]) (by decide)).2
 have hit:=vZ (s:=s) (sep:=[32]) (by omega)
 rw [hs] at hpos hle hit;have hl2:s.length<=100000:=by omega
 have hx:∀ d,(L.map ql).getD 0 d=[.v (.string ⟨⟨w0⟩⟩)]:=fun d=>by
  match L,h0,hpos with
  |w :: r,h0,_=>simp only [bf] at h0;subst h0;rfl
 have hrw:=xF L;have g1:(1:Int)<=(L.length:Int):=by omega
 have hi:yY L:=hit;have hL:L.length<=1000:=by omega
 obtain ⟨R,hR⟩:∃ R,L.drop 1=R:=⟨_,rfl⟩;have hRl:R.length<=1000:=by rw [<- hR,aM];omega
 have hRi:yY R:=fun w hw=>hi _ (aO (hR ▸ hw))
 have hD:((L.map ql).take L.length).drop 1=R.map ql:=by rw [<- hR,bl,aP (by rw [ab];exact ag _)]
 have b0:(w0 == [99,111,105,110])=false:=beq_eq_false_iff_ne.2 h1;have b1:(w0 == [114,97,116,101,115])=false:=beq_eq_false_iff_ne.2 h2
 have b2:(w0 == [115,116,97,114,116])=false:=beq_eq_false_iff_ne.2 h3;have b3:(w0 == [98,97,108,97,110,99,101])=false:=beq_eq_false_iff_ne.2 h4
 have hq:Zy [.sl (L.map ql)]:=⟨L,rfl,hn,hi,hL⟩
 repeat' first|(apply nx;with_reducible constructor)|apply uq (by decide)|refine vx ?_|refine vz ?_|(refine uw env 2 rfl rfl rfl (fun Q hQ=>?_);simp only [vkt,seval,jo,Qi7,aS,ZC,zP,yn,WE,sent,jV,kQ,Zy,ql,wO,qa,ldR,rwI,rwS,rwE,za,ab,au,kw,vg,ve,WL, hs,hl2,hx,hpos,b0,b1,b2,b3,ab,hq];(try simp only [ite_and]);(repeat' first|with_reducible assumption|apply vj);all_goals (first|(refine ⟨_,_,rfl,hQ _ _ ?_⟩;clear hQ Q)|(apply ux;kernel_rfl)|omega|assumption|with_reducible rfl|skip))|(refine vq env xEnt 6 [0,1,2,3,4,5] rfl rfl (by kernel_rfl) (fun Q hQ=>?_);simp only [Zc,Ym,QcY,QhC,di,eb,cw,aK,bv,vkt,seval,jo,Zy];(try simp only [ite_and]);(repeat' first|with_reducible assumption|apply vj|intro hp);all_goals (first|(refine hQ _ _ _ ?_;clear hQ Q)|(apply ux;kernel_rfl)|omega|assumption|(with_reducible rfl)))|((first|apply uz env|apply uk);intro Q hQ;simp only [vkt,seval,jo,aS,zP,qa,ldR,rwI,rwS,rwE,hs,hl2,hx,hpos,b0,b1,b2,b3,ite_and];(repeat' first|with_reducible assumption|apply vj|intro hp);all_goals first|(apply hQ;clear hQ Q)|(apply ux;kernel_rfl)|omega|assumption|with_reducible rfl|skip)
 (refine ⟨rfl,rfl, ?_⟩;refine Fin.ok (fun j=>[0,1,2,3][j]?)   [] ?_ ?_ ?_ ?_ ?_ rfl;all_goals (try simp only [St.nil,vle,vkt,seval,ldR,rwI,rwS,rwE]))
 all_goals first|rfl|(simp;done)|exact fun i hi=>(match i,hi with|0,_=>rfl|1,_=>rfl|2,_=>rfl|3,_=>rfl)
def tak_x (l:Led) (s:List UInt8) (hl:s.length<=900) (h:xB s=none):FnX refusal (jS TabC) prog 132 [.ptr 0 0,aS s] (qg (jg 0 (za l))) (qg (wE 0 ((za l).map some))):=by
 unfold xB Xg at h;obtain ⟨L,hs⟩:∃ L,spS s [32]=L:=⟨_,rfl⟩
 rw [hs] at h;split at h
 ·exact QcV l s L hs ‹_› (by simpa using h) hl
 ·split at h
  ·exact Qag l s L hs ‹_› (by simpa using h) hl
  ·split at h
   ·exact LB l s L hs ‹_› (by simpa using h) hl
   ·split at h
    ·split at h
     ·cases h
     ·exact Qeu l s L hs ‹_› ‹_› hl
    ·exact Qah l s L _ hs rfl ‹_› ‹_› ‹_› ‹_› (by simpa using h) hl
def qE (l:Led):Ln->Led
 |.coin n=>{ l with coins:=l.coins++[n] }
 |.rates r=>{ l with rates:=l.rates++[r] }
 |.start n=>{ l with start:=n }
 |.bal=>l
 |.entry x=>{ l with entries:=l.entries++[x] }
def qb:Ln->Int
 |.coin _=>0
 |.rates _=>1
 |.start _=>2
 |.entry _=>3
 |.bal=>4
def qK (l:Led):Ln->List (Option AObj)
 |.coin n=>[some (ldR l.start 4 2 3),none,some (rwS l.rates),some (rwE l.entries),some (rwI (l.coins++[n]))]
 |.rates r=>[some (ldR l.start 1 4 3),some (rwI l.coins),none,some (rwE l.entries),some (rwS (l.rates++[r]))]
 |.start n=>[some (ldR n 1 2 3),some (rwI l.coins),some (rwS l.rates),some (rwE l.entries)]
 |.bal=>[some (ldR l.start 1 2 3),some (rwI l.coins),some (rwS l.rates),some (rwE l.entries)]
 |.entry x=>[some (ldR l.start 1 2 4),some (rwI l.coins),some (rwS l.rates),none,some (rwE (l.entries++[x]))]
def Qlh (l:Led) (s:List UInt8) (x:Ln) (hl:s.length<=900) (h:xB s=some x) (hc:l.coins.length<=1000) (hr:l.rates.length<=1000) (he:l.entries.length<=1000):Fn (jS TabC) prog 132 [.ptr 0 0,aS s] (qg (jg 0 (za l))) (aI (qb x)) (qg (wE 0 (qK l x))) 0:=by
 unfold xB Xg at h;obtain ⟨L,hs⟩:∃ L,spS s [32]=L:=⟨_,rfl⟩
 rw [hs] at h;split at h
 ·obtain ⟨n,hn,rfl⟩:=aC.1 h
  exact Qai l s L n hs ‹_› hn hc hl
 ·split at h
  ·obtain ⟨n,hn,rfl⟩:=aC.1 h
   exact Uj l s L n hs ‹_› hn hr hl
  ·split at h
   ·obtain ⟨n,hn,rfl⟩:=aC.1 h
    exact U4 l s L n hs ‹_› hn hl
   ·split at h
    ·split at h
     ·cases h
      exact QbU l s L hs ‹_› ‹_› hl
     ·cases h
    ·obtain ⟨n,hn,rfl⟩:=aC.1 h
     exact U7 l s L _ n hs rfl ‹_› ‹_› ‹_› ‹_› hn he hl
def ldC (cs rs st es:List (List DV)):Led:=⟨cs.map q8,rs.map kE,st.map qL,es.map kW⟩
def Qt (S:St):List AV->Option Pk
 |[.ptr c 0,.v (.string ⟨⟨s⟩⟩)]=>match S.h c with
  |some (.cells [.row i,.row j,.sl st,.row k])=>match S.h i with
   |some (.row _ _ cs)=>match S.h j with
    |some (.row _ _ rs)=>match S.h k with
     |some (.row _ _ es)=>match xB s with
      |some x=>some { pre:=(cs=(cs.map q8).map qC/\rs=(rs.map kE).map zM/\st=(st.map qL).map qj/\es=(es.map kW).map zC)/\s.length<=900/\cs.length<=1000/\rs.length<=1000/\es.length<=1000,hs:=[c,i,j,k],ar:=[.ptr 0 0,.v (.string ⟨⟨s⟩⟩)],L0:=za (ldC cs rs st es),v:=aI (qb x),L1:=qK (ldC cs rs st es) x }
      |none=>none
     |_=>none
    |_=>none
   |_=>none
  |_=>none
 |_=>none
def eTak:qf (zZ TabC) prog 132 (fnE Qt):=QcR fun S bs q h hp=>by
 unfold Qt at h;split at h
 ·split at h
  ·split at h
   ·split at h
    ·split at h
     ·split at h
      ·rename_i x hx
       cases h;obtain ⟨h1,h3,h4,h5,h6⟩:=hp
       exact Qlh _ _ x h3 hx (by simp only [ldC,ab];exact h4) (by simp only [ldC,ab];exact h5) (by simp only [ldC,ab];exact h6)
      ·cases h
     ·cases h
    ·cases h
   ·cases h
  ·cases h
 ·cases h
def Ya:Z4:=fun S bs=>match bs with
 |[.ptr c 0,.v (.string ⟨⟨s⟩⟩)]=>match S.h c with
  |some (.cells [.row i,.row j,.sl st,.row k])=>match S.h i with
   |some (.row _ _ cs)=>match S.h j with
    |some (.row _ _ rs)=>match S.h k with
     |some (.row _ _ es)=>some ({ pre:=(cs=(cs.map q8).map qC/\rs=(rs.map kE).map zM/\st=(st.map qL).map qj/\es=(es.map kW).map zC)/\s.length<=900/\xB s=none,hs:=[c,i,j,k],ar:=[.ptr 0 0,.v (.string ⟨⟨s⟩⟩)],L0:=za (ldC cs rs st es),v:=.junk,L1:=(za (ldC cs rs st es)).map some },refusal)
     |_=>none
    |_=>none
   |_=>none
  |_=>none
 |_=>none
def QjE:XOK (zZ TabC) prog 132 Ya:=fun S bs q ch h hp=>by
 unfold Ya at h;split at h
 ·split at h
  ·split at h
   ·split at h
    ·split at h
     ·cases h
      obtain ⟨h1,h3,h4⟩:=hp;exact ⟨rfl,jS TabC,fun _ _ _ _ _ _ _ h=>Jt h,tak_x _ _ h3 h4⟩
     ·cases h
    ·cases h
   ·cases h
  ·cases h
 ·cases h
def QfE:RetE prog 131:=⟨fun vs w=>by kernel_rfl,fun w=>by
 refine callsDIn_of_wpSIn func131 rfl trivial fun c₀ cs hu=>?_
 apply wpSIn_seq
 apply wpSIn_region
 simp [wpOpsSIn,go_sem,recoverD,hu,ntmps131,Exit.thenS]
 apply wpSIn_seq
 apply wpSIn_region
 simp [wpOpsSIn,go_sem,Exit.thenS]
 refine wpSIn_cond (t:=false) (by simp [Act.eval,Array.replicate]) ?_
 simp only [cM,if_false];refine wpSIn_of_wpIn rfl (wpIn_skip ?_)
 cases c₀
 simp_all [bodyPostS,results,results131,Ext.refl]⟩
def Qjs:RecE prog 131 refusal:=⟨fun vs w=>by kernel_rfl,fun w=>by
 refine callsDIn_of_wpSIn func131 rfl trivial fun c₀ cs hu=>?_
 apply wpSIn_seq
 apply wpSIn_region
 simp [wpOpsSIn,go_sem,recoverD,hu,ntmps131,Exit.thenS,refusal]
 apply wpSIn_seq
 apply wpSIn_region
 simp [wpOpsSIn,go_sem,Exit.thenS]
 refine wpSIn_cond (t:=true) (by simp [Act.eval,Array.replicate]) ?_
 simp only [if_true];have hta:∀ w,(Instr.typeAssert (.iface 217 (.agg #[])) 20 217 true).run prog w=.ok (.tuple #[.agg #[],.bool true]) w:=fun w=>by kernel_rfl
 apply wpSIn_seq
 apply wpSIn_region
 simp [wpOpsSIn,go_sem,Exit.thenS,hta]
 apply wpSIn_seq
 apply wpSIn_region
 simp [wpOpsSIn,go_sem,Exit.thenS]
 refine wpSIn_cond (t:=false) (by simp [Act.eval,Array.replicate]) ?_
 simp only [cM,if_false];refine wpSIn_of_wpIn rfl (wpIn_skip ?_)
 simp [bodyPostS,results,results131]
 have hb:Below w.heap.size w (w.alloc (Obj.cells #[] 217)):=(Below.refl _ w).alloc (ag _) _;exact ⟨rfl,hb.os,hb.tape,hb.output,hb.size,fun k hk _=>hb.block k hk⟩⟩
def qR (st k:Int):Bool:=decide (k < st) || decide (st=4) || (decide (k=2) && decide (st=2)) || (decide (2 < k) && decide (st < 2))
def wI:Led:=⟨[],[],[],[]⟩
def zg (c:Led) (st:Int) (i:Nat) (s:List UInt8):Except Nat (Led × Int):=match xB s with
 |none=>.error (i+1)
 |some x=>if qR st (qb x)=true then .error (i+1) else .ok (qE c x,qb x)
def wH (c:Led) (st:Int) (i:Nat):List (List UInt8)->Except Nat (Led × Int)
 |[]=>.ok (c,st)
 |s :: r=>match zg c st i s with
  |.error n=>.error n
  |.ok p=>wH p.1 p.2 (i+1) r
def Q3:∀ (a b:List (List UInt8)) (c:Led) (st:Int) (i:Nat),wH c st i (a++b)=match wH c st i a with
  |.error n=>.error n
  |.ok p=>wH p.1 p.2 (i+a.length) b
 |[],b,c,st,i=>rfl
 |s :: a,b,c,st,i=>by
  rw [dA,wH,wH];cases zg c st i s with
  |error n=>rfl
  |ok p =>
   dsimp only;rw [Q3 a b p.1 p.2 (i+1),bj,show i+1+a.length=i+(a.length+1) by omega]
def LY (c c':Led) (n:Nat):Prop:=c'.coins.length<=c.coins.length+n/\c'.rates.length<=c.rates.length+n/\c'.entries.length<=c.entries.length+n
def Ze:∀ (a:List (List UInt8)) (c:Led) (st:Int) (i:Nat) {c':Led} {st':Int},wH c st i a=.ok (c',st')->LY c c' a.length
 |[],c,st,i,c',st',h=>by
  simp only [wH,Except.ok.injEq,Prod.mk.injEq] at h;obtain ⟨rfl,rfl⟩:=h
  simp [LY]
 |s :: a,c,st,i,c',st',h=>by
  rw [wH] at h;split at h
  ·cases h
  ·rename_i p hp
   have ih:=Ze a p.1 p.2 (i+1) h;have h1:LY c p.1 1:=by
    unfold zg at hp;split at hp
    ·cases hp
    ·split at hp
     ·cases hp
     ·rename_i x _ _
      cases hp;cases x <;> simp [qE,LY]
   unfold LY at ih h1 ⊢;rw [bj]
   omega
def St5 (st:Int):Prop:=st=0\/st=1\/st=2\/st=3\/st=4
def Qey (x:Ln):St5 (qb x):=by
 cases x <;> simp [qb,St5]
def Ve:∀ (a:List (List UInt8)) (c:Led) (st:Int) (i:Nat) {c':Led} {st':Int},St5 st->wH c st i a=.ok (c',st')->St5 st'
 |[],c,st,i,c',st',h0,h=>by
  simp only [wH,Except.ok.injEq,Prod.mk.injEq] at h;obtain ⟨rfl,rfl⟩:=h
  exact h0
 |s :: a,c,st,i,c',st',h0,h=>by
  rw [wH] at h;split at h
  ·cases h
  ·rename_i p hp
   refine Ve a p.1 p.2 (i+1) ?_ h
   unfold zg at hp;split at hp
   ·cases hp
   ·split at hp
    ·cases hp
    ·rename_i x _ _
     cases hp;exact Qey x
def Js (t:List UInt8):Except Nat Led:=match wH wI 0 0 ((spS t [10]).take ((spS t [10]).length - 1)) with
 |.error n=>.error n
 |.ok p=>if p.2=4/\(spS t [10]).getD ((spS t [10]).length - 1) []=[] then .ok p.1 else .error (spS t [10]).length
def rdV:Except Nat Led->AV
 |.ok c=>.tup [q9 c,aI 0]
 |.error n=>.tup [.agg [.any,.any,.any,.any],aI n]
def rdS (L R:List (List UInt8)) (m k:Nat) (c:Led) (st:Int):St:={ t:=asg [(2,.ptr 0 0),(3,aI k),(4,qa L),(5,aI m),(6,aI st),(17,qa R),(18,aI R.length),(19,aI k)],h:=qg [(0,ldR c.start 1 2 3),(1,rwI c.coins),(2,rwS c.rates),(3,rwE c.entries)],n:=4,d:=[.call 131 []] }
def qp:=vj @ty3 (vj @ty9 (vj @JR (vj @vU (vj @Lm (vj @ti3.eq_1 (vj @ti9.eq_1 (vj @Wj.eq_1 (vj @vD.eq_1 @Vy.eq_1))))))))
def qM:=vj @aI.eq_1 (vj @aB.eq_1 (vj @yI (vj @QK (vj @QL (vj @ZJ (vj @kg (vj @XI (vj @Qo (@Jj)))))))))
def QiY (t:List UInt8) (hl:t.length<=400):Fn (jS TabC) prog 70 [aS t] noH (rdV (Js t)) noH 0:=by
 have env:Env (tabN TabC) prog tyB (tab [(96,zq false zP),(132,fnE Qt)]):=qx ⟨QY.anti Qcg,eTak.anti Qcg,trivial⟩;refine Fn.ofE (A:=tabN TabC) (n0:=0) (D:=dE 131) (fr:=131) (ok:=fun ch=>ch=refusal) (Fn0 func70 rfl (fun vs w=>by kernel_rfl) (by kernel_rfl)) (by rintro _ rfl;exact Qjs) (by simp) (by simp [AV.ids,aS]) (fun i o h=>by cases h) (fun _ hB _ hr=>⟨hB,hr⟩) (dE_ok QfE) ?_
 have hL:=jv (s:=t) (sep:=[10]) (by decide)
 have hit:=Rh (s:=t) (sep:=[10]);unfold Js
 obtain ⟨L,hLe⟩:∃ L,spS t [10]=L:=⟨_,rfl⟩;rw [hLe] at hL hit ⊢
 obtain ⟨m,hm⟩:∃ m,L.length=m+1:=⟨L.length - 1,by omega⟩
 rw [hm,ed];have hl1:t.length<=100000:=by omega
 have e0:IntKind.wrap .i64 ((L.length:Int) - 1)=(m:Int):=by rw [hm,wrap64 (by omega) (by omega)];omega
 obtain ⟨R,hR⟩:∃ R,L.take m=R:=⟨_,rfl⟩;have hRl:R.length=m:=by rw [<- hR,aR];omega
 have hT:(L.map ql).take m=R.map ql:=by rw [<- hR,List.map_take]
 rw [hR]
 repeat' first|(apply nx;with_reducible constructor)|apply uq (by decide)|refine vx ?_|refine vz ?_
 (apply uz env;intro Q hQ;simp only [vkt,seval,qp,aS,ite_and];(repeat' first|with_reducible assumption|apply vj|intro hp);all_goals first|(apply hQ;clear hQ Q)|(apply ux;kernel_rfl)|omega|assumption|with_reducible rfl|skip)
 repeat' first|(apply nx;with_reducible constructor)|apply uq (by decide)|refine vx ?_|refine vz ?_
 refine QgG QkX env rfl rfl rfl fun Q hQ=>?_
 simp only [List.dropLast];simp only [vkt,seval]
 repeat' first|with_reducible assumption|refine eg ?_ ?_|intro hp
 all_goals first|(refine hQ _ _ _ (by simp only [vkt,seval];rfl) ?_;clear hQ Q)|skip
 dsimp only [put];have hm0:(m:Int)<=(L.length:Int):=by omega
 have hm1:(0:Int)<=(m:Int):=by omega
 have hrw:=xF L
 repeat' first|(apply nx;with_reducible constructor)|apply uq (by decide)|refine vx ?_|refine vz ?_|(refine uw env 2 rfl rfl rfl (fun Q hQ=>?_);simp only [vkt,seval,qp,qM,aS,zP,Qt,Ya,ql,qa,ldC,rwI,rwS,rwE,ldR,za,ab,au,ae,rdS,qb,qE,qK,dE,hLe,hl1,e0,hT,hm0,hm1,hrw,aW,List.drop_zero,Int.toNat_zero,ab];(try simp only [ite_and]);(repeat' first|with_reducible assumption|apply vj);all_goals (first|(refine ⟨_,_,rfl,hQ _ _ ?_⟩;clear hQ Q)|(apply ux;kernel_rfl)|omega|assumption|with_reducible rfl|skip))|((first|apply uz env|apply uk);intro Q hQ;simp only [vkt,seval,qp,zP,qa,hLe,hl1,e0,hT,hm0,hm1,hrw,ite_and];(repeat' first|with_reducible assumption|apply vj|intro hp);all_goals first|(apply hQ;clear hQ Q)|(apply ux;kernel_rfl)|omega|assumption|with_reducible rfl|skip)
 refine qh (fun s:{ p:Nat × Led × Int // p.1<=m/\wH wI 0 0 (R.take p.1)=.ok (p.2.1,p.2.2) }=>rdS L R m s.1.1 s.1.2.1 s.1.2.2) (fun s=>m - s.1.1) ⟨(0,wI,0),af _,rfl⟩ ?_ fun ⟨⟨k,c,st⟩,hk,hg⟩=>?_
 ·simp only [rdS,wI]
  (refine Le.ok (fun i=>if i=0 then some 0 else none) [] ?_;constructor;all_goals (try simp only [vle,vkt,seval,qM,qa,rwI,rwS,rwE,ldR]))
  all_goals first|rfl|(simp;done)|exact ⟨rfl,trivial⟩|(simp [ADf.ids,AV.idsL];done)|(intro i hi;rw [if_neg (by omega)];done)
 simp only at hk hg ⊢;have hsz:=Ze _ _ _ _ hg
 have hst:=Ve _ _ _ _ (.inl rfl) hg;have htl:(R.take k).length=k:=by rw [aR];omega
 rw [htl] at hsz;simp only [LY,wI,ce,bD] at hsz
 by_cases hlt:k < m
 ·have d1:decide ((k:Int) < (R.length:Int))=true:=decide_eq_true (by omega)
  have e9:=k9 k (by omega)
  have hkR:k < R.length:=by omega
  have hs1:(R.getD k []).length<=900:=by
   have h1:R.getD k []=R[k]:=by simp [hkR]
   rw [h1];refine bi (hit _ (aQ (i:=m) ?_)) (by omega)
   rw [hR];exact bF _
  have hS:R.take (k+1)=R.take k++[R.getD k []]:=by
   rw [bT,ak hkR]
   simp [hkR]
  have hx:∀ d,(R.map ql).getD k d=[.v (.string ⟨⟨R.getD k []⟩⟩)]:=fun d=>ZV R k d hkR
  generalize R.getD k []=s at hs1 hS hx;have hnx:wH wI 0 0 (R.take (k+1))=match zg c st k s with
    |.error n=>.error n
    |.ok p=>.ok p:=by
   rw [hS,Q3,hg];dsimp only
   rw [htl,bD,wH];cases zg c st k s <;> rfl
  have herr:∀ n,zg c st k s=.error n->rdV (match wH wI 0 0 R with
    |.error n=>.error n
    |.ok p=>if p.2=4/\L.getD m []=[] then .ok p.1 else .error (m+1))=.tup [.agg [.any,.any,.any,.any],aI n]:=fun n hn=>by
   have h1:wH wI 0 0 R=.error n:=by
    have h2:=Q3 (R.take (k+1)) (R.drop (k+1)) wI 0 0;rw [cF,hnx,hn] at h2
    exact h2
   rw [h1];rfl
  have c1:c.coins.length<=1000:=by omega
  have c2:c.rates.length<=1000:=by omega
  have c3:c.entries.length<=1000:=by omega
  obtain ⟨cs,rs,ss,es⟩:=c;dsimp only at c1 c2 c3
  simp only [rdS];cases hln:xB s with
  |none =>
   have he:zg ⟨cs,rs,ss,es⟩ st k s=.error (k+1):=by simp only [zg,hln]
   rw [herr _ he]
   repeat' first|(apply nx;with_reducible constructor)|apply uq (by decide)|refine vx ?_|refine vz ?_|(refine uw env 2 rfl rfl rfl (fun Q hQ=>?_);simp only [vkt,seval,qp,qM,aS,zP,Qt,Ya,ql,qa,ldC,rwI,rwS,rwE,ldR,za,ab,au,ae,rdS,qb,qE,qK,dE, d1,e9,hx,hs1,hln,c1,c2,c3];(try simp only [ite_and]);(repeat' first|with_reducible assumption|apply vj);all_goals (first|(refine ⟨_,_,rfl,hQ _ _ ?_⟩;clear hQ Q)|(apply ux;kernel_rfl)|omega|assumption|with_reducible rfl|skip))|(refine uv env (QjE.anti Qcg) 1 rfl rfl (fun Q hQ=>?_);simp only [Zc,vkt,seval,qM,Ya,ldC,rwI,rwS,rwE,ldR,za,hs1,hln];(try simp only [ite_and]);(repeat' first|with_reducible assumption|apply vj|intro hp);all_goals (first|(refine hQ _ _ _ ?_;clear hQ Q)|(apply ux;kernel_rfl)|omega|assumption|(with_reducible rfl)))|((first|apply uz env|apply uk);intro Q hQ;simp only [vkt,seval,qp,qM,qa,rwI,rwS,rwE,ldR,d1,e9,hx,ite_and];(repeat' first|with_reducible assumption|apply vj|intro hp);all_goals first|(apply hQ;clear hQ Q)|(apply ux;kernel_rfl)|omega|assumption|with_reducible rfl|skip)
   refine ⟨rfl,rfl, ?_⟩
   (simp only [vrt,results70,vkt,seval,qp,qM];refine Fin.val rfl ?_;(try simp only [AV.le,AV.leL]))
   all_goals first|rfl|exact ⟨⟨rfl,rfl,rfl,rfl,trivial⟩,trivial,trivial⟩|(simp;done)
  |some x =>
   by_cases hb:qR st (qb x)=true
   ·have he:zg ⟨cs,rs,ss,es⟩ st k s=.error (k+1):=by simp only [zg,hln];rw [if_pos hb]
    rw [herr _ he]
    rcases hst with rfl|rfl|rfl|rfl|rfl <;> cases x <;> first|(exfalso;simp [qR,qb] at hb;done)|skip
    all_goals
     repeat' first|(apply nx;with_reducible constructor)|apply uq (by decide)|refine vx ?_|refine vz ?_|(refine uw env 2 rfl rfl rfl (fun Q hQ=>?_);simp only [vkt,seval,qp];(try simp only [ite_and]);(repeat' first|with_reducible assumption|apply vj);all_goals (first|(refine ⟨_,_,rfl,hQ _ _ ?_⟩;clear hQ Q)|(apply ux;kernel_rfl)|omega|assumption|with_reducible rfl|skip))|((first|apply uz env|apply uk);intro Q hQ;simp only [vkt,seval,qp,qM,Qt,qa,ldC,rwI,rwS,rwE,ldR,za,ae,qb,qK,d1,e9,hx,hs1,hln,c1,c2,c3,ite_and];(repeat' first|with_reducible assumption|apply vj|intro hp);all_goals first|(apply hQ;clear hQ Q)|(apply ux;kernel_rfl)|omega|assumption|with_reducible rfl|skip)
     refine ⟨rfl,rfl, ?_⟩
     (simp only [vrt,results70,vkt,seval,qp,qM];refine Fin.val rfl ?_;(try simp only [AV.le,AV.leL]))
     all_goals first|rfl|exact ⟨⟨rfl,rfl,rfl,rfl,trivial⟩,trivial,trivial⟩|(simp;done)
   ·have he:zg ⟨cs,rs,ss,es⟩ st k s=.ok (qE ⟨cs,rs,ss,es⟩ x,qb x):=by simp only [zg,hln];rw [if_neg hb]
    rw [he] at hnx;dsimp only at hnx
    rcases hst with rfl|rfl|rfl|rfl|rfl
    ·cases x with
     |coin xx =>
      repeat' first|(apply nx;with_reducible constructor)|apply uq (by decide)|refine vx ?_|refine vz ?_|(refine uw env 2 rfl rfl rfl (fun Q hQ=>?_);simp only [vkt,seval,qp,qM,aS,zP,Qt,Ya,ql,qa,ldC,rwI,rwS,rwE,ldR,za,ab,au,ae,rdS,qb,qE,qK,dE,d1,e9,hx,hs1,hln,c1,c2,c3];(try simp only [ite_and]);(repeat' first|with_reducible assumption|apply vj);all_goals (first|(refine ⟨_,_,rfl,hQ _ _ ?_⟩;clear hQ Q)|(apply ux;kernel_rfl)|omega|assumption|with_reducible rfl|skip))|((first|apply uz env|apply uk);intro Q hQ;simp only [vkt,seval,qp,qM,Qt,qa,ldC,rwI,rwS,rwE,ldR,za,ae,qb,qK,d1,e9,hx,hs1,hln,c1,c2,c3,ite_and];(repeat' first|with_reducible assumption|apply vj|intro hp);all_goals first|(apply hQ;clear hQ Q)|(apply ux;kernel_rfl)|omega|assumption|with_reducible rfl|skip)
      refine ⟨⟨(k+1,qE ⟨cs,rs,ss,es⟩ (.coin xx),qb (.coin xx)),hlt,hnx⟩,by show m - (k+1) < m - k;omega, ?_⟩
      (refine Le.ok (fun i=>if i=1 then some 4 else some i) [] ?_;constructor;all_goals (try simp only [vle,vkt,seval,qM,qa,rwI,rwS,rwE,ldR,ae,qb,qE]))
      all_goals first|rfl|(simp;done)|exact ⟨rfl,trivial⟩|(simp [ADf.ids,AV.idsL];done)|(intro i hi;rw [if_neg (by omega)];done)
     |rates xx =>
      repeat' first|(apply nx;with_reducible constructor)|apply uq (by decide)|refine vx ?_|refine vz ?_|(refine uw env 2 rfl rfl rfl (fun Q hQ=>?_);simp only [vkt,seval,qp,qM,aS,zP,Qt,Ya,ql,qa,ldC,rwI,rwS,rwE,ldR,za,ab,au,ae,rdS,qb,qE,qK,dE,d1,e9,hx,hs1,hln,c1,c2,c3];(try simp only [ite_and]);(repeat' first|with_reducible assumption|apply vj);all_goals (first|(refine ⟨_,_,rfl,hQ _ _ ?_⟩;clear hQ Q)|(apply ux;kernel_rfl)|omega|assumption|with_reducible rfl|skip))|((first|apply uz env|apply uk);intro Q hQ;simp only [vkt,seval,qp,qM,Qt,qa,ldC,rwI,rwS,rwE,ldR,za,ae,qb,qK,d1,e9,hx,hs1,hln,c1,c2,c3,ite_and];(repeat' first|with_reducible assumption|apply vj|intro hp);all_goals first|(apply hQ;clear hQ Q)|(apply ux;kernel_rfl)|omega|assumption|with_reducible rfl|skip)
      refine ⟨⟨(k+1,qE ⟨cs,rs,ss,es⟩ (.rates xx),qb (.rates xx)),hlt,hnx⟩,by show m - (k+1) < m - k;omega, ?_⟩
      (refine Le.ok (fun i=>if i=2 then some 4 else some i) [] ?_;constructor;all_goals (try simp only [vle,vkt,seval,qM,qa,rwI,rwS,rwE,ldR,ae,qb,qE]))
      all_goals first|rfl|(simp;done)|exact ⟨rfl,trivial⟩|(simp [ADf.ids,AV.idsL];done)|(intro i hi;rw [if_neg (by omega)];done)
     |start xx =>
      repeat' first|(apply nx;with_reducible constructor)|apply uq (by decide)|refine vx ?_|refine vz ?_|(refine uw env 2 rfl rfl rfl (fun Q hQ=>?_);simp only [vkt,seval,qp,qM,aS,zP,Qt,Ya,ql,qa,ldC,rwI,rwS,rwE,ldR,za,ab,au,ae,rdS,qb,qE,qK,dE,d1,e9,hx,hs1,hln,c1,c2,c3];(try simp only [ite_and]);(repeat' first|with_reducible assumption|apply vj);all_goals (first|(refine ⟨_,_,rfl,hQ _ _ ?_⟩;clear hQ Q)|(apply ux;kernel_rfl)|omega|assumption|with_reducible rfl|skip))|((first|apply uz env|apply uk);intro Q hQ;simp only [vkt,seval,qp,qM,Qt,qa,ldC,rwI,rwS,rwE,ldR,za,qb,qK,d1,e9,hx,hs1,hln,c1,c2,c3,ite_and];(repeat' first|with_reducible assumption|apply vj|intro hp);all_goals first|(apply hQ;clear hQ Q)|(apply ux;kernel_rfl)|omega|assumption|with_reducible rfl|skip)
      refine ⟨⟨(k+1,qE ⟨cs,rs,ss,es⟩ (.start xx),qb (.start xx)),hlt,hnx⟩,by show m - (k+1) < m - k;omega, ?_⟩
      (refine Le.ok some [] ?_;constructor;all_goals (try simp only [vle,vkt,seval,qM,qa,rwI,rwS,rwE,ldR,qb,qE]))
      all_goals first|rfl|(simp;done)|exact ⟨rfl,trivial⟩|(simp [ADf.ids,AV.idsL];done)|(intro i hi;rw [if_neg (by omega)];done)
     |bal =>
      simp [qR,qb] at hb
     |entry xx =>
      simp [qR,qb] at hb
    ·cases x with
     |coin xx =>
      simp [qR,qb] at hb
     |rates xx =>
      repeat' first|(apply nx;with_reducible constructor)|apply uq (by decide)|refine vx ?_|refine vz ?_|(refine uw env 2 rfl rfl rfl (fun Q hQ=>?_);simp only [vkt,seval,qp,qM,aS,zP,Qt,Ya,ql,qa,ldC,rwI,rwS,rwE,ldR,za,ab,au,ae,rdS,qb,qE,qK,dE,d1,e9,hx,hs1,hln,c1,c2,c3];(try simp only [ite_and]);(repeat' first|with_reducible assumption|apply vj);all_goals (first|(refine ⟨_,_,rfl,hQ _ _ ?_⟩;clear hQ Q)|(apply ux;kernel_rfl)|omega|assumption|with_reducible rfl|skip))|((first|apply uz env|apply uk);intro Q hQ;simp only [vkt,seval,qp,qM,Qt,qa,ldC,rwI,rwS,rwE,ldR,za,ae,qb,qK,d1,e9,hx,hs1,hln,c1,c2,c3,ite_and];(repeat' first|with_reducible assumption|apply vj|intro hp);all_goals first|(apply hQ;clear hQ Q)|(apply ux;kernel_rfl)|omega|assumption|with_reducible rfl|skip)
      refine ⟨⟨(k+1,qE ⟨cs,rs,ss,es⟩ (.rates xx),qb (.rates xx)),hlt,hnx⟩,by show m - (k+1) < m - k;omega, ?_⟩
      (refine Le.ok (fun i=>if i=2 then some 4 else some i) [] ?_;constructor;all_goals (try simp only [vle,vkt,seval,qM,qa,rwI,rwS,rwE,ldR,ae,qb,qE]))
      all_goals first|rfl|(simp;done)|exact ⟨rfl,trivial⟩|(simp [ADf.ids,AV.idsL];done)|(intro i hi;rw [if_neg (by omega)];done)
     |start xx =>
      repeat' first|(apply nx;with_reducible constructor)|apply uq (by decide)|refine vx ?_|refine vz ?_|(refine uw env 2 rfl rfl rfl (fun Q hQ=>?_);simp only [vkt,seval,qp,qM,aS,zP,Qt,Ya,ql,qa,ldC,rwI,rwS,rwE,ldR,za,ab,au,ae,rdS,qb,qE,qK,dE,d1,e9,hx,hs1,hln,c1,c2,c3];(try simp only [ite_and]);(repeat' first|with_reducible assumption|apply vj);all_goals (first|(refine ⟨_,_,rfl,hQ _ _ ?_⟩;clear hQ Q)|(apply ux;kernel_rfl)|omega|assumption|with_reducible rfl|skip))|((first|apply uz env|apply uk);intro Q hQ;simp only [vkt,seval,qp,qM,Qt,qa,ldC,rwI,rwS,rwE,ldR,za,qb,qK,d1,e9,hx,hs1,hln,c1,c2,c3,ite_and];(repeat' first|with_reducible assumption|apply vj|intro hp);all_goals first|(apply hQ;clear hQ Q)|(apply ux;kernel_rfl)|omega|assumption|with_reducible rfl|skip)
      refine ⟨⟨(k+1,qE ⟨cs,rs,ss,es⟩ (.start xx),qb (.start xx)),hlt,hnx⟩,by show m - (k+1) < m - k;omega, ?_⟩
      (refine Le.ok some [] ?_;constructor;all_goals (try simp only [vle,vkt,seval,qM,qa,rwI,rwS,rwE,ldR,qb,qE]))
      all_goals first|rfl|(simp;done)|exact ⟨rfl,trivial⟩|(simp [ADf.ids,AV.idsL];done)|(intro i hi;rw [if_neg (by omega)];done)
     |bal =>
      simp [qR,qb] at hb
     |entry xx =>
      simp [qR,qb] at hb
    ·cases x with
     |coin xx =>
      simp [qR,qb] at hb
     |rates xx =>
      simp [qR,qb] at hb
     |start xx =>
      simp [qR,qb] at hb
     |bal =>
      repeat' first|(apply nx;with_reducible constructor)|apply uq (by decide)|refine vx ?_|refine vz ?_|(refine uw env 2 rfl rfl rfl (fun Q hQ=>?_);simp only [vkt,seval,qp,qM,aS,zP,Qt,Ya,ql,qa,ldC,rwI,rwS,rwE,ldR,za,ab,au,ae,rdS,qb,qE,qK,dE,d1,e9,hx,hs1,hln,c1,c2,c3];(try simp only [ite_and]);(repeat' first|with_reducible assumption|apply vj);all_goals (first|(refine ⟨_,_,rfl,hQ _ _ ?_⟩;clear hQ Q)|(apply ux;kernel_rfl)|omega|assumption|with_reducible rfl|skip))|((first|apply uz env|apply uk);intro Q hQ;simp only [vkt,seval,qp,qM,Qt,qa,ldC,rwI,rwS,rwE,ldR,za,qb,qK,d1,e9,hx,hs1,hln,c1,c2,c3,ite_and];(repeat' first|with_reducible assumption|apply vj|intro hp);all_goals first|(apply hQ;clear hQ Q)|(apply ux;kernel_rfl)|omega|assumption|with_reducible rfl|skip)
      refine ⟨⟨(k+1,qE ⟨cs,rs,ss,es⟩ .bal,qb .bal),hlt,hnx⟩,by show m - (k+1) < m - k;omega, ?_⟩
      (refine Le.ok some [] ?_;constructor;all_goals (try simp only [vle,vkt,seval,qM,qa,rwI,rwS,rwE,ldR,qb,qE]))
      all_goals first|rfl|(simp;done)|exact ⟨rfl,trivial⟩|(simp [ADf.ids,AV.idsL];done)|(intro i hi;rw [if_neg (by omega)];done)
     |entry xx =>
      repeat' first|(apply nx;with_reducible constructor)|apply uq (by decide)|refine vx ?_|refine vz ?_|(refine uw env 2 rfl rfl rfl (fun Q hQ=>?_);simp only [vkt,seval,qp,qM,aS,zP,Qt,Ya,ql,qa,ldC,rwI,rwS,rwE,ldR,za,ab,au,ae,rdS,qb,qE,qK,dE,d1,e9,hx,hs1,hln,c1,c2,c3];(try simp only [ite_and]);(repeat' first|with_reducible assumption|apply vj);all_goals (first|(refine ⟨_,_,rfl,hQ _ _ ?_⟩;clear hQ Q)|(apply ux;kernel_rfl)|omega|assumption|with_reducible rfl|skip))|((first|apply uz env|apply uk);intro Q hQ;simp only [vkt,seval,qp,qM,Qt,qa,ldC,rwI,rwS,rwE,ldR,za,ae,qb,qK,d1,e9,hx,hs1,hln,c1,c2,c3,ite_and];(repeat' first|with_reducible assumption|apply vj|intro hp);all_goals first|(apply hQ;clear hQ Q)|(apply ux;kernel_rfl)|omega|assumption|with_reducible rfl|skip)
      refine ⟨⟨(k+1,qE ⟨cs,rs,ss,es⟩ (.entry xx),qb (.entry xx)),hlt,hnx⟩,by show m - (k+1) < m - k;omega, ?_⟩
      (refine Le.ok (fun i=>if i=3 then some 4 else some i) [] ?_;constructor;all_goals (try simp only [vle,vkt,seval,qM,qa,rwI,rwS,rwE,ldR,ae,qb,qE]))
      all_goals first|rfl|(simp;done)|exact ⟨rfl,trivial⟩|(simp [ADf.ids,AV.idsL];done)|(intro i hi;rw [if_neg (by omega)];done)
    ·cases x with
     |coin xx =>
      simp [qR,qb] at hb
     |rates xx =>
      simp [qR,qb] at hb
     |start xx =>
      simp [qR,qb] at hb
     |bal =>
      repeat' first|(apply nx;with_reducible constructor)|apply uq (by decide)|refine vx ?_|refine vz ?_|(refine uw env 2 rfl rfl rfl (fun Q hQ=>?_);simp only [vkt,seval,qp,qM,aS,zP,Qt,Ya,ql,qa,ldC,rwI,rwS,rwE,ldR,za,ab,au,ae,rdS,qb,qE,qK,dE,d1,e9,hx,hs1,hln,c1,c2,c3];(try simp only [ite_and]);(repeat' first|with_reducible assumption|apply vj);all_goals (first|(refine ⟨_,_,rfl,hQ _ _ ?_⟩;clear hQ Q)|(apply ux;kernel_rfl)|omega|assumption|with_reducible rfl|skip))|((first|apply uz env|apply uk);intro Q hQ;simp only [vkt,seval,qp,qM,Qt,qa,ldC,rwI,rwS,rwE,ldR,za,qb,qK,d1,e9,hx,hs1,hln,c1,c2,c3,ite_and];(repeat' first|with_reducible assumption|apply vj|intro hp);all_goals first|(apply hQ;clear hQ Q)|(apply ux;kernel_rfl)|omega|assumption|with_reducible rfl|skip)
      refine ⟨⟨(k+1,qE ⟨cs,rs,ss,es⟩ .bal,qb .bal),hlt,hnx⟩,by show m - (k+1) < m - k;omega, ?_⟩
      (refine Le.ok some [] ?_;constructor;all_goals (try simp only [vle,vkt,seval,qM,qa,rwI,rwS,rwE,ldR,qb,qE]))
      all_goals first|rfl|(simp;done)|exact ⟨rfl,trivial⟩|(simp [ADf.ids,AV.idsL];done)|(intro i hi;rw [if_neg (by omega)];done)
     |entry xx =>
      repeat' first|(apply nx;with_reducible constructor)|apply uq (by decide)|refine vx ?_|refine vz ?_|(refine uw env 2 rfl rfl rfl (fun Q hQ=>?_);simp only [vkt,seval,qp,qM,aS,zP,Qt,Ya,ql,qa,ldC,rwI,rwS,rwE,ldR,za,ab,au,ae,rdS,qb,qE,qK,dE,d1,e9,hx,hs1,hln,c1,c2,c3];(try simp only [ite_and]);(repeat' first|with_reducible assumption|apply vj);all_goals (first|(refine ⟨_,_,rfl,hQ _ _ ?_⟩;clear hQ Q)|(apply ux;kernel_rfl)|omega|assumption|with_reducible rfl|skip))|((first|apply uz env|apply uk);intro Q hQ;simp only [vkt,seval,qp,qM,Qt,qa,ldC,rwI,rwS,rwE,ldR,za,ae,qb,qK,d1,e9,hx,hs1,hln,c1,c2,c3,ite_and];(repeat' first|with_reducible assumption|apply vj|intro hp);all_goals first|(apply hQ;clear hQ Q)|(apply ux;kernel_rfl)|omega|assumption|with_reducible rfl|skip)
      refine ⟨⟨(k+1,qE ⟨cs,rs,ss,es⟩ (.entry xx),qb (.entry xx)),hlt,hnx⟩,by show m - (k+1) < m - k;omega, ?_⟩
      (refine Le.ok (fun i=>if i=3 then some 4 else some i) [] ?_;constructor;all_goals (try simp only [vle,vkt,seval,qM,qa,rwI,rwS,rwE,ldR,ae,qb,qE]))
      all_goals first|rfl|(simp;done)|exact ⟨rfl,trivial⟩|(simp [ADf.ids,AV.idsL];done)|(intro i hi;rw [if_neg (by omega)];done)
    ·cases x with
     |coin xx =>
      simp [qR,qb] at hb
     |rates xx =>
      simp [qR,qb] at hb
     |start xx =>
      simp [qR,qb] at hb
     |bal =>
      simp [qR,qb] at hb
     |entry xx =>
      simp [qR,qb] at hb
 ·have d1:decide ((k:Int) < (R.length:Int))=false:=decide_eq_false (by omega)
  obtain rfl:k=m:=by omega
  have hg2:R.take k=R:=aP (by omega)
  rw [hg2] at hg;rw [hg]
  dsimp only;have e5:=k9 k (by omega)
  have hy:∀ d,(L.map ql).getD k d=[.v (.string ⟨⟨L.getD k []⟩⟩)]:=fun d=>ZV L k d (by omega)
  have hkL:k < L.length:=by omega
  generalize L.getD k []=z at hy;obtain ⟨cs,rs,ss,es⟩:=c
  simp only [rdS]
  rcases hst with rfl|rfl|rfl|rfl|rfl
  ·rw [if_neg (by simp)]
   repeat' first|(apply nx;with_reducible constructor)|apply uq (by decide)|refine vx ?_|refine vz ?_|(refine uw env 2 rfl rfl rfl (fun Q hQ=>?_);simp only [vkt,seval,qp];(try simp only [ite_and]);(repeat' first|with_reducible assumption|apply vj);all_goals (first|(refine ⟨_,_,rfl,hQ _ _ ?_⟩;clear hQ Q)|(apply ux;kernel_rfl)|omega|assumption|with_reducible rfl|skip))|((first|apply uz env|apply uk);intro Q hQ;simp only [vkt,seval,qp,qM,qa,rwI,rwS,rwE,ldR,d1,e5,ite_and];(repeat' first|with_reducible assumption|apply vj|intro hp);all_goals first|(apply hQ;clear hQ Q)|(apply ux;kernel_rfl)|omega|assumption|with_reducible rfl|skip)
   refine ⟨rfl,rfl, ?_⟩
   simp only [rdV]
   (simp only [vrt,results70,vkt,seval,qp,qM];refine Fin.val rfl ?_;(try simp only [AV.le,AV.leL]))
   all_goals first|rfl|exact ⟨⟨rfl,rfl,rfl,rfl,trivial⟩,trivial,trivial⟩|(simp;done)
  ·rw [if_neg (by simp)]
   repeat' first|(apply nx;with_reducible constructor)|apply uq (by decide)|refine vx ?_|refine vz ?_|(refine uw env 2 rfl rfl rfl (fun Q hQ=>?_);simp only [vkt,seval,qp];(try simp only [ite_and]);(repeat' first|with_reducible assumption|apply vj);all_goals (first|(refine ⟨_,_,rfl,hQ _ _ ?_⟩;clear hQ Q)|(apply ux;kernel_rfl)|omega|assumption|with_reducible rfl|skip))|((first|apply uz env|apply uk);intro Q hQ;simp only [vkt,seval,qp,qM,qa,rwI,rwS,rwE,ldR,d1,e5,ite_and];(repeat' first|with_reducible assumption|apply vj|intro hp);all_goals first|(apply hQ;clear hQ Q)|(apply ux;kernel_rfl)|omega|assumption|with_reducible rfl|skip)
   refine ⟨rfl,rfl, ?_⟩
   simp only [rdV]
   (simp only [vrt,results70,vkt,seval,qp,qM];refine Fin.val rfl ?_;(try simp only [AV.le,AV.leL]))
   all_goals first|rfl|exact ⟨⟨rfl,rfl,rfl,rfl,trivial⟩,trivial,trivial⟩|(simp;done)
  ·rw [if_neg (by simp)]
   repeat' first|(apply nx;with_reducible constructor)|apply uq (by decide)|refine vx ?_|refine vz ?_|(refine uw env 2 rfl rfl rfl (fun Q hQ=>?_);simp only [vkt,seval,qp];(try simp only [ite_and]);(repeat' first|with_reducible assumption|apply vj);all_goals (first|(refine ⟨_,_,rfl,hQ _ _ ?_⟩;clear hQ Q)|(apply ux;kernel_rfl)|omega|assumption|with_reducible rfl|skip))|((first|apply uz env|apply uk);intro Q hQ;simp only [vkt,seval,qp,qM,qa,rwI,rwS,rwE,ldR,d1,e5,ite_and];(repeat' first|with_reducible assumption|apply vj|intro hp);all_goals first|(apply hQ;clear hQ Q)|(apply ux;kernel_rfl)|omega|assumption|with_reducible rfl|skip)
   refine ⟨rfl,rfl, ?_⟩
   simp only [rdV]
   (simp only [vrt,results70,vkt,seval,qp,qM];refine Fin.val rfl ?_;(try simp only [AV.le,AV.leL]))
   all_goals first|rfl|exact ⟨⟨rfl,rfl,rfl,rfl,trivial⟩,trivial,trivial⟩|(simp;done)
  ·rw [if_neg (by simp)]
   repeat' first|(apply nx;with_reducible constructor)|apply uq (by decide)|refine vx ?_|refine vz ?_|(refine uw env 2 rfl rfl rfl (fun Q hQ=>?_);simp only [vkt,seval,qp];(try simp only [ite_and]);(repeat' first|with_reducible assumption|apply vj);all_goals (first|(refine ⟨_,_,rfl,hQ _ _ ?_⟩;clear hQ Q)|(apply ux;kernel_rfl)|omega|assumption|with_reducible rfl|skip))|((first|apply uz env|apply uk);intro Q hQ;simp only [vkt,seval,qp,qM,qa,rwI,rwS,rwE,ldR,d1,e5,ite_and];(repeat' first|with_reducible assumption|apply vj|intro hp);all_goals first|(apply hQ;clear hQ Q)|(apply ux;kernel_rfl)|omega|assumption|with_reducible rfl|skip)
   refine ⟨rfl,rfl, ?_⟩
   simp only [rdV]
   (simp only [vrt,results70,vkt,seval,qp,qM];refine Fin.val rfl ?_;(try simp only [AV.le,AV.leL]))
   all_goals first|rfl|exact ⟨⟨rfl,rfl,rfl,rfl,trivial⟩,trivial,trivial⟩|(simp;done)
  ·by_cases hz:z=[]
   ·have b1:(z == [])=true:=by simp [hz]
    rw [if_pos ⟨rfl,hz⟩]
    repeat' first|(apply nx;with_reducible constructor)|apply uq (by decide)|refine vx ?_|refine vz ?_|(refine uw env 2 rfl rfl rfl (fun Q hQ=>?_);simp only [vkt,seval,qp,qM,aS,zP,Qt,Ya,ql,qa,ldC,rwI,rwS,rwE,ldR,za,ab,au,ae,rdS,qb,qE,qK,dE,d1,e5,hy,hkL,b1];(try simp only [ite_and]);(repeat' first|with_reducible assumption|apply vj);all_goals (first|(refine ⟨_,_,rfl,hQ _ _ ?_⟩;clear hQ Q)|(apply ux;kernel_rfl)|omega|assumption|with_reducible rfl|skip))|((first|apply uz env|apply uk);intro Q hQ;simp only [vkt,seval,qp,qM,qa,rwI,rwS,rwE,ldR,d1,e5,hy,hkL,b1,ite_and];(repeat' first|with_reducible assumption|apply vj|intro hp);all_goals first|(apply hQ;clear hQ Q)|(apply ux;kernel_rfl)|omega|assumption|with_reducible rfl|skip)
    simp only [rdV,retR];simp only [vrt,results70,dE,vkt,seval,qp,qM,dE]
    refine Fin.val rfl ?_
    simp only [AV.le,AV.leL,q9,qU,vkt,seval];exact ⟨⟨_,_,rfl⟩,⟨_,_,rfl⟩,_,_,rfl⟩
   ·have b1:(z == [])=false:=by simp [hz]
    rw [if_neg (by simp [hz])]
    repeat' first|(apply nx;with_reducible constructor)|apply uq (by decide)|refine vx ?_|refine vz ?_|(refine uw env 2 rfl rfl rfl (fun Q hQ=>?_);simp only [vkt,seval,qp];(try simp only [ite_and]);(repeat' first|with_reducible assumption|apply vj);all_goals (first|(refine ⟨_,_,rfl,hQ _ _ ?_⟩;clear hQ Q)|(apply ux;kernel_rfl)|omega|assumption|with_reducible rfl|skip))|((first|apply uz env|apply uk);intro Q hQ;simp only [vkt,seval,qp,qM,qa,rwI,rwS,rwE,ldR,d1,e5,hy,hkL,b1,ite_and];(repeat' first|with_reducible assumption|apply vj|intro hp);all_goals first|(apply hQ;clear hQ Q)|(apply ux;kernel_rfl)|omega|assumption|with_reducible rfl|skip)
    refine ⟨rfl,rfl, ?_⟩
    simp only [rdV]
    (simp only [vrt,results70,vkt,seval,qp,qM];refine Fin.val rfl ?_;(try simp only [AV.le,AV.leL]))
    all_goals first|rfl|exact ⟨⟨rfl,rfl,rfl,rfl,trivial⟩,trivial,trivial⟩|(simp;done)
def xC (t:List UInt8):Led × Int × Int:=if 400 < t.length then (wI,0,10) else match Js t with
 |.error n=>(wI,n,2)
 |.ok c=>if zf c=0 then (c,0,0) else (wI,0,zf c)
def Xa:∀ (a:List (List UInt8)) (c:Led) (st:Int) (i n:Nat),wH c st i a=.error n->i < n/\n<=i+a.length
 |[],c,st,i,n,h=>by cases h
 |s :: a,c,st,i,n,h=>by
  rw [wH] at h;split at h
  ·rename_i n' hn
   cases h;unfold zg at hn
   rw [bj];split at hn
   ·cases hn;omega
   ·split at hn
    ·cases hn;omega
    ·cases hn
  ·have:=Xa a _ _ _ n h
   rw [bj];omega
def QeR {t:List UInt8} {n:Nat} (h:Js t=.error n):0 < n/\n<=t.length+1:=by
 have hL:=jv (s:=t) (sep:=[10]) (by decide)
 unfold Js at h;split at h
 ·rename_i n' hn
  cases h;have:=Xa _ _ _ _ _ hn
  rw [aR] at this;omega
 ·split at h
  ·cases h
  ·cases h;omega
def WdOk (c:Led):Prop:=(∀ p ∈ c.coins,p.length<=1000)/\(∀ p ∈ c.rates,p.length<=1000)/\c.start.length<=1000
def QiG {s:List UInt8} {x:Ln} (hs:s.length<=900) (h:xB s=some x) {c:Led} (hc:WdOk c):WdOk (qE c x):=by
 have hle:=(jv (s:=s) (sep:=[32]) (by decide)).2
 unfold xB Xg at h;generalize spS s [32]=L at h hle
 split at h
 ·obtain ⟨n,hn,rfl⟩:=aC.1 h
  have:=vO _ hn;rw [aM] at this
  refine ⟨fun p hp=>?_,hc.2⟩
  rcases aA.1 hp with hp|hp
  ·exact hc.1 p hp
  ·obtain rfl:p=n:=by simpa using hp
   omega
 ·split at h
  ·obtain ⟨n,hn,rfl⟩:=aC.1 h
   have:=ZF _ hn;rw [aM] at this
   refine ⟨hc.1,fun p hp=>?_,hc.2.2⟩
   rcases aA.1 hp with hp|hp
   ·exact hc.2.1 p hp
   ·obtain rfl:p=⟨1,1⟩ :: n:=by simpa using hp
    simp only [bj];omega
  ·split at h
   ·obtain ⟨n,hn,rfl⟩:=aC.1 h
    have:=vO _ hn;rw [aM] at this
    exact ⟨hc.1,hc.2.1,by show n.length<=1000;omega⟩
   ·split at h
    ·split at h
     ·cases h;exact hc
     ·cases h
    ·obtain ⟨n,hn,rfl⟩:=aC.1 h
     exact hc
def K5:∀ (a:List (List UInt8)) (c:Led) (st:Int) (i:Nat) {c':Led} {st':Int},(∀ s ∈ a,s.length<=900)->WdOk c->wH c st i a=.ok (c',st')->WdOk c'
 |[],c,st,i,c',st',_,hc,h=>by
  simp only [wH,Except.ok.injEq,Prod.mk.injEq] at h;obtain ⟨rfl,rfl⟩:=h
  exact hc
 |s :: a,c,st,i,c',st',ha,hc,h=>by
  rw [wH] at h;split at h
  ·cases h
  ·rename_i p hp
   refine K5 a p.1 p.2 (i+1) (fun s hs=>ha s (.tail _ hs)) ?_ h
   unfold zg at hp;split at hp
   ·cases hp
   ·split at hp
    ·cases hp
    ·cases hp
     exact QiG (ha s (.head _)) ‹_› hc
def Vp {t:List UInt8} {c:Led} (hl:t.length<=400) (h:Js t=.ok c):FitW c:=by
 have hL:=jv (s:=t) (sep:=[10]) (by decide)
 have hit:=Rh (s:=t) (sep:=[10]);unfold Js at h
 split at h
 ·cases h
 ·rename_i p hp
  have h1:=Ze _ _ _ _ hp;have h2:=K5 _ _ _ _ (fun s hs=>by have:=hit s (aQ hs);omega) ⟨by simp [wI],by simp [wI],by simp [wI]⟩ hp
  rw [aR] at h1;simp only [LY,wI,ce] at h1
  split at h
  ·cases h
   exact ⟨by omega,h2.1,by omega,h2.2.1,h2.2.2,by omega⟩
  ·cases h
def Ld (S:St):List AV->Option Pk
 |[.v (.string ⟨⟨t⟩⟩)]=>some { pre:=t.length<=400,ar:=[.v (.string ⟨⟨t⟩⟩)],v:=rdV (Js t) }
 |_=>none
def eRead:qf (zZ TabC) prog 70 (fnE Ld):=QcR fun S bs q h hp=>by
 unfold Ld at h;split at h
 ·cases h
  exact QiY _ hp
 ·cases h
def xA:=vj @ty3 (vj @ty9 (vj @WP (vj @vU (vj @ti3.eq_1 (vj @ti9.eq_1 (vj @Zn.eq_1 @vD.eq_1))))))
def Wq:=vj @aI.eq_1 (vj @aB.eq_1 (vj @q9.eq_1 (vj @qU.eq_1 (vj @kg (vj @XI (vj @Qo (vj @Jj (vj @yI (vj @QK (vj @ZJ (@QL)))))))))))
def Qju (t:List UInt8):Fn (jS TabC) prog 22 [aS t] noH (.tup [q9 (xC t).1,aI (xC t).2.1,aI (xC t).2.2]) noH 0:=by
 have env:=qx (A:=zZ TabC) (kC e50w (kC eRead kN));refine kT (Fn0 func22 rfl (fun vs w=>by kernel_rfl) (by kernel_rfl)) (by simp) (by simp [AV.ids,aS]) ?_
 unfold xC
 by_cases h0:400 < t.length
 ·rw [if_pos h0]
  have d1:decide ((400:Int) < (t.length:Int))=true:=decide_eq_true (by omega)
  have hsz:(ByteArray.mk ⟨t⟩).size=t.length:=rfl
  repeat' first|(apply nx;with_reducible constructor)|apply uq (by decide)|((first|apply uz env|apply uk);intro Q hQ;simp only [vkt,seval,xA,aS,d1,hsz,ite_and];(repeat' first|with_reducible assumption|apply vj|intro hp);all_goals first|(apply hQ;clear hQ Q)|(apply ux;kernel_rfl)|omega|assumption|with_reducible rfl|skip)
  (simp only [vrt,results22,vkt,seval,xA,Wq];refine Fin.val rfl ?_;(try simp only [AV.le,AV.leL]))
  all_goals first|rfl|(simp;done)|exact ⟨⟨rfl,rfl,rfl,rfl,trivial⟩,trivial,trivial,trivial⟩
 ·rw [if_neg h0]
  have d1:decide ((400:Int) < (t.length:Int))=false:=decide_eq_false (by omega)
  have hsz:(ByteArray.mk ⟨t⟩).size=t.length:=rfl;have h1:t.length<=400:=by omega
  cases hr:Js t with
  |error n =>
   have hp:=QeR hr;have d2:decide ((0:Int) < (n:Int))=true:=decide_eq_true (by omega)
   repeat' first|(apply nx;with_reducible constructor)|apply uq (by decide)|((first|apply uz env|apply uk);intro Q hQ;simp only [vkt,seval,xA,Wq,aS,Ld,rdV,d1,hsz,h1,hr,d2,ite_and];(repeat' first|with_reducible assumption|apply vj|intro hp);all_goals first|(apply hQ;clear hQ Q)|(apply ux;kernel_rfl)|omega|assumption|with_reducible rfl|skip)
   (simp only [vrt,results22,vkt,seval,xA,Wq];refine Fin.val rfl ?_;(try simp only [AV.le,AV.leL]))
   all_goals first|rfl|(simp;done)|exact ⟨⟨rfl,rfl,rfl,rfl,trivial⟩,trivial,trivial,trivial⟩
  |ok c =>
   have hc:=Vp h1 hr;have ec:(⟨c.coins,c.rates,c.start,c.entries⟩:Led)=c:=rfl
   have d2:decide ((0:Int) < 0)=false:=by decide
   dsimp only;obtain ⟨e,he⟩:∃ e,zf c=e:=⟨_,rfl⟩
   rw [he]
   by_cases hz:e=0
   ·rw [if_pos hz]
    have d3:decide (e=0)=true:=decide_eq_true hz
    repeat' first|(apply nx;with_reducible constructor)|apply uq (by decide)|((first|apply uz env|apply uk);intro Q hQ;simp only [vkt,seval,xA,Wq,aS,Ld,rdV,s50w,d1,hsz,h1,hr,ec,he,d3,hc,ite_and];(repeat' first|with_reducible assumption|apply vj|intro hp);all_goals first|(apply hQ;clear hQ Q)|(apply ux;kernel_rfl)|omega|assumption|with_reducible rfl|skip)
    (simp only [vrt,results22,vkt,seval,xA,Wq];refine Fin.val rfl ?_;(try simp only [AV.le,AV.leL]))
    all_goals first|rfl|(simp;done)|exact ⟨⟨rfl,rfl,rfl,rfl,trivial⟩,trivial,trivial,trivial⟩
   ·rw [if_neg hz]
    have d3:decide (e=0)=false:=decide_eq_false hz
    repeat' first|(apply nx;with_reducible constructor)|apply uq (by decide)|((first|apply uz env|apply uk);intro Q hQ;simp only [vkt,seval,xA,Wq,aS,Ld,rdV,s50w,d1,hsz,h1,hr,ec,he,d3,hc,ite_and];(repeat' first|with_reducible assumption|apply vj|intro hp);all_goals first|(apply hQ;clear hQ Q)|(apply ux;kernel_rfl)|omega|assumption|with_reducible rfl|skip)
    (simp only [vrt,results22,vkt,seval,xA,Wq];refine Fin.val rfl ?_;(try simp only [AV.le,AV.leL]))
    all_goals first|rfl|(simp;done)|exact ⟨⟨rfl,rfl,rfl,rfl,trivial⟩,trivial,trivial,trivial⟩
def cuts (b:UInt8) (cur:List UInt8):List UInt8->List (List UInt8)
 |[]=>[cur]
 |x :: r=>if x=b then cur :: cuts b [] r else cuts b (cur++[x]) r
def zH (s:List UInt8) (b:UInt8):List (List UInt8):=cuts b [] s
def jN (b:UInt8):∀ (s cur:List UInt8),(cuts b cur s).length<=s.length+1
 |[],cur=>by simp [cuts]
 |x :: s,cur=>by
  rw [cuts];split
  ·have:=jN b s [];simp;omega
  ·have:=jN b s (cur++[x]);simp;omega
def aU8 (b:UInt8):AV:=.v (.int .u8 (b.toNat:Int))
def QdO (s:List UInt8) (b:UInt8) (k j:Nat) (p:List (List UInt8)):St:={ t:=asg [(0,aS s),(1,aU8 b),(5,.row 0),(6,aI j),(7,aI k)],h:=qg [(0,.row 9 1 (p.map ql))],n:=1 }
def Yg (s:List UInt8) (b:UInt8) (p:Nat × Nat × List (List UInt8)):Prop:=(p.1<=s.length/\p.2.1<=p.1/\p.2.2++cuts b ((s.take p.1).drop p.2.1) (s.drop p.1)=zH s b)\/(p.1=s.length+1/\p.2.1<=s.length+1/\p.2.2=zH s b)
def Yg.len {s:List UInt8} {b:UInt8} {p:Nat × Nat × List (List UInt8)} (h:Yg s b p):p.2.2.length<=s.length+1:=by
 have hc:=jN b s []
 rcases h with ⟨_,_,h⟩|⟨_,_,h⟩
 ·have:=congrArg List.length h
  rw [au] at this;have h2:(zH s b).length<=s.length+1:=hc
  omega
 ·rw [h];exact hc
def WA:=vj @ty3 (vj @ty5 (vj @ty9 (vj @JR (vj @ti3.eq_1 (vj @ti5.eq_1 (vj @ti9.eq_1 @Wj.eq_1))))))
def Zd:=vj @aI.eq_1 (@aB.eq_1)
def QiT (s:List UInt8) (b:UInt8) (hl:s.length<=100000):FnV prog 71 [aS s,aU8 b] (qa (zH s b)):=by
 have env:=qx (A:=fun _=>True) kN
 refine kV (Fn0 func71 rfl (fun vs w=>by kernel_rfl) (by kernel_rfl)) (by simp) (by simp [AV.ids,aS,aU8]) ?_
 have hmx:(100002:Nat)<=maxLen:=by decide
 have hsz:(ByteArray.mk ⟨s⟩).size=s.length:=rfl
 repeat' first|(apply nx;with_reducible constructor)|apply uq (by decide)|((first|apply uz env|apply uk);intro Q hQ;simp only [vkt,seval,aS,aU8,ite_and];(repeat' first|with_reducible assumption|apply vj|intro hp);all_goals first|(apply hQ;clear hQ Q)|(apply ux;kernel_rfl)|omega|assumption|with_reducible rfl|skip)
 refine qh (fun i:{ p:Nat × Nat × List (List UInt8) // Yg s b p }=>QdO s b i.1.1 i.1.2.1 i.1.2.2) (fun i=>s.length+1 - i.1.1) ⟨(0,0,[]),.inl ⟨af _,ag _,by simp [zH]⟩⟩ ?_ fun ⟨⟨k,j,p⟩,hp⟩=>?_
 ·simp only [QdO]
  (refine Le.ok (fun i=>if i=0 then none else some i) [] ?_;constructor;all_goals (try simp only [vle,vkt,seval,Zd,aS,aU8]))
  all_goals first|rfl|simp
 have hpl:=hp.len;dsimp only [Yg] at hp hpl
 simp only
 rcases hp with ⟨hk,hj,hc⟩|⟨rfl,hj,rfl⟩
 ·have d1:decide ((k:Int)<=(s.length:Int))=true:=decide_eq_true (by omega)
  have e9:=k9 k (by omega)
  have g0:(0:Int)<=(j:Int):=by omega
  have g1:(j:Int)<=(k:Int):=by omega
  have g2:(k:Int)<=(s.length:Int):=by omega
  have hpm:p.length+1<=maxLen:=by omega
  have hjn:((j:Int)).toNat=j:=by omega
  have hkn:((k:Int)).toNat=k:=by omega
  obtain ⟨cur,hcur⟩:∃ cur,(s.take k).drop j=cur:=⟨_,rfl⟩;rw [hcur] at hc
  simp only [QdO]
  by_cases hlt:k < s.length
  ·have d2:decide ((k:Int)=(s.length:Int))=false:=decide_eq_false (by omega)
   have hx:s.getD k 0=s[k]:=by simp [hlt]
   have hd:s.drop k=s[k] :: s.drop (k+1):=cA hlt;have ht:s.take (k+1)=s.take k++[s[k]]:=by rw [bT,ak hlt];rfl
   rw [hd] at hc;generalize s[k]=x at hx hd ht hc
   rw [cuts] at hc
   by_cases hb:x=b
   ·have d3:decide (((x.toNat:Nat):Int)=((b.toNat:Nat):Int))=true:=decide_eq_true (by rw [hb])
    rw [if_pos hb] at hc;have e4:p.map ql++[[.v (.string ⟨⟨cur⟩⟩)]]=(p++[cur]).map ql:=by rw [ae];rfl
    have hz:(s.take (k+1)).drop (k+1)=[]:=by rw [List.drop_eq_nil_iff,aR];omega
    have hnew:Yg s b (k+1,k+1,p++[cur]):=.inl ⟨hlt,ag _,by show (p++[cur])++cuts b ((s.take (k+1)).drop (k+1)) (s.drop (k+1))=_;rw [hz,bW];exact hc⟩
    repeat' first|(apply nx;with_reducible constructor)|apply uq (by decide)|((first|apply uz env|apply uk);intro Q hQ;simp only [vkt,seval,WA,Zd,aS,aU8,WQ,hsz,d2,d3,e9,hx,g0,g1,g2,hpm,hcur,hjn,hkn,hlt,e4,ite_and];(repeat' first|with_reducible assumption|apply vj|intro hp);all_goals first|(apply hQ;clear hQ Q)|(apply ux;kernel_rfl)|omega|assumption|with_reducible rfl|skip)
    refine ⟨⟨(k+1,k+1,p++[cur]),hnew⟩,by show s.length+1 - (k+1) < s.length+1 - k;omega, ?_⟩
    (refine Le.ok (fun i=>if i=0 then some 2 else some i) [] ?_;constructor;all_goals (try simp only [vle,vkt,seval,Zd,aS,aU8]))
    all_goals first|rfl|(simp;done)|(intro i hi;rw [if_neg (by omega)];done)
   ·have d3:decide (((x.toNat:Nat):Int)=((b.toNat:Nat):Int))=false:=decide_eq_false fun e=>hb (UInt8.toNat_inj.1 (by omega))
    rw [if_neg hb] at hc;have hz:(s.take (k+1)).drop j=cur++[x]:=by rw [ht,List.drop_append_of_le_length (by rw [aR];omega),hcur]
    have hnew:Yg s b (k+1,j,p):=.inl ⟨hlt,by show j<=k+1;omega,by show p++cuts b ((s.take (k+1)).drop j) (s.drop (k+1))=_;rw [hz];exact hc⟩
    repeat' first|(apply nx;with_reducible constructor)|apply uq (by decide)|((first|apply uz env|apply uk);intro Q hQ;simp only [vkt,seval,WA,Zd,aS,aU8,hsz,d2,d3,e9,hx,g2,hkn,hlt,ite_and];(repeat' first|with_reducible assumption|apply vj|intro hp);all_goals first|(apply hQ;clear hQ Q)|(apply ux;kernel_rfl)|omega|assumption|with_reducible rfl|skip)
    refine ⟨⟨(k+1,j,p),hnew⟩,by show s.length+1 - (k+1) < s.length+1 - k;omega, ?_⟩
    (refine Le.ok some [] ?_;constructor;all_goals (try simp only [vle,vkt,seval,Zd,aS,aU8]))
    all_goals first|rfl|(simp;done)|(intro i hi;rw [if_neg (by omega)];done)
  ·obtain rfl:k=s.length:=by omega
   have d2:decide ((s.length:Int)=(s.length:Int))=true:=decide_eq_true rfl;have e4:p.map ql++[[.v (.string ⟨⟨cur⟩⟩)]]=(p++[cur]).map ql:=by rw [ae];rfl
   rw [List.drop_length,cuts] at hc;have hnew:Yg s b (s.length+1,s.length+1,p++[cur]):=.inr ⟨rfl,ag _,hc⟩
   repeat' first|(apply nx;with_reducible constructor)|apply uq (by decide)|((first|apply uz env|apply uk);intro Q hQ;simp only [vkt,seval,WA,Zd,aS,aU8,WQ,hsz,e9,g0,g1,g2,hpm,hcur,hjn,hkn,e4,ite_and];(repeat' first|with_reducible assumption|apply vj|intro hp);all_goals first|(apply hQ;clear hQ Q)|(apply ux;kernel_rfl)|omega|assumption|with_reducible rfl|skip)
   refine ⟨⟨(s.length+1,s.length+1,p++[cur]),hnew⟩,by show s.length+1 - (s.length+1) < s.length+1 - s.length;omega, ?_⟩
   (refine Le.ok (fun i=>if i=0 then some 2 else some i) [] ?_;constructor;all_goals (try simp only [vle,vkt,seval,Zd,aS,aU8]))
   all_goals first|rfl|(simp;done)|(intro i hi;rw [if_neg (by omega)];done)
 ·have d1:decide (((s.length+1:Nat):Int)<=(s.length:Int))=false:=decide_eq_false (by omega)
  simp only [QdO]
  repeat' first|(apply nx;with_reducible constructor)|apply uq (by decide)|((first|apply uz env|apply uk);intro Q hQ;simp only [vkt,seval,WA,Zd,aS,aU8,hsz,d1,ite_and];(repeat' first|with_reducible assumption|apply vj|intro hp);all_goals first|(apply hQ;clear hQ Q)|(apply ux;kernel_rfl)|omega|assumption|with_reducible rfl|skip)
  (simp only [vrt,results71,vkt,seval,qa];refine Fin.val rfl ?_;(try simp only [AV.le]))
  all_goals first|rfl|exact ⟨_,_,rfl⟩|(simp;done)
def Qx:List AV->Prop × AV
 |[.v (.string ⟨⟨s⟩⟩),.v (.int .u8 b)]=>(s.length<=100000/\0<=b/\b < 256,qa (zH s (UInt8.ofNat b.toNat)))
 |_=>(False,.junk)
def Qdo {b:Int} (h0:0<=b) (h1:b < 256):(((UInt8.ofNat b.toNat).toNat:Nat):Int)=b:=by
 rw [UInt8.toNat_ofNat',bY (by omega)];omega
def WJ {A:Frm->Prop}:qf A prog 71 (zq false Qx):=qD fun vs hv h=>by
 unfold Qx at h ⊢;split at h
 ·rename_i s b
  obtain ⟨h1,h2,h3⟩:=h;refine ⟨by simp [qa,AV.plain],by simp, ?_⟩
  have:=QiT s (UInt8.ofNat b.toNat) h1;rw [aU8,Qdo h2 h3] at this
  exact this
 ·exact h.elim
def Y8 (acc:Int):List UInt8->Option Int
 |[]=>some acc
 |x :: r=>if x.toNat < 48\/57 < x.toNat then none else Y8 (10 * acc+((x.toNat:Int) - 48)) r
def Xr (s:List UInt8):Option Int:=if s.length < 1\/3 < s.length\/(s.getD 0 0=48/\1 < s.length) then none else Y8 0 s
def dgN (n:Nat):List UInt8:=if n < 10 then [UInt8.ofNat (48+n)] else if n < 100 then [UInt8.ofNat (48+n / 10),UInt8.ofNat (48+n % 10)] else [UInt8.ofNat (48+n / 100),UInt8.ofNat (48+n / 10 % 10),UInt8.ofNat (48+n % 10)]
def Qli {n:Nat} (h:n < 1000):Lib.decDigits n=dgN n:=by
 unfold dgN;split
 ·rw [Lib.decDigits,dif_pos ‹_›]
 ·split
  ·rw [Lib.decDigits,dif_neg ‹_›,Lib.decDigits,dif_pos (by omega)];rfl
  ·rw [Lib.decDigits,dif_neg ‹_›,Lib.decDigits,dif_neg (by omega),Lib.decDigits,dif_pos (by omega)]
   rw [Nat.div_div_eq_div_mul];rfl
def Qdp {n:Nat} (h:n < 1000):Lib.itoa (n:Int)=dgN n:=by
 unfold Lib.itoa;rw [if_neg (by omega),aW,Qli h]
def Qjd {n:Nat} (h:1000<=n):3 < (Lib.decDigits n).length:=by
 rw [Lib.decDigits,dif_neg (by omega),Lib.decDigits,dif_neg (by omega),Lib.decDigits,dif_neg (by omega),Lib.decDigits]
 split <;> simp
def QgA:∀ n:_root_.Fin 1000,wZ (dgN n.1)=some (n.1:Int)/\Xr (dgN n.1)=some (n.1:Int):=by
 have h:∀ n:_root_.Fin 1000,Lib.atoiAll (dgN n.1)=.ok (n.1:Int)/\(dgN n.1).length<=3/\Xr (dgN n.1)=some (n.1:Int):=by decide +kernel
 intro n;obtain ⟨h1,h2,h3⟩:=h n
 refine ⟨?_,h3⟩
 unfold wZ;rw [h1]
 dsimp only;rw [if_neg (by rw [Qdp n.2];rintro (h|h|h) <;> first|omega|exact h rfl)]
def Qd6 {s:List UInt8} {v:Int} (h:wZ s=some v):∃ n:_root_.Fin 1000,v=(n.1:Int)/\s=dgN n.1:=by
 unfold wZ at h;split at h
 ·rename_i u _
  split at h
  ·cases h
  ·rename_i hn
   cases h;obtain ⟨h1,h2,h3⟩:¬ v < 0/\¬ 3 < s.length/\Lib.itoa v=s:=⟨fun e=>hn (.inl e),fun e=>hn (.inr (.inl e)),by
    by_cases e:Lib.itoa v=s
    ·exact e
    ·exact absurd (.inr (.inr e)) hn⟩
   obtain ⟨n,rfl⟩:∃ n:Nat,v=n:=⟨v.toNat,by omega⟩
   have hs:Lib.decDigits n=s:=by
    rw [<- h3];unfold Lib.itoa;rw [if_neg h1,aW]
   have hlt:n < 1000:=by
    by_cases e:n < 1000
    ·exact e
    ·have:=Qjd (n:=n) (by omega)
     rw [hs] at this;exact absurd this h2
   exact ⟨⟨n,hlt⟩,rfl,by rw [<- h3,Qdp hlt]⟩
 ·cases h
def Qg4 {x:UInt8} (h1:¬ (x.toNat < 48\/57 < x.toNat)):∃ d:Nat,d < 10/\x=UInt8.ofNat (48+d):=by
 refine ⟨x.toNat - 48,by omega,UInt8.toNat_inj.1 ?_⟩
 rw [UInt8.toNat_ofNat',bY (by omega)];omega
def QI {x:UInt8} {r:List UInt8} {acc v:Int} (h:Y8 acc (x :: r)=some v):∃ d:Nat,d < 10/\x=UInt8.ofNat (48+d)/\Y8 (10 * acc+d) r=some v:=by
 rw [Y8] at h;split at h
 ·cases h
 ·rename_i hn
  obtain ⟨d,hd,rfl⟩:=Qg4 hn;refine ⟨d,hd,rfl, ?_⟩
  rw [UInt8.toNat_ofNat',bY (by omega)] at h
  rw [<- h]
  congr 1
  omega
def Qe6 {s:List UInt8} {v:Int} (h:Xr s=some v):∃ n:_root_.Fin 1000,v=(n.1:Int)/\s=dgN n.1:=by
 unfold Xr at h;split at h
 ·cases h
 ·rename_i hn
  have h1:¬ s.length < 1:=fun e=>hn (.inl e)
  have h2:¬ 3 < s.length:=fun e=>hn (.inr (.inl e))
  have h3:¬ (s.getD 0 0=48/\1 < s.length):=fun e=>hn (.inr (.inr e))
  clear hn
  match s,h1,h2 with
  |[a],_,_ =>
   obtain ⟨d,hd,rfl,k⟩:=QI h;rw [Y8] at k
   cases k;refine ⟨⟨d,by omega⟩,by simp, ?_⟩
   unfold dgN;rw [if_pos (by simpa using hd)]
  |[a,b],_,_ =>
   obtain ⟨d,hd,rfl,k⟩:=QI h;obtain ⟨e,he,rfl,m⟩:=QI k
   rw [Y8] at m;cases m
   have hd0:d ≠ 0:=fun z=>h3 ⟨by subst z;rfl,by simp⟩
   refine ⟨⟨10 * d+e,by omega⟩,by simp, ?_⟩
   unfold dgN;dsimp only
   rw [if_neg (by omega),if_pos (by omega),show (10 * d+e) / 10=d by omega,show (10 * d+e) % 10=e by omega]
  |[a,b,c],_,_ =>
   obtain ⟨d,hd,rfl,k⟩:=QI h;obtain ⟨e,he,rfl,m⟩:=QI k
   obtain ⟨f,hf,rfl,o⟩:=QI m;rw [Y8] at o
   cases o;have hd0:d ≠ 0:=fun z=>h3 ⟨by subst z;rfl,by simp⟩
   refine ⟨⟨100 * d+10 * e+f,by omega⟩,by simp;omega, ?_⟩
   unfold dgN;dsimp only
   rw [if_neg (by omega),if_neg (by omega),show (100 * d+10 * e+f) / 100=d by omega,show (100 * d+10 * e+f) / 10 % 10=e by omega,show (100 * d+10 * e+f) % 10=f by omega]
  |_ :: _ :: _ :: _ :: _,_,h2=>exact absurd (by simp) h2
def Qbz (s:List UInt8):wZ s=Xr s:=by
 cases h:wZ s with
 |some v =>
  obtain ⟨n,rfl,rfl⟩:=Qd6 h;rw [(QgA n).2]
 |none =>
  cases h2:Xr s with
  |none=>rfl
  |some v =>
   obtain ⟨n,rfl,rfl⟩:=Qe6 h2;rw [(QgA n).1] at h
   cases h
def Ll {b:UInt8} (hb:b.toNat < 48\/57 < b.toNat):∀ (s:List UInt8) (acc:Int),b ∈ s->Y8 acc s=none
 |x :: r,acc,h=>by
  rw [Y8];split
  ·rfl
  ·rename_i hn
   rcases ai.1 h with rfl|h
   ·exact absurd hb hn
   ·exact Ll hb r _ h
def QhY {b:UInt8} (hb:b.toNat < 48\/57 < b.toNat) {s:List UInt8} (h:b ∈ s):Xr s=none:=by
 unfold Xr;split
 ·rfl
 ·exact Ll hb s 0 h
def index_one (x:UInt8) (l:List UInt8) (b:UInt8):Lib.index (x :: l) [b]=if x=b then 0 else if Lib.index l [b]=-1 then -1 else Lib.index l [b]+1:=by
 rw [Lib.index]
 by_cases h:x=b
 ·rw [if_pos h,if_pos (by simp [h])]
 ·rw [if_neg h,if_neg (by simp [Ne.symm h])]
  simp only [beq_iff_eq]
def Jz (b:UInt8):∀ (s cur:List UInt8),Lib.index s [b]=-1->cuts b cur s=[cur++s]
 |[],cur,_=>by simp [cuts]
 |x :: s,cur,h=>by
  rw [index_one] at h;have hge:=Lib.index_ge s [b]
  split at h
  ·cases h
  ·split at h
   ·rw [cuts,if_neg ‹_›,Jz b s _ ‹_›];simp
   ·omega
def JD (b:UInt8):∀ (s cur:List UInt8) (i:Nat),Lib.index s [b]=(i:Int)->cuts b cur s=(cur++s.take i) :: cuts b [] (s.drop (i+1))/\i < s.length
 |[],cur,i,h=>by simp [Lib.index] at h
 |x :: s,cur,i,h=>by
  rw [index_one] at h;have hge:=Lib.index_ge s [b]
  split at h
  ·obtain rfl:i=0:=by omega
   rw [cuts,if_pos ‹_›];simp
  ·split at h
   ·omega
   ·obtain ⟨j,rfl⟩:∃ j,i=j+1:=⟨i - 1,by omega⟩
    obtain ⟨e,hl⟩:=JD b s (cur++[x]) j (by omega)
    rw [cuts,if_neg ‹_›,e]
    simp [hl]
def Qfq (b:UInt8) (s:List UInt8) (i:Nat) (h:Lib.index s [b]=(i:Int)):b ∈ s:=by
 induction s generalizing i with
 |nil=>simp [Lib.index] at h
 |cons x s ih =>
  rw [index_one] at h;split at h
  ·subst ‹x=b›;exact .head _
  ·split at h
   ·omega
   ·exact .tail _ (ih (i - 1) (by omega))
def KS (b:UInt8):∀ (n:Nat) (s:List UInt8),s.length<=n->Lib.splitK [b] 0 (Lib.count s [b]) s=zH s b
 |n,s,hn=>by
  have hge:=Lib.index_ge s [b]
  by_cases h:Lib.index s [b]=-1
  ·rw [Lib.count_miss h,zH,Jz b s [] h];rfl
  ·obtain ⟨i,hi⟩:∃ i:Nat,Lib.index s [b]=(i:Int):=⟨(Lib.index s [b]).toNat,by omega⟩
   obtain ⟨e,hl⟩:=JD b s [] i hi;rw [Lib.count_hit (by simp) hi,zH,e,cd,Lib.splitK,hi,if_neg (by simp)]
   cases n with
   |zero=>omega
   |succ n =>
    have:=KS b n (s.drop (i+1)) (by simp;omega)
    unfold zH at this
    simpa using this
def UO (s:List UInt8) (b:UInt8):spS s [b]=zH s b:=(QcE s [b]).trans (KS b s.length s (ag _))
def yA (b:UInt8):∀ (s cur:List UInt8),(cuts b cur s).length ≠ 0
 |[],cur=>by simp [cuts]
 |x :: s,cur=>by
  rw [cuts];split
  ·simp
  ·exact yA b s _
def jF (b:UInt8):∀ (s cur:List UInt8),∀ w ∈ cuts b cur s,w.length<=cur.length+s.length
 |[],cur,w,hw=>by rw [cuts] at hw;simp at hw;subst hw;simp
 |x :: s,cur,w,hw=>by
  rw [cuts] at hw;split at hw
  ·rcases ai.1 hw with rfl|hw
   ·simp
   ·have:=jF b s [] w hw
    simp at this ⊢;omega
  ·have:=jF b s (cur++[x]) w hw
   simp at this ⊢;omega
def shR (s:List UInt8):Option Sh:=match qO (zH s 47) with
 |some l=>if l.length=2 then some ⟨l.getD 0 0,l.getD 1 0⟩ else none
 |none=>none
def Qd2 {a b:List UInt8}:qO [a,b]=match wZ a,wZ b with
  |some x,some y=>some [x,y]
  |_,_=>none:=by
 simp only [qO];cases wZ a <;> cases wZ b <;> rfl
def Qgj (s:List UInt8):shP s=shR s:=by
 have hge:=Lib.index_ge s [47]
 by_cases h:Lib.index s [47]=-1
 ·have e:zH s 47=[s]:=Jz 47 s [] h
  unfold shP shR Lib.cut;rw [h,e]
  simp only [qO];cases wZ s <;> simp
 ·obtain ⟨i,hi⟩:∃ i:Nat,Lib.index s [47]=(i:Int):=⟨(Lib.index s [47]).toNat,by omega⟩
  obtain ⟨e,hl⟩:=JD 47 s [] i hi;have hc:Lib.cut s [47]=(s.take i,s.drop (i+1),true):=by
   unfold Lib.cut;rw [hi,if_pos (by omega)];simp
  unfold shP shR zH;rw [hc,e]
  simp only [if_true];have hge2:=Lib.index_ge (s.drop (i+1)) [47]
  by_cases h2:Lib.index (s.drop (i+1)) [47]=-1
  ·rw [Jz 47 _ [] h2,bq,bq,Qd2]
   cases wZ (s.take i) <;> cases wZ (s.drop (i+1)) <;> rfl
  ·obtain ⟨j,hj⟩:∃ j:Nat,Lib.index (s.drop (i+1)) [47]=(j:Int):=⟨(Lib.index (s.drop (i+1)) [47]).toNat,by omega⟩
   obtain ⟨e2,_⟩:=JD 47 _ [] j hj;have hn:wZ (s.drop (i+1))=none:=by
    rw [Qbz];exact QhY (.inl (by decide)) (Qfq 47 _ j hj)
   rw [hn,e2];have hlen:∀ l,qO (([]++s.take i) :: ([]++(s.drop (i+1)).take j) :: cuts 47 [] ((s.drop (i+1)).drop (j+1)))=some l->¬ l.length=2:=fun l hq h3=>by
    have h4:=vO _ hq;have h5:=yA 47 ((s.drop (i+1)).drop (j+1)) []
    rw [h3] at h4;simp only [bj] at h4
    omega
   cases wZ (s.take i) <;> (dsimp only;split <;> first|rfl|(rename_i l hq;rw [if_neg (hlen l hq)]))
def kM (o:Option (List Int)):AV:=.tup [qi (o.getD []),aB o.isSome]
def rnS (L:List (List UInt8)) (i:Nat) (out:List Int):St:={ t:=asg [(0,qa L),(2,.sl []),(3,aB false),(4,.row 0),(5,aI i)],h:=qg [(0,.row 3 1 (out.map qj))],n:=1 }
def rniS (L:List (List UInt8)) (i:Nat) (out:List Int) (s:List UInt8) (k:Nat) (v:Int):St:={ t:=asg [(0,qa L),(2,.sl []),(3,aB false),(4,.row 0),(5,aI i),(6,aS s),(7,aI v),(8,aI k)],h:=qg [(0,.row 3 1 (out.map qj))],n:=1 }
def RnOk (s:List UInt8) (p:Nat × Int):Prop:=p.1<=s.length/\0<=p.2/\p.2 < 10 ^ p.1/\Y8 0 s=Y8 p.2 (s.drop p.1)
def yg:=vj @ty3 (vj @ty5 (vj @ty9 (vj @jh (vj @JR (vj @ti3.eq_1 (vj @ti5.eq_1 (vj @ti9.eq_1 (vj @jc.eq_1 @Wj.eq_1))))))))
def jC:=vj @aI.eq_1 (vj @aB.eq_1 (vj @qi.eq_1 (vj @qj.eq_1 (@ZJ))))
def Qh2 (l:List (List UInt8)) (hn:l.length<=1000):FnV prog 133 [qa l] (kM (qO l)):=by
 have env:=qx (A:=fun _=>True) kN
 refine kV (Fn0 func133 rfl (fun vs w=>by kernel_rfl) (by kernel_rfl)) (by simp) (by simp [AV.ids,qa]) ?_
 have hmx:(100000:Nat)<=maxLen:=by decide
 repeat' first|(apply nx;with_reducible constructor)|apply uq (by decide)|((first|apply uz env|apply uk);intro Q hQ;simp only [vkt,seval,qa,ite_and];(repeat' first|with_reducible assumption|apply vj|intro hp);all_goals first|(apply hQ;clear hQ Q)|(apply ux;kernel_rfl)|omega|assumption|with_reducible rfl|skip)
 refine qh (fun s:{ p:Nat × List Int // p.1<=l.length/\qO (l.take p.1)=some p.2 }=>rnS l s.1.1 s.1.2) (fun s=>l.length - s.1.1) ⟨(0,[]),af _,rfl⟩ ?_ fun ⟨⟨i,out⟩,hi,hg⟩=>?_
 ·simp only [rnS]
  (refine Le.ok (fun i=>if i=0 then none else some i) [] ?_;constructor;all_goals (try simp only [vle,vkt,seval,jC,qa]))
  all_goals first|rfl|(simp;done)|exact ⟨rfl,trivial⟩|(intro i hi;rw [if_neg (by omega)];done)
 simp only at hi hg ⊢;have hal:=vO _ hg
 rw [aR] at hal;have ha1:out.length+1<=maxLen:=by omega
 by_cases hlt:i < l.length
 ·have d0:decide ((i:Int) < (l.length:Int))=true:=decide_eq_true (by omega)
  have e9:=k9 i (by omega)
  have hx:∀ d,(l.map ql).getD i d=[.v (.string ⟨⟨l.getD i []⟩⟩)]:=fun d=>ZV l i d hlt
  have hS:=ZM l hlt;have hd:l=l.take i++l.getD i [] :: l.drop (i+1):=by
   have h1:=cF (i+1) l;rw [hS] at h1
   simpa using h1.symm
  have hnone:Xr (l.getD i [])=none->qO l=none:=fun hq=>by
   rw [hd,QF,hg,qO,Qbz,hq]
  have hsome:∀ v,Xr (l.getD i [])=some v->qO (l.take (i+1))=some (out++[v]):=fun v hv=>by
   rw [hS,QF,hg,qO,Qbz,hv];rfl
  generalize l.getD i []=s at hx hnone hsome;clear hS hd
  have hsz:(ByteArray.mk ⟨s⟩).size=s.length:=rfl;unfold Xr at hnone hsome
  by_cases h1:s.length < 1
  ·have d1:decide ((s.length:Int) < 1)=true:=decide_eq_true (by omega)
   rw [if_pos (.inl h1)] at hnone;rw [hnone rfl]
   simp only [rnS]
   repeat' first|(apply nx;with_reducible constructor)|apply uq (by decide)|((first|apply uz env|apply uk);intro Q hQ;simp only [vkt,seval,yg,jC,qa,d0,hx,hlt,hsz,d1,ite_and];(repeat' first|with_reducible assumption|apply vj|intro hp);all_goals first|(apply hQ;clear hQ Q)|(apply ux;kernel_rfl)|omega|assumption|with_reducible rfl|skip)
   (simp only [vrt,results133,kM,vkt,seval,jC,kM];refine Fin.val rfl ?_;(try simp only [AV.le,AV.leL]))
   all_goals first|rfl|simp
  have d1:decide ((s.length:Int) < 1)=false:=decide_eq_false (by omega)
  by_cases h2:3 < s.length
  ·have d2:decide ((3:Int) < (s.length:Int))=true:=decide_eq_true (by omega)
   rw [if_pos (.inr (.inl h2))] at hnone;rw [hnone rfl]
   simp only [rnS]
   repeat' first|(apply nx;with_reducible constructor)|apply uq (by decide)|((first|apply uz env|apply uk);intro Q hQ;simp only [vkt,seval,yg,jC,qa,d0,hx,hlt,hsz,d1,d2,ite_and];(repeat' first|with_reducible assumption|apply vj|intro hp);all_goals first|(apply hQ;clear hQ Q)|(apply ux;kernel_rfl)|omega|assumption|with_reducible rfl|skip)
   (simp only [vrt,results133,kM,vkt,seval,jC,kM];refine Fin.val rfl ?_;(try simp only [AV.le,AV.leL]))
   all_goals first|rfl|simp
  have d2:decide ((3:Int) < (s.length:Int))=false:=decide_eq_false (by omega)
  have hp0:0 < s.length:=by omega
  by_cases h3:s.getD 0 0=48/\1 < s.length
  ·have d3:decide ((((s.getD 0 0).toNat:Nat):Int)=48)=true:=decide_eq_true (by rw [h3.1];rfl)
   have d4:decide ((1:Int) < (s.length:Int))=true:=decide_eq_true (by omega)
   rw [if_pos (.inr (.inr h3))] at hnone;rw [hnone rfl]
   simp only [rnS]
   repeat' first|(apply nx;with_reducible constructor)|apply uq (by decide)|((first|apply uz env|apply uk);intro Q hQ;simp only [vkt,seval,yg,jC,qa,d0,hx,hlt,hsz,d1,d2,d3,d4,hp0,ite_and];(repeat' first|with_reducible assumption|apply vj|intro hp);all_goals first|(apply hQ;clear hQ Q)|(apply ux;kernel_rfl)|omega|assumption|with_reducible rfl|skip)
   (simp only [vrt,results133,kM,vkt,seval,jC,kM];refine Fin.val rfl ?_;(try simp only [AV.le,AV.leL]))
   all_goals first|rfl|simp
  have hneg:¬ (s.length < 1\/3 < s.length\/s.getD 0 0=48/\1 < s.length):=by rintro (h|h|h) <;> first|exact h1 h|exact h2 h|exact h3 h
  rw [if_neg hneg] at hnone hsome;have hdd:(decide ((((s.getD 0 0).toNat:Nat):Int)=48)=false/\decide ((s.length:Int) < 1)=false)\/(decide ((((s.getD 0 0).toNat:Nat):Int)=48)=true/\decide ((1:Int) < (s.length:Int))=false):=by
   by_cases h4:s.getD 0 0=48
   ·exact .inr ⟨decide_eq_true (by rw [h4];rfl),decide_eq_false (by have:¬ 1 < s.length:=fun h=>h3 ⟨h4,h⟩;omega)⟩
   ·exact .inl ⟨decide_eq_false fun e=>h4 (UInt8.toNat_inj.1 (by have:((48:UInt8).toNat:Int)=48:=rfl;omega)),d1⟩
  rcases hdd with ⟨d3,d4⟩|⟨d3,d4⟩
  all_goals
   simp only [rnS]
   repeat' first|(apply nx;with_reducible constructor)|apply uq (by decide)|((first|apply uz env|apply uk);intro Q hQ;simp only [vkt,seval,yg,jC,qa,d0,hx,hlt,hsz,d1,d2,d3,d4,hp0,ite_and];(repeat' first|with_reducible assumption|apply vj|intro hp);all_goals first|(apply hQ;clear hQ Q)|(apply ux;kernel_rfl)|omega|assumption|with_reducible rfl|skip)
   refine qh (fun q:{ p:Nat × Int // RnOk s p }=>rniS l i out s q.1.1 q.1.2) (fun q=>s.length - q.1.1) ⟨(0,0),af _,by simp,by simp,by simp⟩ ?_ fun ⟨⟨k,v⟩,hk,hv0,hv1,hv⟩=>?_
   ·simp only [rniS]
    (refine Le.ok some [] ?_;constructor;all_goals (try simp only [vle,vkt,seval,jC,aS,qa]))
    all_goals first|rfl|simp
   dsimp only at hk hv0 hv1 hv;simp only
   by_cases hkt:k < s.length
   ·have e1:decide ((k:Int) < (s.length:Int))=true:=decide_eq_true (by omega)
    have e8:=k9 k (by omega)
    have hxk:s.getD k 0=s[k]:=by simp [hkt]
    have hdr:s.drop k=s[k] :: s.drop (k+1):=cA hkt;rw [hdr] at hv
    have hkn:((k:Int)).toNat=k:=by omega
    have hk3:k < 3:=by omega
    have hv2:v < 1000:=by
     have:k=0\/k=1\/k=2:=by omega
     rcases this with rfl|rfl|rfl <;> omega
    have hx1:s[k].toNat < 256:=UInt8.toNat_lt _;generalize s[k]=x at hxk hv hx1
    rw [Y8] at hv;simp only [rniS]
    by_cases hb:x.toNat < 48\/57 < x.toNat
    ·rw [if_pos hb] at hv
     rw [hnone hv]
     by_cases hb1:x.toNat < 48
     ·have f1:decide (((x.toNat:Nat):Int) < 48)=true:=decide_eq_true (by omega)
      repeat' first|(apply nx;with_reducible constructor)|apply uq (by decide)|((first|apply uz env|apply uk);intro Q hQ;simp only [vkt,seval,yg,jC,aS,qa,hsz,e1,hxk,hkn,hkt,f1,ite_and];(repeat' first|with_reducible assumption|apply vj|intro hp);all_goals first|(apply hQ;clear hQ Q)|(apply ux;kernel_rfl)|omega|assumption|with_reducible rfl|skip)
      (simp only [vrt,results133,kM,vkt,seval,jC,kM];refine Fin.val rfl ?_;(try simp only [AV.le,AV.leL]))
      all_goals first|rfl|simp
     ·have f1:decide (((x.toNat:Nat):Int) < 48)=false:=decide_eq_false (by omega)
      have f2:decide ((57:Int) < ((x.toNat:Nat):Int))=true:=decide_eq_true (by omega)
      repeat' first|(apply nx;with_reducible constructor)|apply uq (by decide)|((first|apply uz env|apply uk);intro Q hQ;simp only [vkt,seval,yg,jC,aS,qa,hsz,e1,hxk,hkn,hkt,f1,f2,ite_and];(repeat' first|with_reducible assumption|apply vj|intro hp);all_goals first|(apply hQ;clear hQ Q)|(apply ux;kernel_rfl)|omega|assumption|with_reducible rfl|skip)
      (simp only [vrt,results133,kM,vkt,seval,jC,kM];refine Fin.val rfl ?_;(try simp only [AV.le,AV.leL]))
      all_goals first|rfl|simp
    ·rw [if_neg hb] at hv
     have f1:decide (((x.toNat:Nat):Int) < 48)=false:=decide_eq_false (by omega)
     have f2:decide ((57:Int) < ((x.toNat:Nat):Int))=false:=decide_eq_false (by omega)
     have m1:IntKind.wrap .i64 (10 * v)=10 * v:=wrap64 (by omega) (by omega)
     have m2:IntKind.wrap .u8 (((x.toNat:Nat):Int) - 48)=((x.toNat:Nat):Int) - 48:=IntWalk.u8_in _ (by omega)
     have m3:IntKind.wrap .i64 (((x.toNat:Nat):Int) - 48)=((x.toNat:Nat):Int) - 48:=wrap64 (by omega) (by omega)
     have m4:IntKind.wrap .i64 (10 * v+(((x.toNat:Nat):Int) - 48))=10 * v+(((x.toNat:Nat):Int) - 48):=wrap64 (by omega) (by omega)
     have hnew:RnOk s (k+1,10 * v+(((x.toNat:Nat):Int) - 48)):=⟨hkt,by show 0<=10 * v+_;omega,by show 10 * v+_ < 10 ^ (k+1);rw [Int.pow_succ];omega,hv⟩
     repeat' first|(apply nx;with_reducible constructor)|apply uq (by decide)|((first|apply uz env|apply uk);intro Q hQ;simp only [vkt,seval,yg,jC,aS,qa,hsz,e1,e8,hxk,hkn,hkt,f1,f2,m1,m2,m3,m4,ite_and];(repeat' first|with_reducible assumption|apply vj|intro hp);all_goals first|(apply hQ;clear hQ Q)|(apply ux;kernel_rfl)|omega|assumption|with_reducible rfl|skip)
     refine ⟨⟨(k+1,10 * v+(((x.toNat:Nat):Int) - 48)),hnew⟩,by show s.length - (k+1) < s.length - k;omega, ?_⟩
     (refine Le.ok some [] ?_;constructor;all_goals (try simp only [vle,vkt,seval,jC,aS,qa]))
     all_goals first|rfl|simp
   ·have e1:decide ((k:Int) < (s.length:Int))=false:=decide_eq_false (by omega)
    obtain rfl:k=s.length:=by omega
    rw [List.drop_length,Y8] at hv;have hs2:=hsome v hv
    have e4:out.map qj++[[.v (.int .i64 v)]]=(out++[v]).map qj:=by rw [ae];rfl
    simp only [rniS]
    repeat' first|(apply nx;with_reducible constructor)|apply uq (by decide)|((first|apply uz env|apply uk);intro Q hQ;simp only [vkt,seval,yg,jC,aS,qa,hsz,e1,ha1,e4,e9,ite_and];(repeat' first|with_reducible assumption|apply vj|intro hp);all_goals first|(apply hQ;clear hQ Q)|(apply ux;kernel_rfl)|omega|assumption|with_reducible rfl|skip)
    refine ⟨⟨(i+1,out++[v]),hlt,hs2⟩,by show l.length - (i+1) < l.length - i;omega, ?_⟩
    simp only []
    (refine Le.ok (fun i=>if i=0 then some 2 else some i) [] ?_;constructor;all_goals (try simp only [vle,vkt,seval,jC,qa]))
    all_goals first|rfl|(simp;done)|(intro i hi;rw [if_neg (by omega)];done)
 ·have d0:decide ((i:Int) < (l.length:Int))=false:=decide_eq_false (by omega)
  obtain rfl:i=l.length:=by omega
  rw [bt] at hg;rw [hg]
  simp only [rnS]
  repeat' first|(apply nx;with_reducible constructor)|apply uq (by decide)|((first|apply uz env|apply uk);intro Q hQ;simp only [vkt,seval,yg,jC,qa,d0,ite_and];(repeat' first|with_reducible assumption|apply vj|intro hp);all_goals first|(apply hQ;clear hQ Q)|(apply ux;kernel_rfl)|omega|assumption|with_reducible rfl|skip)
  (simp only [vrt,results133,kM,vkt,seval,jC,kM];refine Fin.val rfl ?_;(try simp only [AV.le,AV.leL]))
  all_goals first|rfl|exact ⟨_,_,rfl⟩|exact ⟨⟨_,_,rfl⟩,trivial,trivial⟩|(simp;done)
def Qfl (l:List (List UInt8)) (hn:l.length<=1000):FnV prog 133 [qa l] (.tup [qi ((qO l).getD []),aB (qO l).isSome]):=Qh2 l hn
def xL:List AV->Prop × AV
 |[.sl l]=>(l=(l.map yF).map ql/\(l.map yF).length<=1000,.tup [qi ((qO (l.map yF)).getD []),aB (qO (l.map yF)).isSome])
 |_=>(False,.junk)
def Qw {A:Frm->Prop}:qf A prog 133 (zq false xL):=qD fun vs hv h=>by
 clear hv;unfold xL at h ⊢
 split at h
 ·rename_i l;obtain ⟨q0,k0⟩:=h
  refine ⟨by first|trivial|(repeat' split) <;> simp [AV.plain,AV.plainL,aI,aB,qi,aBunks,aTks,aBunk,aTk,cTk],fun h=>absurd h (by decide), ?_⟩
  have:=Qfl (l.map yF) k0;simp only [qa,<- q0] at this
  first|exact this|(simp only [qa,<- q0];exact this)
 ·exact h.elim
def It9 (l:List (List UInt8)):Prop:=∀ w ∈ l,w.length<=900
def It9.at {l:List (List UInt8)} (hl:It9 l) {k:Nat} (h:k < l.length):(l.getD k []).length<=900:=by
 rw [show l.getD k []=l[k] by simp [ah,h]]
 exact hl _ (bF _)
def WY (l:List (List UInt8)):Option (List Sh):=(jl l).map fun r=>⟨1,1⟩ :: r
def rrS (L:List (List UInt8)) (i:Nat) (b:List Sh):St:={ t:=asg [(0,qa L),(2,.sl []),(3,aB false),(4,.row 0),(5,aI i)],h:=qg [(0,.row 110 2 (b.map eSh))],n:=1 }
def Qe:=vj @ty3 (vj @ty9 (vj @jh (vj @JR (vj @vQ (vj @Qg (vj @ti3.eq_1 (vj @ti9.eq_1 (vj @jc.eq_1 (vj @Wj.eq_1 (vj @yP.eq_1 @xD.eq_1))))))))))
def QB:=vj @aI.eq_1 (vj @aB.eq_1 (vj @qi.eq_1 (vj @yx.eq_1 (vj @qj.eq_1 (vj @ZJ (vj @eSh.eq_1 (@rSh)))))))
def QgJ (l:List (List UInt8)) (hl:It9 l) (hn:l.length<=1000):FnV prog 134 [qa l] (.tup [yx ((WY l).getD []),aB (WY l).isSome]):=by
 have env:=qx (A:=fun _=>True) (kC WJ (kC Qw kN))
 refine kV (Fn0 func134 rfl (fun vs w=>by kernel_rfl) (by kernel_rfl)) (by simp) (by simp [AV.ids,qa]) ?_
 have hmx:(100000:Nat)<=maxLen:=by decide
 have u47:UInt8.ofNat 47=47:=rfl
 repeat' first|(apply nx;with_reducible constructor)|apply uq (by decide)|((first|apply uz env|apply uk);intro Q hQ;simp only [vkt,seval,Qe,qa,ite_and];(repeat' first|with_reducible assumption|apply vj|intro hp);all_goals first|(apply hQ;clear hQ Q)|(apply ux;kernel_rfl)|omega|assumption|with_reducible rfl|skip)
 refine qh (fun s:{ p:Nat × List Sh // QhI l p }=>rrS l s.1.1 s.1.2) (fun s=>l.length - s.1.1) ⟨(0,[⟨1,1⟩]),af _,[],rfl,rfl⟩ ?_ fun ⟨⟨i,b⟩,hi,a,hb,hg⟩=>?_
 ·simp only [rrS]
  (refine Le.ok (fun i=>if i=0 then some 0 else some i) [] ?_;constructor;all_goals (try simp only [vle,vkt,seval,QB,qa]))
  all_goals first|rfl|(simp;done)|exact ⟨rfl,trivial⟩|(intro i hi;rw [if_neg (by omega)];done)
 simp only at hi hb hg ⊢;have hal:=ZF _ hg
 rw [aR] at hal;have hbl:b.length=a.length+1:=by rw [hb];rfl
 have ha1:b.length+1<=maxLen:=by omega
 by_cases hlt:i < l.length
 ·have d0:decide ((i:Int) < (l.length:Int))=true:=decide_eq_true (by omega)
  have e9:=k9 i (by omega)
  have hx:∀ d,(l.map ql).getD i d=[.v (.string ⟨⟨l.getD i []⟩⟩)]:=fun d=>ZV l i d hlt
  have hs:=hl.at hlt;have hS:=ZM l hlt
  have hd:l=l.take i++l.getD i [] :: l.drop (i+1):=by
   have h1:=cF (i+1) l;rw [hS] at h1
   simpa using h1.symm
  have hnone:shR (l.getD i [])=none->jl l=none:=fun hq=>by
   rw [hd,QE,hg,jl,Qgj,hq]
  have hsome:∀ v,shR (l.getD i [])=some v->jl (l.take (i+1))=some (a++[v]):=fun v hv=>by
   rw [hS,QE,hg,jl,Qgj,hv];rfl
  generalize l.getD i []=s at hx hnone hsome hs;clear hS hd
  have hs1:s.length<=100000:=by omega
  have hcl:=jN 47 s [];unfold shR at hnone hsome
  obtain ⟨C,hC⟩:∃ C,zH s 47=C:=⟨_,rfl⟩;have hC2:C.length<=1000:=by rw [<- hC];unfold zH;omega
  rw [hC] at hnone hsome;simp only [rrS]
  cases hq:qO C with
  |none =>
   have hI:(qO C).isSome=false:=by rw [hq];rfl
   rw [hq] at hnone;have ho:WY l=none:=by unfold WY;rw [hnone rfl];rfl
   rw [ho]
   repeat' first|(apply nx;with_reducible constructor)|apply uq (by decide)|((first|apply uz env|apply uk);intro Q hQ;simp only [vkt,seval,Qe,QB,wO,qa,Qx,xL,d0,hx,hlt,hs1,u47,hC,hC2,hI,ite_and];(repeat' first|with_reducible assumption|apply vj|intro hp);all_goals first|(apply hQ;clear hQ Q)|(apply ux;kernel_rfl)|omega|assumption|with_reducible rfl|skip)
   (simp only [vrt,results134,vkt,seval,QB];refine Fin.val rfl ?_;(try simp only [AV.le,AV.leL]))
   all_goals first|rfl|simp
  |some q =>
   have hI:(qO C).isSome=true:=by rw [hq];rfl
   have hG:(qO C).getD []=q:=by rw [hq];rfl
   rw [hq] at hnone hsome;dsimp only at hnone hsome
   by_cases h2:q.length=2
   ·have d2:decide ((q.length:Int)=2)=true:=decide_eq_true (by omega)
    rw [if_pos h2] at hsome;have hs2:=hsome _ rfl
    have y0:=gI q (k:=0) (by omega)
    have y1:=gI q (k:=1) (by omega)
    have m0:0 < q.length:=by omega
    have m1:1 < q.length:=by omega
    generalize q.getD 0 0=x at y0 hs2;generalize q.getD 1 0=y at y1 hs2
    have e4:b.map eSh++[[.v (.int .i64 x),.v (.int .i64 y)]]=(b++[(⟨x,y⟩:Sh)]).map eSh:=by rw [ae];rfl
    repeat' first|(apply nx;with_reducible constructor)|apply uq (by decide)|((first|apply uz env|apply uk);intro Q hQ;simp only [vkt,seval,Qe,QB,wO,qa,Qx,xL,d0,e9,hx,hlt,hs1,u47,hC,hC2,hI,hG,d2,y0,y1,m0,m1,ha1,e4,ite_and];(repeat' first|with_reducible assumption|apply vj|intro hp);all_goals first|(apply hQ;clear hQ Q)|(apply ux;kernel_rfl)|omega|assumption|with_reducible rfl|skip)
    refine ⟨⟨(i+1,b++[(⟨x,y⟩:Sh)]),hlt,a++[(⟨x,y⟩:Sh)],by rw [hb];rfl,hs2⟩,by show l.length - (i+1) < l.length - i;omega, ?_⟩
    (refine Le.ok (fun i=>if i=0 then some 2 else some i) [] ?_;constructor;all_goals (try simp only [vle,vkt,seval,QB,qa]))
    all_goals first|rfl|(simp;done)|(intro i hi;rw [if_neg (by omega)];done)
   ·have d2:decide ((q.length:Int)=2)=false:=decide_eq_false (by omega)
    rw [if_neg h2] at hnone;have ho:WY l=none:=by unfold WY;rw [hnone rfl];rfl
    rw [ho]
    repeat' first|(apply nx;with_reducible constructor)|apply uq (by decide)|((first|apply uz env|apply uk);intro Q hQ;simp only [vkt,seval,Qe,QB,wO,qa,Qx,xL,d0,hx,hlt,hs1,u47,hC,hC2,hI,hG,d2,ite_and];(repeat' first|with_reducible assumption|apply vj|intro hp);all_goals first|(apply hQ;clear hQ Q)|(apply ux;kernel_rfl)|omega|assumption|with_reducible rfl|skip)
    (simp only [vrt,results134,vkt,seval,QB];refine Fin.val rfl ?_;(try simp only [AV.le,AV.leL]))
    all_goals first|rfl|simp
 ·have d0:decide ((i:Int) < (l.length:Int))=false:=decide_eq_false (by omega)
  obtain rfl:i=l.length:=by omega
  rw [bt] at hg;have ho:WY l=some b:=by unfold WY;rw [hg,hb];rfl
  rw [ho];simp only [rrS,cL,ee]
  repeat' first|(apply nx;with_reducible constructor)|apply uq (by decide)|((first|apply uz env|apply uk);intro Q hQ;simp only [vkt,seval,Qe,QB,qa,d0,ite_and];(repeat' first|with_reducible assumption|apply vj|intro hp);all_goals first|(apply hQ;clear hQ Q)|(apply ux;kernel_rfl)|omega|assumption|with_reducible rfl|skip)
  (simp only [vrt,results134,vkt,seval,QB];refine Fin.val rfl ?_;(try simp only [AV.le,AV.leL]))
  all_goals first|rfl|exact ⟨_,_,rfl⟩|exact ⟨⟨_,_,rfl⟩,trivial,trivial⟩|(simp;done)
def UD:List AV->Prop × AV
 |[.sl l]=>(l=(l.map yF).map ql/\It9 (l.map yF)/\(l.map yF).length<=1000,.tup [yx ((WY (l.map yF)).getD []),aB (WY (l.map yF)).isSome])
 |_=>(False,.junk)
def Zl {A:Frm->Prop}:qf A prog 134 (zq false UD):=qD fun vs hv h=>by
 clear hv;unfold UD at h ⊢
 split at h
 ·rename_i l;obtain ⟨q0,k0,k1⟩:=h
  refine ⟨by first|trivial|(repeat' split) <;> simp [AV.plain,AV.plainL,aI,aB,qi,aBunks,aTks,aBunk,aTk,cTk,aS,qa],fun h=>absurd h (by decide), ?_⟩
  have:=QgJ (l.map yF) k0 k1;simp only [qa,<- q0] at this
  first|exact this|(simp only [qa,<- q0];exact this)
 ·exact h.elim
def Lp:=vj @ty9 (vj @JR (vj @ti9.eq_1 @Wj.eq_1))
def Qgt (k:Int) (h0:0<=k) (h4:k<=4):FnV prog 69 [aI k] (aS (ZP k)):=by
 have env:=qx (A:=fun _=>True) kN
 refine kV (Fn0 func69 rfl (fun vs w=>by kernel_rfl) (by kernel_rfl)) (by simp) (by simp [AV.ids,aI]) ?_
 have q1:(5:Nat)<=maxLen:=by decide
 have hk:k=0\/k=1\/k=2\/k=3\/k=4:=by omega
 rcases hk with rfl|rfl|rfl|rfl|rfl
 all_goals
  repeat' first|(apply nx;with_reducible constructor)|apply uq (by decide)|((first|apply uz env|apply uk);intro Q hQ;simp only [vkt,seval,Lp,@aI.eq_1,du,dw,ite_and];(repeat' first|with_reducible assumption|apply vj|intro hp);all_goals first|(apply hQ;clear hQ Q)|(apply ux;kernel_rfl)|omega|assumption|with_reducible rfl|skip)
  (simp only [vrt,results69,vkt,seval,aS];refine Fin.val rfl ?_;(try simp only [AV.le]))
  all_goals first|rfl|simp
def Zj:List AV->Prop × AV
 |[.v (.int .i64 k)]=>(0<=k/\k<=4,aS (ZP k))
 |_=>(False,.junk)
def Qgm {A:Frm->Prop}:qf A prog 69 (zq true Zj):=qD fun vs hv h=>by
 clear hv;unfold Zj at h ⊢
 split at h
 ·rename_i k;obtain ⟨k0,k1⟩:=h
  refine ⟨by first|trivial|(repeat' split) <;> simp [AV.plain,AV.plainL,aI,aB,qi,aBunks,aTks,aBunk,aTk,cTk,aS,qa],fun _=>(by simp [AV.flat,aS]), ?_⟩
  have:=Qgt k k0 k1;simp only [aI] at this
  first|exact this|(simp only [aI];exact this)
 ·exact h.elim
def QfU {k:Nat} (h:k<=4):ZP k=ZY.getD k []:=by
 have hk:k=0\/k=1\/k=2\/k=3\/k=4:=by omega
 rcases hk with rfl|rfl|rfl|rfl|rfl <;> rfl
def Ql7 {k:Nat} (h:k<=4):kdP (ZY.getD k [])=k:=by
 have hk:k=0\/k=1\/k=2\/k=3\/k=4:=by omega
 rcases hk with rfl|rfl|rfl|rfl|rfl <;> decide
def Ql0 {w:List UInt8} (h:∀ j:Nat,1<=j->j < 5->ZY.getD j [] ≠ w):kdP w=0:=by
 unfold kdP;rw [kdU,if_neg (h 4 (by omega) (by omega)),kdU,if_neg (h 3 (by omega) (by omega)),kdU,if_neg (h 2 (by omega) (by omega)),kdU,if_neg (h 1 (by omega) (by omega)),kdU]
 split <;> rfl
def Qfm {l:List (List UInt8)} (h:l.length < 4):xQ l=none:=by
 unfold xQ;split
 ·rfl
 ·split
  ·rename_i d n _ hn
   have:=vO _ hn;rw [aM] at this
   unfold LJ;rw [if_neg (fun e=>by have:=e.2;omega),if_pos (.inr (.inr (by omega)))]
  ·rfl
def reS (L:List (List UInt8)) (k:Nat):St:={ t:=asg [(0,qa L),(2,.ptr 0 0),(3,aB false),(4,aI k)],h:=qg [(0,.cells [aI 0,aI 0,aI 0,aI 0,aI 0,aI 0])],n:=1 }
def QaC:Ent:=⟨0,0,0,0,0,0⟩
def zU:=vj @ty3 (vj @ty9 (vj @jh (vj @JR (vj @vR (vj @ti3.eq_1 (vj @ti9.eq_1 (vj @jc.eq_1 (vj @Wj.eq_1 @yS.eq_1))))))))
def yw:=vj @aI.eq_1 (vj @aB.eq_1 (vj @qi.eq_1 (vj @yE.eq_1 (vj @qj.eq_1 (@ZJ)))))
def QiW (l:List (List UInt8)) (hn:l.length<=900):FnV prog 135 [qa l] (.tup [yE ((xQ l).getD QaC),aB (xQ l).isSome]):=by
 have env:=qx (A:=fun _=>True) (kC Qgm (kC Qw kN))
 refine kV (Fn0 func135 rfl (fun vs w=>by kernel_rfl) (by kernel_rfl)) (by simp) (by simp [AV.ids,qa]) ?_
 have hmx:(100000:Nat)<=maxLen:=by decide
 by_cases h4:l.length < 4
 ·have d1:decide ((l.length:Int) < 4)=true:=decide_eq_true (by omega)
  rw [Qfm h4]
  repeat' first|(apply nx;with_reducible constructor)|apply uq (by decide)|((first|apply uz env|apply uk);intro Q hQ;simp only [vkt,seval,zU,qa,d1,ite_and];(repeat' first|with_reducible assumption|apply vj|intro hp);all_goals first|(apply hQ;clear hQ Q)|(apply ux;kernel_rfl)|omega|assumption|with_reducible rfl|skip)
  (simp only [vrt,results135,vkt,seval,zU,yw,QaC];refine Fin.val rfl ?_;(try simp only [AV.le,AV.leL]))
  all_goals first|rfl|simp
 have d1:decide ((l.length:Int) < 4)=false:=decide_eq_false (by omega)
 have hE:xQ l=match wZ (l.getD 0 []),qO (l.drop 2) with
   |some d,some n=>LJ d (kdP (l.getD 1 [])) n
   |_,_=>none:=by unfold xQ;rw [if_neg (by omega)] <;> cases wZ (l.getD 0 []) <;> cases qO (l.drop 2) <;> rfl
 have x0:∀ d,(l.map ql).getD 0 d=[.v (.string ⟨⟨l.getD 0 []⟩⟩)]:=fun d=>ZV l 0 d (by omega)
 have x1:∀ d,(l.map ql).getD 1 d=[.v (.string ⟨⟨l.getD 1 []⟩⟩)]:=fun d=>ZV l 1 d (by omega)
 have l0:0 < l.length:=by omega
 have l1:1 < l.length:=by omega
 obtain ⟨R,hR⟩:∃ R,l.drop 2=R:=⟨_,rfl⟩;have hRl:R.length<=900:=by rw [<- hR,aM];omega
 have hD:((l.map ql).take l.length).drop 2=R.map ql:=by rw [<- hR,bl,aP (by rw [ab];exact ag _)]
 have hrw:=xF l;have g2:(2:Int)<=(l.length:Int):=by omega
 rw [hR] at hE;generalize xQ l=o at hE
 generalize l.getD 0 []=w0 at hE x0;generalize l.getD 1 []=w1 at hE x1
 have hQ:qO (w0 :: R)=match wZ w0,qO R with
   |some v,some l=>some (v :: l)
   |_,_=>none:=rfl
 obtain ⟨Q,hQe⟩:∃ Q,w0 :: R=Q:=⟨_,rfl⟩;have hQl:Q.length<=1000:=by rw [<- hQe,bj];omega
 have hM1:([[.v (.string ⟨⟨w0⟩⟩)]]:List (List DV))++R.map ql=Q.map ql:=by rw [<- hQe];rfl
 have hM2:([.v (.string ⟨⟨w0⟩⟩)]:List DV) :: R.map ql=Q.map ql:=by rw [<- hQe];rfl
 rw [hQe] at hQ;have hR1:1+R.length<=maxLen:=by omega
 repeat' first|(apply nx;with_reducible constructor)|apply uq (by decide)|((first|apply uz env|apply uk);intro Q hQ;simp only [vkt,seval,zU,qa,d1,ite_and];(repeat' first|with_reducible assumption|apply vj|intro hp);all_goals first|(apply hQ;clear hQ Q)|(apply ux;kernel_rfl)|omega|assumption|with_reducible rfl|skip)
 refine qh (fun s:{ k:Nat // 1<=k/\k<=5/\∀ j,1<=j->j < k->ZY.getD j [] ≠ w1 }=>reS l s.1) (fun s=>5 - s.1) ⟨1,ag _,by omega,fun j h1 h2=>by omega⟩ ?_ fun ⟨k,hk1,hk5,hno⟩=>?_
 ·simp only [reS]
  (refine Le.ok some [] ?_;constructor;all_goals (try simp only [vle,vkt,seval,yw,qa]))
  all_goals first|rfl|(simp;done)|exact ⟨rfl,trivial⟩|(intro i hi;rw [if_neg (by omega)];done)
 simp only at hk1 hk5 hno ⊢
 by_cases hlt:k<=4
 ·have d2:decide ((k:Int)<=4)=true:=decide_eq_true (by omega)
  have e9:=k9 k (by omega)
  have f0:(0:Int)<=(k:Int):=by omega
  have f4:(k:Int)<=4:=by omega
  have hv:=QfU hlt;simp only [reS]
  by_cases hw:ZY.getD k []=w1
  ·have hkd:kdP w1=k:=by rw [<- hw];exact Ql7 hlt
   rw [hkd] at hE;obtain ⟨v,hv2⟩:∃ v,ZP (k:Int)=v:=⟨_,rfl⟩
   have b1:(w1 == v)=true:=by rw [<- hv2,hv,hw];simp
   cases hN:qO Q with
   |none =>
    have hI:(qO Q).isSome=false:=by rw [hN];rfl
    have ho:o=none:=by
     rw [hE];rw [hN] at hQ
     cases h1:wZ w0 <;> cases h2:qO R <;> rw [h1,h2] at hQ <;> first|rfl|cases hQ
    subst ho
    repeat' first|(apply nx;with_reducible constructor)|apply uq (by decide)|((first|apply uz env|apply uk);intro Q hQ;simp only [vkt,seval,zU,yw,aS,wO,qa,WQ,Zj,xL,f0,f4,hv2,b1,x0,x1,l0,l1,hD,hrw,g2,hM1,hR1,hQl,hI,Int.reduceToNat,ite_and];(repeat' first|with_reducible assumption|apply vj|intro hp);all_goals first|(apply hQ;clear hQ Q)|(apply ux;kernel_rfl)|omega|assumption|with_reducible rfl|skip)
    (simp only [vrt,results135,vkt,seval,zU,yw,QaC];refine Fin.val rfl ?_;(try simp only [AV.le,AV.leL]))
    all_goals first|rfl|simp
   |some M =>
    have hI:(qO Q).isSome=true:=by rw [hN];rfl
    have hG:(qO Q).getD []=M:=by rw [hN];rfl
    obtain ⟨d,n,hM,ho⟩:∃ d n,M=d :: n/\o=LJ d k n:=by
     rw [hN] at hQ;cases h1:wZ w0 with
     |none=>rw [h1] at hQ;cases hQ
     |some d=>cases h2:qO R with
      |none=>rw [h1,h2] at hQ;cases hQ
      |some n =>
       rw [h1,h2] at hQ hE;cases hQ
       exact ⟨d,n,rfl,hE⟩
    have hMl:M.length=n.length+1:=by rw [hM];rfl
    rw [ho];unfold LJ
    by_cases c3:k=3
    ·have c3':decide ((k:Int)=3)=true:=decide_eq_true (by omega)
     by_cases c4:n.length=4
     ·have d5:decide ((M.length:Int)=5)=true:=decide_eq_true (by omega)
      rw [if_pos ⟨by omega,c4⟩]
      have z0:M.getD 0 0=d:=by rw [hM];rfl
      have z1:n.getD 0 0=M.getD 1 0:=by rw [hM];rfl
      have z2:n.getD 1 0=M.getD 2 0:=by rw [hM];rfl
      have z3:n.getD 2 0=M.getD 3 0:=by rw [hM];rfl
      have z4:n.getD 3 0=M.getD 4 0:=by rw [hM];rfl
      rw [z1,z2,z3,z4];have y0:=gI M (k:=0) (by omega)
      have y1:=gI M (k:=1) (by omega)
      have y2:=gI M (k:=2) (by omega)
      have y3:=gI M (k:=3) (by omega)
      have y4:=gI M (k:=4) (by omega)
      rw [z0] at y0;have m0:0 < M.length:=by omega
      have m1:1 < M.length:=by omega
      have m2:2 < M.length:=by omega
      have m3:3 < M.length:=by omega
      have m4:4 < M.length:=by omega
      generalize M.getD 1 0=n1 at y1;generalize M.getD 2 0=n2 at y2
      generalize M.getD 3 0=n3 at y3;generalize M.getD 4 0=n4 at y4
      simp only [cL,ee]
      repeat' first|(apply nx;with_reducible constructor)|apply uq (by decide)|((first|apply uz env|apply uk);intro Q hQ;simp only [vkt,seval,zU,yw,aS,wO,qa,WQ,Zj,xL,f0,f4,hv2,b1,x0,x1,l0,l1,hD,hrw,g2,hM1,hR1,hQl,hI,hG,c3',d5,y0,y1,y2,y3,y4,m0,m1,m2,m3,m4,Int.reduceToNat,ite_and];(repeat' first|with_reducible assumption|apply vj|intro hp);all_goals first|(apply hQ;clear hQ Q)|(apply ux;kernel_rfl)|omega|assumption|with_reducible rfl|skip)
      (simp only [vrt,results135,vkt,seval,zU,yw];refine Fin.val rfl ?_;(try simp only [AV.le,AV.leL]))
      all_goals first|rfl|simp
     ·have d5:decide ((M.length:Int)=5)=false:=decide_eq_false (by omega)
      rw [if_neg (fun h=>c4 h.2),if_pos (.inr (.inl (by omega)))]
      repeat' first|(apply nx;with_reducible constructor)|apply uq (by decide)|((first|apply uz env|apply uk);intro Q hQ;simp only [vkt,seval,zU,yw,aS,wO,qa,WQ,Zj,xL,f0,f4,hv2,b1,x0,x1,l0,l1,hD,hrw,g2,hM1,hR1,hQl,hI,hG,c3',d5,Int.reduceToNat,ite_and];(repeat' first|with_reducible assumption|apply vj|intro hp);all_goals first|(apply hQ;clear hQ Q)|(apply ux;kernel_rfl)|omega|assumption|with_reducible rfl|skip)
      (simp only [vrt,results135,vkt,seval,zU,yw,QaC];refine Fin.val rfl ?_;(try simp only [AV.le,AV.leL]))
      all_goals first|rfl|simp
    ·have c3':decide ((k:Int)=3)=false:=decide_eq_false (by omega)
     by_cases c2:n.length=2
     ·have d3:decide ((M.length:Int)=3)=true:=decide_eq_true (by omega)
      rw [if_neg (fun h=>c3 (by omega)),if_neg (by rintro (h|h|h) <;> omega)]
      have z0:M.getD 0 0=d:=by rw [hM];rfl
      have z1:n.getD 0 0=M.getD 1 0:=by rw [hM];rfl
      have z2:n.getD 1 0=M.getD 2 0:=by rw [hM];rfl
      rw [z1,z2];have y0:=gI M (k:=0) (by omega)
      have y1:=gI M (k:=1) (by omega)
      have y2:=gI M (k:=2) (by omega)
      rw [z0] at y0;have m0:0 < M.length:=by omega
      have m1:1 < M.length:=by omega
      have m2:2 < M.length:=by omega
      generalize M.getD 1 0=n1 at y1;generalize M.getD 2 0=n2 at y2
      simp only [cL,ee]
      repeat' first|(apply nx;with_reducible constructor)|apply uq (by decide)|((first|apply uz env|apply uk);intro Q hQ;simp only [vkt,seval,zU,yw,aS,wO,qa,WQ,Zj,xL,f0,f4,hv2,b1,x0,x1,l0,l1,hD,hrw,g2,hM1,hR1,hQl,hI,hG,c3',d3,y0,y1,y2,m0,m1,m2,Int.reduceToNat,ite_and];(repeat' first|with_reducible assumption|apply vj|intro hp);all_goals first|(apply hQ;clear hQ Q)|(apply ux;kernel_rfl)|omega|assumption|with_reducible rfl|skip)
      (simp only [vrt,results135,vkt,seval,zU,yw];refine Fin.val rfl ?_;(try simp only [AV.le,AV.leL]))
      all_goals first|rfl|simp
     ·have d3:decide ((M.length:Int)=3)=false:=decide_eq_false (by omega)
      rw [if_neg (fun h=>c3 (by omega)),if_pos (.inr (.inr c2))]
      repeat' first|(apply nx;with_reducible constructor)|apply uq (by decide)|((first|apply uz env|apply uk);intro Q hQ;simp only [vkt,seval,zU,yw,aS,wO,qa,WQ,Zj,xL,f0,f4,hv2,b1,x0,x1,l0,l1,hD,hrw,g2,hM1,hR1,hQl,hI,hG,c3',d3,Int.reduceToNat,ite_and];(repeat' first|with_reducible assumption|apply vj|intro hp);all_goals first|(apply hQ;clear hQ Q)|(apply ux;kernel_rfl)|omega|assumption|with_reducible rfl|skip)
      (simp only [vrt,results135,vkt,seval,zU,yw,QaC];refine Fin.val rfl ?_;(try simp only [AV.le,AV.leL]))
      all_goals first|rfl|simp
  ·obtain ⟨v,hv2⟩:∃ v,ZP (k:Int)=v:=⟨_,rfl⟩
   have b1:(w1 == v)=false:=beq_eq_false_iff_ne.2 fun e=>hw (by rw [<- hv,hv2,e])
   have hnew:∀ j,1<=j->j < k+1->ZY.getD j [] ≠ w1:=fun j h1 h2=>by
    by_cases hj:j=k
    ·subst hj;exact hw
    ·exact hno j h1 (by omega)
   repeat' first|(apply nx;with_reducible constructor)|apply uq (by decide)|((first|apply uz env|apply uk);intro Q hQ;simp only [vkt,seval,zU,yw,aS,qa,Zj,e9,f0,f4,hv2,b1,x1,l1,ite_and];(repeat' first|with_reducible assumption|apply vj|intro hp);all_goals first|(apply hQ;clear hQ Q)|(apply ux;kernel_rfl)|omega|assumption|with_reducible rfl|skip)
   refine ⟨⟨k+1,by omega,by omega,hnew⟩,by show 5 - (k+1) < 5 - k;omega, ?_⟩
   (refine Le.ok some [] ?_;constructor;all_goals (try simp only [vle,vkt,seval,yw,qa]))
   all_goals first|rfl|(simp;done)|(intro i hi;rw [if_neg (by omega)];done)
 ·have d2:decide ((k:Int)<=4)=false:=decide_eq_false (by omega)
  obtain rfl:k=5:=by omega
  rw [Ql0 hno] at hE;have ho:o=none:=by
   rw [hE];cases wZ w0 <;> cases qO R <;> first|rfl|(simp only [LJ];rw [if_neg (by simp),if_pos (.inl trivial)])
  subst ho;simp only [reS]
  repeat' first|(apply nx;with_reducible constructor)|apply uq (by decide)|((first|apply uz env|apply uk);intro Q hQ;simp only [vkt,seval,zU,yw,qa,ite_and];(repeat' first|with_reducible assumption|apply vj|intro hp);all_goals first|(apply hQ;clear hQ Q)|(apply ux;kernel_rfl)|omega|assumption|with_reducible rfl|skip)
  (simp only [vrt,results135,vkt,seval,zU,yw,QaC];refine Fin.val rfl ?_;(try simp only [AV.le,AV.leL]))
  all_goals first|rfl|simp
def Qc1:List AV->Prop × AV
 |[.sl l]=>(l=(l.map yF).map ql/\(l.map yF).length<=900,.tup [yE ((xQ (l.map yF)).getD QaC),aB (xQ (l.map yF)).isSome])
 |_=>(False,.junk)
def J2 {A:Frm->Prop}:qf A prog 135 (zq false Qc1):=qD fun vs hv h=>by
 clear hv;unfold Qc1 at h ⊢
 split at h
 ·rename_i l;obtain ⟨q0,k0⟩:=h
  refine ⟨by first|trivial|(repeat' split) <;> simp [AV.plain,AV.plainL,aI,aB,qi,aBunks,aTks,aBunk,aTk,cTk],fun h=>absurd h (by decide), ?_⟩
  have:=QiW (l.map yF) k0;simp only [qa,<- q0] at this
  first|exact this|(simp only [qa,<- q0];exact this)
 ·exact h.elim
def yl:=vj @ty3 (vj @ty9 (vj @jh (vj @JR (vj @QD (vj @WK (vj @Yt (vj @vU (vj @vQ (vj @vR (vj @ti3.eq_1 (vj @ti9.eq_1 (vj @jc.eq_1 (vj @Wj.eq_1 (vj @kI.eq_1 (vj @Zp.eq_1 (vj @WO.eq_1 (vj @vD.eq_1 (vj @yP.eq_1 @yS.eq_1))))))))))))))))))
def Qdm:=vj @aI.eq_1 (vj @aB.eq_1 (vj @qi.eq_1 (vj @yx.eq_1 (vj @yE.eq_1 (vj @qC.eq_1 (vj @zM.eq_1 (vj @zC.eq_1 (vj @yI (vj @QK (@QL))))))))))
def UZ (l:Led) (s:List UInt8) (L:List (List UInt8)) (n:List Int) (hs:zH s 32=L) (h0:L.headD []=kw) (hn:qO (L.drop 1)=some n) (hc:l.coins.length<=1000) (hl:s.length<=800):Fn noB prog 72 [.ptr 0 0,aS s] (qg (jg 0 (za l))) (aI 1) (qg (wE 0 [some (ldR l.start 4 2 3),none,some (rwS l.rates),some (rwE l.entries),some (rwI (l.coins++[n]))])) 0:=by
 have env:=qx (A:=fun _=>True) (kC WJ (kC Qw (kC Zl (kC J2 kN))))
 refine Fn.of (A:=fun _=>True) (n0:=4) (D:=noD) (Fn0 func72 rfl (fun vs w=>by kernel_rfl) (by kernel_rfl)) (by simp) (by simp [AV.ids,aS]) wB (fun _ _ _ _=>trivial) zb ?_
 show Sym _ _ _ (zV [.ptr 0 0,aS s] 4 (qg [(0,ldR l.start 1 2 3),(1,rwI l.coins),(2,rwS l.rates),(3,rwE l.entries)])) (Zo tyB noD Tryz.f72 fun S rv=>Fin S rv _ 4 (qg [(0,ldR l.start 4 2 3),(2,rwS l.rates),(3,rwE l.entries),(4,rwI (l.coins++[n]))]) 0)
 have hm:(1000:Nat)+1<=maxLen:=by decide
 have u32:UInt8.ofNat 32=32:=rfl;have hle:=jN 32 s []
 have hps:=yA 32 s [];have hit:=jF 32 s []
 change (zH s 32).length<=_ at hle;change (zH s 32).length ≠ 0 at hps
 change ∀ w ∈ zH s 32,_ at hit;rw [hs] at hps hle hit
 have hpos:0 < L.length:=by omega
 have hl2:s.length<=100000:=by omega
 have hx:∀ d,(L.map ql).getD 0 d=[.v (.string ⟨⟨[99,111,105,110]⟩⟩)]:=fun d=>by
  match L,h0,hpos with
  |w :: r,h0,_=>simp only [bf] at h0;subst h0;rfl
 have hrw:=xF L;have g1:(1:Int)<=(L.length:Int):=by omega
 obtain ⟨R,hR⟩:∃ R,L.drop 1=R:=⟨_,rfl⟩;have hRl:R.length<=1000:=by rw [<- hR,aM];omega
 have hRi:It9 R:=fun w hw=>by have:=hit _ (aO (hR ▸ hw));simp at this;omega
 have hD:((L.map ql).take L.length).drop 1=R.map ql:=by rw [<- hR,bl,aP (by rw [ab];exact ag _)]
 rw [hR] at hn;have b0:(([99,111,105,110]:List UInt8) == [99,111,105,110])=true:=by decide
 have hI:(qO R).isSome=true:=by rw [hn];rfl
 have hG:(qO R).getD []=n:=by rw [hn];rfl
 have c1:l.coins.length+1<=maxLen:=by omega
 have e4:l.coins.map qC++[[.sl (n.map qj)]]=(l.coins++[n]).map qC:=by rw [ae];rfl
 repeat' first|(apply nx;with_reducible constructor)|apply uq (by decide)|((first|apply uz env|apply uk);intro Q hQ;simp only [vkt,seval,yl,Qdm,aS,Qx,xL,wO,qa,ldR,rwI,rwS,rwE,u32,hs,hl2,hx,hpos,hrw,g1,hD,hRl,hI,hG,c1,e4,ite_and];(repeat' first|with_reducible assumption|apply vj|intro hp);all_goals first|(apply hQ;clear hQ Q)|(apply ux;kernel_rfl)|omega|assumption|with_reducible rfl|skip)
 (simp only [vrt,results72,vkt,seval,Qdm,ldR,rwI,rwS,rwE];refine Fin.ok (fun j=>[0,1,2,3,5][j]?) [] ?_ ?_ ?_ ?_ ?_ rfl;all_goals (try simp only [vle,vkt,seval]))
 all_goals first|rfl|(simp;done)|exact fun i hi=>(match i,hi with|0,_=>rfl|1,_=>rfl|2,_=>rfl|3,_=>rfl)
def Qdh:=vj @aI.eq_1 (vj @aB.eq_1 (vj @qi.eq_1 (vj @yx.eq_1 (vj @yE.eq_1 (vj @qC.eq_1 (vj @zM.eq_1 (vj @zC.eq_1 (vj @yI (vj @QK (@QL))))))))))
end Go.Sym.B
