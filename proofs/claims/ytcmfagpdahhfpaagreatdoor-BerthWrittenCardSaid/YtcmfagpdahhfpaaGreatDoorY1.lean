/- Walks and what they compute, joined: part 1. -/
import Derived.Test.YtcmfagpdahhfpaaGreatDoorYB3
import Derived.Lib.AppendIntMem
import Derived.WalkKit
import Derived.BigCall
import Derived.WalkSmall
import Derived.Lib.SplitLaws
import Derived.Recover
import Derived.TacticsInMore
import Derived.RegionIn
import Derived.RecoverIn
import Derived.IntWalk
import Derived.Lib.CountLaws
import Derived.Lib.ItoaNum
import Derived.Lib.IndexMore
import Derived.Test.YtcmfagpdahhfpaaGreatDoorRows
import Derived.MakeChecks
import Derived.LaidSub
import Derived.LaidMore
import Derived.Lib.LaidU8
import Derived.Lib.LaidTab
import Derived.Shelf.Vars
import Derived.Handed
import GoSem.PinnedTables
set_option linter.all false
set_option maxHeartbeats 40000000
namespace Go.Sym.B
open Go Go.Sym Go.Proofs Go.Sym.C Go.RowKit
theorem _root_.Go.Sym.vz {a b:Prop} (x:a) (y:b):a/\b:=⟨x,y⟩
def _root_.Go.Sym.uq:=@Yb
def _root_.Go.Sym.ux:=@R8
def _root_.Go.Sym.uz:=@QcG
def _root_.Go.Sym.uj:=@QgJ
def _root_.Go.Sym.uk:=@Qd0
def _root_.Go.Sym.uw:=@Qdm
def _root_.Go.Sym.uv:=@QaV
def _root_.Go.Sym.vq:=@Qij
def _root_.Go.Sym.vx:=@Qf4
def aS (s:List UInt8):AV:=.v (.string ⟨⟨s⟩⟩)
def qA (l:List (List UInt8)):AV:=.sl (l.map qM)
def xO:List DV->List UInt8
 |[.v (.string ⟨⟨s⟩⟩)]=>s
 |_=>[]
theorem mStr (l:List (List UInt8)):(l.map qM).map xO=l:=by rw [bT];exact (cv fun _ _=>rfl).trans (List.map_id _)
theorem RX (l:List (List UInt8)):zn 1 (l.map qM)=True:=jV (f:=qM) (k:=1) (fun _=>rfl) l
def qX (n:Int):List UInt8:=if n < 10 then [UInt8.ofNat (48+n.toNat)] else [UInt8.ofNat (48+n.toNat / 10),UInt8.ofNat (48+n.toNat % 10)]
theorem yn (n:Int):(qX n).length<=2:=by unfold qX;split <;> simp
theorem Qib {n:Nat} (h:n < 100):Lib.decDigits n=qX n:=by
 unfold qX Lib.decDigits
 by_cases h1:n < 10
 ·rw [dif_pos h1,if_pos (by omega)];rfl
 ·rw [dif_neg h1,if_neg (by omega)]
  unfold Lib.decDigits
  rw [dif_pos (by omega)]
  rfl
theorem Qit (n:Int) (h0:0<=n) (h1:n < 100):FnV Tryz.prog 43 [aI n] (aS (qX n)):=Fn.of_calls (fun vs w=>by kernel_rfl) rfl fun w ok ρ y vs _ hs ha=>by
 obtain ⟨m,rfl⟩:∃ m:Nat,n=m:=⟨n.toNat,by omega⟩
 obtain ⟨v,rfl⟩:∃ v,vs=#[v]:=by
  match vs,hs with
  |⟨[v]⟩,_=>exact ⟨v,rfl⟩
 have h2:=ha 0 _ rfl
 have h2:ARel w ok ρ y (.v (.int .i64 m)) v:=h2
 cases h2 with
 |v _ =>
  refine zR (Tryz.strconv_Itoa_small m (by omega) w) fun e w' ⟨he,hw⟩=>⟨?_,by rw [hw];exact Below.refl _ _⟩
  rw [he,<- Qib (by omega)]
theorem QiD (l:List (List UInt8)) (sep:List UInt8) (h1:l.length<=100000) (h2:(Lib.join l sep).length<=140737488355328):FnV Tryz.prog 45 [qA l,aS sep] (aS (Lib.join l sep)):=Fn.of_calls (fun vs w=>by kernel_rfl) rfl fun w ok ρ y vs _ hs ha=>by
 obtain ⟨v,u,rfl⟩:∃ v u,vs=#[v,u]:=by
  match vs,hs with
  |⟨[v,u]⟩,_=>exact ⟨v,u,rfl⟩
 have h3:ARel w ok ρ y (aS sep) u:=ha 1 _ rfl
 have h4:=QiU (show ARel w ok ρ y (.sl (l.map qM)) v from ha 0 _ rfl)
 unfold aS at h3
 cases h3 with
 |v _ =>
  rcases h4 with ⟨rfl,a,c,rfl⟩|⟨b,o,c,rfl,hp,hc,hm,hb,hcell⟩
  ·exact zR (Tryz.strings_Join_none a c ⟨⟨sep⟩⟩ w) fun e w' ⟨he,hw⟩=>⟨he,by rw [hw];exact Below.refl _ _⟩
  ·have e1:(l.map fun s=>(⟨⟨s⟩⟩:ByteArray)).map (·.data.toList)=l:=by rw [bT];exact (cv fun _ _=>rfl).trans (List.map_id _)
   have:=Tryz.strings_Join b o c (l.map fun s=>(⟨⟨s⟩⟩:ByteArray)) ⟨⟨sep⟩⟩ w (fun j x hx=>by
    rw [aC] at hx
    obtain ⟨s,hs,rfl⟩:=aE.1 hx
    exact hcell j s hs) hb (by simp;omega) (by simp;omega) (by rw [e1];exact h2)
   rw [e1] at this
   simp only [aj] at this
   exact this
def We:List AV->Prop × AV
 |[.v (.int .i64 n)]=>(0<=n/\n < 100,aS (qX n))
 |_=>(False,.junk)
theorem Qka {A:Frm->Prop}:qm A Tryz.prog 43 (zU true We):=ze fun vs hv h=>by
 clear hv
 unfold We at h ⊢
 split at h
 ·rename_i n;obtain ⟨k0,k1⟩:=h
  refine ⟨by first|trivial|(repeat' split) <;> simp [AV.plain,AV.plainL,aI,aB,qx,qb,qy,qw,aTk,cTk,aS,qA],fun _=>(by simp [AV.flat,aS]), ?_⟩
  have:=Qit n k0 k1
  simp only [aI] at this
  first|exact this|(simp only [aI];exact this)
 ·exact h.elim
def Qcg:List AV->Prop × AV
 |[.sl l,.v (.string ⟨⟨s⟩⟩)]=>(l=(l.map xO).map qM/\(l.map xO).length<=100000/\(Lib.join (l.map xO) s).length<=140737488355328,aS (Lib.join (l.map xO) s))
 |_=>(False,.junk)
theorem Qkf {A:Frm->Prop}:qm A Tryz.prog 45 (zU true Qcg):=ze fun vs hv h=>by
 clear hv
 unfold Qcg at h ⊢
 split at h
 ·rename_i l s;obtain ⟨q0,k0,k1⟩:=h
  refine ⟨by first|trivial|(repeat' split) <;> simp [AV.plain,AV.plainL,aI,aB,qx,qb,qy,qw,aTk,cTk,aS,qA],fun _=>(by simp [AV.flat,aS]), ?_⟩
  have:=QiD (l.map xO) s k0 k1
  simp only [aS,qA,<- q0] at this
  first|exact this|(simp only [aS,qA,<- q0];exact this)
 ·exact h.elim
theorem Qf7 (l:List (List UInt8)) (h1:l.length<=100000) (h2:(Lib.join l [32]).length<=140737488355328):FnV Tryz.prog 42 [qA l] (aS (Lib.join l [32])):=by
 have env:=qB (A:=fun _=>True) (kC Qkf kN)
 refine kV (Fn0 Tryz.func42 rfl (fun vs w=>by kernel_rfl) (by kernel_rfl)) (by simp) (by simp [AV.ids,qA]) ?_
 repeat' first|(apply nx;with_reducible constructor)|apply uq (by decide)|((first|apply uz env|apply uj);intro Q hQ;simp only [vkt,seval,aS,qA,Qcg,mStr,ite_and];(repeat' first|with_reducible assumption|apply vz|intro hp);all_goals first|(apply hQ;clear hQ Q)|(apply ux;kernel_rfl)|omega|assumption|with_reducible rfl|skip)
 (simp only [vrt,Tryz.results42,vkt,seval,aS];refine Fin.val rfl ?_;(try simp only [AV.le]))
 all_goals first|rfl|simp
def Qv:List AV->Prop × AV
 |[.sl l]=>(l=(l.map xO).map qM/\(l.map xO).length<=100000/\(Lib.join (l.map xO) [32]).length<=140737488355328,aS (Lib.join (l.map xO) [32]))
 |_=>(False,.junk)
theorem Qk5 {A:Frm->Prop}:qm A Tryz.prog 42 (zU true Qv):=ze fun vs hv h=>by
 clear hv
 unfold Qv at h ⊢
 split at h
 ·rename_i l;obtain ⟨q0,k0,k1⟩:=h
  refine ⟨by first|trivial|(repeat' split) <;> simp [AV.plain,AV.plainL,aI,aB,qx,qb,qy,qw,aTk,cTk,aS,qA],fun _=>(by simp [AV.flat,aS]), ?_⟩
  have:=Qf7 (l.map xO) k0 k1
  simp only [qA,<- q0] at this
  first|exact this|(simp only [qA,<- q0];exact this)
 ·exact h.elim
def QdY:=vz @ty9 @ti9.eq_1
def Qk2:=vz @aI.eq_1 (@aB.eq_1)
theorem QiO (a:Int) (s:List UInt8) (b:Int) (h0:0<=a) (h1:a < 100) (h2:0<=b) (h3:b < 100) (h4:s.length<=100):FnV Tryz.prog 44 [aI a,aS s,aI b] (aS (qX a++s++qX b)):=by
 have env:=qB (A:=fun _=>True) (kC Qka kN)
 refine kV (Fn0 Tryz.func44 rfl (fun vs w=>by kernel_rfl) (by kernel_rfl)) (by simp) (by simp [AV.ids,aI,aS]) ?_
 have l1:=yn a
 have l2:=yn b
 have e1:(qX a++s).length+(qX b).length<=9223372036854775807:=by rw [aF];omega
 repeat' first|(apply nx;with_reducible constructor)|apply uq (by decide)|((first|apply uz env|apply uj);intro Q hQ;simp only [vkt,seval,QdY,Qk2,aS,We,ite_and];(repeat' first|with_reducible assumption|apply vz|intro hp);all_goals first|(apply hQ;clear hQ Q)|(apply ux;kernel_rfl)|omega|assumption|with_reducible rfl|skip)
 (simp only [vrt,Tryz.results44,vkt,seval,aS];refine Fin.val rfl ?_;(try simp only [AV.le]))
 all_goals first|rfl|simp
def X4:List AV->Prop × AV
 |[.v (.int .i64 a),.v (.string ⟨⟨s⟩⟩),.v (.int .i64 b)]=>(0<=a/\a < 100/\0<=b/\b < 100/\s.length<=100,aS (qX a++s++qX b))
 |_=>(False,.junk)
theorem epair {A:Frm->Prop}:qm A Tryz.prog 44 (zU true X4):=ze fun vs hv h=>by
 clear hv
 unfold X4 at h ⊢
 split at h
 ·rename_i a s b;obtain ⟨k0,k1,k2,k3,k4⟩:=h
  refine ⟨by first|trivial|(repeat' split) <;> simp [AV.plain,AV.plainL,aI,aB,qx,qb,qy,qw,aTk,cTk,aS,qA],fun _=>(by simp [AV.flat,aS]), ?_⟩
  have:=QiO a s b k0 k1 k2 k3 k4
  simp only [aI,aS] at this
  first|exact this|(simp only [aI,aS];exact this)
 ·exact h.elim
structure TabT (w:World):Prop where
 pow : Lib.TabIs Tryz.prog w "internal/strconv.uint64pow10" .u64 Lib.pow10Tab
 max:∃ m,w.cell? ⟨1,0,none⟩=some (.int .i64 m)
 syn:∃ te pe,w.cell? ⟨6,0,none⟩=some (.iface te pe)
 rng:∃ te pe,w.cell? ⟨7,0,none⟩=some (.iface te pe)
def wT (s:List UInt8):Option Int:=match Lib.atoiAll s with
 |.ok v=>if v < 0\/3 < s.length\/Lib.itoa v ≠ s then none else some v
 |_=>none
def refusal:List PanicEntry:=[{ v:=.iface 182 (.agg #[]),recovered:=false }]
def ZX (s:List UInt8):Ending:=match wT s with
 |some n=>.returned (.int .i64 n)
 |none=>.panicked refusal
theorem QcS {s:List UInt8} {v:Int} (h:Lib.atoiAll s=.ok v):-9223372036854775808<=v/\v<=9223372036854775807:=by
 unfold Lib.atoiAll at h
 split at h
 ·cases h
 ·dsimp only at h
  split at h
  ·cases h
  ·cases h
  ·split at h
   ·cases h
   ·split at h
    ·cases h
    ·injection h with h
     split at h <;> omega
set_option maxRecDepth 100000 in
theorem Qft (s:List UInt8) (hl:s.length<=100000) (w:World) (h:Lib.atoiAll s=.range) {te1:TypeId} {pe1:Value} (hrng:w.cell? ⟨7,0,none⟩=some (.iface te1 pe1)):Calls Tryz.prog 155 #[.string ⟨⟨s⟩⟩] w fun e w'=>e=ZX s/\Below w.heap.size w w':=by
 have e:ZX s=.panicked refusal:=by simp only [ZX,wT,h]
 go_enter Tryz.func155,Tryz.ntmps155
 go_wp2_with (go_at_call 199;refine (Tryz.strconv_Atoi_range ⟨⟨s⟩⟩ (by show s.length<=_;omega) h _ _ hrng (.inr ⟨_,_,rfl⟩)).mono ?_;rintro _ W1 ⟨N,rfl,-,-,hb⟩)
 exact ⟨rfl,e.symm,hb⟩
set_option maxRecDepth 100000 in
theorem WS (s:List UInt8) (hl:s.length<=100000) (w:World) (hT:TabT w):Calls Tryz.prog 155 #[.string ⟨⟨s⟩⟩] w fun e w'=>e=ZX s/\Below w.heap.size w w':=by
 obtain ⟨⟨te0,pe0,hsyn⟩,⟨te1,pe1,hrng⟩⟩:=dR hT.syn hT.rng
 cases h:Lib.atoiAll s
 case ok v =>
  go_enter Tryz.func155,Tryz.ntmps155
  go_wp2_with (go_at_call 199;refine (Tryz.strconv_Atoi_ok ⟨⟨s⟩⟩ (by show s.length<=_;omega) v h _).mono ?_;rintro e w' ⟨rfl,hw⟩)
  all_goals
   have hw:Below w.heap.size w w':=by
    rcases hw with rfl|⟨t,rfl⟩
    ·exact Below.refl _ _
    ·exact Lib.bytesWorld_below _ _ _
  ·have htab:=Lib.tabBelow_of_tabIs hT.pow w' hw
   refine (Tryz.strconv_Itoa v (QcS h).1 (QcS h).2 w' htab).mono ?_
   rintro e w2 ⟨rfl,k,os,rfl⟩
   have hw2:=hw.trans (Lib.below_grow (B:=w.heap.size) w' hw.size k os)
   go_wp2
   ·rename_i hne _ _
    have hne:Lib.itoa v ≠ s:=by rcases hne with (h1|h1)|h1 <;> first|omega|simpa using h1
    have e:ZX s=.panicked refusal:=by simp only [ZX,wT,h];rw [if_pos (.inr (.inr hne))]
    exact ⟨rfl,e.symm,hw2⟩
   ·rename_i h0 h3 hne
    have e:ZX s=.returned (.int .i64 v):=by
     simp only [ZX,wT,h]
     have h4:Lib.itoa v=s:=by simpa using hne.2
     rw [if_neg (by rintro (h1|h1|h1) <;> first|omega|exact h1 h4)]
    go_ret
    exact ⟨e.symm,hw2⟩
  ·have e:ZX s=.panicked refusal:=by simp only [ZX,wT,h];rw [if_pos (.inr (.inl (by omega)))]
   exact ⟨rfl,e.symm,hw⟩
  ·have e:ZX s=.panicked refusal:=by simp only [ZX,wT,h];rw [if_pos (.inl (by omega))]
   exact ⟨rfl,e.symm,hw⟩
 case range=>exact Qft s hl w h hrng
 ·have e:ZX s=.panicked refusal:=by simp only [ZX,wT,h]
  go_enter Tryz.func155,Tryz.ntmps155
  go_wp2_with (go_at_call 199;refine (Tryz.strconv_Atoi_syntax ⟨⟨s⟩⟩ (by show s.length<=_;omega) h _ _ hsyn (.inr ⟨_,_,rfl⟩)).mono ?_)
  rintro _ W1 ⟨N,rfl,-,-,hb⟩
  go_wp2
  exact ⟨rfl,e.symm,hb⟩
theorem ZN {w:World} {ok:Nat->Prop} {ρ:Nat->Value} {y:Value} {s:List UInt8} {v:Value} (h:ARel w ok ρ y (aS s) v):v=.string ⟨⟨s⟩⟩:=by
 unfold aS at h;cases h;rfl
theorem Qb7 {vs:Array Value} (hs:vs.size=1):∃ v,vs=#[v]:=by
 match vs,hs with
 |⟨[v]⟩,_=>exact ⟨v,rfl⟩
theorem Lu {vs:Array Value} (hs:vs.size=2):∃ v u,vs=#[v,u]:=by
 match vs,hs with
 |⟨[v,u]⟩,_=>exact ⟨v,u,rfl⟩
theorem Qep (s:List UInt8) (h:(wT s).isSome=true) (hl:s.length<=100000):Fn (wQ TabT) Tryz.prog 155 [aS s] noH (aI ((wT s).getD 0)) noH 0:=FnG.of_callsT (fun vs w=>by kernel_rfl) fun w ok ρ y vs hT _ hs ha=>by
 obtain ⟨v,rfl⟩:=Qb7 hs
 obtain rfl:=ZN (ha 0 _ rfl)
 refine zR (WS s hl w hT) fun e w' ⟨he,hw⟩=>?_
 obtain ⟨n,hn⟩:=cj.1 h
 exact ⟨.int .i64 n,by rw [he,ZX,hn],hw,fun _ _ _=>by rw [hn];exact .v rfl⟩
theorem QfR (s:List UInt8) (h:wT s=none) (hl:s.length<=100000):FnX refusal (wQ TabT) Tryz.prog 155 [aS s] noH noH:=FnX.of_callsT (fun vs w=>by kernel_rfl) fun w ok ρ y vs hT _ hs ha=>by
 obtain ⟨v,rfl⟩:=Qb7 hs
 obtain rfl:=ZN (ha 0 _ rfl)
 refine zR (WS s hl w hT) fun e w' ⟨he,hw⟩=>⟨by rw [he,ZX,h],hw⟩
def Qg:List AV->Prop
 |[.v (.string ⟨⟨s⟩⟩)]=>wT s=none/\s.length<=100000
 |_=>False
theorem QJ:XOK (zS TabT) Tryz.prog 155 (kM refusal Qg):=Rq fun l h=>by
 unfold Qg at h
 split at h
 ·exact QfR _ h.1 h.2
 ·exact h.elim
theorem Qli (s sep:List UInt8) (hl:s.length<=100000):Fn (wQ TabT) Tryz.prog 207 [aS s,aS sep] noH (.tup [aS (Lib.cut s sep).1,aS (Lib.cut s sep).2.1,aB (Lib.cut s sep).2.2]) noH 0:=FnG.of_callsT (fun vs w=>by kernel_rfl) fun w ok ρ y vs hT _ hs ha=>by
 obtain ⟨v,u,rfl⟩:=Lu hs
 obtain rfl:=ZN (ha 0 _ rfl)
 obtain rfl:=ZN (ha 1 _ rfl)
 obtain ⟨m,hm⟩:=hT.max
 refine zR (Tryz.strings_Cut ⟨⟨s⟩⟩ ⟨⟨sep⟩⟩ m w (by show s.length < _;omega) hm) fun e w' ⟨he,n,hw⟩=>?_
 refine ⟨_,he, ?_,fun ok' _ _=>.tup rfl fun i c hc=>?_⟩
 ·rw [hw];exact ⟨rfl,rfl,rfl,aA _,fun _ _=>rfl⟩
 ·match i,hc with
  |0,hc=>simp only [aJ,ag] at hc;subst hc;exact .v rfl
  |1,hc=>simp only [bq,aJ,ag] at hc;subst hc;exact .v rfl
  |2,hc=>simp only [bq,aJ,ag] at hc;subst hc;exact .v rfl
  |i+3,hc=>simp at hc
theorem Qcf (s sep:List UInt8):(Lib.cut s sep).1.length<=s.length/\(Lib.cut s sep).2.1.length<=s.length:=by
 unfold Lib.cut
 split <;> constructor <;> simp <;> omega
def jI (s sep:List UInt8):Option (Int × Int):=if (Lib.cut s sep).2.2=true then match wT (Lib.cut s sep).1,wT (Lib.cut s sep).2.1 with
 |some a,some b=>some (a,b)
 |_,_=>none
 else none
def qL:List AV->Prop × AV
 |[.v (.string ⟨⟨s⟩⟩)]=>((wT s).isSome=true/\s.length<=100000,aI ((wT s).getD 0))
 |_=>(False,.junk)
theorem wD:qm (zS TabT) Tryz.prog 155 (zU true qL):=Jm fun vs hv h=>by
 clear hv
 unfold qL at h ⊢
 split at h
 ·rename_i s;obtain ⟨k0,k1⟩:=h
  refine ⟨by first|trivial|(repeat' split) <;> simp [AV.plain,AV.plainL,aI,aB,qx,qb,qy,qw,aTk,cTk],fun _=>(by simp [AV.flat,aI]), ?_⟩
  have:=Qep s k0 k1
  simp only [aS] at this
  first|exact this|(simp only [aS];exact this)
 ·exact h.elim
def VW:List AV->Prop × AV
 |[.v (.string ⟨⟨s⟩⟩),.v (.string ⟨⟨t⟩⟩)]=>(s.length<=100000,.tup [aS (Lib.cut s t).1,aS (Lib.cut s t).2.1,aB (Lib.cut s t).2.2])
 |_=>(False,.junk)
theorem ecut:qm (zS TabT) Tryz.prog 207 (zU true VW):=Jm fun vs hv h=>by
 clear hv
 unfold VW at h ⊢
 split at h
 ·rename_i s t;have k0:s.length<=100000:=h;clear h
  refine ⟨by first|trivial|(repeat' split) <;> simp [AV.plain,AV.plainL,aI,aB,qx,qb,qy,qw,aTk,cTk,aS,qA],fun _=>(by simp [AV.flat,AV.flatL,aB,aS]), ?_⟩
  have:=Qli s t k0
  simp only [aS] at this
  first|exact this|(simp only [aS];exact this)
 ·exact h.elim
def Jg:=vz @Qac @Yi.eq_1
def Qbj:=vz @aI.eq_1 (@aB.eq_1)
theorem Qk8 (s sep:List UInt8) (hl:s.length<=100000) (h:(jI s sep).isSome=true):Fn (wQ TabT) Tryz.prog 200 [aS s,aS sep] noH (.tup [aI ((jI s sep).getD (0,0)).1,aI ((jI s sep).getD (0,0)).2]) noH 0:=by
 have env:=qB (A:=zS TabT) (kC wD (kC ecut kN))
 refine kT (Fn0 Tryz.func200 rfl (fun vs w=>by kernel_rfl) (by kernel_rfl)) (by simp) (by simp [AV.ids,aS]) ?_
 have ⟨l1,l2⟩:=Qcf s sep
 unfold jI at h ⊢
 obtain ⟨⟨c1,c2,c3⟩,hc⟩:∃ c,Lib.cut s sep=c:=⟨_,rfl⟩
 rw [hc] at l1 l2 h ⊢
 split at h
 ·rename_i h0
  split at h
  ·rename_i a b h1 h2
   dsimp only at h0 h1 h2 l1 l2 ⊢
   subst h0
   have g1:c1.length<=100000:=by omega
   have g2:c2.length<=100000:=by omega
   have e1:(wT c1).isSome=true:=by rw [h1];rfl
   have e2:(wT c2).isSome=true:=by rw [h2];rfl
   repeat' first|(apply nx;with_reducible constructor)|apply uq (by decide)|refine vq ?_|refine vx ?_|(refine uk env 2 rfl rfl rfl (fun Q hQ=>?_);simp only [vkt,seval,Jg,Qbj,aS,qL,VW,Qg,hc,h1,h2,e1,e2,g1,g2,hl];(try simp only [ite_and]);(repeat' first|with_reducible assumption|apply vz);all_goals (first|(refine ⟨_,_,rfl,hQ _ _ ?_⟩;clear hQ Q)|(apply ux;kernel_rfl)|omega|assumption|with_reducible rfl|skip))|((first|apply uz env|apply uj);intro Q hQ;simp only [vkt,seval,Qbj,aS,qL,VW,hc,h1,h2,g1,g2,hl,ite_and];(repeat' first|with_reducible assumption|apply vz|intro hp);all_goals first|(apply hQ;clear hQ Q)|(apply ux;kernel_rfl)|omega|assumption|with_reducible rfl|skip)
   (simp only [vrt,Tryz.results200,vkt,seval,Qbj];refine Fin.val rfl ?_;(try simp only [AV.le,AV.leL]))
   all_goals first|rfl|simp
  ·cases h
 ·cases h
def xn:List AV->Prop × AV
 |[.v (.string ⟨⟨s⟩⟩),.v (.string ⟨⟨t⟩⟩)]=>(s.length<=100000/\(jI s t).isSome=true,.tup [aI ((jI s t).getD (0,0)).1,aI ((jI s t).getD (0,0)).2])
 |_=>(False,.junk)
theorem QeR:qm (zS TabT) Tryz.prog 200 (zU true xn):=Jm fun vs hv h=>by
 clear hv
 unfold xn at h ⊢
 split at h
 ·rename_i s t;obtain ⟨k0,k1⟩:=h
  refine ⟨by first|trivial|(repeat' split) <;> simp [AV.plain,AV.plainL,aI,aB,qx,qb,qy,qw,aTk,cTk],fun _=>(by simp [AV.flat,AV.flatL,aI]), ?_⟩
  have:=Qk8 s t k0 k1
  simp only [aS] at this
  first|exact this|(simp only [aS];exact this)
 ·exact h.elim
def JS:=vz @aI.eq_1 (@aB.eq_1)
theorem two_x (s sep:List UInt8) (hl:s.length<=100000) (h:jI s sep=none):FnX refusal (wQ TabT) Tryz.prog 200 [aS s,aS sep] noH noH:=by
 have env:=qB (A:=zS TabT) (kC wD (kC ecut kN))
 refine FnX.of (A:=zS TabT) (n0:=0) (Fn0 Tryz.func200 rfl (fun vs w=>by kernel_rfl) (by kernel_rfl)) (by simp) (by simp [AV.ids,aS]) (fun i o h=>by cases h) (fun _ hB _ _=>hB) ?_
 have ⟨l1,l2⟩:=Qcf s sep
 unfold jI at h
 obtain ⟨⟨c1,c2,c3⟩,hc⟩:∃ c,Lib.cut s sep=c:=⟨_,rfl⟩
 rw [hc] at l1 l2 h
 dsimp only at l1 l2 h
 have g1:c1.length<=100000:=by omega
 have g2:c2.length<=100000:=by omega
 cases c3 with
 |false =>
  repeat' first|(apply nx;with_reducible constructor)|apply uq (by decide)|refine vq ?_|refine vx ?_|(refine uk env 2 rfl rfl rfl (fun Q hQ=>?_);simp only [vkt,seval,Jg];(try simp only [ite_and]);(repeat' first|with_reducible assumption|apply vz);all_goals (first|(refine ⟨_,_,rfl,hQ _ _ ?_⟩;clear hQ Q)|(apply ux;kernel_rfl)|omega|assumption|with_reducible rfl|skip))|((first|apply uz env|apply uj);intro Q hQ;simp only [vkt,seval,JS,aS,VW,hc,hl,ite_and];(repeat' first|with_reducible assumption|apply vz|intro hp);all_goals first|(apply hQ;clear hQ Q)|(apply ux;kernel_rfl)|omega|assumption|with_reducible rfl|skip)
  exact ⟨rfl,rfl,Fin.val rfl (by simp only [AV.le])⟩
 |true =>
  rw [if_pos rfl] at h
  cases h1:wT c1 with
  |none =>
   repeat' first|(apply nx;with_reducible constructor)|apply uq (by decide)|refine vq ?_|refine vx ?_|(refine uk env 2 rfl rfl rfl (fun Q hQ=>?_);simp only [vkt,seval,Jg,JS,aS,qL,VW,Qg, hc,hl,h1,g1];(try simp only [ite_and]);(repeat' first|with_reducible assumption|apply vz);all_goals (first|(refine ⟨_,_,rfl,hQ _ _ ?_⟩;clear hQ Q)|(apply ux;kernel_rfl)|omega|assumption|with_reducible rfl|skip))|(refine uw env QJ 1 rfl rfl (fun Q hQ=>?_);simp only [yf,kM,vkt,seval,aS,Qg, h1,g1];(try simp only [ite_and]);(repeat' first|with_reducible assumption|apply vz|intro hp);all_goals (first|(refine hQ _ _ _ ?_;clear hQ Q)|(apply ux;kernel_rfl)|omega|assumption|(with_reducible rfl)))|((first|apply uz env|apply uj);intro Q hQ;simp only [vkt,seval,JS,aS,VW,hc,hl,ite_and];(repeat' first|with_reducible assumption|apply vz|intro hp);all_goals first|(apply hQ;clear hQ Q)|(apply ux;kernel_rfl)|omega|assumption|with_reducible rfl|skip)
   exact ⟨rfl,rfl,Fin.val rfl (by simp only [AV.le])⟩
  |some a =>
   have e1:(wT c1).isSome=true:=by rw [h1];rfl
   have h2:wT c2=none:=by
    cases h2:wT c2 with
    |none=>rfl
    |some b=>rw [h1,h2] at h;cases h
   repeat' first|(apply nx;with_reducible constructor)|apply uq (by decide)|refine vq ?_|refine vx ?_|(refine uk env 2 rfl rfl rfl (fun Q hQ=>?_);simp only [vkt,seval,Jg,JS,aS,qL,VW,Qg, hc,hl,h1,g1,h2,g2,e1];(try simp only [ite_and]);(repeat' first|with_reducible assumption|apply vz);all_goals (first|(refine ⟨_,_,rfl,hQ _ _ ?_⟩;clear hQ Q)|(apply ux;kernel_rfl)|omega|assumption|with_reducible rfl|skip))|(refine uw env QJ 3 rfl rfl (fun Q hQ=>?_);simp only [yf,kM,vkt,seval,JS,aS,qL,VW,Qg, hc,hl,h1,g1,h2,g2];(try simp only [ite_and]);(repeat' first|with_reducible assumption|apply vz|intro hp);all_goals (first|(refine hQ _ _ _ ?_;clear hQ Q)|(apply ux;kernel_rfl)|omega|assumption|(with_reducible rfl)))|((first|apply uz env|apply uj);intro Q hQ;simp only [vkt,seval,JS,aS,VW,hc,hl,ite_and];(repeat' first|with_reducible assumption|apply vz|intro hp);all_goals first|(apply hQ;clear hQ Q)|(apply ux;kernel_rfl)|omega|assumption|with_reducible rfl|skip)
   exact ⟨rfl,rfl,Fin.val rfl (by simp only [AV.le])⟩
def yT:List AV->Prop
 |[.v (.string ⟨⟨s⟩⟩),.v (.string ⟨⟨t⟩⟩)]=>jI s t=none/\s.length<=100000
 |_=>False
theorem Ux:XOK (zS TabT) Tryz.prog 200 (kM refusal yT):=Rq fun l h=>by
 unfold yT at h
 split at h
 ·exact two_x _ _ h.2 h.1
 ·exact h.elim
def spS (s sep:List UInt8):List (List UInt8):=(Lib.splitB ⟨⟨sep⟩⟩ 0 (Lib.countB ⟨⟨s⟩⟩ ⟨⟨sep⟩⟩) ⟨⟨s⟩⟩).map (·.data.toList)
theorem QcI {s sep:List UInt8} (h1:1<=sep.length):(spS s sep).length=Lib.countB ⟨⟨s⟩⟩ ⟨⟨sep⟩⟩+1:=by
 unfold spS
 rw [aj,Lib.splitB_all ⟨⟨sep⟩⟩ h1 0 _ _ rfl]
theorem vE {s sep:List UInt8} (h1:1<=sep.length):0 < (spS s sep).length/\(spS s sep).length<=s.length+1:=by
 have:=Lib.countB_le ⟨⟨sep⟩⟩ h1 s.length ⟨⟨s⟩⟩ (aA _)
 have e:(⟨⟨s⟩⟩:ByteArray).size=s.length:=rfl
 rw [e] at this
 rw [QcI h1];omega
theorem Qhn (s sep:List UInt8) (hl:s.length<=100000) (h1:1<=sep.length):Fn (wQ TabT) Tryz.prog 96 [aS s,aS sep] noH (qA (spS s sep)) noH 0:=FnG.of_callsT (fun vs w=>by kernel_rfl) fun w ok ρ y vs hT _ hs ha=>by
 obtain ⟨v,u,rfl⟩:=Lu hs
 obtain rfl:=ZN (ha 0 _ rfl)
 obtain rfl:=ZN (ha 1 _ rfl)
 obtain ⟨m,hm⟩:=hT.max
 refine zR (Tryz.strings_Split ⟨⟨s⟩⟩ ⟨⟨sep⟩⟩ m w (by show s.length < _;omega) hm h1) fun e w' ⟨he,hw⟩=>?_
 have hle:=vE (s:=s) h1
 have hmx:(100001:Nat)<=maxLen:=by decide
 have hc:(Lib.splitB ⟨⟨sep⟩⟩ 0 (Lib.countB ⟨⟨s⟩⟩ ⟨⟨sep⟩⟩) ⟨⟨s⟩⟩).map Value.string=(spS s sep).map fun s=>Value.string ⟨⟨s⟩⟩:=by
  unfold spS
  rw [bT]
  rfl
 rw [hc] at hw
 rw [<- QcI h1] at he
 refine ⟨_,he, ?_,fun ok' _ hfr=>Qgf hw hle.1 (by omega) (hfr _ (aA _) (by rw [hw];exact Nat.lt_of_lt_of_eq (Nat.lt_succ_self _) (Array.size_push (xs:=w.heap) _).symm))⟩
 rw [hw]
 exact (Below.refl _ w).alloc (aA _) _
def zx:List AV->Prop × AV
 |[.v (.string ⟨⟨s⟩⟩),.v (.string ⟨⟨t⟩⟩)]=>(s.length<=100000/\1<=t.length,qA (spS s t))
 |_=>(False,.junk)
theorem vw:qm (zS TabT) Tryz.prog 96 (zU false zx):=Jm fun vs hv h=>by
 clear hv
 unfold zx at h ⊢
 split at h
 ·rename_i s t;obtain ⟨k0,k1⟩:=h
  refine ⟨by first|trivial|(repeat' split) <;> simp [AV.plain,AV.plainL,aI,aB,qx,qb,qy,qw,aTk,cTk,aS,qA],fun h=>absurd h (by decide), ?_⟩
  have:=Qhn s t k0 k1
  simp only [aS] at this
  first|exact this|(simp only [aS];exact this)
 ·exact h.elim
def VV (w:List UInt8):Option Int:=if w=[119] then some 1 else if w=[109] then some 2 else none
def tk5 (w1 w2 w3 w4:List UInt8) (dog:Bool):Option Tk:=match wT w1,VV w2,jI w3 [46],jI w4 [62] with
 |some a,some s,some p,some q=>some ⟨a,s,p.1,p.2,q.1,q.2,dog⟩
 |_,_,_,_=>none
def tkP:List (List UInt8)->Option Tk
 |[_,w1,w2,w3,w4]=>tk5 w1 w2 w3 w4 false
 |[_,w1,w2,w3,w4,w5]=>if w5=[43] then tk5 w1 w2 w3 w4 true else none
 |_=>none
theorem Qah {w1 w2 w3 w4:List UInt8} {d:Bool} {k:Tk} (h:tk5 w1 w2 w3 w4 d=some k):wT w1=some k.party/\(w2=[119]/\k.sex=1\/w2=[109]/\k.sex=2)/\jI w3 [46]=some (k.cab,k.bed)/\jI w4 [62]=some (k.frm,k.to)/\k.dog=d:=by
 unfold tk5 at h
 split at h
 ·rename_i a s p q h1 h2 h3 h4
  cases h
  refine ⟨h1, ?_,h3,h4,rfl⟩
  unfold VV at h2
  split at h2
  ·cases h2;exact .inl ⟨‹_›,rfl⟩
  ·split at h2
   ·cases h2;exact .inr ⟨‹_›,rfl⟩
   ·cases h2
 ·cases h
def qF:=vz @ty3 (vz @ty4 (vz @ty9 (vz @QfW (vz @xy (vz @yc (vz @Qac (vz @ti3.eq_1 (vz @ti4.eq_1 (vz @ti9.eq_1 (vz @Qaj.eq_1 (vz @yY.eq_1 (vz @jM.eq_1 @Yi.eq_1))))))))))))
def KW:=vz @aI.eq_1 (@aB.eq_1)
theorem QbV (w0 w1 w2 w3 w4:List UInt8) (k:Tk) (h:tk5 w1 w2 w3 w4 false=some k) (l1:w1.length<=100000) (l3:w3.length<=100000) (l4:w4.length<=100000):Fn (wQ TabT) Tryz.prog 156 [qA [w0,w1,w2,w3,w4]] noH (aTk k) noH 0:=by
 have env:=qB (A:=zS TabT) (kC wD (kC QeR kN))
 refine kT (Fn0 Tryz.func156 rfl (fun vs w=>by kernel_rfl) (by kernel_rfl)) (by simp) (by simp [AV.ids,qA]) ?_
 obtain ⟨h1,h2,h3,h4,h5⟩:=Qah h
 obtain ⟨a,s,c,b,f,t,d⟩:=k
 dsimp only at h1 h2 h3 h4 h5
 subst h5
 have e1:(wT w1).isSome=true:=by rw [h1];rfl
 have e3:(jI w3 [46]).isSome=true:=by rw [h3];rfl
 have e4:(jI w4 [62]).isSome=true:=by rw [h4];rfl
 have b1:(([109]:List UInt8) == [119])=false:=by decide
 have b2:(([109]:List UInt8) == [109])=true:=by decide
 have b3:(([119]:List UInt8) == [119])=true:=by decide
 have b4:(([43]:List UInt8) == [43])=true:=by decide
 rcases h2 with ⟨rfl,rfl⟩|⟨rfl,rfl⟩
 ·repeat' first|(apply nx;with_reducible constructor)|apply uq (by decide)|refine vq ?_|refine vx ?_|(refine uk env 2 rfl rfl rfl (fun Q hQ=>?_);simp only [vkt,seval,qF,KW,aTk,cTk,aS,qL,xn,qM,qA,ao,ak,af,au,h1,h3,h4,e1,e3,e4,l1,l3,l4,b3,b4];(try simp only [ite_and]);(repeat' first|with_reducible assumption|apply vz);all_goals (first|(refine ⟨_,_,rfl,hQ _ _ ?_⟩;clear hQ Q)|(apply ux;kernel_rfl)|omega|assumption|with_reducible rfl|skip))|((first|apply uz env|apply uj);intro Q hQ;simp only [vkt,seval,qF,KW,qL,xn,qM,qA,ao,ak,h1,h3,h4,l1,l3,l4,ite_and];(repeat' first|with_reducible assumption|apply vz|intro hp);all_goals first|(apply hQ;clear hQ Q)|(apply ux;kernel_rfl)|omega|assumption|with_reducible rfl|skip)
  (simp only [vrt,Tryz.results156,vkt,seval,qF,aTk,cTk];refine Fin.val rfl ?_;(try simp only [AV.le,AV.leL]))
  all_goals first|rfl|simp
 ·repeat' first|(apply nx;with_reducible constructor)|apply uq (by decide)|refine vq ?_|refine vx ?_|(refine uk env 2 rfl rfl rfl (fun Q hQ=>?_);simp only [vkt,seval,qF,KW,aTk,cTk,aS,qL,xn,qM,qA,ao,ak,af,au,h1,h3,h4,e1,e3,e4,l1,l3,l4,b1,b2,b4];(try simp only [ite_and]);(repeat' first|with_reducible assumption|apply vz);all_goals (first|(refine ⟨_,_,rfl,hQ _ _ ?_⟩;clear hQ Q)|(apply ux;kernel_rfl)|omega|assumption|with_reducible rfl|skip))|((first|apply uz env|apply uj);intro Q hQ;simp only [vkt,seval,qF,KW,qL,xn,qM,qA,ao,ak,h1,h3,h4,l1,l3,l4,b1,ite_and];(repeat' first|with_reducible assumption|apply vz|intro hp);all_goals first|(apply hQ;clear hQ Q)|(apply ux;kernel_rfl)|omega|assumption|with_reducible rfl|skip)
  (simp only [vrt,Tryz.results156,vkt,seval,qF,aTk,cTk];refine Fin.val rfl ?_;(try simp only [AV.le,AV.leL]))
  all_goals first|rfl|simp
def Rh:=vz @aI.eq_1 (@aB.eq_1)
theorem QaY (w0 w1 w2 w3 w4:List UInt8) (k:Tk) (h:tk5 w1 w2 w3 w4 true=some k) (l1:w1.length<=100000) (l3:w3.length<=100000) (l4:w4.length<=100000):Fn (wQ TabT) Tryz.prog 156 [qA [w0,w1,w2,w3,w4,[43]]] noH (aTk k) noH 0:=by
 have env:=qB (A:=zS TabT) (kC wD (kC QeR kN))
 refine kT (Fn0 Tryz.func156 rfl (fun vs w=>by kernel_rfl) (by kernel_rfl)) (by simp) (by simp [AV.ids,qA]) ?_
 obtain ⟨h1,h2,h3,h4,h5⟩:=Qah h
 obtain ⟨a,s,c,b,f,t,d⟩:=k
 dsimp only at h1 h2 h3 h4 h5
 subst h5
 have e1:(wT w1).isSome=true:=by rw [h1];rfl
 have e3:(jI w3 [46]).isSome=true:=by rw [h3];rfl
 have e4:(jI w4 [62]).isSome=true:=by rw [h4];rfl
 have b1:(([109]:List UInt8) == [119])=false:=by decide
 have b2:(([109]:List UInt8) == [109])=true:=by decide
 have b3:(([119]:List UInt8) == [119])=true:=by decide
 have b4:(([43]:List UInt8) == [43])=true:=by decide
 rcases h2 with ⟨rfl,rfl⟩|⟨rfl,rfl⟩
 ·repeat' first|(apply nx;with_reducible constructor)|apply uq (by decide)|refine vq ?_|refine vx ?_|(refine uk env 2 rfl rfl rfl (fun Q hQ=>?_);simp only [vkt,seval,qF,Rh,aTk,cTk,aS,qL,xn,qM,qA,ao,ak,af,au,h1,h3,h4,e1,e3,e4,l1,l3,l4,b3,b4];(try simp only [ite_and]);(repeat' first|with_reducible assumption|apply vz);all_goals (first|(refine ⟨_,_,rfl,hQ _ _ ?_⟩;clear hQ Q)|(apply ux;kernel_rfl)|omega|assumption|with_reducible rfl|skip))|((first|apply uz env|apply uj);intro Q hQ;simp only [vkt,seval,qF,Rh,qL,xn,qM,qA,ao,ak,h1,h3,h4,l1,l3,l4,ite_and];(repeat' first|with_reducible assumption|apply vz|intro hp);all_goals first|(apply hQ;clear hQ Q)|(apply ux;kernel_rfl)|omega|assumption|with_reducible rfl|skip)
  (simp only [vrt,Tryz.results156,vkt,seval,qF,aTk,cTk];refine Fin.val rfl ?_;(try simp only [AV.le,AV.leL]))
  all_goals first|rfl|simp
 ·repeat' first|(apply nx;with_reducible constructor)|apply uq (by decide)|refine vq ?_|refine vx ?_|(refine uk env 2 rfl rfl rfl (fun Q hQ=>?_);simp only [vkt,seval,qF,Rh,aTk,cTk,aS,qL,xn,qM,qA,ao,ak,af,au,h1,h3,h4,e1,e3,e4,l1,l3,l4,b1,b2,b4];(try simp only [ite_and]);(repeat' first|with_reducible assumption|apply vz);all_goals (first|(refine ⟨_,_,rfl,hQ _ _ ?_⟩;clear hQ Q)|(apply ux;kernel_rfl)|omega|assumption|with_reducible rfl|skip))|((first|apply uz env|apply uj);intro Q hQ;simp only [vkt,seval,qF,Rh,qL,xn,qM,qA,ao,ak,h1,h3,h4,l1,l3,l4,b1,ite_and];(repeat' first|with_reducible assumption|apply vz|intro hp);all_goals first|(apply hQ;clear hQ Q)|(apply ux;kernel_rfl)|omega|assumption|with_reducible rfl|skip)
  (simp only [vrt,Tryz.results156,vkt,seval,qF,aTk,cTk];refine Fin.val rfl ?_;(try simp only [AV.le,AV.leL]))
  all_goals first|rfl|simp
def kP:=vz @aI.eq_1 (@aB.eq_1)
theorem Qc2 (w0 w1 w2 w3 w4:List UInt8) (h:tk5 w1 w2 w3 w4 false=none) (l1:w1.length<=100000) (l3:w3.length<=100000) (l4:w4.length<=100000):FnX refusal (wQ TabT) Tryz.prog 156 [qA [w0,w1,w2,w3,w4]] noH noH:=by
 have env:=qB (A:=zS TabT) (kC wD (kC QeR kN))
 refine FnX.of (A:=zS TabT) (n0:=0) (Fn0 Tryz.func156 rfl (fun vs w=>by kernel_rfl) (by kernel_rfl)) (by simp) (by simp [AV.ids,qA]) (fun i o h=>by cases h) (fun _ hB _ _=>hB) ?_
 cases h1:wT w1 with
 |none =>
  repeat' first|(apply nx;with_reducible constructor)|apply uq (by decide)|refine vq ?_|refine vx ?_|(refine uk env 2 rfl rfl rfl (fun Q hQ=>?_);simp only [vkt,seval,qF,kP,aTk,cTk,aS,qL,xn,qM,qA,ao,ak,af,au, h1,l1];(try simp only [ite_and]);(repeat' first|with_reducible assumption|apply vz);all_goals (first|(refine ⟨_,_,rfl,hQ _ _ ?_⟩;clear hQ Q)|(apply ux;kernel_rfl)|omega|assumption|with_reducible rfl|skip))|(refine uw env QJ 3 rfl rfl (fun Q hQ=>?_);simp only [yf,kM,vkt,seval,qF,ao,ak];(try simp only [ite_and]);(repeat' first|with_reducible assumption|apply vz|intro hp);all_goals (first|(refine hQ _ _ _ ?_;clear hQ Q)|(apply ux;kernel_rfl)|omega|assumption|(with_reducible rfl)))|((first|apply uz env|apply uj);intro Q hQ;simp only [vkt,seval,qF,qM,qA,ite_and];(repeat' first|with_reducible assumption|apply vz|intro hp);all_goals first|(apply hQ;clear hQ Q)|(apply ux;kernel_rfl)|omega|assumption|with_reducible rfl|skip)
  exact ⟨rfl,rfl,Fin.val rfl (by simp only [AV.le])⟩
 |some a =>
  have e1:(wT w1).isSome=true:=by rw [h1];rfl
  by_cases c1:w2=[119]
  ·have b1:(w2 == [119])=true:=by simp [c1]
   have hs:VV w2=some 1:=by simp [VV,c1]
   cases h3:jI w3 [46] with
   |none =>
    repeat' first|(apply nx;with_reducible constructor)|apply uq (by decide)|refine vq ?_|refine vx ?_|(refine uk env 2 rfl rfl rfl (fun Q hQ=>?_);simp only [vkt,seval,qF,kP,aTk,cTk,aS,qL,xn,qM,qA,ao,ak,af,au, h1,l1,e1,b1,h3,l3,yT];(try simp only [ite_and]);(repeat' first|with_reducible assumption|apply vz);all_goals (first|(refine ⟨_,_,rfl,hQ _ _ ?_⟩;clear hQ Q)|(apply ux;kernel_rfl)|omega|assumption|with_reducible rfl|skip))|(refine uw env Ux 3 rfl rfl (fun Q hQ=>?_);simp only [yf,kM,vkt,seval,qF,ao,ak,h3,l3,yT];(try simp only [ite_and]);(repeat' first|with_reducible assumption|apply vz|intro hp);all_goals (first|(refine hQ _ _ _ ?_;clear hQ Q)|(apply ux;kernel_rfl)|omega|assumption|(with_reducible rfl)))|((first|apply uz env|apply uj);intro Q hQ;simp only [vkt,seval,qF,kP,qL,qM,qA,ao,ak,h1,l1,b1,ite_and];(repeat' first|with_reducible assumption|apply vz|intro hp);all_goals first|(apply hQ;clear hQ Q)|(apply ux;kernel_rfl)|omega|assumption|with_reducible rfl|skip)
    exact ⟨rfl,rfl,Fin.val rfl (by simp only [AV.le])⟩
   |some p =>
    have e3:(jI w3 [46]).isSome=true:=by rw [h3];rfl
    have h4:jI w4 [62]=none:=by
     cases h4:jI w4 [62] with
     |none=>rfl
     |some q=>simp [tk5,h1,hs,h3,h4] at h
    repeat' first|(apply nx;with_reducible constructor)|apply uq (by decide)|refine vq ?_|refine vx ?_|(refine uk env 2 rfl rfl rfl (fun Q hQ=>?_);simp only [vkt,seval,qF,kP,aTk,cTk,aS,qL,xn,qM,qA,ao,ak,af,au, h1,l1,e1,b1,e3,h3,l3,h4,l4,yT];(try simp only [ite_and]);(repeat' first|with_reducible assumption|apply vz);all_goals (first|(refine ⟨_,_,rfl,hQ _ _ ?_⟩;clear hQ Q)|(apply ux;kernel_rfl)|omega|assumption|with_reducible rfl|skip))|(refine uw env Ux 3 rfl rfl (fun Q hQ=>?_);simp only [yf,kM,vkt,seval,qF,ao,ak,h3,l3,h4,l4,yT];(try simp only [ite_and]);(repeat' first|with_reducible assumption|apply vz|intro hp);all_goals (first|(refine hQ _ _ _ ?_;clear hQ Q)|(apply ux;kernel_rfl)|omega|assumption|(with_reducible rfl)))|((first|apply uz env|apply uj);intro Q hQ;simp only [vkt,seval,qF,kP,qL,xn,qM,qA,ao,ak,h1,l1,b1,h3,l3,ite_and];(repeat' first|with_reducible assumption|apply vz|intro hp);all_goals first|(apply hQ;clear hQ Q)|(apply ux;kernel_rfl)|omega|assumption|with_reducible rfl|skip)
    exact ⟨rfl,rfl,Fin.val rfl (by simp only [AV.le])⟩
  ·have b1:(w2 == [119])=false:=by simp [c1]
   by_cases c2:w2=[109]
   ·have b2:(w2 == [109])=true:=by simp [c2]
    have hs:VV w2=some 2:=by simp [VV,c2]
    cases h3:jI w3 [46] with
    |none =>
     repeat' first|(apply nx;with_reducible constructor)|apply uq (by decide)|refine vq ?_|refine vx ?_|(refine uk env 2 rfl rfl rfl (fun Q hQ=>?_);simp only [vkt,seval,qF,kP,aTk,cTk,aS,qL,xn,qM,qA,ao,ak,af,au, h1,l1,e1,b1,b2,h3,l3,yT];(try simp only [ite_and]);(repeat' first|with_reducible assumption|apply vz);all_goals (first|(refine ⟨_,_,rfl,hQ _ _ ?_⟩;clear hQ Q)|(apply ux;kernel_rfl)|omega|assumption|with_reducible rfl|skip))|(refine uw env Ux 3 rfl rfl (fun Q hQ=>?_);simp only [yf,kM,vkt,seval,qF,ao,ak,h3,l3,yT];(try simp only [ite_and]);(repeat' first|with_reducible assumption|apply vz|intro hp);all_goals (first|(refine hQ _ _ _ ?_;clear hQ Q)|(apply ux;kernel_rfl)|omega|assumption|(with_reducible rfl)))|((first|apply uz env|apply uj);intro Q hQ;simp only [vkt,seval,qF,kP,qL,qM,qA,ao,ak,h1,l1,b1,b2,ite_and];(repeat' first|with_reducible assumption|apply vz|intro hp);all_goals first|(apply hQ;clear hQ Q)|(apply ux;kernel_rfl)|omega|assumption|with_reducible rfl|skip)
     exact ⟨rfl,rfl,Fin.val rfl (by simp only [AV.le])⟩
    |some p =>
     have e3:(jI w3 [46]).isSome=true:=by rw [h3];rfl
     have h4:jI w4 [62]=none:=by
      cases h4:jI w4 [62] with
      |none=>rfl
      |some q=>simp [tk5,h1,hs,h3,h4] at h
     repeat' first|(apply nx;with_reducible constructor)|apply uq (by decide)|refine vq ?_|refine vx ?_|(refine uk env 2 rfl rfl rfl (fun Q hQ=>?_);simp only [vkt,seval,qF,kP,aTk,cTk,aS,qL,xn,qM,qA,ao,ak,af,au, h1,l1,e1,b1,b2,e3,h3,l3,h4,l4,yT];(try simp only [ite_and]);(repeat' first|with_reducible assumption|apply vz);all_goals (first|(refine ⟨_,_,rfl,hQ _ _ ?_⟩;clear hQ Q)|(apply ux;kernel_rfl)|omega|assumption|with_reducible rfl|skip))|(refine uw env Ux 3 rfl rfl (fun Q hQ=>?_);simp only [yf,kM,vkt,seval,qF,ao,ak,h3,l3,h4,l4,yT];(try simp only [ite_and]);(repeat' first|with_reducible assumption|apply vz|intro hp);all_goals (first|(refine hQ _ _ _ ?_;clear hQ Q)|(apply ux;kernel_rfl)|omega|assumption|(with_reducible rfl)))|((first|apply uz env|apply uj);intro Q hQ;simp only [vkt,seval,qF,kP,qL,xn,qM,qA,ao,ak,h1,l1,b1,b2,h3,l3,ite_and];(repeat' first|with_reducible assumption|apply vz|intro hp);all_goals first|(apply hQ;clear hQ Q)|(apply ux;kernel_rfl)|omega|assumption|with_reducible rfl|skip)
     exact ⟨rfl,rfl,Fin.val rfl (by simp only [AV.le])⟩
   ·have b2:(w2 == [109])=false:=by simp [c2]
    repeat' first|(apply nx;with_reducible constructor)|apply uq (by decide)|refine vq ?_|refine vx ?_|(refine uk env 2 rfl rfl rfl (fun Q hQ=>?_);simp only [vkt,seval,qF];(try simp only [ite_and]);(repeat' first|with_reducible assumption|apply vz);all_goals (first|(refine ⟨_,_,rfl,hQ _ _ ?_⟩;clear hQ Q)|(apply ux;kernel_rfl)|omega|assumption|with_reducible rfl|skip))|((first|apply uz env|apply uj);intro Q hQ;simp only [vkt,seval,qF,kP,qL,qM,qA,ao,ak,h1,l1,b1,b2,ite_and];(repeat' first|with_reducible assumption|apply vz|intro hp);all_goals first|(apply hQ;clear hQ Q)|(apply ux;kernel_rfl)|omega|assumption|with_reducible rfl|skip)
    exact ⟨rfl,rfl,Fin.val rfl (by simp only [AV.le])⟩
def kR:=vz @aI.eq_1 (@aB.eq_1)
theorem Qdi (w0 w1 w2 w3 w4:List UInt8) (h:tk5 w1 w2 w3 w4 true=none) (l1:w1.length<=100000) (l3:w3.length<=100000) (l4:w4.length<=100000):FnX refusal (wQ TabT) Tryz.prog 156 [qA [w0,w1,w2,w3,w4,[43]]] noH noH:=by
 have env:=qB (A:=zS TabT) (kC wD (kC QeR kN))
 refine FnX.of (A:=zS TabT) (n0:=0) (Fn0 Tryz.func156 rfl (fun vs w=>by kernel_rfl) (by kernel_rfl)) (by simp) (by simp [AV.ids,qA]) (fun i o h=>by cases h) (fun _ hB _ _=>hB) ?_
 cases h1:wT w1 with
 |none =>
  repeat' first|(apply nx;with_reducible constructor)|apply uq (by decide)|refine vq ?_|refine vx ?_|(refine uk env 2 rfl rfl rfl (fun Q hQ=>?_);simp only [vkt,seval,qF,kR,aTk,cTk,aS,qL,xn,qM,qA,ao,ak,af,au, h1,l1];(try simp only [ite_and]);(repeat' first|with_reducible assumption|apply vz);all_goals (first|(refine ⟨_,_,rfl,hQ _ _ ?_⟩;clear hQ Q)|(apply ux;kernel_rfl)|omega|assumption|with_reducible rfl|skip))|(refine uw env QJ 3 rfl rfl (fun Q hQ=>?_);simp only [yf,kM,vkt,seval,qF,ao,ak];(try simp only [ite_and]);(repeat' first|with_reducible assumption|apply vz|intro hp);all_goals (first|(refine hQ _ _ _ ?_;clear hQ Q)|(apply ux;kernel_rfl)|omega|assumption|(with_reducible rfl)))|((first|apply uz env|apply uj);intro Q hQ;simp only [vkt,seval,qF,qM,qA,ao,ak,ite_and];(repeat' first|with_reducible assumption|apply vz|intro hp);all_goals first|(apply hQ;clear hQ Q)|(apply ux;kernel_rfl)|omega|assumption|with_reducible rfl|skip)
  exact ⟨rfl,rfl,Fin.val rfl (by simp only [AV.le])⟩
 |some a =>
  have e1:(wT w1).isSome=true:=by rw [h1];rfl
  by_cases c1:w2=[119]
  ·have b1:(w2 == [119])=true:=by simp [c1]
   have hs:VV w2=some 1:=by simp [VV,c1]
   cases h3:jI w3 [46] with
   |none =>
    repeat' first|(apply nx;with_reducible constructor)|apply uq (by decide)|refine vq ?_|refine vx ?_|(refine uk env 2 rfl rfl rfl (fun Q hQ=>?_);simp only [vkt,seval,qF,kR,aTk,cTk,aS,qL,xn,qM,qA,ao,ak,af,au, h1,l1,e1,b1,h3,l3,yT];(try simp only [ite_and]);(repeat' first|with_reducible assumption|apply vz);all_goals (first|(refine ⟨_,_,rfl,hQ _ _ ?_⟩;clear hQ Q)|(apply ux;kernel_rfl)|omega|assumption|with_reducible rfl|skip))|(refine uw env Ux 3 rfl rfl (fun Q hQ=>?_);simp only [yf,kM,vkt,seval,qF,ao,ak,h3,l3,yT];(try simp only [ite_and]);(repeat' first|with_reducible assumption|apply vz|intro hp);all_goals (first|(refine hQ _ _ _ ?_;clear hQ Q)|(apply ux;kernel_rfl)|omega|assumption|(with_reducible rfl)))|((first|apply uz env|apply uj);intro Q hQ;simp only [vkt,seval,qF,kR,qL,qM,qA,ao,ak,h1,l1,b1,ite_and];(repeat' first|with_reducible assumption|apply vz|intro hp);all_goals first|(apply hQ;clear hQ Q)|(apply ux;kernel_rfl)|omega|assumption|with_reducible rfl|skip)
    exact ⟨rfl,rfl,Fin.val rfl (by simp only [AV.le])⟩
   |some p =>
    have e3:(jI w3 [46]).isSome=true:=by rw [h3];rfl
    have h4:jI w4 [62]=none:=by
     cases h4:jI w4 [62] with
     |none=>rfl
     |some q=>simp [tk5,h1,hs,h3,h4] at h
    repeat' first|(apply nx;with_reducible constructor)|apply uq (by decide)|refine vq ?_|refine vx ?_|(refine uk env 2 rfl rfl rfl (fun Q hQ=>?_);simp only [vkt,seval,qF,kR,aTk,cTk,aS,qL,xn,qM,qA,ao,ak,af,au, h1,l1,e1,b1,e3,h3,l3,h4,l4,yT];(try simp only [ite_and]);(repeat' first|with_reducible assumption|apply vz);all_goals (first|(refine ⟨_,_,rfl,hQ _ _ ?_⟩;clear hQ Q)|(apply ux;kernel_rfl)|omega|assumption|with_reducible rfl|skip))|(refine uw env Ux 3 rfl rfl (fun Q hQ=>?_);simp only [yf,kM,vkt,seval,qF,ao,ak,h3,l3,h4,l4,yT];(try simp only [ite_and]);(repeat' first|with_reducible assumption|apply vz|intro hp);all_goals (first|(refine hQ _ _ _ ?_;clear hQ Q)|(apply ux;kernel_rfl)|omega|assumption|(with_reducible rfl)))|((first|apply uz env|apply uj);intro Q hQ;simp only [vkt,seval,qF,kR,qL,xn,qM,qA,ao,ak,h1,l1,b1,h3,l3,ite_and];(repeat' first|with_reducible assumption|apply vz|intro hp);all_goals first|(apply hQ;clear hQ Q)|(apply ux;kernel_rfl)|omega|assumption|with_reducible rfl|skip)
    exact ⟨rfl,rfl,Fin.val rfl (by simp only [AV.le])⟩
  ·have b1:(w2 == [119])=false:=by simp [c1]
   by_cases c2:w2=[109]
   ·have b2:(w2 == [109])=true:=by simp [c2]
    have hs:VV w2=some 2:=by simp [VV,c2]
    cases h3:jI w3 [46] with
    |none =>
     repeat' first|(apply nx;with_reducible constructor)|apply uq (by decide)|refine vq ?_|refine vx ?_|(refine uk env 2 rfl rfl rfl (fun Q hQ=>?_);simp only [vkt,seval,qF,kR,aTk,cTk,aS,qL,xn,qM,qA,ao,ak,af,au, h1,l1,e1,b1,b2,h3,l3,yT];(try simp only [ite_and]);(repeat' first|with_reducible assumption|apply vz);all_goals (first|(refine ⟨_,_,rfl,hQ _ _ ?_⟩;clear hQ Q)|(apply ux;kernel_rfl)|omega|assumption|with_reducible rfl|skip))|(refine uw env Ux 3 rfl rfl (fun Q hQ=>?_);simp only [yf,kM,vkt,seval,qF,ao,ak,h3,l3,yT];(try simp only [ite_and]);(repeat' first|with_reducible assumption|apply vz|intro hp);all_goals (first|(refine hQ _ _ _ ?_;clear hQ Q)|(apply ux;kernel_rfl)|omega|assumption|(with_reducible rfl)))|((first|apply uz env|apply uj);intro Q hQ;simp only [vkt,seval,qF,kR,qL,qM,qA,ao,ak,h1,l1,b1,b2,ite_and];(repeat' first|with_reducible assumption|apply vz|intro hp);all_goals first|(apply hQ;clear hQ Q)|(apply ux;kernel_rfl)|omega|assumption|with_reducible rfl|skip)
     exact ⟨rfl,rfl,Fin.val rfl (by simp only [AV.le])⟩
    |some p =>
     have e3:(jI w3 [46]).isSome=true:=by rw [h3];rfl
     have h4:jI w4 [62]=none:=by
      cases h4:jI w4 [62] with
      |none=>rfl
      |some q=>simp [tk5,h1,hs,h3,h4] at h
     repeat' first|(apply nx;with_reducible constructor)|apply uq (by decide)|refine vq ?_|refine vx ?_|(refine uk env 2 rfl rfl rfl (fun Q hQ=>?_);simp only [vkt,seval,qF,kR,aTk,cTk,aS,qL,xn,qM,qA,ao,ak,af,au, h1,l1,e1,b1,b2,e3,h3,l3,h4,l4,yT];(try simp only [ite_and]);(repeat' first|with_reducible assumption|apply vz);all_goals (first|(refine ⟨_,_,rfl,hQ _ _ ?_⟩;clear hQ Q)|(apply ux;kernel_rfl)|omega|assumption|with_reducible rfl|skip))|(refine uw env Ux 3 rfl rfl (fun Q hQ=>?_);simp only [yf,kM,vkt,seval,qF,ao,ak,h3,l3,h4,l4,yT];(try simp only [ite_and]);(repeat' first|with_reducible assumption|apply vz|intro hp);all_goals (first|(refine hQ _ _ _ ?_;clear hQ Q)|(apply ux;kernel_rfl)|omega|assumption|(with_reducible rfl)))|((first|apply uz env|apply uj);intro Q hQ;simp only [vkt,seval,qF,kR,qL,xn,qM,qA,ao,ak,h1,l1,b1,b2,h3,l3,ite_and];(repeat' first|with_reducible assumption|apply vz|intro hp);all_goals first|(apply hQ;clear hQ Q)|(apply ux;kernel_rfl)|omega|assumption|with_reducible rfl|skip)
     exact ⟨rfl,rfl,Fin.val rfl (by simp only [AV.le])⟩
   ·have b2:(w2 == [109])=false:=by simp [c2]
    repeat' first|(apply nx;with_reducible constructor)|apply uq (by decide)|refine vq ?_|refine vx ?_|(refine uk env 2 rfl rfl rfl (fun Q hQ=>?_);simp only [vkt,seval,qF];(try simp only [ite_and]);(repeat' first|with_reducible assumption|apply vz);all_goals (first|(refine ⟨_,_,rfl,hQ _ _ ?_⟩;clear hQ Q)|(apply ux;kernel_rfl)|omega|assumption|with_reducible rfl|skip))|((first|apply uz env|apply uj);intro Q hQ;simp only [vkt,seval,qF,kR,qL,qM,qA,ao,ak,h1,l1,b1,b2,ite_and];(repeat' first|with_reducible assumption|apply vz|intro hp);all_goals first|(apply hQ;clear hQ Q)|(apply ux;kernel_rfl)|omega|assumption|with_reducible rfl|skip)
    exact ⟨rfl,rfl,Fin.val rfl (by simp only [AV.le])⟩
theorem Qdb (w0 w1 w2 w3 w4 w5:List UInt8) (h:w5 ≠ [43]):FnX refusal (wQ TabT) Tryz.prog 156 [qA [w0,w1,w2,w3,w4,w5]] noH noH:=by
 have env:=qB (A:=zS TabT) (kC wD (kC QeR kN))
 refine FnX.of (A:=zS TabT) (n0:=0) (Fn0 Tryz.func156 rfl (fun vs w=>by kernel_rfl) (by kernel_rfl)) (by simp) (by simp [AV.ids,qA]) (fun i o h=>by cases h) (fun _ hB _ _=>hB) ?_
 have b1:(w5 == [43])=false:=by simp [h]
 repeat' first|(apply nx;with_reducible constructor)|apply uq (by decide)|refine vq ?_|refine vx ?_|(refine uk env 2 rfl rfl rfl (fun Q hQ=>?_);simp only [vkt,seval,qF];(try simp only [ite_and]);(repeat' first|with_reducible assumption|apply vz);all_goals (first|(refine ⟨_,_,rfl,hQ _ _ ?_⟩;clear hQ Q)|(apply ux;kernel_rfl)|omega|assumption|with_reducible rfl|skip))|((first|apply uz env|apply uj);intro Q hQ;simp only [vkt,seval,qF,qM,qA,ao,ak,b1,ite_and];(repeat' first|with_reducible assumption|apply vz|intro hp);all_goals first|(apply hQ;clear hQ Q)|(apply ux;kernel_rfl)|omega|assumption|with_reducible rfl|skip)
 exact ⟨rfl,rfl,Fin.val rfl (by simp only [AV.le])⟩
theorem QeF (l:List (List UInt8)) (h5:l.length ≠ 5) (h6:l.length ≠ 6):FnX refusal (wQ TabT) Tryz.prog 156 [qA l] noH noH:=by
 have env:=qB (A:=zS TabT) (kC wD (kC QeR kN))
 refine FnX.of (A:=zS TabT) (n0:=0) (Fn0 Tryz.func156 rfl (fun vs w=>by kernel_rfl) (by kernel_rfl)) (by simp) (by simp [AV.ids,qA]) (fun i o h=>by cases h) (fun _ hB _ _=>hB) ?_
 have d5:decide ((l.length:Int)=5)=false:=decide_eq_false (by omega)
 have d6:decide ((l.length:Int)=6)=false:=decide_eq_false (by omega)
 repeat' first|(apply nx;with_reducible constructor)|apply uq (by decide)|refine vq ?_|refine vx ?_|(refine uk env 2 rfl rfl rfl (fun Q hQ=>?_);simp only [vkt,seval,qF];(try simp only [ite_and]);(repeat' first|with_reducible assumption|apply vz);all_goals (first|(refine ⟨_,_,rfl,hQ _ _ ?_⟩;clear hQ Q)|(apply ux;kernel_rfl)|omega|assumption|with_reducible rfl|skip))|((first|apply uz env|apply uj);intro Q hQ;simp only [vkt,seval,qF,qA,d5,d6,ite_and];(repeat' first|with_reducible assumption|apply vz|intro hp);all_goals first|(apply hQ;clear hQ Q)|(apply ux;kernel_rfl)|omega|assumption|with_reducible rfl|skip)
 exact ⟨rfl,rfl,Fin.val rfl (by simp only [AV.le])⟩
theorem QkE (l:List (List UInt8)) (hl:∀ w ∈ l,w.length<=100000) (h:(tkP l).isSome=true):Fn (wQ TabT) Tryz.prog 156 [qA l] noH (aTk ((tkP l).getD default)) noH 0:=by
 obtain ⟨k,hk⟩:=cj.1 h
 rw [hk]
 unfold tkP at hk
 split at hk
 ·exact QbV _ _ _ _ _ k hk (hl _ (by simp)) (hl _ (by simp)) (hl _ (by simp))
 ·split at hk
  ·rename_i h5;subst h5
   exact QaY _ _ _ _ _ k hk (hl _ (by simp)) (hl _ (by simp)) (hl _ (by simp))
  ·cases hk
 ·cases hk
theorem tkt_x (l:List (List UInt8)) (hl:∀ w ∈ l,w.length<=100000) (h:tkP l=none):FnX refusal (wQ TabT) Tryz.prog 156 [qA l] noH noH:=by
 unfold tkP at h
 split at h
 ·exact Qc2 _ _ _ _ _ h (hl _ (by simp)) (hl _ (by simp)) (hl _ (by simp))
 ·split at h
  ·rename_i h5;subst h5
   exact Qdi _ _ _ _ _ h (hl _ (by simp)) (hl _ (by simp)) (hl _ (by simp))
  ·exact Qdb _ _ _ _ _ _ (by assumption)
 ·rename_i g5 g6
  refine QeF l (fun e=>?_) (fun e=>?_)
  ·match l,e with
   |[a,b,c,d,e],_=>exact g5 _ _ _ _ _ rfl
  ·match l,e with
   |[a,b,c,d,e,f],_=>exact g6 _ _ _ _ _ _ rfl
def Yo:List AV->Prop × AV
 |[.sl l]=>(l=(l.map xO).map qM/\(∀ w ∈ (l.map xO),w.length<=100000)/\(tkP (l.map xO)).isSome=true,aTk ((tkP (l.map xO)).getD default))
 |_=>(False,.junk)
theorem Yn:qm (zS TabT) Tryz.prog 156 (zU false Yo):=Jm fun vs hv h=>by
 clear hv
 unfold Yo at h ⊢
 split at h
 ·rename_i l;obtain ⟨q0,k0,k1⟩:=h
  refine ⟨by first|trivial|(repeat' split) <;> simp [AV.plain,AV.plainL,aI,aB,qx,qb,qy,qw,aTk,cTk],fun h=>absurd h (by decide), ?_⟩
  have:=QkE (l.map xO) k0 k1
  simp only [qA,<- q0] at this
  first|exact this|(simp only [qA,<- q0];exact this)
 ·exact h.elim
def Qfk:List AV->Prop
 |[.sl xs]=>∃ l:List (List UInt8),xs=l.map qM/\tkP l=none/\∀ w ∈ l,w.length<=100000
 |_=>False
theorem xTkt:XOK (zS TabT) Tryz.prog 156 (kM refusal Qfk):=Rq fun l h=>by
 unfold Qfk at h
 split at h
 ·obtain ⟨l,rfl,h1,h2⟩:=h
  exact tkt_x l h2 h1
 ·exact h.elim
inductive Ln where
 |cabin (x:Cabin)
 |way (n:Int)
 |sold (k:Tk)
 |car
def zA:List UInt8:=[99,97,98,105,110]
def yK:List UInt8:=[119,97,121]
def zW:List UInt8:=[115,111,108,100]
def wX:List UInt8:=[99,97,114]
def cbP:List (List UInt8)->Option Ln
 |[_,w1,w2]=>if w2=[100]\/w2=[115] then (wT w1).map fun n=>.cabin ⟨n,decide (w2=[100])⟩ else none
 |_=>none
def wyP:List (List UInt8)->Option Ln
 |[_,w1]=>(wT w1).map .way
 |_=>none
def crP:List (List UInt8)->Option Ln
 |[_]=>some .car
 |_=>none
def RU (l:List (List UInt8)):Option Ln:=if l.headD []=zA then cbP l else if l.headD []=yK then wyP l else if l.headD []=zW then (tkP l).map .sold else if l.headD []=wX then crP l else none
def WT (s:List UInt8):Option Ln:=RU (spS s [32])
def qR (l:List Cabin):AObj:=.row 84 2 (l.map qo)
def chR (s:Int) (a b:Nat):AObj:=.cells [.row a,.v (.int .i64 s),.row b]
def zi (c:Chart):List AObj:=[chR c.secs 1 2,qR c.cabins,qc c.sold]
theorem wS {c:Chart}:∀ i o,qa (qz 0 (zi c)) i=some o->i < 3/\∀ id ∈ o.ids,id < 3:=by
 intro i o hi
 have h:=qE hi
 simp [qz,zi] at h
 rcases h with ⟨rfl,rfl⟩|⟨rfl,rfl⟩|⟨rfl,rfl⟩ <;> simp [AObj.ids,AV.ids,AV.idsL,chR,qR,qc]
theorem Yd (sep:List UInt8):∀ (k:Nat) (s:List UInt8),∀ w ∈ Lib.splitK sep 0 k s,w.length<=s.length
 |0,s,w,h=>by
  simp only [Lib.splitK,aO] at h
  rw [h];exact aA _
 |k+1,s,w,h=>by
  unfold Lib.splitK at h
  split at h
  ·simp only [aO] at h
   rw [h];exact aA _
  ·rcases ae.1 h with h|h
   ·rw [h,be];omega
   ·have:=Yd sep k _ w h
    rw [List.length_drop] at this;omega
theorem QhM (s sep:List UInt8):spS s sep=Lib.splitK sep 0 (Lib.countB ⟨⟨s⟩⟩ ⟨⟨sep⟩⟩) s:=Lib.splitB_data _ _ _ _
theorem Zc {s sep:List UInt8} (hs:s.length<=100000):∀ w ∈ spS s sep,w.length<=100000:=fun w hw=>by
 rw [QhM] at hw
 exact aN (Yd sep _ s w hw) hs
def yo:=vz @ty3 (vz @ty9 (vz @JH (vz @xW (vz @jW (vz @QfW (vz @JI (vz @yc (vz @Qac (vz @ti3.eq_1 (vz @ti9.eq_1 (vz @ZW.eq_1 (vz @vW.eq_1 (vz @jE.eq_1 (vz @Qaj.eq_1 (vz @Z5.eq_1 (vz @jM.eq_1 @Yi.eq_1))))))))))))))))
def JN:=vz @aI.eq_1 (@aB.eq_1)
theorem KP (c:Chart) (s:List UInt8) (w1 w2:List UInt8) (n:Int) (hs:spS s [32]=[zA,w1,w2]) (l1:w1.length<=100000) (h1:wT w1=some n) (h2:w2=[100]\/w2=[115]) (hc:c.cabins.length<=1000) (hl:s.length<=100000) :
  Fn (wQ TabT) Tryz.prog 98 [.ptr 0 0,aS s] (qa (qz 0 (zi c))) (aI 0) (qa (za 0 [some (chR c.secs 3 2),none,some (qc c.sold),some (qR (c.cabins++[⟨n,decide (w2=[100])⟩]))])) 0:=by
 have env:=qB (A:=zS TabT) (kC wD (kC vw (kC Yn kN)))
 refine Fn.of (A:=zS TabT) (n0:=3) (D:=noD) (Fn0 Tryz.func98 rfl (fun vs w=>by kernel_rfl) (by kernel_rfl)) (by simp) (by simp [AV.ids,aS]) wS (fun _ hB _ _=>hB) q9 ?_
 have hm:(1000:Nat)+1<=maxLen:=by decide
 show Sym _ _ _ (qP [.ptr 0 0,aS s] 3 (qa [(0,chR c.secs 1 2),(1,qR c.cabins),(2,qc c.sold)])) (jP tyB noD Tryz.f98 fun S rv=>Fin S rv _ 3 (qa [(0,chR c.secs 3 2),(2,qc c.sold),(3,qR (c.cabins++[⟨n,decide (w2=[100])⟩]))]) 0)
 have e1:(wT w1).isSome=true:=by rw [h1];rfl
 have b0:(([99,97,98,105,110]:List UInt8) == [99,97,98,105,110])=true:=by decide
 rcases h2 with rfl|rfl
 ·have b1:(([100]:List UInt8) == [100])=true:=by decide
  have d1:decide (([100]:List UInt8)=[100])=true:=by decide
  rw [d1]
  repeat' first|(apply nx;with_reducible constructor)|apply uq (by decide)|refine vq ?_|refine vx ?_|(refine uk env 2 rfl rfl rfl (fun Q hQ=>?_);simp only [vkt,seval,yo,JN,aTk,cTk,aS,qL,zx,Yo,qM,qA,ao,ak,af,au,qR,qc,chR,zi,qo,wR,rTk,eTk,aj,aF,aq,zA,yK,zW,wX,hs,hl,h1,e1,l1,b0,b1];(try simp only [ite_and]);(repeat' first|with_reducible assumption|apply vz);all_goals (first|(refine ⟨_,_,rfl,hQ _ _ ?_⟩;clear hQ Q)|(apply ux;kernel_rfl)|omega|assumption|with_reducible rfl|skip))|((first|apply uz env|apply uj);intro Q hQ;simp only [vkt,seval,yo,JN,aS,qL,zx,qM,qA,ao,ak,qR,qc,chR,wR,zA,hs,hl,h1,l1,ite_and];(repeat' first|with_reducible assumption|apply vz|intro hp);all_goals first|(apply hQ;clear hQ Q)|(apply ux;kernel_rfl)|omega|assumption|with_reducible rfl|skip)
  (simp only [vrt,Tryz.results98,vkt,seval,JN,qR,qc,chR,qo,aq];refine Fin.ok (fun j=>[0,1,2,4][j]?) [] ?_ ?_ ?_ ?_ ?_ rfl;all_goals (try simp only [vle,vkt,seval]))
  all_goals first|rfl|(simp;done)|exact fun i hi=>(match i,hi with|0,_=>rfl|1,_=>rfl|2,_=>rfl)
 ·have b1:(([115]:List UInt8) == [100])=false:=by decide
  have b2:(([115]:List UInt8) == [115])=true:=by decide
  have d1:decide (([115]:List UInt8)=[100])=false:=by decide
  rw [d1]
  repeat' first|(apply nx;with_reducible constructor)|apply uq (by decide)|refine vq ?_|refine vx ?_|(refine uk env 2 rfl rfl rfl (fun Q hQ=>?_);simp only [vkt,seval,yo,JN,aTk,cTk,aS,qL,zx,Yo,qM,qA,ao,ak,af,au,qR,qc,chR,zi,qo,wR,rTk,eTk,aj,aF,aq,zA,yK,zW,wX,hs,hl,h1,e1,l1,b0,b1,b2];(try simp only [ite_and]);(repeat' first|with_reducible assumption|apply vz);all_goals (first|(refine ⟨_,_,rfl,hQ _ _ ?_⟩;clear hQ Q)|(apply ux;kernel_rfl)|omega|assumption|with_reducible rfl|skip))|((first|apply uz env|apply uj);intro Q hQ;simp only [vkt,seval,yo,JN,aS,qL,zx,qM,qA,ao,ak,qR,qc,chR,wR,zA,hs,hl,h1,l1,b1,ite_and];(repeat' first|with_reducible assumption|apply vz|intro hp);all_goals first|(apply hQ;clear hQ Q)|(apply ux;kernel_rfl)|omega|assumption|with_reducible rfl|skip)
  (simp only [vrt,Tryz.results98,vkt,seval,JN,qR,qc,chR,qo,aq];refine Fin.ok (fun j=>[0,1,2,4][j]?) [] ?_ ?_ ?_ ?_ ?_ rfl;all_goals (try simp only [vle,vkt,seval]))
  all_goals first|rfl|(simp;done)|exact fun i hi=>(match i,hi with|0,_=>rfl|1,_=>rfl|2,_=>rfl)
def QbT:=vz @aI.eq_1 (@aB.eq_1)
theorem QbH (c:Chart) (s:List UInt8) (w1:List UInt8) (n:Int) (hs:spS s [32]=[yK,w1]) (l1:w1.length<=100000) (h1:wT w1=some n) (hl:s.length<=100000) :
  Fn (wQ TabT) Tryz.prog 98 [.ptr 0 0,aS s] (qa (qz 0 (zi c))) (aI 1) (qa (za 0 [some (chR n 1 2),some (qR c.cabins),some (qc c.sold)])) 0:=by
 have env:=qB (A:=zS TabT) (kC wD (kC vw (kC Yn kN)))
 refine Fn.of (A:=zS TabT) (n0:=3) (D:=noD) (Fn0 Tryz.func98 rfl (fun vs w=>by kernel_rfl) (by kernel_rfl)) (by simp) (by simp [AV.ids,aS]) wS (fun _ hB _ _=>hB) q9 ?_
 have hm:(1000:Nat)+1<=maxLen:=by decide
 show Sym _ _ _ (qP [.ptr 0 0,aS s] 3 (qa [(0,chR c.secs 1 2),(1,qR c.cabins),(2,qc c.sold)])) (jP tyB noD Tryz.f98 fun S rv=>Fin S rv _ 3 (qa [(0,chR n 1 2),(1,qR c.cabins),(2,qc c.sold)]) 0)
 have e1:(wT w1).isSome=true:=by rw [h1];rfl
 have b0:(([119,97,121]:List UInt8) == [99,97,98,105,110])=false:=by decide
 have b1:(([119,97,121]:List UInt8) == [119,97,121])=true:=by decide
 ·repeat' first|(apply nx;with_reducible constructor)|apply uq (by decide)|refine vq ?_|refine vx ?_|(refine uk env 2 rfl rfl rfl (fun Q hQ=>?_);simp only [vkt,seval,yo,QbT,aTk,cTk,aS,qL,zx,Yo,qM,qA,ao,ak,af,au,qR,qc,chR,zi,qo,wR,rTk,eTk,aj,aF,aq,zA,yK,zW,wX,hs,hl,h1,e1,l1,b0,b1];(try simp only [ite_and]);(repeat' first|with_reducible assumption|apply vz);all_goals (first|(refine ⟨_,_,rfl,hQ _ _ ?_⟩;clear hQ Q)|(apply ux;kernel_rfl)|omega|assumption|with_reducible rfl|skip))|((first|apply uz env|apply uj);intro Q hQ;simp only [vkt,seval,yo,QbT,aS,qL,zx,qM,qA,ao,ak,qR,qc,chR,yK,hs,hl,h1,l1,b0,ite_and];(repeat' first|with_reducible assumption|apply vz|intro hp);all_goals first|(apply hQ;clear hQ Q)|(apply ux;kernel_rfl)|omega|assumption|with_reducible rfl|skip)
  (simp only [vrt,Tryz.results98,vkt,seval,QbT,qR,qc,chR];refine Fin.ok (fun j=>[0,1,2][j]?) [] ?_ ?_ ?_ ?_ ?_ rfl;all_goals (try simp only [vle,vkt,seval]))
  all_goals first|rfl|(simp;done)|exact fun i hi=>(match i,hi with|0,_=>rfl|1,_=>rfl|2,_=>rfl)
def QgK:=vz @aI.eq_1 (@aB.eq_1)
theorem Qal (c:Chart) (s:List UInt8) (l:List (List UInt8)) (k:Tk) (hs:spS s [32]=l) (h0:l.headD []=zW) (h1:tkP l=some k) (hc:c.sold.length<=1000) (hl:s.length<=100000) :
  Fn (wQ TabT) Tryz.prog 98 [.ptr 0 0,aS s] (qa (qz 0 (zi c))) (aI 2) (qa (za 0 [some (chR c.secs 1 3),some (qR c.cabins),none,some (qc (c.sold++[k]))])) 0:=by
 have env:=qB (A:=zS TabT) (kC wD (kC vw (kC Yn kN)))
 refine Fn.of (A:=zS TabT) (n0:=3) (D:=noD) (Fn0 Tryz.func98 rfl (fun vs w=>by kernel_rfl) (by kernel_rfl)) (by simp) (by simp [AV.ids,aS]) wS (fun _ hB _ _=>hB) q9 ?_
 have hm:(1000:Nat)+1<=maxLen:=by decide
 show Sym _ _ _ (qP [.ptr 0 0,aS s] 3 (qa [(0,chR c.secs 1 2),(1,qR c.cabins),(2,qc c.sold)])) (jP tyB noD Tryz.f98 fun S rv=>Fin S rv _ 3 (qa [(0,chR c.secs 1 3),(1,qR c.cabins),(3,qc (c.sold++[k]))]) 0)
 have hw:=Zc (s:=s) (sep:=[32]) hl
 have hpos:=(vE (s:=s) (sep:=[32]) (by decide)).1
 rw [hs] at hw hpos
 have e1:(tkP l).isSome=true:=by rw [h1];rfl
 have hx:∀ d,(l.map qM).getD 0 d=[.v (.string ⟨⟨[115,111,108,100]⟩⟩)]:=fun d=>by
  match l,h0,hpos with
  |w :: l,h0,_=>simp only [bC] at h0;subst h0;rfl
 obtain ⟨p,sx,cb,bd,fr,to,dg⟩:=k
 have b0:(([115,111,108,100]:List UInt8) == [99,97,98,105,110])=false:=by decide
 have b1:(([115,111,108,100]:List UInt8) == [119,97,121])=false:=by decide
 have b2:(([115,111,108,100]:List UInt8) == [115,111,108,100])=true:=by decide
 ·repeat' first|(apply nx;with_reducible constructor)|apply uq (by decide)|refine vq ?_|refine vx ?_|(refine uk env 2 rfl rfl rfl (fun Q hQ=>?_);simp only [vkt,seval,yo,QgK,aTk,cTk,aS,qL,zx,Yo,qM,qA,ao,ak,af,au,qR,qc,chR,zi,qo,wR,rTk,eTk,aj,aF,aq,zA,yK,zW,wX,hs,hl,h1,e1,b0,b1,b2,hx,hpos,hw,mStr,aj];(try simp only [ite_and]);(repeat' first|with_reducible assumption|apply vz);all_goals (first|(refine ⟨_,_,rfl,hQ _ _ ?_⟩;clear hQ Q)|(apply ux;kernel_rfl)|omega|assumption|with_reducible rfl|skip))|((first|apply uz env|apply uj);intro Q hQ;simp only [vkt,seval,yo,aTk,cTk,aS,zx,Yo,qA,qR,qc,chR,rTk,hs,hl,h1,b0,b1,hx,hpos,mStr,ite_and];(repeat' first|with_reducible assumption|apply vz|intro hp);all_goals first|(apply hQ;clear hQ Q)|(apply ux;kernel_rfl)|omega|assumption|with_reducible rfl|skip)
  (simp only [vrt,Tryz.results98,vkt,seval,QgK,qR,qc,chR,eTk,aq];refine Fin.ok (fun j=>[0,1,2,4][j]?) [] ?_ ?_ ?_ ?_ ?_ rfl;all_goals (try simp only [vle,vkt,seval]))
  all_goals first|rfl|(simp;done)|exact fun i hi=>(match i,hi with|0,_=>rfl|1,_=>rfl|2,_=>rfl)
def Qfx:=vz @aI.eq_1 (@aB.eq_1)
theorem QaM (c:Chart) (s:List UInt8) (hs:spS s [32]=[wX]) (hl:s.length<=100000) :
  Fn (wQ TabT) Tryz.prog 98 [.ptr 0 0,aS s] (qa (qz 0 (zi c))) (aI 3) (qa (za 0 [some (chR c.secs 1 2),some (qR c.cabins),some (qc c.sold)])) 0:=by
 have env:=qB (A:=zS TabT) (kC wD (kC vw (kC Yn kN)))
 refine Fn.of (A:=zS TabT) (n0:=3) (D:=noD) (Fn0 Tryz.func98 rfl (fun vs w=>by kernel_rfl) (by kernel_rfl)) (by simp) (by simp [AV.ids,aS]) wS (fun _ hB _ _=>hB) q9 ?_
 have hm:(1000:Nat)+1<=maxLen:=by decide
 show Sym _ _ _ (qP [.ptr 0 0,aS s] 3 (qa [(0,chR c.secs 1 2),(1,qR c.cabins),(2,qc c.sold)])) (jP tyB noD Tryz.f98 fun S rv=>Fin S rv _ 3 (qa [(0,chR c.secs 1 2),(1,qR c.cabins),(2,qc c.sold)]) 0)
 have b0:(([99,97,114]:List UInt8) == [99,97,98,105,110])=false:=by decide
 have b1:(([99,97,114]:List UInt8) == [119,97,121])=false:=by decide
 have b2:(([99,97,114]:List UInt8) == [115,111,108,100])=false:=by decide
 have b3:(([99,97,114]:List UInt8) == [99,97,114])=true:=by decide
 ·repeat' first|(apply nx;with_reducible constructor)|apply uq (by decide)|refine vq ?_|refine vx ?_|(refine uk env 2 rfl rfl rfl (fun Q hQ=>?_);simp only [vkt,seval,yo,Qfx,aTk,cTk,aS,qL,zx,Yo,qM,qA,ao,ak,af,au,qR,qc,chR,zi,qo,wR,rTk,eTk,aj,aF,aq,zA,yK,zW,wX,hs,hl,b0,b1,b2,b3];(try simp only [ite_and]);(repeat' first|with_reducible assumption|apply vz);all_goals (first|(refine ⟨_,_,rfl,hQ _ _ ?_⟩;clear hQ Q)|(apply ux;kernel_rfl)|omega|assumption|with_reducible rfl|skip))|((first|apply uz env|apply uj);intro Q hQ;simp only [vkt,seval,yo,aS,zx,qM,qA,ak,qR,qc,chR,wX,hs,hl,b0,b1,b2,ite_and];(repeat' first|with_reducible assumption|apply vz|intro hp);all_goals first|(apply hQ;clear hQ Q)|(apply ux;kernel_rfl)|omega|assumption|with_reducible rfl|skip)
  (simp only [vrt,Tryz.results98,vkt,seval,Qfx,qR,qc,chR];refine Fin.ok (fun j=>[0,1,2][j]?) [] ?_ ?_ ?_ ?_ ?_ rfl;all_goals (try simp only [vle,vkt,seval]))
  all_goals first|rfl|(simp;done)|exact fun i hi=>(match i,hi with|0,_=>rfl|1,_=>rfl|2,_=>rfl)
def zz:=vz @ty3 (vz @ty9 (vz @JH (vz @xW (vz @jW (vz @QfW (vz @JI (vz @yc (vz @Qac (vz @ti3.eq_1 (vz @ti9.eq_1 (vz @ZW.eq_1 (vz @vW.eq_1 (vz @jE.eq_1 (vz @Qaj.eq_1 (vz @Z5.eq_1 (vz @jM.eq_1 @Yi.eq_1))))))))))))))))
def Qe5:=vz @aI.eq_1 (@aB.eq_1)
theorem UG (c:Chart) (s:List UInt8) (w1 w2:List UInt8) (hs:spS s [32]=[zA,w1,w2]) (l1:w1.length<=100000) (h1:wT w1=none) (h2:w2=[100]\/w2=[115]) (hl:s.length<=100000):FnX refusal (wQ TabT) Tryz.prog 98 [.ptr 0 0,aS s] (qa (qz 0 (zi c))) (qa (za 0 ((zi c).map some))):=by
 have env:=qB (A:=zS TabT) (kC wD (kC vw (kC Yn kN)))
 refine FnX.of (A:=zS TabT) (n0:=3) (Fn0 Tryz.func98 rfl (fun vs w=>by kernel_rfl) (by kernel_rfl)) (by simp) (by simp [AV.ids,aS]) wS (fun _ hB _ _=>hB) ?_
 have hpos:=(vE (s:=s) (sep:=[32]) (by decide)).1
 show Sym _ _ _ (qP [.ptr 0 0,aS s] 3 (qa [(0,chR c.secs 1 2),(1,qR c.cabins),(2,qc c.sold)])) fun e S=>e=.panic refusal/\S.d=[]/\Fin S .junk .junk 3 (qa [(0,chR c.secs 1 2),(1,qR c.cabins),(2,qc c.sold)]) 0
 have b0:(([99,97,98,105,110]:List UInt8) == [99,97,98,105,110])=true:=by decide
 rcases h2 with rfl|rfl
 ·have b1:(([100]:List UInt8) == [100])=true:=by decide
  repeat' first|(apply nx;with_reducible constructor)|apply uq (by decide)|refine vq ?_|refine vx ?_|(refine uk env 2 rfl rfl rfl (fun Q hQ=>?_);simp only [vkt,seval,zz,Qe5,aTk,cTk,aS,qL,zx,Yo,qM,qA,ao,ak,af,au,qR,qc,chR,zi,qo,wR,rTk,eTk,aj,aF,aq,zA,yK,zW,wX, hs,hl,h1,l1,b0,b1,Qg];(try simp only [ite_and]);(repeat' first|with_reducible assumption|apply vz);all_goals (first|(refine ⟨_,_,rfl,hQ _ _ ?_⟩;clear hQ Q)|(apply ux;kernel_rfl)|omega|assumption|with_reducible rfl|skip))|(refine uv env QJ 8 [0,1,2,3,4,5,6,7,9,10,11,12] rfl rfl (by kernel_rfl) (fun Q hQ=>?_);simp only [yf,kM,QaZ,QgH,cH,dP,cr,aJ,bq,vkt,seval,zz,ao,ak,h1,l1,Qg];(try simp only [ite_and]);(repeat' first|with_reducible assumption|apply vz|intro hp);all_goals (first|(refine hQ _ _ _ ?_;clear hQ Q)|(apply ux;kernel_rfl)|omega|assumption|(with_reducible rfl)))|((first|apply uz env|apply uj);intro Q hQ;simp only [vkt,seval,zz,aS,zx,qM,qA,ao,ak,qR,qc,chR,zA,hs,hl,ite_and];(repeat' first|with_reducible assumption|apply vz|intro hp);all_goals first|(apply hQ;clear hQ Q)|(apply ux;kernel_rfl)|omega|assumption|with_reducible rfl|skip)
  (refine ⟨rfl,rfl, ?_⟩;refine Fin.ok (fun j=>[0,1,2][j]?)   [] ?_ ?_ ?_ ?_ ?_ rfl;all_goals (try simp only [St.nil,vle,vkt,seval,qR,qc,chR]))
  all_goals first|rfl|(simp;done)|exact fun i hi=>(match i,hi with|0,_=>rfl|1,_=>rfl|2,_=>rfl)
 ·have b1:(([115]:List UInt8) == [100])=false:=by decide
  have b2:(([115]:List UInt8) == [115])=true:=by decide
  repeat' first|(apply nx;with_reducible constructor)|apply uq (by decide)|refine vq ?_|refine vx ?_|(refine uk env 2 rfl rfl rfl (fun Q hQ=>?_);simp only [vkt,seval,zz,Qe5,aTk,cTk,aS,qL,zx,Yo,qM,qA,ao,ak,af,au,qR,qc,chR,zi,qo,wR,rTk,eTk,aj,aF,aq,zA,yK,zW,wX, hs,hl,h1,l1,b0,b1,b2,Qg];(try simp only [ite_and]);(repeat' first|with_reducible assumption|apply vz);all_goals (first|(refine ⟨_,_,rfl,hQ _ _ ?_⟩;clear hQ Q)|(apply ux;kernel_rfl)|omega|assumption|with_reducible rfl|skip))|(refine uv env QJ 8 [0,1,2,3,4,5,6,7,9,10,11,12] rfl rfl (by kernel_rfl) (fun Q hQ=>?_);simp only [yf,kM,QaZ,QgH,cH,dP,cr,aJ,bq,vkt,seval,zz,ao,ak,h1,l1,b1,Qg];(try simp only [ite_and]);(repeat' first|with_reducible assumption|apply vz|intro hp);all_goals (first|(refine hQ _ _ _ ?_;clear hQ Q)|(apply ux;kernel_rfl)|omega|assumption|(with_reducible rfl)))|((first|apply uz env|apply uj);intro Q hQ;simp only [vkt,seval,zz,aS,zx,qM,qA,ao,ak,qR,qc,chR,zA,hs,hl,b1,ite_and];(repeat' first|with_reducible assumption|apply vz|intro hp);all_goals first|(apply hQ;clear hQ Q)|(apply ux;kernel_rfl)|omega|assumption|with_reducible rfl|skip)
  (refine ⟨rfl,rfl, ?_⟩;refine Fin.ok (fun j=>[0,1,2][j]?)   [] ?_ ?_ ?_ ?_ ?_ rfl;all_goals (try simp only [St.nil,vle,vkt,seval,qR,qc,chR]))
  all_goals first|rfl|(simp;done)|exact fun i hi=>(match i,hi with|0,_=>rfl|1,_=>rfl|2,_=>rfl)
theorem Rj (c:Chart) (s:List UInt8) (w1 w2:List UInt8) (hs:spS s [32]=[zA,w1,w2]) (h1:w2 ≠ [100]) (h2:w2 ≠ [115]) (hl:s.length<=100000):FnX refusal (wQ TabT) Tryz.prog 98 [.ptr 0 0,aS s] (qa (qz 0 (zi c))) (qa (za 0 ((zi c).map some))):=by
 have env:=qB (A:=zS TabT) (kC wD (kC vw (kC Yn kN)))
 refine FnX.of (A:=zS TabT) (n0:=3) (Fn0 Tryz.func98 rfl (fun vs w=>by kernel_rfl) (by kernel_rfl)) (by simp) (by simp [AV.ids,aS]) wS (fun _ hB _ _=>hB) ?_
 have hpos:=(vE (s:=s) (sep:=[32]) (by decide)).1
 show Sym _ _ _ (qP [.ptr 0 0,aS s] 3 (qa [(0,chR c.secs 1 2),(1,qR c.cabins),(2,qc c.sold)])) fun e S=>e=.panic refusal/\S.d=[]/\Fin S .junk .junk 3 (qa [(0,chR c.secs 1 2),(1,qR c.cabins),(2,qc c.sold)]) 0
 have b0:(([99,97,98,105,110]:List UInt8) == [99,97,98,105,110])=true:=by decide
 have b1:(w2 == [100])=false:=by simp [h1]
 have b2:(w2 == [115])=false:=by simp [h2]
 ·repeat' first|(apply nx;with_reducible constructor)|apply uq (by decide)|refine vq ?_|refine vx ?_|(refine uk env 2 rfl rfl rfl (fun Q hQ=>?_);simp only [vkt,seval,zz];(try simp only [ite_and]);(repeat' first|with_reducible assumption|apply vz);all_goals (first|(refine ⟨_,_,rfl,hQ _ _ ?_⟩;clear hQ Q)|(apply ux;kernel_rfl)|omega|assumption|with_reducible rfl|skip))|((first|apply uz env|apply uj);intro Q hQ;simp only [vkt,seval,zz,aS,zx,qM,qA,ao,ak,qR,qc,chR,zA,hs,hl,b1,b2,ite_and];(repeat' first|with_reducible assumption|apply vz|intro hp);all_goals first|(apply hQ;clear hQ Q)|(apply ux;kernel_rfl)|omega|assumption|with_reducible rfl|skip)
  (refine ⟨rfl,rfl, ?_⟩;refine Fin.ok (fun j=>[0,1,2][j]?)   [] ?_ ?_ ?_ ?_ ?_ rfl;all_goals (try simp only [vle,vkt,seval,qR,qc,chR]))
  all_goals first|rfl|(simp;done)|exact fun i hi=>(match i,hi with|0,_=>rfl|1,_=>rfl|2,_=>rfl)
theorem K4 (c:Chart) (s:List UInt8) (l:List (List UInt8)) (hs:spS s [32]=l) (h0:l.headD []=zA) (h1:l.length ≠ 3) (hl:s.length<=100000):FnX refusal (wQ TabT) Tryz.prog 98 [.ptr 0 0,aS s] (qa (qz 0 (zi c))) (qa (za 0 ((zi c).map some))):=by
 have env:=qB (A:=zS TabT) (kC wD (kC vw (kC Yn kN)))
 refine FnX.of (A:=zS TabT) (n0:=3) (Fn0 Tryz.func98 rfl (fun vs w=>by kernel_rfl) (by kernel_rfl)) (by simp) (by simp [AV.ids,aS]) wS (fun _ hB _ _=>hB) ?_
 have hpos:=(vE (s:=s) (sep:=[32]) (by decide)).1
 show Sym _ _ _ (qP [.ptr 0 0,aS s] 3 (qa [(0,chR c.secs 1 2),(1,qR c.cabins),(2,qc c.sold)])) fun e S=>e=.panic refusal/\S.d=[]/\Fin S .junk .junk 3 (qa [(0,chR c.secs 1 2),(1,qR c.cabins),(2,qc c.sold)]) 0
 have hx:∀ d,(l.map qM).getD 0 d=[.v (.string ⟨⟨[99,97,98,105,110]⟩⟩)]:=fun d=>by
  rw [hs] at hpos
  match l,h0,hpos with
  |w :: l,h0,_=>simp only [bC] at h0;subst h0;rfl
 rw [hs] at hpos
 have b0:(([99,97,98,105,110]:List UInt8) == [99,97,98,105,110])=true:=by decide
 have d1:decide ((l.length:Int)=3)=false:=decide_eq_false (by omega)
 ·repeat' first|(apply nx;with_reducible constructor)|apply uq (by decide)|refine vq ?_|refine vx ?_|(refine uk env 2 rfl rfl rfl (fun Q hQ=>?_);simp only [vkt,seval,zz];(try simp only [ite_and]);(repeat' first|with_reducible assumption|apply vz);all_goals (first|(refine ⟨_,_,rfl,hQ _ _ ?_⟩;clear hQ Q)|(apply ux;kernel_rfl)|omega|assumption|with_reducible rfl|skip))|((first|apply uz env|apply uj);intro Q hQ;simp only [vkt,seval,zz,aS,zx,qA,qR,qc,chR,hs,hl,hx,hpos,d1,ite_and];(repeat' first|with_reducible assumption|apply vz|intro hp);all_goals first|(apply hQ;clear hQ Q)|(apply ux;kernel_rfl)|omega|assumption|with_reducible rfl|skip)
  (refine ⟨rfl,rfl, ?_⟩;refine Fin.ok (fun j=>[0,1,2][j]?)   [] ?_ ?_ ?_ ?_ ?_ rfl;all_goals (try simp only [vle,vkt,seval,qR,qc,chR]))
  all_goals first|rfl|(simp;done)|exact fun i hi=>(match i,hi with|0,_=>rfl|1,_=>rfl|2,_=>rfl)
def Qlg:=vz @aI.eq_1 (@aB.eq_1)
theorem QdM (c:Chart) (s:List UInt8) (w1:List UInt8) (hs:spS s [32]=[yK,w1]) (l1:w1.length<=100000) (h1:wT w1=none) (hl:s.length<=100000):FnX refusal (wQ TabT) Tryz.prog 98 [.ptr 0 0,aS s] (qa (qz 0 (zi c))) (qa (za 0 ((zi c).map some))):=by
 have env:=qB (A:=zS TabT) (kC wD (kC vw (kC Yn kN)))
 refine FnX.of (A:=zS TabT) (n0:=3) (Fn0 Tryz.func98 rfl (fun vs w=>by kernel_rfl) (by kernel_rfl)) (by simp) (by simp [AV.ids,aS]) wS (fun _ hB _ _=>hB) ?_
 have hpos:=(vE (s:=s) (sep:=[32]) (by decide)).1
 show Sym _ _ _ (qP [.ptr 0 0,aS s] 3 (qa [(0,chR c.secs 1 2),(1,qR c.cabins),(2,qc c.sold)])) fun e S=>e=.panic refusal/\S.d=[]/\Fin S .junk .junk 3 (qa [(0,chR c.secs 1 2),(1,qR c.cabins),(2,qc c.sold)]) 0
 have b0:(([119,97,121]:List UInt8) == [99,97,98,105,110])=false:=by decide
 have b1:(([119,97,121]:List UInt8) == [119,97,121])=true:=by decide
 ·repeat' first|(apply nx;with_reducible constructor)|apply uq (by decide)|refine vq ?_|refine vx ?_|(refine uk env 2 rfl rfl rfl (fun Q hQ=>?_);simp only [vkt,seval,zz,Qlg,aTk,cTk,aS,qL,zx,Yo,qM,qA,ao,ak,af,au,qR,qc,chR,zi,qo,wR,rTk,eTk,aj,aF,aq,zA,yK,zW,wX, hs,hl,h1,l1,Qg,b0,b1];(try simp only [ite_and]);(repeat' first|with_reducible assumption|apply vz);all_goals (first|(refine ⟨_,_,rfl,hQ _ _ ?_⟩;clear hQ Q)|(apply ux;kernel_rfl)|omega|assumption|with_reducible rfl|skip))|(refine uw env QJ 4 rfl rfl (fun Q hQ=>?_);simp only [yf,kM,vkt,seval,zz,ao,ak,h1,l1,Qg];(try simp only [ite_and]);(repeat' first|with_reducible assumption|apply vz|intro hp);all_goals (first|(refine hQ _ _ _ ?_;clear hQ Q)|(apply ux;kernel_rfl)|omega|assumption|(with_reducible rfl)))|((first|apply uz env|apply uj);intro Q hQ;simp only [vkt,seval,zz,aS,zx,qM,qA,ak,qR,qc,chR,yK,hs,hl,b0,ite_and];(repeat' first|with_reducible assumption|apply vz|intro hp);all_goals first|(apply hQ;clear hQ Q)|(apply ux;kernel_rfl)|omega|assumption|with_reducible rfl|skip)
  (refine ⟨rfl,rfl, ?_⟩;refine Fin.ok (fun j=>[0,1,2][j]?)   [] ?_ ?_ ?_ ?_ ?_ rfl;all_goals (try simp only [vle,vkt,seval,qR,qc,chR]))
  all_goals first|rfl|(simp;done)|exact fun i hi=>(match i,hi with|0,_=>rfl|1,_=>rfl|2,_=>rfl)
theorem Qbq (c:Chart) (s:List UInt8) (l:List (List UInt8)) (hs:spS s [32]=l) (h0:l.headD []=yK) (h1:l.length ≠ 2) (hl:s.length<=100000):FnX refusal (wQ TabT) Tryz.prog 98 [.ptr 0 0,aS s] (qa (qz 0 (zi c))) (qa (za 0 ((zi c).map some))):=by
 have env:=qB (A:=zS TabT) (kC wD (kC vw (kC Yn kN)))
 refine FnX.of (A:=zS TabT) (n0:=3) (Fn0 Tryz.func98 rfl (fun vs w=>by kernel_rfl) (by kernel_rfl)) (by simp) (by simp [AV.ids,aS]) wS (fun _ hB _ _=>hB) ?_
 have hpos:=(vE (s:=s) (sep:=[32]) (by decide)).1
 show Sym _ _ _ (qP [.ptr 0 0,aS s] 3 (qa [(0,chR c.secs 1 2),(1,qR c.cabins),(2,qc c.sold)])) fun e S=>e=.panic refusal/\S.d=[]/\Fin S .junk .junk 3 (qa [(0,chR c.secs 1 2),(1,qR c.cabins),(2,qc c.sold)]) 0
 have hx:∀ d,(l.map qM).getD 0 d=[.v (.string ⟨⟨[119,97,121]⟩⟩)]:=fun d=>by
  rw [hs] at hpos
  match l,h0,hpos with
  |w :: l,h0,_=>simp only [bC] at h0;subst h0;rfl
 rw [hs] at hpos
 have b0:(([119,97,121]:List UInt8) == [99,97,98,105,110])=false:=by decide
 have b1:(([119,97,121]:List UInt8) == [119,97,121])=true:=by decide
 have d1:decide ((l.length:Int)=2)=false:=decide_eq_false (by omega)
 ·repeat' first|(apply nx;with_reducible constructor)|apply uq (by decide)|refine vq ?_|refine vx ?_|(refine uk env 2 rfl rfl rfl (fun Q hQ=>?_);simp only [vkt,seval,zz];(try simp only [ite_and]);(repeat' first|with_reducible assumption|apply vz);all_goals (first|(refine ⟨_,_,rfl,hQ _ _ ?_⟩;clear hQ Q)|(apply ux;kernel_rfl)|omega|assumption|with_reducible rfl|skip))|((first|apply uz env|apply uj);intro Q hQ;simp only [vkt,seval,zz,aS,zx,qA,qR,qc,chR,hs,hl,hx,hpos,d1,b0,ite_and];(repeat' first|with_reducible assumption|apply vz|intro hp);all_goals first|(apply hQ;clear hQ Q)|(apply ux;kernel_rfl)|omega|assumption|with_reducible rfl|skip)
  (refine ⟨rfl,rfl, ?_⟩;refine Fin.ok (fun j=>[0,1,2][j]?)   [] ?_ ?_ ?_ ?_ ?_ rfl;all_goals (try simp only [vle,vkt,seval,qR,qc,chR]))
  all_goals first|rfl|(simp;done)|exact fun i hi=>(match i,hi with|0,_=>rfl|1,_=>rfl|2,_=>rfl)
def QkN:=vz @aI.eq_1 (@aB.eq_1)
theorem Qbx (c:Chart) (s:List UInt8) (l:List (List UInt8)) (hs:spS s [32]=l) (h0:l.headD []=zW) (h1:tkP l=none) (hl:s.length<=100000):FnX refusal (wQ TabT) Tryz.prog 98 [.ptr 0 0,aS s] (qa (qz 0 (zi c))) (qa (za 0 ((zi c).map some))):=by
 have env:=qB (A:=zS TabT) (kC wD (kC vw (kC Yn kN)))
 refine FnX.of (A:=zS TabT) (n0:=3) (Fn0 Tryz.func98 rfl (fun vs w=>by kernel_rfl) (by kernel_rfl)) (by simp) (by simp [AV.ids,aS]) wS (fun _ hB _ _=>hB) ?_
 have hpos:=(vE (s:=s) (sep:=[32]) (by decide)).1
 show Sym _ _ _ (qP [.ptr 0 0,aS s] 3 (qa [(0,chR c.secs 1 2),(1,qR c.cabins),(2,qc c.sold)])) fun e S=>e=.panic refusal/\S.d=[]/\Fin S .junk .junk 3 (qa [(0,chR c.secs 1 2),(1,qR c.cabins),(2,qc c.sold)]) 0
 have hw:=Zc (s:=s) (sep:=[32]) hl
 rw [hs] at hw
 have hq:Qfk [.sl (l.map qM)]:=⟨l,rfl,h1,hw⟩
 have hx:∀ d,(l.map qM).getD 0 d=[.v (.string ⟨⟨[115,111,108,100]⟩⟩)]:=fun d=>by
  rw [hs] at hpos
  match l,h0,hpos with
  |w :: l,h0,_=>simp only [bC] at h0;subst h0;rfl
 rw [hs] at hpos
 have b0:(([115,111,108,100]:List UInt8) == [99,97,98,105,110])=false:=by decide
 have b1:(([115,111,108,100]:List UInt8) == [119,97,121])=false:=by decide
 have b2:(([115,111,108,100]:List UInt8) == [115,111,108,100])=true:=by decide
 ·repeat' first|(apply nx;with_reducible constructor)|apply uq (by decide)|refine vq ?_|refine vx ?_|(refine uk env 2 rfl rfl rfl (fun Q hQ=>?_);simp only [vkt,seval,zz,QkN,aTk,cTk,aS,qL,zx,Yo,qM,qA,ao,ak,af,au,qR,qc,chR,zi,qo,wR,rTk,eTk,aj,aF,aq,zA,yK,zW,wX, hs,hl,hx,hpos,aj,hq,b0,b1,b2];(try simp only [ite_and]);(repeat' first|with_reducible assumption|apply vz);all_goals (first|(refine ⟨_,_,rfl,hQ _ _ ?_⟩;clear hQ Q)|(apply ux;kernel_rfl)|omega|assumption|with_reducible rfl|skip))|(refine uv env xTkt 6 [0,1,2,3,4,5] rfl rfl (by kernel_rfl) (fun Q hQ=>?_);simp only [yf,kM,QaZ,QgH,cH,dP,cr,aJ,bq,vkt,seval,zz,hq];(try simp only [ite_and]);(repeat' first|with_reducible assumption|apply vz|intro hp);all_goals (first|(refine hQ _ _ _ ?_;clear hQ Q)|(apply ux;kernel_rfl)|omega|assumption|(with_reducible rfl)))|((first|apply uz env|apply uj);intro Q hQ;simp only [vkt,seval,zz,aS,zx,qA,qR,qc,chR,hs,hl,hx,hpos,b0,b1,ite_and];(repeat' first|with_reducible assumption|apply vz|intro hp);all_goals first|(apply hQ;clear hQ Q)|(apply ux;kernel_rfl)|omega|assumption|with_reducible rfl|skip)
  (refine ⟨rfl,rfl, ?_⟩;refine Fin.ok (fun j=>[0,1,2][j]?)   [] ?_ ?_ ?_ ?_ ?_ rfl;all_goals (try simp only [St.nil,vle,vkt,seval,qR,qc,chR]))
  all_goals first|rfl|(simp;done)|exact fun i hi=>(match i,hi with|0,_=>rfl|1,_=>rfl|2,_=>rfl)
theorem QeM (c:Chart) (s:List UInt8) (l:List (List UInt8)) (hs:spS s [32]=l) (h0:l.headD []=wX) (h1:l.length ≠ 1) (hl:s.length<=100000):FnX refusal (wQ TabT) Tryz.prog 98 [.ptr 0 0,aS s] (qa (qz 0 (zi c))) (qa (za 0 ((zi c).map some))):=by
 have env:=qB (A:=zS TabT) (kC wD (kC vw (kC Yn kN)))
 refine FnX.of (A:=zS TabT) (n0:=3) (Fn0 Tryz.func98 rfl (fun vs w=>by kernel_rfl) (by kernel_rfl)) (by simp) (by simp [AV.ids,aS]) wS (fun _ hB _ _=>hB) ?_
 have hpos:=(vE (s:=s) (sep:=[32]) (by decide)).1
 show Sym _ _ _ (qP [.ptr 0 0,aS s] 3 (qa [(0,chR c.secs 1 2),(1,qR c.cabins),(2,qc c.sold)])) fun e S=>e=.panic refusal/\S.d=[]/\Fin S .junk .junk 3 (qa [(0,chR c.secs 1 2),(1,qR c.cabins),(2,qc c.sold)]) 0
 have hx:∀ d,(l.map qM).getD 0 d=[.v (.string ⟨⟨[99,97,114]⟩⟩)]:=fun d=>by
  rw [hs] at hpos
  match l,h0,hpos with
  |w :: l,h0,_=>simp only [bC] at h0;subst h0;rfl
 rw [hs] at hpos
 have b0:(([99,97,114]:List UInt8) == [99,97,98,105,110])=false:=by decide
 have b1:(([99,97,114]:List UInt8) == [119,97,121])=false:=by decide
 have b2:(([99,97,114]:List UInt8) == [115,111,108,100])=false:=by decide
 have b3:(([99,97,114]:List UInt8) == [99,97,114])=true:=by decide
 have d1:decide ((l.length:Int)=1)=false:=decide_eq_false (by omega)
 ·repeat' first|(apply nx;with_reducible constructor)|apply uq (by decide)|refine vq ?_|refine vx ?_|(refine uk env 2 rfl rfl rfl (fun Q hQ=>?_);simp only [vkt,seval,zz];(try simp only [ite_and]);(repeat' first|with_reducible assumption|apply vz);all_goals (first|(refine ⟨_,_,rfl,hQ _ _ ?_⟩;clear hQ Q)|(apply ux;kernel_rfl)|omega|assumption|with_reducible rfl|skip))|((first|apply uz env|apply uj);intro Q hQ;simp only [vkt,seval,zz,aS,zx,qA,qR,qc,chR,hs,hl,hx,hpos,d1,b0,b1,b2,ite_and];(repeat' first|with_reducible assumption|apply vz|intro hp);all_goals first|(apply hQ;clear hQ Q)|(apply ux;kernel_rfl)|omega|assumption|with_reducible rfl|skip)
  (refine ⟨rfl,rfl, ?_⟩;refine Fin.ok (fun j=>[0,1,2][j]?)   [] ?_ ?_ ?_ ?_ ?_ rfl;all_goals (try simp only [vle,vkt,seval,qR,qc,chR]))
  all_goals first|rfl|(simp;done)|exact fun i hi=>(match i,hi with|0,_=>rfl|1,_=>rfl|2,_=>rfl)
theorem QbG (c:Chart) (s:List UInt8) (l:List (List UInt8)) (w0:List UInt8) (hs:spS s [32]=l) (h0:l.headD []=w0) (h1:w0 ≠ zA) (h2:w0 ≠ yK) (h3:w0 ≠ zW) (h4:w0 ≠ wX) (hl:s.length<=100000):FnX refusal (wQ TabT) Tryz.prog 98 [.ptr 0 0,aS s] (qa (qz 0 (zi c))) (qa (za 0 ((zi c).map some))):=by
 have env:=qB (A:=zS TabT) (kC wD (kC vw (kC Yn kN)))
 refine FnX.of (A:=zS TabT) (n0:=3) (Fn0 Tryz.func98 rfl (fun vs w=>by kernel_rfl) (by kernel_rfl)) (by simp) (by simp [AV.ids,aS]) wS (fun _ hB _ _=>hB) ?_
 have hpos:=(vE (s:=s) (sep:=[32]) (by decide)).1
 show Sym _ _ _ (qP [.ptr 0 0,aS s] 3 (qa [(0,chR c.secs 1 2),(1,qR c.cabins),(2,qc c.sold)])) fun e S=>e=.panic refusal/\S.d=[]/\Fin S .junk .junk 3 (qa [(0,chR c.secs 1 2),(1,qR c.cabins),(2,qc c.sold)]) 0
 have hx:∀ d,(l.map qM).getD 0 d=[.v (.string ⟨⟨w0⟩⟩)]:=fun d=>by
  rw [hs] at hpos
  match l,h0,hpos with
  |w :: l,h0,_=>simp only [bC] at h0;subst h0;rfl
 rw [hs] at hpos
 have b0:(w0 == [99,97,98,105,110])=false:=beq_eq_false_iff_ne.2 h1
 have b1:(w0 == [119,97,121])=false:=beq_eq_false_iff_ne.2 h2
 have b2:(w0 == [115,111,108,100])=false:=beq_eq_false_iff_ne.2 h3
 have b3:(w0 == [99,97,114])=false:=beq_eq_false_iff_ne.2 h4
 ·repeat' first|(apply nx;with_reducible constructor)|apply uq (by decide)|refine vq ?_|refine vx ?_|(refine uk env 2 rfl rfl rfl (fun Q hQ=>?_);simp only [vkt,seval,zz];(try simp only [ite_and]);(repeat' first|with_reducible assumption|apply vz);all_goals (first|(refine ⟨_,_,rfl,hQ _ _ ?_⟩;clear hQ Q)|(apply ux;kernel_rfl)|omega|assumption|with_reducible rfl|skip))|((first|apply uz env|apply uj);intro Q hQ;simp only [vkt,seval,zz,aS,zx,qA,qR,qc,chR,hs,hl,hx,hpos,b0,b1,b2,b3,ite_and];(repeat' first|with_reducible assumption|apply vz|intro hp);all_goals first|(apply hQ;clear hQ Q)|(apply ux;kernel_rfl)|omega|assumption|with_reducible rfl|skip)
  (refine ⟨rfl,rfl, ?_⟩;refine Fin.ok (fun j=>[0,1,2][j]?)   [] ?_ ?_ ?_ ?_ ?_ rfl;all_goals (try simp only [vle,vkt,seval,qR,qc,chR]))
  all_goals first|rfl|(simp;done)|exact fun i hi=>(match i,hi with|0,_=>rfl|1,_=>rfl|2,_=>rfl)
theorem tak_x (c:Chart) (s:List UInt8) (hl:s.length<=100000) (h:WT s=none):FnX refusal (wQ TabT) Tryz.prog 98 [.ptr 0 0,aS s] (qa (qz 0 (zi c))) (qa (za 0 ((zi c).map some))):=by
 have hit:=Zc (s:=s) (sep:=[32]) hl
 unfold WT RU at h
 obtain ⟨l,hs⟩:∃ l,spS s [32]=l:=⟨_,rfl⟩
 rw [hs] at h hit
 split at h
 ·rename_i h0
  by_cases h3:l.length=3
  ·match l,h3 with
   |[a,w1,w2],_ =>
    simp only [bC] at h0
    subst h0
    simp only [cbP] at h
    split at h
    ·rename_i h2
     exact UG c s w1 w2 hs (hit _ (by simp)) (by simpa using h) h2 hl
    ·rename_i h2
     exact Rj c s w1 w2 hs (fun e=>h2 (.inl e)) (fun e=>h2 (.inr e)) hl
  ·exact K4 c s l hs h0 h3 hl
 ·split at h
  ·rename_i h0
   by_cases h3:l.length=2
   ·match l,h3 with
    |[a,w1],_ =>
     simp only [bC] at h0
     subst h0
     exact QdM c s w1 hs (hit _ (by simp)) (by simpa [wyP] using h) hl
   ·exact Qbq c s l hs h0 h3 hl
  ·split at h
   ·rename_i h0
    exact Qbx c s l hs h0 (by simpa using h) hl
   ·split at h
    ·rename_i h0
     by_cases h3:l.length=1
     ·match l,h3 with
      |[a],_=>cases h
     ·exact QeM c s l hs h0 h3 hl
    ·exact QbG c s l _ hs rfl ‹_› ‹_› ‹_› ‹_› hl
def wG (c:Chart):Ln->Chart
 |.cabin x=>⟨c.cabins++[x],c.secs,c.sold⟩
 |.way n=>⟨c.cabins,n,c.sold⟩
 |.sold k=>⟨c.cabins,c.secs,c.sold++[k]⟩
 |.car=>c
def qU:Ln->Int
 |.cabin _=>0
 |.way _=>1
 |.sold _=>2
 |.car=>3
def wP (c:Chart):Ln->List (Option AObj)
 |.cabin x=>[some (chR c.secs 3 2),none,some (qc c.sold),some (qR (c.cabins++[x]))]
 |.way n=>[some (chR n 1 2),some (qR c.cabins),some (qc c.sold)]
 |.sold k=>[some (chR c.secs 1 3),some (qR c.cabins),none,some (qc (c.sold++[k]))]
 |.car=>[some (chR c.secs 1 2),some (qR c.cabins),some (qc c.sold)]
theorem QlC (c:Chart) (s:List UInt8) (x:Ln) (hl:s.length<=100000) (h:WT s=some x) (hc:c.cabins.length<=1000) (ht:c.sold.length<=1000):Fn (wQ TabT) Tryz.prog 98 [.ptr 0 0,aS s] (qa (qz 0 (zi c))) (aI (qU x)) (qa (za 0 (wP c x))) 0:=by
 have hit:=Zc (s:=s) (sep:=[32]) hl
 unfold WT RU at h
 obtain ⟨l,hs⟩:∃ l,spS s [32]=l:=⟨_,rfl⟩
 rw [hs] at h hit
 split at h
 ·rename_i h0
  unfold cbP at h
  split at h
  ·rename_i a w1 w2
   simp only [bC] at h0
   subst h0
   split at h
   ·rename_i h2
    obtain ⟨n,h1,rfl⟩:=aE.1 h
    exact KP c s w1 w2 n hs (hit _ (by simp)) h1 h2 hc hl
   ·cases h
  ·cases h
 ·split at h
  ·rename_i h0
   unfold wyP at h
   split at h
   ·rename_i a w1 _
    simp only [bC] at h0
    subst h0
    obtain ⟨n,h1,rfl⟩:=aE.1 h
    exact QbH c s w1 n hs (hit _ (by simp)) h1 hl
   ·cases h
  ·split at h
   ·rename_i h0
    obtain ⟨k,h1,rfl⟩:=aE.1 h
    exact Qal c s l k hs h0 h1 ht hl
   ·split at h
    ·rename_i h0
     unfold crP at h
     split at h
     ·simp only [bC] at h0
      subst h0
      cases h
      exact QaM c s hs hl
     ·cases h
    ·cases h
def QL (S:St):List AV->Option Pk
 |[.ptr c 0,.v (.string ⟨⟨s⟩⟩)]=>match S.h c with
  |some (.cells [.row i,.v (.int .i64 w),.row j])=>match S.h i with
   |some (.row _ _ cs)=>match S.h j with
    |some (.row _ _ ts)=>match WT s with
     |some x=>some { pre:=cs=(cs.map qp).map qo/\ts=(ts.map dTk).map eTk/\s.length<=100000/\cs.length<=1000/\ts.length<=1000,hs:=[c,i,j],ar:=[.ptr 0 0,.v (.string ⟨⟨s⟩⟩)],L0:=zi ⟨cs.map qp,w,ts.map dTk⟩,v:=aI (qU x),L1:=wP ⟨cs.map qp,w,ts.map dTk⟩ x }
     |none=>none
    |_=>none
   |_=>none
  |_=>none
 |_=>none
theorem eTak:qm (zS TabT) Tryz.prog 98 (fnE QL):=Qa2 fun S bs q h hp=>by
 unfold QL at h
 split at h
 ·split at h
  ·split at h
   ·split at h
    ·split at h
     ·rename_i x hx
      cases h
      obtain ⟨h1,h2,h3,h4,h5⟩:=hp
      exact QlC _ _ x h3 hx (by rw [aj];exact h4) (by rw [aj];exact h5)
     ·cases h
    ·cases h
   ·cases h
  ·cases h
 ·cases h
def Ym:QF:=fun S bs=>match bs with
 |[.ptr c 0,.v (.string ⟨⟨s⟩⟩)]=>match S.h c with
  |some (.cells [.row i,.v (.int .i64 w),.row j])=>match S.h i with
   |some (.row _ _ cs)=>match S.h j with
    |some (.row _ _ ts)=>some ({ pre:=cs=(cs.map qp).map qo/\ts=(ts.map dTk).map eTk/\s.length<=100000/\WT s=none,hs:=[c,i,j],ar:=[.ptr 0 0,.v (.string ⟨⟨s⟩⟩)],L0:=zi ⟨cs.map qp,w,ts.map dTk⟩,v:=.junk,L1:=(zi ⟨cs.map qp,w,ts.map dTk⟩).map some },refusal)
    |_=>none
   |_=>none
  |_=>none
 |_=>none
theorem QjB:XOK (zS TabT) Tryz.prog 98 Ym:=fun S bs q ch h hp=>by
 unfold Ym at h
 split at h
 ·split at h
  ·split at h
   ·split at h
    ·cases h
     obtain ⟨h1,h2,h3,h4⟩:=hp
     exact ⟨rfl,wQ TabT,fun _ _ _ _ _ _ _ h=>ZC h,tak_x _ _ h3 h4⟩
    ·cases h
   ·cases h
  ·cases h
 ·cases h
theorem Qfp:RetE Tryz.prog 97:=⟨fun vs w=>by kernel_rfl,fun w=>by
 refine callsDIn_of_wpSIn Tryz.func97 rfl trivial fun c₀ cs hu=>?_
 apply wpSIn_seq
 apply wpSIn_region
 simp [wpOpsSIn,go_sem,recoverD,hu,Tryz.ntmps97,Exit.thenS]
 apply wpSIn_seq
 apply wpSIn_region
 simp [wpOpsSIn,go_sem,Exit.thenS]
 refine wpSIn_cond (t:=false) (by simp [Act.eval,Array.replicate]) ?_
 simp only [bS,if_false]
 refine wpSIn_of_wpIn rfl (wpIn_skip ?_)
 cases c₀
 simp_all [bodyPostS,results,Tryz.results97,Ext.refl]⟩
set_option maxRecDepth 100000 in
theorem Qig:RecE Tryz.prog 97 refusal:=⟨fun vs w=>by kernel_rfl,fun w=>by
 refine callsDIn_of_wpSIn Tryz.func97 rfl trivial fun c₀ cs hu=>?_
 apply wpSIn_seq
 apply wpSIn_region
 simp [wpOpsSIn,go_sem,recoverD,hu,Tryz.ntmps97,Exit.thenS,refusal]
 apply wpSIn_seq
 apply wpSIn_region
 simp [wpOpsSIn,go_sem,Exit.thenS]
 refine wpSIn_cond (t:=true) (by simp [Act.eval,Array.replicate]) ?_
 simp only [if_true]
 have hta:∀ w,(Instr.typeAssert (.iface 182 (.agg #[])) 20 182 true).run Tryz.prog w=.ok (.tuple #[.agg #[],.bool true]) w:=fun w=>by kernel_rfl
 apply wpSIn_seq
 apply wpSIn_region
 simp [wpOpsSIn,go_sem,Exit.thenS,hta]
 apply wpSIn_seq
 apply wpSIn_region
 simp [wpOpsSIn,go_sem,Exit.thenS]
 refine wpSIn_cond (t:=false) (by simp [Act.eval,Array.replicate]) ?_
 simp only [bS,if_false]
 refine wpSIn_of_wpIn rfl (wpIn_skip ?_)
 simp [bodyPostS,results,Tryz.results97]
 have hb:Below w.heap.size w (w.alloc (Obj.cells #[] 182)):=(Below.refl _ w).alloc (aA _) _
 exact ⟨rfl,hb.os,hb.tape,hb.output,hb.size,fun k hk _=>hb.block k hk⟩⟩
def jY (st k:Int):Bool:=decide (k < st) || decide (st=3) || (decide (k=1) && !decide (st=0)) || (decide (1 < k) && decide (st=0))
def xc (c:Chart) (st:Int) (i:Nat) (s:List UInt8):Except Nat (Chart × Int):=match WT s with
 |none=>.error (i+1)
 |some x=>if jY st (qU x)=true then .error (i+1) else .ok (wG c x,qU x)
def zC (c:Chart) (st:Int) (i:Nat):List (List UInt8)->Except Nat (Chart × Int)
 |[]=>.ok (c,st)
 |s :: r=>match xc c st i s with
  |.error n=>.error n
  |.ok p=>zC p.1 p.2 (i+1) r
theorem xP:∀ (a b:List (List UInt8)) (c:Chart) (st:Int) (i:Nat),zC c st i (a++b)=match zC c st i a with
  |.error n=>.error n
  |.ok p=>zC p.1 p.2 (i+a.length) b
 |[],b,c,st,i=>rfl
 |s :: a,b,c,st,i=>by
  rw [aT,zC,zC]
  cases xc c st i s with
  |error n=>rfl
  |ok p =>
   dsimp only
   rw [xP a b p.1 p.2 (i+1),bf,show i+1+a.length=i+(a.length+1) by omega]
theorem Q3:∀ (a:List (List UInt8)) (c:Chart) (st:Int) (i:Nat) {c':Chart} {st':Int},zC c st i a=.ok (c',st')->c'.cabins.length<=c.cabins.length+a.length/\c'.sold.length<=c.sold.length+a.length
 |[],c,st,i,c',st',h=>by
  simp only [zC,Except.ok.injEq,Prod.mk.injEq] at h
  obtain ⟨rfl,rfl⟩:=h
  simp
 |s :: a,c,st,i,c',st',h=>by
  rw [zC] at h
  split at h
  ·cases h
  ·rename_i p hp
   have ih:=Q3 a p.1 p.2 (i+1) h
   have h1:p.1.cabins.length<=c.cabins.length+1/\p.1.sold.length<=c.sold.length+1:=by
    unfold xc at hp
    split at hp
    ·cases hp
    ·split at hp
     ·cases hp
     ·rename_i x _ _
      cases hp
      cases x <;> simp [wG]
   rw [bf]
   omega
theorem Qee (x:Ln):qU x=0\/qU x=1\/qU x=2\/qU x=3:=by
 cases x <;> simp [qU]
theorem XQ:∀ (a:List (List UInt8)) (c:Chart) (st:Int) (i:Nat) {c':Chart} {st':Int},(st=0\/st=1\/st=2\/st=3)->zC c st i a=.ok (c',st')->(st'=0\/st'=1\/st'=2\/st'=3)
 |[],c,st,i,c',st',h0,h=>by
  simp only [zC,Except.ok.injEq,Prod.mk.injEq] at h
  obtain ⟨rfl,rfl⟩:=h
  exact h0
 |s :: a,c,st,i,c',st',h0,h=>by
  rw [zC] at h
  split at h
  ·cases h
  ·rename_i p hp
   refine XQ a p.1 p.2 (i+1) ?_ h
   unfold xc at hp
   split at hp
   ·cases hp
   ·split at hp
    ·cases hp
    ·rename_i x _ _
     cases hp
     exact Qee x
def Wi (t:List UInt8):Except Nat Chart:=match zC ⟨[],0,[]⟩ 0 0 ((spS t [10]).take ((spS t [10]).length - 1)) with
 |.error n=>.error n
 |.ok p=>if p.2=3/\(spS t [10]).getD ((spS t [10]).length - 1) []=[] then .ok p.1 else .error (spS t [10]).length
def rdV:Except Nat Chart->AV
 |.ok c=>.tup [qh c,aI 0]
 |.error n=>.tup [.agg [.any,.any,.any],aI n]
def rdS (L R:List (List UInt8)) (m k:Nat) (c:Chart) (st:Int):St:={ t:=asg [(2,.ptr 0 0),(3,aI k),(4,qA L),(5,aI m),(6,aI st),(17,qA R),(18,aI R.length),(19,aI k)],h:=qa [(0,chR c.secs 1 2),(1,qR c.cabins),(2,qc c.sold)],n:=3,d:=[.call 97 []] }
theorem gStr (l:List (List UInt8)) (k:Nat) (d:List DV) (h:k < l.length):(l.map qM).getD k d=qM (l.getD k []):=by
 simp [ah,h]
theorem rStrs (l:List (List UInt8)):zn 1 (l.map qM):=by rw [RX];trivial
def qJ:=vz @ty3 (vz @ty9 (vz @jW (vz @QfW (vz @Qac (vz @ti3.eq_1 (vz @ti9.eq_1 (vz @jE.eq_1 (vz @Qaj.eq_1 @Yi.eq_1))))))))
def zy:=vz @aI.eq_1 (@aB.eq_1)
theorem QiG (t:List UInt8) (hl:t.length<=300):Fn (wQ TabT) Tryz.prog 48 [aS t] noH (rdV (Wi t)) noH 0:=by
 have env:Env (tabN TabT) Tryz.prog tyB (tab [(96,zU false zx),(98,fnE QL)]):=qB ⟨vw.anti QaS,eTak.anti QaS,trivial⟩
 refine Fn.ofE (A:=tabN TabT) (n0:=0) (D:=dE 97) (fr:=97) (ok:=fun ch=>ch=refusal) (Fn0 Tryz.func48 rfl (fun vs w=>by kernel_rfl) (by kernel_rfl)) (by rintro _ rfl;exact Qig) (by simp) (by simp [AV.ids,aS]) (fun i o h=>by cases h) (fun _ hB _ hr=>⟨hB,hr⟩) (dE_ok Qfp) ?_
 have hL:=vE (s:=t) (sep:=[10]) (by decide)
 have hit:=Zc (s:=t) (sep:=[10]) (by omega)
 unfold Wi
 obtain ⟨L,hLe⟩:∃ L,spS t [10]=L:=⟨_,rfl⟩
 rw [hLe] at hL hit ⊢
 obtain ⟨m,hm⟩:∃ m,L.length=m+1:=⟨L.length - 1,by omega⟩
 rw [hm,Nat.add_sub_cancel]
 have hl1:t.length<=100000:=by omega
 have e0:IntKind.wrap .i64 ((L.length:Int) - 1)=(m:Int):=by rw [hm,wrap64 (by omega) (by omega)];omega
 obtain ⟨R,hR⟩:∃ R,L.take m=R:=⟨_,rfl⟩
 have hRl:R.length=m:=by rw [<- hR,be];omega
 have hT:(L.map qM).take m=R.map qM:=by rw [<- hR,List.map_take]
 rw [hR]
 repeat' first|(apply nx;with_reducible constructor)|apply uq (by decide)|refine vq ?_|refine vx ?_
 (apply uz env;intro Q hQ;simp only [vkt,seval,qJ,aS,ite_and];(repeat' first|with_reducible assumption|apply vz|intro hp);all_goals first|(apply hQ;clear hQ Q)|(apply ux;kernel_rfl)|omega|assumption|with_reducible rfl|skip)
 repeat' first|(apply nx;with_reducible constructor)|apply uq (by decide)|refine vq ?_|refine vx ?_
 (apply uz env;intro Q hQ;simp only [vkt,seval,zx,qA,hLe,hl1,ite_and];(repeat' first|with_reducible assumption|apply vz|intro hp);all_goals first|(apply hQ;clear hQ Q)|(apply ux;kernel_rfl)|omega|assumption|with_reducible rfl|skip)
 repeat' first|(apply nx;with_reducible constructor)|apply uq (by decide)|refine vq ?_|refine vx ?_
 (apply uz env;intro Q hQ;simp only [vkt,seval,qJ,e0,ite_and];(repeat' first|with_reducible assumption|apply vz|intro hp);all_goals first|(apply hQ;clear hQ Q)|(apply ux;kernel_rfl)|omega|assumption|with_reducible rfl|skip)
 repeat' first|(apply nx;with_reducible constructor)|apply uq (by decide)|refine vq ?_|refine vx ?_
 (apply uz env;intro Q hQ;simp only [vkt,seval,ite_and];(repeat' first|with_reducible assumption|apply vz|intro hp);all_goals first|(apply hQ;clear hQ Q)|(apply ux;kernel_rfl)|omega|assumption|with_reducible rfl|skip)
 repeat' first|(apply nx;with_reducible constructor)|apply uq (by decide)|refine vq ?_|refine vx ?_
 refine VF Qll env rfl rfl rfl fun Q hQ=>?_
 simp only [List.dropLast]
 simp only [vkt,seval]
 repeat' first|with_reducible assumption|refine dR ?_ ?_|intro hp
 all_goals first|(refine hQ _ _ _ (by simp only [vkt,seval];rfl) ?_;clear hQ Q)|skip
 dsimp only [put]
 have hm0:(m:Int)<=(L.length:Int):=by omega
 have hm1:(0:Int)<=(m:Int):=by omega
 have hrw:=rStrs L
 repeat' first|(apply nx;with_reducible constructor)|apply uq (by decide)|refine vq ?_|refine vx ?_|(refine uk env 2 rfl rfl rfl (fun Q hQ=>?_);simp only [vkt,seval,qJ,zy,aS,zx,QL,Ym,qM,qA,qR,qc,chR,zi,qo,wR,rTk,eTk,qD,mTk,aj,aF,aq,rdS,qU,wG,wP,dE,hT,hm0,hm1,hrw,cn,List.drop_zero,Int.toNat_zero];(try simp only [ite_and]);(repeat' first|with_reducible assumption|apply vz);all_goals (first|(refine ⟨_,_,rfl,hQ _ _ ?_⟩;clear hQ Q)|(apply ux;kernel_rfl)|omega|assumption|with_reducible rfl|skip))|((first|apply uz env|apply uj);intro Q hQ;simp only [vkt,seval,qJ,hT,hm0,hm1,hrw,ite_and];(repeat' first|with_reducible assumption|apply vz|intro hp);all_goals first|(apply hQ;clear hQ Q)|(apply ux;kernel_rfl)|omega|assumption|with_reducible rfl|skip)
 refine qY (fun s:{ p:Nat × Chart × Int // p.1<=m/\zC ⟨[],0,[]⟩ 0 0 (R.take p.1)=.ok (p.2.1,p.2.2) }=>rdS L R m s.1.1 s.1.2.1 s.1.2.2) (fun s=>m - s.1.1) ⟨(0,⟨[],0,[]⟩,0),ap _,rfl⟩ ?_ fun ⟨⟨k,c,st⟩,hk,hg⟩=>?_
 ·simp only [rdS]
  (refine Le.ok (fun i=>if i=1 then none else if i=2 then none else some i) [] ?_;constructor;all_goals (try simp only [vle,vkt,seval,zy,qA,qR,qc,chR]))
  all_goals first|rfl|(simp;done)|exact ⟨rfl,trivial⟩|(simp [ADf.ids,AV.idsL];done)|(intro i hi;rw [if_neg (by omega)];done)
 simp only at hk hg ⊢
 have hsz:=Q3 _ _ _ _ hg
 have hst:=XQ _ _ _ _ (.inl rfl) hg
 have htl:(R.take k).length=k:=by rw [be];omega
 rw [htl] at hsz
 simp only [bK,bj] at hsz
 by_cases hlt:k < m
 ·have d1:decide ((k:Int) < (R.length:Int))=true:=decide_eq_true (by omega)
  have e9:=k9 k (by omega)
  have hkR:k < R.length:=by omega
  have hs1:(R.getD k []).length<=100000:=by
   have h1:R.getD k []=R[k]:=by simp [hkR]
   rw [h1]
   refine hit _ (bt (i:=m) ?_)
   rw [hR];exact bH _
  have hS:R.take (k+1)=R.take k++[R.getD k []]:=by
   rw [dQ,ai hkR]
   simp [hkR]
  have hx:∀ d,(R.map qM).getD k d=[.v (.string ⟨⟨R.getD k []⟩⟩)]:=fun d=>gStr R k d hkR
  generalize R.getD k []=s at hs1 hS hx
  have hnx:zC ⟨[],0,[]⟩ 0 0 (R.take (k+1))=match xc c st k s with
    |.error n=>.error n
    |.ok p=>.ok p:=by
   rw [hS,xP,hg]
   dsimp only
   rw [htl,bj,zC]
   cases xc c st k s <;> rfl
  have herr:∀ n,xc c st k s=.error n->rdV (match zC ⟨[],0,[]⟩ 0 0 R with
    |.error n=>.error n
    |.ok p=>if p.2=3/\L.getD m []=[] then .ok p.1 else .error (m+1))=.tup [.agg [.any,.any,.any],aI n]:=fun n hn=>by
   have h1:zC ⟨[],0,[]⟩ 0 0 R=.error n:=by
    have h2:=xP (R.take (k+1)) (R.drop (k+1)) ⟨[],0,[]⟩ 0 0
    rw [List.take_append_drop,hnx,hn] at h2
    exact h2
   rw [h1];rfl
  have c1:c.cabins.length<=1000:=by omega
  have c2:c.sold.length<=1000:=by omega
  obtain ⟨cabs,secs,sold⟩:=c
  dsimp only at c1 c2
  simp only [rdS]
  cases hln:WT s with
  |none =>
   have he:xc ⟨cabs,secs,sold⟩ st k s=.error (k+1):=by simp only [xc,hln]
   rw [herr _ he]
   repeat' first|(apply nx;with_reducible constructor)|apply uq (by decide)|refine vq ?_|refine vx ?_|(refine uk env 2 rfl rfl rfl (fun Q hQ=>?_);simp only [vkt,seval,qJ,zy,aS,zx,QL,Ym,qM,qA,qR,qc,chR,zi,qo,wR,rTk,eTk,qD,mTk,aj,aF,aq,rdS,qU,wG,wP,dE, d1,e9,hx,hs1,hln,c1,c2];(try simp only [ite_and]);(repeat' first|with_reducible assumption|apply vz);all_goals (first|(refine ⟨_,_,rfl,hQ _ _ ?_⟩;clear hQ Q)|(apply ux;kernel_rfl)|omega|assumption|with_reducible rfl|skip))|(refine uw env (QjB.anti QaS) 1 rfl rfl (fun Q hQ=>?_);simp only [yf,vkt,seval,Ym,qR,qc,chR,zi,qD,mTk,hs1,hln];(try simp only [ite_and]);(repeat' first|with_reducible assumption|apply vz|intro hp);all_goals (first|(refine hQ _ _ _ ?_;clear hQ Q)|(apply ux;kernel_rfl)|omega|assumption|(with_reducible rfl)))|((first|apply uz env|apply uj);intro Q hQ;simp only [vkt,seval,qJ,zy,qA,qR,qc,chR,d1,e9,hx,ite_and];(repeat' first|with_reducible assumption|apply vz|intro hp);all_goals first|(apply hQ;clear hQ Q)|(apply ux;kernel_rfl)|omega|assumption|with_reducible rfl|skip)
   refine ⟨rfl,rfl, ?_⟩
   (simp only [vrt,Tryz.results48,vkt,seval,qJ,zy];refine Fin.val rfl ?_;(try simp only [AV.le,AV.leL]))
   all_goals first|rfl|exact ⟨⟨rfl,rfl,rfl,trivial⟩,trivial,trivial⟩|(simp;done)
  |some x =>
   by_cases hb:jY st (qU x)=true
   ·have he:xc ⟨cabs,secs,sold⟩ st k s=.error (k+1):=by simp only [xc,hln];rw [if_pos hb]
    rw [herr _ he]
    rcases hst with rfl|rfl|rfl|rfl <;> cases x <;> first|(exfalso;simp [jY,qU] at hb;done)|skip
    all_goals
     repeat' first|(apply nx;with_reducible constructor)|apply uq (by decide)|refine vq ?_|refine vx ?_|(refine uk env 2 rfl rfl rfl (fun Q hQ=>?_);simp only [vkt,seval,qJ];(try simp only [ite_and]);(repeat' first|with_reducible assumption|apply vz);all_goals (first|(refine ⟨_,_,rfl,hQ _ _ ?_⟩;clear hQ Q)|(apply ux;kernel_rfl)|omega|assumption|with_reducible rfl|skip))|((first|apply uz env|apply uj);intro Q hQ;simp only [vkt,seval,qJ,zy,QL,qA,qR,qc,chR,zi,qo,eTk,qD,mTk,aq,qU,wP,d1,e9,hx,hs1,hln,c1,c2,ite_and];(repeat' first|with_reducible assumption|apply vz|intro hp);all_goals first|(apply hQ;clear hQ Q)|(apply ux;kernel_rfl)|omega|assumption|with_reducible rfl|skip)
     refine ⟨rfl,rfl, ?_⟩
     (simp only [vrt,Tryz.results48,vkt,seval,qJ,zy];refine Fin.val rfl ?_;(try simp only [AV.le,AV.leL]))
     all_goals first|rfl|exact ⟨⟨rfl,rfl,rfl,trivial⟩,trivial,trivial⟩|(simp;done)
   ·have he:xc ⟨cabs,secs,sold⟩ st k s=.ok (wG ⟨cabs,secs,sold⟩ x,qU x):=by simp only [xc,hln];rw [if_neg hb]
    rw [he] at hnx
    dsimp only at hnx
    rcases hst with rfl|rfl|rfl|rfl
    ·cases x with
     |cabin xx =>
      repeat' first|(apply nx;with_reducible constructor)|apply uq (by decide)|refine vq ?_|refine vx ?_|(refine uk env 2 rfl rfl rfl (fun Q hQ=>?_);simp only [vkt,seval,qJ,zy,aS,zx,QL,Ym,qM,qA,qR,qc,chR,zi,qo,wR,rTk,eTk,qD,mTk,aj,aF,aq,rdS,qU,wG,wP,dE,d1,e9,hx,hs1,hln,c1,c2];(try simp only [ite_and]);(repeat' first|with_reducible assumption|apply vz);all_goals (first|(refine ⟨_,_,rfl,hQ _ _ ?_⟩;clear hQ Q)|(apply ux;kernel_rfl)|omega|assumption|with_reducible rfl|skip))|((first|apply uz env|apply uj);intro Q hQ;simp only [vkt,seval,qJ,zy,QL,qA,qR,qc,chR,zi,qo,qD,mTk,aq,qU,wP,d1,e9,hx,hs1,hln,c1,c2,ite_and];(repeat' first|with_reducible assumption|apply vz|intro hp);all_goals first|(apply hQ;clear hQ Q)|(apply ux;kernel_rfl)|omega|assumption|with_reducible rfl|skip)
      refine ⟨⟨(k+1,wG ⟨cabs,secs,sold⟩ (.cabin xx),qU (.cabin xx)),hlt,hnx⟩,by show m - (k+1) < m - k;omega, ?_⟩
      (refine Le.ok (fun i=>if i=1 then some 3 else some i) [] ?_;constructor;all_goals (try simp only [vle,vkt,seval,zy,qA,qR,qc,chR,qo,aq,qU,wG]))
      all_goals first|rfl|(simp;done)|exact ⟨rfl,trivial⟩|(simp [ADf.ids,AV.idsL];done)|(intro i hi;rw [if_neg (by omega)];done)
     |way xx =>
      repeat' first|(apply nx;with_reducible constructor)|apply uq (by decide)|refine vq ?_|refine vx ?_|(refine uk env 2 rfl rfl rfl (fun Q hQ=>?_);simp only [vkt,seval,qJ,zy,aS,zx,QL,Ym,qM,qA,qR,qc,chR,zi,qo,wR,rTk,eTk,qD,mTk,aj,aF,aq,rdS,qU,wG,wP,dE,d1,e9,hx,hs1,hln,c1,c2];(try simp only [ite_and]);(repeat' first|with_reducible assumption|apply vz);all_goals (first|(refine ⟨_,_,rfl,hQ _ _ ?_⟩;clear hQ Q)|(apply ux;kernel_rfl)|omega|assumption|with_reducible rfl|skip))|((first|apply uz env|apply uj);intro Q hQ;simp only [vkt,seval,qJ,zy,QL,qA,qR,qc,chR,zi,qD,mTk,qU,wP,d1,e9,hx,hs1,hln,c1,c2,ite_and];(repeat' first|with_reducible assumption|apply vz|intro hp);all_goals first|(apply hQ;clear hQ Q)|(apply ux;kernel_rfl)|omega|assumption|with_reducible rfl|skip)
      refine ⟨⟨(k+1,wG ⟨cabs,secs,sold⟩ (.way xx),qU (.way xx)),hlt,hnx⟩,by show m - (k+1) < m - k;omega, ?_⟩
      (refine Le.ok some [] ?_;constructor;all_goals (try simp only [vle,vkt,seval,zy,qA,qR,qc,chR,qU,wG]))
      all_goals first|rfl|(simp;done)|exact ⟨rfl,trivial⟩|(simp [ADf.ids,AV.idsL];done)|(intro i hi;rw [if_neg (by omega)];done)
     |sold xx =>
      simp [jY,qU] at hb
     |car =>
      simp [jY,qU] at hb
    ·cases x with
     |cabin xx =>
      simp [jY,qU] at hb
     |way xx =>
      simp [jY,qU] at hb
     |sold xx =>
      repeat' first|(apply nx;with_reducible constructor)|apply uq (by decide)|refine vq ?_|refine vx ?_|(refine uk env 2 rfl rfl rfl (fun Q hQ=>?_);simp only [vkt,seval,qJ,zy,aS,zx,QL,Ym,qM,qA,qR,qc,chR,zi,qo,wR,rTk,eTk,qD,mTk,aj,aF,aq,rdS,qU,wG,wP,dE,d1,e9,hx,hs1,hln,c1,c2];(try simp only [ite_and]);(repeat' first|with_reducible assumption|apply vz);all_goals (first|(refine ⟨_,_,rfl,hQ _ _ ?_⟩;clear hQ Q)|(apply ux;kernel_rfl)|omega|assumption|with_reducible rfl|skip))|((first|apply uz env|apply uj);intro Q hQ;simp only [vkt,seval,qJ,zy,QL,qA,qR,qc,chR,zi,eTk,qD,mTk,aq,qU,wP,d1,e9,hx,hs1,hln,c1,c2,ite_and];(repeat' first|with_reducible assumption|apply vz|intro hp);all_goals first|(apply hQ;clear hQ Q)|(apply ux;kernel_rfl)|omega|assumption|with_reducible rfl|skip)
      refine ⟨⟨(k+1,wG ⟨cabs,secs,sold⟩ (.sold xx),qU (.sold xx)),hlt,hnx⟩,by show m - (k+1) < m - k;omega, ?_⟩
      (refine Le.ok (fun i=>if i=2 then some 3 else some i) [] ?_;constructor;all_goals (try simp only [vle,vkt,seval,zy,qA,qR,qc,chR,eTk,aq,qU,wG]))
      all_goals first|rfl|(simp;done)|exact ⟨rfl,trivial⟩|(simp [ADf.ids,AV.idsL];done)|(intro i hi;rw [if_neg (by omega)];done)
     |car =>
      repeat' first|(apply nx;with_reducible constructor)|apply uq (by decide)|refine vq ?_|refine vx ?_|(refine uk env 2 rfl rfl rfl (fun Q hQ=>?_);simp only [vkt,seval,qJ,zy,aS,zx,QL,Ym,qM,qA,qR,qc,chR,zi,qo,wR,rTk,eTk,qD,mTk,aj,aF,aq,rdS,qU,wG,wP,dE,d1,e9,hx,hs1,hln,c1,c2];(try simp only [ite_and]);(repeat' first|with_reducible assumption|apply vz);all_goals (first|(refine ⟨_,_,rfl,hQ _ _ ?_⟩;clear hQ Q)|(apply ux;kernel_rfl)|omega|assumption|with_reducible rfl|skip))|((first|apply uz env|apply uj);intro Q hQ;simp only [vkt,seval,qJ,zy,QL,qA,qR,qc,chR,zi,qD,mTk,qU,wP,d1,e9,hx,hs1,hln,c1,c2,ite_and];(repeat' first|with_reducible assumption|apply vz|intro hp);all_goals first|(apply hQ;clear hQ Q)|(apply ux;kernel_rfl)|omega|assumption|with_reducible rfl|skip)
      refine ⟨⟨(k+1,wG ⟨cabs,secs,sold⟩ .car,qU .car),hlt,hnx⟩,by show m - (k+1) < m - k;omega, ?_⟩
      (refine Le.ok some [] ?_;constructor;all_goals (try simp only [vle,vkt,seval,zy,qA,qR,qc,chR,qU,wG]))
      all_goals first|rfl|(simp;done)|exact ⟨rfl,trivial⟩|(simp [ADf.ids,AV.idsL];done)|(intro i hi;rw [if_neg (by omega)];done)
    ·cases x with
     |cabin xx =>
      simp [jY,qU] at hb
     |way xx =>
      simp [jY,qU] at hb
     |sold xx =>
      repeat' first|(apply nx;with_reducible constructor)|apply uq (by decide)|refine vq ?_|refine vx ?_|(refine uk env 2 rfl rfl rfl (fun Q hQ=>?_);simp only [vkt,seval,qJ,zy,aS,zx,QL,Ym,qM,qA,qR,qc,chR,zi,qo,wR,rTk,eTk,qD,mTk,aj,aF,aq,rdS,qU,wG,wP,dE,d1,e9,hx,hs1,hln,c1,c2];(try simp only [ite_and]);(repeat' first|with_reducible assumption|apply vz);all_goals (first|(refine ⟨_,_,rfl,hQ _ _ ?_⟩;clear hQ Q)|(apply ux;kernel_rfl)|omega|assumption|with_reducible rfl|skip))|((first|apply uz env|apply uj);intro Q hQ;simp only [vkt,seval,qJ,zy,QL,qA,qR,qc,chR,zi,eTk,qD,mTk,aq,qU,wP,d1,e9,hx,hs1,hln,c1,c2,ite_and];(repeat' first|with_reducible assumption|apply vz|intro hp);all_goals first|(apply hQ;clear hQ Q)|(apply ux;kernel_rfl)|omega|assumption|with_reducible rfl|skip)
      refine ⟨⟨(k+1,wG ⟨cabs,secs,sold⟩ (.sold xx),qU (.sold xx)),hlt,hnx⟩,by show m - (k+1) < m - k;omega, ?_⟩
      (refine Le.ok (fun i=>if i=2 then some 3 else some i) [] ?_;constructor;all_goals (try simp only [vle,vkt,seval,zy,qA,qR,qc,chR,eTk,aq,qU,wG]))
      all_goals first|rfl|(simp;done)|exact ⟨rfl,trivial⟩|(simp [ADf.ids,AV.idsL];done)|(intro i hi;rw [if_neg (by omega)];done)
     |car =>
      repeat' first|(apply nx;with_reducible constructor)|apply uq (by decide)|refine vq ?_|refine vx ?_|(refine uk env 2 rfl rfl rfl (fun Q hQ=>?_);simp only [vkt,seval,qJ,zy,aS,zx,QL,Ym,qM,qA,qR,qc,chR,zi,qo,wR,rTk,eTk,qD,mTk,aj,aF,aq,rdS,qU,wG,wP,dE,d1,e9,hx,hs1,hln,c1,c2];(try simp only [ite_and]);(repeat' first|with_reducible assumption|apply vz);all_goals (first|(refine ⟨_,_,rfl,hQ _ _ ?_⟩;clear hQ Q)|(apply ux;kernel_rfl)|omega|assumption|with_reducible rfl|skip))|((first|apply uz env|apply uj);intro Q hQ;simp only [vkt,seval,qJ,zy,QL,qA,qR,qc,chR,zi,qD,mTk,qU,wP,d1,e9,hx,hs1,hln,c1,c2,ite_and];(repeat' first|with_reducible assumption|apply vz|intro hp);all_goals first|(apply hQ;clear hQ Q)|(apply ux;kernel_rfl)|omega|assumption|with_reducible rfl|skip)
      refine ⟨⟨(k+1,wG ⟨cabs,secs,sold⟩ .car,qU .car),hlt,hnx⟩,by show m - (k+1) < m - k;omega, ?_⟩
      (refine Le.ok some [] ?_;constructor;all_goals (try simp only [vle,vkt,seval,zy,qA,qR,qc,chR,qU,wG]))
      all_goals first|rfl|(simp;done)|exact ⟨rfl,trivial⟩|(simp [ADf.ids,AV.idsL];done)|(intro i hi;rw [if_neg (by omega)];done)
    ·cases x with
     |cabin xx =>
      simp [jY,qU] at hb
     |way xx =>
      simp [jY,qU] at hb
     |sold xx =>
      simp [jY,qU] at hb
     |car =>
      simp [jY,qU] at hb
 ·have d1:decide ((k:Int) < (R.length:Int))=false:=decide_eq_false (by omega)
  obtain rfl:k=m:=by omega
  have hg2:R.take k=R:=bJ (by omega)
  rw [hg2] at hg
  rw [hg]
  dsimp only
  have e5:=k9 k (by omega)
  have hy:∀ d,(L.map qM).getD k d=[.v (.string ⟨⟨L.getD k []⟩⟩)]:=fun d=>gStr L k d (by omega)
  have hkL:k < L.length:=by omega
  generalize L.getD k []=z at hy
  obtain ⟨cabs,secs,sold⟩:=c
  simp only [rdS]
  rcases hst with rfl|rfl|rfl|rfl
  ·rw [if_neg (by simp)]
   repeat' first|(apply nx;with_reducible constructor)|apply uq (by decide)|refine vq ?_|refine vx ?_|(refine uk env 2 rfl rfl rfl (fun Q hQ=>?_);simp only [vkt,seval,qJ];(try simp only [ite_and]);(repeat' first|with_reducible assumption|apply vz);all_goals (first|(refine ⟨_,_,rfl,hQ _ _ ?_⟩;clear hQ Q)|(apply ux;kernel_rfl)|omega|assumption|with_reducible rfl|skip))|((first|apply uz env|apply uj);intro Q hQ;simp only [vkt,seval,qJ,zy,qA,qR,qc,chR,d1,e5,ite_and];(repeat' first|with_reducible assumption|apply vz|intro hp);all_goals first|(apply hQ;clear hQ Q)|(apply ux;kernel_rfl)|omega|assumption|with_reducible rfl|skip)
   refine ⟨rfl,rfl, ?_⟩
   simp only [rdV]
   (simp only [vrt,Tryz.results48,vkt,seval,qJ,zy];refine Fin.val rfl ?_;(try simp only [AV.le,AV.leL]))
   all_goals first|rfl|exact ⟨⟨rfl,rfl,rfl,trivial⟩,trivial,trivial⟩|(simp;done)
  ·rw [if_neg (by simp)]
   repeat' first|(apply nx;with_reducible constructor)|apply uq (by decide)|refine vq ?_|refine vx ?_|(refine uk env 2 rfl rfl rfl (fun Q hQ=>?_);simp only [vkt,seval,qJ];(try simp only [ite_and]);(repeat' first|with_reducible assumption|apply vz);all_goals (first|(refine ⟨_,_,rfl,hQ _ _ ?_⟩;clear hQ Q)|(apply ux;kernel_rfl)|omega|assumption|with_reducible rfl|skip))|((first|apply uz env|apply uj);intro Q hQ;simp only [vkt,seval,qJ,zy,qA,qR,qc,chR,d1,e5,ite_and];(repeat' first|with_reducible assumption|apply vz|intro hp);all_goals first|(apply hQ;clear hQ Q)|(apply ux;kernel_rfl)|omega|assumption|with_reducible rfl|skip)
   refine ⟨rfl,rfl, ?_⟩
   simp only [rdV]
   (simp only [vrt,Tryz.results48,vkt,seval,qJ,zy];refine Fin.val rfl ?_;(try simp only [AV.le,AV.leL]))
   all_goals first|rfl|exact ⟨⟨rfl,rfl,rfl,trivial⟩,trivial,trivial⟩|(simp;done)
  ·rw [if_neg (by simp)]
   repeat' first|(apply nx;with_reducible constructor)|apply uq (by decide)|refine vq ?_|refine vx ?_|(refine uk env 2 rfl rfl rfl (fun Q hQ=>?_);simp only [vkt,seval,qJ];(try simp only [ite_and]);(repeat' first|with_reducible assumption|apply vz);all_goals (first|(refine ⟨_,_,rfl,hQ _ _ ?_⟩;clear hQ Q)|(apply ux;kernel_rfl)|omega|assumption|with_reducible rfl|skip))|((first|apply uz env|apply uj);intro Q hQ;simp only [vkt,seval,qJ,zy,qA,qR,qc,chR,d1,e5,ite_and];(repeat' first|with_reducible assumption|apply vz|intro hp);all_goals first|(apply hQ;clear hQ Q)|(apply ux;kernel_rfl)|omega|assumption|with_reducible rfl|skip)
   refine ⟨rfl,rfl, ?_⟩
   simp only [rdV]
   (simp only [vrt,Tryz.results48,vkt,seval,qJ,zy];refine Fin.val rfl ?_;(try simp only [AV.le,AV.leL]))
   all_goals first|rfl|exact ⟨⟨rfl,rfl,rfl,trivial⟩,trivial,trivial⟩|(simp;done)
  ·by_cases hz:z=[]
   ·have b1:(z == [])=true:=by simp [hz]
    rw [if_pos ⟨rfl,hz⟩]
    repeat' first|(apply nx;with_reducible constructor)|apply uq (by decide)|refine vq ?_|refine vx ?_|(refine uk env 2 rfl rfl rfl (fun Q hQ=>?_);simp only [vkt,seval,qJ,zy,aS,zx,QL,Ym,qM,qA,qR,qc,chR,zi,qo,wR,rTk,eTk,qD,mTk,aj,aF,aq,rdS,qU,wG,wP,dE,d1,e5,hy,hkL,b1];(try simp only [ite_and]);(repeat' first|with_reducible assumption|apply vz);all_goals (first|(refine ⟨_,_,rfl,hQ _ _ ?_⟩;clear hQ Q)|(apply ux;kernel_rfl)|omega|assumption|with_reducible rfl|skip))|((first|apply uz env|apply uj);intro Q hQ;simp only [vkt,seval,qJ,zy,qA,qR,qc,chR,d1,e5,hy,hkL,b1,ite_and];(repeat' first|with_reducible assumption|apply vz|intro hp);all_goals first|(apply hQ;clear hQ Q)|(apply ux;kernel_rfl)|omega|assumption|with_reducible rfl|skip)
    simp only [rdV,retR]
    simp only [vrt,Tryz.results48,dE,vkt,seval,qJ,zy,dE]
    refine Fin.val rfl ?_
    simp only [AV.le,AV.leL,qh,qd,vkt,seval]
    exact ⟨⟨_,_,rfl⟩,_,_,rfl⟩
   ·have b1:(z == [])=false:=by simp [hz]
    rw [if_neg (by simp [hz])]
    repeat' first|(apply nx;with_reducible constructor)|apply uq (by decide)|refine vq ?_|refine vx ?_|(refine uk env 2 rfl rfl rfl (fun Q hQ=>?_);simp only [vkt,seval,qJ];(try simp only [ite_and]);(repeat' first|with_reducible assumption|apply vz);all_goals (first|(refine ⟨_,_,rfl,hQ _ _ ?_⟩;clear hQ Q)|(apply ux;kernel_rfl)|omega|assumption|with_reducible rfl|skip))|((first|apply uz env|apply uj);intro Q hQ;simp only [vkt,seval,qJ,zy,qA,qR,qc,chR,d1,e5,hy,hkL,b1,ite_and];(repeat' first|with_reducible assumption|apply vz|intro hp);all_goals first|(apply hQ;clear hQ Q)|(apply ux;kernel_rfl)|omega|assumption|with_reducible rfl|skip)
    refine ⟨rfl,rfl, ?_⟩
    simp only [rdV]
    (simp only [vrt,Tryz.results48,vkt,seval,qJ,zy];refine Fin.val rfl ?_;(try simp only [AV.le,AV.leL]))
    all_goals first|rfl|exact ⟨⟨rfl,rfl,rfl,trivial⟩,trivial,trivial⟩|(simp;done)
end Go.Sym.B
namespace Go.Sym.B
open Go Go.Sym Go.Proofs Go.Sym.C
def V5 (x:Int):List UInt8:=if x=2 then [109] else [119]
def Kw (x:Cabin):List UInt8:=Lib.join [[99,97,98,105,110],qX x.beds,if x.door then [100] else [115]] [32]
def Ye (n:Int):List UInt8:=Lib.join [[119,97,121],qX n] [32]
def tkS (t:Tk):List UInt8:=Lib.join ([[115,111,108,100],qX t.party,V5 t.sex,qX t.cab++[46]++qX t.bed,qX t.frm++[62]++qX t.to]++if t.dog then [[43]] else []) [32]
def Ze (c:Chart) (k:Nat):List (List UInt8):=(c.cabins.take k).map Kw
def kw (c:Chart) (k:Nat):List (List UInt8):=Ze c c.cabins.length++[Ye c.secs]++(c.sold.take k).map tkS
def vB (c:Chart):List UInt8 × Int:=if zo c=0 then (Lib.join (kw c c.sold.length++[[99,97,114]]) [10]++[10],0) else ([],zo c)
theorem QeO (c:Chart) {k:Nat} (h:k < c.cabins.length):Ze c (k+1)=Ze c k++[Kw (c.cabins.getD k default)]:=by
 unfold Ze
 rw [dQ,ai h,aq]
 simp [ah,h]
theorem QdE (c:Chart) {k:Nat} (h:k < c.sold.length):kw c (k+1)=kw c k++[tkS (c.sold.getD k default)]:=by
 unfold kw
 rw [dQ,ai h,aq]
 simp [ah,h]
theorem R9 (c:Chart) {k:Nat} (h:k<=c.cabins.length):(Ze c k).length=k:=by simp [Ze];omega
theorem Va (c:Chart) {k:Nat} (h:k<=c.sold.length):(kw c k).length=c.cabins.length+1+k:=by simp [kw,Ze];omega
theorem Qh0 (sep:List UInt8) (m:Nat):∀ l:List (List UInt8),(∀ x ∈ l,x.length<=m)->(Lib.joinTail sep l).length<=l.length * (m+sep.length)
 |[],_=>by simp [Lib.joinTail]
 |x :: l,h=>by
  have h1:=Qh0 sep m l fun y hy=>h y (.tail _ hy)
  have h2:=h x (.head _)
  have e:Lib.joinTail sep (x :: l)=sep++x++Lib.joinTail sep l:=by simp [Lib.joinTail]
  rw [e,aF,aF,bf,cF]
  omega
theorem RA {l:List (List UInt8)} {sep:List UInt8} {m:Nat} (h:∀ x ∈ l,x.length<=m):(Lib.join l sep).length<=l.length * (m+sep.length):=by
 match l,h with
 |[],_=>rw [Lib.join_nil];exact ap _
 |x :: l,h =>
  have h1:=Qh0 sep m l fun y hy=>h y (.tail _ hy)
  have h2:=h x (.head _)
  rw [Lib.join_cons,aF,bf,cF]
  omega
theorem UK (x:Cabin):(Kw x).length<=100:=by
 have:=yn x.beds
 refine aN (RA (m:=5) fun y hy=>?_) (by simp)
 simp at hy
 rcases hy with rfl|rfl|rfl
 ·decide
 ·omega
 ·split <;> decide
theorem XM (n:Int):(Ye n).length<=100:=by
 have:=yn n
 refine aN (RA (m:=5) fun y hy=>?_) (by simp)
 simp at hy
 rcases hy with rfl|rfl
 ·decide
 ·omega
theorem QcZ (t:Tk):(tkS t).length<=100:=by
 have h1:=yn t.party
 have h2:=yn t.cab
 have h3:=yn t.bed
 have h4:=yn t.frm
 have h5:=yn t.to
 have h6:(V5 t.sex).length=1:=by unfold V5;split <;> rfl
 unfold tkS
 refine aN (RA (m:=5) fun y hy=>?_) ?_
 ·rw [aw] at hy
  rcases hy with hy|hy
  ·simp at hy
   rcases hy with rfl|rfl|rfl|rfl|rfl
   ·decide
   ·omega
   ·omega
   ·simp;omega
   ·simp;omega
  ·split at hy
   ·simp at hy;subst hy;decide
   ·cases hy
 ·rw [aF]
  split <;> simp
theorem Qh4 (c:Chart) (h1:c.cabins.length<=3) (h2:c.sold.length<=8):(Lib.join (kw c c.sold.length++[[99,97,114]]) [10]).length<=10000:=by
 refine aN (RA (m:=100) fun y hy=>?_) ?_
 ·unfold kw Ze at hy
  simp only [aw,am,aO] at hy
  rcases hy with ((⟨x,_,rfl⟩|rfl)|⟨t,_,rfl⟩)|rfl
  ·exact UK _
  ·exact XM _
  ·exact QcZ _
  ·decide
 ·rw [aF,Va c (aA _)]
  simp
  omega
def wr1 (c:Chart) (k:Nat):St:={ t:=asg [(1,.ptr 0 0),(5,.row 1),(18,wH c.cabins),(19,aI c.cabins.length),(20,aI k)],h:=qa [(0,.cells (qd c)),(1,.row 9 1 ((Ze c k).map qM))],n:=2 }
def wr2 (c:Chart) (k:Nat):St:={ t:=asg [(1,.ptr 0 0),(5,.row 1),(45,qy c.sold),(46,aI c.sold.length),(47,aI k)],h:=qa [(0,.cells (qd c)),(1,.row 9 1 ((kw c k).map qM))],n:=2 }
def wZ:=vz @ty3 (vz @ty4 (vz @ty9 (vz @JH (vz @xW (vz @jW (vz @QfW (vz @Zq (vz @xy (vz @JI (vz @yc (vz @ti3.eq_1 (vz @ti4.eq_1 (vz @ti9.eq_1 (vz @ZW.eq_1 (vz @vW.eq_1 (vz @jE.eq_1 (vz @Qaj.eq_1 (vz @kY.eq_1 (vz @yY.eq_1 (vz @Z5.eq_1 @jM.eq_1))))))))))))))))))))
def jd:=vz @aI.eq_1 (vz @aB.eq_1 (vz @qx.eq_1 (@zG.eq_1)))
set_option maxRecDepth 100000 in
theorem Qgy (c:Chart) (hc:c.cabins.length<=maxLen):FnV Tryz.prog 11 [qh c] (.tup [aS (vB c).1,aI (vB c).2]):=by
 have env:=qB (A:=fun _=>True) (kC JF (kC Qka (kC Qkf (kC Qk5 (kC epair kN)))))
 refine kV (Fn0 Tryz.func11 rfl (fun vs w=>by kernel_rfl) (by kernel_rfl)) (by simp) (by simp [AV.ids,AV.idsL,qh,qd]) ?_
 have ec:(⟨c.cabins,c.secs,c.sold⟩:Chart)=c:=rfl
 have hmx:(100000:Nat)<=maxLen:=by decide
 obtain ⟨e,he⟩:∃ e,zo c=e:=⟨_,rfl⟩
 by_cases h0:e=0
 ·rw [h0] at he
  have hv:=kU he
  have hc3:=hv.car.cabs.2
  have hs8:=hv.many
  have hsec:=hv.car.secs
  have hjl:=Qh4 c hc3 hs8
  have hE:vB c=(Lib.join (kw c c.sold.length++[[99,97,114]]) [10]++[10],0):=by unfold vB;rw [if_pos he]
  rw [hE]
  repeat' first|(apply nx;with_reducible constructor)|apply uq (by decide)|((first|apply uz env|apply uj);intro Q hQ;simp only [vkt,seval,wZ,jd,qh,qd,qD,mTk,yB,ec,he,decide_true,ite_and];(repeat' first|with_reducible assumption|apply vz|intro hp);all_goals first|(apply hQ;clear hQ Q)|(apply ux;kernel_rfl)|omega|assumption|with_reducible rfl|skip)
  refine qY (fun s:{ s:Nat // s<=c.cabins.length }=>wr1 c s.1) (fun s=>c.cabins.length - s.1) ⟨0,ap _⟩ ?_ fun ⟨k,hk⟩=>?_
  ·simp only [wr1,show Ze c 0=[] from rfl]
   (refine Le.ok (fun i=>if i=1 then none else some i) [] ?_;constructor;all_goals (try simp only [vle,vkt,seval,jd,wH,qd]))
   all_goals first|rfl|simp
  simp only at hk ⊢
  by_cases hlt:k < c.cabins.length
  ·have d1:decide ((k:Int) < (c.cabins.length:Int))=true:=decide_eq_true (by omega)
   have e9:=k9 k (by omega)
   have hS:=QeO c hlt
   have hl:=R9 c hk
   have hx:=wF c.cabins k
   have hx':=QhF hlt
   have hb:=hv.car.beds _ (yX (d:=default) hlt)
   obtain ⟨K,hK⟩:∃ K,Ze c k=K:=⟨_,rfl⟩
   rw [hK] at hS hl
   simp only [wr1,hK]
   generalize c.cabins.getD k default=x at hx hx' hb hS
   obtain ⟨b,d⟩:=x
   dsimp only at hb
   have hb1:0<=b:=by omega
   have hb2:b < 100:=by omega
   have hm:K.length+1<=maxLen:=by omega
   have hj:=UK ⟨b,d⟩
   cases d
   ·have hc0:Kw ⟨b,false⟩=Lib.join [[99,97,98,105,110],qX b,[115]] [32]:=rfl
    rw [hc0] at hj hS
    have hj:(Lib.join [[99,97,98,105,110],qX b,[115]] [32]).length<=140737488355328:=by omega
    have e4:K.map qM++[[.v (.string ⟨⟨Lib.join [[99,97,98,105,110],qX b,[115]] [32]⟩⟩)]]=(Ze c (k+1)).map qM:=by rw [hS,aq];rfl
    repeat' first|(apply nx;with_reducible constructor)|apply uq (by decide)|((first|apply uz env|apply uj);intro Q hQ;simp only [vkt,seval,wZ,jd,aS,RX,qM,xO,qo,wH,qd,We,Qv,d1,e9,hx,hm,e4,ite_and];(repeat' first|with_reducible assumption|apply vz|intro hp);all_goals first|(apply hQ;clear hQ Q)|(apply ux;kernel_rfl)|omega|assumption|with_reducible rfl|skip)
    refine ⟨⟨k+1,hlt⟩,by show c.cabins.length - (k+1) < c.cabins.length - k;omega, ?_⟩
    (refine Le.ok (fun i=>if i=1 then some 5 else some i) [] ?_;constructor;all_goals (try simp only [vle,vkt,seval,jd,wH,qd]))
    all_goals first|rfl|(simp;done)|(intro i hi;rw [if_neg (by omega)];done)
   ·have hc0:Kw ⟨b,true⟩=Lib.join [[99,97,98,105,110],qX b,[100]] [32]:=rfl
    rw [hc0] at hj hS
    have hj:(Lib.join [[99,97,98,105,110],qX b,[100]] [32]).length<=140737488355328:=by omega
    have e4:K.map qM++[[.v (.string ⟨⟨Lib.join [[99,97,98,105,110],qX b,[100]] [32]⟩⟩)]]=(Ze c (k+1)).map qM:=by rw [hS,aq];rfl
    repeat' first|(apply nx;with_reducible constructor)|apply uq (by decide)|((first|apply uz env|apply uj);intro Q hQ;simp only [vkt,seval,wZ,jd,aS,RX,qM,xO,qo,wH,qd,We,Qv,d1,e9,hx,hm,e4,ite_and];(repeat' first|with_reducible assumption|apply vz|intro hp);all_goals first|(apply hQ;clear hQ Q)|(apply ux;kernel_rfl)|omega|assumption|with_reducible rfl|skip)
    refine ⟨⟨k+1,hlt⟩,by show c.cabins.length - (k+1) < c.cabins.length - k;omega, ?_⟩
    (refine Le.ok (fun i=>if i=1 then some 5 else some i) [] ?_;constructor;all_goals (try simp only [vle,vkt,seval,jd,wH,qd]))
    all_goals first|rfl|(simp;done)|(intro i hi;rw [if_neg (by omega)];done)
  ·have d1:decide ((k:Int) < (c.cabins.length:Int))=false:=decide_eq_false (by omega)
   obtain rfl:k=c.cabins.length:=by omega
   have hl:=R9 c (aA _)
   have hB0:kw c 0=Ze c c.cabins.length++[Ye c.secs]:=by simp [kw]
   have hj:=XM c.secs
   have hc0:Ye c.secs=Lib.join [[119,97,121],qX c.secs] [32]:=rfl
   rw [hc0] at hj hB0
   have hj:(Lib.join [[119,97,121],qX c.secs] [32]).length<=140737488355328:=by omega
   have hs1:0<=c.secs:=by omega
   have hs2:c.secs < 100:=by omega
   obtain ⟨K,hK⟩:∃ K,Ze c c.cabins.length=K:=⟨_,rfl⟩
   rw [hK] at hB0 hl
   simp only [wr1,hK]
   have hm:K.length+1<=maxLen:=by omega
   have e4:K.map qM++[[.v (.string ⟨⟨Lib.join [[119,97,121],qX c.secs] [32]⟩⟩)]]=(kw c 0).map qM:=by rw [hB0,aq];rfl
   repeat' first|(apply nx;with_reducible constructor)|apply uq (by decide)|((first|apply uz env|apply uj);intro Q hQ;simp only [vkt,seval,wZ,jd,aS,RX,qM,xO,wH,qd,We,Qv,d1,hm,e4,ite_and];(repeat' first|with_reducible assumption|apply vz|intro hp);all_goals first|(apply hQ;clear hQ Q)|(apply ux;kernel_rfl)|omega|assumption|with_reducible rfl|skip)
   refine qY (fun s:{ s:Nat // s<=c.sold.length }=>wr2 c s.1) (fun s=>c.sold.length - s.1) ⟨0,ap _⟩ ?_ fun ⟨q,hq⟩=>?_
   ·simp only [wr2]
    (refine Le.ok (fun i=>if i=1 then some 4 else some i) [] ?_;constructor;all_goals (try simp only [vle,vkt,seval,jd,qy,qd]))
    all_goals first|rfl|simp
   simp only at hq ⊢
   clear hB0 e4 d1 hm hj hl hK
   by_cases hlt:q < c.sold.length
   ·have d1:decide ((q:Int) < (c.sold.length:Int))=true:=decide_eq_true (by omega)
    have e9:=k9 q (by omega)
    have hS:=QdE c hlt
    have hl:=Va c hq
    have hx:=gTk c.sold q
    have hx':=hTk hlt
    have hmem:=yX (d:=default) hlt
    have hb:=hv.tk _ hmem
    obtain ⟨K,hK⟩:∃ K,kw c q=K:=⟨_,rfl⟩
    rw [hK] at hS hl
    simp only [wr2,hK]
    generalize c.sold.getD q default=x at hx hx' hb hS hmem
    have hbed:x.bed < 100:=by
     have h1:=hb.bed
     have h2:=hv.car.beds _ (yX (d:=default) hb.cab.2)
     omega
    have hcab:x.cab < 100:=by
     have h1:=hb.cab
     omega
    have g1:=hb.party
    have g2:=hb.sex
    have g3:=hb.cab.1
    have g4:=hb.bed.1
    have g5:=hb.frm
    have g6:=hb.way
    have g7:=hb.to
    obtain ⟨p,sx,cb,bd,fr,to,dg⟩:=x
    dsimp only at hbed hcab g1 g2 g3 g4 g5 g6 g7
    have p1:0<=p:=by omega
    have p2:p < 100:=by omega
    have p3:fr < 100:=by omega
    have p4:0<=to:=by omega
    have p5:to < 100:=by omega
    clear hb hmem
    have hm:K.length+1<=maxLen:=by omega
    have hj:=QcZ ⟨p,sx,cb,bd,fr,to,dg⟩
    have hp1:qX cb++[46]++qX bd=qX cb++[46]++qX bd:=rfl
    rcases (show sx=1\/sx=2 by omega) with rfl|rfl
    ·cases dg
     ·have hc0:tkS ⟨p,1,cb,bd,fr,to,false⟩=Lib.join [[115,111,108,100],qX p,[119],qX cb++[46]++qX bd,qX fr++[62]++qX to] [32]:=rfl
      rw [hc0] at hj hS
      have hj:(Lib.join [[115,111,108,100],qX p,[119],qX cb++[46]++qX bd,qX fr++[62]++qX to] [32]).length<=140737488355328:=by omega
      have e4:K.map qM++[[.v (.string ⟨⟨Lib.join [[115,111,108,100],qX p,[119],qX cb++[46]++qX bd,qX fr++[62]++qX to] [32]⟩⟩)]]=(kw c (q+1)).map qM:=by rw [hS,aq];rfl
      repeat' first|(apply nx;with_reducible constructor)|apply uq (by decide)|((first|apply uz env|apply uj);intro Q hQ;simp only [vkt,seval,wZ,jd,aS,RX,qM,xO,eTk,qy,qd,We,Qv,X4,d1,e9,hx,hm,e4,ite_and];(repeat' first|with_reducible assumption|apply vz|intro hp);all_goals first|(apply hQ;clear hQ Q)|(apply ux;kernel_rfl)|omega|assumption|with_reducible rfl|skip)
      refine ⟨⟨q+1,hlt⟩,by show c.sold.length - (q+1) < c.sold.length - q;omega, ?_⟩
      (refine Le.ok (fun i=>if i=1 then some 5 else some i) [] ?_;constructor;all_goals (try simp only [vle,vkt,seval,jd,qy,qd]))
      all_goals first|rfl|(simp;done)|(intro i hi;rw [if_neg (by omega)];done)
     ·have hc0:tkS ⟨p,1,cb,bd,fr,to,true⟩=Lib.join [[115,111,108,100],qX p,[119],qX cb++[46]++qX bd,qX fr++[62]++qX to,[43]] [32]:=rfl
      rw [hc0] at hj hS
      have hj:(Lib.join [[115,111,108,100],qX p,[119],qX cb++[46]++qX bd,qX fr++[62]++qX to,[43]] [32]).length<=140737488355328:=by omega
      have e4:K.map qM++[[.v (.string ⟨⟨Lib.join [[115,111,108,100],qX p,[119],qX cb++[46]++qX bd,qX fr++[62]++qX to,[43]] [32]⟩⟩)]]=(kw c (q+1)).map qM:=by rw [hS,aq];rfl
      repeat' first|(apply nx;with_reducible constructor)|apply uq (by decide)|((first|apply uz env|apply uj);intro Q hQ;simp only [vkt,seval,wZ,jd,aS,RX,qM,xO,eTk,qy,qd,We,Qv,X4,d1,e9,hx,hm,e4,ite_and];(repeat' first|with_reducible assumption|apply vz|intro hp);all_goals first|(apply hQ;clear hQ Q)|(apply ux;kernel_rfl)|omega|assumption|with_reducible rfl|skip)
      refine ⟨⟨q+1,hlt⟩,by show c.sold.length - (q+1) < c.sold.length - q;omega, ?_⟩
      (refine Le.ok (fun i=>if i=1 then some 7 else some i) [] ?_;constructor;all_goals (try simp only [vle,vkt,seval,jd,qy,qd]))
      all_goals first|rfl|(simp;done)|(intro i hi;rw [if_neg (by omega)];done)
    ·cases dg
     ·have hc0:tkS ⟨p,2,cb,bd,fr,to,false⟩=Lib.join [[115,111,108,100],qX p,[109],qX cb++[46]++qX bd,qX fr++[62]++qX to] [32]:=rfl
      rw [hc0] at hj hS
      have hj:(Lib.join [[115,111,108,100],qX p,[109],qX cb++[46]++qX bd,qX fr++[62]++qX to] [32]).length<=140737488355328:=by omega
      have e4:K.map qM++[[.v (.string ⟨⟨Lib.join [[115,111,108,100],qX p,[109],qX cb++[46]++qX bd,qX fr++[62]++qX to] [32]⟩⟩)]]=(kw c (q+1)).map qM:=by rw [hS,aq];rfl
      repeat' first|(apply nx;with_reducible constructor)|apply uq (by decide)|((first|apply uz env|apply uj);intro Q hQ;simp only [vkt,seval,wZ,jd,aS,RX,qM,xO,eTk,qy,qd,We,Qv,X4,d1,e9,hx,hm,e4,List.set_cons_succ,List.set_cons_zero,ao,ak,ite_and];(repeat' first|with_reducible assumption|apply vz|intro hp);all_goals first|(apply hQ;clear hQ Q)|(apply ux;kernel_rfl)|omega|assumption|with_reducible rfl|skip)
      refine ⟨⟨q+1,hlt⟩,by show c.sold.length - (q+1) < c.sold.length - q;omega, ?_⟩
      (refine Le.ok (fun i=>if i=1 then some 5 else some i) [] ?_;constructor;all_goals (try simp only [vle,vkt,seval,jd,qy,qd]))
      all_goals first|rfl|(simp;done)|(intro i hi;rw [if_neg (by omega)];done)
     ·have hc0:tkS ⟨p,2,cb,bd,fr,to,true⟩=Lib.join [[115,111,108,100],qX p,[109],qX cb++[46]++qX bd,qX fr++[62]++qX to,[43]] [32]:=rfl
      rw [hc0] at hj hS
      have hj:(Lib.join [[115,111,108,100],qX p,[109],qX cb++[46]++qX bd,qX fr++[62]++qX to,[43]] [32]).length<=140737488355328:=by omega
      have e4:K.map qM++[[.v (.string ⟨⟨Lib.join [[115,111,108,100],qX p,[109],qX cb++[46]++qX bd,qX fr++[62]++qX to,[43]] [32]⟩⟩)]]=(kw c (q+1)).map qM:=by rw [hS,aq];rfl
      repeat' first|(apply nx;with_reducible constructor)|apply uq (by decide)|((first|apply uz env|apply uj);intro Q hQ;simp only [vkt,seval,wZ,jd,aS,RX,qM,xO,eTk,qy,qd,We,Qv,X4,d1,e9,hx,hm,e4,List.set_cons_succ,List.set_cons_zero,ao,ak,ite_and];(repeat' first|with_reducible assumption|apply vz|intro hp);all_goals first|(apply hQ;clear hQ Q)|(apply ux;kernel_rfl)|omega|assumption|with_reducible rfl|skip)
      refine ⟨⟨q+1,hlt⟩,by show c.sold.length - (q+1) < c.sold.length - q;omega, ?_⟩
      (refine Le.ok (fun i=>if i=1 then some 7 else some i) [] ?_;constructor;all_goals (try simp only [vle,vkt,seval,jd,qy,qd]))
      all_goals first|rfl|(simp;done)|(intro i hi;rw [if_neg (by omega)];done)
   ·have d1:decide ((q:Int) < (c.sold.length:Int))=false:=decide_eq_false (by omega)
    obtain rfl:q=c.sold.length:=by omega
    have hl:=Va c (aA _)
    obtain ⟨K,hK⟩:∃ K,kw c c.sold.length=K:=⟨_,rfl⟩
    rw [hK] at hl hjl
    simp only [wr2,hK]
    have hm:K.length+1<=maxLen:=by omega
    have e4:K.map qM++[[.v (.string ⟨⟨[99,97,114]⟩⟩)]]=(K++[[99,97,114]]).map qM:=by rw [aq];rfl
    have e5:(K++[[99,97,114]]).length<=100000:=by rw [aF,hl];simp;omega
    have e6:(Lib.join (K++[[99,97,114]]) [10]).length<=140737488355328:=by omega
    have e7:(Lib.join (K++[[99,97,114]]) [10]).length+1<=9223372036854775807:=by omega
    repeat' first|(apply nx;with_reducible constructor)|apply uq (by decide)|((first|apply uz env|apply uj);intro Q hQ;simp only [vkt,seval,wZ,jd,aS,RX,qy,qd,Qcg,d1,hm,e4,mStr,e7,ite_and];(repeat' first|with_reducible assumption|apply vz|intro hp);all_goals first|(apply hQ;clear hQ Q)|(apply ux;kernel_rfl)|omega|assumption|with_reducible rfl|skip)
    (simp only [vrt,Tryz.results11,vkt,seval,jd,aS];refine Fin.val rfl ?_;(try simp only [AV.le,AV.leL]))
    all_goals first|rfl|simp
 ·have hE:vB c=([],e):=by unfold vB;rw [if_neg (by rw [he];exact h0),he]
  rw [hE]
  have d0:decide (e=0)=false:=decide_eq_false h0
  repeat' first|(apply nx;with_reducible constructor)|apply uq (by decide)|((first|apply uz env|apply uj);intro Q hQ;simp only [vkt,seval,wZ,jd,qh,qd,qD,mTk,yB,ec,he,d0,ite_and];(repeat' first|with_reducible assumption|apply vz|intro hp);all_goals first|(apply hQ;clear hQ Q)|(apply ux;kernel_rfl)|omega|assumption|with_reducible rfl|skip)
  (simp only [vrt,Tryz.results11,vkt,seval,jd,aS];refine Fin.val rfl ?_;(try simp only [AV.le,AV.leL]))
  all_goals first|rfl|simp
def RG:List AV->Prop × AV
 |[.agg [.sl c0,.v (.int .i64 c1),.sl c2]]=>(c0=(c0.map qp).map qo/\c2=(c2.map dTk).map eTk/\((⟨(c0.map qp),c1,(c2.map dTk)⟩:Chart)).cabins.length<=maxLen,.tup [aS (vB ((⟨(c0.map qp),c1,(c2.map dTk)⟩:Chart))).1,aI (vB ((⟨(c0.map qp),c1,(c2.map dTk)⟩:Chart))).2])
 |_=>(False,.junk)
theorem QkR {A:Frm->Prop}:qm A Tryz.prog 11 (zU true RG):=ze fun vs hv h=>by
 clear hv
 unfold RG at h ⊢
 split at h
 ·rename_i c0 c1 c2;obtain ⟨q0,q1,k0⟩:=h
  refine ⟨by first|trivial|(repeat' split) <;> simp [AV.plain,AV.plainL,aI,aB,qx,qb,qy,qw,aTk,cTk,aS,qA],fun _=>(by simp [AV.flat,AV.flatL,aI,aS]), ?_⟩
  have:=Qgy ((⟨(c0.map qp),c1,(c2.map dTk)⟩:Chart)) k0
  simp only [qh,aI,qd,<- q0,<- q1] at this
  first|exact this|(simp only [wH,qh,aI,qy,qd,<- q0,<- q1];exact this)
 ·exact h.elim
end Go.Sym.B
namespace Go.Sym.B
open Go Go.Sym Go.Proofs Go.Sym.C Go.RowKit
def xe (t:List UInt8):Chart × Int × Int:=if 300 < t.length then (⟨[],0,[]⟩,0,10) else match Wi t with
 |.error n=>(⟨[],0,[]⟩,n,2)
 |.ok c=>if zo c=0 then (c,0,0) else (⟨[],0,[]⟩,0,zo c)
theorem YO:∀ (a:List (List UInt8)) (c:Chart) (st:Int) (i n:Nat),zC c st i a=.error n->i < n/\n<=i+a.length
 |[],c,st,i,n,h=>by cases h
 |s :: a,c,st,i,n,h=>by
  rw [zC] at h
  split at h
  ·rename_i n' hn
   cases h
   unfold xc at hn
   rw [bf]
   split at hn
   ·cases hn;omega
   ·split at hn
    ·cases hn;omega
    ·cases hn
  ·have:=YO a _ _ _ n h
   rw [bf];omega
theorem Qea {t:List UInt8} {n:Nat} (h:Wi t=.error n):0 < n/\n<=t.length+1:=by
 have hL:=vE (s:=t) (sep:=[10]) (by decide)
 unfold Wi at h
 split at h
 ·rename_i n' hn
  cases h
  have:=YO _ _ _ _ _ hn
  rw [be] at this;omega
 ·split at h
  ·cases h
  ·cases h;omega
theorem Vg {t:List UInt8} {c:Chart} (h:Wi t=.ok c):c.cabins.length<=t.length+1/\c.sold.length<=t.length+1:=by
 have hL:=vE (s:=t) (sep:=[10]) (by decide)
 unfold Wi at h
 split at h
 ·cases h
 ·rename_i p hp
  have:=Q3 _ _ _ _ hp
  rw [be] at this
  simp only [bK] at this
  split at h
  ·cases h;omega
  ·cases h
def Us (S:St):List AV->Option Pk
 |[.v (.string ⟨⟨t⟩⟩)]=>some { pre:=t.length<=300,ar:=[.v (.string ⟨⟨t⟩⟩)],v:=rdV (Wi t) }
 |_=>none
theorem eRead:qm (zS TabT) Tryz.prog 48 (fnE Us):=Qa2 fun S bs q h hp=>by
 unfold Us at h
 split at h
 ·cases h
  exact QiG _ hp
 ·cases h
def vQ:=vz @ty3 (vz @ty9 (vz @jW (vz @Zq (vz @ti3.eq_1 (vz @ti9.eq_1 (vz @jE.eq_1 @kY.eq_1))))))
def WL:=vz @aI.eq_1 (@aB.eq_1)
theorem Qia (t:List UInt8):Fn (wQ TabT) Tryz.prog 14 [aS t] noH (.tup [qh (xe t).1,aI (xe t).2.1,aI (xe t).2.2]) noH 0:=by
 have env:=qB (A:=zS TabT) (kC JF (kC eRead kN))
 refine kT (Fn0 Tryz.func14 rfl (fun vs w=>by kernel_rfl) (by kernel_rfl)) (by simp) (by simp [AV.ids,aS]) ?_
 unfold xe
 by_cases h0:300 < t.length
 ·rw [if_pos h0]
  have d1:decide ((300:Int) < (t.length:Int))=true:=decide_eq_true (by omega)
  have hsz:(ByteArray.mk ⟨t⟩).size=t.length:=rfl
  repeat' first|(apply nx;with_reducible constructor)|apply uq (by decide)|((first|apply uz env|apply uj);intro Q hQ;simp only [vkt,seval,vQ,aS,d1,hsz,ite_and];(repeat' first|with_reducible assumption|apply vz|intro hp);all_goals first|(apply hQ;clear hQ Q)|(apply ux;kernel_rfl)|omega|assumption|with_reducible rfl|skip)
  (simp only [vrt,Tryz.results14,vkt,seval,vQ,WL,qh,qd];refine Fin.val rfl ?_;(try simp only [AV.le,AV.leL]))
  all_goals first|rfl|simp
 ·rw [if_neg h0]
  have d1:decide ((300:Int) < (t.length:Int))=false:=decide_eq_false (by omega)
  have hsz:(ByteArray.mk ⟨t⟩).size=t.length:=rfl
  have h1:t.length<=300:=by omega
  cases hr:Wi t with
  |error n =>
   have hp:=Qea hr
   have d2:decide ((0:Int) < (n:Int))=true:=decide_eq_true (by omega)
   repeat' first|(apply nx;with_reducible constructor)|apply uq (by decide)|((first|apply uz env|apply uj);intro Q hQ;simp only [vkt,seval,vQ,WL,aS,Us,rdV,d1,hsz,h1,hr,d2,ite_and];(repeat' first|with_reducible assumption|apply vz|intro hp);all_goals first|(apply hQ;clear hQ Q)|(apply ux;kernel_rfl)|omega|assumption|with_reducible rfl|skip)
   (simp only [vrt,Tryz.results14,vkt,seval,vQ,WL,qh,qd];refine Fin.val rfl ?_;(try simp only [AV.le,AV.leL]))
   all_goals first|rfl|simp
  |ok c =>
   have hc:=Vg hr
   have hmx:(1000:Nat)<=maxLen:=by decide
   have hc1:c.cabins.length<=maxLen:=by omega
   have ec:(⟨c.cabins,c.secs,c.sold⟩:Chart)=c:=rfl
   have d2:decide ((0:Int) < 0)=false:=by decide
   dsimp only
   obtain ⟨e,he⟩:∃ e,zo c=e:=⟨_,rfl⟩
   rw [he]
   by_cases hz:e=0
   ·rw [if_pos hz]
    have d3:decide (e=0)=true:=decide_eq_true hz
    repeat' first|(apply nx;with_reducible constructor)|apply uq (by decide)|((first|apply uz env|apply uj);intro Q hQ;simp only [vkt,seval,vQ,WL,aS,qh,qd,yB,Us,rdV,qD,mTk,d1,hsz,h1,hr,ec,he,d3,hc1,ite_and];(repeat' first|with_reducible assumption|apply vz|intro hp);all_goals first|(apply hQ;clear hQ Q)|(apply ux;kernel_rfl)|omega|assumption|with_reducible rfl|skip)
    (simp only [vrt,Tryz.results14,vkt,seval,vQ,WL,qh,qd];refine Fin.val rfl ?_;(try simp only [AV.le,AV.leL]))
    all_goals first|rfl|simp
   ·rw [if_neg hz]
    have d3:decide (e=0)=false:=decide_eq_false hz
    repeat' first|(apply nx;with_reducible constructor)|apply uq (by decide)|((first|apply uz env|apply uj);intro Q hQ;simp only [vkt,seval,vQ,WL,aS,qh,qd,yB,Us,rdV,qD,mTk,d1,hsz,h1,hr,ec,he,d3,hc1,ite_and];(repeat' first|with_reducible assumption|apply vz|intro hp);all_goals first|(apply hQ;clear hQ Q)|(apply ux;kernel_rfl)|omega|assumption|with_reducible rfl|skip)
    (simp only [vrt,Tryz.results14,vkt,seval,vQ,WL,qh,qd];refine Fin.val rfl ?_;(try simp only [AV.le,AV.leL]))
    all_goals first|rfl|simp
def cuts (b:UInt8) (cur:List UInt8):List UInt8->List (List UInt8)
 |[]=>[cur]
 |x :: r=>if x=b then cur :: cuts b [] r else cuts b (cur++[x]) r
def zQ (s:List UInt8) (b:UInt8):List (List UInt8):=cuts b [] s
def VZ (acc:Int):List UInt8->Option Int
 |[]=>some acc
 |x :: r=>if x.toNat < 48\/57 < x.toNat then none else VZ (10 * acc+((x.toNat:Int) - 48)) r
def jO (s:List UInt8):Option Int:=if s.length < 1\/3 < s.length\/(s.getD 0 0=48/\1 < s.length) then none else VZ 0 s
def kg (s:List UInt8) (b:UInt8):Int × Int × Bool:=if (zQ s b).length=2 then ((jO ((zQ s b).getD 0 [])).getD 0,(jO ((zQ s b).getD 1 [])).getD 0,(jO ((zQ s b).getD 0 [])).isSome && (jO ((zQ s b).getD 1 [])).isSome) else (0,0,false)
def zTk:Tk:=⟨0,0,0,0,0,0,false⟩
def xN (w0 w1 w2 w3 w4:List UInt8) (d:Bool):Tk × Bool:=if w0=zW/\(w2=[119]\/w2=[109]) then (⟨(jO w1).getD 0,if w2=[109] then 2 else 1,(kg w3 46).1,(kg w3 46).2.1,(kg w4 62).1,(kg w4 62).2.1,d⟩,(jO w1).isSome && (kg w3 46).2.2 && (kg w4 62).2.2) else (zTk,false)
def ZZ:List (List UInt8)->Tk × Bool
 |[w0,w1,w2,w3,w4]=>xN w0 w1 w2 w3 w4 false
 |[w0,w1,w2,w3,w4,w5]=>if w5=[43] then xN w0 w1 w2 w3 w4 true else (zTk,false)
 |_=>(zTk,false)
def dg (n:Nat):List UInt8:=if n < 10 then [UInt8.ofNat (48+n)] else if n < 100 then [UInt8.ofNat (48+n / 10),UInt8.ofNat (48+n % 10)] else [UInt8.ofNat (48+n / 100),UInt8.ofNat (48+n / 10 % 10),UInt8.ofNat (48+n % 10)]
theorem dg_eq {n:Nat} (h:n < 1000):Lib.decDigits n=dg n:=by
 unfold dg
 split
 ·rw [Lib.decDigits,dif_pos ‹_›]
 ·split
  ·rw [Lib.decDigits,dif_neg ‹_›,Lib.decDigits,dif_pos (by omega)];rfl
  ·rw [Lib.decDigits,dif_neg ‹_›,Lib.decDigits,dif_neg (by omega),Lib.decDigits,dif_pos (by omega)]
   rw [Nat.div_div_eq_div_mul];rfl
theorem Qcj {n:Nat} (h:n < 1000):Lib.itoa (n:Int)=dg n:=by
 unfold Lib.itoa
 rw [if_neg (by omega),cn,dg_eq h]
theorem QkX {n:Nat} (h:1000<=n):3 < (Lib.decDigits n).length:=by
 rw [Lib.decDigits,dif_neg (by omega),Lib.decDigits,dif_neg (by omega),Lib.decDigits,dif_neg (by omega),Lib.decDigits]
 split <;> simp
theorem QbU:∀ n:_root_.Fin 1000,wT (dg n.1)=some (n.1:Int)/\jO (dg n.1)=some (n.1:Int):=by
 have h:∀ n:_root_.Fin 1000,Lib.atoiAll (dg n.1)=.ok (n.1:Int)/\(dg n.1).length<=3/\jO (dg n.1)=some (n.1:Int):=by decide +kernel
 intro n
 obtain ⟨h1,h2,h3⟩:=h n
 refine ⟨?_,h3⟩
 unfold wT
 rw [h1]
 dsimp only
 rw [if_neg (by rw [Qcj n.2];rintro (h|h|h) <;> first|omega|exact h rfl)]
theorem Qc0 {s:List UInt8} {v:Int} (h:wT s=some v):∃ n:_root_.Fin 1000,v=(n.1:Int)/\s=dg n.1:=by
 unfold wT at h
 split at h
 ·rename_i u _
  split at h
  ·cases h
  ·rename_i hn
   cases h
   obtain ⟨h1,h2,h3⟩:¬ v < 0/\¬ 3 < s.length/\Lib.itoa v=s:=⟨fun e=>hn (.inl e),fun e=>hn (.inr (.inl e)),by
    by_cases e:Lib.itoa v=s
    ·exact e
    ·exact absurd (.inr (.inr e)) hn⟩
   obtain ⟨n,rfl⟩:∃ n:Nat,v=n:=⟨v.toNat,by omega⟩
   have hs:Lib.decDigits n=s:=by
    rw [<- h3];unfold Lib.itoa;rw [if_neg h1,cn]
   have hlt:n < 1000:=by
    by_cases e:n < 1000
    ·exact e
    ·have:=QkX (n:=n) (by omega)
     rw [hs] at this
     exact absurd this h2
   exact ⟨⟨n,hlt⟩,rfl,by rw [<- h3,Qcj hlt]⟩
 ·cases h
theorem Qf5 {x:UInt8} (h1:¬ (x.toNat < 48\/57 < x.toNat)):∃ d:Nat,d < 10/\x=UInt8.ofNat (48+d):=by
 refine ⟨x.toNat - 48,by omega,UInt8.toNat_inj.1 ?_⟩
 rw [UInt8.toNat_ofNat',cC (by omega)];omega
theorem xD {x:UInt8} {r:List UInt8} {acc v:Int} (h:VZ acc (x :: r)=some v):∃ d:Nat,d < 10/\x=UInt8.ofNat (48+d)/\VZ (10 * acc+d) r=some v:=by
 rw [VZ] at h
 split at h
 ·cases h
 ·rename_i hn
  obtain ⟨d,hd,rfl⟩:=Qf5 hn
  refine ⟨d,hd,rfl, ?_⟩
  rw [UInt8.toNat_ofNat',cC (by omega)] at h
  rw [<- h]
  congr 1
  omega
theorem xz {s:List UInt8} {v:Int} (h:jO s=some v):∃ n:_root_.Fin 1000,v=(n.1:Int)/\s=dg n.1:=by
 unfold jO at h
 split at h
 ·cases h
 ·rename_i hn
  have h1:¬ s.length < 1:=fun e=>hn (.inl e)
  have h2:¬ 3 < s.length:=fun e=>hn (.inr (.inl e))
  have h3:¬ (s.getD 0 0=48/\1 < s.length):=fun e=>hn (.inr (.inr e))
  clear hn
  match s,h1,h2 with
  |[a],_,_ =>
   obtain ⟨d,hd,rfl,k⟩:=xD h
   rw [VZ] at k
   cases k
   refine ⟨⟨d,by omega⟩,by simp, ?_⟩
   unfold dg
   rw [if_pos (by simpa using hd)]
  |[a,b],_,_ =>
   obtain ⟨d,hd,rfl,k⟩:=xD h
   obtain ⟨e,he,rfl,m⟩:=xD k
   rw [VZ] at m
   cases m
   have hd0:d ≠ 0:=fun z=>h3 ⟨by subst z;rfl,by simp⟩
   refine ⟨⟨10 * d+e,by omega⟩,by simp, ?_⟩
   unfold dg
   dsimp only
   rw [if_neg (by omega),if_pos (by omega),show (10 * d+e) / 10=d by omega,show (10 * d+e) % 10=e by omega]
  |[a,b,c],_,_ =>
   obtain ⟨d,hd,rfl,k⟩:=xD h
   obtain ⟨e,he,rfl,m⟩:=xD k
   obtain ⟨f,hf,rfl,o⟩:=xD m
   rw [VZ] at o
   cases o
   have hd0:d ≠ 0:=fun z=>h3 ⟨by subst z;rfl,by simp⟩
   refine ⟨⟨100 * d+10 * e+f,by omega⟩,by simp;omega, ?_⟩
   unfold dg
   dsimp only
   rw [if_neg (by omega),if_neg (by omega),show (100 * d+10 * e+f) / 100=d by omega,show (100 * d+10 * e+f) / 10 % 10=e by omega,show (100 * d+10 * e+f) % 10=f by omega]
  |_ :: _ :: _ :: _ :: _,_,h2=>exact absurd (by simp) h2
theorem KA (s:List UInt8):wT s=jO s:=by
 cases h:wT s with
 |some v =>
  obtain ⟨n,rfl,rfl⟩:=Qc0 h
  rw [(QbU n).2]
 |none =>
  cases h2:jO s with
  |none=>rfl
  |some v =>
   obtain ⟨n,rfl,rfl⟩:=xz h2
   rw [(QbU n).1] at h
   cases h
theorem Un {b:UInt8} (hb:b.toNat < 48\/57 < b.toNat):∀ (s:List UInt8) (acc:Int),b ∈ s->VZ acc s=none
 |x :: r,acc,h=>by
  rw [VZ]
  split
  ·rfl
  ·rename_i hn
   rcases ae.1 h with rfl|h
   ·exact absurd hb hn
   ·exact Un hb r _ h
theorem QhL {b:UInt8} (hb:b.toNat < 48\/57 < b.toNat) {s:List UInt8} (h:b ∈ s):jO s=none:=by
 unfold jO
 split
 ·rfl
 ·exact Un hb s 0 h
theorem index_one (x:UInt8) (l:List UInt8) (b:UInt8):Lib.index (x :: l) [b]=if x=b then 0 else if Lib.index l [b]=-1 then -1 else Lib.index l [b]+1:=by
 rw [Lib.index]
 by_cases h:x=b
 ·rw [if_pos h,if_pos (by simp [h])]
 ·rw [if_neg h,if_neg (by simp [Ne.symm h])]
  simp only [beq_iff_eq]
theorem ZG (b:UInt8):∀ (s cur:List UInt8),Lib.index s [b]=-1->cuts b cur s=[cur++s]
 |[],cur,_=>by simp [cuts]
 |x :: s,cur,h=>by
  rw [index_one] at h
  have hge:=Lib.index_ge s [b]
  split at h
  ·cases h
  ·split at h
   ·rw [cuts,if_neg ‹_›,ZG b s _ ‹_›];simp
   ·omega
theorem ZO (b:UInt8):∀ (s cur:List UInt8) (i:Nat),Lib.index s [b]=(i:Int)->cuts b cur s=(cur++s.take i) :: cuts b [] (s.drop (i+1))/\i < s.length
 |[],cur,i,h=>by simp [Lib.index] at h
 |x :: s,cur,i,h=>by
  rw [index_one] at h
  have hge:=Lib.index_ge s [b]
  split at h
  ·obtain rfl:i=0:=by omega
   rw [cuts,if_pos ‹_›];simp
  ·split at h
   ·omega
   ·obtain ⟨j,rfl⟩:∃ j,i=j+1:=⟨i - 1,by omega⟩
    obtain ⟨e,hl⟩:=ZO b s (cur++[x]) j (by omega)
    rw [cuts,if_neg ‹_›,e]
    simp [hl]
theorem Qdt (b:UInt8) (s:List UInt8) (i:Nat) (h:Lib.index s [b]=(i:Int)):b ∈ s:=by
 induction s generalizing i with
 |nil=>simp [Lib.index] at h
 |cons x s ih =>
  rw [index_one] at h
  split at h
  ·subst ‹x=b›;exact .head _
  ·split at h
   ·omega
   ·exact .tail _ (ih (i - 1) (by omega))
theorem XB (b:UInt8):∀ (n:Nat) (s:List UInt8),s.length<=n->Lib.splitK [b] 0 (Lib.count s [b]) s=zQ s b
 |n,s,hn=>by
  have hge:=Lib.index_ge s [b]
  by_cases h:Lib.index s [b]=-1
  ·rw [Lib.count_miss h,zQ,ZG b s [] h];rfl
  ·obtain ⟨i,hi⟩:∃ i:Nat,Lib.index s [b]=(i:Int):=⟨(Lib.index s [b]).toNat,by omega⟩
   obtain ⟨e,hl⟩:=ZO b s [] i hi
   rw [Lib.count_hit (by simp) hi,zQ,e,cB,Lib.splitK,hi,if_neg (by simp)]
   cases n with
   |zero=>omega
   |succ n =>
    have:=XB b n (s.drop (i+1)) (by simp;omega)
    unfold zQ at this
    simpa using this
theorem Qff (s:List UInt8) {b:UInt8} (hb:b.toNat < 48\/57 < b.toNat):jI s [b]=if (kg s b).2.2=true then some ((kg s b).1,(kg s b).2.1) else none:=by
 have hge:=Lib.index_ge s [b]
 by_cases h:Lib.index s [b]=-1
 ·have e:zQ s b=[s]:=ZG b s [] h
  unfold jI kg Lib.cut
  rw [h,e];simp
 ·obtain ⟨i,hi⟩:∃ i:Nat,Lib.index s [b]=(i:Int):=⟨(Lib.index s [b]).toNat,by omega⟩
  obtain ⟨e,hl⟩:=ZO b s [] i hi
  have hc:Lib.cut s [b]=(s.take i,s.drop (i+1),true):=by
   unfold Lib.cut
   rw [hi,if_pos (by omega)];simp
  unfold jI kg zQ
  rw [hc,e]
  simp only [if_true,KA]
  have hge2:=Lib.index_ge (s.drop (i+1)) [b]
  by_cases h2:Lib.index (s.drop (i+1)) [b]=-1
  ·rw [ZG b _ [] h2]
   simp only [aG,bf,bK,if_true,ak,ao]
   cases jO (s.take i) <;> cases jO (s.drop (i+1)) <;> simp
  ·obtain ⟨j,hj⟩:∃ j:Nat,Lib.index (s.drop (i+1)) [b]=(j:Int):=⟨(Lib.index (s.drop (i+1)) [b]).toNat,by omega⟩
   obtain ⟨e2,_⟩:=ZO b _ [] j hj
   rw [QhL hb (Qdt b _ j hj),e2]
   have:(cuts b [] (List.drop (j+1) (List.drop (i+1) s))).length ≠ 0:=by
    generalize (List.drop (j+1) (List.drop (i+1) s))=u
    generalize ([]:List UInt8)=cur
    induction u generalizing cur with
    |nil=>simp [cuts]
    |cons x u ih=>rw [cuts];split <;> simp [ih]
   have hl2:¬ (([]++s.take i) :: ([]++(s.drop (i+1)).take j) :: cuts b [] ((s.drop (i+1)).drop (j+1))).length=2:=by
    simp only [bf];omega
   rw [if_neg hl2]
   cases jO (s.take i) <;> simp
theorem QcP (s:List UInt8) (b:UInt8):spS s [b]=zQ s b:=(QhM s [b]).trans (XB b s.length s (aA _))
theorem WN (b:UInt8):∀ (s cur:List UInt8),(cuts b cur s).length ≠ 0
 |[],cur=>by simp [cuts]
 |x :: s,cur=>by
  rw [cuts]
  split
  ·simp
  ·exact WN b s _
theorem L8 (b:UInt8):∀ (s cur w:List UInt8),b ∉ cur->(cuts b cur s=[w] ↔ cur++s=w/\b ∉ w)
 |[],cur,w,hc=>by
  rw [cuts,aR]
  constructor
  ·intro h
   obtain rfl:cur=w:=by simpa using h
   exact ⟨rfl,hc⟩
  ·rintro ⟨rfl,_⟩;rfl
 |x :: s,cur,w,hc=>by
  rw [cuts]
  split
  ·subst ‹x=b›
   constructor
   ·intro h
    have:=congrArg List.length h
    have h2:=WN x s []
    simp at this
    exact absurd (by rw [this];rfl) h2
   ·rintro ⟨rfl,h⟩
    exact absurd (by simp) h
  ·rename_i hx
   rw [L8 b s (cur++[x]) w (by simp [hc,Ne.symm hx])]
   simp
theorem RS (s:List UInt8):zQ s 32=[wX] ↔ s=wX:=by
 unfold zQ
 rw [L8 32 s [] wX (by simp)]
 simp [wX]
theorem tk_eq {l:List (List UInt8)} (h0:l.headD []=zW):tkP l=if (ZZ l).2=true then some (ZZ l).1 else none:=by
 have h5:∀ w1 w2 w3 w4 d,tk5 w1 w2 w3 w4 d=if (xN zW w1 w2 w3 w4 d).2=true then some (xN zW w1 w2 w3 w4 d).1 else none:=fun w1 w2 w3 w4 d=>by
  unfold tk5 xN VV
  rw [Qff w3 (b:=46) (.inl (by decide)),Qff w4 (b:=62) (.inr (by decide)),KA]
  by_cases h1:w2=[119]
  ·subst h1
   rw [if_pos (c:=([119]:List UInt8)=[119]) rfl,if_pos (c:=zW=zW/\_) ⟨rfl,.inl rfl⟩,if_neg (c:=([119]:List UInt8)=[109]) (by decide)]
   cases jO w1 <;> cases (kg w3 46).2.2 <;> cases (kg w4 62).2.2 <;> rfl
  ·rw [if_neg (c:=w2=[119]) h1]
   by_cases h2:w2=[109]
   ·subst h2
    rw [if_pos (c:=([109]:List UInt8)=[109]) rfl,if_pos (c:=zW=zW/\_) ⟨rfl,.inr rfl⟩,if_pos (c:=([109]:List UInt8)=[109]) rfl]
    cases jO w1 <;> cases (kg w3 46).2.2 <;> cases (kg w4 62).2.2 <;> rfl
   ·rw [if_neg (c:=w2=[109]) h2,if_neg (c:=zW=zW/\_) (by rintro ⟨_,h|h⟩ <;> first|exact h1 h|exact h2 h)]
    cases jO w1 <;> rfl
 match l,h0 with
 |[],_=>rfl
 |[_],_=>rfl
 |[_,_],_=>rfl
 |[_,_,_],_=>rfl
 |[_,_,_,_],_=>rfl
 |[w0,w1,w2,w3,w4],h0 =>
  obtain rfl:w0=zW:=h0
  exact h5 _ _ _ _ _
 |[w0,w1,w2,w3,w4,w5],h0 =>
  obtain rfl:w0=zW:=h0
  show (if w5=[43] then tk5 w1 w2 w3 w4 true else none)=if (if w5=[43] then xN zW w1 w2 w3 w4 true else (zTk,false)).2=true then some (if w5=[43] then xN zW w1 w2 w3 w4 true else (zTk,false)).1 else none
  by_cases h:w5=[43]
  ·rw [if_pos h,if_pos h];exact h5 _ _ _ _ _
  ·rw [if_neg h,if_neg h];rfl
 |_ :: _ :: _ :: _ :: _ :: _ :: _ :: _,_=>rfl
theorem QfN {l:List (List UInt8)} (h0:l.headD [] ≠ zW):(ZZ l).2=false:=by
 unfold ZZ
 split
 ·unfold xN;rw [if_neg (fun h=>h0 h.1)]
 ·split
  ·unfold xN;rw [if_neg (fun h=>h0 h.1)]
  ·rfl
 ·rfl
def Qa (c:Chart) (st:Int) (s:List UInt8):Option (Chart × Int) :=
 if st=3 then none
 else if (zQ s 32).headD []=zA/\(zQ s 32).length=3/\st=0/\((zQ s 32).getD 2 []=[100]\/(zQ s 32).getD 2 []=[115]) then (jO ((zQ s 32).getD 1 [])).map fun n=>(⟨c.cabins++[⟨n,decide ((zQ s 32).getD 2 []=[100])⟩],c.secs,c.sold⟩,0)
 else if (zQ s 32).headD []=yK/\(zQ s 32).length=2/\st=0 then (jO ((zQ s 32).getD 1 [])).map fun n=>(⟨c.cabins,n,c.sold⟩,1)
 else if s=wX/\st ≠ 0 then some (c,3)
 else if st ≠ 0 then if (ZZ (zQ s 32)).2=true then some (⟨c.cabins,c.secs,c.sold++[(ZZ (zQ s 32)).1]⟩,2) else none
 else none
theorem QkW (w:List (List UInt8)):cbP w=if w.length=3/\(w.getD 2 []=[100]\/w.getD 2 []=[115]) then (jO (w.getD 1 [])).map fun n=>.cabin ⟨n,decide (w.getD 2 []=[100])⟩ else none:=by
 match w with
 |[]=>rfl
 |[_]=>rfl
 |[_,_]=>rfl
 |[a,b,d] =>
  simp only [cbP,KA,bf,bK,ao,ak,true_and]
 |_ :: _ :: _ :: _ :: _=>rw [if_neg (fun e=>by have:=e.1;simp at this)];rfl
theorem QlO (w:List (List UInt8)):wyP w=if w.length=2 then (jO (w.getD 1 [])).map .way else none:=by
 match w with
 |[]=>rfl
 |[_]=>rfl
 |[a,b] =>
  show (wT b).map Ln.way=(jO b).map Ln.way
  rw [KA]
 |_ :: _ :: _ :: _=>rw [if_neg (fun e=>by simp at e)];rfl
theorem QlF {w:List (List UInt8)} (h:w.headD []=wX):crP w=if w=[wX] then some .car else none:=by
 match w,h with
 |[],h=>exact absurd h (by decide)
 |[a],h=>obtain rfl:a=wX:=h;rfl
 |_ :: _ :: _,_=>rw [if_neg (fun e=>by simp at e)];rfl
theorem Jt (c:Chart) {st:Int} (hst:st=0\/st=1\/st=2\/st=3) (i:Nat) (s:List UInt8):xc c st i s=match Qa c st s with
  |none=>.error (i+1)
  |some p=>.ok p:=by
 unfold xc WT Qa
 rw [QcP]
 simp only [<- RS s]
 generalize zQ s 32=w
 have w1:zA ≠ yK:=by decide
 have w2:zA ≠ zW:=by decide
 have w3:zA ≠ wX:=by decide
 have w4:yK ≠ zW:=by decide
 have w5:yK ≠ wX:=by decide
 have w6:zW ≠ wX:=by decide
 have hcar:w.headD [] ≠ wX->w ≠ [wX]:=fun h e=>h (by rw [e];rfl)
 unfold RU
 by_cases h0:w.headD []=zA
 ·have hc:=hcar (by rw [h0];exact w3)
  have ht:=QfN (l:=w) (by rw [h0];exact w2)
  rw [if_pos h0,if_neg (c:=w=[wX]/\st ≠ 0) (fun h=>hc h.1),ht,if_neg (c:=w.headD []=yK/\w.length=2/\st=0) (fun h=>w1 (h0.symm.trans h.1)),QkW]
  by_cases hd:w.length=3/\(w.getD 2 []=[100]\/w.getD 2 []=[115])
  ·rw [if_pos hd]
   rcases hst with rfl|rfl|rfl|rfl
   ·rw [if_pos (c:=w.headD []=zA/\_) ⟨h0,hd.1,rfl,hd.2⟩]
    cases jO (w.getD 1 []) <;> rfl
   all_goals rw [if_neg (c:=w.headD []=zA/\_) (fun h=>absurd h.2.2.1 (by decide))];cases jO (w.getD 1 []) <;> rfl
  ·rw [if_neg hd,if_neg (c:=w.headD []=zA/\_) (fun h=>hd ⟨h.2.1,h.2.2.2⟩)]
   rcases hst with rfl|rfl|rfl|rfl <;> rfl
 ·rw [if_neg h0,if_neg (c:=w.headD []=zA/\_) (fun h=>h0 h.1)]
  by_cases h1:w.headD []=yK
  ·have hc:=hcar (by rw [h1];exact w5)
   have ht:=QfN (l:=w) (by rw [h1];exact w4)
   rw [if_pos h1,if_neg (c:=w=[wX]/\st ≠ 0) (fun h=>hc h.1),ht,QlO]
   by_cases hd:w.length=2
   ·rw [if_pos hd]
    rcases hst with rfl|rfl|rfl|rfl
    ·rw [if_pos (c:=w.headD []=yK/\_) ⟨h1,hd,rfl⟩]
     cases jO (w.getD 1 []) <;> rfl
    all_goals rw [if_neg (c:=w.headD []=yK/\_) (fun h=>absurd h.2.2 (by decide))];cases jO (w.getD 1 []) <;> rfl
   ·rw [if_neg hd,if_neg (c:=w.headD []=yK/\_) (fun h=>hd h.2.1)]
    rcases hst with rfl|rfl|rfl|rfl <;> rfl
  ·rw [if_neg h1,if_neg (c:=w.headD []=yK/\_) (fun h=>h1 h.1)]
   by_cases h2:w.headD []=zW
   ·have hc:=hcar (by rw [h2];exact w6)
    rw [if_pos h2,if_neg (c:=w=[wX]/\st ≠ 0) (fun h=>hc h.1),tk_eq h2]
    rcases hst with rfl|rfl|rfl|rfl <;> cases (ZZ w).2 <;> rfl
   ·have ht:=QfN (l:=w) h2
    rw [if_neg h2,ht]
    by_cases h3:w.headD []=wX
    ·rw [if_pos h3,QlF h3]
     by_cases hd:w=[wX]
     ·rw [if_pos hd]
      rcases hst with rfl|rfl|rfl|rfl
      ·rw [if_neg (c:=w=[wX]/\_) (fun h=>absurd rfl h.2)];rfl
      ·rw [if_pos (c:=w=[wX]/\_) ⟨hd,by decide⟩];rfl
      ·rw [if_pos (c:=w=[wX]/\_) ⟨hd,by decide⟩];rfl
      ·rfl
     ·rw [if_neg hd,if_neg (c:=w=[wX]/\_) (fun h=>hd h.1)]
      rcases hst with rfl|rfl|rfl|rfl <;> rfl
    ·rw [if_neg h3,if_neg (c:=w=[wX]/\st ≠ 0) (fun h=>hcar h3 h.1)]
     rcases hst with rfl|rfl|rfl|rfl <;> rfl
theorem XF (t:List UInt8) (h:t.length<=300):xe t=match zC ⟨[],0,[]⟩ 0 0 ((zQ t 10).take ((zQ t 10).length - 1)) with
  |.error n=>(⟨[],0,[]⟩,n,2)
  |.ok p=>if p.2=3/\(zQ t 10).getD ((zQ t 10).length - 1) []=[] then if zo p.1=0 then (p.1,0,0) else (⟨[],0,[]⟩,0,zo p.1) else (⟨[],0,[]⟩,(zQ t 10).length,2):=by
 unfold xe Wi
 rw [if_neg (by omega),QcP]
 cases zC ⟨[],0,[]⟩ 0 0 ((zQ t 10).take ((zQ t 10).length - 1)) with
 |error n=>rfl
 |ok p =>
  dsimp only
  by_cases h:p.2=3/\(zQ t 10).getD ((zQ t 10).length - 1) []=[]
  ·rw [if_pos h,if_pos h]
  ·rw [if_neg h,if_neg h]
end Go.Sym.B
namespace Go.Sym.B
open Go Go.Sym Go.Proofs Go.Sym.C
def flatL (l:List (List UInt8)):List UInt8:=(l.map (·++[10])).flatten
theorem Qz (l:List (List UInt8)) (x:List UInt8):flatL (x :: l)=x++[10]++flatL l:=by simp [flatL]
theorem Qcw:∀ (l:List (List UInt8)),Lib.joinTail [10] l++[10]=[10]++flatL l
 |[]=>by simp [Lib.joinTail,flatL]
 |x :: l=>by
  have e:Lib.joinTail [10] (x :: l)=[10]++x++Lib.joinTail [10] l:=by simp [Lib.joinTail]
  rw [e,cq,Qcw l,Qz];simp
theorem Xw {l:List (List UInt8)} (h:l ≠ []):Lib.join l [10]++[10]=flatL l:=by
 match l,h with
 |x :: l,_=>rw [Lib.join_cons,cq,Qcw,Qz];simp
theorem XR (m:Nat):∀ {l:List (List UInt8)},(∀ x ∈ l,x.length<=m)->(flatL l).length<=l.length * (m+1)
 |[],_=>by simp [flatL]
 |x :: l,h=>by
  have h1:=XR m fun y hy=>h y (.tail _ hy)
  have h2:=h x (.head _)
  rw [Qz,aF,aF,show (x :: l).length=l.length+1 from rfl,cF]
  simp;omega
theorem jn3 (a b c:List UInt8):Lib.join [a,b,c] [32]=a++[32]++b++[32]++c:=by simp [Lib.join_cons,Lib.joinTail]
theorem jn2 (a b:List UInt8):Lib.join [a,b] [32]=a++[32]++b:=by simp [Lib.join_cons,Lib.joinTail]
theorem jn5 (a b c d e:List UInt8):Lib.join [a,b,c,d,e] [32]=a++[32]++b++[32]++c++[32]++d++[32]++e:=by simp [Lib.join_cons,Lib.joinTail]
theorem jn6 (a b c d e f:List UInt8):Lib.join [a,b,c,d,e,f] [32]=a++[32]++b++[32]++c++[32]++d++[32]++e++[32]++f:=by simp [Lib.join_cons,Lib.joinTail]
end Go.Sym.B
namespace Go.Sym.B
open Go Go.Sym Go.Proofs Go.Sym.C Go.RowKit
def pRea (S:St):List AV->Option Pk
 |[.v (.string ⟨⟨t⟩⟩)]=>some { pre:=True,ar:=[.v (.string ⟨⟨t⟩⟩)],v:=.tup [qh (xe t).1,aI (xe t).2.1,aI (xe t).2.2] }
 |_=>none
theorem eRea:qm (zS TabT) Tryz.prog 14 (fnE pRea):=Qa2 fun S bs q h hp=>by
 unfold pRea at h
 split at h
 ·cases h
  exact Qia _
 ·cases h
theorem QaJ (t:List UInt8):(xe t).1.cabins.length<=301/\(xe t).1.sold.length<=301:=by
 unfold xe
 split
 ·simp
 ·rename_i h
  split
  ·simp
  ·rename_i c hc
   have:=Vg hc
   split
   ·exact ⟨by show c.cabins.length<=301;omega,by show c.sold.length<=301;omega⟩
   ·simp
theorem QkQ {n:Nat} (h:n < 100):qX (n:Int)=dg n:=by
 unfold qX dg
 by_cases h1:n < 10
 ·rw [if_pos (by omega),if_pos h1];rfl
 ·rw [if_neg (by omega),if_neg h1,if_pos h];rfl
theorem Qk3:∀ n:_root_.Fin 1000,∀ x ∈ dg n.1,48<=x.toNat/\x.toNat<=57:=by decide +kernel
theorem VD {n:Nat} (h:n < 1000) {b:UInt8} (hb:b.toNat < 48\/57 < b.toNat):b ∉ dg n:=fun hm=>by
 have:=Qk3 ⟨n,h⟩ b hm
 omega
theorem WZ {n:Nat} (h:n < 1000):jO (dg n)=some (n:Int):=(QbU ⟨n,h⟩).2
theorem Ji (b:UInt8) (r:List UInt8):∀ (x cur:List UInt8),b ∉ x->cuts b cur (x++b :: r)=(cur++x) :: cuts b [] r
 |[],cur,_=>by rw [aG,cuts,if_pos rfl,aR]
 |y :: x,cur,h=>by
  simp only [ae,not_or] at h
  rw [aT,cuts,if_neg (Ne.symm h.1),Ji b r x _ h.2];simp
theorem Y0 (b:UInt8):∀ (x cur:List UInt8),b ∉ x->cuts b cur x=[cur++x]
 |[],cur,_=>by rw [cuts,aR]
 |y :: x,cur,h=>by
  simp only [ae,not_or] at h
  rw [cuts,if_neg (Ne.symm h.1),Y0 b x _ h.2];simp
theorem Uj:∀ (l:List (List UInt8)),(∀ x ∈ l,(10:UInt8) ∉ x)->zQ (flatL l) 10=l++[[]]
 |[],_=>rfl
 |x :: l,h=>by
  unfold zQ
  rw [Qz,cq,dh,Ji 10 _ x [] (h x (.head _))]
  have:=Uj l fun y hy=>h y (.tail _ hy)
  unfold zQ at this
  rw [this];rfl
theorem Jh (sep x:List UInt8) (l:List (List UInt8)):Lib.joinTail sep (x :: l)=sep++x++Lib.joinTail sep l:=by simp [Lib.joinTail]
theorem Qgi (b:UInt8):∀ (l:List (List UInt8)) (x:List UInt8),b ∉ x->(∀ y ∈ l,b ∉ y)->zQ (x++Lib.joinTail [b] l) b=x :: l
 |[],x,h,_=>by
  unfold zQ
  rw [show Lib.joinTail [b] []=[] from rfl,aR,Y0 b x [] h];rfl
 |y :: l,x,h,hl=>by
  unfold zQ
  rw [Jh,cq,dh,Ji b _ x [] h]
  have:=Qgi b l y (hl y (.head _)) fun z hz=>hl z (.tail _ hz)
  unfold zQ at this
  rw [this];rfl
theorem Y1 (b:UInt8) {l:List (List UInt8)} (h0:l ≠ []) (hl:∀ y ∈ l,b ∉ y):zQ (Lib.join l [b]) b=l:=by
 match l,h0 with
 |x :: l,_=>rw [Lib.join_cons];exact Qgi b l x (hl x (.head _)) fun y hy=>hl y (.tail _ hy)
theorem QhJ (b:UInt8):∀ (s cur:List UInt8),Lib.join (cuts b cur s) [b]=cur++s
 |[],cur=>by rw [cuts,Lib.join_cons];rfl
 |x :: s,cur=>by
  rw [cuts]
  split
  ·subst ‹x=b›
   have h:=QhJ x s []
   rw [Lib.join_cons]
   have hn:=WN x s []
   cases hc:cuts x [] s with
   |nil=>rw [hc] at hn;exact absurd rfl hn
   |cons y l =>
    rw [hc,Lib.join_cons] at h
    rw [Jh,cq,h];simp
  ·rw [QhJ b s (cur++[x])];simp
theorem Zg {s:List UInt8} {b:UInt8} {l:List (List UInt8)} (h:zQ s b=l):s=Lib.join l [b]:=by
 have:=QhJ b s []
 unfold zQ at h
 rw [h] at this
 exact this.symm
theorem QeV {s:List UInt8} {l:List (List UInt8)} (h:zQ s 10=l++[[]]):s=flatL l:=by
 rw [Zg h]
 cases l with
 |nil=>rfl
 |cons x l =>
  rw [<- Xw (by simp)]
  have e:∀ (l:List (List UInt8)),Lib.joinTail [10] (l++[[]])=Lib.joinTail [10] l++[10]:=fun l=>by
   induction l with
   |nil=>rfl
   |cons y l ih=>rw [aT,Jh,Jh,ih];simp
  rw [aT,Lib.join_cons,Lib.join_cons,e];simp
theorem QgI {a c:Nat} (ha:a < 1000) (hc:c < 1000) {b:UInt8} (hb:b.toNat < 48\/57 < b.toNat):kg (dg a++[b]++dg c) b=((a:Int),(c:Int),true):=by
 have e:zQ (dg a++[b]++dg c) b=[dg a,dg c]:=by
  unfold zQ
  rw [cq,dh,Ji b _ _ [] (VD ha hb),Y0 b _ [] (VD hc hb)];rfl
 unfold kg
 rw [e]
 simp [WZ ha,WZ hc]
theorem Uo {s:List UInt8} {b:UInt8} {x y:Int} (h:kg s b=(x,y,true)):∃ a c:_root_.Fin 1000,x=(a.1:Int)/\y=(c.1:Int)/\s=dg a.1++[b]++dg c.1:=by
 unfold kg at h
 split at h
 ·rename_i h2
  obtain ⟨l,hl⟩:∃ l,zQ s b=l:=⟨_,rfl⟩
  rw [hl] at h h2
  match l,h2 with
  |[p,q],_ =>
   simp only [ak,ao,Prod.mk.injEq,bm] at h
   obtain ⟨h1,h2,h3,h4⟩:=h
   obtain ⟨u,hu⟩:=cj.1 h3
   obtain ⟨v,hv⟩:=cj.1 h4
   obtain ⟨a,rfl,rfl⟩:=xz hu
   obtain ⟨c,rfl,rfl⟩:=xz hv
   rw [hu] at h1
   rw [hv] at h2
   refine ⟨a,c,h1.symm,h2.symm, ?_⟩
   rw [Zg hl]
   simp [Lib.join_cons,Lib.joinTail]
 ·simp at h
def tkW (k:Tk):List (List UInt8):=[zW,dg k.party.toNat,V5 k.sex,dg k.cab.toNat++[46]++dg k.bed.toNat,dg k.frm.toNat++[62]++dg k.to.toNat]++if k.dog then [[43]] else []
structure TkN (k:Tk):Prop where
 party:0<=k.party/\k.party < 1000
 sex:k.sex=1\/k.sex=2
 cab:0<=k.cab/\k.cab < 1000
 bed:0<=k.bed/\k.bed < 1000
 frm:0<=k.frm/\k.frm < 1000
 to:0<=k.to/\k.to < 1000
theorem tkR_W {k:Tk} (h:TkN k):ZZ (tkW k)=(k,true):=by
 obtain ⟨⟨p0,p1⟩,hs,⟨c0,c1⟩,⟨b0,b1⟩,⟨f0,f1⟩,⟨t0,t1⟩⟩:=h
 obtain ⟨p,s,c,b,f,t,d⟩:=k
 dsimp only at *
 obtain ⟨p,rfl⟩:=cX p0
 obtain ⟨c,rfl⟩:=cX c0
 obtain ⟨b,rfl⟩:=cX b0
 obtain ⟨f,rfl⟩:=cX f0
 obtain ⟨t,rfl⟩:=cX t0
 have e1:=WZ (n:=p) (by omega)
 have e2:=QgI (a:=c) (c:=b) (b:=46) (by omega) (by omega) (.inl (by decide))
 have e3:=QgI (a:=f) (c:=t) (b:=62) (by omega) (by omega) (.inr (by decide))
 have e5:∀ d,xN zW (dg p) (V5 s) (dg c++[46]++dg b) (dg f++[62]++dg t) d=(⟨p,s,c,b,f,t,d⟩,true):=fun d=>by
  unfold xN
  rw [e1,e2,e3]
  rcases hs with rfl|rfl <;> rfl
 unfold tkW
 cases d
 ·exact e5 false
 ·show (if ([43]:List UInt8)=[43] then xN zW (dg p) (V5 s) (dg c++[46]++dg b) (dg f++[62]++dg t) true else (zTk,false))=_
  rw [if_pos rfl,e5]
theorem QhZ {w:List (List UInt8)} {k:Tk} (h:ZZ w=(k,true)):TkN k/\w=tkW k:=by
 have h5:∀ {w0 w1 w2 w3 w4:List UInt8} {d:Bool},xN w0 w1 w2 w3 w4 d=(k,true)->TkN k/\k.dog=d/\[w0,w1,w2,w3,w4]=[zW,dg k.party.toNat,V5 k.sex,dg k.cab.toNat++[46]++dg k.bed.toNat,dg k.frm.toNat++[62]++dg k.to.toNat]:=fun {w0 w1 w2 w3 w4 d} h=>by
  unfold xN at h
  split at h
  ·rename_i hc
   simp only [Prod.mk.injEq,bm] at h
   obtain ⟨rfl,⟨h1,h2⟩,h3⟩:=h
   obtain ⟨v,hv⟩:=cj.1 h1
   obtain ⟨p,rfl,rfl⟩:=xz hv
   obtain ⟨c,b,e1,e2,rfl⟩:=Uo (s:=w3) (b:=46) (x:=(kg w3 46).1) (y:=(kg w3 46).2.1) (by rw [<- h2])
   obtain ⟨f,t,e3,e4,rfl⟩:=Uo (s:=w4) (b:=62) (x:=(kg w4 62).1) (y:=(kg w4 62).2.1) (by rw [<- h3])
   obtain ⟨rfl,hs⟩:=hc
   dsimp only
   rw [e1,e2,e3,e4,hv]
   simp only [cM,cn]
   have:=p.2
   have:=c.2
   have:=b.2
   have:=f.2
   have:=t.2
   refine ⟨⟨⟨?_, ?_⟩, ?_,⟨?_, ?_⟩,⟨?_, ?_⟩,⟨?_, ?_⟩,⟨?_, ?_⟩⟩,trivial, ?_⟩
   all_goals first|(dsimp only;omega)|(rcases hs with rfl|rfl <;> first|rfl|exact .inl rfl|exact .inr rfl)
  ·simp at h
 match w,h with
 |[],h=>exact absurd (congrArg Prod.snd h) (by simp [ZZ])
 |[_],h=>exact absurd (congrArg Prod.snd h) (by simp [ZZ])
 |[_,_],h=>exact absurd (congrArg Prod.snd h) (by simp [ZZ])
 |[_,_,_],h=>exact absurd (congrArg Prod.snd h) (by simp [ZZ])
 |[_,_,_,_],h=>exact absurd (congrArg Prod.snd h) (by simp [ZZ])
 |[w0,w1,w2,w3,w4],h =>
  obtain ⟨h1,h2,h3⟩:=h5 (d:=false) h
  refine ⟨h1, ?_⟩
  rw [h3];unfold tkW;rw [h2];rfl
 |[w0,w1,w2,w3,w4,w5],h =>
  have h:(if w5=[43] then xN w0 w1 w2 w3 w4 true else (zTk,false))=(k,true):=h
  by_cases h6:w5=[43]
  ·rw [if_pos h6] at h
   obtain ⟨h1,h2,h3⟩:=h5 (d:=true) h
   refine ⟨h1, ?_⟩
   unfold tkW
   rw [h2,if_pos rfl,<- h3,h6];rfl
  ·rw [if_neg h6] at h;simp at h
 |_ :: _ :: _ :: _ :: _ :: _ :: _ :: _,h=>exact absurd (congrArg Prod.snd h) (by simp [ZZ])
def cbW (x:Cabin):List (List UInt8):=[zA,dg x.beds.toNat,if x.door then [100] else [115]]
def wyW (n:Int):List (List UInt8):=[yK,dg n.toNat]
def lnW (c:Chart) (st:Int):List (List UInt8):=c.cabins.map (fun x=>Lib.join (cbW x) [32])++if st=0 then [] else Lib.join (wyW c.secs) [32] :: c.sold.map (fun k=>Lib.join (tkW k) [32])++if st=3 then [wX] else []
structure Num (c:Chart):Prop where
 beds:∀ x ∈ c.cabins,0<=x.beds/\x.beds < 1000
 secs:0<=c.secs/\c.secs < 1000
 tk:∀ k ∈ c.sold,TkN k
def StOk (c:Chart) (st:Int):Prop:=(st=0\/st=1\/st=2\/st=3)/\(st=0->c.secs=0/\c.sold=[])/\(st=1->c.sold=[])
theorem QdJ {c:Chart} {st:Int} {s:List UInt8} {p:Chart × Int} (h:Qa c st s=some p) (hn:Num c) (hs:StOk c st):Num p.1/\StOk p.1 p.2/\lnW p.1 p.2=lnW c st++[s]:=by
 obtain ⟨hst,hz,ho⟩:=hs
 unfold Qa at h
 split at h
 ·cases h
 rename_i h3
 split at h
 ·rename_i hc
  obtain ⟨h1,h2,h4,h5⟩:=hc
  obtain ⟨w,hw⟩:∃ w,zQ s 32=w:=⟨_,rfl⟩
  rw [hw] at h h1 h2 h5
  match w,h2 with
  |[a,b,d],_ =>
   simp only [bC,ao,ak] at h h1 h5
   cases hnum:jO b with
   |none=>rw [hnum] at h;cases h
   |some v =>
    rw [hnum] at h
    cases h
    obtain ⟨n,rfl,rfl⟩:=xz hnum
    subst h1
    obtain ⟨z1,z2⟩:=hz h4
    obtain ⟨cabs,secs,sold⟩:=c
    dsimp only at z1 z2 hn
    subst z1 z2 h4
    refine ⟨⟨fun x hx=>?_,hn.secs,hn.tk⟩,⟨.inl rfl,fun _=>⟨rfl,rfl⟩,fun e=>by simp at e⟩, ?_⟩
    ·rcases aw.1 hx with hx|hx
     ·exact hn.beds x hx
     ·rw [aO.1 hx];have:=n.2;dsimp only;omega
    ·unfold lnW
     dsimp only
     rw [if_pos rfl,aR,aR,aq,Zg hw]
     congr 1
     unfold cbW
     simp only [af,au,cn]
     rcases h5 with rfl|rfl <;> rfl
 ·split at h
  ·rename_i hc
   obtain ⟨h1,h2,h4⟩:=hc
   obtain ⟨w,hw⟩:∃ w,zQ s 32=w:=⟨_,rfl⟩
   rw [hw] at h h1 h2
   match w,h2 with
   |[a,b],_ =>
    simp only [bC,ao,ak] at h h1
    cases hnum:jO b with
    |none=>rw [hnum] at h;cases h
    |some v =>
     rw [hnum] at h
     cases h
     obtain ⟨n,rfl,rfl⟩:=xz hnum
     subst h1
     obtain ⟨z1,z2⟩:=hz h4
     obtain ⟨cabs,secs,sold⟩:=c
     dsimp only at z1 z2 hn
     subst z1 z2 h4
     have:=n.2
     refine ⟨⟨hn.beds,⟨by dsimp only;omega,by dsimp only;omega⟩,hn.tk⟩,⟨.inr (.inl rfl),fun e=>by simp at e,fun _=>rfl⟩, ?_⟩
     unfold lnW
     dsimp only
     rw [if_neg (by decide),if_pos rfl,if_neg (by decide),aR,aR,Zg hw]
     rfl
  ·split at h
   ·rename_i hc
    cases h
    obtain ⟨rfl,h4⟩:=hc
    refine ⟨hn,⟨.inr (.inr (.inr rfl)),fun e=>by simp at e,fun e=>by simp at e⟩, ?_⟩
    unfold lnW
    rw [if_neg (c:=(3:Int)=0) (by decide),if_pos (c:=(3:Int)=3) rfl,if_neg h4,if_neg h3]
    simp
   ·split at h
    ·rename_i h4
     split at h
     ·rename_i h6
      cases h
      obtain ⟨hk,hw⟩:=QhZ (w:=zQ s 32) (k:=(ZZ (zQ s 32)).1) (by rw [<- h6])
      refine ⟨⟨hn.beds,hn.secs,fun k hm=>?_⟩,⟨.inr (.inr (.inl rfl)),fun e=>by simp at e,fun e=>by simp at e⟩, ?_⟩
      ·rcases aw.1 hm with hm|hm
       ·exact hn.tk k hm
       ·rw [aO.1 hm];exact hk
      ·unfold lnW
       dsimp only
       rw [if_neg (by decide),if_neg h4,if_neg (by decide),if_neg h3,aq,af,au,<- Zg hw]
       simp
     ·cases h
    ·cases h
theorem go_back:∀ (l:List (List UInt8)) (c:Chart) (st:Int) (i:Nat) {p:Chart × Int},Num c->StOk c st->zC c st i l=.ok p->Num p.1/\StOk p.1 p.2/\lnW p.1 p.2=lnW c st++l
 |[],c,st,i,p,hn,hs,h=>by
  rw [zC] at h
  cases h
  exact ⟨hn,hs,by simp⟩
 |s :: l,c,st,i,p,hn,hs,h=>by
  rw [zC,Jt c hs.1 i s] at h
  cases hr:Qa c st s with
  |none=>rw [hr] at h;cases h
  |some q =>
   rw [hr] at h
   obtain ⟨g1,g2,g3⟩:=QdJ hr hn hs
   obtain ⟨k1,k2,k3⟩:=go_back l q.1 q.2 (i+1) g1 g2 h
   exact ⟨k1,k2,by rw [k3,g3];simp⟩
theorem Qg8 {x:Cabin} (h:0<=x.beds/\x.beds < 1000) {b:UInt8} (hb:b=10\/b=32):∀ y ∈ cbW x,b ∉ y:=fun y hy=>by
 have h1:x.beds.toNat < 1000:=by omega
 simp only [cbW,ae,aV,or_false] at hy
 rcases hb with rfl|rfl <;> rcases hy with rfl|rfl|rfl
 ·decide
 ·exact VD h1 (.inl (by decide))
 ·split <;> decide
 ·decide
 ·exact VD h1 (.inl (by decide))
 ·split <;> decide
theorem Qfq {n:Int} (h:0<=n/\n < 1000) {b:UInt8} (hb:b=10\/b=32):∀ y ∈ wyW n,b ∉ y:=fun y hy=>by
 have h1:n.toNat < 1000:=by omega
 simp only [wyW,ae,aV,or_false] at hy
 rcases hb with rfl|rfl <;> rcases hy with rfl|rfl
 ·decide
 ·exact VD h1 (.inl (by decide))
 ·decide
 ·exact VD h1 (.inl (by decide))
theorem Qe0 {k:Tk} (h:TkN k) {b:UInt8} (hb:b=10\/b=32):∀ y ∈ tkW k,b ∉ y:=fun y hy=>by
 have e:∀ {n:Int},0<=n/\n < 1000->b ∉ dg n.toNat:=fun {n} hn=>VD (by omega) (.inl (by rcases hb with rfl|rfl <;> decide))
 have h1:=e h.party
 have h2:=e h.cab
 have h3:=e h.bed
 have h4:=e h.frm
 have h5:=e h.to
 simp only [tkW,aw,ae,aV,or_false] at hy
 rcases hy with (rfl|rfl|rfl|rfl|rfl)|hy
 ·rcases hb with rfl|rfl <;> decide
 ·exact h1
 ·unfold V5;rcases hb with rfl|rfl <;> split <;> decide
 ·simp only [aw,aO,not_or]
  exact ⟨⟨h2,by rcases hb with rfl|rfl <;> decide⟩,h3⟩
 ·simp only [aw,aO,not_or]
  exact ⟨⟨h4,by rcases hb with rfl|rfl <;> decide⟩,h5⟩
 ·split at hy
  ·rw [aO.1 hy];rcases hb with rfl|rfl <;> decide
  ·cases hy
theorem Rz {b:UInt8} (hb:b ≠ 32):∀ {l:List (List UInt8)},(∀ y ∈ l,b ∉ y)->b ∉ Lib.join l [32]
 |[],_=>by simp [Lib.join_nil]
 |x :: l,h=>by
  rw [Lib.join_cons]
  have hj:∀ l:List (List UInt8),(∀ y ∈ l,b ∉ y)->b ∉ Lib.joinTail [32] l:=fun l=>by
   induction l with
   |nil=>intro _;simp [Lib.joinTail]
   |cons y l ih =>
    intro h
    rw [Jh]
    simp only [aw,aO,not_or]
    exact ⟨⟨hb,h y (.head _)⟩,ih fun z hz=>h z (.tail _ hz)⟩
  simp only [aw,not_or]
  exact ⟨h x (.head _),hj l fun y hy=>h y (.tail _ hy)⟩
theorem QdW (q:List Cabin):∀ (l:List Cabin) (i:Nat),(∀ x ∈ l,0<=x.beds/\x.beds < 1000)->zC ⟨q,0,[]⟩ 0 i (l.map fun x=>Lib.join (cbW x) [32])=.ok (⟨q++l,0,[]⟩,0):=fun l=>by
 induction l generalizing q with
 |nil=>intro i _;rw [aR];rfl
 |cons x l ih =>
  intro i h
  have hx:=h x (.head _)
  have e1:zQ (Lib.join (cbW x) [32]) 32=cbW x:=Y1 32 (by simp [cbW]) (Qg8 hx (.inr rfl))
  have e2:Qa ⟨q,0,[]⟩ 0 (Lib.join (cbW x) [32])=some (⟨q++[x],0,[]⟩,0):=by
   unfold Qa
   rw [e1,if_neg (by decide)]
   have hd:(if x.door then [100] else [115]:List UInt8)=[100]\/(if x.door then [100] else [115]:List UInt8)=[115]:=by cases x.door <;> simp
   rw [if_pos (c:=(cbW x).headD []=zA/\_) ⟨rfl,rfl,rfl,hd⟩]
   have hn:jO ((cbW x).getD 1 [])=some x.beds:=by
    show jO (dg x.beds.toNat)=_
    rw [WZ (by omega)];congr 1;omega
   rw [hn]
   obtain ⟨b,d⟩:=x
   cases d <;> rfl
  rw [af,zC,Jt _ (.inl rfl),e2]
  dsimp only
  rw [ih (q++[x]) (i+1) fun y hy=>h y (.tail _ hy)]
  simp
theorem Qat (cs:List Cabin) (n:Int) (q:List Tk):∀ (l:List Tk) (st:Int) (i:Nat),(st=1\/st=2)->(∀ k ∈ l,TkN k)->∃ st',(st'=1\/st'=2)/\zC ⟨cs,n,q⟩ st i (l.map fun k=>Lib.join (tkW k) [32])=.ok (⟨cs,n,q++l⟩,st'):=fun l=>by
 induction l generalizing q with
 |nil=>intro st i hs _;exact ⟨st,hs,by rw [aR];rfl⟩
 |cons k l ih =>
  intro st i hs h
  have hk:=h k (.head _)
  have e1:zQ (Lib.join (tkW k) [32]) 32=tkW k:=Y1 32 (by simp [tkW]) (Qe0 hk (.inr rfl))
  have hcar:Lib.join (tkW k) [32] ≠ wX:=fun e=>by
   rw [<- RS,e1] at e
   have:=congrArg List.length e
   simp [tkW] at this
  have e2:Qa ⟨cs,n,q⟩ st (Lib.join (tkW k) [32])=some (⟨cs,n,q++[k]⟩,2):=by
   unfold Qa
   rw [e1,if_neg (by omega),if_neg (fun h=>absurd (show zW=zA from h.1) (by decide)),if_neg (fun h=>absurd (show zW=yK from h.1) (by decide)),if_neg (fun h=>hcar h.1),if_pos (by omega),tkR_W hk,if_pos rfl]
  obtain ⟨st',h1,h2⟩:=ih (q++[k]) 2 (i+1) (.inr rfl) fun y hy=>h y (.tail _ hy)
  refine ⟨st',h1, ?_⟩
  rw [af,zC,Jt _ (by omega),e2]
  dsimp only
  rw [h2];simp
theorem Qk6 {c:Chart} (hn:Num c):zC ⟨[],0,[]⟩ 0 0 (lnW c 3)=.ok (c,3):=by
 unfold lnW
 rw [if_neg (by decide),if_pos rfl,xP,QdW [] c.cabins 0 hn.beds]
 dsimp only
 have e1:zQ (Lib.join (wyW c.secs) [32]) 32=wyW c.secs:=Y1 32 (by simp [wyW]) (Qfq hn.secs (.inr rfl))
 have e2:Qa ⟨[]++c.cabins,0,[]⟩ 0 (Lib.join (wyW c.secs) [32])=some (⟨c.cabins,c.secs,[]⟩,1):=by
  unfold Qa
  have h1:=hn.secs
  have hm:jO ((wyW c.secs).getD 1 [])=some c.secs:=by
   show jO (dg c.secs.toNat)=_
   rw [WZ (by omega)];congr 1;omega
  rw [e1,if_neg (by decide),if_neg (fun h=>absurd (show yK=zA from h.1) (by decide)),if_pos (c:=(wyW c.secs).headD []=yK/\_) ⟨rfl,rfl,rfl⟩,hm]
  rfl
 rw [aT,zC,Jt _ (.inl rfl),e2]
 dsimp only
 rw [xP]
 obtain ⟨st',h1,h2⟩:=Qat c.cabins c.secs [] c.sold 1 (0+(List.map (fun x=>Lib.join (cbW x) [32]) c.cabins).length+1) (.inl rfl) hn.tk
 rw [h2]
 dsimp only
 have e3:Qa ⟨c.cabins,c.secs,[]++c.sold⟩ st' wX=some (⟨c.cabins,c.secs,c.sold⟩,3):=by
  unfold Qa
  rw [show zQ wX 32=[wX] from (RS wX).2 rfl,if_neg (by omega),if_neg (by rintro ⟨h,_⟩;exact absurd h (by decide)),if_neg (by rintro ⟨h,_⟩;exact absurd h (by decide)),if_pos ⟨rfl,by omega⟩]
  rfl
 rw [zC,Jt _ (by omega),e3]
 rfl
theorem Qld {c:Chart} (h:zo c=0):Num c:=by
 have hv:=kU h
 refine ⟨fun x hx=>?_, ?_,fun k hk=>?_⟩
 ·have:=hv.car.beds x hx;omega
 ·have:=hv.car.secs;omega
 ·have ht:=hv.tk k hk
  have h1:=ht.party
  have h2:=ht.sex
  have h3:=ht.cab
  have h4:=ht.bed
  have h5:=ht.frm
  have h6:=ht.way
  have h7:=ht.to
  have h8:=hv.car.secs
  have h9:=hv.car.cabs
  have h10:=hv.car.beds _ (yX (d:=default) h3.2)
  exact ⟨by omega,by omega,by omega,by omega,by omega,by omega⟩
theorem QgC {c:Chart} (h:zo c=0):kw c c.sold.length++[[99,97,114]]=lnW c 3:=by
 have hv:=kU h
 have hd:∀ {n:Int},0<=n->n < 100->qX n=dg n.toNat:=fun {n} h0 h1=>by
  have:=QkQ (n:=n.toNat) (by omega)
  rwa [Int.toNat_of_nonneg h0] at this
 unfold lnW kw Ze
 rw [if_neg (by decide),if_pos rfl,bF,bF]
 have e1:c.cabins.map Kw=c.cabins.map fun x=>Lib.join (cbW x) [32]:=cv fun x hx=>by
  have:=hv.car.beds x hx
  unfold Kw cbW
  rw [hd (by omega) (by omega)];rfl
 have e2:Ye c.secs=Lib.join (wyW c.secs) [32]:=by
  have:=hv.car.secs
  unfold Ye wyW
  rw [hd (by omega) (by omega)];rfl
 have e3:c.sold.map tkS=c.sold.map fun k=>Lib.join (tkW k) [32]:=cv fun k hk=>by
  have ht:=hv.tk k hk
  have h1:=ht.party
  have h3:=ht.cab
  have h4:=ht.bed
  have h5:=ht.frm
  have h6:=ht.way
  have h7:=ht.to
  have h8:=hv.car.secs
  have h9:=hv.car.cabs
  have h10:=hv.car.beds _ (yX (d:=default) h3.2)
  unfold tkS tkW
  rw [hd (by omega) (by omega),hd (by omega) (by omega),hd (by omega) (by omega),hd (by omega) (by omega),hd (by omega) (by omega)];rfl
 rw [e1,e2,e3]
 simp [wX]
theorem YE {c:Chart} (h:zo c=0):vB c=(flatL (lnW c 3),0):=by
 unfold vB
 rw [if_pos h,QgC h,Xw (by rw [<- QgC h];simp)]
theorem QkF {c:Chart} (hn:Num c):∀ x ∈ lnW c 3,(10:UInt8) ∉ x:=fun x hx=>by
 unfold lnW at hx
 rw [if_neg (by decide),if_pos rfl] at hx
 simp only [aw,ae,am,aV,or_false] at hx
 rcases hx with ⟨y,hy,rfl⟩|(rfl|⟨k,hk,rfl⟩)|rfl
 ·exact Rz (by decide) (Qg8 (hn.beds y hy) (.inl rfl))
 ·exact Rz (by decide) (Qfq hn.secs (.inl rfl))
 ·exact Rz (by decide) (Qe0 (hn.tk k hk) (.inl rfl))
 ·decide
theorem Qex {c:Chart} (h:zo c=0):(vB c).1.length<=300:=by
 have hv:=kU h
 rw [YE h]
 dsimp only
 rw [<- QgC h]
 have hd:∀ n:Int,(qX n).length<=2:=yn
 have hd1:∀ {n:Int},n < 10->(qX n).length=1:=fun {n} h=>by unfold qX;rw [if_pos h];rfl
 have f1:∀ (l:List (List UInt8)) (m:Nat),(∀ x ∈ l,x.length<=m)->(flatL l).length<=l.length * (m+1):=fun l m=>XR m
 have fa:∀ a b:List (List UInt8),flatL (a++b)=flatL a++flatL b:=fun a b=>by simp [flatL]
 unfold kw Ze
 rw [bF,bF,fa,fa,fa]
 have g1:=f1 (c.cabins.map Kw) 9 fun x hx=>by
  obtain ⟨y,hy,rfl⟩:=am.1 hx
  have:=hv.car.beds y hy
  unfold Kw
  rw [jn3]
  have:=hd1 (n:=y.beds) (by omega)
  split <;> simp [this]
 have g2:=f1 [Ye c.secs] 6 fun x hx=>by
  rw [aO.1 hx]
  unfold Ye
  rw [jn2]
  have:=hd c.secs
  simp;omega
 have g3:=f1 (c.sold.map tkS) 21 fun x hx=>by
  obtain ⟨k,hk,rfl⟩:=am.1 hx
  have ht:=hv.tk k hk
  have h3:=ht.cab
  have h4:=ht.bed
  have h6:=ht.way
  have h7:=ht.to
  have h8:=hv.car.secs
  have h9:=hv.car.cabs
  have h10:=hv.car.beds _ (yX (d:=default) h3.2)
  have q1:=hd k.party
  have q2:=hd1 (n:=k.cab) (by omega)
  have q3:=hd1 (n:=k.bed) (by omega)
  have q4:=hd1 (n:=k.frm) (by omega)
  have q5:=hd1 (n:=k.to) (by omega)
  have q6:(V5 k.sex).length=1:=by unfold V5;split <;> rfl
  unfold tkS
  cases k.dog
  ·rw [if_neg (by decide),aR,jn5]
   simp [q2,q3,q4,q5,q6];omega
  ·rw [if_pos rfl]
   simp only [aT,aG]
   rw [jn6]
   simp [q2,q3,q4,q5,q6];omega
 have g4:(flatL [[99,97,114]]).length=4:=rfl
 have m1:=hv.car.cabs.2
 have m2:=hv.many
 simp only [aj,dO] at g1 g2 g3
 simp only [aF]
 omega
theorem QbZ {c:Chart} (h:zo c=0):xe (vB c).1=(c,0,0):=by
 have hn:=Qld h
 rw [XF _ (Qex h),YE h]
 dsimp only
 rw [Uj _ (QkF hn)]
 have e1:(lnW c 3++[[]]).length - 1=(lnW c 3).length:=by simp
 rw [e1,List.take_left',Qk6 hn]
 dsimp only
 rw [if_pos ⟨rfl,by simp⟩,if_pos h]
 rfl
theorem Qbr {t:List UInt8} {c:Chart} {n:Int} (h:xe t=(c,n,0)):vB c=(t,0):=by
 by_cases hl:t.length<=300
 ·rw [XF t hl] at h
  cases hg:zC ⟨[],0,[]⟩ 0 0 ((zQ t 10).take ((zQ t 10).length - 1)) with
  |error m=>rw [hg] at h;simp at h
  |ok p =>
   rw [hg] at h
   dsimp only at h
   split at h
   ·rename_i he
    split at h
    ·rename_i hc
     cases h
     obtain ⟨q1,q2⟩:=he
     obtain ⟨_,_,g3⟩:=go_back _ ⟨[],0,[]⟩ 0 0 ⟨by simp,by simp,by simp⟩ ⟨.inl rfl,fun _=>⟨rfl,rfl⟩,fun e=>by simp at e⟩ hg
     have e0:lnW ⟨[],0,[]⟩ 0=[]:=rfl
     rw [e0,aG,q1] at g3
     have hL0:=WN 10 t []
     have e1:zQ t 10=lnW p.1 3++[[]]:=by
      rw [g3]
      unfold zQ at q2 ⊢
      generalize cuts 10 [] t=L at q2 hL0
      have:L=L.take (L.length - 1)++[L.getD (L.length - 1) []]:=by
       have h2:L.length - 1 < L.length:=by omega
       have h3:=List.take_append_getElem h2
       rw [show L.length - 1+1=L.length by omega,bF] at h3
       rw [show L.getD (L.length - 1) []=L[L.length - 1] by simp [ah,h2]]
       exact h3.symm
      rw [q2] at this
      exact this
     rw [YE hc,QeV e1]
    ·rename_i hc
     simp only [Prod.mk.injEq] at h
     exact absurd h.2.2 hc
   ·simp at h
 ·unfold xe at h
  rw [if_pos (by omega)] at h
  simp at h
def J8:=vz @ty3 (vz @ty9 (vz @jW (vz @Zq (vz @ti3.eq_1 (vz @ti9.eq_1 (vz @jE.eq_1 @kY.eq_1))))))
def Zy:=vz @aI.eq_1 (vz @aB.eq_1 (vz @qx.eq_1 (vz @zG.eq_1 (@WK))))
set_option maxRecDepth 100000 in
theorem writtenLaw_fn (nums:List Int) (text:List UInt8) (hnums:nums.length<=maxLen):Fn (wQ TabT) Tryz.prog 4 [qx nums,aS text] noH (aB true) noH 0:=by
 have env:=qB (A:=zS TabT) (kC eBag (kC QfO (kC QkR (kC eRea (kC eeqC (kC Qgr kN))))))
 refine kT (Fn0 Tryz.func4 rfl (fun vs w=>by kernel_rfl) (by kernel_rfl)) (by simp) (by simp [AV.ids,qx,aS]) ?_
 have hsz:(ByteArray.mk ⟨text⟩).size=text.length:=rfl
 by_cases q0:250 < text.length
 ·have d1:decide ((250:Int) < (text.length:Int))=true:=decide_eq_true (by omega)
  repeat' first|(apply nx;with_reducible constructor)|apply uq (by decide)|((first|apply uz env|apply uj);intro Q hQ;simp only [vkt,seval,J8,Zy,aS,Zo,hsz,d1,ite_and];(repeat' first|with_reducible assumption|apply vz|intro hp);all_goals first|(apply hQ;clear hQ Q)|(apply ux;kernel_rfl)|omega|assumption|with_reducible rfl|skip)
  (simp only [vrt,Tryz.results4,vkt,seval,Zy];refine Fin.val rfl ?_;(try simp only [AV.le]))
  all_goals first|rfl|simp
 have d1:decide ((250:Int) < (text.length:Int))=false:=decide_eq_false (by omega)
 obtain ⟨x0,hx0⟩:∃ x,nbS nums=x:=⟨_,rfl⟩
 obtain ⟨hC0,hCp,hCs,hCc,hCg⟩:=co_ok (x:=x0) (a:=3) (g:=5) (s:=8) (by decide) (by decide) (by decide)
 obtain ⟨C,hC⟩:∃ C,coC x0 3 5 8=C:=⟨_,rfl⟩
 rw [hC] at hC0 hCp hCs hCc hCg
 have hmx:(100000:Nat)<=maxLen:=by decide
 have b1:C.cabins.length<=maxLen:=by omega
 have b2:C.sold.length<=maxLen:=by omega
 have eC:(⟨C.cabins,C.secs,C.sold⟩:Chart)=C:=rfl
 have hw2:=YE hC0
 have hrw:=QbZ hC0
 obtain ⟨T,hT⟩:∃ T,flatL (lnW C 3)=T:=⟨_,rfl⟩
 rw [hT] at hw2
 rw [hw2] at hrw
 dsimp only at hrw
 have hsx:=QaJ text
 obtain ⟨⟨x,n,e⟩,hR⟩:∃ p,xe text=p:=⟨_,rfl⟩
 rw [hR] at hsx
 obtain ⟨s1,s2⟩:=hsx
 dsimp only at s1 s2
 have ex:(⟨x.cabins,x.secs,x.sold⟩:Chart)=x:=rfl
 have b3:x.cabins.length<=maxLen:=by omega
 by_cases he:e=0
 ·have d2:decide (e=0)=true:=decide_eq_true he
  rw [he] at hR
  have hwr:=Qbr hR
  have hbb:(text == text)=true:=beq_iff_eq.2 rfl
  repeat' first|(apply nx;with_reducible constructor)|apply uq (by decide)|((first|apply uz env|apply uj);intro Q hQ;simp only [vkt,seval,J8,Zy,aS,mTk,qD,qh,qd,pBag,Jo,RG,pRea,seqC,Zo,hsz,d1,hx0,hC,eC,b1,b2,b3,hw2,hrw,hR,ex,hwr,decide_true,ite_and];(repeat' first|with_reducible assumption|apply vz|intro hp);all_goals first|(apply hQ;clear hQ Q)|(apply ux;kernel_rfl)|omega|assumption|with_reducible rfl|skip)
  (simp only [vrt,Tryz.results4,vkt,seval,Zy];refine Fin.val rfl ?_;(try simp only [AV.le]))
  all_goals first|rfl|simp
 ·have d2:decide (e=0)=false:=decide_eq_false he
  repeat' first|(apply nx;with_reducible constructor)|apply uq (by decide)|((first|apply uz env|apply uj);intro Q hQ;simp only [vkt,seval,J8,Zy,aS,mTk,qD,qh,qd,pBag,Jo,RG,pRea,seqC,Zo,hsz,d1,hx0,hC,eC,b1,b2,hw2,hrw,hR,d2,decide_true,ite_and];(repeat' first|with_reducible assumption|apply vz|intro hp);all_goals first|(apply hQ;clear hQ Q)|(apply ux;kernel_rfl)|omega|assumption|with_reducible rfl|skip)
  (simp only [vrt,Tryz.results4,vkt,seval,Zy];refine Fin.val rfl ?_;(try simp only [AV.le]))
  all_goals first|rfl|simp
end Go.Sym.B
namespace Go.Sym.B
open Go Go.Sym Go.Proofs Go.RowKit
def spI:Sp:=.int .i64
theorem eI_of (r:List DV) (h:r.length=1) (hs:∀ (j:Nat) (s:Sp) (d:DV),[spI][j]?=some s->r[j]?=some d->D1 s d):∃ a,r=zG a:=by
 obtain ⟨d,rfl⟩:=List.length_eq_one_iff.1 h
 obtain ⟨n,rfl,_⟩:=(hs 0 spI d rfl rfl).int_inv
 exact ⟨n,rfl⟩
theorem flN:Fl Tryz.prog 26 [.sl [spI]]:=J3 (n:=6) (by kernel_rfl)
variable {H : Type} {enc : TypeId × Value -> H} {W : World} {base : Nat} {spare : Nat -> Bool} {held : Bool}
theorem Qhm {fuel:Nat} {v:Value} {x:DataW H × List MemPlace} (h:DataW.trod enc Tryz.prog W base spare held fuel 26 [v]=some x):∃ l:List Int,ARel W (okW W) QhB undef (qx l) v/\l.length<=maxLen:=by
 obtain ⟨ds,hd⟩:=Qjx flN h
 obtain ⟨d,rfl,h1,h2⟩:=hd.one_inv
 obtain ⟨l,rfl,hl⟩:=h1.sl_inv zG eI_of
 exact ⟨l,Uy h2,hl⟩
set_option maxRecDepth 100000 in
theorem ints_of {v:Value} {d:DataW H} {p:List MemPlace} {r:Reach} {b0:Nat} (h:DataW.Trod enc Tryz.prog W base spare held 26 v d p) (hu:Tryz.prog.underlying 26=some (.slice 3)) (hv:Value.okWide Tryz.prog W r b0 26 v):∃ l:List Int,ARel W (okW W) QhB undef (qx l) v/\l.length<=maxLen:=by
 obtain ⟨fuel,hf⟩:=h
 obtain ⟨a,n,c,rfl⟩:=WideShapes.okWide_slice hu hv
 exact Qhm hf
end Go.Sym.B
namespace Go.Sym.B
open Go Go.Sym Go.Proofs Go.RowKit
def laid7 : List (String × DataW Unit) := [("math/bits.deBruijn32tab", YtcmfagpdahhfpaaGreatDoor.Rows.laid_math_bits_deBruijn32tab), ("math/bits.deBruijn64tab", YtcmfagpdahhfpaaGreatDoor.Rows.laid_math_bits_deBruijn64tab), ("internal/strconv.uint64pow10", YtcmfagpdahhfpaaGreatDoor.Rows.laid_internal_strconv_uint64pow10), ("unicode/utf8.acceptRanges", YtcmfagpdahhfpaaGreatDoor.Rows.laid_unicode_utf8_acceptRanges), ("strconv.ErrRange", YtcmfagpdahhfpaaGreatDoor.Rows.laid_strconv_ErrRange), ("strconv.ErrSyntax", YtcmfagpdahhfpaaGreatDoor.Rows.laid_strconv_ErrSyntax), ("unicode/utf8.first", YtcmfagpdahhfpaaGreatDoor.Rows.laid_unicode_utf8_first)]
theorem QhA {H:Type} {enc:TypeId × Value->H} {P:Program} {w:World} {base:Nat} {sp:Nat->Bool} {held:Bool} {fuel:Nat} {t:TypeId} {cs:List Value} {nm:String} {d:DataW H} {p:List MemPlace} {ms:Array (String × TypeId)} (ht:P.underlying t=some (.interface ms)) (h:DataW.trod enc P w base sp held fuel t cs=some (.iface nm d,p)):∃ u v,cs=[.iface u v]:=by
 cases fuel with
 |zero=>simp [DataW.trod] at h
 |succ n =>
  unfold DataW.trod at h
  rw [ht] at h
  match cs,h with
  |[],h=>simp at h
  |[x],h =>
   cases x with
   |iface u v=>exact ⟨u,v,rfl⟩
   |_=>simp at h
  |_ :: _ :: _,h=>simp at h
theorem XD {P:Program} {w:World} {l:List (String × DataW Unit)} (h:laidMet P l w) {n:String} {nm:String} {d:DataW Unit} (hm:(n,DataW.iface nm d) ∈ l) {g:Nat} {t:TypeId} {ms:Array (String × TypeId)} (hg:P.globalNamed n=some g) (hty:(P.globals[g]?).map (·.type)=some t) (ht:P.underlying t=some (.interface ms)):∃ u v,w.cell? ⟨g,0,none⟩=some (.iface u v):=by
 obtain ⟨g',t',cs,fuel,p,h1,h2,h3,h4⟩:=Lib.laidMet.reads h hm
 obtain rfl:=Option.some.inj (hg.symm.trans h1)
 obtain rfl:=Option.some.inj (hty.symm.trans h2)
 obtain ⟨u,v,hc⟩:=QhA ht h4
 refine ⟨u,v, ?_⟩
 rw [World.var?_cell h1 h3 0]
 have:cs=#[Value.iface u v]:=by cases cs;simp_all
 rw [this];rfl
theorem tab_of {W:World} (hL:laidMetH Tryz.prog laid7 W) (hS:W.ShapedOpen Tryz.prog):TabT W:=by
 have hL:=hL
 rw [Go.MakeChecks.laidMetH_plain _ _ _ (by kernel_rfl)] at hL
 have h1 := laidMetH.filter (fun x => x.1 == "internal/strconv.uint64pow10") (show laidMetH Tryz.prog laid7 W by rw [Go.MakeChecks.laidMetH_plain _ _ _ (by kernel_rfl)]; exact hL)
 have e : laid7.filter (fun x => x.1 == "internal/strconv.uint64pow10") = [("internal/strconv.uint64pow10", Lib.tabData .u64 Lib.pow10Tab)] := by kernel_rfl
 rw [e,Go.MakeChecks.laidMetH_plain _ _ _ (by kernel_rfl)] at h1
 refine ⟨Lib.tabIs_of_head (g := (Tryz.prog.globalNamed "internal/strconv.uint64pow10").getD 0) (t := 293) (e := 90) (n := 20) (by kernel_rfl) (by kernel_rfl) Tryz.underlying293 Tryz.underlying90 (by kernel_rfl) (by kernel_rfl) h1,
  cell_of_shapedOpen_int (zero:=#[.int .i64 0]) (t:=3) hS (of_decide_eq_true (by kernel_rfl)) (by kernel_rfl) rfl (by kernel_rfl) (by kernel_rfl) Tryz.underlying3,
  XD hL (n := "strconv.ErrSyntax") (nm := "*errors.errorString") (d := .ptr (.agg [.lit (.string [105, 110, 118, 97, 108, 105, 100, 32, 115, 121, 110, 116, 97, 120])])) (.tail _ (.tail _ (.tail _ (.tail _ (.tail _ (.head _)))))) (t := 175) (by kernel_rfl) (by kernel_rfl) Tryz.underlying175,
  XD hL (n := "strconv.ErrRange") (nm := "*errors.errorString") (d := .ptr (.agg [.lit (.string [118, 97, 108, 117, 101, 32, 111, 117, 116, 32, 111, 102, 32, 114, 97, 110, 103, 101])])) (.tail _ (.tail _ (.tail _ (.tail _ (.head _))))) (t := 175) (by kernel_rfl) (by kernel_rfl) Tryz.underlying175⟩
theorem Wt {w w':World} (hb:Below w.heap.size w w') {a:Addr} {v:Value} (h:w.cell? a=some v):w'.cell? a=some v:=by
 have hlt:a.block < w.heap.size:=by
  by_cases hl:a.block < w.heap.size
  ·exact hl
  ·unfold World.cell? at h
   rw [cp (by omega)] at h
   simp at h
 rw [hb.cell hlt];exact h
theorem TabT.below {w w':World} (h:TabT w) (hb:Below w.heap.size w w'):TabT w':=by
 obtain ⟨m,hm⟩:=h.max
 obtain ⟨a,b,hs⟩:=h.syn
 obtain ⟨c,d,hr⟩:=h.rng
 exact ⟨Lib.tabBelow_of_tabIs h.pow w' hb,⟨m,Wt hb hm⟩,⟨a,b,Wt hb hs⟩,⟨c,d,Wt hb hr⟩⟩
noncomputable def doorW (os:Os):World :=
 {World.doorLaid Tryz.prog 4000 os with heap := (World.doorLaid Tryz.prog 4000 os).heap.setIfInBounds ((Tryz.prog.globalNamed "unicode/utf8.first").getD 0) (match (World.doorLaid Tryz.prog 4000 os).heap[(Tryz.prog.globalNamed "unicode/utf8.first").getD 0]? with
  |some (.cells _ t fr)=>.cells (Pinned.utf8FirstZ.map fun (n:Nat)=>Value.int .u8 (n:Int)).toArray t fr
  |_=>.cells #[] 0 (0,0)) }
theorem door_met (os:Os) (args:Array Value):laidMetH Tryz.prog laid7 ((doorW os).forCall (fun _ _=>0) ⟨#[],args,[]⟩).memory :=
 laidMetH_of_parts3 (fuel:=800) (laidMet_of_run' 800 (by kernel_rfl) (by kernel_rfl)) (by kernel_rfl) (by kernel_rfl)
theorem handed_laid {a:Assume} {C:Checked} {os:Os} {f:FuncId} {fn:Func} {s:ChangeSpec} {conds:List PathCond} {apart fresh handsOn again:Bool} {H:Type} {enc:TypeId × Value->H} {X:World->Prop} (hX:∀ w w':World,w.heap=w'.heap->X w->X w')
  (own:ownKnob C.prog.godebug=none) (started:os.Started) (noInit:C.prog.inits.idxOf? f=none) (hfn:C.prog.funcs[f]?=some fn)
  (witness:∃ (w:World) (tape:Tape) (i:Input),w.os=os/\(w.forCall tape i).Shaped C.prog/\i.vars=[]/\Input.okWide C.prog (w.forCall tape i) .any w.heap.size f i /\
   ((s.pre enc C.prog fn conds apart (w.forCall tape i).memory i.args/\X (w.forCall tape i).memory)/\sizedMet enc C.prog fn (OpenSpec.ofChange s) apart (w.forCall tape i).memory i.args)/\a.holds C.prog (lone (Frame.enter C.prog f i.args .normal) [] (w.forCall tape i)))
  (contract:∀ (W:World) (base:Nat) (args:Array Value) (ds gs:List (DataW H)) (before:List MemPlace),(∀ (j:Nat) t v,fn.params[j]?=some t->args[j]?=some v->Value.okWide C.prog W .any base t v)->DataW.Whole enc C.prog fn.params.toList s.vars apart W args.toList ds gs before->X W->W.ShapedOpen C.prog ->
   Calls C.prog f args W fun e W'=>∃ v,e=.returned v/\s.post enc C.prog fn apart fresh handsOn again W args v W') :
  ReturnsInHanded a C os f .any (fun w args=>(s.pre enc C.prog fn conds apart w args/\X w)/\sizedMet enc C.prog fn (OpenSpec.ofChange s) apart w args) (s.post enc C.prog fn apart fresh handsOn again):=by
 refine returnsInHanded_of_calls own started noInit witness fun w tape i _ hsh _ hok hpre _=>?_
 obtain ⟨_,_,_,fn',hfn',_,_,_,_,hval⟩:=hok
 obtain rfl:fn'=fn:=Option.some.inj (hfn'.symm.trans hfn)
 obtain ⟨⟨⟨ds,gs,before,hw,_⟩,hx⟩,_⟩:=hpre
 refine (contract (w.forCall tape i) w.heap.size i.args ds gs before hval (DataW.Whole.of_heap (w:=(w.forCall tape i).memory) (w':=w.forCall tape i) rfl hw) (hX (w.forCall tape i).memory _ rfl hx) hsh).mono fun e W' ⟨v,he,hp⟩=>?_
 subst he
 exact ChangeSpec.post_blind hp
end Go.Sym.B
