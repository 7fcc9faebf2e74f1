/- Walks and what they compute, joined: part 1. -/
import Derived.Test.YtcmfagpdahhfpaaGreatDoorZB3
import Derived.Lib.AppendIntMem
import Derived.WalkKit
import Derived.BigCall
import Derived.WalkSmall
import Derived.Lib.SplitLaws
import Derived.Recover
import Derived.TacticsInMore
import Derived.RegionIn
import Derived.RecoverIn
import Derived.IntWalk
import Derived.Lib.CountLaws
import Derived.Lib.ItoaNum
import Derived.Lib.IndexMore
import Derived.Test.YtcmfagpdahhfpaaGreatDoorRows
import Derived.MakeChecks
import Derived.LaidSub
import Derived.LaidMore
import Derived.Lib.LaidU8
import Derived.Lib.LaidTab
import Derived.Shelf.Vars
import Derived.Handed
import GoSem.PinnedTables
set_option linter.all false
set_option maxHeartbeats 40000000
namespace Go.Sym.B
open Go Go.Sym Go.Proofs Go.Proofs.Tryz Go.Sym.C Go.RowKit
def _root_.Go.Sym.vz {a b:Prop} (x:a) (y:b):a/\b:=⟨x,y⟩
def _root_.Go.Sym.uq:=@YR
def _root_.Go.Sym.ux:=@LG
def _root_.Go.Sym.uz:=@QcV
def _root_.Go.Sym.uj:=@Qhi
def _root_.Go.Sym.uk:=@Qez
def _root_.Go.Sym.uw:=@Qe8
def _root_.Go.Sym.uv:=@QbI
def _root_.Go.Sym.vq:=@Qjz
def _root_.Go.Sym.vx:=@QhC
def aS (s:List UInt8):AV:=.v (.string ⟨⟨s⟩⟩)
def ql (l:List (List UInt8)):AV:=.sl (l.map qF)
def vU:List DV->List UInt8
 |[.v (.string ⟨⟨s⟩⟩)]=>s
 |_=>[]
def Qe6 (l:List (List UInt8)):(l.map qF).map vU=l:=by rw [bT];exact (cV fun _ _=>rfl).trans (List.map_id _)
def Yl (l:List (List UInt8)):zu 1 (l.map qF)=True:=yo (f:=qF) (k:=1) (fun _=>rfl) l
def q9 (n:Int):List UInt8:=if n < 10 then [UInt8.ofNat (48+n.toNat)] else [UInt8.ofNat (48+n.toNat / 10),UInt8.ofNat (48+n.toNat % 10)]
def wO (n:Int):(q9 n).length<=2:=by unfold q9;split <;> simp
def Qkc {n:Nat} (h:n < 100):Lib.decDigits n=q9 n:=by
 unfold q9 Lib.decDigits
 by_cases h1:n < 10
 ·rw [dif_pos h1,if_pos (by omega)];rfl
 ·rw [dif_neg h1,if_neg (by omega)]
  unfold Lib.decDigits
  rw [dif_pos (by omega)]
  rfl
def Qi3 (n:Int) (h0:0<=n) (h1:n < 100):FnV prog 43 [aI n] (aS (q9 n)):=Fn.of_calls (fun vs w=>by kernel_rfl) rfl fun w ok ρ y vs _ hs ha=>by
 obtain ⟨m,rfl⟩:∃ m:Nat,n=m:=⟨n.toNat,by omega⟩
 obtain ⟨v,rfl⟩:∃ v,vs=#[v]:=by
  match vs,hs with
  |⟨[v]⟩,_=>exact ⟨v,rfl⟩
 have h2:=ha 0 _ rfl
 have h2:ARel w ok ρ y (.v (.int .i64 m)) v:=h2
 cases h2 with
 |v _ =>
  refine zY (Tryz.strconv_Itoa_small m (by omega) w) fun e w' ⟨he,hw⟩=>⟨?_,by rw [hw];exact Below.refl _ _⟩
  rw [he,<- Qkc (by omega)]
def Qi5 (l:List (List UInt8)) (sep:List UInt8) (h1:l.length<=100000) (h2:(Lib.join l sep).length<=140737488355328):FnV prog 45 [ql l,aS sep] (aS (Lib.join l sep)):=Fn.of_calls (fun vs w=>by kernel_rfl) rfl fun w ok ρ y vs _ hs ha=>by
 obtain ⟨v,u,rfl⟩:∃ v u,vs=#[v,u]:=by
  match vs,hs with
  |⟨[v,u]⟩,_=>exact ⟨v,u,rfl⟩
 have h3:ARel w ok ρ y (aS sep) u:=ha 1 _ rfl
 have h4:=QjP (show ARel w ok ρ y (.sl (l.map qF)) v from ha 0 _ rfl)
 unfold aS at h3
 cases h3 with
 |v _ =>
  rcases h4 with ⟨rfl,a,c,rfl⟩|⟨b,o,c,rfl,hp,hc,hm,hb,hcell⟩
  ·exact zY (Tryz.strings_Join_none a c ⟨⟨sep⟩⟩ w) fun e w' ⟨he,hw⟩=>⟨he,by rw [hw];exact Below.refl _ _⟩
  ·have e1:(l.map fun s=>(⟨⟨s⟩⟩:ByteArray)).map (·.data.toList)=l:=by rw [bT];exact (cV fun _ _=>rfl).trans (List.map_id _)
   have:=Tryz.strings_Join b o c (l.map fun s=>(⟨⟨s⟩⟩:ByteArray)) ⟨⟨sep⟩⟩ w (fun j x hx=>by
    rw [aC] at hx
    obtain ⟨s,hs,rfl⟩:=aG.1 hx
    exact hcell j s hs) hb (by simp;omega) (by simp;omega) (by rw [e1];exact h2)
   rw [e1] at this
   simp only [ao] at this
   exact this
def Qi:List AV->Prop × AV
 |[.v (.int .i64 n)]=>(0<=n/\n < 100,aS (q9 n))
 |_=>(False,.junk)
def Qg8 {A:Frm->Prop}:qm A prog 43 (zw true Qi):=qL fun vs hv h=>by
 clear hv
 unfold Qi at h ⊢
 split at h
 ·rename_i n;obtain ⟨k0,k1⟩:=h
  refine ⟨by first|trivial|(repeat' split) <;> simp [AV.plain,AV.plainL,aI,aB,qz,qc,qy,qw,aTk,cTk,aS,ql],fun _=>(by simp [AV.flat,aS]), ?_⟩
  have:=Qi3 n k0 k1
  simp only [aI] at this
  first|exact this|(simp only [aI];exact this)
 ·exact h.elim
def QcL:List AV->Prop × AV
 |[.sl l,.v (.string ⟨⟨s⟩⟩)]=>(l=(l.map vU).map qF/\(l.map vU).length<=100000/\(Lib.join (l.map vU) s).length<=140737488355328,aS (Lib.join (l.map vU) s))
 |_=>(False,.junk)
def QlE {A:Frm->Prop}:qm A prog 45 (zw true QcL):=qL fun vs hv h=>by
 clear hv
 unfold QcL at h ⊢
 split at h
 ·rename_i l s;obtain ⟨q0,k0,k1⟩:=h
  refine ⟨by first|trivial|(repeat' split) <;> simp [AV.plain,AV.plainL,aI,aB,qz,qc,qy,qw,aTk,cTk,aS,ql],fun _=>(by simp [AV.flat,aS]), ?_⟩
  have:=Qi5 (l.map vU) s k0 k1
  simp only [aS,ql,<- q0] at this
  first|exact this|(simp only [aS,ql,<- q0];exact this)
 ·exact h.elim
def QgT (l:List (List UInt8)) (h1:l.length<=100000) (h2:(Lib.join l [32]).length<=140737488355328):FnV prog 42 [ql l] (aS (Lib.join l [32])):=by
 have env:=qA (A:=fun _=>True) (kC QlE kN)
 refine kV (Fn0 func42 rfl (fun vs w=>by kernel_rfl) (by kernel_rfl)) (by simp) (by simp [AV.ids,ql]) ?_
 repeat' first|(apply nx;with_reducible constructor)|apply uq (by decide)|((first|apply uz env|apply uj);intro Q hQ;simp only [vkt,seval,aS,ql,QcL,Qe6,ite_and];(repeat' first|with_reducible assumption|apply vz|intro hp);all_goals first|(apply hQ;clear hQ Q)|(apply ux;kernel_rfl)|omega|assumption|rfl|skip)
 (simp only [vrt,results42,vkt,seval,aS];refine Fin.val rfl ?_;(try simp only [AV.le]))
 all_goals first|rfl|simp
def Q7:List AV->Prop × AV
 |[.sl l]=>(l=(l.map vU).map qF/\(l.map vU).length<=100000/\(Lib.join (l.map vU) [32]).length<=140737488355328,aS (Lib.join (l.map vU) [32]))
 |_=>(False,.junk)
def Qma {A:Frm->Prop}:qm A prog 42 (zw true Q7):=qL fun vs hv h=>by
 clear hv
 unfold Q7 at h ⊢
 split at h
 ·rename_i l;obtain ⟨q0,k0,k1⟩:=h
  refine ⟨by first|trivial|(repeat' split) <;> simp [AV.plain,AV.plainL,aI,aB,qz,qc,qy,qw,aTk,cTk,aS,ql],fun _=>(by simp [AV.flat,aS]), ?_⟩
  have:=QgT (l.map vU) k0 k1
  simp only [ql,<- q0] at this
  first|exact this|(simp only [ql,<- q0];exact this)
 ·exact h.elim
def Qfm:=vz @ty9 @ti9.eq_1
def QmX:=vz @aI.eq_1 (@aB.eq_1)
def QkG (a:Int) (s:List UInt8) (b:Int) (h0:0<=a) (h1:a < 100) (h2:0<=b) (h3:b < 100) (h4:s.length<=100):FnV prog 44 [aI a,aS s,aI b] (aS (q9 a++s++q9 b)):=by
 have env:=qA (A:=fun _=>True) (kC Qg8 kN)
 refine kV (Fn0 func44 rfl (fun vs w=>by kernel_rfl) (by kernel_rfl)) (by simp) (by simp [AV.ids,aI,aS]) ?_
 have l1:=wO a
 have l2:=wO b
 have e1:(q9 a++s).length+(q9 b).length<=9223372036854775807:=by rw [aA];omega
 repeat' first|(apply nx;with_reducible constructor)|apply uq (by decide)|((first|apply uz env|apply uj);intro Q hQ;simp only [vkt,seval,Qfm,QmX,aS,Qi,ite_and];(repeat' first|with_reducible assumption|apply vz|intro hp);all_goals first|(apply hQ;clear hQ Q)|(apply ux;kernel_rfl)|omega|assumption|rfl|skip)
 (simp only [vrt,results44,vkt,seval,aS];refine Fin.val rfl ?_;(try simp only [AV.le]))
 all_goals first|rfl|simp
def KO:List AV->Prop × AV
 |[.v (.int .i64 a),.v (.string ⟨⟨s⟩⟩),.v (.int .i64 b)]=>(0<=a/\a < 100/\0<=b/\b < 100/\s.length<=100,aS (q9 a++s++q9 b))
 |_=>(False,.junk)
def epair {A:Frm->Prop}:qm A prog 44 (zw true KO):=qL fun vs hv h=>by
 clear hv
 unfold KO at h ⊢
 split at h
 ·rename_i a s b;obtain ⟨k0,k1,k2,k3,k4⟩:=h
  refine ⟨by first|trivial|(repeat' split) <;> simp [AV.plain,AV.plainL,aI,aB,qz,qc,qy,qw,aTk,cTk,aS,ql],fun _=>(by simp [AV.flat,aS]), ?_⟩
  have:=QkG a s b k0 k1 k2 k3 k4
  simp only [aI,aS] at this
  first|exact this|(simp only [aI,aS];exact this)
 ·exact h.elim
structure TabT (w:World):Prop where
 pow : Lib.TabIs prog w "internal/strconv.uint64pow10" .u64 Lib.pow10Tab
 max:∃ m,w.cell? ⟨1,0,none⟩=some (.int .i64 m)
 syn:∃ te pe,w.cell? ⟨6,0,none⟩=some (.iface te pe)
 rng:∃ te pe,w.cell? ⟨7,0,none⟩=some (.iface te pe)
def ji (s:List UInt8):Option Int:=match Lib.atoiAll s with
 |.ok v=>if v < 0\/3 < s.length\/Lib.itoa v ≠ s then none else some v
 |_=>none
def refusal:List PanicEntry:=[{ v:=.iface 182 (.agg #[]),recovered:=false }]
def WJ (s:List UInt8):Ending:=match ji s with
 |some n=>.returned (.int .i64 n)
 |none=>.panicked refusal
def QdB {s:List UInt8} {v:Int} (h:Lib.atoiAll s=.ok v):-9223372036854775808<=v/\v<=9223372036854775807:=by
 unfold Lib.atoiAll at h
 split at h
 ·cases h
 ·dsimp only at h
  split at h
  ·cases h
  ·cases h
  ·split at h
   ·cases h
   ·split at h
    ·cases h
    ·injection h with h
     split at h <;> omega
set_option maxRecDepth 100000 in
def QiO (s:List UInt8) (hl:s.length<=100000) (w:World) (h:Lib.atoiAll s=.range) {te1:TypeId} {pe1:Value} (hrng:w.cell? ⟨7,0,none⟩=some (.iface te1 pe1)):Calls prog 155 #[.string ⟨⟨s⟩⟩] w fun e w'=>e=WJ s/\Below w.heap.size w w':=by
 have e:WJ s=.panicked refusal:=by simp only [WJ,ji,h]
 go_enter func155,ntmps155
 go_wp2_with (go_at_call 199;refine (Tryz.strconv_Atoi_range ⟨⟨s⟩⟩ (by show s.length<=_;omega) h _ _ hrng (.inr ⟨_,_,rfl⟩)).mono ?_;rintro _ W1 ⟨N,rfl,-,-,hb⟩)
 exact ⟨rfl,e.symm,hb⟩
set_option maxRecDepth 100000 in
def J6 (s:List UInt8) (hl:s.length<=100000) (w:World) (hT:TabT w):Calls prog 155 #[.string ⟨⟨s⟩⟩] w fun e w'=>e=WJ s/\Below w.heap.size w w':=by
 obtain ⟨⟨te0,pe0,hsyn⟩,⟨te1,pe1,hrng⟩⟩:=dT hT.syn hT.rng
 cases h:Lib.atoiAll s
 case ok v =>
  go_enter func155,ntmps155
  go_wp2_with (go_at_call 199;refine (Tryz.strconv_Atoi_ok ⟨⟨s⟩⟩ (by show s.length<=_;omega) v h _).mono ?_;rintro e w' ⟨rfl,hw⟩)
  all_goals
   have hw:Below w.heap.size w w':=by
    rcases hw with rfl|⟨t,rfl⟩
    ·exact Below.refl _ _
    ·exact Lib.bytesWorld_below _ _ _
  ·have htab:=Lib.tabBelow_of_tabIs hT.pow w' hw
   refine (Tryz.strconv_Itoa v (QdB h).1 (QdB h).2 w' htab).mono ?_
   rintro e w2 ⟨rfl,k,os,rfl⟩
   have hw2:=hw.trans (Lib.below_grow (B:=w.heap.size) w' hw.size k os)
   go_wp2
   ·rename_i hne _ _
    have hne:Lib.itoa v ≠ s:=by rcases hne with (h1|h1)|h1 <;> first|omega|simpa using h1
    have e:WJ s=.panicked refusal:=by simp only [WJ,ji,h];rw [if_pos (.inr (.inr hne))]
    exact ⟨rfl,e.symm,hw2⟩
   ·rename_i h0 h3 hne
    have e:WJ s=.returned (.int .i64 v):=by
     simp only [WJ,ji,h]
     have h4:Lib.itoa v=s:=by simpa using hne.2
     rw [if_neg (by rintro (h1|h1|h1) <;> first|omega|exact h1 h4)]
    go_ret
    exact ⟨e.symm,hw2⟩
  ·have e:WJ s=.panicked refusal:=by simp only [WJ,ji,h];rw [if_pos (.inr (.inl (by omega)))]
   exact ⟨rfl,e.symm,hw⟩
  ·have e:WJ s=.panicked refusal:=by simp only [WJ,ji,h];rw [if_pos (.inl (by omega))]
   exact ⟨rfl,e.symm,hw⟩
 case range=>exact QiO s hl w h hrng
 ·have e:WJ s=.panicked refusal:=by simp only [WJ,ji,h]
  go_enter func155,ntmps155
  go_wp2_with (go_at_call 199;refine (Tryz.strconv_Atoi_syntax ⟨⟨s⟩⟩ (by show s.length<=_;omega) h _ _ hsyn (.inr ⟨_,_,rfl⟩)).mono ?_)
  rintro _ W1 ⟨N,rfl,-,-,hb⟩
  go_wp2
  exact ⟨rfl,e.symm,hb⟩
def Wx {w:World} {ok:Nat->Prop} {ρ:Nat->Value} {y:Value} {s:List UInt8} {v:Value} (h:ARel w ok ρ y (aS s) v):v=.string ⟨⟨s⟩⟩:=by
 unfold aS at h;cases h;rfl
def QdL {vs:Array Value} (hs:vs.size=1):∃ v,vs=#[v]:=by
 match vs,hs with
 |⟨[v]⟩,_=>exact ⟨v,rfl⟩
def UN {vs:Array Value} (hs:vs.size=2):∃ v u,vs=#[v,u]:=by
 match vs,hs with
 |⟨[v,u]⟩,_=>exact ⟨v,u,rfl⟩
def Qe1 (s:List UInt8) (h:(ji s).isSome=true) (hl:s.length<=100000):Fn (jd TabT) prog 155 [aS s] noH (aI ((ji s).getD 0)) noH 0:=FnG.of_callsT (fun vs w=>by kernel_rfl) fun w ok ρ y vs hT _ hs ha=>by
 obtain ⟨v,rfl⟩:=QdL hs
 obtain rfl:=Wx (ha 0 _ rfl)
 refine zY (J6 s hl w hT) fun e w' ⟨he,hw⟩=>?_
 obtain ⟨n,hn⟩:=cU.1 h
 exact ⟨.int .i64 n,by rw [he,WJ,hn],hw,fun _ _ _=>by rw [hn];exact .v rfl⟩
def Qhs (s:List UInt8) (h:ji s=none) (hl:s.length<=100000):FnX refusal (jd TabT) prog 155 [aS s] noH noH:=FnX.of_callsT (fun vs w=>by kernel_rfl) fun w ok ρ y vs hT _ hs ha=>by
 obtain ⟨v,rfl⟩:=QdL hs
 obtain rfl:=Wx (ha 0 _ rfl)
 refine zY (J6 s hl w hT) fun e w' ⟨he,hw⟩=>⟨by rw [he,WJ,h],hw⟩
def QG:List AV->Prop
 |[.v (.string ⟨⟨s⟩⟩)]=>ji s=none/\s.length<=100000
 |_=>False
def Zi:XOK (zW TabT) prog 155 (Qu refusal QG):=K6 fun l h=>by
 unfold QG at h
 split at h
 ·exact Qhs _ h.1 h.2
 ·exact h.elim
def QmR (s sep:List UInt8) (hl:s.length<=100000):Fn (jd TabT) prog 207 [aS s,aS sep] noH (.tup [aS (Lib.cut s sep).1,aS (Lib.cut s sep).2.1,aB (Lib.cut s sep).2.2]) noH 0:=FnG.of_callsT (fun vs w=>by kernel_rfl) fun w ok ρ y vs hT _ hs ha=>by
 obtain ⟨v,u,rfl⟩:=UN hs
 obtain rfl:=Wx (ha 0 _ rfl)
 obtain rfl:=Wx (ha 1 _ rfl)
 obtain ⟨m,hm⟩:=hT.max
 refine zY (Tryz.strings_Cut ⟨⟨s⟩⟩ ⟨⟨sep⟩⟩ m w (by show s.length < _;omega) hm) fun e w' ⟨he,n,hw⟩=>?_
 refine ⟨_,he, ?_,fun ok' _ _=>.tup rfl fun i c hc=>?_⟩
 ·rw [hw];exact ⟨rfl,rfl,rfl,aw _,fun _ _=>rfl⟩
 ·match i,hc with
  |0,hc=>simp only [aJ,al] at hc;subst hc;exact .v rfl
  |1,hc=>simp only [bw,aJ,al] at hc;subst hc;exact .v rfl
  |2,hc=>simp only [bw,aJ,al] at hc;subst hc;exact .v rfl
  |i+3,hc=>simp at hc
def Qds (s sep:List UInt8):(Lib.cut s sep).1.length<=s.length/\(Lib.cut s sep).2.1.length<=s.length:=by
 unfold Lib.cut
 split <;> constructor <;> simp <;> omega
def jY (s sep:List UInt8):Option (Int × Int):=if (Lib.cut s sep).2.2=true then match ji (Lib.cut s sep).1,ji (Lib.cut s sep).2.1 with
 |some a,some b=>some (a,b)
 |_,_=>none
 else none
def qP:List AV->Prop × AV
 |[.v (.string ⟨⟨s⟩⟩)]=>((ji s).isSome=true/\s.length<=100000,aI ((ji s).getD 0))
 |_=>(False,.junk)
def wL:qm (zW TabT) prog 155 (zw true qP):=Jw fun vs hv h=>by
 clear hv
 unfold qP at h ⊢
 split at h
 ·rename_i s;obtain ⟨k0,k1⟩:=h
  refine ⟨by first|trivial|(repeat' split) <;> simp [AV.plain,AV.plainL,aI,aB,qz,qc,qy,qw,aTk,cTk],fun _=>(by simp [AV.flat,aI]), ?_⟩
  have:=Qe1 s k0 k1
  simp only [aS] at this
  first|exact this|(simp only [aS];exact this)
 ·exact h.elim
def XH:List AV->Prop × AV
 |[.v (.string ⟨⟨s⟩⟩),.v (.string ⟨⟨t⟩⟩)]=>(s.length<=100000,.tup [aS (Lib.cut s t).1,aS (Lib.cut s t).2.1,aB (Lib.cut s t).2.2])
 |_=>(False,.junk)
def ecut:qm (zW TabT) prog 207 (zw true XH):=Jw fun vs hv h=>by
 clear hv
 unfold XH at h ⊢
 split at h
 ·rename_i s t;have k0:s.length<=100000:=h;clear h
  refine ⟨by first|trivial|(repeat' split) <;> simp [AV.plain,AV.plainL,aI,aB,qz,qc,qy,qw,aTk,cTk,aS,ql],fun _=>(by simp [AV.flat,AV.flatL,aB,aS]), ?_⟩
  have:=QmR s t k0
  simp only [aS] at this
  first|exact this|(simp only [aS];exact this)
 ·exact h.elim
def J8:=vz @UZ @YU.eq_1
def Qcz:=vz @aI.eq_1 (@aB.eq_1)
def QmS (s sep:List UInt8) (hl:s.length<=100000) (h:(jY s sep).isSome=true):Fn (jd TabT) prog 200 [aS s,aS sep] noH (.tup [aI ((jY s sep).getD (0,0)).1,aI ((jY s sep).getD (0,0)).2]) noH 0:=by
 have env:=qA (A:=zW TabT) (kC wL (kC ecut kN))
 refine kT (Fn0 func200 rfl (fun vs w=>by kernel_rfl) (by kernel_rfl)) (by simp) (by simp [AV.ids,aS]) ?_
 have ⟨l1,l2⟩:=Qds s sep
 unfold jY at h ⊢
 obtain ⟨⟨c1,c2,c3⟩,hc⟩:∃ c,Lib.cut s sep=c:=⟨_,rfl⟩
 rw [hc] at l1 l2 h ⊢
 split at h
 ·rename_i h0
  split at h
  ·rename_i a b h1 h2
   dsimp only at h0 h1 h2 l1 l2 ⊢
   subst h0
   have g1:c1.length<=100000:=by omega
   have g2:c2.length<=100000:=by omega
   have e1:(ji c1).isSome=true:=by rw [h1];rfl
   have e2:(ji c2).isSome=true:=by rw [h2];rfl
   repeat' first|(apply nx;with_reducible constructor)|apply uq (by decide)|refine vq ?_|refine vx ?_|(refine uk env 2 rfl rfl rfl (fun Q hQ=>?_);simp only [vkt,seval,J8,Qcz,aS,qP,XH,QG,hc,h1,h2,e1,e2,g1,g2,hl];(try simp only [ite_and]);(repeat' first|with_reducible assumption|apply vz);all_goals (first|(refine ⟨_,_,rfl,hQ _ _ ?_⟩;clear hQ Q)|(apply ux;kernel_rfl)|omega|assumption|rfl|skip))|((first|apply uz env|apply uj);intro Q hQ;simp only [vkt,seval,Qcz,aS,qP,XH,hc,h1,h2,g1,g2,hl,ite_and];(repeat' first|with_reducible assumption|apply vz|intro hp);all_goals first|(apply hQ;clear hQ Q)|(apply ux;kernel_rfl)|omega|assumption|rfl|skip)
   (simp only [vrt,results200,vkt,seval,Qcz];refine Fin.val rfl ?_;(try simp only [AV.le,AV.leL]))
   all_goals first|rfl|simp
  ·cases h
 ·cases h
def ko:List AV->Prop × AV
 |[.v (.string ⟨⟨s⟩⟩),.v (.string ⟨⟨t⟩⟩)]=>(s.length<=100000/\(jY s t).isSome=true,.tup [aI ((jY s t).getD (0,0)).1,aI ((jY s t).getD (0,0)).2])
 |_=>(False,.junk)
def Qfy:qm (zW TabT) prog 200 (zw true ko):=Jw fun vs hv h=>by
 clear hv
 unfold ko at h ⊢
 split at h
 ·rename_i s t;obtain ⟨k0,k1⟩:=h
  refine ⟨by first|trivial|(repeat' split) <;> simp [AV.plain,AV.plainL,aI,aB,qz,qc,qy,qw,aTk,cTk],fun _=>(by simp [AV.flat,AV.flatL,aI]), ?_⟩
  have:=QmS s t k0 k1
  simp only [aS] at this
  first|exact this|(simp only [aS];exact this)
 ·exact h.elim
def YL:=vz @aI.eq_1 (@aB.eq_1)
def two_x (s sep:List UInt8) (hl:s.length<=100000) (h:jY s sep=none):FnX refusal (jd TabT) prog 200 [aS s,aS sep] noH noH:=by
 have env:=qA (A:=zW TabT) (kC wL (kC ecut kN))
 refine FnX.of (A:=zW TabT) (n0:=0) (Fn0 func200 rfl (fun vs w=>by kernel_rfl) (by kernel_rfl)) (by simp) (by simp [AV.ids,aS]) (fun i o h=>by cases h) (fun _ hB _ _=>hB) ?_
 have ⟨l1,l2⟩:=Qds s sep
 unfold jY at h
 obtain ⟨⟨c1,c2,c3⟩,hc⟩:∃ c,Lib.cut s sep=c:=⟨_,rfl⟩
 rw [hc] at l1 l2 h
 dsimp only at l1 l2 h
 have g1:c1.length<=100000:=by omega
 have g2:c2.length<=100000:=by omega
 cases c3 with
 |false =>
  repeat' first|(apply nx;with_reducible constructor)|apply uq (by decide)|refine vq ?_|refine vx ?_|(refine uk env 2 rfl rfl rfl (fun Q hQ=>?_);simp only [vkt,seval,J8];(try simp only [ite_and]);(repeat' first|with_reducible assumption|apply vz);all_goals (first|(refine ⟨_,_,rfl,hQ _ _ ?_⟩;clear hQ Q)|(apply ux;kernel_rfl)|omega|assumption|rfl|skip))|((first|apply uz env|apply uj);intro Q hQ;simp only [vkt,seval,YL,aS,XH,hc,hl,ite_and];(repeat' first|with_reducible assumption|apply vz|intro hp);all_goals first|(apply hQ;clear hQ Q)|(apply ux;kernel_rfl)|omega|assumption|rfl|skip)
  exact ⟨rfl,rfl,Fin.val rfl (by simp only [AV.le])⟩
 |true =>
  rw [if_pos rfl] at h
  cases h1:ji c1 with
  |none =>
   repeat' first|(apply nx;with_reducible constructor)|apply uq (by decide)|refine vq ?_|refine vx ?_|(refine uk env 2 rfl rfl rfl (fun Q hQ=>?_);simp only [vkt,seval,J8,YL,aS,qP,XH,QG, hc,hl,h1,g1];(try simp only [ite_and]);(repeat' first|with_reducible assumption|apply vz);all_goals (first|(refine ⟨_,_,rfl,hQ _ _ ?_⟩;clear hQ Q)|(apply ux;kernel_rfl)|omega|assumption|rfl|skip))|(refine uw env Zi 1 rfl rfl (fun Q hQ=>?_);simp only [yM,Qu,vkt,seval,aS,QG, h1,g1];(try simp only [ite_and]);(repeat' first|with_reducible assumption|apply vz|intro hp);all_goals (first|(refine hQ _ _ _ ?_;clear hQ Q)|(apply ux;kernel_rfl)|omega|assumption|(with_reducible rfl)))|((first|apply uz env|apply uj);intro Q hQ;simp only [vkt,seval,YL,aS,XH,hc,hl,ite_and];(repeat' first|with_reducible assumption|apply vz|intro hp);all_goals first|(apply hQ;clear hQ Q)|(apply ux;kernel_rfl)|omega|assumption|rfl|skip)
   exact ⟨rfl,rfl,Fin.val rfl (by simp only [AV.le])⟩
  |some a =>
   have e1:(ji c1).isSome=true:=by rw [h1];rfl
   have h2:ji c2=none:=by
    cases h2:ji c2 with
    |none=>rfl
    |some b=>rw [h1,h2] at h;cases h
   repeat' first|(apply nx;with_reducible constructor)|apply uq (by decide)|refine vq ?_|refine vx ?_|(refine uk env 2 rfl rfl rfl (fun Q hQ=>?_);simp only [vkt,seval,J8,YL,aS,qP,XH,QG, hc,hl,h1,g1,h2,g2,e1];(try simp only [ite_and]);(repeat' first|with_reducible assumption|apply vz);all_goals (first|(refine ⟨_,_,rfl,hQ _ _ ?_⟩;clear hQ Q)|(apply ux;kernel_rfl)|omega|assumption|rfl|skip))|(refine uw env Zi 3 rfl rfl (fun Q hQ=>?_);simp only [yM,Qu,vkt,seval,YL,aS,qP,XH,QG, hc,hl,h1,g1,h2,g2];(try simp only [ite_and]);(repeat' first|with_reducible assumption|apply vz|intro hp);all_goals (first|(refine hQ _ _ _ ?_;clear hQ Q)|(apply ux;kernel_rfl)|omega|assumption|(with_reducible rfl)))|((first|apply uz env|apply uj);intro Q hQ;simp only [vkt,seval,YL,aS,XH,hc,hl,ite_and];(repeat' first|with_reducible assumption|apply vz|intro hp);all_goals first|(apply hQ;clear hQ Q)|(apply ux;kernel_rfl)|omega|assumption|rfl|skip)
   exact ⟨rfl,rfl,Fin.val rfl (by simp only [AV.le])⟩
def vX:List AV->Prop
 |[.v (.string ⟨⟨s⟩⟩),.v (.string ⟨⟨t⟩⟩)]=>jY s t=none/\s.length<=100000
 |_=>False
def Qaz:XOK (zW TabT) prog 200 (Qu refusal vX):=K6 fun l h=>by
 unfold vX at h
 split at h
 ·exact two_x _ _ h.2 h.1
 ·exact h.elim
def spS (s sep:List UInt8):List (List UInt8):=(Lib.splitB ⟨⟨sep⟩⟩ 0 (Lib.countB ⟨⟨s⟩⟩ ⟨⟨sep⟩⟩) ⟨⟨s⟩⟩).map (·.data.toList)
def QcT {s sep:List UInt8} (h1:1<=sep.length):(spS s sep).length=Lib.countB ⟨⟨s⟩⟩ ⟨⟨sep⟩⟩+1:=by
 unfold spS
 rw [ao,Lib.splitB_all ⟨⟨sep⟩⟩ h1 0 _ _ rfl]
def xg {s sep:List UInt8} (h1:1<=sep.length):0 < (spS s sep).length/\(spS s sep).length<=s.length+1:=by
 have:=Lib.countB_le ⟨⟨sep⟩⟩ h1 s.length ⟨⟨s⟩⟩ (aw _)
 have e:(⟨⟨s⟩⟩:ByteArray).size=s.length:=rfl
 rw [e] at this
 rw [QcT h1];omega
def QgW (s sep:List UInt8) (hl:s.length<=100000) (h1:1<=sep.length):Fn (jd TabT) prog 96 [aS s,aS sep] noH (ql (spS s sep)) noH 0:=FnG.of_callsT (fun vs w=>by kernel_rfl) fun w ok ρ y vs hT _ hs ha=>by
 obtain ⟨v,u,rfl⟩:=UN hs
 obtain rfl:=Wx (ha 0 _ rfl)
 obtain rfl:=Wx (ha 1 _ rfl)
 obtain ⟨m,hm⟩:=hT.max
 refine zY (Tryz.strings_Split ⟨⟨s⟩⟩ ⟨⟨sep⟩⟩ m w (by show s.length < _;omega) hm h1) fun e w' ⟨he,hw⟩=>?_
 have hle:=xg (s:=s) h1
 have hmx:(100001:Nat)<=maxLen:=by decide
 have hc:(Lib.splitB ⟨⟨sep⟩⟩ 0 (Lib.countB ⟨⟨s⟩⟩ ⟨⟨sep⟩⟩) ⟨⟨s⟩⟩).map Value.string=(spS s sep).map fun s=>Value.string ⟨⟨s⟩⟩:=by
  unfold spS
  rw [bT]
  rfl
 rw [hc] at hw
 rw [<- QcT h1] at he
 refine ⟨_,he, ?_,fun ok' _ hfr=>Qg4 hw hle.1 (by omega) (hfr _ (aw _) (by rw [hw];exact Nat.lt_of_lt_of_eq (Nat.lt_succ_self _) (Array.size_push (xs:=w.heap) _).symm))⟩
 rw [hw]
 exact (Below.refl _ w).alloc (aw _) _
def zB:List AV->Prop × AV
 |[.v (.string ⟨⟨s⟩⟩),.v (.string ⟨⟨t⟩⟩)]=>(s.length<=100000/\1<=t.length,ql (spS s t))
 |_=>(False,.junk)
def xq:qm (zW TabT) prog 96 (zw false zB):=Jw fun vs hv h=>by
 clear hv
 unfold zB at h ⊢
 split at h
 ·rename_i s t;obtain ⟨k0,k1⟩:=h
  refine ⟨by first|trivial|(repeat' split) <;> simp [AV.plain,AV.plainL,aI,aB,qz,qc,qy,qw,aTk,cTk,aS,ql],fun h=>absurd h (by decide), ?_⟩
  have:=QgW s t k0 k1
  simp only [aS] at this
  first|exact this|(simp only [aS];exact this)
 ·exact h.elim
def Xc (w:List UInt8):Option Int:=if w=[119] then some 1 else if w=[109] then some 2 else none
def tk5 (w1 w2 w3 w4:List UInt8) (dog:Bool):Option Tk:=match ji w1,Xc w2,jY w3 [46],jY w4 [62] with
 |some a,some s,some p,some q=>some ⟨a,s,p.1,p.2,q.1,q.2,dog⟩
 |_,_,_,_=>none
def tkP:List (List UInt8)->Option Tk
 |[_,w1,w2,w3,w4]=>tk5 w1 w2 w3 w4 false
 |[_,w1,w2,w3,w4,w5]=>if w5=[43] then tk5 w1 w2 w3 w4 true else none
 |_=>none
def QaC {w1 w2 w3 w4:List UInt8} {d:Bool} {k:Tk} (h:tk5 w1 w2 w3 w4 d=some k):ji w1=some k.party/\(w2=[119]/\k.sex=1\/w2=[109]/\k.sex=2)/\jY w3 [46]=some (k.cab,k.bed)/\jY w4 [62]=some (k.frm,k.to)/\k.dog=d:=by
 unfold tk5 at h
 split at h
 ·rename_i a s p q h1 h2 h3 h4
  cases h
  refine ⟨h1, ?_,h3,h4,rfl⟩
  unfold Xc at h2
  split at h2
  ·cases h2;exact .inl ⟨‹_›,rfl⟩
  ·split at h2
   ·cases h2;exact .inr ⟨‹_›,rfl⟩
   ·cases h2
 ·cases h
def qH:=vz @ty3 (vz @ty4 (vz @ty9 (vz @XN (vz @vS (vz @jC (vz @UZ (vz @ti3.eq_1 (vz @ti4.eq_1 (vz @ti9.eq_1 (vz @YA.eq_1 (vz @yG.eq_1 (vz @je.eq_1 @YU.eq_1))))))))))))
def K3:=vz @aI.eq_1 (@aB.eq_1)
def Qco (w0 w1 w2 w3 w4:List UInt8) (k:Tk) (h:tk5 w1 w2 w3 w4 false=some k) (l1:w1.length<=100000) (l3:w3.length<=100000) (l4:w4.length<=100000):Fn (jd TabT) prog 156 [ql [w0,w1,w2,w3,w4]] noH (aTk k) noH 0:=by
 have env:=qA (A:=zW TabT) (kC wL (kC Qfy kN))
 refine kT (Fn0 func156 rfl (fun vs w=>by kernel_rfl) (by kernel_rfl)) (by simp) (by simp [AV.ids,ql]) ?_
 obtain ⟨h1,h2,h3,h4,h5⟩:=QaC h
 obtain ⟨a,s,c,b,f,t,d⟩:=k
 dsimp only at h1 h2 h3 h4 h5
 subst h5
 have e1:(ji w1).isSome=true:=by rw [h1];rfl
 have e3:(jY w3 [46]).isSome=true:=by rw [h3];rfl
 have e4:(jY w4 [62]).isSome=true:=by rw [h4];rfl
 have b1:(([109]:List UInt8) == [119])=false:=by decide
 have b2:(([109]:List UInt8) == [109])=true:=by decide
 have b3:(([119]:List UInt8) == [119])=true:=by decide
 have b4:(([43]:List UInt8) == [43])=true:=by decide
 rcases h2 with ⟨rfl,rfl⟩|⟨rfl,rfl⟩
 ·repeat' first|(apply nx;with_reducible constructor)|apply uq (by decide)|refine vq ?_|refine vx ?_|(refine uk env 2 rfl rfl rfl (fun Q hQ=>?_);simp only [vkt,seval,qH,K3,aTk,cTk,aS,qP,ko,qF,ql,ae,ab,aj,au,h1,h3,h4,e1,e3,e4,l1,l3,l4,b3,b4];(try simp only [ite_and]);(repeat' first|with_reducible assumption|apply vz);all_goals (first|(refine ⟨_,_,rfl,hQ _ _ ?_⟩;clear hQ Q)|(apply ux;kernel_rfl)|omega|assumption|rfl|skip))|((first|apply uz env|apply uj);intro Q hQ;simp only [vkt,seval,qH,K3,qP,ko,qF,ql,ae,ab,h1,h3,h4,l1,l3,l4,ite_and];(repeat' first|with_reducible assumption|apply vz|intro hp);all_goals first|(apply hQ;clear hQ Q)|(apply ux;kernel_rfl)|omega|assumption|rfl|skip)
  (simp only [vrt,results156,vkt,seval,qH,aTk,cTk];refine Fin.val rfl ?_;(try simp only [AV.le,AV.leL]))
  all_goals first|rfl|simp
 ·repeat' first|(apply nx;with_reducible constructor)|apply uq (by decide)|refine vq ?_|refine vx ?_|(refine uk env 2 rfl rfl rfl (fun Q hQ=>?_);simp only [vkt,seval,qH,K3,aTk,cTk,aS,qP,ko,qF,ql,ae,ab,aj,au,h1,h3,h4,e1,e3,e4,l1,l3,l4,b1,b2,b4];(try simp only [ite_and]);(repeat' first|with_reducible assumption|apply vz);all_goals (first|(refine ⟨_,_,rfl,hQ _ _ ?_⟩;clear hQ Q)|(apply ux;kernel_rfl)|omega|assumption|rfl|skip))|((first|apply uz env|apply uj);intro Q hQ;simp only [vkt,seval,qH,K3,qP,ko,qF,ql,ae,ab,h1,h3,h4,l1,l3,l4,b1,ite_and];(repeat' first|with_reducible assumption|apply vz|intro hp);all_goals first|(apply hQ;clear hQ Q)|(apply ux;kernel_rfl)|omega|assumption|rfl|skip)
  (simp only [vrt,results156,vkt,seval,qH,aTk,cTk];refine Fin.val rfl ?_;(try simp only [AV.le,AV.leL]))
  all_goals first|rfl|simp
def RD:=vz @aI.eq_1 (@aB.eq_1)
def Qb2 (w0 w1 w2 w3 w4:List UInt8) (k:Tk) (h:tk5 w1 w2 w3 w4 true=some k) (l1:w1.length<=100000) (l3:w3.length<=100000) (l4:w4.length<=100000):Fn (jd TabT) prog 156 [ql [w0,w1,w2,w3,w4,[43]]] noH (aTk k) noH 0:=by
 have env:=qA (A:=zW TabT) (kC wL (kC Qfy kN))
 refine kT (Fn0 func156 rfl (fun vs w=>by kernel_rfl) (by kernel_rfl)) (by simp) (by simp [AV.ids,ql]) ?_
 obtain ⟨h1,h2,h3,h4,h5⟩:=QaC h
 obtain ⟨a,s,c,b,f,t,d⟩:=k
 dsimp only at h1 h2 h3 h4 h5
 subst h5
 have e1:(ji w1).isSome=true:=by rw [h1];rfl
 have e3:(jY w3 [46]).isSome=true:=by rw [h3];rfl
 have e4:(jY w4 [62]).isSome=true:=by rw [h4];rfl
 have b1:(([109]:List UInt8) == [119])=false:=by decide
 have b2:(([109]:List UInt8) == [109])=true:=by decide
 have b3:(([119]:List UInt8) == [119])=true:=by decide
 have b4:(([43]:List UInt8) == [43])=true:=by decide
 rcases h2 with ⟨rfl,rfl⟩|⟨rfl,rfl⟩
 ·repeat' first|(apply nx;with_reducible constructor)|apply uq (by decide)|refine vq ?_|refine vx ?_|(refine uk env 2 rfl rfl rfl (fun Q hQ=>?_);simp only [vkt,seval,qH,RD,aTk,cTk,aS,qP,ko,qF,ql,ae,ab,aj,au,h1,h3,h4,e1,e3,e4,l1,l3,l4,b3,b4];(try simp only [ite_and]);(repeat' first|with_reducible assumption|apply vz);all_goals (first|(refine ⟨_,_,rfl,hQ _ _ ?_⟩;clear hQ Q)|(apply ux;kernel_rfl)|omega|assumption|rfl|skip))|((first|apply uz env|apply uj);intro Q hQ;simp only [vkt,seval,qH,RD,qP,ko,qF,ql,ae,ab,h1,h3,h4,l1,l3,l4,ite_and];(repeat' first|with_reducible assumption|apply vz|intro hp);all_goals first|(apply hQ;clear hQ Q)|(apply ux;kernel_rfl)|omega|assumption|rfl|skip)
  (simp only [vrt,results156,vkt,seval,qH,aTk,cTk];refine Fin.val rfl ?_;(try simp only [AV.le,AV.leL]))
  all_goals first|rfl|simp
 ·repeat' first|(apply nx;with_reducible constructor)|apply uq (by decide)|refine vq ?_|refine vx ?_|(refine uk env 2 rfl rfl rfl (fun Q hQ=>?_);simp only [vkt,seval,qH,RD,aTk,cTk,aS,qP,ko,qF,ql,ae,ab,aj,au,h1,h3,h4,e1,e3,e4,l1,l3,l4,b1,b2,b4];(try simp only [ite_and]);(repeat' first|with_reducible assumption|apply vz);all_goals (first|(refine ⟨_,_,rfl,hQ _ _ ?_⟩;clear hQ Q)|(apply ux;kernel_rfl)|omega|assumption|rfl|skip))|((first|apply uz env|apply uj);intro Q hQ;simp only [vkt,seval,qH,RD,qP,ko,qF,ql,ae,ab,h1,h3,h4,l1,l3,l4,b1,ite_and];(repeat' first|with_reducible assumption|apply vz|intro hp);all_goals first|(apply hQ;clear hQ Q)|(apply ux;kernel_rfl)|omega|assumption|rfl|skip)
  (simp only [vrt,results156,vkt,seval,qH,aTk,cTk];refine Fin.val rfl ?_;(try simp only [AV.le,AV.leL]))
  all_goals first|rfl|simp
def QA:=vz @aI.eq_1 (@aB.eq_1)
def QdR (w0 w1 w2 w3 w4:List UInt8) (h:tk5 w1 w2 w3 w4 false=none) (l1:w1.length<=100000) (l3:w3.length<=100000) (l4:w4.length<=100000):FnX refusal (jd TabT) prog 156 [ql [w0,w1,w2,w3,w4]] noH noH:=by
 have env:=qA (A:=zW TabT) (kC wL (kC Qfy kN))
 refine FnX.of (A:=zW TabT) (n0:=0) (Fn0 func156 rfl (fun vs w=>by kernel_rfl) (by kernel_rfl)) (by simp) (by simp [AV.ids,ql]) (fun i o h=>by cases h) (fun _ hB _ _=>hB) ?_
 cases h1:ji w1 with
 |none =>
  repeat' first|(apply nx;with_reducible constructor)|apply uq (by decide)|refine vq ?_|refine vx ?_|(refine uk env 2 rfl rfl rfl (fun Q hQ=>?_);simp only [vkt,seval,qH,QA,aTk,cTk,aS,qP,ko,qF,ql,ae,ab,aj,au, h1,l1];(try simp only [ite_and]);(repeat' first|with_reducible assumption|apply vz);all_goals (first|(refine ⟨_,_,rfl,hQ _ _ ?_⟩;clear hQ Q)|(apply ux;kernel_rfl)|omega|assumption|rfl|skip))|(refine uw env Zi 3 rfl rfl (fun Q hQ=>?_);simp only [yM,Qu,vkt,seval,qH,ae,ab];(try simp only [ite_and]);(repeat' first|with_reducible assumption|apply vz|intro hp);all_goals (first|(refine hQ _ _ _ ?_;clear hQ Q)|(apply ux;kernel_rfl)|omega|assumption|(with_reducible rfl)))|((first|apply uz env|apply uj);intro Q hQ;simp only [vkt,seval,qH,qF,ql,ite_and];(repeat' first|with_reducible assumption|apply vz|intro hp);all_goals first|(apply hQ;clear hQ Q)|(apply ux;kernel_rfl)|omega|assumption|rfl|skip)
  exact ⟨rfl,rfl,Fin.val rfl (by simp only [AV.le])⟩
 |some a =>
  have e1:(ji w1).isSome=true:=by rw [h1];rfl
  by_cases c1:w2=[119]
  ·have b1:(w2 == [119])=true:=by simp [c1]
   have hs:Xc w2=some 1:=by simp [Xc,c1]
   cases h3:jY w3 [46] with
   |none =>
    repeat' first|(apply nx;with_reducible constructor)|apply uq (by decide)|refine vq ?_|refine vx ?_|(refine uk env 2 rfl rfl rfl (fun Q hQ=>?_);simp only [vkt,seval,qH,QA,aTk,cTk,aS,qP,ko,qF,ql,ae,ab,aj,au, h1,l1,e1,b1,h3,l3,vX];(try simp only [ite_and]);(repeat' first|with_reducible assumption|apply vz);all_goals (first|(refine ⟨_,_,rfl,hQ _ _ ?_⟩;clear hQ Q)|(apply ux;kernel_rfl)|omega|assumption|rfl|skip))|(refine uw env Qaz 3 rfl rfl (fun Q hQ=>?_);simp only [yM,Qu,vkt,seval,qH,ae,ab,h3,l3,vX];(try simp only [ite_and]);(repeat' first|with_reducible assumption|apply vz|intro hp);all_goals (first|(refine hQ _ _ _ ?_;clear hQ Q)|(apply ux;kernel_rfl)|omega|assumption|(with_reducible rfl)))|((first|apply uz env|apply uj);intro Q hQ;simp only [vkt,seval,qH,QA,qP,qF,ql,ae,ab,h1,l1,b1,ite_and];(repeat' first|with_reducible assumption|apply vz|intro hp);all_goals first|(apply hQ;clear hQ Q)|(apply ux;kernel_rfl)|omega|assumption|rfl|skip)
    exact ⟨rfl,rfl,Fin.val rfl (by simp only [AV.le])⟩
   |some p =>
    have e3:(jY w3 [46]).isSome=true:=by rw [h3];rfl
    have h4:jY w4 [62]=none:=by
     cases h4:jY w4 [62] with
     |none=>rfl
     |some q=>simp [tk5,h1,hs,h3,h4] at h
    repeat' first|(apply nx;with_reducible constructor)|apply uq (by decide)|refine vq ?_|refine vx ?_|(refine uk env 2 rfl rfl rfl (fun Q hQ=>?_);simp only [vkt,seval,qH,QA,aTk,cTk,aS,qP,ko,qF,ql,ae,ab,aj,au, h1,l1,e1,b1,e3,h3,l3,h4,l4,vX];(try simp only [ite_and]);(repeat' first|with_reducible assumption|apply vz);all_goals (first|(refine ⟨_,_,rfl,hQ _ _ ?_⟩;clear hQ Q)|(apply ux;kernel_rfl)|omega|assumption|rfl|skip))|(refine uw env Qaz 3 rfl rfl (fun Q hQ=>?_);simp only [yM,Qu,vkt,seval,qH,ae,ab,h3,l3,h4,l4,vX];(try simp only [ite_and]);(repeat' first|with_reducible assumption|apply vz|intro hp);all_goals (first|(refine hQ _ _ _ ?_;clear hQ Q)|(apply ux;kernel_rfl)|omega|assumption|(with_reducible rfl)))|((first|apply uz env|apply uj);intro Q hQ;simp only [vkt,seval,qH,QA,qP,ko,qF,ql,ae,ab,h1,l1,b1,h3,l3,ite_and];(repeat' first|with_reducible assumption|apply vz|intro hp);all_goals first|(apply hQ;clear hQ Q)|(apply ux;kernel_rfl)|omega|assumption|rfl|skip)
    exact ⟨rfl,rfl,Fin.val rfl (by simp only [AV.le])⟩
  ·have b1:(w2 == [119])=false:=by simp [c1]
   by_cases c2:w2=[109]
   ·have b2:(w2 == [109])=true:=by simp [c2]
    have hs:Xc w2=some 2:=by simp [Xc,c2]
    cases h3:jY w3 [46] with
    |none =>
     repeat' first|(apply nx;with_reducible constructor)|apply uq (by decide)|refine vq ?_|refine vx ?_|(refine uk env 2 rfl rfl rfl (fun Q hQ=>?_);simp only [vkt,seval,qH,QA,aTk,cTk,aS,qP,ko,qF,ql,ae,ab,aj,au, h1,l1,e1,b1,b2,h3,l3,vX];(try simp only [ite_and]);(repeat' first|with_reducible assumption|apply vz);all_goals (first|(refine ⟨_,_,rfl,hQ _ _ ?_⟩;clear hQ Q)|(apply ux;kernel_rfl)|omega|assumption|rfl|skip))|(refine uw env Qaz 3 rfl rfl (fun Q hQ=>?_);simp only [yM,Qu,vkt,seval,qH,ae,ab,h3,l3,vX];(try simp only [ite_and]);(repeat' first|with_reducible assumption|apply vz|intro hp);all_goals (first|(refine hQ _ _ _ ?_;clear hQ Q)|(apply ux;kernel_rfl)|omega|assumption|(with_reducible rfl)))|((first|apply uz env|apply uj);intro Q hQ;simp only [vkt,seval,qH,QA,qP,qF,ql,ae,ab,h1,l1,b1,b2,ite_and];(repeat' first|with_reducible assumption|apply vz|intro hp);all_goals first|(apply hQ;clear hQ Q)|(apply ux;kernel_rfl)|omega|assumption|rfl|skip)
     exact ⟨rfl,rfl,Fin.val rfl (by simp only [AV.le])⟩
    |some p =>
     have e3:(jY w3 [46]).isSome=true:=by rw [h3];rfl
     have h4:jY w4 [62]=none:=by
      cases h4:jY w4 [62] with
      |none=>rfl
      |some q=>simp [tk5,h1,hs,h3,h4] at h
     repeat' first|(apply nx;with_reducible constructor)|apply uq (by decide)|refine vq ?_|refine vx ?_|(refine uk env 2 rfl rfl rfl (fun Q hQ=>?_);simp only [vkt,seval,qH,QA,aTk,cTk,aS,qP,ko,qF,ql,ae,ab,aj,au, h1,l1,e1,b1,b2,e3,h3,l3,h4,l4,vX];(try simp only [ite_and]);(repeat' first|with_reducible assumption|apply vz);all_goals (first|(refine ⟨_,_,rfl,hQ _ _ ?_⟩;clear hQ Q)|(apply ux;kernel_rfl)|omega|assumption|rfl|skip))|(refine uw env Qaz 3 rfl rfl (fun Q hQ=>?_);simp only [yM,Qu,vkt,seval,qH,ae,ab,h3,l3,h4,l4,vX];(try simp only [ite_and]);(repeat' first|with_reducible assumption|apply vz|intro hp);all_goals (first|(refine hQ _ _ _ ?_;clear hQ Q)|(apply ux;kernel_rfl)|omega|assumption|(with_reducible rfl)))|((first|apply uz env|apply uj);intro Q hQ;simp only [vkt,seval,qH,QA,qP,ko,qF,ql,ae,ab,h1,l1,b1,b2,h3,l3,ite_and];(repeat' first|with_reducible assumption|apply vz|intro hp);all_goals first|(apply hQ;clear hQ Q)|(apply ux;kernel_rfl)|omega|assumption|rfl|skip)
     exact ⟨rfl,rfl,Fin.val rfl (by simp only [AV.le])⟩
   ·have b2:(w2 == [109])=false:=by simp [c2]
    repeat' first|(apply nx;with_reducible constructor)|apply uq (by decide)|refine vq ?_|refine vx ?_|(refine uk env 2 rfl rfl rfl (fun Q hQ=>?_);simp only [vkt,seval,qH];(try simp only [ite_and]);(repeat' first|with_reducible assumption|apply vz);all_goals (first|(refine ⟨_,_,rfl,hQ _ _ ?_⟩;clear hQ Q)|(apply ux;kernel_rfl)|omega|assumption|rfl|skip))|((first|apply uz env|apply uj);intro Q hQ;simp only [vkt,seval,qH,QA,qP,qF,ql,ae,ab,h1,l1,b1,b2,ite_and];(repeat' first|with_reducible assumption|apply vz|intro hp);all_goals first|(apply hQ;clear hQ Q)|(apply ux;kernel_rfl)|omega|assumption|rfl|skip)
    exact ⟨rfl,rfl,Fin.val rfl (by simp only [AV.le])⟩
def Qs:=vz @aI.eq_1 (@aB.eq_1)
def Qeh (w0 w1 w2 w3 w4:List UInt8) (h:tk5 w1 w2 w3 w4 true=none) (l1:w1.length<=100000) (l3:w3.length<=100000) (l4:w4.length<=100000):FnX refusal (jd TabT) prog 156 [ql [w0,w1,w2,w3,w4,[43]]] noH noH:=by
 have env:=qA (A:=zW TabT) (kC wL (kC Qfy kN))
 refine FnX.of (A:=zW TabT) (n0:=0) (Fn0 func156 rfl (fun vs w=>by kernel_rfl) (by kernel_rfl)) (by simp) (by simp [AV.ids,ql]) (fun i o h=>by cases h) (fun _ hB _ _=>hB) ?_
 cases h1:ji w1 with
 |none =>
  repeat' first|(apply nx;with_reducible constructor)|apply uq (by decide)|refine vq ?_|refine vx ?_|(refine uk env 2 rfl rfl rfl (fun Q hQ=>?_);simp only [vkt,seval,qH,Qs,aTk,cTk,aS,qP,ko,qF,ql,ae,ab,aj,au, h1,l1];(try simp only [ite_and]);(repeat' first|with_reducible assumption|apply vz);all_goals (first|(refine ⟨_,_,rfl,hQ _ _ ?_⟩;clear hQ Q)|(apply ux;kernel_rfl)|omega|assumption|rfl|skip))|(refine uw env Zi 3 rfl rfl (fun Q hQ=>?_);simp only [yM,Qu,vkt,seval,qH,ae,ab];(try simp only [ite_and]);(repeat' first|with_reducible assumption|apply vz|intro hp);all_goals (first|(refine hQ _ _ _ ?_;clear hQ Q)|(apply ux;kernel_rfl)|omega|assumption|(with_reducible rfl)))|((first|apply uz env|apply uj);intro Q hQ;simp only [vkt,seval,qH,qF,ql,ae,ab,ite_and];(repeat' first|with_reducible assumption|apply vz|intro hp);all_goals first|(apply hQ;clear hQ Q)|(apply ux;kernel_rfl)|omega|assumption|rfl|skip)
  exact ⟨rfl,rfl,Fin.val rfl (by simp only [AV.le])⟩
 |some a =>
  have e1:(ji w1).isSome=true:=by rw [h1];rfl
  by_cases c1:w2=[119]
  ·have b1:(w2 == [119])=true:=by simp [c1]
   have hs:Xc w2=some 1:=by simp [Xc,c1]
   cases h3:jY w3 [46] with
   |none =>
    repeat' first|(apply nx;with_reducible constructor)|apply uq (by decide)|refine vq ?_|refine vx ?_|(refine uk env 2 rfl rfl rfl (fun Q hQ=>?_);simp only [vkt,seval,qH,Qs,aTk,cTk,aS,qP,ko,qF,ql,ae,ab,aj,au, h1,l1,e1,b1,h3,l3,vX];(try simp only [ite_and]);(repeat' first|with_reducible assumption|apply vz);all_goals (first|(refine ⟨_,_,rfl,hQ _ _ ?_⟩;clear hQ Q)|(apply ux;kernel_rfl)|omega|assumption|rfl|skip))|(refine uw env Qaz 3 rfl rfl (fun Q hQ=>?_);simp only [yM,Qu,vkt,seval,qH,ae,ab,h3,l3,vX];(try simp only [ite_and]);(repeat' first|with_reducible assumption|apply vz|intro hp);all_goals (first|(refine hQ _ _ _ ?_;clear hQ Q)|(apply ux;kernel_rfl)|omega|assumption|(with_reducible rfl)))|((first|apply uz env|apply uj);intro Q hQ;simp only [vkt,seval,qH,Qs,qP,qF,ql,ae,ab,h1,l1,b1,ite_and];(repeat' first|with_reducible assumption|apply vz|intro hp);all_goals first|(apply hQ;clear hQ Q)|(apply ux;kernel_rfl)|omega|assumption|rfl|skip)
    exact ⟨rfl,rfl,Fin.val rfl (by simp only [AV.le])⟩
   |some p =>
    have e3:(jY w3 [46]).isSome=true:=by rw [h3];rfl
    have h4:jY w4 [62]=none:=by
     cases h4:jY w4 [62] with
     |none=>rfl
     |some q=>simp [tk5,h1,hs,h3,h4] at h
    repeat' first|(apply nx;with_reducible constructor)|apply uq (by decide)|refine vq ?_|refine vx ?_|(refine uk env 2 rfl rfl rfl (fun Q hQ=>?_);simp only [vkt,seval,qH,Qs,aTk,cTk,aS,qP,ko,qF,ql,ae,ab,aj,au, h1,l1,e1,b1,e3,h3,l3,h4,l4,vX];(try simp only [ite_and]);(repeat' first|with_reducible assumption|apply vz);all_goals (first|(refine ⟨_,_,rfl,hQ _ _ ?_⟩;clear hQ Q)|(apply ux;kernel_rfl)|omega|assumption|rfl|skip))|(refine uw env Qaz 3 rfl rfl (fun Q hQ=>?_);simp only [yM,Qu,vkt,seval,qH,ae,ab,h3,l3,h4,l4,vX];(try simp only [ite_and]);(repeat' first|with_reducible assumption|apply vz|intro hp);all_goals (first|(refine hQ _ _ _ ?_;clear hQ Q)|(apply ux;kernel_rfl)|omega|assumption|(with_reducible rfl)))|((first|apply uz env|apply uj);intro Q hQ;simp only [vkt,seval,qH,Qs,qP,ko,qF,ql,ae,ab,h1,l1,b1,h3,l3,ite_and];(repeat' first|with_reducible assumption|apply vz|intro hp);all_goals first|(apply hQ;clear hQ Q)|(apply ux;kernel_rfl)|omega|assumption|rfl|skip)
    exact ⟨rfl,rfl,Fin.val rfl (by simp only [AV.le])⟩
  ·have b1:(w2 == [119])=false:=by simp [c1]
   by_cases c2:w2=[109]
   ·have b2:(w2 == [109])=true:=by simp [c2]
    have hs:Xc w2=some 2:=by simp [Xc,c2]
    cases h3:jY w3 [46] with
    |none =>
     repeat' first|(apply nx;with_reducible constructor)|apply uq (by decide)|refine vq ?_|refine vx ?_|(refine uk env 2 rfl rfl rfl (fun Q hQ=>?_);simp only [vkt,seval,qH,Qs,aTk,cTk,aS,qP,ko,qF,ql,ae,ab,aj,au, h1,l1,e1,b1,b2,h3,l3,vX];(try simp only [ite_and]);(repeat' first|with_reducible assumption|apply vz);all_goals (first|(refine ⟨_,_,rfl,hQ _ _ ?_⟩;clear hQ Q)|(apply ux;kernel_rfl)|omega|assumption|rfl|skip))|(refine uw env Qaz 3 rfl rfl (fun Q hQ=>?_);simp only [yM,Qu,vkt,seval,qH,ae,ab,h3,l3,vX];(try simp only [ite_and]);(repeat' first|with_reducible assumption|apply vz|intro hp);all_goals (first|(refine hQ _ _ _ ?_;clear hQ Q)|(apply ux;kernel_rfl)|omega|assumption|(with_reducible rfl)))|((first|apply uz env|apply uj);intro Q hQ;simp only [vkt,seval,qH,Qs,qP,qF,ql,ae,ab,h1,l1,b1,b2,ite_and];(repeat' first|with_reducible assumption|apply vz|intro hp);all_goals first|(apply hQ;clear hQ Q)|(apply ux;kernel_rfl)|omega|assumption|rfl|skip)
     exact ⟨rfl,rfl,Fin.val rfl (by simp only [AV.le])⟩
    |some p =>
     have e3:(jY w3 [46]).isSome=true:=by rw [h3];rfl
     have h4:jY w4 [62]=none:=by
      cases h4:jY w4 [62] with
      |none=>rfl
      |some q=>simp [tk5,h1,hs,h3,h4] at h
     repeat' first|(apply nx;with_reducible constructor)|apply uq (by decide)|refine vq ?_|refine vx ?_|(refine uk env 2 rfl rfl rfl (fun Q hQ=>?_);simp only [vkt,seval,qH,Qs,aTk,cTk,aS,qP,ko,qF,ql,ae,ab,aj,au, h1,l1,e1,b1,b2,e3,h3,l3,h4,l4,vX];(try simp only [ite_and]);(repeat' first|with_reducible assumption|apply vz);all_goals (first|(refine ⟨_,_,rfl,hQ _ _ ?_⟩;clear hQ Q)|(apply ux;kernel_rfl)|omega|assumption|rfl|skip))|(refine uw env Qaz 3 rfl rfl (fun Q hQ=>?_);simp only [yM,Qu,vkt,seval,qH,ae,ab,h3,l3,h4,l4,vX];(try simp only [ite_and]);(repeat' first|with_reducible assumption|apply vz|intro hp);all_goals (first|(refine hQ _ _ _ ?_;clear hQ Q)|(apply ux;kernel_rfl)|omega|assumption|(with_reducible rfl)))|((first|apply uz env|apply uj);intro Q hQ;simp only [vkt,seval,qH,Qs,qP,ko,qF,ql,ae,ab,h1,l1,b1,b2,h3,l3,ite_and];(repeat' first|with_reducible assumption|apply vz|intro hp);all_goals first|(apply hQ;clear hQ Q)|(apply ux;kernel_rfl)|omega|assumption|rfl|skip)
     exact ⟨rfl,rfl,Fin.val rfl (by simp only [AV.le])⟩
   ·have b2:(w2 == [109])=false:=by simp [c2]
    repeat' first|(apply nx;with_reducible constructor)|apply uq (by decide)|refine vq ?_|refine vx ?_|(refine uk env 2 rfl rfl rfl (fun Q hQ=>?_);simp only [vkt,seval,qH];(try simp only [ite_and]);(repeat' first|with_reducible assumption|apply vz);all_goals (first|(refine ⟨_,_,rfl,hQ _ _ ?_⟩;clear hQ Q)|(apply ux;kernel_rfl)|omega|assumption|rfl|skip))|((first|apply uz env|apply uj);intro Q hQ;simp only [vkt,seval,qH,Qs,qP,qF,ql,ae,ab,h1,l1,b1,b2,ite_and];(repeat' first|with_reducible assumption|apply vz|intro hp);all_goals first|(apply hQ;clear hQ Q)|(apply ux;kernel_rfl)|omega|assumption|rfl|skip)
    exact ⟨rfl,rfl,Fin.val rfl (by simp only [AV.le])⟩
def QeG (w0 w1 w2 w3 w4 w5:List UInt8) (h:w5 ≠ [43]):FnX refusal (jd TabT) prog 156 [ql [w0,w1,w2,w3,w4,w5]] noH noH:=by
 have env:=qA (A:=zW TabT) (kC wL (kC Qfy kN))
 refine FnX.of (A:=zW TabT) (n0:=0) (Fn0 func156 rfl (fun vs w=>by kernel_rfl) (by kernel_rfl)) (by simp) (by simp [AV.ids,ql]) (fun i o h=>by cases h) (fun _ hB _ _=>hB) ?_
 have b1:(w5 == [43])=false:=by simp [h]
 repeat' first|(apply nx;with_reducible constructor)|apply uq (by decide)|refine vq ?_|refine vx ?_|(refine uk env 2 rfl rfl rfl (fun Q hQ=>?_);simp only [vkt,seval,qH];(try simp only [ite_and]);(repeat' first|with_reducible assumption|apply vz);all_goals (first|(refine ⟨_,_,rfl,hQ _ _ ?_⟩;clear hQ Q)|(apply ux;kernel_rfl)|omega|assumption|rfl|skip))|((first|apply uz env|apply uj);intro Q hQ;simp only [vkt,seval,qH,qF,ql,ae,ab,b1,ite_and];(repeat' first|with_reducible assumption|apply vz|intro hp);all_goals first|(apply hQ;clear hQ Q)|(apply ux;kernel_rfl)|omega|assumption|rfl|skip)
 exact ⟨rfl,rfl,Fin.val rfl (by simp only [AV.le])⟩
def Qe4 (l:List (List UInt8)) (h5:l.length ≠ 5) (h6:l.length ≠ 6):FnX refusal (jd TabT) prog 156 [ql l] noH noH:=by
 have env:=qA (A:=zW TabT) (kC wL (kC Qfy kN))
 refine FnX.of (A:=zW TabT) (n0:=0) (Fn0 func156 rfl (fun vs w=>by kernel_rfl) (by kernel_rfl)) (by simp) (by simp [AV.ids,ql]) (fun i o h=>by cases h) (fun _ hB _ _=>hB) ?_
 have d5:decide ((l.length:Int)=5)=false:=decide_eq_false (by omega)
 have d6:decide ((l.length:Int)=6)=false:=decide_eq_false (by omega)
 repeat' first|(apply nx;with_reducible constructor)|apply uq (by decide)|refine vq ?_|refine vx ?_|(refine uk env 2 rfl rfl rfl (fun Q hQ=>?_);simp only [vkt,seval,qH];(try simp only [ite_and]);(repeat' first|with_reducible assumption|apply vz);all_goals (first|(refine ⟨_,_,rfl,hQ _ _ ?_⟩;clear hQ Q)|(apply ux;kernel_rfl)|omega|assumption|rfl|skip))|((first|apply uz env|apply uj);intro Q hQ;simp only [vkt,seval,qH,ql,d5,d6,ite_and];(repeat' first|with_reducible assumption|apply vz|intro hp);all_goals first|(apply hQ;clear hQ Q)|(apply ux;kernel_rfl)|omega|assumption|rfl|skip)
 exact ⟨rfl,rfl,Fin.val rfl (by simp only [AV.le])⟩
def Qnb (l:List (List UInt8)) (hl:∀ w ∈ l,w.length<=100000) (h:(tkP l).isSome=true):Fn (jd TabT) prog 156 [ql l] noH (aTk ((tkP l).getD default)) noH 0:=by
 obtain ⟨k,hk⟩:=cU.1 h
 rw [hk]
 unfold tkP at hk
 split at hk
 ·exact Qco _ _ _ _ _ k hk (hl _ (by simp)) (hl _ (by simp)) (hl _ (by simp))
 ·split at hk
  ·rename_i h5;subst h5
   exact Qb2 _ _ _ _ _ k hk (hl _ (by simp)) (hl _ (by simp)) (hl _ (by simp))
  ·cases hk
 ·cases hk
def tkt_x (l:List (List UInt8)) (hl:∀ w ∈ l,w.length<=100000) (h:tkP l=none):FnX refusal (jd TabT) prog 156 [ql l] noH noH:=by
 unfold tkP at h
 split at h
 ·exact QdR _ _ _ _ _ h (hl _ (by simp)) (hl _ (by simp)) (hl _ (by simp))
 ·split at h
  ·rename_i h5;subst h5
   exact Qeh _ _ _ _ _ h (hl _ (by simp)) (hl _ (by simp)) (hl _ (by simp))
  ·exact QeG _ _ _ _ _ _ (by assumption)
 ·rename_i g5 g6
  refine Qe4 l (fun e=>?_) (fun e=>?_)
  ·match l,e with
   |[a,b,c,d,e],_=>exact g5 _ _ _ _ _ rfl
  ·match l,e with
   |[a,b,c,d,e,f],_=>exact g6 _ _ _ _ _ _ rfl
def YX:List AV->Prop × AV
 |[.sl l]=>(l=(l.map vU).map qF/\(∀ w ∈ (l.map vU),w.length<=100000)/\(tkP (l.map vU)).isSome=true,aTk ((tkP (l.map vU)).getD default))
 |_=>(False,.junk)
def YZ:qm (zW TabT) prog 156 (zw false YX):=Jw fun vs hv h=>by
 clear hv
 unfold YX at h ⊢
 split at h
 ·rename_i l;obtain ⟨q0,k0,k1⟩:=h
  refine ⟨by first|trivial|(repeat' split) <;> simp [AV.plain,AV.plainL,aI,aB,qz,qc,qy,qw,aTk,cTk],fun h=>absurd h (by decide), ?_⟩
  have:=Qnb (l.map vU) k0 k1
  simp only [ql,<- q0] at this
  first|exact this|(simp only [ql,<- q0];exact this)
 ·exact h.elim
def QhG:List AV->Prop
 |[.sl xs]=>∃ l:List (List UInt8),xs=l.map qF/\tkP l=none/\∀ w ∈ l,w.length<=100000
 |_=>False
def xTkt:XOK (zW TabT) prog 156 (Qu refusal QhG):=K6 fun l h=>by
 unfold QhG at h
 split at h
 ·obtain ⟨l,rfl,h1,h2⟩:=h
  exact tkt_x l h2 h1
 ·exact h.elim
inductive Ln where
 |cabin (x:Cabin)
 |way (n:Int)
 |sold (k:Tk)
 |car
def zD:List UInt8:=[99,97,98,105,110]
def yE:List UInt8:=[119,97,121]
def ww:List UInt8:=[115,111,108,100]
def jl:List UInt8:=[99,97,114]
def cbP:List (List UInt8)->Option Ln
 |[_,w1,w2]=>if w2=[100]\/w2=[115] then (ji w1).map fun n=>.cabin ⟨n,decide (w2=[100])⟩ else none
 |_=>none
def wyP:List (List UInt8)->Option Ln
 |[_,w1]=>(ji w1).map .way
 |_=>none
def crP:List (List UInt8)->Option Ln
 |[_]=>some .car
 |_=>none
def Rk (l:List (List UInt8)):Option Ln:=if l.headD []=zD then cbP l else if l.headD []=yE then wyP l else if l.headD []=ww then (tkP l).map .sold else if l.headD []=jl then crP l else none
def JW (s:List UInt8):Option Ln:=Rk (spS s [32])
def qQ (l:List Cabin):AObj:=.row 84 2 (l.map qx)
def chR (s:Int) (a b:Nat):AObj:=.cells [.row a,.v (.int .i64 s),.row b]
def zm (c:Chart):List AObj:=[chR c.secs 1 2,qQ c.cabins,qf c.sold]
def jf {c:Chart}:∀ i o,qb (qB 0 (zm c)) i=some o->i < 3/\∀ id ∈ o.ids,id < 3:=by
 intro i o hi
 have h:=qG hi
 simp [qB,zm] at h
 rcases h with ⟨rfl,rfl⟩|⟨rfl,rfl⟩|⟨rfl,rfl⟩ <;> simp [AObj.ids,AV.ids,AV.idsL,chR,qQ,qf]
def YS (sep:List UInt8):∀ (k:Nat) (s:List UInt8),∀ w ∈ Lib.splitK sep 0 k s,w.length<=s.length
 |0,s,w,h=>by
  simp only [Lib.splitK,aW] at h
  rw [h];exact aw _
 |k+1,s,w,h=>by
  unfold Lib.splitK at h
  split at h
  ·simp only [aW] at h
   rw [h];exact aw _
  ·rcases ah.1 h with h|h
   ·rw [h,aR];omega
   ·have:=YS sep k _ w h
    rw [cZ] at this;omega
def Qf9 (s sep:List UInt8):spS s sep=Lib.splitK sep 0 (Lib.countB ⟨⟨s⟩⟩ ⟨⟨sep⟩⟩) s:=Lib.splitB_data _ _ _ _
def ZP {s sep:List UInt8} (hs:s.length<=100000):∀ w ∈ spS s sep,w.length<=100000:=fun w hw=>by
 rw [Qf9] at hw
 exact aN (YS sep _ s w hw) hs
def yQ:=vz @ty3 (vz @ty9 (vz @ZF (vz @vJ (vz @jm (vz @XN (vz @ZC (vz @jC (vz @UZ (vz @ti3.eq_1 (vz @ti9.eq_1 (vz @Qv.eq_1 (vz @yI.eq_1 (vz @wY.eq_1 (vz @YA.eq_1 (vz @Qz.eq_1 (vz @je.eq_1 @YU.eq_1))))))))))))))))
def Yx:=vz @aI.eq_1 (@aB.eq_1)
def Ul (c:Chart) (s:List UInt8) (w1 w2:List UInt8) (n:Int) (hs:spS s [32]=[zD,w1,w2]) (l1:w1.length<=100000) (h1:ji w1=some n) (h2:w2=[100]\/w2=[115]) (hc:c.cabins.length<=1000) (hl:s.length<=100000) :
  Fn (jd TabT) prog 98 [.ptr 0 0,aS s] (qb (qB 0 (zm c))) (aI 0) (qb (ze 0 [some (chR c.secs 3 2),none,some (qf c.sold),some (qQ (c.cabins++[⟨n,decide (w2=[100])⟩]))])) 0:=by
 have env:=qA (A:=zW TabT) (kC wL (kC xq (kC YZ kN)))
 refine Fn.of (A:=zW TabT) (n0:=3) (D:=noD) (Fn0 func98 rfl (fun vs w=>by kernel_rfl) (by kernel_rfl)) (by simp) (by simp [AV.ids,aS]) jf (fun _ hB _ _=>hB) qX ?_
 have hm:(1000:Nat)+1<=maxLen:=by decide
 show Sym _ _ _ (qV [.ptr 0 0,aS s] 3 (qb [(0,chR c.secs 1 2),(1,qQ c.cabins),(2,qf c.sold)])) (yc tyB noD Tryz.f98 fun S rv=>Fin S rv _ 3 (qb [(0,chR c.secs 3 2),(2,qf c.sold),(3,qQ (c.cabins++[⟨n,decide (w2=[100])⟩]))]) 0)
 have e1:(ji w1).isSome=true:=by rw [h1];rfl
 have b0:(([99,97,98,105,110]:List UInt8) == [99,97,98,105,110])=true:=by decide
 rcases h2 with rfl|rfl
 ·have b1:(([100]:List UInt8) == [100])=true:=by decide
  have d1:decide (([100]:List UInt8)=[100])=true:=by decide
  rw [d1]
  repeat' first|(apply nx;with_reducible constructor)|apply uq (by decide)|refine vq ?_|refine vx ?_|(refine uk env 2 rfl rfl rfl (fun Q hQ=>?_);simp only [vkt,seval,yQ,Yx,aTk,cTk,aS,qP,zB,YX,qF,ql,ae,ab,aj,au,qQ,qf,chR,zm,qx,wP,rTk,eTk,ao,aA,aq,zD,yE,ww,jl,hs,hl,h1,e1,l1,b0,b1];(try simp only [ite_and]);(repeat' first|with_reducible assumption|apply vz);all_goals (first|(refine ⟨_,_,rfl,hQ _ _ ?_⟩;clear hQ Q)|(apply ux;kernel_rfl)|omega|assumption|rfl|skip))|((first|apply uz env|apply uj);intro Q hQ;simp only [vkt,seval,yQ,Yx,aS,qP,zB,qF,ql,ae,ab,qQ,qf,chR,wP,zD,hs,hl,h1,l1,ite_and];(repeat' first|with_reducible assumption|apply vz|intro hp);all_goals first|(apply hQ;clear hQ Q)|(apply ux;kernel_rfl)|omega|assumption|rfl|skip)
  (simp only [vrt,results98,vkt,seval,Yx,qQ,qf,chR,qx,aq];refine Fin.ok (fun j=>[0,1,2,4][j]?) [] ?_ ?_ ?_ ?_ ?_ rfl;all_goals (try simp only [vle,vkt,seval]))
  all_goals first|rfl|(simp;done)|exact fun i hi=>(match i,hi with|0,_=>rfl|1,_=>rfl|2,_=>rfl)
 ·have b1:(([115]:List UInt8) == [100])=false:=by decide
  have b2:(([115]:List UInt8) == [115])=true:=by decide
  have d1:decide (([115]:List UInt8)=[100])=false:=by decide
  rw [d1]
  repeat' first|(apply nx;with_reducible constructor)|apply uq (by decide)|refine vq ?_|refine vx ?_|(refine uk env 2 rfl rfl rfl (fun Q hQ=>?_);simp only [vkt,seval,yQ,Yx,aTk,cTk,aS,qP,zB,YX,qF,ql,ae,ab,aj,au,qQ,qf,chR,zm,qx,wP,rTk,eTk,ao,aA,aq,zD,yE,ww,jl,hs,hl,h1,e1,l1,b0,b1,b2];(try simp only [ite_and]);(repeat' first|with_reducible assumption|apply vz);all_goals (first|(refine ⟨_,_,rfl,hQ _ _ ?_⟩;clear hQ Q)|(apply ux;kernel_rfl)|omega|assumption|rfl|skip))|((first|apply uz env|apply uj);intro Q hQ;simp only [vkt,seval,yQ,Yx,aS,qP,zB,qF,ql,ae,ab,qQ,qf,chR,wP,zD,hs,hl,h1,l1,b1,ite_and];(repeat' first|with_reducible assumption|apply vz|intro hp);all_goals first|(apply hQ;clear hQ Q)|(apply ux;kernel_rfl)|omega|assumption|rfl|skip)
  (simp only [vrt,results98,vkt,seval,Yx,qQ,qf,chR,qx,aq];refine Fin.ok (fun j=>[0,1,2,4][j]?) [] ?_ ?_ ?_ ?_ ?_ rfl;all_goals (try simp only [vle,vkt,seval]))
  all_goals first|rfl|(simp;done)|exact fun i hi=>(match i,hi with|0,_=>rfl|1,_=>rfl|2,_=>rfl)
def Qbo:=vz @aI.eq_1 (@aB.eq_1)
def Qbz (c:Chart) (s:List UInt8) (w1:List UInt8) (n:Int) (hs:spS s [32]=[yE,w1]) (l1:w1.length<=100000) (h1:ji w1=some n) (hl:s.length<=100000) :
  Fn (jd TabT) prog 98 [.ptr 0 0,aS s] (qb (qB 0 (zm c))) (aI 1) (qb (ze 0 [some (chR n 1 2),some (qQ c.cabins),some (qf c.sold)])) 0:=by
 have env:=qA (A:=zW TabT) (kC wL (kC xq (kC YZ kN)))
 refine Fn.of (A:=zW TabT) (n0:=3) (D:=noD) (Fn0 func98 rfl (fun vs w=>by kernel_rfl) (by kernel_rfl)) (by simp) (by simp [AV.ids,aS]) jf (fun _ hB _ _=>hB) qX ?_
 have hm:(1000:Nat)+1<=maxLen:=by decide
 show Sym _ _ _ (qV [.ptr 0 0,aS s] 3 (qb [(0,chR c.secs 1 2),(1,qQ c.cabins),(2,qf c.sold)])) (yc tyB noD Tryz.f98 fun S rv=>Fin S rv _ 3 (qb [(0,chR n 1 2),(1,qQ c.cabins),(2,qf c.sold)]) 0)
 have e1:(ji w1).isSome=true:=by rw [h1];rfl
 have b0:(([119,97,121]:List UInt8) == [99,97,98,105,110])=false:=by decide
 have b1:(([119,97,121]:List UInt8) == [119,97,121])=true:=by decide
 ·repeat' first|(apply nx;with_reducible constructor)|apply uq (by decide)|refine vq ?_|refine vx ?_|(refine uk env 2 rfl rfl rfl (fun Q hQ=>?_);simp only [vkt,seval,yQ,Qbo,aTk,cTk,aS,qP,zB,YX,qF,ql,ae,ab,aj,au,qQ,qf,chR,zm,qx,wP,rTk,eTk,ao,aA,aq,zD,yE,ww,jl,hs,hl,h1,e1,l1,b0,b1];(try simp only [ite_and]);(repeat' first|with_reducible assumption|apply vz);all_goals (first|(refine ⟨_,_,rfl,hQ _ _ ?_⟩;clear hQ Q)|(apply ux;kernel_rfl)|omega|assumption|rfl|skip))|((first|apply uz env|apply uj);intro Q hQ;simp only [vkt,seval,yQ,Qbo,aS,qP,zB,qF,ql,ae,ab,qQ,qf,chR,yE,hs,hl,h1,l1,b0,ite_and];(repeat' first|with_reducible assumption|apply vz|intro hp);all_goals first|(apply hQ;clear hQ Q)|(apply ux;kernel_rfl)|omega|assumption|rfl|skip)
  (simp only [vrt,results98,vkt,seval,Qbo,qQ,qf,chR];refine Fin.ok (fun j=>[0,1,2][j]?) [] ?_ ?_ ?_ ?_ ?_ rfl;all_goals (try simp only [vle,vkt,seval]))
  all_goals first|rfl|(simp;done)|exact fun i hi=>(match i,hi with|0,_=>rfl|1,_=>rfl|2,_=>rfl)
def QiT:=vz @aI.eq_1 (@aB.eq_1)
def QaY (c:Chart) (s:List UInt8) (l:List (List UInt8)) (k:Tk) (hs:spS s [32]=l) (h0:l.headD []=ww) (h1:tkP l=some k) (hc:c.sold.length<=1000) (hl:s.length<=100000) :
  Fn (jd TabT) prog 98 [.ptr 0 0,aS s] (qb (qB 0 (zm c))) (aI 2) (qb (ze 0 [some (chR c.secs 1 3),some (qQ c.cabins),none,some (qf (c.sold++[k]))])) 0:=by
 have env:=qA (A:=zW TabT) (kC wL (kC xq (kC YZ kN)))
 refine Fn.of (A:=zW TabT) (n0:=3) (D:=noD) (Fn0 func98 rfl (fun vs w=>by kernel_rfl) (by kernel_rfl)) (by simp) (by simp [AV.ids,aS]) jf (fun _ hB _ _=>hB) qX ?_
 have hm:(1000:Nat)+1<=maxLen:=by decide
 show Sym _ _ _ (qV [.ptr 0 0,aS s] 3 (qb [(0,chR c.secs 1 2),(1,qQ c.cabins),(2,qf c.sold)])) (yc tyB noD Tryz.f98 fun S rv=>Fin S rv _ 3 (qb [(0,chR c.secs 1 3),(1,qQ c.cabins),(3,qf (c.sold++[k]))]) 0)
 have hw:=ZP (s:=s) (sep:=[32]) hl
 have hpos:=(xg (s:=s) (sep:=[32]) (by decide)).1
 rw [hs] at hw hpos
 have e1:(tkP l).isSome=true:=by rw [h1];rfl
 have hx:∀ d,(l.map qF).getD 0 d=[.v (.string ⟨⟨[115,111,108,100]⟩⟩)]:=fun d=>by
  match l,h0,hpos with
  |w :: l,h0,_=>simp only [bJ] at h0;subst h0;rfl
 obtain ⟨p,sx,cb,bd,fr,to,dg⟩:=k
 have b0:(([115,111,108,100]:List UInt8) == [99,97,98,105,110])=false:=by decide
 have b1:(([115,111,108,100]:List UInt8) == [119,97,121])=false:=by decide
 have b2:(([115,111,108,100]:List UInt8) == [115,111,108,100])=true:=by decide
 ·repeat' first|(apply nx;with_reducible constructor)|apply uq (by decide)|refine vq ?_|refine vx ?_|(refine uk env 2 rfl rfl rfl (fun Q hQ=>?_);simp only [vkt,seval,yQ,QiT,aTk,cTk,aS,qP,zB,YX,qF,ql,ae,ab,aj,au,qQ,qf,chR,zm,qx,wP,rTk,eTk,ao,aA,aq,zD,yE,ww,jl,hs,hl,h1,e1,b0,b1,b2,hx,hpos,hw,Qe6,ao];(try simp only [ite_and]);(repeat' first|with_reducible assumption|apply vz);all_goals (first|(refine ⟨_,_,rfl,hQ _ _ ?_⟩;clear hQ Q)|(apply ux;kernel_rfl)|omega|assumption|rfl|skip))|((first|apply uz env|apply uj);intro Q hQ;simp only [vkt,seval,yQ,aTk,cTk,aS,zB,YX,ql,qQ,qf,chR,rTk,hs,hl,h1,b0,b1,hx,hpos,Qe6,ite_and];(repeat' first|with_reducible assumption|apply vz|intro hp);all_goals first|(apply hQ;clear hQ Q)|(apply ux;kernel_rfl)|omega|assumption|rfl|skip)
  (simp only [vrt,results98,vkt,seval,QiT,qQ,qf,chR,eTk,aq];refine Fin.ok (fun j=>[0,1,2,4][j]?) [] ?_ ?_ ?_ ?_ ?_ rfl;all_goals (try simp only [vle,vkt,seval]))
  all_goals first|rfl|(simp;done)|exact fun i hi=>(match i,hi with|0,_=>rfl|1,_=>rfl|2,_=>rfl)
def Qgl:=vz @aI.eq_1 (@aB.eq_1)
def Qbn (c:Chart) (s:List UInt8) (hs:spS s [32]=[jl]) (hl:s.length<=100000) :
  Fn (jd TabT) prog 98 [.ptr 0 0,aS s] (qb (qB 0 (zm c))) (aI 3) (qb (ze 0 [some (chR c.secs 1 2),some (qQ c.cabins),some (qf c.sold)])) 0:=by
 have env:=qA (A:=zW TabT) (kC wL (kC xq (kC YZ kN)))
 refine Fn.of (A:=zW TabT) (n0:=3) (D:=noD) (Fn0 func98 rfl (fun vs w=>by kernel_rfl) (by kernel_rfl)) (by simp) (by simp [AV.ids,aS]) jf (fun _ hB _ _=>hB) qX ?_
 have hm:(1000:Nat)+1<=maxLen:=by decide
 show Sym _ _ _ (qV [.ptr 0 0,aS s] 3 (qb [(0,chR c.secs 1 2),(1,qQ c.cabins),(2,qf c.sold)])) (yc tyB noD Tryz.f98 fun S rv=>Fin S rv _ 3 (qb [(0,chR c.secs 1 2),(1,qQ c.cabins),(2,qf c.sold)]) 0)
 have b0:(([99,97,114]:List UInt8) == [99,97,98,105,110])=false:=by decide
 have b1:(([99,97,114]:List UInt8) == [119,97,121])=false:=by decide
 have b2:(([99,97,114]:List UInt8) == [115,111,108,100])=false:=by decide
 have b3:(([99,97,114]:List UInt8) == [99,97,114])=true:=by decide
 ·repeat' first|(apply nx;with_reducible constructor)|apply uq (by decide)|refine vq ?_|refine vx ?_|(refine uk env 2 rfl rfl rfl (fun Q hQ=>?_);simp only [vkt,seval,yQ,Qgl,aTk,cTk,aS,qP,zB,YX,qF,ql,ae,ab,aj,au,qQ,qf,chR,zm,qx,wP,rTk,eTk,ao,aA,aq,zD,yE,ww,jl,hs,hl,b0,b1,b2,b3];(try simp only [ite_and]);(repeat' first|with_reducible assumption|apply vz);all_goals (first|(refine ⟨_,_,rfl,hQ _ _ ?_⟩;clear hQ Q)|(apply ux;kernel_rfl)|omega|assumption|rfl|skip))|((first|apply uz env|apply uj);intro Q hQ;simp only [vkt,seval,yQ,aS,zB,qF,ql,ab,qQ,qf,chR,jl,hs,hl,b0,b1,b2,ite_and];(repeat' first|with_reducible assumption|apply vz|intro hp);all_goals first|(apply hQ;clear hQ Q)|(apply ux;kernel_rfl)|omega|assumption|rfl|skip)
  (simp only [vrt,results98,vkt,seval,Qgl,qQ,qf,chR];refine Fin.ok (fun j=>[0,1,2][j]?) [] ?_ ?_ ?_ ?_ ?_ rfl;all_goals (try simp only [vle,vkt,seval]))
  all_goals first|rfl|(simp;done)|exact fun i hi=>(match i,hi with|0,_=>rfl|1,_=>rfl|2,_=>rfl)
def zH:=vz @ty3 (vz @ty9 (vz @ZF (vz @vJ (vz @jm (vz @XN (vz @ZC (vz @jC (vz @UZ (vz @ti3.eq_1 (vz @ti9.eq_1 (vz @Qv.eq_1 (vz @yI.eq_1 (vz @wY.eq_1 (vz @YA.eq_1 (vz @Qz.eq_1 (vz @je.eq_1 @YU.eq_1))))))))))))))))
def Qhg:=vz @aI.eq_1 (@aB.eq_1)
def Qad (c:Chart) (s:List UInt8) (w1 w2:List UInt8) (hs:spS s [32]=[zD,w1,w2]) (l1:w1.length<=100000) (h1:ji w1=none) (h2:w2=[100]\/w2=[115]) (hl:s.length<=100000):FnX refusal (jd TabT) prog 98 [.ptr 0 0,aS s] (qb (qB 0 (zm c))) (qb (ze 0 ((zm c).map some))):=by
 have env:=qA (A:=zW TabT) (kC wL (kC xq (kC YZ kN)))
 refine FnX.of (A:=zW TabT) (n0:=3) (Fn0 func98 rfl (fun vs w=>by kernel_rfl) (by kernel_rfl)) (by simp) (by simp [AV.ids,aS]) jf (fun _ hB _ _=>hB) ?_
 have hpos:=(xg (s:=s) (sep:=[32]) (by decide)).1
 show Sym _ _ _ (qV [.ptr 0 0,aS s] 3 (qb [(0,chR c.secs 1 2),(1,qQ c.cabins),(2,qf c.sold)])) fun e S=>e=.panic refusal/\S.d=[]/\Fin S .junk .junk 3 (qb [(0,chR c.secs 1 2),(1,qQ c.cabins),(2,qf c.sold)]) 0
 have b0:(([99,97,98,105,110]:List UInt8) == [99,97,98,105,110])=true:=by decide
 rcases h2 with rfl|rfl
 ·have b1:(([100]:List UInt8) == [100])=true:=by decide
  repeat' first|(apply nx;with_reducible constructor)|apply uq (by decide)|refine vq ?_|refine vx ?_|(refine uk env 2 rfl rfl rfl (fun Q hQ=>?_);simp only [vkt,seval,zH,Qhg,aTk,cTk,aS,qP,zB,YX,qF,ql,ae,ab,aj,au,qQ,qf,chR,zm,qx,wP,rTk,eTk,ao,aA,aq,zD,yE,ww,jl, hs,hl,h1,l1,b0,b1,QG];(try simp only [ite_and]);(repeat' first|with_reducible assumption|apply vz);all_goals (first|(refine ⟨_,_,rfl,hQ _ _ ?_⟩;clear hQ Q)|(apply ux;kernel_rfl)|omega|assumption|rfl|skip))|(refine uv env Zi 8 [0,1,2,3,4,5,6,7,9,10,11,12] rfl rfl (by kernel_rfl) (fun Q hQ=>?_);simp only [yM,Qu,Qbx,QgR,cG,dR,cq,aJ,bw,vkt,seval,zH,ae,ab,h1,l1,QG];(try simp only [ite_and]);(repeat' first|with_reducible assumption|apply vz|intro hp);all_goals (first|(refine hQ _ _ _ ?_;clear hQ Q)|(apply ux;kernel_rfl)|omega|assumption|(with_reducible rfl)))|((first|apply uz env|apply uj);intro Q hQ;simp only [vkt,seval,zH,aS,zB,qF,ql,ae,ab,qQ,qf,chR,zD,hs,hl,ite_and];(repeat' first|with_reducible assumption|apply vz|intro hp);all_goals first|(apply hQ;clear hQ Q)|(apply ux;kernel_rfl)|omega|assumption|rfl|skip)
  (refine ⟨rfl,rfl, ?_⟩;refine Fin.ok (fun j=>[0,1,2][j]?)   [] ?_ ?_ ?_ ?_ ?_ rfl;all_goals (try simp only [St.nil,vle,vkt,seval,qQ,qf,chR]))
  all_goals first|rfl|(simp;done)|exact fun i hi=>(match i,hi with|0,_=>rfl|1,_=>rfl|2,_=>rfl)
 ·have b1:(([115]:List UInt8) == [100])=false:=by decide
  have b2:(([115]:List UInt8) == [115])=true:=by decide
  repeat' first|(apply nx;with_reducible constructor)|apply uq (by decide)|refine vq ?_|refine vx ?_|(refine uk env 2 rfl rfl rfl (fun Q hQ=>?_);simp only [vkt,seval,zH,Qhg,aTk,cTk,aS,qP,zB,YX,qF,ql,ae,ab,aj,au,qQ,qf,chR,zm,qx,wP,rTk,eTk,ao,aA,aq,zD,yE,ww,jl, hs,hl,h1,l1,b0,b1,b2,QG];(try simp only [ite_and]);(repeat' first|with_reducible assumption|apply vz);all_goals (first|(refine ⟨_,_,rfl,hQ _ _ ?_⟩;clear hQ Q)|(apply ux;kernel_rfl)|omega|assumption|rfl|skip))|(refine uv env Zi 8 [0,1,2,3,4,5,6,7,9,10,11,12] rfl rfl (by kernel_rfl) (fun Q hQ=>?_);simp only [yM,Qu,Qbx,QgR,cG,dR,cq,aJ,bw,vkt,seval,zH,ae,ab,h1,l1,b1,QG];(try simp only [ite_and]);(repeat' first|with_reducible assumption|apply vz|intro hp);all_goals (first|(refine hQ _ _ _ ?_;clear hQ Q)|(apply ux;kernel_rfl)|omega|assumption|(with_reducible rfl)))|((first|apply uz env|apply uj);intro Q hQ;simp only [vkt,seval,zH,aS,zB,qF,ql,ae,ab,qQ,qf,chR,zD,hs,hl,b1,ite_and];(repeat' first|with_reducible assumption|apply vz|intro hp);all_goals first|(apply hQ;clear hQ Q)|(apply ux;kernel_rfl)|omega|assumption|rfl|skip)
  (refine ⟨rfl,rfl, ?_⟩;refine Fin.ok (fun j=>[0,1,2][j]?)   [] ?_ ?_ ?_ ?_ ?_ rfl;all_goals (try simp only [St.nil,vle,vkt,seval,qQ,qf,chR]))
  all_goals first|rfl|(simp;done)|exact fun i hi=>(match i,hi with|0,_=>rfl|1,_=>rfl|2,_=>rfl)
def Ux (c:Chart) (s:List UInt8) (w1 w2:List UInt8) (hs:spS s [32]=[zD,w1,w2]) (h1:w2 ≠ [100]) (h2:w2 ≠ [115]) (hl:s.length<=100000):FnX refusal (jd TabT) prog 98 [.ptr 0 0,aS s] (qb (qB 0 (zm c))) (qb (ze 0 ((zm c).map some))):=by
 have env:=qA (A:=zW TabT) (kC wL (kC xq (kC YZ kN)))
 refine FnX.of (A:=zW TabT) (n0:=3) (Fn0 func98 rfl (fun vs w=>by kernel_rfl) (by kernel_rfl)) (by simp) (by simp [AV.ids,aS]) jf (fun _ hB _ _=>hB) ?_
 have hpos:=(xg (s:=s) (sep:=[32]) (by decide)).1
 show Sym _ _ _ (qV [.ptr 0 0,aS s] 3 (qb [(0,chR c.secs 1 2),(1,qQ c.cabins),(2,qf c.sold)])) fun e S=>e=.panic refusal/\S.d=[]/\Fin S .junk .junk 3 (qb [(0,chR c.secs 1 2),(1,qQ c.cabins),(2,qf c.sold)]) 0
 have b0:(([99,97,98,105,110]:List UInt8) == [99,97,98,105,110])=true:=by decide
 have b1:(w2 == [100])=false:=by simp [h1]
 have b2:(w2 == [115])=false:=by simp [h2]
 ·repeat' first|(apply nx;with_reducible constructor)|apply uq (by decide)|refine vq ?_|refine vx ?_|(refine uk env 2 rfl rfl rfl (fun Q hQ=>?_);simp only [vkt,seval,zH];(try simp only [ite_and]);(repeat' first|with_reducible assumption|apply vz);all_goals (first|(refine ⟨_,_,rfl,hQ _ _ ?_⟩;clear hQ Q)|(apply ux;kernel_rfl)|omega|assumption|rfl|skip))|((first|apply uz env|apply uj);intro Q hQ;simp only [vkt,seval,zH,aS,zB,qF,ql,ae,ab,qQ,qf,chR,zD,hs,hl,b1,b2,ite_and];(repeat' first|with_reducible assumption|apply vz|intro hp);all_goals first|(apply hQ;clear hQ Q)|(apply ux;kernel_rfl)|omega|assumption|rfl|skip)
  (refine ⟨rfl,rfl, ?_⟩;refine Fin.ok (fun j=>[0,1,2][j]?)   [] ?_ ?_ ?_ ?_ ?_ rfl;all_goals (try simp only [vle,vkt,seval,qQ,qf,chR]))
  all_goals first|rfl|(simp;done)|exact fun i hi=>(match i,hi with|0,_=>rfl|1,_=>rfl|2,_=>rfl)
def RG (c:Chart) (s:List UInt8) (l:List (List UInt8)) (hs:spS s [32]=l) (h0:l.headD []=zD) (h1:l.length ≠ 3) (hl:s.length<=100000):FnX refusal (jd TabT) prog 98 [.ptr 0 0,aS s] (qb (qB 0 (zm c))) (qb (ze 0 ((zm c).map some))):=by
 have env:=qA (A:=zW TabT) (kC wL (kC xq (kC YZ kN)))
 refine FnX.of (A:=zW TabT) (n0:=3) (Fn0 func98 rfl (fun vs w=>by kernel_rfl) (by kernel_rfl)) (by simp) (by simp [AV.ids,aS]) jf (fun _ hB _ _=>hB) ?_
 have hpos:=(xg (s:=s) (sep:=[32]) (by decide)).1
 show Sym _ _ _ (qV [.ptr 0 0,aS s] 3 (qb [(0,chR c.secs 1 2),(1,qQ c.cabins),(2,qf c.sold)])) fun e S=>e=.panic refusal/\S.d=[]/\Fin S .junk .junk 3 (qb [(0,chR c.secs 1 2),(1,qQ c.cabins),(2,qf c.sold)]) 0
 have hx:∀ d,(l.map qF).getD 0 d=[.v (.string ⟨⟨[99,97,98,105,110]⟩⟩)]:=fun d=>by
  rw [hs] at hpos
  match l,h0,hpos with
  |w :: l,h0,_=>simp only [bJ] at h0;subst h0;rfl
 rw [hs] at hpos
 have b0:(([99,97,98,105,110]:List UInt8) == [99,97,98,105,110])=true:=by decide
 have d1:decide ((l.length:Int)=3)=false:=decide_eq_false (by omega)
 ·repeat' first|(apply nx;with_reducible constructor)|apply uq (by decide)|refine vq ?_|refine vx ?_|(refine uk env 2 rfl rfl rfl (fun Q hQ=>?_);simp only [vkt,seval,zH];(try simp only [ite_and]);(repeat' first|with_reducible assumption|apply vz);all_goals (first|(refine ⟨_,_,rfl,hQ _ _ ?_⟩;clear hQ Q)|(apply ux;kernel_rfl)|omega|assumption|rfl|skip))|((first|apply uz env|apply uj);intro Q hQ;simp only [vkt,seval,zH,aS,zB,ql,qQ,qf,chR,hs,hl,hx,hpos,d1,ite_and];(repeat' first|with_reducible assumption|apply vz|intro hp);all_goals first|(apply hQ;clear hQ Q)|(apply ux;kernel_rfl)|omega|assumption|rfl|skip)
  (refine ⟨rfl,rfl, ?_⟩;refine Fin.ok (fun j=>[0,1,2][j]?)   [] ?_ ?_ ?_ ?_ ?_ rfl;all_goals (try simp only [vle,vkt,seval,qQ,qf,chR]))
  all_goals first|rfl|(simp;done)|exact fun i hi=>(match i,hi with|0,_=>rfl|1,_=>rfl|2,_=>rfl)
def Ql5:=vz @aI.eq_1 (@aB.eq_1)
def Qe0 (c:Chart) (s:List UInt8) (w1:List UInt8) (hs:spS s [32]=[yE,w1]) (l1:w1.length<=100000) (h1:ji w1=none) (hl:s.length<=100000):FnX refusal (jd TabT) prog 98 [.ptr 0 0,aS s] (qb (qB 0 (zm c))) (qb (ze 0 ((zm c).map some))):=by
 have env:=qA (A:=zW TabT) (kC wL (kC xq (kC YZ kN)))
 refine FnX.of (A:=zW TabT) (n0:=3) (Fn0 func98 rfl (fun vs w=>by kernel_rfl) (by kernel_rfl)) (by simp) (by simp [AV.ids,aS]) jf (fun _ hB _ _=>hB) ?_
 have hpos:=(xg (s:=s) (sep:=[32]) (by decide)).1
 show Sym _ _ _ (qV [.ptr 0 0,aS s] 3 (qb [(0,chR c.secs 1 2),(1,qQ c.cabins),(2,qf c.sold)])) fun e S=>e=.panic refusal/\S.d=[]/\Fin S .junk .junk 3 (qb [(0,chR c.secs 1 2),(1,qQ c.cabins),(2,qf c.sold)]) 0
 have b0:(([119,97,121]:List UInt8) == [99,97,98,105,110])=false:=by decide
 have b1:(([119,97,121]:List UInt8) == [119,97,121])=true:=by decide
 ·repeat' first|(apply nx;with_reducible constructor)|apply uq (by decide)|refine vq ?_|refine vx ?_|(refine uk env 2 rfl rfl rfl (fun Q hQ=>?_);simp only [vkt,seval,zH,Ql5,aTk,cTk,aS,qP,zB,YX,qF,ql,ae,ab,aj,au,qQ,qf,chR,zm,qx,wP,rTk,eTk,ao,aA,aq,zD,yE,ww,jl, hs,hl,h1,l1,QG,b0,b1];(try simp only [ite_and]);(repeat' first|with_reducible assumption|apply vz);all_goals (first|(refine ⟨_,_,rfl,hQ _ _ ?_⟩;clear hQ Q)|(apply ux;kernel_rfl)|omega|assumption|rfl|skip))|(refine uw env Zi 4 rfl rfl (fun Q hQ=>?_);simp only [yM,Qu,vkt,seval,zH,ae,ab,h1,l1,QG];(try simp only [ite_and]);(repeat' first|with_reducible assumption|apply vz|intro hp);all_goals (first|(refine hQ _ _ _ ?_;clear hQ Q)|(apply ux;kernel_rfl)|omega|assumption|(with_reducible rfl)))|((first|apply uz env|apply uj);intro Q hQ;simp only [vkt,seval,zH,aS,zB,qF,ql,ab,qQ,qf,chR,yE,hs,hl,b0,ite_and];(repeat' first|with_reducible assumption|apply vz|intro hp);all_goals first|(apply hQ;clear hQ Q)|(apply ux;kernel_rfl)|omega|assumption|rfl|skip)
  (refine ⟨rfl,rfl, ?_⟩;refine Fin.ok (fun j=>[0,1,2][j]?)   [] ?_ ?_ ?_ ?_ ?_ rfl;all_goals (try simp only [vle,vkt,seval,qQ,qf,chR]))
  all_goals first|rfl|(simp;done)|exact fun i hi=>(match i,hi with|0,_=>rfl|1,_=>rfl|2,_=>rfl)
def QbM (c:Chart) (s:List UInt8) (l:List (List UInt8)) (hs:spS s [32]=l) (h0:l.headD []=yE) (h1:l.length ≠ 2) (hl:s.length<=100000):FnX refusal (jd TabT) prog 98 [.ptr 0 0,aS s] (qb (qB 0 (zm c))) (qb (ze 0 ((zm c).map some))):=by
 have env:=qA (A:=zW TabT) (kC wL (kC xq (kC YZ kN)))
 refine FnX.of (A:=zW TabT) (n0:=3) (Fn0 func98 rfl (fun vs w=>by kernel_rfl) (by kernel_rfl)) (by simp) (by simp [AV.ids,aS]) jf (fun _ hB _ _=>hB) ?_
 have hpos:=(xg (s:=s) (sep:=[32]) (by decide)).1
 show Sym _ _ _ (qV [.ptr 0 0,aS s] 3 (qb [(0,chR c.secs 1 2),(1,qQ c.cabins),(2,qf c.sold)])) fun e S=>e=.panic refusal/\S.d=[]/\Fin S .junk .junk 3 (qb [(0,chR c.secs 1 2),(1,qQ c.cabins),(2,qf c.sold)]) 0
 have hx:∀ d,(l.map qF).getD 0 d=[.v (.string ⟨⟨[119,97,121]⟩⟩)]:=fun d=>by
  rw [hs] at hpos
  match l,h0,hpos with
  |w :: l,h0,_=>simp only [bJ] at h0;subst h0;rfl
 rw [hs] at hpos
 have b0:(([119,97,121]:List UInt8) == [99,97,98,105,110])=false:=by decide
 have b1:(([119,97,121]:List UInt8) == [119,97,121])=true:=by decide
 have d1:decide ((l.length:Int)=2)=false:=decide_eq_false (by omega)
 ·repeat' first|(apply nx;with_reducible constructor)|apply uq (by decide)|refine vq ?_|refine vx ?_|(refine uk env 2 rfl rfl rfl (fun Q hQ=>?_);simp only [vkt,seval,zH];(try simp only [ite_and]);(repeat' first|with_reducible assumption|apply vz);all_goals (first|(refine ⟨_,_,rfl,hQ _ _ ?_⟩;clear hQ Q)|(apply ux;kernel_rfl)|omega|assumption|rfl|skip))|((first|apply uz env|apply uj);intro Q hQ;simp only [vkt,seval,zH,aS,zB,ql,qQ,qf,chR,hs,hl,hx,hpos,d1,b0,ite_and];(repeat' first|with_reducible assumption|apply vz|intro hp);all_goals first|(apply hQ;clear hQ Q)|(apply ux;kernel_rfl)|omega|assumption|rfl|skip)
  (refine ⟨rfl,rfl, ?_⟩;refine Fin.ok (fun j=>[0,1,2][j]?)   [] ?_ ?_ ?_ ?_ ?_ rfl;all_goals (try simp only [vle,vkt,seval,qQ,qf,chR]))
  all_goals first|rfl|(simp;done)|exact fun i hi=>(match i,hi with|0,_=>rfl|1,_=>rfl|2,_=>rfl)
def Qnj:=vz @aI.eq_1 (@aB.eq_1)
def QbY (c:Chart) (s:List UInt8) (l:List (List UInt8)) (hs:spS s [32]=l) (h0:l.headD []=ww) (h1:tkP l=none) (hl:s.length<=100000):FnX refusal (jd TabT) prog 98 [.ptr 0 0,aS s] (qb (qB 0 (zm c))) (qb (ze 0 ((zm c).map some))):=by
 have env:=qA (A:=zW TabT) (kC wL (kC xq (kC YZ kN)))
 refine FnX.of (A:=zW TabT) (n0:=3) (Fn0 func98 rfl (fun vs w=>by kernel_rfl) (by kernel_rfl)) (by simp) (by simp [AV.ids,aS]) jf (fun _ hB _ _=>hB) ?_
 have hpos:=(xg (s:=s) (sep:=[32]) (by decide)).1
 show Sym _ _ _ (qV [.ptr 0 0,aS s] 3 (qb [(0,chR c.secs 1 2),(1,qQ c.cabins),(2,qf c.sold)])) fun e S=>e=.panic refusal/\S.d=[]/\Fin S .junk .junk 3 (qb [(0,chR c.secs 1 2),(1,qQ c.cabins),(2,qf c.sold)]) 0
 have hw:=ZP (s:=s) (sep:=[32]) hl
 rw [hs] at hw
 have hq:QhG [.sl (l.map qF)]:=⟨l,rfl,h1,hw⟩
 have hx:∀ d,(l.map qF).getD 0 d=[.v (.string ⟨⟨[115,111,108,100]⟩⟩)]:=fun d=>by
  rw [hs] at hpos
  match l,h0,hpos with
  |w :: l,h0,_=>simp only [bJ] at h0;subst h0;rfl
 rw [hs] at hpos
 have b0:(([115,111,108,100]:List UInt8) == [99,97,98,105,110])=false:=by decide
 have b1:(([115,111,108,100]:List UInt8) == [119,97,121])=false:=by decide
 have b2:(([115,111,108,100]:List UInt8) == [115,111,108,100])=true:=by decide
 ·repeat' first|(apply nx;with_reducible constructor)|apply uq (by decide)|refine vq ?_|refine vx ?_|(refine uk env 2 rfl rfl rfl (fun Q hQ=>?_);simp only [vkt,seval,zH,Qnj,aTk,cTk,aS,qP,zB,YX,qF,ql,ae,ab,aj,au,qQ,qf,chR,zm,qx,wP,rTk,eTk,ao,aA,aq,zD,yE,ww,jl, hs,hl,hx,hpos,ao,hq,b0,b1,b2];(try simp only [ite_and]);(repeat' first|with_reducible assumption|apply vz);all_goals (first|(refine ⟨_,_,rfl,hQ _ _ ?_⟩;clear hQ Q)|(apply ux;kernel_rfl)|omega|assumption|rfl|skip))|(refine uv env xTkt 6 [0,1,2,3,4,5] rfl rfl (by kernel_rfl) (fun Q hQ=>?_);simp only [yM,Qu,Qbx,QgR,cG,dR,cq,aJ,bw,vkt,seval,zH,hq];(try simp only [ite_and]);(repeat' first|with_reducible assumption|apply vz|intro hp);all_goals (first|(refine hQ _ _ _ ?_;clear hQ Q)|(apply ux;kernel_rfl)|omega|assumption|(with_reducible rfl)))|((first|apply uz env|apply uj);intro Q hQ;simp only [vkt,seval,zH,aS,zB,ql,qQ,qf,chR,hs,hl,hx,hpos,b0,b1,ite_and];(repeat' first|with_reducible assumption|apply vz|intro hp);all_goals first|(apply hQ;clear hQ Q)|(apply ux;kernel_rfl)|omega|assumption|rfl|skip)
  (refine ⟨rfl,rfl, ?_⟩;refine Fin.ok (fun j=>[0,1,2][j]?)   [] ?_ ?_ ?_ ?_ ?_ rfl;all_goals (try simp only [St.nil,vle,vkt,seval,qQ,qf,chR]))
  all_goals first|rfl|(simp;done)|exact fun i hi=>(match i,hi with|0,_=>rfl|1,_=>rfl|2,_=>rfl)
def QdZ (c:Chart) (s:List UInt8) (l:List (List UInt8)) (hs:spS s [32]=l) (h0:l.headD []=jl) (h1:l.length ≠ 1) (hl:s.length<=100000):FnX refusal (jd TabT) prog 98 [.ptr 0 0,aS s] (qb (qB 0 (zm c))) (qb (ze 0 ((zm c).map some))):=by
 have env:=qA (A:=zW TabT) (kC wL (kC xq (kC YZ kN)))
 refine FnX.of (A:=zW TabT) (n0:=3) (Fn0 func98 rfl (fun vs w=>by kernel_rfl) (by kernel_rfl)) (by simp) (by simp [AV.ids,aS]) jf (fun _ hB _ _=>hB) ?_
 have hpos:=(xg (s:=s) (sep:=[32]) (by decide)).1
 show Sym _ _ _ (qV [.ptr 0 0,aS s] 3 (qb [(0,chR c.secs 1 2),(1,qQ c.cabins),(2,qf c.sold)])) fun e S=>e=.panic refusal/\S.d=[]/\Fin S .junk .junk 3 (qb [(0,chR c.secs 1 2),(1,qQ c.cabins),(2,qf c.sold)]) 0
 have hx:∀ d,(l.map qF).getD 0 d=[.v (.string ⟨⟨[99,97,114]⟩⟩)]:=fun d=>by
  rw [hs] at hpos
  match l,h0,hpos with
  |w :: l,h0,_=>simp only [bJ] at h0;subst h0;rfl
 rw [hs] at hpos
 have b0:(([99,97,114]:List UInt8) == [99,97,98,105,110])=false:=by decide
 have b1:(([99,97,114]:List UInt8) == [119,97,121])=false:=by decide
 have b2:(([99,97,114]:List UInt8) == [115,111,108,100])=false:=by decide
 have b3:(([99,97,114]:List UInt8) == [99,97,114])=true:=by decide
 have d1:decide ((l.length:Int)=1)=false:=decide_eq_false (by omega)
 ·repeat' first|(apply nx;with_reducible constructor)|apply uq (by decide)|refine vq ?_|refine vx ?_|(refine uk env 2 rfl rfl rfl (fun Q hQ=>?_);simp only [vkt,seval,zH];(try simp only [ite_and]);(repeat' first|with_reducible assumption|apply vz);all_goals (first|(refine ⟨_,_,rfl,hQ _ _ ?_⟩;clear hQ Q)|(apply ux;kernel_rfl)|omega|assumption|rfl|skip))|((first|apply uz env|apply uj);intro Q hQ;simp only [vkt,seval,zH,aS,zB,ql,qQ,qf,chR,hs,hl,hx,hpos,d1,b0,b1,b2,ite_and];(repeat' first|with_reducible assumption|apply vz|intro hp);all_goals first|(apply hQ;clear hQ Q)|(apply ux;kernel_rfl)|omega|assumption|rfl|skip)
  (refine ⟨rfl,rfl, ?_⟩;refine Fin.ok (fun j=>[0,1,2][j]?)   [] ?_ ?_ ?_ ?_ ?_ rfl;all_goals (try simp only [vle,vkt,seval,qQ,qf,chR]))
  all_goals first|rfl|(simp;done)|exact fun i hi=>(match i,hi with|0,_=>rfl|1,_=>rfl|2,_=>rfl)
def Qbf (c:Chart) (s:List UInt8) (l:List (List UInt8)) (w0:List UInt8) (hs:spS s [32]=l) (h0:l.headD []=w0) (h1:w0 ≠ zD) (h2:w0 ≠ yE) (h3:w0 ≠ ww) (h4:w0 ≠ jl) (hl:s.length<=100000):FnX refusal (jd TabT) prog 98 [.ptr 0 0,aS s] (qb (qB 0 (zm c))) (qb (ze 0 ((zm c).map some))):=by
 have env:=qA (A:=zW TabT) (kC wL (kC xq (kC YZ kN)))
 refine FnX.of (A:=zW TabT) (n0:=3) (Fn0 func98 rfl (fun vs w=>by kernel_rfl) (by kernel_rfl)) (by simp) (by simp [AV.ids,aS]) jf (fun _ hB _ _=>hB) ?_
 have hpos:=(xg (s:=s) (sep:=[32]) (by decide)).1
 show Sym _ _ _ (qV [.ptr 0 0,aS s] 3 (qb [(0,chR c.secs 1 2),(1,qQ c.cabins),(2,qf c.sold)])) fun e S=>e=.panic refusal/\S.d=[]/\Fin S .junk .junk 3 (qb [(0,chR c.secs 1 2),(1,qQ c.cabins),(2,qf c.sold)]) 0
 have hx:∀ d,(l.map qF).getD 0 d=[.v (.string ⟨⟨w0⟩⟩)]:=fun d=>by
  rw [hs] at hpos
  match l,h0,hpos with
  |w :: l,h0,_=>simp only [bJ] at h0;subst h0;rfl
 rw [hs] at hpos
 have b0:(w0 == [99,97,98,105,110])=false:=beq_eq_false_iff_ne.2 h1
 have b1:(w0 == [119,97,121])=false:=beq_eq_false_iff_ne.2 h2
 have b2:(w0 == [115,111,108,100])=false:=beq_eq_false_iff_ne.2 h3
 have b3:(w0 == [99,97,114])=false:=beq_eq_false_iff_ne.2 h4
 ·repeat' first|(apply nx;with_reducible constructor)|apply uq (by decide)|refine vq ?_|refine vx ?_|(refine uk env 2 rfl rfl rfl (fun Q hQ=>?_);simp only [vkt,seval,zH];(try simp only [ite_and]);(repeat' first|with_reducible assumption|apply vz);all_goals (first|(refine ⟨_,_,rfl,hQ _ _ ?_⟩;clear hQ Q)|(apply ux;kernel_rfl)|omega|assumption|rfl|skip))|((first|apply uz env|apply uj);intro Q hQ;simp only [vkt,seval,zH,aS,zB,ql,qQ,qf,chR,hs,hl,hx,hpos,b0,b1,b2,b3,ite_and];(repeat' first|with_reducible assumption|apply vz|intro hp);all_goals first|(apply hQ;clear hQ Q)|(apply ux;kernel_rfl)|omega|assumption|rfl|skip)
  (refine ⟨rfl,rfl, ?_⟩;refine Fin.ok (fun j=>[0,1,2][j]?)   [] ?_ ?_ ?_ ?_ ?_ rfl;all_goals (try simp only [vle,vkt,seval,qQ,qf,chR]))
  all_goals first|rfl|(simp;done)|exact fun i hi=>(match i,hi with|0,_=>rfl|1,_=>rfl|2,_=>rfl)
def tak_x (c:Chart) (s:List UInt8) (hl:s.length<=100000) (h:JW s=none):FnX refusal (jd TabT) prog 98 [.ptr 0 0,aS s] (qb (qB 0 (zm c))) (qb (ze 0 ((zm c).map some))):=by
 have hit:=ZP (s:=s) (sep:=[32]) hl
 unfold JW Rk at h
 obtain ⟨l,hs⟩:∃ l,spS s [32]=l:=⟨_,rfl⟩
 rw [hs] at h hit
 split at h
 ·rename_i h0
  by_cases h3:l.length=3
  ·match l,h3 with
   |[a,w1,w2],_ =>
    simp only [bJ] at h0
    subst h0
    simp only [cbP] at h
    split at h
    ·rename_i h2
     exact Qad c s w1 w2 hs (hit _ (by simp)) (by simpa using h) h2 hl
    ·rename_i h2
     exact Ux c s w1 w2 hs (fun e=>h2 (.inl e)) (fun e=>h2 (.inr e)) hl
  ·exact RG c s l hs h0 h3 hl
 ·split at h
  ·rename_i h0
   by_cases h3:l.length=2
   ·match l,h3 with
    |[a,w1],_ =>
     simp only [bJ] at h0
     subst h0
     exact Qe0 c s w1 hs (hit _ (by simp)) (by simpa [wyP] using h) hl
   ·exact QbM c s l hs h0 h3 hl
  ·split at h
   ·rename_i h0
    exact QbY c s l hs h0 (by simpa using h) hl
   ·split at h
    ·rename_i h0
     by_cases h3:l.length=1
     ·match l,h3 with
      |[a],_=>cases h
     ·exact QdZ c s l hs h0 h3 hl
    ·exact Qbf c s l _ hs rfl ‹_› ‹_› ‹_› ‹_› hl
def wQ (c:Chart):Ln->Chart
 |.cabin x=>⟨c.cabins++[x],c.secs,c.sold⟩
 |.way n=>⟨c.cabins,n,c.sold⟩
 |.sold k=>⟨c.cabins,c.secs,c.sold++[k]⟩
 |.car=>c
def qY:Ln->Int
 |.cabin _=>0
 |.way _=>1
 |.sold _=>2
 |.car=>3
def wZ (c:Chart):Ln->List (Option AObj)
 |.cabin x=>[some (chR c.secs 3 2),none,some (qf c.sold),some (qQ (c.cabins++[x]))]
 |.way n=>[some (chR n 1 2),some (qQ c.cabins),some (qf c.sold)]
 |.sold k=>[some (chR c.secs 1 3),some (qQ c.cabins),none,some (qf (c.sold++[k]))]
 |.car=>[some (chR c.secs 1 2),some (qQ c.cabins),some (qf c.sold)]
def Ql4 (c:Chart) (s:List UInt8) (x:Ln) (hl:s.length<=100000) (h:JW s=some x) (hc:c.cabins.length<=1000) (ht:c.sold.length<=1000):Fn (jd TabT) prog 98 [.ptr 0 0,aS s] (qb (qB 0 (zm c))) (aI (qY x)) (qb (ze 0 (wZ c x))) 0:=by
 have hit:=ZP (s:=s) (sep:=[32]) hl
 unfold JW Rk at h
 obtain ⟨l,hs⟩:∃ l,spS s [32]=l:=⟨_,rfl⟩
 rw [hs] at h hit
 split at h
 ·rename_i h0
  unfold cbP at h
  split at h
  ·rename_i a w1 w2
   simp only [bJ] at h0
   subst h0
   split at h
   ·rename_i h2
    obtain ⟨n,h1,rfl⟩:=aG.1 h
    exact Ul c s w1 w2 n hs (hit _ (by simp)) h1 h2 hc hl
   ·cases h
  ·cases h
 ·split at h
  ·rename_i h0
   unfold wyP at h
   split at h
   ·rename_i a w1 _
    simp only [bJ] at h0
    subst h0
    obtain ⟨n,h1,rfl⟩:=aG.1 h
    exact Qbz c s w1 n hs (hit _ (by simp)) h1 hl
   ·cases h
  ·split at h
   ·rename_i h0
    obtain ⟨k,h1,rfl⟩:=aG.1 h
    exact QaY c s l k hs h0 h1 ht hl
   ·split at h
    ·rename_i h0
     unfold crP at h
     split at h
     ·simp only [bJ] at h0
      subst h0
      cases h
      exact Qbn c s hs hl
     ·cases h
    ·cases h
def QX (S:St):List AV->Option Pk
 |[.ptr c 0,.v (.string ⟨⟨s⟩⟩)]=>match S.h c with
  |some (.cells [.row i,.v (.int .i64 w),.row j])=>match S.h i with
   |some (.row _ _ cs)=>match S.h j with
    |some (.row _ _ ts)=>match JW s with
     |some x=>some { pre:=cs=(cs.map qh).map qx/\ts=(ts.map dTk).map eTk/\s.length<=100000/\cs.length<=1000/\ts.length<=1000,hs:=[c,i,j],ar:=[.ptr 0 0,.v (.string ⟨⟨s⟩⟩)],L0:=zm ⟨cs.map qh,w,ts.map dTk⟩,v:=aI (qY x),L1:=wZ ⟨cs.map qh,w,ts.map dTk⟩ x }
     |none=>none
    |_=>none
   |_=>none
  |_=>none
 |_=>none
def eTak:qm (zW TabT) prog 98 (fnE QX):=Qbp fun S bs q h hp=>by
 unfold QX at h
 split at h
 ·split at h
  ·split at h
   ·split at h
    ·split at h
     ·rename_i x hx
      cases h
      obtain ⟨h1,h2,h3,h4,h5⟩:=hp
      exact Ql4 _ _ x h3 hx (by rw [ao];exact h4) (by rw [ao];exact h5)
     ·cases h
    ·cases h
   ·cases h
  ·cases h
 ·cases h
def YY:Zf:=fun S bs=>match bs with
 |[.ptr c 0,.v (.string ⟨⟨s⟩⟩)]=>match S.h c with
  |some (.cells [.row i,.v (.int .i64 w),.row j])=>match S.h i with
   |some (.row _ _ cs)=>match S.h j with
    |some (.row _ _ ts)=>some ({ pre:=cs=(cs.map qh).map qx/\ts=(ts.map dTk).map eTk/\s.length<=100000/\JW s=none,hs:=[c,i,j],ar:=[.ptr 0 0,.v (.string ⟨⟨s⟩⟩)],L0:=zm ⟨cs.map qh,w,ts.map dTk⟩,v:=.junk,L1:=(zm ⟨cs.map qh,w,ts.map dTk⟩).map some },refusal)
    |_=>none
   |_=>none
  |_=>none
 |_=>none
def QkK:XOK (zW TabT) prog 98 YY:=fun S bs q ch h hp=>by
 unfold YY at h
 split at h
 ·split at h
  ·split at h
   ·split at h
    ·cases h
     obtain ⟨h1,h2,h3,h4⟩:=hp
     exact ⟨rfl,jd TabT,fun _ _ _ _ _ _ _ h=>WA h,tak_x _ _ h3 h4⟩
    ·cases h
   ·cases h
  ·cases h
 ·cases h
def Qhx:RetE prog 97:=⟨fun vs w=>by kernel_rfl,fun w=>by
 refine callsDIn_of_wpSIn func97 rfl trivial fun c₀ cs hu=>?_
 apply wpSIn_seq
 apply wpSIn_region
 simp [wpOpsSIn,go_sem,recoverD,hu,ntmps97,Exit.thenS]
 apply wpSIn_seq
 apply wpSIn_region
 simp [wpOpsSIn,go_sem,Exit.thenS]
 refine wpSIn_cond (t:=false) (by simp [Act.eval,Array.replicate]) ?_
 simp only [bM,if_false]
 refine wpSIn_of_wpIn rfl (wpIn_skip ?_)
 cases c₀
 simp_all [bodyPostS,results,results97,Ext.refl]⟩
set_option maxRecDepth 100000 in
def QjC:RecE prog 97 refusal:=⟨fun vs w=>by kernel_rfl,fun w=>by
 refine callsDIn_of_wpSIn func97 rfl trivial fun c₀ cs hu=>?_
 apply wpSIn_seq
 apply wpSIn_region
 simp [wpOpsSIn,go_sem,recoverD,hu,ntmps97,Exit.thenS,refusal]
 apply wpSIn_seq
 apply wpSIn_region
 simp [wpOpsSIn,go_sem,Exit.thenS]
 refine wpSIn_cond (t:=true) (by simp [Act.eval,Array.replicate]) ?_
 simp only [if_true]
 have hta:∀ w,(Instr.typeAssert (.iface 182 (.agg #[])) 20 182 true).run prog w=.ok (.tuple #[.agg #[],.bool true]) w:=fun w=>by kernel_rfl
 apply wpSIn_seq
 apply wpSIn_region
 simp [wpOpsSIn,go_sem,Exit.thenS,hta]
 apply wpSIn_seq
 apply wpSIn_region
 simp [wpOpsSIn,go_sem,Exit.thenS]
 refine wpSIn_cond (t:=false) (by simp [Act.eval,Array.replicate]) ?_
 simp only [bM,if_false]
 refine wpSIn_of_wpIn rfl (wpIn_skip ?_)
 simp [bodyPostS,results,results97]
 have hb:Below w.heap.size w (w.alloc (Obj.cells #[] 182)):=(Below.refl _ w).alloc (aw _) _
 exact ⟨rfl,hb.os,hb.tape,hb.output,hb.size,fun k hk _=>hb.block k hk⟩⟩
def yw (st k:Int):Bool:=decide (k < st) || decide (st=3) || (decide (k=1) && !decide (st=0)) || (decide (1 < k) && decide (st=0))
def xV (c:Chart) (st:Int) (i:Nat) (s:List UInt8):Except Nat (Chart × Int):=match JW s with
 |none=>.error (i+1)
 |some x=>if yw st (qY x)=true then .error (i+1) else .ok (wQ c x,qY x)
def wF (c:Chart) (st:Int) (i:Nat):List (List UInt8)->Except Nat (Chart × Int)
 |[]=>.ok (c,st)
 |s :: r=>match xV c st i s with
  |.error n=>.error n
  |.ok p=>wF p.1 p.2 (i+1) r
def kJ:∀ (a b:List (List UInt8)) (c:Chart) (st:Int) (i:Nat),wF c st i (a++b)=match wF c st i a with
  |.error n=>.error n
  |.ok p=>wF p.1 p.2 (i+a.length) b
 |[],b,c,st,i=>rfl
 |s :: a,b,c,st,i=>by
  rw [aQ,wF,wF]
  cases xV c st i s with
  |error n=>rfl
  |ok p =>
   dsimp only
   rw [kJ a b p.1 p.2 (i+1),bi,show i+1+a.length=i+(a.length+1) by omega]
def Qr:∀ (a:List (List UInt8)) (c:Chart) (st:Int) (i:Nat) {c':Chart} {st':Int},wF c st i a=.ok (c',st')->c'.cabins.length<=c.cabins.length+a.length/\c'.sold.length<=c.sold.length+a.length
 |[],c,st,i,c',st',h=>by
  simp only [wF,Except.ok.injEq,Prod.mk.injEq] at h
  obtain ⟨rfl,rfl⟩:=h
  simp
 |s :: a,c,st,i,c',st',h=>by
  rw [wF] at h
  split at h
  ·cases h
  ·rename_i p hp
   have ih:=Qr a p.1 p.2 (i+1) h
   have h1:p.1.cabins.length<=c.cabins.length+1/\p.1.sold.length<=c.sold.length+1:=by
    unfold xV at hp
    split at hp
    ·cases hp
    ·split at hp
     ·cases hp
     ·rename_i x _ _
      cases hp
      cases x <;> simp [wQ]
   rw [bi]
   omega
def QeY (x:Ln):qY x=0\/qY x=1\/qY x=2\/qY x=3:=by
 cases x <;> simp [qY]
def Yt:∀ (a:List (List UInt8)) (c:Chart) (st:Int) (i:Nat) {c':Chart} {st':Int},(st=0\/st=1\/st=2\/st=3)->wF c st i a=.ok (c',st')->(st'=0\/st'=1\/st'=2\/st'=3)
 |[],c,st,i,c',st',h0,h=>by
  simp only [wF,Except.ok.injEq,Prod.mk.injEq] at h
  obtain ⟨rfl,rfl⟩:=h
  exact h0
 |s :: a,c,st,i,c',st',h0,h=>by
  rw [wF] at h
  split at h
  ·cases h
  ·rename_i p hp
   refine Yt a p.1 p.2 (i+1) ?_ h
   unfold xV at hp
   split at hp
   ·cases hp
   ·split at hp
    ·cases hp
    ·rename_i x _ _
     cases hp
     exact QeY x
def WU (t:List UInt8):Except Nat Chart:=match wF ⟨[],0,[]⟩ 0 0 ((spS t [10]).take ((spS t [10]).length - 1)) with
 |.error n=>.error n
 |.ok p=>if p.2=3/\(spS t [10]).getD ((spS t [10]).length - 1) []=[] then .ok p.1 else .error (spS t [10]).length
def rdV:Except Nat Chart->AV
 |.ok c=>.tup [qd c,aI 0]
 |.error n=>.tup [.agg [.any,.any,.any],aI n]
def rdS (L R:List (List UInt8)) (m k:Nat) (c:Chart) (st:Int):St:={ t:=asg [(2,.ptr 0 0),(3,aI k),(4,ql L),(5,aI m),(6,aI st),(17,ql R),(18,aI R.length),(19,aI k)],h:=qb [(0,chR c.secs 1 2),(1,qQ c.cabins),(2,qf c.sold)],n:=3,d:=[.call 97 []] }
def Qak (l:List (List UInt8)) (k:Nat) (d:List DV) (h:k < l.length):(l.map qF).getD k d=qF (l.getD k []):=by
 simp [ai,h]
def rStrs (l:List (List UInt8)):zu 1 (l.map qF):=by rw [Yl];trivial
def qM:=vz @ty3 (vz @ty9 (vz @jm (vz @XN (vz @UZ (vz @ti3.eq_1 (vz @ti9.eq_1 (vz @wY.eq_1 (vz @YA.eq_1 @YU.eq_1))))))))
def zC:=vz @aI.eq_1 (@aB.eq_1)
def Qjr (t:List UInt8) (hl:t.length<=300):Fn (jd TabT) prog 48 [aS t] noH (rdV (WU t)) noH 0:=by
 have env:Env (tabN TabT) prog tyB (tab [(96,zw false zB),(98,fnE QX)]):=qA ⟨xq.anti Qb3,eTak.anti Qb3,trivial⟩
 refine Fn.ofE (A:=tabN TabT) (n0:=0) (D:=dE 97) (fr:=97) (ok:=fun ch=>ch=refusal) (Fn0 func48 rfl (fun vs w=>by kernel_rfl) (by kernel_rfl)) (by rintro _ rfl;exact QjC) (by simp) (by simp [AV.ids,aS]) (fun i o h=>by cases h) (fun _ hB _ hr=>⟨hB,hr⟩) (dE_ok Qhx) ?_
 have hL:=xg (s:=t) (sep:=[10]) (by decide)
 have hit:=ZP (s:=t) (sep:=[10]) (by omega)
 unfold WU
 obtain ⟨L,hLe⟩:∃ L,spS t [10]=L:=⟨_,rfl⟩
 rw [hLe] at hL hit ⊢
 obtain ⟨m,hm⟩:∃ m,L.length=m+1:=⟨L.length - 1,by omega⟩
 rw [hm,Nat.add_sub_cancel]
 have hl1:t.length<=100000:=by omega
 have e0:IntKind.wrap .i64 ((L.length:Int) - 1)=(m:Int):=by rw [hm,wrap64 (by omega) (by omega)];omega
 obtain ⟨R,hR⟩:∃ R,L.take m=R:=⟨_,rfl⟩
 have hRl:R.length=m:=by rw [<- hR,aR];omega
 have hT:(L.map qF).take m=R.map qF:=by rw [<- hR,List.map_take]
 rw [hR]
 repeat' first|(apply nx;with_reducible constructor)|apply uq (by decide)|refine vq ?_|refine vx ?_
 (apply uz env;intro Q hQ;simp only [vkt,seval,qM,aS,ite_and];(repeat' first|with_reducible assumption|apply vz|intro hp);all_goals first|(apply hQ;clear hQ Q)|(apply ux;kernel_rfl)|omega|assumption|rfl|skip)
 repeat' first|(apply nx;with_reducible constructor)|apply uq (by decide)|refine vq ?_|refine vx ?_
 (apply uz env;intro Q hQ;simp only [vkt,seval,zB,ql,hLe,hl1,ite_and];(repeat' first|with_reducible assumption|apply vz|intro hp);all_goals first|(apply hQ;clear hQ Q)|(apply ux;kernel_rfl)|omega|assumption|rfl|skip)
 repeat' first|(apply nx;with_reducible constructor)|apply uq (by decide)|refine vq ?_|refine vx ?_
 (apply uz env;intro Q hQ;simp only [vkt,seval,qM,e0,ite_and];(repeat' first|with_reducible assumption|apply vz|intro hp);all_goals first|(apply hQ;clear hQ Q)|(apply ux;kernel_rfl)|omega|assumption|rfl|skip)
 repeat' first|(apply nx;with_reducible constructor)|apply uq (by decide)|refine vq ?_|refine vx ?_
 (apply uz env;intro Q hQ;simp only [vkt,seval,ite_and];(repeat' first|with_reducible assumption|apply vz|intro hp);all_goals first|(apply hQ;clear hQ Q)|(apply ux;kernel_rfl)|omega|assumption|rfl|skip)
 repeat' first|(apply nx;with_reducible constructor)|apply uq (by decide)|refine vq ?_|refine vx ?_
 refine VK Ql6 env rfl rfl rfl fun Q hQ=>?_
 simp only [List.dropLast]
 simp only [vkt,seval]
 repeat' first|with_reducible assumption|refine dT ?_ ?_|intro hp
 all_goals first|(refine hQ _ _ _ (by simp only [vkt,seval];rfl) ?_;clear hQ Q)|skip
 dsimp only [put]
 have hm0:(m:Int)<=(L.length:Int):=by omega
 have hm1:(0:Int)<=(m:Int):=by omega
 have hrw:=rStrs L
 repeat' first|(apply nx;with_reducible constructor)|apply uq (by decide)|refine vq ?_|refine vx ?_|(refine uk env 2 rfl rfl rfl (fun Q hQ=>?_);simp only [vkt,seval,qM,zC,aS,zB,QX,YY,qF,ql,qQ,qf,chR,zm,qx,wP,rTk,eTk,qC,mTk,ao,aA,aq,rdS,qY,wQ,wZ,dE,hT,hm0,hm1,hrw,cA,List.drop_zero,Int.toNat_zero];(try simp only [ite_and]);(repeat' first|with_reducible assumption|apply vz);all_goals (first|(refine ⟨_,_,rfl,hQ _ _ ?_⟩;clear hQ Q)|(apply ux;kernel_rfl)|omega|assumption|rfl|skip))|((first|apply uz env|apply uj);intro Q hQ;simp only [vkt,seval,qM,hT,hm0,hm1,hrw,ite_and];(repeat' first|with_reducible assumption|apply vz|intro hp);all_goals first|(apply hQ;clear hQ Q)|(apply ux;kernel_rfl)|omega|assumption|rfl|skip)
 refine qN (fun s:{ p:Nat × Chart × Int // p.1<=m/\wF ⟨[],0,[]⟩ 0 0 (R.take p.1)=.ok (p.2.1,p.2.2) }=>rdS L R m s.1.1 s.1.2.1 s.1.2.2) (fun s=>m - s.1.1) ⟨(0,⟨[],0,[]⟩,0),ag _,rfl⟩ ?_ fun ⟨⟨k,c,st⟩,hk,hg⟩=>?_
 ·simp only [rdS]
  (refine Le.ok (fun i=>if i=1 then none else if i=2 then none else some i) [] ?_;constructor;all_goals (try simp only [vle,vkt,seval,zC,ql,qQ,qf,chR]))
  all_goals first|rfl|(simp;done)|exact ⟨rfl,trivial⟩|(simp [ADf.ids,AV.idsL];done)|(intro i hi;rw [if_neg (by omega)];done)
 simp only at hk hg ⊢
 have hsz:=Qr _ _ _ _ hg
 have hst:=Yt _ _ _ _ (.inl rfl) hg
 have htl:(R.take k).length=k:=by rw [aR];omega
 rw [htl] at hsz
 simp only [bH,bf] at hsz
 by_cases hlt:k < m
 ·have d1:decide ((k:Int) < (R.length:Int))=true:=decide_eq_true (by omega)
  have e9:=k9 k (by omega)
  have hkR:k < R.length:=by omega
  have hs1:(R.getD k []).length<=100000:=by
   have h1:R.getD k []=R[k]:=by simp [hkR]
   rw [h1]
   refine hit _ (bx (i:=m) ?_)
   rw [hR];exact bE _
  have hS:R.take (k+1)=R.take k++[R.getD k []]:=by
   rw [cK,ak hkR]
   simp [hkR]
  have hx:∀ d,(R.map qF).getD k d=[.v (.string ⟨⟨R.getD k []⟩⟩)]:=fun d=>Qak R k d hkR
  generalize R.getD k []=s at hs1 hS hx
  have hnx:wF ⟨[],0,[]⟩ 0 0 (R.take (k+1))=match xV c st k s with
    |.error n=>.error n
    |.ok p=>.ok p:=by
   rw [hS,kJ,hg]
   dsimp only
   rw [htl,bf,wF]
   cases xV c st k s <;> rfl
  have herr:∀ n,xV c st k s=.error n->rdV (match wF ⟨[],0,[]⟩ 0 0 R with
    |.error n=>.error n
    |.ok p=>if p.2=3/\L.getD m []=[] then .ok p.1 else .error (m+1))=.tup [.agg [.any,.any,.any],aI n]:=fun n hn=>by
   have h1:wF ⟨[],0,[]⟩ 0 0 R=.error n:=by
    have h2:=kJ (R.take (k+1)) (R.drop (k+1)) ⟨[],0,[]⟩ 0 0
    rw [dP,hnx,hn] at h2
    exact h2
   rw [h1];rfl
  have c1:c.cabins.length<=1000:=by omega
  have c2:c.sold.length<=1000:=by omega
  obtain ⟨cabs,secs,sold⟩:=c
  dsimp only at c1 c2
  simp only [rdS]
  cases hln:JW s with
  |none =>
   have he:xV ⟨cabs,secs,sold⟩ st k s=.error (k+1):=by simp only [xV,hln]
   rw [herr _ he]
   repeat' first|(apply nx;with_reducible constructor)|apply uq (by decide)|refine vq ?_|refine vx ?_|(refine uk env 2 rfl rfl rfl (fun Q hQ=>?_);simp only [vkt,seval,qM,zC,aS,zB,QX,YY,qF,ql,qQ,qf,chR,zm,qx,wP,rTk,eTk,qC,mTk,ao,aA,aq,rdS,qY,wQ,wZ,dE, d1,e9,hx,hs1,hln,c1,c2];(try simp only [ite_and]);(repeat' first|with_reducible assumption|apply vz);all_goals (first|(refine ⟨_,_,rfl,hQ _ _ ?_⟩;clear hQ Q)|(apply ux;kernel_rfl)|omega|assumption|rfl|skip))|(refine uw env (QkK.anti Qb3) 1 rfl rfl (fun Q hQ=>?_);simp only [yM,vkt,seval,YY,qQ,qf,chR,zm,qC,mTk,hs1,hln];(try simp only [ite_and]);(repeat' first|with_reducible assumption|apply vz|intro hp);all_goals (first|(refine hQ _ _ _ ?_;clear hQ Q)|(apply ux;kernel_rfl)|omega|assumption|(with_reducible rfl)))|((first|apply uz env|apply uj);intro Q hQ;simp only [vkt,seval,qM,zC,ql,qQ,qf,chR,d1,e9,hx,ite_and];(repeat' first|with_reducible assumption|apply vz|intro hp);all_goals first|(apply hQ;clear hQ Q)|(apply ux;kernel_rfl)|omega|assumption|rfl|skip)
   refine ⟨rfl,rfl, ?_⟩
   (simp only [vrt,results48,vkt,seval,qM,zC];refine Fin.val rfl ?_;(try simp only [AV.le,AV.leL]))
   all_goals first|rfl|exact ⟨⟨rfl,rfl,rfl,trivial⟩,trivial,trivial⟩|(simp;done)
  |some x =>
   by_cases hb:yw st (qY x)=true
   ·have he:xV ⟨cabs,secs,sold⟩ st k s=.error (k+1):=by simp only [xV,hln];rw [if_pos hb]
    rw [herr _ he]
    rcases hst with rfl|rfl|rfl|rfl <;> cases x <;> first|(exfalso;simp [yw,qY] at hb;done)|skip
    all_goals
     repeat' first|(apply nx;with_reducible constructor)|apply uq (by decide)|refine vq ?_|refine vx ?_|(refine uk env 2 rfl rfl rfl (fun Q hQ=>?_);simp only [vkt,seval,qM];(try simp only [ite_and]);(repeat' first|with_reducible assumption|apply vz);all_goals (first|(refine ⟨_,_,rfl,hQ _ _ ?_⟩;clear hQ Q)|(apply ux;kernel_rfl)|omega|assumption|rfl|skip))|((first|apply uz env|apply uj);intro Q hQ;simp only [vkt,seval,qM,zC,QX,ql,qQ,qf,chR,zm,qx,eTk,qC,mTk,aq,qY,wZ,d1,e9,hx,hs1,hln,c1,c2,ite_and];(repeat' first|with_reducible assumption|apply vz|intro hp);all_goals first|(apply hQ;clear hQ Q)|(apply ux;kernel_rfl)|omega|assumption|rfl|skip)
     refine ⟨rfl,rfl, ?_⟩
     (simp only [vrt,results48,vkt,seval,qM,zC];refine Fin.val rfl ?_;(try simp only [AV.le,AV.leL]))
     all_goals first|rfl|exact ⟨⟨rfl,rfl,rfl,trivial⟩,trivial,trivial⟩|(simp;done)
   ·have he:xV ⟨cabs,secs,sold⟩ st k s=.ok (wQ ⟨cabs,secs,sold⟩ x,qY x):=by simp only [xV,hln];rw [if_neg hb]
    rw [he] at hnx
    dsimp only at hnx
    rcases hst with rfl|rfl|rfl|rfl
    ·cases x with
     |cabin xx =>
      repeat' first|(apply nx;with_reducible constructor)|apply uq (by decide)|refine vq ?_|refine vx ?_|(refine uk env 2 rfl rfl rfl (fun Q hQ=>?_);simp only [vkt,seval,qM,zC,aS,zB,QX,YY,qF,ql,qQ,qf,chR,zm,qx,wP,rTk,eTk,qC,mTk,ao,aA,aq,rdS,qY,wQ,wZ,dE,d1,e9,hx,hs1,hln,c1,c2];(try simp only [ite_and]);(repeat' first|with_reducible assumption|apply vz);all_goals (first|(refine ⟨_,_,rfl,hQ _ _ ?_⟩;clear hQ Q)|(apply ux;kernel_rfl)|omega|assumption|rfl|skip))|((first|apply uz env|apply uj);intro Q hQ;simp only [vkt,seval,qM,zC,QX,ql,qQ,qf,chR,zm,qx,qC,mTk,aq,qY,wZ,d1,e9,hx,hs1,hln,c1,c2,ite_and];(repeat' first|with_reducible assumption|apply vz|intro hp);all_goals first|(apply hQ;clear hQ Q)|(apply ux;kernel_rfl)|omega|assumption|rfl|skip)
      refine ⟨⟨(k+1,wQ ⟨cabs,secs,sold⟩ (.cabin xx),qY (.cabin xx)),hlt,hnx⟩,by show m - (k+1) < m - k;omega, ?_⟩
      (refine Le.ok (fun i=>if i=1 then some 3 else some i) [] ?_;constructor;all_goals (try simp only [vle,vkt,seval,zC,ql,qQ,qf,chR,qx,aq,qY,wQ]))
      all_goals first|rfl|(simp;done)|exact ⟨rfl,trivial⟩|(simp [ADf.ids,AV.idsL];done)|(intro i hi;rw [if_neg (by omega)];done)
     |way xx =>
      repeat' first|(apply nx;with_reducible constructor)|apply uq (by decide)|refine vq ?_|refine vx ?_|(refine uk env 2 rfl rfl rfl (fun Q hQ=>?_);simp only [vkt,seval,qM,zC,aS,zB,QX,YY,qF,ql,qQ,qf,chR,zm,qx,wP,rTk,eTk,qC,mTk,ao,aA,aq,rdS,qY,wQ,wZ,dE,d1,e9,hx,hs1,hln,c1,c2];(try simp only [ite_and]);(repeat' first|with_reducible assumption|apply vz);all_goals (first|(refine ⟨_,_,rfl,hQ _ _ ?_⟩;clear hQ Q)|(apply ux;kernel_rfl)|omega|assumption|rfl|skip))|((first|apply uz env|apply uj);intro Q hQ;simp only [vkt,seval,qM,zC,QX,ql,qQ,qf,chR,zm,qC,mTk,qY,wZ,d1,e9,hx,hs1,hln,c1,c2,ite_and];(repeat' first|with_reducible assumption|apply vz|intro hp);all_goals first|(apply hQ;clear hQ Q)|(apply ux;kernel_rfl)|omega|assumption|rfl|skip)
      refine ⟨⟨(k+1,wQ ⟨cabs,secs,sold⟩ (.way xx),qY (.way xx)),hlt,hnx⟩,by show m - (k+1) < m - k;omega, ?_⟩
      (refine Le.ok some [] ?_;constructor;all_goals (try simp only [vle,vkt,seval,zC,ql,qQ,qf,chR,qY,wQ]))
      all_goals first|rfl|(simp;done)|exact ⟨rfl,trivial⟩|(simp [ADf.ids,AV.idsL];done)|(intro i hi;rw [if_neg (by omega)];done)
     |sold xx =>
      simp [yw,qY] at hb
     |car =>
      simp [yw,qY] at hb
    ·cases x with
     |cabin xx =>
      simp [yw,qY] at hb
     |way xx =>
      simp [yw,qY] at hb
     |sold xx =>
      repeat' first|(apply nx;with_reducible constructor)|apply uq (by decide)|refine vq ?_|refine vx ?_|(refine uk env 2 rfl rfl rfl (fun Q hQ=>?_);simp only [vkt,seval,qM,zC,aS,zB,QX,YY,qF,ql,qQ,qf,chR,zm,qx,wP,rTk,eTk,qC,mTk,ao,aA,aq,rdS,qY,wQ,wZ,dE,d1,e9,hx,hs1,hln,c1,c2];(try simp only [ite_and]);(repeat' first|with_reducible assumption|apply vz);all_goals (first|(refine ⟨_,_,rfl,hQ _ _ ?_⟩;clear hQ Q)|(apply ux;kernel_rfl)|omega|assumption|rfl|skip))|((first|apply uz env|apply uj);intro Q hQ;simp only [vkt,seval,qM,zC,QX,ql,qQ,qf,chR,zm,eTk,qC,mTk,aq,qY,wZ,d1,e9,hx,hs1,hln,c1,c2,ite_and];(repeat' first|with_reducible assumption|apply vz|intro hp);all_goals first|(apply hQ;clear hQ Q)|(apply ux;kernel_rfl)|omega|assumption|rfl|skip)
      refine ⟨⟨(k+1,wQ ⟨cabs,secs,sold⟩ (.sold xx),qY (.sold xx)),hlt,hnx⟩,by show m - (k+1) < m - k;omega, ?_⟩
      (refine Le.ok (fun i=>if i=2 then some 3 else some i) [] ?_;constructor;all_goals (try simp only [vle,vkt,seval,zC,ql,qQ,qf,chR,eTk,aq,qY,wQ]))
      all_goals first|rfl|(simp;done)|exact ⟨rfl,trivial⟩|(simp [ADf.ids,AV.idsL];done)|(intro i hi;rw [if_neg (by omega)];done)
     |car =>
      repeat' first|(apply nx;with_reducible constructor)|apply uq (by decide)|refine vq ?_|refine vx ?_|(refine uk env 2 rfl rfl rfl (fun Q hQ=>?_);simp only [vkt,seval,qM,zC,aS,zB,QX,YY,qF,ql,qQ,qf,chR,zm,qx,wP,rTk,eTk,qC,mTk,ao,aA,aq,rdS,qY,wQ,wZ,dE,d1,e9,hx,hs1,hln,c1,c2];(try simp only [ite_and]);(repeat' first|with_reducible assumption|apply vz);all_goals (first|(refine ⟨_,_,rfl,hQ _ _ ?_⟩;clear hQ Q)|(apply ux;kernel_rfl)|omega|assumption|rfl|skip))|((first|apply uz env|apply uj);intro Q hQ;simp only [vkt,seval,qM,zC,QX,ql,qQ,qf,chR,zm,qC,mTk,qY,wZ,d1,e9,hx,hs1,hln,c1,c2,ite_and];(repeat' first|with_reducible assumption|apply vz|intro hp);all_goals first|(apply hQ;clear hQ Q)|(apply ux;kernel_rfl)|omega|assumption|rfl|skip)
      refine ⟨⟨(k+1,wQ ⟨cabs,secs,sold⟩ .car,qY .car),hlt,hnx⟩,by show m - (k+1) < m - k;omega, ?_⟩
      (refine Le.ok some [] ?_;constructor;all_goals (try simp only [vle,vkt,seval,zC,ql,qQ,qf,chR,qY,wQ]))
      all_goals first|rfl|(simp;done)|exact ⟨rfl,trivial⟩|(simp [ADf.ids,AV.idsL];done)|(intro i hi;rw [if_neg (by omega)];done)
    ·cases x with
     |cabin xx =>
      simp [yw,qY] at hb
     |way xx =>
      simp [yw,qY] at hb
     |sold xx =>
      repeat' first|(apply nx;with_reducible constructor)|apply uq (by decide)|refine vq ?_|refine vx ?_|(refine uk env 2 rfl rfl rfl (fun Q hQ=>?_);simp only [vkt,seval,qM,zC,aS,zB,QX,YY,qF,ql,qQ,qf,chR,zm,qx,wP,rTk,eTk,qC,mTk,ao,aA,aq,rdS,qY,wQ,wZ,dE,d1,e9,hx,hs1,hln,c1,c2];(try simp only [ite_and]);(repeat' first|with_reducible assumption|apply vz);all_goals (first|(refine ⟨_,_,rfl,hQ _ _ ?_⟩;clear hQ Q)|(apply ux;kernel_rfl)|omega|assumption|rfl|skip))|((first|apply uz env|apply uj);intro Q hQ;simp only [vkt,seval,qM,zC,QX,ql,qQ,qf,chR,zm,eTk,qC,mTk,aq,qY,wZ,d1,e9,hx,hs1,hln,c1,c2,ite_and];(repeat' first|with_reducible assumption|apply vz|intro hp);all_goals first|(apply hQ;clear hQ Q)|(apply ux;kernel_rfl)|omega|assumption|rfl|skip)
      refine ⟨⟨(k+1,wQ ⟨cabs,secs,sold⟩ (.sold xx),qY (.sold xx)),hlt,hnx⟩,by show m - (k+1) < m - k;omega, ?_⟩
      (refine Le.ok (fun i=>if i=2 then some 3 else some i) [] ?_;constructor;all_goals (try simp only [vle,vkt,seval,zC,ql,qQ,qf,chR,eTk,aq,qY,wQ]))
      all_goals first|rfl|(simp;done)|exact ⟨rfl,trivial⟩|(simp [ADf.ids,AV.idsL];done)|(intro i hi;rw [if_neg (by omega)];done)
     |car =>
      repeat' first|(apply nx;with_reducible constructor)|apply uq (by decide)|refine vq ?_|refine vx ?_|(refine uk env 2 rfl rfl rfl (fun Q hQ=>?_);simp only [vkt,seval,qM,zC,aS,zB,QX,YY,qF,ql,qQ,qf,chR,zm,qx,wP,rTk,eTk,qC,mTk,ao,aA,aq,rdS,qY,wQ,wZ,dE,d1,e9,hx,hs1,hln,c1,c2];(try simp only [ite_and]);(repeat' first|with_reducible assumption|apply vz);all_goals (first|(refine ⟨_,_,rfl,hQ _ _ ?_⟩;clear hQ Q)|(apply ux;kernel_rfl)|omega|assumption|rfl|skip))|((first|apply uz env|apply uj);intro Q hQ;simp only [vkt,seval,qM,zC,QX,ql,qQ,qf,chR,zm,qC,mTk,qY,wZ,d1,e9,hx,hs1,hln,c1,c2,ite_and];(repeat' first|with_reducible assumption|apply vz|intro hp);all_goals first|(apply hQ;clear hQ Q)|(apply ux;kernel_rfl)|omega|assumption|rfl|skip)
      refine ⟨⟨(k+1,wQ ⟨cabs,secs,sold⟩ .car,qY .car),hlt,hnx⟩,by show m - (k+1) < m - k;omega, ?_⟩
      (refine Le.ok some [] ?_;constructor;all_goals (try simp only [vle,vkt,seval,zC,ql,qQ,qf,chR,qY,wQ]))
      all_goals first|rfl|(simp;done)|exact ⟨rfl,trivial⟩|(simp [ADf.ids,AV.idsL];done)|(intro i hi;rw [if_neg (by omega)];done)
    ·cases x with
     |cabin xx =>
      simp [yw,qY] at hb
     |way xx =>
      simp [yw,qY] at hb
     |sold xx =>
      simp [yw,qY] at hb
     |car =>
      simp [yw,qY] at hb
 ·have d1:decide ((k:Int) < (R.length:Int))=false:=decide_eq_false (by omega)
  obtain rfl:k=m:=by omega
  have hg2:R.take k=R:=bF (by omega)
  rw [hg2] at hg
  rw [hg]
  dsimp only
  have e5:=k9 k (by omega)
  have hy:∀ d,(L.map qF).getD k d=[.v (.string ⟨⟨L.getD k []⟩⟩)]:=fun d=>Qak L k d (by omega)
  have hkL:k < L.length:=by omega
  generalize L.getD k []=z at hy
  obtain ⟨cabs,secs,sold⟩:=c
  simp only [rdS]
  rcases hst with rfl|rfl|rfl|rfl
  ·rw [if_neg (by simp)]
   repeat' first|(apply nx;with_reducible constructor)|apply uq (by decide)|refine vq ?_|refine vx ?_|(refine uk env 2 rfl rfl rfl (fun Q hQ=>?_);simp only [vkt,seval,qM];(try simp only [ite_and]);(repeat' first|with_reducible assumption|apply vz);all_goals (first|(refine ⟨_,_,rfl,hQ _ _ ?_⟩;clear hQ Q)|(apply ux;kernel_rfl)|omega|assumption|rfl|skip))|((first|apply uz env|apply uj);intro Q hQ;simp only [vkt,seval,qM,zC,ql,qQ,qf,chR,d1,e5,ite_and];(repeat' first|with_reducible assumption|apply vz|intro hp);all_goals first|(apply hQ;clear hQ Q)|(apply ux;kernel_rfl)|omega|assumption|rfl|skip)
   refine ⟨rfl,rfl, ?_⟩
   simp only [rdV]
   (simp only [vrt,results48,vkt,seval,qM,zC];refine Fin.val rfl ?_;(try simp only [AV.le,AV.leL]))
   all_goals first|rfl|exact ⟨⟨rfl,rfl,rfl,trivial⟩,trivial,trivial⟩|(simp;done)
  ·rw [if_neg (by simp)]
   repeat' first|(apply nx;with_reducible constructor)|apply uq (by decide)|refine vq ?_|refine vx ?_|(refine uk env 2 rfl rfl rfl (fun Q hQ=>?_);simp only [vkt,seval,qM];(try simp only [ite_and]);(repeat' first|with_reducible assumption|apply vz);all_goals (first|(refine ⟨_,_,rfl,hQ _ _ ?_⟩;clear hQ Q)|(apply ux;kernel_rfl)|omega|assumption|rfl|skip))|((first|apply uz env|apply uj);intro Q hQ;simp only [vkt,seval,qM,zC,ql,qQ,qf,chR,d1,e5,ite_and];(repeat' first|with_reducible assumption|apply vz|intro hp);all_goals first|(apply hQ;clear hQ Q)|(apply ux;kernel_rfl)|omega|assumption|rfl|skip)
   refine ⟨rfl,rfl, ?_⟩
   simp only [rdV]
   (simp only [vrt,results48,vkt,seval,qM,zC];refine Fin.val rfl ?_;(try simp only [AV.le,AV.leL]))
   all_goals first|rfl|exact ⟨⟨rfl,rfl,rfl,trivial⟩,trivial,trivial⟩|(simp;done)
  ·rw [if_neg (by simp)]
   repeat' first|(apply nx;with_reducible constructor)|apply uq (by decide)|refine vq ?_|refine vx ?_|(refine uk env 2 rfl rfl rfl (fun Q hQ=>?_);simp only [vkt,seval,qM];(try simp only [ite_and]);(repeat' first|with_reducible assumption|apply vz);all_goals (first|(refine ⟨_,_,rfl,hQ _ _ ?_⟩;clear hQ Q)|(apply ux;kernel_rfl)|omega|assumption|rfl|skip))|((first|apply uz env|apply uj);intro Q hQ;simp only [vkt,seval,qM,zC,ql,qQ,qf,chR,d1,e5,ite_and];(repeat' first|with_reducible assumption|apply vz|intro hp);all_goals first|(apply hQ;clear hQ Q)|(apply ux;kernel_rfl)|omega|assumption|rfl|skip)
   refine ⟨rfl,rfl, ?_⟩
   simp only [rdV]
   (simp only [vrt,results48,vkt,seval,qM,zC];refine Fin.val rfl ?_;(try simp only [AV.le,AV.leL]))
   all_goals first|rfl|exact ⟨⟨rfl,rfl,rfl,trivial⟩,trivial,trivial⟩|(simp;done)
  ·by_cases hz:z=[]
   ·have b1:(z == [])=true:=by simp [hz]
    rw [if_pos ⟨rfl,hz⟩]
    repeat' first|(apply nx;with_reducible constructor)|apply uq (by decide)|refine vq ?_|refine vx ?_|(refine uk env 2 rfl rfl rfl (fun Q hQ=>?_);simp only [vkt,seval,qM,zC,aS,zB,QX,YY,qF,ql,qQ,qf,chR,zm,qx,wP,rTk,eTk,qC,mTk,ao,aA,aq,rdS,qY,wQ,wZ,dE,d1,e5,hy,hkL,b1];(try simp only [ite_and]);(repeat' first|with_reducible assumption|apply vz);all_goals (first|(refine ⟨_,_,rfl,hQ _ _ ?_⟩;clear hQ Q)|(apply ux;kernel_rfl)|omega|assumption|rfl|skip))|((first|apply uz env|apply uj);intro Q hQ;simp only [vkt,seval,qM,zC,ql,qQ,qf,chR,d1,e5,hy,hkL,b1,ite_and];(repeat' first|with_reducible assumption|apply vz|intro hp);all_goals first|(apply hQ;clear hQ Q)|(apply ux;kernel_rfl)|omega|assumption|rfl|skip)
    simp only [rdV,retR]
    simp only [vrt,results48,dE,vkt,seval,qM,zC,dE]
    refine Fin.val rfl ?_
    simp only [AV.le,AV.leL,qd,qa,vkt,seval]
    exact ⟨⟨_,_,rfl⟩,_,_,rfl⟩
   ·have b1:(z == [])=false:=by simp [hz]
    rw [if_neg (by simp [hz])]
    repeat' first|(apply nx;with_reducible constructor)|apply uq (by decide)|refine vq ?_|refine vx ?_|(refine uk env 2 rfl rfl rfl (fun Q hQ=>?_);simp only [vkt,seval,qM];(try simp only [ite_and]);(repeat' first|with_reducible assumption|apply vz);all_goals (first|(refine ⟨_,_,rfl,hQ _ _ ?_⟩;clear hQ Q)|(apply ux;kernel_rfl)|omega|assumption|rfl|skip))|((first|apply uz env|apply uj);intro Q hQ;simp only [vkt,seval,qM,zC,ql,qQ,qf,chR,d1,e5,hy,hkL,b1,ite_and];(repeat' first|with_reducible assumption|apply vz|intro hp);all_goals first|(apply hQ;clear hQ Q)|(apply ux;kernel_rfl)|omega|assumption|rfl|skip)
    refine ⟨rfl,rfl, ?_⟩
    simp only [rdV]
    (simp only [vrt,results48,vkt,seval,qM,zC];refine Fin.val rfl ?_;(try simp only [AV.le,AV.leL]))
    all_goals first|rfl|exact ⟨⟨rfl,rfl,rfl,trivial⟩,trivial,trivial⟩|(simp;done)
end Go.Sym.B
namespace Go.Sym.B
open Go Go.Sym Go.Proofs Go.Proofs.Tryz Go.Sym.C
def sexS (x:Int):List UInt8:=if x=2 then [109] else [119]
def QdU (x:Cabin):List UInt8:=Lib.join [[99,97,98,105,110],q9 x.beds,if x.door then [100] else [115]] [32]
def KL (n:Int):List UInt8:=Lib.join [[119,97,121],q9 n] [32]
def tkS (t:Tk):List UInt8:=Lib.join ([[115,111,108,100],q9 t.party,sexS t.sex,q9 t.cab++[46]++q9 t.bed,q9 t.frm++[62]++q9 t.to]++if t.dog then [[43]] else []) [32]
def xO (c:Chart) (k:Nat):List (List UInt8):=(c.cabins.take k).map QdU
def vH (c:Chart) (k:Nat):List (List UInt8):=xO c c.cabins.length++[KL c.secs]++(c.sold.take k).map tkS
def jr (c:Chart):List UInt8 × Int:=if zt c=0 then (Lib.join (vH c c.sold.length++[[99,97,114]]) [10]++[10],0) else ([],zt c)
def Kw (c:Chart) {k:Nat} (h:k < c.cabins.length):xO c (k+1)=xO c k++[QdU (c.cabins.getD k default)]:=by
 unfold xO
 rw [cK,ak h,aq]
 simp [ai,h]
def KG (c:Chart) {k:Nat} (h:k < c.sold.length):vH c (k+1)=vH c k++[tkS (c.sold.getD k default)]:=by
 unfold vH
 rw [cK,ak h,aq]
 simp [ai,h]
def VJ (c:Chart) {k:Nat} (h:k<=c.cabins.length):(xO c k).length=k:=by simp [xO];omega
def JM (c:Chart) {k:Nat} (h:k<=c.sold.length):(vH c k).length=c.cabins.length+1+k:=by simp [vH,xO];omega
def Qhb (sep:List UInt8) (m:Nat):∀ l:List (List UInt8),(∀ x ∈ l,x.length<=m)->(Lib.joinTail sep l).length<=l.length * (m+sep.length)
 |[],_=>by simp [Lib.joinTail]
 |x :: l,h=>by
  have h1:=Qhb sep m l fun y hy=>h y (.tail _ hy)
  have h2:=h x (.head _)
  have e:Lib.joinTail sep (x :: l)=sep++x++Lib.joinTail sep l:=by simp [Lib.joinTail]
  rw [e,aA,aA,bi,cF]
  omega
def R6 {l:List (List UInt8)} {sep:List UInt8} {m:Nat} (h:∀ x ∈ l,x.length<=m):(Lib.join l sep).length<=l.length * (m+sep.length):=by
 match l,h with
 |[],_=>rw [Lib.join_nil];exact ag _
 |x :: l,h =>
  have h1:=Qhb sep m l fun y hy=>h y (.tail _ hy)
  have h2:=h x (.head _)
  rw [Lib.join_cons,aA,bi,cF]
  omega
def Xa (x:Cabin):(QdU x).length<=100:=by
 have:=wO x.beds
 refine aN (R6 (m:=5) fun y hy=>?_) (by simp)
 simp at hy
 rcases hy with rfl|rfl|rfl
 ·decide
 ·omega
 ·split <;> decide
def YB (n:Int):(KL n).length<=100:=by
 have:=wO n
 refine aN (R6 (m:=5) fun y hy=>?_) (by simp)
 simp at hy
 rcases hy with rfl|rfl
 ·decide
 ·omega
def UJ (t:Tk):(tkS t).length<=100:=by
 have h1:=wO t.party
 have h2:=wO t.cab
 have h3:=wO t.bed
 have h4:=wO t.frm
 have h5:=wO t.to
 have h6:(sexS t.sex).length=1:=by unfold sexS;split <;> rfl
 unfold tkS
 refine aN (R6 (m:=5) fun y hy=>?_) ?_
 ·rw [aD] at hy
  rcases hy with hy|hy
  ·simp at hy
   rcases hy with rfl|rfl|rfl|rfl|rfl
   ·decide
   ·omega
   ·omega
   ·simp;omega
   ·simp;omega
  ·split at hy
   ·simp at hy;subst hy;decide
   ·cases hy
 ·rw [aA]
  split <;> simp
def Qc0 (c:Chart) (h1:c.cabins.length<=3) (h2:c.sold.length<=8):(Lib.join (vH c c.sold.length++[[99,97,114]]) [10]).length<=10000:=by
 refine aN (R6 (m:=100) fun y hy=>?_) ?_
 ·unfold vH xO at hy
  simp only [aD,ap,aW] at hy
  rcases hy with ((⟨x,_,rfl⟩|rfl)|⟨t,_,rfl⟩)|rfl
  ·exact Xa _
  ·exact YB _
  ·exact UJ _
  ·decide
 ·rw [aA,JM c (aw _)]
  simp
  omega
def wr1 (c:Chart) (k:Nat):St:={ t:=asg [(1,.ptr 0 0),(5,.row 1),(18,zF c.cabins),(19,aI c.cabins.length),(20,aI k)],h:=qb [(0,.cells (qa c)),(1,.row 9 1 ((xO c k).map qF))],n:=2 }
def wr2 (c:Chart) (k:Nat):St:={ t:=asg [(1,.ptr 0 0),(5,.row 1),(45,qy c.sold),(46,aI c.sold.length),(47,aI k)],h:=qb [(0,.cells (qa c)),(1,.row 9 1 ((vH c k).map qF))],n:=2 }
def jB:=vz @ty3 (vz @ty4 (vz @ty9 (vz @ZF (vz @vJ (vz @jm (vz @XN (vz @Qa (vz @vS (vz @ZC (vz @jC (vz @ti3.eq_1 (vz @ti4.eq_1 (vz @ti9.eq_1 (vz @Qv.eq_1 (vz @yI.eq_1 (vz @wY.eq_1 (vz @YA.eq_1 (vz @xQ.eq_1 (vz @yG.eq_1 (vz @Qz.eq_1 @je.eq_1))))))))))))))))))))
def jG:=vz @aI.eq_1 (vz @aB.eq_1 (vz @qz.eq_1 (@zL.eq_1)))
set_option maxRecDepth 100000 in
def Qhh (c:Chart) (hc:c.cabins.length<=maxLen):FnV prog 11 [qd c] (.tup [aS (jr c).1,aI (jr c).2]):=by
 have env:=qA (A:=fun _=>True) (kC YF (kC Qg8 (kC QlE (kC Qma (kC epair kN)))))
 refine kV (Fn0 func11 rfl (fun vs w=>by kernel_rfl) (by kernel_rfl)) (by simp) (by simp [AV.ids,AV.idsL,qd,qa]) ?_
 have ec:(⟨c.cabins,c.secs,c.sold⟩:Chart)=c:=rfl
 have hmx:(100000:Nat)<=maxLen:=by decide
 obtain ⟨e,he⟩:∃ e,zt c=e:=⟨_,rfl⟩
 by_cases h0:e=0
 ·rw [h0] at he
  have hv:=Ze he
  have hc3:=hv.car.cabs.2
  have hs8:=hv.many
  have hsec:=hv.car.secs
  have hjl:=Qc0 c hc3 hs8
  have hE:jr c=(Lib.join (vH c c.sold.length++[[99,97,114]]) [10]++[10],0):=by unfold jr;rw [if_pos he]
  rw [hE]
  repeat' first|(apply nx;with_reducible constructor)|apply uq (by decide)|((first|apply uz env|apply uj);intro Q hQ;simp only [vkt,seval,jB,jG,qd,qa,qC,mTk,yT,ec,he,decide_true,ite_and];(repeat' first|with_reducible assumption|apply vz|intro hp);all_goals first|(apply hQ;clear hQ Q)|(apply ux;kernel_rfl)|omega|assumption|rfl|skip)
  refine qN (fun s:{ s:Nat // s<=c.cabins.length }=>wr1 c s.1) (fun s=>c.cabins.length - s.1) ⟨0,ag _⟩ ?_ fun ⟨k,hk⟩=>?_
  ·simp only [wr1,show xO c 0=[] from rfl]
   (refine Le.ok (fun i=>if i=1 then none else some i) [] ?_;constructor;all_goals (try simp only [vle,vkt,seval,jG,zF,qa]))
   all_goals first|rfl|simp
  simp only at hk ⊢
  by_cases hlt:k < c.cabins.length
  ·have d1:decide ((k:Int) < (c.cabins.length:Int))=true:=decide_eq_true (by omega)
   have e9:=k9 k (by omega)
   have hS:=Kw c hlt
   have hl:=VJ c hk
   have hx:=zX c.cabins k
   have hx':=Qa3 hlt
   have hb:=hv.car.beds _ (vG (d:=default) hlt)
   obtain ⟨K,hK⟩:∃ K,xO c k=K:=⟨_,rfl⟩
   rw [hK] at hS hl
   simp only [wr1,hK]
   generalize c.cabins.getD k default=x at hx hx' hb hS
   obtain ⟨b,d⟩:=x
   dsimp only at hb
   have hb1:0<=b:=by omega
   have hb2:b < 100:=by omega
   have hm:K.length+1<=maxLen:=by omega
   have hj:=Xa ⟨b,d⟩
   cases d
   ·have hc0:QdU ⟨b,false⟩=Lib.join [[99,97,98,105,110],q9 b,[115]] [32]:=rfl
    rw [hc0] at hj hS
    have hj:(Lib.join [[99,97,98,105,110],q9 b,[115]] [32]).length<=140737488355328:=by omega
    have e4:K.map qF++[[.v (.string ⟨⟨Lib.join [[99,97,98,105,110],q9 b,[115]] [32]⟩⟩)]]=(xO c (k+1)).map qF:=by rw [hS,aq];rfl
    repeat' first|(apply nx;with_reducible constructor)|apply uq (by decide)|((first|apply uz env|apply uj);intro Q hQ;simp only [vkt,seval,jB,jG,aS,Yl,qF,vU,qx,zF,qa,Qi,Q7,d1,e9,hx,hm,e4,ite_and];(repeat' first|with_reducible assumption|apply vz|intro hp);all_goals first|(apply hQ;clear hQ Q)|(apply ux;kernel_rfl)|omega|assumption|rfl|skip)
    refine ⟨⟨k+1,hlt⟩,by show c.cabins.length - (k+1) < c.cabins.length - k;omega, ?_⟩
    (refine Le.ok (fun i=>if i=1 then some 5 else some i) [] ?_;constructor;all_goals (try simp only [vle,vkt,seval,jG,zF,qa]))
    all_goals first|rfl|(simp;done)|(intro i hi;rw [if_neg (by omega)];done)
   ·have hc0:QdU ⟨b,true⟩=Lib.join [[99,97,98,105,110],q9 b,[100]] [32]:=rfl
    rw [hc0] at hj hS
    have hj:(Lib.join [[99,97,98,105,110],q9 b,[100]] [32]).length<=140737488355328:=by omega
    have e4:K.map qF++[[.v (.string ⟨⟨Lib.join [[99,97,98,105,110],q9 b,[100]] [32]⟩⟩)]]=(xO c (k+1)).map qF:=by rw [hS,aq];rfl
    repeat' first|(apply nx;with_reducible constructor)|apply uq (by decide)|((first|apply uz env|apply uj);intro Q hQ;simp only [vkt,seval,jB,jG,aS,Yl,qF,vU,qx,zF,qa,Qi,Q7,d1,e9,hx,hm,e4,ite_and];(repeat' first|with_reducible assumption|apply vz|intro hp);all_goals first|(apply hQ;clear hQ Q)|(apply ux;kernel_rfl)|omega|assumption|rfl|skip)
    refine ⟨⟨k+1,hlt⟩,by show c.cabins.length - (k+1) < c.cabins.length - k;omega, ?_⟩
    (refine Le.ok (fun i=>if i=1 then some 5 else some i) [] ?_;constructor;all_goals (try simp only [vle,vkt,seval,jG,zF,qa]))
    all_goals first|rfl|(simp;done)|(intro i hi;rw [if_neg (by omega)];done)
  ·have d1:decide ((k:Int) < (c.cabins.length:Int))=false:=decide_eq_false (by omega)
   obtain rfl:k=c.cabins.length:=by omega
   have hl:=VJ c (aw _)
   have hB0:vH c 0=xO c c.cabins.length++[KL c.secs]:=by simp [vH]
   have hj:=YB c.secs
   have hc0:KL c.secs=Lib.join [[119,97,121],q9 c.secs] [32]:=rfl
   rw [hc0] at hj hB0
   have hj:(Lib.join [[119,97,121],q9 c.secs] [32]).length<=140737488355328:=by omega
   have hs1:0<=c.secs:=by omega
   have hs2:c.secs < 100:=by omega
   obtain ⟨K,hK⟩:∃ K,xO c c.cabins.length=K:=⟨_,rfl⟩
   rw [hK] at hB0 hl
   simp only [wr1,hK]
   have hm:K.length+1<=maxLen:=by omega
   have e4:K.map qF++[[.v (.string ⟨⟨Lib.join [[119,97,121],q9 c.secs] [32]⟩⟩)]]=(vH c 0).map qF:=by rw [hB0,aq];rfl
   repeat' first|(apply nx;with_reducible constructor)|apply uq (by decide)|((first|apply uz env|apply uj);intro Q hQ;simp only [vkt,seval,jB,jG,aS,Yl,qF,vU,zF,qa,Qi,Q7,d1,hm,e4,ite_and];(repeat' first|with_reducible assumption|apply vz|intro hp);all_goals first|(apply hQ;clear hQ Q)|(apply ux;kernel_rfl)|omega|assumption|rfl|skip)
   refine qN (fun s:{ s:Nat // s<=c.sold.length }=>wr2 c s.1) (fun s=>c.sold.length - s.1) ⟨0,ag _⟩ ?_ fun ⟨q,hq⟩=>?_
   ·simp only [wr2]
    (refine Le.ok (fun i=>if i=1 then some 4 else some i) [] ?_;constructor;all_goals (try simp only [vle,vkt,seval,jG,qy,qa]))
    all_goals first|rfl|simp
   simp only at hq ⊢
   clear hB0 e4 d1 hm hj hl hK
   by_cases hlt:q < c.sold.length
   ·have d1:decide ((q:Int) < (c.sold.length:Int))=true:=decide_eq_true (by omega)
    have e9:=k9 q (by omega)
    have hS:=KG c hlt
    have hl:=JM c hq
    have hx:=gTk c.sold q
    have hx':=hTk hlt
    have hmem:=vG (d:=default) hlt
    have hb:=hv.tk _ hmem
    obtain ⟨K,hK⟩:∃ K,vH c q=K:=⟨_,rfl⟩
    rw [hK] at hS hl
    simp only [wr2,hK]
    generalize c.sold.getD q default=x at hx hx' hb hS hmem
    have hbed:x.bed < 100:=by
     have h1:=hb.bed
     have h2:=hv.car.beds _ (vG (d:=default) hb.cab.2)
     omega
    have hcab:x.cab < 100:=by
     have h1:=hb.cab
     omega
    have g1:=hb.party
    have g2:=hb.sex
    have g3:=hb.cab.1
    have g4:=hb.bed.1
    have g5:=hb.frm
    have g6:=hb.way
    have g7:=hb.to
    obtain ⟨p,sx,cb,bd,fr,to,dg⟩:=x
    dsimp only at hbed hcab g1 g2 g3 g4 g5 g6 g7
    have p1:0<=p:=by omega
    have p2:p < 100:=by omega
    have p3:fr < 100:=by omega
    have p4:0<=to:=by omega
    have p5:to < 100:=by omega
    clear hb hmem
    have hm:K.length+1<=maxLen:=by omega
    have hj:=UJ ⟨p,sx,cb,bd,fr,to,dg⟩
    have hp1:q9 cb++[46]++q9 bd=q9 cb++[46]++q9 bd:=rfl
    rcases (show sx=1\/sx=2 by omega) with rfl|rfl
    ·cases dg
     ·have hc0:tkS ⟨p,1,cb,bd,fr,to,false⟩=Lib.join [[115,111,108,100],q9 p,[119],q9 cb++[46]++q9 bd,q9 fr++[62]++q9 to] [32]:=rfl
      rw [hc0] at hj hS
      have hj:(Lib.join [[115,111,108,100],q9 p,[119],q9 cb++[46]++q9 bd,q9 fr++[62]++q9 to] [32]).length<=140737488355328:=by omega
      have e4:K.map qF++[[.v (.string ⟨⟨Lib.join [[115,111,108,100],q9 p,[119],q9 cb++[46]++q9 bd,q9 fr++[62]++q9 to] [32]⟩⟩)]]=(vH c (q+1)).map qF:=by rw [hS,aq];rfl
      repeat' first|(apply nx;with_reducible constructor)|apply uq (by decide)|((first|apply uz env|apply uj);intro Q hQ;simp only [vkt,seval,jB,jG,aS,Yl,qF,vU,eTk,qy,qa,Qi,Q7,KO,d1,e9,hx,hm,e4,ite_and];(repeat' first|with_reducible assumption|apply vz|intro hp);all_goals first|(apply hQ;clear hQ Q)|(apply ux;kernel_rfl)|omega|assumption|rfl|skip)
      refine ⟨⟨q+1,hlt⟩,by show c.sold.length - (q+1) < c.sold.length - q;omega, ?_⟩
      (refine Le.ok (fun i=>if i=1 then some 5 else some i) [] ?_;constructor;all_goals (try simp only [vle,vkt,seval,jG,qy,qa]))
      all_goals first|rfl|(simp;done)|(intro i hi;rw [if_neg (by omega)];done)
     ·have hc0:tkS ⟨p,1,cb,bd,fr,to,true⟩=Lib.join [[115,111,108,100],q9 p,[119],q9 cb++[46]++q9 bd,q9 fr++[62]++q9 to,[43]] [32]:=rfl
      rw [hc0] at hj hS
      have hj:(Lib.join [[115,111,108,100],q9 p,[119],q9 cb++[46]++q9 bd,q9 fr++[62]++q9 to,[43]] [32]).length<=140737488355328:=by omega
      have e4:K.map qF++[[.v (.string ⟨⟨Lib.join [[115,111,108,100],q9 p,[119],q9 cb++[46]++q9 bd,q9 fr++[62]++q9 to,[43]] [32]⟩⟩)]]=(vH c (q+1)).map qF:=by rw [hS,aq];rfl
      repeat' first|(apply nx;with_reducible constructor)|apply uq (by decide)|((first|apply uz env|apply uj);intro Q hQ;simp only [vkt,seval,jB,jG,aS,Yl,qF,vU,eTk,qy,qa,Qi,Q7,KO,d1,e9,hx,hm,e4,ite_and];(repeat' first|with_reducible assumption|apply vz|intro hp);all_goals first|(apply hQ;clear hQ Q)|(apply ux;kernel_rfl)|omega|assumption|rfl|skip)
      refine ⟨⟨q+1,hlt⟩,by show c.sold.length - (q+1) < c.sold.length - q;omega, ?_⟩
      (refine Le.ok (fun i=>if i=1 then some 7 else some i) [] ?_;constructor;all_goals (try simp only [vle,vkt,seval,jG,qy,qa]))
      all_goals first|rfl|(simp;done)|(intro i hi;rw [if_neg (by omega)];done)
    ·cases dg
     ·have hc0:tkS ⟨p,2,cb,bd,fr,to,false⟩=Lib.join [[115,111,108,100],q9 p,[109],q9 cb++[46]++q9 bd,q9 fr++[62]++q9 to] [32]:=rfl
      rw [hc0] at hj hS
      have hj:(Lib.join [[115,111,108,100],q9 p,[109],q9 cb++[46]++q9 bd,q9 fr++[62]++q9 to] [32]).length<=140737488355328:=by omega
      have e4:K.map qF++[[.v (.string ⟨⟨Lib.join [[115,111,108,100],q9 p,[109],q9 cb++[46]++q9 bd,q9 fr++[62]++q9 to] [32]⟩⟩)]]=(vH c (q+1)).map qF:=by rw [hS,aq];rfl
      repeat' first|(apply nx;with_reducible constructor)|apply uq (by decide)|((first|apply uz env|apply uj);intro Q hQ;simp only [vkt,seval,jB,jG,aS,Yl,qF,vU,eTk,qy,qa,Qi,Q7,KO,d1,e9,hx,hm,e4,List.set_cons_succ,List.set_cons_zero,ae,ab,ite_and];(repeat' first|with_reducible assumption|apply vz|intro hp);all_goals first|(apply hQ;clear hQ Q)|(apply ux;kernel_rfl)|omega|assumption|rfl|skip)
      refine ⟨⟨q+1,hlt⟩,by show c.sold.length - (q+1) < c.sold.length - q;omega, ?_⟩
      (refine Le.ok (fun i=>if i=1 then some 5 else some i) [] ?_;constructor;all_goals (try simp only [vle,vkt,seval,jG,qy,qa]))
      all_goals first|rfl|(simp;done)|(intro i hi;rw [if_neg (by omega)];done)
     ·have hc0:tkS ⟨p,2,cb,bd,fr,to,true⟩=Lib.join [[115,111,108,100],q9 p,[109],q9 cb++[46]++q9 bd,q9 fr++[62]++q9 to,[43]] [32]:=rfl
      rw [hc0] at hj hS
      have hj:(Lib.join [[115,111,108,100],q9 p,[109],q9 cb++[46]++q9 bd,q9 fr++[62]++q9 to,[43]] [32]).length<=140737488355328:=by omega
      have e4:K.map qF++[[.v (.string ⟨⟨Lib.join [[115,111,108,100],q9 p,[109],q9 cb++[46]++q9 bd,q9 fr++[62]++q9 to,[43]] [32]⟩⟩)]]=(vH c (q+1)).map qF:=by rw [hS,aq];rfl
      repeat' first|(apply nx;with_reducible constructor)|apply uq (by decide)|((first|apply uz env|apply uj);intro Q hQ;simp only [vkt,seval,jB,jG,aS,Yl,qF,vU,eTk,qy,qa,Qi,Q7,KO,d1,e9,hx,hm,e4,List.set_cons_succ,List.set_cons_zero,ae,ab,ite_and];(repeat' first|with_reducible assumption|apply vz|intro hp);all_goals first|(apply hQ;clear hQ Q)|(apply ux;kernel_rfl)|omega|assumption|rfl|skip)
      refine ⟨⟨q+1,hlt⟩,by show c.sold.length - (q+1) < c.sold.length - q;omega, ?_⟩
      (refine Le.ok (fun i=>if i=1 then some 7 else some i) [] ?_;constructor;all_goals (try simp only [vle,vkt,seval,jG,qy,qa]))
      all_goals first|rfl|(simp;done)|(intro i hi;rw [if_neg (by omega)];done)
   ·have d1:decide ((q:Int) < (c.sold.length:Int))=false:=decide_eq_false (by omega)
    obtain rfl:q=c.sold.length:=by omega
    have hl:=JM c (aw _)
    obtain ⟨K,hK⟩:∃ K,vH c c.sold.length=K:=⟨_,rfl⟩
    rw [hK] at hl hjl
    simp only [wr2,hK]
    have hm:K.length+1<=maxLen:=by omega
    have e4:K.map qF++[[.v (.string ⟨⟨[99,97,114]⟩⟩)]]=(K++[[99,97,114]]).map qF:=by rw [aq];rfl
    have e5:(K++[[99,97,114]]).length<=100000:=by rw [aA,hl];simp;omega
    have e6:(Lib.join (K++[[99,97,114]]) [10]).length<=140737488355328:=by omega
    have e7:(Lib.join (K++[[99,97,114]]) [10]).length+1<=9223372036854775807:=by omega
    repeat' first|(apply nx;with_reducible constructor)|apply uq (by decide)|((first|apply uz env|apply uj);intro Q hQ;simp only [vkt,seval,jB,jG,aS,Yl,qy,qa,QcL,d1,hm,e4,Qe6,e7,ite_and];(repeat' first|with_reducible assumption|apply vz|intro hp);all_goals first|(apply hQ;clear hQ Q)|(apply ux;kernel_rfl)|omega|assumption|rfl|skip)
    (simp only [vrt,results11,vkt,seval,jG,aS];refine Fin.val rfl ?_;(try simp only [AV.le,AV.leL]))
    all_goals first|rfl|simp
 ·have hE:jr c=([],e):=by unfold jr;rw [if_neg (by rw [he];exact h0),he]
  rw [hE]
  have d0:decide (e=0)=false:=decide_eq_false h0
  repeat' first|(apply nx;with_reducible constructor)|apply uq (by decide)|((first|apply uz env|apply uj);intro Q hQ;simp only [vkt,seval,jB,jG,qd,qa,qC,mTk,yT,ec,he,d0,ite_and];(repeat' first|with_reducible assumption|apply vz|intro hp);all_goals first|(apply hQ;clear hQ Q)|(apply ux;kernel_rfl)|omega|assumption|rfl|skip)
  (simp only [vrt,results11,vkt,seval,jG,aS];refine Fin.val rfl ?_;(try simp only [AV.le,AV.leL]))
  all_goals first|rfl|simp
def Qbv:List AV->Prop × AV
 |[.agg [.sl c0,.v (.int .i64 c1),.sl c2]]=>(c0=(c0.map qh).map qx/\c2=(c2.map dTk).map eTk/\((⟨(c0.map qh),c1,(c2.map dTk)⟩:Chart)).cabins.length<=maxLen,.tup [aS (jr ((⟨(c0.map qh),c1,(c2.map dTk)⟩:Chart))).1,aI (jr ((⟨(c0.map qh),c1,(c2.map dTk)⟩:Chart))).2])
 |_=>(False,.junk)
def Ql0 {A:Frm->Prop}:qm A prog 11 (zw true Qbv):=qL fun vs hv h=>by
 clear hv
 unfold Qbv at h ⊢
 split at h
 ·rename_i c0 c1 c2;obtain ⟨q0,q1,k0⟩:=h
  refine ⟨by first|trivial|(repeat' split) <;> simp [AV.plain,AV.plainL,aI,aB,qz,qc,qy,qw,aTk,cTk,aS,ql],fun _=>(by simp [AV.flat,AV.flatL,aI,aS]), ?_⟩
  have:=Qhh ((⟨(c0.map qh),c1,(c2.map dTk)⟩:Chart)) k0
  simp only [qd,aI,qa,<- q0,<- q1] at this
  first|exact this|(simp only [zF,qd,aI,qy,qa,<- q0,<- q1];exact this)
 ·exact h.elim
end Go.Sym.B
namespace Go.Sym.B
open Go Go.Sym Go.Proofs Go.Proofs.Tryz Go.Sym.C Go.RowKit
def yH (t:List UInt8):Chart × Int × Int:=if 300 < t.length then (⟨[],0,[]⟩,0,10) else match WU t with
 |.error n=>(⟨[],0,[]⟩,n,2)
 |.ok c=>if zt c=0 then (c,0,0) else (⟨[],0,[]⟩,0,zt c)
def VF:∀ (a:List (List UInt8)) (c:Chart) (st:Int) (i n:Nat),wF c st i a=.error n->i < n/\n<=i+a.length
 |[],c,st,i,n,h=>by cases h
 |s :: a,c,st,i,n,h=>by
  rw [wF] at h
  split at h
  ·rename_i n' hn
   cases h
   unfold xV at hn
   rw [bi]
   split at hn
   ·cases hn;omega
   ·split at hn
    ·cases hn;omega
    ·cases hn
  ·have:=VF a _ _ _ n h
   rw [bi];omega
def Qe7 {t:List UInt8} {n:Nat} (h:WU t=.error n):0 < n/\n<=t.length+1:=by
 have hL:=xg (s:=t) (sep:=[10]) (by decide)
 unfold WU at h
 split at h
 ·rename_i n' hn
  cases h
  have:=VF _ _ _ _ _ hn
  rw [aR] at this;omega
 ·split at h
  ·cases h
  ·cases h;omega
def XC {t:List UInt8} {c:Chart} (h:WU t=.ok c):c.cabins.length<=t.length+1/\c.sold.length<=t.length+1:=by
 have hL:=xg (s:=t) (sep:=[10]) (by decide)
 unfold WU at h
 split at h
 ·cases h
 ·rename_i p hp
  have:=Qr _ _ _ _ hp
  rw [aR] at this
  simp only [bH] at this
  split at h
  ·cases h;omega
  ·cases h
def QaB (S:St):List AV->Option Pk
 |[.v (.string ⟨⟨t⟩⟩)]=>some { pre:=t.length<=300,ar:=[.v (.string ⟨⟨t⟩⟩)],v:=rdV (WU t) }
 |_=>none
def eRead:qm (zW TabT) prog 48 (fnE QaB):=Qbp fun S bs q h hp=>by
 unfold QaB at h
 split at h
 ·cases h
  exact Qjr _ hp
 ·cases h
def xD:=vz @ty3 (vz @ty9 (vz @jm (vz @Qa (vz @ti3.eq_1 (vz @ti9.eq_1 (vz @wY.eq_1 @xQ.eq_1))))))
def W9:=vz @aI.eq_1 (@aB.eq_1)
def QkV (t:List UInt8):Fn (jd TabT) prog 14 [aS t] noH (.tup [qd (yH t).1,aI (yH t).2.1,aI (yH t).2.2]) noH 0:=by
 have env:=qA (A:=zW TabT) (kC YF (kC eRead kN))
 refine kT (Fn0 func14 rfl (fun vs w=>by kernel_rfl) (by kernel_rfl)) (by simp) (by simp [AV.ids,aS]) ?_
 unfold yH
 by_cases h0:300 < t.length
 ·rw [if_pos h0]
  have d1:decide ((300:Int) < (t.length:Int))=true:=decide_eq_true (by omega)
  have hsz:(ByteArray.mk ⟨t⟩).size=t.length:=rfl
  repeat' first|(apply nx;with_reducible constructor)|apply uq (by decide)|((first|apply uz env|apply uj);intro Q hQ;simp only [vkt,seval,xD,aS,d1,hsz,ite_and];(repeat' first|with_reducible assumption|apply vz|intro hp);all_goals first|(apply hQ;clear hQ Q)|(apply ux;kernel_rfl)|omega|assumption|rfl|skip)
  (simp only [vrt,results14,vkt,seval,xD,W9,qd,qa];refine Fin.val rfl ?_;(try simp only [AV.le,AV.leL]))
  all_goals first|rfl|simp
 ·rw [if_neg h0]
  have d1:decide ((300:Int) < (t.length:Int))=false:=decide_eq_false (by omega)
  have hsz:(ByteArray.mk ⟨t⟩).size=t.length:=rfl
  have h1:t.length<=300:=by omega
  cases hr:WU t with
  |error n =>
   have hp:=Qe7 hr
   have d2:decide ((0:Int) < (n:Int))=true:=decide_eq_true (by omega)
   repeat' first|(apply nx;with_reducible constructor)|apply uq (by decide)|((first|apply uz env|apply uj);intro Q hQ;simp only [vkt,seval,xD,W9,aS,QaB,rdV,d1,hsz,h1,hr,d2,ite_and];(repeat' first|with_reducible assumption|apply vz|intro hp);all_goals first|(apply hQ;clear hQ Q)|(apply ux;kernel_rfl)|omega|assumption|rfl|skip)
   (simp only [vrt,results14,vkt,seval,xD,W9,qd,qa];refine Fin.val rfl ?_;(try simp only [AV.le,AV.leL]))
   all_goals first|rfl|simp
  |ok c =>
   have hc:=XC hr
   have hmx:(1000:Nat)<=maxLen:=by decide
   have hc1:c.cabins.length<=maxLen:=by omega
   have ec:(⟨c.cabins,c.secs,c.sold⟩:Chart)=c:=rfl
   have d2:decide ((0:Int) < 0)=false:=by decide
   dsimp only
   obtain ⟨e,he⟩:∃ e,zt c=e:=⟨_,rfl⟩
   rw [he]
   by_cases hz:e=0
   ·rw [if_pos hz]
    have d3:decide (e=0)=true:=decide_eq_true hz
    repeat' first|(apply nx;with_reducible constructor)|apply uq (by decide)|((first|apply uz env|apply uj);intro Q hQ;simp only [vkt,seval,xD,W9,aS,qd,qa,yT,QaB,rdV,qC,mTk,d1,hsz,h1,hr,ec,he,d3,hc1,ite_and];(repeat' first|with_reducible assumption|apply vz|intro hp);all_goals first|(apply hQ;clear hQ Q)|(apply ux;kernel_rfl)|omega|assumption|rfl|skip)
    (simp only [vrt,results14,vkt,seval,xD,W9,qd,qa];refine Fin.val rfl ?_;(try simp only [AV.le,AV.leL]))
    all_goals first|rfl|simp
   ·rw [if_neg hz]
    have d3:decide (e=0)=false:=decide_eq_false hz
    repeat' first|(apply nx;with_reducible constructor)|apply uq (by decide)|((first|apply uz env|apply uj);intro Q hQ;simp only [vkt,seval,xD,W9,aS,qd,qa,yT,QaB,rdV,qC,mTk,d1,hsz,h1,hr,ec,he,d3,hc1,ite_and];(repeat' first|with_reducible assumption|apply vz|intro hp);all_goals first|(apply hQ;clear hQ Q)|(apply ux;kernel_rfl)|omega|assumption|rfl|skip)
    (simp only [vrt,results14,vkt,seval,xD,W9,qd,qa];refine Fin.val rfl ?_;(try simp only [AV.le,AV.leL]))
    all_goals first|rfl|simp
def cuts (b:UInt8) (cur:List UInt8):List UInt8->List (List UInt8)
 |[]=>[cur]
 |x :: r=>if x=b then cur :: cuts b [] r else cuts b (cur++[x]) r
def wM (s:List UInt8) (b:UInt8):List (List UInt8):=cuts b [] s
def J7 (b:UInt8):∀ (s cur:List UInt8),(cuts b cur s).length<=s.length+1
 |[],cur=>by simp [cuts]
 |x :: s,cur=>by
  rw [cuts]
  split
  ·have:=J7 b s [];simp;omega
  ·have:=J7 b s (cur++[x]);simp;omega
def aU8 (b:UInt8):AV:=.v (.int .u8 (b.toNat:Int))
def Qdj (s:List UInt8) (b:UInt8) (k j:Nat) (p:List (List UInt8)):St:={ t:=asg [(0,aS s),(1,aU8 b),(5,.row 0),(6,aI j),(7,aI k)],h:=qb [(0,.row 9 1 (p.map qF))],n:=1 }
def Jq (s:List UInt8) (b:UInt8) (p:Nat × Nat × List (List UInt8)):Prop:=(p.1<=s.length/\p.2.1<=p.1/\p.2.2++cuts b ((s.take p.1).drop p.2.1) (s.drop p.1)=wM s b)\/(p.1=s.length+1/\p.2.1<=s.length+1/\p.2.2=wM s b)
def Jq.len {s:List UInt8} {b:UInt8} {p:Nat × Nat × List (List UInt8)} (h:Jq s b p):p.2.2.length<=s.length+1:=by
 have hc:=J7 b s []
 rcases h with ⟨_,_,h⟩|⟨_,_,h⟩
 ·have:=congrArg List.length h
  rw [aA] at this
  have h2:(wM s b).length<=s.length+1:=hc
  omega
 ·rw [h];exact hc
def Za:=vz @ty3 (vz @ty5 (vz @ty9 (vz @XN (vz @ti3.eq_1 (vz @ti5.eq_1 (vz @ti9.eq_1 @YA.eq_1))))))
def Qq:=vz @aI.eq_1 (@aB.eq_1)
def Qkl (s:List UInt8) (b:UInt8) (hl:s.length<=100000):FnV prog 49 [aS s,aU8 b] (ql (wM s b)):=by
 have env:=qA (A:=fun _=>True) kN
 refine kV (Fn0 func49 rfl (fun vs w=>by kernel_rfl) (by kernel_rfl)) (by simp) (by simp [AV.ids,aS,aU8]) ?_
 have hmx:(100002:Nat)<=maxLen:=by decide
 have hsz:(ByteArray.mk ⟨s⟩).size=s.length:=rfl
 repeat' first|(apply nx;with_reducible constructor)|apply uq (by decide)|((first|apply uz env|apply uj);intro Q hQ;simp only [vkt,seval,aS,aU8,ite_and];(repeat' first|with_reducible assumption|apply vz|intro hp);all_goals first|(apply hQ;clear hQ Q)|(apply ux;kernel_rfl)|omega|assumption|rfl|skip)
 refine qN (fun i:{ p:Nat × Nat × List (List UInt8) // Jq s b p }=>Qdj s b i.1.1 i.1.2.1 i.1.2.2) (fun i=>s.length+1 - i.1.1) ⟨(0,0,[]),.inl ⟨ag _,aw _,by simp [wM]⟩⟩ ?_ fun ⟨⟨k,j,p⟩,hp⟩=>?_
 ·simp only [Qdj]
  (refine Le.ok (fun i=>if i=0 then none else some i) [] ?_;constructor;all_goals (try simp only [vle,vkt,seval,Qq,aS,aU8]))
  all_goals first|rfl|simp
 have hpl:=hp.len
 dsimp only [Jq] at hp hpl
 simp only
 rcases hp with ⟨hk,hj,hc⟩|⟨rfl,hj,rfl⟩
 ·have d1:decide ((k:Int)<=(s.length:Int))=true:=decide_eq_true (by omega)
  have e9:=k9 k (by omega)
  have g0:(0:Int)<=(j:Int):=by omega
  have g1:(j:Int)<=(k:Int):=by omega
  have g2:(k:Int)<=(s.length:Int):=by omega
  have hpm:p.length+1<=maxLen:=by omega
  have hjn:((j:Int)).toNat=j:=by omega
  have hkn:((k:Int)).toNat=k:=by omega
  obtain ⟨cur,hcur⟩:∃ cur,(s.take k).drop j=cur:=⟨_,rfl⟩
  rw [hcur] at hc
  simp only [Qdj]
  by_cases hlt:k < s.length
  ·have d2:decide ((k:Int)=(s.length:Int))=false:=decide_eq_false (by omega)
   have hx:s.getD k 0=s[k]:=by simp [hlt]
   have hd:s.drop k=s[k] :: s.drop (k+1):=cm hlt
   have ht:s.take (k+1)=s.take k++[s[k]]:=by rw [cK,ak hlt];rfl
   rw [hd] at hc
   generalize s[k]=x at hx hd ht hc
   rw [cuts] at hc
   by_cases hb:x=b
   ·have d3:decide (((x.toNat:Nat):Int)=((b.toNat:Nat):Int))=true:=decide_eq_true (by rw [hb])
    rw [if_pos hb] at hc
    have e4:p.map qF++[[.v (.string ⟨⟨cur⟩⟩)]]=(p++[cur]).map qF:=by rw [aq];rfl
    have hz:(s.take (k+1)).drop (k+1)=[]:=by rw [List.drop_eq_nil_iff,aR];omega
    have hnew:Jq s b (k+1,k+1,p++[cur]):=.inl ⟨hlt,aw _,by show (p++[cur])++cuts b ((s.take (k+1)).drop (k+1)) (s.drop (k+1))=_;rw [hz,di];exact hc⟩
    repeat' first|(apply nx;with_reducible constructor)|apply uq (by decide)|((first|apply uz env|apply uj);intro Q hQ;simp only [vkt,seval,Za,Qq,aS,aU8,Yl,hsz,d2,d3,e9,hx,g0,g1,g2,hpm,hcur,hjn,hkn,hlt,e4,ite_and];(repeat' first|with_reducible assumption|apply vz|intro hp);all_goals first|(apply hQ;clear hQ Q)|(apply ux;kernel_rfl)|omega|assumption|rfl|skip)
    refine ⟨⟨(k+1,k+1,p++[cur]),hnew⟩,by show s.length+1 - (k+1) < s.length+1 - k;omega, ?_⟩
    (refine Le.ok (fun i=>if i=0 then some 2 else some i) [] ?_;constructor;all_goals (try simp only [vle,vkt,seval,Qq,aS,aU8]))
    all_goals first|rfl|(simp;done)|(intro i hi;rw [if_neg (by omega)];done)
   ·have d3:decide (((x.toNat:Nat):Int)=((b.toNat:Nat):Int))=false:=decide_eq_false fun e=>hb (UInt8.toNat_inj.1 (by omega))
    rw [if_neg hb] at hc
    have hz:(s.take (k+1)).drop j=cur++[x]:=by rw [ht,List.drop_append_of_le_length (by rw [aR];omega),hcur]
    have hnew:Jq s b (k+1,j,p):=.inl ⟨hlt,by show j<=k+1;omega,by show p++cuts b ((s.take (k+1)).drop j) (s.drop (k+1))=_;rw [hz];exact hc⟩
    repeat' first|(apply nx;with_reducible constructor)|apply uq (by decide)|((first|apply uz env|apply uj);intro Q hQ;simp only [vkt,seval,Za,Qq,aS,aU8,hsz,d2,d3,e9,hx,g2,hkn,hlt,ite_and];(repeat' first|with_reducible assumption|apply vz|intro hp);all_goals first|(apply hQ;clear hQ Q)|(apply ux;kernel_rfl)|omega|assumption|rfl|skip)
    refine ⟨⟨(k+1,j,p),hnew⟩,by show s.length+1 - (k+1) < s.length+1 - k;omega, ?_⟩
    (refine Le.ok some [] ?_;constructor;all_goals (try simp only [vle,vkt,seval,Qq,aS,aU8]))
    all_goals first|rfl|(simp;done)|(intro i hi;rw [if_neg (by omega)];done)
  ·obtain rfl:k=s.length:=by omega
   have d2:decide ((s.length:Int)=(s.length:Int))=true:=decide_eq_true rfl
   have e4:p.map qF++[[.v (.string ⟨⟨cur⟩⟩)]]=(p++[cur]).map qF:=by rw [aq];rfl
   rw [List.drop_length,cuts] at hc
   have hnew:Jq s b (s.length+1,s.length+1,p++[cur]):=.inr ⟨rfl,aw _,hc⟩
   repeat' first|(apply nx;with_reducible constructor)|apply uq (by decide)|((first|apply uz env|apply uj);intro Q hQ;simp only [vkt,seval,Za,Qq,aS,aU8,Yl,hsz,e9,g0,g1,g2,hpm,hcur,hjn,hkn,e4,ite_and];(repeat' first|with_reducible assumption|apply vz|intro hp);all_goals first|(apply hQ;clear hQ Q)|(apply ux;kernel_rfl)|omega|assumption|rfl|skip)
   refine ⟨⟨(s.length+1,s.length+1,p++[cur]),hnew⟩,by show s.length+1 - (s.length+1) < s.length+1 - s.length;omega, ?_⟩
   (refine Le.ok (fun i=>if i=0 then some 2 else some i) [] ?_;constructor;all_goals (try simp only [vle,vkt,seval,Qq,aS,aU8]))
   all_goals first|rfl|(simp;done)|(intro i hi;rw [if_neg (by omega)];done)
 ·have d1:decide (((s.length+1:Nat):Int)<=(s.length:Int))=false:=decide_eq_false (by omega)
  simp only [Qdj]
  repeat' first|(apply nx;with_reducible constructor)|apply uq (by decide)|((first|apply uz env|apply uj);intro Q hQ;simp only [vkt,seval,Za,Qq,aS,aU8,hsz,d1,ite_and];(repeat' first|with_reducible assumption|apply vz|intro hp);all_goals first|(apply hQ;clear hQ Q)|(apply ux;kernel_rfl)|omega|assumption|rfl|skip)
  (simp only [vrt,results49,vkt,seval,ql];refine Fin.val rfl ?_;(try simp only [AV.le]))
  all_goals first|rfl|exact ⟨_,_,rfl⟩|(simp;done)
def JN (acc:Int):List UInt8->Option Int
 |[]=>some acc
 |x :: r=>if x.toNat < 48\/57 < x.toNat then none else JN (10 * acc+((x.toNat:Int) - 48)) r
def wN (s:List UInt8):Option Int:=if s.length < 1\/3 < s.length\/(s.getD 0 0=48/\1 < s.length) then none else JN 0 s
def onR (o:Option Int):AV:=match o with
 |some n=>.tup [aI n,aB true]
 |none=>.tup [aI 0,aB false]
def rnbS (s:List UInt8) (k:Nat) (v:Int):St:={ t:=asg [(0,aS s),(4,aI v),(5,aI k)],h:=qb [],n:=0 }
def RnOk (s:List UInt8) (p:Nat × Int):Prop:=p.1<=s.length/\0<=p.2/\p.2 < 10 ^ p.1/\JN 0 s=JN p.2 (s.drop p.1)
def yh:=vz @ty3 (vz @ty5 (vz @ty9 (vz @ti3.eq_1 (vz @ti5.eq_1 @ti9.eq_1))))
def yR:=vz @aI.eq_1 (@aB.eq_1)
def Qkz (s:List UInt8):FnV prog 50 [aS s] (onR (wN s)):=by
 have env:=qA (A:=fun _=>True) kN
 refine kV (Fn0 func50 rfl (fun vs w=>by kernel_rfl) (by kernel_rfl)) (by simp) (by simp [AV.ids,aS]) ?_
 have hsz:(ByteArray.mk ⟨s⟩).size=s.length:=rfl
 unfold wN
 by_cases h1:s.length < 1
 ·have d1:decide ((s.length:Int) < 1)=true:=decide_eq_true (by omega)
  rw [if_pos (.inl h1)]
  repeat' first|(apply nx;with_reducible constructor)|apply uq (by decide)|((first|apply uz env|apply uj);intro Q hQ;simp only [vkt,seval,yh,aS,hsz,d1,ite_and];(repeat' first|with_reducible assumption|apply vz|intro hp);all_goals first|(apply hQ;clear hQ Q)|(apply ux;kernel_rfl)|omega|assumption|rfl|skip)
  (simp only [vrt,results50,onR,vkt,seval,yR];refine Fin.val rfl ?_;(try simp only [AV.le,AV.leL]))
  all_goals first|rfl|simp
 have d1:decide ((s.length:Int) < 1)=false:=decide_eq_false (by omega)
 by_cases h2:3 < s.length
 ·have d2:decide ((3:Int) < (s.length:Int))=true:=decide_eq_true (by omega)
  rw [if_pos (.inr (.inl h2))]
  repeat' first|(apply nx;with_reducible constructor)|apply uq (by decide)|((first|apply uz env|apply uj);intro Q hQ;simp only [vkt,seval,yh,aS,hsz,d1,d2,ite_and];(repeat' first|with_reducible assumption|apply vz|intro hp);all_goals first|(apply hQ;clear hQ Q)|(apply ux;kernel_rfl)|omega|assumption|rfl|skip)
  (simp only [vrt,results50,onR,vkt,seval,yR];refine Fin.val rfl ?_;(try simp only [AV.le,AV.leL]))
  all_goals first|rfl|simp
 have d2:decide ((3:Int) < (s.length:Int))=false:=decide_eq_false (by omega)
 have hp0:0 < s.length:=by omega
 by_cases h3:s.getD 0 0=48/\1 < s.length
 ·have d3:decide ((((s.getD 0 0).toNat:Nat):Int)=48)=true:=decide_eq_true (by rw [h3.1];rfl)
  have d4:decide ((1:Int) < (s.length:Int))=true:=decide_eq_true (by omega)
  rw [if_pos (.inr (.inr h3))]
  repeat' first|(apply nx;with_reducible constructor)|apply uq (by decide)|((first|apply uz env|apply uj);intro Q hQ;simp only [vkt,seval,yh,aS,hsz,d1,d2,d3,d4,hp0,ite_and];(repeat' first|with_reducible assumption|apply vz|intro hp);all_goals first|(apply hQ;clear hQ Q)|(apply ux;kernel_rfl)|omega|assumption|rfl|skip)
  (simp only [vrt,results50,onR,vkt,seval,yR];refine Fin.val rfl ?_;(try simp only [AV.le,AV.leL]))
  all_goals first|rfl|simp
 rw [if_neg (by rintro (h|h|h) <;> first|exact h1 h|exact h2 h|exact h3 h)]
 have hd:(decide ((((s.getD 0 0).toNat:Nat):Int)=48)=false/\decide ((s.length:Int) < 1)=false)\/(decide ((((s.getD 0 0).toNat:Nat):Int)=48)=true/\decide ((1:Int) < (s.length:Int))=false):=by
  by_cases h4:s.getD 0 0=48
  ·exact .inr ⟨decide_eq_true (by rw [h4];rfl),decide_eq_false (by have:¬ 1 < s.length:=fun h=>h3 ⟨h4,h⟩;omega)⟩
  ·exact .inl ⟨decide_eq_false fun e=>h4 (UInt8.toNat_inj.1 (by have:((48:UInt8).toNat:Int)=48:=rfl;omega)),d1⟩
 rcases hd with ⟨d3,d4⟩|⟨d3,d4⟩
 all_goals
  repeat' first|(apply nx;with_reducible constructor)|apply uq (by decide)|((first|apply uz env|apply uj);intro Q hQ;simp only [vkt,seval,yh,aS,hsz,d1,d2,d3,d4,hp0,ite_and];(repeat' first|with_reducible assumption|apply vz|intro hp);all_goals first|(apply hQ;clear hQ Q)|(apply ux;kernel_rfl)|omega|assumption|rfl|skip)
  refine qN (fun i:{ p:Nat × Int // RnOk s p }=>rnbS s i.1.1 i.1.2) (fun i=>s.length - i.1.1) ⟨(0,0),ag _,by simp,by simp,by simp⟩ ?_ fun ⟨⟨k,v⟩,hk,hv0,hv1,hv⟩=>?_
  ·simp only [rnbS]
   (refine Le.ok some [] ?_;constructor;all_goals (try simp only [vle,vkt,seval,yR,aS]))
   all_goals first|rfl|simp
  dsimp only at hk hv0 hv1 hv
  simp only
  by_cases hlt:k < s.length
  ·have e1:decide ((k:Int) < (s.length:Int))=true:=decide_eq_true (by omega)
   have e9:=k9 k (by omega)
   have hx:s.getD k 0=s[k]:=by simp [hlt]
   have hdr:s.drop k=s[k] :: s.drop (k+1):=cm hlt
   rw [hdr] at hv
   have hkn:((k:Int)).toNat=k:=by omega
   have hk3:k < 3:=by omega
   have hv2:v < 1000:=by
    have:k=0\/k=1\/k=2:=by omega
    rcases this with rfl|rfl|rfl <;> omega
   have hx1:s[k].toNat < 256:=UInt8.toNat_lt _
   generalize s[k]=x at hx hv hx1
   rw [JN] at hv
   simp only [rnbS]
   by_cases hb:x.toNat < 48\/57 < x.toNat
   ·rw [if_pos hb] at hv
    rw [hv]
    by_cases hb1:x.toNat < 48
    ·have f1:decide (((x.toNat:Nat):Int) < 48)=true:=decide_eq_true (by omega)
     repeat' first|(apply nx;with_reducible constructor)|apply uq (by decide)|((first|apply uz env|apply uj);intro Q hQ;simp only [vkt,seval,yh,yR,aS,hsz,e1,hx,hkn,hlt,f1,ite_and];(repeat' first|with_reducible assumption|apply vz|intro hp);all_goals first|(apply hQ;clear hQ Q)|(apply ux;kernel_rfl)|omega|assumption|rfl|skip)
     (simp only [vrt,results50,onR,vkt,seval,yR];refine Fin.val rfl ?_;(try simp only [AV.le,AV.leL]))
     all_goals first|rfl|simp
    ·have f1:decide (((x.toNat:Nat):Int) < 48)=false:=decide_eq_false (by omega)
     have f2:decide ((57:Int) < ((x.toNat:Nat):Int))=true:=decide_eq_true (by omega)
     repeat' first|(apply nx;with_reducible constructor)|apply uq (by decide)|((first|apply uz env|apply uj);intro Q hQ;simp only [vkt,seval,yh,yR,aS,hsz,e1,hx,hkn,hlt,f1,f2,ite_and];(repeat' first|with_reducible assumption|apply vz|intro hp);all_goals first|(apply hQ;clear hQ Q)|(apply ux;kernel_rfl)|omega|assumption|rfl|skip)
     (simp only [vrt,results50,onR,vkt,seval,yR];refine Fin.val rfl ?_;(try simp only [AV.le,AV.leL]))
     all_goals first|rfl|simp
   ·rw [if_neg hb] at hv
    have f1:decide (((x.toNat:Nat):Int) < 48)=false:=decide_eq_false (by omega)
    have f2:decide ((57:Int) < ((x.toNat:Nat):Int))=false:=decide_eq_false (by omega)
    have m1:IntKind.wrap .i64 (10 * v)=10 * v:=wrap64 (by omega) (by omega)
    have m2:IntKind.wrap .u8 (((x.toNat:Nat):Int) - 48)=((x.toNat:Nat):Int) - 48:=IntWalk.u8_in _ (by omega)
    have m3:IntKind.wrap .i64 (((x.toNat:Nat):Int) - 48)=((x.toNat:Nat):Int) - 48:=wrap64 (by omega) (by omega)
    have m4:IntKind.wrap .i64 (10 * v+(((x.toNat:Nat):Int) - 48))=10 * v+(((x.toNat:Nat):Int) - 48):=wrap64 (by omega) (by omega)
    have hnew:RnOk s (k+1,10 * v+(((x.toNat:Nat):Int) - 48)):=⟨hlt,by show 0<=10 * v+_;omega,by show 10 * v+_ < 10 ^ (k+1);rw [Int.pow_succ];omega,hv⟩
    repeat' first|(apply nx;with_reducible constructor)|apply uq (by decide)|((first|apply uz env|apply uj);intro Q hQ;simp only [vkt,seval,yh,yR,aS,hsz,e1,e9,hx,hkn,hlt,f1,f2,m1,m2,m3,m4,ite_and];(repeat' first|with_reducible assumption|apply vz|intro hp);all_goals first|(apply hQ;clear hQ Q)|(apply ux;kernel_rfl)|omega|assumption|rfl|skip)
    refine ⟨⟨(k+1,10 * v+(((x.toNat:Nat):Int) - 48)),hnew⟩,by show s.length - (k+1) < s.length - k;omega, ?_⟩
    (refine Le.ok some [] ?_;constructor;all_goals (try simp only [vle,vkt,seval,yR,aS]))
    all_goals first|rfl|simp
  ·have e1:decide ((k:Int) < (s.length:Int))=false:=decide_eq_false (by omega)
   obtain rfl:k=s.length:=by omega
   rw [List.drop_length,JN] at hv
   rw [hv]
   simp only [rnbS]
   repeat' first|(apply nx;with_reducible constructor)|apply uq (by decide)|((first|apply uz env|apply uj);intro Q hQ;simp only [vkt,seval,yh,yR,aS,hsz,e1,ite_and];(repeat' first|with_reducible assumption|apply vz|intro hp);all_goals first|(apply hQ;clear hQ Q)|(apply ux;kernel_rfl)|omega|assumption|rfl|skip)
   (simp only [vrt,results50,onR,vkt,seval,yR];refine Fin.val rfl ?_;(try simp only [AV.le,AV.leL]))
   all_goals first|rfl|simp
def Qmf (o:Option Int):onR o=.tup [aI (o.getD 0),aB o.isSome]:=by cases o <;> rfl
def Qgz (s:List UInt8):FnV prog 50 [aS s] (.tup [aI ((wN s).getD 0),aB (wN s).isSome]):=by
 rw [<- Qmf];exact Qkz s
def yl:List AV->Prop × AV
 |[.v (.string ⟨⟨s⟩⟩)]=>(0<=s.length,.tup [aI ((wN s).getD 0),aB (wN s).isSome])
 |_=>(False,.junk)
def KF {A:Frm->Prop}:qm A prog 50 (zw true yl):=qL fun vs hv h=>by
 clear hv
 unfold yl at h ⊢
 split at h
 ·rename_i s;have k0:0<=s.length:=h;clear h
  refine ⟨by first|trivial|(repeat' split) <;> simp [AV.plain,AV.plainL,aI,aB,qz,qc,qy,qw,aTk,cTk],fun _=>(by simp [AV.flat,AV.flatL,aI,aB]), ?_⟩
  have:=Qgz s
  simp only [aS] at this
  first|exact this|(simp only [aS];exact this)
 ·exact h.elim
def Zu:List AV->Prop × AV
 |[.v (.string ⟨⟨s⟩⟩),.v (.int .u8 b)]=>(s.length<=100000/\0<=b/\b < 256,ql (wM s (UInt8.ofNat b.toNat)))
 |_=>(False,.junk)
def Uz {b:Int} (h0:0<=b) (h1:b < 256):(((UInt8.ofNat b.toNat).toNat:Nat):Int)=b:=by
 rw [UInt8.toNat_ofNat',cg (by omega)];omega
def QlM {A:Frm->Prop}:qm A prog 49 (zw false Zu):=qL fun vs hv h=>by
 unfold Zu at h ⊢
 split at h
 ·rename_i s b
  obtain ⟨h1,h2,h3⟩:=h
  refine ⟨by simp [ql,AV.plain],by simp, ?_⟩
  have:=Qkl s (UInt8.ofNat b.toNat) h1
  rw [aU8,Uz h2 h3] at this
  exact this
 ·exact h.elim
def vI (s:List UInt8) (b:UInt8):Int × Int × Bool:=if (wM s b).length=2 then ((wN ((wM s b).getD 0 [])).getD 0,(wN ((wM s b).getD 1 [])).getD 0,(wN ((wM s b).getD 0 [])).isSome && (wN ((wM s b).getD 1 [])).isSome) else (0,0,false)
def Je:=vz @ty3 (vz @ty9 (vz @XN (vz @ti3.eq_1 (vz @ti9.eq_1 @YA.eq_1))))
def J4:=vz @aI.eq_1 (@aB.eq_1)
def Qjt (s:List UInt8) (b:UInt8) (hl:s.length<=100000):FnV prog 99 [aS s,aU8 b] (.tup [aI (vI s b).1,aI (vI s b).2.1,aB (vI s b).2.2]):=by
 have env:=qA (A:=fun _=>True) (kC QlM (kC KF kN))
 refine kV (Fn0 func99 rfl (fun vs w=>by kernel_rfl) (by kernel_rfl)) (by simp) (by simp [AV.ids,aS,aU8]) ?_
 have hb0:(0:Int)<=((b.toNat:Nat):Int):=by omega
 have hb1:((b.toNat:Nat):Int) < 256:=by have:=UInt8.toNat_lt b;omega
 have hb2:UInt8.ofNat b.toNat=b:=UInt8.ofNat_toNat
 unfold vI
 generalize hc:wM s b=l
 by_cases h2:l.length=2
 ·rw [if_pos h2]
  match l,h2 with
  |[p,q],_ =>
   have z0:(0:Nat)<=p.length:=ag _
   have z1:(0:Nat)<=q.length:=ag _
   simp only [ab,ae]
   cases hp1:(wN p).isSome
   ·repeat' first|(apply nx;with_reducible constructor)|apply uq (by decide)|((first|apply uz env|apply uj);intro Q hQ;simp only [vkt,seval,Je,J4,aS,aU8,qF,ql,Zu,yl,hb0,hb1,hb2,hl,hc,z0,z1,hp1,ab,ae,ite_and];(repeat' first|with_reducible assumption|apply vz|intro hp);all_goals first|(apply hQ;clear hQ Q)|(apply ux;kernel_rfl)|omega|assumption|rfl|skip)
    (simp only [vrt,results99,aT,vkt,seval,J4];refine Fin.val rfl ?_;(try simp only [AV.le,AV.leL]))
    all_goals first|rfl|simp
   ·repeat' first|(apply nx;with_reducible constructor)|apply uq (by decide)|((first|apply uz env|apply uj);intro Q hQ;simp only [vkt,seval,Je,J4,aS,aU8,qF,ql,Zu,yl,hb0,hb1,hb2,hl,hc,z0,z1,hp1,ab,ae,ite_and];(repeat' first|with_reducible assumption|apply vz|intro hp);all_goals first|(apply hQ;clear hQ Q)|(apply ux;kernel_rfl)|omega|assumption|rfl|skip)
    (simp only [vrt,results99,bm,vkt,seval,J4];refine Fin.val rfl ?_;(try simp only [AV.le,AV.leL]))
    all_goals first|rfl|simp
 ·rw [if_neg h2]
  have d1:decide ((l.length:Int)=2)=false:=decide_eq_false (by omega)
  repeat' first|(apply nx;with_reducible constructor)|apply uq (by decide)|((first|apply uz env|apply uj);intro Q hQ;simp only [vkt,seval,Je,aS,aU8,ql,Zu,hb0,hb1,hb2,hl,hc,d1,ite_and];(repeat' first|with_reducible assumption|apply vz|intro hp);all_goals first|(apply hQ;clear hQ Q)|(apply ux;kernel_rfl)|omega|assumption|rfl|skip)
  (simp only [vrt,results99,vkt,seval,J4];refine Fin.val rfl ?_;(try simp only [AV.le,AV.leL]))
  all_goals first|rfl|simp
def vY:List AV->Prop × AV
 |[.v (.string ⟨⟨s⟩⟩),.v (.int .u8 b)]=>(s.length<=100000/\0<=b/\b < 256,.tup [aI (vI s (UInt8.ofNat b.toNat)).1,aI (vI s (UInt8.ofNat b.toNat)).2.1,aB (vI s (UInt8.ofNat b.toNat)).2.2])
 |_=>(False,.junk)
def Qdv {A:Frm->Prop}:qm A prog 99 (zw true vY):=qL fun vs hv h=>by
 unfold vY at h ⊢
 split at h
 ·rename_i s b
  obtain ⟨h1,h2,h3⟩:=h
  refine ⟨by simp [aI,aB,AV.plain,AV.plainL],fun _=>by simp [aI,aB,AV.flat,AV.flatL], ?_⟩
  have:=Qjt s (UInt8.ofNat b.toNat) h1
  rw [aU8,Uz h2 h3] at this
  exact this
 ·exact h.elim
def zTk:Tk:=⟨0,0,0,0,0,0,false⟩
def kG (w0 w1 w2 w3 w4:List UInt8) (d:Bool):Tk × Bool:=if w0=ww/\(w2=[119]\/w2=[109]) then (⟨(wN w1).getD 0,if w2=[109] then 2 else 1,(vI w3 46).1,(vI w3 46).2.1,(vI w4 62).1,(vI w4 62).2.1,d⟩,(wN w1).isSome && (vI w3 46).2.2 && (vI w4 62).2.2) else (zTk,false)
def Qy:List (List UInt8)->Tk × Bool
 |[w0,w1,w2,w3,w4]=>kG w0 w1 w2 w3 w4 false
 |[w0,w1,w2,w3,w4,w5]=>if w5=[43] then kG w0 w1 w2 w3 w4 true else (zTk,false)
 |_=>(zTk,false)
def qE:=vz @ty3 (vz @ty9 (vz @XN (vz @vS (vz @jC (vz @ti3.eq_1 (vz @ti9.eq_1 (vz @YA.eq_1 (vz @yG.eq_1 @je.eq_1))))))))
def ja:=vz @aI.eq_1 (@aB.eq_1)
def Qkn (w0 w1 w2 w3 w4:List UInt8) (l3:w3.length<=100000) (l4:w4.length<=100000):FnV prog 51 [ql [w0,w1,w2,w3,w4]] (.tup [aTk (kG w0 w1 w2 w3 w4 false).1,aB (kG w0 w1 w2 w3 w4 false).2]):=by
 have env:=qA (A:=fun _=>True) (kC KF (kC Qdv kN))
 refine kV (Fn0 func51 rfl (fun vs w=>by kernel_rfl) (by kernel_rfl)) (by simp) (by simp [AV.ids,ql]) ?_
 have z1:(0:Nat)<=w1.length:=ag _
 have b43:(([43]:List UInt8) == [43])=true:=by decide
 have u46:UInt8.ofNat 46=46:=rfl
 have u62:UInt8.ofNat 62=62:=rfl
 unfold kG
 by_cases h0:w0=ww
 ·have b0:(w0 == [115,111,108,100])=true:=beq_iff_eq.2 h0
  by_cases h1:w2=[119]
  ·have b1:(w2 == [119])=true:=beq_iff_eq.2 h1
   have b2:(w2 == [109])=false:=by rw [h1];decide
   have h2:w2 ≠ [109]:=by rw [h1];decide
   rw [if_pos ⟨h0,.inl h1⟩,if_neg h2]
   cases hp:(wN w1).isSome
   ·cases hq:(vI w3 46).2.2
    ·repeat' first|(apply nx;with_reducible constructor)|apply uq (by decide)|((first|apply uz env|apply uj);intro Q hQ;simp only [vkt,seval,qE,ja,yl,vY,qF,ql,ae,ab,b0,b1,b2,u46,u62,l3,l4,z1,hp,hq,ite_and];(repeat' first|with_reducible assumption|apply vz|intro hp);all_goals first|(apply hQ;clear hQ Q)|(apply ux;kernel_rfl)|omega|assumption|rfl|skip)
     (simp only [vrt,results51,aT,vkt,seval,qE,ja,aTk,cTk];refine Fin.val rfl ?_;(try simp only [AV.le,AV.leL]))
     all_goals first|rfl|simp
    ·repeat' first|(apply nx;with_reducible constructor)|apply uq (by decide)|((first|apply uz env|apply uj);intro Q hQ;simp only [vkt,seval,qE,ja,yl,vY,qF,ql,ae,ab,b0,b1,b2,u46,u62,l3,l4,z1,hp,hq,ite_and];(repeat' first|with_reducible assumption|apply vz|intro hp);all_goals first|(apply hQ;clear hQ Q)|(apply ux;kernel_rfl)|omega|assumption|rfl|skip)
     (simp only [vrt,results51,aT,cH,vkt,seval,qE,ja,aTk,cTk];refine Fin.val rfl ?_;(try simp only [AV.le,AV.leL]))
     all_goals first|rfl|simp
   ·cases hq:(vI w3 46).2.2
    ·repeat' first|(apply nx;with_reducible constructor)|apply uq (by decide)|((first|apply uz env|apply uj);intro Q hQ;simp only [vkt,seval,qE,ja,yl,vY,qF,ql,ae,ab,b0,b1,b2,u46,u62,l3,l4,z1,hp,hq,ite_and];(repeat' first|with_reducible assumption|apply vz|intro hp);all_goals first|(apply hQ;clear hQ Q)|(apply ux;kernel_rfl)|omega|assumption|rfl|skip)
     (simp only [vrt,results51,aT,cw,vkt,seval,qE,ja,aTk,cTk];refine Fin.val rfl ?_;(try simp only [AV.le,AV.leL]))
     all_goals first|rfl|simp
    ·repeat' first|(apply nx;with_reducible constructor)|apply uq (by decide)|((first|apply uz env|apply uj);intro Q hQ;simp only [vkt,seval,qE,ja,yl,vY,qF,ql,ae,ab,b0,b1,b2,u46,u62,l3,l4,z1,hp,hq,ite_and];(repeat' first|with_reducible assumption|apply vz|intro hp);all_goals first|(apply hQ;clear hQ Q)|(apply ux;kernel_rfl)|omega|assumption|rfl|skip)
     (simp only [vrt,results51,bm,vkt,seval,qE,ja,aTk,cTk];refine Fin.val rfl ?_;(try simp only [AV.le,AV.leL]))
     all_goals first|rfl|simp
  ·have b1:(w2 == [119])=false:=beq_eq_false_iff_ne.2 h1
   by_cases h2:w2=[109]
   ·have b2:(w2 == [109])=true:=beq_iff_eq.2 h2
    rw [if_pos ⟨h0,.inr h2⟩,if_pos h2]
    cases hp:(wN w1).isSome
    ·cases hq:(vI w3 46).2.2
     ·repeat' first|(apply nx;with_reducible constructor)|apply uq (by decide)|((first|apply uz env|apply uj);intro Q hQ;simp only [vkt,seval,qE,ja,yl,vY,qF,ql,ae,ab,b0,b1,b2,u46,u62,l3,l4,z1,hp,hq,ite_and];(repeat' first|with_reducible assumption|apply vz|intro hp);all_goals first|(apply hQ;clear hQ Q)|(apply ux;kernel_rfl)|omega|assumption|rfl|skip)
      (simp only [vrt,results51,aT,vkt,seval,qE,ja,aTk,cTk];refine Fin.val rfl ?_;(try simp only [AV.le,AV.leL]))
      all_goals first|rfl|simp
     ·repeat' first|(apply nx;with_reducible constructor)|apply uq (by decide)|((first|apply uz env|apply uj);intro Q hQ;simp only [vkt,seval,qE,ja,yl,vY,qF,ql,ae,ab,b0,b1,b2,u46,u62,l3,l4,z1,hp,hq,ite_and];(repeat' first|with_reducible assumption|apply vz|intro hp);all_goals first|(apply hQ;clear hQ Q)|(apply ux;kernel_rfl)|omega|assumption|rfl|skip)
      (simp only [vrt,results51,aT,cH,vkt,seval,qE,ja,aTk,cTk];refine Fin.val rfl ?_;(try simp only [AV.le,AV.leL]))
      all_goals first|rfl|simp
    ·cases hq:(vI w3 46).2.2
     ·repeat' first|(apply nx;with_reducible constructor)|apply uq (by decide)|((first|apply uz env|apply uj);intro Q hQ;simp only [vkt,seval,qE,ja,yl,vY,qF,ql,ae,ab,b0,b1,b2,u46,u62,l3,l4,z1,hp,hq,ite_and];(repeat' first|with_reducible assumption|apply vz|intro hp);all_goals first|(apply hQ;clear hQ Q)|(apply ux;kernel_rfl)|omega|assumption|rfl|skip)
      (simp only [vrt,results51,aT,cw,vkt,seval,qE,ja,aTk,cTk];refine Fin.val rfl ?_;(try simp only [AV.le,AV.leL]))
      all_goals first|rfl|simp
     ·repeat' first|(apply nx;with_reducible constructor)|apply uq (by decide)|((first|apply uz env|apply uj);intro Q hQ;simp only [vkt,seval,qE,ja,yl,vY,qF,ql,ae,ab,b0,b1,b2,u46,u62,l3,l4,z1,hp,hq,ite_and];(repeat' first|with_reducible assumption|apply vz|intro hp);all_goals first|(apply hQ;clear hQ Q)|(apply ux;kernel_rfl)|omega|assumption|rfl|skip)
      (simp only [vrt,results51,bm,vkt,seval,qE,ja,aTk,cTk];refine Fin.val rfl ?_;(try simp only [AV.le,AV.leL]))
      all_goals first|rfl|simp
   ·have b2:(w2 == [109])=false:=beq_eq_false_iff_ne.2 h2
    rw [if_neg (by rintro ⟨_,h|h⟩ <;> first|exact h1 h|exact h2 h)]
    ·repeat' first|(apply nx;with_reducible constructor)|apply uq (by decide)|((first|apply uz env|apply uj);intro Q hQ;simp only [vkt,seval,qE,qF,ql,ae,ab,b0,b1,b2,ite_and];(repeat' first|with_reducible assumption|apply vz|intro hp);all_goals first|(apply hQ;clear hQ Q)|(apply ux;kernel_rfl)|omega|assumption|rfl|skip)
     (simp only [vrt,results51,vkt,seval,qE,ja,aTk,cTk,zTk];refine Fin.val rfl ?_;(try simp only [AV.le,AV.leL]))
     all_goals first|rfl|simp
 ·have b0:(w0 == [115,111,108,100])=false:=beq_eq_false_iff_ne.2 h0
  rw [if_neg (fun h=>h0 h.1)]
  ·repeat' first|(apply nx;with_reducible constructor)|apply uq (by decide)|((first|apply uz env|apply uj);intro Q hQ;simp only [vkt,seval,qE,qF,ql,ab,b0,ite_and];(repeat' first|with_reducible assumption|apply vz|intro hp);all_goals first|(apply hQ;clear hQ Q)|(apply ux;kernel_rfl)|omega|assumption|rfl|skip)
   (simp only [vrt,results51,vkt,seval,qE,ja,aTk,cTk,zTk];refine Fin.val rfl ?_;(try simp only [AV.le,AV.leL]))
   all_goals first|rfl|simp
def jb:=vz @aI.eq_1 (@aB.eq_1)
def QjQ (w0 w1 w2 w3 w4:List UInt8) (l3:w3.length<=100000) (l4:w4.length<=100000):FnV prog 51 [ql [w0,w1,w2,w3,w4,[43]]] (.tup [aTk (kG w0 w1 w2 w3 w4 true).1,aB (kG w0 w1 w2 w3 w4 true).2]):=by
 have env:=qA (A:=fun _=>True) (kC KF (kC Qdv kN))
 refine kV (Fn0 func51 rfl (fun vs w=>by kernel_rfl) (by kernel_rfl)) (by simp) (by simp [AV.ids,ql]) ?_
 have z1:(0:Nat)<=w1.length:=ag _
 have b43:(([43]:List UInt8) == [43])=true:=by decide
 have u46:UInt8.ofNat 46=46:=rfl
 have u62:UInt8.ofNat 62=62:=rfl
 unfold kG
 by_cases h0:w0=ww
 ·have b0:(w0 == [115,111,108,100])=true:=beq_iff_eq.2 h0
  by_cases h1:w2=[119]
  ·have b1:(w2 == [119])=true:=beq_iff_eq.2 h1
   have b2:(w2 == [109])=false:=by rw [h1];decide
   have h2:w2 ≠ [109]:=by rw [h1];decide
   rw [if_pos ⟨h0,.inl h1⟩,if_neg h2]
   cases hp:(wN w1).isSome
   ·cases hq:(vI w3 46).2.2
    ·repeat' first|(apply nx;with_reducible constructor)|apply uq (by decide)|((first|apply uz env|apply uj);intro Q hQ;simp only [vkt,seval,qE,jb,yl,vY,qF,ql,ae,ab,b0,b1,b2,u46,u62,l3,l4,z1,hp,hq,ite_and];(repeat' first|with_reducible assumption|apply vz|intro hp);all_goals first|(apply hQ;clear hQ Q)|(apply ux;kernel_rfl)|omega|assumption|rfl|skip)
     (simp only [vrt,results51,aT,vkt,seval,qE,jb,aTk,cTk];refine Fin.val rfl ?_;(try simp only [AV.le,AV.leL]))
     all_goals first|rfl|simp
    ·repeat' first|(apply nx;with_reducible constructor)|apply uq (by decide)|((first|apply uz env|apply uj);intro Q hQ;simp only [vkt,seval,qE,jb,yl,vY,qF,ql,ae,ab,b0,b1,b2,u46,u62,l3,l4,z1,hp,hq,ite_and];(repeat' first|with_reducible assumption|apply vz|intro hp);all_goals first|(apply hQ;clear hQ Q)|(apply ux;kernel_rfl)|omega|assumption|rfl|skip)
     (simp only [vrt,results51,aT,cH,vkt,seval,qE,jb,aTk,cTk];refine Fin.val rfl ?_;(try simp only [AV.le,AV.leL]))
     all_goals first|rfl|simp
   ·cases hq:(vI w3 46).2.2
    ·repeat' first|(apply nx;with_reducible constructor)|apply uq (by decide)|((first|apply uz env|apply uj);intro Q hQ;simp only [vkt,seval,qE,jb,yl,vY,qF,ql,ae,ab,b0,b1,b2,u46,u62,l3,l4,z1,hp,hq,ite_and];(repeat' first|with_reducible assumption|apply vz|intro hp);all_goals first|(apply hQ;clear hQ Q)|(apply ux;kernel_rfl)|omega|assumption|rfl|skip)
     (simp only [vrt,results51,aT,cw,vkt,seval,qE,jb,aTk,cTk];refine Fin.val rfl ?_;(try simp only [AV.le,AV.leL]))
     all_goals first|rfl|simp
    ·repeat' first|(apply nx;with_reducible constructor)|apply uq (by decide)|((first|apply uz env|apply uj);intro Q hQ;simp only [vkt,seval,qE,jb,yl,vY,qF,ql,ae,ab,b0,b1,b2,u46,u62,l3,l4,z1,hp,hq,ite_and];(repeat' first|with_reducible assumption|apply vz|intro hp);all_goals first|(apply hQ;clear hQ Q)|(apply ux;kernel_rfl)|omega|assumption|rfl|skip)
     (simp only [vrt,results51,bm,vkt,seval,qE,jb,aTk,cTk];refine Fin.val rfl ?_;(try simp only [AV.le,AV.leL]))
     all_goals first|rfl|simp
  ·have b1:(w2 == [119])=false:=beq_eq_false_iff_ne.2 h1
   by_cases h2:w2=[109]
   ·have b2:(w2 == [109])=true:=beq_iff_eq.2 h2
    rw [if_pos ⟨h0,.inr h2⟩,if_pos h2]
    cases hp:(wN w1).isSome
    ·cases hq:(vI w3 46).2.2
     ·repeat' first|(apply nx;with_reducible constructor)|apply uq (by decide)|((first|apply uz env|apply uj);intro Q hQ;simp only [vkt,seval,qE,jb,yl,vY,qF,ql,ae,ab,b0,b1,b2,u46,u62,l3,l4,z1,hp,hq,ite_and];(repeat' first|with_reducible assumption|apply vz|intro hp);all_goals first|(apply hQ;clear hQ Q)|(apply ux;kernel_rfl)|omega|assumption|rfl|skip)
      (simp only [vrt,results51,aT,vkt,seval,qE,jb,aTk,cTk];refine Fin.val rfl ?_;(try simp only [AV.le,AV.leL]))
      all_goals first|rfl|simp
     ·repeat' first|(apply nx;with_reducible constructor)|apply uq (by decide)|((first|apply uz env|apply uj);intro Q hQ;simp only [vkt,seval,qE,jb,yl,vY,qF,ql,ae,ab,b0,b1,b2,u46,u62,l3,l4,z1,hp,hq,ite_and];(repeat' first|with_reducible assumption|apply vz|intro hp);all_goals first|(apply hQ;clear hQ Q)|(apply ux;kernel_rfl)|omega|assumption|rfl|skip)
      (simp only [vrt,results51,aT,cH,vkt,seval,qE,jb,aTk,cTk];refine Fin.val rfl ?_;(try simp only [AV.le,AV.leL]))
      all_goals first|rfl|simp
    ·cases hq:(vI w3 46).2.2
     ·repeat' first|(apply nx;with_reducible constructor)|apply uq (by decide)|((first|apply uz env|apply uj);intro Q hQ;simp only [vkt,seval,qE,jb,yl,vY,qF,ql,ae,ab,b0,b1,b2,u46,u62,l3,l4,z1,hp,hq,ite_and];(repeat' first|with_reducible assumption|apply vz|intro hp);all_goals first|(apply hQ;clear hQ Q)|(apply ux;kernel_rfl)|omega|assumption|rfl|skip)
      (simp only [vrt,results51,aT,cw,vkt,seval,qE,jb,aTk,cTk];refine Fin.val rfl ?_;(try simp only [AV.le,AV.leL]))
      all_goals first|rfl|simp
     ·repeat' first|(apply nx;with_reducible constructor)|apply uq (by decide)|((first|apply uz env|apply uj);intro Q hQ;simp only [vkt,seval,qE,jb,yl,vY,qF,ql,ae,ab,b0,b1,b2,u46,u62,l3,l4,z1,hp,hq,ite_and];(repeat' first|with_reducible assumption|apply vz|intro hp);all_goals first|(apply hQ;clear hQ Q)|(apply ux;kernel_rfl)|omega|assumption|rfl|skip)
      (simp only [vrt,results51,bm,vkt,seval,qE,jb,aTk,cTk];refine Fin.val rfl ?_;(try simp only [AV.le,AV.leL]))
      all_goals first|rfl|simp
   ·have b2:(w2 == [109])=false:=beq_eq_false_iff_ne.2 h2
    rw [if_neg (by rintro ⟨_,h|h⟩ <;> first|exact h1 h|exact h2 h)]
    ·repeat' first|(apply nx;with_reducible constructor)|apply uq (by decide)|((first|apply uz env|apply uj);intro Q hQ;simp only [vkt,seval,qE,qF,ql,ae,ab,b0,b1,b2,ite_and];(repeat' first|with_reducible assumption|apply vz|intro hp);all_goals first|(apply hQ;clear hQ Q)|(apply ux;kernel_rfl)|omega|assumption|rfl|skip)
     (simp only [vrt,results51,vkt,seval,qE,jb,aTk,cTk,zTk];refine Fin.val rfl ?_;(try simp only [AV.le,AV.leL]))
     all_goals first|rfl|simp
 ·have b0:(w0 == [115,111,108,100])=false:=beq_eq_false_iff_ne.2 h0
  rw [if_neg (fun h=>h0 h.1)]
  ·repeat' first|(apply nx;with_reducible constructor)|apply uq (by decide)|((first|apply uz env|apply uj);intro Q hQ;simp only [vkt,seval,qE,qF,ql,ae,ab,b0,ite_and];(repeat' first|with_reducible assumption|apply vz|intro hp);all_goals first|(apply hQ;clear hQ Q)|(apply ux;kernel_rfl)|omega|assumption|rfl|skip)
   (simp only [vrt,results51,vkt,seval,qE,jb,aTk,cTk,zTk];refine Fin.val rfl ?_;(try simp only [AV.le,AV.leL]))
   all_goals first|rfl|simp
def Qki:=vz @aI.eq_1 (@aB.eq_1)
def Qj9 (w0 w1 w2 w3 w4 w5:List UInt8) (h:w5 ≠ [43]):FnV prog 51 [ql [w0,w1,w2,w3,w4,w5]] (.tup [aTk zTk,aB false]):=by
 have env:=qA (A:=fun _=>True) (kC KF (kC Qdv kN))
 refine kV (Fn0 func51 rfl (fun vs w=>by kernel_rfl) (by kernel_rfl)) (by simp) (by simp [AV.ids,ql]) ?_
 have b43:(w5 == [43])=false:=beq_eq_false_iff_ne.2 h
 ·repeat' first|(apply nx;with_reducible constructor)|apply uq (by decide)|((first|apply uz env|apply uj);intro Q hQ;simp only [vkt,seval,qE,qF,ql,ae,ab,b43,ite_and];(repeat' first|with_reducible assumption|apply vz|intro hp);all_goals first|(apply hQ;clear hQ Q)|(apply ux;kernel_rfl)|omega|assumption|rfl|skip)
  (simp only [vrt,results51,vkt,seval,qE,Qki,aTk,cTk,zTk];refine Fin.val rfl ?_;(try simp only [AV.le,AV.leL]))
  all_goals first|rfl|simp
def QjL:=vz @aI.eq_1 (@aB.eq_1)
def QkF (l:List (List UInt8)) (h5:l.length ≠ 5) (h6:l.length ≠ 6):FnV prog 51 [ql l] (.tup [aTk zTk,aB false]):=by
 have env:=qA (A:=fun _=>True) (kC KF (kC Qdv kN))
 refine kV (Fn0 func51 rfl (fun vs w=>by kernel_rfl) (by kernel_rfl)) (by simp) (by simp [AV.ids,ql]) ?_
 have d5:decide ((l.length:Int)=5)=false:=decide_eq_false (by omega)
 have d6:decide ((l.length:Int)=6)=false:=decide_eq_false (by omega)
 ·repeat' first|(apply nx;with_reducible constructor)|apply uq (by decide)|((first|apply uz env|apply uj);intro Q hQ;simp only [vkt,seval,qE,ql,d5,d6,ite_and];(repeat' first|with_reducible assumption|apply vz|intro hp);all_goals first|(apply hQ;clear hQ Q)|(apply ux;kernel_rfl)|omega|assumption|rfl|skip)
  (simp only [vrt,results51,vkt,seval,qE,QjL,aTk,cTk,zTk];refine Fin.val rfl ?_;(try simp only [AV.le,AV.leL]))
  all_goals first|rfl|simp
def QlT (l:List (List UInt8)) (hl:∀ w ∈ l,w.length<=100000):FnV prog 51 [ql l] (.tup [aTk (Qy l).1,aB (Qy l).2]):=by
 unfold Qy
 split
 ·exact Qkn _ _ _ _ _ (hl _ (by simp)) (hl _ (by simp))
 ·split
  ·rename_i h5;subst h5
   exact QjQ _ _ _ _ _ (hl _ (by simp)) (hl _ (by simp))
  ·exact Qj9 _ _ _ _ _ _ (by assumption)
 ·rename_i g5 g6
  refine QkF l (fun e=>?_) (fun e=>?_)
  ·match l,e with
   |[a,b,c,d,e],_=>exact g5 _ _ _ _ _ rfl
  ·match l,e with
   |[a,b,c,d,e,f],_=>exact g6 _ _ _ _ _ _ rfl
def dg (n:Nat):List UInt8:=if n < 10 then [UInt8.ofNat (48+n)] else if n < 100 then [UInt8.ofNat (48+n / 10),UInt8.ofNat (48+n % 10)] else [UInt8.ofNat (48+n / 100),UInt8.ofNat (48+n / 10 % 10),UInt8.ofNat (48+n % 10)]
def dg_eq {n:Nat} (h:n < 1000):Lib.decDigits n=dg n:=by
 unfold dg
 split
 ·rw [Lib.decDigits,dif_pos ‹_›]
 ·split
  ·rw [Lib.decDigits,dif_neg ‹_›,Lib.decDigits,dif_pos (by omega)];rfl
  ·rw [Lib.decDigits,dif_neg ‹_›,Lib.decDigits,dif_neg (by omega),Lib.decDigits,dif_pos (by omega)]
   rw [Nat.div_div_eq_div_mul];rfl
def Qdl {n:Nat} (h:n < 1000):Lib.itoa (n:Int)=dg n:=by
 unfold Lib.itoa
 rw [if_neg (by omega),cA,dg_eq h]
def QmH {n:Nat} (h:1000<=n):3 < (Lib.decDigits n).length:=by
 rw [Lib.decDigits,dif_neg (by omega),Lib.decDigits,dif_neg (by omega),Lib.decDigits,dif_neg (by omega),Lib.decDigits]
 split <;> simp
def Qgq:∀ n:_root_.Fin 1000,ji (dg n.1)=some (n.1:Int)/\wN (dg n.1)=some (n.1:Int):=by
 have h:∀ n:_root_.Fin 1000,Lib.atoiAll (dg n.1)=.ok (n.1:Int)/\(dg n.1).length<=3/\wN (dg n.1)=some (n.1:Int):=by decide +kernel
 intro n
 obtain ⟨h1,h2,h3⟩:=h n
 refine ⟨?_,h3⟩
 unfold ji
 rw [h1]
 dsimp only
 rw [if_neg (by rw [Qdl n.2];rintro (h|h|h) <;> first|omega|exact h rfl)]
def Qfr {s:List UInt8} {v:Int} (h:ji s=some v):∃ n:_root_.Fin 1000,v=(n.1:Int)/\s=dg n.1:=by
 unfold ji at h
 split at h
 ·rename_i u _
  split at h
  ·cases h
  ·rename_i hn
   cases h
   obtain ⟨h1,h2,h3⟩:¬ v < 0/\¬ 3 < s.length/\Lib.itoa v=s:=⟨fun e=>hn (.inl e),fun e=>hn (.inr (.inl e)),by
    by_cases e:Lib.itoa v=s
    ·exact e
    ·exact absurd (.inr (.inr e)) hn⟩
   obtain ⟨n,rfl⟩:∃ n:Nat,v=n:=⟨v.toNat,by omega⟩
   have hs:Lib.decDigits n=s:=by
    rw [<- h3];unfold Lib.itoa;rw [if_neg h1,cA]
   have hlt:n < 1000:=by
    by_cases e:n < 1000
    ·exact e
    ·have:=QmH (n:=n) (by omega)
     rw [hs] at this
     exact absurd this h2
   exact ⟨⟨n,hlt⟩,rfl,by rw [<- h3,Qdl hlt]⟩
 ·cases h
def QiB {x:UInt8} (h1:¬ (x.toNat < 48\/57 < x.toNat)):∃ d:Nat,d < 10/\x=UInt8.ofNat (48+d):=by
 refine ⟨x.toNat - 48,by omega,UInt8.toNat_inj.1 ?_⟩
 rw [UInt8.toNat_ofNat',cg (by omega)];omega
def kz {x:UInt8} {r:List UInt8} {acc v:Int} (h:JN acc (x :: r)=some v):∃ d:Nat,d < 10/\x=UInt8.ofNat (48+d)/\JN (10 * acc+d) r=some v:=by
 rw [JN] at h
 split at h
 ·cases h
 ·rename_i hn
  obtain ⟨d,hd,rfl⟩:=QiB hn
  refine ⟨d,hd,rfl, ?_⟩
  rw [UInt8.toNat_ofNat',cg (by omega)] at h
  rw [<- h]
  congr 1
  omega
def Qeu {s:List UInt8} {v:Int} (h:wN s=some v):∃ n:_root_.Fin 1000,v=(n.1:Int)/\s=dg n.1:=by
 unfold wN at h
 split at h
 ·cases h
 ·rename_i hn
  have h1:¬ s.length < 1:=fun e=>hn (.inl e)
  have h2:¬ 3 < s.length:=fun e=>hn (.inr (.inl e))
  have h3:¬ (s.getD 0 0=48/\1 < s.length):=fun e=>hn (.inr (.inr e))
  clear hn
  match s,h1,h2 with
  |[a],_,_ =>
   obtain ⟨d,hd,rfl,k⟩:=kz h
   rw [JN] at k
   cases k
   refine ⟨⟨d,by omega⟩,by simp, ?_⟩
   unfold dg
   rw [if_pos (by simpa using hd)]
  |[a,b],_,_ =>
   obtain ⟨d,hd,rfl,k⟩:=kz h
   obtain ⟨e,he,rfl,m⟩:=kz k
   rw [JN] at m
   cases m
   have hd0:d ≠ 0:=fun z=>h3 ⟨by subst z;rfl,by simp⟩
   refine ⟨⟨10 * d+e,by omega⟩,by simp, ?_⟩
   unfold dg
   dsimp only
   rw [if_neg (by omega),if_pos (by omega),show (10 * d+e) / 10=d by omega,show (10 * d+e) % 10=e by omega]
  |[a,b,c],_,_ =>
   obtain ⟨d,hd,rfl,k⟩:=kz h
   obtain ⟨e,he,rfl,m⟩:=kz k
   obtain ⟨f,hf,rfl,o⟩:=kz m
   rw [JN] at o
   cases o
   have hd0:d ≠ 0:=fun z=>h3 ⟨by subst z;rfl,by simp⟩
   refine ⟨⟨100 * d+10 * e+f,by omega⟩,by simp;omega, ?_⟩
   unfold dg
   dsimp only
   rw [if_neg (by omega),if_neg (by omega),show (100 * d+10 * e+f) / 100=d by omega,show (100 * d+10 * e+f) / 10 % 10=e by omega,show (100 * d+10 * e+f) % 10=f by omega]
  |_ :: _ :: _ :: _ :: _,_,h2=>exact absurd (by simp) h2
def Rx (s:List UInt8):ji s=wN s:=by
 cases h:ji s with
 |some v =>
  obtain ⟨n,rfl,rfl⟩:=Qfr h
  rw [(Qgq n).2]
 |none =>
  cases h2:wN s with
  |none=>rfl
  |some v =>
   obtain ⟨n,rfl,rfl⟩:=Qeu h2
   rw [(Qgq n).1] at h
   cases h
def LK {b:UInt8} (hb:b.toNat < 48\/57 < b.toNat):∀ (s:List UInt8) (acc:Int),b ∈ s->JN acc s=none
 |x :: r,acc,h=>by
  rw [JN]
  split
  ·rfl
  ·rename_i hn
   rcases ah.1 h with rfl|h
   ·exact absurd hb hn
   ·exact LK hb r _ h
def QiM {b:UInt8} (hb:b.toNat < 48\/57 < b.toNat) {s:List UInt8} (h:b ∈ s):wN s=none:=by
 unfold wN
 split
 ·rfl
 ·exact LK hb s 0 h
def index_one (x:UInt8) (l:List UInt8) (b:UInt8):Lib.index (x :: l) [b]=if x=b then 0 else if Lib.index l [b]=-1 then -1 else Lib.index l [b]+1:=by
 rw [Lib.index]
 by_cases h:x=b
 ·rw [if_pos h,if_pos (by simp [h])]
 ·rw [if_neg h,if_neg (by simp [Ne.symm h])]
  simp only [beq_iff_eq]
def Wj (b:UInt8):∀ (s cur:List UInt8),Lib.index s [b]=-1->cuts b cur s=[cur++s]
 |[],cur,_=>by simp [cuts]
 |x :: s,cur,h=>by
  rw [index_one] at h
  have hge:=Lib.index_ge s [b]
  split at h
  ·cases h
  ·split at h
   ·rw [cuts,if_neg ‹_›,Wj b s _ ‹_›];simp
   ·omega
def Ws (b:UInt8):∀ (s cur:List UInt8) (i:Nat),Lib.index s [b]=(i:Int)->cuts b cur s=(cur++s.take i) :: cuts b [] (s.drop (i+1))/\i < s.length
 |[],cur,i,h=>by simp [Lib.index] at h
 |x :: s,cur,i,h=>by
  rw [index_one] at h
  have hge:=Lib.index_ge s [b]
  split at h
  ·obtain rfl:i=0:=by omega
   rw [cuts,if_pos ‹_›];simp
  ·split at h
   ·omega
   ·obtain ⟨j,rfl⟩:∃ j,i=j+1:=⟨i - 1,by omega⟩
    obtain ⟨e,hl⟩:=Ws b s (cur++[x]) j (by omega)
    rw [cuts,if_neg ‹_›,e]
    simp [hl]
def QeD (b:UInt8) (s:List UInt8) (i:Nat) (h:Lib.index s [b]=(i:Int)):b ∈ s:=by
 induction s generalizing i with
 |nil=>simp [Lib.index] at h
 |cons x s ih =>
  rw [index_one] at h
  split at h
  ·subst ‹x=b›;exact .head _
  ·split at h
   ·omega
   ·exact .tail _ (ih (i - 1) (by omega))
def KV (b:UInt8):∀ (n:Nat) (s:List UInt8),s.length<=n->Lib.splitK [b] 0 (Lib.count s [b]) s=wM s b
 |n,s,hn=>by
  have hge:=Lib.index_ge s [b]
  by_cases h:Lib.index s [b]=-1
  ·rw [Lib.count_miss h,wM,Wj b s [] h];rfl
  ·obtain ⟨i,hi⟩:∃ i:Nat,Lib.index s [b]=(i:Int):=⟨(Lib.index s [b]).toNat,by omega⟩
   obtain ⟨e,hl⟩:=Ws b s [] i hi
   rw [Lib.count_hit (by simp) hi,wM,e,cD,Lib.splitK,hi,if_neg (by simp)]
   cases n with
   |zero=>omega
   |succ n =>
    have:=KV b n (s.drop (i+1)) (by simp;omega)
    unfold wM at this
    simpa using this
def Qgr (s:List UInt8) {b:UInt8} (hb:b.toNat < 48\/57 < b.toNat):jY s [b]=if (vI s b).2.2=true then some ((vI s b).1,(vI s b).2.1) else none:=by
 have hge:=Lib.index_ge s [b]
 by_cases h:Lib.index s [b]=-1
 ·have e:wM s b=[s]:=Wj b s [] h
  unfold jY vI Lib.cut
  rw [h,e];simp
 ·obtain ⟨i,hi⟩:∃ i:Nat,Lib.index s [b]=(i:Int):=⟨(Lib.index s [b]).toNat,by omega⟩
  obtain ⟨e,hl⟩:=Ws b s [] i hi
  have hc:Lib.cut s [b]=(s.take i,s.drop (i+1),true):=by
   unfold Lib.cut
   rw [hi,if_pos (by omega)];simp
  unfold jY vI wM
  rw [hc,e]
  simp only [if_true,Rx]
  have hge2:=Lib.index_ge (s.drop (i+1)) [b]
  by_cases h2:Lib.index (s.drop (i+1)) [b]=-1
  ·rw [Wj b _ [] h2]
   simp only [aF,bi,bH,if_true,ab,ae]
   cases wN (s.take i) <;> cases wN (s.drop (i+1)) <;> simp
  ·obtain ⟨j,hj⟩:∃ j:Nat,Lib.index (s.drop (i+1)) [b]=(j:Int):=⟨(Lib.index (s.drop (i+1)) [b]).toNat,by omega⟩
   obtain ⟨e2,_⟩:=Ws b _ [] j hj
   rw [QiM hb (QeD b _ j hj),e2]
   have:(cuts b [] (List.drop (j+1) (List.drop (i+1) s))).length ≠ 0:=by
    generalize (List.drop (j+1) (List.drop (i+1) s))=u
    generalize ([]:List UInt8)=cur
    induction u generalizing cur with
    |nil=>simp [cuts]
    |cons x u ih=>rw [cuts];split <;> simp [ih]
   have hl2:¬ (([]++s.take i) :: ([]++(s.drop (i+1)).take j) :: cuts b [] ((s.drop (i+1)).drop (j+1))).length=2:=by
    simp only [bi];omega
   rw [if_neg hl2]
   cases wN (s.take i) <;> simp
def Qdw (s:List UInt8) (b:UInt8):spS s [b]=wM s b:=(Qf9 s [b]).trans (KV b s.length s (aw _))
def Ya (b:UInt8):∀ (s cur:List UInt8),(cuts b cur s).length ≠ 0
 |[],cur=>by simp [cuts]
 |x :: s,cur=>by
  rw [cuts]
  split
  ·simp
  ·exact Ya b s _
def Lh (b:UInt8):∀ (s cur w:List UInt8),b ∉ cur->(cuts b cur s=[w] ↔ cur++s=w/\b ∉ w)
 |[],cur,w,hc=>by
  rw [cuts,be]
  constructor
  ·intro h
   obtain rfl:cur=w:=by simpa using h
   exact ⟨rfl,hc⟩
  ·rintro ⟨rfl,_⟩;rfl
 |x :: s,cur,w,hc=>by
  rw [cuts]
  split
  ·subst ‹x=b›
   constructor
   ·intro h
    have:=congrArg List.length h
    have h2:=Ya x s []
    simp at this
    exact absurd (by rw [this];rfl) h2
   ·rintro ⟨rfl,h⟩
    exact absurd (by simp) h
  ·rename_i hx
   rw [Lh b s (cur++[x]) w (by simp [hc,Ne.symm hx])]
   simp
def Qc9 (s:List UInt8):wM s 32=[jl] ↔ s=jl:=by
 unfold wM
 rw [Lh 32 s [] jl (by simp)]
 simp [jl]
def tk_eq {l:List (List UInt8)} (h0:l.headD []=ww):tkP l=if (Qy l).2=true then some (Qy l).1 else none:=by
 have h5:∀ w1 w2 w3 w4 d,tk5 w1 w2 w3 w4 d=if (kG ww w1 w2 w3 w4 d).2=true then some (kG ww w1 w2 w3 w4 d).1 else none:=fun w1 w2 w3 w4 d=>by
  unfold tk5 kG Xc
  rw [Qgr w3 (b:=46) (.inl (by decide)),Qgr w4 (b:=62) (.inr (by decide)),Rx]
  by_cases h1:w2=[119]
  ·subst h1
   rw [if_pos (c:=([119]:List UInt8)=[119]) rfl,if_pos (c:=ww=ww/\_) ⟨rfl,.inl rfl⟩,if_neg (c:=([119]:List UInt8)=[109]) (by decide)]
   cases wN w1 <;> cases (vI w3 46).2.2 <;> cases (vI w4 62).2.2 <;> rfl
  ·rw [if_neg (c:=w2=[119]) h1]
   by_cases h2:w2=[109]
   ·subst h2
    rw [if_pos (c:=([109]:List UInt8)=[109]) rfl,if_pos (c:=ww=ww/\_) ⟨rfl,.inr rfl⟩,if_pos (c:=([109]:List UInt8)=[109]) rfl]
    cases wN w1 <;> cases (vI w3 46).2.2 <;> cases (vI w4 62).2.2 <;> rfl
   ·rw [if_neg (c:=w2=[109]) h2,if_neg (c:=ww=ww/\_) (by rintro ⟨_,h|h⟩ <;> first|exact h1 h|exact h2 h)]
    cases wN w1 <;> rfl
 match l,h0 with
 |[],_=>rfl
 |[_],_=>rfl
 |[_,_],_=>rfl
 |[_,_,_],_=>rfl
 |[_,_,_,_],_=>rfl
 |[w0,w1,w2,w3,w4],h0 =>
  obtain rfl:w0=ww:=h0
  exact h5 _ _ _ _ _
 |[w0,w1,w2,w3,w4,w5],h0 =>
  obtain rfl:w0=ww:=h0
  show (if w5=[43] then tk5 w1 w2 w3 w4 true else none)=if (if w5=[43] then kG ww w1 w2 w3 w4 true else (zTk,false)).2=true then some (if w5=[43] then kG ww w1 w2 w3 w4 true else (zTk,false)).1 else none
  by_cases h:w5=[43]
  ·rw [if_pos h,if_pos h];exact h5 _ _ _ _ _
  ·rw [if_neg h,if_neg h];rfl
 |_ :: _ :: _ :: _ :: _ :: _ :: _ :: _,_=>rfl
def QcS {l:List (List UInt8)} (h0:l.headD [] ≠ ww):(Qy l).2=false:=by
 unfold Qy
 split
 ·unfold kG;rw [if_neg (fun h=>h0 h.1)]
 ·split
  ·unfold kG;rw [if_neg (fun h=>h0 h.1)]
  ·rfl
 ·rfl
def ZA (c:Chart) (st:Int) (s:List UInt8):Option (Chart × Int) :=
 if st=3 then none
 else if (wM s 32).headD []=zD/\(wM s 32).length=3/\st=0/\((wM s 32).getD 2 []=[100]\/(wM s 32).getD 2 []=[115]) then (wN ((wM s 32).getD 1 [])).map fun n=>(⟨c.cabins++[⟨n,decide ((wM s 32).getD 2 []=[100])⟩],c.secs,c.sold⟩,0)
 else if (wM s 32).headD []=yE/\(wM s 32).length=2/\st=0 then (wN ((wM s 32).getD 1 [])).map fun n=>(⟨c.cabins,n,c.sold⟩,1)
 else if s=jl/\st ≠ 0 then some (c,3)
 else if st ≠ 0 then if (Qy (wM s 32)).2=true then some (⟨c.cabins,c.secs,c.sold++[(Qy (wM s 32)).1]⟩,2) else none
 else none
def Qm5 (w:List (List UInt8)):cbP w=if w.length=3/\(w.getD 2 []=[100]\/w.getD 2 []=[115]) then (wN (w.getD 1 [])).map fun n=>.cabin ⟨n,decide (w.getD 2 []=[100])⟩ else none:=by
 match w with
 |[]=>rfl
 |[_]=>rfl
 |[_,_]=>rfl
 |[a,b,d] =>
  simp only [cbP,Rx,bi,bH,ae,ab,true_and]
 |_ :: _ :: _ :: _ :: _=>rw [if_neg (fun e=>by have:=e.1;simp at this)];rfl
def Qmq (w:List (List UInt8)):wyP w=if w.length=2 then (wN (w.getD 1 [])).map .way else none:=by
 match w with
 |[]=>rfl
 |[_]=>rfl
 |[a,b] =>
  show (ji b).map Ln.way=(wN b).map Ln.way
  rw [Rx]
 |_ :: _ :: _ :: _=>rw [if_neg (fun e=>by simp at e)];rfl
def Qm2 {w:List (List UInt8)} (h:w.headD []=jl):crP w=if w=[jl] then some .car else none:=by
 match w,h with
 |[],h=>exact absurd h (by decide)
 |[a],h=>obtain rfl:a=jl:=h;rfl
 |_ :: _ :: _,_=>rw [if_neg (fun e=>by simp at e)];rfl
def Qjm (c:Chart) {st:Int} (hst:st=0\/st=1\/st=2\/st=3) (i:Nat) (s:List UInt8):xV c st i s=match ZA c st s with
  |none=>.error (i+1)
  |some p=>.ok p:=by
 unfold xV JW ZA
 rw [Qdw]
 simp only [<- Qc9 s]
 generalize wM s 32=w
 have w1:zD ≠ yE:=by decide
 have w2:zD ≠ ww:=by decide
 have w3:zD ≠ jl:=by decide
 have w4:yE ≠ ww:=by decide
 have w5:yE ≠ jl:=by decide
 have w6:ww ≠ jl:=by decide
 have hcar:w.headD [] ≠ jl->w ≠ [jl]:=fun h e=>h (by rw [e];rfl)
 unfold Rk
 by_cases h0:w.headD []=zD
 ·have hc:=hcar (by rw [h0];exact w3)
  have ht:=QcS (l:=w) (by rw [h0];exact w2)
  rw [if_pos h0,if_neg (c:=w=[jl]/\st ≠ 0) (fun h=>hc h.1),ht,if_neg (c:=w.headD []=yE/\w.length=2/\st=0) (fun h=>w1 (h0.symm.trans h.1)),Qm5]
  by_cases hd:w.length=3/\(w.getD 2 []=[100]\/w.getD 2 []=[115])
  ·rw [if_pos hd]
   rcases hst with rfl|rfl|rfl|rfl
   ·rw [if_pos (c:=w.headD []=zD/\_) ⟨h0,hd.1,rfl,hd.2⟩]
    cases wN (w.getD 1 []) <;> rfl
   all_goals rw [if_neg (c:=w.headD []=zD/\_) (fun h=>absurd h.2.2.1 (by decide))];cases wN (w.getD 1 []) <;> rfl
  ·rw [if_neg hd,if_neg (c:=w.headD []=zD/\_) (fun h=>hd ⟨h.2.1,h.2.2.2⟩)]
   rcases hst with rfl|rfl|rfl|rfl <;> rfl
 ·rw [if_neg h0,if_neg (c:=w.headD []=zD/\_) (fun h=>h0 h.1)]
  by_cases h1:w.headD []=yE
  ·have hc:=hcar (by rw [h1];exact w5)
   have ht:=QcS (l:=w) (by rw [h1];exact w4)
   rw [if_pos h1,if_neg (c:=w=[jl]/\st ≠ 0) (fun h=>hc h.1),ht,Qmq]
   by_cases hd:w.length=2
   ·rw [if_pos hd]
    rcases hst with rfl|rfl|rfl|rfl
    ·rw [if_pos (c:=w.headD []=yE/\_) ⟨h1,hd,rfl⟩]
     cases wN (w.getD 1 []) <;> rfl
    all_goals rw [if_neg (c:=w.headD []=yE/\_) (fun h=>absurd h.2.2 (by decide))];cases wN (w.getD 1 []) <;> rfl
   ·rw [if_neg hd,if_neg (c:=w.headD []=yE/\_) (fun h=>hd h.2.1)]
    rcases hst with rfl|rfl|rfl|rfl <;> rfl
  ·rw [if_neg h1,if_neg (c:=w.headD []=yE/\_) (fun h=>h1 h.1)]
   by_cases h2:w.headD []=ww
   ·have hc:=hcar (by rw [h2];exact w6)
    rw [if_pos h2,if_neg (c:=w=[jl]/\st ≠ 0) (fun h=>hc h.1),tk_eq h2]
    rcases hst with rfl|rfl|rfl|rfl <;> cases (Qy w).2 <;> rfl
   ·have ht:=QcS (l:=w) h2
    rw [if_neg h2,ht]
    by_cases h3:w.headD []=jl
    ·rw [if_pos h3,Qm2 h3]
     by_cases hd:w=[jl]
     ·rw [if_pos hd]
      rcases hst with rfl|rfl|rfl|rfl
      ·rw [if_neg (c:=w=[jl]/\_) (fun h=>absurd rfl h.2)];rfl
      ·rw [if_pos (c:=w=[jl]/\_) ⟨hd,by decide⟩];rfl
      ·rw [if_pos (c:=w=[jl]/\_) ⟨hd,by decide⟩];rfl
      ·rfl
     ·rw [if_neg hd,if_neg (c:=w=[jl]/\_) (fun h=>hd h.1)]
      rcases hst with rfl|rfl|rfl|rfl <;> rfl
    ·rw [if_neg h3,if_neg (c:=w=[jl]/\st ≠ 0) (fun h=>hcar h3 h.1)]
     rcases hst with rfl|rfl|rfl|rfl <;> rfl
def ItOk (l:List (List UInt8)):Prop:=∀ w ∈ l,w.length<=100000
def srtk:List AV->Prop × AV
 |[.sl l]=>(l=(l.map vU).map qF/\ItOk (l.map vU),.tup [aTk (Qy (l.map vU)).1,aB (Qy (l.map vU)).2])
 |_=>(False,.junk)
def ertk {A:Frm->Prop}:qm A prog 51 (zw false srtk):=qL fun vs hv h=>by
 clear hv
 unfold srtk at h ⊢
 split at h
 ·rename_i l;obtain ⟨q0,k0⟩:=h
  refine ⟨by first|trivial|(repeat' split) <;> simp [AV.plain,AV.plainL,aI,aB,qz,qc,qy,qw,aTk,cTk],fun h=>absurd h (by decide), ?_⟩
  have:=QlT (l.map vU) k0
  simp only [ql,<- q0] at this
  first|exact this|(simp only [ql,<- q0];exact this)
 ·exact h.elim
def rdrS (L:List (List UInt8)) (k:Nat) (c:Chart) (way ended:Bool):St:={ t:=asg [(2,.ptr 0 0),(3,aI 0),(4,aI 0),(5,ql L),(6,.ptr 1 0),(7,aB way),(8,aB ended),(9,aI k)],h:=qb [(0,.cells [.sl [],.v (.int .i64 0),.sl []]),(1,chR c.secs 2 3),(2,qQ c.cabins),(3,qf c.sold)],n:=4 }
def Wi (b:UInt8):∀ (s cur:List UInt8),∀ w ∈ cuts b cur s,w.length<=cur.length+s.length
 |[],cur,w,hw=>by rw [cuts] at hw;simp at hw;subst hw;simp
 |x :: s,cur,w,hw=>by
  rw [cuts] at hw
  split at hw
  ·rcases ah.1 hw with rfl|hw
   ·simp
   ·have:=Wi b s [] w hw
    simp at this ⊢;omega
  ·have:=Wi b s (cur++[x]) w hw
   simp at this ⊢;omega
def QeH (t:List UInt8) (h:t.length<=300):yH t=match wF ⟨[],0,[]⟩ 0 0 ((wM t 10).take ((wM t 10).length - 1)) with
  |.error n=>(⟨[],0,[]⟩,n,2)
  |.ok p=>if p.2=3/\(wM t 10).getD ((wM t 10).length - 1) []=[] then if zt p.1=0 then (p.1,0,0) else (⟨[],0,[]⟩,0,zt p.1) else (⟨[],0,[]⟩,(wM t 10).length,2):=by
 unfold yH WU
 rw [if_neg (by omega),Qdw]
 cases wF ⟨[],0,[]⟩ 0 0 ((wM t 10).take ((wM t 10).length - 1)) with
 |error n=>rfl
 |ok p =>
  dsimp only
  by_cases h:p.2=3/\(wM t 10).getD ((wM t 10).length - 1) []=[]
  ·rw [if_pos h,if_pos h]
  ·rw [if_neg h,if_neg h]
def QgA (c:Chart) {st:Int} (h3:st ≠ 3) (s:List UInt8) {w:List (List UInt8)} (hw:wM s 32=w) :
  (ZA c st s=none /\
   ((decide (st ≠ 0)=false/\(w.headD [] == [99,97,98,105,110])=true/\decide ((w.length:Int)=3)=true/\2 < w.length/\(w.getD 2 [] == [100])=false/\(w.getD 2 [] == [115])=false/\(w.headD [] == [119,97,121])=false/\(s == [99,97,114])=false)
   \/ (decide (st ≠ 0)=false/\(w.headD [] == [99,97,98,105,110])=true/\decide ((w.length:Int)=3)=false/\(w.headD [] == [119,97,121])=false/\(s == [99,97,114])=false)
   \/ (decide (st ≠ 0)=false/\(w.headD [] == [99,97,98,105,110])=true/\decide ((w.length:Int)=3)=true/\1 < w.length/\2 < w.length/\(w.getD 2 [] == [100])=true/\(wN (w.getD 1 [])).isSome=false)
   \/ (decide (st ≠ 0)=false/\(w.headD [] == [99,97,98,105,110])=true/\decide ((w.length:Int)=3)=true/\1 < w.length/\2 < w.length/\(w.getD 2 [] == [100])=false/\(w.getD 2 [] == [115])=true/\(wN (w.getD 1 [])).isSome=false)
   \/ (decide (st ≠ 0)=false/\(w.headD [] == [99,97,98,105,110])=false/\(w.headD [] == [119,97,121])=true/\decide ((w.length:Int)=2)=true/\1 < w.length/\(wN (w.getD 1 [])).isSome=false)
   \/ (decide (st ≠ 0)=false/\(w.headD [] == [99,97,98,105,110])=false/\(w.headD [] == [119,97,121])=true/\decide ((w.length:Int)=2)=false/\(s == [99,97,114])=false)
   \/ (decide (st ≠ 0)=false/\(w.headD [] == [99,97,98,105,110])=false/\(w.headD [] == [119,97,121])=false/\(s == [99,97,114])=true)
   \/ (decide (st ≠ 0)=false/\(w.headD [] == [99,97,98,105,110])=false/\(w.headD [] == [119,97,121])=false/\(s == [99,97,114])=false)
   \/ (decide (st ≠ 0)=true/\(w.headD [] == [99,97,98,105,110])=true/\decide ((w.length:Int)=3)=true/\(w.headD [] == [119,97,121])=false/\(s == [99,97,114])=false/\(Qy w).2=false)
   \/ (decide (st ≠ 0)=true/\(w.headD [] == [99,97,98,105,110])=true/\decide ((w.length:Int)=3)=false/\(w.headD [] == [119,97,121])=false/\(s == [99,97,114])=false/\(Qy w).2=false)
   \/ (decide (st ≠ 0)=true/\(w.headD [] == [99,97,98,105,110])=false/\(w.headD [] == [119,97,121])=true/\decide ((w.length:Int)=2)=true/\(s == [99,97,114])=false/\(Qy w).2=false)
   \/ (decide (st ≠ 0)=true/\(w.headD [] == [99,97,98,105,110])=false/\(w.headD [] == [119,97,121])=true/\decide ((w.length:Int)=2)=false/\(s == [99,97,114])=false/\(Qy w).2=false)
   \/ (decide (st ≠ 0)=true/\(w.headD [] == [99,97,98,105,110])=false/\(w.headD [] == [119,97,121])=false/\(s == [99,97,114])=false/\(Qy w).2=false)))
  \/ (∃ n d,ZA c st s=some (⟨c.cabins++[⟨n,d⟩],c.secs,c.sold⟩,0)/\(wN (w.getD 1 [])).getD 0=n/\(decide (st ≠ 0)=false/\(w.headD [] == [99,97,98,105,110])=true/\decide ((w.length:Int)=3)=true/\1 < w.length/\2 < w.length/\(w.getD 2 [] == [100])=d/\(w.getD 2 [] == [115])=!d/\(wN (w.getD 1 [])).isSome=true))
  \/ (∃ n,ZA c st s=some (⟨c.cabins,n,c.sold⟩,1)/\(wN (w.getD 1 [])).getD 0=n/\(decide (st ≠ 0)=false/\(w.headD [] == [99,97,98,105,110])=false/\(w.headD [] == [119,97,121])=true/\decide ((w.length:Int)=2)=true/\1 < w.length/\(wN (w.getD 1 [])).isSome=true))
  \/ (ZA c st s=some (c,3)/\(decide (st ≠ 0)=true/\(w.headD [] == [99,97,98,105,110])=false/\(w.headD [] == [119,97,121])=false/\(s == [99,97,114])=true))
  \/ (∃ k,ZA c st s=some (⟨c.cabins,c.secs,c.sold++[k]⟩,2)/\(Qy w).1=k/\(decide (st ≠ 0)=true/\(w.headD [] == [99,97,98,105,110])=false/\(w.headD [] == [119,97,121])=false/\(s == [99,97,114])=false/\(Qy w).2=true)):=by
 have w1:zD ≠ yE:=by decide
 have w2:zD ≠ ww:=by decide
 have w3:zD ≠ jl:=by decide
 have w4:yE ≠ ww:=by decide
 have w5:yE ≠ jl:=by decide
 have w6:ww ≠ jl:=by decide
 have hcar:=Qc9 s
 rw [hw] at hcar
 have hcar2:w.headD [] ≠ jl->¬ s=jl:=fun h e=>h (by rw [<- hcar] at e;rw [e];rfl)
 have e1:∀ {x:List UInt8},(w.headD [] == x)=decide (w.headD []=x):=fun {x}=>by rw [cv];simp
 have e2:∀ {x:List UInt8},(w.getD 2 [] == x)=decide (w.getD 2 []=x):=fun {x}=>by rw [cv];simp
 have e3:(s == [99,97,114])=decide (s=jl):=by rw [cv,beq_iff_eq,decide_eq_true_eq];rfl
 have e4:decide ((w.length:Int)=3)=decide (w.length=3):=by rw [decide_eq_decide];omega
 have e5:decide ((w.length:Int)=2)=decide (w.length=2):=by rw [decide_eq_decide];omega
 have ht:=@QcS w
 unfold ZA
 rw [hw,if_neg h3]
 simp only [e1,e2,e3,e4,e5]
 change _\/_
 have k1:([99,97,98,105,110]:List UInt8)=zD:=rfl
 have k2:([119,97,121]:List UInt8)=yE:=rfl
 rw [k1,k2]
 by_cases hc:w.headD []=zD
 ·have n1:¬ w.headD []=yE:=by rw [hc];exact w1
  have n2:=hcar2 (by rw [hc];exact w3)
  have n3:=ht (by rw [hc];exact w2)
  by_cases hz:st=0
  ·by_cases hl:w.length=3
   ·have l1:1 < w.length:=by omega
    have l2:2 < w.length:=by omega
    by_cases p:w.getD 2 []=[100]
    ·have q:¬ w.getD 2 []=[115]:=by rw [p];decide
     cases hn:wN (w.getD 1 []) with
     |none=>left;simp only [hc,n2,hz,hl,p];simp [w1]
     |some v=>right;left;refine ⟨v,true, ?_⟩;simp only [hc,n2,hz,hl,p];simp []
    ·by_cases q:w.getD 2 []=[115]
     ·cases hn:wN (w.getD 1 []) with
      |none=>left;simp only [hc,n2,hz,hl,q];simp [w1]
      |some v=>right;left;refine ⟨v,false, ?_⟩;simp only [hc,n2,hz,hl,q];simp []
     ·left;simp only [hc,n2,hz,hl,p,q];simp [w1]
   ·left;simp only [hc,n2,hz,hl];simp [w1]
  ·by_cases hl:w.length=3
   ·left;simp only [hc,n2,n3,hz,hl];simp [hz,w1]
   ·left;simp only [hc,n2,n3,hz,hl];simp [hz,w1]
 ·by_cases hy:w.headD []=yE
  ·have n2:=hcar2 (by rw [hy];exact w5)
   have n3:=ht (by rw [hy];exact w4)
   have n4:¬ yE=zD:=Ne.symm w1
   by_cases hl:w.length=2
   ·have l1:1 < w.length:=by omega
    by_cases hz:st=0
    ·cases hn:wN (w.getD 1 []) with
     |none=>left;simp only [hy,n2,n4,hz,hl];simp []
     |some v=>right;right;left;refine ⟨v, ?_⟩;simp only [hy,n2,n4,hz,hl];simp []
    ·left;simp only [hy,n2,n3,n4,hz,hl];simp [hz]
   ·by_cases hz:st=0
    ·left;simp only [hy,n2,n4,hz,hl];simp []
    ·left;simp only [hy,n2,n3,n4,hz,hl];simp [hz]
  ·by_cases hs:s=jl
   ·by_cases hz:st=0
    ·left;simp only [hc,hy,hs,hz];simp []
    ·right;right;right;left;simp only [hc,hy,hs,hz];simp [hz]
   ·by_cases hz:st=0
    ·left;simp only [hc,hy,hs,hz];simp []
    ·cases hq:(Qy w).2
     ·left;simp only [hc,hy,hs,hz];simp [hz]
     ·right;right;right;right;refine ⟨(Qy w).1, ?_⟩;simp only [hc,hy,hs,hz];simp [hz]
def zh:=vz @ty3 (vz @ty9 (vz @ZF (vz @vJ (vz @jm (vz @XN (vz @Qa (vz @ZC (vz @jC (vz @ti3.eq_1 (vz @ti9.eq_1 (vz @Qv.eq_1 (vz @yI.eq_1 (vz @wY.eq_1 (vz @YA.eq_1 (vz @xQ.eq_1 (vz @Qz.eq_1 @je.eq_1))))))))))))))))
def zV:=vz @aI.eq_1 (@aB.eq_1)
def Qgy (t:List UInt8):FnV prog 15 [aS t] (.tup [qd (yH t).1,aI (yH t).2.1,aI (yH t).2.2]):=by
 have env:=qA (A:=fun _=>True) (kC QlM (kC KF (kC ertk (kC Qc1 kN))))
 refine kV (Fn0 func15 rfl (fun vs w=>by kernel_rfl) (by kernel_rfl)) (by simp) (by simp [AV.ids,aS]) ?_
 have hsz:(ByteArray.mk ⟨t⟩).size=t.length:=rfl
 by_cases h0:300 < t.length
 ·have d1:decide ((300:Int) < (t.length:Int))=true:=decide_eq_true (by omega)
  have er:yH t=(⟨[],0,[]⟩,0,10):=by unfold yH;rw [if_pos h0]
  rw [er]
  repeat' first|(apply nx;with_reducible constructor)|apply uq (by decide)|((first|apply uz env|apply uj);intro Q hQ;simp only [vkt,seval,zh,aS,d1,hsz,ite_and];(repeat' first|with_reducible assumption|apply vz|intro hp);all_goals first|(apply hQ;clear hQ Q)|(apply ux;kernel_rfl)|omega|assumption|rfl|skip)
  (simp only [vrt,results15,vkt,seval,zh,zV,qd,qa];refine Fin.val rfl ?_;(try simp only [AV.le,AV.leL]))
  all_goals first|rfl|simp
 have d1:decide ((300:Int) < (t.length:Int))=false:=decide_eq_false (by omega)
 have hL:(wM t 10).length<=t.length+1:=J7 10 t []
 have hL0:(wM t 10).length ≠ 0:=Ya 10 t []
 have hit:∀ w ∈ wM t 10,w.length<=t.length:=fun w hw=>by have:=Wi 10 t [] w hw;simpa using this
 rw [QeH t (by omega)]
 have u10:UInt8.ofNat 10=10:=rfl
 have u32:UInt8.ofNat 32=32:=rfl
 obtain ⟨L,hLe⟩:∃ L,wM t 10=L:=⟨_,rfl⟩
 rw [hLe] at hL hL0 hit ⊢
 obtain ⟨m,hm⟩:∃ m,L.length=m+1:=⟨L.length - 1,by omega⟩
 rw [hm,Nat.add_sub_cancel]
 have hl1:t.length<=100000:=by omega
 have e0:IntKind.wrap .i64 ((L.length:Int) - 1)=(m:Int):=by rw [hm,wrap64 (by omega) (by omega)];omega
 obtain ⟨R,hR⟩:∃ R,L.take m=R:=⟨_,rfl⟩
 have hRl:R.length=m:=by rw [<- hR,aR];omega
 rw [hR]
 repeat' first|(apply nx;with_reducible constructor)|apply uq (by decide)|((first|apply uz env|apply uj);intro Q hQ;simp only [vkt,seval,zh,aS,Zu,ql,d1,hsz,hl1,u10,hLe,ite_and];(repeat' first|with_reducible assumption|apply vz|intro hp);all_goals first|(apply hQ;clear hQ Q)|(apply ux;kernel_rfl)|omega|assumption|rfl|skip)
 refine qN (fun s:{ p:Nat × Chart × Int // p.1<=m/\wF ⟨[],0,[]⟩ 0 0 (R.take p.1)=.ok (p.2.1,p.2.2) }=>rdrS L s.1.1 s.1.2.1 (decide (s.1.2.2 ≠ 0)) (decide (s.1.2.2=3))) (fun s=>m - s.1.1) ⟨(0,⟨[],0,[]⟩,0),ag _,rfl⟩ ?_ fun ⟨⟨k,c,st⟩,hk,hg⟩=>?_
 ·simp only [rdrS]
  (refine Le.ok (fun i=>if i=2 then none else if i=3 then none else some i) [] ?_;constructor;all_goals (try simp only [vle,vkt,seval,zV,ql,qQ,qf,chR]))
  all_goals first|rfl|(simp;done)|exact ⟨rfl,trivial⟩|(intro i hi;rw [if_neg (by omega)];done)
 simp only at hk hg ⊢
 have hsz:=Qr _ _ _ _ hg
 have hst:=Yt _ _ _ _ (.inl rfl) hg
 have htl:(R.take k).length=k:=by rw [aR];omega
 rw [htl] at hsz
 simp only [bH,bf] at hsz
 by_cases hlt:k < m
 ·have f1:decide ((k:Int) < (m:Int))=true:=decide_eq_true (by omega)
  have e9:=k9 k (by omega)
  have hkR:k < R.length:=by omega
  have hkL:k < L.length:=by omega
  have hRL:R.getD k []=L.getD k []:=by rw [<- hR];simp [ai,hlt]
  have hS:R.take (k+1)=R.take k++[R.getD k []]:=by
   rw [cK,ak hkR]
   simp [hkR]
  have hy:∀ d,(L.map qF).getD k d=[.v (.string ⟨⟨L.getD k []⟩⟩)]:=fun d=>Qak L k d hkL
  have hs1:(L.getD k []).length<=t.length:=by
   have h1:L.getD k []=L[k]:=by simp [hkL]
   rw [h1];exact hit _ (bE _)
  rw [hRL] at hS
  generalize L.getD k []=s at hs1 hS hy
  have hs2:s.length<=100000:=by omega
  have hnx:wF ⟨[],0,[]⟩ 0 0 (R.take (k+1))=match ZA c st s with
    |none=>.error (k+1)
    |some p=>.ok p:=by
   rw [hS,kJ,hg]
   dsimp only
   rw [htl,bf,wF,Qjm c hst k s]
   cases ZA c st s <;> rfl
  have herr:ZA c st s=none->wF ⟨[],0,[]⟩ 0 0 R=.error (k+1):=fun hn=>by
   have h2:=kJ (R.take (k+1)) (R.drop (k+1)) ⟨[],0,[]⟩ 0 0
   rw [dP,hnx,hn] at h2
   exact h2
  have hmx:(100000:Nat)<=maxLen:=by decide
  have c1:c.cabins.length<=1000:=by omega
  have c2:c.sold.length<=1000:=by omega
  have c3:c.cabins.length+1<=maxLen:=by omega
  have c4:c.sold.length+1<=maxLen:=by omega
  have hci:ItOk (wM s 32):=fun w hw=>by have:=Wi 32 s [] w hw;simp at this;omega
  have hw0:(wM s 32).length ≠ 0:=Ya 32 s []
  obtain ⟨w,hw⟩:∃ w,wM s 32=w:=⟨_,rfl⟩
  have hcs:st ≠ 3->_:=fun h3=>QgA c h3 s hw
  rw [hw] at hci hw0
  have x0:∀ d,(w.map qF).getD 0 d=[.v (.string ⟨⟨w.headD []⟩⟩)]:=fun d=>by
   match w,hw0 with
   |a :: l,_=>rfl
  have l0:0 < w.length:=by omega
  have x1:1 < w.length->∀ d,(w.map qF).getD 1 d=[.v (.string ⟨⟨w.getD 1 []⟩⟩)]:=fun h d=>Qak w 1 d h
  have x2:2 < w.length->∀ d,(w.map qF).getD 2 d=[.v (.string ⟨⟨w.getD 2 []⟩⟩)]:=fun h d=>Qak w 2 d h
  obtain ⟨cabs,secs,sold⟩:=c
  dsimp only at c1 c2 c3 c4 hcs
  simp only [rdrS]
  by_cases h3:st=3
  ·have b3:decide (st=3)=true:=decide_eq_true h3
   rw [herr (by unfold ZA;rw [if_pos h3])]
   dsimp only
   repeat' first|(apply nx;with_reducible constructor)|apply uq (by decide)|((first|apply uz env|apply uj);intro Q hQ;simp only [vkt,seval,zh,zV,Zu,ql,qQ,qf,chR,f1,e0,e9,hy,hkL,hs2,u32,hw,b3,ite_and];(repeat' first|with_reducible assumption|apply vz|intro hp);all_goals first|(apply hQ;clear hQ Q)|(apply ux;kernel_rfl)|omega|assumption|rfl|skip)
   (simp only [vrt,results15,vkt,seval,zh,zV,qd,qa];refine Fin.val rfl ?_;(try simp only [AV.le,AV.leL]))
   all_goals first|rfl|simp
  have b3:decide (st=3)=false:=decide_eq_false h3
  rcases hcs h3 with ⟨hn,hE⟩|⟨n,d,hn,hv,hf⟩|⟨n,hn,hv,hf⟩|⟨hn,hf⟩|⟨q,hn,hv,hf⟩
  ·rw [herr hn]
   dsimp only
   rcases hE with hf|hf|hf|hf|hf|hf|hf|hf|hf|hf|hf|hf|hf
   all_goals
    repeat' first|(apply nx;with_reducible constructor)|apply uq (by decide)|((first|apply uz env|apply uj);intro Q hQ;simp only [vkt,seval,zh,zV,Zu,yl,srtk,Qe6,ql,qQ,qf,chR,wP,rTk,aTk,cTk,f1,e0,e9,hy,hkL,hs2,u32,hw,b3,hf,x0,l0,x1,x2,hci,c3,c4,ite_and];(repeat' first|with_reducible assumption|apply vz|intro hp);all_goals first|(apply hQ;clear hQ Q)|(apply ux;kernel_rfl)|omega|assumption|rfl|skip)
    (simp only [vrt,results15,vkt,seval,zh,zV,qd,qa];refine Fin.val rfl ?_;(try simp only [AV.le,AV.leL]))
    all_goals first|rfl|simp
  ·rw [hn] at hnx
   obtain ⟨g0,hf⟩:=hf
   have hn2:=hv
   have e4:List.map qx cabs++[[.v (.int .i64 n),.v (.bool d)]]=List.map qx (cabs++[⟨n,d⟩]):=by rw [aq];rfl
   cases d
   all_goals
    repeat' first|(apply nx;with_reducible constructor)|apply uq (by decide)|((first|apply uz env|apply uj);intro Q hQ;simp only [vkt,seval,zh,zV,Zu,yl,ql,qQ,qf,chR,wP,f1,e0,e9,hy,hkL,hs2,u32,hw,b3,g0,hf,hv,x0,l0,x1,x2,c3,e4,ite_and];(repeat' first|with_reducible assumption|apply vz|intro hp);all_goals first|(apply hQ;clear hQ Q)|(apply ux;kernel_rfl)|omega|assumption|rfl|skip)
    refine ⟨⟨(k+1,⟨cabs++[⟨n,_⟩],secs,sold⟩,0),hlt,hnx⟩,by show m - (k+1) < m - k;omega, ?_⟩
    (refine Le.ok (fun i=>if i=2 then some 5 else some i) [] ?_;constructor;all_goals (try simp only [vle,vkt,seval,zV,ql,qQ,qf,chR]))
    all_goals first|rfl|(simp;done)|(intro i hi;rw [if_neg (by omega)];done)
  ·rw [hn] at hnx
   repeat' first|(apply nx;with_reducible constructor)|apply uq (by decide)|((first|apply uz env|apply uj);intro Q hQ;simp only [vkt,seval,zh,zV,Zu,yl,ql,qQ,qf,chR,f1,e0,e9,hy,hkL,hs2,u32,hw,b3,hf,hv,x0,l0,x1,ite_and];(repeat' first|with_reducible assumption|apply vz|intro hp);all_goals first|(apply hQ;clear hQ Q)|(apply ux;kernel_rfl)|omega|assumption|rfl|skip)
   refine ⟨⟨(k+1,⟨cabs,n,sold⟩,1),hlt,hnx⟩,by show m - (k+1) < m - k;omega, ?_⟩
   (refine Le.ok some [] ?_;constructor;all_goals (try simp only [vle,vkt,seval,zV,ql,qQ,qf,chR]))
   all_goals first|rfl|(simp;done)|(intro i hi;rw [if_neg (by omega)];done)
  ·rw [hn] at hnx
   repeat' first|(apply nx;with_reducible constructor)|apply uq (by decide)|((first|apply uz env|apply uj);intro Q hQ;simp only [vkt,seval,zh,zV,Zu,ql,qQ,qf,chR,f1,e0,e9,hy,hkL,hs2,u32,hw,b3,hf,x0,l0,ite_and];(repeat' first|with_reducible assumption|apply vz|intro hp);all_goals first|(apply hQ;clear hQ Q)|(apply ux;kernel_rfl)|omega|assumption|rfl|skip)
   refine ⟨⟨(k+1,⟨cabs,secs,sold⟩,3),hlt,hnx⟩,by show m - (k+1) < m - k;omega, ?_⟩
   (refine Le.ok some [] ?_;constructor;all_goals (try simp only [vle,vkt,seval,zV,ql,qQ,qf,chR]))
   all_goals first|rfl|(simp;done)|(intro i hi;rw [if_neg (by omega)];done)
  ·rw [hn] at hnx
   obtain ⟨g0,hf⟩:=hf
   have e4:List.map eTk sold++[[.v (.int .i64 q.party),.v (.int .i64 q.sex),.v (.int .i64 q.cab),.v (.int .i64 q.bed),.v (.int .i64 q.frm),.v (.int .i64 q.to),.v (.bool q.dog)]]=List.map eTk (sold++[q]):=by rw [aq];rfl
   repeat' first|(apply nx;with_reducible constructor)|apply uq (by decide)|((first|apply uz env|apply uj);intro Q hQ;simp only [vkt,seval,zh,zV,Zu,srtk,Qe6,ql,qQ,qf,chR,rTk,aTk,cTk,f1,e0,e9,hy,hkL,hs2,u32,hw,b3,g0,hf,hv,x0,l0,hci,c4,e4,ite_and];(repeat' first|with_reducible assumption|apply vz|intro hp);all_goals first|(apply hQ;clear hQ Q)|(apply ux;kernel_rfl)|omega|assumption|rfl|skip)
   refine ⟨⟨(k+1,⟨cabs,secs,sold++[q]⟩,2),hlt,hnx⟩,by show m - (k+1) < m - k;omega, ?_⟩
   (refine Le.ok (fun i=>if i=3 then some 6 else some i) [] ?_;constructor;all_goals (try simp only [vle,vkt,seval,zV,ql,qQ,qf,chR]))
   all_goals first|rfl|(simp;done)|(intro i hi;rw [if_neg (by omega)];done)
 ·have f1:decide ((k:Int) < (m:Int))=false:=decide_eq_false (by omega)
  obtain rfl:k=m:=by omega
  have hg2:R.take k=R:=bF (by omega)
  rw [hg2] at hg
  rw [hg]
  dsimp only
  have hy:∀ d,(L.map qF).getD k d=[.v (.string ⟨⟨L.getD k []⟩⟩)]:=fun d=>Qak L k d (by omega)
  have hkL:k < L.length:=by omega
  have hmL:(L.length:Int)=((k+1:Nat):Int):=by omega
  generalize L.getD k []=z at hy
  obtain ⟨cabs,secs,sold⟩:=c
  simp only [rdrS]
  have hb:(decide (st=3)=false/\True/\¬ (st=3/\z=[]))\/(decide (st=3)=true/\(z == [])=false/\¬ (st=3/\z=[]))\/(st=3/\z=[]):=by
   by_cases h1:st=3
   ·by_cases h2:z=[]
    ·exact .inr (.inr ⟨h1,h2⟩)
    ·exact .inr (.inl ⟨decide_eq_true h1,beq_eq_false_iff_ne.2 h2,fun h=>h2 h.2⟩)
   ·exact .inl ⟨decide_eq_false h1,trivial,fun h=>h1 h.1⟩
  rcases hb with ⟨b3,_,hb⟩|⟨b3,b4,hb⟩|⟨rfl,rfl⟩
  ·rw [if_neg hb,show k+1=L.length by omega]
   repeat' first|(apply nx;with_reducible constructor)|apply uq (by decide)|((first|apply uz env|apply uj);intro Q hQ;simp only [vkt,seval,zh,zV,ql,qQ,qf,chR,f1,e0,b3,ite_and];(repeat' first|with_reducible assumption|apply vz|intro hp);all_goals first|(apply hQ;clear hQ Q)|(apply ux;kernel_rfl)|omega|assumption|rfl|skip)
   (simp only [vrt,results15,vkt,seval,zh,zV,qd,qa];refine Fin.val rfl ?_;(try simp only [AV.le,AV.leL]))
   all_goals first|rfl|simp
  ·rw [if_neg hb,show k+1=L.length by omega]
   repeat' first|(apply nx;with_reducible constructor)|apply uq (by decide)|((first|apply uz env|apply uj);intro Q hQ;simp only [vkt,seval,zh,zV,ql,qQ,qf,chR,f1,e0,hy,hkL,b3,b4,ite_and];(repeat' first|with_reducible assumption|apply vz|intro hp);all_goals first|(apply hQ;clear hQ Q)|(apply ux;kernel_rfl)|omega|assumption|rfl|skip)
   (simp only [vrt,results15,vkt,seval,zh,zV,qd,qa];refine Fin.val rfl ?_;(try simp only [AV.le,AV.leL]))
   all_goals first|rfl|simp
  ·rw [if_pos ⟨rfl,rfl⟩]
   have b4:(([]:List UInt8) == [])=true:=rfl
   have hmx:(100000:Nat)<=maxLen:=by decide
   have g1:cabs.length<=maxLen:=by dsimp only at hsz;omega
   have g2:sold.length<=100000:=by dsimp only at hsz;omega
   refine (ve (S':={ t:=asg [(2,.ptr 0 0),(3,aI 0),(4,aI 0),(5,ql L),(6,.ptr 1 0),(7,aB true),(8,aB true),(9,aI k)],h:=qb [(0,.cells [.sl [],.v (.int .i64 0),.sl []]),(1,.cells (qa ⟨cabs,secs,sold⟩))],n:=2 }) (?_:Le _ _) ?_:Sym _ _ _ _ _)
   ·(refine Le.ok some [2,3] ?_;constructor;all_goals (try simp only [vle,vkt,seval,zV,ql,qQ,qf,chR,qa]))
    all_goals first|rfl|(simp;done)|exact ⟨_,_,rfl⟩
   obtain ⟨e,he⟩:∃ e,zt ⟨cabs,secs,sold⟩=e:=⟨_,rfl⟩
   rw [he]
   by_cases hz:e=0
   ·rw [if_pos hz]
    have d3:decide (e=0)=true:=decide_eq_true hz
    repeat' first|(apply nx;with_reducible constructor)|apply uq (by decide)|((first|apply uz env|apply uj);intro Q hQ;simp only [vkt,seval,zh,zV,Wq,ql,qC,mTk,qa,f1,e0,hy,hkL,he,d3,g1,g2,ite_and];(repeat' first|with_reducible assumption|apply vz|intro hp);all_goals first|(apply hQ;clear hQ Q)|(apply ux;kernel_rfl)|omega|assumption|rfl|skip)
    (simp only [vrt,results15,vkt,seval,zh,zV,qd,qa];refine Fin.val rfl ?_;(try simp only [AV.le,AV.leL]))
    all_goals first|rfl|simp
   ·rw [if_neg hz]
    have d3:decide (e=0)=false:=decide_eq_false hz
    repeat' first|(apply nx;with_reducible constructor)|apply uq (by decide)|((first|apply uz env|apply uj);intro Q hQ;simp only [vkt,seval,zh,zV,Wq,ql,qC,mTk,qa,f1,e0,hy,hkL,he,d3,g1,g2,ite_and];(repeat' first|with_reducible assumption|apply vz|intro hp);all_goals first|(apply hQ;clear hQ Q)|(apply ux;kernel_rfl)|omega|assumption|rfl|skip)
    (simp only [vrt,results15,vkt,seval,zh,zV,qd,qa];refine Fin.val rfl ?_;(try simp only [AV.le,AV.leL]))
    all_goals first|rfl|simp
end Go.Sym.B
namespace Go.Sym.B
open Go Go.Sym Go.Proofs Go.Proofs.Tryz Go.Sym.C
def flatL (l:List (List UInt8)):List UInt8:=(l.map (·++[10])).flatten
def Q5 (l:List (List UInt8)) (x:List UInt8):flatL (l++[x])=flatL l++x++[10]:=by simp [flatL]
def Js (l:List (List UInt8)) (x:List UInt8):flatL (x :: l)=x++[10]++flatL l:=by simp [flatL]
def QcH:∀ (l:List (List UInt8)),Lib.joinTail [10] l++[10]=[10]++flatL l
 |[]=>by simp [Lib.joinTail,flatL]
 |x :: l=>by
  have e:Lib.joinTail [10] (x :: l)=[10]++x++Lib.joinTail [10] l:=by simp [Lib.joinTail]
  rw [e,di,QcH l,Js];simp
def Qd9 {l:List (List UInt8)} (h:l ≠ []):Lib.join l [10]++[10]=flatL l:=by
 match l,h with
 |x :: l,_=>rw [Lib.join_cons,di,QcH,Js];simp
def Yn (m:Nat):∀ {l:List (List UInt8)},(∀ x ∈ l,x.length<=m)->(flatL l).length<=l.length * (m+1)
 |[],_=>by simp [flatL]
 |x :: l,h=>by
  have h1:=Yn m fun y hy=>h y (.tail _ hy)
  have h2:=h x (.head _)
  rw [Js,aA,aA,show (x :: l).length=l.length+1 from rfl,cF]
  simp;omega
def jn3 (a b c:List UInt8):Lib.join [a,b,c] [32]=a++[32]++b++[32]++c:=by simp [Lib.join_cons,Lib.joinTail]
def jn2 (a b:List UInt8):Lib.join [a,b] [32]=a++[32]++b:=by simp [Lib.join_cons,Lib.joinTail]
def jn5 (a b c d e:List UInt8):Lib.join [a,b,c,d,e] [32]=a++[32]++b++[32]++c++[32]++d++[32]++e:=by simp [Lib.join_cons,Lib.joinTail]
def jn6 (a b c d e f:List UInt8):Lib.join [a,b,c,d,e,f] [32]=a++[32]++b++[32]++c++[32]++d++[32]++e++[32]++f:=by simp [Lib.join_cons,Lib.joinTail]
def rwTA (c:Chart) {k:Nat} (h:k < c.cabins.length) {b:Int} {d:Bool} (hx:c.cabins.getD k default=⟨b,d⟩):flatL (xO c k)++[99,97,98,105,110,32]++q9 b++(if d then [32,100,10] else [32,115,10])=flatL (xO c (k+1)):=by
 rw [Kw c h,Q5,hx]
 unfold QdU
 rw [jn3]
 cases d <;> simp
def rwTB (c:Chart) {k:Nat} (h:k < c.sold.length) {p s cb bd fr to:Int} {d:Bool} (hx:c.sold.getD k default=⟨p,s,cb,bd,fr,to,d⟩):flatL (vH c k)++[115,111,108,100,32]++q9 p++(if s=2 then [32,109,32] else [32,119,32])++q9 cb++[46]++q9 bd++[32]++q9 fr++[62]++q9 to++(if d then [32,43] else [])++[10]=flatL (vH c (k+1)):=by
 rw [KG c h,Q5,hx]
 unfold tkS sexS
 dsimp only
 cases d
 ·rw [if_neg (c:=false=true) (by decide),if_neg (c:=false=true) (by decide),be,be,jn5]
  by_cases h2:s=2
  ·rw [if_pos h2,if_pos h2];simp
  ·rw [if_neg h2,if_neg h2];simp
 ·rw [if_pos (c:=true=true) rfl,if_pos (c:=true=true) rfl]
  simp only [aQ,aF]
  rw [jn6]
  by_cases h2:s=2
  ·rw [if_pos h2,if_pos h2];simp
  ·rw [if_neg h2,if_neg h2];simp
def rwTC (c:Chart):flatL (xO c c.cabins.length)++[119,97,121,32]++q9 c.secs++[10]=flatL (vH c 0):=by
 have hB0:vH c 0=xO c c.cabins.length++[KL c.secs]:=by simp [vH]
 rw [hB0,Q5]
 unfold KL
 rw [jn2];simp
def Qdn (c:Chart) (k:Nat):∀ x ∈ xO c k,x.length<=100:=fun x hx=>by
 unfold xO at hx
 obtain ⟨y,_,rfl⟩:=ap.1 hx
 exact Xa _
def QjX (c:Chart) (k:Nat):∀ x ∈ vH c k,x.length<=100:=fun x hx=>by
 unfold vH at hx
 simp only [aD,aW,ap] at hx
 rcases hx with (hx|rfl)|⟨y,_,rfl⟩
 ·exact Qdn c _ x hx
 ·exact YB _
 ·exact UJ _
def rw1 (c:Chart) (s:List UInt8) (k:Nat):St:={ t:=asg [(1,.ptr 0 0),(5,aS s),(6,aI k)],h:=qb [(0,.cells (qa c))],n:=1 }
def rw2 (c:Chart) (s:List UInt8) (k:Nat):St:={ t:=asg [(1,.ptr 0 0),(5,aS s),(7,aI k)],h:=qb [(0,.cells (qa c))],n:=1 }
def jR:=vz @ty3 (vz @ty4 (vz @ty9 (vz @ZF (vz @vJ (vz @jm (vz @Qa (vz @vS (vz @ZC (vz @jC (vz @ti3.eq_1 (vz @ti4.eq_1 (vz @ti9.eq_1 (vz @Qv.eq_1 (vz @yI.eq_1 (vz @wY.eq_1 (vz @xQ.eq_1 (vz @yG.eq_1 (vz @Qz.eq_1 @je.eq_1))))))))))))))))))
def j4:=vz @aI.eq_1 (@aB.eq_1)
set_option maxRecDepth 100000 in
def QdY (c:Chart) (hc:c.cabins.length<=maxLen) (hs:c.sold.length<=100000):FnV prog 12 [qd c] (.tup [aS (jr c).1,aI (jr c).2]):=by
 have env:=qA (A:=fun _=>True) (kC Qc1 (kC Qg8 kN))
 refine kV (Fn0 func12 rfl (fun vs w=>by kernel_rfl) (by kernel_rfl)) (by simp) (by simp [AV.ids,AV.idsL,qd,qa]) ?_
 have ec:(⟨c.cabins,c.secs,c.sold⟩:Chart)=c:=rfl
 obtain ⟨e,he⟩:∃ e,zt c=e:=⟨_,rfl⟩
 by_cases h0:e=0
 ·rw [h0] at he
  have hv:=Ze he
  have hc3:=hv.car.cabs.2
  have hs8:=hv.many
  have hsec:=hv.car.secs
  have hE:jr c=(flatL (vH c c.sold.length)++[99,97,114,10],0):=by
   unfold jr
   rw [if_pos he,Qd9 (by simp),Q5];simp
  rw [hE]
  repeat' first|(apply nx;with_reducible constructor)|apply uq (by decide)|((first|apply uz env|apply uj);intro Q hQ;simp only [vkt,seval,jR,j4,qd,qa,qC,mTk,Wq,ec,he,decide_true,hc,hs,ite_and];(repeat' first|with_reducible assumption|apply vz|intro hp);all_goals first|(apply hQ;clear hQ Q)|(apply ux;kernel_rfl)|omega|assumption|rfl|skip)
  refine qN (fun s:{ s:Nat // s<=c.cabins.length }=>rw1 c (flatL (xO c s.1)) s.1) (fun s=>c.cabins.length - s.1) ⟨0,ag _⟩ ?_ fun ⟨k,hk⟩=>?_
  ·simp only [rw1,show flatL (xO c 0)=[] from rfl]
   (refine Le.ok some [] ?_;constructor;all_goals (try simp only [vle,vkt,seval,j4,aS,qa]))
   all_goals first|rfl|simp
  simp only at hk ⊢
  have hlen:=Yn 100 (Qdn c k)
  rw [VJ c hk] at hlen
  by_cases hlt:k < c.cabins.length
  ·have d1:decide ((k:Int) < (c.cabins.length:Int))=true:=decide_eq_true (by omega)
   have e9:=k9 k (by omega)
   have hS:=rwTA c hlt (b:=(c.cabins.getD k default).beds) (d:=(c.cabins.getD k default).door) rfl
   have hx:=zX c.cabins k
   have hx':=Qa3 hlt
   have hb:=hv.car.beds _ (vG (d:=default) hlt)
   obtain ⟨K,hK⟩:∃ K,flatL (xO c k)=K:=⟨_,rfl⟩
   rw [hK] at hS hlen
   simp only [rw1,hK]
   generalize c.cabins.getD k default=x at hx hx' hb hS
   obtain ⟨b,d⟩:=x
   dsimp only at hb hS
   have hb1:0<=b:=by omega
   have hb2:b < 100:=by omega
   have hm:=wO b
   cases d
   ·rw [if_neg (by decide)] at hS
    repeat' first|(apply nx;with_reducible constructor)|apply uq (by decide)|((first|apply uz env|apply uj);intro Q hQ;simp only [vkt,seval,jR,j4,aS,qx,qa,Qi,aA,d1,e9,hx,hS,ite_and];(repeat' first|with_reducible assumption|apply vz|intro hp);all_goals first|(apply hQ;clear hQ Q)|(apply ux;kernel_rfl)|omega|assumption|rfl|skip)
    refine ⟨⟨k+1,hlt⟩,by show c.cabins.length - (k+1) < c.cabins.length - k;omega, ?_⟩
    (refine Le.ok some [] ?_;constructor;all_goals (try simp only [vle,vkt,seval,j4,aS,qa]))
    all_goals first|rfl|simp
   ·rw [if_pos rfl] at hS
    repeat' first|(apply nx;with_reducible constructor)|apply uq (by decide)|((first|apply uz env|apply uj);intro Q hQ;simp only [vkt,seval,jR,j4,aS,qx,qa,Qi,aA,d1,e9,hx,hS,ite_and];(repeat' first|with_reducible assumption|apply vz|intro hp);all_goals first|(apply hQ;clear hQ Q)|(apply ux;kernel_rfl)|omega|assumption|rfl|skip)
    refine ⟨⟨k+1,hlt⟩,by show c.cabins.length - (k+1) < c.cabins.length - k;omega, ?_⟩
    (refine Le.ok some [] ?_;constructor;all_goals (try simp only [vle,vkt,seval,j4,aS,qa]))
    all_goals first|rfl|simp
  ·have d1:decide ((k:Int) < (c.cabins.length:Int))=false:=decide_eq_false (by omega)
   obtain rfl:k=c.cabins.length:=by omega
   have hS:=rwTC c
   have hm:=wO c.secs
   have hs1:0<=c.secs:=by omega
   have hs2:c.secs < 100:=by omega
   obtain ⟨K,hK⟩:∃ K,flatL (xO c c.cabins.length)=K:=⟨_,rfl⟩
   rw [hK] at hS hlen
   simp only [rw1,hK]
   repeat' first|(apply nx;with_reducible constructor)|apply uq (by decide)|((first|apply uz env|apply uj);intro Q hQ;simp only [vkt,seval,jR,j4,aS,qa,Qi,aA,d1,hS,ite_and];(repeat' first|with_reducible assumption|apply vz|intro hp);all_goals first|(apply hQ;clear hQ Q)|(apply ux;kernel_rfl)|omega|assumption|rfl|skip)
   clear hS hlen hK d1 hm
   refine qN (fun s:{ s:Nat // s<=c.sold.length }=>rw2 c (flatL (vH c s.1)) s.1) (fun s=>c.sold.length - s.1) ⟨0,ag _⟩ ?_ fun ⟨q,hq⟩=>?_
   ·simp only [rw2]
    (refine Le.ok some [] ?_;constructor;all_goals (try simp only [vle,vkt,seval,j4,aS,qa]))
    all_goals first|rfl|simp
   simp only at hq ⊢
   have hlen:=Yn 100 (QjX c q)
   rw [JM c hq] at hlen
   by_cases hlt:q < c.sold.length
   ·have d1:decide ((q:Int) < (c.sold.length:Int))=true:=decide_eq_true (by omega)
    have e9:=k9 q (by omega)
    have hx:=gTk c.sold q
    have hx':=hTk hlt
    have hmem:=vG (d:=default) hlt
    have hb:=hv.tk _ hmem
    have hS:=rwTB c hlt (p:=(c.sold.getD q default).party) (s:=(c.sold.getD q default).sex) (cb:=(c.sold.getD q default).cab) (bd:=(c.sold.getD q default).bed) (fr:=(c.sold.getD q default).frm) (to:=(c.sold.getD q default).to) (d:=(c.sold.getD q default).dog) rfl
    obtain ⟨K,hK⟩:∃ K,flatL (vH c q)=K:=⟨_,rfl⟩
    rw [hK] at hS hlen
    simp only [rw2,hK]
    generalize c.sold.getD q default=x at hx hx' hb hS hmem
    have hbed:x.bed < 100:=by
     have h1:=hb.bed
     have h2:=hv.car.beds _ (vG (d:=default) hb.cab.2)
     omega
    have hcab:x.cab < 100:=by
     have h1:=hb.cab
     omega
    have g1:=hb.party
    have g2:=hb.sex
    have g3:=hb.cab.1
    have g4:=hb.bed.1
    have g5:=hb.frm
    have g6:=hb.way
    have g7:=hb.to
    obtain ⟨p,sx,cb,bd,fr,to,dg⟩:=x
    dsimp only at hbed hcab g1 g2 g3 g4 g5 g6 g7 hS
    have p1:0<=p:=by omega
    have p2:p < 100:=by omega
    have p3:fr < 100:=by omega
    have p4:0<=to:=by omega
    have p5:to < 100:=by omega
    clear hb hmem
    have m1:=wO p
    have m2:=wO cb
    have m3:=wO bd
    have m4:=wO fr
    have m5:=wO to
    rcases (show sx=1\/sx=2 by omega) with rfl|rfl <;> cases dg
    all_goals
     simp only [if_true,if_false,be,bM,show ¬ ((1:Int)=2) by decide] at hS
     repeat' first|(apply nx;with_reducible constructor)|apply uq (by decide)|((first|apply uz env|apply uj);intro Q hQ;simp only [vkt,seval,jR,j4,aS,eTk,qa,Qi,aA,d1,e9,hx,hS,ite_and];(repeat' first|with_reducible assumption|apply vz|intro hp);all_goals first|(apply hQ;clear hQ Q)|(apply ux;kernel_rfl)|omega|assumption|rfl|skip)
     refine ⟨⟨q+1,hlt⟩,by show c.sold.length - (q+1) < c.sold.length - q;omega, ?_⟩
     (refine Le.ok some [] ?_;constructor;all_goals (try simp only [vle,vkt,seval,j4,aS,qa]))
     all_goals first|rfl|simp
   ·have d1:decide ((q:Int) < (c.sold.length:Int))=false:=decide_eq_false (by omega)
    obtain rfl:q=c.sold.length:=by omega
    obtain ⟨K,hK⟩:∃ K,flatL (vH c c.sold.length)=K:=⟨_,rfl⟩
    rw [hK] at hlen ⊢
    simp only [rw2]
    repeat' first|(apply nx;with_reducible constructor)|apply uq (by decide)|((first|apply uz env|apply uj);intro Q hQ;simp only [vkt,seval,jR,j4,aS,qa,d1,ite_and];(repeat' first|with_reducible assumption|apply vz|intro hp);all_goals first|(apply hQ;clear hQ Q)|(apply ux;kernel_rfl)|omega|assumption|rfl|skip)
    (simp only [vrt,results12,vkt,seval,j4,aS];refine Fin.val rfl ?_;(try simp only [AV.le,AV.leL]))
    all_goals first|rfl|simp
 ·have hE:jr c=([],e):=by unfold jr;rw [he,if_neg h0]
  have d1:decide (e=0)=false:=decide_eq_false h0
  rw [hE]
  repeat' first|(apply nx;with_reducible constructor)|apply uq (by decide)|((first|apply uz env|apply uj);intro Q hQ;simp only [vkt,seval,jR,j4,qd,qa,qC,mTk,Wq,ec,he,d1,hc,hs,ite_and];(repeat' first|with_reducible assumption|apply vz|intro hp);all_goals first|(apply hQ;clear hQ Q)|(apply ux;kernel_rfl)|omega|assumption|rfl|skip)
  (simp only [vrt,results12,vkt,seval,j4,aS];refine Fin.val rfl ?_;(try simp only [AV.le,AV.leL]))
  all_goals first|rfl|simp
def RS:List AV->Prop × AV
 |[.agg [.sl c0,.v (.int .i64 c1),.sl c2]]=>(c0=(c0.map qh).map qx/\c2=(c2.map dTk).map eTk/\((⟨(c0.map qh),c1,(c2.map dTk)⟩:Chart)).cabins.length<=maxLen/\((⟨(c0.map qh),c1,(c2.map dTk)⟩:Chart)).sold.length<=100000,.tup [aS (jr (⟨(c0.map qh),c1,(c2.map dTk)⟩:Chart)).1,aI (jr (⟨(c0.map qh),c1,(c2.map dTk)⟩:Chart)).2])
 |_=>(False,.junk)
def Qjx {A:Frm->Prop}:qm A prog 12 (zw true RS):=qL fun vs hv h=>by
 clear hv
 unfold RS at h ⊢
 split at h
 ·rename_i c0 c1 c2;obtain ⟨q0,q1,k0,k1⟩:=h
  refine ⟨by first|trivial|(repeat' split) <;> simp [AV.plain,AV.plainL,aI,aB,qz,qc,qy,qw,aTk,cTk,aS,ql],fun _=>(by simp [AV.flat,AV.flatL,aI,aS]), ?_⟩
  have:=QdY (⟨(c0.map qh),c1,(c2.map dTk)⟩:Chart) k0 k1
  simp only [qd,aI,qa,<- q0,<- q1] at this
  first|exact this|(simp only [zF,qd,aI,qy,qa,<- q0,<- q1];exact this)
 ·exact h.elim
def fdT (x n:Int):Int:=if n < 2 then 0 else Int.tmod (Int.tmod x n+n) n
def QhB {x n:Int} (h:0 < n):-n < Int.tmod x n:=by
 by_cases hx:0<=x
 ·have:=Int.tmod_nonneg n hx
  omega
 ·have h1:=dS (-x) h
  rw [Int.neg_tmod] at h1
  omega
def QlS {x n:Int} (h:1<=n):0<=fdT x n/\fdT x n < n:=by
 unfold fdT
 split
 ·omega
 ·have h1:=dS x (show 0 < n by omega)
  have h2:-n < Int.tmod x n:=QhB (x:=x) (by omega)
  rw [Int.tmod_eq_emod_of_nonneg (show 0<=Int.tmod x n+n by omega)]
  exact ⟨Int.emod_nonneg _ (by omega),Int.emod_lt_of_pos _ (by omega)⟩
def Vp:=vz @ty3 @ti3.eq_1
def Vg:=vz @aI.eq_1 (@aB.eq_1)
def Qhd (x n:Int) (h:0<=n/\n<=1000000):FnV prog 47 [aI x,aI n] (aI (fdT x n)):=by
 have env:=qA (A:=fun _=>True) kN
 refine kV (Fn0 func47 rfl (fun vs w=>by kernel_rfl) (by kernel_rfl)) (by simp) (by simp [AV.ids,aI]) ?_
 by_cases h2:n < 2
 ·have d1:decide (n < 2)=true:=decide_eq_true h2
  rw [show fdT x n=0 by unfold fdT;rw [if_pos h2]]
  repeat' first|(apply nx;with_reducible constructor)|apply uq (by decide)|((first|apply uz env|apply uj);intro Q hQ;simp only [vkt,seval,Vp,Vg,d1,ite_and];(repeat' first|with_reducible assumption|apply vz|intro hp);all_goals first|(apply hQ;clear hQ Q)|(apply ux;kernel_rfl)|omega|assumption|rfl|skip)
  (simp only [vrt,results47,vkt,seval,Vg];refine Fin.val rfl ?_;(try simp only [AV.le]))
  all_goals first|rfl|simp
 ·have d1:decide (n < 2)=false:=decide_eq_false h2
  have hr1:=dS x (show 0 < n by omega)
  have hr2:-n < Int.tmod x n:=QhB (x:=x) (by omega)
  have hn0:n ≠ 0:=by omega
  rw [show fdT x n=Int.tmod (Int.tmod x n+n) n by unfold fdT;rw [if_neg h2]]
  have w1:IntKind.wrap .i64 (Int.tmod x n+n)=Int.tmod x n+n:=wrap64 (by omega) (by omega)
  repeat' first|(apply nx;with_reducible constructor)|apply uq (by decide)|((first|apply uz env|apply uj);intro Q hQ;simp only [vkt,seval,Vp,Vg,d1,hn0,w1,ite_and];(repeat' first|with_reducible assumption|apply vz|intro hp);all_goals first|(apply hQ;clear hQ Q)|(apply ux;kernel_rfl)|omega|assumption|rfl|skip)
  (simp only [vrt,results47,vkt,seval,Vg];refine Fin.val rfl ?_;(try simp only [AV.le]))
  all_goals first|rfl|simp
def QaX:List AV->Prop × AV
 |[.v (.int .i64 x),.v (.int .i64 n)]=>(0<=n/\n<=1000000,aI (fdT x n))
 |_=>(False,.junk)
def efold {A:Frm->Prop}:qm A prog 47 (zw true QaX):=qL fun vs hv h=>by
 clear hv
 unfold QaX at h ⊢
 split at h
 ·rename_i x n;obtain ⟨k0,k1⟩:=h
  refine ⟨by first|trivial|(repeat' split) <;> simp [AV.plain,AV.plainL,aI,aB,qz,qc,qy,qw,aTk,cTk],fun _=>(by simp [AV.flat,aI]), ?_⟩
  have:=Qhd x n ⟨k0,k1⟩
  simp only [aI] at this
  first|exact this|(simp only [aI];exact this)
 ·exact h.elim
def Qao (s:List UInt8) (a h:Int) (b:UInt8):List UInt8:=if s=[] then s else if h=0 then s.take (fdT a s.length).toNat++[b]++s.drop ((fdT a s.length).toNat+1) else if h=1 then s.take (fdT a s.length).toNat++s.drop ((fdT a s.length).toNat+1) else s.take (fdT a s.length).toNat++[b]++s.drop (fdT a s.length).toNat
def Zo:=vz @ty3 (vz @ty5 (vz @ty9 (vz @ty99 (vz @ti3.eq_1 (vz @ti5.eq_1 (vz @ti9.eq_1 @ti99.eq_1))))))
def Ve:=vz @aI.eq_1 (@aB.eq_1)
end Go.Sym.B
