/- Every call of CoinWritten answers true, whatever the numbers and the text are, and changes nothing that was there. Conditions: none but the row's own: what the library's listed tables and errors hold. The card ties those to the program's text. -/
import Derived.Test.YtcmfagpdahhfpaaGreatDoorRows
import Derived.Test.YtcmfagpdahhfpaaGreatDoorCards
import Derived.Test.YtcmfagpdahhfpaaGreatDoorTie
import Derived.WalkKit
import Derived.ProofKit
import Derived.LaidMore
import Derived.OpenShut
import Derived.ShutString
import Derived.Stop.Joined
import Derived.ChangeOld
import Derived.Below
import Derived.Test.YtcmfagpdahhfpaaGreatDoorW2
namespace Go.Proofs.YtcmfagpdahhfpaaGreatDoor.coinWritten
open Go.ChangeShapes Go.WideShapes Go.ChangeAt Go.RowKit
open Go.ChangeMaps (open_string shut_string)
set_option linter.all false
theorem own:ownKnob Tryz.prog.godebug=none:=by kernel_rfl
theorem laidOut:laidOutB Tryz.prog=true:=by kernel_rfl
set_option maxRecDepth 100000 in
theorem lifted (os:Os) (started:os.Started) (H:Type) (enc:TypeId × Value→H) :
  ReturnsInHanded {} Tryz.checked os 6 .any (fun w args=>(Rows.coinWrittenSpec.pre enc Tryz.prog Tryz.f6 [] false w args∧laidMetH Tryz.prog Go.Sym.B.laid7 w)∧sizedMet enc Tryz.prog Tryz.f6 (OpenSpec.ofChange Rows.coinWrittenSpec) false w args)
   (Rows.coinWrittenSpec.post enc Tryz.prog Tryz.f6 false true false false):=by
 refine Go.Sym.B.handed_laid (C:=Tryz.checked) (X:=fun w=>laidMetH Tryz.prog Go.Sym.B.laid7 w) (fun _ _ hh h=>h.of_heap hh) own started (by kernel_rfl) Tryz.func6
  (ChangeSpec.witness_shaped (enc:=enc) (C:=Tryz.checked) (os:=os) (X:=fun w _=>laidMetH Tryz.prog Go.Sym.B.laid7 w) false (Go.Sym.B.doorW os) #[.slice none 0 0,.string ⟨#[]⟩] 8 rfl (World.shaped_of_RefB (by kernel_rfl) (by kernel_rfl)) (by kernel_rfl) (by kernel_rfl) (by kernel_rfl) (Go.Sym.B.door_met os _)) ?_
 intro W base args ds gs before hval0 hW hL hS
 have hval:∀ (j:Nat) t v,Tryz.f6.params[j]?=some t→args[j]?=some v→Value.okWide Tryz.prog W .any base t v:=hval0
 have hW':=hW
 obtain ⟨p,q,hA0,hV,rfl,hfz,hnd⟩:=hW
 have hA:DataW.TrodAll enc Tryz.prog W 0 (fun _=>true) true Tryz.f6.params.toList args.toList ds p:=hA0
 rw [Tryz.params6] at hA hval
 obtain ⟨v0,vs0,d0,ds0,p0,q0,hargs,rfl,rfl,h0,r0⟩:=trodAll_cons hA
 obtain ⟨v1,vs1,d1,ds1,p1,q1,rfl,rfl,rfl,h1,r1⟩:=trodAll_cons r0
 obtain ⟨rfl,rfl,rfl⟩:=trodAll_nil r1
 obtain rfl:args=#[v0,v1]:=by cases args;simp_all
 obtain ⟨rfl,rfl⟩:=trodVars_none hV
 have lt0:∀ x ∈ p0,x.block < W.heap.size:=by obtain ⟨m,hm⟩:=h0;exact DataW.trod_lt m _ _ _ hm
 obtain ⟨a0,w0,b0⟩:=Go.Sym.B.ints_of h0 Tryz.underlying26 (hval 0 26 v0 rfl rfl)
 obtain ⟨s,rfl,rfl,rfl,hs⟩:=open_string Tryz.underlying9 (hval 1 9 v1 rfl rfl) h1
 clear hA0 hval0
 have hT:=Go.Sym.B.tab_of hL hS
 have hwalk:=Go.Sym.law_callsT (Go.Sym.B.writtenC_fn a0 s.data.toList b0) W (fun w' hb=>hT.below hb) #[v0,.string s] rfl fun i c hc=>by
  match i,hc with
  |0,hc=>cases hc;exact w0
  |1,hc=>cases hc;exact .v rfl
 refine hwalk.mono fun e W' ⟨he,bel⟩=>?_
 subst he
 exact ⟨_,rfl,_,_,_,[],_,[],hW',trodAll_mk1 (shut_bool Tryz.underlying4 _),(trodAll_cons_mk (Below.trod laidOut (by kernel_rfl) (of_decide_eq_true (by kernel_rfl)) h0 bel lt0) (trodAll_cons_mk (shut_string Tryz.underlying9 hs) trodAll_mk0)),rfl,bel.frame _,fun h=>by cases h⟩
theorem over:Rows.CoinWrittenSaid :=
 OpenClaim.holds_of_wide 6 Tryz.f6 rfl rfl rfl rfl rfl rfl rfl ⟨rfl,rfl,rfl,rfl,rfl⟩ rfl rfl rfl rfl rfl (by kernel_rfl) Tryz.func6 (by kernel_rfl)
  (of_decide_eq_true (by kernel_rfl)) (by unfold Func.isWrapper;first|(rw [if_pos (by decide +kernel)];kernel_rfl)|(rw [if_neg (by decide +kernel)];exact ⟨rfl,rfl⟩))
  (fun os started H enc _=>lifted os started H enc)
theorem w9:Tryz.prog.wantsStandIn 9=false:=by kernel_rfl
theorem w26:Tryz.prog.wantsStandIn 26=false:=by kernel_rfl
/-- THE STATEMENT: the tied card. -/
theorem proved:Rows.CoinWrittenCardSaid :=
 Claim7.holds_tied_plain_at .later [] [.data, .data, .data, .data, .sentinel, .sentinel, .pinned] true (true, "082a1ba36ab09a8693ffa169f773773feca9e152af168a18232b2dec2cd2f36d") true
  over (fun _ h=>by cases h) (by kernel_rfl) (fun _ h=>by cases h) coinWritten_row_tie rfl ⟨rfl,rfl⟩ (by kernel_rfl) rfl
  (fun f fn hf hfn=>by
   obtain rfl : f = 6 := Option.some.inj ((show Tryz.prog.funcNamed "couchette/couchettelaw09.CoinWritten" = some 6 by kernel_rfl).symm.trans hf) |>.symm
   obtain rfl:fn=Tryz.f6:=(Option.some.inj (Tryz.func6.symm.trans hfn)).symm
   exact ⟨by kernel_rfl,fun j t ht=>by
    rw [Tryz.params6] at ht
    match j,ht with
    |0,ht=>cases ht;exact w26
    |1,ht=>cases ht;exact w9
    |_+2,ht=>simp at ht⟩)
  (by kernel_rfl)
#print axioms proved
end Go.Proofs.YtcmfagpdahhfpaaGreatDoor.coinWritten
