/- Every call of CoinTexts answers true, whatever the ledger, the text, the numbers and the letter are, and changes nothing that was there. Conditions: none but the row's own: what the library's listed tables and errors hold. The card ties those to the program's text. -/
import Derived.Test.YtcmfagpdahhfpaaGreatDoorRows
import Derived.Test.YtcmfagpdahhfpaaGreatDoorCards
import Derived.Test.YtcmfagpdahhfpaaGreatDoorTie
import Derived.WalkKit
import Derived.ProofKit
import Derived.LaidMore
import Derived.OpenShut
import Derived.ShutString
import Derived.Stop.Joined
import Derived.ChangeOld
import Derived.Below
import Derived.Test.YtcmfagpdahhfpaaGreatDoorX3
namespace Go.Proofs.YtcmfagpdahhfpaaGreatDoor.coinTexts
open Go.ChangeShapes Go.WideShapes Go.ChangeAt Go.RowKit
open Go.ChangeMaps (open_string shut_string)
set_option linter.all false
theorem own:ownKnob Tryz.prog.godebug=none:=by kernel_rfl
theorem laidOut:laidOutB Tryz.prog=true:=by kernel_rfl
set_option maxRecDepth 100000 in
theorem lifted (os:Os) (started:os.Started) (H:Type) (enc:TypeId × Value→H) :
  ReturnsInHanded {} Tryz.checked os 5 .any (fun w args=>(Rows.coinTextsSpec.pre enc Tryz.prog Tryz.f5 [] false w args∧laidMetH Tryz.prog Go.Sym.B.laid7 w)∧sizedMet enc Tryz.prog Tryz.f5 (OpenSpec.ofChange Rows.coinTextsSpec) false w args)
   (Rows.coinTextsSpec.post enc Tryz.prog Tryz.f5 false true false false):=by
 refine Go.Sym.B.handed_laid (C:=Tryz.checked) (X:=fun w=>laidMetH Tryz.prog Go.Sym.B.laid7 w) (fun _ _ hh h=>h.of_heap hh) own started (by kernel_rfl) Tryz.func5
  (ChangeSpec.witness_shaped (enc:=enc) (C:=Tryz.checked) (os:=os) (X:=fun w _=>laidMetH Tryz.prog Go.Sym.B.laid7 w) false (Go.Sym.B.doorW os) #[.agg #[.slice none 0 0,.slice none 0 0,.slice none 0 0,.slice none 0 0],.string ⟨#[]⟩,.slice none 0 0,.int .i64 0,.int .i64 0,.int .u8 0] 8 rfl (World.shaped_of_RefB (by kernel_rfl) (by kernel_rfl)) (by kernel_rfl) (by kernel_rfl) (by kernel_rfl) (Go.Sym.B.door_met os _)) ?_
 intro W base args ds gs before hval0 hW hL hS
 have hval:∀ (j:Nat) t v,Tryz.f5.params[j]?=some t→args[j]?=some v→Value.okWide Tryz.prog W .any base t v:=hval0
 have hW':=hW
 obtain ⟨p,q,hA0,hV,rfl,hfz,hnd⟩:=hW
 have hA:DataW.TrodAll enc Tryz.prog W 0 (fun _=>true) true Tryz.f5.params.toList args.toList ds p:=hA0
 rw [Tryz.params5] at hA hval
 obtain ⟨v0,vs0,d0,ds0,p0,q0,hargs,rfl,rfl,h0,r0⟩:=trodAll_cons hA
 obtain ⟨v1,vs1,d1,ds1,p1,q1,rfl,rfl,rfl,h1,r1⟩:=trodAll_cons r0
 obtain ⟨v2,vs2,d2,ds2,p2,q2,rfl,rfl,rfl,h2,r2⟩:=trodAll_cons r1
 obtain ⟨v3,vs3,d3,ds3,p3,q3,rfl,rfl,rfl,h3,r3⟩:=trodAll_cons r2
 obtain ⟨v4,vs4,d4,ds4,p4,q4,rfl,rfl,rfl,h4,r4⟩:=trodAll_cons r3
 obtain ⟨v5,vs5,d5,ds5,p5,q5,rfl,rfl,rfl,h5,r5⟩:=trodAll_cons r4
 obtain ⟨rfl,rfl,rfl⟩:=trodAll_nil r5
 obtain rfl:args=#[v0,v1,v2,v3,v4,v5]:=by cases args;simp_all
 obtain ⟨rfl,rfl⟩:=trodVars_none hV
 have lt0:∀ x ∈ p0,x.block < W.heap.size:=by obtain ⟨m,hm⟩:=h0;exact DataW.trod_lt m _ _ _ hm
 obtain ⟨a0,w0⟩:=Go.Sym.B.led_of h0
 obtain ⟨s,rfl,rfl,rfl,hs⟩:=open_string Tryz.underlying9 (hval 1 9 v1 rfl rfl) h1
 have lt2:∀ x ∈ p2,x.block < W.heap.size:=by obtain ⟨m,hm⟩:=h2;exact DataW.trod_lt m _ _ _ hm
 obtain ⟨a2,w2,b2⟩:=Go.Sym.B.ints_of h2 Tryz.underlying26 (hval 2 26 v2 rfl rfl)
 obtain ⟨n3,rfl,rfl,rfl,k3⟩:=open_int Tryz.underlying3 (hval 3 3 v3 rfl rfl) h3
 obtain ⟨n4,rfl,rfl,rfl,k4⟩:=open_int Tryz.underlying3 (hval 4 3 v4 rfl rfl) h4
 obtain ⟨n5,rfl,rfl,rfl,k5⟩:=open_int Tryz.underlying5 (hval 5 5 v5 rfl rfl) h5
 clear hA0 hval0
 obtain ⟨b,rfl⟩:=Go.Sym.B.letter_of k5
 have hT:=Go.Sym.B.tab_of hL hS
 have hwalk:=Go.Sym.law_callsT (Go.Sym.B.textsLaw_fn a0 s.data.toList a2 n3 n4 b b2) W (fun w' hb=>hT.below hb) #[v0,.string s,v2,.int .i64 n3,.int .i64 n4,.int .u8 (b.toNat:Int)] rfl fun i c hc=>by
  match i,hc with
  |0,hc=>cases hc;exact w0
  |1,hc=>cases hc;exact .v rfl
  |2,hc=>cases hc;exact w2
  |3,hc=>cases hc;exact .v rfl
  |4,hc=>cases hc;exact .v rfl
  |5,hc=>cases hc;exact .v rfl
 refine hwalk.mono fun e W' ⟨he,bel⟩=>?_
 subst he
 exact ⟨_,rfl,_,_,_,[],_,[],hW',trodAll_mk1 (shut_bool Tryz.underlying4 _),(trodAll_cons_mk (Below.trod laidOut (by kernel_rfl) (of_decide_eq_true (by kernel_rfl)) h0 bel lt0) (trodAll_cons_mk (shut_string Tryz.underlying9 hs) (trodAll_cons_mk (Below.trod laidOut (by kernel_rfl) (of_decide_eq_true (by kernel_rfl)) h2 bel lt2) (trodAll_cons_mk (shut_int Tryz.underlying3 k3) (trodAll_cons_mk (shut_int Tryz.underlying3 k4) (trodAll_cons_mk (shut_int Tryz.underlying5 k5) trodAll_mk0)))))),rfl,bel.frame _,fun h=>by cases h⟩
theorem over:Rows.CoinTextsSaid :=
 OpenClaim.holds_of_wide 5 Tryz.f5 rfl rfl rfl rfl rfl rfl rfl ⟨rfl,rfl,rfl,rfl,rfl⟩ rfl rfl rfl rfl rfl (by kernel_rfl) Tryz.func5 (by kernel_rfl)
  (of_decide_eq_true (by kernel_rfl)) (by unfold Func.isWrapper;first|(rw [if_pos (by decide +kernel)];kernel_rfl)|(rw [if_neg (by decide +kernel)];exact ⟨rfl,rfl⟩))
  (fun os started H enc _=>lifted os started H enc)
theorem w3:Tryz.prog.wantsStandIn 3=false:=by kernel_rfl
theorem w5:Tryz.prog.wantsStandIn 5=false:=by kernel_rfl
theorem w9:Tryz.prog.wantsStandIn 9=false:=by kernel_rfl
theorem w47:Tryz.prog.wantsStandIn 47=false:=by kernel_rfl
theorem w26:Tryz.prog.wantsStandIn 26=false:=by kernel_rfl
/-- THE STATEMENT: the tied card. -/
theorem proved:Rows.CoinTextsCardSaid :=
 Claim7.holds_tied_plain_at .later [] [.data, .data, .data, .data, .sentinel, .sentinel, .pinned] true (true, "082a1ba36ab09a8693ffa169f773773feca9e152af168a18232b2dec2cd2f36d") true
  over (fun _ h=>by cases h) (by kernel_rfl) (fun _ h=>by cases h) coinTexts_row_tie rfl ⟨rfl,rfl⟩ (by kernel_rfl) rfl
  (fun f fn hf hfn=>by
   obtain rfl : f = 5 := Option.some.inj ((show Tryz.prog.funcNamed "couchette/couchettelaw09.CoinTexts" = some 5 by kernel_rfl).symm.trans hf) |>.symm
   obtain rfl:fn=Tryz.f5:=(Option.some.inj (Tryz.func5.symm.trans hfn)).symm
   exact ⟨by kernel_rfl,fun j t ht=>by
    rw [Tryz.params5] at ht
    match j,ht with
    |0,ht=>cases ht;exact w47
    |1,ht=>cases ht;exact w9
    |2,ht=>cases ht;exact w26
    |3,ht=>cases ht;exact w3
    |4,ht=>cases ht;exact w3
    |5,ht=>cases ht;exact w5
    |_+6,ht=>simp at ht⟩)
  (by kernel_rfl)
#print axioms proved
end Go.Proofs.YtcmfagpdahhfpaaGreatDoor.coinTexts
