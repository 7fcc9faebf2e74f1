/- Every call of BerthSeveral answers true where what it reads is of bulk at most 1048576, and changes nothing that was there. Conditions: none. -/
import Derived.Test.YtfljkbcphmnjkaaGreatRows
import Derived.WalkKit
import Derived.ProofKit
import Derived.OpenShut
import Derived.ShutString
import Derived.ChangeOld
import Derived.Below
import Derived.JoinedCond
import Derived.Test.YtfljkbcphmnjkaaGreatM2
import Derived.Test.YtfljkbcphmnjkaaGreatJoinBerthSeveral
namespace Go.Proofs.YtfljkbcphmnjkaaGreat.berthSeveral
open Go.ChangeShapes Go.WideShapes Go.ChangeAt Go.RowKit
open Go.ChangeMaps (open_string shut_string)
set_option linter.all false

theorem QhB {H:Type} (d:DataW H):1≤Rows.uptoBulk d:=by
 cases d with
 |lit l=>cases l <;> simp [Rows.uptoBulk]
 |_=>simp [Rows.uptoBulk]
theorem Qav {H:Type}:∀ es:List (DataW H),es.length≤Rows.uptoBulkAll es
 |[]=>Nat.zero_le _
 |d :: es=>by
  have h1:=QhB d
  have h2:=Qav es
  simp only [Rows.uptoBulkAll,List.length_cons]
  omega
theorem V5 {H:Type}:∀ {es:List (DataW H)} {d:DataW H},d ∈ es→Rows.uptoBulk d≤Rows.uptoBulkAll es
 |[],_,h=>by cases h
 |e :: es,d,h=>by
  simp only [Rows.uptoBulkAll]
  rcases List.mem_cons.1 h with rfl|h
  ·omega
  ·have:=V5 h
   omega
theorem Qlx {H:Type}:Go.Sym.BulkOk (Rows.uptoBulk (H:=H)):=by
 refine ⟨fun {es sp d} h=>?_,fun {es sp}=>?_,fun {ps d} h=>?_⟩
 ·have:=V5 h
  simp only [Rows.uptoBulk]
  omega
 ·have:=Qav es
  simp only [Rows.uptoBulk]
  omega
 ·have:=V5 h
  simp only [Rows.uptoBulk]
  omega
theorem own:ownKnob Tryz.prog.godebug=none:=by kernel_rfl
theorem laidOut:laidOutB Tryz.prog=true:=by kernel_rfl

set_option maxRecDepth 100000 in
theorem lifted (os:Os) (started:os.Started) (H:Type) (enc:TypeId × Value→H) (F0:Stop.Interp) :
  ReturnsInHanded {} Tryz.checked os 7 .any ((Rows.OpenSpec.upto Rows.berthSeveralSpec).pre6 enc Tryz.prog Tryz.f7 Rows.berthSeveralUptoRow.domain false) (((Rows.OpenSpec.upto Rows.berthSeveralSpec).at F0).post enc Tryz.prog Tryz.f7 false true false false):=by
 refine returnsInHanded_of_cond (C:=Tryz.checked) (s:=Rows.OpenSpec.upto Rows.berthSeveralSpec) (k:=Rows.uptoSmall) rfl own started (by kernel_rfl) Tryz.func7
  (OpenSpec.witness (enc:=enc) (C:=Tryz.checked) (s:=Rows.OpenSpec.upto Rows.berthSeveralSpec) (k:=Rows.uptoSmall) rfl false ⟨#[],#[.agg #[.slice none 0 0,.int .i64 0,.slice none 0 0],.slice none 0 0,.agg #[.int .i64 0,.int .i64 0,.int .i64 0,.slice none 0 0,.bool false],.int .i64 0,.slice none 0 0],[]⟩ 8 (by kernel_rfl) (by kernel_rfl) (by kernel_rfl)
   (x:=([.agg [.nil,.lit (.int .i64 0),.nil],.nil,.agg [.lit (.int .i64 0),.lit (.int .i64 0),.lit (.int .i64 0),.nil,.lit (.bool false)],.lit (.int .i64 0),.nil],[],[])) (by kernel_rfl) (by kernel_rfl) (by kernel_rfl)) ?_
 intro W base args ds gs before hval0 hW _ hk _
 have hval:∀ (j:Nat) t v,Tryz.f7.params[j]?=some t→args[j]?=some v→Value.okWide Tryz.prog W .any base t v:=hval0
 have hW':=hW
 obtain ⟨p,q,hA0,hV,rfl,hfz,hnd⟩:=hW
 have hA:DataW.TrodAll enc Tryz.prog W 0 (fun _=>true) true Tryz.f7.params.toList args.toList ds p:=hA0
 rw [Tryz.params7] at hA hval
 obtain ⟨v0,vs0,d0,ds0,p0,q0,hargs,rfl,rfl,h0,r0⟩:=trodAll_cons hA
 obtain ⟨v1,vs1,d1,ds1,p1,q1,rfl,rfl,rfl,h1,r1⟩:=trodAll_cons r0
 obtain ⟨v2,vs2,d2,ds2,p2,q2,rfl,rfl,rfl,h2,r2⟩:=trodAll_cons r1
 obtain ⟨v3,vs3,d3,ds3,p3,q3,rfl,rfl,rfl,h3,r3⟩:=trodAll_cons r2
 obtain ⟨v4,vs4,d4,ds4,p4,q4,rfl,rfl,rfl,h4,r4⟩:=trodAll_cons r3
 obtain ⟨rfl,rfl,rfl⟩:=trodAll_nil r4
 obtain rfl:args=#[v0,v1,v2,v3,v4]:=by cases args;simp_all
 obtain ⟨rfl,rfl⟩:=trodVars_none hV
 have lt0:∀ x ∈ p0,x.block < W.heap.size:=by obtain ⟨m,hm⟩:=h0;exact DataW.trod_lt m _ _ _ hm
 obtain ⟨a0,w0⟩:=Go.Sym.B.chart_of h0
 have lt1:∀ x ∈ p1,x.block < W.heap.size:=by obtain ⟨m,hm⟩:=h1;exact DataW.trod_lt m _ _ _ hm
 obtain ⟨a1,w1,b1,m1⟩:=Go.Sym.B.asks_of Qlx h1 Tryz.underlying37 (hval 1 37 v1 rfl rfl)
 have lt2:∀ x ∈ p2,x.block < W.heap.size:=by obtain ⟨m,hm⟩:=h2;exact DataW.trod_lt m _ _ _ hm
 obtain ⟨a2,w2,b2⟩:=Go.Sym.B.ask_of h2
 have lt3:∀ x ∈ p3,x.block < W.heap.size:=by obtain ⟨m,hm⟩:=h3;exact DataW.trod_lt m _ _ _ hm
 obtain ⟨a3,w3⟩:=Go.Sym.B.int_of h3 Tryz.underlying3 (hval 3 3 v3 rfl rfl)
 have lt4:∀ x ∈ p4,x.block < W.heap.size:=by obtain ⟨m,hm⟩:=h4;exact DataW.trod_lt m _ _ _ hm
 obtain ⟨a4,w4,b4⟩:=Go.Sym.B.ints_of h4 Tryz.underlying26 (hval 4 26 v4 rfl rfl)
 clear hA0 hval0
 have hkk:Rows.uptoBulkAll [d0,d1,d2,d3,d4]≤1048576:=of_decide_eq_true hk
 simp only [Rows.uptoBulkAll] at hkk
 have g1:∀ x ∈ a1,x.sexes.length≤2000000:=fun x hx=>by have:=m1 x hx;omega
 have hwalk:=Go.Sym.law_calls (Go.Sym.B.severalLaw_fn a0 a1 a2 a3 a4 b1 g1 b2 b4) W #[v0,v1,v2,v3,v4] rfl fun i c hc=>by
  match i,hc with
  |0,hc=>cases hc;exact w0
  |1,hc=>cases hc;exact w1
  |2,hc=>cases hc;exact w2
  |3,hc=>cases hc;exact w3
  |4,hc=>cases hc;exact w4
 refine hwalk.mono fun e W' ⟨he,bel⟩=>?_
 subst he
 exact ⟨_,rfl,_,_,_,[],_,[],hW',trodAll_mk1 (shut_bool Tryz.underlying4 _),(trodAll_cons_mk (Below.trod laidOut (by kernel_rfl) (of_decide_eq_true (by kernel_rfl)) h0 bel lt0) (trodAll_cons_mk (Below.trod laidOut (by kernel_rfl) (of_decide_eq_true (by kernel_rfl)) h1 bel lt1) (trodAll_cons_mk (Below.trod laidOut (by kernel_rfl) (of_decide_eq_true (by kernel_rfl)) h2 bel lt2) (trodAll_cons_mk (Below.trod laidOut (by kernel_rfl) (of_decide_eq_true (by kernel_rfl)) h3 bel lt3) (trodAll_cons_mk (Below.trod laidOut (by kernel_rfl) (of_decide_eq_true (by kernel_rfl)) h4 bel lt4) trodAll_mk0))))),rfl,bel.frame _,fun h=>by cases h⟩

theorem over:Rows.berthSeveralUptoRow.holds Tryz.pinned (Rows.OpenSpec.upto Rows.berthSeveralSpec) :=
 OpenClaim.holds_of_cond 7 Tryz.f7 rfl rfl rfl rfl rfl rfl rfl ⟨rfl,rfl,rfl,rfl,rfl⟩ rfl rfl rfl rfl rfl (by kernel_rfl) Tryz.func7 Go.Proofs.YtfljkbcphmnjkaaGreat.berthSeveralJoin.joined
  (of_decide_eq_true (by kernel_rfl)) (by unfold Func.isWrapper;first|(rw [if_pos (by decide +kernel)];kernel_rfl)|(rw [if_neg (by decide +kernel)];exact ⟨rfl,rfl⟩))
  (fun os started H enc _ F0=>lifted os started H enc F0)

/-- ████ THE STATEMENT ████ -/
theorem proved:Rows.BerthSeveralUptoSaid:=over
#print axioms proved
end Go.Proofs.YtfljkbcphmnjkaaGreat.berthSeveral
