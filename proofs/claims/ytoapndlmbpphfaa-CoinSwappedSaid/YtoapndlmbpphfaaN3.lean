/- Walks and what they compute, joined: part 3. -/
import Derived.ControlIn
import Derived.CallsIn
import Derived.OrdersIn
import Derived.RangeFuncRecord
import Derived.Maps.AppendAt
import Derived.OwnWalk
import Derived.Below
import Derived.Laws.StructEq
import Derived.Laws.Cells
import Derived.Laws.CopyRow
import Derived.Laws.Slices
import Derived.Laws.MakeOwn
import Derived.RangeFuncLeaves
import Derived.Scope
import Derived.Test.YtoapndlmbpphfaaProg
import Derived.KernelRfl
import Derived.Test.YtoapndlmbpphfaaN2
set_option linter.all false
namespace Go.Sym.B
open Go Go.Sym Go.Proofs Go.Sym.C
theorem entry_fn (l : Led) (x : Ent) (before : Int) (h1 : l.rates.length ≤ 20) (h2 : l.coins.length ≤ 20) : FnV Try.prog 140 [aLed l, aEnt x, aI before] (aI (entryE l x before)) := by
  have env : Env (fun _ => True) Try.prog tyB (tab [(79, valE true s79)]) := mkEnv ⟨e79, trivial⟩
  refine Fn.of (A := fun _ => True) (n0 := 0) (D := noD) (Fn0 Try.func140 rfl (fun vs w => by kernel_rfl) (by kernel_rfl)) (by simp) (by simp [AV.ids, AV.idsL, aLed, cLed, aEnt, aI]) (fun i o h => by cases h) (fun _ _ _ _ => trivial) noD_ok ?_
  have w1 : IntKind.wrap .i64 ((l.rates.length : Int) - 1) = (l.rates.length : Int) - 1 := wrap64 (by omega) (by omega)
  have w2 : IntKind.wrap .i64 ((l.coins.length : Int) - 1) = (l.coins.length : Int) - 1 := wrap64 (by omega) (by omega)
  cases c1 : inB x.day 0 ((l.rates.length : Int) - 1)
  · repeat' (first | refine zq0 ?_ | refine zq1 ?_ | refine zq2 ?_ | refine zq3 ?_ | refine zq4 ?_ | refine zq5 ?_ | refine thenK_n ?_ | refine thenK_x ?_ | refine thenK_r ?_ | refine blockK_n ?_ | refine blockK_r ?_ | refine blockK_hit ?_ | refine blockK_miss (by decide) ?_ | ((first | refine sym_reg env fun Q hQ => ?_ | refine sym_cz fun Q hQ => ?_); simp only [vkt, Nat.reduceEqDiff, Nat.reduceAdd, Nat.reduceMul, Nat.reduceSub, Nat.reduceLeDiff, reduceCtorEq, ↓reduceIte, ↓reduceDIte, Int.reduceToNat, Int.reduceLE, Int.reduceLT, Int.reduceEq, Int.reduceNeg, tbF5_140, aI, aB, aEnt, aLed, cLed, s79, w1, w2, c1]; (try simp only [ite_and]); (repeat' (first | with_reducible assumption | refine And.intro ?_ ?_ | intro hp)); all_goals (first | (refine hQ _ ?_; clear hQ; clear Q) | (refine hQ _ (fun h => ?_) (fun h => ?_) <;> clear hQ <;> clear Q <;> (try simp only [vki, reduceCtorEq] at h)) | omega | assumption | (with_reducible rfl) | (refine drawB_of ?_; kernel_rfl) | skip)))
    (simp only [retK, leaveA, resL, tupA, rd, wCells_some, wRow_some, Try.results140, vkt, Nat.reduceEqDiff, Nat.reduceAdd, Nat.reduceMul, Nat.reduceSub, Nat.reduceLeDiff, reduceCtorEq, ↓reduceIte, ↓reduceDIte, Int.reduceToNat, Int.reduceLE, Int.reduceLT, Int.reduceEq, Int.reduceNeg, tbF5_140, aI, aB, aEnt, aLed, cLed, s79]; refine Fin.val rfl ?_; (try simp only [AV.le, AV.leL]))
    all_goals simp [entryE, c1]
  by_cases c2 : x.day < before
  · repeat' (first | refine zq0 ?_ | refine zq1 ?_ | refine zq2 ?_ | refine zq3 ?_ | refine zq4 ?_ | refine zq5 ?_ | refine thenK_n ?_ | refine thenK_x ?_ | refine thenK_r ?_ | refine blockK_n ?_ | refine blockK_r ?_ | refine blockK_hit ?_ | refine blockK_miss (by decide) ?_ | ((first | refine sym_reg env fun Q hQ => ?_ | refine sym_cz fun Q hQ => ?_); simp only [vkt, Nat.reduceEqDiff, Nat.reduceAdd, Nat.reduceMul, Nat.reduceSub, Nat.reduceLeDiff, reduceCtorEq, ↓reduceIte, ↓reduceDIte, Int.reduceToNat, Int.reduceLE, Int.reduceLT, Int.reduceEq, Int.reduceNeg, tbF5_140, aI, aB, aEnt, aLed, cLed, s79, w1, w2, c1, c2]; (try simp only [ite_and]); (repeat' (first | with_reducible assumption | refine And.intro ?_ ?_ | intro hp)); all_goals (first | (refine hQ _ ?_; clear hQ; clear Q) | (refine hQ _ (fun h => ?_) (fun h => ?_) <;> clear hQ <;> clear Q <;> (try simp only [vki, reduceCtorEq] at h)) | omega | assumption | (with_reducible rfl) | (refine drawB_of ?_; kernel_rfl) | skip)))
    (simp only [retK, leaveA, resL, tupA, rd, wCells_some, wRow_some, Try.results140, vkt, Nat.reduceEqDiff, Nat.reduceAdd, Nat.reduceMul, Nat.reduceSub, Nat.reduceLeDiff, reduceCtorEq, ↓reduceIte, ↓reduceDIte, Int.reduceToNat, Int.reduceLE, Int.reduceLT, Int.reduceEq, Int.reduceNeg, tbF5_140, aI, aB, aEnt, aLed, cLed, s79]; refine Fin.val rfl ?_; (try simp only [AV.le, AV.leL]))
    all_goals simp [entryE, c1, c2]
  cases c3 : inB x.kind 1 4
  · repeat' (first | refine zq0 ?_ | refine zq1 ?_ | refine zq2 ?_ | refine zq3 ?_ | refine zq4 ?_ | refine zq5 ?_ | refine thenK_n ?_ | refine thenK_x ?_ | refine thenK_r ?_ | refine blockK_n ?_ | refine blockK_r ?_ | refine blockK_hit ?_ | refine blockK_miss (by decide) ?_ | ((first | refine sym_reg env fun Q hQ => ?_ | refine sym_cz fun Q hQ => ?_); simp only [vkt, Nat.reduceEqDiff, Nat.reduceAdd, Nat.reduceMul, Nat.reduceSub, Nat.reduceLeDiff, reduceCtorEq, ↓reduceIte, ↓reduceDIte, Int.reduceToNat, Int.reduceLE, Int.reduceLT, Int.reduceEq, Int.reduceNeg, tbF5_140, aI, aB, aEnt, aLed, cLed, s79, w1, w2, c1, c2, c3]; (try simp only [ite_and]); (repeat' (first | with_reducible assumption | refine And.intro ?_ ?_ | intro hp)); all_goals (first | (refine hQ _ ?_; clear hQ; clear Q) | (refine hQ _ (fun h => ?_) (fun h => ?_) <;> clear hQ <;> clear Q <;> (try simp only [vki, reduceCtorEq] at h)) | omega | assumption | (with_reducible rfl) | (refine drawB_of ?_; kernel_rfl) | skip)))
    (simp only [retK, leaveA, resL, tupA, rd, wCells_some, wRow_some, Try.results140, vkt, Nat.reduceEqDiff, Nat.reduceAdd, Nat.reduceMul, Nat.reduceSub, Nat.reduceLeDiff, reduceCtorEq, ↓reduceIte, ↓reduceDIte, Int.reduceToNat, Int.reduceLE, Int.reduceLT, Int.reduceEq, Int.reduceNeg, tbF5_140, aI, aB, aEnt, aLed, cLed, s79]; refine Fin.val rfl ?_; (try simp only [AV.le, AV.leL]))
    all_goals simp [entryE, c1, c2, c3]
  cases c4 : inB x.coin 0 ((l.coins.length : Int) - 1)
  · repeat' (first | refine zq0 ?_ | refine zq1 ?_ | refine zq2 ?_ | refine zq3 ?_ | refine zq4 ?_ | refine zq5 ?_ | refine thenK_n ?_ | refine thenK_x ?_ | refine thenK_r ?_ | refine blockK_n ?_ | refine blockK_r ?_ | refine blockK_hit ?_ | refine blockK_miss (by decide) ?_ | ((first | refine sym_reg env fun Q hQ => ?_ | refine sym_cz fun Q hQ => ?_); simp only [vkt, Nat.reduceEqDiff, Nat.reduceAdd, Nat.reduceMul, Nat.reduceSub, Nat.reduceLeDiff, reduceCtorEq, ↓reduceIte, ↓reduceDIte, Int.reduceToNat, Int.reduceLE, Int.reduceLT, Int.reduceEq, Int.reduceNeg, tbF5_140, aI, aB, aEnt, aLed, cLed, s79, w1, w2, c1, c2, c3, c4]; (try simp only [ite_and]); (repeat' (first | with_reducible assumption | refine And.intro ?_ ?_ | intro hp)); all_goals (first | (refine hQ _ ?_; clear hQ; clear Q) | (refine hQ _ (fun h => ?_) (fun h => ?_) <;> clear hQ <;> clear Q <;> (try simp only [vki, reduceCtorEq] at h)) | omega | assumption | (with_reducible rfl) | (refine drawB_of ?_; kernel_rfl) | skip)))
    (simp only [retK, leaveA, resL, tupA, rd, wCells_some, wRow_some, Try.results140, vkt, Nat.reduceEqDiff, Nat.reduceAdd, Nat.reduceMul, Nat.reduceSub, Nat.reduceLeDiff, reduceCtorEq, ↓reduceIte, ↓reduceDIte, Int.reduceToNat, Int.reduceLE, Int.reduceLT, Int.reduceEq, Int.reduceNeg, tbF5_140, aI, aB, aEnt, aLed, cLed, s79]; refine Fin.val rfl ?_; (try simp only [AV.le, AV.leL]))
    all_goals simp [entryE, c1, c2, c3, c4]
  by_cases c5 : x.kind = 3
  · have c7 : inB 3 1 4 = true := by decide
    cases c6 : inB x.to 0 ((l.coins.length : Int) - 1)
    · repeat' (first | refine zq0 ?_ | refine zq1 ?_ | refine zq2 ?_ | refine zq3 ?_ | refine zq4 ?_ | refine zq5 ?_ | refine thenK_n ?_ | refine thenK_x ?_ | refine thenK_r ?_ | refine blockK_n ?_ | refine blockK_r ?_ | refine blockK_hit ?_ | refine blockK_miss (by decide) ?_ | ((first | refine sym_reg env fun Q hQ => ?_ | refine sym_cz fun Q hQ => ?_); simp only [vkt, Nat.reduceEqDiff, Nat.reduceAdd, Nat.reduceMul, Nat.reduceSub, Nat.reduceLeDiff, reduceCtorEq, ↓reduceIte, ↓reduceDIte, Int.reduceToNat, Int.reduceLE, Int.reduceLT, Int.reduceEq, Int.reduceNeg, tbF5_140, aI, aB, aEnt, aLed, cLed, s79, w1, w2, c1, c2, c7, c4, c5, c6]; (try simp only [ite_and]); (repeat' (first | with_reducible assumption | refine And.intro ?_ ?_ | intro hp)); all_goals (first | (refine hQ _ ?_; clear hQ; clear Q) | (refine hQ _ (fun h => ?_) (fun h => ?_) <;> clear hQ <;> clear Q <;> (try simp only [vki, reduceCtorEq] at h)) | omega | assumption | (with_reducible rfl) | (refine drawB_of ?_; kernel_rfl) | skip)))
      (simp only [retK, leaveA, resL, tupA, rd, wCells_some, wRow_some, Try.results140, vkt, Nat.reduceEqDiff, Nat.reduceAdd, Nat.reduceMul, Nat.reduceSub, Nat.reduceLeDiff, reduceCtorEq, ↓reduceIte, ↓reduceDIte, Int.reduceToNat, Int.reduceLE, Int.reduceLT, Int.reduceEq, Int.reduceNeg, tbF5_140, aI, aB, aEnt, aLed, cLed, s79]; refine Fin.val rfl ?_; (try simp only [AV.le, AV.leL]))
      all_goals simp [entryE, c1, c2, c7, c4, c5, c6]
    repeat' (first | refine zq0 ?_ | refine zq1 ?_ | refine zq2 ?_ | refine zq3 ?_ | refine zq4 ?_ | refine zq5 ?_ | refine thenK_n ?_ | refine thenK_x ?_ | refine thenK_r ?_ | refine blockK_n ?_ | refine blockK_r ?_ | refine blockK_hit ?_ | refine blockK_miss (by decide) ?_ | ((first | refine sym_reg env fun Q hQ => ?_ | refine sym_cz fun Q hQ => ?_); simp only [vkt, Nat.reduceEqDiff, Nat.reduceAdd, Nat.reduceMul, Nat.reduceSub, Nat.reduceLeDiff, reduceCtorEq, ↓reduceIte, ↓reduceDIte, Int.reduceToNat, Int.reduceLE, Int.reduceLT, Int.reduceEq, Int.reduceNeg, tbF5_140, aI, aB, aEnt, aLed, cLed, s79, w1, w2, c1, c2, c7, c4, c5, c6]; (try simp only [ite_and]); (repeat' (first | with_reducible assumption | refine And.intro ?_ ?_ | intro hp)); all_goals (first | (refine hQ _ ?_; clear hQ; clear Q) | (refine hQ _ (fun h => ?_) (fun h => ?_) <;> clear hQ <;> clear Q <;> (try simp only [vki, reduceCtorEq] at h)) | omega | assumption | (with_reducible rfl) | (refine drawB_of ?_; kernel_rfl) | skip)))
    all_goals (simp only [retK, leaveA, resL, tupA, rd, wCells_some, wRow_some, Try.results140, vkt, Nat.reduceEqDiff, Nat.reduceAdd, Nat.reduceMul, Nat.reduceSub, Nat.reduceLeDiff, reduceCtorEq, ↓reduceIte, ↓reduceDIte, Int.reduceToNat, Int.reduceLE, Int.reduceLT, Int.reduceEq, Int.reduceNeg, tbF5_140, aI, aB, aEnt, aLed, cLed, s79]; refine Fin.val rfl ?_; (try simp only [AV.le, AV.leL]))
    all_goals simp [entryE, *]
  · repeat' (first | refine zq0 ?_ | refine zq1 ?_ | refine zq2 ?_ | refine zq3 ?_ | refine zq4 ?_ | refine zq5 ?_ | refine thenK_n ?_ | refine thenK_x ?_ | refine thenK_r ?_ | refine blockK_n ?_ | refine blockK_r ?_ | refine blockK_hit ?_ | refine blockK_miss (by decide) ?_ | ((first | refine sym_reg env fun Q hQ => ?_ | refine sym_cz fun Q hQ => ?_); simp only [vkt, Nat.reduceEqDiff, Nat.reduceAdd, Nat.reduceMul, Nat.reduceSub, Nat.reduceLeDiff, reduceCtorEq, ↓reduceIte, ↓reduceDIte, Int.reduceToNat, Int.reduceLE, Int.reduceLT, Int.reduceEq, Int.reduceNeg, tbF5_140, aI, aB, aEnt, aLed, cLed, s79, w1, w2, c1, c2, c3, c4, c5]; (try simp only [ite_and]); (repeat' (first | with_reducible assumption | refine And.intro ?_ ?_ | intro hp)); all_goals (first | (refine hQ _ ?_; clear hQ; clear Q) | (refine hQ _ (fun h => ?_) (fun h => ?_) <;> clear hQ <;> clear Q <;> (try simp only [vki, reduceCtorEq] at h)) | omega | assumption | (with_reducible rfl) | (refine drawB_of ?_; kernel_rfl) | skip)))
    all_goals (simp only [retK, leaveA, resL, tupA, rd, wCells_some, wRow_some, Try.results140, vkt, Nat.reduceEqDiff, Nat.reduceAdd, Nat.reduceMul, Nat.reduceSub, Nat.reduceLeDiff, reduceCtorEq, ↓reduceIte, ↓reduceDIte, Int.reduceToNat, Int.reduceLE, Int.reduceLT, Int.reduceEq, Int.reduceNeg, tbF5_140, aI, aB, aEnt, aLed, cLed, s79]; refine Fin.val rfl ?_; (try simp only [AV.le, AV.leL]))
    all_goals simp [entryE, *]
def s140 : List AV → Prop × AV
  | [.agg [.sl cs, .sl rs, .sl ss, .sl es], .agg [.v (.int .i64 a), .v (.int .i64 b), .v (.int .i64 c), .v (.int .i64 d), .v (.int .i64 e), .v (.int .i64 f)], .v (.int .i64 n)] =>
    (cs = (cs.map dInts).map eInts ∧ rs = (rs.map dShs).map eShs ∧ ss = (ss.map dInt).map eInt ∧ es = (es.map dEnt).map eEnt ∧ rs.length ≤ 20 ∧ cs.length ≤ 20, aI (entryE ⟨cs.map dInts, rs.map dShs, ss.map dInt, es.map dEnt⟩ ⟨a, b, c, d, e, f⟩ n))
  | _ => (False, .junk)
theorem e140 {A : Frm → Prop} : EntryOK A Try.prog 140 (valE true s140) := valE_ok fun vs hv h => by
  clear hv
  unfold s140 at h ⊢
  split at h
  · rename_i cs rs ss es a b c d e f n
    obtain ⟨h1, h2, h3, h4, h5, h6⟩ := h
    refine ⟨trivial, fun _ => trivial, ?_⟩
    have := entry_fn ⟨cs.map dInts, rs.map dShs, ss.map dInt, es.map dEnt⟩ ⟨a, b, c, d, e, f⟩ n (by simpa using h5) (by simpa using h6)
    simp only [aLed, cLed, ← h1, ← h2, ← h3, ← h4] at this
    exact this
  · exact h.elim
end Go.Sym.B
namespace Go.Sym.B
open Go Go.Sym Go.Proofs Go.Sym.C
theorem gI0 {l : List Int} {n : Nat} (h : n < l.length) : (l.map eInt).getD n [] = eInt (l.getD n 0) := by simp [List.getD_eq_getElem?_getD, h]
theorem setI (l : List Int) (n : Nat) (v : Int) : (l.map eInt).set n [.v (.int .i64 v)] = (l.set n v).map eInt := by rw [List.map_set]; rfl
theorem b47 {n : Nat} (h : n ≤ 100000) : n * 8 ≤ 140737488355328 ∧ n * 24 ≤ 140737488355328 ∧ n * 16 ≤ 140737488355328 ∧ n ≤ maxLen := by
  have : (100000 : Nat) ≤ maxLen := by decide
  omega
def tbF6_88 := And.intro @ty3 (And.intro @ty22 (And.intro @ti3.eq_1 @ti22.eq_1))
theorem clone88 (xs : List (List DV)) (h1 : rowsOK 1 xs) (h2 : xs.length ≤ 100000) : Fn noB Try.prog 88 [.sl xs] noH (.row 0) (hasg [(0, .row 3 1 xs)]) 0 := by
  have env : Env (fun _ => True) Try.prog tyB (tab []) := mkEnv trivial
  obtain ⟨b1, b2, b3, b4⟩ := b47 h2
  refine Fn.of (A := fun _ => True) (n0 := 0) (D := noD) (Fn0 Try.func88 rfl (fun vs w => by kernel_rfl) (by kernel_rfl)) (by simp) (by simp [AV.ids]) (fun i o h => by cases h) (fun _ _ _ _ => trivial) noD_ok ?_
  repeat' (first | refine zq0 ?_ | refine zq1 ?_ | refine zq2 ?_ | refine zq3 ?_ | refine zq4 ?_ | refine zq5 ?_ | refine thenK_n ?_ | refine thenK_x ?_ | refine thenK_r ?_ | refine blockK_n ?_ | refine blockK_r ?_ | refine blockK_hit ?_ | refine blockK_miss (by decide) ?_)
  (refine sym_reg env fun Q hQ => ?_; simp only [vkt, Nat.reduceEqDiff, Nat.reduceAdd, Nat.reduceMul, Nat.reduceSub, Nat.reduceLeDiff, reduceCtorEq, ↓reduceIte, ↓reduceDIte, Int.reduceToNat, Int.reduceLE, Int.reduceLT, Int.reduceEq, Int.reduceNeg, tbF6_88, true_and]; (try simp only [ite_and]); (repeat' (first | with_reducible assumption | refine And.intro ?_ ?_ | intro hp)); all_goals (first | (refine hQ _ ?_; clear hQ; clear Q) | omega | assumption | (with_reducible rfl) | (refine drawB_of ?_; kernel_rfl) | skip))
  repeat' (first | refine zq0 ?_ | refine zq1 ?_ | refine zq2 ?_ | refine zq3 ?_ | refine zq4 ?_ | refine zq5 ?_ | refine thenK_n ?_ | refine thenK_x ?_ | refine thenK_r ?_ | refine blockK_n ?_ | refine blockK_r ?_ | refine blockK_hit ?_ | refine blockK_miss (by decide) ?_)
  refine sym_niltest (d1 := 3) (d2 := 4) (t := 22) (e := 3) (x := .tmp 0) (xs := xs) rfl rfl rfl rfl rfl rfl Try.underlying22 rfl fun b hb => ?_
  repeat' (first | refine zq0 ?_ | refine zq1 ?_ | refine zq2 ?_ | refine zq3 ?_ | refine zq4 ?_ | refine zq5 ?_ | refine thenK_n ?_ | refine thenK_x ?_ | refine thenK_r ?_ | refine blockK_n ?_ | refine blockK_r ?_ | refine blockK_hit ?_ | refine blockK_miss (by decide) ?_)
  (refine sym_cd (by simp only [vkt, Nat.reduceEqDiff, Nat.reduceAdd, Nat.reduceMul, Nat.reduceSub, Nat.reduceLeDiff, reduceCtorEq, ↓reduceIte, ↓reduceDIte, Int.reduceToNat, Int.reduceLE, Int.reduceLT, Int.reduceEq, Int.reduceNeg, tbF6_88, true_and]; rfl) (fun h => ?_) (fun h => ?_) <;> (try simp only [vki, reduceCtorEq] at h))
  · have hx := hb h
    subst hx
    repeat' (first | refine zq0 ?_ | refine zq1 ?_ | refine zq2 ?_ | refine zq3 ?_ | refine zq4 ?_ | refine zq5 ?_ | refine thenK_n ?_ | refine thenK_x ?_ | refine thenK_r ?_ | refine blockK_n ?_ | refine blockK_r ?_ | refine blockK_hit ?_ | refine blockK_miss (by decide) ?_ | ((first | refine sym_reg env fun Q hQ => ?_ | refine sym_cz fun Q hQ => ?_); simp only [vkt, Nat.reduceEqDiff, Nat.reduceAdd, Nat.reduceMul, Nat.reduceSub, Nat.reduceLeDiff, reduceCtorEq, ↓reduceIte, ↓reduceDIte, Int.reduceToNat, Int.reduceLE, Int.reduceLT, Int.reduceEq, Int.reduceNeg, tbF6_88, true_and]; (try simp only [ite_and]); (repeat' (first | with_reducible assumption | refine And.intro ?_ ?_ | intro hp)); all_goals (first | (refine hQ _ ?_; clear hQ; clear Q) | (refine hQ _ (fun h => ?_) (fun h => ?_) <;> clear hQ <;> clear Q <;> (try simp only [vki, reduceCtorEq] at h)) | omega | assumption | (with_reducible rfl) | (refine drawB_of ?_; kernel_rfl) | skip)))
    (simp only [retK, leaveA, resL, tupA, rd, wCells_some, wRow_some, Try.results88, vkt, Nat.reduceEqDiff, Nat.reduceAdd, Nat.reduceMul, Nat.reduceSub, Nat.reduceLeDiff, reduceCtorEq, ↓reduceIte, ↓reduceDIte, Int.reduceToNat, Int.reduceLE, Int.reduceLT, Int.reduceEq, Int.reduceNeg, tbF6_88, true_and]; refine Fin.ok (fun _ => none) [] ?_ ?_ ?_ ?_ ?_ rfl; all_goals (try simp only [leT, leH, leO, ADf.leL, imgs, idsT, idsH, List.filterMap_cons, List.filterMap_nil, List.flatMap_nil, Nat.lt_irrefl, Nat.not_lt_zero, vkt, Nat.reduceEqDiff, Nat.reduceAdd, Nat.reduceMul, Nat.reduceSub, Nat.reduceLeDiff, reduceCtorEq, ↓reduceIte, ↓reduceDIte, Int.reduceToNat, Int.reduceLE, Int.reduceLT, Int.reduceEq, Int.reduceNeg, tbF6_88, true_and]))
    all_goals simp
  · repeat' (first | refine zq0 ?_ | refine zq1 ?_ | refine zq2 ?_ | refine zq3 ?_ | refine zq4 ?_ | refine zq5 ?_ | refine thenK_n ?_ | refine thenK_x ?_ | refine thenK_r ?_ | refine blockK_n ?_ | refine blockK_r ?_ | refine blockK_hit ?_ | refine blockK_miss (by decide) ?_ | ((first | refine sym_reg env fun Q hQ => ?_ | refine sym_cz fun Q hQ => ?_); simp only [vkt, Nat.reduceEqDiff, Nat.reduceAdd, Nat.reduceMul, Nat.reduceSub, Nat.reduceLeDiff, reduceCtorEq, ↓reduceIte, ↓reduceDIte, Int.reduceToNat, Int.reduceLE, Int.reduceLT, Int.reduceEq, Int.reduceNeg, tbF6_88, true_and]; (try simp only [ite_and]); (repeat' (first | with_reducible assumption | refine And.intro ?_ ?_ | intro hp)); all_goals (first | (refine hQ _ ?_; clear hQ; clear Q) | (refine hQ _ (fun h => ?_) (fun h => ?_) <;> clear hQ <;> clear Q <;> (try simp only [vki, reduceCtorEq] at h)) | omega | assumption | (with_reducible rfl) | (refine drawB_of ?_; kernel_rfl) | skip)))
    (simp only [retK, leaveA, resL, tupA, rd, wCells_some, wRow_some, Try.results88, vkt, Nat.reduceEqDiff, Nat.reduceAdd, Nat.reduceMul, Nat.reduceSub, Nat.reduceLeDiff, reduceCtorEq, ↓reduceIte, ↓reduceDIte, Int.reduceToNat, Int.reduceLE, Int.reduceLT, Int.reduceEq, Int.reduceNeg, tbF6_88, true_and]; refine Fin.ok some [] ?_ ?_ ?_ ?_ ?_ rfl; all_goals (try simp only [leT, leH, leO, ADf.leL, imgs, idsT, idsH, List.filterMap_cons, List.filterMap_nil, List.flatMap_nil, Nat.lt_irrefl, Nat.not_lt_zero, vkt, Nat.reduceEqDiff, Nat.reduceAdd, Nat.reduceMul, Nat.reduceSub, Nat.reduceLeDiff, reduceCtorEq, ↓reduceIte, ↓reduceDIte, Int.reduceToNat, Int.reduceLE, Int.reduceLT, Int.reduceEq, Int.reduceNeg, tbF6_88, true_and]))
    all_goals simp
def tbF6_95 := And.intro @ty22 (And.intro @ty28 (And.intro @ti22.eq_1 @ti28.eq_1))
theorem clone95 (xs : List (List DV)) (h1 : rowsOK 1 xs) (h2 : xs.length ≤ 100000) : Fn noB Try.prog 95 [.sl xs] noH (.row 0) (hasg [(0, .row 22 1 xs)]) 0 := by
  have env : Env (fun _ => True) Try.prog tyB (tab []) := mkEnv trivial
  obtain ⟨b1, b2, b3, b4⟩ := b47 h2
  refine Fn.of (A := fun _ => True) (n0 := 0) (D := noD) (Fn0 Try.func95 rfl (fun vs w => by kernel_rfl) (by kernel_rfl)) (by simp) (by simp [AV.ids]) (fun i o h => by cases h) (fun _ _ _ _ => trivial) noD_ok ?_
  repeat' (first | refine zq0 ?_ | refine zq1 ?_ | refine zq2 ?_ | refine zq3 ?_ | refine zq4 ?_ | refine zq5 ?_ | refine thenK_n ?_ | refine thenK_x ?_ | refine thenK_r ?_ | refine blockK_n ?_ | refine blockK_r ?_ | refine blockK_hit ?_ | refine blockK_miss (by decide) ?_)
  (refine sym_reg env fun Q hQ => ?_; simp only [vkt, Nat.reduceEqDiff, Nat.reduceAdd, Nat.reduceMul, Nat.reduceSub, Nat.reduceLeDiff, reduceCtorEq, ↓reduceIte, ↓reduceDIte, Int.reduceToNat, Int.reduceLE, Int.reduceLT, Int.reduceEq, Int.reduceNeg, tbF6_95, true_and]; (try simp only [ite_and]); (repeat' (first | with_reducible assumption | refine And.intro ?_ ?_ | intro hp)); all_goals (first | (refine hQ _ ?_; clear hQ; clear Q) | omega | assumption | (with_reducible rfl) | (refine drawB_of ?_; kernel_rfl) | skip))
  repeat' (first | refine zq0 ?_ | refine zq1 ?_ | refine zq2 ?_ | refine zq3 ?_ | refine zq4 ?_ | refine zq5 ?_ | refine thenK_n ?_ | refine thenK_x ?_ | refine thenK_r ?_ | refine blockK_n ?_ | refine blockK_r ?_ | refine blockK_hit ?_ | refine blockK_miss (by decide) ?_)
  refine sym_niltest (d1 := 3) (d2 := 4) (t := 28) (e := 22) (x := .tmp 0) (xs := xs) rfl rfl rfl rfl rfl rfl Try.underlying28 rfl fun b hb => ?_
  repeat' (first | refine zq0 ?_ | refine zq1 ?_ | refine zq2 ?_ | refine zq3 ?_ | refine zq4 ?_ | refine zq5 ?_ | refine thenK_n ?_ | refine thenK_x ?_ | refine thenK_r ?_ | refine blockK_n ?_ | refine blockK_r ?_ | refine blockK_hit ?_ | refine blockK_miss (by decide) ?_)
  (refine sym_cd (by simp only [vkt, Nat.reduceEqDiff, Nat.reduceAdd, Nat.reduceMul, Nat.reduceSub, Nat.reduceLeDiff, reduceCtorEq, ↓reduceIte, ↓reduceDIte, Int.reduceToNat, Int.reduceLE, Int.reduceLT, Int.reduceEq, Int.reduceNeg, tbF6_95, true_and]; rfl) (fun h => ?_) (fun h => ?_) <;> (try simp only [vki, reduceCtorEq] at h))
  · have hx := hb h
    subst hx
    repeat' (first | refine zq0 ?_ | refine zq1 ?_ | refine zq2 ?_ | refine zq3 ?_ | refine zq4 ?_ | refine zq5 ?_ | refine thenK_n ?_ | refine thenK_x ?_ | refine thenK_r ?_ | refine blockK_n ?_ | refine blockK_r ?_ | refine blockK_hit ?_ | refine blockK_miss (by decide) ?_ | ((first | refine sym_reg env fun Q hQ => ?_ | refine sym_cz fun Q hQ => ?_); simp only [vkt, Nat.reduceEqDiff, Nat.reduceAdd, Nat.reduceMul, Nat.reduceSub, Nat.reduceLeDiff, reduceCtorEq, ↓reduceIte, ↓reduceDIte, Int.reduceToNat, Int.reduceLE, Int.reduceLT, Int.reduceEq, Int.reduceNeg, tbF6_95, true_and]; (try simp only [ite_and]); (repeat' (first | with_reducible assumption | refine And.intro ?_ ?_ | intro hp)); all_goals (first | (refine hQ _ ?_; clear hQ; clear Q) | (refine hQ _ (fun h => ?_) (fun h => ?_) <;> clear hQ <;> clear Q <;> (try simp only [vki, reduceCtorEq] at h)) | omega | assumption | (with_reducible rfl) | (refine drawB_of ?_; kernel_rfl) | skip)))
    (simp only [retK, leaveA, resL, tupA, rd, wCells_some, wRow_some, Try.results95, vkt, Nat.reduceEqDiff, Nat.reduceAdd, Nat.reduceMul, Nat.reduceSub, Nat.reduceLeDiff, reduceCtorEq, ↓reduceIte, ↓reduceDIte, Int.reduceToNat, Int.reduceLE, Int.reduceLT, Int.reduceEq, Int.reduceNeg, tbF6_95, true_and]; refine Fin.ok (fun _ => none) [] ?_ ?_ ?_ ?_ ?_ rfl; all_goals (try simp only [leT, leH, leO, ADf.leL, imgs, idsT, idsH, List.filterMap_cons, List.filterMap_nil, List.flatMap_nil, Nat.lt_irrefl, Nat.not_lt_zero, vkt, Nat.reduceEqDiff, Nat.reduceAdd, Nat.reduceMul, Nat.reduceSub, Nat.reduceLeDiff, reduceCtorEq, ↓reduceIte, ↓reduceDIte, Int.reduceToNat, Int.reduceLE, Int.reduceLT, Int.reduceEq, Int.reduceNeg, tbF6_95, true_and]))
    all_goals simp
  · repeat' (first | refine zq0 ?_ | refine zq1 ?_ | refine zq2 ?_ | refine zq3 ?_ | refine zq4 ?_ | refine zq5 ?_ | refine thenK_n ?_ | refine thenK_x ?_ | refine thenK_r ?_ | refine blockK_n ?_ | refine blockK_r ?_ | refine blockK_hit ?_ | refine blockK_miss (by decide) ?_ | ((first | refine sym_reg env fun Q hQ => ?_ | refine sym_cz fun Q hQ => ?_); simp only [vkt, Nat.reduceEqDiff, Nat.reduceAdd, Nat.reduceMul, Nat.reduceSub, Nat.reduceLeDiff, reduceCtorEq, ↓reduceIte, ↓reduceDIte, Int.reduceToNat, Int.reduceLE, Int.reduceLT, Int.reduceEq, Int.reduceNeg, tbF6_95, true_and]; (try simp only [ite_and]); (repeat' (first | with_reducible assumption | refine And.intro ?_ ?_ | intro hp)); all_goals (first | (refine hQ _ ?_; clear hQ; clear Q) | (refine hQ _ (fun h => ?_) (fun h => ?_) <;> clear hQ <;> clear Q <;> (try simp only [vki, reduceCtorEq] at h)) | omega | assumption | (with_reducible rfl) | (refine drawB_of ?_; kernel_rfl) | skip)))
    (simp only [retK, leaveA, resL, tupA, rd, wCells_some, wRow_some, Try.results95, vkt, Nat.reduceEqDiff, Nat.reduceAdd, Nat.reduceMul, Nat.reduceSub, Nat.reduceLeDiff, reduceCtorEq, ↓reduceIte, ↓reduceDIte, Int.reduceToNat, Int.reduceLE, Int.reduceLT, Int.reduceEq, Int.reduceNeg, tbF6_95, true_and]; refine Fin.ok some [] ?_ ?_ ?_ ?_ ?_ rfl; all_goals (try simp only [leT, leH, leO, ADf.leL, imgs, idsT, idsH, List.filterMap_cons, List.filterMap_nil, List.flatMap_nil, Nat.lt_irrefl, Nat.not_lt_zero, vkt, Nat.reduceEqDiff, Nat.reduceAdd, Nat.reduceMul, Nat.reduceSub, Nat.reduceLeDiff, reduceCtorEq, ↓reduceIte, ↓reduceDIte, Int.reduceToNat, Int.reduceLE, Int.reduceLT, Int.reduceEq, Int.reduceNeg, tbF6_95, true_and]))
    all_goals simp
def p88 (_ : St) : List AV → Option Pk
  | [.sl xs] => some { pre := rowsOK 1 xs ∧ xs.length ≤ 100000, ar := [.sl xs], v := .row 0, L1 := [some (.row 3 1 xs)] }
  | [.nil] => some { ar := [.sl []], v := .row 0, L1 := [some (.row 3 1 [])] }
  | _ => none
theorem e88 {A : Frm → Prop} : EntryOK A Try.prog 88 (fnE p88) := fnE_ok fun S bs q h hp => by
  unfold p88 at h
  split at h <;> cases h
  · exact clone88 _ hp.1 hp.2
  · exact clone88 [] (by simp [rowsOK]) (by simp)
def p95 (_ : St) : List AV → Option Pk
  | [.sl xs] => some { pre := rowsOK 1 xs ∧ xs.length ≤ 100000, ar := [.sl xs], v := .row 0, L1 := [some (.row 22 1 xs)] }
  | [.nil] => some { ar := [.sl []], v := .row 0, L1 := [some (.row 22 1 [])] }
  | _ => none
theorem e95 {A : Frm → Prop} : EntryOK A Try.prog 95 (fnE p95) := fnE_ok fun S bs q h hp => by
  unfold p95 at h
  split at h <;> cases h
  · exact clone95 _ hp.1 hp.2
  · exact clone95 [] (by simp [rowsOK]) (by simp)
def oTill (l : Led) (r : Nat) : AObj := .cells (cLed l ++ [.row r])
def oHas (has : List Int) : AObj := .row 3 1 (has.map eInt)
def tbF6_97 := And.intro @ty3 (And.intro @ty22 (And.intro @ty38 (And.intro @ty123 (And.intro @ti3.eq_1 (And.intro @ti22.eq_1 (And.intro @ti38.eq_1 @ti123.eq_1))))))
theorem open97 (l : Led) (h : l.start.length ≤ 100000) : Fn noB Try.prog 97 [aLed l] noH (.ptr 0 0) (hasg [(0, oTill l 1), (1, oHas l.start)]) 0 := by
  have env : Env (fun _ => True) Try.prog tyB (tab [(88, fnE p88)]) := mkEnv ⟨e88, trivial⟩
  refine Fn.of (A := fun _ => True) (n0 := 0) (D := noD) (Fn0 Try.func97 rfl (fun vs w => by kernel_rfl) (by kernel_rfl)) (by simp) (by simp [AV.ids, AV.idsL, aLed, cLed]) (fun i o h => by cases h) (fun _ _ _ _ => trivial) noD_ok ?_
  repeat' (first | refine zq0 ?_ | refine zq1 ?_ | refine zq2 ?_ | refine zq3 ?_ | refine zq4 ?_ | refine zq5 ?_ | refine thenK_n ?_ | refine thenK_x ?_ | refine thenK_r ?_ | refine blockK_n ?_ | refine blockK_r ?_ | refine blockK_hit ?_ | refine blockK_miss (by decide) ?_ | ((first | refine sym_reg env fun Q hQ => ?_ | refine sym_cz fun Q hQ => ?_); simp only [vkt, Nat.reduceEqDiff, Nat.reduceAdd, Nat.reduceMul, Nat.reduceSub, Nat.reduceLeDiff, reduceCtorEq, ↓reduceIte, ↓reduceDIte, Int.reduceToNat, Int.reduceLE, Int.reduceLT, Int.reduceEq, Int.reduceNeg, tbF6_97, aLed, cLed, p88, rInt, oTill, oHas]; (try simp only [ite_and]); (repeat' (first | with_reducible assumption | refine And.intro ?_ ?_ | intro hp)); all_goals (first | (refine hQ _ ?_; clear hQ; clear Q) | (refine hQ _ (fun h => ?_) (fun h => ?_) <;> clear hQ <;> clear Q <;> (try simp only [vki, reduceCtorEq] at h)) | omega | assumption | (with_reducible rfl) | (refine drawB_of ?_; kernel_rfl) | skip)))
  (simp only [retK, leaveA, resL, tupA, rd, wCells_some, wRow_some, Try.results97, vkt, Nat.reduceEqDiff, Nat.reduceAdd, Nat.reduceMul, Nat.reduceSub, Nat.reduceLeDiff, reduceCtorEq, ↓reduceIte, ↓reduceDIte, Int.reduceToNat, Int.reduceLE, Int.reduceLT, Int.reduceEq, Int.reduceNeg, tbF6_97, aLed, cLed, p88, rInt, oTill, oHas]; refine Fin.ok (fun j => if j = 0 then some 2 else if j = 1 then some 1 else none) [] ?_ ?_ ?_ ?_ ?_ rfl; all_goals (try simp only [leT, leH, leO, ADf.leL, imgs, idsT, idsH, List.filterMap_cons, List.filterMap_nil, List.flatMap_nil, Nat.lt_irrefl, Nat.not_lt_zero, vkt, Nat.reduceEqDiff, Nat.reduceAdd, Nat.reduceMul, Nat.reduceSub, Nat.reduceLeDiff, reduceCtorEq, ↓reduceIte, ↓reduceDIte, Int.reduceToNat, Int.reduceLE, Int.reduceLT, Int.reduceEq, Int.reduceNeg, tbF6_97, aLed, cLed, p88, rInt, oTill, oHas]))
  all_goals simp
def p97 (_ : St) : List AV → Option Pk
  | [.agg [.sl cs, .sl rs, .sl ss, .sl es]] => some { pre := cs = (cs.map dInts).map eInts ∧ rs = (rs.map dShs).map eShs ∧ ss = (ss.map dInt).map eInt ∧ es = (es.map dEnt).map eEnt ∧ ss.length ≤ 100000, ar := [.agg [.sl cs, .sl rs, .sl ss, .sl es]], v := .ptr 0 0, L1 := [some (.cells [.sl cs, .sl rs, .sl ss, .sl es, .row 1]), some (.row 3 1 ss)] }
  | _ => none
theorem e97 {A : Frm → Prop} : EntryOK A Try.prog 97 (fnE p97) := fnE_ok fun S bs q h hp => by
  unfold p97 at h
  split at h <;> cases h
  rename_i cs rs ss es
  have := open97 ⟨cs.map dInts, rs.map dShs, ss.map dInt, es.map dEnt⟩ (by simpa using hp.2.2.2.2)
  simp only [aLed, cLed, oTill, oHas, ← hp.1, ← hp.2.1, ← hp.2.2.1, ← hp.2.2.2.1] at this
  exact this
def addAt (has : List Int) (i d : Int) : List Int := has.set i.toNat (has.getD i.toNat 0 + d)
def enterF (has : List Int) (x : Ent) : List Int :=
  if x.kind = 1 then addAt has x.coin x.amount else if x.kind = 2 then addAt has x.coin (-x.amount) else if x.kind = 3 then addAt (addAt has x.coin (-x.amount)) x.to x.got
  else if x.kind = 4 then has.set x.coin.toNat x.amount else has
structure EnOk (has : List Int) (x : Ent) : Prop where
  c0 : 0 ≤ x.coin
  c1 : x.coin.toNat < has.length
  t : x.kind = 3 → 0 ≤ x.to ∧ x.to.toNat < has.length
  a : 0 ≤ x.amount ∧ x.amount ≤ 999
  g : x.kind = 3 → 0 ≤ x.got ∧ x.got ≤ 999
  b : ∀ v ∈ has, -1000000 ≤ v ∧ v ≤ 1000000
theorem bGet {has : List Int} {n : Nat} (h : ∀ v ∈ has, -1000000 ≤ v ∧ v ≤ 1000000) : -1000000 ≤ has.getD n 0 ∧ has.getD n 0 ≤ 1000000 := by
  by_cases hn : n < has.length
  · exact h _ (gMem hn)
  · rw [List.getD_eq_getElem?_getD, List.getElem?_eq_none (by omega)]; simp
def tbF6_101 := And.intro @ty3 (And.intro @ty22 (And.intro @ty48 (And.intro @ty123 (And.intro @ti3.eq_1 (And.intro @ti22.eq_1 (And.intro @ti48.eq_1 @ti123.eq_1))))))
set_option maxHeartbeats 1000000 in
theorem enter101 (l : Led) (has : List Int) (x : Ent) (h : EnOk has x) : Fn noB Try.prog 101 [.ptr 0 0, aEnt x] (hasg [(0, oTill l 1), (1, oHas has)]) (.tup []) (hasg [(0, oTill l 1), (1, oHas (enterF has x))]) 0 := by
  have env : Env (fun _ => True) Try.prog tyB (tab []) := mkEnv trivial
  refine Fn.of (A := fun _ => True) (n0 := 2) (D := noD) (Fn0 Try.func101 rfl (fun vs w => by kernel_rfl) (by kernel_rfl)) (by simp) (by simp [AV.ids, AV.idsL, aEnt]) ?_ (fun _ _ _ _ => trivial) noD_ok ?_
  · intro i o hi
    rcases List.mem_cons.1 (hasg_mem hi) with h | h
    · cases h; simp [oTill, cLed, AObj.ids, AV.ids, AV.idsL]
    · simp at h; obtain ⟨rfl, rfl⟩ := h; simp [oHas, AObj.ids]
  have c0 := h.c0
  have c1 := h.c1
  have g1 := gI0 h.c1
  have b1 := bGet (n := x.coin.toNat) h.b
  have ha := h.a
  by_cases k1 : x.kind = 1
  · have w1 : IntKind.wrap .i64 (has.getD x.coin.toNat 0 + x.amount) = has.getD x.coin.toNat 0 + x.amount := wrap64 (by omega) (by omega)
    repeat' (first | refine zq0 ?_ | refine zq1 ?_ | refine zq2 ?_ | refine zq3 ?_ | refine zq4 ?_ | refine zq5 ?_ | refine thenK_n ?_ | refine thenK_x ?_ | refine thenK_r ?_ | refine blockK_n ?_ | refine blockK_r ?_ | refine blockK_hit ?_ | refine blockK_miss (by decide) ?_ | ((first | refine sym_reg env fun Q hQ => ?_ | refine sym_cz fun Q hQ => ?_); simp only [vkt, Nat.reduceEqDiff, Nat.reduceAdd, Nat.reduceMul, Nat.reduceSub, Nat.reduceLeDiff, reduceCtorEq, ↓reduceIte, ↓reduceDIte, Int.reduceToNat, Int.reduceLE, Int.reduceLT, Int.reduceEq, Int.reduceNeg, tbF6_101, aLed, cLed, aEnt, oTill, oHas, setI, k1, g1, w1, eInt]; (try simp only [ite_and]); (repeat' (first | with_reducible assumption | refine And.intro ?_ ?_ | intro hp)); all_goals (first | (refine hQ _ ?_; clear hQ; clear Q) | (refine hQ _ (fun h => ?_) (fun h => ?_) <;> clear hQ <;> clear Q <;> (try simp only [vki, reduceCtorEq] at h)) | omega | assumption | (with_reducible rfl) | (refine drawB_of ?_; kernel_rfl) | skip)))
    (simp only [retK, leaveA, resL, tupA, rd, wCells_some, wRow_some, Try.results101, vkt, Nat.reduceEqDiff, Nat.reduceAdd, Nat.reduceMul, Nat.reduceSub, Nat.reduceLeDiff, reduceCtorEq, ↓reduceIte, ↓reduceDIte, Int.reduceToNat, Int.reduceLE, Int.reduceLT, Int.reduceEq, Int.reduceNeg, tbF6_101, aLed, cLed, aEnt, oTill, oHas, setI]; refine Fin.ok some [] ?_ ?_ ?_ ?_ ?_ rfl; all_goals (try simp only [leT, leH, leO, ADf.leL, imgs, idsT, idsH, List.filterMap_cons, List.filterMap_nil, List.flatMap_nil, Nat.lt_irrefl, Nat.not_lt_zero, vkt, Nat.reduceEqDiff, Nat.reduceAdd, Nat.reduceMul, Nat.reduceSub, Nat.reduceLeDiff, reduceCtorEq, ↓reduceIte, ↓reduceDIte, Int.reduceToNat, Int.reduceLE, Int.reduceLT, Int.reduceEq, Int.reduceNeg, tbF6_101, aLed, cLed, aEnt, oTill, oHas, setI]))
    all_goals simp [enterF, k1, addAt]
  by_cases k2 : x.kind = 2
  · have w1 : IntKind.wrap .i64 (has.getD x.coin.toNat 0 - x.amount) = has.getD x.coin.toNat 0 + -x.amount := by rw [wrap64 (by omega) (by omega)]; omega
    repeat' (first | refine zq0 ?_ | refine zq1 ?_ | refine zq2 ?_ | refine zq3 ?_ | refine zq4 ?_ | refine zq5 ?_ | refine thenK_n ?_ | refine thenK_x ?_ | refine thenK_r ?_ | refine blockK_n ?_ | refine blockK_r ?_ | refine blockK_hit ?_ | refine blockK_miss (by decide) ?_ | ((first | refine sym_reg env fun Q hQ => ?_ | refine sym_cz fun Q hQ => ?_); simp only [vkt, Nat.reduceEqDiff, Nat.reduceAdd, Nat.reduceMul, Nat.reduceSub, Nat.reduceLeDiff, reduceCtorEq, ↓reduceIte, ↓reduceDIte, Int.reduceToNat, Int.reduceLE, Int.reduceLT, Int.reduceEq, Int.reduceNeg, tbF6_101, aLed, cLed, aEnt, oTill, oHas, setI, k2, g1, w1, eInt]; (try simp only [ite_and]); (repeat' (first | with_reducible assumption | refine And.intro ?_ ?_ | intro hp)); all_goals (first | (refine hQ _ ?_; clear hQ; clear Q) | (refine hQ _ (fun h => ?_) (fun h => ?_) <;> clear hQ <;> clear Q <;> (try simp only [vki, reduceCtorEq] at h)) | omega | assumption | (with_reducible rfl) | (refine drawB_of ?_; kernel_rfl) | skip)))
    (simp only [retK, leaveA, resL, tupA, rd, wCells_some, wRow_some, Try.results101, vkt, Nat.reduceEqDiff, Nat.reduceAdd, Nat.reduceMul, Nat.reduceSub, Nat.reduceLeDiff, reduceCtorEq, ↓reduceIte, ↓reduceDIte, Int.reduceToNat, Int.reduceLE, Int.reduceLT, Int.reduceEq, Int.reduceNeg, tbF6_101, aLed, cLed, aEnt, oTill, oHas, setI]; refine Fin.ok some [] ?_ ?_ ?_ ?_ ?_ rfl; all_goals (try simp only [leT, leH, leO, ADf.leL, imgs, idsT, idsH, List.filterMap_cons, List.filterMap_nil, List.flatMap_nil, Nat.lt_irrefl, Nat.not_lt_zero, vkt, Nat.reduceEqDiff, Nat.reduceAdd, Nat.reduceMul, Nat.reduceSub, Nat.reduceLeDiff, reduceCtorEq, ↓reduceIte, ↓reduceDIte, Int.reduceToNat, Int.reduceLE, Int.reduceLT, Int.reduceEq, Int.reduceNeg, tbF6_101, aLed, cLed, aEnt, oTill, oHas, setI]))
    all_goals simp [enterF, k2, addAt]
  by_cases k3 : x.kind = 3
  · have w1 : IntKind.wrap .i64 (has.getD x.coin.toNat 0 - x.amount) = has.getD x.coin.toNat 0 + -x.amount := by rw [wrap64 (by omega) (by omega)]; omega
    obtain ⟨t0, t1⟩ := h.t k3
    have hg := h.g k3
    have hb2 : ∀ v ∈ addAt has x.coin (-x.amount), -1001000 ≤ v ∧ v ≤ 1001000 := fun v hv => by
      rcases List.mem_or_eq_of_mem_set hv with h1 | h1
      · have := h.b v h1; omega
      · omega
    have t2 : x.to.toNat < (addAt has x.coin (-x.amount)).length := by simp [addAt]; exact t1
    have g2 := gI0 t2
    have b2 := hb2 _ (gMem (d := 0) t2)
    have w2 : IntKind.wrap .i64 ((addAt has x.coin (-x.amount)).getD x.to.toNat 0 + x.got) = (addAt has x.coin (-x.amount)).getD x.to.toNat 0 + x.got := wrap64 (by omega) (by omega)
    have e2 : has.set x.coin.toNat (has.getD x.coin.toNat 0 + -x.amount) = addAt has x.coin (-x.amount) := rfl
    repeat' (first | refine zq0 ?_ | refine zq1 ?_ | refine zq2 ?_ | refine zq3 ?_ | refine zq4 ?_ | refine zq5 ?_ | refine thenK_n ?_ | refine thenK_x ?_ | refine thenK_r ?_ | refine blockK_n ?_ | refine blockK_r ?_ | refine blockK_hit ?_ | refine blockK_miss (by decide) ?_ | ((first | refine sym_reg env fun Q hQ => ?_ | refine sym_cz fun Q hQ => ?_); simp only [vkt, Nat.reduceEqDiff, Nat.reduceAdd, Nat.reduceMul, Nat.reduceSub, Nat.reduceLeDiff, reduceCtorEq, ↓reduceIte, ↓reduceDIte, Int.reduceToNat, Int.reduceLE, Int.reduceLT, Int.reduceEq, Int.reduceNeg, tbF6_101, aLed, cLed, aEnt, oTill, oHas, setI, k3, g1, w1, e2, g2, w2, eInt]; (try simp only [ite_and]); (repeat' (first | with_reducible assumption | refine And.intro ?_ ?_ | intro hp)); all_goals (first | (refine hQ _ ?_; clear hQ; clear Q) | (refine hQ _ (fun h => ?_) (fun h => ?_) <;> clear hQ <;> clear Q <;> (try simp only [vki, reduceCtorEq] at h)) | omega | assumption | (with_reducible rfl) | (refine drawB_of ?_; kernel_rfl) | skip)))
    (simp only [retK, leaveA, resL, tupA, rd, wCells_some, wRow_some, Try.results101, vkt, Nat.reduceEqDiff, Nat.reduceAdd, Nat.reduceMul, Nat.reduceSub, Nat.reduceLeDiff, reduceCtorEq, ↓reduceIte, ↓reduceDIte, Int.reduceToNat, Int.reduceLE, Int.reduceLT, Int.reduceEq, Int.reduceNeg, tbF6_101, aLed, cLed, aEnt, oTill, oHas, setI]; refine Fin.ok some [] ?_ ?_ ?_ ?_ ?_ rfl; all_goals (try simp only [leT, leH, leO, ADf.leL, imgs, idsT, idsH, List.filterMap_cons, List.filterMap_nil, List.flatMap_nil, Nat.lt_irrefl, Nat.not_lt_zero, vkt, Nat.reduceEqDiff, Nat.reduceAdd, Nat.reduceMul, Nat.reduceSub, Nat.reduceLeDiff, reduceCtorEq, ↓reduceIte, ↓reduceDIte, Int.reduceToNat, Int.reduceLE, Int.reduceLT, Int.reduceEq, Int.reduceNeg, tbF6_101, aLed, cLed, aEnt, oTill, oHas, setI]))
    all_goals (simp only [enterF, k3]; simp; conv => rhs; rw [addAt, List.map_set])
    all_goals simp
  by_cases k4 : x.kind = 4
  · repeat' (first | refine zq0 ?_ | refine zq1 ?_ | refine zq2 ?_ | refine zq3 ?_ | refine zq4 ?_ | refine zq5 ?_ | refine thenK_n ?_ | refine thenK_x ?_ | refine thenK_r ?_ | refine blockK_n ?_ | refine blockK_r ?_ | refine blockK_hit ?_ | refine blockK_miss (by decide) ?_ | ((first | refine sym_reg env fun Q hQ => ?_ | refine sym_cz fun Q hQ => ?_); simp only [vkt, Nat.reduceEqDiff, Nat.reduceAdd, Nat.reduceMul, Nat.reduceSub, Nat.reduceLeDiff, reduceCtorEq, ↓reduceIte, ↓reduceDIte, Int.reduceToNat, Int.reduceLE, Int.reduceLT, Int.reduceEq, Int.reduceNeg, tbF6_101, aLed, cLed, aEnt, oTill, oHas, setI, k4, g1, eInt]; (try simp only [ite_and]); (repeat' (first | with_reducible assumption | refine And.intro ?_ ?_ | intro hp)); all_goals (first | (refine hQ _ ?_; clear hQ; clear Q) | (refine hQ _ (fun h => ?_) (fun h => ?_) <;> clear hQ <;> clear Q <;> (try simp only [vki, reduceCtorEq] at h)) | omega | assumption | (with_reducible rfl) | (refine drawB_of ?_; kernel_rfl) | skip)))
    (simp only [retK, leaveA, resL, tupA, rd, wCells_some, wRow_some, Try.results101, vkt, Nat.reduceEqDiff, Nat.reduceAdd, Nat.reduceMul, Nat.reduceSub, Nat.reduceLeDiff, reduceCtorEq, ↓reduceIte, ↓reduceDIte, Int.reduceToNat, Int.reduceLE, Int.reduceLT, Int.reduceEq, Int.reduceNeg, tbF6_101, aLed, cLed, aEnt, oTill, oHas, setI]; refine Fin.ok some [] ?_ ?_ ?_ ?_ ?_ rfl; all_goals (try simp only [leT, leH, leO, ADf.leL, imgs, idsT, idsH, List.filterMap_cons, List.filterMap_nil, List.flatMap_nil, Nat.lt_irrefl, Nat.not_lt_zero, vkt, Nat.reduceEqDiff, Nat.reduceAdd, Nat.reduceMul, Nat.reduceSub, Nat.reduceLeDiff, reduceCtorEq, ↓reduceIte, ↓reduceDIte, Int.reduceToNat, Int.reduceLE, Int.reduceLT, Int.reduceEq, Int.reduceNeg, tbF6_101, aLed, cLed, aEnt, oTill, oHas, setI]))
    all_goals simp [enterF, k4]
  · repeat' (first | refine zq0 ?_ | refine zq1 ?_ | refine zq2 ?_ | refine zq3 ?_ | refine zq4 ?_ | refine zq5 ?_ | refine thenK_n ?_ | refine thenK_x ?_ | refine thenK_r ?_ | refine blockK_n ?_ | refine blockK_r ?_ | refine blockK_hit ?_ | refine blockK_miss (by decide) ?_ | ((first | refine sym_reg env fun Q hQ => ?_ | refine sym_cz fun Q hQ => ?_); simp only [vkt, Nat.reduceEqDiff, Nat.reduceAdd, Nat.reduceMul, Nat.reduceSub, Nat.reduceLeDiff, reduceCtorEq, ↓reduceIte, ↓reduceDIte, Int.reduceToNat, Int.reduceLE, Int.reduceLT, Int.reduceEq, Int.reduceNeg, tbF6_101, aLed, cLed, aEnt, oTill, oHas, setI, k1, k2, k3, k4]; (try simp only [ite_and]); (repeat' (first | with_reducible assumption | refine And.intro ?_ ?_ | intro hp)); all_goals (first | (refine hQ _ ?_; clear hQ; clear Q) | (refine hQ _ (fun h => ?_) (fun h => ?_) <;> clear hQ <;> clear Q <;> (try simp only [vki, reduceCtorEq] at h)) | omega | assumption | (with_reducible rfl) | (refine drawB_of ?_; kernel_rfl) | skip)))
    (simp only [retK, leaveA, resL, tupA, rd, wCells_some, wRow_some, Try.results101, vkt, Nat.reduceEqDiff, Nat.reduceAdd, Nat.reduceMul, Nat.reduceSub, Nat.reduceLeDiff, reduceCtorEq, ↓reduceIte, ↓reduceDIte, Int.reduceToNat, Int.reduceLE, Int.reduceLT, Int.reduceEq, Int.reduceNeg, tbF6_101, aLed, cLed, aEnt, oTill, oHas, setI]; refine Fin.ok some [] ?_ ?_ ?_ ?_ ?_ rfl; all_goals (try simp only [leT, leH, leO, ADf.leL, imgs, idsT, idsH, List.filterMap_cons, List.filterMap_nil, List.flatMap_nil, Nat.lt_irrefl, Nat.not_lt_zero, vkt, Nat.reduceEqDiff, Nat.reduceAdd, Nat.reduceMul, Nat.reduceSub, Nat.reduceLeDiff, reduceCtorEq, ↓reduceIte, ↓reduceDIte, Int.reduceToNat, Int.reduceLE, Int.reduceLT, Int.reduceEq, Int.reduceNeg, tbF6_101, aLed, cLed, aEnt, oTill, oHas, setI]))
    all_goals simp [enterF, k1, k2, k3, k4]
def p101 (S : St) : List AV → Option Pk
  | [.ptr t 0, .agg [.v (.int .i64 a), .v (.int .i64 b), .v (.int .i64 c), .v (.int .i64 d), .v (.int .i64 e), .v (.int .i64 f)]] => match S.h t with
    | some (.cells [.sl cs, .sl rs, .sl ss, .sl es, .row r]) => match S.h r with
      | some (.row 3 1 hs) => some { pre := cs = (cs.map dInts).map eInts ∧ rs = (rs.map dShs).map eShs ∧ ss = (ss.map dInt).map eInt ∧ es = (es.map dEnt).map eEnt ∧ hs = (hs.map dInt).map eInt ∧ EnOk (hs.map dInt) ⟨a, b, c, d, e, f⟩, hs := [t, r], ar := [.ptr 0 0, .agg [.v (.int .i64 a), .v (.int .i64 b), .v (.int .i64 c), .v (.int .i64 d), .v (.int .i64 e), .v (.int .i64 f)]], L0 := [.cells [.sl cs, .sl rs, .sl ss, .sl es, .row 1], .row 3 1 hs], v := .tup [], L1 := [some (.cells [.sl cs, .sl rs, .sl ss, .sl es, .row 1]), some (.row 3 1 ((enterF (hs.map dInt) ⟨a, b, c, d, e, f⟩).map eInt))] }
      | _ => none
    | _ => none
  | _ => none
theorem e101 {A : Frm → Prop} : EntryOK A Try.prog 101 (fnE p101) := fnE_ok fun S bs q h hp => by
  unfold p101 at h
  split at h
  · split at h
    · split at h
      · rename_i t a b c d e f _ cs rs ss es r _ _ hs _
        cases h
        have := enter101 ⟨cs.map dInts, rs.map dShs, ss.map dInt, es.map dEnt⟩ (hs.map dInt) ⟨a, b, c, d, e, f⟩ hp.2.2.2.2.2
        simp only [oTill, oHas, cLed, ← hp.1, ← hp.2.1, ← hp.2.2.1, ← hp.2.2.2.1, ← hp.2.2.2.2.1] at this
        exact this
      · cases h
    · cases h
  · cases h
end Go.Sym.B
namespace Go.Sym.B
open Go Go.Sym Go.Proofs Go.Sym.C
structure EntryOk (l : Led) (x : Ent) (before : Int) : Prop where
  day : 0 ≤ x.day ∧ x.day ≤ (l.rates.length : Int) - 1
  ord : before ≤ x.day
  kind : 1 ≤ x.kind ∧ x.kind ≤ 4
  coin : 0 ≤ x.coin ∧ x.coin ≤ (l.coins.length : Int) - 1
  to : x.kind = 3 → 0 ≤ x.to ∧ x.to ≤ (l.coins.length : Int) - 1
  ne : x.kind = 3 → x.to ≠ x.coin
  got : x.kind = 3 → 0 ≤ x.got ∧ x.got ≤ 999
  no : x.kind ≠ 3 → x.to = 0 ∧ x.got = 0
  am : 0 ≤ x.amount ∧ x.amount ≤ 999
theorem inB_iff {n a b : Int} : inB n a b = true ↔ a ≤ n ∧ n ≤ b := by simp [inB]
theorem entryE_ok {l : Led} {x : Ent} {b : Int} (h : entryE l x b = 0) : EntryOk l x b := by
  unfold entryE at h
  split at h
  · exact absurd h (by decide)
  rename_i a1
  split at h
  · exact absurd h (by decide)
  rename_i a2
  split at h
  · exact absurd h (by decide)
  rename_i a3
  split at h
  · exact absurd h (by decide)
  rename_i a4
  split at h
  · exact absurd h (by decide)
  rename_i a5
  split at h
  · exact absurd h (by decide)
  rename_i a6
  split at h
  · exact absurd h (by decide)
  rename_i a7
  split at h
  · exact absurd h (by decide)
  rename_i a8
  split at h
  · exact absurd h (by decide)
  rename_i a9
  have nf : ∀ {p : Bool}, ¬ (!p) = true → p = true := fun h => by simpa using h
  have nn : ∀ {p : Prop} {q : Bool}, ¬ (p ∧ q = false) → p → q = true := fun h hp => by simpa [hp] using h
  refine ⟨inB_iff.1 (nf a1), by omega, inB_iff.1 (nf a3), inB_iff.1 (nf a4), fun h3 => inB_iff.1 (nn a5 h3), fun h3 h4 => a6 ⟨h3, h4⟩, fun h3 => inB_iff.1 (nn a7 h3), fun h3 => ?_, inB_iff.1 (nf a9)⟩
  constructor
  · exact Classical.byContradiction fun hn => a8 ⟨h3, .inl hn⟩
  · exact Classical.byContradiction fun hn => a8 ⟨h3, .inr hn⟩
def stK (l : Led) (k : Nat) : Int × List Int := (l.entries.take k).foldl (fun s x => (x.day, enterF s.2 x)) (0, l.start)
theorem stK_succ {l : Led} {k : Nat} (h : k < l.entries.length) : stK l (k + 1) = ((l.entries.getD k default).day, enterF (stK l k).2 (l.entries.getD k default)) := by
  unfold stK
  rw [List.take_succ_eq_append_getElem h, List.foldl_append, List.getD_eq_getElem?_getD, List.getElem?_eq_getElem h]
  rfl
def eV (l : Led) (x : Ent) (b : Int) (has : List Int) : Int := if entryE l x b ≠ 0 then entryE l x b else if (x.kind = 2 ∨ x.kind = 3) ∧ has.getD x.coin.toNat 0 < x.amount then 9 else 0
def eK (l : Led) (k : Nat) : Int := eV l (l.entries.getD k default) (stK l k).1 (stK l k).2
theorem eK_eq (l : Led) (k : Nat) : eK l k = eV l (l.entries.getD k default) (stK l k).1 (stK l k).2 := rfl
def entriesE (l : Led) : Int := if countedE l.entries.length 0 6 ≠ 0 then countedE l.entries.length 0 6 else firstE (errs l.entries.length (eK l))
theorem enterF_len (has : List Int) (x : Ent) : (enterF has x).length = has.length := by
  unfold enterF addAt
  repeat' split
  all_goals simp
structure HasOk (l : Led) (k : Nat) (has : List Int) : Prop where
  len : has.length = l.coins.length
  b : ∀ v ∈ has, 0 ≤ v ∧ v ≤ 999 * (k + 1)
theorem hasOk_start {l : Led} (h1 : l.start.length = l.coins.length) (h2 : ∀ v ∈ l.start, 0 ≤ v ∧ v ≤ 999) : HasOk l 0 (stK l 0).2 := ⟨h1, fun v hv => by have := h2 v hv; simp; omega⟩
theorem hasOk_step {l : Led} {k : Nat} {has : List Int} {x : Ent} {b : Int} (h : HasOk l k has) (hx : EntryOk l x b) (hp : ¬ ((x.kind = 2 ∨ x.kind = 3) ∧ has.getD x.coin.toNat 0 < x.amount)) : HasOk l (k + 1) (enterF has x) := by
  refine ⟨(enterF_len _ _).trans h.len, fun v hv => ?_⟩
  have hc : x.coin.toNat < has.length := by have := hx.coin; have := h.len; omega
  have hb := h.b _ (gMem (d := 0) hc)
  have ha := hx.am
  have set1 : ∀ {d : Int} {v : Int}, v ∈ has.set x.coin.toNat d → (0 ≤ d ∧ d ≤ 999 * (k + 1) + 999) → 0 ≤ v ∧ v ≤ 999 * (k + 1) + 999 := fun hv hd => by
    rcases List.mem_or_eq_of_mem_set hv with h1 | h1
    · have := h.b _ h1; omega
    · omega
  have hp2 : x.kind = 2 ∨ x.kind = 3 → ¬ has.getD x.coin.toNat 0 < x.amount := fun h hlt => hp ⟨h, hlt⟩
  unfold enterF at hv
  have e : ((k + 1 : Nat) : Int) + 1 = (k : Int) + 2 := by omega
  rw [e]
  split at hv
  · have := set1 hv (by omega); omega
  · split at hv
    · rename_i k2
      have := set1 hv (by have := hp2 (.inl k2); omega); omega
    · split at hv
      · rename_i k3
        have hp3 := hp2 (.inr k3)
        have hc0 := hx.coin
        have hg := hx.got k3
        have ht := hx.to k3
        have hne := hx.ne k3
        rcases List.mem_or_eq_of_mem_set hv with h1 | h1
        · have := set1 h1 (by omega); omega
        · have ht' : x.to.toNat < (addAt has x.coin (-x.amount)).length := by simp [addAt]; have := h.len; omega
          have hm : (addAt has x.coin (-x.amount)).getD x.to.toNat 0 = has.getD x.to.toNat 0 := by
            simp [addAt, List.getD_eq_getElem?_getD, List.getElem?_set]
            rw [if_neg (by omega)]
          have := h.b _ (gMem (l := has) (k := x.to.toNat) (d := 0) (by have := h.len; omega))
          rw [hm] at h1
          omega
      · split at hv
        · have := set1 hv (by omega); omega
        · have := h.b v hv; omega
theorem hasOk_all {l : Led} (h1 : l.start.length = l.coins.length) (h2 : ∀ v ∈ l.start, 0 ≤ v ∧ v ≤ 999) : ∀ k, k ≤ l.entries.length → (∀ j, j < k → eK l j = 0) → HasOk l k (stK l k).2
  | 0, _, _ => hasOk_start h1 h2
  | k + 1, hk, h => by
    have ih := hasOk_all h1 h2 k (by omega) fun j hj => h j (by omega)
    have h0 := h k (by omega)
    rw [stK_succ (by omega)]
    unfold eK eV at h0
    split at h0
    · rename_i hn; exact absurd h0 hn
    · rename_i hn
      have hn := Decidable.not_not.1 hn
      split at h0
      · exact absurd h0 (by decide)
      · rename_i hp
        exact hasOk_step ih (entryE_ok hn) hp
theorem enOk_of {l : Led} {k : Nat} {has : List Int} {x : Ent} {b : Int} (h : HasOk l k has) (hk : k ≤ 100) (hx : EntryOk l x b) : EnOk has x := by
  refine ⟨hx.coin.1, ?_, fun h3 => ⟨(hx.to h3).1, ?_⟩, hx.am, hx.got, fun v hv => ?_⟩
  · have := hx.coin; have := h.len; omega
  · have := hx.to h3; have := h.len; omega
  · have := h.b v hv; omega
end Go.Sym.B
namespace Go.Sym.B
open Go Go.Sym Go.Proofs Go.Sym.C
def enS (l : Led) (k : Nat) : St := { t := asg [(1, .ptr 0 0), (2, aI 0), (4, .ptr 1 0), (5, aI (stK l k).1), (19, .sl (l.entries.map eEnt)), (20, aI l.entries.length), (21, aI k)], h := hasg [(0, .cells (cLed l)), (1, oTill l 2), (2, oHas (stK l k).2)], n := 3 }
structure EsOk (l : Led) : Prop where
  c : l.coins.length ≤ 20
  r : l.rates.length ≤ 20
  e : l.entries.length ≤ 20
  s : l.start.length = l.coins.length
  v : ∀ v ∈ l.start, 0 ≤ v ∧ v ≤ 999
def tbF8_112 := And.intro @ty3 (And.intro @ty22 (And.intro @ty30 (And.intro @ty36 (And.intro @ty38 (And.intro @ty48 (And.intro @ty123 (And.intro @ti3.eq_1 (And.intro @ti22.eq_1 (And.intro @ti30.eq_1 (And.intro @ti36.eq_1 (And.intro @ti38.eq_1 (And.intro @ti48.eq_1 @ti123.eq_1))))))))))))
set_option maxHeartbeats 1000000 in
theorem entries_fn (l : Led) (hl : EsOk l) : FnV Try.prog 112 [aLed l] (aI (entriesE l)) := by
  have env : Env (fun _ => True) Try.prog tyB (tab [(78, valE true s78), (97, fnE p97), (101, fnE p101), (140, valE true s140)]) := mkEnv ⟨e78, e97, e101, e140, trivial⟩
  refine Fn.of (A := fun _ => True) (n0 := 0) (D := noD) (Fn0 Try.func112 rfl (fun vs w => by kernel_rfl) (by kernel_rfl)) (by simp) (by simp [AV.ids, AV.idsL, aLed, cLed]) (fun i o h => by cases h) (fun _ _ _ _ => trivial) noD_ok ?_
  have q1 := hl.c
  have q2 := hl.r
  have q3 := hl.e
  have q4 : l.start.length ≤ 100000 := by have := hl.s; omega
  by_cases h0 : countedE l.entries.length 0 6 = 0
  · repeat' (first | refine zq0 ?_ | refine zq1 ?_ | refine zq2 ?_ | refine zq3 ?_ | refine zq4 ?_ | refine zq5 ?_ | refine thenK_n ?_ | refine thenK_x ?_ | refine thenK_r ?_ | refine blockK_n ?_ | refine blockK_r ?_ | refine blockK_hit ?_ | refine blockK_miss (by decide) ?_ | ((first | refine sym_reg env fun Q hQ => ?_ | refine sym_cz fun Q hQ => ?_); simp only [vkt, Nat.reduceEqDiff, Nat.reduceAdd, Nat.reduceMul, Nat.reduceSub, Nat.reduceLeDiff, reduceCtorEq, ↓reduceIte, ↓reduceDIte, Int.reduceToNat, Int.reduceLE, Int.reduceLT, Int.reduceEq, Int.reduceNeg, tbF8_112, aI, aLed, cLed, aEnt, oTill, oHas, enS, s78, s140, p97, p101, mInt, mInts, mShs, mEnt, eEnt, gEnt, h0]; (try simp only [ite_and]); (repeat' (first | with_reducible assumption | refine And.intro ?_ ?_ | intro hp)); all_goals (first | (refine hQ _ ?_; clear hQ; clear Q) | (refine hQ _ (fun h => ?_) (fun h => ?_) <;> clear hQ <;> clear Q <;> (try simp only [vki, reduceCtorEq] at h)) | omega | assumption | (with_reducible rfl) | (refine drawB_of ?_; kernel_rfl) | skip)))
    refine sym_loop (ι := FI (errs l.entries.length (eK l))) (fun i => enS l i.k) (fun i => l.entries.length - i.k) (FI.zero _) ?_ fun i => ?_
    · (refine Le.ok some [] ⟨?_, ?_, ?_, ?_, ?_, ?_, ?_, ?_, ?_, ?_, ?_⟩; all_goals (try simp only [leT, leH, leO, ADf.leL, imgs, idsT, idsH, List.filterMap_cons, List.filterMap_nil, List.flatMap_nil, Nat.lt_irrefl, Nat.not_lt_zero, vkt, Nat.reduceEqDiff, Nat.reduceAdd, Nat.reduceMul, Nat.reduceSub, Nat.reduceLeDiff, reduceCtorEq, ↓reduceIte, ↓reduceDIte, Int.reduceToNat, Int.reduceLE, Int.reduceLT, Int.reduceEq, Int.reduceNeg, tbF8_112, aI, aLed, cLed, aEnt, oTill, oHas, enS, s78, s140, p97, p101, mInt, mInts, mShs, mEnt, eEnt, gEnt]))
      all_goals simp [FI.zero, stK]
    · have hk := i.le
      rw [errs_len] at hk
      have hall : ∀ j, j < i.k → eK l j = 0 := fun j hj => by rw [← errs_get (eK l) (show j < l.entries.length by omega)]; exact i.all j hj
      have hok := hasOk_all hl.s hl.v i.k hk hall
      repeat' (first | refine zq0 ?_ | refine zq1 ?_ | refine zq2 ?_ | refine zq3 ?_ | refine zq4 ?_ | refine zq5 ?_ | refine thenK_n ?_ | refine thenK_x ?_ | refine thenK_r ?_ | refine blockK_n ?_ | refine blockK_r ?_ | refine blockK_hit ?_ | refine blockK_miss (by decide) ?_)
      (refine sym_reg env fun Q hQ => ?_; simp only [vkt, Nat.reduceEqDiff, Nat.reduceAdd, Nat.reduceMul, Nat.reduceSub, Nat.reduceLeDiff, reduceCtorEq, ↓reduceIte, ↓reduceDIte, Int.reduceToNat, Int.reduceLE, Int.reduceLT, Int.reduceEq, Int.reduceNeg, tbF8_112, aI, aLed, cLed, aEnt, oTill, oHas, enS, s78, s140, p97, p101, mInt, mInts, mShs, mEnt, eEnt, gEnt]; (try simp only [ite_and]); (repeat' (first | with_reducible assumption | refine And.intro ?_ ?_ | intro hp)); all_goals (first | (refine hQ _ ?_; clear hQ; clear Q) | omega | assumption | (with_reducible rfl) | (refine drawB_of ?_; kernel_rfl) | skip))
      repeat' (first | refine zq0 ?_ | refine zq1 ?_ | refine zq2 ?_ | refine zq3 ?_ | refine zq4 ?_ | refine zq5 ?_ | refine thenK_n ?_ | refine thenK_x ?_ | refine thenK_r ?_ | refine blockK_n ?_ | refine blockK_r ?_ | refine blockK_hit ?_ | refine blockK_miss (by decide) ?_)
      (refine sym_cd (by simp only [vkt, Nat.reduceEqDiff, Nat.reduceAdd, Nat.reduceMul, Nat.reduceSub, Nat.reduceLeDiff, reduceCtorEq, ↓reduceIte, ↓reduceDIte, Int.reduceToNat, Int.reduceLE, Int.reduceLT, Int.reduceEq, Int.reduceNeg, tbF8_112, aI, aLed, cLed, aEnt, oTill, oHas, enS, s78, s140, p97, p101, mInt, mInts, mShs, mEnt, eEnt, gEnt]; rfl) (fun h => ?_) (fun h => ?_) <;> (try simp only [vki, reduceCtorEq] at h))
      · have hlt : i.k < l.entries.length := by omega
        have hS := stK_succ hlt
        have hE := eK_eq l i.k
        have out : ∀ e, eK l i.k = e → e ≠ 0 → entriesE l = e := fun e he h1 => by
          unfold entriesE
          rw [if_neg (by rw [h0]; simp), i.hit hlt (by rw [he]; exact h1), he]
        have hN : eK l i.k = 0 → ∃ i' : FI (errs l.entries.length (eK l)), l.entries.length - i'.k < l.entries.length - i.k ∧ i'.k = i.k + 1 := fun h1 => ⟨i.next hlt h1, by show l.entries.length - (i.k + 1) < _; omega, rfl⟩
        have e9 := wrap_succ hlt (show l.entries.length ≤ maxLen by have := tmax; omega)
        generalize hx : l.entries.getD i.k default = x at *
        generalize hst : stK l i.k = st at *
        obtain ⟨b, has⟩ := st
        dsimp only at hE hok hS
        by_cases c1 : entryE l x b = 0
        · have ho := entryE_ok c1
          have hen := enOk_of hok (by omega) ho
          have hlast := hen.c1
          have hc0 := hen.c0
          have e1 : entryE ⟨l.coins, l.rates, l.start, l.entries⟩ ⟨x.day, x.kind, x.coin, x.to, x.amount, x.got⟩ b = 0 := c1
          have g0 := gI0 hlast
          have hen' : EnOk has ⟨x.day, x.kind, x.coin, x.to, x.amount, x.got⟩ := hen
          have h9 : ((x.kind = 2 ∨ x.kind = 3) ∧ has.getD x.coin.toNat 0 < x.amount) → entriesE l = 9 := fun hh => out 9 (by rw [hE]; unfold eV; rw [if_neg (by rw [c1]; simp), if_pos hh]) (by decide)
          have h10 : ¬ ((x.kind = 2 ∨ x.kind = 3) ∧ has.getD x.coin.toNat 0 < x.amount) → ∃ i' : FI (errs l.entries.length (eK l)), l.entries.length - i'.k < l.entries.length - i.k ∧ i'.k = i.k + 1 := fun hh => hN (by rw [hE]; unfold eV; rw [if_neg (by rw [c1]; simp), if_neg hh])
          repeat' (first | refine zq0 ?_ | refine zq1 ?_ | refine zq2 ?_ | refine zq3 ?_ | refine zq4 ?_ | refine zq5 ?_ | refine thenK_n ?_ | refine thenK_x ?_ | refine thenK_r ?_ | refine blockK_n ?_ | refine blockK_r ?_ | refine blockK_hit ?_ | refine blockK_miss (by decide) ?_ | ((first | refine sym_reg env fun Q hQ => ?_ | refine sym_cz fun Q hQ => ?_); simp only [vkt, Nat.reduceEqDiff, Nat.reduceAdd, Nat.reduceMul, Nat.reduceSub, Nat.reduceLeDiff, reduceCtorEq, ↓reduceIte, ↓reduceDIte, Int.reduceToNat, Int.reduceLE, Int.reduceLT, Int.reduceEq, Int.reduceNeg, tbF8_112, aI, aLed, cLed, aEnt, oTill, oHas, enS, s78, s140, p97, p101, mInt, mInts, mShs, mEnt, eEnt, gEnt, hx, e1, g0, eInt]; (try simp only [ite_and]); (repeat' (first | with_reducible assumption | refine And.intro ?_ ?_ | intro hp)); all_goals (first | (refine hQ _ ?_; clear hQ; clear Q) | (refine hQ _ (fun h => ?_) (fun h => ?_) <;> clear hQ <;> clear Q <;> (try simp only [vki, reduceCtorEq] at h)) | omega | assumption | (with_reducible rfl) | (refine drawB_of ?_; kernel_rfl) | skip)))
          all_goals first
            | ((simp only [retK, leaveA, resL, tupA, rd, wCells_some, wRow_some, Try.results112, vkt, Nat.reduceEqDiff, Nat.reduceAdd, Nat.reduceMul, Nat.reduceSub, Nat.reduceLeDiff, reduceCtorEq, ↓reduceIte, ↓reduceDIte, Int.reduceToNat, Int.reduceLE, Int.reduceLT, Int.reduceEq, Int.reduceNeg, tbF8_112, aI, aLed, cLed, aEnt, oTill, oHas, enS, s78, s140, p97, p101, mInt, mInts, mShs, mEnt, eEnt, gEnt]; refine Fin.val rfl ?_; (try simp only [AV.le, AV.leL])); all_goals rw [h9 (by omega)])
            | (obtain ⟨i', g1, g2⟩ := h10 (by omega); refine ⟨i', g1, ?_⟩; rw [g2]; (refine Le.ok some [] ⟨?_, ?_, ?_, ?_, ?_, ?_, ?_, ?_, ?_, ?_, ?_⟩; all_goals (try simp only [leT, leH, leO, ADf.leL, imgs, idsT, idsH, List.filterMap_cons, List.filterMap_nil, List.flatMap_nil, Nat.lt_irrefl, Nat.not_lt_zero, vkt, Nat.reduceEqDiff, Nat.reduceAdd, Nat.reduceMul, Nat.reduceSub, Nat.reduceLeDiff, reduceCtorEq, ↓reduceIte, ↓reduceDIte, Int.reduceToNat, Int.reduceLE, Int.reduceLT, Int.reduceEq, Int.reduceNeg, tbF8_112, aI, aLed, cLed, aEnt, oTill, oHas, enS, s78, s140, p97, p101, mInt, mInts, mShs, mEnt, eEnt, gEnt])); all_goals simp [hS, e9])
        · have e1 : ¬ entryE ⟨l.coins, l.rates, l.start, l.entries⟩ ⟨x.day, x.kind, x.coin, x.to, x.amount, x.got⟩ b = 0 := c1
          repeat' (first | refine zq0 ?_ | refine zq1 ?_ | refine zq2 ?_ | refine zq3 ?_ | refine zq4 ?_ | refine zq5 ?_ | refine thenK_n ?_ | refine thenK_x ?_ | refine thenK_r ?_ | refine blockK_n ?_ | refine blockK_r ?_ | refine blockK_hit ?_ | refine blockK_miss (by decide) ?_ | ((first | refine sym_reg env fun Q hQ => ?_ | refine sym_cz fun Q hQ => ?_); simp only [vkt, Nat.reduceEqDiff, Nat.reduceAdd, Nat.reduceMul, Nat.reduceSub, Nat.reduceLeDiff, reduceCtorEq, ↓reduceIte, ↓reduceDIte, Int.reduceToNat, Int.reduceLE, Int.reduceLT, Int.reduceEq, Int.reduceNeg, tbF8_112, aI, aLed, cLed, aEnt, oTill, oHas, enS, s78, s140, p97, p101, mInt, mInts, mShs, mEnt, eEnt, gEnt, hx, e1]; (try simp only [ite_and]); (repeat' (first | with_reducible assumption | refine And.intro ?_ ?_ | intro hp)); all_goals (first | (refine hQ _ ?_; clear hQ; clear Q) | (refine hQ _ (fun h => ?_) (fun h => ?_) <;> clear hQ <;> clear Q <;> (try simp only [vki, reduceCtorEq] at h)) | omega | assumption | (with_reducible rfl) | (refine drawB_of ?_; kernel_rfl) | skip)))
          (simp only [retK, leaveA, resL, tupA, rd, wCells_some, wRow_some, Try.results112, vkt, Nat.reduceEqDiff, Nat.reduceAdd, Nat.reduceMul, Nat.reduceSub, Nat.reduceLeDiff, reduceCtorEq, ↓reduceIte, ↓reduceDIte, Int.reduceToNat, Int.reduceLE, Int.reduceLT, Int.reduceEq, Int.reduceNeg, tbF8_112, aI, aLed, cLed, aEnt, oTill, oHas, enS, s78, s140, p97, p101, mInt, mInts, mShs, mEnt, eEnt, gEnt]; refine Fin.val rfl ?_; (try simp only [AV.le, AV.leL]))
          all_goals rw [out _ hE (by unfold eV; rw [if_pos c1]; exact c1)]
          all_goals (unfold eV; rw [if_pos c1])
      · repeat' (first | refine zq0 ?_ | refine zq1 ?_ | refine zq2 ?_ | refine zq3 ?_ | refine zq4 ?_ | refine zq5 ?_ | refine thenK_n ?_ | refine thenK_x ?_ | refine thenK_r ?_ | refine blockK_n ?_ | refine blockK_r ?_ | refine blockK_hit ?_ | refine blockK_miss (by decide) ?_ | ((first | refine sym_reg env fun Q hQ => ?_ | refine sym_cz fun Q hQ => ?_); simp only [vkt, Nat.reduceEqDiff, Nat.reduceAdd, Nat.reduceMul, Nat.reduceSub, Nat.reduceLeDiff, reduceCtorEq, ↓reduceIte, ↓reduceDIte, Int.reduceToNat, Int.reduceLE, Int.reduceLT, Int.reduceEq, Int.reduceNeg, tbF8_112, aI, aLed, cLed, aEnt, oTill, oHas, enS, s78, s140, p97, p101, mInt, mInts, mShs, mEnt, eEnt, gEnt]; (try simp only [ite_and]); (repeat' (first | with_reducible assumption | refine And.intro ?_ ?_ | intro hp)); all_goals (first | (refine hQ _ ?_; clear hQ; clear Q) | (refine hQ _ (fun h => ?_) (fun h => ?_) <;> clear hQ <;> clear Q <;> (try simp only [vki, reduceCtorEq] at h)) | omega | assumption | (with_reducible rfl) | (refine drawB_of ?_; kernel_rfl) | skip)))
        (simp only [retK, leaveA, resL, tupA, rd, wCells_some, wRow_some, Try.results112, vkt, Nat.reduceEqDiff, Nat.reduceAdd, Nat.reduceMul, Nat.reduceSub, Nat.reduceLeDiff, reduceCtorEq, ↓reduceIte, ↓reduceDIte, Int.reduceToNat, Int.reduceLE, Int.reduceLT, Int.reduceEq, Int.reduceNeg, tbF8_112, aI, aLed, cLed, aEnt, oTill, oHas, enS, s78, s140, p97, p101, mInt, mInts, mShs, mEnt, eEnt, gEnt]; refine Fin.val rfl ?_; (try simp only [AV.le, AV.leL]))
        all_goals (unfold entriesE; rw [if_neg (by rw [h0]; simp), i.last (by omega)])
  · repeat' (first | refine zq0 ?_ | refine zq1 ?_ | refine zq2 ?_ | refine zq3 ?_ | refine zq4 ?_ | refine zq5 ?_ | refine thenK_n ?_ | refine thenK_x ?_ | refine thenK_r ?_ | refine blockK_n ?_ | refine blockK_r ?_ | refine blockK_hit ?_ | refine blockK_miss (by decide) ?_ | ((first | refine sym_reg env fun Q hQ => ?_ | refine sym_cz fun Q hQ => ?_); simp only [vkt, Nat.reduceEqDiff, Nat.reduceAdd, Nat.reduceMul, Nat.reduceSub, Nat.reduceLeDiff, reduceCtorEq, ↓reduceIte, ↓reduceDIte, Int.reduceToNat, Int.reduceLE, Int.reduceLT, Int.reduceEq, Int.reduceNeg, tbF8_112, aI, aLed, cLed, aEnt, oTill, oHas, enS, s78, s140, p97, p101, mInt, mInts, mShs, mEnt, eEnt, gEnt, h0]; (try simp only [ite_and]); (repeat' (first | with_reducible assumption | refine And.intro ?_ ?_ | intro hp)); all_goals (first | (refine hQ _ ?_; clear hQ; clear Q) | (refine hQ _ (fun h => ?_) (fun h => ?_) <;> clear hQ <;> clear Q <;> (try simp only [vki, reduceCtorEq] at h)) | omega | assumption | (with_reducible rfl) | (refine drawB_of ?_; kernel_rfl) | skip)))
    (simp only [retK, leaveA, resL, tupA, rd, wCells_some, wRow_some, Try.results112, vkt, Nat.reduceEqDiff, Nat.reduceAdd, Nat.reduceMul, Nat.reduceSub, Nat.reduceLeDiff, reduceCtorEq, ↓reduceIte, ↓reduceDIte, Int.reduceToNat, Int.reduceLE, Int.reduceLT, Int.reduceEq, Int.reduceNeg, tbF8_112, aI, aLed, cLed, aEnt, oTill, oHas, enS, s78, s140, p97, p101, mInt, mInts, mShs, mEnt, eEnt, gEnt]; refine Fin.val rfl ?_; (try simp only [AV.le, AV.leL]))
    all_goals simp [entriesE, h0]
def s112 : List AV → Prop × AV
  | [.agg [.sl cs, .sl rs, .sl ss, .sl es]] => (cs = (cs.map dInts).map eInts ∧ rs = (rs.map dShs).map eShs ∧ ss = (ss.map dInt).map eInt ∧ es = (es.map dEnt).map eEnt ∧ EsOk ⟨cs.map dInts, rs.map dShs, ss.map dInt, es.map dEnt⟩, aI (entriesE ⟨cs.map dInts, rs.map dShs, ss.map dInt, es.map dEnt⟩))
  | _ => (False, .junk)
theorem e112 {A : Frm → Prop} : EntryOK A Try.prog 112 (valE true s112) := valE_ok fun vs hv h => by
  clear hv
  unfold s112 at h ⊢
  split at h
  · rename_i cs rs ss es
    obtain ⟨h1, h2, h3, h4, h5⟩ := h
    refine ⟨trivial, fun _ => trivial, ?_⟩
    have := entries_fn ⟨cs.map dInts, rs.map dShs, ss.map dInt, es.map dEnt⟩ h5
    simp only [aLed, cLed, ← h1, ← h2, ← h3, ← h4] at this
    exact this
  · exact h.elim
end Go.Sym.B
namespace Go.Sym.B
open Go Go.Sym Go.Proofs Go.Sym.C
structure Fit (l : Led) : Prop where
  c : l.coins.length ≤ 20
  cs : ∀ p ∈ l.coins, p.length ≤ 20
  r : l.rates.length ≤ 20
  rs : ∀ p ∈ l.rates, p.length ≤ 20
  s : l.start.length ≤ 20
  e : l.entries.length ≤ 20
def startE (l : Led) (k : Nat) : Int := if !inB (l.start.getD k 0) 0 999 then 1 else 0
def ckCoin (l : Led) (k : Nat) : Int := coinE (l.coins.getD k [])
def ckRate (l : Led) (k : Nat) : Int := ratesE (l.rates.getD k []) l.coins.length
def checkE (l : Led) : Int :=
  if countedE l.coins.length 1 4 ≠ 0 then countedE l.coins.length 1 4 else if firstE (errs l.coins.length (ckCoin l)) ≠ 0 then firstE (errs l.coins.length (ckCoin l))
  else if countedE l.rates.length 1 4 ≠ 0 then countedE l.rates.length 1 4 else if firstE (errs l.rates.length (ckRate l)) ≠ 0 then firstE (errs l.rates.length (ckRate l))
  else if l.start.length ≠ l.coins.length then 2 else if firstE (errs l.start.length (startE l)) ≠ 0 then firstE (errs l.start.length (startE l)) else entriesE l
def ck1 (l : Led) (k : Nat) : St := { t := asg [(1, .ptr 0 0), (2, aI 0), (21, .sl (l.coins.map eInts)), (22, aI l.coins.length), (23, aI k)], h := hasg [(0, .cells (cLed l))], n := 1 }
def ck2 (l : Led) (k : Nat) : St := { t := asg [(1, .ptr 0 0), (2, aI 0), (41, .sl (l.rates.map eShs)), (42, aI l.rates.length), (43, aI k)], h := hasg [(0, .cells (cLed l))], n := 1 }
def ck3 (l : Led) (k : Nat) : St := { t := asg [(1, .ptr 0 0), (2, aI 0), (64, .sl (l.start.map eInt)), (65, aI l.start.length), (66, aI k)], h := hasg [(0, .cells (cLed l))], n := 1 }
def tbF9_50 := And.intro @ty3 (And.intro @ty22 (And.intro @ty28 (And.intro @ty30 (And.intro @ty35 (And.intro @ty38 (And.intro @ty55 (And.intro @ty59 (And.intro @ti3.eq_1 (And.intro @ti22.eq_1 (And.intro @ti28.eq_1 (And.intro @ti30.eq_1 (And.intro @ti35.eq_1 (And.intro @ti38.eq_1 (And.intro @ti55.eq_1 @ti59.eq_1))))))))))))))
set_option maxHeartbeats 1000000 in
theorem check_fn (l : Led) (hl : Fit l) : FnV Try.prog 50 [aLed l] (aI (checkE l)) := by
  have env : Env (fun _ => True) Try.prog tyB (tab [(78, valE true s78), (79, valE true s79), (110, valE true s110), (111, valE true s111), (112, valE true s112)]) := mkEnv ⟨e78, e79, e110, e111, e112, trivial⟩
  refine Fn.of (A := fun _ => True) (n0 := 0) (D := noD) (Fn0 Try.func50 rfl (fun vs w => by kernel_rfl) (by kernel_rfl)) (by simp) (by simp [AV.ids, AV.idsL, aLed, cLed]) (fun i o h => by cases h) (fun _ _ _ _ => trivial) noD_ok ?_
  have q1 := hl.c
  have q2 := hl.r
  have q3 := hl.e
  have q4 := hl.s
  have q5 := tmax
  by_cases h0 : countedE l.coins.length 1 4 = 0
  · repeat' (first | refine zq0 ?_ | refine zq1 ?_ | refine zq2 ?_ | refine zq3 ?_ | refine zq4 ?_ | refine zq5 ?_ | refine thenK_n ?_ | refine thenK_x ?_ | refine thenK_r ?_ | refine blockK_n ?_ | refine blockK_r ?_ | refine blockK_hit ?_ | refine blockK_miss (by decide) ?_ | ((first | refine sym_reg env fun Q hQ => ?_ | refine sym_cz fun Q hQ => ?_); simp only [vkt, Nat.reduceEqDiff, Nat.reduceAdd, Nat.reduceMul, Nat.reduceSub, Nat.reduceLeDiff, reduceCtorEq, ↓reduceIte, ↓reduceDIte, Int.reduceToNat, Int.reduceLE, Int.reduceLT, Int.reduceEq, Int.reduceNeg, tbF9_50, aI, aB, aLed, cLed, ck1, ck2, ck3, gInt, eInt, s78, s79, s110, s111, s112, mInt, mInts, mShs, mSh, mEnt, gInts, gShs, eInts, eShs, h0]; (try simp only [ite_and]); (repeat' (first | with_reducible assumption | refine And.intro ?_ ?_ | intro hp)); all_goals (first | (refine hQ _ ?_; clear hQ; clear Q) | (refine hQ _ (fun h => ?_) (fun h => ?_) <;> clear hQ <;> clear Q <;> (try simp only [vki, reduceCtorEq] at h)) | omega | assumption | (with_reducible rfl) | (refine drawB_of ?_; kernel_rfl) | skip)))
    refine sym_loop (ι := FI (errs l.coins.length (ckCoin l))) (fun i => ck1 l i.k) (fun i => l.coins.length - i.k) (FI.zero _) ?_ fun i => ?_
    · (refine Le.ok some [] ⟨?_, ?_, ?_, ?_, ?_, ?_, ?_, ?_, ?_, ?_, ?_⟩; all_goals (try simp only [leT, leH, leO, ADf.leL, imgs, idsT, idsH, List.filterMap_cons, List.filterMap_nil, List.flatMap_nil, Nat.lt_irrefl, Nat.not_lt_zero, vkt, Nat.reduceEqDiff, Nat.reduceAdd, Nat.reduceMul, Nat.reduceSub, Nat.reduceLeDiff, reduceCtorEq, ↓reduceIte, ↓reduceDIte, Int.reduceToNat, Int.reduceLE, Int.reduceLT, Int.reduceEq, Int.reduceNeg, tbF9_50, aI, aB, aLed, cLed, ck1, ck2, ck3, gInt, eInt, s78, s79, s110, s111, s112, mInt, mInts, mShs, mSh, mEnt, gInts, gShs, eInts, eShs]))
      all_goals simp [FI.zero]
    · have hk := i.le
      rw [errs_len] at hk
      repeat' (first | refine zq0 ?_ | refine zq1 ?_ | refine zq2 ?_ | refine zq3 ?_ | refine zq4 ?_ | refine zq5 ?_ | refine thenK_n ?_ | refine thenK_x ?_ | refine thenK_r ?_ | refine blockK_n ?_ | refine blockK_r ?_ | refine blockK_hit ?_ | refine blockK_miss (by decide) ?_)
      (refine sym_reg env fun Q hQ => ?_; simp only [vkt, Nat.reduceEqDiff, Nat.reduceAdd, Nat.reduceMul, Nat.reduceSub, Nat.reduceLeDiff, reduceCtorEq, ↓reduceIte, ↓reduceDIte, Int.reduceToNat, Int.reduceLE, Int.reduceLT, Int.reduceEq, Int.reduceNeg, tbF9_50, aI, aB, aLed, cLed, ck1, ck2, ck3, gInt, eInt, s78, s79, s110, s111, s112, mInt, mInts, mShs, mSh, mEnt, gInts, gShs, eInts, eShs]; (try simp only [ite_and]); (repeat' (first | with_reducible assumption | refine And.intro ?_ ?_ | intro hp)); all_goals (first | (refine hQ _ ?_; clear hQ; clear Q) | omega | assumption | (with_reducible rfl) | (refine drawB_of ?_; kernel_rfl) | skip))
      repeat' (first | refine zq0 ?_ | refine zq1 ?_ | refine zq2 ?_ | refine zq3 ?_ | refine zq4 ?_ | refine zq5 ?_ | refine thenK_n ?_ | refine thenK_x ?_ | refine thenK_r ?_ | refine blockK_n ?_ | refine blockK_r ?_ | refine blockK_hit ?_ | refine blockK_miss (by decide) ?_)
      (refine sym_cd (by simp only [vkt, Nat.reduceEqDiff, Nat.reduceAdd, Nat.reduceMul, Nat.reduceSub, Nat.reduceLeDiff, reduceCtorEq, ↓reduceIte, ↓reduceDIte, Int.reduceToNat, Int.reduceLE, Int.reduceLT, Int.reduceEq, Int.reduceNeg, tbF9_50, aI, aB, aLed, cLed, ck1, ck2, ck3, gInt, eInt, s78, s79, s110, s111, s112, mInt, mInts, mShs, mSh, mEnt, gInts, gShs, eInts, eShs]; rfl) (fun h => ?_) (fun h => ?_) <;> (try simp only [vki, reduceCtorEq] at h))
      · have hlt : i.k < l.coins.length := by omega
        have hp : (l.coins.getD i.k []).length ≤ maxLen := by have := hl.cs _ (gMem (d := []) hlt); omega
        have e9 := wrap_succ hlt (show l.coins.length ≤ maxLen by omega)
        by_cases c1 : coinE (l.coins.getD i.k []) = 0
        · repeat' (first | refine zq0 ?_ | refine zq1 ?_ | refine zq2 ?_ | refine zq3 ?_ | refine zq4 ?_ | refine zq5 ?_ | refine thenK_n ?_ | refine thenK_x ?_ | refine thenK_r ?_ | refine blockK_n ?_ | refine blockK_r ?_ | refine blockK_hit ?_ | refine blockK_miss (by decide) ?_ | ((first | refine sym_reg env fun Q hQ => ?_ | refine sym_cz fun Q hQ => ?_); simp only [vkt, Nat.reduceEqDiff, Nat.reduceAdd, Nat.reduceMul, Nat.reduceSub, Nat.reduceLeDiff, reduceCtorEq, ↓reduceIte, ↓reduceDIte, Int.reduceToNat, Int.reduceLE, Int.reduceLT, Int.reduceEq, Int.reduceNeg, tbF9_50, aI, aB, aLed, cLed, ck1, ck2, ck3, gInt, eInt, s78, s79, s110, s111, s112, mInt, mInts, mShs, mSh, mEnt, gInts, gShs, eInts, eShs, c1]; (try simp only [ite_and]); (repeat' (first | with_reducible assumption | refine And.intro ?_ ?_ | intro hp)); all_goals (first | (refine hQ _ ?_; clear hQ; clear Q) | (refine hQ _ (fun h => ?_) (fun h => ?_) <;> clear hQ <;> clear Q <;> (try simp only [vki, reduceCtorEq] at h)) | omega | assumption | (with_reducible rfl) | (refine drawB_of ?_; kernel_rfl) | skip)))
          refine ⟨i.next hlt c1, by show l.coins.length - (i.k + 1) < _; omega, ?_⟩
          (refine Le.ok some [] ⟨?_, ?_, ?_, ?_, ?_, ?_, ?_, ?_, ?_, ?_, ?_⟩; all_goals (try simp only [leT, leH, leO, ADf.leL, imgs, idsT, idsH, List.filterMap_cons, List.filterMap_nil, List.flatMap_nil, Nat.lt_irrefl, Nat.not_lt_zero, vkt, Nat.reduceEqDiff, Nat.reduceAdd, Nat.reduceMul, Nat.reduceSub, Nat.reduceLeDiff, reduceCtorEq, ↓reduceIte, ↓reduceDIte, Int.reduceToNat, Int.reduceLE, Int.reduceLT, Int.reduceEq, Int.reduceNeg, tbF9_50, aI, aB, aLed, cLed, ck1, ck2, ck3, gInt, eInt, s78, s79, s110, s111, s112, mInt, mInts, mShs, mSh, mEnt, gInts, gShs, eInts, eShs]))
          all_goals simp [FI.next, e9]
        · repeat' (first | refine zq0 ?_ | refine zq1 ?_ | refine zq2 ?_ | refine zq3 ?_ | refine zq4 ?_ | refine zq5 ?_ | refine thenK_n ?_ | refine thenK_x ?_ | refine thenK_r ?_ | refine blockK_n ?_ | refine blockK_r ?_ | refine blockK_hit ?_ | refine blockK_miss (by decide) ?_ | ((first | refine sym_reg env fun Q hQ => ?_ | refine sym_cz fun Q hQ => ?_); simp only [vkt, Nat.reduceEqDiff, Nat.reduceAdd, Nat.reduceMul, Nat.reduceSub, Nat.reduceLeDiff, reduceCtorEq, ↓reduceIte, ↓reduceDIte, Int.reduceToNat, Int.reduceLE, Int.reduceLT, Int.reduceEq, Int.reduceNeg, tbF9_50, aI, aB, aLed, cLed, ck1, ck2, ck3, gInt, eInt, s78, s79, s110, s111, s112, mInt, mInts, mShs, mSh, mEnt, gInts, gShs, eInts, eShs, c1]; (try simp only [ite_and]); (repeat' (first | with_reducible assumption | refine And.intro ?_ ?_ | intro hp)); all_goals (first | (refine hQ _ ?_; clear hQ; clear Q) | (refine hQ _ (fun h => ?_) (fun h => ?_) <;> clear hQ <;> clear Q <;> (try simp only [vki, reduceCtorEq] at h)) | omega | assumption | (with_reducible rfl) | (refine drawB_of ?_; kernel_rfl) | skip)))
          (simp only [retK, leaveA, resL, tupA, rd, wCells_some, wRow_some, Try.results50, vkt, Nat.reduceEqDiff, Nat.reduceAdd, Nat.reduceMul, Nat.reduceSub, Nat.reduceLeDiff, reduceCtorEq, ↓reduceIte, ↓reduceDIte, Int.reduceToNat, Int.reduceLE, Int.reduceLT, Int.reduceEq, Int.reduceNeg, tbF9_50, aI, aB, aLed, cLed, ck1, ck2, ck3, gInt, eInt, s78, s79, s110, s111, s112, mInt, mInts, mShs, mSh, mEnt, gInts, gShs, eInts, eShs]; refine Fin.val rfl ?_; (try simp only [AV.le, AV.leL]))
          have := i.hit hlt c1
          all_goals (unfold checkE; rw [if_neg (by rw [h0]; simp), if_pos (by rw [this]; exact c1), this]; rfl)
      · have hf1 := i.last (by omega)
        by_cases h2 : countedE l.rates.length 1 4 = 0
        · repeat' (first | refine zq0 ?_ | refine zq1 ?_ | refine zq2 ?_ | refine zq3 ?_ | refine zq4 ?_ | refine zq5 ?_ | refine thenK_n ?_ | refine thenK_x ?_ | refine thenK_r ?_ | refine blockK_n ?_ | refine blockK_r ?_ | refine blockK_hit ?_ | refine blockK_miss (by decide) ?_ | ((first | refine sym_reg env fun Q hQ => ?_ | refine sym_cz fun Q hQ => ?_); simp only [vkt, Nat.reduceEqDiff, Nat.reduceAdd, Nat.reduceMul, Nat.reduceSub, Nat.reduceLeDiff, reduceCtorEq, ↓reduceIte, ↓reduceDIte, Int.reduceToNat, Int.reduceLE, Int.reduceLT, Int.reduceEq, Int.reduceNeg, tbF9_50, aI, aB, aLed, cLed, ck1, ck2, ck3, gInt, eInt, s78, s79, s110, s111, s112, mInt, mInts, mShs, mSh, mEnt, gInts, gShs, eInts, eShs, h2]; (try simp only [ite_and]); (repeat' (first | with_reducible assumption | refine And.intro ?_ ?_ | intro hp)); all_goals (first | (refine hQ _ ?_; clear hQ; clear Q) | (refine hQ _ (fun h => ?_) (fun h => ?_) <;> clear hQ <;> clear Q <;> (try simp only [vki, reduceCtorEq] at h)) | omega | assumption | (with_reducible rfl) | (refine drawB_of ?_; kernel_rfl) | skip)))
          refine sym_loop (ι := FI (errs l.rates.length (ckRate l))) (fun i => ck2 l i.k) (fun i => l.rates.length - i.k) (FI.zero _) ?_ fun i => ?_
          · (refine Le.ok some [] ⟨?_, ?_, ?_, ?_, ?_, ?_, ?_, ?_, ?_, ?_, ?_⟩; all_goals (try simp only [leT, leH, leO, ADf.leL, imgs, idsT, idsH, List.filterMap_cons, List.filterMap_nil, List.flatMap_nil, Nat.lt_irrefl, Nat.not_lt_zero, vkt, Nat.reduceEqDiff, Nat.reduceAdd, Nat.reduceMul, Nat.reduceSub, Nat.reduceLeDiff, reduceCtorEq, ↓reduceIte, ↓reduceDIte, Int.reduceToNat, Int.reduceLE, Int.reduceLT, Int.reduceEq, Int.reduceNeg, tbF9_50, aI, aB, aLed, cLed, ck1, ck2, ck3, gInt, eInt, s78, s79, s110, s111, s112, mInt, mInts, mShs, mSh, mEnt, gInts, gShs, eInts, eShs]))
            all_goals simp [FI.zero]
          · have hk := i.le
            rw [errs_len] at hk
            have hco : 1 ≤ l.coins.length := by unfold countedE at h0; split at h0 <;> simp at h0; omega
            repeat' (first | refine zq0 ?_ | refine zq1 ?_ | refine zq2 ?_ | refine zq3 ?_ | refine zq4 ?_ | refine zq5 ?_ | refine thenK_n ?_ | refine thenK_x ?_ | refine thenK_r ?_ | refine blockK_n ?_ | refine blockK_r ?_ | refine blockK_hit ?_ | refine blockK_miss (by decide) ?_)
            (refine sym_reg env fun Q hQ => ?_; simp only [vkt, Nat.reduceEqDiff, Nat.reduceAdd, Nat.reduceMul, Nat.reduceSub, Nat.reduceLeDiff, reduceCtorEq, ↓reduceIte, ↓reduceDIte, Int.reduceToNat, Int.reduceLE, Int.reduceLT, Int.reduceEq, Int.reduceNeg, tbF9_50, aI, aB, aLed, cLed, ck1, ck2, ck3, gInt, eInt, s78, s79, s110, s111, s112, mInt, mInts, mShs, mSh, mEnt, gInts, gShs, eInts, eShs]; (try simp only [ite_and]); (repeat' (first | with_reducible assumption | refine And.intro ?_ ?_ | intro hp)); all_goals (first | (refine hQ _ ?_; clear hQ; clear Q) | omega | assumption | (with_reducible rfl) | (refine drawB_of ?_; kernel_rfl) | skip))
            repeat' (first | refine zq0 ?_ | refine zq1 ?_ | refine zq2 ?_ | refine zq3 ?_ | refine zq4 ?_ | refine zq5 ?_ | refine thenK_n ?_ | refine thenK_x ?_ | refine thenK_r ?_ | refine blockK_n ?_ | refine blockK_r ?_ | refine blockK_hit ?_ | refine blockK_miss (by decide) ?_)
            (refine sym_cd (by simp only [vkt, Nat.reduceEqDiff, Nat.reduceAdd, Nat.reduceMul, Nat.reduceSub, Nat.reduceLeDiff, reduceCtorEq, ↓reduceIte, ↓reduceDIte, Int.reduceToNat, Int.reduceLE, Int.reduceLT, Int.reduceEq, Int.reduceNeg, tbF9_50, aI, aB, aLed, cLed, ck1, ck2, ck3, gInt, eInt, s78, s79, s110, s111, s112, mInt, mInts, mShs, mSh, mEnt, gInts, gShs, eInts, eShs]; rfl) (fun h => ?_) (fun h => ?_) <;> (try simp only [vki, reduceCtorEq] at h))
            · have hlt : i.k < l.rates.length := by omega
              have hp : (l.rates.getD i.k []).length ≤ maxLen := by have := hl.rs _ (gMem (d := []) hlt); omega
              have e9 := wrap_succ hlt (show l.rates.length ≤ maxLen by omega)
              by_cases c1 : ratesE (l.rates.getD i.k []) l.coins.length = 0
              · repeat' (first | refine zq0 ?_ | refine zq1 ?_ | refine zq2 ?_ | refine zq3 ?_ | refine zq4 ?_ | refine zq5 ?_ | refine thenK_n ?_ | refine thenK_x ?_ | refine thenK_r ?_ | refine blockK_n ?_ | refine blockK_r ?_ | refine blockK_hit ?_ | refine blockK_miss (by decide) ?_ | ((first | refine sym_reg env fun Q hQ => ?_ | refine sym_cz fun Q hQ => ?_); simp only [vkt, Nat.reduceEqDiff, Nat.reduceAdd, Nat.reduceMul, Nat.reduceSub, Nat.reduceLeDiff, reduceCtorEq, ↓reduceIte, ↓reduceDIte, Int.reduceToNat, Int.reduceLE, Int.reduceLT, Int.reduceEq, Int.reduceNeg, tbF9_50, aI, aB, aLed, cLed, ck1, ck2, ck3, gInt, eInt, s78, s79, s110, s111, s112, mInt, mInts, mShs, mSh, mEnt, gInts, gShs, eInts, eShs, c1]; (try simp only [ite_and]); (repeat' (first | with_reducible assumption | refine And.intro ?_ ?_ | intro hp)); all_goals (first | (refine hQ _ ?_; clear hQ; clear Q) | (refine hQ _ (fun h => ?_) (fun h => ?_) <;> clear hQ <;> clear Q <;> (try simp only [vki, reduceCtorEq] at h)) | omega | assumption | (with_reducible rfl) | (refine drawB_of ?_; kernel_rfl) | skip)))
                refine ⟨i.next hlt c1, by show l.rates.length - (i.k + 1) < _; omega, ?_⟩
                (refine Le.ok some [] ⟨?_, ?_, ?_, ?_, ?_, ?_, ?_, ?_, ?_, ?_, ?_⟩; all_goals (try simp only [leT, leH, leO, ADf.leL, imgs, idsT, idsH, List.filterMap_cons, List.filterMap_nil, List.flatMap_nil, Nat.lt_irrefl, Nat.not_lt_zero, vkt, Nat.reduceEqDiff, Nat.reduceAdd, Nat.reduceMul, Nat.reduceSub, Nat.reduceLeDiff, reduceCtorEq, ↓reduceIte, ↓reduceDIte, Int.reduceToNat, Int.reduceLE, Int.reduceLT, Int.reduceEq, Int.reduceNeg, tbF9_50, aI, aB, aLed, cLed, ck1, ck2, ck3, gInt, eInt, s78, s79, s110, s111, s112, mInt, mInts, mShs, mSh, mEnt, gInts, gShs, eInts, eShs]))
                all_goals simp [FI.next, e9]
              · repeat' (first | refine zq0 ?_ | refine zq1 ?_ | refine zq2 ?_ | refine zq3 ?_ | refine zq4 ?_ | refine zq5 ?_ | refine thenK_n ?_ | refine thenK_x ?_ | refine thenK_r ?_ | refine blockK_n ?_ | refine blockK_r ?_ | refine blockK_hit ?_ | refine blockK_miss (by decide) ?_ | ((first | refine sym_reg env fun Q hQ => ?_ | refine sym_cz fun Q hQ => ?_); simp only [vkt, Nat.reduceEqDiff, Nat.reduceAdd, Nat.reduceMul, Nat.reduceSub, Nat.reduceLeDiff, reduceCtorEq, ↓reduceIte, ↓reduceDIte, Int.reduceToNat, Int.reduceLE, Int.reduceLT, Int.reduceEq, Int.reduceNeg, tbF9_50, aI, aB, aLed, cLed, ck1, ck2, ck3, gInt, eInt, s78, s79, s110, s111, s112, mInt, mInts, mShs, mSh, mEnt, gInts, gShs, eInts, eShs, c1]; (try simp only [ite_and]); (repeat' (first | with_reducible assumption | refine And.intro ?_ ?_ | intro hp)); all_goals (first | (refine hQ _ ?_; clear hQ; clear Q) | (refine hQ _ (fun h => ?_) (fun h => ?_) <;> clear hQ <;> clear Q <;> (try simp only [vki, reduceCtorEq] at h)) | omega | assumption | (with_reducible rfl) | (refine drawB_of ?_; kernel_rfl) | skip)))
                (simp only [retK, leaveA, resL, tupA, rd, wCells_some, wRow_some, Try.results50, vkt, Nat.reduceEqDiff, Nat.reduceAdd, Nat.reduceMul, Nat.reduceSub, Nat.reduceLeDiff, reduceCtorEq, ↓reduceIte, ↓reduceDIte, Int.reduceToNat, Int.reduceLE, Int.reduceLT, Int.reduceEq, Int.reduceNeg, tbF9_50, aI, aB, aLed, cLed, ck1, ck2, ck3, gInt, eInt, s78, s79, s110, s111, s112, mInt, mInts, mShs, mSh, mEnt, gInts, gShs, eInts, eShs]; refine Fin.val rfl ?_; (try simp only [AV.le, AV.leL]))
                have := i.hit hlt c1
                all_goals (unfold checkE; rw [if_neg (by rw [h0]; simp), if_neg (by rw [hf1]; simp), if_neg (by rw [h2]; simp), if_pos (by rw [this]; exact c1), this]; rfl)
            · have hf2 := i.last (by omega)
              by_cases h3 : l.start.length = l.coins.length
              · have h3' : (l.start.length : Int) = l.coins.length := by omega
                repeat' (first | refine zq0 ?_ | refine zq1 ?_ | refine zq2 ?_ | refine zq3 ?_ | refine zq4 ?_ | refine zq5 ?_ | refine thenK_n ?_ | refine thenK_x ?_ | refine thenK_r ?_ | refine blockK_n ?_ | refine blockK_r ?_ | refine blockK_hit ?_ | refine blockK_miss (by decide) ?_ | ((first | refine sym_reg env fun Q hQ => ?_ | refine sym_cz fun Q hQ => ?_); simp only [vkt, Nat.reduceEqDiff, Nat.reduceAdd, Nat.reduceMul, Nat.reduceSub, Nat.reduceLeDiff, reduceCtorEq, ↓reduceIte, ↓reduceDIte, Int.reduceToNat, Int.reduceLE, Int.reduceLT, Int.reduceEq, Int.reduceNeg, tbF9_50, aI, aB, aLed, cLed, ck1, ck2, ck3, gInt, eInt, s78, s79, s110, s111, s112, mInt, mInts, mShs, mSh, mEnt, gInts, gShs, eInts, eShs, h3']; (try simp only [ite_and]); (repeat' (first | with_reducible assumption | refine And.intro ?_ ?_ | intro hp)); all_goals (first | (refine hQ _ ?_; clear hQ; clear Q) | (refine hQ _ (fun h => ?_) (fun h => ?_) <;> clear hQ <;> clear Q <;> (try simp only [vki, reduceCtorEq] at h)) | omega | assumption | (with_reducible rfl) | (refine drawB_of ?_; kernel_rfl) | skip)))
                refine sym_loop (ι := FI (errs l.start.length (startE l))) (fun i => ck3 l i.k) (fun i => l.start.length - i.k) (FI.zero _) ?_ fun i => ?_
                · (refine Le.ok some [] ⟨?_, ?_, ?_, ?_, ?_, ?_, ?_, ?_, ?_, ?_, ?_⟩; all_goals (try simp only [leT, leH, leO, ADf.leL, imgs, idsT, idsH, List.filterMap_cons, List.filterMap_nil, List.flatMap_nil, Nat.lt_irrefl, Nat.not_lt_zero, vkt, Nat.reduceEqDiff, Nat.reduceAdd, Nat.reduceMul, Nat.reduceSub, Nat.reduceLeDiff, reduceCtorEq, ↓reduceIte, ↓reduceDIte, Int.reduceToNat, Int.reduceLE, Int.reduceLT, Int.reduceEq, Int.reduceNeg, tbF9_50, aI, aB, aLed, cLed, ck1, ck2, ck3, gInt, eInt, s78, s79, s110, s111, s112, mInt, mInts, mShs, mSh, mEnt, gInts, gShs, eInts, eShs]))
                  all_goals simp [FI.zero, h3]
                · have hk := i.le
                  rw [errs_len] at hk
                  repeat' (first | refine zq0 ?_ | refine zq1 ?_ | refine zq2 ?_ | refine zq3 ?_ | refine zq4 ?_ | refine zq5 ?_ | refine thenK_n ?_ | refine thenK_x ?_ | refine thenK_r ?_ | refine blockK_n ?_ | refine blockK_r ?_ | refine blockK_hit ?_ | refine blockK_miss (by decide) ?_)
                  (refine sym_reg env fun Q hQ => ?_; simp only [vkt, Nat.reduceEqDiff, Nat.reduceAdd, Nat.reduceMul, Nat.reduceSub, Nat.reduceLeDiff, reduceCtorEq, ↓reduceIte, ↓reduceDIte, Int.reduceToNat, Int.reduceLE, Int.reduceLT, Int.reduceEq, Int.reduceNeg, tbF9_50, aI, aB, aLed, cLed, ck1, ck2, ck3, gInt, eInt, s78, s79, s110, s111, s112, mInt, mInts, mShs, mSh, mEnt, gInts, gShs, eInts, eShs]; (try simp only [ite_and]); (repeat' (first | with_reducible assumption | refine And.intro ?_ ?_ | intro hp)); all_goals (first | (refine hQ _ ?_; clear hQ; clear Q) | omega | assumption | (with_reducible rfl) | (refine drawB_of ?_; kernel_rfl) | skip))
                  repeat' (first | refine zq0 ?_ | refine zq1 ?_ | refine zq2 ?_ | refine zq3 ?_ | refine zq4 ?_ | refine zq5 ?_ | refine thenK_n ?_ | refine thenK_x ?_ | refine thenK_r ?_ | refine blockK_n ?_ | refine blockK_r ?_ | refine blockK_hit ?_ | refine blockK_miss (by decide) ?_)
                  (refine sym_cd (by simp only [vkt, Nat.reduceEqDiff, Nat.reduceAdd, Nat.reduceMul, Nat.reduceSub, Nat.reduceLeDiff, reduceCtorEq, ↓reduceIte, ↓reduceDIte, Int.reduceToNat, Int.reduceLE, Int.reduceLT, Int.reduceEq, Int.reduceNeg, tbF9_50, aI, aB, aLed, cLed, ck1, ck2, ck3, gInt, eInt, s78, s79, s110, s111, s112, mInt, mInts, mShs, mSh, mEnt, gInts, gShs, eInts, eShs]; rfl) (fun h => ?_) (fun h => ?_) <;> (try simp only [vki, reduceCtorEq] at h))
                  · have hlt : i.k < l.start.length := by omega
                    have e9 := wrap_succ hlt (show l.start.length ≤ maxLen by omega)
                    by_cases c1 : inB (l.start.getD i.k 0) 0 999 = true
                    · repeat' (first | refine zq0 ?_ | refine zq1 ?_ | refine zq2 ?_ | refine zq3 ?_ | refine zq4 ?_ | refine zq5 ?_ | refine thenK_n ?_ | refine thenK_x ?_ | refine thenK_r ?_ | refine blockK_n ?_ | refine blockK_r ?_ | refine blockK_hit ?_ | refine blockK_miss (by decide) ?_ | ((first | refine sym_reg env fun Q hQ => ?_ | refine sym_cz fun Q hQ => ?_); simp only [vkt, Nat.reduceEqDiff, Nat.reduceAdd, Nat.reduceMul, Nat.reduceSub, Nat.reduceLeDiff, reduceCtorEq, ↓reduceIte, ↓reduceDIte, Int.reduceToNat, Int.reduceLE, Int.reduceLT, Int.reduceEq, Int.reduceNeg, tbF9_50, aI, aB, aLed, cLed, ck1, ck2, ck3, gInt, eInt, s78, s79, s110, s111, s112, mInt, mInts, mShs, mSh, mEnt, gInts, gShs, eInts, eShs, c1]; (try simp only [ite_and]); (repeat' (first | with_reducible assumption | refine And.intro ?_ ?_ | intro hp)); all_goals (first | (refine hQ _ ?_; clear hQ; clear Q) | (refine hQ _ (fun h => ?_) (fun h => ?_) <;> clear hQ <;> clear Q <;> (try simp only [vki, reduceCtorEq] at h)) | omega | assumption | (with_reducible rfl) | (refine drawB_of ?_; kernel_rfl) | skip)))
                      refine ⟨i.next hlt (by unfold startE; rw [c1]; rfl), by show l.start.length - (i.k + 1) < _; omega, ?_⟩
                      (refine Le.ok some [] ⟨?_, ?_, ?_, ?_, ?_, ?_, ?_, ?_, ?_, ?_, ?_⟩; all_goals (try simp only [leT, leH, leO, ADf.leL, imgs, idsT, idsH, List.filterMap_cons, List.filterMap_nil, List.flatMap_nil, Nat.lt_irrefl, Nat.not_lt_zero, vkt, Nat.reduceEqDiff, Nat.reduceAdd, Nat.reduceMul, Nat.reduceSub, Nat.reduceLeDiff, reduceCtorEq, ↓reduceIte, ↓reduceDIte, Int.reduceToNat, Int.reduceLE, Int.reduceLT, Int.reduceEq, Int.reduceNeg, tbF9_50, aI, aB, aLed, cLed, ck1, ck2, ck3, gInt, eInt, s78, s79, s110, s111, s112, mInt, mInts, mShs, mSh, mEnt, gInts, gShs, eInts, eShs]))
                      all_goals simp [FI.next, e9]
                    · have c1 : inB (l.start.getD i.k 0) 0 999 = false := by simpa using c1
                      repeat' (first | refine zq0 ?_ | refine zq1 ?_ | refine zq2 ?_ | refine zq3 ?_ | refine zq4 ?_ | refine zq5 ?_ | refine thenK_n ?_ | refine thenK_x ?_ | refine thenK_r ?_ | refine blockK_n ?_ | refine blockK_r ?_ | refine blockK_hit ?_ | refine blockK_miss (by decide) ?_ | ((first | refine sym_reg env fun Q hQ => ?_ | refine sym_cz fun Q hQ => ?_); simp only [vkt, Nat.reduceEqDiff, Nat.reduceAdd, Nat.reduceMul, Nat.reduceSub, Nat.reduceLeDiff, reduceCtorEq, ↓reduceIte, ↓reduceDIte, Int.reduceToNat, Int.reduceLE, Int.reduceLT, Int.reduceEq, Int.reduceNeg, tbF9_50, aI, aB, aLed, cLed, ck1, ck2, ck3, gInt, eInt, s78, s79, s110, s111, s112, mInt, mInts, mShs, mSh, mEnt, gInts, gShs, eInts, eShs, c1]; (try simp only [ite_and]); (repeat' (first | with_reducible assumption | refine And.intro ?_ ?_ | intro hp)); all_goals (first | (refine hQ _ ?_; clear hQ; clear Q) | (refine hQ _ (fun h => ?_) (fun h => ?_) <;> clear hQ <;> clear Q <;> (try simp only [vki, reduceCtorEq] at h)) | omega | assumption | (with_reducible rfl) | (refine drawB_of ?_; kernel_rfl) | skip)))
                      (simp only [retK, leaveA, resL, tupA, rd, wCells_some, wRow_some, Try.results50, vkt, Nat.reduceEqDiff, Nat.reduceAdd, Nat.reduceMul, Nat.reduceSub, Nat.reduceLeDiff, reduceCtorEq, ↓reduceIte, ↓reduceDIte, Int.reduceToNat, Int.reduceLE, Int.reduceLT, Int.reduceEq, Int.reduceNeg, tbF9_50, aI, aB, aLed, cLed, ck1, ck2, ck3, gInt, eInt, s78, s79, s110, s111, s112, mInt, mInts, mShs, mSh, mEnt, gInts, gShs, eInts, eShs]; refine Fin.val rfl ?_; (try simp only [AV.le, AV.leL]))
                      have := i.hit hlt (by unfold startE; rw [c1]; simp)
                      have h1 : startE l i.k = 1 := by unfold startE; rw [c1]; rfl
                      all_goals (unfold checkE; rw [if_neg (by rw [h0]; simp), if_neg (by rw [hf1]; simp), if_neg (by rw [h2]; simp), if_neg (by rw [hf2]; simp), if_neg (by rw [h3]; simp), if_pos (by rw [this, h1]; simp), this, h1])
                  · have hf3 := i.last (by omega)
                    have hes : EsOk ⟨l.coins, l.rates, l.start, l.entries⟩ := ⟨q1, q2, q3, h3, fun v hv => by
                      have hv : v ∈ l.start := hv
                      obtain ⟨j, hj, rfl⟩ := List.getElem_of_mem hv
                      have := i.all j (by omega)
                      rw [errs_get _ hj] at this
                      unfold startE at this
                      cases hb : inB (l.start.getD j 0) 0 999 with
                      | true => rw [inB_iff] at hb; simpa [List.getD_eq_getElem?_getD, hj] using hb
                      | false => rw [hb] at this; simp at this⟩
                    repeat' (first | refine zq0 ?_ | refine zq1 ?_ | refine zq2 ?_ | refine zq3 ?_ | refine zq4 ?_ | refine zq5 ?_ | refine thenK_n ?_ | refine thenK_x ?_ | refine thenK_r ?_ | refine blockK_n ?_ | refine blockK_r ?_ | refine blockK_hit ?_ | refine blockK_miss (by decide) ?_ | ((first | refine sym_reg env fun Q hQ => ?_ | refine sym_cz fun Q hQ => ?_); simp only [vkt, Nat.reduceEqDiff, Nat.reduceAdd, Nat.reduceMul, Nat.reduceSub, Nat.reduceLeDiff, reduceCtorEq, ↓reduceIte, ↓reduceDIte, Int.reduceToNat, Int.reduceLE, Int.reduceLT, Int.reduceEq, Int.reduceNeg, tbF9_50, aI, aB, aLed, cLed, ck1, ck2, ck3, gInt, eInt, s78, s79, s110, s111, s112, mInt, mInts, mShs, mSh, mEnt, gInts, gShs, eInts, eShs]; (try simp only [ite_and]); (repeat' (first | with_reducible assumption | refine And.intro ?_ ?_ | intro hp)); all_goals (first | (refine hQ _ ?_; clear hQ; clear Q) | (refine hQ _ (fun h => ?_) (fun h => ?_) <;> clear hQ <;> clear Q <;> (try simp only [vki, reduceCtorEq] at h)) | omega | assumption | (with_reducible rfl) | (refine drawB_of ?_; kernel_rfl) | skip)))
                    (simp only [retK, leaveA, resL, tupA, rd, wCells_some, wRow_some, Try.results50, vkt, Nat.reduceEqDiff, Nat.reduceAdd, Nat.reduceMul, Nat.reduceSub, Nat.reduceLeDiff, reduceCtorEq, ↓reduceIte, ↓reduceDIte, Int.reduceToNat, Int.reduceLE, Int.reduceLT, Int.reduceEq, Int.reduceNeg, tbF9_50, aI, aB, aLed, cLed, ck1, ck2, ck3, gInt, eInt, s78, s79, s110, s111, s112, mInt, mInts, mShs, mSh, mEnt, gInts, gShs, eInts, eShs]; refine Fin.val rfl ?_; (try simp only [AV.le, AV.leL]))
                    all_goals (unfold checkE; rw [if_neg (by rw [h0]; simp), if_neg (by rw [hf1]; simp), if_neg (by rw [h2]; simp), if_neg (by rw [hf2]; simp), if_neg (by rw [h3]; simp), if_neg (by rw [hf3]; simp)])
              · have h3' : ¬ (l.start.length : Int) = l.coins.length := by omega
                repeat' (first | refine zq0 ?_ | refine zq1 ?_ | refine zq2 ?_ | refine zq3 ?_ | refine zq4 ?_ | refine zq5 ?_ | refine thenK_n ?_ | refine thenK_x ?_ | refine thenK_r ?_ | refine blockK_n ?_ | refine blockK_r ?_ | refine blockK_hit ?_ | refine blockK_miss (by decide) ?_ | ((first | refine sym_reg env fun Q hQ => ?_ | refine sym_cz fun Q hQ => ?_); simp only [vkt, Nat.reduceEqDiff, Nat.reduceAdd, Nat.reduceMul, Nat.reduceSub, Nat.reduceLeDiff, reduceCtorEq, ↓reduceIte, ↓reduceDIte, Int.reduceToNat, Int.reduceLE, Int.reduceLT, Int.reduceEq, Int.reduceNeg, tbF9_50, aI, aB, aLed, cLed, ck1, ck2, ck3, gInt, eInt, s78, s79, s110, s111, s112, mInt, mInts, mShs, mSh, mEnt, gInts, gShs, eInts, eShs, h3']; (try simp only [ite_and]); (repeat' (first | with_reducible assumption | refine And.intro ?_ ?_ | intro hp)); all_goals (first | (refine hQ _ ?_; clear hQ; clear Q) | (refine hQ _ (fun h => ?_) (fun h => ?_) <;> clear hQ <;> clear Q <;> (try simp only [vki, reduceCtorEq] at h)) | omega | assumption | (with_reducible rfl) | (refine drawB_of ?_; kernel_rfl) | skip)))
                (simp only [retK, leaveA, resL, tupA, rd, wCells_some, wRow_some, Try.results50, vkt, Nat.reduceEqDiff, Nat.reduceAdd, Nat.reduceMul, Nat.reduceSub, Nat.reduceLeDiff, reduceCtorEq, ↓reduceIte, ↓reduceDIte, Int.reduceToNat, Int.reduceLE, Int.reduceLT, Int.reduceEq, Int.reduceNeg, tbF9_50, aI, aB, aLed, cLed, ck1, ck2, ck3, gInt, eInt, s78, s79, s110, s111, s112, mInt, mInts, mShs, mSh, mEnt, gInts, gShs, eInts, eShs]; refine Fin.val rfl ?_; (try simp only [AV.le, AV.leL]))
                all_goals (unfold checkE; rw [if_neg (by rw [h0]; simp), if_neg (by rw [hf1]; simp), if_neg (by rw [h2]; simp), if_neg (by rw [hf2]; simp), if_pos h3])
        · repeat' (first | refine zq0 ?_ | refine zq1 ?_ | refine zq2 ?_ | refine zq3 ?_ | refine zq4 ?_ | refine zq5 ?_ | refine thenK_n ?_ | refine thenK_x ?_ | refine thenK_r ?_ | refine blockK_n ?_ | refine blockK_r ?_ | refine blockK_hit ?_ | refine blockK_miss (by decide) ?_ | ((first | refine sym_reg env fun Q hQ => ?_ | refine sym_cz fun Q hQ => ?_); simp only [vkt, Nat.reduceEqDiff, Nat.reduceAdd, Nat.reduceMul, Nat.reduceSub, Nat.reduceLeDiff, reduceCtorEq, ↓reduceIte, ↓reduceDIte, Int.reduceToNat, Int.reduceLE, Int.reduceLT, Int.reduceEq, Int.reduceNeg, tbF9_50, aI, aB, aLed, cLed, ck1, ck2, ck3, gInt, eInt, s78, s79, s110, s111, s112, mInt, mInts, mShs, mSh, mEnt, gInts, gShs, eInts, eShs, h2]; (try simp only [ite_and]); (repeat' (first | with_reducible assumption | refine And.intro ?_ ?_ | intro hp)); all_goals (first | (refine hQ _ ?_; clear hQ; clear Q) | (refine hQ _ (fun h => ?_) (fun h => ?_) <;> clear hQ <;> clear Q <;> (try simp only [vki, reduceCtorEq] at h)) | omega | assumption | (with_reducible rfl) | (refine drawB_of ?_; kernel_rfl) | skip)))
          (simp only [retK, leaveA, resL, tupA, rd, wCells_some, wRow_some, Try.results50, vkt, Nat.reduceEqDiff, Nat.reduceAdd, Nat.reduceMul, Nat.reduceSub, Nat.reduceLeDiff, reduceCtorEq, ↓reduceIte, ↓reduceDIte, Int.reduceToNat, Int.reduceLE, Int.reduceLT, Int.reduceEq, Int.reduceNeg, tbF9_50, aI, aB, aLed, cLed, ck1, ck2, ck3, gInt, eInt, s78, s79, s110, s111, s112, mInt, mInts, mShs, mSh, mEnt, gInts, gShs, eInts, eShs]; refine Fin.val rfl ?_; (try simp only [AV.le, AV.leL]))
          all_goals (unfold checkE; rw [if_neg (by rw [h0]; simp), if_neg (by rw [hf1]; simp), if_pos h2])
  · repeat' (first | refine zq0 ?_ | refine zq1 ?_ | refine zq2 ?_ | refine zq3 ?_ | refine zq4 ?_ | refine zq5 ?_ | refine thenK_n ?_ | refine thenK_x ?_ | refine thenK_r ?_ | refine blockK_n ?_ | refine blockK_r ?_ | refine blockK_hit ?_ | refine blockK_miss (by decide) ?_ | ((first | refine sym_reg env fun Q hQ => ?_ | refine sym_cz fun Q hQ => ?_); simp only [vkt, Nat.reduceEqDiff, Nat.reduceAdd, Nat.reduceMul, Nat.reduceSub, Nat.reduceLeDiff, reduceCtorEq, ↓reduceIte, ↓reduceDIte, Int.reduceToNat, Int.reduceLE, Int.reduceLT, Int.reduceEq, Int.reduceNeg, tbF9_50, aI, aB, aLed, cLed, ck1, ck2, ck3, gInt, eInt, s78, s79, s110, s111, s112, mInt, mInts, mShs, mSh, mEnt, gInts, gShs, eInts, eShs, h0]; (try simp only [ite_and]); (repeat' (first | with_reducible assumption | refine And.intro ?_ ?_ | intro hp)); all_goals (first | (refine hQ _ ?_; clear hQ; clear Q) | (refine hQ _ (fun h => ?_) (fun h => ?_) <;> clear hQ <;> clear Q <;> (try simp only [vki, reduceCtorEq] at h)) | omega | assumption | (with_reducible rfl) | (refine drawB_of ?_; kernel_rfl) | skip)))
    (simp only [retK, leaveA, resL, tupA, rd, wCells_some, wRow_some, Try.results50, vkt, Nat.reduceEqDiff, Nat.reduceAdd, Nat.reduceMul, Nat.reduceSub, Nat.reduceLeDiff, reduceCtorEq, ↓reduceIte, ↓reduceDIte, Int.reduceToNat, Int.reduceLE, Int.reduceLT, Int.reduceEq, Int.reduceNeg, tbF9_50, aI, aB, aLed, cLed, ck1, ck2, ck3, gInt, eInt, s78, s79, s110, s111, s112, mInt, mInts, mShs, mSh, mEnt, gInts, gShs, eInts, eShs]; refine Fin.val rfl ?_; (try simp only [AV.le, AV.leL]))
    all_goals simp [checkE, h0]
end Go.Sym.B
namespace Go.Sym.B
open Go Go.Sym Go.Proofs Go.Sym.C
def isL (cs rs ss es : List (List DV)) : Prop := cs = (cs.map dInts).map eInts ∧ rs = (rs.map dShs).map eShs ∧ ss = (ss.map dInt).map eInt ∧ es = (es.map dEnt).map eEnt
def ldOf (cs rs ss es : List (List DV)) : Led := ⟨cs.map dInts, rs.map dShs, ss.map dInt, es.map dEnt⟩
theorem isL_e (l : Led) : isL (l.coins.map eInts) (l.rates.map eShs) (l.start.map eInt) (l.entries.map eEnt) = True := by simp only [isL, mInts, mShs, mInt, mEnt, and_self]
theorem ldOf_e (l : Led) : ldOf (l.coins.map eInts) (l.rates.map eShs) (l.start.map eInt) (l.entries.map eEnt) = l := by simp only [ldOf, mInts, mShs, mInt, mEnt]
theorem aLed_of {cs rs ss es : List (List DV)} (h : isL cs rs ss es) : aLed (ldOf cs rs ss es) = .agg [.sl cs, .sl rs, .sl ss, .sl es] := by
  simp only [aLed, cLed, ldOf, ← h.1, ← h.2.1, ← h.2.2.1, ← h.2.2.2]
def c50 : List AV → Prop × AV
  | [.agg [.sl cs, .sl rs, .sl ss, .sl es]] => (isL cs rs ss es ∧ Fit (ldOf cs rs ss es), aI (checkE (ldOf cs rs ss es)))
  | _ => (False, .junk)
theorem d50 {A : Frm → Prop} : EntryOK A Try.prog 50 (valE true c50) := valE_ok fun vs hv h => by
  clear hv
  unfold c50 at h ⊢
  split at h
  · refine ⟨trivial, fun _ => trivial, ?_⟩
    rw [← aLed_of h.1]; exact check_fn _ h.2
  · exact h.elim
theorem firstE_zero : ∀ {E : List Int}, firstE E = 0 → ∀ e ∈ E, e = 0
  | e :: r, h, x, hx => by
    unfold firstE at h
    split at h
    · rename_i he
      rcases List.mem_cons.1 hx with rfl | hx
      · exact he
      · exact firstE_zero h x hx
    · exact absurd h ‹_›
theorem errs_zero {n : Nat} {f : Nat → Int} (h : firstE (errs n f) = 0) {k : Nat} (hk : k < n) : f k = 0 :=
  firstE_zero h _ (List.mem_map.2 ⟨k, List.mem_range.2 hk, rfl⟩)
theorem counted_zero {n a b : Int} (h : countedE n a b = 0) : a ≤ n ∧ n ≤ b := by
  unfold countedE at h
  split at h
  · exact absurd h (by decide)
  · split at h
    · exact absurd h (by decide)
    · omega
structure Val (l : Led) : Prop where
  c : 1 ≤ l.coins.length ∧ l.coins.length ≤ 4
  cs : ∀ k, k < l.coins.length → coinE (l.coins.getD k []) = 0
  r : 1 ≤ l.rates.length ∧ l.rates.length ≤ 4
  rs : ∀ k, k < l.rates.length → ratesE (l.rates.getD k []) l.coins.length = 0
  sl : l.start.length = l.coins.length
  s : ∀ v ∈ l.start, 0 ≤ v ∧ v ≤ 999
  e : l.entries.length ≤ 6
  es : ∀ k, k < l.entries.length → eK l k = 0
theorem val_of {l : Led} (h : checkE l = 0) : Val l := by
  unfold checkE at h
  split at h
  · exact absurd h ‹_›
  rename_i a1
  split at h
  · exact absurd h ‹_›
  rename_i a2
  split at h
  · exact absurd h ‹_›
  rename_i a3
  split at h
  · exact absurd h ‹_›
  rename_i a4
  split at h
  · exact absurd h (by decide)
  rename_i a5
  split at h
  · exact absurd h ‹_›
  rename_i a6
  unfold entriesE at h
  split at h
  · exact absurd h ‹_›
  rename_i a7
  have a1 := counted_zero (Decidable.not_not.1 a1)
  have a2 := Decidable.not_not.1 a2
  have a3 := counted_zero (Decidable.not_not.1 a3)
  have a4 := Decidable.not_not.1 a4
  have a5 := Decidable.not_not.1 a5
  have a6 := Decidable.not_not.1 a6
  have a7 := counted_zero (Decidable.not_not.1 a7)
  refine ⟨by omega, fun k hk => errs_zero a2 hk, by omega, fun k hk => errs_zero a4 hk, a5, fun v hv => ?_, by omega, fun k hk => errs_zero h hk⟩
  obtain ⟨j, hj, rfl⟩ := List.getElem_of_mem hv
  have := errs_zero a6 hj
  unfold startE at this
  cases hb : inB (l.start.getD j 0) 0 999 with
  | true => rw [inB_iff] at hb; simpa [List.getD_eq_getElem?_getD, hj] using hb
  | false => rw [hb] at this; simp at this
def rsh (l : Led) (d c : Int) : Sh := (l.rates.getD d.toNat []).getD c.toNat default
def rq (l : Led) (d c : Int) : Rat := qI (rsh l d c).num (rsh l d c).den
structure Rt (l : Led) (d c : Int) : Prop where
  d0 : 0 ≤ d
  d1 : d.toNat < l.rates.length
  c0 : 0 ≤ c
  c1 : c.toNat < (l.rates.getD d.toNat []).length
  q : rsh l d c = shQ (rq l d c)
  n0 : 1 ≤ (rq l d c).num
  n1 : (rq l d c).num ≤ 20
  e1 : (rq l d c).den ≤ 12
theorem val_rt {l : Led} (h : Val l) {d c : Int} (hd : 0 ≤ d) (hd' : d ≤ (l.rates.length : Int) - 1) (hc : 0 ≤ c) (hc' : c ≤ (l.coins.length : Int) - 1) : Rt l d c := by
  have h1 := h.rs d.toNat (by omega)
  unfold ratesE at h1
  split at h1
  · exact absurd h1 (by decide)
  rename_i a1
  split at h1
  · exact absurd h1 (by decide)
  rename_i a2
  have a1 := Decidable.not_not.1 a1
  have a2 := Decidable.not_not.1 a2
  have key : rsh l d c = shQ (rq l d c) ∧ 1 ≤ (rsh l d c).num ∧ (rsh l d c).num ≤ 20 ∧ (rsh l d c).den ≤ 12 := by
    by_cases hc0 : c.toNat = 0
    · have : rsh l d c = ⟨1, 1⟩ := by unfold rsh; rw [hc0]; exact a2
      unfold rq
      rw [this]
      exact ⟨by decide, by decide, by decide, by decide⟩
    · have h2 := errs_zero h1 (k := c.toNat - 1) (by omega)
      unfold rateE at h2
      rw [show 1 + (c.toNat - 1) = c.toNat by omega] at h2
      change shE (rsh l d c) = 0 at h2
      generalize hs : rsh l d c = s at *
      unfold shE at h2
      split at h2
      · exact absurd h2 (by decide)
      rename_i b1
      split at h2
      · exact absurd h2 (by decide)
      rename_i b2
      split at h2
      · exact absurd h2 (by decide)
      rename_i b3
      have b1 : 1 ≤ s.num ∧ s.num ≤ 20 := by simpa [inB] using b1
      have b2 : 1 ≤ s.den ∧ s.den ≤ 12 := by simpa [inB] using b2
      refine ⟨?_, b1.1, b1.2, b2.2⟩
      unfold rq; rw [hs]; exact Decidable.not_not.1 b3
  have k1 := congrArg Sh.num key.1
  have k2 := congrArg Sh.den key.1
  refine ⟨hd, by omega, hc, by omega, key.1, ?_, ?_, ?_⟩
  · have : (rsh l d c).num = (rq l d c).num := k1; omega
  · have : (rsh l d c).num = (rq l d c).num := k1; omega
  · have : (rsh l d c).den = ((rq l d c).den : Int) := k2; omega
theorem rt_bd {l : Led} {d c : Int} (h : Rt l d c) : Bd 20 (rq l d c) := by
  have h1 := h.n0
  have h2 := h.n1
  have h3 := h.e1
  have h4 := den_pos (rq l d c)
  refine ⟨?_, by omega, by omega⟩
  generalize (rq l d c).den = n at *
  have : n = 1 ∨ n = 2 ∨ n = 3 ∨ n = 4 ∨ n = 5 ∨ n = 6 ∨ n = 7 ∨ n = 8 ∨ n = 9 ∨ n = 10 ∨ n = 11 ∨ n = 12 := by omega
  rcases this with rfl | rfl | rfl | rfl | rfl | rfl | rfl | rfl | rfl | rfl | rfl | rfl <;> decide
theorem tm_of {q : Rat} {n : Int} (hq : Bd 20 q) (h0 : -100000 ≤ n) (h1 : n ≤ 100000) : Tm q n := ⟨hq.sm (by decide), by omega, by omega⟩
def tbF10_98 := And.intro @ty35 (And.intro @ty38 (And.intro @ty55 (And.intro @ty59 (And.intro @ty107 (And.intro @ti35.eq_1 (And.intro @ti38.eq_1 (And.intro @ti55.eq_1 (And.intro @ti59.eq_1 @ti107.eq_1))))))))
theorem rate_fn (l : Led) (d c : Int) (h : Rt l d c) : FnV Try.prog 98 [aLed l, aI d, aI c] (aSh (shQ (rq l d c))) := by
  have env : Env (fun _ => True) Try.prog tyB (tab []) := mkEnv trivial
  refine Fn.of (A := fun _ => True) (n0 := 0) (D := noD) (Fn0 Try.func98 rfl (fun vs w => by kernel_rfl) (by kernel_rfl)) (by simp) (by simp [AV.ids, AV.idsL, aLed, cLed, aI]) (fun i o h => by cases h) (fun _ _ _ _ => trivial) noD_ok ?_
  have q1 := h.d0
  have q2 := h.d1
  have q3 := h.c0
  have q4 := h.c1
  repeat' (first | refine zq0 ?_ | refine zq1 ?_ | refine zq2 ?_ | refine zq3 ?_ | refine zq4 ?_ | refine zq5 ?_ | refine thenK_n ?_ | refine thenK_x ?_ | refine thenK_r ?_ | refine blockK_n ?_ | refine blockK_r ?_ | refine blockK_hit ?_ | refine blockK_miss (by decide) ?_ | ((first | refine sym_reg env fun Q hQ => ?_ | refine sym_cz fun Q hQ => ?_); simp only [vkt, Nat.reduceEqDiff, Nat.reduceAdd, Nat.reduceMul, Nat.reduceSub, Nat.reduceLeDiff, reduceCtorEq, ↓reduceIte, ↓reduceDIte, Int.reduceToNat, Int.reduceLE, Int.reduceLT, Int.reduceEq, Int.reduceNeg, tbF10_98, aI, aB, aLed, cLed, aSh, gShs, gSh, eShs, eSh]; (try simp only [ite_and]); (repeat' (first | with_reducible assumption | refine And.intro ?_ ?_ | intro hp)); all_goals (first | (refine hQ _ ?_; clear hQ; clear Q) | (refine hQ _ (fun h => ?_) (fun h => ?_) <;> clear hQ <;> clear Q <;> (try simp only [vki, reduceCtorEq] at h)) | omega | assumption | (with_reducible rfl) | (refine drawB_of ?_; kernel_rfl) | skip)))
  (simp only [retK, leaveA, resL, tupA, rd, wCells_some, wRow_some, Try.results98, vkt, Nat.reduceEqDiff, Nat.reduceAdd, Nat.reduceMul, Nat.reduceSub, Nat.reduceLeDiff, reduceCtorEq, ↓reduceIte, ↓reduceDIte, Int.reduceToNat, Int.reduceLE, Int.reduceLT, Int.reduceEq, Int.reduceNeg, tbF10_98, aI, aB, aLed, cLed, aSh, gShs, gSh, eShs, eSh]; refine Fin.val rfl ?_; (try simp only [AV.le, AV.leL]))
  all_goals (rw [← h.q]; exact ⟨rfl, rfl, trivial⟩)
def c98 : List AV → Prop × AV
  | [.agg [.sl cs, .sl rs, .sl ss, .sl es], .v (.int .i64 d), .v (.int .i64 c)] => (isL cs rs ss es ∧ Rt (ldOf cs rs ss es) d c, aSh (shQ (rq (ldOf cs rs ss es) d c)))
  | _ => (False, .junk)
theorem d98 {A : Frm → Prop} : EntryOK A Try.prog 98 (valE true c98) := valE_ok fun vs hv h => by
  clear hv
  unfold c98 at h ⊢
  split at h
  · refine ⟨by simp [AV.plain, AV.plainL, aSh], fun _ => by simp [AV.flat, AV.flatL, aSh], ?_⟩
    rw [← aLed_of h.1]; exact rate_fn _ _ _ h.2
  · exact h.elim
end Go.Sym.B
namespace Go.Sym.B
open Go Go.Sym Go.Proofs Go.Sym.C
def tbF11_89 := And.intro @ty38 (And.intro @ty107 (And.intro @ti38.eq_1 @ti107.eq_1))
theorem exact_fn (l : Led) (d a b n : Int) (h1 : Rt l d a) (h2 : Rt l d b) (hn : 0 ≤ n) (hn' : n ≤ 50000) : FnV Try.prog 89 [aLed l, aI d, aI a, aI b, aI n] (aSh (shQ (rq l d a * n / rq l d b))) := by
  have env : Env (fun _ => True) Try.prog tyB (tab [(98, valE true c98), (99, valE true s99), (135, valE true s135)]) := mkEnv ⟨d98, e99, e135, trivial⟩
  refine Fn.of (A := fun _ => True) (n0 := 0) (D := noD) (Fn0 Try.func89 rfl (fun vs w => by kernel_rfl) (by kernel_rfl)) (by simp) (by simp [AV.ids, AV.idsL, aLed, cLed, aI]) (fun i o h => by cases h) (fun _ _ _ _ => trivial) noD_ok ?_
  have g1 := rt_bd h1
  have g2 := tm_of g1 (show -100000 ≤ n by omega) (by omega)
  have g3 := (g1.muli (C := 50000) (n := n) (by omega) (by omega)).sm (by decide)
  have g4 := (rt_bd h2).sm (by decide)
  have g5 : 0 < (rq l d b).num := by have := h2.n0; omega
  have g6 : (rq l d b).num ≤ 1048576 := by have := h2.n1; omega
  repeat' (first | refine zq0 ?_ | refine zq1 ?_ | refine zq2 ?_ | refine zq3 ?_ | refine zq4 ?_ | refine zq5 ?_ | refine thenK_n ?_ | refine thenK_x ?_ | refine thenK_r ?_ | refine blockK_n ?_ | refine blockK_r ?_ | refine blockK_hit ?_ | refine blockK_miss (by decide) ?_ | ((first | refine sym_reg env fun Q hQ => ?_ | refine sym_cz fun Q hQ => ?_); simp only [vkt, Nat.reduceEqDiff, Nat.reduceAdd, Nat.reduceMul, Nat.reduceSub, Nat.reduceLeDiff, reduceCtorEq, ↓reduceIte, ↓reduceDIte, Int.reduceToNat, Int.reduceLE, Int.reduceLT, Int.reduceEq, Int.reduceNeg, tbF11_89, aI, aB, aLed, cLed, aSh, shQ, c98, s99, s135, isL_e, ldOf_e, isQ_q, qI_q]; (try simp only [ite_and]); (repeat' (first | with_reducible assumption | refine And.intro ?_ ?_ | intro hp)); all_goals (first | (refine hQ _ ?_; clear hQ; clear Q) | (refine hQ _ (fun h => ?_) (fun h => ?_) <;> clear hQ <;> clear Q <;> (try simp only [vki, reduceCtorEq] at h)) | omega | assumption | (with_reducible rfl) | (refine drawB_of ?_; kernel_rfl) | skip)))
  (simp only [retK, leaveA, resL, tupA, rd, wCells_some, wRow_some, Try.results89, vkt, Nat.reduceEqDiff, Nat.reduceAdd, Nat.reduceMul, Nat.reduceSub, Nat.reduceLeDiff, reduceCtorEq, ↓reduceIte, ↓reduceDIte, Int.reduceToNat, Int.reduceLE, Int.reduceLT, Int.reduceEq, Int.reduceNeg, tbF11_89, aI, aB, aLed, cLed, aSh, shQ, c98, s99, s135, isL_e, ldOf_e, isQ_q, qI_q]; refine Fin.val rfl ?_; (try simp only [AV.le, AV.leL]))
  all_goals simp
def c89 : List AV → Prop × AV
  | [.agg [.sl cs, .sl rs, .sl ss, .sl es], .v (.int .i64 d), .v (.int .i64 a), .v (.int .i64 b), .v (.int .i64 n)] => (isL cs rs ss es ∧ Rt (ldOf cs rs ss es) d a ∧ Rt (ldOf cs rs ss es) d b ∧ 0 ≤ n ∧ n ≤ 50000, aSh (shQ (rq (ldOf cs rs ss es) d a * n / rq (ldOf cs rs ss es) d b)))
  | _ => (False, .junk)
theorem d89 {A : Frm → Prop} : EntryOK A Try.prog 89 (valE true c89) := valE_ok fun vs hv h => by
  clear hv
  unfold c89 at h ⊢
  split at h
  · refine ⟨by simp [AV.plain, AV.plainL, aSh], fun _ => by simp [AV.flat, AV.flatL, aSh], ?_⟩
    rw [← aLed_of h.1]; exact exact_fn _ _ _ _ _ h.2.1 h.2.2.1 h.2.2.2.1 h.2.2.2.2
  · exact h.elim
def chkSwapE (l : Led) (d a b n : Int) : Int := if checkE l ≠ 0 then checkE l else if !inB d 0 ((l.rates.length : Int) - 1) then 3 else if !inB a 0 ((l.coins.length : Int) - 1) then 3 else if !inB b 0 ((l.coins.length : Int) - 1) then 3 else if a = b then 4 else if !inB n 0 999 then 1 else 0
def tbF11_106 := And.intro @ty3 (And.intro @ty22 (And.intro @ty28 (And.intro @ty30 (And.intro @ty35 (And.intro @ty38 (And.intro @ty55 (And.intro @ti3.eq_1 (And.intro @ti22.eq_1 (And.intro @ti28.eq_1 (And.intro @ti30.eq_1 (And.intro @ti35.eq_1 (And.intro @ti38.eq_1 @ti55.eq_1))))))))))))
theorem chkSwap_fn (l : Led) (d a b n : Int) (hl : Fit l) : FnV Try.prog 106 [aLed l, aI d, aI a, aI b, aI n] (aI (chkSwapE l d a b n)) := by
  have env : Env (fun _ => True) Try.prog tyB (tab [(50, valE true c50), (79, valE true s79)]) := mkEnv ⟨d50, e79, trivial⟩
  refine Fn.of (A := fun _ => True) (n0 := 0) (D := noD) (Fn0 Try.func106 rfl (fun vs w => by kernel_rfl) (by kernel_rfl)) (by simp) (by simp [AV.ids, AV.idsL, aLed, cLed, aI]) (fun i o h => by cases h) (fun _ _ _ _ => trivial) noD_ok ?_
  have q1 := hl.c
  have q2 := hl.r
  have w1 : IntKind.wrap .i64 ((l.rates.length : Int) - 1) = (l.rates.length : Int) - 1 := wrap64 (by omega) (by omega)
  have w2 : IntKind.wrap .i64 ((l.coins.length : Int) - 1) = (l.coins.length : Int) - 1 := wrap64 (by omega) (by omega)
  by_cases c0 : checkE l = 0
  · cases c1 : inB d 0 ((l.rates.length : Int) - 1)
    · repeat' (first | refine zq0 ?_ | refine zq1 ?_ | refine zq2 ?_ | refine zq3 ?_ | refine zq4 ?_ | refine zq5 ?_ | refine thenK_n ?_ | refine thenK_x ?_ | refine thenK_r ?_ | refine blockK_n ?_ | refine blockK_r ?_ | refine blockK_hit ?_ | refine blockK_miss (by decide) ?_ | ((first | refine sym_reg env fun Q hQ => ?_ | refine sym_cz fun Q hQ => ?_); simp only [vkt, Nat.reduceEqDiff, Nat.reduceAdd, Nat.reduceMul, Nat.reduceSub, Nat.reduceLeDiff, reduceCtorEq, ↓reduceIte, ↓reduceDIte, Int.reduceToNat, Int.reduceLE, Int.reduceLT, Int.reduceEq, Int.reduceNeg, tbF11_106, aI, aB, aLed, cLed, c50, s79, isL_e, ldOf_e, w1, w2, c0, c1]; (try simp only [ite_and]); (repeat' (first | with_reducible assumption | refine And.intro ?_ ?_ | intro hp)); all_goals (first | (refine hQ _ ?_; clear hQ; clear Q) | (refine hQ _ (fun h => ?_) (fun h => ?_) <;> clear hQ <;> clear Q <;> (try simp only [vki, reduceCtorEq] at h)) | omega | assumption | (with_reducible rfl) | (refine drawB_of ?_; kernel_rfl) | skip)))
      (simp only [retK, leaveA, resL, tupA, rd, wCells_some, wRow_some, Try.results106, vkt, Nat.reduceEqDiff, Nat.reduceAdd, Nat.reduceMul, Nat.reduceSub, Nat.reduceLeDiff, reduceCtorEq, ↓reduceIte, ↓reduceDIte, Int.reduceToNat, Int.reduceLE, Int.reduceLT, Int.reduceEq, Int.reduceNeg, tbF11_106, aI, aB, aLed, cLed, c50, s79, isL_e, ldOf_e]; refine Fin.val rfl ?_; (try simp only [AV.le, AV.leL]))
      all_goals simp [chkSwapE, *]
    cases c2 : inB a 0 ((l.coins.length : Int) - 1)
    · repeat' (first | refine zq0 ?_ | refine zq1 ?_ | refine zq2 ?_ | refine zq3 ?_ | refine zq4 ?_ | refine zq5 ?_ | refine thenK_n ?_ | refine thenK_x ?_ | refine thenK_r ?_ | refine blockK_n ?_ | refine blockK_r ?_ | refine blockK_hit ?_ | refine blockK_miss (by decide) ?_ | ((first | refine sym_reg env fun Q hQ => ?_ | refine sym_cz fun Q hQ => ?_); simp only [vkt, Nat.reduceEqDiff, Nat.reduceAdd, Nat.reduceMul, Nat.reduceSub, Nat.reduceLeDiff, reduceCtorEq, ↓reduceIte, ↓reduceDIte, Int.reduceToNat, Int.reduceLE, Int.reduceLT, Int.reduceEq, Int.reduceNeg, tbF11_106, aI, aB, aLed, cLed, c50, s79, isL_e, ldOf_e, w1, w2, c0, c1, c2]; (try simp only [ite_and]); (repeat' (first | with_reducible assumption | refine And.intro ?_ ?_ | intro hp)); all_goals (first | (refine hQ _ ?_; clear hQ; clear Q) | (refine hQ _ (fun h => ?_) (fun h => ?_) <;> clear hQ <;> clear Q <;> (try simp only [vki, reduceCtorEq] at h)) | omega | assumption | (with_reducible rfl) | (refine drawB_of ?_; kernel_rfl) | skip)))
      (simp only [retK, leaveA, resL, tupA, rd, wCells_some, wRow_some, Try.results106, vkt, Nat.reduceEqDiff, Nat.reduceAdd, Nat.reduceMul, Nat.reduceSub, Nat.reduceLeDiff, reduceCtorEq, ↓reduceIte, ↓reduceDIte, Int.reduceToNat, Int.reduceLE, Int.reduceLT, Int.reduceEq, Int.reduceNeg, tbF11_106, aI, aB, aLed, cLed, c50, s79, isL_e, ldOf_e]; refine Fin.val rfl ?_; (try simp only [AV.le, AV.leL]))
      all_goals simp [chkSwapE, *]
    cases c3 : inB b 0 ((l.coins.length : Int) - 1)
    · repeat' (first | refine zq0 ?_ | refine zq1 ?_ | refine zq2 ?_ | refine zq3 ?_ | refine zq4 ?_ | refine zq5 ?_ | refine thenK_n ?_ | refine thenK_x ?_ | refine thenK_r ?_ | refine blockK_n ?_ | refine blockK_r ?_ | refine blockK_hit ?_ | refine blockK_miss (by decide) ?_ | ((first | refine sym_reg env fun Q hQ => ?_ | refine sym_cz fun Q hQ => ?_); simp only [vkt, Nat.reduceEqDiff, Nat.reduceAdd, Nat.reduceMul, Nat.reduceSub, Nat.reduceLeDiff, reduceCtorEq, ↓reduceIte, ↓reduceDIte, Int.reduceToNat, Int.reduceLE, Int.reduceLT, Int.reduceEq, Int.reduceNeg, tbF11_106, aI, aB, aLed, cLed, c50, s79, isL_e, ldOf_e, w1, w2, c0, c1, c2, c3]; (try simp only [ite_and]); (repeat' (first | with_reducible assumption | refine And.intro ?_ ?_ | intro hp)); all_goals (first | (refine hQ _ ?_; clear hQ; clear Q) | (refine hQ _ (fun h => ?_) (fun h => ?_) <;> clear hQ <;> clear Q <;> (try simp only [vki, reduceCtorEq] at h)) | omega | assumption | (with_reducible rfl) | (refine drawB_of ?_; kernel_rfl) | skip)))
      (simp only [retK, leaveA, resL, tupA, rd, wCells_some, wRow_some, Try.results106, vkt, Nat.reduceEqDiff, Nat.reduceAdd, Nat.reduceMul, Nat.reduceSub, Nat.reduceLeDiff, reduceCtorEq, ↓reduceIte, ↓reduceDIte, Int.reduceToNat, Int.reduceLE, Int.reduceLT, Int.reduceEq, Int.reduceNeg, tbF11_106, aI, aB, aLed, cLed, c50, s79, isL_e, ldOf_e]; refine Fin.val rfl ?_; (try simp only [AV.le, AV.leL]))
      all_goals simp [chkSwapE, *]
    repeat' (first | refine zq0 ?_ | refine zq1 ?_ | refine zq2 ?_ | refine zq3 ?_ | refine zq4 ?_ | refine zq5 ?_ | refine thenK_n ?_ | refine thenK_x ?_ | refine thenK_r ?_ | refine blockK_n ?_ | refine blockK_r ?_ | refine blockK_hit ?_ | refine blockK_miss (by decide) ?_ | ((first | refine sym_reg env fun Q hQ => ?_ | refine sym_cz fun Q hQ => ?_); simp only [vkt, Nat.reduceEqDiff, Nat.reduceAdd, Nat.reduceMul, Nat.reduceSub, Nat.reduceLeDiff, reduceCtorEq, ↓reduceIte, ↓reduceDIte, Int.reduceToNat, Int.reduceLE, Int.reduceLT, Int.reduceEq, Int.reduceNeg, tbF11_106, aI, aB, aLed, cLed, c50, s79, isL_e, ldOf_e, w1, w2, c0, c1, c2, c3]; (try simp only [ite_and]); (repeat' (first | with_reducible assumption | refine And.intro ?_ ?_ | intro hp)); all_goals (first | (refine hQ _ ?_; clear hQ; clear Q) | (refine hQ _ (fun h => ?_) (fun h => ?_) <;> clear hQ <;> clear Q <;> (try simp only [vki, reduceCtorEq] at h)) | omega | assumption | (with_reducible rfl) | (refine drawB_of ?_; kernel_rfl) | skip)))
    all_goals (simp only [retK, leaveA, resL, tupA, rd, wCells_some, wRow_some, Try.results106, vkt, Nat.reduceEqDiff, Nat.reduceAdd, Nat.reduceMul, Nat.reduceSub, Nat.reduceLeDiff, reduceCtorEq, ↓reduceIte, ↓reduceDIte, Int.reduceToNat, Int.reduceLE, Int.reduceLT, Int.reduceEq, Int.reduceNeg, tbF11_106, aI, aB, aLed, cLed, c50, s79, isL_e, ldOf_e]; refine Fin.val rfl ?_; (try simp only [AV.le, AV.leL]))
    all_goals simp [chkSwapE, *]
  · repeat' (first | refine zq0 ?_ | refine zq1 ?_ | refine zq2 ?_ | refine zq3 ?_ | refine zq4 ?_ | refine zq5 ?_ | refine thenK_n ?_ | refine thenK_x ?_ | refine thenK_r ?_ | refine blockK_n ?_ | refine blockK_r ?_ | refine blockK_hit ?_ | refine blockK_miss (by decide) ?_ | ((first | refine sym_reg env fun Q hQ => ?_ | refine sym_cz fun Q hQ => ?_); simp only [vkt, Nat.reduceEqDiff, Nat.reduceAdd, Nat.reduceMul, Nat.reduceSub, Nat.reduceLeDiff, reduceCtorEq, ↓reduceIte, ↓reduceDIte, Int.reduceToNat, Int.reduceLE, Int.reduceLT, Int.reduceEq, Int.reduceNeg, tbF11_106, aI, aB, aLed, cLed, c50, s79, isL_e, ldOf_e, w1, w2, c0]; (try simp only [ite_and]); (repeat' (first | with_reducible assumption | refine And.intro ?_ ?_ | intro hp)); all_goals (first | (refine hQ _ ?_; clear hQ; clear Q) | (refine hQ _ (fun h => ?_) (fun h => ?_) <;> clear hQ <;> clear Q <;> (try simp only [vki, reduceCtorEq] at h)) | omega | assumption | (with_reducible rfl) | (refine drawB_of ?_; kernel_rfl) | skip)))
    (simp only [retK, leaveA, resL, tupA, rd, wCells_some, wRow_some, Try.results106, vkt, Nat.reduceEqDiff, Nat.reduceAdd, Nat.reduceMul, Nat.reduceSub, Nat.reduceLeDiff, reduceCtorEq, ↓reduceIte, ↓reduceDIte, Int.reduceToNat, Int.reduceLE, Int.reduceLT, Int.reduceEq, Int.reduceNeg, tbF11_106, aI, aB, aLed, cLed, c50, s79, isL_e, ldOf_e]; refine Fin.val rfl ?_; (try simp only [AV.le, AV.leL]))
    all_goals simp [chkSwapE, c0]
def c106 : List AV → Prop × AV
  | [.agg [.sl cs, .sl rs, .sl ss, .sl es], .v (.int .i64 d), .v (.int .i64 a), .v (.int .i64 b), .v (.int .i64 n)] => (isL cs rs ss es ∧ Fit (ldOf cs rs ss es), aI (chkSwapE (ldOf cs rs ss es) d a b n))
  | _ => (False, .junk)
theorem d106 {A : Frm → Prop} : EntryOK A Try.prog 106 (valE true c106) := valE_ok fun vs hv h => by
  clear hv
  unfold c106 at h ⊢
  split at h
  · refine ⟨trivial, fun _ => trivial, ?_⟩
    rw [← aLed_of h.1]; exact chkSwap_fn _ _ _ _ _ h.2
  · exact h.elim
theorem chkSwap_ok {l : Led} {d a b n : Int} (h : chkSwapE l d a b n = 0) : Val l ∧ Rt l d a ∧ Rt l d b ∧ 0 ≤ n ∧ n ≤ 999 ∧ a ≠ b := by
  unfold chkSwapE at h
  split at h
  · exact absurd h ‹_›
  rename_i a1
  split at h
  · exact absurd h (by decide)
  rename_i a2
  split at h
  · exact absurd h (by decide)
  rename_i a3
  split at h
  · exact absurd h (by decide)
  rename_i a4
  split at h
  · exact absurd h (by decide)
  rename_i a5
  split at h
  · exact absurd h (by decide)
  rename_i a6
  have nf : ∀ {p : Bool}, ¬ (!p) = true → p = true := fun h => by simpa using h
  have hv := val_of (Decidable.not_not.1 a1)
  have b2 := inB_iff.1 (nf a2)
  have b3 := inB_iff.1 (nf a3)
  have b4 := inB_iff.1 (nf a4)
  have b6 := inB_iff.1 (nf a6)
  exact ⟨hv, val_rt hv b2.1 b2.2 b3.1 b3.2, val_rt hv b2.1 b2.2 b4.1 b4.2, b6.1, b6.2, a5⟩
def swapQ (l : Led) (d a b n : Int) : Rat := rq l d a * n / rq l d b
def aSwap (l : Led) (d a b n : Int) : AV := if chkSwapE l d a b n ≠ 0 then .tup [aI 0, aSh ⟨0, 0⟩, aI (chkSwapE l d a b n)] else .tup [aI (swapQ l d a b n).floor, aSh (shQ (swapQ l d a b n - ((swapQ l d a b n).floor : Rat))), aI 0]
theorem sm_fl {q : Rat} (h : Sm q) : FlOk q := by
  obtain ⟨h1, h2, h3⟩ := h
  exact ⟨by omega, by omega, by omega⟩
def tbF11_48 := And.intro @ty30 (And.intro @ty38 (And.intro @ty59 (And.intro @ty107 (And.intro @ti30.eq_1 (And.intro @ti38.eq_1 (And.intro @ti59.eq_1 @ti107.eq_1))))))
theorem swap_fn (l : Led) (d a b n : Int) (hl : Fit l) : FnV Try.prog 48 [aLed l, aI d, aI a, aI b, aI n] (aSwap l d a b n) := by
  have env : Env (fun _ => True) Try.prog tyB (tab [(106, valE true c106), (89, valE true c89), (90, valE true s90), (107, valE true s107), (100, valE true s100)]) := mkEnv ⟨d106, d89, e90, e107, e100, trivial⟩
  refine Fn.of (A := fun _ => True) (n0 := 0) (D := noD) (Fn0 Try.func48 rfl (fun vs w => by kernel_rfl) (by kernel_rfl)) (by simp) (by simp [AV.ids, AV.idsL, aLed, cLed, aI]) (fun i o h => by cases h) (fun _ _ _ _ => trivial) noD_ok ?_
  by_cases c0 : chkSwapE l d a b n = 0
  · obtain ⟨v1, v2, v3, v4, v5, v6⟩ := chkSwap_ok c0
    have v5' : n ≤ 50000 := by omega
    have hb := (rt_bd v2).muli (C := 50000) (n := n) (by omega) (by omega)
    have hq := sm_div hb (by decide) (by have := v3.n0; omega) v3.n1 v3.e1
    have hq2 := sm_floor hq
    have hq3 := sm_fl hq
    rw [show aSwap l d a b n = _ from if_neg (by rw [c0]; simp)]
    repeat' (first | refine zq0 ?_ | refine zq1 ?_ | refine zq2 ?_ | refine zq3 ?_ | refine zq4 ?_ | refine zq5 ?_ | refine thenK_n ?_ | refine thenK_x ?_ | refine thenK_r ?_ | refine blockK_n ?_ | refine blockK_r ?_ | refine blockK_hit ?_ | refine blockK_miss (by decide) ?_ | ((first | refine sym_reg env fun Q hQ => ?_ | refine sym_cz fun Q hQ => ?_); simp only [vkt, Nat.reduceEqDiff, Nat.reduceAdd, Nat.reduceMul, Nat.reduceSub, Nat.reduceLeDiff, reduceCtorEq, ↓reduceIte, ↓reduceDIte, Int.reduceToNat, Int.reduceLE, Int.reduceLT, Int.reduceEq, Int.reduceNeg, tbF11_48, aI, aB, aLed, cLed, aSh, shQ, c106, c89, s90, s107, s100, isL_e, ldOf_e, isQ_q, qI_q, c0]; (try simp only [ite_and]); (repeat' (first | with_reducible assumption | refine And.intro ?_ ?_ | intro hp)); all_goals (first | (refine hQ _ ?_; clear hQ; clear Q) | (refine hQ _ (fun h => ?_) (fun h => ?_) <;> clear hQ <;> clear Q <;> (try simp only [vki, reduceCtorEq] at h)) | omega | assumption | (with_reducible rfl) | (refine drawB_of ?_; kernel_rfl) | skip)))
    (simp only [retK, leaveA, resL, tupA, rd, wCells_some, wRow_some, Try.results48, vkt, Nat.reduceEqDiff, Nat.reduceAdd, Nat.reduceMul, Nat.reduceSub, Nat.reduceLeDiff, reduceCtorEq, ↓reduceIte, ↓reduceDIte, Int.reduceToNat, Int.reduceLE, Int.reduceLT, Int.reduceEq, Int.reduceNeg, tbF11_48, aI, aB, aLed, cLed, aSh, shQ, c106, c89, s90, s107, s100, isL_e, ldOf_e, isQ_q, qI_q]; refine Fin.val rfl ?_; (try simp only [AV.le, AV.leL]))
    all_goals simp [swapQ]
  · rw [show aSwap l d a b n = _ from if_pos c0]
    repeat' (first | refine zq0 ?_ | refine zq1 ?_ | refine zq2 ?_ | refine zq3 ?_ | refine zq4 ?_ | refine zq5 ?_ | refine thenK_n ?_ | refine thenK_x ?_ | refine thenK_r ?_ | refine blockK_n ?_ | refine blockK_r ?_ | refine blockK_hit ?_ | refine blockK_miss (by decide) ?_ | ((first | refine sym_reg env fun Q hQ => ?_ | refine sym_cz fun Q hQ => ?_); simp only [vkt, Nat.reduceEqDiff, Nat.reduceAdd, Nat.reduceMul, Nat.reduceSub, Nat.reduceLeDiff, reduceCtorEq, ↓reduceIte, ↓reduceDIte, Int.reduceToNat, Int.reduceLE, Int.reduceLT, Int.reduceEq, Int.reduceNeg, tbF11_48, aI, aB, aLed, cLed, aSh, shQ, c106, c89, s90, s107, s100, isL_e, ldOf_e, isQ_q, qI_q, c0]; (try simp only [ite_and]); (repeat' (first | with_reducible assumption | refine And.intro ?_ ?_ | intro hp)); all_goals (first | (refine hQ _ ?_; clear hQ; clear Q) | (refine hQ _ (fun h => ?_) (fun h => ?_) <;> clear hQ <;> clear Q <;> (try simp only [vki, reduceCtorEq] at h)) | omega | assumption | (with_reducible rfl) | (refine drawB_of ?_; kernel_rfl) | skip)))
    (simp only [retK, leaveA, resL, tupA, rd, wCells_some, wRow_some, Try.results48, vkt, Nat.reduceEqDiff, Nat.reduceAdd, Nat.reduceMul, Nat.reduceSub, Nat.reduceLeDiff, reduceCtorEq, ↓reduceIte, ↓reduceDIte, Int.reduceToNat, Int.reduceLE, Int.reduceLT, Int.reduceEq, Int.reduceNeg, tbF11_48, aI, aB, aLed, cLed, aSh, shQ, c106, c89, s90, s107, s100, isL_e, ldOf_e, isQ_q, qI_q]; refine Fin.val rfl ?_; (try simp only [AV.le, AV.leL]))
    all_goals simp
def c48 : List AV → Prop × AV
  | [.agg [.sl cs, .sl rs, .sl ss, .sl es], .v (.int .i64 d), .v (.int .i64 a), .v (.int .i64 b), .v (.int .i64 n)] => (isL cs rs ss es ∧ Fit (ldOf cs rs ss es), aSwap (ldOf cs rs ss es) d a b n)
  | _ => (False, .junk)
theorem aSwap_plain (l : Led) (d a b n : Int) : (aSwap l d a b n).plain ∧ (aSwap l d a b n).flat := by
  unfold aSwap; split <;> simp [AV.plain, AV.plainL, AV.flat, AV.flatL, aI, aSh]
theorem d48 {A : Frm → Prop} : EntryOK A Try.prog 48 (valE true c48) := valE_ok fun vs hv h => by
  clear hv
  unfold c48 at h ⊢
  split at h
  · refine ⟨(aSwap_plain _ _ _ _ _).1, fun _ => (aSwap_plain _ _ _ _ _).2, ?_⟩
    rw [← aLed_of h.1]; exact swap_fn _ _ _ _ _ h.2
  · exact h.elim
end Go.Sym.B
namespace Go.Sym.B
open Go Go.Sym Go.Proofs Go.Sym.C
def eQ (q : Rat) : List DV := eSh (shQ q)
def dQ (r : List DV) : Rat := qI (dSh r).num (dSh r).den
theorem dQ_e (q : Rat) : dQ (eQ q) = q := qI_q q
theorem mQ (l : List Rat) : (l.map eQ).map dQ = l := by simp [Function.comp_def, dQ_e]
theorem rQ (l : List Rat) : rowsOK 2 (l.map eQ) = True := rowsOK_map (f := eQ) (k := 2) (fun _ => rfl) l
theorem gQ {l : List Rat} {n : Nat} {z : List DV} (h : n < l.length) : (l.map eQ).getD n z = eQ (l.getD n 0) := by simp [List.getD_eq_getElem?_getD, h]
def sumS (l : List Rat) (k : Nat) : St := { t := asg [(0, .sl (l.map eQ)), (2, .ptr 0 0), (3, .clo 138 []), (4, .ptr 1 0), (8, .sl (l.map eQ)), (9, aI l.length), (10, aI k)], h := hasg [(0, .cells [.v (.int .i64 0), .v (.int .i64 0)]), (1, .cells [.v (.int .i64 (qsum (l.take k)).num), .v (.int .i64 (qsum (l.take k)).den)])], n := 2 }
structure SumOk (l : List Rat) : Prop where
  len : l.length ≤ 10
  bd : ∀ q ∈ l, Bd 1000000 q
theorem SumOk.part {l : List Rat} (h : SumOk l) (k : Nat) : Sm (qsum (l.take k)) := by
  have h1 := qsum_bd (l.take k) (B := 1000000) fun q hq => h.bd q (List.mem_of_mem_take hq)
  refine (h1.mono (C := 10000000) ?_).sm (by decide)
  have : (l.take k).length ≤ 10 := by have := h.len; simp; omega
  calc (l.take k).length * 1000000 ≤ 10 * 1000000 := Nat.mul_le_mul_right _ this
    _ = 10000000 := rfl
theorem qsum_take {l : List Rat} {k : Nat} (h : k < l.length) : qsum (l.take (k + 1)) = qsum (l.take k) + l.getD k 0 := by
  rw [List.take_succ_eq_append_getElem h, qsum_snoc]; simp [List.getD_eq_getElem?_getD, h]
def tbF12_102 := And.intro @ty3 (And.intro @ty107 (And.intro @ty115 (And.intro @ti3.eq_1 (And.intro @ti107.eq_1 @ti115.eq_1))))
theorem sum_fn (l : List Rat) (hS : SumOk l) : FnV Try.prog 102 [.sl (l.map eQ)] (aSh (shQ (qsum l))) := by
  have env : Env (fun _ => True) Try.prog tyB (tab [(107, valE true s107), (138, valE true s138)]) := mkEnv ⟨e107, e138, trivial⟩
  refine Fn.of (A := fun _ => True) (n0 := 0) (D := noD) (Fn0 Try.func102 rfl (fun vs w => by kernel_rfl) (by kernel_rfl)) (by simp) (by simp [AV.ids, AV.idsL]) (fun i o h => by cases h) (fun _ _ _ _ => trivial) noD_ok ?_
  have hl := hS.len
  have hm : l.length ≤ maxLen := by have := tmax; have : (100 : Nat) ≤ maxLen := by decide
                                    omega
  repeat' (first | refine zq0 ?_ | refine zq1 ?_ | refine zq2 ?_ | refine zq3 ?_ | refine zq4 ?_ | refine zq5 ?_ | refine thenK_n ?_ | refine thenK_x ?_ | refine thenK_r ?_ | refine blockK_n ?_ | refine blockK_r ?_ | refine blockK_hit ?_ | refine blockK_miss (by decide) ?_ | ((first | refine sym_reg env fun Q hQ => ?_ | refine sym_cz fun Q hQ => ?_); simp only [vkt, Nat.reduceEqDiff, Nat.reduceAdd, Nat.reduceMul, Nat.reduceSub, Nat.reduceLeDiff, reduceCtorEq, ↓reduceIte, ↓reduceDIte, Int.reduceToNat, Int.reduceLE, Int.reduceLT, Int.reduceEq, Int.reduceNeg, tbF12_102, aI, aB, aSh, shQ, eSh, eQ, s107, s138, sumS, isQ_q, qI_q, rQ]; (try simp only [ite_and]); (repeat' (first | with_reducible assumption | refine And.intro ?_ ?_ | intro hp)); all_goals (first | (refine hQ _ ?_; clear hQ; clear Q) | (refine hQ _ (fun h => ?_) (fun h => ?_) <;> clear hQ <;> clear Q <;> (try simp only [vki, reduceCtorEq] at h)) | omega | assumption | (with_reducible rfl) | (refine drawB_of ?_; kernel_rfl) | skip)))
  refine sym_loop (fun k => sumS l k) (fun k => l.length - k) 0 ?_ fun k => ?_
  · (refine Le.ok some [] ⟨?_, ?_, ?_, ?_, ?_, ?_, ?_, ?_, ?_, ?_, ?_⟩; all_goals (try simp only [leT, leH, leO, ADf.leL, imgs, idsT, idsH, List.filterMap_cons, List.filterMap_nil, List.flatMap_nil, Nat.lt_irrefl, Nat.not_lt_zero, vkt, Nat.reduceEqDiff, Nat.reduceAdd, Nat.reduceMul, Nat.reduceSub, Nat.reduceLeDiff, reduceCtorEq, ↓reduceIte, ↓reduceDIte, Int.reduceToNat, Int.reduceLE, Int.reduceLT, Int.reduceEq, Int.reduceNeg, tbF12_102, aI, aB, aSh, shQ, eSh, eQ, s107, s138, sumS, isQ_q, qI_q, rQ]))
    all_goals simp [qsum]
  · have h1 := hS.part k
    repeat' (first | refine zq0 ?_ | refine zq1 ?_ | refine zq2 ?_ | refine zq3 ?_ | refine zq4 ?_ | refine zq5 ?_ | refine thenK_n ?_ | refine thenK_x ?_ | refine thenK_r ?_ | refine blockK_n ?_ | refine blockK_r ?_ | refine blockK_hit ?_ | refine blockK_miss (by decide) ?_)
    (refine sym_reg env fun Q hQ => ?_; simp only [vkt, Nat.reduceEqDiff, Nat.reduceAdd, Nat.reduceMul, Nat.reduceSub, Nat.reduceLeDiff, reduceCtorEq, ↓reduceIte, ↓reduceDIte, Int.reduceToNat, Int.reduceLE, Int.reduceLT, Int.reduceEq, Int.reduceNeg, tbF12_102, aI, aB, aSh, shQ, eSh, eQ, s107, s138, sumS, isQ_q, qI_q, rQ]; (try simp only [ite_and]); (repeat' (first | with_reducible assumption | refine And.intro ?_ ?_ | intro hp)); all_goals (first | (refine hQ _ ?_; clear hQ; clear Q) | omega | assumption | (with_reducible rfl) | (refine drawB_of ?_; kernel_rfl) | skip))
    repeat' (first | refine zq0 ?_ | refine zq1 ?_ | refine zq2 ?_ | refine zq3 ?_ | refine zq4 ?_ | refine zq5 ?_ | refine thenK_n ?_ | refine thenK_x ?_ | refine thenK_r ?_ | refine blockK_n ?_ | refine blockK_r ?_ | refine blockK_hit ?_ | refine blockK_miss (by decide) ?_)
    (refine sym_cd (by simp only [vkt, Nat.reduceEqDiff, Nat.reduceAdd, Nat.reduceMul, Nat.reduceSub, Nat.reduceLeDiff, reduceCtorEq, ↓reduceIte, ↓reduceDIte, Int.reduceToNat, Int.reduceLE, Int.reduceLT, Int.reduceEq, Int.reduceNeg, tbF12_102, aI, aB, aSh, shQ, eSh, eQ, s107, s138, sumS, isQ_q, qI_q, rQ]; rfl) (fun h => ?_) (fun h => ?_) <;> (try simp only [vki, reduceCtorEq] at h))
    · have hlt : k < l.length := by omega
      have h2 := (hS.bd _ (gMem (d := 0) hlt)).sm (by decide)
      have g1 := gQ (z := [.v (.int .i64 0), .v (.int .i64 0)]) hlt
      have e9 := wrap_succ hlt hm
      repeat' (first | refine zq0 ?_ | refine zq1 ?_ | refine zq2 ?_ | refine zq3 ?_ | refine zq4 ?_ | refine zq5 ?_ | refine thenK_n ?_ | refine thenK_x ?_ | refine thenK_r ?_ | refine blockK_n ?_ | refine blockK_r ?_ | refine blockK_hit ?_ | refine blockK_miss (by decide) ?_ | ((first | refine sym_reg env fun Q hQ => ?_ | refine sym_cz fun Q hQ => ?_); simp only [vkt, Nat.reduceEqDiff, Nat.reduceAdd, Nat.reduceMul, Nat.reduceSub, Nat.reduceLeDiff, reduceCtorEq, ↓reduceIte, ↓reduceDIte, Int.reduceToNat, Int.reduceLE, Int.reduceLT, Int.reduceEq, Int.reduceNeg, tbF12_102, aI, aB, aSh, shQ, eSh, eQ, s107, s138, sumS, isQ_q, qI_q, rQ, g1]; (try simp only [ite_and]); (repeat' (first | with_reducible assumption | refine And.intro ?_ ?_ | intro hp)); all_goals (first | (refine hQ _ ?_; clear hQ; clear Q) | (refine hQ _ (fun h => ?_) (fun h => ?_) <;> clear hQ <;> clear Q <;> (try simp only [vki, reduceCtorEq] at h)) | omega | assumption | (with_reducible rfl) | (refine drawB_of ?_; kernel_rfl) | skip)))
      refine ⟨k + 1, by omega, ?_⟩
      (refine Le.ok some [] ⟨?_, ?_, ?_, ?_, ?_, ?_, ?_, ?_, ?_, ?_, ?_⟩; all_goals (try simp only [leT, leH, leO, ADf.leL, imgs, idsT, idsH, List.filterMap_cons, List.filterMap_nil, List.flatMap_nil, Nat.lt_irrefl, Nat.not_lt_zero, vkt, Nat.reduceEqDiff, Nat.reduceAdd, Nat.reduceMul, Nat.reduceSub, Nat.reduceLeDiff, reduceCtorEq, ↓reduceIte, ↓reduceDIte, Int.reduceToNat, Int.reduceLE, Int.reduceLT, Int.reduceEq, Int.reduceNeg, tbF12_102, aI, aB, aSh, shQ, eSh, eQ, s107, s138, sumS, isQ_q, qI_q, rQ]))
      all_goals simp [qsum_take hlt, e9]
    · have hk : l.take k = l := List.take_of_length_le (by omega)
      repeat' (first | refine zq0 ?_ | refine zq1 ?_ | refine zq2 ?_ | refine zq3 ?_ | refine zq4 ?_ | refine zq5 ?_ | refine thenK_n ?_ | refine thenK_x ?_ | refine thenK_r ?_ | refine blockK_n ?_ | refine blockK_r ?_ | refine blockK_hit ?_ | refine blockK_miss (by decide) ?_ | ((first | refine sym_reg env fun Q hQ => ?_ | refine sym_cz fun Q hQ => ?_); simp only [vkt, Nat.reduceEqDiff, Nat.reduceAdd, Nat.reduceMul, Nat.reduceSub, Nat.reduceLeDiff, reduceCtorEq, ↓reduceIte, ↓reduceDIte, Int.reduceToNat, Int.reduceLE, Int.reduceLT, Int.reduceEq, Int.reduceNeg, tbF12_102, aI, aB, aSh, shQ, eSh, eQ, s107, s138, sumS, isQ_q, qI_q, rQ, hk]; (try simp only [ite_and]); (repeat' (first | with_reducible assumption | refine And.intro ?_ ?_ | intro hp)); all_goals (first | (refine hQ _ ?_; clear hQ; clear Q) | (refine hQ _ (fun h => ?_) (fun h => ?_) <;> clear hQ <;> clear Q <;> (try simp only [vki, reduceCtorEq] at h)) | omega | assumption | (with_reducible rfl) | (refine drawB_of ?_; kernel_rfl) | skip)))
      (simp only [retK, leaveA, resL, tupA, rd, wCells_some, wRow_some, Try.results102, hk, vkt, Nat.reduceEqDiff, Nat.reduceAdd, Nat.reduceMul, Nat.reduceSub, Nat.reduceLeDiff, reduceCtorEq, ↓reduceIte, ↓reduceDIte, Int.reduceToNat, Int.reduceLE, Int.reduceLT, Int.reduceEq, Int.reduceNeg, tbF12_102, aI, aB, aSh, shQ, eSh, eQ, s107, s138, sumS, isQ_q, qI_q, rQ]; refine Fin.val rfl ?_; (try simp only [AV.le, AV.leL]))
      all_goals simp
def c102 : List AV → Prop × AV
  | [.sl xs] => (xs = (xs.map dQ).map eQ ∧ SumOk (xs.map dQ), aSh (shQ (qsum (xs.map dQ))))
  | [.nil] => (True, aSh (shQ (qsum [])))
  | _ => (False, .junk)
theorem d102 {A : Frm → Prop} : EntryOK A Try.prog 102 (valE true c102) := valE_ok fun vs hv h => by
  unfold c102 at h ⊢
  split at h
  · refine ⟨by simp [AV.plain, AV.plainL, aSh], fun _ => by simp [AV.flat, AV.flatL, aSh], ?_⟩
    have := sum_fn _ h.2
    rwa [← h.1] at this
  · simp [AV.plainL, AV.plain] at hv
  · exact h.elim
def worthQ (l : Led) (d : Int) (has : List Int) (k : Nat) : Rat := qsum ((List.range k).map fun c : Nat => rq l d c * (has.getD c 0 : Int))
theorem worthQ_succ (l : Led) (d : Int) (has : List Int) (k : Nat) : worthQ l d has (k + 1) = worthQ l d has k + rq l d (k : Int) * (has.getD k 0 : Int) := by
  unfold worthQ; rw [List.range_succ, List.map_append, List.map_cons, List.map_nil, qsum_snoc]
def wS (l : Led) (d : Int) (has : List Int) (k : Nat) : St := { t := asg [(0, .ptr 0 0), (1, aI d), (4, .ptr 2 0), (5, .ptr 3 0), (12, .row 1), (13, aI has.length), (14, aI k)], h := hasg [(0, oTill l 1), (1, oHas has), (2, .cells [.v (.int .i64 0), .v (.int .i64 0)]), (3, .cells [.v (.int .i64 (worthQ l d has k).num), .v (.int .i64 (worthQ l d has k).den)])], n := 4, m := 2 }
structure WOk (l : Led) (d : Int) (has : List Int) : Prop where
  len : has.length ≤ 4
  rt : ∀ c : Nat, c < has.length → Rt l d c
  b : ∀ v ∈ has, -10000 ≤ v ∧ v ≤ 10000
theorem WOk.part {l : Led} {d : Int} {has : List Int} (h : WOk l d has) (k : Nat) (hk : k ≤ has.length) : Bd (k * (20 * 10000)) (worthQ l d has k) := by
  unfold worthQ
  have := qsum_bd ((List.range k).map fun c : Nat => rq l d c * (has.getD c 0 : Int)) (B := 20 * 10000) fun q hq => by
    obtain ⟨c, hc, rfl⟩ := List.mem_map.1 hq
    have hc := List.mem_range.1 hc
    have := h.b _ (gMem (d := 0) (show c < has.length by omega))
    exact (rt_bd (h.rt c (by omega))).muli (by omega) (by omega)
  simpa using this
def tbF12_103 := And.intro @ty3 (And.intro @ty22 (And.intro @ty38 (And.intro @ty107 (And.intro @ty123 (And.intro @ti3.eq_1 (And.intro @ti22.eq_1 (And.intro @ti38.eq_1 (And.intro @ti107.eq_1 @ti123.eq_1))))))))
theorem worth_fn (l : Led) (d : Int) (has : List Int) (hW : WOk l d has) : Fn noB Try.prog 103 [.ptr 0 0, aI d] (hasg [(0, oTill l 1), (1, oHas has)]) (aSh (shQ (worthQ l d has has.length))) (hasg [(0, oTill l 1), (1, oHas has)]) 0 := by
  have env : Env (fun _ => True) Try.prog tyB (tab [(98, valE true c98), (99, valE true s99), (107, valE true s107), (138, valE true s138)]) := mkEnv ⟨d98, e99, e107, e138, trivial⟩
  refine Fn.of (A := fun _ => True) (n0 := 2) (D := noD) (Fn0 Try.func103 rfl (fun vs w => by kernel_rfl) (by kernel_rfl)) (by simp) (by simp [AV.ids, AV.idsL, aI]) ?_ (fun _ _ _ _ => trivial) noD_ok ?_
  · intro i o hi
    rcases List.mem_cons.1 (hasg_mem hi) with h | h
    · cases h; simp [oTill, cLed, AObj.ids, AV.ids, AV.idsL]
    · simp at h; obtain ⟨rfl, rfl⟩ := h; simp [oHas, AObj.ids]
  have hl := hW.len
  have hm : has.length ≤ maxLen := by have := tmax; omega
  repeat' (first | refine zq0 ?_ | refine zq1 ?_ | refine zq2 ?_ | refine zq3 ?_ | refine zq4 ?_ | refine zq5 ?_ | refine thenK_n ?_ | refine thenK_x ?_ | refine thenK_r ?_ | refine blockK_n ?_ | refine blockK_r ?_ | refine blockK_hit ?_ | refine blockK_miss (by decide) ?_ | ((first | refine sym_reg env fun Q hQ => ?_ | refine sym_cz fun Q hQ => ?_); simp only [vkt, Nat.reduceEqDiff, Nat.reduceAdd, Nat.reduceMul, Nat.reduceSub, Nat.reduceLeDiff, reduceCtorEq, ↓reduceIte, ↓reduceDIte, Int.reduceToNat, Int.reduceLE, Int.reduceLT, Int.reduceEq, Int.reduceNeg, tbF12_103, aI, aB, aLed, cLed, aSh, shQ, eInt, gInt, oTill, oHas, s107, s138, c98, s99, wS, isL_e, ldOf_e, isQ_q, qI_q]; (try simp only [ite_and]); (repeat' (first | with_reducible assumption | refine And.intro ?_ ?_ | intro hp)); all_goals (first | (refine hQ _ ?_; clear hQ; clear Q) | (refine hQ _ (fun h => ?_) (fun h => ?_) <;> clear hQ <;> clear Q <;> (try simp only [vki, reduceCtorEq] at h)) | omega | assumption | (with_reducible rfl) | (refine drawB_of ?_; kernel_rfl) | skip)))
  refine sym_loop (fun k : { k : Nat // k ≤ has.length } => wS l d has k.1) (fun k => has.length - k.1) ⟨0, Nat.zero_le _⟩ ?_ fun ⟨k, hk⟩ => ?_
  · (refine Le.ok some [] ⟨?_, ?_, ?_, ?_, ?_, ?_, ?_, ?_, ?_, ?_, ?_⟩; all_goals (try simp only [leT, leH, leO, ADf.leL, imgs, idsT, idsH, List.filterMap_cons, List.filterMap_nil, List.flatMap_nil, Nat.lt_irrefl, Nat.not_lt_zero, vkt, Nat.reduceEqDiff, Nat.reduceAdd, Nat.reduceMul, Nat.reduceSub, Nat.reduceLeDiff, reduceCtorEq, ↓reduceIte, ↓reduceDIte, Int.reduceToNat, Int.reduceLE, Int.reduceLT, Int.reduceEq, Int.reduceNeg, tbF12_103, aI, aB, aLed, cLed, aSh, shQ, eInt, gInt, oTill, oHas, s107, s138, c98, s99, wS, isL_e, ldOf_e, isQ_q, qI_q]))
    all_goals simp [worthQ, qsum]
  · have h1 := ((hW.part k hk).mono (C := 4 * (20 * 10000)) (Nat.mul_le_mul_right _ (by omega))).sm (by decide)
    repeat' (first | refine zq0 ?_ | refine zq1 ?_ | refine zq2 ?_ | refine zq3 ?_ | refine zq4 ?_ | refine zq5 ?_ | refine thenK_n ?_ | refine thenK_x ?_ | refine thenK_r ?_ | refine blockK_n ?_ | refine blockK_r ?_ | refine blockK_hit ?_ | refine blockK_miss (by decide) ?_)
    (refine sym_reg env fun Q hQ => ?_; simp only [vkt, Nat.reduceEqDiff, Nat.reduceAdd, Nat.reduceMul, Nat.reduceSub, Nat.reduceLeDiff, reduceCtorEq, ↓reduceIte, ↓reduceDIte, Int.reduceToNat, Int.reduceLE, Int.reduceLT, Int.reduceEq, Int.reduceNeg, tbF12_103, aI, aB, aLed, cLed, aSh, shQ, eInt, gInt, oTill, oHas, s107, s138, c98, s99, wS, isL_e, ldOf_e, isQ_q, qI_q]; (try simp only [ite_and]); (repeat' (first | with_reducible assumption | refine And.intro ?_ ?_ | intro hp)); all_goals (first | (refine hQ _ ?_; clear hQ; clear Q) | omega | assumption | (with_reducible rfl) | (refine drawB_of ?_; kernel_rfl) | skip))
    repeat' (first | refine zq0 ?_ | refine zq1 ?_ | refine zq2 ?_ | refine zq3 ?_ | refine zq4 ?_ | refine zq5 ?_ | refine thenK_n ?_ | refine thenK_x ?_ | refine thenK_r ?_ | refine blockK_n ?_ | refine blockK_r ?_ | refine blockK_hit ?_ | refine blockK_miss (by decide) ?_)
    (refine sym_cd (by simp only [vkt, Nat.reduceEqDiff, Nat.reduceAdd, Nat.reduceMul, Nat.reduceSub, Nat.reduceLeDiff, reduceCtorEq, ↓reduceIte, ↓reduceDIte, Int.reduceToNat, Int.reduceLE, Int.reduceLT, Int.reduceEq, Int.reduceNeg, tbF12_103, aI, aB, aLed, cLed, aSh, shQ, eInt, gInt, oTill, oHas, s107, s138, c98, s99, wS, isL_e, ldOf_e, isQ_q, qI_q]; rfl) (fun h => ?_) (fun h => ?_) <;> (try simp only [vki, reduceCtorEq] at h))
    · have hlt : k < has.length := by omega
      have h2 := hW.rt k hlt
      have h3 := hW.b _ (gMem (d := 0) hlt)
      have h4 := tm_of (rt_bd h2) (show -100000 ≤ has.getD k 0 by omega) (by omega)
      have h5 := ((rt_bd h2).muli (C := 10000) (n := has.getD k 0) (by omega) (by omega)).sm (by decide)
      have e9 := wrap_succ hlt hm
      have g0 := gI0 hlt
      repeat' (first | refine zq0 ?_ | refine zq1 ?_ | refine zq2 ?_ | refine zq3 ?_ | refine zq4 ?_ | refine zq5 ?_ | refine thenK_n ?_ | refine thenK_x ?_ | refine thenK_r ?_ | refine blockK_n ?_ | refine blockK_r ?_ | refine blockK_hit ?_ | refine blockK_miss (by decide) ?_ | ((first | refine sym_reg env fun Q hQ => ?_ | refine sym_cz fun Q hQ => ?_); simp only [vkt, Nat.reduceEqDiff, Nat.reduceAdd, Nat.reduceMul, Nat.reduceSub, Nat.reduceLeDiff, reduceCtorEq, ↓reduceIte, ↓reduceDIte, Int.reduceToNat, Int.reduceLE, Int.reduceLT, Int.reduceEq, Int.reduceNeg, tbF12_103, aI, aB, aLed, cLed, aSh, shQ, eInt, gInt, oTill, oHas, s107, s138, c98, s99, wS, isL_e, ldOf_e, isQ_q, qI_q, g0]; (try simp only [ite_and]); (repeat' (first | with_reducible assumption | refine And.intro ?_ ?_ | intro hp)); all_goals (first | (refine hQ _ ?_; clear hQ; clear Q) | (refine hQ _ (fun h => ?_) (fun h => ?_) <;> clear hQ <;> clear Q <;> (try simp only [vki, reduceCtorEq] at h)) | omega | assumption | (with_reducible rfl) | (refine drawB_of ?_; kernel_rfl) | skip)))
      refine ⟨⟨k + 1, hlt⟩, by show has.length - (k + 1) < has.length - k; omega, ?_⟩
      (refine Le.ok some [] ⟨?_, ?_, ?_, ?_, ?_, ?_, ?_, ?_, ?_, ?_, ?_⟩; all_goals (try simp only [leT, leH, leO, ADf.leL, imgs, idsT, idsH, List.filterMap_cons, List.filterMap_nil, List.flatMap_nil, Nat.lt_irrefl, Nat.not_lt_zero, vkt, Nat.reduceEqDiff, Nat.reduceAdd, Nat.reduceMul, Nat.reduceSub, Nat.reduceLeDiff, reduceCtorEq, ↓reduceIte, ↓reduceDIte, Int.reduceToNat, Int.reduceLE, Int.reduceLT, Int.reduceEq, Int.reduceNeg, tbF12_103, aI, aB, aLed, cLed, aSh, shQ, eInt, gInt, oTill, oHas, s107, s138, c98, s99, wS, isL_e, ldOf_e, isQ_q, qI_q]))
      all_goals simp [worthQ_succ, e9]
    · have hk : k = has.length := by omega
      subst hk
      repeat' (first | refine zq0 ?_ | refine zq1 ?_ | refine zq2 ?_ | refine zq3 ?_ | refine zq4 ?_ | refine zq5 ?_ | refine thenK_n ?_ | refine thenK_x ?_ | refine thenK_r ?_ | refine blockK_n ?_ | refine blockK_r ?_ | refine blockK_hit ?_ | refine blockK_miss (by decide) ?_ | ((first | refine sym_reg env fun Q hQ => ?_ | refine sym_cz fun Q hQ => ?_); simp only [vkt, Nat.reduceEqDiff, Nat.reduceAdd, Nat.reduceMul, Nat.reduceSub, Nat.reduceLeDiff, reduceCtorEq, ↓reduceIte, ↓reduceDIte, Int.reduceToNat, Int.reduceLE, Int.reduceLT, Int.reduceEq, Int.reduceNeg, tbF12_103, aI, aB, aLed, cLed, aSh, shQ, eInt, gInt, oTill, oHas, s107, s138, c98, s99, wS, isL_e, ldOf_e, isQ_q, qI_q]; (try simp only [ite_and]); (repeat' (first | with_reducible assumption | refine And.intro ?_ ?_ | intro hp)); all_goals (first | (refine hQ _ ?_; clear hQ; clear Q) | (refine hQ _ (fun h => ?_) (fun h => ?_) <;> clear hQ <;> clear Q <;> (try simp only [vki, reduceCtorEq] at h)) | omega | assumption | (with_reducible rfl) | (refine drawB_of ?_; kernel_rfl) | skip)))
      (simp only [retK, leaveA, resL, tupA, rd, wCells_some, wRow_some, Try.results103, vkt, Nat.reduceEqDiff, Nat.reduceAdd, Nat.reduceMul, Nat.reduceSub, Nat.reduceLeDiff, reduceCtorEq, ↓reduceIte, ↓reduceDIte, Int.reduceToNat, Int.reduceLE, Int.reduceLT, Int.reduceEq, Int.reduceNeg, tbF12_103, aI, aB, aLed, cLed, aSh, shQ, eInt, gInt, oTill, oHas, s107, s138, c98, s99, wS, isL_e, ldOf_e, isQ_q, qI_q]; refine Fin.ok some [] ?_ ?_ ?_ ?_ ?_ rfl; all_goals (try simp only [leT, leH, leO, ADf.leL, imgs, idsT, idsH, List.filterMap_cons, List.filterMap_nil, List.flatMap_nil, Nat.lt_irrefl, Nat.not_lt_zero, vkt, Nat.reduceEqDiff, Nat.reduceAdd, Nat.reduceMul, Nat.reduceSub, Nat.reduceLeDiff, reduceCtorEq, ↓reduceIte, ↓reduceDIte, Int.reduceToNat, Int.reduceLE, Int.reduceLT, Int.reduceEq, Int.reduceNeg, tbF12_103, aI, aB, aLed, cLed, aSh, shQ, eInt, gInt, oTill, oHas, s107, s138, c98, s99, wS, isL_e, ldOf_e, isQ_q, qI_q]))
      all_goals simp
def p103 (S : St) : List AV → Option Pk
  | [.ptr t 0, .v (.int .i64 d)] => match S.h t with
    | some (.cells [.sl cs, .sl rs, .sl ss, .sl es, .row r]) => match S.h r with
      | some (.row 3 1 hs) => some { pre := isL cs rs ss es ∧ hs = (hs.map dInt).map eInt ∧ WOk (ldOf cs rs ss es) d (hs.map dInt), hs := [t, r], ar := [.ptr 0 0, .v (.int .i64 d)], L0 := [.cells [.sl cs, .sl rs, .sl ss, .sl es, .row 1], .row 3 1 hs], v := aSh (shQ (worthQ (ldOf cs rs ss es) d (hs.map dInt) (hs.map dInt).length)), L1 := [some (.cells [.sl cs, .sl rs, .sl ss, .sl es, .row 1]), some (.row 3 1 hs)] }
      | _ => none
    | _ => none
  | _ => none
theorem cLed_of {cs rs ss es : List (List DV)} (h : isL cs rs ss es) : cLed (ldOf cs rs ss es) = [.sl cs, .sl rs, .sl ss, .sl es] := by
  simp only [cLed, ldOf, ← h.1, ← h.2.1, ← h.2.2.1, ← h.2.2.2]
theorem e103 {A : Frm → Prop} : EntryOK A Try.prog 103 (fnE p103) := fnE_ok fun S bs q h hp => by
  unfold p103 at h
  split at h
  · split at h
    · split at h
      · rename_i t d _ cs rs ss es r _ _ hs _
        cases h
        have := worth_fn (ldOf cs rs ss es) d (hs.map dInt) hp.2.2
        simp only [oTill, oHas, cLed_of hp.1, ← hp.2.1] at this
        exact this
      · cases h
    · cases h
  · cases h
end Go.Sym.B
namespace Go.Sym.B
open Go Go.Sym Go.Proofs Go.Sym.C
theorem and32 {y : Int} (h0 : 0 ≤ y) (h1 : y < 4294967296) : IntKind.wrap .u64 (((BitVec.ofInt 64 y &&& BitVec.ofInt 64 4294967295).toNat : Nat) : Int) = y := by
  have e : (BitVec.ofInt 64 y &&& BitVec.ofInt 64 4294967295).toNat = y.toNat := by
    rw [BitVec.toNat_and, BitVec.toNat_ofInt, BitVec.toNat_ofInt]
    have : (4294967295 % (2 ^ 64 : Int)).toNat = 2 ^ 32 - 1 := by decide
    rw [show ((2 ^ 64 : Nat) : Int) = 2 ^ 64 by rfl, this, Nat.and_two_pow_sub_one_eq_mod]
    rw [Int.emod_eq_of_lt h0 (by omega), Nat.mod_eq_of_lt (by omega)]
  rw [e]
  simp [IntKind.wrap, IntKind.bits, IntKind.signed]
  omega
theorem shr32 {y : Int} (h0 : 0 ≤ y) (h1 : y < 4294967296) : Int.fdiv y 4294967296 = 0 := by
  rw [Int.fdiv_eq_ediv_of_nonneg _ (by decide)]; exact Int.ediv_eq_zero_of_lt h0 h1
theorem wrapU {y : Int} (h0 : 0 ≤ y) (h1 : y < 18446744073709551616) : IntKind.wrap .u64 y = y := by
  simp [IntKind.wrap, IntKind.bits, IntKind.signed]; omega
def aU (n : Int) : AV := .v (.int .u64 n)
def aUi (n : Int) : AV := .v (.int .u64 n)
def tbF13_150 := And.intro @ty95 @ti95.eq_1
theorem mul64_fn (y : Int) (h0 : 0 ≤ y) (h1 : y < 1000000) : FnV Try.prog 150 [aUi 1, aUi y] (.tup [aUi 0, aUi y]) := by
  have env : Env (fun _ => True) Try.prog tyB (tab []) := mkEnv trivial
  refine Fn.of (A := fun _ => True) (n0 := 0) (D := noD) (Fn0 Try.func150 rfl (fun vs w => by kernel_rfl) (by kernel_rfl)) (by simp) (by simp [AV.ids, aUi]) (fun i o h => by cases h) (fun _ _ _ _ => trivial) noD_ok ?_
  have a0 : IntKind.wrap .u64 (((BitVec.ofInt (IntKind.bits .u64) 0 &&& BitVec.ofInt (IntKind.bits .u64) 4294967295).toNat : Nat) : Int) = 0 := and32 (y := 0) (by decide) (by decide)
  have a1 : IntKind.wrap .u64 (((BitVec.ofInt (IntKind.bits .u64) 1 &&& BitVec.ofInt (IntKind.bits .u64) 4294967295).toNat : Nat) : Int) = 1 := and32 (y := 1) (by decide) (by decide)
  have a2 : IntKind.wrap .u64 (((BitVec.ofInt (IntKind.bits .u64) y &&& BitVec.ofInt (IntKind.bits .u64) 4294967295).toNat : Nat) : Int) = y := and32 h0 (by omega)
  have s0 : Int.fdiv 0 (2 ^ min 32 (IntKind.bits .u64)) = 0 := shr32 (y := 0) (by decide) (by decide)
  have s1 : Int.fdiv 1 (2 ^ min 32 (IntKind.bits .u64)) = 0 := shr32 (y := 1) (by decide) (by decide)
  have s2 : Int.fdiv y (2 ^ min 32 (IntKind.bits .u64)) = 0 := shr32 h0 (by omega)
  have w0 : IntKind.wrap .u64 0 = 0 := by decide
  have w1 : IntKind.wrap .u64 1 = 1 := by decide
  have w2 := wrapU h0 (by omega)
  repeat' (first | refine zq0 ?_ | refine zq1 ?_ | refine zq2 ?_ | refine zq3 ?_ | refine zq4 ?_ | refine zq5 ?_ | refine thenK_n ?_ | refine thenK_x ?_ | refine thenK_r ?_ | refine blockK_n ?_ | refine blockK_r ?_ | refine blockK_hit ?_ | refine blockK_miss (by decide) ?_ | ((first | refine sym_reg env fun Q hQ => ?_ | refine sym_cz fun Q hQ => ?_); simp only [vkt, Nat.reduceEqDiff, Nat.reduceAdd, Nat.reduceMul, Nat.reduceSub, Nat.reduceLeDiff, reduceCtorEq, ↓reduceIte, ↓reduceDIte, Int.reduceToNat, Int.reduceLE, Int.reduceLT, Int.reduceEq, Int.reduceNeg, tbF13_150, aU, aUi, aI, aB, a0, a1, a2, s0, s1, s2, w0, w1, w2, Int.one_mul, Int.mul_one, Int.zero_mul, Int.mul_zero, Int.zero_add, Int.add_zero]; (try simp only [ite_and]); (repeat' (first | with_reducible assumption | refine And.intro ?_ ?_ | intro hp)); all_goals (first | (refine hQ _ ?_; clear hQ; clear Q) | (refine hQ _ (fun h => ?_) (fun h => ?_) <;> clear hQ <;> clear Q <;> (try simp only [vki, reduceCtorEq] at h)) | omega | assumption | (with_reducible rfl) | (refine drawB_of ?_; kernel_rfl) | skip)))
  (simp only [retK, leaveA, resL, tupA, rd, wCells_some, wRow_some, Try.results150, w0, w1, w2, Int.one_mul, Int.mul_one, vkt, Nat.reduceEqDiff, Nat.reduceAdd, Nat.reduceMul, Nat.reduceSub, Nat.reduceLeDiff, reduceCtorEq, ↓reduceIte, ↓reduceDIte, Int.reduceToNat, Int.reduceLE, Int.reduceLT, Int.reduceEq, Int.reduceNeg, tbF13_150, aU, aUi, aI, aB]; refine Fin.val rfl ?_; (try simp only [AV.le, AV.leL]))
  all_goals simp
def s150 : List AV → Prop × AV
  | [.v (.int .u64 x), .v (.int .u64 y)] => (x = 1 ∧ 0 ≤ y ∧ y < 1000000, .tup [.v (.int .u64 0), .v (.int .u64 y)])
  | _ => (False, .junk)
theorem e150 {A : Frm → Prop} : EntryOK A Try.prog 150 (valE true s150) := valE_ok fun vs hv h => by
  clear hv
  unfold s150 at h ⊢
  split at h
  · obtain ⟨rfl, h1, h2⟩ := h
    exact ⟨by simp [AV.plain, AV.plainL], fun _ => by simp [AV.flat, AV.flatL], mul64_fn _ h1 h2⟩
  · exact h.elim
def tbF13_134 := And.intro @ty98 (And.intro @ty170 (And.intro @ti98.eq_1 @ti170.eq_1))
theorem mul_fn (y : Int) (h0 : 0 ≤ y) (h1 : y < 1000000) : FnV Try.prog 134 [aUi 1, aUi y] (.tup [aUi 0, aUi y]) := by
  have env : Env (fun _ => True) Try.prog tyB (tab [(150, valE true s150)]) := mkEnv ⟨e150, trivial⟩
  refine Fn.of (A := fun _ => True) (n0 := 0) (D := noD) (Fn0 Try.func134 rfl (fun vs w => by kernel_rfl) (by kernel_rfl)) (by simp) (by simp [AV.ids, aUi]) (fun i o h => by cases h) (fun _ _ _ _ => trivial) noD_ok ?_
  repeat' (first | refine zq0 ?_ | refine zq1 ?_ | refine zq2 ?_ | refine zq3 ?_ | refine zq4 ?_ | refine zq5 ?_ | refine thenK_n ?_ | refine thenK_x ?_ | refine thenK_r ?_ | refine blockK_n ?_ | refine blockK_r ?_ | refine blockK_hit ?_ | refine blockK_miss (by decide) ?_ | ((first | refine sym_reg env fun Q hQ => ?_ | refine sym_cz fun Q hQ => ?_); simp only [vkt, Nat.reduceEqDiff, Nat.reduceAdd, Nat.reduceMul, Nat.reduceSub, Nat.reduceLeDiff, reduceCtorEq, ↓reduceIte, ↓reduceDIte, Int.reduceToNat, Int.reduceLE, Int.reduceLT, Int.reduceEq, Int.reduceNeg, tbF13_134, aU, aUi, aI, aB, s150]; (try simp only [ite_and]); (repeat' (first | with_reducible assumption | refine And.intro ?_ ?_ | intro hp)); all_goals (first | (refine hQ _ ?_; clear hQ; clear Q) | (refine hQ _ (fun h => ?_) (fun h => ?_) <;> clear hQ <;> clear Q <;> (try simp only [vki, reduceCtorEq] at h)) | omega | assumption | (with_reducible rfl) | (refine drawB_of ?_; kernel_rfl) | skip)))
  (simp only [retK, leaveA, resL, tupA, rd, wCells_some, wRow_some, Try.results134, vkt, Nat.reduceEqDiff, Nat.reduceAdd, Nat.reduceMul, Nat.reduceSub, Nat.reduceLeDiff, reduceCtorEq, ↓reduceIte, ↓reduceDIte, Int.reduceToNat, Int.reduceLE, Int.reduceLT, Int.reduceEq, Int.reduceNeg, tbF13_134, aU, aUi, aI, aB, s150]; refine Fin.val rfl ?_; (try simp only [AV.le, AV.leL]))
  all_goals simp
theorem e134 {A : Frm → Prop} : EntryOK A Try.prog 134 (valE true s150) := valE_ok fun vs hv h => by
  clear hv
  unfold s150 at h ⊢
  split at h
  · obtain ⟨rfl, h1, h2⟩ := h
    exact ⟨by simp [AV.plain, AV.plainL], fun _ => by simp [AV.flat, AV.flatL], mul_fn _ h1 h2⟩
  · exact h.elim
def repL (r z : List DV) (m n : Nat) : List (List DV) := List.replicate m r ++ List.replicate (n - m) z
theorem repL_len {r z : List DV} {m n : Nat} (h : m ≤ n) : (repL r z m n).length = n := by simp [repL]; omega
theorem repL_take {r z : List DV} {m n : Nat} : (repL r z m n).take m = List.replicate m r := by simp [repL]
theorem repL_next {r z : List DV} {m n c : Nat} (hm : m ≤ n) (hc : c = min m (n - m)) : (repL r z m n).take m ++ (List.replicate m r).take c ++ (repL r z m n).drop (m + c) = repL r z (m + c) n := by
  rw [repL_take]
  simp only [repL, List.take_replicate, List.drop_append, List.drop_replicate, List.length_replicate]
  rw [show min c m = c by omega, show m - (m + c) = 0 by omega, show m + c - m = c by omega]
  simp only [List.replicate_zero, List.nil_append, List.replicate_append_replicate]
  rw [show n - m - c = n - (m + c) by omega]
theorem repL_start {r z : List DV} {n : Nat} (h : 1 ≤ n) : (List.replicate n z).take 0 ++ [r].take (min 1 n) ++ (List.replicate n z).drop (0 + min 1 n) = repL r z 1 n := by
  rw [show min 1 n = 1 by omega]; simp [repL]
theorem rowsRep {k m : Nat} {r : List DV} (h : r.length = k) : rowsOK k (List.replicate m r) = True := eq_true fun x hx => by rw [List.eq_of_mem_replicate hx, h]
theorem conv_u {n : Int} (h0 : 0 ≤ n) (h1 : n < 1000000) : IntKind.wrap .u64 n = n ∧ IntKind.wrap .i64 n = n := ⟨wrapU h0 (by omega), wrap64 (by omega) (by omega)⟩
def repS (e k : Nat) (r z : List DV) (n m : Nat) (x : AV) : St := { t := asg [(0, x), (1, aI n), (4, .nil), (7, .row 0), (8, aI m)], h := hasg [(0, .row e k (repL r z m n))], n := 1 }
def tbF13_87 := And.intro @ty3 (And.intro @ty22 (And.intro @ty98 (And.intro @ti3.eq_1 (And.intro @ti22.eq_1 @ti98.eq_1))))
set_option maxRecDepth 100000 in
theorem rep87 (r : List DV) (n : Nat) (hr : r.length = 1) (h1 : 1 ≤ n) (h2 : n ≤ 2000) : Fn noB Try.prog 87 [.sl [r], aI n] noH (.row 0) (hasg [(0, .row 3 1 (List.replicate n r))]) 0 := by
  have env : Env (fun _ => True) Try.prog tyB (tab [(134, valE true s150)]) := mkEnv ⟨e134, trivial⟩
  refine Fn.of (A := fun _ => True) (n0 := 0) (D := noD) (Fn0 Try.func87 rfl (fun vs w => by kernel_rfl) (by kernel_rfl)) (by simp) (by simp [AV.ids, aI]) (fun i o h => by cases h) (fun _ _ _ _ => trivial) noD_ok ?_
  obtain ⟨w1, w2⟩ := conv_u (n := (n : Int)) (by omega) (by omega)
  have w3 : IntKind.wrap .u64 1 = 1 := by decide
  have c1 : ¬ ((n : Int) < 0) := by omega
  have c2 : ¬ ((9223372036854775807 : Int) < n) := by omega
  have b1 : ((8 : Nat) : Int) * n ≤ 140737488355328 := by omega
  have b2 : (n : Int) ≤ maxLen := by have : (2000 : Nat) ≤ maxLen := by decide
                                     omega
  repeat' (first | refine zq0 ?_ | refine zq1 ?_ | refine zq2 ?_ | refine zq3 ?_ | refine zq4 ?_ | refine zq5 ?_ | refine thenK_n ?_ | refine thenK_x ?_ | refine thenK_r ?_ | refine blockK_n ?_ | refine blockK_r ?_ | refine blockK_hit ?_ | refine blockK_miss (by decide) ?_ | ((first | refine sym_reg env fun Q hQ => ?_ | refine sym_cz fun Q hQ => ?_); simp only [vkt, Nat.reduceEqDiff, Nat.reduceAdd, Nat.reduceMul, Nat.reduceSub, Nat.reduceLeDiff, reduceCtorEq, ↓reduceIte, ↓reduceDIte, Int.reduceToNat, Int.reduceLE, Int.reduceLT, Int.reduceEq, Int.reduceNeg, tbF13_87, aU, aUi, aI, aB, s150, repS, List.length_replicate, Option.getD_none, Nat.min_self, Nat.sub_zero, w1, w2, w3, c1, c2, hr]; (try simp only [ite_and]); (repeat' (first | with_reducible assumption | refine And.intro ?_ ?_ | intro hp)); all_goals (first | (refine hQ _ ?_; clear hQ; clear Q) | (refine hQ _ (fun h => ?_) (fun h => ?_) <;> clear hQ <;> clear Q <;> (try simp only [vki, reduceCtorEq] at h)) | omega | assumption | (with_reducible rfl) | (refine drawB_of ?_; kernel_rfl) | skip)))
  refine sym_loop (fun m : { m : Nat // 1 ≤ m ∧ m ≤ n } => repS 3 1 r [.v (.int .i64 0)] n m.1 (.sl [r])) (fun m => n - m.1) ⟨1, Nat.le_refl _, h1⟩ ?_ fun ⟨m, hm1, hm2⟩ => ?_
  · (refine Le.ok some [] ⟨?_, ?_, ?_, ?_, ?_, ?_, ?_, ?_, ?_, ?_, ?_⟩; all_goals (try simp only [leT, leH, leO, ADf.leL, imgs, idsT, idsH, List.filterMap_cons, List.filterMap_nil, List.flatMap_nil, Nat.lt_irrefl, Nat.not_lt_zero, vkt, Nat.reduceEqDiff, Nat.reduceAdd, Nat.reduceMul, Nat.reduceSub, Nat.reduceLeDiff, reduceCtorEq, ↓reduceIte, ↓reduceDIte, Int.reduceToNat, Int.reduceLE, Int.reduceLT, Int.reduceEq, Int.reduceNeg, tbF13_87, aU, aUi, aI, aB, s150, repS, List.length_replicate, Option.getD_none, Nat.min_self, Nat.sub_zero]))
    all_goals (first | (simp; omega) | (have := repL_start (r := r) (z := [.v (.int .i64 0)]) h1; simp at this ⊢; first | exact this | (rw [← this]; simp) | omega))
  · have f1 : (repL r [.v (.int .i64 0)] m n).length = n := repL_len hm2
    have f2 : List.take m (repL r [.v (.int .i64 0)] m n) = List.replicate m r := repL_take
    have f3 : rowsOK 1 (List.replicate m r) = True := rowsRep hr
    have f4 := repL_next (r := r) (z := [.v (.int .i64 0)]) hm2 (c := min m (n - m)) rfl
    have f5 : List.take m (List.drop 0 (repL r [.v (.int .i64 0)] m n)) = List.replicate m r := repL_take
    rw [f2] at f4
    repeat' (first | refine zq0 ?_ | refine zq1 ?_ | refine zq2 ?_ | refine zq3 ?_ | refine zq4 ?_ | refine zq5 ?_ | refine thenK_n ?_ | refine thenK_x ?_ | refine thenK_r ?_ | refine blockK_n ?_ | refine blockK_r ?_ | refine blockK_hit ?_ | refine blockK_miss (by decide) ?_)
    (refine sym_reg env fun Q hQ => ?_; simp only [vkt, Nat.reduceEqDiff, Nat.reduceAdd, Nat.reduceMul, Nat.reduceSub, Nat.reduceLeDiff, reduceCtorEq, ↓reduceIte, ↓reduceDIte, Int.reduceToNat, Int.reduceLE, Int.reduceLT, Int.reduceEq, Int.reduceNeg, tbF13_87, aU, aUi, aI, aB, s150, repS, List.length_replicate, Option.getD_none, Nat.min_self, Nat.sub_zero, f1]; (try simp only [ite_and]); (repeat' (first | with_reducible assumption | refine And.intro ?_ ?_ | intro hp)); all_goals (first | (refine hQ _ ?_; clear hQ; clear Q) | omega | assumption | (with_reducible rfl) | (refine drawB_of ?_; kernel_rfl) | skip))
    repeat' (first | refine zq0 ?_ | refine zq1 ?_ | refine zq2 ?_ | refine zq3 ?_ | refine zq4 ?_ | refine zq5 ?_ | refine thenK_n ?_ | refine thenK_x ?_ | refine thenK_r ?_ | refine blockK_n ?_ | refine blockK_r ?_ | refine blockK_hit ?_ | refine blockK_miss (by decide) ?_)
    (refine sym_cd (by simp only [vkt, Nat.reduceEqDiff, Nat.reduceAdd, Nat.reduceMul, Nat.reduceSub, Nat.reduceLeDiff, reduceCtorEq, ↓reduceIte, ↓reduceDIte, Int.reduceToNat, Int.reduceLE, Int.reduceLT, Int.reduceEq, Int.reduceNeg, tbF13_87, aU, aUi, aI, aB, s150, repS, List.length_replicate, Option.getD_none, Nat.min_self, Nat.sub_zero]; rfl) (fun h => ?_) (fun h => ?_) <;> (try simp only [vki, reduceCtorEq] at h))
    · have hlt : m < n := by omega
      have e9 : IntKind.wrap .i64 ((m : Int) + ((min m (n - m) : Nat) : Int)) = ((m + min m (n - m) : Nat) : Int) := by rw [wrap64 (by omega) (by omega)]; omega
      repeat' (first | refine zq0 ?_ | refine zq1 ?_ | refine zq2 ?_ | refine zq3 ?_ | refine zq4 ?_ | refine zq5 ?_ | refine thenK_n ?_ | refine thenK_x ?_ | refine thenK_r ?_ | refine blockK_n ?_ | refine blockK_r ?_ | refine blockK_hit ?_ | refine blockK_miss (by decide) ?_ | ((first | refine sym_reg env fun Q hQ => ?_ | refine sym_cz fun Q hQ => ?_); simp only [vkt, Nat.reduceEqDiff, Nat.reduceAdd, Nat.reduceMul, Nat.reduceSub, Nat.reduceLeDiff, reduceCtorEq, ↓reduceIte, ↓reduceDIte, Int.reduceToNat, Int.reduceLE, Int.reduceLT, Int.reduceEq, Int.reduceNeg, tbF13_87, aU, aUi, aI, aB, s150, repS, List.length_replicate, Option.getD_none, Nat.min_self, Nat.sub_zero, f1, f2, f3, f5]; (try simp only [ite_and]); (repeat' (first | with_reducible assumption | refine And.intro ?_ ?_ | intro hp)); all_goals (first | (refine hQ _ ?_; clear hQ; clear Q) | (refine hQ _ (fun h => ?_) (fun h => ?_) <;> clear hQ <;> clear Q <;> (try simp only [vki, reduceCtorEq] at h)) | omega | assumption | (with_reducible rfl) | (refine drawB_of ?_; kernel_rfl) | skip)))
      refine ⟨⟨m + min m (n - m), by omega, by omega⟩, by show n - (m + min m (n - m)) < n - m; omega, ?_⟩
      (refine Le.ok some [] ⟨?_, ?_, ?_, ?_, ?_, ?_, ?_, ?_, ?_, ?_, ?_⟩; all_goals (try simp only [leT, leH, leO, ADf.leL, imgs, idsT, idsH, List.filterMap_cons, List.filterMap_nil, List.flatMap_nil, Nat.lt_irrefl, Nat.not_lt_zero, vkt, Nat.reduceEqDiff, Nat.reduceAdd, Nat.reduceMul, Nat.reduceSub, Nat.reduceLeDiff, reduceCtorEq, ↓reduceIte, ↓reduceDIte, Int.reduceToNat, Int.reduceLE, Int.reduceLT, Int.reduceEq, Int.reduceNeg, tbF13_87, aU, aUi, aI, aB, s150, repS, List.length_replicate, Option.getD_none, Nat.min_self, Nat.sub_zero]))
      all_goals (first | (simp [e9]; done) | (simp only [f2, f4, and_self, and_true, true_and]; done) | (rw [← f4]; simp))
    · have hmn : m = n := by omega
      subst hmn
      have f6 : repL r [.v (.int .i64 0)] m m = List.replicate m r := by simp [repL]
      repeat' (first | refine zq0 ?_ | refine zq1 ?_ | refine zq2 ?_ | refine zq3 ?_ | refine zq4 ?_ | refine zq5 ?_ | refine thenK_n ?_ | refine thenK_x ?_ | refine thenK_r ?_ | refine blockK_n ?_ | refine blockK_r ?_ | refine blockK_hit ?_ | refine blockK_miss (by decide) ?_ | ((first | refine sym_reg env fun Q hQ => ?_ | refine sym_cz fun Q hQ => ?_); simp only [vkt, Nat.reduceEqDiff, Nat.reduceAdd, Nat.reduceMul, Nat.reduceSub, Nat.reduceLeDiff, reduceCtorEq, ↓reduceIte, ↓reduceDIte, Int.reduceToNat, Int.reduceLE, Int.reduceLT, Int.reduceEq, Int.reduceNeg, tbF13_87, aU, aUi, aI, aB, s150, repS, List.length_replicate, Option.getD_none, Nat.min_self, Nat.sub_zero, f1]; (try simp only [ite_and]); (repeat' (first | with_reducible assumption | refine And.intro ?_ ?_ | intro hp)); all_goals (first | (refine hQ _ ?_; clear hQ; clear Q) | (refine hQ _ (fun h => ?_) (fun h => ?_) <;> clear hQ <;> clear Q <;> (try simp only [vki, reduceCtorEq] at h)) | omega | assumption | (with_reducible rfl) | (refine drawB_of ?_; kernel_rfl) | skip)))
      (simp only [retK, leaveA, resL, tupA, rd, wCells_some, wRow_some, Try.results87, vkt, Nat.reduceEqDiff, Nat.reduceAdd, Nat.reduceMul, Nat.reduceSub, Nat.reduceLeDiff, reduceCtorEq, ↓reduceIte, ↓reduceDIte, Int.reduceToNat, Int.reduceLE, Int.reduceLT, Int.reduceEq, Int.reduceNeg, tbF13_87, aU, aUi, aI, aB, s150, repS, List.length_replicate, Option.getD_none, Nat.min_self, Nat.sub_zero]; refine Fin.ok some [] ?_ ?_ ?_ ?_ ?_ rfl; all_goals (try simp only [leT, leH, leO, ADf.leL, imgs, idsT, idsH, List.filterMap_cons, List.filterMap_nil, List.flatMap_nil, Nat.lt_irrefl, Nat.not_lt_zero, vkt, Nat.reduceEqDiff, Nat.reduceAdd, Nat.reduceMul, Nat.reduceSub, Nat.reduceLeDiff, reduceCtorEq, ↓reduceIte, ↓reduceDIte, Int.reduceToNat, Int.reduceLE, Int.reduceLT, Int.reduceEq, Int.reduceNeg, tbF13_87, aU, aUi, aI, aB, s150, repS, List.length_replicate, Option.getD_none, Nat.min_self, Nat.sub_zero]))
      all_goals simp [f6]
def tbF13_137 := And.intro @ty3 (And.intro @ty98 (And.intro @ty107 (And.intro @ty115 (And.intro @ti3.eq_1 (And.intro @ti98.eq_1 (And.intro @ti107.eq_1 @ti115.eq_1))))))
set_option maxRecDepth 100000 in
theorem rep137 (r : List DV) (n : Nat) (hr : r.length = 2) (h1 : 1 ≤ n) (h2 : n ≤ 2000) : Fn noB Try.prog 137 [.sl [r], aI n] noH (.row 0) (hasg [(0, .row 107 2 (List.replicate n r))]) 0 := by
  have env : Env (fun _ => True) Try.prog tyB (tab [(134, valE true s150)]) := mkEnv ⟨e134, trivial⟩
  refine Fn.of (A := fun _ => True) (n0 := 0) (D := noD) (Fn0 Try.func137 rfl (fun vs w => by kernel_rfl) (by kernel_rfl)) (by simp) (by simp [AV.ids, aI]) (fun i o h => by cases h) (fun _ _ _ _ => trivial) noD_ok ?_
  obtain ⟨w1, w2⟩ := conv_u (n := (n : Int)) (by omega) (by omega)
  have w3 : IntKind.wrap .u64 1 = 1 := by decide
  have c1 : ¬ ((n : Int) < 0) := by omega
  have c2 : ¬ ((9223372036854775807 : Int) < n) := by omega
  have b1 : ((16 : Nat) : Int) * n ≤ 140737488355328 := by omega
  have b2 : (n : Int) ≤ maxLen := by have : (2000 : Nat) ≤ maxLen := by decide
                                     omega
  repeat' (first | refine zq0 ?_ | refine zq1 ?_ | refine zq2 ?_ | refine zq3 ?_ | refine zq4 ?_ | refine zq5 ?_ | refine thenK_n ?_ | refine thenK_x ?_ | refine thenK_r ?_ | refine blockK_n ?_ | refine blockK_r ?_ | refine blockK_hit ?_ | refine blockK_miss (by decide) ?_ | ((first | refine sym_reg env fun Q hQ => ?_ | refine sym_cz fun Q hQ => ?_); simp only [vkt, Nat.reduceEqDiff, Nat.reduceAdd, Nat.reduceMul, Nat.reduceSub, Nat.reduceLeDiff, reduceCtorEq, ↓reduceIte, ↓reduceDIte, Int.reduceToNat, Int.reduceLE, Int.reduceLT, Int.reduceEq, Int.reduceNeg, tbF13_137, aU, aUi, aI, aB, s150, repS, List.length_replicate, Option.getD_none, Nat.min_self, Nat.sub_zero, w1, w2, w3, c1, c2, hr]; (try simp only [ite_and]); (repeat' (first | with_reducible assumption | refine And.intro ?_ ?_ | intro hp)); all_goals (first | (refine hQ _ ?_; clear hQ; clear Q) | (refine hQ _ (fun h => ?_) (fun h => ?_) <;> clear hQ <;> clear Q <;> (try simp only [vki, reduceCtorEq] at h)) | omega | assumption | (with_reducible rfl) | (refine drawB_of ?_; kernel_rfl) | skip)))
  refine sym_loop (fun m : { m : Nat // 1 ≤ m ∧ m ≤ n } => repS 107 2 r [.v (.int .i64 0), .v (.int .i64 0)] n m.1 (.sl [r])) (fun m => n - m.1) ⟨1, Nat.le_refl _, h1⟩ ?_ fun ⟨m, hm1, hm2⟩ => ?_
  · (refine Le.ok some [] ⟨?_, ?_, ?_, ?_, ?_, ?_, ?_, ?_, ?_, ?_, ?_⟩; all_goals (try simp only [leT, leH, leO, ADf.leL, imgs, idsT, idsH, List.filterMap_cons, List.filterMap_nil, List.flatMap_nil, Nat.lt_irrefl, Nat.not_lt_zero, vkt, Nat.reduceEqDiff, Nat.reduceAdd, Nat.reduceMul, Nat.reduceSub, Nat.reduceLeDiff, reduceCtorEq, ↓reduceIte, ↓reduceDIte, Int.reduceToNat, Int.reduceLE, Int.reduceLT, Int.reduceEq, Int.reduceNeg, tbF13_137, aU, aUi, aI, aB, s150, repS, List.length_replicate, Option.getD_none, Nat.min_self, Nat.sub_zero]))
    all_goals (first | (simp; omega) | (have := repL_start (r := r) (z := [.v (.int .i64 0), .v (.int .i64 0)]) h1; simp at this ⊢; first | exact this | (rw [← this]; simp) | omega))
  · have f1 : (repL r [.v (.int .i64 0), .v (.int .i64 0)] m n).length = n := repL_len hm2
    have f2 : List.take m (repL r [.v (.int .i64 0), .v (.int .i64 0)] m n) = List.replicate m r := repL_take
    have f3 : rowsOK 2 (List.replicate m r) = True := rowsRep hr
    have f4 := repL_next (r := r) (z := [.v (.int .i64 0), .v (.int .i64 0)]) hm2 (c := min m (n - m)) rfl
    have f5 : List.take m (List.drop 0 (repL r [.v (.int .i64 0), .v (.int .i64 0)] m n)) = List.replicate m r := repL_take
    rw [f2] at f4
    repeat' (first | refine zq0 ?_ | refine zq1 ?_ | refine zq2 ?_ | refine zq3 ?_ | refine zq4 ?_ | refine zq5 ?_ | refine thenK_n ?_ | refine thenK_x ?_ | refine thenK_r ?_ | refine blockK_n ?_ | refine blockK_r ?_ | refine blockK_hit ?_ | refine blockK_miss (by decide) ?_)
    (refine sym_reg env fun Q hQ => ?_; simp only [vkt, Nat.reduceEqDiff, Nat.reduceAdd, Nat.reduceMul, Nat.reduceSub, Nat.reduceLeDiff, reduceCtorEq, ↓reduceIte, ↓reduceDIte, Int.reduceToNat, Int.reduceLE, Int.reduceLT, Int.reduceEq, Int.reduceNeg, tbF13_137, aU, aUi, aI, aB, s150, repS, List.length_replicate, Option.getD_none, Nat.min_self, Nat.sub_zero, f1]; (try simp only [ite_and]); (repeat' (first | with_reducible assumption | refine And.intro ?_ ?_ | intro hp)); all_goals (first | (refine hQ _ ?_; clear hQ; clear Q) | omega | assumption | (with_reducible rfl) | (refine drawB_of ?_; kernel_rfl) | skip))
    repeat' (first | refine zq0 ?_ | refine zq1 ?_ | refine zq2 ?_ | refine zq3 ?_ | refine zq4 ?_ | refine zq5 ?_ | refine thenK_n ?_ | refine thenK_x ?_ | refine thenK_r ?_ | refine blockK_n ?_ | refine blockK_r ?_ | refine blockK_hit ?_ | refine blockK_miss (by decide) ?_)
    (refine sym_cd (by simp only [vkt, Nat.reduceEqDiff, Nat.reduceAdd, Nat.reduceMul, Nat.reduceSub, Nat.reduceLeDiff, reduceCtorEq, ↓reduceIte, ↓reduceDIte, Int.reduceToNat, Int.reduceLE, Int.reduceLT, Int.reduceEq, Int.reduceNeg, tbF13_137, aU, aUi, aI, aB, s150, repS, List.length_replicate, Option.getD_none, Nat.min_self, Nat.sub_zero]; rfl) (fun h => ?_) (fun h => ?_) <;> (try simp only [vki, reduceCtorEq] at h))
    · have hlt : m < n := by omega
      have e9 : IntKind.wrap .i64 ((m : Int) + ((min m (n - m) : Nat) : Int)) = ((m + min m (n - m) : Nat) : Int) := by rw [wrap64 (by omega) (by omega)]; omega
      repeat' (first | refine zq0 ?_ | refine zq1 ?_ | refine zq2 ?_ | refine zq3 ?_ | refine zq4 ?_ | refine zq5 ?_ | refine thenK_n ?_ | refine thenK_x ?_ | refine thenK_r ?_ | refine blockK_n ?_ | refine blockK_r ?_ | refine blockK_hit ?_ | refine blockK_miss (by decide) ?_ | ((first | refine sym_reg env fun Q hQ => ?_ | refine sym_cz fun Q hQ => ?_); simp only [vkt, Nat.reduceEqDiff, Nat.reduceAdd, Nat.reduceMul, Nat.reduceSub, Nat.reduceLeDiff, reduceCtorEq, ↓reduceIte, ↓reduceDIte, Int.reduceToNat, Int.reduceLE, Int.reduceLT, Int.reduceEq, Int.reduceNeg, tbF13_137, aU, aUi, aI, aB, s150, repS, List.length_replicate, Option.getD_none, Nat.min_self, Nat.sub_zero, f1, f2, f3, f5]; (try simp only [ite_and]); (repeat' (first | with_reducible assumption | refine And.intro ?_ ?_ | intro hp)); all_goals (first | (refine hQ _ ?_; clear hQ; clear Q) | (refine hQ _ (fun h => ?_) (fun h => ?_) <;> clear hQ <;> clear Q <;> (try simp only [vki, reduceCtorEq] at h)) | omega | assumption | (with_reducible rfl) | (refine drawB_of ?_; kernel_rfl) | skip)))
      refine ⟨⟨m + min m (n - m), by omega, by omega⟩, by show n - (m + min m (n - m)) < n - m; omega, ?_⟩
      (refine Le.ok some [] ⟨?_, ?_, ?_, ?_, ?_, ?_, ?_, ?_, ?_, ?_, ?_⟩; all_goals (try simp only [leT, leH, leO, ADf.leL, imgs, idsT, idsH, List.filterMap_cons, List.filterMap_nil, List.flatMap_nil, Nat.lt_irrefl, Nat.not_lt_zero, vkt, Nat.reduceEqDiff, Nat.reduceAdd, Nat.reduceMul, Nat.reduceSub, Nat.reduceLeDiff, reduceCtorEq, ↓reduceIte, ↓reduceDIte, Int.reduceToNat, Int.reduceLE, Int.reduceLT, Int.reduceEq, Int.reduceNeg, tbF13_137, aU, aUi, aI, aB, s150, repS, List.length_replicate, Option.getD_none, Nat.min_self, Nat.sub_zero]))
      all_goals (first | (simp [e9]; done) | (simp only [f2, f4, and_self, and_true, true_and]; done) | (rw [← f4]; simp))
    · have hmn : m = n := by omega
      subst hmn
      have f6 : repL r [.v (.int .i64 0), .v (.int .i64 0)] m m = List.replicate m r := by simp [repL]
      repeat' (first | refine zq0 ?_ | refine zq1 ?_ | refine zq2 ?_ | refine zq3 ?_ | refine zq4 ?_ | refine zq5 ?_ | refine thenK_n ?_ | refine thenK_x ?_ | refine thenK_r ?_ | refine blockK_n ?_ | refine blockK_r ?_ | refine blockK_hit ?_ | refine blockK_miss (by decide) ?_ | ((first | refine sym_reg env fun Q hQ => ?_ | refine sym_cz fun Q hQ => ?_); simp only [vkt, Nat.reduceEqDiff, Nat.reduceAdd, Nat.reduceMul, Nat.reduceSub, Nat.reduceLeDiff, reduceCtorEq, ↓reduceIte, ↓reduceDIte, Int.reduceToNat, Int.reduceLE, Int.reduceLT, Int.reduceEq, Int.reduceNeg, tbF13_137, aU, aUi, aI, aB, s150, repS, List.length_replicate, Option.getD_none, Nat.min_self, Nat.sub_zero, f1]; (try simp only [ite_and]); (repeat' (first | with_reducible assumption | refine And.intro ?_ ?_ | intro hp)); all_goals (first | (refine hQ _ ?_; clear hQ; clear Q) | (refine hQ _ (fun h => ?_) (fun h => ?_) <;> clear hQ <;> clear Q <;> (try simp only [vki, reduceCtorEq] at h)) | omega | assumption | (with_reducible rfl) | (refine drawB_of ?_; kernel_rfl) | skip)))
      (simp only [retK, leaveA, resL, tupA, rd, wCells_some, wRow_some, Try.results137, vkt, Nat.reduceEqDiff, Nat.reduceAdd, Nat.reduceMul, Nat.reduceSub, Nat.reduceLeDiff, reduceCtorEq, ↓reduceIte, ↓reduceDIte, Int.reduceToNat, Int.reduceLE, Int.reduceLT, Int.reduceEq, Int.reduceNeg, tbF13_137, aU, aUi, aI, aB, s150, repS, List.length_replicate, Option.getD_none, Nat.min_self, Nat.sub_zero]; refine Fin.ok some [] ?_ ?_ ?_ ?_ ?_ rfl; all_goals (try simp only [leT, leH, leO, ADf.leL, imgs, idsT, idsH, List.filterMap_cons, List.filterMap_nil, List.flatMap_nil, Nat.lt_irrefl, Nat.not_lt_zero, vkt, Nat.reduceEqDiff, Nat.reduceAdd, Nat.reduceMul, Nat.reduceSub, Nat.reduceLeDiff, reduceCtorEq, ↓reduceIte, ↓reduceDIte, Int.reduceToNat, Int.reduceLE, Int.reduceLT, Int.reduceEq, Int.reduceNeg, tbF13_137, aU, aUi, aI, aB, s150, repS, List.length_replicate, Option.getD_none, Nat.min_self, Nat.sub_zero]))
      all_goals simp [f6]
def p87 (S : St) : List AV → Option Pk
  | [.row i, .v (.int .i64 n)] => match S.h i with
    | some (.row _ _ [r]) => some { pre := r.length = 1 ∧ 1 ≤ n ∧ n ≤ 2000, bo := [i], ar := [.sl [r], .v (.int .i64 n)], v := .row 0, L1 := [some (.row 3 1 (List.replicate n.toNat r))] }
    | _ => none
  | _ => none
theorem e87 {A : Frm → Prop} : EntryOK A Try.prog 87 (fnE p87) := fnE_ok fun S bs q h hp => by
  unfold p87 at h
  split at h
  · split at h
    · rename_i i n _ _ _ r _
      cases h
      have := rep87 r n.toNat hp.1 (by have := hp.2; omega) (by have := hp.2; omega)
      rw [Int.toNat_of_nonneg (by have := hp.2; omega)] at this
      exact this
    · cases h
  · cases h
def p137 (S : St) : List AV → Option Pk
  | [.row i, .v (.int .i64 n)] => match S.h i with
    | some (.row _ _ [r]) => some { pre := r.length = 2 ∧ 1 ≤ n ∧ n ≤ 2000, bo := [i], ar := [.sl [r], .v (.int .i64 n)], v := .row 0, L1 := [some (.row 107 2 (List.replicate n.toNat r))] }
    | _ => none
  | _ => none
theorem e137 {A : Frm → Prop} : EntryOK A Try.prog 137 (fnE p137) := fnE_ok fun S bs q h hp => by
  unfold p137 at h
  split at h
  · split at h
    · rename_i i n _ _ _ r _
      cases h
      have := rep137 r n.toNat hp.1 (by have := hp.2; omega) (by have := hp.2; omega)
      rw [Int.toNat_of_nonneg (by have := hp.2; omega)] at this
      exact this
    · cases h
  · cases h
end Go.Sym.B
namespace Go.Sym.B
open Go Go.Sym Go.Proofs Go.Sym.C
theorem rowEx2 {a : Nat} {c : TypeId} {xs ys : List (List DV)} : (∃ e k, AObj.row c a xs = AObj.row e k ys) = (xs = ys) := by
  refine propext ⟨fun ⟨e, k, h⟩ => ?_, fun h => ⟨c, a, by rw [h]⟩⟩
  cases h; rfl
def kd (l : Led) (d : Int) : Nat := (l.entries.takeWhile fun x => decide (x.day ≤ d)).length
theorem takeWhile_get {α : Type} (p : α → Bool) : ∀ (l : List α) (k : Nat) (d : α), k < (l.takeWhile p).length → p (l.getD k d) = true
  | [], k, d, h => by simp at h
  | a :: l, k, d, h => by
    rw [List.takeWhile_cons] at h
    split at h
    · cases k with
      | zero => simpa
      | succ k => simpa using takeWhile_get p l k d (by simpa using h)
    · simp at h
theorem takeWhile_end {α : Type} (p : α → Bool) : ∀ (l : List α) (d : α), (l.takeWhile p).length < l.length → p (l.getD (l.takeWhile p).length d) = false
  | [], d, h => by simp at h
  | a :: l, d, h => by
    rw [List.takeWhile_cons] at h ⊢
    split
    · rename_i hp
      rw [if_pos hp] at h
      simpa using takeWhile_end p l d (by simpa using h)
    · rename_i hp; simpa using hp
theorem takeWhile_le {α : Type} (p q : α → Bool) (h : ∀ a, p a = true → q a = true) : ∀ l : List α, (l.takeWhile p).length ≤ (l.takeWhile q).length
  | [] => by simp
  | a :: l => by
    rw [List.takeWhile_cons, List.takeWhile_cons]
    split
    · rename_i hp; rw [if_pos (h a hp)]; simpa using takeWhile_le p q h l
    · simp
theorem kd_le (l : Led) (d : Int) : kd l d ≤ l.entries.length := List.Sublist.length_le (List.takeWhile_sublist _)
theorem kd_lt {l : Led} {d : Int} {k : Nat} (h : k < kd l d) : (l.entries.getD k default).day ≤ d := by simpa using takeWhile_get _ l.entries k default h
theorem kd_end {l : Led} {d : Int} (h : kd l d < l.entries.length) : ¬ (l.entries.getD (kd l d) default).day ≤ d := by
  have := takeWhile_end (fun x : Ent => decide (x.day ≤ d)) l.entries default h
  change decide ((l.entries.getD (kd l d) default).day ≤ d) = false at this
  simpa only [decide_eq_false_iff_not] using this
theorem kd_mono (l : Led) {d e : Int} (h : d ≤ e) : kd l d ≤ kd l e := takeWhile_le _ _ (fun a ha => by simp at ha ⊢; omega) _
def evH (l : Led) (d : Int) : List Int := (stK l (kd l d)).2
def gT (l : Led) (c d : Nat) : Rat := (rq l ((d : Int) + 1) c - rq l d c) * ((evH l d).getD c 0 : Int)
def gQ1 (l : Led) (D c : Nat) : Rat := qsum ((List.range D).map fun d => gT l c d)
theorem gQ1_succ (l : Led) (D c : Nat) : gQ1 l (D + 1) c = gQ1 l D c + gT l c D := by
  unfold gQ1; rw [List.range_succ, List.map_append, List.map_cons, List.map_nil, qsum_snoc]
def outL (l : Led) (D c : Nat) : List Rat := (List.range l.coins.length).map fun i => if i < c then gQ1 l (D + 1) i else gQ1 l D i
def gainsL (l : Led) : List Rat := (List.range l.coins.length).map fun i => gQ1 l (l.rates.length - 1) i
theorem outL_len (l : Led) (D c : Nat) : (outL l D c).length = l.coins.length := by simp [outL]
theorem outL_get {l : Led} {D c : Nat} (h : c < l.coins.length) : (outL l D c).getD c 0 = gQ1 l D c := by simp [outL, List.getD_eq_getElem?_getD, h]
theorem outL_set {l : Led} {D c : Nat} (h : c < l.coins.length) : (outL l D c).set c (gQ1 l D c + gT l c D) = outL l D (c + 1) := by
  rw [← gQ1_succ]
  apply List.ext_getElem
  · simp [outL]
  · intro i h1 h2
    simp only [outL, List.length_set, List.length_map, List.length_range] at h1
    rw [List.getElem_set]
    split
    · rename_i e; subst e; simp [outL]
    · simp only [outL, List.getElem_map, List.getElem_range]
      by_cases hi : i < c
      · rw [if_pos hi, if_pos (by omega)]
      · rw [if_neg hi, if_neg (by omega)]
theorem outL_next (l : Led) (D : Nat) : outL l D l.coins.length = outL l (D + 1) 0 := by
  unfold outL
  refine List.map_congr_left fun i hi => ?_
  have := List.mem_range.1 hi
  rw [if_pos this, if_neg (by omega)]
theorem outL_start (l : Led) : (outL l 0 0).map eQ = List.replicate l.coins.length (eQ 0) := by
  unfold outL
  rw [List.map_map]
  refine List.eq_replicate_iff.2 ⟨by simp, fun b hb => ?_⟩
  obtain ⟨i, hi, rfl⟩ := List.mem_map.1 hb
  simp [gQ1, qsum]
theorem outL_end (l : Led) (h : 1 ≤ l.rates.length) : outL l (l.rates.length - 1) 0 = gainsL l := by
  unfold outL gainsL
  refine List.map_congr_left fun i hi => ?_
  rw [if_neg (by omega)]
theorem val_has {l : Led} (h : Val l) (k : Nat) (hk : k ≤ l.entries.length) : HasOk l k (stK l k).2 := hasOk_all h.sl h.s k hk fun j hj => h.es j (by omega)
theorem val_entry {l : Led} (h : Val l) {k : Nat} (hk : k < l.entries.length) : EntryOk l (l.entries.getD k default) (stK l k).1 := by
  have h0 := h.es k hk
  rw [eK_eq] at h0
  unfold eV at h0
  split at h0
  · exact absurd h0 ‹_›
  · exact entryE_ok (Decidable.not_not.1 ‹_›)
theorem val_hb {l : Led} (h : Val l) (k : Nat) (hk : k ≤ l.entries.length) (c : Nat) : 0 ≤ (stK l k).2.getD c 0 ∧ (stK l k).2.getD c 0 ≤ 6993 := by
  have h1 := val_has h k hk
  have := h.e
  by_cases hc : c < (stK l k).2.length
  · have := h1.b _ (gMem (d := 0) hc); omega
  · rw [List.getD_eq_getElem?_getD, List.getElem?_eq_none (by omega)]; simp
theorem gT_bd {l : Led} (h : Val l) {c d : Nat} (hc : c < l.coins.length) (hd : d + 1 < l.rates.length) : Bd 300000 (gT l c d) := by
  have r1 := rt_bd (val_rt h (d := (d : Int) + 1) (c := c) (by omega) (by omega) (by omega) (by omega))
  have r2 := rt_bd (val_rt h (d := (d : Int)) (c := c) (by omega) (by omega) (by omega) (by omega))
  have hb := val_hb h (kd l d) (kd_le _ _) c
  exact ((r1.sub r2).muli (C := 7000) (n := (evH l d).getD c 0) (by unfold evH; omega) (by unfold evH; omega)).mono (by decide)
theorem gQ1_bd {l : Led} (h : Val l) {c D : Nat} (hc : c < l.coins.length) (hd : D < l.rates.length) : Bd 900000 (gQ1 l D c) := by
  have := qsum_bd ((List.range D).map fun d => gT l c d) (B := 300000) fun q hq => by
    obtain ⟨d, hd', rfl⟩ := List.mem_map.1 hq
    exact gT_bd h hc (by have := List.mem_range.1 hd'; omega)
  refine this.mono ?_
  have := h.r
  simp; omega
def gS1 (l : Led) (D k : Nat) : St := { t := asg [(1, .ptr 0 0), (3, .row 3), (4, .ptr 1 0), (5, aI k), (20, aI ((l.rates.length : Int) - 1)), (21, aI D)], h := hasg [(0, .cells (cLed l)), (1, oTill l 2), (2, oHas (stK l k).2), (3, .row 107 2 ((outL l D 0).map eQ))], n := 4 }
def gS2 (l : Led) (D k : Nat) : St := { t := asg [(1, .ptr 0 0), (3, .row 3), (4, .ptr 1 0), (5, aI k), (6, aI D), (20, aI ((l.rates.length : Int) - 1)), (21, aI D)], h := hasg [(0, .cells (cLed l)), (1, oTill l 2), (2, oHas (stK l k).2), (3, .row 107 2 ((outL l D 0).map eQ))], n := 4 }
def gS3 (l : Led) (D c : Nat) : St := { t := asg [(1, .ptr 0 0), (3, .row 3), (4, .ptr 1 0), (5, aI (kd l D)), (6, aI D), (20, aI ((l.rates.length : Int) - 1)), (21, aI D), (60, .row 2), (61, aI l.coins.length), (62, aI c)], h := hasg [(0, .cells (cLed l)), (1, oTill l 2), (2, oHas (evH l D)), (3, .row 107 2 ((outL l D c).map eQ))], n := 4 }
theorem setQ (l : List Rat) (n : Nat) (q : Rat) : (l.map eQ).set n [.v (.int .i64 q.num), .v (.int .i64 q.den)] = (l.set n q).map eQ := by rw [List.map_set]; rfl
end Go.Sym.B
namespace Go.Sym.B
open Go Go.Sym Go.Proofs Go.Sym.C
def tbF15_96 := And.intro @ty3 (And.intro @ty22 (And.intro @ty28 (And.intro @ty35 (And.intro @ty36 (And.intro @ty38 (And.intro @ty48 (And.intro @ty55 (And.intro @ty107 (And.intro @ty115 (And.intro @ty123 (And.intro @ti3.eq_1 (And.intro @ti22.eq_1 (And.intro @ti28.eq_1 (And.intro @ti35.eq_1 (And.intro @ti36.eq_1 (And.intro @ti38.eq_1 (And.intro @ti48.eq_1 (And.intro @ti55.eq_1 (And.intro @ti107.eq_1 (And.intro @ti115.eq_1 @ti123.eq_1))))))))))))))))))))
set_option maxHeartbeats 2000000 in
theorem gains_fn (l : Led) (hV : Val l) : FnV Try.prog 96 [aLed l] (.sl ((gainsL l).map eQ)) := by
  have env : Env (fun _ => True) Try.prog tyB (tab [(107, valE true s107), (137, fnE p137), (97, fnE p97), (101, fnE p101), (98, valE true c98), (100, valE true s100), (99, valE true s99), (138, valE true s138)]) := mkEnv ⟨e107, e137, e97, e101, d98, e100, e99, e138, trivial⟩
  refine Fn.of (A := fun _ => True) (n0 := 0) (D := noD) (Fn0 Try.func96 rfl (fun vs w => by kernel_rfl) (by kernel_rfl)) (by simp) (by simp [AV.ids, AV.idsL, aLed, cLed]) (fun i o h => by cases h) (fun _ _ _ _ => trivial) noD_ok ?_
  have q1 := hV.c
  have q2 := hV.r
  have q3 := hV.sl
  have q4 := hV.e
  have q5 : l.start.length ≤ 100000 := by omega
  have w1 : IntKind.wrap .i64 ((l.rates.length : Int) - 1) = (l.rates.length : Int) - 1 := wrap64 (by omega) (by omega)
  repeat' (first | refine zq0 ?_ | refine zq1 ?_ | refine zq2 ?_ | refine zq3 ?_ | refine zq4 ?_ | refine zq5 ?_ | refine thenK_n ?_ | refine thenK_x ?_ | refine thenK_r ?_ | refine blockK_n ?_ | refine blockK_r ?_ | refine blockK_hit ?_ | refine blockK_miss (by decide) ?_ | ((first | refine sym_reg env fun Q hQ => ?_ | refine sym_cz fun Q hQ => ?_); simp only [vkt, Nat.reduceEqDiff, Nat.reduceAdd, Nat.reduceMul, Nat.reduceSub, Nat.reduceLeDiff, reduceCtorEq, ↓reduceIte, ↓reduceDIte, Int.reduceToNat, Int.reduceLE, Int.reduceLT, Int.reduceEq, Int.reduceNeg, tbF15_96, aI, aB, aLed, cLed, aSh, shQ, eQ, eSh, oTill, oHas, gS1, gS2, gS3, s107, p137, p97, p101, c98, s100, s99, s138, isL_e, ldOf_e, isQ_q, qI_q, mInts, mShs, mInt, mEnt, eEnt, gEnt, eInt, rowEx2, w1]; (try simp only [ite_and]); (repeat' (first | with_reducible assumption | refine And.intro ?_ ?_ | intro hp)); all_goals (first | (refine hQ _ ?_; clear hQ; clear Q) | (refine hQ _ (fun h => ?_) (fun h => ?_) <;> clear hQ <;> clear Q <;> (try simp only [vki, reduceCtorEq] at h)) | omega | assumption | (with_reducible rfl) | (refine drawB_of ?_; kernel_rfl) | skip)))
  have hst := outL_start l
  refine sym_loop (fun D : { D : Nat // D ≤ l.rates.length - 1 } => gS1 l D.1 (if D.1 = 0 then 0 else kd l ((D.1 : Int) - 1))) (fun D => l.rates.length - 1 - D.1) ⟨0, Nat.zero_le _⟩ ?_ fun ⟨D, hD⟩ => ?_
  · (refine Le.ok (fun j => if j = 0 then some 0 else if j = 1 then some 3 else if j = 2 then some 4 else if j = 3 then some 2 else none) [] ⟨?_, ?_, ?_, ?_, ?_, ?_, ?_, ?_, ?_, ?_, ?_⟩; all_goals (try simp only [leT, leH, leO, ADf.leL, imgs, idsT, idsH, List.filterMap_cons, List.filterMap_nil, List.flatMap_nil, Nat.lt_irrefl, Nat.not_lt_zero, vkt, Nat.reduceEqDiff, Nat.reduceAdd, Nat.reduceMul, Nat.reduceSub, Nat.reduceLeDiff, reduceCtorEq, ↓reduceIte, ↓reduceDIte, Int.reduceToNat, Int.reduceLE, Int.reduceLT, Int.reduceEq, Int.reduceNeg, tbF15_96, aI, aB, aLed, cLed, aSh, shQ, eQ, eSh, oTill, oHas, gS1, gS2, gS3, s107, p137, p97, p101, c98, s100, s99, s138, isL_e, ldOf_e, isQ_q, qI_q, mInts, mShs, mInt, mEnt, eEnt, gEnt, eInt, rowEx2]))
    all_goals (first | (decide; done) | skip)
    · exact ⟨rfl, rfl⟩
    · exact ⟨rfl, hst.symm⟩
  · generalize hk0 : (if D = 0 then 0 else kd l ((D : Int) - 1)) = k0
    have hk0' : k0 ≤ kd l D := by
      rw [← hk0]; split
      · exact Nat.zero_le _
      · exact kd_mono l (by omega)
    repeat' (first | refine zq0 ?_ | refine zq1 ?_ | refine zq2 ?_ | refine zq3 ?_ | refine zq4 ?_ | refine zq5 ?_ | refine thenK_n ?_ | refine thenK_x ?_ | refine thenK_r ?_ | refine blockK_n ?_ | refine blockK_r ?_ | refine blockK_hit ?_ | refine blockK_miss (by decide) ?_)
    (refine sym_reg env fun Q hQ => ?_; simp only [vkt, Nat.reduceEqDiff, Nat.reduceAdd, Nat.reduceMul, Nat.reduceSub, Nat.reduceLeDiff, reduceCtorEq, ↓reduceIte, ↓reduceDIte, Int.reduceToNat, Int.reduceLE, Int.reduceLT, Int.reduceEq, Int.reduceNeg, tbF15_96, aI, aB, aLed, cLed, aSh, shQ, eQ, eSh, oTill, oHas, gS1, gS2, gS3, s107, p137, p97, p101, c98, s100, s99, s138, isL_e, ldOf_e, isQ_q, qI_q, mInts, mShs, mInt, mEnt, eEnt, gEnt, eInt, rowEx2]; (try simp only [ite_and]); (repeat' (first | with_reducible assumption | refine And.intro ?_ ?_ | intro hp)); all_goals (first | (refine hQ _ ?_; clear hQ; clear Q) | omega | assumption | (with_reducible rfl) | (refine drawB_of ?_; kernel_rfl) | skip))
    repeat' (first | refine zq0 ?_ | refine zq1 ?_ | refine zq2 ?_ | refine zq3 ?_ | refine zq4 ?_ | refine zq5 ?_ | refine thenK_n ?_ | refine thenK_x ?_ | refine thenK_r ?_ | refine blockK_n ?_ | refine blockK_r ?_ | refine blockK_hit ?_ | refine blockK_miss (by decide) ?_)
    (refine sym_cd (by simp only [vkt, Nat.reduceEqDiff, Nat.reduceAdd, Nat.reduceMul, Nat.reduceSub, Nat.reduceLeDiff, reduceCtorEq, ↓reduceIte, ↓reduceDIte, Int.reduceToNat, Int.reduceLE, Int.reduceLT, Int.reduceEq, Int.reduceNeg, tbF15_96, aI, aB, aLed, cLed, aSh, shQ, eQ, eSh, oTill, oHas, gS1, gS2, gS3, s107, p137, p97, p101, c98, s100, s99, s138, isL_e, ldOf_e, isQ_q, qI_q, mInts, mShs, mInt, mEnt, eEnt, gEnt, eInt, rowEx2]; rfl) (fun h => ?_) (fun h => ?_) <;> (try simp only [vki, reduceCtorEq] at h))
    · have hDlt : D + 1 < l.rates.length := by omega
      repeat' (first | refine zq0 ?_ | refine zq1 ?_ | refine zq2 ?_ | refine zq3 ?_ | refine zq4 ?_ | refine zq5 ?_ | refine thenK_n ?_ | refine thenK_x ?_ | refine thenK_r ?_ | refine blockK_n ?_ | refine blockK_r ?_ | refine blockK_hit ?_ | refine blockK_miss (by decide) ?_ | ((first | refine sym_reg env fun Q hQ => ?_ | refine sym_cz fun Q hQ => ?_); simp only [vkt, Nat.reduceEqDiff, Nat.reduceAdd, Nat.reduceMul, Nat.reduceSub, Nat.reduceLeDiff, reduceCtorEq, ↓reduceIte, ↓reduceDIte, Int.reduceToNat, Int.reduceLE, Int.reduceLT, Int.reduceEq, Int.reduceNeg, tbF15_96, aI, aB, aLed, cLed, aSh, shQ, eQ, eSh, oTill, oHas, gS1, gS2, gS3, s107, p137, p97, p101, c98, s100, s99, s138, isL_e, ldOf_e, isQ_q, qI_q, mInts, mShs, mInt, mEnt, eEnt, gEnt, eInt, rowEx2]; (try simp only [ite_and]); (repeat' (first | with_reducible assumption | refine And.intro ?_ ?_ | intro hp)); all_goals (first | (refine hQ _ ?_; clear hQ; clear Q) | (refine hQ _ (fun h => ?_) (fun h => ?_) <;> clear hQ <;> clear Q <;> (try simp only [vki, reduceCtorEq] at h)) | omega | assumption | (with_reducible rfl) | (refine drawB_of ?_; kernel_rfl) | skip)))
      refine sym_loop (fun k : { k : Nat // k ≤ kd l D } => gS2 l D k.1) (fun k => kd l D - k.1) ⟨k0, hk0'⟩ ?_ fun ⟨k, hk⟩ => ?_
      · (refine Le.ok some [] ⟨?_, ?_, ?_, ?_, ?_, ?_, ?_, ?_, ?_, ?_, ?_⟩; all_goals (try simp only [leT, leH, leO, ADf.leL, imgs, idsT, idsH, List.filterMap_cons, List.filterMap_nil, List.flatMap_nil, Nat.lt_irrefl, Nat.not_lt_zero, vkt, Nat.reduceEqDiff, Nat.reduceAdd, Nat.reduceMul, Nat.reduceSub, Nat.reduceLeDiff, reduceCtorEq, ↓reduceIte, ↓reduceDIte, Int.reduceToNat, Int.reduceLE, Int.reduceLT, Int.reduceEq, Int.reduceNeg, tbF15_96, aI, aB, aLed, cLed, aSh, shQ, eQ, eSh, oTill, oHas, gS1, gS2, gS3, s107, p137, p97, p101, c98, s100, s99, s138, isL_e, ldOf_e, isQ_q, qI_q, mInts, mShs, mInt, mEnt, eEnt, gEnt, eInt, rowEx2]))
        all_goals simp
      · have hkl := kd_le l D
        have ho := val_has hV k (by omega)
        by_cases hlt : k < kd l D
        · have hkd := kd_lt hlt
          have hentry := val_entry hV (show k < l.entries.length by omega)
          have hen := enOk_of ho (by omega) hentry
          have hS := stK_succ (show k < l.entries.length by omega)
          generalize hx : l.entries.getD k default = x at *
          have hen' : EnOk (stK l k).2 ⟨x.day, x.kind, x.coin, x.to, x.amount, x.got⟩ := hen
          have c1 : ((k : Int) < l.entries.length) := by omega
          have e9 := wrap_succ hlt (show kd l D ≤ maxLen by have := tmax; omega)
          repeat' (first | refine zq0 ?_ | refine zq1 ?_ | refine zq2 ?_ | refine zq3 ?_ | refine zq4 ?_ | refine zq5 ?_ | refine thenK_n ?_ | refine thenK_x ?_ | refine thenK_r ?_ | refine blockK_n ?_ | refine blockK_r ?_ | refine blockK_hit ?_ | refine blockK_miss (by decide) ?_ | ((first | refine sym_reg env fun Q hQ => ?_ | refine sym_cz fun Q hQ => ?_); simp only [vkt, Nat.reduceEqDiff, Nat.reduceAdd, Nat.reduceMul, Nat.reduceSub, Nat.reduceLeDiff, reduceCtorEq, ↓reduceIte, ↓reduceDIte, Int.reduceToNat, Int.reduceLE, Int.reduceLT, Int.reduceEq, Int.reduceNeg, tbF15_96, aI, aB, aLed, cLed, aSh, shQ, eQ, eSh, oTill, oHas, gS1, gS2, gS3, s107, p137, p97, p101, c98, s100, s99, s138, isL_e, ldOf_e, isQ_q, qI_q, mInts, mShs, mInt, mEnt, eEnt, gEnt, eInt, rowEx2, hx, c1, hkd]; (try simp only [ite_and]); (repeat' (first | with_reducible assumption | refine And.intro ?_ ?_ | intro hp)); all_goals (first | (refine hQ _ ?_; clear hQ; clear Q) | (refine hQ _ (fun h => ?_) (fun h => ?_) <;> clear hQ <;> clear Q <;> (try simp only [vki, reduceCtorEq] at h)) | omega | assumption | (with_reducible rfl) | (refine drawB_of ?_; kernel_rfl) | skip)))
          refine ⟨⟨k + 1, hlt⟩, by show kd l D - (k + 1) < kd l D - k; omega, ?_⟩
          (refine Le.ok some [] ⟨?_, ?_, ?_, ?_, ?_, ?_, ?_, ?_, ?_, ?_, ?_⟩; all_goals (try simp only [leT, leH, leO, ADf.leL, imgs, idsT, idsH, List.filterMap_cons, List.filterMap_nil, List.flatMap_nil, Nat.lt_irrefl, Nat.not_lt_zero, vkt, Nat.reduceEqDiff, Nat.reduceAdd, Nat.reduceMul, Nat.reduceSub, Nat.reduceLeDiff, reduceCtorEq, ↓reduceIte, ↓reduceDIte, Int.reduceToNat, Int.reduceLE, Int.reduceLT, Int.reduceEq, Int.reduceNeg, tbF15_96, aI, aB, aLed, cLed, aSh, shQ, eQ, eSh, oTill, oHas, gS1, gS2, gS3, s107, p137, p97, p101, c98, s100, s99, s138, isL_e, ldOf_e, isQ_q, qI_q, mInts, mShs, mInt, mEnt, eEnt, gEnt, eInt, rowEx2]))
          all_goals simp [hS, e9]
        · have hkk : k = kd l D := by omega
          subst hkk
          have hcase : (((kd l D : Int) < l.entries.length) ∧ ¬ (l.entries.getD (kd l D) default).day ≤ D) ∨ (¬ ((kd l D : Int) < l.entries.length) ∧ True) := by
            by_cases hend : kd l D < l.entries.length
            · exact .inl ⟨by omega, kd_end hend⟩
            · exact .inr ⟨by omega, trivial⟩
          have hlen : (stK l (kd l D)).2.length = l.coins.length := ho.len
          have hlen' : ((stK l (kd l D)).2.length : Int) = l.coins.length := by omega
          have e8 : IntKind.wrap .i64 ((D : Int) + 1) = (D : Int) + 1 := wrap64 (by omega) (by omega)
          have e7 : IntKind.wrap .i64 ((D : Int) + 1) = ((D + 1 : Nat) : Int) := by rw [e8]; rfl
          have e6 : ((D + 1 : Nat) : Int) - 1 = D := by omega
          rcases hcase with ⟨c1, c2⟩ | ⟨c1, c2⟩
          all_goals (
            repeat' (first | refine zq0 ?_ | refine zq1 ?_ | refine zq2 ?_ | refine zq3 ?_ | refine zq4 ?_ | refine zq5 ?_ | refine thenK_n ?_ | refine thenK_x ?_ | refine thenK_r ?_ | refine blockK_n ?_ | refine blockK_r ?_ | refine blockK_hit ?_ | refine blockK_miss (by decide) ?_ | ((first | refine sym_reg env fun Q hQ => ?_ | refine sym_cz fun Q hQ => ?_); simp only [vkt, Nat.reduceEqDiff, Nat.reduceAdd, Nat.reduceMul, Nat.reduceSub, Nat.reduceLeDiff, reduceCtorEq, ↓reduceIte, ↓reduceDIte, Int.reduceToNat, Int.reduceLE, Int.reduceLT, Int.reduceEq, Int.reduceNeg, tbF15_96, aI, aB, aLed, cLed, aSh, shQ, eQ, eSh, oTill, oHas, gS1, gS2, gS3, s107, p137, p97, p101, c98, s100, s99, s138, isL_e, ldOf_e, isQ_q, qI_q, mInts, mShs, mInt, mEnt, eEnt, gEnt, eInt, rowEx2, c1, c2]; (try simp only [ite_and]); (repeat' (first | with_reducible assumption | refine And.intro ?_ ?_ | intro hp)); all_goals (first | (refine hQ _ ?_; clear hQ; clear Q) | (refine hQ _ (fun h => ?_) (fun h => ?_) <;> clear hQ <;> clear Q <;> (try simp only [vki, reduceCtorEq] at h)) | omega | assumption | (with_reducible rfl) | (refine drawB_of ?_; kernel_rfl) | skip)))
            refine sym_loop (fun c : { c : Nat // c ≤ l.coins.length } => gS3 l D c.1) (fun c => l.coins.length - c.1) ⟨0, Nat.zero_le _⟩ ?_ fun ⟨c, hc⟩ => ?_
            · (refine Le.ok some [] ⟨?_, ?_, ?_, ?_, ?_, ?_, ?_, ?_, ?_, ?_, ?_⟩; all_goals (try simp only [leT, leH, leO, ADf.leL, imgs, idsT, idsH, List.filterMap_cons, List.filterMap_nil, List.flatMap_nil, Nat.lt_irrefl, Nat.not_lt_zero, vkt, Nat.reduceEqDiff, Nat.reduceAdd, Nat.reduceMul, Nat.reduceSub, Nat.reduceLeDiff, reduceCtorEq, ↓reduceIte, ↓reduceDIte, Int.reduceToNat, Int.reduceLE, Int.reduceLT, Int.reduceEq, Int.reduceNeg, tbF15_96, aI, aB, aLed, cLed, aSh, shQ, eQ, eSh, oTill, oHas, gS1, gS2, gS3, s107, p137, p97, p101, c98, s100, s99, s138, isL_e, ldOf_e, isQ_q, qI_q, mInts, mShs, mInt, mEnt, eEnt, gEnt, eInt, rowEx2]))
              all_goals first | exact ⟨rfl, trivial⟩ | (simp only [hlen', evH, and_self, and_true, true_and]; done) | simp [hlen', evH]
            · repeat' (first | refine zq0 ?_ | refine zq1 ?_ | refine zq2 ?_ | refine zq3 ?_ | refine zq4 ?_ | refine zq5 ?_ | refine thenK_n ?_ | refine thenK_x ?_ | refine thenK_r ?_ | refine blockK_n ?_ | refine blockK_r ?_ | refine blockK_hit ?_ | refine blockK_miss (by decide) ?_)
              (refine sym_reg env fun Q hQ => ?_; simp only [vkt, Nat.reduceEqDiff, Nat.reduceAdd, Nat.reduceMul, Nat.reduceSub, Nat.reduceLeDiff, reduceCtorEq, ↓reduceIte, ↓reduceDIte, Int.reduceToNat, Int.reduceLE, Int.reduceLT, Int.reduceEq, Int.reduceNeg, tbF15_96, aI, aB, aLed, cLed, aSh, shQ, eQ, eSh, oTill, oHas, gS1, gS2, gS3, s107, p137, p97, p101, c98, s100, s99, s138, isL_e, ldOf_e, isQ_q, qI_q, mInts, mShs, mInt, mEnt, eEnt, gEnt, eInt, rowEx2]; (try simp only [ite_and]); (repeat' (first | with_reducible assumption | refine And.intro ?_ ?_ | intro hp)); all_goals (first | (refine hQ _ ?_; clear hQ; clear Q) | omega | assumption | (with_reducible rfl) | (refine drawB_of ?_; kernel_rfl) | skip))
              repeat' (first | refine zq0 ?_ | refine zq1 ?_ | refine zq2 ?_ | refine zq3 ?_ | refine zq4 ?_ | refine zq5 ?_ | refine thenK_n ?_ | refine thenK_x ?_ | refine thenK_r ?_ | refine blockK_n ?_ | refine blockK_r ?_ | refine blockK_hit ?_ | refine blockK_miss (by decide) ?_)
              (refine sym_cd (by simp only [vkt, Nat.reduceEqDiff, Nat.reduceAdd, Nat.reduceMul, Nat.reduceSub, Nat.reduceLeDiff, reduceCtorEq, ↓reduceIte, ↓reduceDIte, Int.reduceToNat, Int.reduceLE, Int.reduceLT, Int.reduceEq, Int.reduceNeg, tbF15_96, aI, aB, aLed, cLed, aSh, shQ, eQ, eSh, oTill, oHas, gS1, gS2, gS3, s107, p137, p97, p101, c98, s100, s99, s138, isL_e, ldOf_e, isQ_q, qI_q, mInts, mShs, mInt, mEnt, eEnt, gEnt, eInt, rowEx2]; rfl) (fun h => ?_) (fun h => ?_) <;> (try simp only [vki, reduceCtorEq] at h))
              · have hclt : c < l.coins.length := by omega
                have r1 := val_rt hV (d := (D : Int) + 1) (c := c) (by omega) (by omega) (by omega) (by omega)
                have r2 := val_rt hV (d := (D : Int)) (c := c) (by omega) (by omega) (by omega) (by omega)
                have b1 := rt_bd r1
                have b2 := rt_bd r2
                have s1 := b1.sm (by decide)
                have s2 := b2.sm (by decide)
                have hb := val_hb hV (kd l D) (kd_le _ _) c
                have b3 := b1.sub b2
                have t3 : Tm (rq l ((D : Int) + 1) c - rq l D c) ((evH l D).getD c 0) := ⟨b3.sm (by decide), by unfold evH; omega, by unfold evH; omega⟩
                have s3 := (gT_bd hV hclt hDlt).sm (by decide)
                unfold gT at s3
                have s4 := (gQ1_bd hV hclt (show D < l.rates.length by omega)).sm (by decide)
                have g1 := gQ (z := []) (show c < (outL l D c).length by rw [outL_len]; exact hclt)
                rw [outL_get hclt] at g1
                have hcl2 : c < (outL l D c).length := by rw [outL_len]; exact hclt
                have hel : c < (evH l D).length := by unfold evH; omega
                have g2 := gI0 hel
                have g3 := setQ (outL l D c) c
                have e9 := wrap_succ hclt (show l.coins.length ≤ maxLen by have := tmax; omega)
                have hset := outL_set (D := D) hclt
                unfold gT at hset
                repeat' (first | refine zq0 ?_ | refine zq1 ?_ | refine zq2 ?_ | refine zq3 ?_ | refine zq4 ?_ | refine zq5 ?_ | refine thenK_n ?_ | refine thenK_x ?_ | refine thenK_r ?_ | refine blockK_n ?_ | refine blockK_r ?_ | refine blockK_hit ?_ | refine blockK_miss (by decide) ?_ | ((first | refine sym_reg env fun Q hQ => ?_ | refine sym_cz fun Q hQ => ?_); simp only [vkt, Nat.reduceEqDiff, Nat.reduceAdd, Nat.reduceMul, Nat.reduceSub, Nat.reduceLeDiff, reduceCtorEq, ↓reduceIte, ↓reduceDIte, Int.reduceToNat, Int.reduceLE, Int.reduceLT, Int.reduceEq, Int.reduceNeg, tbF15_96, aI, aB, aLed, cLed, aSh, shQ, eQ, eSh, oTill, oHas, gS1, gS2, gS3, s107, p137, p97, p101, c98, s100, s99, s138, isL_e, ldOf_e, isQ_q, qI_q, mInts, mShs, mInt, mEnt, eEnt, gEnt, eInt, rowEx2, g1, g2, g3, e8, hset]; (try simp only [ite_and]); (repeat' (first | with_reducible assumption | refine And.intro ?_ ?_ | intro hp)); all_goals (first | (refine hQ _ ?_; clear hQ; clear Q) | (refine hQ _ (fun h => ?_) (fun h => ?_) <;> clear hQ <;> clear Q <;> (try simp only [vki, reduceCtorEq] at h)) | omega | assumption | (with_reducible rfl) | (refine drawB_of ?_; kernel_rfl) | skip)))
                refine ⟨⟨c + 1, hclt⟩, by show l.coins.length - (c + 1) < l.coins.length - c; omega, ?_⟩
                (refine Le.ok some [] ⟨?_, ?_, ?_, ?_, ?_, ?_, ?_, ?_, ?_, ?_, ?_⟩; all_goals (try simp only [leT, leH, leO, ADf.leL, imgs, idsT, idsH, List.filterMap_cons, List.filterMap_nil, List.flatMap_nil, Nat.lt_irrefl, Nat.not_lt_zero, vkt, Nat.reduceEqDiff, Nat.reduceAdd, Nat.reduceMul, Nat.reduceSub, Nat.reduceLeDiff, reduceCtorEq, ↓reduceIte, ↓reduceDIte, Int.reduceToNat, Int.reduceLE, Int.reduceLT, Int.reduceEq, Int.reduceNeg, tbF15_96, aI, aB, aLed, cLed, aSh, shQ, eQ, eSh, oTill, oHas, gS1, gS2, gS3, s107, p137, p97, p101, c98, s100, s99, s138, isL_e, ldOf_e, isQ_q, qI_q, mInts, mShs, mInt, mEnt, eEnt, gEnt, eInt, rowEx2]))
                all_goals first | rfl | trivial | (simp [e9]; done) | exact ⟨rfl, trivial⟩ | exact ⟨rfl, rfl⟩
              · have hcn : c = l.coins.length := by omega
                subst hcn
                have hnx := outL_next l D
                repeat' (first | refine zq0 ?_ | refine zq1 ?_ | refine zq2 ?_ | refine zq3 ?_ | refine zq4 ?_ | refine zq5 ?_ | refine thenK_n ?_ | refine thenK_x ?_ | refine thenK_r ?_ | refine blockK_n ?_ | refine blockK_r ?_ | refine blockK_hit ?_ | refine blockK_miss (by decide) ?_ | ((first | refine sym_reg env fun Q hQ => ?_ | refine sym_cz fun Q hQ => ?_); simp only [vkt, Nat.reduceEqDiff, Nat.reduceAdd, Nat.reduceMul, Nat.reduceSub, Nat.reduceLeDiff, reduceCtorEq, ↓reduceIte, ↓reduceDIte, Int.reduceToNat, Int.reduceLE, Int.reduceLT, Int.reduceEq, Int.reduceNeg, tbF15_96, aI, aB, aLed, cLed, aSh, shQ, eQ, eSh, oTill, oHas, gS1, gS2, gS3, s107, p137, p97, p101, c98, s100, s99, s138, isL_e, ldOf_e, isQ_q, qI_q, mInts, mShs, mInt, mEnt, eEnt, gEnt, eInt, rowEx2, hnx, e7]; (try simp only [ite_and]); (repeat' (first | with_reducible assumption | refine And.intro ?_ ?_ | intro hp)); all_goals (first | (refine hQ _ ?_; clear hQ; clear Q) | (refine hQ _ (fun h => ?_) (fun h => ?_) <;> clear hQ <;> clear Q <;> (try simp only [vki, reduceCtorEq] at h)) | omega | assumption | (with_reducible rfl) | (refine drawB_of ?_; kernel_rfl) | skip)))
                refine ⟨⟨D + 1, by omega⟩, by show l.rates.length - 1 - (D + 1) < l.rates.length - 1 - D; omega, ?_⟩
                rw [show (if D + 1 = 0 then 0 else kd l (((D + 1 : Nat) : Int) - 1)) = kd l D by rw [if_neg (by omega), e6]]
                (refine Le.ok some [] ⟨?_, ?_, ?_, ?_, ?_, ?_, ?_, ?_, ?_, ?_, ?_⟩; all_goals (try simp only [leT, leH, leO, ADf.leL, imgs, idsT, idsH, List.filterMap_cons, List.filterMap_nil, List.flatMap_nil, Nat.lt_irrefl, Nat.not_lt_zero, vkt, Nat.reduceEqDiff, Nat.reduceAdd, Nat.reduceMul, Nat.reduceSub, Nat.reduceLeDiff, reduceCtorEq, ↓reduceIte, ↓reduceDIte, Int.reduceToNat, Int.reduceLE, Int.reduceLT, Int.reduceEq, Int.reduceNeg, tbF15_96, aI, aB, aLed, cLed, aSh, shQ, eQ, eSh, oTill, oHas, gS1, gS2, gS3, s107, p137, p97, p101, c98, s100, s99, s138, isL_e, ldOf_e, isQ_q, qI_q, mInts, mShs, mInt, mEnt, eEnt, gEnt, eInt, rowEx2]))
                all_goals first | rfl | trivial | exact ⟨rfl, trivial⟩ | exact ⟨rfl, rfl⟩ | (simp [evH]; done))
    · have hDe : D = l.rates.length - 1 := by omega
      subst hDe
      have hfin := outL_end l q2.1
      repeat' (first | refine zq0 ?_ | refine zq1 ?_ | refine zq2 ?_ | refine zq3 ?_ | refine zq4 ?_ | refine zq5 ?_ | refine thenK_n ?_ | refine thenK_x ?_ | refine thenK_r ?_ | refine blockK_n ?_ | refine blockK_r ?_ | refine blockK_hit ?_ | refine blockK_miss (by decide) ?_ | ((first | refine sym_reg env fun Q hQ => ?_ | refine sym_cz fun Q hQ => ?_); simp only [vkt, Nat.reduceEqDiff, Nat.reduceAdd, Nat.reduceMul, Nat.reduceSub, Nat.reduceLeDiff, reduceCtorEq, ↓reduceIte, ↓reduceDIte, Int.reduceToNat, Int.reduceLE, Int.reduceLT, Int.reduceEq, Int.reduceNeg, tbF15_96, aI, aB, aLed, cLed, aSh, shQ, eQ, eSh, oTill, oHas, gS1, gS2, gS3, s107, p137, p97, p101, c98, s100, s99, s138, isL_e, ldOf_e, isQ_q, qI_q, mInts, mShs, mInt, mEnt, eEnt, gEnt, eInt, rowEx2]; (try simp only [ite_and]); (repeat' (first | with_reducible assumption | refine And.intro ?_ ?_ | intro hp)); all_goals (first | (refine hQ _ ?_; clear hQ; clear Q) | (refine hQ _ (fun h => ?_) (fun h => ?_) <;> clear hQ <;> clear Q <;> (try simp only [vki, reduceCtorEq] at h)) | omega | assumption | (with_reducible rfl) | (refine drawB_of ?_; kernel_rfl) | skip)))
      rw [← hfin]
      (simp only [retK, leaveA, resL, tupA, rd, wCells_some, wRow_some, Try.results96, vkt, Nat.reduceEqDiff, Nat.reduceAdd, Nat.reduceMul, Nat.reduceSub, Nat.reduceLeDiff, reduceCtorEq, ↓reduceIte, ↓reduceDIte, Int.reduceToNat, Int.reduceLE, Int.reduceLT, Int.reduceEq, Int.reduceNeg, tbF15_96, aI, aB, aLed, cLed, aSh, shQ, eQ, eSh, oTill, oHas, gS1, gS2, gS3, s107, p137, p97, p101, c98, s100, s99, s138, isL_e, ldOf_e, isQ_q, qI_q, mInts, mShs, mInt, mEnt, eEnt, gEnt, eInt, rowEx2]; refine Fin.val rfl ?_; (try simp only [AV.le, AV.leL]))
      all_goals exact ⟨_, _, rfl⟩
def c96 : List AV → Prop × AV
  | [.agg [.sl cs, .sl rs, .sl ss, .sl es]] => (isL cs rs ss es ∧ Val (ldOf cs rs ss es), .sl ((gainsL (ldOf cs rs ss es)).map eQ))
  | _ => (False, .junk)
theorem d96 {A : Frm → Prop} : EntryOK A Try.prog 96 (valE false c96) := valE_ok fun vs hv h => by
  clear hv
  unfold c96 at h ⊢
  split at h
  · refine ⟨trivial, fun h => absurd h (by decide), ?_⟩
    rw [← aLed_of h.1]; exact gains_fn _ h.2
  · exact h.elim
end Go.Sym.B
namespace Go.Sym.B
open Go Go.Sym Go.Proofs Go.Sym.C
def vE (l : Led) (i : Nat) : Rat :=
  let x := l.entries.getD i default
  if x.kind = 3 then rq l x.day x.coin * x.amount - rq l x.day x.to * x.got else if x.kind = 4 then rq l x.day x.coin * x.amount - rq l x.day x.coin * ((stK l i).2.getD x.coin.toNat 0 : Int) else rq l x.day x.coin * x.amount
def kL (l : Led) (κ : Int) (k : Nat) : List Rat := ((List.range k).filter fun i => decide ((l.entries.getD i default).kind = κ)).map (vE l)
theorem kL_succ (l : Led) (κ : Int) (k : Nat) : kL l κ (k + 1) = if (l.entries.getD k default).kind = κ then kL l κ k ++ [vE l k] else kL l κ k := by
  unfold kL
  rw [List.range_succ, List.filter_append]
  split
  · rename_i h; rw [List.filter_cons, if_pos (by rw [h]; simp), List.filter_nil, List.map_append]; rfl
  · rename_i h; rw [List.filter_cons, if_neg (by simpa using h), List.filter_nil, List.append_nil]
theorem kL_len (l : Led) (κ : Int) (k : Nat) : (kL l κ k).length ≤ k := by
  unfold kL
  rw [List.length_map]
  exact Nat.le_trans (List.length_filter_le _ _) (by simp)
theorem vE_bd {l : Led} (h : Val l) {i : Nat} (hi : i < l.entries.length) : Bd 1000000 (vE l i) := by
  have hx := val_entry h hi
  have hb := val_hb h i (by omega)
  unfold vE
  generalize l.entries.getD i default = x at *
  have r1 := rt_bd (val_rt h hx.day.1 hx.day.2 hx.coin.1 hx.coin.2)
  have a1 := r1.muli (C := 1000) (n := x.amount) (by have := hx.am; omega) (by have := hx.am; omega)
  dsimp only
  split
  · rename_i k3
    have r2 := rt_bd (val_rt h hx.day.1 hx.day.2 (hx.to k3).1 (hx.to k3).2)
    have a2 := r2.muli (C := 1000) (n := x.got) (by have := hx.got k3; omega) (by have := hx.got k3; omega)
    exact (a1.sub a2).mono (by decide)
  · split
    · have hc := hb x.coin.toNat
      have a2 := r1.muli (C := 7000) (n := (stK l i).2.getD x.coin.toNat 0) (by omega) (by omega)
      exact (a1.sub a2).mono (by decide)
    · exact a1.mono (by decide)
theorem kL_ok {l : Led} (h : Val l) (κ : Int) {k : Nat} (hk : k ≤ l.entries.length) : SumOk (kL l κ k) := by
  refine ⟨?_, fun q hq => ?_⟩
  · have := kL_len l κ k; have := h.e; omega
  · obtain ⟨i, hi, rfl⟩ := List.mem_map.1 hq
    have := List.mem_range.1 (List.mem_filter.1 hi).1
    exact vE_bd h (by omega)
theorem gains_ok {l : Led} (h : Val l) : SumOk (gainsL l) := by
  refine ⟨?_, fun q hq => ?_⟩
  · have := h.c; simp [gainsL]; omega
  · obtain ⟨i, hi, rfl⟩ := List.mem_map.1 hq
    exact (gQ1_bd h (List.mem_range.1 hi) (by have := h.r; omega)).mono (by decide)
theorem w_ok {l : Led} (h : Val l) {d : Int} (hd : 0 ≤ d) (hd' : d ≤ (l.rates.length : Int) - 1) {k : Nat} (hk : k ≤ l.entries.length) : WOk l d (stK l k).2 := by
  have hh := val_has h k hk
  refine ⟨?_, fun c hc => ?_, fun v hv => ?_⟩
  · rw [hh.len]; exact h.c.2
  · exact val_rt h hd hd' (by omega) (by have := hh.len; omega)
  · have := hh.b v hv; have := h.e; omega
structure Acc where
  taken : Rat
  paid : Rat
  gained : Rat
  lost : Rat
  found : Rat
  worth : Rat
deriving DecidableEq
def cAcc (a : Acc) : List AV := [.v (.int .i64 a.taken.num), .v (.int .i64 a.taken.den), .v (.int .i64 a.paid.num), .v (.int .i64 a.paid.den), .v (.int .i64 a.gained.num), .v (.int .i64 a.gained.den), .v (.int .i64 a.lost.num), .v (.int .i64 a.lost.den), .v (.int .i64 a.found.num), .v (.int .i64 a.found.den), .v (.int .i64 a.worth.num), .v (.int .i64 a.worth.den)]
def z12 : List AV := [.v (.int .i64 0), .v (.int .i64 0), .v (.int .i64 0), .v (.int .i64 0), .v (.int .i64 0), .v (.int .i64 0), .v (.int .i64 0), .v (.int .i64 0), .v (.int .i64 0), .v (.int .i64 0), .v (.int .i64 0), .v (.int .i64 0)]
def accOf (l : Led) : Acc := ⟨qsum (kL l 1 l.entries.length), qsum (kL l 2 l.entries.length), qsum (gainsL l), qsum (kL l 3 l.entries.length), qsum (kL l 4 l.entries.length), worthQ l ((l.rates.length : Int) - 1) (stK l l.entries.length).2 l.coins.length⟩
def aBal (l : Led) : AV := if checkE l ≠ 0 then .tup [.agg z12, aI (checkE l)] else .tup [.agg (cAcc (accOf l)), aI 0]
def baS (l : Led) (k : Nat) : St := { t := asg [(1, .ptr 0 0), (2, .ptr 1 0), (3, aI 0), (5, .ptr 2 0), (6, .row 4), (7, .row 5), (8, .row 6), (9, .row 7), (22, .sl (l.entries.map eEnt)), (23, aI l.entries.length), (24, aI k)], h := hasg [(0, .cells (cLed l)), (1, .cells z12), (2, oTill l 3), (3, oHas (stK l k).2), (4, .row 107 2 ((kL l 1 k).map eQ)), (5, .row 107 2 ((kL l 2 k).map eQ)), (6, .row 107 2 ((kL l 3 k).map eQ)), (7, .row 107 2 ((kL l 4 k).map eQ))], n := 8 }
def tbF16_39 := And.intro @ty3 (And.intro @ty22 (And.intro @ty30 (And.intro @ty35 (And.intro @ty36 (And.intro @ty38 (And.intro @ty48 (And.intro @ty55 (And.intro @ty61 (And.intro @ty107 (And.intro @ty115 (And.intro @ty123 (And.intro @ti3.eq_1 (And.intro @ti22.eq_1 (And.intro @ti30.eq_1 (And.intro @ti35.eq_1 (And.intro @ti36.eq_1 (And.intro @ti38.eq_1 (And.intro @ti48.eq_1 (And.intro @ti55.eq_1 (And.intro @ti61.eq_1 (And.intro @ti107.eq_1 (And.intro @ti115.eq_1 @ti123.eq_1))))))))))))))))))))))
set_option maxHeartbeats 4000000 in
theorem bal_fn (l : Led) (hl : Fit l) : FnV Try.prog 39 [aLed l] (aBal l) := by
  have env : Env (fun _ => True) Try.prog tyB (tab [(50, valE true c50), (97, fnE p97), (101, fnE p101), (103, fnE p103), (98, valE true c98), (100, valE true s100), (99, valE true s99), (102, valE true c102), (96, valE false c96)]) := mkEnv ⟨d50, e97, e101, e103, d98, e100, e99, d102, d96, trivial⟩
  refine Fn.of (A := fun _ => True) (n0 := 0) (D := noD) (Fn0 Try.func39 rfl (fun vs w => by kernel_rfl) (by kernel_rfl)) (by simp) (by simp [AV.ids, AV.idsL, aLed, cLed]) (fun i o h => by cases h) (fun _ _ _ _ => trivial) noD_ok ?_
  by_cases c0 : checkE l = 0
  · rw [show aBal l = _ from if_neg (by rw [c0]; simp)]
    have hV := val_of c0
    have q1 := hV.c
    have q2 := hV.r
    have q3 := hV.sl
    have q4 := hV.e
    have q5 : l.start.length ≤ 100000 := by omega
    repeat' (first | refine zq0 ?_ | refine zq1 ?_ | refine zq2 ?_ | refine zq3 ?_ | refine zq4 ?_ | refine zq5 ?_ | refine thenK_n ?_ | refine thenK_x ?_ | refine thenK_r ?_ | refine blockK_n ?_ | refine blockK_r ?_ | refine blockK_hit ?_ | refine blockK_miss (by decide) ?_ | ((first | refine sym_reg env fun Q hQ => ?_ | refine sym_cz fun Q hQ => ?_); simp only [vkt, Nat.reduceEqDiff, Nat.reduceAdd, Nat.reduceMul, Nat.reduceSub, Nat.reduceLeDiff, reduceCtorEq, ↓reduceIte, ↓reduceDIte, Int.reduceToNat, Int.reduceLE, Int.reduceLT, Int.reduceEq, Int.reduceNeg, tbF16_39, aI, aB, aLed, cLed, aSh, shQ, eQ, eSh, oTill, oHas, baS, z12, cAcc, c50, p97, p101, p103, c98, s100, s99, c102, c96, isL_e, ldOf_e, isQ_q, qI_q, mInts, mShs, mInt, mEnt, eEnt, gEnt, eInt, mQ, rQ, c0]; (try simp only [ite_and]); (repeat' (first | with_reducible assumption | refine And.intro ?_ ?_ | intro hp)); all_goals (first | (refine hQ _ ?_; clear hQ; clear Q) | (refine hQ _ (fun h => ?_) (fun h => ?_) <;> clear hQ <;> clear Q <;> (try simp only [vki, reduceCtorEq] at h)) | omega | assumption | (with_reducible rfl) | (refine drawB_of ?_; kernel_rfl) | skip)))
    refine sym_loop (fun k : { k : Nat // k ≤ l.entries.length } => baS l k.1) (fun k => l.entries.length - k.1) ⟨0, Nat.zero_le _⟩ ?_ fun ⟨k, hk⟩ => ?_
    · (refine Le.ok (fun j => if j = 0 then some 0 else if j = 1 then some 1 else if j = 2 then some 2 else if j = 3 then some 3 else none) [] ⟨?_, ?_, ?_, ?_, ?_, ?_, ?_, ?_, ?_, ?_, ?_⟩; all_goals (try simp only [leT, leH, leO, ADf.leL, imgs, idsT, idsH, List.filterMap_cons, List.filterMap_nil, List.flatMap_nil, Nat.lt_irrefl, Nat.not_lt_zero, vkt, Nat.reduceEqDiff, Nat.reduceAdd, Nat.reduceMul, Nat.reduceSub, Nat.reduceLeDiff, reduceCtorEq, ↓reduceIte, ↓reduceDIte, Int.reduceToNat, Int.reduceLE, Int.reduceLT, Int.reduceEq, Int.reduceNeg, tbF16_39, aI, aB, aLed, cLed, aSh, shQ, eQ, eSh, oTill, oHas, baS, z12, cAcc, c50, p97, p101, p103, c98, s100, s99, c102, c96, isL_e, ldOf_e, isQ_q, qI_q, mInts, mShs, mInt, mEnt, eEnt, gEnt, eInt, mQ, rQ]))
      all_goals first | rfl | decide | exact ⟨rfl, rfl, rfl, rfl, rfl⟩ | exact ⟨rfl, rfl⟩
    · repeat' (first | refine zq0 ?_ | refine zq1 ?_ | refine zq2 ?_ | refine zq3 ?_ | refine zq4 ?_ | refine zq5 ?_ | refine thenK_n ?_ | refine thenK_x ?_ | refine thenK_r ?_ | refine blockK_n ?_ | refine blockK_r ?_ | refine blockK_hit ?_ | refine blockK_miss (by decide) ?_)
      (refine sym_reg env fun Q hQ => ?_; simp only [vkt, Nat.reduceEqDiff, Nat.reduceAdd, Nat.reduceMul, Nat.reduceSub, Nat.reduceLeDiff, reduceCtorEq, ↓reduceIte, ↓reduceDIte, Int.reduceToNat, Int.reduceLE, Int.reduceLT, Int.reduceEq, Int.reduceNeg, tbF16_39, aI, aB, aLed, cLed, aSh, shQ, eQ, eSh, oTill, oHas, baS, z12, cAcc, c50, p97, p101, p103, c98, s100, s99, c102, c96, isL_e, ldOf_e, isQ_q, qI_q, mInts, mShs, mInt, mEnt, eEnt, gEnt, eInt, mQ, rQ]; (try simp only [ite_and]); (repeat' (first | with_reducible assumption | refine And.intro ?_ ?_ | intro hp)); all_goals (first | (refine hQ _ ?_; clear hQ; clear Q) | omega | assumption | (with_reducible rfl) | (refine drawB_of ?_; kernel_rfl) | skip))
      repeat' (first | refine zq0 ?_ | refine zq1 ?_ | refine zq2 ?_ | refine zq3 ?_ | refine zq4 ?_ | refine zq5 ?_ | refine thenK_n ?_ | refine thenK_x ?_ | refine thenK_r ?_ | refine blockK_n ?_ | refine blockK_r ?_ | refine blockK_hit ?_ | refine blockK_miss (by decide) ?_)
      (refine sym_cd (by simp only [vkt, Nat.reduceEqDiff, Nat.reduceAdd, Nat.reduceMul, Nat.reduceSub, Nat.reduceLeDiff, reduceCtorEq, ↓reduceIte, ↓reduceDIte, Int.reduceToNat, Int.reduceLE, Int.reduceLT, Int.reduceEq, Int.reduceNeg, tbF16_39, aI, aB, aLed, cLed, aSh, shQ, eQ, eSh, oTill, oHas, baS, z12, cAcc, c50, p97, p101, p103, c98, s100, s99, c102, c96, isL_e, ldOf_e, isQ_q, qI_q, mInts, mShs, mInt, mEnt, eEnt, gEnt, eInt, mQ, rQ]; rfl) (fun h => ?_) (fun h => ?_) <;> (try simp only [vki, reduceCtorEq] at h))
      · have hlt : k < l.entries.length := by omega
        have hentry := val_entry hV hlt
        have ho := val_has hV k (by omega)
        have hen := enOk_of ho (by omega) hentry
        have hS := stK_succ hlt
        have hb := val_hb hV k (by omega)
        have hvb := (vE_bd hV hlt).sm (by decide)
        have hkk : ∀ κ, kL l κ (k + 1) = _ := fun κ => kL_succ l κ k
        generalize hx : l.entries.getD k default = x at *
        have hen' : EnOk (stK l k).2 ⟨x.day, x.kind, x.coin, x.to, x.amount, x.got⟩ := hen
        have r1 := val_rt hV hentry.day.1 hentry.day.2 hentry.coin.1 hentry.coin.2
        have b1 := rt_bd r1
        have t1 : Tm (rq l x.day x.coin) x.amount := tm_of b1 (by have := hentry.am; omega) (by have := hentry.am; omega)
        have s1 := (b1.muli (C := 1000) (n := x.amount) (by have := hentry.am; omega) (by have := hentry.am; omega)).sm (by decide)
        have e9 := wrap_succ hlt (show l.entries.length ≤ maxLen by have := tmax; omega)
        have l1 := kL_len l 1 k
        have l2 := kL_len l 2 k
        have l3 := kL_len l 3 k
        have l4 := kL_len l 4 k
        have cap : ∀ n : Nat, n ≤ 6 → (n + 1) * 16 ≤ 140737488355328 ∧ n + 1 ≤ maxLen := fun n hn => by have := tmax; omega
        have fin : ∀ κ, ¬ x.kind = κ → kL l κ (k + 1) = kL l κ k := fun κ h => by rw [hkk, if_neg h]
        have fin1 : ∀ κ, x.kind = κ → kL l κ (k + 1) = kL l κ k ++ [vE l k] := fun κ h => by rw [hkk, if_pos h]
        rcases (by have := hentry.kind; omega : x.kind = 1 ∨ x.kind = 2 ∨ x.kind = 3 ∨ x.kind = 4) with k1 | k2 | k3 | k4
        · have n1 := fin1 1 (by omega)
          have n2 := fin 2 (by omega)
          have n3 := fin 3 (by omega)
          have n4 := fin 4 (by omega)
          have hen1 : EnOk (stK l k).2 ⟨x.day, 1, x.coin, x.to, x.amount, x.got⟩ := by rw [← k1]; exact hen'
          have hS1 : enterF (stK l k).2 ⟨x.day, 1, x.coin, x.to, x.amount, x.got⟩ = (stK l (k + 1)).2 := by rw [hS, ← k1]
          have g1 := cap (kL l 1 k).length (by omega)
          have hve : vE l k = rq l x.day x.coin * x.amount := by unfold vE; dsimp only; rw [hx, if_neg (by omega), if_neg (by omega)]
          repeat' (first | refine zq0 ?_ | refine zq1 ?_ | refine zq2 ?_ | refine zq3 ?_ | refine zq4 ?_ | refine zq5 ?_ | refine thenK_n ?_ | refine thenK_x ?_ | refine thenK_r ?_ | refine blockK_n ?_ | refine blockK_r ?_ | refine blockK_hit ?_ | refine blockK_miss (by decide) ?_ | ((first | refine sym_reg env fun Q hQ => ?_ | refine sym_cz fun Q hQ => ?_); simp only [vkt, Nat.reduceEqDiff, Nat.reduceAdd, Nat.reduceMul, Nat.reduceSub, Nat.reduceLeDiff, reduceCtorEq, ↓reduceIte, ↓reduceDIte, Int.reduceToNat, Int.reduceLE, Int.reduceLT, Int.reduceEq, Int.reduceNeg, tbF16_39, aI, aB, aLed, cLed, aSh, shQ, eQ, eSh, oTill, oHas, baS, z12, cAcc, c50, p97, p101, p103, c98, s100, s99, c102, c96, isL_e, ldOf_e, isQ_q, qI_q, mInts, mShs, mInt, mEnt, eEnt, gEnt, eInt, mQ, rQ, hx, k1]; (try simp only [ite_and]); (repeat' (first | with_reducible assumption | refine And.intro ?_ ?_ | intro hp)); all_goals (first | (refine hQ _ ?_; clear hQ; clear Q) | (refine hQ _ (fun h => ?_) (fun h => ?_) <;> clear hQ <;> clear Q <;> (try simp only [vki, reduceCtorEq] at h)) | omega | assumption | (with_reducible rfl) | (refine drawB_of ?_; kernel_rfl) | skip)))
          refine ⟨⟨k + 1, hlt⟩, by show l.entries.length - (k + 1) < l.entries.length - k; omega, ?_⟩
          (refine Le.ok (fun j => if j = 4 then some 11 else some j) [] ⟨?_, ?_, ?_, ?_, ?_, ?_, ?_, ?_, ?_, ?_, ?_⟩; all_goals (try simp only [leT, leH, leO, ADf.leL, imgs, idsT, idsH, List.filterMap_cons, List.filterMap_nil, List.flatMap_nil, Nat.lt_irrefl, Nat.not_lt_zero, vkt, Nat.reduceEqDiff, Nat.reduceAdd, Nat.reduceMul, Nat.reduceSub, Nat.reduceLeDiff, reduceCtorEq, ↓reduceIte, ↓reduceDIte, Int.reduceToNat, Int.reduceLE, Int.reduceLT, Int.reduceEq, Int.reduceNeg, tbF16_39, aI, aB, aLed, cLed, aSh, shQ, eQ, eSh, oTill, oHas, baS, z12, cAcc, c50, p97, p101, p103, c98, s100, s99, c102, c96, isL_e, ldOf_e, isQ_q, qI_q, mInts, mShs, mInt, mEnt, eEnt, gEnt, eInt, mQ, rQ]))
          all_goals first | rfl | decide | trivial | (rw [e9]; done) | exact ⟨by rw [hS1], by rw [n1, hve, List.map_append]; rfl, by rw [n2], by rw [n3], by rw [n4]⟩
        · have n1 := fin 1 (by omega)
          have n2 := fin1 2 (by omega)
          have n3 := fin 3 (by omega)
          have n4 := fin 4 (by omega)
          have hen1 : EnOk (stK l k).2 ⟨x.day, 2, x.coin, x.to, x.amount, x.got⟩ := by rw [← k2]; exact hen'
          have hS1 : enterF (stK l k).2 ⟨x.day, 2, x.coin, x.to, x.amount, x.got⟩ = (stK l (k + 1)).2 := by rw [hS, ← k2]
          have g1 := cap (kL l 2 k).length (by omega)
          have hve : vE l k = rq l x.day x.coin * x.amount := by unfold vE; dsimp only; rw [hx, if_neg (by omega), if_neg (by omega)]
          repeat' (first | refine zq0 ?_ | refine zq1 ?_ | refine zq2 ?_ | refine zq3 ?_ | refine zq4 ?_ | refine zq5 ?_ | refine thenK_n ?_ | refine thenK_x ?_ | refine thenK_r ?_ | refine blockK_n ?_ | refine blockK_r ?_ | refine blockK_hit ?_ | refine blockK_miss (by decide) ?_ | ((first | refine sym_reg env fun Q hQ => ?_ | refine sym_cz fun Q hQ => ?_); simp only [vkt, Nat.reduceEqDiff, Nat.reduceAdd, Nat.reduceMul, Nat.reduceSub, Nat.reduceLeDiff, reduceCtorEq, ↓reduceIte, ↓reduceDIte, Int.reduceToNat, Int.reduceLE, Int.reduceLT, Int.reduceEq, Int.reduceNeg, tbF16_39, aI, aB, aLed, cLed, aSh, shQ, eQ, eSh, oTill, oHas, baS, z12, cAcc, c50, p97, p101, p103, c98, s100, s99, c102, c96, isL_e, ldOf_e, isQ_q, qI_q, mInts, mShs, mInt, mEnt, eEnt, gEnt, eInt, mQ, rQ, hx, k2]; (try simp only [ite_and]); (repeat' (first | with_reducible assumption | refine And.intro ?_ ?_ | intro hp)); all_goals (first | (refine hQ _ ?_; clear hQ; clear Q) | (refine hQ _ (fun h => ?_) (fun h => ?_) <;> clear hQ <;> clear Q <;> (try simp only [vki, reduceCtorEq] at h)) | omega | assumption | (with_reducible rfl) | (refine drawB_of ?_; kernel_rfl) | skip)))
          refine ⟨⟨k + 1, hlt⟩, by show l.entries.length - (k + 1) < l.entries.length - k; omega, ?_⟩
          (refine Le.ok (fun j => if j = 5 then some 11 else some j) [] ⟨?_, ?_, ?_, ?_, ?_, ?_, ?_, ?_, ?_, ?_, ?_⟩; all_goals (try simp only [leT, leH, leO, ADf.leL, imgs, idsT, idsH, List.filterMap_cons, List.filterMap_nil, List.flatMap_nil, Nat.lt_irrefl, Nat.not_lt_zero, vkt, Nat.reduceEqDiff, Nat.reduceAdd, Nat.reduceMul, Nat.reduceSub, Nat.reduceLeDiff, reduceCtorEq, ↓reduceIte, ↓reduceDIte, Int.reduceToNat, Int.reduceLE, Int.reduceLT, Int.reduceEq, Int.reduceNeg, tbF16_39, aI, aB, aLed, cLed, aSh, shQ, eQ, eSh, oTill, oHas, baS, z12, cAcc, c50, p97, p101, p103, c98, s100, s99, c102, c96, isL_e, ldOf_e, isQ_q, qI_q, mInts, mShs, mInt, mEnt, eEnt, gEnt, eInt, mQ, rQ]))
          all_goals first | rfl | decide | trivial | (rw [e9]; done) | exact ⟨by rw [hS1], by rw [n1], by rw [n2, hve, List.map_append]; rfl, by rw [n3], by rw [n4]⟩
        · have n1 := fin 1 (by omega)
          have n2 := fin 2 (by omega)
          have n3 := fin1 3 (by omega)
          have n4 := fin 4 (by omega)
          have hen1 : EnOk (stK l k).2 ⟨x.day, 3, x.coin, x.to, x.amount, x.got⟩ := by rw [← k3]; exact hen'
          have hS1 : enterF (stK l k).2 ⟨x.day, 3, x.coin, x.to, x.amount, x.got⟩ = (stK l (k + 1)).2 := by rw [hS, ← k3]
          have g1 := cap (kL l 3 k).length (by omega)
          have r2 := val_rt hV hentry.day.1 hentry.day.2 (hentry.to k3).1 (hentry.to k3).2
          have b2 := rt_bd r2
          have t2 : Tm (rq l x.day x.to) x.got := tm_of b2 (by have := hentry.got k3; omega) (by have := hentry.got k3; omega)
          have s2 := (b2.muli (C := 1000) (n := x.got) (by have := hentry.got k3; omega) (by have := hentry.got k3; omega)).sm (by decide)
          have hve : vE l k = rq l x.day x.coin * x.amount - rq l x.day x.to * x.got := by unfold vE; dsimp only; rw [hx, if_pos k3]
          have s3 : Sm (rq l x.day x.coin * x.amount - rq l x.day x.to * x.got) := by rw [← hve]; exact hvb
          repeat' (first | refine zq0 ?_ | refine zq1 ?_ | refine zq2 ?_ | refine zq3 ?_ | refine zq4 ?_ | refine zq5 ?_ | refine thenK_n ?_ | refine thenK_x ?_ | refine thenK_r ?_ | refine blockK_n ?_ | refine blockK_r ?_ | refine blockK_hit ?_ | refine blockK_miss (by decide) ?_ | ((first | refine sym_reg env fun Q hQ => ?_ | refine sym_cz fun Q hQ => ?_); simp only [vkt, Nat.reduceEqDiff, Nat.reduceAdd, Nat.reduceMul, Nat.reduceSub, Nat.reduceLeDiff, reduceCtorEq, ↓reduceIte, ↓reduceDIte, Int.reduceToNat, Int.reduceLE, Int.reduceLT, Int.reduceEq, Int.reduceNeg, tbF16_39, aI, aB, aLed, cLed, aSh, shQ, eQ, eSh, oTill, oHas, baS, z12, cAcc, c50, p97, p101, p103, c98, s100, s99, c102, c96, isL_e, ldOf_e, isQ_q, qI_q, mInts, mShs, mInt, mEnt, eEnt, gEnt, eInt, mQ, rQ, hx, k3]; (try simp only [ite_and]); (repeat' (first | with_reducible assumption | refine And.intro ?_ ?_ | intro hp)); all_goals (first | (refine hQ _ ?_; clear hQ; clear Q) | (refine hQ _ (fun h => ?_) (fun h => ?_) <;> clear hQ <;> clear Q <;> (try simp only [vki, reduceCtorEq] at h)) | omega | assumption | (with_reducible rfl) | (refine drawB_of ?_; kernel_rfl) | skip)))
          refine ⟨⟨k + 1, hlt⟩, by show l.entries.length - (k + 1) < l.entries.length - k; omega, ?_⟩
          (refine Le.ok (fun j => if j = 6 then some 11 else some j) [] ⟨?_, ?_, ?_, ?_, ?_, ?_, ?_, ?_, ?_, ?_, ?_⟩; all_goals (try simp only [leT, leH, leO, ADf.leL, imgs, idsT, idsH, List.filterMap_cons, List.filterMap_nil, List.flatMap_nil, Nat.lt_irrefl, Nat.not_lt_zero, vkt, Nat.reduceEqDiff, Nat.reduceAdd, Nat.reduceMul, Nat.reduceSub, Nat.reduceLeDiff, reduceCtorEq, ↓reduceIte, ↓reduceDIte, Int.reduceToNat, Int.reduceLE, Int.reduceLT, Int.reduceEq, Int.reduceNeg, tbF16_39, aI, aB, aLed, cLed, aSh, shQ, eQ, eSh, oTill, oHas, baS, z12, cAcc, c50, p97, p101, p103, c98, s100, s99, c102, c96, isL_e, ldOf_e, isQ_q, qI_q, mInts, mShs, mInt, mEnt, eEnt, gEnt, eInt, mQ, rQ]))
          all_goals first | rfl | decide | trivial | (rw [e9]; done) | exact ⟨by rw [hS1], by rw [n1], by rw [n2], by rw [n3, hve, List.map_append]; rfl, by rw [n4]⟩
        · have n1 := fin 1 (by omega)
          have n2 := fin 2 (by omega)
          have n3 := fin 3 (by omega)
          have n4 := fin1 4 (by omega)
          have hen1 : EnOk (stK l k).2 ⟨x.day, 4, x.coin, x.to, x.amount, x.got⟩ := by rw [← k4]; exact hen'
          have hS1 : enterF (stK l k).2 ⟨x.day, 4, x.coin, x.to, x.amount, x.got⟩ = (stK l (k + 1)).2 := by rw [hS, ← k4]
          have g1 := cap (kL l 4 k).length (by omega)
          have hcl : x.coin.toNat < (stK l k).2.length := by have := hentry.coin; have := ho.len; omega
          have hc0 : 0 ≤ x.coin := hentry.coin.1
          have g2 := gI0 hcl
          have b9 := hb x.coin.toNat
          have t2 : Tm (rq l x.day x.coin) ((stK l k).2.getD x.coin.toNat 0) := tm_of b1 (by omega) (by omega)
          have s2 := (b1.muli (C := 7000) (n := (stK l k).2.getD x.coin.toNat 0) (by omega) (by omega)).sm (by decide)
          have hve : vE l k = rq l x.day x.coin * x.amount - rq l x.day x.coin * ((stK l k).2.getD x.coin.toNat 0 : Int) := by unfold vE; dsimp only; rw [hx, if_neg (by omega), if_pos k4]
          have s3 : Sm (rq l x.day x.coin * x.amount - rq l x.day x.coin * ((stK l k).2.getD x.coin.toNat 0 : Int)) := by rw [← hve]; exact hvb
          repeat' (first | refine zq0 ?_ | refine zq1 ?_ | refine zq2 ?_ | refine zq3 ?_ | refine zq4 ?_ | refine zq5 ?_ | refine thenK_n ?_ | refine thenK_x ?_ | refine thenK_r ?_ | refine blockK_n ?_ | refine blockK_r ?_ | refine blockK_hit ?_ | refine blockK_miss (by decide) ?_ | ((first | refine sym_reg env fun Q hQ => ?_ | refine sym_cz fun Q hQ => ?_); simp only [vkt, Nat.reduceEqDiff, Nat.reduceAdd, Nat.reduceMul, Nat.reduceSub, Nat.reduceLeDiff, reduceCtorEq, ↓reduceIte, ↓reduceDIte, Int.reduceToNat, Int.reduceLE, Int.reduceLT, Int.reduceEq, Int.reduceNeg, tbF16_39, aI, aB, aLed, cLed, aSh, shQ, eQ, eSh, oTill, oHas, baS, z12, cAcc, c50, p97, p101, p103, c98, s100, s99, c102, c96, isL_e, ldOf_e, isQ_q, qI_q, mInts, mShs, mInt, mEnt, eEnt, gEnt, eInt, mQ, rQ, hx, k4, g2]; (try simp only [ite_and]); (repeat' (first | with_reducible assumption | refine And.intro ?_ ?_ | intro hp)); all_goals (first | (refine hQ _ ?_; clear hQ; clear Q) | (refine hQ _ (fun h => ?_) (fun h => ?_) <;> clear hQ <;> clear Q <;> (try simp only [vki, reduceCtorEq] at h)) | omega | assumption | (with_reducible rfl) | (refine drawB_of ?_; kernel_rfl) | skip)))
          refine ⟨⟨k + 1, hlt⟩, by show l.entries.length - (k + 1) < l.entries.length - k; omega, ?_⟩
          (refine Le.ok (fun j => if j = 7 then some 11 else some j) [] ⟨?_, ?_, ?_, ?_, ?_, ?_, ?_, ?_, ?_, ?_, ?_⟩; all_goals (try simp only [leT, leH, leO, ADf.leL, imgs, idsT, idsH, List.filterMap_cons, List.filterMap_nil, List.flatMap_nil, Nat.lt_irrefl, Nat.not_lt_zero, vkt, Nat.reduceEqDiff, Nat.reduceAdd, Nat.reduceMul, Nat.reduceSub, Nat.reduceLeDiff, reduceCtorEq, ↓reduceIte, ↓reduceDIte, Int.reduceToNat, Int.reduceLE, Int.reduceLT, Int.reduceEq, Int.reduceNeg, tbF16_39, aI, aB, aLed, cLed, aSh, shQ, eQ, eSh, oTill, oHas, baS, z12, cAcc, c50, p97, p101, p103, c98, s100, s99, c102, c96, isL_e, ldOf_e, isQ_q, qI_q, mInts, mShs, mInt, mEnt, eEnt, gEnt, eInt, mQ, rQ]))
          all_goals first | rfl | decide | trivial | (rw [e9]; done) | exact ⟨by rw [hS1], by rw [n1], by rw [n2], by rw [n3], by rw [n4, hve, List.map_append]; rfl⟩
      · have hkn : k = l.entries.length := by omega
        subst hkn
        have w1 : IntKind.wrap .i64 ((l.rates.length : Int) - 1) = (l.rates.length : Int) - 1 := wrap64 (by omega) (by omega)
        have f1 := kL_ok hV 1 (Nat.le_refl _)
        have f2 := kL_ok hV 2 (Nat.le_refl _)
        have f3 := kL_ok hV 3 (Nat.le_refl _)
        have f4 := kL_ok hV 4 (Nat.le_refl _)
        have f5 := gains_ok hV
        have f6 := w_ok hV (d := (l.rates.length : Int) - 1) (by omega) (by omega) (Nat.le_refl _)
        have hle : (stK l l.entries.length).2.length = l.coins.length := (val_has hV _ (Nat.le_refl _)).len
        have e8 : accOf l = ⟨qsum (kL l 1 l.entries.length), qsum (kL l 2 l.entries.length), qsum (gainsL l), qsum (kL l 3 l.entries.length), qsum (kL l 4 l.entries.length), worthQ l ((l.rates.length : Int) - 1) (stK l l.entries.length).2 (stK l l.entries.length).2.length⟩ := by unfold accOf; rw [hle]
        repeat' (first | refine zq0 ?_ | refine zq1 ?_ | refine zq2 ?_ | refine zq3 ?_ | refine zq4 ?_ | refine zq5 ?_ | refine thenK_n ?_ | refine thenK_x ?_ | refine thenK_r ?_ | refine blockK_n ?_ | refine blockK_r ?_ | refine blockK_hit ?_ | refine blockK_miss (by decide) ?_ | ((first | refine sym_reg env fun Q hQ => ?_ | refine sym_cz fun Q hQ => ?_); simp only [vkt, Nat.reduceEqDiff, Nat.reduceAdd, Nat.reduceMul, Nat.reduceSub, Nat.reduceLeDiff, reduceCtorEq, ↓reduceIte, ↓reduceDIte, Int.reduceToNat, Int.reduceLE, Int.reduceLT, Int.reduceEq, Int.reduceNeg, tbF16_39, aI, aB, aLed, cLed, aSh, shQ, eQ, eSh, oTill, oHas, baS, z12, cAcc, c50, p97, p101, p103, c98, s100, s99, c102, c96, isL_e, ldOf_e, isQ_q, qI_q, mInts, mShs, mInt, mEnt, eEnt, gEnt, eInt, mQ, rQ, w1]; (try simp only [ite_and]); (repeat' (first | with_reducible assumption | refine And.intro ?_ ?_ | intro hp)); all_goals (first | (refine hQ _ ?_; clear hQ; clear Q) | (refine hQ _ (fun h => ?_) (fun h => ?_) <;> clear hQ <;> clear Q <;> (try simp only [vki, reduceCtorEq] at h)) | omega | assumption | (with_reducible rfl) | (refine drawB_of ?_; kernel_rfl) | skip)))
        rw [e8]
        (simp only [retK, leaveA, resL, tupA, rd, wCells_some, wRow_some, Try.results39, vkt, Nat.reduceEqDiff, Nat.reduceAdd, Nat.reduceMul, Nat.reduceSub, Nat.reduceLeDiff, reduceCtorEq, ↓reduceIte, ↓reduceDIte, Int.reduceToNat, Int.reduceLE, Int.reduceLT, Int.reduceEq, Int.reduceNeg, tbF16_39, aI, aB, aLed, cLed, aSh, shQ, eQ, eSh, oTill, oHas, baS, z12, cAcc, c50, p97, p101, p103, c98, s100, s99, c102, c96, isL_e, ldOf_e, isQ_q, qI_q, mInts, mShs, mInt, mEnt, eEnt, gEnt, eInt, mQ, rQ]; refine Fin.val rfl ?_; (try simp only [AV.le, AV.leL]))
        all_goals first | rfl | trivial | simp
  · rw [show aBal l = _ from if_pos c0]
    repeat' (first | refine zq0 ?_ | refine zq1 ?_ | refine zq2 ?_ | refine zq3 ?_ | refine zq4 ?_ | refine zq5 ?_ | refine thenK_n ?_ | refine thenK_x ?_ | refine thenK_r ?_ | refine blockK_n ?_ | refine blockK_r ?_ | refine blockK_hit ?_ | refine blockK_miss (by decide) ?_ | ((first | refine sym_reg env fun Q hQ => ?_ | refine sym_cz fun Q hQ => ?_); simp only [vkt, Nat.reduceEqDiff, Nat.reduceAdd, Nat.reduceMul, Nat.reduceSub, Nat.reduceLeDiff, reduceCtorEq, ↓reduceIte, ↓reduceDIte, Int.reduceToNat, Int.reduceLE, Int.reduceLT, Int.reduceEq, Int.reduceNeg, tbF16_39, aI, aB, aLed, cLed, aSh, shQ, eQ, eSh, oTill, oHas, baS, z12, cAcc, c50, p97, p101, p103, c98, s100, s99, c102, c96, isL_e, ldOf_e, isQ_q, qI_q, mInts, mShs, mInt, mEnt, eEnt, gEnt, eInt, mQ, rQ, c0]; (try simp only [ite_and]); (repeat' (first | with_reducible assumption | refine And.intro ?_ ?_ | intro hp)); all_goals (first | (refine hQ _ ?_; clear hQ; clear Q) | (refine hQ _ (fun h => ?_) (fun h => ?_) <;> clear hQ <;> clear Q <;> (try simp only [vki, reduceCtorEq] at h)) | omega | assumption | (with_reducible rfl) | (refine drawB_of ?_; kernel_rfl) | skip)))
    (simp only [retK, leaveA, resL, tupA, rd, wCells_some, wRow_some, Try.results39, vkt, Nat.reduceEqDiff, Nat.reduceAdd, Nat.reduceMul, Nat.reduceSub, Nat.reduceLeDiff, reduceCtorEq, ↓reduceIte, ↓reduceDIte, Int.reduceToNat, Int.reduceLE, Int.reduceLT, Int.reduceEq, Int.reduceNeg, tbF16_39, aI, aB, aLed, cLed, aSh, shQ, eQ, eSh, oTill, oHas, baS, z12, cAcc, c50, p97, p101, p103, c98, s100, s99, c102, c96, isL_e, ldOf_e, isQ_q, qI_q, mInts, mShs, mInt, mEnt, eEnt, gEnt, eInt, mQ, rQ]; refine Fin.val rfl ?_; (try simp only [AV.le, AV.leL]))
    all_goals simp
end Go.Sym.B
namespace Go.Sym.B
open Go Go.Sym Go.Proofs Go.Sym.C
theorem rowEx3 {a : Nat} {c : TypeId} {xs ys : List (List DV)} : (∃ e k, AObj.row c a xs = AObj.row e k ys) = (xs = ys) := by
  refine propext ⟨fun ⟨e, k, h⟩ => ?_, fun h => ⟨c, a, by rw [h]⟩⟩
  cases h; rfl
def isBad (l : Led) (i : Nat) : Bool := decide ((l.entries.getD i default).kind = 3) && !decide ((swapQ l (l.entries.getD i default).day (l.entries.getD i default).coin (l.entries.getD i default).to (l.entries.getD i default).amount).floor = (l.entries.getD i default).got)
theorem isBad_eq (l : Led) (i : Nat) : isBad l i = (decide ((l.entries.getD i default).kind = 3) && !decide ((swapQ l (l.entries.getD i default).day (l.entries.getD i default).coin (l.entries.getD i default).to (l.entries.getD i default).amount).floor = (l.entries.getD i default).got)) := rfl
def badK (l : Led) (k : Nat) : List Int := ((List.range k).filter (isBad l)).map fun i : Nat => (i : Int)
def badL (l : Led) : List Int := badK l l.entries.length
theorem badK_succ (l : Led) (k : Nat) : badK l (k + 1) = if isBad l k = true then badK l k ++ [(k : Int)] else badK l k := by
  unfold badK
  rw [List.range_succ, List.filter_append]
  split
  · rename_i h; simp [h]
  · rename_i h; simp [h]
theorem badK_len (l : Led) (k : Nat) : (badK l k).length ≤ k := by
  unfold badK
  rw [List.length_map]
  exact Nat.le_trans (List.length_filter_le _ _) (by simp)
theorem val_entry' {l : Led} (h : Val l) {k : Nat} (hk : k < l.entries.length) : EntryOk l (l.entries.getD k default) (stK l k).1 := by
  have h0 := h.es k hk
  rw [eK_eq] at h0
  unfold eV at h0
  split at h0
  · exact absurd h0 ‹_›
  · exact entryE_ok (Decidable.not_not.1 ‹_›)
def aBad (l : Led) : AV := if checkE l ≠ 0 then .tup [.sl [], aI (checkE l)] else .tup [aInts (badL l), aI 0]
def bdS (l : Led) (k : Nat) : St := { t := asg [(1, .ptr 0 0), (2, .nil), (3, aI 0), (5, .row 1), (14, .sl (l.entries.map eEnt)), (15, aI l.entries.length), (16, aI k)], h := hasg [(0, .cells (cLed l)), (1, .row 3 1 ((badK l k).map eInt))], n := 2 }
def tbF17_31 := And.intro @ty3 (And.intro @ty22 (And.intro @ty30 (And.intro @ty36 (And.intro @ty38 (And.intro @ty48 (And.intro @ti3.eq_1 (And.intro @ti22.eq_1 (And.intro @ti30.eq_1 (And.intro @ti36.eq_1 (And.intro @ti38.eq_1 @ti48.eq_1))))))))))
set_option maxHeartbeats 1000000 in
theorem bad_fn (l : Led) (hl : Fit l) : FnV Try.prog 31 [aLed l] (aBad l) := by
  have env : Env (fun _ => True) Try.prog tyB (tab [(50, valE true c50), (89, valE true c89), (90, valE true s90)]) := mkEnv ⟨d50, d89, e90, trivial⟩
  refine Fn.of (A := fun _ => True) (n0 := 0) (D := noD) (Fn0 Try.func31 rfl (fun vs w => by kernel_rfl) (by kernel_rfl)) (by simp) (by simp [AV.ids, AV.idsL, aLed, cLed]) (fun i o h => by cases h) (fun _ _ _ _ => trivial) noD_ok ?_
  by_cases c0 : checkE l = 0
  · rw [show aBad l = _ from if_neg (by rw [c0]; simp)]
    have hV := val_of c0
    have q4 := hV.e
    have q5 := tmax
    repeat' (first | refine zq0 ?_ | refine zq1 ?_ | refine zq2 ?_ | refine zq3 ?_ | refine zq4 ?_ | refine zq5 ?_ | refine thenK_n ?_ | refine thenK_x ?_ | refine thenK_r ?_ | refine blockK_n ?_ | refine blockK_r ?_ | refine blockK_hit ?_ | refine blockK_miss (by decide) ?_ | ((first | refine sym_reg env fun Q hQ => ?_ | refine sym_cz fun Q hQ => ?_); simp only [vkt, Nat.reduceEqDiff, Nat.reduceAdd, Nat.reduceMul, Nat.reduceSub, Nat.reduceLeDiff, reduceCtorEq, ↓reduceIte, ↓reduceDIte, Int.reduceToNat, Int.reduceLE, Int.reduceLT, Int.reduceEq, Int.reduceNeg, tbF17_31, aI, aB, aLed, cLed, aSh, shQ, aInts, bdS, c50, c89, s90, isL_e, ldOf_e, isQ_q, qI_q, eEnt, gEnt, eInt, rInt, c0]; (try simp only [ite_and]); (repeat' (first | with_reducible assumption | refine And.intro ?_ ?_ | intro hp)); all_goals (first | (refine hQ _ ?_; clear hQ; clear Q) | (refine hQ _ (fun h => ?_) (fun h => ?_) <;> clear hQ <;> clear Q <;> (try simp only [vki, reduceCtorEq] at h)) | omega | assumption | (with_reducible rfl) | (refine drawB_of ?_; kernel_rfl) | skip)))
    refine sym_loop (fun k : { k : Nat // k ≤ l.entries.length } => bdS l k.1) (fun k => l.entries.length - k.1) ⟨0, Nat.zero_le _⟩ ?_ fun ⟨k, hk⟩ => ?_
    · (refine Le.ok (fun j => if j = 0 then some 0 else none) [] ⟨?_, ?_, ?_, ?_, ?_, ?_, ?_, ?_, ?_, ?_, ?_⟩; all_goals (try simp only [leT, leH, leO, ADf.leL, imgs, idsT, idsH, List.filterMap_cons, List.filterMap_nil, List.flatMap_nil, Nat.lt_irrefl, Nat.not_lt_zero, vkt, Nat.reduceEqDiff, Nat.reduceAdd, Nat.reduceMul, Nat.reduceSub, Nat.reduceLeDiff, reduceCtorEq, ↓reduceIte, ↓reduceDIte, Int.reduceToNat, Int.reduceLE, Int.reduceLT, Int.reduceEq, Int.reduceNeg, tbF17_31, aI, aB, aLed, cLed, aSh, shQ, aInts, bdS, c50, c89, s90, isL_e, ldOf_e, isQ_q, qI_q, eEnt, gEnt, eInt, rInt]))
      all_goals first | rfl | trivial | (simp [badK]; done)
    · repeat' (first | refine zq0 ?_ | refine zq1 ?_ | refine zq2 ?_ | refine zq3 ?_ | refine zq4 ?_ | refine zq5 ?_ | refine thenK_n ?_ | refine thenK_x ?_ | refine thenK_r ?_ | refine blockK_n ?_ | refine blockK_r ?_ | refine blockK_hit ?_ | refine blockK_miss (by decide) ?_)
      (refine sym_reg env fun Q hQ => ?_; simp only [vkt, Nat.reduceEqDiff, Nat.reduceAdd, Nat.reduceMul, Nat.reduceSub, Nat.reduceLeDiff, reduceCtorEq, ↓reduceIte, ↓reduceDIte, Int.reduceToNat, Int.reduceLE, Int.reduceLT, Int.reduceEq, Int.reduceNeg, tbF17_31, aI, aB, aLed, cLed, aSh, shQ, aInts, bdS, c50, c89, s90, isL_e, ldOf_e, isQ_q, qI_q, eEnt, gEnt, eInt, rInt]; (try simp only [ite_and]); (repeat' (first | with_reducible assumption | refine And.intro ?_ ?_ | intro hp)); all_goals (first | (refine hQ _ ?_; clear hQ; clear Q) | omega | assumption | (with_reducible rfl) | (refine drawB_of ?_; kernel_rfl) | skip))
      repeat' (first | refine zq0 ?_ | refine zq1 ?_ | refine zq2 ?_ | refine zq3 ?_ | refine zq4 ?_ | refine zq5 ?_ | refine thenK_n ?_ | refine thenK_x ?_ | refine thenK_r ?_ | refine blockK_n ?_ | refine blockK_r ?_ | refine blockK_hit ?_ | refine blockK_miss (by decide) ?_)
      (refine sym_cd (by simp only [vkt, Nat.reduceEqDiff, Nat.reduceAdd, Nat.reduceMul, Nat.reduceSub, Nat.reduceLeDiff, reduceCtorEq, ↓reduceIte, ↓reduceDIte, Int.reduceToNat, Int.reduceLE, Int.reduceLT, Int.reduceEq, Int.reduceNeg, tbF17_31, aI, aB, aLed, cLed, aSh, shQ, aInts, bdS, c50, c89, s90, isL_e, ldOf_e, isQ_q, qI_q, eEnt, gEnt, eInt, rInt]; rfl) (fun h => ?_) (fun h => ?_) <;> (try simp only [vki, reduceCtorEq] at h))
      · have hlt : k < l.entries.length := by omega
        have hentry := val_entry' hV hlt
        have hS := badK_succ l k
        have hbl := badK_len l k
        have hle : ((badK l k).length + 1) * 8 ≤ 140737488355328 := by omega
        have hlm : (badK l k).length + 1 ≤ maxLen := by omega
        have hB := isBad_eq l k
        generalize hx : l.entries.getD k default = x at *
        have e9 := wrap_succ hlt (show l.entries.length ≤ maxLen by omega)
        by_cases k3 : x.kind = 3
        · have r1 := val_rt hV hentry.day.1 hentry.day.2 hentry.coin.1 hentry.coin.2
          have r2 := val_rt hV hentry.day.1 hentry.day.2 (hentry.to k3).1 (hentry.to k3).2
          have am := hentry.am
          have am1 : 0 ≤ x.amount := am.1
          have am2 : x.amount ≤ 50000 := by omega
          have hb := (rt_bd r1).muli (C := 50000) (n := x.amount) (by omega) (by omega)
          have hq := sm_fl (sm_div hb (by decide) (by have := r2.n0; omega) r2.n1 r2.e1)
          by_cases k4 : (rq l x.day x.coin * x.amount / rq l x.day x.to).floor = x.got
          · have hB' : isBad l k = false := by rw [hB, k3]; simp [swapQ, k4]
            repeat' (first | refine zq0 ?_ | refine zq1 ?_ | refine zq2 ?_ | refine zq3 ?_ | refine zq4 ?_ | refine zq5 ?_ | refine thenK_n ?_ | refine thenK_x ?_ | refine thenK_r ?_ | refine blockK_n ?_ | refine blockK_r ?_ | refine blockK_hit ?_ | refine blockK_miss (by decide) ?_ | ((first | refine sym_reg env fun Q hQ => ?_ | refine sym_cz fun Q hQ => ?_); simp only [vkt, Nat.reduceEqDiff, Nat.reduceAdd, Nat.reduceMul, Nat.reduceSub, Nat.reduceLeDiff, reduceCtorEq, ↓reduceIte, ↓reduceDIte, Int.reduceToNat, Int.reduceLE, Int.reduceLT, Int.reduceEq, Int.reduceNeg, tbF17_31, aI, aB, aLed, cLed, aSh, shQ, aInts, bdS, c50, c89, s90, isL_e, ldOf_e, isQ_q, qI_q, eEnt, gEnt, eInt, rInt, hx, k3, k4]; (try simp only [ite_and]); (repeat' (first | with_reducible assumption | refine And.intro ?_ ?_ | intro hp)); all_goals (first | (refine hQ _ ?_; clear hQ; clear Q) | (refine hQ _ (fun h => ?_) (fun h => ?_) <;> clear hQ <;> clear Q <;> (try simp only [vki, reduceCtorEq] at h)) | omega | assumption | (with_reducible rfl) | (refine drawB_of ?_; kernel_rfl) | skip)))
            refine ⟨⟨k + 1, hlt⟩, by show l.entries.length - (k + 1) < l.entries.length - k; omega, ?_⟩
            (refine Le.ok some [] ⟨?_, ?_, ?_, ?_, ?_, ?_, ?_, ?_, ?_, ?_, ?_⟩; all_goals (try simp only [leT, leH, leO, ADf.leL, imgs, idsT, idsH, List.filterMap_cons, List.filterMap_nil, List.flatMap_nil, Nat.lt_irrefl, Nat.not_lt_zero, vkt, Nat.reduceEqDiff, Nat.reduceAdd, Nat.reduceMul, Nat.reduceSub, Nat.reduceLeDiff, reduceCtorEq, ↓reduceIte, ↓reduceDIte, Int.reduceToNat, Int.reduceLE, Int.reduceLT, Int.reduceEq, Int.reduceNeg, tbF17_31, aI, aB, aLed, cLed, aSh, shQ, aInts, bdS, c50, c89, s90, isL_e, ldOf_e, isQ_q, qI_q, eEnt, gEnt, eInt, rInt]))
            all_goals first | rfl | trivial | (simp [hS, hB', e9]; done)
          · have hB' : isBad l k = true := by rw [hB, k3]; simp [swapQ, k4]
            repeat' (first | refine zq0 ?_ | refine zq1 ?_ | refine zq2 ?_ | refine zq3 ?_ | refine zq4 ?_ | refine zq5 ?_ | refine thenK_n ?_ | refine thenK_x ?_ | refine thenK_r ?_ | refine blockK_n ?_ | refine blockK_r ?_ | refine blockK_hit ?_ | refine blockK_miss (by decide) ?_ | ((first | refine sym_reg env fun Q hQ => ?_ | refine sym_cz fun Q hQ => ?_); simp only [vkt, Nat.reduceEqDiff, Nat.reduceAdd, Nat.reduceMul, Nat.reduceSub, Nat.reduceLeDiff, reduceCtorEq, ↓reduceIte, ↓reduceDIte, Int.reduceToNat, Int.reduceLE, Int.reduceLT, Int.reduceEq, Int.reduceNeg, tbF17_31, aI, aB, aLed, cLed, aSh, shQ, aInts, bdS, c50, c89, s90, isL_e, ldOf_e, isQ_q, qI_q, eEnt, gEnt, eInt, rInt, hx, k3, k4]; (try simp only [ite_and]); (repeat' (first | with_reducible assumption | refine And.intro ?_ ?_ | intro hp)); all_goals (first | (refine hQ _ ?_; clear hQ; clear Q) | (refine hQ _ (fun h => ?_) (fun h => ?_) <;> clear hQ <;> clear Q <;> (try simp only [vki, reduceCtorEq] at h)) | omega | assumption | (with_reducible rfl) | (refine drawB_of ?_; kernel_rfl) | skip)))
            refine ⟨⟨k + 1, hlt⟩, by show l.entries.length - (k + 1) < l.entries.length - k; omega, ?_⟩
            (refine Le.ok (fun j => if j = 1 then some 4 else some j) [] ⟨?_, ?_, ?_, ?_, ?_, ?_, ?_, ?_, ?_, ?_, ?_⟩; all_goals (try simp only [leT, leH, leO, ADf.leL, imgs, idsT, idsH, List.filterMap_cons, List.filterMap_nil, List.flatMap_nil, Nat.lt_irrefl, Nat.not_lt_zero, vkt, Nat.reduceEqDiff, Nat.reduceAdd, Nat.reduceMul, Nat.reduceSub, Nat.reduceLeDiff, reduceCtorEq, ↓reduceIte, ↓reduceDIte, Int.reduceToNat, Int.reduceLE, Int.reduceLT, Int.reduceEq, Int.reduceNeg, tbF17_31, aI, aB, aLed, cLed, aSh, shQ, aInts, bdS, c50, c89, s90, isL_e, ldOf_e, isQ_q, qI_q, eEnt, gEnt, eInt, rInt]))
            all_goals first | rfl | trivial | (rw [hS, if_pos hB']; simp [eInt]; done) | (simp [hS, hB', e9]; done)
        · have hB' : isBad l k = false := by rw [hB]; simp [k3]
          repeat' (first | refine zq0 ?_ | refine zq1 ?_ | refine zq2 ?_ | refine zq3 ?_ | refine zq4 ?_ | refine zq5 ?_ | refine thenK_n ?_ | refine thenK_x ?_ | refine thenK_r ?_ | refine blockK_n ?_ | refine blockK_r ?_ | refine blockK_hit ?_ | refine blockK_miss (by decide) ?_ | ((first | refine sym_reg env fun Q hQ => ?_ | refine sym_cz fun Q hQ => ?_); simp only [vkt, Nat.reduceEqDiff, Nat.reduceAdd, Nat.reduceMul, Nat.reduceSub, Nat.reduceLeDiff, reduceCtorEq, ↓reduceIte, ↓reduceDIte, Int.reduceToNat, Int.reduceLE, Int.reduceLT, Int.reduceEq, Int.reduceNeg, tbF17_31, aI, aB, aLed, cLed, aSh, shQ, aInts, bdS, c50, c89, s90, isL_e, ldOf_e, isQ_q, qI_q, eEnt, gEnt, eInt, rInt, hx, k3]; (try simp only [ite_and]); (repeat' (first | with_reducible assumption | refine And.intro ?_ ?_ | intro hp)); all_goals (first | (refine hQ _ ?_; clear hQ; clear Q) | (refine hQ _ (fun h => ?_) (fun h => ?_) <;> clear hQ <;> clear Q <;> (try simp only [vki, reduceCtorEq] at h)) | omega | assumption | (with_reducible rfl) | (refine drawB_of ?_; kernel_rfl) | skip)))
          refine ⟨⟨k + 1, hlt⟩, by show l.entries.length - (k + 1) < l.entries.length - k; omega, ?_⟩
          (refine Le.ok some [] ⟨?_, ?_, ?_, ?_, ?_, ?_, ?_, ?_, ?_, ?_, ?_⟩; all_goals (try simp only [leT, leH, leO, ADf.leL, imgs, idsT, idsH, List.filterMap_cons, List.filterMap_nil, List.flatMap_nil, Nat.lt_irrefl, Nat.not_lt_zero, vkt, Nat.reduceEqDiff, Nat.reduceAdd, Nat.reduceMul, Nat.reduceSub, Nat.reduceLeDiff, reduceCtorEq, ↓reduceIte, ↓reduceDIte, Int.reduceToNat, Int.reduceLE, Int.reduceLT, Int.reduceEq, Int.reduceNeg, tbF17_31, aI, aB, aLed, cLed, aSh, shQ, aInts, bdS, c50, c89, s90, isL_e, ldOf_e, isQ_q, qI_q, eEnt, gEnt, eInt, rInt]))
          all_goals first | rfl | trivial | (simp [hS, hB', e9]; done)
      · have hkn : k = l.entries.length := by omega
        subst hkn
        repeat' (first | refine zq0 ?_ | refine zq1 ?_ | refine zq2 ?_ | refine zq3 ?_ | refine zq4 ?_ | refine zq5 ?_ | refine thenK_n ?_ | refine thenK_x ?_ | refine thenK_r ?_ | refine blockK_n ?_ | refine blockK_r ?_ | refine blockK_hit ?_ | refine blockK_miss (by decide) ?_ | ((first | refine sym_reg env fun Q hQ => ?_ | refine sym_cz fun Q hQ => ?_); simp only [vkt, Nat.reduceEqDiff, Nat.reduceAdd, Nat.reduceMul, Nat.reduceSub, Nat.reduceLeDiff, reduceCtorEq, ↓reduceIte, ↓reduceDIte, Int.reduceToNat, Int.reduceLE, Int.reduceLT, Int.reduceEq, Int.reduceNeg, tbF17_31, aI, aB, aLed, cLed, aSh, shQ, aInts, bdS, c50, c89, s90, isL_e, ldOf_e, isQ_q, qI_q, eEnt, gEnt, eInt, rInt]; (try simp only [ite_and]); (repeat' (first | with_reducible assumption | refine And.intro ?_ ?_ | intro hp)); all_goals (first | (refine hQ _ ?_; clear hQ; clear Q) | (refine hQ _ (fun h => ?_) (fun h => ?_) <;> clear hQ <;> clear Q <;> (try simp only [vki, reduceCtorEq] at h)) | omega | assumption | (with_reducible rfl) | (refine drawB_of ?_; kernel_rfl) | skip)))
        (simp only [retK, leaveA, resL, tupA, rd, wCells_some, wRow_some, Try.results31, rowEx3, vkt, Nat.reduceEqDiff, Nat.reduceAdd, Nat.reduceMul, Nat.reduceSub, Nat.reduceLeDiff, reduceCtorEq, ↓reduceIte, ↓reduceDIte, Int.reduceToNat, Int.reduceLE, Int.reduceLT, Int.reduceEq, Int.reduceNeg, tbF17_31, aI, aB, aLed, cLed, aSh, shQ, aInts, bdS, c50, c89, s90, isL_e, ldOf_e, isQ_q, qI_q, eEnt, gEnt, eInt, rInt]; refine Fin.val rfl ?_; (try simp only [AV.le, AV.leL]))
        all_goals exact ⟨⟨_, _, rfl⟩, trivial, trivial⟩
  · rw [show aBad l = _ from if_pos c0]
    repeat' (first | refine zq0 ?_ | refine zq1 ?_ | refine zq2 ?_ | refine zq3 ?_ | refine zq4 ?_ | refine zq5 ?_ | refine thenK_n ?_ | refine thenK_x ?_ | refine thenK_r ?_ | refine blockK_n ?_ | refine blockK_r ?_ | refine blockK_hit ?_ | refine blockK_miss (by decide) ?_ | ((first | refine sym_reg env fun Q hQ => ?_ | refine sym_cz fun Q hQ => ?_); simp only [vkt, Nat.reduceEqDiff, Nat.reduceAdd, Nat.reduceMul, Nat.reduceSub, Nat.reduceLeDiff, reduceCtorEq, ↓reduceIte, ↓reduceDIte, Int.reduceToNat, Int.reduceLE, Int.reduceLT, Int.reduceEq, Int.reduceNeg, tbF17_31, aI, aB, aLed, cLed, aSh, shQ, aInts, bdS, c50, c89, s90, isL_e, ldOf_e, isQ_q, qI_q, eEnt, gEnt, eInt, rInt, c0]; (try simp only [ite_and]); (repeat' (first | with_reducible assumption | refine And.intro ?_ ?_ | intro hp)); all_goals (first | (refine hQ _ ?_; clear hQ; clear Q) | (refine hQ _ (fun h => ?_) (fun h => ?_) <;> clear hQ <;> clear Q <;> (try simp only [vki, reduceCtorEq] at h)) | omega | assumption | (with_reducible rfl) | (refine drawB_of ?_; kernel_rfl) | skip)))
    (simp only [retK, leaveA, resL, tupA, rd, wCells_some, wRow_some, Try.results31, vkt, Nat.reduceEqDiff, Nat.reduceAdd, Nat.reduceMul, Nat.reduceSub, Nat.reduceLeDiff, reduceCtorEq, ↓reduceIte, ↓reduceDIte, Int.reduceToNat, Int.reduceLE, Int.reduceLT, Int.reduceEq, Int.reduceNeg, tbF17_31, aI, aB, aLed, cLed, aSh, shQ, aInts, bdS, c50, c89, s90, isL_e, ldOf_e, isQ_q, qI_q, eEnt, gEnt, eInt, rInt]; refine Fin.val rfl ?_; (try simp only [AV.le, AV.leL]))
    all_goals simp
def c31 : List AV → Prop × AV
  | [.agg [.sl cs, .sl rs, .sl ss, .sl es]] => (isL cs rs ss es ∧ Fit (ldOf cs rs ss es), aBad (ldOf cs rs ss es))
  | _ => (False, .junk)
theorem d31 {A : Frm → Prop} : EntryOK A Try.prog 31 (valE false c31) := valE_ok fun vs hv h => by
  clear hv
  unfold c31 at h ⊢
  split at h
  · refine ⟨by unfold aBad; split <;> simp [AV.plain, AV.plainL, aI, aInts], fun h => absurd h (by decide), ?_⟩
    rw [← aLed_of h.1]; exact bad_fn _ h.2
  · exact h.elim
def cEnt (x : Ent) : List AV := [.v (.int .i64 x.day), .v (.int .i64 x.kind), .v (.int .i64 x.coin), .v (.int .i64 x.to), .v (.int .i64 x.amount), .v (.int .i64 x.got)]
def metB (x : Ent) (p : List Int) : Bool := decide (p.getD 0 0 = x.day) && (decide (p.getD 1 0 = x.coin) || decide (p.getD 1 0 = x.to))
def tbF17_93 := And.intro @ty3 (And.intro @ty22 (And.intro @ty48 (And.intro @ti3.eq_1 (And.intro @ti22.eq_1 @ti48.eq_1))))
theorem met_fn (x : Ent) (p : List Int) (hp : 2 ≤ p.length) : Fn noB Try.prog 93 [aInts p, .ptr 0 0] (hasg [(0, .cells (cEnt x))]) (aB (metB x p)) (hasg [(0, .cells (cEnt x))]) 0 := by
  have env : Env (fun _ => True) Try.prog tyB (tab []) := mkEnv trivial
  refine Fn.of (A := fun _ => True) (n0 := 1) (D := noD) (Fn0 Try.func93 rfl (fun vs w => by kernel_rfl) (by kernel_rfl)) (by simp) (by simp [AV.ids, aInts]) ?_ (fun _ _ _ _ => trivial) noD_ok ?_
  · intro i o hi
    have h := hasg_mem hi
    simp at h; obtain ⟨rfl, rfl⟩ := h; simp [cEnt, AObj.ids, AV.ids, AV.idsL]
  by_cases c1 : p.getD 0 0 = x.day
  · by_cases c2 : p.getD 1 0 = x.coin
    · repeat' (first | refine zq0 ?_ | refine zq1 ?_ | refine zq2 ?_ | refine zq3 ?_ | refine zq4 ?_ | refine zq5 ?_ | refine thenK_n ?_ | refine thenK_x ?_ | refine thenK_r ?_ | refine blockK_n ?_ | refine blockK_r ?_ | refine blockK_hit ?_ | refine blockK_miss (by decide) ?_ | ((first | refine sym_reg env fun Q hQ => ?_ | refine sym_cz fun Q hQ => ?_); simp only [vkt, Nat.reduceEqDiff, Nat.reduceAdd, Nat.reduceMul, Nat.reduceSub, Nat.reduceLeDiff, reduceCtorEq, ↓reduceIte, ↓reduceDIte, Int.reduceToNat, Int.reduceLE, Int.reduceLT, Int.reduceEq, Int.reduceNeg, tbF17_93, aI, aB, aInts, cEnt, eInt, gInt, c1, c2]; (try simp only [ite_and]); (repeat' (first | with_reducible assumption | refine And.intro ?_ ?_ | intro hp)); all_goals (first | (refine hQ _ ?_; clear hQ; clear Q) | (refine hQ _ (fun h => ?_) (fun h => ?_) <;> clear hQ <;> clear Q <;> (try simp only [vki, reduceCtorEq] at h)) | omega | assumption | (with_reducible rfl) | (refine drawB_of ?_; kernel_rfl) | skip)))
      (simp only [retK, leaveA, resL, tupA, rd, wCells_some, wRow_some, Try.results93, vkt, Nat.reduceEqDiff, Nat.reduceAdd, Nat.reduceMul, Nat.reduceSub, Nat.reduceLeDiff, reduceCtorEq, ↓reduceIte, ↓reduceDIte, Int.reduceToNat, Int.reduceLE, Int.reduceLT, Int.reduceEq, Int.reduceNeg, tbF17_93, aI, aB, aInts, cEnt, eInt, gInt]; refine Fin.ok some [] ?_ ?_ ?_ ?_ ?_ rfl; all_goals (try simp only [leT, leH, leO, ADf.leL, imgs, idsT, idsH, List.filterMap_cons, List.filterMap_nil, List.flatMap_nil, Nat.lt_irrefl, Nat.not_lt_zero, vkt, Nat.reduceEqDiff, Nat.reduceAdd, Nat.reduceMul, Nat.reduceSub, Nat.reduceLeDiff, reduceCtorEq, ↓reduceIte, ↓reduceDIte, Int.reduceToNat, Int.reduceLE, Int.reduceLT, Int.reduceEq, Int.reduceNeg, tbF17_93, aI, aB, aInts, cEnt, eInt, gInt]))
      all_goals simp [-List.getD_eq_getElem?_getD, metB, c1, c2]
    · by_cases c3 : p.getD 1 0 = x.to
      · have c4 : ¬ x.to = x.coin := by rw [← c3]; exact c2
        repeat' (first | refine zq0 ?_ | refine zq1 ?_ | refine zq2 ?_ | refine zq3 ?_ | refine zq4 ?_ | refine zq5 ?_ | refine thenK_n ?_ | refine thenK_x ?_ | refine thenK_r ?_ | refine blockK_n ?_ | refine blockK_r ?_ | refine blockK_hit ?_ | refine blockK_miss (by decide) ?_ | ((first | refine sym_reg env fun Q hQ => ?_ | refine sym_cz fun Q hQ => ?_); simp only [vkt, Nat.reduceEqDiff, Nat.reduceAdd, Nat.reduceMul, Nat.reduceSub, Nat.reduceLeDiff, reduceCtorEq, ↓reduceIte, ↓reduceDIte, Int.reduceToNat, Int.reduceLE, Int.reduceLT, Int.reduceEq, Int.reduceNeg, tbF17_93, aI, aB, aInts, cEnt, eInt, gInt, c1, c2, c3, c4]; (try simp only [ite_and]); (repeat' (first | with_reducible assumption | refine And.intro ?_ ?_ | intro hp)); all_goals (first | (refine hQ _ ?_; clear hQ; clear Q) | (refine hQ _ (fun h => ?_) (fun h => ?_) <;> clear hQ <;> clear Q <;> (try simp only [vki, reduceCtorEq] at h)) | omega | assumption | (with_reducible rfl) | (refine drawB_of ?_; kernel_rfl) | skip)))
        (simp only [retK, leaveA, resL, tupA, rd, wCells_some, wRow_some, Try.results93, vkt, Nat.reduceEqDiff, Nat.reduceAdd, Nat.reduceMul, Nat.reduceSub, Nat.reduceLeDiff, reduceCtorEq, ↓reduceIte, ↓reduceDIte, Int.reduceToNat, Int.reduceLE, Int.reduceLT, Int.reduceEq, Int.reduceNeg, tbF17_93, aI, aB, aInts, cEnt, eInt, gInt]; refine Fin.ok some [] ?_ ?_ ?_ ?_ ?_ rfl; all_goals (try simp only [leT, leH, leO, ADf.leL, imgs, idsT, idsH, List.filterMap_cons, List.filterMap_nil, List.flatMap_nil, Nat.lt_irrefl, Nat.not_lt_zero, vkt, Nat.reduceEqDiff, Nat.reduceAdd, Nat.reduceMul, Nat.reduceSub, Nat.reduceLeDiff, reduceCtorEq, ↓reduceIte, ↓reduceDIte, Int.reduceToNat, Int.reduceLE, Int.reduceLT, Int.reduceEq, Int.reduceNeg, tbF17_93, aI, aB, aInts, cEnt, eInt, gInt]))
        all_goals simp [-List.getD_eq_getElem?_getD, metB, c1, c2, c3, c4]
      · repeat' (first | refine zq0 ?_ | refine zq1 ?_ | refine zq2 ?_ | refine zq3 ?_ | refine zq4 ?_ | refine zq5 ?_ | refine thenK_n ?_ | refine thenK_x ?_ | refine thenK_r ?_ | refine blockK_n ?_ | refine blockK_r ?_ | refine blockK_hit ?_ | refine blockK_miss (by decide) ?_ | ((first | refine sym_reg env fun Q hQ => ?_ | refine sym_cz fun Q hQ => ?_); simp only [vkt, Nat.reduceEqDiff, Nat.reduceAdd, Nat.reduceMul, Nat.reduceSub, Nat.reduceLeDiff, reduceCtorEq, ↓reduceIte, ↓reduceDIte, Int.reduceToNat, Int.reduceLE, Int.reduceLT, Int.reduceEq, Int.reduceNeg, tbF17_93, aI, aB, aInts, cEnt, eInt, gInt, c1, c2, c3]; (try simp only [ite_and]); (repeat' (first | with_reducible assumption | refine And.intro ?_ ?_ | intro hp)); all_goals (first | (refine hQ _ ?_; clear hQ; clear Q) | (refine hQ _ (fun h => ?_) (fun h => ?_) <;> clear hQ <;> clear Q <;> (try simp only [vki, reduceCtorEq] at h)) | omega | assumption | (with_reducible rfl) | (refine drawB_of ?_; kernel_rfl) | skip)))
        (simp only [retK, leaveA, resL, tupA, rd, wCells_some, wRow_some, Try.results93, vkt, Nat.reduceEqDiff, Nat.reduceAdd, Nat.reduceMul, Nat.reduceSub, Nat.reduceLeDiff, reduceCtorEq, ↓reduceIte, ↓reduceDIte, Int.reduceToNat, Int.reduceLE, Int.reduceLT, Int.reduceEq, Int.reduceNeg, tbF17_93, aI, aB, aInts, cEnt, eInt, gInt]; refine Fin.ok some [] ?_ ?_ ?_ ?_ ?_ rfl; all_goals (try simp only [leT, leH, leO, ADf.leL, imgs, idsT, idsH, List.filterMap_cons, List.filterMap_nil, List.flatMap_nil, Nat.lt_irrefl, Nat.not_lt_zero, vkt, Nat.reduceEqDiff, Nat.reduceAdd, Nat.reduceMul, Nat.reduceSub, Nat.reduceLeDiff, reduceCtorEq, ↓reduceIte, ↓reduceDIte, Int.reduceToNat, Int.reduceLE, Int.reduceLT, Int.reduceEq, Int.reduceNeg, tbF17_93, aI, aB, aInts, cEnt, eInt, gInt]))
        all_goals simp [-List.getD_eq_getElem?_getD, metB, c1, c2, c3]
  · repeat' (first | refine zq0 ?_ | refine zq1 ?_ | refine zq2 ?_ | refine zq3 ?_ | refine zq4 ?_ | refine zq5 ?_ | refine thenK_n ?_ | refine thenK_x ?_ | refine thenK_r ?_ | refine blockK_n ?_ | refine blockK_r ?_ | refine blockK_hit ?_ | refine blockK_miss (by decide) ?_ | ((first | refine sym_reg env fun Q hQ => ?_ | refine sym_cz fun Q hQ => ?_); simp only [vkt, Nat.reduceEqDiff, Nat.reduceAdd, Nat.reduceMul, Nat.reduceSub, Nat.reduceLeDiff, reduceCtorEq, ↓reduceIte, ↓reduceDIte, Int.reduceToNat, Int.reduceLE, Int.reduceLT, Int.reduceEq, Int.reduceNeg, tbF17_93, aI, aB, aInts, cEnt, eInt, gInt, c1]; (try simp only [ite_and]); (repeat' (first | with_reducible assumption | refine And.intro ?_ ?_ | intro hp)); all_goals (first | (refine hQ _ ?_; clear hQ; clear Q) | (refine hQ _ (fun h => ?_) (fun h => ?_) <;> clear hQ <;> clear Q <;> (try simp only [vki, reduceCtorEq] at h)) | omega | assumption | (with_reducible rfl) | (refine drawB_of ?_; kernel_rfl) | skip)))
    (simp only [retK, leaveA, resL, tupA, rd, wCells_some, wRow_some, Try.results93, vkt, Nat.reduceEqDiff, Nat.reduceAdd, Nat.reduceMul, Nat.reduceSub, Nat.reduceLeDiff, reduceCtorEq, ↓reduceIte, ↓reduceDIte, Int.reduceToNat, Int.reduceLE, Int.reduceLT, Int.reduceEq, Int.reduceNeg, tbF17_93, aI, aB, aInts, cEnt, eInt, gInt]; refine Fin.ok some [] ?_ ?_ ?_ ?_ ?_ rfl; all_goals (try simp only [leT, leH, leO, ADf.leL, imgs, idsT, idsH, List.filterMap_cons, List.filterMap_nil, List.flatMap_nil, Nat.lt_irrefl, Nat.not_lt_zero, vkt, Nat.reduceEqDiff, Nat.reduceAdd, Nat.reduceMul, Nat.reduceSub, Nat.reduceLeDiff, reduceCtorEq, ↓reduceIte, ↓reduceDIte, Int.reduceToNat, Int.reduceLE, Int.reduceLT, Int.reduceEq, Int.reduceNeg, tbF17_93, aI, aB, aInts, cEnt, eInt, gInt]))
    all_goals simp [-List.getD_eq_getElem?_getD, metB, c1]
def p93 (S : St) : List AV → Option Pk
  | [.sl ps, .ptr t 0] => match S.h t with
    | some (.cells [.v (.int .i64 a), .v (.int .i64 b), .v (.int .i64 c), .v (.int .i64 d), .v (.int .i64 e), .v (.int .i64 f)]) => some { pre := ps = (ps.map dInt).map eInt ∧ 2 ≤ ps.length, hs := [t], ar := [.sl ps, .ptr 0 0], L0 := [.cells (cEnt ⟨a, b, c, d, e, f⟩)], v := aB (metB ⟨a, b, c, d, e, f⟩ (ps.map dInt)), L1 := [some (.cells (cEnt ⟨a, b, c, d, e, f⟩))], fl := true }
    | _ => none
  | _ => none
theorem e93 {A : Frm → Prop} : EntryOK A Try.prog 93 (fnE p93) := fnE_ok fun S bs q h hp => by
  unfold p93 at h
  split at h
  · split at h
    · rename_i ps t _ a b c d e f _
      cases h
      have := met_fn ⟨a, b, c, d, e, f⟩ (ps.map dInt) (by simpa using hp.2)
      rw [aInts, ← hp.1] at this
      exact this
    · cases h
  · cases h
def idxF (f : List Int → Bool) (l : List (List Int)) : Int := match (List.range l.length).find? fun i => f (l.getD i []) with
  | some i => i
  | none => -1
theorem idxF_hit {f : List Int → Bool} {l : List (List Int)} {k : Nat} (hk : k < l.length) (h : f (l.getD k []) = true) (hb : ∀ j, j < k → f (l.getD j []) = false) : idxF f l = k := by
  unfold idxF
  have : (List.range l.length).find? (fun i => f (l.getD i [])) = some k := by
    rw [List.find?_range_eq_some]
    exact ⟨h, List.mem_range.2 hk, fun j hj => by simpa using hb j hj⟩
  rw [this]
theorem idxF_none {f : List Int → Bool} {l : List (List Int)} (hb : ∀ j, j < l.length → f (l.getD j []) = false) : idxF f l = -1 := by
  unfold idxF
  have : (List.range l.length).find? (fun i => f (l.getD i [])) = none := by
    rw [List.find?_eq_none]; intro j hj; simpa using hb j (List.mem_range.1 hj)
  rw [this]
theorem idxF_any (f : List Int → Bool) (l : List (List Int)) : decide (0 ≤ idxF f l) = l.any f := by
  by_cases h : ∃ j, j < l.length ∧ f (l.getD j []) = true
  · have h2 : l.any f = true := by
      obtain ⟨j, hj, hf⟩ := h
      exact List.any_eq_true.2 ⟨_, gMem hj, hf⟩
    rw [h2]
    unfold idxF
    cases hq : (List.range l.length).find? (fun i => f (l.getD i [])) with
    | some i => simp
    | none =>
      obtain ⟨j, hj, hf⟩ := h
      have := List.find?_eq_none.1 hq j (List.mem_range.2 hj)
      rw [hf] at this; simp at this
  · have h1 : ∀ j, j < l.length → f (l.getD j []) = false := fun j hj => by
      cases hf : f (l.getD j []) with
      | false => rfl
      | true => exact absurd ⟨j, hj, hf⟩ h
    rw [idxF_none h1]
    have : l.any f = false := by
      rw [List.any_eq_false]
      intro x hx
      obtain ⟨j, hj, rfl⟩ := List.getElem_of_mem hx
      have := h1 j hj
      simpa [List.getD_eq_getElem?_getD, hj] using this
    rw [this]; rfl
def ixS (ps : List (List Int)) (x : Ent) (k : Nat) : St := { t := asg [(0, aIntss ps), (1, .clo 93 [.ptr 0 0]), (4, aI 0), (6, aIntss ps), (7, aI ps.length), (8, aI k)], h := hasg [(0, .cells (cEnt x))], n := 1, m := 1 }
def tbF17_136 := And.intro @ty3 (And.intro @ty22 (And.intro @ty28 (And.intro @ti3.eq_1 (And.intro @ti22.eq_1 @ti28.eq_1))))
theorem idx_fn (x : Ent) (ps : List (List Int)) (hl : ps.length ≤ 100) (hp : ∀ p ∈ ps, 2 ≤ p.length) : Fn noB Try.prog 136 [aIntss ps, .clo 93 [.ptr 0 0]] (hasg [(0, .cells (cEnt x))]) (aI (idxF (metB x) ps)) (hasg [(0, .cells (cEnt x))]) 0 := by
  have env : Env (fun _ => True) Try.prog tyB (tab [(93, fnE p93)]) := mkEnv ⟨e93, trivial⟩
  refine Fn.of (A := fun _ => True) (n0 := 1) (D := noD) (Fn0 Try.func136 rfl (fun vs w => by kernel_rfl) (by kernel_rfl)) (by simp) (by simp [AV.ids, AV.idsL, aIntss]) ?_ (fun _ _ _ _ => trivial) noD_ok ?_
  · intro i o hi
    have h := hasg_mem hi
    simp at h; obtain ⟨rfl, rfl⟩ := h; simp [cEnt, AObj.ids, AV.ids, AV.idsL]
  have hm : ps.length ≤ maxLen := by have : (100 : Nat) ≤ maxLen := by decide
                                     omega
  repeat' (first | refine zq0 ?_ | refine zq1 ?_ | refine zq2 ?_ | refine zq3 ?_ | refine zq4 ?_ | refine zq5 ?_ | refine thenK_n ?_ | refine thenK_x ?_ | refine thenK_r ?_ | refine blockK_n ?_ | refine blockK_r ?_ | refine blockK_hit ?_ | refine blockK_miss (by decide) ?_ | ((first | refine sym_reg env fun Q hQ => ?_ | refine sym_cz fun Q hQ => ?_); simp only [vkt, Nat.reduceEqDiff, Nat.reduceAdd, Nat.reduceMul, Nat.reduceSub, Nat.reduceLeDiff, reduceCtorEq, ↓reduceIte, ↓reduceDIte, Int.reduceToNat, Int.reduceLE, Int.reduceLT, Int.reduceEq, Int.reduceNeg, tbF17_136, aI, aB, aInts, aIntss, cEnt, eInt, gInts, eInts, mInt, p93, ixS]; (try simp only [ite_and]); (repeat' (first | with_reducible assumption | refine And.intro ?_ ?_ | intro hp)); all_goals (first | (refine hQ _ ?_; clear hQ; clear Q) | (refine hQ _ (fun h => ?_) (fun h => ?_) <;> clear hQ <;> clear Q <;> (try simp only [vki, reduceCtorEq] at h)) | omega | assumption | (with_reducible rfl) | (refine drawB_of ?_; kernel_rfl) | skip)))
  refine sym_loop (fun k : { k : Nat // k ≤ ps.length ∧ ∀ j, j < k → metB x (ps.getD j []) = false } => ixS ps x k.1) (fun k => ps.length - k.1) ⟨0, Nat.zero_le _, fun j h => absurd h (Nat.not_lt_zero _)⟩ ?_ fun ⟨k, hk, hall⟩ => ?_
  · (refine Le.ok some [] ⟨?_, ?_, ?_, ?_, ?_, ?_, ?_, ?_, ?_, ?_, ?_⟩; all_goals (try simp only [leT, leH, leO, ADf.leL, imgs, idsT, idsH, List.filterMap_cons, List.filterMap_nil, List.flatMap_nil, Nat.lt_irrefl, Nat.not_lt_zero, vkt, Nat.reduceEqDiff, Nat.reduceAdd, Nat.reduceMul, Nat.reduceSub, Nat.reduceLeDiff, reduceCtorEq, ↓reduceIte, ↓reduceDIte, Int.reduceToNat, Int.reduceLE, Int.reduceLT, Int.reduceEq, Int.reduceNeg, tbF17_136, aI, aB, aInts, aIntss, cEnt, eInt, gInts, eInts, mInt, p93, ixS]))
    all_goals simp
  · repeat' (first | refine zq0 ?_ | refine zq1 ?_ | refine zq2 ?_ | refine zq3 ?_ | refine zq4 ?_ | refine zq5 ?_ | refine thenK_n ?_ | refine thenK_x ?_ | refine thenK_r ?_ | refine blockK_n ?_ | refine blockK_r ?_ | refine blockK_hit ?_ | refine blockK_miss (by decide) ?_)
    (refine sym_reg env fun Q hQ => ?_; simp only [vkt, Nat.reduceEqDiff, Nat.reduceAdd, Nat.reduceMul, Nat.reduceSub, Nat.reduceLeDiff, reduceCtorEq, ↓reduceIte, ↓reduceDIte, Int.reduceToNat, Int.reduceLE, Int.reduceLT, Int.reduceEq, Int.reduceNeg, tbF17_136, aI, aB, aInts, aIntss, cEnt, eInt, gInts, eInts, mInt, p93, ixS]; (try simp only [ite_and]); (repeat' (first | with_reducible assumption | refine And.intro ?_ ?_ | intro hp)); all_goals (first | (refine hQ _ ?_; clear hQ; clear Q) | omega | assumption | (with_reducible rfl) | (refine drawB_of ?_; kernel_rfl) | skip))
    repeat' (first | refine zq0 ?_ | refine zq1 ?_ | refine zq2 ?_ | refine zq3 ?_ | refine zq4 ?_ | refine zq5 ?_ | refine thenK_n ?_ | refine thenK_x ?_ | refine thenK_r ?_ | refine blockK_n ?_ | refine blockK_r ?_ | refine blockK_hit ?_ | refine blockK_miss (by decide) ?_)
    (refine sym_cd (by simp only [vkt, Nat.reduceEqDiff, Nat.reduceAdd, Nat.reduceMul, Nat.reduceSub, Nat.reduceLeDiff, reduceCtorEq, ↓reduceIte, ↓reduceDIte, Int.reduceToNat, Int.reduceLE, Int.reduceLT, Int.reduceEq, Int.reduceNeg, tbF17_136, aI, aB, aInts, aIntss, cEnt, eInt, gInts, eInts, mInt, p93, ixS]; rfl) (fun h => ?_) (fun h => ?_) <;> (try simp only [vki, reduceCtorEq] at h))
    · have hlt : k < ps.length := by omega
      have h2 := hp _ (gMem (d := []) hlt)
      have e9 := wrap_succ hlt hm
      have ex : (⟨x.day, x.kind, x.coin, x.to, x.amount, x.got⟩ : Ent) = x := rfl
      cases c1 : metB x (ps.getD k [])
      · repeat' (first | refine zq0 ?_ | refine zq1 ?_ | refine zq2 ?_ | refine zq3 ?_ | refine zq4 ?_ | refine zq5 ?_ | refine thenK_n ?_ | refine thenK_x ?_ | refine thenK_r ?_ | refine blockK_n ?_ | refine blockK_r ?_ | refine blockK_hit ?_ | refine blockK_miss (by decide) ?_ | ((first | refine sym_reg env fun Q hQ => ?_ | refine sym_cz fun Q hQ => ?_); simp only [vkt, Nat.reduceEqDiff, Nat.reduceAdd, Nat.reduceMul, Nat.reduceSub, Nat.reduceLeDiff, reduceCtorEq, ↓reduceIte, ↓reduceDIte, Int.reduceToNat, Int.reduceLE, Int.reduceLT, Int.reduceEq, Int.reduceNeg, tbF17_136, aI, aB, aInts, aIntss, cEnt, eInt, gInts, eInts, mInt, p93, ixS, ex, c1]; (try simp only [ite_and]); (repeat' (first | with_reducible assumption | refine And.intro ?_ ?_ | intro hp)); all_goals (first | (refine hQ _ ?_; clear hQ; clear Q) | (refine hQ _ (fun h => ?_) (fun h => ?_) <;> clear hQ <;> clear Q <;> (try simp only [vki, reduceCtorEq] at h)) | omega | assumption | (with_reducible rfl) | (refine drawB_of ?_; kernel_rfl) | skip)))
        refine ⟨⟨k + 1, hlt, fun j hj => ?_⟩, by show ps.length - (k + 1) < ps.length - k; omega, ?_⟩
        · rcases Nat.lt_or_eq_of_le (Nat.le_of_lt_succ hj) with h1 | h1
          · exact hall j h1
          · rw [h1]; exact c1
        · (refine Le.ok some [] ⟨?_, ?_, ?_, ?_, ?_, ?_, ?_, ?_, ?_, ?_, ?_⟩; all_goals (try simp only [leT, leH, leO, ADf.leL, imgs, idsT, idsH, List.filterMap_cons, List.filterMap_nil, List.flatMap_nil, Nat.lt_irrefl, Nat.not_lt_zero, vkt, Nat.reduceEqDiff, Nat.reduceAdd, Nat.reduceMul, Nat.reduceSub, Nat.reduceLeDiff, reduceCtorEq, ↓reduceIte, ↓reduceDIte, Int.reduceToNat, Int.reduceLE, Int.reduceLT, Int.reduceEq, Int.reduceNeg, tbF17_136, aI, aB, aInts, aIntss, cEnt, eInt, gInts, eInts, mInt, p93, ixS]))
          all_goals simp [e9]
      · have hi := idxF_hit hlt c1 hall
        repeat' (first | refine zq0 ?_ | refine zq1 ?_ | refine zq2 ?_ | refine zq3 ?_ | refine zq4 ?_ | refine zq5 ?_ | refine thenK_n ?_ | refine thenK_x ?_ | refine thenK_r ?_ | refine blockK_n ?_ | refine blockK_r ?_ | refine blockK_hit ?_ | refine blockK_miss (by decide) ?_ | ((first | refine sym_reg env fun Q hQ => ?_ | refine sym_cz fun Q hQ => ?_); simp only [vkt, Nat.reduceEqDiff, Nat.reduceAdd, Nat.reduceMul, Nat.reduceSub, Nat.reduceLeDiff, reduceCtorEq, ↓reduceIte, ↓reduceDIte, Int.reduceToNat, Int.reduceLE, Int.reduceLT, Int.reduceEq, Int.reduceNeg, tbF17_136, aI, aB, aInts, aIntss, cEnt, eInt, gInts, eInts, mInt, p93, ixS, ex, c1]; (try simp only [ite_and]); (repeat' (first | with_reducible assumption | refine And.intro ?_ ?_ | intro hp)); all_goals (first | (refine hQ _ ?_; clear hQ; clear Q) | (refine hQ _ (fun h => ?_) (fun h => ?_) <;> clear hQ <;> clear Q <;> (try simp only [vki, reduceCtorEq] at h)) | omega | assumption | (with_reducible rfl) | (refine drawB_of ?_; kernel_rfl) | skip)))
        (simp only [retK, leaveA, resL, tupA, rd, wCells_some, wRow_some, Try.results136, vkt, Nat.reduceEqDiff, Nat.reduceAdd, Nat.reduceMul, Nat.reduceSub, Nat.reduceLeDiff, reduceCtorEq, ↓reduceIte, ↓reduceDIte, Int.reduceToNat, Int.reduceLE, Int.reduceLT, Int.reduceEq, Int.reduceNeg, tbF17_136, aI, aB, aInts, aIntss, cEnt, eInt, gInts, eInts, mInt, p93, ixS]; refine Fin.ok some [] ?_ ?_ ?_ ?_ ?_ rfl; all_goals (try simp only [leT, leH, leO, ADf.leL, imgs, idsT, idsH, List.filterMap_cons, List.filterMap_nil, List.flatMap_nil, Nat.lt_irrefl, Nat.not_lt_zero, vkt, Nat.reduceEqDiff, Nat.reduceAdd, Nat.reduceMul, Nat.reduceSub, Nat.reduceLeDiff, reduceCtorEq, ↓reduceIte, ↓reduceDIte, Int.reduceToNat, Int.reduceLE, Int.reduceLT, Int.reduceEq, Int.reduceNeg, tbF17_136, aI, aB, aInts, aIntss, cEnt, eInt, gInts, eInts, mInt, p93, ixS]))
        all_goals simp [hi]
    · have hi := idxF_none (f := metB x) (l := ps) fun j hj => hall j (by omega)
      repeat' (first | refine zq0 ?_ | refine zq1 ?_ | refine zq2 ?_ | refine zq3 ?_ | refine zq4 ?_ | refine zq5 ?_ | refine thenK_n ?_ | refine thenK_x ?_ | refine thenK_r ?_ | refine blockK_n ?_ | refine blockK_r ?_ | refine blockK_hit ?_ | refine blockK_miss (by decide) ?_ | ((first | refine sym_reg env fun Q hQ => ?_ | refine sym_cz fun Q hQ => ?_); simp only [vkt, Nat.reduceEqDiff, Nat.reduceAdd, Nat.reduceMul, Nat.reduceSub, Nat.reduceLeDiff, reduceCtorEq, ↓reduceIte, ↓reduceDIte, Int.reduceToNat, Int.reduceLE, Int.reduceLT, Int.reduceEq, Int.reduceNeg, tbF17_136, aI, aB, aInts, aIntss, cEnt, eInt, gInts, eInts, mInt, p93, ixS]; (try simp only [ite_and]); (repeat' (first | with_reducible assumption | refine And.intro ?_ ?_ | intro hp)); all_goals (first | (refine hQ _ ?_; clear hQ; clear Q) | (refine hQ _ (fun h => ?_) (fun h => ?_) <;> clear hQ <;> clear Q <;> (try simp only [vki, reduceCtorEq] at h)) | omega | assumption | (with_reducible rfl) | (refine drawB_of ?_; kernel_rfl) | skip)))
      (simp only [retK, leaveA, resL, tupA, rd, wCells_some, wRow_some, Try.results136, vkt, Nat.reduceEqDiff, Nat.reduceAdd, Nat.reduceMul, Nat.reduceSub, Nat.reduceLeDiff, reduceCtorEq, ↓reduceIte, ↓reduceDIte, Int.reduceToNat, Int.reduceLE, Int.reduceLT, Int.reduceEq, Int.reduceNeg, tbF17_136, aI, aB, aInts, aIntss, cEnt, eInt, gInts, eInts, mInt, p93, ixS]; refine Fin.ok some [] ?_ ?_ ?_ ?_ ?_ rfl; all_goals (try simp only [leT, leH, leO, ADf.leL, imgs, idsT, idsH, List.filterMap_cons, List.filterMap_nil, List.flatMap_nil, Nat.lt_irrefl, Nat.not_lt_zero, vkt, Nat.reduceEqDiff, Nat.reduceAdd, Nat.reduceMul, Nat.reduceSub, Nat.reduceLeDiff, reduceCtorEq, ↓reduceIte, ↓reduceDIte, Int.reduceToNat, Int.reduceLE, Int.reduceLT, Int.reduceEq, Int.reduceNeg, tbF17_136, aI, aB, aInts, aIntss, cEnt, eInt, gInts, eInts, mInt, p93, ixS]))
      all_goals simp [hi]
end Go.Sym.B
namespace Go.Sym.B
open Go Go.Sym Go.Proofs Go.Sym.C
def p136 (S : St) : List AV → Option Pk
  | [.sl ps, .clo 93 [.ptr t 0]] => match S.h t with
    | some (.cells [.v (.int .i64 a), .v (.int .i64 b), .v (.int .i64 c), .v (.int .i64 d), .v (.int .i64 e), .v (.int .i64 f)]) => some { pre := ps = (ps.map dInts).map eInts ∧ ps.length ≤ 100 ∧ ∀ p ∈ ps.map dInts, 2 ≤ p.length, hs := [t], ar := [.sl ps, .clo 93 [.ptr 0 0]], L0 := [.cells (cEnt ⟨a, b, c, d, e, f⟩)], v := aI (idxF (metB ⟨a, b, c, d, e, f⟩) (ps.map dInts)), L1 := [some (.cells (cEnt ⟨a, b, c, d, e, f⟩))], fl := true }
    | _ => none
  | _ => none
theorem e136 {A : Frm → Prop} : EntryOK A Try.prog 136 (fnE p136) := fnE_ok fun S bs q h hp => by
  unfold p136 at h
  split at h
  · split at h
    · rename_i ps t _ a b c d e f _
      cases h
      have := idx_fn ⟨a, b, c, d, e, f⟩ (ps.map dInts) (by simpa using hp.2.1) hp.2.2
      rw [aIntss, ← hp.1] at this
      exact this
    · cases h
  · cases h
def tbF18_92 := And.intro @ty3 @ti3.eq_1
theorem contains_fn (x : Ent) (ps : List (List Int)) (hl : ps.length ≤ 100) (hp : ∀ p ∈ ps, 2 ≤ p.length) : Fn noB Try.prog 92 [aIntss ps, .clo 93 [.ptr 0 0]] (hasg [(0, .cells (cEnt x))]) (aB (ps.any (metB x))) (hasg [(0, .cells (cEnt x))]) 0 := by
  have env : Env (fun _ => True) Try.prog tyB (tab [(136, fnE p136)]) := mkEnv ⟨e136, trivial⟩
  refine Fn.of (A := fun _ => True) (n0 := 1) (D := noD) (Fn0 Try.func92 rfl (fun vs w => by kernel_rfl) (by kernel_rfl)) (by simp) (by simp [AV.ids, AV.idsL, aIntss]) ?_ (fun _ _ _ _ => trivial) noD_ok ?_
  · intro i o hi
    have h := hasg_mem hi
    simp at h; obtain ⟨rfl, rfl⟩ := h; simp [cEnt, AObj.ids, AV.ids, AV.idsL]
  have ex : (⟨x.day, x.kind, x.coin, x.to, x.amount, x.got⟩ : Ent) = x := rfl
  repeat' (first | refine zq0 ?_ | refine zq1 ?_ | refine zq2 ?_ | refine zq3 ?_ | refine zq4 ?_ | refine zq5 ?_ | refine thenK_n ?_ | refine thenK_x ?_ | refine thenK_r ?_ | refine blockK_n ?_ | refine blockK_r ?_ | refine blockK_hit ?_ | refine blockK_miss (by decide) ?_ | ((first | refine sym_reg env fun Q hQ => ?_ | refine sym_cz fun Q hQ => ?_); simp only [vkt, Nat.reduceEqDiff, Nat.reduceAdd, Nat.reduceMul, Nat.reduceSub, Nat.reduceLeDiff, reduceCtorEq, ↓reduceIte, ↓reduceDIte, Int.reduceToNat, Int.reduceLE, Int.reduceLT, Int.reduceEq, Int.reduceNeg, tbF18_92, aI, aB, aInts, aIntss, cEnt, eInt, eInts, mInts, p136, ex]; (try simp only [ite_and]); (repeat' (first | with_reducible assumption | refine And.intro ?_ ?_ | intro hp)); all_goals (first | (refine hQ _ ?_; clear hQ; clear Q) | (refine hQ _ (fun h => ?_) (fun h => ?_) <;> clear hQ <;> clear Q <;> (try simp only [vki, reduceCtorEq] at h)) | omega | assumption | (with_reducible rfl) | (refine drawB_of ?_; kernel_rfl) | skip)))
  (simp only [retK, leaveA, resL, tupA, rd, wCells_some, wRow_some, Try.results92, idxF_any, vkt, Nat.reduceEqDiff, Nat.reduceAdd, Nat.reduceMul, Nat.reduceSub, Nat.reduceLeDiff, reduceCtorEq, ↓reduceIte, ↓reduceDIte, Int.reduceToNat, Int.reduceLE, Int.reduceLT, Int.reduceEq, Int.reduceNeg, tbF18_92, aI, aB, aInts, aIntss, cEnt, eInt, eInts, mInts, p136]; refine Fin.ok some [] ?_ ?_ ?_ ?_ ?_ rfl; all_goals (try simp only [leT, leH, leO, ADf.leL, imgs, idsT, idsH, List.filterMap_cons, List.filterMap_nil, List.flatMap_nil, Nat.lt_irrefl, Nat.not_lt_zero, vkt, Nat.reduceEqDiff, Nat.reduceAdd, Nat.reduceMul, Nat.reduceSub, Nat.reduceLeDiff, reduceCtorEq, ↓reduceIte, ↓reduceDIte, Int.reduceToNat, Int.reduceLE, Int.reduceLT, Int.reduceEq, Int.reduceNeg, tbF18_92, aI, aB, aInts, aIntss, cEnt, eInt, eInts, mInts, p136]))
  all_goals simp
def p92 (S : St) : List AV → Option Pk
  | [.sl ps, .clo 93 [.ptr t 0]] => match S.h t with
    | some (.cells [.v (.int .i64 a), .v (.int .i64 b), .v (.int .i64 c), .v (.int .i64 d), .v (.int .i64 e), .v (.int .i64 f)]) => some { pre := ps = (ps.map dInts).map eInts ∧ ps.length ≤ 100 ∧ ∀ p ∈ ps.map dInts, 2 ≤ p.length, hs := [t], ar := [.sl ps, .clo 93 [.ptr 0 0]], L0 := [.cells (cEnt ⟨a, b, c, d, e, f⟩)], v := aB ((ps.map dInts).any (metB ⟨a, b, c, d, e, f⟩)), L1 := [some (.cells (cEnt ⟨a, b, c, d, e, f⟩))], fl := true }
    | _ => none
  | _ => none
theorem e92 {A : Frm → Prop} : EntryOK A Try.prog 92 (fnE p92) := fnE_ok fun S bs q h hp => by
  unfold p92 at h
  split at h
  · split at h
    · rename_i ps t _ a b c d e f _
      cases h
      have := contains_fn ⟨a, b, c, d, e, f⟩ (ps.map dInts) (by simpa using hp.2.1) hp.2.2
      rw [aIntss, ← hp.1] at this
      exact this
    · cases h
  · cases h
def hitB (l : Led) (bds : List Int) (own : List (List Int)) : Bool := bds.all fun i => own.any (metB (l.entries.getD i.toNat default))
structure BadOk (l : Led) (bds : List Int) : Prop where
  len : bds.length ≤ 100
  b : ∀ i ∈ bds, 0 ≤ i ∧ i.toNat < l.entries.length
def htS (l : Led) (bds : List Int) (own : List (List Int)) (k : Nat) : St := { t := asg [(0, aIntss own), (1, .ptr 0 0), (2, .ptr 1 0), (4, aB false), (8, aInts bds), (9, aI bds.length), (10, aI k)], h := hasg [(0, .cells [.sl (bds.map eInt)]), (1, .cells (cLed l))], n := 2, m := 2 }
def tbF18_91 := And.intro @ty3 (And.intro @ty22 (And.intro @ty36 (And.intro @ty38 (And.intro @ty48 (And.intro @ti3.eq_1 (And.intro @ti22.eq_1 (And.intro @ti36.eq_1 (And.intro @ti38.eq_1 @ti48.eq_1))))))))
end Go.Sym.B
