/- Walks and what they compute, joined: part 5. -/
import Derived.ControlIn
import Derived.CallsIn
import Derived.OrdersIn
import Derived.RangeFuncRecord
import Derived.Maps.AppendAt
import Derived.OwnWalk
import Derived.Below
import Derived.Laws.StructEq
import Derived.Laws.Cells
import Derived.Laws.CopyRow
import Derived.Laws.Slices
import Derived.Laws.MakeOwn
import Derived.RangeFuncLeaves
import Derived.Scope
import Derived.Test.YtoapndlmbpphfaaProg
import Derived.KernelRfl
import Derived.Test.YtoapndlmbpphfaaN4
set_option linter.all false
namespace Go.Sym.B
open Go Go.Sym Go.Proofs Go.Sym.C
theorem rateOf_fn (x : Int) : Fn noB Try.prog 84 [.ptr 0 0] (hasg (bgH x)) (aSh (rtV x)) (hasg (bgH (rtS x))) 0 := by
  have env : Env (fun _ => True) Try.prog tyB (tab [(21, fnE p21)]) := mkEnv ⟨e21, trivial⟩
  refine Fn.of (A := fun _ => True) (n0 := 1) (D := noD) (Fn0 Try.func84 rfl (fun vs w => by kernel_rfl) (by kernel_rfl)) (by simp) (by simp [AV.ids]) ?_ (fun _ _ _ _ => trivial) noD_ok ?_
  · intro i o hi
    have h := hasg_mem hi
    simp [bgH] at h
    rcases h with ⟨rfl, rfl⟩; simp [AObj.ids, AV.ids, AV.idsL]
  have hb := rt_bd7 x
  obtain ⟨n0, hn0⟩ : ∃ n : Nat, rtN x = (n : Int) := ⟨(rtN x).toNat, by omega⟩
  obtain ⟨d0, hd0⟩ : ∃ n : Nat, rtD x = (n : Int) := ⟨(rtD x).toNat, by omega⟩
  rw [hn0, hd0] at hb
  have hV : rtV x = shQ (mkRat n0 d0) := by unfold rtV; rw [hn0, hd0]; rfl
  have hn0' : 1 + upV (upS x (12 - 1)) (20 - 1) = (n0 : Int) := hn0
  have hd0' : 1 + upV x (12 - 1) = (d0 : Int) := hd0
  have hS : upS (upS x (12 - 1)) (20 - 1) = rtS x := rfl
  repeat' (first | refine zq0 ?_ | refine zq1 ?_ | refine zq2 ?_ | refine zq3 ?_ | refine zq4 ?_ | refine zq5 ?_ | refine thenK_n ?_ | refine thenK_x ?_ | refine thenK_r ?_ | refine blockK_n ?_ | refine blockK_r ?_ | refine blockK_hit ?_ | refine blockK_miss (by decide) ?_ | ((first | refine sym_reg env fun Q hQ => ?_ | refine sym_cz fun Q hQ => ?_); simp only [vkt, Nat.reduceEqDiff, Nat.reduceAdd, Nat.reduceMul, Nat.reduceSub, Nat.reduceLeDiff, reduceCtorEq, ↓reduceIte, ↓reduceDIte, Int.reduceToNat, Int.reduceLE, Int.reduceLT, Int.reduceEq, Int.reduceNeg, tbG7_84, aI, aB, aSh, bgH, p21, rtT, tmodN, hn0', hd0', hS]; (try simp only [ite_and]); (repeat' (first | with_reducible assumption | refine And.intro ?_ ?_ | intro hp)); all_goals (first | (refine hQ _ ?_; clear hQ; clear Q) | (refine hQ _ (fun h => ?_) (fun h => ?_) <;> clear hQ <;> clear Q <;> (try simp only [vki, reduceCtorEq] at h)) | omega | assumption | (with_reducible rfl) | (refine drawB_of ?_; kernel_rfl) | skip)))
  refine sym_loop (fun i : (k : { k : Nat // 1 ≤ k ∧ k ≤ 12 }) × RI n0 d0 k.1 => rtT (rtS x) i.1.1 i.2.n i.2.d) (fun i => i.1.1) ⟨⟨12, by decide⟩, ⟨n0, d0, by omega, Nat.le_refl _, by omega, Nat.le_refl _, Nat.mul_comm _ _, fun j h1 h2 => by have : 12 < j := h1; omega⟩⟩ ?_ fun ⟨⟨k, hk⟩, i⟩ => ?_
  · (refine Le.ok some [] ⟨?_, ?_, ?_, ?_, ?_, ?_, ?_, ?_, ?_, ?_, ?_⟩; all_goals (try simp only [leT, leH, leO, ADf.leL, imgs, idsT, idsH, List.filterMap_cons, List.filterMap_nil, List.flatMap_nil, Nat.lt_irrefl, Nat.not_lt_zero, vkt, Nat.reduceEqDiff, Nat.reduceAdd, Nat.reduceMul, Nat.reduceSub, Nat.reduceLeDiff, reduceCtorEq, ↓reduceIte, ↓reduceDIte, Int.reduceToNat, Int.reduceLE, Int.reduceLT, Int.reduceEq, Int.reduceNeg, tbG7_84, aI, aB, aSh, bgH, p21, rtT, tmodN]))
    all_goals first | rfl | (simp; done)
  · repeat' (first | refine zq0 ?_ | refine zq1 ?_ | refine zq2 ?_ | refine zq3 ?_ | refine zq4 ?_ | refine zq5 ?_ | refine thenK_n ?_ | refine thenK_x ?_ | refine thenK_r ?_ | refine blockK_n ?_ | refine blockK_r ?_ | refine blockK_hit ?_ | refine blockK_miss (by decide) ?_)
    (refine sym_reg env fun Q hQ => ?_; simp only [vkt, Nat.reduceEqDiff, Nat.reduceAdd, Nat.reduceMul, Nat.reduceSub, Nat.reduceLeDiff, reduceCtorEq, ↓reduceIte, ↓reduceDIte, Int.reduceToNat, Int.reduceLE, Int.reduceLT, Int.reduceEq, Int.reduceNeg, tbG7_84, aI, aB, aSh, bgH, p21, rtT, tmodN]; (try simp only [ite_and]); (repeat' (first | with_reducible assumption | refine And.intro ?_ ?_ | intro hp)); all_goals (first | (refine hQ _ ?_; clear hQ; clear Q) | omega | assumption | (with_reducible rfl) | (refine drawB_of ?_; kernel_rfl) | skip))
    repeat' (first | refine zq0 ?_ | refine zq1 ?_ | refine zq2 ?_ | refine zq3 ?_ | refine zq4 ?_ | refine zq5 ?_ | refine thenK_n ?_ | refine thenK_x ?_ | refine thenK_r ?_ | refine blockK_n ?_ | refine blockK_r ?_ | refine blockK_hit ?_ | refine blockK_miss (by decide) ?_)
    (refine sym_cd (by simp only [vkt, Nat.reduceEqDiff, Nat.reduceAdd, Nat.reduceMul, Nat.reduceSub, Nat.reduceLeDiff, reduceCtorEq, ↓reduceIte, ↓reduceDIte, Int.reduceToNat, Int.reduceLE, Int.reduceLT, Int.reduceEq, Int.reduceNeg, tbG7_84, aI, aB, aSh, bgH, p21, rtT, tmodN]; rfl) (fun h => ?_) (fun h => ?_) <;> (try simp only [vki, reduceCtorEq] at h))
    · have hk2 : 1 < k := by omega
      repeat' (first | refine zq0 ?_ | refine zq1 ?_ | refine zq2 ?_ | refine zq3 ?_ | refine zq4 ?_ | refine zq5 ?_ | refine thenK_n ?_ | refine thenK_x ?_ | refine thenK_r ?_ | refine blockK_n ?_ | refine blockK_r ?_ | refine blockK_hit ?_ | refine blockK_miss (by decide) ?_)
      refine sym_loop (fun i : RI n0 d0 k => rtT (rtS x) k i.n i.d) (fun i => i.n) i ?_ fun i => ?_
      · (refine Le.ok some [] ⟨?_, ?_, ?_, ?_, ?_, ?_, ?_, ?_, ?_, ?_, ?_⟩; all_goals (try simp only [leT, leH, leO, ADf.leL, imgs, idsT, idsH, List.filterMap_cons, List.filterMap_nil, List.flatMap_nil, Nat.lt_irrefl, Nat.not_lt_zero, vkt, Nat.reduceEqDiff, Nat.reduceAdd, Nat.reduceMul, Nat.reduceSub, Nat.reduceLeDiff, reduceCtorEq, ↓reduceIte, ↓reduceDIte, Int.reduceToNat, Int.reduceLE, Int.reduceLT, Int.reduceEq, Int.reduceNeg, tbG7_84, aI, aB, aSh, bgH, p21, rtT, tmodN]))
        all_goals first | rfl | (simp; done)
      · have i1 := i.n1
        have i2 := i.n2
        have i3 := i.d1
        have i4 := i.d2
        have nz : ¬ (k : Int) = 0 := by omega
        have r1 : i.n % k = 0 ↔ k ∣ i.n := (Nat.dvd_iff_mod_eq_zero ..).symm
        have r2 : i.d % k = 0 ↔ k ∣ i.d := (Nat.dvd_iff_mod_eq_zero ..).symm
        have w1 : IntKind.wrap .i64 ((i.n : Int).tdiv (k : Int)) = ((i.n / k : Nat) : Int) := wdiv (by omega)
        have w2 : IntKind.wrap .i64 ((i.d : Int).tdiv (k : Int)) = ((i.d / k : Nat) : Int) := wdiv (by omega)
        have w3 : IntKind.wrap .i64 ((k : Int) - 1) = ((k - 1 : Nat) : Int) := by rw [wrap64 (by omega) (by omega)]; omega
        by_cases c1 : i.n % k = 0
        · by_cases c2 : i.d % k = 0
          · have c1' : (((i.n % k : Nat) : Int) = 0) := by omega
            have c2' : (((i.d % k : Nat) : Int) = 0) := by omega
            repeat' (first | refine zq0 ?_ | refine zq1 ?_ | refine zq2 ?_ | refine zq3 ?_ | refine zq4 ?_ | refine zq5 ?_ | refine thenK_n ?_ | refine thenK_x ?_ | refine thenK_r ?_ | refine blockK_n ?_ | refine blockK_r ?_ | refine blockK_hit ?_ | refine blockK_miss (by decide) ?_ | ((first | refine sym_reg env fun Q hQ => ?_ | refine sym_cz fun Q hQ => ?_); simp only [vkt, Nat.reduceEqDiff, Nat.reduceAdd, Nat.reduceMul, Nat.reduceSub, Nat.reduceLeDiff, reduceCtorEq, ↓reduceIte, ↓reduceDIte, Int.reduceToNat, Int.reduceLE, Int.reduceLT, Int.reduceEq, Int.reduceNeg, tbG7_84, aI, aB, aSh, bgH, p21, rtT, tmodN, nz, c1', c2', w1, w2]; (try simp only [ite_and]); (repeat' (first | with_reducible assumption | refine And.intro ?_ ?_ | intro hp)); all_goals (first | (refine hQ _ ?_; clear hQ; clear Q) | (refine hQ _ (fun h => ?_) (fun h => ?_) <;> clear hQ <;> clear Q <;> (try simp only [vki, reduceCtorEq] at h)) | omega | assumption | (with_reducible rfl) | (refine drawB_of ?_; kernel_rfl) | skip)))
            refine ⟨i.div (by omega) (r1.1 c1) (r2.1 c2), by show i.n / k < i.n; exact Nat.div_lt_self (by omega) hk2, ?_⟩
            (refine Le.ok some [] ⟨?_, ?_, ?_, ?_, ?_, ?_, ?_, ?_, ?_, ?_, ?_⟩; all_goals (try simp only [leT, leH, leO, ADf.leL, imgs, idsT, idsH, List.filterMap_cons, List.filterMap_nil, List.flatMap_nil, Nat.lt_irrefl, Nat.not_lt_zero, vkt, Nat.reduceEqDiff, Nat.reduceAdd, Nat.reduceMul, Nat.reduceSub, Nat.reduceLeDiff, reduceCtorEq, ↓reduceIte, ↓reduceDIte, Int.reduceToNat, Int.reduceLE, Int.reduceLT, Int.reduceEq, Int.reduceNeg, tbG7_84, aI, aB, aSh, bgH, p21, rtT, tmodN]))
            all_goals first | rfl | (simp [RI.div]; done)
          · have c1' : (((i.n % k : Nat) : Int) = 0) := by omega
            have c2' : ¬ (((i.d % k : Nat) : Int) = 0) := by omega
            obtain ⟨m, rfl⟩ : ∃ m, k = m + 1 := ⟨k - 1, by omega⟩
            repeat' (first | refine zq0 ?_ | refine zq1 ?_ | refine zq2 ?_ | refine zq3 ?_ | refine zq4 ?_ | refine zq5 ?_ | refine thenK_n ?_ | refine thenK_x ?_ | refine thenK_r ?_ | refine blockK_n ?_ | refine blockK_r ?_ | refine blockK_hit ?_ | refine blockK_miss (by decide) ?_ | ((first | refine sym_reg env fun Q hQ => ?_ | refine sym_cz fun Q hQ => ?_); simp only [vkt, Nat.reduceEqDiff, Nat.reduceAdd, Nat.reduceMul, Nat.reduceSub, Nat.reduceLeDiff, reduceCtorEq, ↓reduceIte, ↓reduceDIte, Int.reduceToNat, Int.reduceLE, Int.reduceLT, Int.reduceEq, Int.reduceNeg, tbG7_84, aI, aB, aSh, bgH, p21, rtT, tmodN, nz, c1', c2', w3]; (try simp only [ite_and]); (repeat' (first | with_reducible assumption | refine And.intro ?_ ?_ | intro hp)); all_goals (first | (refine hQ _ ?_; clear hQ; clear Q) | (refine hQ _ (fun h => ?_) (fun h => ?_) <;> clear hQ <;> clear Q <;> (try simp only [vki, reduceCtorEq] at h)) | omega | assumption | (with_reducible rfl) | (refine drawB_of ?_; kernel_rfl) | skip)))
            refine ⟨⟨⟨m, by omega, by omega⟩, i.less fun h => c2 (r2.2 h.2)⟩, by show m < m + 1; omega, ?_⟩
            (refine Le.ok some [] ⟨?_, ?_, ?_, ?_, ?_, ?_, ?_, ?_, ?_, ?_, ?_⟩; all_goals (try simp only [leT, leH, leO, ADf.leL, imgs, idsT, idsH, List.filterMap_cons, List.filterMap_nil, List.flatMap_nil, Nat.lt_irrefl, Nat.not_lt_zero, vkt, Nat.reduceEqDiff, Nat.reduceAdd, Nat.reduceMul, Nat.reduceSub, Nat.reduceLeDiff, reduceCtorEq, ↓reduceIte, ↓reduceDIte, Int.reduceToNat, Int.reduceLE, Int.reduceLT, Int.reduceEq, Int.reduceNeg, tbG7_84, aI, aB, aSh, bgH, p21, rtT, tmodN]))
            all_goals first | rfl | (simp [RI.less]; done)
        · have c1' : ¬ (((i.n % k : Nat) : Int) = 0) := by omega
          obtain ⟨m, rfl⟩ : ∃ m, k = m + 1 := ⟨k - 1, by omega⟩
          repeat' (first | refine zq0 ?_ | refine zq1 ?_ | refine zq2 ?_ | refine zq3 ?_ | refine zq4 ?_ | refine zq5 ?_ | refine thenK_n ?_ | refine thenK_x ?_ | refine thenK_r ?_ | refine blockK_n ?_ | refine blockK_r ?_ | refine blockK_hit ?_ | refine blockK_miss (by decide) ?_ | ((first | refine sym_reg env fun Q hQ => ?_ | refine sym_cz fun Q hQ => ?_); simp only [vkt, Nat.reduceEqDiff, Nat.reduceAdd, Nat.reduceMul, Nat.reduceSub, Nat.reduceLeDiff, reduceCtorEq, ↓reduceIte, ↓reduceDIte, Int.reduceToNat, Int.reduceLE, Int.reduceLT, Int.reduceEq, Int.reduceNeg, tbG7_84, aI, aB, aSh, bgH, p21, rtT, tmodN, nz, c1', w3]; (try simp only [ite_and]); (repeat' (first | with_reducible assumption | refine And.intro ?_ ?_ | intro hp)); all_goals (first | (refine hQ _ ?_; clear hQ; clear Q) | (refine hQ _ (fun h => ?_) (fun h => ?_) <;> clear hQ <;> clear Q <;> (try simp only [vki, reduceCtorEq] at h)) | omega | assumption | (with_reducible rfl) | (refine drawB_of ?_; kernel_rfl) | skip)))
          refine ⟨⟨⟨m, by omega, by omega⟩, i.less fun h => c1 (r1.2 h.1)⟩, by show m < m + 1; omega, ?_⟩
          (refine Le.ok some [] ⟨?_, ?_, ?_, ?_, ?_, ?_, ?_, ?_, ?_, ?_, ?_⟩; all_goals (try simp only [leT, leH, leO, ADf.leL, imgs, idsT, idsH, List.filterMap_cons, List.filterMap_nil, List.flatMap_nil, Nat.lt_irrefl, Nat.not_lt_zero, vkt, Nat.reduceEqDiff, Nat.reduceAdd, Nat.reduceMul, Nat.reduceSub, Nat.reduceLeDiff, reduceCtorEq, ↓reduceIte, ↓reduceDIte, Int.reduceToNat, Int.reduceLE, Int.reduceLT, Int.reduceEq, Int.reduceNeg, tbG7_84, aI, aB, aSh, bgH, p21, rtT, tmodN]))
          all_goals first | rfl | (simp [RI.less]; done)
    · have hk1 : k = 1 := by omega
      subst hk1
      have hl := i.last (by omega) (by omega)
      rw [hV, hl]
      repeat' (first | refine zq0 ?_ | refine zq1 ?_ | refine zq2 ?_ | refine zq3 ?_ | refine zq4 ?_ | refine zq5 ?_ | refine thenK_n ?_ | refine thenK_x ?_ | refine thenK_r ?_ | refine blockK_n ?_ | refine blockK_r ?_ | refine blockK_hit ?_ | refine blockK_miss (by decide) ?_ | ((first | refine sym_reg env fun Q hQ => ?_ | refine sym_cz fun Q hQ => ?_); simp only [vkt, Nat.reduceEqDiff, Nat.reduceAdd, Nat.reduceMul, Nat.reduceSub, Nat.reduceLeDiff, reduceCtorEq, ↓reduceIte, ↓reduceDIte, Int.reduceToNat, Int.reduceLE, Int.reduceLT, Int.reduceEq, Int.reduceNeg, tbG7_84, aI, aB, aSh, bgH, p21, rtT, tmodN]; (try simp only [ite_and]); (repeat' (first | with_reducible assumption | refine And.intro ?_ ?_ | intro hp)); all_goals (first | (refine hQ _ ?_; clear hQ; clear Q) | (refine hQ _ (fun h => ?_) (fun h => ?_) <;> clear hQ <;> clear Q <;> (try simp only [vki, reduceCtorEq] at h)) | omega | assumption | (with_reducible rfl) | (refine drawB_of ?_; kernel_rfl) | skip)))
      (simp only [retK, leaveA, resL, tupA, rd, wCells_some, wRow_some, Try.results84, vkt, Nat.reduceEqDiff, Nat.reduceAdd, Nat.reduceMul, Nat.reduceSub, Nat.reduceLeDiff, reduceCtorEq, ↓reduceIte, ↓reduceDIte, Int.reduceToNat, Int.reduceLE, Int.reduceLT, Int.reduceEq, Int.reduceNeg, tbG7_84, aI, aB, aSh, bgH, p21, rtT, tmodN]; refine Fin.ok some [] ?_ ?_ ?_ ?_ ?_ rfl; all_goals (try simp only [leT, leH, leO, ADf.leL, imgs, idsT, idsH, List.filterMap_cons, List.filterMap_nil, List.flatMap_nil, Nat.lt_irrefl, Nat.not_lt_zero, vkt, Nat.reduceEqDiff, Nat.reduceAdd, Nat.reduceMul, Nat.reduceSub, Nat.reduceLeDiff, reduceCtorEq, ↓reduceIte, ↓reduceDIte, Int.reduceToNat, Int.reduceLE, Int.reduceLT, Int.reduceEq, Int.reduceNeg, tbG7_84, aI, aB, aSh, bgH, p21, rtT, tmodN]))
      all_goals first | rfl | (simp; done)
noncomputable def p84 (S : St) : List AV → Option Pk
  | [.ptr i 0] => match S.h i with
    | some (.cells [.v (.int .u64 x)]) => some { hs := [i], ar := [.ptr 0 0], L0 := [.cells [.v (.int .u64 x)]], v := .agg [.v (.int .i64 (rtV x).num), .v (.int .i64 (rtV x).den)], L1 := [some (.cells [.v (.int .u64 (rtS x))])], fl := true }
    | _ => none
  | _ => none
theorem e84 {A : Frm → Prop} : EntryOK A Try.prog 84 (fnE p84) := fnE_ok fun S bs q h hp => by
  unfold p84 at h
  split at h
  · split at h
    · cases h; exact rateOf_fn _
    · cases h
  · cases h
noncomputable def oneV (x : Int) (l : List Int) : Int := l.getD (upV x ((l.length : Int) - 1)).toNat 0
theorem upV_le {x m : Int} (h0 : 0 ≤ m) (h : m < 9223372036854775807) : 0 ≤ upV x m ∧ upV x m ≤ m := by
  have := upV_bd (x := x) h; omega
theorem oneV_mem {x : Int} {l : List Int} (h1 : 1 ≤ l.length) (h2 : l.length ≤ 100) : oneV x l ∈ l := by
  have := upV_le (x := x) (m := (l.length : Int) - 1) (by omega) (by omega)
  exact gMem (by omega)
def tbG7_85 := And.intro @ty3 (And.intro @ty22 (And.intro @ti3.eq_1 @ti22.eq_1))
theorem one_fn (x : Int) (l : List Int) (h1 : 1 ≤ l.length) (h2 : l.length ≤ 100) : Fn noB Try.prog 85 [.ptr 0 0, aInts l] (hasg (bgH x)) (aI (oneV x l)) (hasg (bgH (upS x ((l.length : Int) - 1)))) 0 := by
  have env : Env (fun _ => True) Try.prog tyB (tab [(22, fnE p22)]) := mkEnv ⟨e22, trivial⟩
  refine Fn.of (A := fun _ => True) (n0 := 1) (D := noD) (Fn0 Try.func85 rfl (fun vs w => by kernel_rfl) (by kernel_rfl)) (by simp) (by simp [AV.ids, AV.idsL, aInts]) ?_ (fun _ _ _ _ => trivial) noD_ok ?_
  · intro i o hi
    have h := hasg_mem hi
    simp [bgH] at h
    rcases h with ⟨rfl, rfl⟩; simp [AObj.ids, AV.ids, AV.idsL]
  have hu := upV_le (x := x) (m := (l.length : Int) - 1) (by omega) (by omega)
  have w1 : IntKind.wrap .i64 ((l.length : Int) - 1) = (l.length : Int) - 1 := wrap64 (by omega) (by omega)
  have nz : ¬ (l.length : Int) = 0 := by omega
  have h3 : (l.length : Int) - 1 < 9223372036854775807 := by omega
  have h4 : (upV x ((l.length : Int) - 1)).toNat < l.length := by omega
  repeat' (first | refine zq0 ?_ | refine zq1 ?_ | refine zq2 ?_ | refine zq3 ?_ | refine zq4 ?_ | refine zq5 ?_ | refine thenK_n ?_ | refine thenK_x ?_ | refine thenK_r ?_ | refine blockK_n ?_ | refine blockK_r ?_ | refine blockK_hit ?_ | refine blockK_miss (by decide) ?_ | ((first | refine sym_reg env fun Q hQ => ?_ | refine sym_cz fun Q hQ => ?_); simp only [vkt, Nat.reduceEqDiff, Nat.reduceAdd, Nat.reduceMul, Nat.reduceSub, Nat.reduceLeDiff, reduceCtorEq, ↓reduceIte, ↓reduceDIte, Int.reduceToNat, Int.reduceLE, Int.reduceLT, Int.reduceEq, Int.reduceNeg, tbG7_85, aI, aB, aInts, bgH, p22, gInt, eInt, w1, nz]; (try simp only [ite_and]); (repeat' (first | with_reducible assumption | refine And.intro ?_ ?_ | intro hp)); all_goals (first | (refine hQ _ ?_; clear hQ; clear Q) | (refine hQ _ (fun h => ?_) (fun h => ?_) <;> clear hQ <;> clear Q <;> (try simp only [vki, reduceCtorEq] at h)) | omega | assumption | (with_reducible rfl) | (refine drawB_of ?_; kernel_rfl) | skip)))
  (simp only [retK, leaveA, resL, tupA, rd, wCells_some, wRow_some, Try.results85, vkt, Nat.reduceEqDiff, Nat.reduceAdd, Nat.reduceMul, Nat.reduceSub, Nat.reduceLeDiff, reduceCtorEq, ↓reduceIte, ↓reduceDIte, Int.reduceToNat, Int.reduceLE, Int.reduceLT, Int.reduceEq, Int.reduceNeg, tbG7_85, aI, aB, aInts, bgH, p22, gInt, eInt]; refine Fin.ok some [] ?_ ?_ ?_ ?_ ?_ rfl; all_goals (try simp only [leT, leH, leO, ADf.leL, imgs, idsT, idsH, List.filterMap_cons, List.filterMap_nil, List.flatMap_nil, Nat.lt_irrefl, Nat.not_lt_zero, vkt, Nat.reduceEqDiff, Nat.reduceAdd, Nat.reduceMul, Nat.reduceSub, Nat.reduceLeDiff, reduceCtorEq, ↓reduceIte, ↓reduceDIte, Int.reduceToNat, Int.reduceLE, Int.reduceLT, Int.reduceEq, Int.reduceNeg, tbG7_85, aI, aB, aInts, bgH, p22, gInt, eInt]))
  all_goals first | rfl | (simp; done)
noncomputable def p85 (S : St) : List AV → Option Pk
  | [.ptr i 0, .row r] => match S.h i with
    | some (.cells [.v (.int .u64 x)]) => match S.h r with
      | some (.row _ _ xs) => some { pre := xs = (xs.map dInt).map eInt ∧ 1 ≤ xs.length ∧ xs.length ≤ 100, hs := [i], bo := [r], ar := [.ptr 0 0, .sl xs], L0 := [.cells [.v (.int .u64 x)]], v := .v (.int .i64 (oneV x (xs.map dInt))), L1 := [some (.cells [.v (.int .u64 (upS x ((xs.length : Int) - 1)))])], fl := true }
      | _ => none
    | _ => none
  | _ => none
theorem e85 {A : Frm → Prop} : EntryOK A Try.prog 85 (fnE p85) := fnE_ok fun S bs q h hp => by
  unfold p85 at h
  split at h
  · split at h
    · split at h
      · cases h
        obtain ⟨h1, h2, h3⟩ := hp
        rename_i x _ _ _ _ xs _
        have := one_fn x (List.map dInt xs) (by rw [List.length_map]; exact h2) (by rw [List.length_map]; exact h3)
        simp only [aInts, ← h1, List.length_map] at this
        exact this
      · cases h
    · cases h
  · cases h
def tbG7_71 := And.intro @ty3 @ti3.eq_1
theorem chance_fn (x n m : Int) (h1 : 1 ≤ m) (h2 : m ≤ 1000) : Fn noB Try.prog 71 [.ptr 0 0, aI n, aI m] (hasg (bgH x)) (aB (decide (upV x (m - 1) < n))) (hasg (bgH (upS x (m - 1)))) 0 := by
  have env : Env (fun _ => True) Try.prog tyB (tab [(22, fnE p22)]) := mkEnv ⟨e22, trivial⟩
  refine Fn.of (A := fun _ => True) (n0 := 1) (D := noD) (Fn0 Try.func71 rfl (fun vs w => by kernel_rfl) (by kernel_rfl)) (by simp) (by simp [AV.ids, AV.idsL, aI]) ?_ (fun _ _ _ _ => trivial) noD_ok ?_
  · intro i o hi
    have h := hasg_mem hi
    simp [bgH] at h
    rcases h with ⟨rfl, rfl⟩; simp [AObj.ids, AV.ids, AV.idsL]
  have w1 : IntKind.wrap .i64 (m - 1) = m - 1 := wrap64 (by omega) (by omega)
  have h3 : m - 1 < 9223372036854775807 := by omega
  repeat' (first | refine zq0 ?_ | refine zq1 ?_ | refine zq2 ?_ | refine zq3 ?_ | refine zq4 ?_ | refine zq5 ?_ | refine thenK_n ?_ | refine thenK_x ?_ | refine thenK_r ?_ | refine blockK_n ?_ | refine blockK_r ?_ | refine blockK_hit ?_ | refine blockK_miss (by decide) ?_ | ((first | refine sym_reg env fun Q hQ => ?_ | refine sym_cz fun Q hQ => ?_); simp only [vkt, Nat.reduceEqDiff, Nat.reduceAdd, Nat.reduceMul, Nat.reduceSub, Nat.reduceLeDiff, reduceCtorEq, ↓reduceIte, ↓reduceDIte, Int.reduceToNat, Int.reduceLE, Int.reduceLT, Int.reduceEq, Int.reduceNeg, tbG7_71, aI, aB, aInts, bgH, p22, w1]; (try simp only [ite_and]); (repeat' (first | with_reducible assumption | refine And.intro ?_ ?_ | intro hp)); all_goals (first | (refine hQ _ ?_; clear hQ; clear Q) | (refine hQ _ (fun h => ?_) (fun h => ?_) <;> clear hQ <;> clear Q <;> (try simp only [vki, reduceCtorEq] at h)) | omega | assumption | (with_reducible rfl) | (refine drawB_of ?_; kernel_rfl) | skip)))
  (simp only [retK, leaveA, resL, tupA, rd, wCells_some, wRow_some, Try.results71, vkt, Nat.reduceEqDiff, Nat.reduceAdd, Nat.reduceMul, Nat.reduceSub, Nat.reduceLeDiff, reduceCtorEq, ↓reduceIte, ↓reduceDIte, Int.reduceToNat, Int.reduceLE, Int.reduceLT, Int.reduceEq, Int.reduceNeg, tbG7_71, aI, aB, aInts, bgH, p22]; refine Fin.ok some [] ?_ ?_ ?_ ?_ ?_ rfl; all_goals (try simp only [leT, leH, leO, ADf.leL, imgs, idsT, idsH, List.filterMap_cons, List.filterMap_nil, List.flatMap_nil, Nat.lt_irrefl, Nat.not_lt_zero, vkt, Nat.reduceEqDiff, Nat.reduceAdd, Nat.reduceMul, Nat.reduceSub, Nat.reduceLeDiff, reduceCtorEq, ↓reduceIte, ↓reduceDIte, Int.reduceToNat, Int.reduceLE, Int.reduceLT, Int.reduceEq, Int.reduceNeg, tbG7_71, aI, aB, aInts, bgH, p22]))
  all_goals first | rfl | (simp; done)
noncomputable def p71 (S : St) : List AV → Option Pk
  | [.ptr i 0, .v (.int .i64 n), .v (.int .i64 m)] => match S.h i with
    | some (.cells [.v (.int .u64 x)]) => some { pre := 1 ≤ m ∧ m ≤ 1000, hs := [i], ar := [.ptr 0 0, .v (.int .i64 n), .v (.int .i64 m)], L0 := [.cells [.v (.int .u64 x)]], v := .v (.bool (decide (upV x (m - 1) < n))), L1 := [some (.cells [.v (.int .u64 (upS x (m - 1)))])], fl := true }
    | _ => none
  | _ => none
theorem e71 {A : Frm → Prop} : EntryOK A Try.prog 71 (fnE p71) := fnE_ok fun S bs q h hp => by
  unfold p71 at h
  split at h
  · split at h
    · cases h; exact chance_fn _ _ _ hp.1 hp.2
    · cases h
  · cases h
def foldV (x n : Int) : Int := if n < 2 then 0 else (x.tmod n + n).tmod n
def tbG7_54 := And.intro @ty3 @ti3.eq_1
theorem fold_fn (x n : Int) (h2 : n ≤ 1000000) : FnV Try.prog 54 [aI x, aI n] (aI (foldV x n)) := by
  have env : Env (fun _ => True) Try.prog tyB (tab []) := mkEnv trivial
  refine Fn.of (A := fun _ => True) (n0 := 0) (D := noD) (Fn0 Try.func54 rfl (fun vs w => by kernel_rfl) (by kernel_rfl)) (by simp) (by simp [AV.ids, AV.idsL, aI]) (fun i o h => by cases h) (fun _ _ _ _ => trivial) noD_ok ?_
  by_cases c1 : n < 2
  · repeat' (first | refine zq0 ?_ | refine zq1 ?_ | refine zq2 ?_ | refine zq3 ?_ | refine zq4 ?_ | refine zq5 ?_ | refine thenK_n ?_ | refine thenK_x ?_ | refine thenK_r ?_ | refine blockK_n ?_ | refine blockK_r ?_ | refine blockK_hit ?_ | refine blockK_miss (by decide) ?_ | ((first | refine sym_reg env fun Q hQ => ?_ | refine sym_cz fun Q hQ => ?_); simp only [vkt, Nat.reduceEqDiff, Nat.reduceAdd, Nat.reduceMul, Nat.reduceSub, Nat.reduceLeDiff, reduceCtorEq, ↓reduceIte, ↓reduceDIte, Int.reduceToNat, Int.reduceLE, Int.reduceLT, Int.reduceEq, Int.reduceNeg, tbG7_54, aI, aB, c1]; (try simp only [ite_and]); (repeat' (first | with_reducible assumption | refine And.intro ?_ ?_ | intro hp)); all_goals (first | (refine hQ _ ?_; clear hQ; clear Q) | (refine hQ _ (fun h => ?_) (fun h => ?_) <;> clear hQ <;> clear Q <;> (try simp only [vki, reduceCtorEq] at h)) | omega | assumption | (with_reducible rfl) | (refine drawB_of ?_; kernel_rfl) | skip)))
    (simp only [retK, leaveA, resL, tupA, rd, wCells_some, wRow_some, Try.results54, vkt, Nat.reduceEqDiff, Nat.reduceAdd, Nat.reduceMul, Nat.reduceSub, Nat.reduceLeDiff, reduceCtorEq, ↓reduceIte, ↓reduceDIte, Int.reduceToNat, Int.reduceLE, Int.reduceLT, Int.reduceEq, Int.reduceNeg, tbG7_54, aI, aB]; refine Fin.val rfl ?_; (try simp only [AV.le, AV.leL]))
    all_goals simp [foldV, c1]
  · have nz : ¬ n = 0 := by omega
    have h3 : x.tmod n < n := Int.tmod_lt_of_pos x (by omega)
    have h5 : -n < x.tmod n := Int.lt_tmod_of_pos x (by omega)
    have w1 : IntKind.wrap .i64 (x.tmod n + n) = x.tmod n + n := wrap64 (by omega) (by omega)
    repeat' (first | refine zq0 ?_ | refine zq1 ?_ | refine zq2 ?_ | refine zq3 ?_ | refine zq4 ?_ | refine zq5 ?_ | refine thenK_n ?_ | refine thenK_x ?_ | refine thenK_r ?_ | refine blockK_n ?_ | refine blockK_r ?_ | refine blockK_hit ?_ | refine blockK_miss (by decide) ?_ | ((first | refine sym_reg env fun Q hQ => ?_ | refine sym_cz fun Q hQ => ?_); simp only [vkt, Nat.reduceEqDiff, Nat.reduceAdd, Nat.reduceMul, Nat.reduceSub, Nat.reduceLeDiff, reduceCtorEq, ↓reduceIte, ↓reduceDIte, Int.reduceToNat, Int.reduceLE, Int.reduceLT, Int.reduceEq, Int.reduceNeg, tbG7_54, aI, aB, c1, nz, w1]; (try simp only [ite_and]); (repeat' (first | with_reducible assumption | refine And.intro ?_ ?_ | intro hp)); all_goals (first | (refine hQ _ ?_; clear hQ; clear Q) | (refine hQ _ (fun h => ?_) (fun h => ?_) <;> clear hQ <;> clear Q <;> (try simp only [vki, reduceCtorEq] at h)) | omega | assumption | (with_reducible rfl) | (refine drawB_of ?_; kernel_rfl) | skip)))
    (simp only [retK, leaveA, resL, tupA, rd, wCells_some, wRow_some, Try.results54, vkt, Nat.reduceEqDiff, Nat.reduceAdd, Nat.reduceMul, Nat.reduceSub, Nat.reduceLeDiff, reduceCtorEq, ↓reduceIte, ↓reduceDIte, Int.reduceToNat, Int.reduceLE, Int.reduceLT, Int.reduceEq, Int.reduceNeg, tbG7_54, aI, aB]; refine Fin.val rfl ?_; (try simp only [AV.le, AV.leL]))
    all_goals simp [foldV, c1]
def s54 : List AV → Prop × AV
  | [.v (.int .i64 x), .v (.int .i64 n)] => (n ≤ 1000000, aI (foldV x n))
  | _ => (False, .junk)
theorem e54 {A : Frm → Prop} : EntryOK A Try.prog 54 (valE true s54) := valE_ok fun vs _ h => by
  unfold s54 at h ⊢
  split at h
  · exact ⟨trivial, fun _ => trivial, fold_fn _ _ h⟩
  · exact h.elim
theorem foldV_bd {x n : Int} (h : 1 ≤ n) : 0 ≤ foldV x n ∧ foldV x n < n := by
  unfold foldV
  split
  · omega
  · have h5 : -n < x.tmod n := Int.lt_tmod_of_pos x (by omega)
    have h1 : 0 ≤ x.tmod n + n := by omega
    rw [Int.tmod_eq_emod_of_nonneg h1]
    exact ⟨Int.emod_nonneg _ (by omega), Int.emod_lt_of_pos _ (by omega)⟩
end Go.Sym.B
namespace Go.Sym.B
open Go Go.Sym Go.Proofs Go.Sym.C
noncomputable def pcK (x : Int) : Nat → List Int × Int
  | 0 => ([1], x)
  | k + 1 => ((pcK x k).1 ++ [(pcK x k).1.getD k 0 + (1 + upV (pcK x k).2 (12 - 1))], upS (pcK x k).2 (12 - 1))
structure PcOk (p : List Int) (k : Nat) : Prop where
  len : p.length = k + 1
  one : p.getD 0 0 = 1
  up : ∀ i, i < k → p.getD i 0 < p.getD (i + 1) 0
  le : ∀ i, i ≤ k → 1 ≤ p.getD i 0 ∧ p.getD i 0 ≤ 1 + 12 * (i : Int)
theorem getD_snocL {α : Type} {l : List α} {v d : α} {i : Nat} (h : i < l.length) : (l ++ [v]).getD i d = l.getD i d := by
  simp [List.getD_eq_getElem?_getD, List.getElem?_append_left h]
theorem getD_snocR {α : Type} {l : List α} {v d : α} {i : Nat} (h : i = l.length) : (l ++ [v]).getD i d = v := by
  subst h; simp [List.getD_eq_getElem?_getD]
theorem pcK_ok (x : Int) : ∀ k, PcOk (pcK x k).1 k
  | 0 => ⟨rfl, rfl, fun i h => by omega, fun i h => by obtain rfl : i = 0 := by omega
                                                       simp [pcK]⟩
  | k + 1 => by
    have ih := pcK_ok x k
    have hu := upV_bd (x := (pcK x k).2) (m := 12 - 1) (by decide)
    have hl := ih.len
    have hk := ih.le k (Nat.le_refl _)
    rw [pcK]
    refine ⟨by simp [hl], by rw [getD_snocL (by omega)]; exact ih.one, fun i hi => ?_, fun i hi => ?_⟩
    · rcases Nat.lt_or_eq_of_le (Nat.le_of_lt_succ hi) with h | h
      · rw [getD_snocL (by omega), getD_snocL (by omega)]; exact ih.up i h
      · subst h; rw [getD_snocL (by omega), getD_snocR hl.symm]; omega
    · rcases Nat.lt_or_eq_of_le hi with h | h
      · rw [getD_snocL (by omega)]; exact ih.le i (by omega)
      · subst h; rw [getD_snocR hl.symm]; omega
structure CoS where
  cs : List (List Int)
  ss : List Int
  x : Int
noncomputable def coStep (s : CoS) : CoS := ⟨s.cs ++ [(pcK (upS s.x 3) (upV s.x 3).toNat).1], s.ss ++ [upV (pcK (upS s.x 3) (upV s.x 3).toNat).2 200], upS (pcK (upS s.x 3) (upV s.x 3).toNat).2 200⟩
noncomputable def coK (x : Int) : Nat → CoS
  | 0 => ⟨[], [], x⟩
  | k + 1 => coStep (coK x k)
theorem coK_succ (x : Int) (k : Nat) : coK x (k + 1) = coStep (coK x k) := rfl
structure CoOk (s : CoS) (k : Nat) : Prop where
  c : s.cs.length = k
  l : s.ss.length = k
  p : ∀ q ∈ s.cs, ∃ j, j ≤ 3 ∧ PcOk q j
  v : ∀ n ∈ s.ss, 0 ≤ n ∧ n ≤ 200
theorem coK_ok (x : Int) : ∀ k, CoOk (coK x k) k
  | 0 => ⟨rfl, rfl, fun q hq => by simp [coK] at hq, fun q hq => by simp [coK] at hq⟩
  | k + 1 => by
    have ih := coK_ok x k
    rw [coK_succ]
    unfold coStep
    have h1 := upV_bd (x := (coK x k).x) (m := 3) (by decide)
    have h2 := upV_bd (x := (pcK (upS (coK x k).x 3) (upV (coK x k).x 3).toNat).2) (m := 200) (by decide)
    refine ⟨by simp [ih.c], by simp [ih.l], fun q hq => ?_, fun q hq => ?_⟩
    · rcases List.mem_append.1 hq with hq | hq
      · exact ih.p q hq
      · obtain rfl := List.mem_singleton.1 hq
        exact ⟨_, by omega, pcK_ok _ _⟩
    · rcases List.mem_append.1 hq with hq | hq
      · exact ih.v q hq
      · obtain rfl := List.mem_singleton.1 hq
        omega
noncomputable def rtK (x : Int) : Nat → List Sh × Int
  | 0 => ([⟨1, 1⟩], x)
  | k + 1 => ((rtK x k).1 ++ [rtV (rtK x k).2], rtS (rtK x k).2)
structure ShOk (s : Sh) : Prop where
  n : 1 ≤ s.num ∧ s.num ≤ 20
  d : 1 ≤ s.den ∧ s.den ≤ 12
  r : s = shQ (mkRat s.num s.den.toNat)
theorem shQ_ok {q : Rat} (h1 : 1 ≤ q.num ∧ q.num ≤ 20) (h2 : (q.den : Int) ≤ 12) : ShOk (shQ q) :=
  ⟨h1, ⟨by have := den_pos q; show (1 : Int) ≤ (q.den : Int); omega, h2⟩, by show shQ q = shQ (mkRat q.num (q.den : Int).toNat); rw [Int.toNat_natCast, Rat.mkRat_self]⟩
theorem mkq_bd {n d : Int} (hn : 1 ≤ n ∧ n ≤ 20) (hd : 1 ≤ d ∧ d ≤ 12) : (1 ≤ (mkRat n d.toNat).num ∧ (mkRat n d.toNat).num ≤ 20) ∧ ((mkRat n d.toNat).den : Int) ≤ 12 := by
  have hq : (0 : Int) < d := by omega
  have e1 := mk_num_le (a := n) hq
  have e2 := mk_den_le (a := n) hq
  have hp : 0 < (mkRat n d.toNat).num := by
    have hm := mk_num (a := n) hq
    have h5 : 0 < Nat.gcd n.natAbs d.toNat := Nat.gcd_pos_of_pos_left _ (by omega)
    have h6 := Nat.gcd_dvd_left n.natAbs d.toNat
    rw [hm]
    generalize Nat.gcd n.natAbs d.toNat = g at *
    obtain ⟨q, hq⟩ := h6
    have h7 : n = (g : Int) * (q : Int) := by
      rw [show n = (n.natAbs : Int) by omega, hq]; exact Int.natCast_mul g q
    rw [h7, Int.mul_tdiv_cancel_left _ (by omega)]
    rcases Nat.eq_zero_or_pos q with h8 | h8
    · subst h8; simp at h7; omega
    · omega
  omega
theorem rtV_ok (x : Int) : ShOk (rtV x) := by
  have h := mkq_bd (rt_bd7 x).1 (rt_bd7 x).2
  unfold rtV
  exact shQ_ok h.1 h.2
structure RwOk (r : List Sh) (m : Nat) : Prop where
  len : r.length = m
  one : r.getD 0 default = ⟨1, 1⟩
  all : ∀ s ∈ r, ShOk s
theorem rtK_ok (x : Int) : ∀ k, RwOk (rtK x k).1 (k + 1)
  | 0 => ⟨rfl, rfl, fun s hs => by
    obtain rfl := List.mem_singleton.1 hs
    exact ⟨by decide, by decide, by decide +kernel⟩⟩
  | k + 1 => by
    have ih := rtK_ok x k
    rw [rtK]
    refine ⟨by simp [ih.len], by rw [getD_snocL (by have := ih.len; omega)]; exact ih.one, fun s hs => ?_⟩
    rcases List.mem_append.1 hs with hs | hs
    · exact ih.all s hs
    · obtain rfl := List.mem_singleton.1 hs
      exact rtV_ok _
noncomputable def dyK (m : Nat) (x : Int) : Nat → List (List Sh) × Int
  | 0 => ([], x)
  | k + 1 => ((dyK m x k).1 ++ [(rtK (dyK m x k).2 m).1], (rtK (dyK m x k).2 m).2)
theorem dyK_ok (m : Nat) (x : Int) : ∀ k, (dyK m x k).1.length = k ∧ ∀ r ∈ (dyK m x k).1, RwOk r (m + 1)
  | 0 => ⟨rfl, fun r h => by simp [dyK] at h⟩
  | k + 1 => by
    obtain ⟨h1, h2⟩ := dyK_ok m x k
    rw [dyK]
    refine ⟨by simp [h1], fun r hr => ?_⟩
    rcases List.mem_append.1 hr with hr | hr
    · exact h2 r hr
    · obtain rfl := List.mem_singleton.1 hr
      exact rtK_ok _ _
structure EnS where
  day : Int
  till : List Int
  es : List Ent
  x : Int
noncomputable def enD (R : Nat) (s : EnS) : Int := s.day + upV s.x (min (s.day + 1) ((R : Int) - 1) - s.day)
noncomputable def enX1 (R : Nat) (s : EnS) : Int := upS s.x (min (s.day + 1) ((R : Int) - 1) - s.day)
def kinds : List Int := [1, 2, 3, 3, 3, 4]
noncomputable def enS1 (s : EnS) (day coin x : Int) : EnS := ⟨day, s.till.set coin.toNat (s.till.getD coin.toNat 0 + upV x 90), s.es ++ [⟨day, 1, coin, 0, upV x 90, 0⟩], upS x 90⟩
noncomputable def enS2 (s : EnS) (day coin x : Int) : EnS := ⟨day, s.till.set coin.toNat (s.till.getD coin.toNat 0 - upV x (min (s.till.getD coin.toNat 0) 90)), s.es ++ [⟨day, 2, coin, 0, upV x (min (s.till.getD coin.toNat 0) 90), 0⟩], upS x (min (s.till.getD coin.toNat 0) 90)⟩
noncomputable def enF (x : Int) : Int := -3 + upV x (3 - -3)
noncomputable def enA4 (h x : Int) : Int := max 0 (min 999 (h + oneV (upS x (3 - -3)) [0, enF x]))
noncomputable def enS4 (s : EnS) (day coin x : Int) : EnS := ⟨day, s.till.set coin.toNat (enA4 (s.till.getD coin.toNat 0) x), s.es ++ [⟨day, 4, coin, 0, enA4 (s.till.getD coin.toNat 0) x, 0⟩], upS (upS x (3 - -3)) ((2 : Nat) - 1)⟩
def enG0 (rs : List (List Sh)) (day coin to am : Int) : Int :=
  (am * ((rs.getD day.toNat []).getD coin.toNat default).num * ((rs.getD day.toNat []).getD to.toNat default).den).tdiv (((rs.getD day.toNat []).getD coin.toNat default).den * ((rs.getD day.toNat []).getD to.toNat default).num)
def enS3b (s : EnS) (day coin to am got x : Int) : EnS :=
  if 999 < got then ⟨day, s.till, s.es, x⟩ else ⟨day, (s.till.set coin.toNat (s.till.getD coin.toNat 0 - am)).set to.toNat (s.till.getD to.toNat 0 + got), s.es ++ [⟨day, 3, coin, to, am, got⟩], x⟩
noncomputable def enS3a (rs : List (List Sh)) (w : Int) (s : EnS) (day coin to am x : Int) : EnS :=
  if upV x (10 - 1) < w then enS3b s day coin to am (enG0 rs day coin to am + (1 + upV (upS x (10 - 1)) (3 - 1))) (upS (upS x (10 - 1)) (3 - 1))
  else enS3b s day coin to am (enG0 rs day coin to am) (upS x (10 - 1))
noncomputable def enTo (C : Nat) (coin x : Int) : Int := foldV (coin + (1 + upV x ((C : Int) - 1 - 1))) C
noncomputable def enS3 (C : Nat) (rs : List (List Sh)) (w : Int) (s : EnS) (day coin x : Int) : EnS :=
  if C = 1 then ⟨day, s.till, s.es, x⟩ else
  enS3a rs w s day coin (enTo C coin x) (upV (upS x ((C : Int) - 1 - 1)) (min (s.till.getD coin.toNat 0) 40)) (upS (upS x ((C : Int) - 1 - 1)) (min (s.till.getD coin.toNat 0) 40))
noncomputable def enS0 (C : Nat) (rs : List (List Sh)) (w : Int) (s : EnS) (day kind coin x : Int) : EnS :=
  if kind = 1 then enS1 s day coin x else if kind = 2 then enS2 s day coin x else if kind = 4 then enS4 s day coin x else enS3 C rs w s day coin x
noncomputable def enK0 (R : Nat) (s : EnS) : Int := oneV (enX1 R s) kinds
noncomputable def enX2 (R : Nat) (s : EnS) : Int := upS (enX1 R s) ((6 : Nat) - 1)
noncomputable def enStep (C : Nat) (rs : List (List Sh)) (w : Int) (s : EnS) : EnS :=
  enS0 C rs w s (enD rs.length s) (enK0 rs.length s) (upV (enX2 rs.length s) ((C : Int) - 1)) (upS (enX2 rs.length s) ((C : Int) - 1))
noncomputable def enK (C : Nat) (rs : List (List Sh)) (w : Int) (s : EnS) : Nat → EnS
  | 0 => s
  | k + 1 => enStep C rs w (enK C rs w s k)
structure EnI (C R k : Nat) (s : EnS) : Prop where
  d0 : 0 ≤ s.day
  d1 : s.day ≤ (R : Int) - 1
  len : s.till.length = C
  b : ∀ v ∈ s.till, 0 ≤ v ∧ v ≤ 999 * ((k : Int) + 1)
  es : s.es.length ≤ k
theorem enD_bd {C R k : Nat} {s : EnS} (h : EnI C R k s) (hR : R ≤ 100) : s.day ≤ enD R s ∧ enD R s ≤ (R : Int) - 1 := by
  have h0 := h.d0
  have h1 := h.d1
  have := upV_le (x := s.x) (m := min (s.day + 1) ((R : Int) - 1) - s.day) (by omega) (by omega)
  unfold enD
  omega
structure EnJ (C R k : Nat) (s : EnS) (day coin : Int) : Prop where
  i : EnI C R k s
  d0 : 0 ≤ day
  d1 : day ≤ (R : Int) - 1
  c0 : 0 ≤ coin
  c1 : coin ≤ (C : Int) - 1
theorem EnJ.h {C R k : Nat} {s : EnS} {day coin : Int} (j : EnJ C R k s day coin) : 0 ≤ s.till.getD coin.toNat 0 ∧ s.till.getD coin.toNat 0 ≤ 999 * ((k : Int) + 1) := by
  have := j.c0
  have := j.c1
  have := j.i.len
  exact j.i.b _ (gMem (by omega))
theorem mem_set_bd {l : List Int} {i : Nat} {v : Int} {P : Int → Prop} (h : ∀ x ∈ l, P x) (hv : P v) : ∀ x ∈ l.set i v, P x := fun x hx => by
  rcases List.mem_or_eq_of_mem_set hx with h1 | h1
  · exact h x h1
  · exact h1 ▸ hv
theorem EnJ.bd {C R k : Nat} {s : EnS} {day coin : Int} (j : EnJ C R k s day coin) : ∀ v ∈ s.till, 0 ≤ v ∧ v ≤ 999 * (((k + 1 : Nat) : Int) + 1) := fun v hv => by
  have := j.i.b v hv; omega
theorem EnJ.set {C R k : Nat} {s : EnS} {day coin : Int} (j : EnJ C R k s day coin) {v : Int} {e : Ent} {x : Int} (h : 0 ≤ v ∧ v ≤ 999 * ((k : Int) + 1) + 999) : EnI C R (k + 1) ⟨day, s.till.set coin.toNat v, s.es ++ [e], x⟩ :=
  ⟨j.d0, j.d1, by simp [j.i.len], mem_set_bd j.bd (by omega), by simp; exact j.i.es⟩
theorem enA4_bd (h x : Int) : 0 ≤ enA4 h x ∧ enA4 h x ≤ 999 := by unfold enA4; omega
theorem enS3b_ok {C R k : Nat} {s : EnS} {day coin : Int} (j : EnJ C R k s day coin) {to am got x : Int} (ha : 0 ≤ am) (ha' : am ≤ s.till.getD coin.toNat 0) (ht : 0 ≤ to ∧ to < C) (hg : 0 ≤ got) : EnI C R (k + 1) (enS3b s day coin to am got x) := by
  unfold enS3b
  have hh := j.h
  have hl := j.i.len
  split
  · exact ⟨j.d0, j.d1, hl, j.bd, Nat.le_succ_of_le j.i.es⟩
  · have h2 := j.i.b _ (gMem (l := s.till) (k := to.toNat) (d := 0) (by omega))
    exact ⟨j.d0, j.d1, by simp [hl], mem_set_bd (mem_set_bd j.bd (by omega)) (by omega), by simp; exact j.i.es⟩
theorem enG0_bd {rs : List (List Sh)} {day coin to am : Int} (h1 : ShOk ((rs.getD day.toNat []).getD coin.toNat default)) (h2 : ShOk ((rs.getD day.toNat []).getD to.toNat default)) (ha : 0 ≤ am) (ha' : am ≤ 40) :
    0 ≤ enG0 rs day coin to am ∧ enG0 rs day coin to am ≤ 9600 := by
  unfold enG0
  have a1 := h1.n
  have a2 := h1.d
  have a3 := h2.n
  have a4 := h2.d
  generalize ((rs.getD day.toNat []).getD coin.toNat default).num = p at *
  generalize ((rs.getD day.toNat []).getD coin.toNat default).den = q at *
  generalize ((rs.getD day.toNat []).getD to.toNat default).num = r at *
  generalize ((rs.getD day.toNat []).getD to.toNat default).den = u at *
  have m1 : 0 ≤ am * p * u := Int.mul_nonneg (Int.mul_nonneg ha (by omega)) (by omega)
  have m2 : am * p ≤ 40 * 20 := Int.mul_le_mul ha' a1.2 (by omega) (by omega)
  have m3 : am * p * u ≤ 40 * 20 * 12 := Int.mul_le_mul m2 a4.2 (by omega) (by omega)
  have m4 : 0 < q * r := Int.mul_pos (by omega) (by omega)
  rw [Int.tdiv_eq_ediv_of_nonneg m1]
  refine ⟨Int.ediv_nonneg m1 (by omega), Int.le_trans (Int.ediv_le_self _ m1) (by omega)⟩
structure RsOk (rs : List (List Sh)) (C : Nat) : Prop where
  len : 1 ≤ rs.length ∧ rs.length ≤ 4
  all : ∀ r ∈ rs, RwOk r C
theorem RsOk.sh {rs : List (List Sh)} {C : Nat} (h : RsOk rs C) {day coin : Int} (h1 : 0 ≤ day) (h2 : day ≤ (rs.length : Int) - 1) (h3 : 0 ≤ coin) (h4 : coin ≤ (C : Int) - 1) : ShOk ((rs.getD day.toNat []).getD coin.toNat default) := by
  have hr := h.all _ (gMem (l := rs) (k := day.toNat) (d := []) (by omega))
  exact hr.all _ (gMem (by have := hr.len; omega))
theorem enS0_ok {C k : Nat} {rs : List (List Sh)} (hr : RsOk rs C) (hC : 1 ≤ C ∧ C ≤ 4) {w : Int} {s : EnS} {day coin : Int} (j : EnJ C rs.length k s day coin) (kind x : Int) : EnI C rs.length (k + 1) (enS0 C rs w s day kind coin x) := by
  have hh := j.h
  have hc0 := j.c0
  have hc1 := j.c1
  unfold enS0
  split
  · unfold enS1
    have := upV_le (x := x) (m := 90) (by decide) (by decide)
    exact j.set (by omega)
  split
  · unfold enS2
    have := upV_bd (x := x) (m := min (s.till.getD coin.toNat 0) 90) (by omega)
    exact j.set (by omega)
  split
  · unfold enS4
    have := enA4_bd (s.till.getD coin.toNat 0) x
    exact j.set (by omega)
  · unfold enS3
    split
    · exact ⟨j.d0, j.d1, j.i.len, j.bd, Nat.le_succ_of_le j.i.es⟩
    · have ht : 0 ≤ enTo C coin x ∧ enTo C coin x < C := foldV_bd (by omega)
      generalize enTo C coin x = to at *
      generalize upS x ((C : Int) - 1 - 1) = y
      have ha := upV_bd (x := y) (m := min (s.till.getD coin.toNat 0) 40) (by omega)
      generalize upV y (min (s.till.getD coin.toNat 0) 40) = am at *
      have s1 := hr.sh j.d0 j.d1 hc0 hc1
      have s2 := hr.sh j.d0 j.d1 ht.1 (show to ≤ (C : Int) - 1 by omega)
      have hg := enG0_bd s1 s2 (am := am) (by omega) (by omega)
      unfold enS3a
      split
      · have := upV_bd (x := upS (upS y (min (s.till.getD coin.toNat 0) 40)) (10 - 1)) (m := 3 - 1) (by decide)
        exact enS3b_ok j (by omega) (by omega) ht (by omega)
      · exact enS3b_ok j (by omega) (by omega) ht (by omega)
theorem enJ_of {C k : Nat} {rs : List (List Sh)} (hr : RsOk rs C) (hC : 1 ≤ C ∧ C ≤ 4) {s : EnS} (h : EnI C rs.length k s) : EnJ C rs.length k s (enD rs.length s) (upV (enX2 rs.length s) ((C : Int) - 1)) := by
  have h1 := enD_bd h (by have := hr.len; omega)
  have h2 := upV_le (x := enX2 rs.length s) (m := (C : Int) - 1) (by omega) (by omega)
  exact ⟨h, by have := h.d0; omega, h1.2, h2.1, h2.2⟩
theorem enK_ok {C : Nat} {rs : List (List Sh)} (hr : RsOk rs C) (hC : 1 ≤ C ∧ C ≤ 4) {w : Int} {s : EnS} (h : EnI C rs.length 0 s) : ∀ k, EnI C rs.length k (enK C rs w s k)
  | 0 => h
  | k + 1 => enS0_ok hr hC (enJ_of hr hC (enK_ok hr hC h k)) _ _
noncomputable def lg1 (x c : Int) : CoS := coK (upS x (c - 1)) (1 + upV x (c - 1)).toNat
noncomputable def lg2 (x c d : Int) : List (List Sh) × Int := dyK ((lg1 x c).cs.length - 1) (upS (lg1 x c).x (d - 1)) (1 + upV (lg1 x c).x (d - 1)).toNat
noncomputable def lg3 (x c d e w : Int) : EnS := enK (lg1 x c).cs.length (lg2 x c d).1 w ⟨0, (lg1 x c).ss, [], upS (lg2 x c d).2 e⟩ (upV (lg2 x c d).2 e).toNat
noncomputable def lgL (x c d e w : Int) : Led := ⟨(lg1 x c).cs, (lg2 x c d).1, (lg1 x c).ss, (lg3 x c d e w).es⟩
noncomputable def lgS (x c d e w : Int) : Int := (lg3 x c d e w).x
end Go.Sym.B
namespace Go.Sym.B
open Go Go.Sym Go.Proofs Go.Sym.C
def tbG9_23 := And.intro @ty3 (And.intro @ty22 (And.intro @ti3.eq_1 @ti22.eq_1))
theorem copyR_fn (l : List Int) (hl : l.length ≤ 100000) : Fn noB Try.prog 23 [aInts l] noH (.row 0) (hasg [(0, .row 3 1 (l.map eInt))]) 0 := by
  have env : Env (fun _ => True) Try.prog tyB (tab []) := mkEnv trivial
  refine Fn.of (A := fun _ => True) (n0 := 0) (D := noD) (Fn0 Try.func23 rfl (fun vs w => by kernel_rfl) (by kernel_rfl)) (by simp) (by simp [AV.ids, AV.idsL, aInts]) (fun i o h => by cases h) (fun _ _ _ _ => trivial) noD_ok ?_
  obtain ⟨b1, b2, b3, b4⟩ := b47 hl
  repeat' (first | refine zq0 ?_ | refine zq1 ?_ | refine zq2 ?_ | refine zq3 ?_ | refine zq4 ?_ | refine zq5 ?_ | refine thenK_n ?_ | refine thenK_x ?_ | refine thenK_r ?_ | refine blockK_n ?_ | refine blockK_r ?_ | refine blockK_hit ?_ | refine blockK_miss (by decide) ?_ | ((first | refine sym_reg env fun Q hQ => ?_ | refine sym_cz fun Q hQ => ?_); simp only [vkt, Nat.reduceEqDiff, Nat.reduceAdd, Nat.reduceMul, Nat.reduceSub, Nat.reduceLeDiff, reduceCtorEq, ↓reduceIte, ↓reduceDIte, Int.reduceToNat, Int.reduceLE, Int.reduceLT, Int.reduceEq, Int.reduceNeg, tbG9_23, aI, aB, aInts, rInt]; (try simp only [ite_and]); (repeat' (first | with_reducible assumption | refine And.intro ?_ ?_ | intro hp)); all_goals (first | (refine hQ _ ?_; clear hQ; clear Q) | (refine hQ _ (fun h => ?_) (fun h => ?_) <;> clear hQ <;> clear Q <;> (try simp only [vki, reduceCtorEq] at h)) | omega | assumption | (with_reducible rfl) | (refine drawB_of ?_; kernel_rfl) | skip)))
  (simp only [retK, leaveA, resL, tupA, rd, wCells_some, wRow_some, Try.results23, vkt, Nat.reduceEqDiff, Nat.reduceAdd, Nat.reduceMul, Nat.reduceSub, Nat.reduceLeDiff, reduceCtorEq, ↓reduceIte, ↓reduceDIte, Int.reduceToNat, Int.reduceLE, Int.reduceLT, Int.reduceEq, Int.reduceNeg, tbG9_23, aI, aB, aInts, rInt]; refine Fin.ok some [] ?_ ?_ ?_ ?_ ?_ rfl; all_goals (try simp only [leT, leH, leO, ADf.leL, imgs, idsT, idsH, List.filterMap_cons, List.filterMap_nil, List.flatMap_nil, Nat.lt_irrefl, Nat.not_lt_zero, vkt, Nat.reduceEqDiff, Nat.reduceAdd, Nat.reduceMul, Nat.reduceSub, Nat.reduceLeDiff, reduceCtorEq, ↓reduceIte, ↓reduceDIte, Int.reduceToNat, Int.reduceLE, Int.reduceLT, Int.reduceEq, Int.reduceNeg, tbG9_23, aI, aB, aInts, rInt]))
  all_goals first | rfl | (simp; done)
theorem flInt (l : List Int) : (∀ r ∈ l.map eInt, ∀ d ∈ r, ∃ x, d = DV.v x) = True := by
  simp [eInt]
def p23r (S : St) : List AV → Option Pk
  | [.row r] => match S.h r with
    | some (.row _ _ xs) => some { pre := xs = (xs.map dInt).map eInt ∧ xs.length ≤ 100000, bo := [r], ar := [.sl xs], v := .row 0, L1 := [some (.row 3 1 xs)], fl := true }
    | _ => none
  | [.sl xs] => some { pre := xs = (xs.map dInt).map eInt ∧ xs.length ≤ 100000, ar := [.sl xs], v := .row 0, L1 := [some (.row 3 1 xs)] }
  | _ => none
theorem e23r {A : Frm → Prop} : EntryOK A Try.prog 23 (fnE p23r) := fnE_ok fun S bs q h hp => by
  unfold p23r at h
  split at h
  · split at h
    · cases h
      rename_i xs _
      have := copyR_fn (List.map dInt xs) (by rw [List.length_map]; exact hp.2)
      simp only [aInts, ← hp.1] at this
      exact this
    · cases h
  · cases h
    rename_i xs
    have := copyR_fn (List.map dInt xs) (by rw [List.length_map]; exact hp.2)
    simp only [aInts, ← hp.1] at this
    exact this
  · cases h
theorem pcK_1 (y : Int) (j : Nat) : (pcK y (j + 1)).1 = (pcK y j).1 ++ [(pcK y j).1.getD j 0 + (1 + upV (pcK y j).2 (12 - 1))] := rfl
theorem pcK_2 (y : Int) (j : Nat) : (pcK y (j + 1)).2 = upS (pcK y j).2 (12 - 1) := rfl
theorem rtK_1 (y : Int) (j : Nat) : (rtK y (j + 1)).1 = (rtK y j).1 ++ [rtV (rtK y j).2] := rfl
theorem rtK_2 (y : Int) (j : Nat) : (rtK y (j + 1)).2 = rtS (rtK y j).2 := rfl
theorem dyK_1 (m : Nat) (y : Int) (j : Nat) : (dyK m y (j + 1)).1 = (dyK m y j).1 ++ [(rtK (dyK m y j).2 m).1] := rfl
theorem dyK_2 (m : Nat) (y : Int) (j : Nat) : (dyK m y (j + 1)).2 = (rtK (dyK m y j).2 m).2 := rfl
theorem enK_1 (C : Nat) (rs : List (List Sh)) (w : Int) (s : EnS) (k : Nat) : enK C rs w s (k + 1) = enStep C rs w (enK C rs w s k) := rfl
theorem gRow {l : List (List Sh)} {n : Nat} (h : n < l.length) : (l.map eShs).getD n [] = eShs (l.getD n []) := by simp [List.getD_eq_getElem?_getD, h]
theorem dIntW (n : Int) : dInt [.v (.int .i64 n)] = n := rfl
def loT (c d e w : Int) : List (Nat × AV) := [(0, .ptr 0 0), (1, aI c), (2, aI d), (3, aI e), (4, aI w), (10, .ptr 1 0), (11, .ptr 2 0)]
def nil4 : List AV := [.nil, .nil, .nil, .nil]
noncomputable def lo1 (c d e w : Int) (b : Int) (V k : Nat) : St := { t := asg (loT c d e w ++ [(12, aI ((V : Int) - (k : Int)))]), h := hasg [(0, .cells [.v (.int .u64 (coK b k).x)]), (1, .cells nil4), (2, .cells [.row 3, .nil, .row 4, .nil]), (3, .row 22 1 ((coK b k).cs.map eInts)), (4, .row 3 1 ((coK b k).ss.map eInt))], n := 5, m := 1 }
noncomputable def lo2 (c d e w : Int) (s : CoS) (y : Int) (V k K j : Nat) : St := { t := asg (loT c d e w ++ [(12, aI ((V : Int) - (k : Int))), (13, .row 5), (14, aI ((K : Int) - (j : Int)))]), h := hasg [(0, .cells [.v (.int .u64 (pcK y j).2)]), (1, .cells nil4), (2, .cells [.row 3, .nil, .row 4, .nil]), (3, .row 22 1 (s.cs.map eInts)), (4, .row 3 1 (s.ss.map eInt)), (5, .row 3 1 ((pcK y j).1.map eInt))], n := 6, m := 1 }
def lo3 (c d e w : Int) (s : CoS) (p : List Int) (y : Int) (V k : Nat) : St := { t := asg (loT c d e w ++ [(12, aI ((V : Int) - (k : Int))), (13, aInts p)]), h := hasg [(0, .cells [.v (.int .u64 y)]), (1, .cells nil4), (2, .cells [.row 3, .nil, .row 4, .nil]), (3, .row 22 1 (s.cs.map eInts)), (4, .row 3 1 (s.ss.map eInt))], n := 5, m := 1 }
noncomputable def ld1 (c d e w : Int) (s : CoS) (m : Nat) (b : Int) (V k : Nat) : St := { t := asg (loT c d e w ++ [(15, aI ((V : Int) - (k : Int)))]), h := hasg [(0, .cells [.v (.int .u64 (dyK m b k).2)]), (1, .cells nil4), (2, .cells [.row 3, .row 5, .row 4, .nil]), (3, .row 22 1 (s.cs.map eInts)), (4, .row 3 1 (s.ss.map eInt)), (5, .row 55 1 ((dyK m b k).1.map eShs))], n := 6, m := 1 }
noncomputable def ld2 (c d e w : Int) (s : CoS) (rs : List (List Sh)) (y : Int) (V k j : Nat) : St := { t := asg (loT c d e w ++ [(15, aI ((V : Int) - (k : Int))), (16, .row 6), (17, aI ((j : Int) + 1))]), h := hasg [(0, .cells [.v (.int .u64 (rtK y j).2)]), (1, .cells nil4), (2, .cells [.row 3, .row 5, .row 4, .nil]), (3, .row 22 1 (s.cs.map eInts)), (4, .row 3 1 (s.ss.map eInt)), (5, .row 55 1 (rs.map eShs)), (6, .row 59 2 ((rtK y j).1.map eSh))], n := 7, m := 1 }
def ld3 (c d e w : Int) (s : CoS) (rs : List (List Sh)) (r : List Sh) (y : Int) (V k : Nat) : St := { t := asg (loT c d e w ++ [(15, aI ((V : Int) - (k : Int))), (16, aShs r)]), h := hasg [(0, .cells [.v (.int .u64 y)]), (1, .cells nil4), (2, .cells [.row 3, .row 5, .row 4, .nil]), (3, .row 22 1 (s.cs.map eInts)), (4, .row 3 1 (s.ss.map eInt)), (5, .row 55 1 (rs.map eShs))], n := 6, m := 1 }
def le1 (c d e w : Int) (s : CoS) (rs : List (List Sh)) (t : EnS) (V k : Nat) : St := { t := asg (loT c d e w ++ [(18, .row 6), (19, aI t.day), (20, aI ((V : Int) - (k : Int)))]), h := hasg [(0, .cells [.v (.int .u64 t.x)]), (1, .cells nil4), (2, .cells [.row 3, .row 5, .row 4, .row 7]), (3, .row 22 1 (s.cs.map eInts)), (4, .row 3 1 (s.ss.map eInt)), (5, .row 55 1 (rs.map eShs)), (6, .row 3 1 (t.till.map eInt)), (7, .row 48 6 (t.es.map eEnt))], n := 8, m := 1 }
def tbG9_27 := And.intro @ty3 (And.intro @ty22 (And.intro @ty28 (And.intro @ty35 (And.intro @ty36 (And.intro @ty38 (And.intro @ty48 (And.intro @ty55 (And.intro @ty59 (And.intro @ti3.eq_1 (And.intro @ti22.eq_1 (And.intro @ti28.eq_1 (And.intro @ti35.eq_1 (And.intro @ti36.eq_1 (And.intro @ti38.eq_1 (And.intro @ti48.eq_1 (And.intro @ti55.eq_1 @ti59.eq_1))))))))))))))))
set_option maxRecDepth 100000 in
set_option maxHeartbeats 40000000 in
theorem ledgerOf_fn (x c d e w : Int) (hc : 1 ≤ c ∧ c ≤ 4) (hd : 1 ≤ d ∧ d ≤ 4) (he : 0 ≤ e ∧ e ≤ 6) : Fn noB Try.prog 27 [.ptr 0 0, aI c, aI d, aI e, aI w] (hasg (bgH x)) (aLed (lgL x c d e w)) (hasg (bgH (lgS x c d e w))) 0 := by
  have env : Env (fun _ => True) Try.prog tyB (tab [(21, fnE p21), (22, fnE p22), (23, fnE p23r), (84, fnE p84), (85, fnE p85), (71, fnE p71), (54, valE true s54)]) := mkEnv ⟨e21, e22, e23r, e84, e85, e71, e54, trivial⟩
  refine Fn.of (A := fun _ => True) (n0 := 1) (D := noD) (Fn0 Try.func27 rfl (fun vs w => by kernel_rfl) (by kernel_rfl)) (by simp) (by simp [AV.ids, AV.idsL, aI]) ?_ (fun _ _ _ _ => trivial) noD_ok ?_
  · intro i o hi
    have h := hasg_mem hi
    simp [bgH] at h
    rcases h with ⟨rfl, rfl⟩; simp [AObj.ids, AV.ids, AV.idsL]
  have mc : min c 4 = c := by omega
  have md : min d 4 = d := by omega
  have me : min e 6 = e := by omega
  have big : (100000 : Nat) ≤ maxLen := by decide
  have hu := upV_le (x := x) (m := c - 1) (by omega) (by omega)
  obtain ⟨V, hV⟩ : ∃ V : Nat, 1 + upV x (c - 1) = (V : Int) := ⟨(1 + upV x (c - 1)).toNat, by omega⟩
  have hV1 : 1 ≤ V ∧ V ≤ 4 := by omega
  have g1 : lg1 x c = coK (upS x (c - 1)) V := by unfold lg1; rw [hV]; rfl
  generalize hb : upS x (c - 1) = b at *
  repeat' (first | refine zq0 ?_ | refine zq1 ?_ | refine zq2 ?_ | refine zq3 ?_ | refine zq4 ?_ | refine zq5 ?_ | refine thenK_n ?_ | refine thenK_x ?_ | refine thenK_r ?_ | refine blockK_n ?_ | refine blockK_r ?_ | refine blockK_hit ?_ | refine blockK_miss (by decide) ?_ | ((first | refine sym_reg env fun Q hQ => ?_ | refine sym_cz fun Q hQ => ?_); simp only [vkt, Nat.reduceEqDiff, Nat.reduceAdd, Nat.reduceMul, Nat.reduceSub, Nat.reduceLeDiff, reduceCtorEq, ↓reduceIte, ↓reduceDIte, Int.reduceToNat, Int.reduceLE, Int.reduceLT, Int.reduceEq, Int.reduceNeg, tbG9_27, aI, aB, aSh, aLed, cLed, aInts, aShs, bgH, mInt, dIntW, List.map_cons, List.map_nil, List.length_cons, List.length_nil, loT, nil4, lo1, lo2, lo3, ld1, ld2, ld3, le1, p21, p22, p84, p85, p71, s54, p23r, gInt, eInt, eShs, rInt, rSh, rEnt, rInts, rShs, flInt, List.nil_append, List.append_nil, List.cons_append, mc, hV, hb]; (try simp only [ite_and]); (repeat' (first | with_reducible assumption | refine And.intro ?_ ?_ | intro hp)); all_goals (first | (refine hQ _ ?_; clear hQ; clear Q) | (refine hQ _ (fun h => ?_) (fun h => ?_) <;> clear hQ <;> clear Q <;> (try simp only [vki, reduceCtorEq] at h)) | omega | assumption | (with_reducible rfl) | (refine drawB_of ?_; kernel_rfl) | skip)))
  refine sym_loop (fun k : { k : Nat // k ≤ V } => lo1 c d e w b V k.1) (fun k => V - k.1) ⟨0, Nat.zero_le _⟩ ?_ fun ⟨k, hk⟩ => ?_
  · (refine Le.ok (fun j => if j = 3 ∨ j = 4 then none else some j) [] ⟨?_, ?_, ?_, ?_, ?_, ?_, ?_, ?_, ?_, ?_, ?_⟩; all_goals (try simp only [leT, leH, leO, ADf.leL, imgs, idsT, idsH, List.filterMap_cons, List.filterMap_nil, List.flatMap_nil, Nat.lt_irrefl, Nat.not_lt_zero, vkt, Nat.reduceEqDiff, Nat.reduceAdd, Nat.reduceMul, Nat.reduceSub, Nat.reduceLeDiff, reduceCtorEq, ↓reduceIte, ↓reduceDIte, Int.reduceToNat, Int.reduceLE, Int.reduceLT, Int.reduceEq, Int.reduceNeg, tbG9_27, aI, aB, aSh, aLed, cLed, aInts, aShs, bgH, mInt, dIntW, List.map_cons, List.map_nil, List.length_cons, List.length_nil, loT, nil4, lo1, lo2, lo3, ld1, ld2, ld3, le1, p21, p22, p84, p85, p71, s54, p23r, gInt, eInt, eShs, rInt, rSh, rEnt, rInts, rShs, flInt, List.nil_append, List.append_nil, List.cons_append]))
    all_goals first | rfl | (simp [coK, hb, hV]; done)
  · repeat' (first | refine zq0 ?_ | refine zq1 ?_ | refine zq2 ?_ | refine zq3 ?_ | refine zq4 ?_ | refine zq5 ?_ | refine thenK_n ?_ | refine thenK_x ?_ | refine thenK_r ?_ | refine blockK_n ?_ | refine blockK_r ?_ | refine blockK_hit ?_ | refine blockK_miss (by decide) ?_)
    (refine sym_reg env fun Q hQ => ?_; simp only [vkt, Nat.reduceEqDiff, Nat.reduceAdd, Nat.reduceMul, Nat.reduceSub, Nat.reduceLeDiff, reduceCtorEq, ↓reduceIte, ↓reduceDIte, Int.reduceToNat, Int.reduceLE, Int.reduceLT, Int.reduceEq, Int.reduceNeg, tbG9_27, aI, aB, aSh, aLed, cLed, aInts, aShs, bgH, mInt, dIntW, List.map_cons, List.map_nil, List.length_cons, List.length_nil, loT, nil4, lo1, lo2, lo3, ld1, ld2, ld3, le1, p21, p22, p84, p85, p71, s54, p23r, gInt, eInt, eShs, rInt, rSh, rEnt, rInts, rShs, flInt, List.nil_append, List.append_nil, List.cons_append]; (try simp only [ite_and]); (repeat' (first | with_reducible assumption | refine And.intro ?_ ?_ | intro hp)); all_goals (first | (refine hQ _ ?_; clear hQ; clear Q) | omega | assumption | (with_reducible rfl) | (refine drawB_of ?_; kernel_rfl) | skip))
    repeat' (first | refine zq0 ?_ | refine zq1 ?_ | refine zq2 ?_ | refine zq3 ?_ | refine zq4 ?_ | refine zq5 ?_ | refine thenK_n ?_ | refine thenK_x ?_ | refine thenK_r ?_ | refine blockK_n ?_ | refine blockK_r ?_ | refine blockK_hit ?_ | refine blockK_miss (by decide) ?_)
    (refine sym_cd (by simp only [vkt, Nat.reduceEqDiff, Nat.reduceAdd, Nat.reduceMul, Nat.reduceSub, Nat.reduceLeDiff, reduceCtorEq, ↓reduceIte, ↓reduceDIte, Int.reduceToNat, Int.reduceLE, Int.reduceLT, Int.reduceEq, Int.reduceNeg, tbG9_27, aI, aB, aSh, aLed, cLed, aInts, aShs, bgH, mInt, dIntW, List.map_cons, List.map_nil, List.length_cons, List.length_nil, loT, nil4, lo1, lo2, lo3, ld1, ld2, ld3, le1, p21, p22, p84, p85, p71, s54, p23r, gInt, eInt, eShs, rInt, rSh, rEnt, rInts, rShs, flInt, List.nil_append, List.append_nil, List.cons_append]; rfl) (fun h => ?_) (fun h => ?_) <;> (try simp only [vki, reduceCtorEq] at h))
    · have hlt : k < V := by omega
      have ok := coK_ok b k
      have hs := coK_succ b k
      generalize coK b k = s at *
      have u1 := upV_le (x := s.x) (m := 3) (by decide) (by decide)
      unfold coStep at hs
      obtain ⟨K, hK⟩ : ∃ K : Nat, upV s.x 3 = (K : Int) := ⟨(upV s.x 3).toNat, by omega⟩
      rw [hK, Int.toNat_natCast] at hs
      generalize hy : upS s.x 3 = y at *
      repeat' (first | refine zq0 ?_ | refine zq1 ?_ | refine zq2 ?_ | refine zq3 ?_ | refine zq4 ?_ | refine zq5 ?_ | refine thenK_n ?_ | refine thenK_x ?_ | refine thenK_r ?_ | refine blockK_n ?_ | refine blockK_r ?_ | refine blockK_hit ?_ | refine blockK_miss (by decide) ?_ | ((first | refine sym_reg env fun Q hQ => ?_ | refine sym_cz fun Q hQ => ?_); simp only [vkt, Nat.reduceEqDiff, Nat.reduceAdd, Nat.reduceMul, Nat.reduceSub, Nat.reduceLeDiff, reduceCtorEq, ↓reduceIte, ↓reduceDIte, Int.reduceToNat, Int.reduceLE, Int.reduceLT, Int.reduceEq, Int.reduceNeg, tbG9_27, aI, aB, aSh, aLed, cLed, aInts, aShs, bgH, mInt, dIntW, List.map_cons, List.map_nil, List.length_cons, List.length_nil, loT, nil4, lo1, lo2, lo3, ld1, ld2, ld3, le1, p21, p22, p84, p85, p71, s54, p23r, gInt, eInt, eShs, rInt, rSh, rEnt, rInts, rShs, flInt, List.nil_append, List.append_nil, List.cons_append, hK, hy]; (try simp only [ite_and]); (repeat' (first | with_reducible assumption | refine And.intro ?_ ?_ | intro hp)); all_goals (first | (refine hQ _ ?_; clear hQ; clear Q) | (refine hQ _ (fun h => ?_) (fun h => ?_) <;> clear hQ <;> clear Q <;> (try simp only [vki, reduceCtorEq] at h)) | omega | assumption | (with_reducible rfl) | (refine drawB_of ?_; kernel_rfl) | skip)))
      refine sym_loop (fun j : { j : Nat // j ≤ K } => lo2 c d e w s y V k K j.1) (fun j => K - j.1) ⟨0, Nat.zero_le _⟩ ?_ fun ⟨j, hj⟩ => ?_
      · (refine Le.ok some [] ⟨?_, ?_, ?_, ?_, ?_, ?_, ?_, ?_, ?_, ?_, ?_⟩; all_goals (try simp only [leT, leH, leO, ADf.leL, imgs, idsT, idsH, List.filterMap_cons, List.filterMap_nil, List.flatMap_nil, Nat.lt_irrefl, Nat.not_lt_zero, vkt, Nat.reduceEqDiff, Nat.reduceAdd, Nat.reduceMul, Nat.reduceSub, Nat.reduceLeDiff, reduceCtorEq, ↓reduceIte, ↓reduceDIte, Int.reduceToNat, Int.reduceLE, Int.reduceLT, Int.reduceEq, Int.reduceNeg, tbG9_27, aI, aB, aSh, aLed, cLed, aInts, aShs, bgH, mInt, dIntW, List.map_cons, List.map_nil, List.length_cons, List.length_nil, loT, nil4, lo1, lo2, lo3, ld1, ld2, ld3, le1, p21, p22, p84, p85, p71, s54, p23r, gInt, eInt, eShs, rInt, rSh, rEnt, rInts, rShs, flInt, List.nil_append, List.append_nil, List.cons_append]))
        all_goals first | rfl | (simp [pcK, eInt]; done)
      · repeat' (first | refine zq0 ?_ | refine zq1 ?_ | refine zq2 ?_ | refine zq3 ?_ | refine zq4 ?_ | refine zq5 ?_ | refine thenK_n ?_ | refine thenK_x ?_ | refine thenK_r ?_ | refine blockK_n ?_ | refine blockK_r ?_ | refine blockK_hit ?_ | refine blockK_miss (by decide) ?_)
        (refine sym_reg env fun Q hQ => ?_; simp only [vkt, Nat.reduceEqDiff, Nat.reduceAdd, Nat.reduceMul, Nat.reduceSub, Nat.reduceLeDiff, reduceCtorEq, ↓reduceIte, ↓reduceDIte, Int.reduceToNat, Int.reduceLE, Int.reduceLT, Int.reduceEq, Int.reduceNeg, tbG9_27, aI, aB, aSh, aLed, cLed, aInts, aShs, bgH, mInt, dIntW, List.map_cons, List.map_nil, List.length_cons, List.length_nil, loT, nil4, lo1, lo2, lo3, ld1, ld2, ld3, le1, p21, p22, p84, p85, p71, s54, p23r, gInt, eInt, eShs, rInt, rSh, rEnt, rInts, rShs, flInt, List.nil_append, List.append_nil, List.cons_append]; (try simp only [ite_and]); (repeat' (first | with_reducible assumption | refine And.intro ?_ ?_ | intro hp)); all_goals (first | (refine hQ _ ?_; clear hQ; clear Q) | omega | assumption | (with_reducible rfl) | (refine drawB_of ?_; kernel_rfl) | skip))
        repeat' (first | refine zq0 ?_ | refine zq1 ?_ | refine zq2 ?_ | refine zq3 ?_ | refine zq4 ?_ | refine zq5 ?_ | refine thenK_n ?_ | refine thenK_x ?_ | refine thenK_r ?_ | refine blockK_n ?_ | refine blockK_r ?_ | refine blockK_hit ?_ | refine blockK_miss (by decide) ?_)
        (refine sym_cd (by simp only [vkt, Nat.reduceEqDiff, Nat.reduceAdd, Nat.reduceMul, Nat.reduceSub, Nat.reduceLeDiff, reduceCtorEq, ↓reduceIte, ↓reduceDIte, Int.reduceToNat, Int.reduceLE, Int.reduceLT, Int.reduceEq, Int.reduceNeg, tbG9_27, aI, aB, aSh, aLed, cLed, aInts, aShs, bgH, mInt, dIntW, List.map_cons, List.map_nil, List.length_cons, List.length_nil, loT, nil4, lo1, lo2, lo3, ld1, ld2, ld3, le1, p21, p22, p84, p85, p71, s54, p23r, gInt, eInt, eShs, rInt, rSh, rEnt, rInts, rShs, flInt, List.nil_append, List.append_nil, List.cons_append]; rfl) (fun h => ?_) (fun h => ?_) <;> (try simp only [vki, reduceCtorEq] at h))
        · have hjl : j < K := by omega
          have pk := pcK_ok y j
          have pl := pk.len
          have pb := pk.le j (Nat.le_refl _)
          have hp1 := pcK_1 y j
          have hp2 := (pcK_2 y j).symm
          have q1 := upV_le (x := (pcK y j).2) (m := 12 - 1) (by decide) (by decide)
          generalize (pcK y j).1 = p at *
          generalize (pcK y j).2 = z at *
          have e7 : IntKind.wrap .i64 ((K : Int) - (j : Int) - 1) = (K : Int) - ((j + 1 : Nat) : Int) := by rw [wrap64 (by omega) (by omega)]; omega
          have e8 : IntKind.wrap .i64 (((j + 1 : Nat) : Int) - 1) = (j : Int) := by rw [wrap64 (by omega) (by omega)]; omega
          have e9 : IntKind.wrap .i64 (p.getD j 0 + (1 + upV z (12 - 1))) = p.getD j 0 + (1 + upV z (12 - 1)) := wrap64 (by omega) (by omega)
          have e5 : j < p.length := by omega
          have m1 : (j + 1 + 1) * 8 ≤ 140737488355328 ∧ j + 1 + 1 ≤ maxLen := by omega
          have e6 := gI0 e5
          have e4 : p.map eInt ++ [[.v (.int .i64 (p.getD j 0 + (1 + upV z (12 - 1))))]] = (pcK y (j + 1)).1.map eInt := by rw [hp1, List.map_append]; rfl
          repeat' (first | refine zq0 ?_ | refine zq1 ?_ | refine zq2 ?_ | refine zq3 ?_ | refine zq4 ?_ | refine zq5 ?_ | refine thenK_n ?_ | refine thenK_x ?_ | refine thenK_r ?_ | refine blockK_n ?_ | refine blockK_r ?_ | refine blockK_hit ?_ | refine blockK_miss (by decide) ?_ | ((first | refine sym_reg env fun Q hQ => ?_ | refine sym_cz fun Q hQ => ?_); simp only [vkt, Nat.reduceEqDiff, Nat.reduceAdd, Nat.reduceMul, Nat.reduceSub, Nat.reduceLeDiff, reduceCtorEq, ↓reduceIte, ↓reduceDIte, Int.reduceToNat, Int.reduceLE, Int.reduceLT, Int.reduceEq, Int.reduceNeg, tbG9_27, aI, aB, aSh, aLed, cLed, aInts, aShs, bgH, mInt, dIntW, List.map_cons, List.map_nil, List.length_cons, List.length_nil, loT, nil4, lo1, lo2, lo3, ld1, ld2, ld3, le1, p21, p22, p84, p85, p71, s54, p23r, gInt, eInt, eShs, rInt, rSh, rEnt, rInts, rShs, flInt, List.nil_append, List.append_nil, List.cons_append, e7, e8, e6, e9, e4, pl, hp2]; (try simp only [ite_and]); (repeat' (first | with_reducible assumption | refine And.intro ?_ ?_ | intro hp)); all_goals (first | (refine hQ _ ?_; clear hQ; clear Q) | (refine hQ _ (fun h => ?_) (fun h => ?_) <;> clear hQ <;> clear Q <;> (try simp only [vki, reduceCtorEq] at h)) | omega | assumption | (with_reducible rfl) | (refine drawB_of ?_; kernel_rfl) | skip)))
          refine ⟨⟨j + 1, hjl⟩, by show K - (j + 1) < K - j; omega, ?_⟩
          (refine Le.ok (fun j => if j = 5 then some 7 else some j) [] ⟨?_, ?_, ?_, ?_, ?_, ?_, ?_, ?_, ?_, ?_, ?_⟩; all_goals (try simp only [leT, leH, leO, ADf.leL, imgs, idsT, idsH, List.filterMap_cons, List.filterMap_nil, List.flatMap_nil, Nat.lt_irrefl, Nat.not_lt_zero, vkt, Nat.reduceEqDiff, Nat.reduceAdd, Nat.reduceMul, Nat.reduceSub, Nat.reduceLeDiff, reduceCtorEq, ↓reduceIte, ↓reduceDIte, Int.reduceToNat, Int.reduceLE, Int.reduceLT, Int.reduceEq, Int.reduceNeg, tbG9_27, aI, aB, aSh, aLed, cLed, aInts, aShs, bgH, mInt, dIntW, List.map_cons, List.map_nil, List.length_cons, List.length_nil, loT, nil4, lo1, lo2, lo3, ld1, ld2, ld3, le1, p21, p22, p84, p85, p71, s54, p23r, gInt, eInt, eShs, rInt, rSh, rEnt, rInts, rShs, flInt, List.nil_append, List.append_nil, List.cons_append]))
          all_goals first | rfl | (simp; done)
        · have hjk : j = K := by omega
          subst hjk
          have okc := ok.c
          have okl := ok.l
          have pl := (pcK_ok y j).len
          generalize hq1 : (pcK y j).1 = p at *
          generalize hq2 : (pcK y j).2 = z at *
          refine sym_le (S' := lo3 c d e w s p z V k) ?_ ?_
          · (refine Le.ok some [5] ⟨?_, ?_, ?_, ?_, ?_, ?_, ?_, ?_, ?_, ?_, ?_⟩; all_goals (try simp only [leT, leH, leO, ADf.leL, imgs, idsT, idsH, List.filterMap_cons, List.filterMap_nil, List.flatMap_nil, Nat.lt_irrefl, Nat.not_lt_zero, vkt, Nat.reduceEqDiff, Nat.reduceAdd, Nat.reduceMul, Nat.reduceSub, Nat.reduceLeDiff, reduceCtorEq, ↓reduceIte, ↓reduceDIte, Int.reduceToNat, Int.reduceLE, Int.reduceLT, Int.reduceEq, Int.reduceNeg, tbG9_27, aI, aB, aSh, aLed, cLed, aInts, aShs, bgH, mInt, dIntW, List.map_cons, List.map_nil, List.length_cons, List.length_nil, loT, nil4, lo1, lo2, lo3, ld1, ld2, ld3, le1, p21, p22, p84, p85, p71, s54, p23r, gInt, eInt, eShs, rInt, rSh, rEnt, rInts, rShs, flInt, List.nil_append, List.append_nil, List.cons_append]))
            all_goals first | rfl | (simp [hq1, hq2]; done) | (rw [hq1]; exact ⟨_, _, rfl⟩) | exact ⟨_, _, rfl⟩
          have m1 : (k + 1) * 24 ≤ 140737488355328 ∧ (k + 1) * 8 ≤ 140737488355328 ∧ k + 1 ≤ maxLen := by omega
          have e7 : IntKind.wrap .i64 ((V : Int) - (k : Int) - 1) = (V : Int) - ((k + 1 : Nat) : Int) := by rw [wrap64 (by omega) (by omega)]; omega
          have e4 : s.cs.map eInts ++ [[.sl (p.map eInt)]] = (s.cs ++ [p]).map eInts := by rw [List.map_append]; rfl
          have e5 : s.ss.map eInt ++ [[.v (.int .i64 (upV z 200))]] = (s.ss ++ [upV z 200]).map eInt := by rw [List.map_append]; rfl
          repeat' (first | refine zq0 ?_ | refine zq1 ?_ | refine zq2 ?_ | refine zq3 ?_ | refine zq4 ?_ | refine zq5 ?_ | refine thenK_n ?_ | refine thenK_x ?_ | refine thenK_r ?_ | refine blockK_n ?_ | refine blockK_r ?_ | refine blockK_hit ?_ | refine blockK_miss (by decide) ?_ | ((first | refine sym_reg env fun Q hQ => ?_ | refine sym_cz fun Q hQ => ?_); simp only [vkt, Nat.reduceEqDiff, Nat.reduceAdd, Nat.reduceMul, Nat.reduceSub, Nat.reduceLeDiff, reduceCtorEq, ↓reduceIte, ↓reduceDIte, Int.reduceToNat, Int.reduceLE, Int.reduceLT, Int.reduceEq, Int.reduceNeg, tbG9_27, aI, aB, aSh, aLed, cLed, aInts, aShs, bgH, mInt, dIntW, List.map_cons, List.map_nil, List.length_cons, List.length_nil, loT, nil4, lo1, lo2, lo3, ld1, ld2, ld3, le1, p21, p22, p84, p85, p71, s54, p23r, gInt, eInt, eShs, rInt, rSh, rEnt, rInts, rShs, flInt, List.nil_append, List.append_nil, List.cons_append, e7, e4, e5, okc, okl]; (try simp only [ite_and]); (repeat' (first | with_reducible assumption | refine And.intro ?_ ?_ | intro hp)); all_goals (first | (refine hQ _ ?_; clear hQ; clear Q) | (refine hQ _ (fun h => ?_) (fun h => ?_) <;> clear hQ <;> clear Q <;> (try simp only [vki, reduceCtorEq] at h)) | omega | assumption | (with_reducible rfl) | (refine drawB_of ?_; kernel_rfl) | skip)))
          refine ⟨⟨k + 1, hlt⟩, by show V - (k + 1) < V - k; omega, ?_⟩
          (refine Le.ok (fun j => if j = 3 then some 6 else if j = 4 then some 8 else some j) [] ⟨?_, ?_, ?_, ?_, ?_, ?_, ?_, ?_, ?_, ?_, ?_⟩; all_goals (try simp only [leT, leH, leO, ADf.leL, imgs, idsT, idsH, List.filterMap_cons, List.filterMap_nil, List.flatMap_nil, Nat.lt_irrefl, Nat.not_lt_zero, vkt, Nat.reduceEqDiff, Nat.reduceAdd, Nat.reduceMul, Nat.reduceSub, Nat.reduceLeDiff, reduceCtorEq, ↓reduceIte, ↓reduceDIte, Int.reduceToNat, Int.reduceLE, Int.reduceLT, Int.reduceEq, Int.reduceNeg, tbG9_27, aI, aB, aSh, aLed, cLed, aInts, aShs, bgH, mInt, dIntW, List.map_cons, List.map_nil, List.length_cons, List.length_nil, loT, nil4, lo1, lo2, lo3, ld1, ld2, ld3, le1, p21, p22, p84, p85, p71, s54, p23r, gInt, eInt, eShs, rInt, rSh, rEnt, rInts, rShs, flInt, List.nil_append, List.append_nil, List.cons_append]))
          all_goals first | rfl | (simp [hs]; done)
    · have hkV : k = V := by omega
      subst hkV
      have ok := coK_ok b k
      have g2 : lg2 x c d = dyK ((lg1 x c).cs.length - 1) (upS (lg1 x c).x (d - 1)) (1 + upV (lg1 x c).x (d - 1)).toNat := rfl
      have g3 : lg3 x c d e w = enK (lg1 x c).cs.length (lg2 x c d).1 w ⟨0, (lg1 x c).ss, [], upS (lg2 x c d).2 e⟩ (upV (lg2 x c d).2 e).toNat := rfl
      have gL : lgL x c d e w = ⟨(lg1 x c).cs, (lg2 x c d).1, (lg1 x c).ss, (lg3 x c d e w).es⟩ := rfl
      have gS : lgS x c d e w = (lg3 x c d e w).x := rfl
      generalize lg1 x c = co at *
      rw [← g1] at ok ⊢
      clear g1 hb
      have okc := ok.c
      have okl := ok.l
      have hu2 := upV_le (x := co.x) (m := d - 1) (by omega) (by omega)
      obtain ⟨W, hW⟩ : ∃ W : Nat, 1 + upV co.x (d - 1) = (W : Int) := ⟨(1 + upV co.x (d - 1)).toNat, by omega⟩
      have hW1 : 1 ≤ W ∧ W ≤ 4 := by omega
      obtain ⟨m, hm⟩ : ∃ m, m + 1 = co.cs.length := ⟨co.cs.length - 1, by omega⟩
      have hmC : co.cs.length - 1 = m := by omega
      rw [hW, hmC, Int.toNat_natCast] at g2
      generalize hb2 : upS co.x (d - 1) = b2 at *
      repeat' (first | refine zq0 ?_ | refine zq1 ?_ | refine zq2 ?_ | refine zq3 ?_ | refine zq4 ?_ | refine zq5 ?_ | refine thenK_n ?_ | refine thenK_x ?_ | refine thenK_r ?_ | refine blockK_n ?_ | refine blockK_r ?_ | refine blockK_hit ?_ | refine blockK_miss (by decide) ?_ | ((first | refine sym_reg env fun Q hQ => ?_ | refine sym_cz fun Q hQ => ?_); simp only [vkt, Nat.reduceEqDiff, Nat.reduceAdd, Nat.reduceMul, Nat.reduceSub, Nat.reduceLeDiff, reduceCtorEq, ↓reduceIte, ↓reduceDIte, Int.reduceToNat, Int.reduceLE, Int.reduceLT, Int.reduceEq, Int.reduceNeg, tbG9_27, aI, aB, aSh, aLed, cLed, aInts, aShs, bgH, mInt, dIntW, List.map_cons, List.map_nil, List.length_cons, List.length_nil, loT, nil4, lo1, lo2, lo3, ld1, ld2, ld3, le1, p21, p22, p84, p85, p71, s54, p23r, gInt, eInt, eShs, rInt, rSh, rEnt, rInts, rShs, flInt, List.nil_append, List.append_nil, List.cons_append, md, hW, hb2]; (try simp only [ite_and]); (repeat' (first | with_reducible assumption | refine And.intro ?_ ?_ | intro hp)); all_goals (first | (refine hQ _ ?_; clear hQ; clear Q) | (refine hQ _ (fun h => ?_) (fun h => ?_) <;> clear hQ <;> clear Q <;> (try simp only [vki, reduceCtorEq] at h)) | omega | assumption | (with_reducible rfl) | (refine drawB_of ?_; kernel_rfl) | skip)))
      refine sym_loop (fun k : { k : Nat // k ≤ W } => ld1 c d e w co m b2 W k.1) (fun k => W - k.1) ⟨0, Nat.zero_le _⟩ ?_ fun ⟨i, hi⟩ => ?_
      · (refine Le.ok (fun j => if j = 5 then none else some j) [] ⟨?_, ?_, ?_, ?_, ?_, ?_, ?_, ?_, ?_, ?_, ?_⟩; all_goals (try simp only [leT, leH, leO, ADf.leL, imgs, idsT, idsH, List.filterMap_cons, List.filterMap_nil, List.flatMap_nil, Nat.lt_irrefl, Nat.not_lt_zero, vkt, Nat.reduceEqDiff, Nat.reduceAdd, Nat.reduceMul, Nat.reduceSub, Nat.reduceLeDiff, reduceCtorEq, ↓reduceIte, ↓reduceDIte, Int.reduceToNat, Int.reduceLE, Int.reduceLT, Int.reduceEq, Int.reduceNeg, tbG9_27, aI, aB, aSh, aLed, cLed, aInts, aShs, bgH, mInt, dIntW, List.map_cons, List.map_nil, List.length_cons, List.length_nil, loT, nil4, lo1, lo2, lo3, ld1, ld2, ld3, le1, p21, p22, p84, p85, p71, s54, p23r, gInt, eInt, eShs, rInt, rSh, rEnt, rInts, rShs, flInt, List.nil_append, List.append_nil, List.cons_append]))
        all_goals first | rfl | (simp [dyK, hb2, hW]; done)
      · repeat' (first | refine zq0 ?_ | refine zq1 ?_ | refine zq2 ?_ | refine zq3 ?_ | refine zq4 ?_ | refine zq5 ?_ | refine thenK_n ?_ | refine thenK_x ?_ | refine thenK_r ?_ | refine blockK_n ?_ | refine blockK_r ?_ | refine blockK_hit ?_ | refine blockK_miss (by decide) ?_)
        (refine sym_reg env fun Q hQ => ?_; simp only [vkt, Nat.reduceEqDiff, Nat.reduceAdd, Nat.reduceMul, Nat.reduceSub, Nat.reduceLeDiff, reduceCtorEq, ↓reduceIte, ↓reduceDIte, Int.reduceToNat, Int.reduceLE, Int.reduceLT, Int.reduceEq, Int.reduceNeg, tbG9_27, aI, aB, aSh, aLed, cLed, aInts, aShs, bgH, mInt, dIntW, List.map_cons, List.map_nil, List.length_cons, List.length_nil, loT, nil4, lo1, lo2, lo3, ld1, ld2, ld3, le1, p21, p22, p84, p85, p71, s54, p23r, gInt, eInt, eShs, rInt, rSh, rEnt, rInts, rShs, flInt, List.nil_append, List.append_nil, List.cons_append]; (try simp only [ite_and]); (repeat' (first | with_reducible assumption | refine And.intro ?_ ?_ | intro hp)); all_goals (first | (refine hQ _ ?_; clear hQ; clear Q) | omega | assumption | (with_reducible rfl) | (refine drawB_of ?_; kernel_rfl) | skip))
        repeat' (first | refine zq0 ?_ | refine zq1 ?_ | refine zq2 ?_ | refine zq3 ?_ | refine zq4 ?_ | refine zq5 ?_ | refine thenK_n ?_ | refine thenK_x ?_ | refine thenK_r ?_ | refine blockK_n ?_ | refine blockK_r ?_ | refine blockK_hit ?_ | refine blockK_miss (by decide) ?_)
        (refine sym_cd (by simp only [vkt, Nat.reduceEqDiff, Nat.reduceAdd, Nat.reduceMul, Nat.reduceSub, Nat.reduceLeDiff, reduceCtorEq, ↓reduceIte, ↓reduceDIte, Int.reduceToNat, Int.reduceLE, Int.reduceLT, Int.reduceEq, Int.reduceNeg, tbG9_27, aI, aB, aSh, aLed, cLed, aInts, aShs, bgH, mInt, dIntW, List.map_cons, List.map_nil, List.length_cons, List.length_nil, loT, nil4, lo1, lo2, lo3, ld1, ld2, ld3, le1, p21, p22, p84, p85, p71, s54, p23r, gInt, eInt, eShs, rInt, rSh, rEnt, rInts, rShs, flInt, List.nil_append, List.append_nil, List.cons_append]; rfl) (fun h => ?_) (fun h => ?_) <;> (try simp only [vki, reduceCtorEq] at h))
        · have hlt : i < W := by omega
          have okd := dyK_ok m b2 i
          have hs1 := dyK_1 m b2 i
          have hs2 := dyK_2 m b2 i
          generalize (dyK m b2 i).1 = rs at *
          generalize (dyK m b2 i).2 = y at *
          repeat' (first | refine zq0 ?_ | refine zq1 ?_ | refine zq2 ?_ | refine zq3 ?_ | refine zq4 ?_ | refine zq5 ?_ | refine thenK_n ?_ | refine thenK_x ?_ | refine thenK_r ?_ | refine blockK_n ?_ | refine blockK_r ?_ | refine blockK_hit ?_ | refine blockK_miss (by decide) ?_ | ((first | refine sym_reg env fun Q hQ => ?_ | refine sym_cz fun Q hQ => ?_); simp only [vkt, Nat.reduceEqDiff, Nat.reduceAdd, Nat.reduceMul, Nat.reduceSub, Nat.reduceLeDiff, reduceCtorEq, ↓reduceIte, ↓reduceDIte, Int.reduceToNat, Int.reduceLE, Int.reduceLT, Int.reduceEq, Int.reduceNeg, tbG9_27, aI, aB, aSh, aLed, cLed, aInts, aShs, bgH, mInt, dIntW, List.map_cons, List.map_nil, List.length_cons, List.length_nil, loT, nil4, lo1, lo2, lo3, ld1, ld2, ld3, le1, p21, p22, p84, p85, p71, s54, p23r, gInt, eInt, eShs, rInt, rSh, rEnt, rInts, rShs, flInt, List.nil_append, List.append_nil, List.cons_append]; (try simp only [ite_and]); (repeat' (first | with_reducible assumption | refine And.intro ?_ ?_ | intro hp)); all_goals (first | (refine hQ _ ?_; clear hQ; clear Q) | (refine hQ _ (fun h => ?_) (fun h => ?_) <;> clear hQ <;> clear Q <;> (try simp only [vki, reduceCtorEq] at h)) | omega | assumption | (with_reducible rfl) | (refine drawB_of ?_; kernel_rfl) | skip)))
          refine sym_loop (fun j : { j : Nat // j ≤ m } => ld2 c d e w co rs y W i j.1) (fun j => m - j.1) ⟨0, Nat.zero_le _⟩ ?_ fun ⟨j, hj⟩ => ?_
          · (refine Le.ok some [] ⟨?_, ?_, ?_, ?_, ?_, ?_, ?_, ?_, ?_, ?_, ?_⟩; all_goals (try simp only [leT, leH, leO, ADf.leL, imgs, idsT, idsH, List.filterMap_cons, List.filterMap_nil, List.flatMap_nil, Nat.lt_irrefl, Nat.not_lt_zero, vkt, Nat.reduceEqDiff, Nat.reduceAdd, Nat.reduceMul, Nat.reduceSub, Nat.reduceLeDiff, reduceCtorEq, ↓reduceIte, ↓reduceDIte, Int.reduceToNat, Int.reduceLE, Int.reduceLT, Int.reduceEq, Int.reduceNeg, tbG9_27, aI, aB, aSh, aLed, cLed, aInts, aShs, bgH, mInt, dIntW, List.map_cons, List.map_nil, List.length_cons, List.length_nil, loT, nil4, lo1, lo2, lo3, ld1, ld2, ld3, le1, p21, p22, p84, p85, p71, s54, p23r, gInt, eInt, eShs, rInt, rSh, rEnt, rInts, rShs, flInt, List.nil_append, List.append_nil, List.cons_append]))
            all_goals first | rfl | (simp [rtK, eSh]; done)
          · repeat' (first | refine zq0 ?_ | refine zq1 ?_ | refine zq2 ?_ | refine zq3 ?_ | refine zq4 ?_ | refine zq5 ?_ | refine thenK_n ?_ | refine thenK_x ?_ | refine thenK_r ?_ | refine blockK_n ?_ | refine blockK_r ?_ | refine blockK_hit ?_ | refine blockK_miss (by decide) ?_)
            (refine sym_reg env fun Q hQ => ?_; simp only [vkt, Nat.reduceEqDiff, Nat.reduceAdd, Nat.reduceMul, Nat.reduceSub, Nat.reduceLeDiff, reduceCtorEq, ↓reduceIte, ↓reduceDIte, Int.reduceToNat, Int.reduceLE, Int.reduceLT, Int.reduceEq, Int.reduceNeg, tbG9_27, aI, aB, aSh, aLed, cLed, aInts, aShs, bgH, mInt, dIntW, List.map_cons, List.map_nil, List.length_cons, List.length_nil, loT, nil4, lo1, lo2, lo3, ld1, ld2, ld3, le1, p21, p22, p84, p85, p71, s54, p23r, gInt, eInt, eShs, rInt, rSh, rEnt, rInts, rShs, flInt, List.nil_append, List.append_nil, List.cons_append]; (try simp only [ite_and]); (repeat' (first | with_reducible assumption | refine And.intro ?_ ?_ | intro hp)); all_goals (first | (refine hQ _ ?_; clear hQ; clear Q) | omega | assumption | (with_reducible rfl) | (refine drawB_of ?_; kernel_rfl) | skip))
            repeat' (first | refine zq0 ?_ | refine zq1 ?_ | refine zq2 ?_ | refine zq3 ?_ | refine zq4 ?_ | refine zq5 ?_ | refine thenK_n ?_ | refine thenK_x ?_ | refine thenK_r ?_ | refine blockK_n ?_ | refine blockK_r ?_ | refine blockK_hit ?_ | refine blockK_miss (by decide) ?_)
            (refine sym_cd (by simp only [vkt, Nat.reduceEqDiff, Nat.reduceAdd, Nat.reduceMul, Nat.reduceSub, Nat.reduceLeDiff, reduceCtorEq, ↓reduceIte, ↓reduceDIte, Int.reduceToNat, Int.reduceLE, Int.reduceLT, Int.reduceEq, Int.reduceNeg, tbG9_27, aI, aB, aSh, aLed, cLed, aInts, aShs, bgH, mInt, dIntW, List.map_cons, List.map_nil, List.length_cons, List.length_nil, loT, nil4, lo1, lo2, lo3, ld1, ld2, ld3, le1, p21, p22, p84, p85, p71, s54, p23r, gInt, eInt, eShs, rInt, rSh, rEnt, rInts, rShs, flInt, List.nil_append, List.append_nil, List.cons_append]; rfl) (fun h => ?_) (fun h => ?_) <;> (try simp only [vki, reduceCtorEq] at h))
            · have hjl : j < m := by omega
              have pl := (rtK_ok y j).len
              have hp1 := rtK_1 y j
              have hp2 := (rtK_2 y j).symm
              generalize (rtK y j).1 = r at *
              generalize (rtK y j).2 = z at *
              have e7 : IntKind.wrap .i64 ((j : Int) + 1 + 1) = ((j + 1 : Nat) : Int) + 1 := by rw [wrap64 (by omega) (by omega)]; omega
              have m1 : (j + 1 + 1) * 16 ≤ 140737488355328 ∧ j + 1 + 1 ≤ maxLen := by omega
              have e4 : r.map eSh ++ [[.v (.int .i64 (rtV z).num), .v (.int .i64 (rtV z).den)]] = (rtK y (j + 1)).1.map eSh := by rw [hp1, List.map_append]; rfl
              repeat' (first | refine zq0 ?_ | refine zq1 ?_ | refine zq2 ?_ | refine zq3 ?_ | refine zq4 ?_ | refine zq5 ?_ | refine thenK_n ?_ | refine thenK_x ?_ | refine thenK_r ?_ | refine blockK_n ?_ | refine blockK_r ?_ | refine blockK_hit ?_ | refine blockK_miss (by decide) ?_ | ((first | refine sym_reg env fun Q hQ => ?_ | refine sym_cz fun Q hQ => ?_); simp only [vkt, Nat.reduceEqDiff, Nat.reduceAdd, Nat.reduceMul, Nat.reduceSub, Nat.reduceLeDiff, reduceCtorEq, ↓reduceIte, ↓reduceDIte, Int.reduceToNat, Int.reduceLE, Int.reduceLT, Int.reduceEq, Int.reduceNeg, tbG9_27, aI, aB, aSh, aLed, cLed, aInts, aShs, bgH, mInt, dIntW, List.map_cons, List.map_nil, List.length_cons, List.length_nil, loT, nil4, lo1, lo2, lo3, ld1, ld2, ld3, le1, p21, p22, p84, p85, p71, s54, p23r, gInt, eInt, eShs, rInt, rSh, rEnt, rInts, rShs, flInt, List.nil_append, List.append_nil, List.cons_append, e7, e4, pl, hp2]; (try simp only [ite_and]); (repeat' (first | with_reducible assumption | refine And.intro ?_ ?_ | intro hp)); all_goals (first | (refine hQ _ ?_; clear hQ; clear Q) | (refine hQ _ (fun h => ?_) (fun h => ?_) <;> clear hQ <;> clear Q <;> (try simp only [vki, reduceCtorEq] at h)) | omega | assumption | (with_reducible rfl) | (refine drawB_of ?_; kernel_rfl) | skip)))
              refine ⟨⟨j + 1, hjl⟩, by show m - (j + 1) < m - j; omega, ?_⟩
              (refine Le.ok (fun j => if j = 6 then some 8 else some j) [] ⟨?_, ?_, ?_, ?_, ?_, ?_, ?_, ?_, ?_, ?_, ?_⟩; all_goals (try simp only [leT, leH, leO, ADf.leL, imgs, idsT, idsH, List.filterMap_cons, List.filterMap_nil, List.flatMap_nil, Nat.lt_irrefl, Nat.not_lt_zero, vkt, Nat.reduceEqDiff, Nat.reduceAdd, Nat.reduceMul, Nat.reduceSub, Nat.reduceLeDiff, reduceCtorEq, ↓reduceIte, ↓reduceDIte, Int.reduceToNat, Int.reduceLE, Int.reduceLT, Int.reduceEq, Int.reduceNeg, tbG9_27, aI, aB, aSh, aLed, cLed, aInts, aShs, bgH, mInt, dIntW, List.map_cons, List.map_nil, List.length_cons, List.length_nil, loT, nil4, lo1, lo2, lo3, ld1, ld2, ld3, le1, p21, p22, p84, p85, p71, s54, p23r, gInt, eInt, eShs, rInt, rSh, rEnt, rInts, rShs, flInt, List.nil_append, List.append_nil, List.cons_append]))
              all_goals first | rfl | (simp; done)
            · have hjm : j = m := by omega
              subst hjm
              generalize hq1 : (rtK y j).1 = r at *
              generalize hq2 : (rtK y j).2 = z at *
              have okd1 := okd.1
              refine sym_le (S' := ld3 c d e w co rs r z W i) ?_ ?_
              · (refine Le.ok some [6] ⟨?_, ?_, ?_, ?_, ?_, ?_, ?_, ?_, ?_, ?_, ?_⟩; all_goals (try simp only [leT, leH, leO, ADf.leL, imgs, idsT, idsH, List.filterMap_cons, List.filterMap_nil, List.flatMap_nil, Nat.lt_irrefl, Nat.not_lt_zero, vkt, Nat.reduceEqDiff, Nat.reduceAdd, Nat.reduceMul, Nat.reduceSub, Nat.reduceLeDiff, reduceCtorEq, ↓reduceIte, ↓reduceDIte, Int.reduceToNat, Int.reduceLE, Int.reduceLT, Int.reduceEq, Int.reduceNeg, tbG9_27, aI, aB, aSh, aLed, cLed, aInts, aShs, bgH, mInt, dIntW, List.map_cons, List.map_nil, List.length_cons, List.length_nil, loT, nil4, lo1, lo2, lo3, ld1, ld2, ld3, le1, p21, p22, p84, p85, p71, s54, p23r, gInt, eInt, eShs, rInt, rSh, rEnt, rInts, rShs, flInt, List.nil_append, List.append_nil, List.cons_append]))
                all_goals first | rfl | (simp [hq1, hq2]; done) | (rw [hq1]; exact ⟨_, _, rfl⟩) | exact ⟨_, _, rfl⟩
              have m1 : (i + 1) * 24 ≤ 140737488355328 ∧ i + 1 ≤ maxLen := by omega
              have e7 : IntKind.wrap .i64 ((W : Int) - (i : Int) - 1) = (W : Int) - ((i + 1 : Nat) : Int) := by rw [wrap64 (by omega) (by omega)]; omega
              have e4 : rs.map eShs ++ [[.sl (r.map eSh)]] = (rs ++ [r]).map eShs := by rw [List.map_append]; rfl
              repeat' (first | refine zq0 ?_ | refine zq1 ?_ | refine zq2 ?_ | refine zq3 ?_ | refine zq4 ?_ | refine zq5 ?_ | refine thenK_n ?_ | refine thenK_x ?_ | refine thenK_r ?_ | refine blockK_n ?_ | refine blockK_r ?_ | refine blockK_hit ?_ | refine blockK_miss (by decide) ?_ | ((first | refine sym_reg env fun Q hQ => ?_ | refine sym_cz fun Q hQ => ?_); simp only [vkt, Nat.reduceEqDiff, Nat.reduceAdd, Nat.reduceMul, Nat.reduceSub, Nat.reduceLeDiff, reduceCtorEq, ↓reduceIte, ↓reduceDIte, Int.reduceToNat, Int.reduceLE, Int.reduceLT, Int.reduceEq, Int.reduceNeg, tbG9_27, aI, aB, aSh, aLed, cLed, aInts, aShs, bgH, mInt, dIntW, List.map_cons, List.map_nil, List.length_cons, List.length_nil, loT, nil4, lo1, lo2, lo3, ld1, ld2, ld3, le1, p21, p22, p84, p85, p71, s54, p23r, gInt, eInt, eShs, rInt, rSh, rEnt, rInts, rShs, flInt, List.nil_append, List.append_nil, List.cons_append, e7, e4, okd1]; (try simp only [ite_and]); (repeat' (first | with_reducible assumption | refine And.intro ?_ ?_ | intro hp)); all_goals (first | (refine hQ _ ?_; clear hQ; clear Q) | (refine hQ _ (fun h => ?_) (fun h => ?_) <;> clear hQ <;> clear Q <;> (try simp only [vki, reduceCtorEq] at h)) | omega | assumption | (with_reducible rfl) | (refine drawB_of ?_; kernel_rfl) | skip)))
              refine ⟨⟨i + 1, hlt⟩, by show W - (i + 1) < W - i; omega, ?_⟩
              (refine Le.ok (fun j => if j = 5 then some 7 else some j) [] ⟨?_, ?_, ?_, ?_, ?_, ?_, ?_, ?_, ?_, ?_, ?_⟩; all_goals (try simp only [leT, leH, leO, ADf.leL, imgs, idsT, idsH, List.filterMap_cons, List.filterMap_nil, List.flatMap_nil, Nat.lt_irrefl, Nat.not_lt_zero, vkt, Nat.reduceEqDiff, Nat.reduceAdd, Nat.reduceMul, Nat.reduceSub, Nat.reduceLeDiff, reduceCtorEq, ↓reduceIte, ↓reduceDIte, Int.reduceToNat, Int.reduceLE, Int.reduceLT, Int.reduceEq, Int.reduceNeg, tbG9_27, aI, aB, aSh, aLed, cLed, aInts, aShs, bgH, mInt, dIntW, List.map_cons, List.map_nil, List.length_cons, List.length_nil, loT, nil4, lo1, lo2, lo3, ld1, ld2, ld3, le1, p21, p22, p84, p85, p71, s54, p23r, gInt, eInt, eShs, rInt, rSh, rEnt, rInts, rShs, flInt, List.nil_append, List.append_nil, List.cons_append]))
              all_goals first | rfl | (simp [hs1, hs2]; done)
        · have hiW : i = W := by omega
          subst hiW
          have okd := dyK_ok m b2 i
          generalize lg2 x c d = dy at *
          rw [← g2] at okd ⊢
          clear g2 hb2
          obtain ⟨rs, y⟩ := dy
          dsimp only at okd g3 gL ⊢
          obtain ⟨okd1, okd2⟩ := okd
          subst okd1
          subst okc
          have hrs : RsOk rs co.cs.length := ⟨by omega, fun r hr => by have := okd2 r hr; rwa [hm] at this⟩
          have hC : 1 ≤ co.cs.length ∧ co.cs.length ≤ 4 := by omega
          have hu3 := upV_le (x := y) (m := e) (by omega) (by omega)
          obtain ⟨U, hU⟩ : ∃ U : Nat, upV y e = (U : Int) := ⟨(upV y e).toNat, by omega⟩
          rw [hU, Int.toNat_natCast] at g3
          have hU6 : U ≤ 6 := by omega
          have m6 : co.ss.length ≤ 100000 := by omega
          have m7 : e < 9223372036854775807 := by omega
          generalize hy3 : upS y e = y3 at *
          have hI0 : EnI co.cs.length rs.length 0 ⟨0, co.ss, [], y3⟩ := ⟨Int.le_refl _, by show (0 : Int) ≤ _; omega, okl, fun v hv => by have := ok.v v hv; omega, Nat.le_refl _⟩
          have hIk := enK_ok hrs hC (w := w) hI0
          have hE0 : enK co.cs.length rs w ⟨0, co.ss, [], y3⟩ 0 = ⟨0, co.ss, [], y3⟩ := rfl
          have hst := enK_1 co.cs.length rs w ⟨0, co.ss, [], y3⟩
          generalize enK co.cs.length rs w ⟨0, co.ss, [], y3⟩ = EK at *
          repeat' (first | refine zq0 ?_ | refine zq1 ?_ | refine zq2 ?_ | refine zq3 ?_ | refine zq4 ?_ | refine zq5 ?_ | refine thenK_n ?_ | refine thenK_x ?_ | refine thenK_r ?_ | refine blockK_n ?_ | refine blockK_r ?_ | refine blockK_hit ?_ | refine blockK_miss (by decide) ?_ | ((first | refine sym_reg env fun Q hQ => ?_ | refine sym_cz fun Q hQ => ?_); simp only [vkt, Nat.reduceEqDiff, Nat.reduceAdd, Nat.reduceMul, Nat.reduceSub, Nat.reduceLeDiff, reduceCtorEq, ↓reduceIte, ↓reduceDIte, Int.reduceToNat, Int.reduceLE, Int.reduceLT, Int.reduceEq, Int.reduceNeg, tbG9_27, aI, aB, aSh, aLed, cLed, aInts, aShs, bgH, mInt, dIntW, List.map_cons, List.map_nil, List.length_cons, List.length_nil, loT, nil4, lo1, lo2, lo3, ld1, ld2, ld3, le1, p21, p22, p84, p85, p71, s54, p23r, gInt, eInt, eShs, rInt, rSh, rEnt, rInts, rShs, flInt, List.nil_append, List.append_nil, List.cons_append, me, hU, hy3]; (try simp only [ite_and]); (repeat' (first | with_reducible assumption | refine And.intro ?_ ?_ | intro hp)); all_goals (first | (refine hQ _ ?_; clear hQ; clear Q) | (refine hQ _ (fun h => ?_) (fun h => ?_) <;> clear hQ <;> clear Q <;> (try simp only [vki, reduceCtorEq] at h)) | omega | assumption | (with_reducible rfl) | (refine drawB_of ?_; kernel_rfl) | skip)))
          all_goals first | exact ⟨_, _, rfl⟩ | skip
          refine sym_loop (fun k : { k : Nat // k ≤ U } => le1 c d e w co rs (EK k.1) U k.1) (fun k => U - k.1) ⟨0, Nat.zero_le _⟩ ?_ fun ⟨q, hq⟩ => ?_
          · (refine Le.ok (fun j => if j = 7 then none else some j) [] ⟨?_, ?_, ?_, ?_, ?_, ?_, ?_, ?_, ?_, ?_, ?_⟩; all_goals (try simp only [leT, leH, leO, ADf.leL, imgs, idsT, idsH, List.filterMap_cons, List.filterMap_nil, List.flatMap_nil, Nat.lt_irrefl, Nat.not_lt_zero, vkt, Nat.reduceEqDiff, Nat.reduceAdd, Nat.reduceMul, Nat.reduceSub, Nat.reduceLeDiff, reduceCtorEq, ↓reduceIte, ↓reduceDIte, Int.reduceToNat, Int.reduceLE, Int.reduceLT, Int.reduceEq, Int.reduceNeg, tbG9_27, aI, aB, aSh, aLed, cLed, aInts, aShs, bgH, mInt, dIntW, List.map_cons, List.map_nil, List.length_cons, List.length_nil, loT, nil4, lo1, lo2, lo3, ld1, ld2, ld3, le1, p21, p22, p84, p85, p71, s54, p23r, gInt, eInt, eShs, rInt, rSh, rEnt, rInts, rShs, flInt, List.nil_append, List.append_nil, List.cons_append]))
            all_goals first | rfl | (simp [hE0, hU]; done)
          · repeat' (first | refine zq0 ?_ | refine zq1 ?_ | refine zq2 ?_ | refine zq3 ?_ | refine zq4 ?_ | refine zq5 ?_ | refine thenK_n ?_ | refine thenK_x ?_ | refine thenK_r ?_ | refine blockK_n ?_ | refine blockK_r ?_ | refine blockK_hit ?_ | refine blockK_miss (by decide) ?_)
            (refine sym_reg env fun Q hQ => ?_; simp only [vkt, Nat.reduceEqDiff, Nat.reduceAdd, Nat.reduceMul, Nat.reduceSub, Nat.reduceLeDiff, reduceCtorEq, ↓reduceIte, ↓reduceDIte, Int.reduceToNat, Int.reduceLE, Int.reduceLT, Int.reduceEq, Int.reduceNeg, tbG9_27, aI, aB, aSh, aLed, cLed, aInts, aShs, bgH, mInt, dIntW, List.map_cons, List.map_nil, List.length_cons, List.length_nil, loT, nil4, lo1, lo2, lo3, ld1, ld2, ld3, le1, p21, p22, p84, p85, p71, s54, p23r, gInt, eInt, eShs, rInt, rSh, rEnt, rInts, rShs, flInt, List.nil_append, List.append_nil, List.cons_append]; (try simp only [ite_and]); (repeat' (first | with_reducible assumption | refine And.intro ?_ ?_ | intro hp)); all_goals (first | (refine hQ _ ?_; clear hQ; clear Q) | omega | assumption | (with_reducible rfl) | (refine drawB_of ?_; kernel_rfl) | skip))
            repeat' (first | refine zq0 ?_ | refine zq1 ?_ | refine zq2 ?_ | refine zq3 ?_ | refine zq4 ?_ | refine zq5 ?_ | refine thenK_n ?_ | refine thenK_x ?_ | refine thenK_r ?_ | refine blockK_n ?_ | refine blockK_r ?_ | refine blockK_hit ?_ | refine blockK_miss (by decide) ?_)
            (refine sym_cd (by simp only [vkt, Nat.reduceEqDiff, Nat.reduceAdd, Nat.reduceMul, Nat.reduceSub, Nat.reduceLeDiff, reduceCtorEq, ↓reduceIte, ↓reduceDIte, Int.reduceToNat, Int.reduceLE, Int.reduceLT, Int.reduceEq, Int.reduceNeg, tbG9_27, aI, aB, aSh, aLed, cLed, aInts, aShs, bgH, mInt, dIntW, List.map_cons, List.map_nil, List.length_cons, List.length_nil, loT, nil4, lo1, lo2, lo3, ld1, ld2, ld3, le1, p21, p22, p84, p85, p71, s54, p23r, gInt, eInt, eShs, rInt, rSh, rEnt, rInts, rShs, flInt, List.nil_append, List.append_nil, List.cons_append]; rfl) (fun h => ?_) (fun h => ?_) <;> (try simp only [vki, reduceCtorEq] at h))
            · have hlt : q < U := by omega
              have hI := hIk q
              have hJ := enJ_of hrs hC hI
              have hst := hst q
              generalize EK q = t at *
              unfold enStep enK0 enX2 kinds at hst
              unfold enX2 at hJ
              have hDb := enD_bd hI (by omega)
              obtain ⟨D, hD⟩ : ∃ D, enD rs.length t = D := ⟨_, rfl⟩
              obtain ⟨X1, hX1⟩ : ∃ X1, enX1 rs.length t = X1 := ⟨_, rfl⟩
              rw [hD] at hst hJ
              rw [hX1] at hst hJ
              have hD' : t.day + upV t.x (min (t.day + 1) ((rs.length : Int) - 1) - t.day) = D := hD
              have hX1' : upS t.x (min (t.day + 1) ((rs.length : Int) - 1) - t.day) = X1 := hX1
              clear hD hX1 hDb
              obtain ⟨κ, hκ⟩ : ∃ κ, oneV X1 [1, 2, 3, 3, 3, 4] = κ := ⟨_, rfl⟩
              obtain ⟨X2, hX2⟩ : ∃ X2, upS X1 ((6 : Nat) - 1) = X2 := ⟨_, rfl⟩
              rw [hκ, hX2] at hst
              rw [hX2] at hJ
              obtain ⟨cn, hcn⟩ : ∃ cn, upV X2 ((co.cs.length : Int) - 1) = cn := ⟨_, rfl⟩
              obtain ⟨X3, hX3⟩ : ∃ X3, upS X2 ((co.cs.length : Int) - 1) = X3 := ⟨_, rfl⟩
              rw [hcn] at hst hJ
              rw [hX3] at hst
              have t1 := hI.len
              have t2 := hI.es
              have t3 := hI.d0
              have t4 := hI.d1
              have j1 := hJ.d0
              have j2 := hJ.d1
              have j3 := hJ.c0
              have j4 := hJ.c1
              have j5 := hJ.h
              have wD : IntKind.wrap .i64 (t.day + 1) = t.day + 1 := wrap64 (by omega) (by omega)
              have wR : IntKind.wrap .i64 ((rs.length : Int) - 1) = (rs.length : Int) - 1 := wrap64 (by omega) (by omega)
              have wC : IntKind.wrap .i64 ((co.cs.length : Int) - 1) = (co.cs.length : Int) - 1 := wrap64 (by omega) (by omega)
              have e7 : IntKind.wrap .i64 ((U : Int) - (q : Int) - 1) = (U : Int) - ((q + 1 : Nat) : Int) := by rw [wrap64 (by omega) (by omega)]; omega
              have m1 : (t.es.length + 1) * 48 ≤ 140737488355328 ∧ t.es.length + 1 ≤ maxLen := by omega
              have lc : cn.toNat < t.till.length := by omega
              have e6 := gI0 lc
              have p1 : -100000 ≤ t.day ∧ t.day ≤ 100000 ∧ -100000 ≤ min (t.day + 1) ((rs.length : Int) - 1) ∧ min (t.day + 1) ((rs.length : Int) - 1) ≤ 100000 := by omega
              have p2 : (co.cs.length : Int) - 1 < 9223372036854775807 := by omega
              generalize hh : t.till.getD cn.toNat 0 = hv at *
              by_cases k1 : κ = 1
              · subst k1
                have hst : EK (q + 1) = ⟨D, t.till.set cn.toNat (hv + upV X3 90), t.es ++ [⟨D, 1, cn, 0, upV X3 90, 0⟩], upS X3 90⟩ := by rw [hst]; unfold enS0 enS1; rw [if_pos rfl, hh]
                have u1 := upV_le (x := X3) (m := 90) (by decide) (by decide)
                have w1 : IntKind.wrap .i64 (hv + upV X3 90) = hv + upV X3 90 := wrap64 (by omega) (by omega)
                have e4 : t.es.map eEnt ++ [[.v (.int .i64 D), .v (.int .i64 1), .v (.int .i64 cn), .v (.int .i64 0), .v (.int .i64 (upV X3 90)), .v (.int .i64 0)]] = (t.es ++ [(⟨D, 1, cn, 0, upV X3 90, 0⟩ : Ent)]).map eEnt := by rw [List.map_append]; rfl
                repeat' (first | refine zq0 ?_ | refine zq1 ?_ | refine zq2 ?_ | refine zq3 ?_ | refine zq4 ?_ | refine zq5 ?_ | refine thenK_n ?_ | refine thenK_x ?_ | refine thenK_r ?_ | refine blockK_n ?_ | refine blockK_r ?_ | refine blockK_hit ?_ | refine blockK_miss (by decide) ?_ | ((first | refine sym_reg env fun Q hQ => ?_ | refine sym_cz fun Q hQ => ?_); simp only [vkt, Nat.reduceEqDiff, Nat.reduceAdd, Nat.reduceMul, Nat.reduceSub, Nat.reduceLeDiff, reduceCtorEq, ↓reduceIte, ↓reduceDIte, Int.reduceToNat, Int.reduceLE, Int.reduceLT, Int.reduceEq, Int.reduceNeg, tbG9_27, aI, aB, aSh, aLed, cLed, aInts, aShs, bgH, mInt, dIntW, List.map_cons, List.map_nil, List.length_cons, List.length_nil, loT, nil4, lo1, lo2, lo3, ld1, ld2, ld3, le1, p21, p22, p84, p85, p71, s54, p23r, gInt, eInt, eShs, rInt, rSh, rEnt, rInts, rShs, flInt, List.nil_append, List.append_nil, List.cons_append, wD, wR, wC, hD', hX1', hκ, hX2, hcn, hX3, e6, w1, e4, e7, setI]; (try simp only [ite_and]); (repeat' (first | with_reducible assumption | refine And.intro ?_ ?_)); all_goals (first | (refine hQ _ ?_; clear hQ; clear Q) | (refine hQ _ (fun h => ?_) (fun h => ?_) <;> clear hQ <;> clear Q <;> (try simp only [vki, reduceCtorEq] at h)) | omega | (with_reducible assumption) | (with_reducible rfl) | (refine drawB_of ?_; kernel_rfl) | skip)))
                all_goals first | exact ⟨_, _, rfl⟩ | skip
                refine ⟨⟨q + 1, hlt⟩, by show U - (q + 1) < U - q; omega, ?_⟩
                (refine Le.ok (fun j => if j = 7 then some 11 else some j) [] ⟨?_, ?_, ?_, ?_, ?_, ?_, ?_, ?_, ?_, ?_, ?_⟩; all_goals (try simp only [leT, leH, leO, ADf.leL, imgs, idsT, idsH, List.filterMap_cons, List.filterMap_nil, List.flatMap_nil, Nat.lt_irrefl, Nat.not_lt_zero, vkt, Nat.reduceEqDiff, Nat.reduceAdd, Nat.reduceMul, Nat.reduceSub, Nat.reduceLeDiff, reduceCtorEq, ↓reduceIte, ↓reduceDIte, Int.reduceToNat, Int.reduceLE, Int.reduceLT, Int.reduceEq, Int.reduceNeg, tbG9_27, aI, aB, aSh, aLed, cLed, aInts, aShs, bgH, mInt, dIntW, List.map_cons, List.map_nil, List.length_cons, List.length_nil, loT, nil4, lo1, lo2, lo3, ld1, ld2, ld3, le1, p21, p22, p84, p85, p71, s54, p23r, gInt, eInt, eShs, rInt, rSh, rEnt, rInts, rShs, flInt, List.nil_append, List.append_nil, List.cons_append]))
                all_goals first | rfl | (simp [hst]; done)
              by_cases k2 : κ = 2
              · subst k2
                have u1 := upV_bd (x := X3) (m := min hv 90) (by omega)
                have hst : EK (q + 1) = ⟨D, t.till.set cn.toNat (hv - upV X3 (min hv 90)), t.es ++ [(⟨D, 2, cn, 0, upV X3 (min hv 90), 0⟩ : Ent)], upS X3 (min hv 90)⟩ := by rw [hst]; unfold enS0 enS2; rw [if_neg (by decide), if_pos rfl, hh]
                obtain ⟨am, hA⟩ : ∃ am, upV X3 (min hv 90) = am := ⟨_, rfl⟩
                obtain ⟨X4, hX4⟩ : ∃ X4, upS X3 (min hv 90) = X4 := ⟨_, rfl⟩
                rw [hA, hX4] at hst
                rw [hA] at u1
                have p3 : min hv 90 < 9223372036854775807 := by omega
                have w1 : IntKind.wrap .i64 (hv - am) = hv - am := wrap64 (by omega) (by omega)
                have e4 : t.es.map eEnt ++ [[.v (.int .i64 D), .v (.int .i64 2), .v (.int .i64 cn), .v (.int .i64 0), .v (.int .i64 am), .v (.int .i64 0)]] = (t.es ++ [(⟨D, 2, cn, 0, am, 0⟩ : Ent)]).map eEnt := by rw [List.map_append]; rfl
                repeat' (first | refine zq0 ?_ | refine zq1 ?_ | refine zq2 ?_ | refine zq3 ?_ | refine zq4 ?_ | refine zq5 ?_ | refine thenK_n ?_ | refine thenK_x ?_ | refine thenK_r ?_ | refine blockK_n ?_ | refine blockK_r ?_ | refine blockK_hit ?_ | refine blockK_miss (by decide) ?_ | ((first | refine sym_reg env fun Q hQ => ?_ | refine sym_cz fun Q hQ => ?_); simp only [vkt, Nat.reduceEqDiff, Nat.reduceAdd, Nat.reduceMul, Nat.reduceSub, Nat.reduceLeDiff, reduceCtorEq, ↓reduceIte, ↓reduceDIte, Int.reduceToNat, Int.reduceLE, Int.reduceLT, Int.reduceEq, Int.reduceNeg, tbG9_27, aI, aB, aSh, aLed, cLed, aInts, aShs, bgH, mInt, dIntW, List.map_cons, List.map_nil, List.length_cons, List.length_nil, loT, nil4, lo1, lo2, lo3, ld1, ld2, ld3, le1, p21, p22, p84, p85, p71, s54, p23r, gInt, eInt, eShs, rInt, rSh, rEnt, rInts, rShs, flInt, List.nil_append, List.append_nil, List.cons_append, wD, wR, wC, hD', hX1', hκ, hX2, hcn, hX3, e6, hA, hX4, w1, e4, e7, setI]; (try simp only [ite_and]); (repeat' (first | with_reducible assumption | refine And.intro ?_ ?_)); all_goals (first | (refine hQ _ ?_; clear hQ; clear Q) | (refine hQ _ (fun h => ?_) (fun h => ?_) <;> clear hQ <;> clear Q <;> (try simp only [vki, reduceCtorEq] at h)) | omega | (with_reducible assumption) | (with_reducible rfl) | (refine drawB_of ?_; kernel_rfl) | skip)))
                all_goals first | exact ⟨_, _, rfl⟩ | skip
                refine ⟨⟨q + 1, hlt⟩, by show U - (q + 1) < U - q; omega, ?_⟩
                (refine Le.ok (fun j => if j = 7 then some 11 else some j) [] ⟨?_, ?_, ?_, ?_, ?_, ?_, ?_, ?_, ?_, ?_, ?_⟩; all_goals (try simp only [leT, leH, leO, ADf.leL, imgs, idsT, idsH, List.filterMap_cons, List.filterMap_nil, List.flatMap_nil, Nat.lt_irrefl, Nat.not_lt_zero, vkt, Nat.reduceEqDiff, Nat.reduceAdd, Nat.reduceMul, Nat.reduceSub, Nat.reduceLeDiff, reduceCtorEq, ↓reduceIte, ↓reduceDIte, Int.reduceToNat, Int.reduceLE, Int.reduceLT, Int.reduceEq, Int.reduceNeg, tbG9_27, aI, aB, aSh, aLed, cLed, aInts, aShs, bgH, mInt, dIntW, List.map_cons, List.map_nil, List.length_cons, List.length_nil, loT, nil4, lo1, lo2, lo3, ld1, ld2, ld3, le1, p21, p22, p84, p85, p71, s54, p23r, gInt, eInt, eShs, rInt, rSh, rEnt, rInts, rShs, flInt, List.nil_append, List.append_nil, List.cons_append]))
                all_goals first | rfl | (simp [hst]; done)
              by_cases k4 : κ = 4
              · subst k4
                have u1 := enA4_bd hv X3
                have u2 := upV_bd (x := X3) (m := 3 - -3) (by decide)
                have hst : EK (q + 1) = ⟨D, t.till.set cn.toNat (enA4 hv X3), t.es ++ [(⟨D, 4, cn, 0, enA4 hv X3, 0⟩ : Ent)], upS (upS X3 (3 - -3)) ((2 : Nat) - 1)⟩ := by rw [hst]; unfold enS0 enS4; rw [if_neg (by decide), if_neg (by decide), if_pos rfl, hh]
                unfold enA4 enF at hst u1
                obtain ⟨f, hf⟩ : ∃ f, -3 + upV X3 (3 - -3) = f := ⟨_, rfl⟩
                obtain ⟨X4, hX4⟩ : ∃ X4, upS X3 (3 - -3) = X4 := ⟨_, rfl⟩
                have hf3 : -3 ≤ f ∧ f ≤ 3 := by omega
                rw [hf, hX4] at hst u1
                have ho := oneV_mem (x := X4) (l := [0, f]) (by simp) (by simp)
                obtain ⟨o, hO⟩ : ∃ o, oneV X4 [0, f] = o := ⟨_, rfl⟩
                obtain ⟨X5, hX5⟩ : ∃ X5, upS X4 ((2 : Nat) - 1) = X5 := ⟨_, rfl⟩
                rw [hO, hX5] at hst
                rw [hO] at u1 ho
                have ho : -3 ≤ o ∧ o ≤ 3 := by simp at ho; omega
                have w1 : IntKind.wrap .i64 (hv + o) = hv + o := wrap64 (by omega) (by omega)
                obtain ⟨am, hA⟩ : ∃ am, max 0 (min 999 (hv + o)) = am := ⟨_, rfl⟩
                rw [hA] at hst
                have e4 : t.es.map eEnt ++ [[.v (.int .i64 D), .v (.int .i64 4), .v (.int .i64 cn), .v (.int .i64 0), .v (.int .i64 am), .v (.int .i64 0)]] = (t.es ++ [(⟨D, 4, cn, 0, am, 0⟩ : Ent)]).map eEnt := by rw [List.map_append]; rfl
                repeat' (first | refine zq0 ?_ | refine zq1 ?_ | refine zq2 ?_ | refine zq3 ?_ | refine zq4 ?_ | refine zq5 ?_ | refine thenK_n ?_ | refine thenK_x ?_ | refine thenK_r ?_ | refine blockK_n ?_ | refine blockK_r ?_ | refine blockK_hit ?_ | refine blockK_miss (by decide) ?_ | ((first | refine sym_reg env fun Q hQ => ?_ | refine sym_cz fun Q hQ => ?_); simp only [vkt, Nat.reduceEqDiff, Nat.reduceAdd, Nat.reduceMul, Nat.reduceSub, Nat.reduceLeDiff, reduceCtorEq, ↓reduceIte, ↓reduceDIte, Int.reduceToNat, Int.reduceLE, Int.reduceLT, Int.reduceEq, Int.reduceNeg, tbG9_27, aI, aB, aSh, aLed, cLed, aInts, aShs, bgH, mInt, dIntW, List.map_cons, List.map_nil, List.length_cons, List.length_nil, loT, nil4, lo1, lo2, lo3, ld1, ld2, ld3, le1, p21, p22, p84, p85, p71, s54, p23r, gInt, eInt, eShs, rInt, rSh, rEnt, rInts, rShs, flInt, List.nil_append, List.append_nil, List.cons_append, wD, wR, wC, hD', hX1', hκ, hX2, hcn, hX3, e6, hf, hX4, hO, hX5, w1, hA, e4, e7, setI]; (try simp only [ite_and]); (repeat' (first | with_reducible assumption | refine And.intro ?_ ?_)); all_goals (first | (refine hQ _ ?_; clear hQ; clear Q) | (refine hQ _ (fun h => ?_) (fun h => ?_) <;> clear hQ <;> clear Q <;> (try simp only [vki, reduceCtorEq] at h)) | omega | (with_reducible assumption) | (with_reducible rfl) | (refine drawB_of ?_; kernel_rfl) | skip)))
                all_goals first | exact ⟨_, _, rfl⟩ | skip
                all_goals first | exact ⟨_, _, rfl⟩ | skip
                refine ⟨⟨q + 1, hlt⟩, by show U - (q + 1) < U - q; omega, ?_⟩
                (refine Le.ok (fun j => if j = 7 then some 12 else some j) [] ⟨?_, ?_, ?_, ?_, ?_, ?_, ?_, ?_, ?_, ?_, ?_⟩; all_goals (try simp only [leT, leH, leO, ADf.leL, imgs, idsT, idsH, List.filterMap_cons, List.filterMap_nil, List.flatMap_nil, Nat.lt_irrefl, Nat.not_lt_zero, vkt, Nat.reduceEqDiff, Nat.reduceAdd, Nat.reduceMul, Nat.reduceSub, Nat.reduceLeDiff, reduceCtorEq, ↓reduceIte, ↓reduceDIte, Int.reduceToNat, Int.reduceLE, Int.reduceLT, Int.reduceEq, Int.reduceNeg, tbG9_27, aI, aB, aSh, aLed, cLed, aInts, aShs, bgH, mInt, dIntW, List.map_cons, List.map_nil, List.length_cons, List.length_nil, loT, nil4, lo1, lo2, lo3, ld1, ld2, ld3, le1, p21, p22, p84, p85, p71, s54, p23r, gInt, eInt, eShs, rInt, rSh, rEnt, rInts, rShs, flInt, List.nil_append, List.append_nil, List.cons_append]))
                all_goals first | rfl | (simp [hst]; done)
              have k3 : κ = 3 := by
                have := oneV_mem (x := X1) (l := [1, 2, 3, 3, 3, 4]) (by simp) (by simp)
                rw [hκ] at this
                simp at this
                omega
              subst k3
              unfold enS0 at hst
              rw [if_neg k1, if_neg k2, if_neg k4] at hst
              unfold enS3 at hst
              by_cases cC : co.cs.length = 1
              · rw [if_pos cC] at hst
                have cC' : decide ((co.cs.length : Int) = 1) = true := by simp [cC]
                repeat' (first | refine zq0 ?_ | refine zq1 ?_ | refine zq2 ?_ | refine zq3 ?_ | refine zq4 ?_ | refine zq5 ?_ | refine thenK_n ?_ | refine thenK_x ?_ | refine thenK_r ?_ | refine blockK_n ?_ | refine blockK_r ?_ | refine blockK_hit ?_ | refine blockK_miss (by decide) ?_ | ((first | refine sym_reg env fun Q hQ => ?_ | refine sym_cz fun Q hQ => ?_); simp only [vkt, Nat.reduceEqDiff, Nat.reduceAdd, Nat.reduceMul, Nat.reduceSub, Nat.reduceLeDiff, reduceCtorEq, ↓reduceIte, ↓reduceDIte, Int.reduceToNat, Int.reduceLE, Int.reduceLT, Int.reduceEq, Int.reduceNeg, tbG9_27, aI, aB, aSh, aLed, cLed, aInts, aShs, bgH, mInt, dIntW, List.map_cons, List.map_nil, List.length_cons, List.length_nil, loT, nil4, lo1, lo2, lo3, ld1, ld2, ld3, le1, p21, p22, p84, p85, p71, s54, p23r, gInt, eInt, eShs, rInt, rSh, rEnt, rInts, rShs, flInt, List.nil_append, List.append_nil, List.cons_append, wD, wR, wC, hD', hX1', hκ, hX2, hcn, hX3, cC', e7]; (try simp only [ite_and]); (repeat' (first | with_reducible assumption | refine And.intro ?_ ?_)); all_goals (first | (refine hQ _ ?_; clear hQ; clear Q) | (refine hQ _ (fun h => ?_) (fun h => ?_) <;> clear hQ <;> clear Q <;> (try simp only [vki, reduceCtorEq] at h)) | omega | (with_reducible assumption) | (with_reducible rfl) | (refine drawB_of ?_; kernel_rfl) | skip)))
                all_goals first | exact ⟨_, _, rfl⟩ | skip
                refine ⟨⟨q + 1, hlt⟩, by show U - (q + 1) < U - q; omega, ?_⟩
                (refine Le.ok some [] ⟨?_, ?_, ?_, ?_, ?_, ?_, ?_, ?_, ?_, ?_, ?_⟩; all_goals (try simp only [leT, leH, leO, ADf.leL, imgs, idsT, idsH, List.filterMap_cons, List.filterMap_nil, List.flatMap_nil, Nat.lt_irrefl, Nat.not_lt_zero, vkt, Nat.reduceEqDiff, Nat.reduceAdd, Nat.reduceMul, Nat.reduceSub, Nat.reduceLeDiff, reduceCtorEq, ↓reduceIte, ↓reduceDIte, Int.reduceToNat, Int.reduceLE, Int.reduceLT, Int.reduceEq, Int.reduceNeg, tbG9_27, aI, aB, aSh, aLed, cLed, aInts, aShs, bgH, mInt, dIntW, List.map_cons, List.map_nil, List.length_cons, List.length_nil, loT, nil4, lo1, lo2, lo3, ld1, ld2, ld3, le1, p21, p22, p84, p85, p71, s54, p23r, gInt, eInt, eShs, rInt, rSh, rEnt, rInts, rShs, flInt, List.nil_append, List.append_nil, List.cons_append]))
                all_goals first | rfl | (simp [hst]; done)
              · rw [if_neg cC] at hst
                have cC' : ¬ (co.cs.length : Int) = 1 := by omega
                have u1 := upV_le (x := X3) (m := (co.cs.length : Int) - 1 - 1) (by omega) (by omega)
                have wT : IntKind.wrap .i64 (cn + (1 + upV X3 ((co.cs.length : Int) - 1 - 1))) = cn + (1 + upV X3 ((co.cs.length : Int) - 1 - 1)) := wrap64 (by omega) (by omega)
                have hT2 : foldV (cn + (1 + upV X3 ((co.cs.length : Int) - 1 - 1))) (co.cs.length : Int) = enTo co.cs.length cn X3 := rfl
                have hTb : 0 ≤ enTo co.cs.length cn X3 ∧ enTo co.cs.length cn X3 < (co.cs.length : Int) := foldV_bd (by omega)
                obtain ⟨to, hT⟩ : ∃ to, foldV (cn + (1 + upV X3 ((co.cs.length : Int) - 1 - 1))) (co.cs.length : Int) = to := ⟨_, rfl⟩
                rw [← hT2, hT] at hst hTb
                clear hT2
                obtain ⟨X4, hX4⟩ : ∃ X4, upS X3 ((co.cs.length : Int) - 1 - 1) = X4 := ⟨_, rfl⟩
                rw [hX4, hh] at hst
                have u2 := upV_bd (x := X4) (m := min hv 40) (by omega)
                obtain ⟨am, hA⟩ : ∃ am, upV X4 (min hv 40) = am := ⟨_, rfl⟩
                obtain ⟨X5, hX5⟩ : ∃ X5, upS X4 (min hv 40) = X5 := ⟨_, rfl⟩
                rw [hA, hX5] at hst
                rw [hA] at u2
                have am0 : 0 ≤ am ∧ am ≤ 40 ∧ am ≤ hv := by omega
                have s1 := hrs.sh j1 j2 j3 j4
                have s2 := hrs.sh j1 j2 hTb.1 (show to ≤ (co.cs.length : Int) - 1 by omega)
                have hGb := enG0_bd s1 s2 am0.1 am0.2.1
                have lD : D.toNat < rs.length := by omega
                have g1 := gRow lD
                have lR := (okd2 _ (gMem (l := rs) (k := D.toNat) (d := []) lD)).len
                have q1 := s1.n
                have q2 := s1.d
                have q3 := s2.n
                have q4 := s2.d
                obtain ⟨G, hG0⟩ : ∃ G, enG0 rs D cn to am = G := ⟨_, rfl⟩
                unfold enS3a at hst
                rw [hG0] at hst hGb
                unfold enG0 at hG0
                generalize rs.getD D.toNat [] = rw at *
                obtain ⟨f, hf⟩ : ∃ f, rw.getD cn.toNat default = f := ⟨_, rfl⟩
                obtain ⟨g, hg⟩ : ∃ g, rw.getD to.toNat default = g := ⟨_, rfl⟩
                rw [hf] at q1 q2 hG0
                rw [hg] at q3 q4 hG0
                have lf : cn.toNat < rw.length := by omega
                have lg : to.toNat < rw.length := by omega
                have G1 : (rw.map eSh).getD cn.toNat [.v (.int .i64 0), .v (.int .i64 0)] = [.v (.int .i64 f.num), .v (.int .i64 f.den)] := by rw [gSh, hf]; rfl
                have G2 : (rw.map eSh).getD to.toNat [.v (.int .i64 0), .v (.int .i64 0)] = [.v (.int .i64 g.num), .v (.int .i64 g.den)] := by rw [gSh, hg]; rfl
                have m1' : 0 ≤ am * f.num ∧ am * f.num ≤ 800 := ⟨Int.mul_nonneg am0.1 (by omega), Int.le_trans (Int.mul_le_mul am0.2.1 q1.2 (by omega) (by omega)) (by decide)⟩
                have m2' : 0 ≤ am * f.num * g.den ∧ am * f.num * g.den ≤ 9600 := ⟨Int.mul_nonneg m1'.1 (by omega), Int.le_trans (Int.mul_le_mul m1'.2 q4.2 (by omega) (by omega)) (by decide)⟩
                have m3' : 0 < f.den * g.num ∧ f.den * g.num ≤ 240 := ⟨Int.mul_pos (by omega) (by omega), Int.le_trans (Int.mul_le_mul q2.2 q3.2 (by omega) (by omega)) (by decide)⟩
                have wa : IntKind.wrap .i64 (am * f.num) = am * f.num := wrap64 (by omega) (by omega)
                have wb : IntKind.wrap .i64 (am * f.num * g.den) = am * f.num * g.den := wrap64 (by omega) (by omega)
                have wc : IntKind.wrap .i64 (f.den * g.num) = f.den * g.num := wrap64 (by omega) (by omega)
                have nz : ¬ f.den * g.num = 0 := by omega
                have hG : (am * f.num * g.den).tdiv (f.den * g.num) = G := hG0
                have wd : IntKind.wrap .i64 G = G := wrap64 (by omega) (by omega)
                have ltl : to.toNat < t.till.length := by omega
                have g2 := gI0 ltl
                have hht0 := hI.b _ (gMem (l := t.till) (k := to.toNat) (d := 0) ltl)
                obtain ⟨ht, hht⟩ : ∃ ht, t.till.getD to.toNat 0 = ht := ⟨_, rfl⟩
                rw [hht] at g2 hht0
                have w0 : IntKind.wrap .i64 (hv - am) = hv - am := wrap64 (by omega) (by omega)
                have p3 : min hv 40 < 9223372036854775807 := by omega
                have p4 : (co.cs.length : Int) ≤ 1000000 := by omega
                have et : to.toNat < (t.till.set cn.toNat (hv - am)).length := by rw [List.length_set]; exact ltl
                have g3 := gI0 et
                obtain ⟨X6, hX6⟩ : ∃ X6, upS X5 (10 - 1) = X6 := ⟨_, rfl⟩
                rw [hX6] at hst
                by_cases c5 : upV X5 (10 - 1) < w
                · rw [if_pos c5] at hst
                  have u3 := upV_le (x := X6) (m := 3 - 1) (by decide) (by decide)
                  obtain ⟨v, hv3⟩ : ∃ v, 1 + upV X6 (3 - 1) = v := ⟨_, rfl⟩
                  obtain ⟨X7, hX7⟩ : ∃ X7, upS X6 (3 - 1) = X7 := ⟨_, rfl⟩
                  rw [hv3, hX7] at hst
                  have wg : IntKind.wrap .i64 (G + v) = G + v := wrap64 (by omega) (by omega)
                  by_cases c6 : 999 < G + v
                  · have hst : EK (q + 1) = ⟨D, t.till, t.es, X7⟩ := by rw [hst]; unfold enS3b; rw [if_pos c6]
                    repeat' (first | refine zq0 ?_ | refine zq1 ?_ | refine zq2 ?_ | refine zq3 ?_ | refine zq4 ?_ | refine zq5 ?_ | refine thenK_n ?_ | refine thenK_x ?_ | refine thenK_r ?_ | refine blockK_n ?_ | refine blockK_r ?_ | refine blockK_hit ?_ | refine blockK_miss (by decide) ?_ | ((first | refine sym_reg env fun Q hQ => ?_ | refine sym_cz fun Q hQ => ?_); simp only [vkt, Nat.reduceEqDiff, Nat.reduceAdd, Nat.reduceMul, Nat.reduceSub, Nat.reduceLeDiff, reduceCtorEq, ↓reduceIte, ↓reduceDIte, Int.reduceToNat, Int.reduceLE, Int.reduceLT, Int.reduceEq, Int.reduceNeg, tbG9_27, aI, aB, aSh, aLed, cLed, aInts, aShs, bgH, mInt, dIntW, List.map_cons, List.map_nil, List.length_cons, List.length_nil, loT, nil4, lo1, lo2, lo3, ld1, ld2, ld3, le1, p21, p22, p84, p85, p71, s54, p23r, gInt, eInt, eShs, rInt, rSh, rEnt, rInts, rShs, flInt, List.nil_append, List.append_nil, List.cons_append, wD, wR, wC, hD', hX1', hκ, hX2, hcn, hX3, e6, g1, g2, G1, G2, wT, hT, hX4, hA, hX5, wa, wb, wc, wd, nz, hG, cC', c5, hX6, hv3, hX7, wg, c6, k1, k2, k4, e7, setI]; (try simp only [ite_and]); (repeat' (first | with_reducible assumption | refine And.intro ?_ ?_)); all_goals (first | (refine hQ _ ?_; clear hQ; clear Q) | (refine hQ _ (fun h => ?_) (fun h => ?_) <;> clear hQ <;> clear Q <;> (try simp only [vki, reduceCtorEq] at h)) | omega | (with_reducible assumption) | (with_reducible rfl) | (refine drawB_of ?_; kernel_rfl) | skip)))
                    all_goals first | exact ⟨_, _, rfl⟩ | skip
                    refine ⟨⟨q + 1, hlt⟩, by show U - (q + 1) < U - q; omega, ?_⟩
                    (refine Le.ok some [] ⟨?_, ?_, ?_, ?_, ?_, ?_, ?_, ?_, ?_, ?_, ?_⟩; all_goals (try simp only [leT, leH, leO, ADf.leL, imgs, idsT, idsH, List.filterMap_cons, List.filterMap_nil, List.flatMap_nil, Nat.lt_irrefl, Nat.not_lt_zero, vkt, Nat.reduceEqDiff, Nat.reduceAdd, Nat.reduceMul, Nat.reduceSub, Nat.reduceLeDiff, reduceCtorEq, ↓reduceIte, ↓reduceDIte, Int.reduceToNat, Int.reduceLE, Int.reduceLT, Int.reduceEq, Int.reduceNeg, tbG9_27, aI, aB, aSh, aLed, cLed, aInts, aShs, bgH, mInt, dIntW, List.map_cons, List.map_nil, List.length_cons, List.length_nil, loT, nil4, lo1, lo2, lo3, ld1, ld2, ld3, le1, p21, p22, p84, p85, p71, s54, p23r, gInt, eInt, eShs, rInt, rSh, rEnt, rInts, rShs, flInt, List.nil_append, List.append_nil, List.cons_append]))
                    all_goals first | rfl | (simp [hst]; done)
                  · have hst : EK (q + 1) = ⟨D, (t.till.set cn.toNat (hv - am)).set to.toNat (ht + (G + v)), t.es ++ [(⟨D, 3, cn, to, am, G + v⟩ : Ent)], X7⟩ := by rw [hst]; unfold enS3b; rw [if_neg c6, hh, hht]
                    have w1 : IntKind.wrap .i64 (ht + (G + v)) = ht + (G + v) := wrap64 (by omega) (by omega)
                    have e4 : t.es.map eEnt ++ [[.v (.int .i64 D), .v (.int .i64 3), .v (.int .i64 cn), .v (.int .i64 to), .v (.int .i64 am), .v (.int .i64 (G + v))]] = (t.es ++ [(⟨D, 3, cn, to, am, G + v⟩ : Ent)]).map eEnt := by rw [List.map_append]; rfl
                    repeat' (first | refine zq0 ?_ | refine zq1 ?_ | refine zq2 ?_ | refine zq3 ?_ | refine zq4 ?_ | refine zq5 ?_ | refine thenK_n ?_ | refine thenK_x ?_ | refine thenK_r ?_ | refine blockK_n ?_ | refine blockK_r ?_ | refine blockK_hit ?_ | refine blockK_miss (by decide) ?_ | ((first | refine sym_reg env fun Q hQ => ?_ | refine sym_cz fun Q hQ => ?_); simp only [vkt, Nat.reduceEqDiff, Nat.reduceAdd, Nat.reduceMul, Nat.reduceSub, Nat.reduceLeDiff, reduceCtorEq, ↓reduceIte, ↓reduceDIte, Int.reduceToNat, Int.reduceLE, Int.reduceLT, Int.reduceEq, Int.reduceNeg, tbG9_27, aI, aB, aSh, aLed, cLed, aInts, aShs, bgH, mInt, dIntW, List.map_cons, List.map_nil, List.length_cons, List.length_nil, loT, nil4, lo1, lo2, lo3, ld1, ld2, ld3, le1, p21, p22, p84, p85, p71, s54, p23r, gInt, eInt, eShs, rInt, rSh, rEnt, rInts, rShs, flInt, List.nil_append, List.append_nil, List.cons_append, wD, wR, wC, hD', hX1', hκ, hX2, hcn, hX3, e6, g1, g2, G1, G2, wT, hT, hX4, hA, hX5, wa, wb, wc, wd, nz, hG, cC', c5, hX6, hv3, hX7, wg, c6, k1, k2, k4, e7, hh, hht, et, g3, w0, w1, e4, setI]; (try simp only [ite_and]); (repeat' (first | with_reducible assumption | refine And.intro ?_ ?_)); all_goals (first | (refine hQ _ ?_; clear hQ; clear Q) | (refine hQ _ (fun h => ?_) (fun h => ?_) <;> clear hQ <;> clear Q <;> (try simp only [vki, reduceCtorEq] at h)) | omega | (with_reducible assumption) | (with_reducible rfl) | (refine drawB_of ?_; kernel_rfl) | skip)))
                    all_goals first | exact ⟨_, _, rfl⟩ | skip
                    refine ⟨⟨q + 1, hlt⟩, by show U - (q + 1) < U - q; omega, ?_⟩
                    (refine Le.ok (fun j => if j = 7 then some 13 else some j) [] ⟨?_, ?_, ?_, ?_, ?_, ?_, ?_, ?_, ?_, ?_, ?_⟩; all_goals (try simp only [leT, leH, leO, ADf.leL, imgs, idsT, idsH, List.filterMap_cons, List.filterMap_nil, List.flatMap_nil, Nat.lt_irrefl, Nat.not_lt_zero, vkt, Nat.reduceEqDiff, Nat.reduceAdd, Nat.reduceMul, Nat.reduceSub, Nat.reduceLeDiff, reduceCtorEq, ↓reduceIte, ↓reduceDIte, Int.reduceToNat, Int.reduceLE, Int.reduceLT, Int.reduceEq, Int.reduceNeg, tbG9_27, aI, aB, aSh, aLed, cLed, aInts, aShs, bgH, mInt, dIntW, List.map_cons, List.map_nil, List.length_cons, List.length_nil, loT, nil4, lo1, lo2, lo3, ld1, ld2, ld3, le1, p21, p22, p84, p85, p71, s54, p23r, gInt, eInt, eShs, rInt, rSh, rEnt, rInts, rShs, flInt, List.nil_append, List.append_nil, List.cons_append]))
                    all_goals first | rfl | (simp [hst]; done)
                · rw [if_neg c5] at hst
                  by_cases c6 : 999 < G
                  · have hst : EK (q + 1) = ⟨D, t.till, t.es, X6⟩ := by rw [hst]; unfold enS3b; rw [if_pos c6]
                    repeat' (first | refine zq0 ?_ | refine zq1 ?_ | refine zq2 ?_ | refine zq3 ?_ | refine zq4 ?_ | refine zq5 ?_ | refine thenK_n ?_ | refine thenK_x ?_ | refine thenK_r ?_ | refine blockK_n ?_ | refine blockK_r ?_ | refine blockK_hit ?_ | refine blockK_miss (by decide) ?_ | ((first | refine sym_reg env fun Q hQ => ?_ | refine sym_cz fun Q hQ => ?_); simp only [vkt, Nat.reduceEqDiff, Nat.reduceAdd, Nat.reduceMul, Nat.reduceSub, Nat.reduceLeDiff, reduceCtorEq, ↓reduceIte, ↓reduceDIte, Int.reduceToNat, Int.reduceLE, Int.reduceLT, Int.reduceEq, Int.reduceNeg, tbG9_27, aI, aB, aSh, aLed, cLed, aInts, aShs, bgH, mInt, dIntW, List.map_cons, List.map_nil, List.length_cons, List.length_nil, loT, nil4, lo1, lo2, lo3, ld1, ld2, ld3, le1, p21, p22, p84, p85, p71, s54, p23r, gInt, eInt, eShs, rInt, rSh, rEnt, rInts, rShs, flInt, List.nil_append, List.append_nil, List.cons_append, wD, wR, wC, hD', hX1', hκ, hX2, hcn, hX3, e6, g1, g2, G1, G2, wT, hT, hX4, hA, hX5, wa, wb, wc, wd, nz, hG, cC', c5, hX6, c6, k1, k2, k4, e7, setI]; (try simp only [ite_and]); (repeat' (first | with_reducible assumption | refine And.intro ?_ ?_)); all_goals (first | (refine hQ _ ?_; clear hQ; clear Q) | (refine hQ _ (fun h => ?_) (fun h => ?_) <;> clear hQ <;> clear Q <;> (try simp only [vki, reduceCtorEq] at h)) | omega | (with_reducible assumption) | (with_reducible rfl) | (refine drawB_of ?_; kernel_rfl) | skip)))
                    all_goals first | exact ⟨_, _, rfl⟩ | skip
                    refine ⟨⟨q + 1, hlt⟩, by show U - (q + 1) < U - q; omega, ?_⟩
                    (refine Le.ok some [] ⟨?_, ?_, ?_, ?_, ?_, ?_, ?_, ?_, ?_, ?_, ?_⟩; all_goals (try simp only [leT, leH, leO, ADf.leL, imgs, idsT, idsH, List.filterMap_cons, List.filterMap_nil, List.flatMap_nil, Nat.lt_irrefl, Nat.not_lt_zero, vkt, Nat.reduceEqDiff, Nat.reduceAdd, Nat.reduceMul, Nat.reduceSub, Nat.reduceLeDiff, reduceCtorEq, ↓reduceIte, ↓reduceDIte, Int.reduceToNat, Int.reduceLE, Int.reduceLT, Int.reduceEq, Int.reduceNeg, tbG9_27, aI, aB, aSh, aLed, cLed, aInts, aShs, bgH, mInt, dIntW, List.map_cons, List.map_nil, List.length_cons, List.length_nil, loT, nil4, lo1, lo2, lo3, ld1, ld2, ld3, le1, p21, p22, p84, p85, p71, s54, p23r, gInt, eInt, eShs, rInt, rSh, rEnt, rInts, rShs, flInt, List.nil_append, List.append_nil, List.cons_append]))
                    all_goals first | rfl | (simp [hst]; done)
                  · have hst : EK (q + 1) = ⟨D, (t.till.set cn.toNat (hv - am)).set to.toNat (ht + G), t.es ++ [(⟨D, 3, cn, to, am, G⟩ : Ent)], X6⟩ := by rw [hst]; unfold enS3b; rw [if_neg c6, hh, hht]
                    have w1 : IntKind.wrap .i64 (ht + (G)) = ht + (G) := wrap64 (by omega) (by omega)
                    have e4 : t.es.map eEnt ++ [[.v (.int .i64 D), .v (.int .i64 3), .v (.int .i64 cn), .v (.int .i64 to), .v (.int .i64 am), .v (.int .i64 (G))]] = (t.es ++ [(⟨D, 3, cn, to, am, G⟩ : Ent)]).map eEnt := by rw [List.map_append]; rfl
                    repeat' (first | refine zq0 ?_ | refine zq1 ?_ | refine zq2 ?_ | refine zq3 ?_ | refine zq4 ?_ | refine zq5 ?_ | refine thenK_n ?_ | refine thenK_x ?_ | refine thenK_r ?_ | refine blockK_n ?_ | refine blockK_r ?_ | refine blockK_hit ?_ | refine blockK_miss (by decide) ?_ | ((first | refine sym_reg env fun Q hQ => ?_ | refine sym_cz fun Q hQ => ?_); simp only [vkt, Nat.reduceEqDiff, Nat.reduceAdd, Nat.reduceMul, Nat.reduceSub, Nat.reduceLeDiff, reduceCtorEq, ↓reduceIte, ↓reduceDIte, Int.reduceToNat, Int.reduceLE, Int.reduceLT, Int.reduceEq, Int.reduceNeg, tbG9_27, aI, aB, aSh, aLed, cLed, aInts, aShs, bgH, mInt, dIntW, List.map_cons, List.map_nil, List.length_cons, List.length_nil, loT, nil4, lo1, lo2, lo3, ld1, ld2, ld3, le1, p21, p22, p84, p85, p71, s54, p23r, gInt, eInt, eShs, rInt, rSh, rEnt, rInts, rShs, flInt, List.nil_append, List.append_nil, List.cons_append, wD, wR, wC, hD', hX1', hκ, hX2, hcn, hX3, e6, g1, g2, G1, G2, wT, hT, hX4, hA, hX5, wa, wb, wc, wd, nz, hG, cC', c5, hX6, c6, k1, k2, k4, e7, hh, hht, et, g3, w0, w1, e4, setI]; (try simp only [ite_and]); (repeat' (first | with_reducible assumption | refine And.intro ?_ ?_)); all_goals (first | (refine hQ _ ?_; clear hQ; clear Q) | (refine hQ _ (fun h => ?_) (fun h => ?_) <;> clear hQ <;> clear Q <;> (try simp only [vki, reduceCtorEq] at h)) | omega | (with_reducible assumption) | (with_reducible rfl) | (refine drawB_of ?_; kernel_rfl) | skip)))
                    all_goals first | exact ⟨_, _, rfl⟩ | skip
                    refine ⟨⟨q + 1, hlt⟩, by show U - (q + 1) < U - q; omega, ?_⟩
                    (refine Le.ok (fun j => if j = 7 then some 13 else some j) [] ⟨?_, ?_, ?_, ?_, ?_, ?_, ?_, ?_, ?_, ?_, ?_⟩; all_goals (try simp only [leT, leH, leO, ADf.leL, imgs, idsT, idsH, List.filterMap_cons, List.filterMap_nil, List.flatMap_nil, Nat.lt_irrefl, Nat.not_lt_zero, vkt, Nat.reduceEqDiff, Nat.reduceAdd, Nat.reduceMul, Nat.reduceSub, Nat.reduceLeDiff, reduceCtorEq, ↓reduceIte, ↓reduceDIte, Int.reduceToNat, Int.reduceLE, Int.reduceLT, Int.reduceEq, Int.reduceNeg, tbG9_27, aI, aB, aSh, aLed, cLed, aInts, aShs, bgH, mInt, dIntW, List.map_cons, List.map_nil, List.length_cons, List.length_nil, loT, nil4, lo1, lo2, lo3, ld1, ld2, ld3, le1, p21, p22, p84, p85, p71, s54, p23r, gInt, eInt, eShs, rInt, rSh, rEnt, rInts, rShs, flInt, List.nil_append, List.append_nil, List.cons_append]))
                    all_goals first | rfl | (simp [hst]; done)
            · have hqU : q = U := by omega
              subst hqU
              rw [gL, gS, g3]
              repeat' (first | refine zq0 ?_ | refine zq1 ?_ | refine zq2 ?_ | refine zq3 ?_ | refine zq4 ?_ | refine zq5 ?_ | refine thenK_n ?_ | refine thenK_x ?_ | refine thenK_r ?_ | refine blockK_n ?_ | refine blockK_r ?_ | refine blockK_hit ?_ | refine blockK_miss (by decide) ?_ | ((first | refine sym_reg env fun Q hQ => ?_ | refine sym_cz fun Q hQ => ?_); simp only [vkt, Nat.reduceEqDiff, Nat.reduceAdd, Nat.reduceMul, Nat.reduceSub, Nat.reduceLeDiff, reduceCtorEq, ↓reduceIte, ↓reduceDIte, Int.reduceToNat, Int.reduceLE, Int.reduceLT, Int.reduceEq, Int.reduceNeg, tbG9_27, aI, aB, aSh, aLed, cLed, aInts, aShs, bgH, mInt, dIntW, List.map_cons, List.map_nil, List.length_cons, List.length_nil, loT, nil4, lo1, lo2, lo3, ld1, ld2, ld3, le1, p21, p22, p84, p85, p71, s54, p23r, gInt, eInt, eShs, rInt, rSh, rEnt, rInts, rShs, flInt, List.nil_append, List.append_nil, List.cons_append]; (try simp only [ite_and]); (repeat' (first | with_reducible assumption | refine And.intro ?_ ?_)); all_goals (first | (refine hQ _ ?_; clear hQ; clear Q) | (refine hQ _ (fun h => ?_) (fun h => ?_) <;> clear hQ <;> clear Q <;> (try simp only [vki, reduceCtorEq] at h)) | omega | (with_reducible assumption) | (with_reducible rfl) | (refine drawB_of ?_; kernel_rfl) | skip)))
              (simp only [retK, leaveA, resL, tupA, rd, wCells_some, wRow_some, Try.results27, vkt, Nat.reduceEqDiff, Nat.reduceAdd, Nat.reduceMul, Nat.reduceSub, Nat.reduceLeDiff, reduceCtorEq, ↓reduceIte, ↓reduceDIte, Int.reduceToNat, Int.reduceLE, Int.reduceLT, Int.reduceEq, Int.reduceNeg, tbG9_27, aI, aB, aSh, aLed, cLed, aInts, aShs, bgH, mInt, dIntW, List.map_cons, List.map_nil, List.length_cons, List.length_nil, loT, nil4, lo1, lo2, lo3, ld1, ld2, ld3, le1, p21, p22, p84, p85, p71, s54, p23r, gInt, eInt, eShs, rInt, rSh, rEnt, rInts, rShs, flInt, List.nil_append, List.append_nil, List.cons_append]; refine Fin.ok some [3, 5, 4, 7] ?_ ?_ ?_ ?_ ?_ rfl; all_goals (try simp only [leT, leH, leO, ADf.leL, imgs, idsT, idsH, List.filterMap_cons, List.filterMap_nil, List.flatMap_nil, Nat.lt_irrefl, Nat.not_lt_zero, vkt, Nat.reduceEqDiff, Nat.reduceAdd, Nat.reduceMul, Nat.reduceSub, Nat.reduceLeDiff, reduceCtorEq, ↓reduceIte, ↓reduceDIte, Int.reduceToNat, Int.reduceLE, Int.reduceLT, Int.reduceEq, Int.reduceNeg, tbG9_27, aI, aB, aSh, aLed, cLed, aInts, aShs, bgH, mInt, dIntW, List.map_cons, List.map_nil, List.length_cons, List.length_nil, loT, nil4, lo1, lo2, lo3, ld1, ld2, ld3, le1, p21, p22, p84, p85, p71, s54, p23r, gInt, eInt, eShs, rInt, rSh, rEnt, rInts, rShs, flInt, List.nil_append, List.append_nil, List.cons_append]))
              all_goals first | rfl | (simp; done) | exact ⟨⟨_, _, rfl⟩, ⟨_, _, rfl⟩, ⟨_, _, rfl⟩, ⟨_, _, rfl⟩⟩ | exact ⟨⟨_, _, rfl⟩, ⟨_, _, rfl⟩, ⟨_, _, rfl⟩, ⟨_, _, rfl⟩, trivial⟩
noncomputable def p27 (S : St) : List AV → Option Pk
  | [.ptr i 0, .v (.int .i64 c), .v (.int .i64 d), .v (.int .i64 e), .v (.int .i64 w)] => match S.h i with
    | some (.cells [.v (.int .u64 x)]) => some { pre := (1 ≤ c ∧ c ≤ 4) ∧ (1 ≤ d ∧ d ≤ 4) ∧ (0 ≤ e ∧ e ≤ 6), hs := [i], ar := [.ptr 0 0, .v (.int .i64 c), .v (.int .i64 d), .v (.int .i64 e), .v (.int .i64 w)], L0 := [.cells [.v (.int .u64 x)]], v := aLed (lgL x c d e w), L1 := [some (.cells [.v (.int .u64 (lgS x c d e w))])] }
    | _ => none
  | _ => none
theorem e27 {A : Frm → Prop} : EntryOK A Try.prog 27 (fnE p27) := fnE_ok fun S bs q h hp => by
  unfold p27 at h
  split at h
  · split at h
    · cases h; exact ledgerOf_fn _ _ _ _ _ hp.1 hp.2.1 hp.2.2
    · cases h
  · cases h
end Go.Sym.B
namespace Go.Sym.B
open Go Go.Sym Go.Proofs Go.Sym.C
def gcdI (a b : Int) : Int := ((Nat.gcd a.natAbs b.toNat : Nat) : Int)
def dvT (x y : Int) : St := { t := asg [(0, aI x), (1, aI y), (4, aI 0)], h := hasg [], n := 0 }
def tbH1_116 := And.intro @ty3 @ti3.eq_1
theorem divisor_fn (a b : Int) (hab : OfOk a b) : FnV Try.prog 116 [aI a, aI b] (aI (gcdI a b)) := by
  have env : Env (fun _ => True) Try.prog tyB (tab []) := mkEnv trivial
  refine Fn.of (A := fun _ => True) (n0 := 0) (D := noD) (Fn0 Try.func116 rfl (fun vs w => by kernel_rfl) (by kernel_rfl)) (by simp) (by simp [AV.ids, aI]) (fun i o h => by cases h) (fun _ _ _ _ => trivial) noD_ok ?_
  obtain ⟨ha, ha', hb, hb'⟩ := hab
  have hw : IntKind.wrap .i64 (0 - a) = -a := by rw [wrap64 (by omega) (by omega)]; omega
  by_cases c1 : a < 0
  · repeat' (first | refine zq0 ?_ | refine zq1 ?_ | refine zq2 ?_ | refine zq3 ?_ | refine zq4 ?_ | refine zq5 ?_ | refine thenK_n ?_ | refine thenK_x ?_ | refine thenK_r ?_ | refine blockK_n ?_ | refine blockK_r ?_ | refine blockK_hit ?_ | refine blockK_miss (by decide) ?_ | ((first | refine sym_reg env fun Q hQ => ?_ | refine sym_cz fun Q hQ => ?_); simp only [vkt, Nat.reduceEqDiff, Nat.reduceAdd, Nat.reduceMul, Nat.reduceSub, Nat.reduceLeDiff, reduceCtorEq, ↓reduceIte, ↓reduceDIte, Int.reduceToNat, Int.reduceLE, Int.reduceLT, Int.reduceEq, Int.reduceNeg, tbH1_116, aI, aB, dvT, c1, hw]; (try simp only [ite_and]); (repeat' (first | with_reducible assumption | refine And.intro ?_ ?_ | intro hp)); all_goals (first | (refine hQ _ ?_; clear hQ; clear Q) | (refine hQ _ (fun h => ?_) (fun h => ?_) <;> clear hQ <;> clear Q <;> (try simp only [vki, reduceCtorEq] at h)) | omega | assumption | (with_reducible rfl) | (refine drawB_of ?_; kernel_rfl) | skip)))
    refine sym_loop (ι := { p : Int × Int // 0 ≤ p.1 ∧ 0 ≤ p.2 ∧ Nat.gcd p.1.toNat p.2.toNat = Nat.gcd a.natAbs b.toNat }) (fun p => dvT p.1.1 p.1.2) (fun p => p.1.1.toNat) ⟨((-a), b), by show (0 : Int) ≤ (-a); omega, by show (0 : Int) ≤ b; omega, by show Nat.gcd ((-a)).toNat b.toNat = _; congr 1; omega⟩ ?_ fun ⟨(x, y), h1, h2, h3⟩ => ?_
    · (refine Le.ok some [] ⟨?_, ?_, ?_, ?_, ?_, ?_, ?_, ?_, ?_, ?_, ?_⟩; all_goals (try simp only [leT, leH, leO, ADf.leL, imgs, idsT, idsH, List.filterMap_cons, List.filterMap_nil, List.flatMap_nil, Nat.lt_irrefl, Nat.not_lt_zero, vkt, Nat.reduceEqDiff, Nat.reduceAdd, Nat.reduceMul, Nat.reduceSub, Nat.reduceLeDiff, reduceCtorEq, ↓reduceIte, ↓reduceDIte, Int.reduceToNat, Int.reduceLE, Int.reduceLT, Int.reduceEq, Int.reduceNeg, tbH1_116, aI, aB, dvT]))
      all_goals simp
    · dsimp only at h1 h2 h3
      repeat' (first | refine zq0 ?_ | refine zq1 ?_ | refine zq2 ?_ | refine zq3 ?_ | refine zq4 ?_ | refine zq5 ?_ | refine thenK_n ?_ | refine thenK_x ?_ | refine thenK_r ?_ | refine blockK_n ?_ | refine blockK_r ?_ | refine blockK_hit ?_ | refine blockK_miss (by decide) ?_)
      (refine sym_reg env fun Q hQ => ?_; simp only [vkt, Nat.reduceEqDiff, Nat.reduceAdd, Nat.reduceMul, Nat.reduceSub, Nat.reduceLeDiff, reduceCtorEq, ↓reduceIte, ↓reduceDIte, Int.reduceToNat, Int.reduceLE, Int.reduceLT, Int.reduceEq, Int.reduceNeg, tbH1_116, aI, aB, dvT]; (try simp only [ite_and]); (repeat' (first | with_reducible assumption | refine And.intro ?_ ?_ | intro hp)); all_goals (first | (refine hQ _ ?_; clear hQ; clear Q) | omega | assumption | (with_reducible rfl) | (refine drawB_of ?_; kernel_rfl) | skip))
      repeat' (first | refine zq0 ?_ | refine zq1 ?_ | refine zq2 ?_ | refine zq3 ?_ | refine zq4 ?_ | refine zq5 ?_ | refine thenK_n ?_ | refine thenK_x ?_ | refine thenK_r ?_ | refine blockK_n ?_ | refine blockK_r ?_ | refine blockK_hit ?_ | refine blockK_miss (by decide) ?_)
      (refine sym_cd (by simp only [vkt, Nat.reduceEqDiff, Nat.reduceAdd, Nat.reduceMul, Nat.reduceSub, Nat.reduceLeDiff, reduceCtorEq, ↓reduceIte, ↓reduceDIte, Int.reduceToNat, Int.reduceLE, Int.reduceLT, Int.reduceEq, Int.reduceNeg, tbH1_116, aI, aB, dvT]; rfl) (fun h => ?_) (fun h => ?_) <;> (try simp only [vki, reduceCtorEq] at h))
      · have hx : 0 < x := by omega
        have nz : ¬ x = 0 := by omega
        have e1 := Int.emod_nonneg y (show x ≠ 0 by omega)
        have e2 := Int.emod_lt_of_pos y hx
        have e3 : y.tmod x = y % x := Int.tmod_eq_emod_of_nonneg h2
        repeat' (first | refine zq0 ?_ | refine zq1 ?_ | refine zq2 ?_ | refine zq3 ?_ | refine zq4 ?_ | refine zq5 ?_ | refine thenK_n ?_ | refine thenK_x ?_ | refine thenK_r ?_ | refine blockK_n ?_ | refine blockK_r ?_ | refine blockK_hit ?_ | refine blockK_miss (by decide) ?_ | ((first | refine sym_reg env fun Q hQ => ?_ | refine sym_cz fun Q hQ => ?_); simp only [vkt, Nat.reduceEqDiff, Nat.reduceAdd, Nat.reduceMul, Nat.reduceSub, Nat.reduceLeDiff, reduceCtorEq, ↓reduceIte, ↓reduceDIte, Int.reduceToNat, Int.reduceLE, Int.reduceLT, Int.reduceEq, Int.reduceNeg, tbH1_116, aI, aB, dvT, nz]; (try simp only [ite_and]); (repeat' (first | with_reducible assumption | refine And.intro ?_ ?_ | intro hp)); all_goals (first | (refine hQ _ ?_; clear hQ; clear Q) | (refine hQ _ (fun h => ?_) (fun h => ?_) <;> clear hQ <;> clear Q <;> (try simp only [vki, reduceCtorEq] at h)) | omega | assumption | (with_reducible rfl) | (refine drawB_of ?_; kernel_rfl) | skip)))
        refine ⟨⟨(y.tmod x, x), by show (0 : Int) ≤ y.tmod x; omega, h1, ?_⟩, ?_, ?_⟩
        · show Nat.gcd (y.tmod x).toNat x.toNat = _
          rw [← h3, e3, Int.toNat_emod h2 h1, Nat.gcd_comm x.toNat, Nat.gcd_comm, Nat.gcd_comm x.toNat, ← Nat.gcd_rec, Nat.gcd_comm]
        · show (y.tmod x).toNat < x.toNat
          omega
        · (refine Le.ok some [] ⟨?_, ?_, ?_, ?_, ?_, ?_, ?_, ?_, ?_, ?_, ?_⟩; all_goals (try simp only [leT, leH, leO, ADf.leL, imgs, idsT, idsH, List.filterMap_cons, List.filterMap_nil, List.flatMap_nil, Nat.lt_irrefl, Nat.not_lt_zero, vkt, Nat.reduceEqDiff, Nat.reduceAdd, Nat.reduceMul, Nat.reduceSub, Nat.reduceLeDiff, reduceCtorEq, ↓reduceIte, ↓reduceDIte, Int.reduceToNat, Int.reduceLE, Int.reduceLT, Int.reduceEq, Int.reduceNeg, tbH1_116, aI, aB, dvT]))
          all_goals simp
      · have hx : x = 0 := by omega
        subst hx
        have hg : y = gcdI a b := by unfold gcdI; rw [← h3]; simp; omega
        subst hg
        repeat' (first | refine zq0 ?_ | refine zq1 ?_ | refine zq2 ?_ | refine zq3 ?_ | refine zq4 ?_ | refine zq5 ?_ | refine thenK_n ?_ | refine thenK_x ?_ | refine thenK_r ?_ | refine blockK_n ?_ | refine blockK_r ?_ | refine blockK_hit ?_ | refine blockK_miss (by decide) ?_ | ((first | refine sym_reg env fun Q hQ => ?_ | refine sym_cz fun Q hQ => ?_); simp only [vkt, Nat.reduceEqDiff, Nat.reduceAdd, Nat.reduceMul, Nat.reduceSub, Nat.reduceLeDiff, reduceCtorEq, ↓reduceIte, ↓reduceDIte, Int.reduceToNat, Int.reduceLE, Int.reduceLT, Int.reduceEq, Int.reduceNeg, tbH1_116, aI, aB, dvT]; (try simp only [ite_and]); (repeat' (first | with_reducible assumption | refine And.intro ?_ ?_ | intro hp)); all_goals (first | (refine hQ _ ?_; clear hQ; clear Q) | (refine hQ _ (fun h => ?_) (fun h => ?_) <;> clear hQ <;> clear Q <;> (try simp only [vki, reduceCtorEq] at h)) | omega | assumption | (with_reducible rfl) | (refine drawB_of ?_; kernel_rfl) | skip)))
        (simp only [retK, leaveA, resL, tupA, rd, wCells_some, wRow_some, Try.results116, vkt, Nat.reduceEqDiff, Nat.reduceAdd, Nat.reduceMul, Nat.reduceSub, Nat.reduceLeDiff, reduceCtorEq, ↓reduceIte, ↓reduceDIte, Int.reduceToNat, Int.reduceLE, Int.reduceLT, Int.reduceEq, Int.reduceNeg, tbH1_116, aI, aB, dvT]; refine Fin.val rfl ?_; (try simp only [AV.le, AV.leL]))
        all_goals first | rfl | simp
  · repeat' (first | refine zq0 ?_ | refine zq1 ?_ | refine zq2 ?_ | refine zq3 ?_ | refine zq4 ?_ | refine zq5 ?_ | refine thenK_n ?_ | refine thenK_x ?_ | refine thenK_r ?_ | refine blockK_n ?_ | refine blockK_r ?_ | refine blockK_hit ?_ | refine blockK_miss (by decide) ?_ | ((first | refine sym_reg env fun Q hQ => ?_ | refine sym_cz fun Q hQ => ?_); simp only [vkt, Nat.reduceEqDiff, Nat.reduceAdd, Nat.reduceMul, Nat.reduceSub, Nat.reduceLeDiff, reduceCtorEq, ↓reduceIte, ↓reduceDIte, Int.reduceToNat, Int.reduceLE, Int.reduceLT, Int.reduceEq, Int.reduceNeg, tbH1_116, aI, aB, dvT, c1]; (try simp only [ite_and]); (repeat' (first | with_reducible assumption | refine And.intro ?_ ?_ | intro hp)); all_goals (first | (refine hQ _ ?_; clear hQ; clear Q) | (refine hQ _ (fun h => ?_) (fun h => ?_) <;> clear hQ <;> clear Q <;> (try simp only [vki, reduceCtorEq] at h)) | omega | assumption | (with_reducible rfl) | (refine drawB_of ?_; kernel_rfl) | skip)))
    refine sym_loop (ι := { p : Int × Int // 0 ≤ p.1 ∧ 0 ≤ p.2 ∧ Nat.gcd p.1.toNat p.2.toNat = Nat.gcd a.natAbs b.toNat }) (fun p => dvT p.1.1 p.1.2) (fun p => p.1.1.toNat) ⟨(a, b), by show (0 : Int) ≤ a; omega, by show (0 : Int) ≤ b; omega, by show Nat.gcd (a).toNat b.toNat = _; congr 1; omega⟩ ?_ fun ⟨(x, y), h1, h2, h3⟩ => ?_
    · (refine Le.ok some [] ⟨?_, ?_, ?_, ?_, ?_, ?_, ?_, ?_, ?_, ?_, ?_⟩; all_goals (try simp only [leT, leH, leO, ADf.leL, imgs, idsT, idsH, List.filterMap_cons, List.filterMap_nil, List.flatMap_nil, Nat.lt_irrefl, Nat.not_lt_zero, vkt, Nat.reduceEqDiff, Nat.reduceAdd, Nat.reduceMul, Nat.reduceSub, Nat.reduceLeDiff, reduceCtorEq, ↓reduceIte, ↓reduceDIte, Int.reduceToNat, Int.reduceLE, Int.reduceLT, Int.reduceEq, Int.reduceNeg, tbH1_116, aI, aB, dvT]))
      all_goals simp
    · dsimp only at h1 h2 h3
      repeat' (first | refine zq0 ?_ | refine zq1 ?_ | refine zq2 ?_ | refine zq3 ?_ | refine zq4 ?_ | refine zq5 ?_ | refine thenK_n ?_ | refine thenK_x ?_ | refine thenK_r ?_ | refine blockK_n ?_ | refine blockK_r ?_ | refine blockK_hit ?_ | refine blockK_miss (by decide) ?_)
      (refine sym_reg env fun Q hQ => ?_; simp only [vkt, Nat.reduceEqDiff, Nat.reduceAdd, Nat.reduceMul, Nat.reduceSub, Nat.reduceLeDiff, reduceCtorEq, ↓reduceIte, ↓reduceDIte, Int.reduceToNat, Int.reduceLE, Int.reduceLT, Int.reduceEq, Int.reduceNeg, tbH1_116, aI, aB, dvT]; (try simp only [ite_and]); (repeat' (first | with_reducible assumption | refine And.intro ?_ ?_ | intro hp)); all_goals (first | (refine hQ _ ?_; clear hQ; clear Q) | omega | assumption | (with_reducible rfl) | (refine drawB_of ?_; kernel_rfl) | skip))
      repeat' (first | refine zq0 ?_ | refine zq1 ?_ | refine zq2 ?_ | refine zq3 ?_ | refine zq4 ?_ | refine zq5 ?_ | refine thenK_n ?_ | refine thenK_x ?_ | refine thenK_r ?_ | refine blockK_n ?_ | refine blockK_r ?_ | refine blockK_hit ?_ | refine blockK_miss (by decide) ?_)
      (refine sym_cd (by simp only [vkt, Nat.reduceEqDiff, Nat.reduceAdd, Nat.reduceMul, Nat.reduceSub, Nat.reduceLeDiff, reduceCtorEq, ↓reduceIte, ↓reduceDIte, Int.reduceToNat, Int.reduceLE, Int.reduceLT, Int.reduceEq, Int.reduceNeg, tbH1_116, aI, aB, dvT]; rfl) (fun h => ?_) (fun h => ?_) <;> (try simp only [vki, reduceCtorEq] at h))
      · have hx : 0 < x := by omega
        have nz : ¬ x = 0 := by omega
        have e1 := Int.emod_nonneg y (show x ≠ 0 by omega)
        have e2 := Int.emod_lt_of_pos y hx
        have e3 : y.tmod x = y % x := Int.tmod_eq_emod_of_nonneg h2
        repeat' (first | refine zq0 ?_ | refine zq1 ?_ | refine zq2 ?_ | refine zq3 ?_ | refine zq4 ?_ | refine zq5 ?_ | refine thenK_n ?_ | refine thenK_x ?_ | refine thenK_r ?_ | refine blockK_n ?_ | refine blockK_r ?_ | refine blockK_hit ?_ | refine blockK_miss (by decide) ?_ | ((first | refine sym_reg env fun Q hQ => ?_ | refine sym_cz fun Q hQ => ?_); simp only [vkt, Nat.reduceEqDiff, Nat.reduceAdd, Nat.reduceMul, Nat.reduceSub, Nat.reduceLeDiff, reduceCtorEq, ↓reduceIte, ↓reduceDIte, Int.reduceToNat, Int.reduceLE, Int.reduceLT, Int.reduceEq, Int.reduceNeg, tbH1_116, aI, aB, dvT, nz]; (try simp only [ite_and]); (repeat' (first | with_reducible assumption | refine And.intro ?_ ?_ | intro hp)); all_goals (first | (refine hQ _ ?_; clear hQ; clear Q) | (refine hQ _ (fun h => ?_) (fun h => ?_) <;> clear hQ <;> clear Q <;> (try simp only [vki, reduceCtorEq] at h)) | omega | assumption | (with_reducible rfl) | (refine drawB_of ?_; kernel_rfl) | skip)))
        refine ⟨⟨(y.tmod x, x), by show (0 : Int) ≤ y.tmod x; omega, h1, ?_⟩, ?_, ?_⟩
        · show Nat.gcd (y.tmod x).toNat x.toNat = _
          rw [← h3, e3, Int.toNat_emod h2 h1, Nat.gcd_comm x.toNat, Nat.gcd_comm, Nat.gcd_comm x.toNat, ← Nat.gcd_rec, Nat.gcd_comm]
        · show (y.tmod x).toNat < x.toNat
          omega
        · (refine Le.ok some [] ⟨?_, ?_, ?_, ?_, ?_, ?_, ?_, ?_, ?_, ?_, ?_⟩; all_goals (try simp only [leT, leH, leO, ADf.leL, imgs, idsT, idsH, List.filterMap_cons, List.filterMap_nil, List.flatMap_nil, Nat.lt_irrefl, Nat.not_lt_zero, vkt, Nat.reduceEqDiff, Nat.reduceAdd, Nat.reduceMul, Nat.reduceSub, Nat.reduceLeDiff, reduceCtorEq, ↓reduceIte, ↓reduceDIte, Int.reduceToNat, Int.reduceLE, Int.reduceLT, Int.reduceEq, Int.reduceNeg, tbH1_116, aI, aB, dvT]))
          all_goals simp
      · have hx : x = 0 := by omega
        subst hx
        have hg : y = gcdI a b := by unfold gcdI; rw [← h3]; simp; omega
        subst hg
        repeat' (first | refine zq0 ?_ | refine zq1 ?_ | refine zq2 ?_ | refine zq3 ?_ | refine zq4 ?_ | refine zq5 ?_ | refine thenK_n ?_ | refine thenK_x ?_ | refine thenK_r ?_ | refine blockK_n ?_ | refine blockK_r ?_ | refine blockK_hit ?_ | refine blockK_miss (by decide) ?_ | ((first | refine sym_reg env fun Q hQ => ?_ | refine sym_cz fun Q hQ => ?_); simp only [vkt, Nat.reduceEqDiff, Nat.reduceAdd, Nat.reduceMul, Nat.reduceSub, Nat.reduceLeDiff, reduceCtorEq, ↓reduceIte, ↓reduceDIte, Int.reduceToNat, Int.reduceLE, Int.reduceLT, Int.reduceEq, Int.reduceNeg, tbH1_116, aI, aB, dvT]; (try simp only [ite_and]); (repeat' (first | with_reducible assumption | refine And.intro ?_ ?_ | intro hp)); all_goals (first | (refine hQ _ ?_; clear hQ; clear Q) | (refine hQ _ (fun h => ?_) (fun h => ?_) <;> clear hQ <;> clear Q <;> (try simp only [vki, reduceCtorEq] at h)) | omega | assumption | (with_reducible rfl) | (refine drawB_of ?_; kernel_rfl) | skip)))
        (simp only [retK, leaveA, resL, tupA, rd, wCells_some, wRow_some, Try.results116, vkt, Nat.reduceEqDiff, Nat.reduceAdd, Nat.reduceMul, Nat.reduceSub, Nat.reduceLeDiff, reduceCtorEq, ↓reduceIte, ↓reduceDIte, Int.reduceToNat, Int.reduceLE, Int.reduceLT, Int.reduceEq, Int.reduceNeg, tbH1_116, aI, aB, dvT]; refine Fin.val rfl ?_; (try simp only [AV.le, AV.leL]))
        all_goals first | rfl | simp
def s116 : List AV → Prop × AV
  | [.v (.int .i64 a), .v (.int .i64 b)] => (OfOk a b, aI (gcdI a b))
  | _ => (False, .junk)
theorem e116 {A : Frm → Prop} : EntryOK A Try.prog 116 (valE true s116) := valE_ok fun vs _ h => by
  unfold s116 at h ⊢
  split at h
  · exact ⟨by simp [AV.plain, aI], fun _ => by simp [AV.flat, aI], divisor_fn _ _ h⟩
  · exact h.elim
def tbH1_55 := And.intro @ty3 (And.intro @ty59 (And.intro @ti3.eq_1 @ti59.eq_1))
theorem rof_fn (a b : Int) (hab : OfOk a b) : FnV Try.prog 55 [aI a, aI b] (aSh (shQ (mkRat a b.toNat))) := by
  have env : Env (fun _ => True) Try.prog tyB (tab [(116, valE true s116)]) := mkEnv ⟨e116, trivial⟩
  refine Fn.of (A := fun _ => True) (n0 := 0) (D := noD) (Fn0 Try.func55 rfl (fun vs w => by kernel_rfl) (by kernel_rfl)) (by simp) (by simp [AV.ids, aI]) (fun i o h => by cases h) (fun _ _ _ _ => trivial) noD_ok ?_
  obtain ⟨ha, ha', hb, hb'⟩ := id hab
  have nz : ¬ gcdI a b = 0 := by
    have := Nat.gcd_pos_of_pos_right a.natAbs (show 0 < b.toNat by omega)
    unfold gcdI; omega
  have w1 := tdiv_fit (x := gcdI a b) ha ha'
  have w2 := tdiv_fit (x := gcdI a b) (show -9223372036854775808 < b by omega) hb'
  repeat' (first | refine zq0 ?_ | refine zq1 ?_ | refine zq2 ?_ | refine zq3 ?_ | refine zq4 ?_ | refine zq5 ?_ | refine thenK_n ?_ | refine thenK_x ?_ | refine thenK_r ?_ | refine blockK_n ?_ | refine blockK_r ?_ | refine blockK_hit ?_ | refine blockK_miss (by decide) ?_ | ((first | refine sym_reg env fun Q hQ => ?_ | refine sym_cz fun Q hQ => ?_); simp only [vkt, Nat.reduceEqDiff, Nat.reduceAdd, Nat.reduceMul, Nat.reduceSub, Nat.reduceLeDiff, reduceCtorEq, ↓reduceIte, ↓reduceDIte, Int.reduceToNat, Int.reduceLE, Int.reduceLT, Int.reduceEq, Int.reduceNeg, tbH1_55, aI, aB, aSh, shQ, s116, nz, w1, w2]; (try simp only [ite_and]); (repeat' (first | with_reducible assumption | refine And.intro ?_ ?_ | intro hp)); all_goals (first | (refine hQ _ ?_; clear hQ; clear Q) | (refine hQ _ (fun h => ?_) (fun h => ?_) <;> clear hQ <;> clear Q <;> (try simp only [vki, reduceCtorEq] at h)) | omega | assumption | (with_reducible rfl) | (refine drawB_of ?_; kernel_rfl) | skip)))
  (simp only [retK, leaveA, resL, tupA, rd, wCells_some, wRow_some, Try.results55, vkt, Nat.reduceEqDiff, Nat.reduceAdd, Nat.reduceMul, Nat.reduceSub, Nat.reduceLeDiff, reduceCtorEq, ↓reduceIte, ↓reduceDIte, Int.reduceToNat, Int.reduceLE, Int.reduceLT, Int.reduceEq, Int.reduceNeg, tbH1_55, aI, aB, aSh, shQ, s116]; refine Fin.val rfl ?_; (try simp only [AV.le, AV.leL]))
  rw [mk_num hb, mk_den hb]
  simp [gcdI]
theorem e55 {A : Frm → Prop} : EntryOK A Try.prog 55 (valE true s139) := valE_ok fun vs _ h => by
  unfold s139 at h ⊢
  split at h
  · exact ⟨by simp [AV.plain, AV.plainL, aSh], fun _ => by simp [AV.flat, AV.flatL, aSh], rof_fn _ _ h⟩
  · exact h.elim
def tbH1_53 := And.intro @ty3 (And.intro @ty59 (And.intro @ti3.eq_1 @ti59.eq_1))
theorem rminus_fn (q r : Rat) (hq : Sm q) (hr : Sm r) : FnV Try.prog 53 [aSh (shQ q), aSh (shQ r)] (aSh (shQ (q - r))) := by
  have env : Env (fun _ => True) Try.prog tyB (tab [(55, valE true s139)]) := mkEnv ⟨e55, trivial⟩
  refine Fn.of (A := fun _ => True) (n0 := 0) (D := noD) (Fn0 Try.func53 rfl (fun vs w => by kernel_rfl) (by kernel_rfl)) (by simp) (by simp [AV.ids, AV.idsL, aSh]) (fun i o h => by cases h) (fun _ _ _ _ => trivial) noD_ok ?_
  have b1 := mul_bd hq.1 hq.2.1 (den_pos r) (Int.ofNat_le.2 hr.2.2)
  have b2 := mul_bd hr.1 hr.2.1 (den_pos q) (Int.ofNat_le.2 hq.2.2)
  have b3 := mul_bd (a := (q.den : Int)) (by have := hq.2.2; omega) (by omega) (den_pos r) (Int.ofNat_le.2 hr.2.2)
  have b4 := Int.mul_pos (den_pos q) (den_pos r)
  have w1 := wrap64 (n := q.num * r.den) (by omega) (by omega)
  have w2 := wrap64 (n := r.num * q.den) (by omega) (by omega)
  have w3 := wrap64 (n := (q.den : Int) * r.den) (by omega) (by omega)
  have w4 := wrap64 (n := q.num * r.den - r.num * q.den) (by omega) (by omega)
  have w5 : OfOk (q.num * r.den - r.num * q.den) ((q.den : Int) * r.den) := ⟨by omega, by omega, by omega, by omega⟩
  repeat' (first | refine zq0 ?_ | refine zq1 ?_ | refine zq2 ?_ | refine zq3 ?_ | refine zq4 ?_ | refine zq5 ?_ | refine thenK_n ?_ | refine thenK_x ?_ | refine thenK_r ?_ | refine blockK_n ?_ | refine blockK_r ?_ | refine blockK_hit ?_ | refine blockK_miss (by decide) ?_ | ((first | refine sym_reg env fun Q hQ => ?_ | refine sym_cz fun Q hQ => ?_); simp only [vkt, Nat.reduceEqDiff, Nat.reduceAdd, Nat.reduceMul, Nat.reduceSub, Nat.reduceLeDiff, reduceCtorEq, ↓reduceIte, ↓reduceDIte, Int.reduceToNat, Int.reduceLE, Int.reduceLT, Int.reduceEq, Int.reduceNeg, tbH1_53, aI, aB, aSh, shQ, s139, isQ_q, qI_q, w1, w2, w3, w4, sub_mk]; (try simp only [ite_and]); (repeat' (first | with_reducible assumption | refine And.intro ?_ ?_ | intro hp)); all_goals (first | (refine hQ _ ?_; clear hQ; clear Q) | (refine hQ _ (fun h => ?_) (fun h => ?_) <;> clear hQ <;> clear Q <;> (try simp only [vki, reduceCtorEq] at h)) | omega | assumption | (with_reducible rfl) | (refine drawB_of ?_; kernel_rfl) | skip)))
  (simp only [retK, leaveA, resL, tupA, rd, wCells_some, wRow_some, Try.results53, vkt, Nat.reduceEqDiff, Nat.reduceAdd, Nat.reduceMul, Nat.reduceSub, Nat.reduceLeDiff, reduceCtorEq, ↓reduceIte, ↓reduceDIte, Int.reduceToNat, Int.reduceLE, Int.reduceLT, Int.reduceEq, Int.reduceNeg, tbH1_53, aI, aB, aSh, shQ, s139, isQ_q, qI_q]; refine Fin.val rfl ?_; (try simp only [AV.le, AV.leL]))
  simp
theorem e53 {A : Frm → Prop} : EntryOK A Try.prog 53 (valE true s100) := valE_ok fun vs _ h => by
  unfold s100 at h ⊢
  split at h
  · refine ⟨by simp [AV.plain, AV.plainL, aSh], fun _ => by simp [AV.flat, AV.flatL, aSh], ?_⟩
    rw [← shQ_of h.1, ← shQ_of h.2.1]
    exact rminus_fn _ _ h.2.2.1 h.2.2.2
  · exact h.elim
theorem rsh_nd {l : Led} {d c : Int} (h : Rt l d c) : ((l.rates.getD d.toNat []).getD c.toNat default).num = (rq l d c).num ∧ ((l.rates.getD d.toNat []).getD c.toNat default).den = ((rq l d c).den : Int) :=
  ⟨congrArg Sh.num h.q, congrArg Sh.den h.q⟩
def c105 : List AV → Prop × AV
  | [.agg [.sl cs, .sl rs, .sl ss, .sl es], .v (.int .i64 d), .v (.int .i64 c), .v (.int .i64 n)] => (isL cs rs ss es ∧ Rt (ldOf cs rs ss es) d c ∧ -50000 ≤ n ∧ n ≤ 50000, aSh (shQ (rq (ldOf cs rs ss es) d c * (n : Rat))))
  | _ => (False, .junk)
end Go.Sym.B
namespace Go.Sym.B
open Go Go.Sym Go.Proofs Go.Sym.C
end Go.Sym.B
namespace Go.Sym.B
open Go Go.Sym Go.Proofs Go.Sym.C
def rr1 (l : Led) (k : Nat) : St := { t := asg [(1, .ptr 0 0), (2, aI 0), (3, aI k)], h := hasg [(0, .cells (cLed l))], n := 1 }
def rr2 (l : Led) (r : List Sh) (k i : Nat) : St := { t := asg [(1, .ptr 0 0), (2, aI 0), (3, aI k), (4, aShs r), (5, aI ((1 + i : Nat) : Int))], h := hasg [(0, .cells (cLed l))], n := 1 }
end Go.Sym.B
namespace Go.Sym.B
open Go Go.Sym Go.Proofs Go.Sym.C
def worthE (l : Led) (d c n : Int) : Int := if checkE l ≠ 0 then checkE l else if !inB d 0 ((l.rates.length : Int) - 1) then 3 else if !inB c 0 ((l.coins.length : Int) - 1) then 3 else if !inB n 0 999 then 1 else 0
def aWorth (l : Led) (d c n : Int) : AV := if worthE l d c n ≠ 0 then .tup [aSh ⟨0, 0⟩, aI (worthE l d c n)] else .tup [aSh (shQ (rq l d c * (n : Rat))), aI 0]
theorem worth_ok {l : Led} {d c n : Int} (h : worthE l d c n = 0) : Val l ∧ Rt l d c ∧ 0 ≤ n ∧ n ≤ 999 := by
  unfold worthE at h
  split at h
  · rename_i h1; exact absurd h h1
  rename_i h1
  split at h
  · exact absurd h (by decide)
  rename_i h2
  split at h
  · exact absurd h (by decide)
  rename_i h3
  split at h
  · exact absurd h (by decide)
  rename_i h4
  have hV := val_of (Decidable.not_not.1 h1)
  have nf : ∀ {p : Bool}, ¬ (!p) = true → p = true := fun h => by simpa using h
  have g2 := inB_iff.1 (nf h2)
  have g3 := inB_iff.1 (nf h3)
  have g4 := inB_iff.1 (nf h4)
  exact ⟨hV, val_rt hV g2.1 g2.2 g3.1 g3.2, g4.1, g4.2⟩
def cWorth : List AV → Prop × AV
  | [.agg [.sl cs, .sl rs, .sl ss, .sl es], .v (.int .i64 d), .v (.int .i64 c), .v (.int .i64 n)] => (isL cs rs ss es ∧ Fit (ldOf cs rs ss es), aWorth (ldOf cs rs ss es) d c n)
  | _ => (False, .junk)
theorem aWorth_plain (l : Led) (d c n : Int) : (aWorth l d c n).plain ∧ (aWorth l d c n).flat := by
  unfold aWorth; split <;> simp [AV.plain, AV.plainL, AV.flat, AV.flatL, aI, aSh]
def tbH4_46 := And.intro @ty3 (And.intro @ty22 (And.intro @ty28 (And.intro @ty30 (And.intro @ty35 (And.intro @ty38 (And.intro @ty55 (And.intro @ty59 (And.intro @ti3.eq_1 (And.intro @ti22.eq_1 (And.intro @ti28.eq_1 (And.intro @ti30.eq_1 (And.intro @ti35.eq_1 (And.intro @ti38.eq_1 (And.intro @ti55.eq_1 @ti59.eq_1))))))))))))))
theorem pworth_fn (l : Led) (d c n : Int) (hl : Fit l) : FnV Try.prog 46 [aLed l, aI d, aI c, aI n] (aWorth l d c n) := by
  have env : Env (fun _ => True) Try.prog tyB (tab [(50, valE true c50), (79, valE true s79), (98, valE true c98), (99, valE true s99)]) := mkEnv ⟨d50, e79, d98, e99, trivial⟩
  refine Fn.of (A := fun _ => True) (n0 := 0) (D := noD) (Fn0 Try.func46 rfl (fun vs w => by kernel_rfl) (by kernel_rfl)) (by simp) (by simp [AV.ids, AV.idsL, aLed, cLed, aI]) (fun i o h => by cases h) (fun _ _ _ _ => trivial) noD_ok ?_
  have q1 := hl.c
  have q2 := hl.r
  have w1 : IntKind.wrap .i64 ((l.rates.length : Int) - 1) = (l.rates.length : Int) - 1 := wrap64 (by omega) (by omega)
  have w2 : IntKind.wrap .i64 ((l.coins.length : Int) - 1) = (l.coins.length : Int) - 1 := wrap64 (by omega) (by omega)
  by_cases hw : worthE l d c n = 0
  · obtain ⟨hV, hR, n0, n1⟩ := worth_ok hw
    rw [show aWorth l d c n = _ from if_neg (by rw [hw]; simp)]
    unfold worthE at hw
    split at hw
    · rename_i h1; exact absurd hw h1
    rename_i c0
    have c0 := Decidable.not_not.1 c0
    split at hw
    · exact absurd hw (by decide)
    rename_i c1
    split at hw
    · exact absurd hw (by decide)
    rename_i c2
    split at hw
    · exact absurd hw (by decide)
    rename_i c3
    have nf : ∀ {p : Bool}, ¬ (!p) = true → p = true := fun h => by simpa using h
    have c1 := nf c1
    have c2 := nf c2
    have c3 := nf c3
    have g1 := tm_of (rt_bd hR) (show -100000 ≤ n by omega) (by omega)
    have g2 : -50000 ≤ n ∧ n ≤ 50000 := by omega
    repeat' (first | refine zq0 ?_ | refine zq1 ?_ | refine zq2 ?_ | refine zq3 ?_ | refine zq4 ?_ | refine zq5 ?_ | refine thenK_n ?_ | refine thenK_x ?_ | refine thenK_r ?_ | refine blockK_n ?_ | refine blockK_r ?_ | refine blockK_hit ?_ | refine blockK_miss (by decide) ?_ | ((first | refine sym_reg env fun Q hQ => ?_ | refine sym_cz fun Q hQ => ?_); simp only [vkt, Nat.reduceEqDiff, Nat.reduceAdd, Nat.reduceMul, Nat.reduceSub, Nat.reduceLeDiff, reduceCtorEq, ↓reduceIte, ↓reduceDIte, Int.reduceToNat, Int.reduceLE, Int.reduceLT, Int.reduceEq, Int.reduceNeg, tbH4_46, aI, aB, aLed, cLed, aSh, shQ, c50, s79, c98, s99, c105, isL_e, ldOf_e, isQ_q, qI_q, w1, w2, c0, c1, c2, c3]; (try simp only [ite_and]); (repeat' (first | with_reducible assumption | refine And.intro ?_ ?_ | intro hp)); all_goals (first | (refine hQ _ ?_; clear hQ; clear Q) | (refine hQ _ (fun h => ?_) (fun h => ?_) <;> clear hQ <;> clear Q <;> (try simp only [vki, reduceCtorEq] at h)) | omega | assumption | (with_reducible rfl) | (refine drawB_of ?_; kernel_rfl) | skip)))
    (simp only [retK, leaveA, resL, tupA, rd, wCells_some, wRow_some, Try.results46, vkt, Nat.reduceEqDiff, Nat.reduceAdd, Nat.reduceMul, Nat.reduceSub, Nat.reduceLeDiff, reduceCtorEq, ↓reduceIte, ↓reduceDIte, Int.reduceToNat, Int.reduceLE, Int.reduceLT, Int.reduceEq, Int.reduceNeg, tbH4_46, aI, aB, aLed, cLed, aSh, shQ, c50, s79, c98, s99, c105, isL_e, ldOf_e, isQ_q, qI_q]; refine Fin.val rfl ?_; (try simp only [AV.le, AV.leL]))
    all_goals first | rfl | (simp; done) | exact ⟨⟨rfl, rfl, trivial⟩, rfl, trivial⟩
  · rw [show aWorth l d c n = _ from if_pos hw]
    by_cases c0 : checkE l = 0
    · cases c1 : inB d 0 ((l.rates.length : Int) - 1)
      · repeat' (first | refine zq0 ?_ | refine zq1 ?_ | refine zq2 ?_ | refine zq3 ?_ | refine zq4 ?_ | refine zq5 ?_ | refine thenK_n ?_ | refine thenK_x ?_ | refine thenK_r ?_ | refine blockK_n ?_ | refine blockK_r ?_ | refine blockK_hit ?_ | refine blockK_miss (by decide) ?_ | ((first | refine sym_reg env fun Q hQ => ?_ | refine sym_cz fun Q hQ => ?_); simp only [vkt, Nat.reduceEqDiff, Nat.reduceAdd, Nat.reduceMul, Nat.reduceSub, Nat.reduceLeDiff, reduceCtorEq, ↓reduceIte, ↓reduceDIte, Int.reduceToNat, Int.reduceLE, Int.reduceLT, Int.reduceEq, Int.reduceNeg, tbH4_46, aI, aB, aLed, cLed, aSh, shQ, c50, s79, c98, s99, c105, isL_e, ldOf_e, isQ_q, qI_q, w1, w2, c0, c1]; (try simp only [ite_and]); (repeat' (first | with_reducible assumption | refine And.intro ?_ ?_ | intro hp)); all_goals (first | (refine hQ _ ?_; clear hQ; clear Q) | (refine hQ _ (fun h => ?_) (fun h => ?_) <;> clear hQ <;> clear Q <;> (try simp only [vki, reduceCtorEq] at h)) | omega | assumption | (with_reducible rfl) | (refine drawB_of ?_; kernel_rfl) | skip)))
        (simp only [retK, leaveA, resL, tupA, rd, wCells_some, wRow_some, Try.results46, vkt, Nat.reduceEqDiff, Nat.reduceAdd, Nat.reduceMul, Nat.reduceSub, Nat.reduceLeDiff, reduceCtorEq, ↓reduceIte, ↓reduceDIte, Int.reduceToNat, Int.reduceLE, Int.reduceLT, Int.reduceEq, Int.reduceNeg, tbH4_46, aI, aB, aLed, cLed, aSh, shQ, c50, s79, c98, s99, c105, isL_e, ldOf_e, isQ_q, qI_q]; refine Fin.val rfl ?_; (try simp only [AV.le, AV.leL]))
        all_goals simp [worthE, *]
      cases c2 : inB c 0 ((l.coins.length : Int) - 1)
      · repeat' (first | refine zq0 ?_ | refine zq1 ?_ | refine zq2 ?_ | refine zq3 ?_ | refine zq4 ?_ | refine zq5 ?_ | refine thenK_n ?_ | refine thenK_x ?_ | refine thenK_r ?_ | refine blockK_n ?_ | refine blockK_r ?_ | refine blockK_hit ?_ | refine blockK_miss (by decide) ?_ | ((first | refine sym_reg env fun Q hQ => ?_ | refine sym_cz fun Q hQ => ?_); simp only [vkt, Nat.reduceEqDiff, Nat.reduceAdd, Nat.reduceMul, Nat.reduceSub, Nat.reduceLeDiff, reduceCtorEq, ↓reduceIte, ↓reduceDIte, Int.reduceToNat, Int.reduceLE, Int.reduceLT, Int.reduceEq, Int.reduceNeg, tbH4_46, aI, aB, aLed, cLed, aSh, shQ, c50, s79, c98, s99, c105, isL_e, ldOf_e, isQ_q, qI_q, w1, w2, c0, c1, c2]; (try simp only [ite_and]); (repeat' (first | with_reducible assumption | refine And.intro ?_ ?_ | intro hp)); all_goals (first | (refine hQ _ ?_; clear hQ; clear Q) | (refine hQ _ (fun h => ?_) (fun h => ?_) <;> clear hQ <;> clear Q <;> (try simp only [vki, reduceCtorEq] at h)) | omega | assumption | (with_reducible rfl) | (refine drawB_of ?_; kernel_rfl) | skip)))
        (simp only [retK, leaveA, resL, tupA, rd, wCells_some, wRow_some, Try.results46, vkt, Nat.reduceEqDiff, Nat.reduceAdd, Nat.reduceMul, Nat.reduceSub, Nat.reduceLeDiff, reduceCtorEq, ↓reduceIte, ↓reduceDIte, Int.reduceToNat, Int.reduceLE, Int.reduceLT, Int.reduceEq, Int.reduceNeg, tbH4_46, aI, aB, aLed, cLed, aSh, shQ, c50, s79, c98, s99, c105, isL_e, ldOf_e, isQ_q, qI_q]; refine Fin.val rfl ?_; (try simp only [AV.le, AV.leL]))
        all_goals simp [worthE, *]
      cases c3 : inB n 0 999
      · repeat' (first | refine zq0 ?_ | refine zq1 ?_ | refine zq2 ?_ | refine zq3 ?_ | refine zq4 ?_ | refine zq5 ?_ | refine thenK_n ?_ | refine thenK_x ?_ | refine thenK_r ?_ | refine blockK_n ?_ | refine blockK_r ?_ | refine blockK_hit ?_ | refine blockK_miss (by decide) ?_ | ((first | refine sym_reg env fun Q hQ => ?_ | refine sym_cz fun Q hQ => ?_); simp only [vkt, Nat.reduceEqDiff, Nat.reduceAdd, Nat.reduceMul, Nat.reduceSub, Nat.reduceLeDiff, reduceCtorEq, ↓reduceIte, ↓reduceDIte, Int.reduceToNat, Int.reduceLE, Int.reduceLT, Int.reduceEq, Int.reduceNeg, tbH4_46, aI, aB, aLed, cLed, aSh, shQ, c50, s79, c98, s99, c105, isL_e, ldOf_e, isQ_q, qI_q, w1, w2, c0, c1, c2, c3]; (try simp only [ite_and]); (repeat' (first | with_reducible assumption | refine And.intro ?_ ?_ | intro hp)); all_goals (first | (refine hQ _ ?_; clear hQ; clear Q) | (refine hQ _ (fun h => ?_) (fun h => ?_) <;> clear hQ <;> clear Q <;> (try simp only [vki, reduceCtorEq] at h)) | omega | assumption | (with_reducible rfl) | (refine drawB_of ?_; kernel_rfl) | skip)))
        (simp only [retK, leaveA, resL, tupA, rd, wCells_some, wRow_some, Try.results46, vkt, Nat.reduceEqDiff, Nat.reduceAdd, Nat.reduceMul, Nat.reduceSub, Nat.reduceLeDiff, reduceCtorEq, ↓reduceIte, ↓reduceDIte, Int.reduceToNat, Int.reduceLE, Int.reduceLT, Int.reduceEq, Int.reduceNeg, tbH4_46, aI, aB, aLed, cLed, aSh, shQ, c50, s79, c98, s99, c105, isL_e, ldOf_e, isQ_q, qI_q]; refine Fin.val rfl ?_; (try simp only [AV.le, AV.leL]))
        all_goals simp [worthE, *]
      exact absurd (by simp [worthE, *]) hw
    · repeat' (first | refine zq0 ?_ | refine zq1 ?_ | refine zq2 ?_ | refine zq3 ?_ | refine zq4 ?_ | refine zq5 ?_ | refine thenK_n ?_ | refine thenK_x ?_ | refine thenK_r ?_ | refine blockK_n ?_ | refine blockK_r ?_ | refine blockK_hit ?_ | refine blockK_miss (by decide) ?_ | ((first | refine sym_reg env fun Q hQ => ?_ | refine sym_cz fun Q hQ => ?_); simp only [vkt, Nat.reduceEqDiff, Nat.reduceAdd, Nat.reduceMul, Nat.reduceSub, Nat.reduceLeDiff, reduceCtorEq, ↓reduceIte, ↓reduceDIte, Int.reduceToNat, Int.reduceLE, Int.reduceLT, Int.reduceEq, Int.reduceNeg, tbH4_46, aI, aB, aLed, cLed, aSh, shQ, c50, s79, c98, s99, c105, isL_e, ldOf_e, isQ_q, qI_q, w1, w2, c0]; (try simp only [ite_and]); (repeat' (first | with_reducible assumption | refine And.intro ?_ ?_ | intro hp)); all_goals (first | (refine hQ _ ?_; clear hQ; clear Q) | (refine hQ _ (fun h => ?_) (fun h => ?_) <;> clear hQ <;> clear Q <;> (try simp only [vki, reduceCtorEq] at h)) | omega | assumption | (with_reducible rfl) | (refine drawB_of ?_; kernel_rfl) | skip)))
      (simp only [retK, leaveA, resL, tupA, rd, wCells_some, wRow_some, Try.results46, vkt, Nat.reduceEqDiff, Nat.reduceAdd, Nat.reduceMul, Nat.reduceSub, Nat.reduceLeDiff, reduceCtorEq, ↓reduceIte, ↓reduceDIte, Int.reduceToNat, Int.reduceLE, Int.reduceLT, Int.reduceEq, Int.reduceNeg, tbH4_46, aI, aB, aLed, cLed, aSh, shQ, c50, s79, c98, s99, c105, isL_e, ldOf_e, isQ_q, qI_q]; refine Fin.val rfl ?_; (try simp only [AV.le, AV.leL]))
      all_goals simp [worthE, c0]
theorem d46 {A : Frm → Prop} : EntryOK A Try.prog 46 (valE true cWorth) := valE_ok fun vs hv h => by
  clear hv
  unfold cWorth at h ⊢
  split at h
  · refine ⟨(aWorth_plain _ _ _ _).1, fun _ => (aWorth_plain _ _ _ _).2, ?_⟩
    rw [← aLed_of h.1]; exact pworth_fn _ _ _ _ h.2
  · exact h.elim
end Go.Sym.B
namespace Go.Sym.B
open Go Go.Sym Go.Proofs Go.Sym.C
theorem num_nn {q : Rat} (h : 0 ≤ q) : 0 ≤ q.num := Rat.num_nonneg.2 h
theorem swapQ_nn {l : Led} {d a b n : Int} (h1 : Rt l d a) (h2 : Rt l d b) (hn : 0 ≤ n) : 0 ≤ rq l d a * (n : Rat) ∧ 0 ≤ swapQ l d a b n := by
  have e1 : 0 ≤ rq l d a := Rat.num_nonneg.1 (by have := h1.n0; omega)
  have e2 : 0 ≤ rq l d b := Rat.num_nonneg.1 (by have := h2.n0; omega)
  have e3 : (0 : Rat) ≤ (n : Rat) := by exact_mod_cast hn
  have e4 := Rat.mul_nonneg e1 e3
  refine ⟨e4, ?_⟩
  unfold swapQ
  rw [← div_mk _ _ (show 0 < (rq l d b).num by have := h2.n0; omega)]
  refine Rat.num_nonneg.1 ?_
  rw [mk_num (Int.mul_pos (den_pos _) (by have := h2.n0; omega))]
  exact Int.tdiv_nonneg (Int.mul_nonneg (num_nn e4) (by omega)) (Int.natCast_nonneg _)
end Go.Sym.B
namespace Go.Sym.B
open Go Go.Sym Go.Proofs Go.Sym.C
theorem first0 {n : Nat} {f : Nat → Int} (h : ∀ k, k < n → f k = 0) : firstE (errs n f) = 0 := by
  have hall : ∀ E : List Int, (∀ e ∈ E, e = 0) → firstE E = 0 := fun E => by
    induction E with
    | nil => intro _; rfl
    | cons e E ih => intro h; rw [firstE, if_pos (h e List.mem_cons_self)]; exact ih fun x hx => h x (List.mem_cons_of_mem _ hx)
  refine hall _ fun e he => ?_
  obtain ⟨j, hj, rfl⟩ := List.mem_map.1 he
  exact h j (List.mem_range.1 hj)
theorem counted0 {n a b : Int} (h1 : a ≤ n) (h2 : n ≤ b) : countedE n a b = 0 := by unfold countedE; rw [if_neg (by omega), if_neg (by omega)]
theorem coinE_ok {q : List Int} {j : Nat} (h : PcOk q j) (hj : j ≤ 3) : coinE q = 0 := by
  have hl := h.len
  unfold coinE
  rw [if_neg (by rw [counted0 (by omega) (by omega)]; simp), if_neg (by rw [h.one]; simp)]
  refine first0 fun i hi => ?_
  have h1 := h.up i (by omega)
  have h2 := h.le (i + 1) (by omega)
  unfold pieceE
  rw [Nat.add_comm 1 i, if_neg (by omega), if_neg (by omega)]
theorem shE_ok {s : Sh} (h : ShOk s) : shE s = 0 := by
  unfold shE
  rw [inB_iff.2 h.n, inB_iff.2 h.d, if_neg (by simp), if_neg (by simp), if_neg (by rw [ne_eq, Decidable.not_not]; exact h.r)]
theorem ratesE_ok {r : List Sh} {n : Nat} (h : RwOk r n) (hn : 1 ≤ n) : ratesE r n = 0 := by
  have hl := h.len
  unfold ratesE
  rw [if_neg (by simp [hl]), if_neg (by rw [h.one]; simp)]
  refine first0 fun i hi => ?_
  exact shE_ok (h.all _ (gMem (by omega)))
structure LgOk (L : Led) : Prop where
  c : 1 ≤ L.coins.length ∧ L.coins.length ≤ 4
  p : ∀ q ∈ L.coins, ∃ j, j ≤ 3 ∧ PcOk q j
  s : L.start.length = L.coins.length
  v : ∀ n ∈ L.start, 0 ≤ n ∧ n ≤ 200
  r : RsOk L.rates L.coins.length
  e : L.entries.length ≤ 6
theorem lg_ok {x c d e w : Int} (hc : 1 ≤ c ∧ c ≤ 4) (hd : 1 ≤ d ∧ d ≤ 4) (he : 0 ≤ e ∧ e ≤ 6) : LgOk (lgL x c d e w) := by
  have h1 := upV_le (x := x) (m := c - 1) (by omega) (by omega)
  have ok1 : CoOk (lg1 x c) (1 + upV x (c - 1)).toNat := coK_ok _ _
  have hl1 := ok1.c
  have h2 := upV_le (x := (lg1 x c).x) (m := d - 1) (by omega) (by omega)
  have ok2 : (lg2 x c d).1.length = (1 + upV (lg1 x c).x (d - 1)).toNat ∧ ∀ r ∈ (lg2 x c d).1, RwOk r ((lg1 x c).cs.length - 1 + 1) := dyK_ok _ _ _
  rw [show (lg1 x c).cs.length - 1 + 1 = (lg1 x c).cs.length by omega] at ok2
  have hr : RsOk (lg2 x c d).1 (lg1 x c).cs.length := ⟨by have := ok2.1; omega, ok2.2⟩
  have h3 := upV_le (x := (lg2 x c d).2) (m := e) (by omega) (by omega)
  have hI : EnI (lg1 x c).cs.length (lg2 x c d).1.length 0 ⟨0, (lg1 x c).ss, [], upS (lg2 x c d).2 e⟩ := ⟨Int.le_refl _, by show (0 : Int) ≤ _; have := hr.len; omega, by rw [ok1.c]; exact ok1.l, fun v hv => by have := ok1.v v hv; omega, Nat.le_refl _⟩
  have h4 := (enK_ok hr (by omega) (w := w) hI (upV (lg2 x c d).2 e).toNat).es
  refine ⟨?_, ok1.p, ?_, ok1.v, hr, ?_⟩
  · show 1 ≤ (lg1 x c).cs.length ∧ (lg1 x c).cs.length ≤ 4; omega
  · show (lg1 x c).ss.length = (lg1 x c).cs.length; rw [ok1.c]; exact ok1.l
  · show (lg3 x c d e w).es.length ≤ 6
    unfold lg3; omega
theorem LgOk.fit {L : Led} (h : LgOk L) : Fit L := by
  refine ⟨by have := h.c; omega, fun q hq => ?_, by have := h.r.len; omega, fun r hr => ?_, by have := h.c; have := h.s; omega, by have := h.e; omega⟩
  · obtain ⟨j, hj, hp⟩ := h.p q hq
    have := hp.len; omega
  · have := (h.r.all r hr).len; have := h.c; omega
theorem LgOk.check {L : Led} (h : LgOk L) : checkE L = entriesE L := by
  have c := h.c
  have r := h.r.len
  have hs := h.s
  unfold checkE
  rw [if_neg (by rw [counted0 (by omega) (by omega)]; simp)]
  rw [if_neg (by
    rw [first0 (f := ckCoin L) fun k hk => by
      obtain ⟨j, hj, hp⟩ := h.p _ (gMem (l := L.coins) (k := k) (d := []) hk)
      exact coinE_ok hp hj]
    simp)]
  rw [if_neg (by rw [counted0 (by omega) (by omega)]; simp)]
  rw [if_neg (by
    rw [first0 (f := ckRate L) fun k hk => ratesE_ok (h.r.all _ (gMem (l := L.rates) (k := k) (d := []) hk)) c.1]
    simp)]
  rw [if_neg (by simp [hs])]
  rw [if_neg (by
    rw [first0 (f := startE L) fun k hk => by
      have := h.v _ (gMem (l := L.start) (k := k) (d := 0) hk)
      unfold startE
      rw [inB_iff.2 (by omega)]; rfl]
    simp)]
theorem lg_e0 (x c d w : Int) : (lgL x c d 0 w).entries = [] := by
  show (lg3 x c d 0 w).es = []
  have h3 := upV_bd (x := (lg2 x c d).2) (m := 0) (by decide)
  have : upV (lg2 x c d).2 0 = 0 := by omega
  unfold lg3
  rw [this]
  rfl
theorem entries0 {L : Led} (h : L.entries = []) : entriesE L = 0 := by
  unfold entriesE
  rw [h, if_neg (by rw [counted0 (by simp) (by simp)]; simp)]
  exact first0 fun k hk => by simp at hk
end Go.Sym.B
namespace Go.Sym.B
open Go Go.Sym Go.Proofs Go.Sym.C
theorem q_cancel {a r : Rat} (h : r ≠ 0) : a / r * r = a := Rat.div_mul_cancel h
theorem floor_mul_le {w r : Rat} (hr : 0 < r) : ((w / r).floor : Rat) * r ≤ w := by
  have h1 := Rat.mul_le_mul_of_nonneg_right (Rat.floor_le (w / r)) (Rat.le_of_lt hr)
  rwa [q_cancel (fun h => by rw [h] at hr; exact absurd hr (by decide))] at h1
theorem lost_mul {w r : Rat} (hr : r ≠ 0) (f : Rat) : (w / r - f) * r = w - f * r := by
  rw [Rat.sub_eq_add_neg, Rat.add_mul, q_cancel hr, Rat.neg_mul, ← Rat.sub_eq_add_neg]
theorem back_le {ra rb : Rat} {n f : Int} (ha : 0 < ra) (h : (f : Rat) * rb ≤ ra * (n : Rat)) : (rb * (f : Rat) / ra).floor ≤ n := by
  have ha0 : ra ≠ 0 := fun e => by rw [e] at ha; exact absurd ha (by decide)
  have h1 : rb * (f : Rat) / ra ≤ (n : Rat) := by
    rw [← mul_le ha, q_cancel ha0, Rat.mul_comm rb, Rat.mul_comm (n : Rat)]
    exact h
  have := Rat.floor_monotone h1
  rwa [Rat.floor_intCast] at this
theorem lost_bd (q : Rat) : 0 ≤ (q - (q.floor : Rat)).num ∧ (q - (q.floor : Rat)).num < ((q - (q.floor : Rat)).den : Int) ∧ ((q - (q.floor : Rat)).den : Int) ≤ q.den := by
  have h0 : (0 : Rat) ≤ q - (q.floor : Rat) := by
    have := (Rat.add_le_add_right (c := -(q.floor : Rat))).2 (Rat.floor_le q)
    rwa [Rat.add_neg_cancel, ← Rat.sub_eq_add_neg] at this
  have h1 : q - (q.floor : Rat) < 1 := by
    have h2 := (Rat.add_lt_add_right (c := -(q.floor : Rat))).2 (Rat.lt_floor_add_one q)
    rw [← Rat.sub_eq_add_neg, Rat.intCast_add, Rat.add_comm (q.floor : Rat), Rat.add_assoc, Rat.add_neg_cancel, Rat.add_zero] at h2
    exact h2
  have hs := sub_mk q (q.floor : Rat)
  have hd := mk_den_le (a := q.num * ((q.floor : Rat).den : Int) - (q.floor : Rat).num * q.den) (b := (q.den : Int) * ((q.floor : Rat).den : Int)) (Int.mul_pos (den_pos q) (den_pos _))
  rw [hs, Rat.den_intCast] at hd
  refine ⟨Rat.num_nonneg.2 h0, ?_, by simpa using hd⟩
  have := (Rat.lt_iff _ _).1 h1
  simpa using this
def Snd (q : Rat) : Prop := (q.den : Int) ≤ 27720 ∧ -68719476736 < q.num ∧ q.num < 68719476736
theorem snd_times {r : Rat} {n : Int} (h1 : (r.den : Int) ≤ 12) (h2 : r.num.natAbs ≤ 20) (hn : n.natAbs ≤ 50000) : Snd (r * (n : Rat)) ∧ ((r * (n : Rat)).den : Int) ≤ 12 := by
  have hp := den_pos r
  have e := mul_mk r n
  have d := mk_den_le (a := r.num * n) hp
  have m := mk_num_le (a := r.num * n) hp
  rw [e] at d m
  have : (r.num * n).natAbs ≤ 20 * 50000 := by rw [Int.natAbs_mul]; exact Nat.mul_le_mul h2 hn
  exact ⟨⟨by omega, by omega, by omega⟩, by omega⟩
theorem div_den {w r : Rat} (hw : (w.den : Int) ≤ 12) (h0 : 0 < r.num) (h1 : r.num ≤ 20) : ((w / r).den : Int) ≤ 240 := by
  have hp := Int.mul_pos (den_pos w) h0
  have d := mk_den_le (a := w.num * r.den) hp
  rw [div_mk w r h0] at d
  have : (w.den : Int) * r.num ≤ 12 * 20 := Int.mul_le_mul hw h1 (by omega) (by decide)
  omega
def tbG14_41 := And.intro @ty3 (And.intro @ty59 (And.intro @ti3.eq_1 @ti59.eq_1))
theorem sound_fn (s : Sh) (h : 0 < s.den ∧ s.den ≤ 27720 ∧ -68719476736 < s.num ∧ s.num < 68719476736) : FnV Try.prog 41 [aSh s] (aB true) := by
  have env : Env (fun _ => True) Try.prog tyB (tab []) := mkEnv trivial
  refine Fn.of (A := fun _ => True) (n0 := 0) (D := noD) (Fn0 Try.func41 rfl (fun vs w => by kernel_rfl) (by kernel_rfl)) (by simp) (by simp [AV.ids, AV.idsL, aSh]) (fun i o h => by cases h) (fun _ _ _ _ => trivial) noD_ok ?_
  obtain ⟨h1, h2, h3, h4⟩ := h
  have k1 : decide (0 < s.den) = true := by simpa using h1
  have k2 : decide (s.den ≤ 27720) = true := by simpa using h2
  have k3 : decide (-68719476736 < s.num) = true := by simpa using h3
  have k4 : decide (s.num < 68719476736) = true := by simpa using h4
  repeat' (first | refine zq0 ?_ | refine zq1 ?_ | refine zq2 ?_ | refine zq3 ?_ | refine zq4 ?_ | refine zq5 ?_ | refine thenK_n ?_ | refine thenK_x ?_ | refine thenK_r ?_ | refine blockK_n ?_ | refine blockK_r ?_ | refine blockK_hit ?_ | refine blockK_miss (by decide) ?_ | ((first | refine sym_reg env fun Q hQ => ?_ | refine sym_cz fun Q hQ => ?_); simp only [vkt, Nat.reduceEqDiff, Nat.reduceAdd, Nat.reduceMul, Nat.reduceSub, Nat.reduceLeDiff, reduceCtorEq, ↓reduceIte, ↓reduceDIte, Int.reduceToNat, Int.reduceLE, Int.reduceLT, Int.reduceEq, Int.reduceNeg, tbG14_41, aI, aB, aSh, k1, k2, k3, k4]; (try simp only [ite_and]); (repeat' (first | with_reducible assumption | refine And.intro ?_ ?_ | intro hp)); all_goals (first | (refine hQ _ ?_; clear hQ; clear Q) | (refine hQ _ (fun h => ?_) (fun h => ?_) <;> clear hQ <;> clear Q <;> (try simp only [vki, reduceCtorEq] at h)) | omega | assumption | (with_reducible rfl) | (refine drawB_of ?_; kernel_rfl) | skip)))
  (simp only [retK, leaveA, resL, tupA, rd, wCells_some, wRow_some, Try.results41, vkt, Nat.reduceEqDiff, Nat.reduceAdd, Nat.reduceMul, Nat.reduceSub, Nat.reduceLeDiff, reduceCtorEq, ↓reduceIte, ↓reduceDIte, Int.reduceToNat, Int.reduceLE, Int.reduceLT, Int.reduceEq, Int.reduceNeg, tbG14_41, aI, aB, aSh]; refine Fin.val rfl ?_; (try simp only [AV.le, AV.leL]))
  all_goals first | rfl | (simp; done)
def s41 : List AV → Prop × AV
  | [.agg [.v (.int .i64 a), .v (.int .i64 b)]] => (0 < b ∧ b ≤ 27720 ∧ -68719476736 < a ∧ a < 68719476736, aB true)
  | _ => (False, .junk)
theorem e41 {A : Frm → Prop} : EntryOK A Try.prog 41 (valE true s41) := valE_ok fun vs _ h => by
  unfold s41 at h ⊢
  split at h
  · exact ⟨trivial, fun _ => trivial, sound_fn ⟨_, _⟩ h⟩
  · exact h.elim
end Go.Sym.B
namespace Go.Sym.B
open Go Go.Sym Go.Proofs Go.Sym.C
theorem foldV_ne {f g n : Int} (hf : 0 ≤ f) (hg : 1 ≤ g) (hg2 : g ≤ n - 1) : foldV (f + g) n ≠ f := by
  intro h
  unfold foldV at h
  rw [if_neg (by omega), Int.tmod_eq_emod_of_nonneg (show 0 ≤ f + g by omega)] at h
  have e1 := Int.mul_ediv_add_emod (f + g) n
  have e2 := Int.emod_nonneg (f + g) (show n ≠ 0 by omega)
  rw [Int.tmod_eq_emod_of_nonneg (by omega)] at h
  have e3 := Int.mul_ediv_add_emod ((f + g) % n + n) n
  rw [h] at e3
  have e4 : g = n * ((f + g) / n + ((f + g) % n + n) / n - 1) := by rw [Int.mul_sub, Int.mul_add]; omega
  generalize (f + g) / n + ((f + g) % n + n) / n - 1 = k at e4
  rcases Int.lt_or_le 0 k with hk | hk
  · have := Int.mul_le_mul_of_nonneg_left (show 1 ≤ k by omega) (show 0 ≤ n by omega); omega
  · have := Int.mul_le_mul_of_nonneg_left hk (show 0 ≤ n by omega); omega
theorem chkSwap_of {L : Led} {d a b n : Int} (h : checkE L = 0) (hd : 0 ≤ d ∧ d ≤ (L.rates.length : Int) - 1) (ha : 0 ≤ a ∧ a ≤ (L.coins.length : Int) - 1) (hb : 0 ≤ b ∧ b ≤ (L.coins.length : Int) - 1) (hab : a ≠ b) (hn : 0 ≤ n ∧ n ≤ 999) : chkSwapE L d a b n = 0 := by
  unfold chkSwapE
  rw [if_neg (by rw [h]; simp), inB_iff.2 hd, inB_iff.2 ha, inB_iff.2 hb, inB_iff.2 hn, if_neg (by simp), if_neg (by simp), if_neg (by simp), if_neg hab, if_neg (by simp)]
theorem worth_of {L : Led} {d c n : Int} (h : checkE L = 0) (hd : 0 ≤ d ∧ d ≤ (L.rates.length : Int) - 1) (hc : 0 ≤ c ∧ c ≤ (L.coins.length : Int) - 1) (hn : 0 ≤ n ∧ n ≤ 999) : worthE L d c n = 0 := by
  unfold worthE
  rw [if_neg (by rw [h]; simp), inB_iff.2 hd, inB_iff.2 hc, inB_iff.2 hn, if_neg (by simp), if_neg (by simp), if_neg (by simp)]
theorem aSwap_of {L : Led} {d a b n : Int} (h : chkSwapE L d a b n = 0) : aSwap L d a b n = .tup [.v (.int .i64 (swapQ L d a b n).floor), .agg [.v (.int .i64 (swapQ L d a b n - ((swapQ L d a b n).floor : Rat)).num), .v (.int .i64 ((swapQ L d a b n - ((swapQ L d a b n).floor : Rat)).den : Int))], .v (.int .i64 0)] := if_neg (by rw [h]; simp)
theorem aWorth_of {L : Led} {d c n : Int} (h : worthE L d c n = 0) : aWorth L d c n = .tup [.agg [.v (.int .i64 (rq L d c * (n : Rat)).num), .v (.int .i64 ((rq L d c * (n : Rat)).den : Int))], .v (.int .i64 0)] := if_neg (by rw [h]; simp)
def tbG15_10 := And.intro @ty3 (And.intro @ty22 (And.intro @ty28 (And.intro @ty30 (And.intro @ty35 (And.intro @ty38 (And.intro @ty55 (And.intro @ty59 (And.intro @ti3.eq_1 (And.intro @ti22.eq_1 (And.intro @ti28.eq_1 (And.intro @ti30.eq_1 (And.intro @ti35.eq_1 (And.intro @ti38.eq_1 (And.intro @ti55.eq_1 @ti59.eq_1))))))))))))))
set_option maxRecDepth 100000 in
set_option maxHeartbeats 8000000 in
theorem swapped_fn (ns : List Int) (h2 : ns.length ≤ maxLen) : FnV Try.prog 10 [aInts ns] (aB true) := by
  have env : Env (fun _ => True) Try.prog tyB (tab [(19, valE true c19), (20, fnE p20), (21, fnE p21), (22, fnE p22), (27, fnE p27), (54, valE true s54), (48, valE true c48), (46, valE true cWorth), (41, valE true s41), (53, valE true s100), (55, valE true s139)]) := mkEnv ⟨d19, e20, e21, e22, e27, e54, d48, d46, e41, e53, e55, trivial⟩
  refine Fn.of (A := fun _ => True) (n0 := 0) (D := noD) (Fn0 Try.func10 rfl (fun vs w => by kernel_rfl) (by kernel_rfl)) (by simp) (by simp [AV.ids, AV.idsL, aInts, aI]) (fun i o h => by cases h) (fun _ _ _ _ => trivial) noD_ok ?_
  have big : (100000 : Nat) ≤ maxLen := by decide
  have z1 : (1 : Int) ≤ 4 ∧ (4 : Int) ≤ 4 := by decide
  have z3 : (1 : Int) ≤ 2 ∧ (2 : Int) ≤ 4 := by decide
  have z2 : (0 : Int) ≤ 0 ∧ (0 : Int) ≤ 6 := by decide
  have hok := lg_ok (x := nbS ns) (w := 0) z1 z3 z2
  have hE := lg_e0 (nbS ns) 4 2 0
  obtain ⟨L, hL⟩ : ∃ L, lgL (nbS ns) 4 2 0 0 = L := ⟨_, rfl⟩
  obtain ⟨y, hy⟩ : ∃ y, lgS (nbS ns) 4 2 0 0 = y := ⟨_, rfl⟩
  rw [hL] at hok hE
  have hfit := hok.fit
  have hchk : checkE L = 0 := by rw [hok.check, entries0 hE]
  have hV := val_of hchk
  have hc := hok.c
  have hr := hok.r.len
  by_cases c1 : L.coins.length = 1
  · have c1' : decide ((L.coins.length : Int) = 1) = true := by simp [c1]
    repeat' (first | refine zq0 ?_ | refine zq1 ?_ | refine zq2 ?_ | refine zq3 ?_ | refine zq4 ?_ | refine zq5 ?_ | refine thenK_n ?_ | refine thenK_x ?_ | refine thenK_r ?_ | refine blockK_n ?_ | refine blockK_r ?_ | refine blockK_hit ?_ | refine blockK_miss (by decide) ?_ | ((first | refine sym_reg env fun Q hQ => ?_ | refine sym_cz fun Q hQ => ?_); simp only [vkt, Nat.reduceEqDiff, Nat.reduceAdd, Nat.reduceMul, Nat.reduceSub, Nat.reduceLeDiff, reduceCtorEq, ↓reduceIte, ↓reduceDIte, Int.reduceToNat, Int.reduceLE, Int.reduceLT, Int.reduceEq, Int.reduceNeg, tbG15_10, aI, aB, aLed, cLed, bgH, aInts, mInt, eInt, gInt, c19, p20, p21, p22, p27, s54, c48, cWorth, s41, s100, s139, isL_e, ldOf_e, isQ_q, qI_q, aSh, shQ, gShs, gSh, eShs, eSh, hL, hy, c1']; (try simp only [ite_and]); (repeat' (first | with_reducible assumption | refine And.intro ?_ ?_)); all_goals (first | (refine hQ _ ?_; clear hQ; clear Q) | (refine hQ _ (fun h => ?_) (fun h => ?_) <;> clear hQ <;> clear Q <;> (try simp only [vki, reduceCtorEq] at h)) | omega | (with_reducible assumption) | (with_reducible rfl) | (refine drawB_of ?_; kernel_rfl) | skip)))
    all_goals first | ((simp only [retK, leaveA, resL, tupA, rd, wCells_some, wRow_some, Try.results10, vkt, Nat.reduceEqDiff, Nat.reduceAdd, Nat.reduceMul, Nat.reduceSub, Nat.reduceLeDiff, reduceCtorEq, ↓reduceIte, ↓reduceDIte, Int.reduceToNat, Int.reduceLE, Int.reduceLT, Int.reduceEq, Int.reduceNeg, tbG15_10, aI, aB, aLed, cLed, bgH, aInts, mInt, eInt, gInt, c19, p20, p21, p22, p27, s54, c48, cWorth, s41, s100, s139, isL_e, ldOf_e, isQ_q, qI_q, aSh, shQ, gShs, gSh, eShs, eSh]; refine Fin.val rfl ?_; (try simp only [AV.le, AV.leL])); all_goals first | rfl | (simp; done))
  have c1' : decide ((L.coins.length : Int) = 1) = false := decide_eq_false (by omega)
  have wR : IntKind.wrap .i64 ((L.rates.length : Int) - 1) = (L.rates.length : Int) - 1 := wrap64 (by omega) (by omega)
  have wC : IntKind.wrap .i64 ((L.coins.length : Int) - 1) = (L.coins.length : Int) - 1 := wrap64 (by omega) (by omega)
  have u1 := upV_le (x := y) (m := (L.rates.length : Int) - 1) (by omega) (by omega)
  obtain ⟨D, hD⟩ : ∃ D, upV y ((L.rates.length : Int) - 1) = D := ⟨_, rfl⟩
  obtain ⟨y1, hy1⟩ : ∃ z, upS y ((L.rates.length : Int) - 1) = z := ⟨_, rfl⟩
  have u2 := upV_le (x := y1) (m := (L.coins.length : Int) - 1) (by omega) (by omega)
  obtain ⟨F, hF⟩ : ∃ D, upV y1 ((L.coins.length : Int) - 1) = D := ⟨_, rfl⟩
  obtain ⟨y2, hy2⟩ : ∃ z, upS y1 ((L.coins.length : Int) - 1) = z := ⟨_, rfl⟩
  have u3 := upV_le (x := y2) (m := (L.coins.length : Int) - 1 - 1) (by omega) (by omega)
  obtain ⟨g, hg⟩ : ∃ g, 1 + upV y2 ((L.coins.length : Int) - 1 - 1) = g := ⟨_, rfl⟩
  obtain ⟨y3, hy3⟩ : ∃ z, upS y2 ((L.coins.length : Int) - 1 - 1) = z := ⟨_, rfl⟩
  rw [hD] at u1
  rw [hF] at u2
  have u3 : 1 ≤ g ∧ g ≤ (L.coins.length : Int) - 1 := by omega
  have hTb := foldV_bd (x := F + g) (n := (L.coins.length : Int)) (by omega)
  have hTn := foldV_ne u2.1 u3.1 u3.2
  have wT : IntKind.wrap .i64 (F + g) = F + g := wrap64 (by omega) (by omega)
  obtain ⟨T, hT⟩ : ∃ T, foldV (F + g) (L.coins.length : Int) = T := ⟨_, rfl⟩
  rw [hT] at hTb hTn
  have u4 := upV_le (x := y3) (m := 60) (by decide) (by decide)
  obtain ⟨am, hA⟩ : ∃ g, upV y3 60 = g := ⟨_, rfl⟩
  obtain ⟨y4, hy4⟩ : ∃ z, upS y3 60 = z := ⟨_, rfl⟩
  have u5 := upV_le (x := y4) (m := 20) (by decide) (by decide)
  obtain ⟨ic, hI⟩ : ∃ g, upV y4 20 = g := ⟨_, rfl⟩
  obtain ⟨y5, hy5⟩ : ∃ z, upS y4 20 = z := ⟨_, rfl⟩
  rw [hA] at u4
  rw [hI] at u5
  have wA : IntKind.wrap .i64 (am + ic) = am + ic := wrap64 (by omega) (by omega)
  have kT : 0 ≤ T ∧ T ≤ (L.coins.length : Int) - 1 := by omega
  have RF := val_rt hV u1.1 u1.2 u2.1 u2.2
  have RT := val_rt hV u1.1 u1.2 kT.1 kT.2
  have hs1 := aSwap_of (chkSwap_of hchk u1 u2 kT (Ne.symm hTn) (show 0 ≤ am ∧ am ≤ 999 by omega))
  have hs2 := aSwap_of (chkSwap_of hchk u1 u2 kT (Ne.symm hTn) (show 0 ≤ am + ic ∧ am + ic ≤ 999 by omega))
  have hw1 := aWorth_of (worth_of hchk u1 u2 (show 0 ≤ am ∧ am ≤ 999 by omega))
  have pF : 0 < rq L D F := Rat.lt_of_le_of_ne (Rat.num_nonneg.1 (by have := RF.n0; omega)) (Ne.symm (num_pos (by have := RF.n0; omega)))
  have pT : 0 < rq L D T := Rat.lt_of_le_of_ne (Rat.num_nonneg.1 (by have := RT.n0; omega)) (Ne.symm (num_pos (by have := RT.n0; omega)))
  have pT0 : rq L D T ≠ 0 := num_pos (by have := RT.n0; omega)
  have dF := RF.e1
  have nF := RF.n0
  have nF1 := RF.n1
  have dT := RT.e1
  have nT := RT.n0
  have nT1 := RT.n1
  have e1 : ((am : Int) : Rat) ≤ ((am + ic : Int) : Rat) := by exact_mod_cast (show am ≤ am + ic by omega)
  have hmono : (swapQ L D F T am).floor ≤ (swapQ L D F T (am + ic)).floor := by
    refine Rat.floor_monotone ?_
    unfold swapQ
    rw [← mul_le pT, q_cancel pT0, q_cancel pT0, Rat.mul_comm, Rat.mul_comm (rq L D F)]
    exact Rat.mul_le_mul_of_nonneg_right e1 (Rat.le_of_lt pF)
  have hq0 := (swapQ_nn RF RT (n := am) u4.1).2
  have hfl : ((swapQ L D F T am).floor : Rat) * rq L D T ≤ rq L D F * (am : Rat) := floor_mul_le pT
  have hlm : (swapQ L D F T am - ((swapQ L D F T am).floor : Rat)) * rq L D T = rq L D F * (am : Rat) - ((swapQ L D F T am).floor : Rat) * rq L D T := lost_mul pT0 _
  obtain ⟨k1, k2, k3⟩ := lost_bd (swapQ L D F T am)
  have hwF := snd_times (r := rq L D F) (n := am) (by omega) (by omega) (by omega)
  have kd : ((swapQ L D F T am).den : Int) ≤ 240 := div_den hwF.2 (by omega) (by omega)
  have n0 : 0 ≤ (swapQ L D F T am).floor := Rat.le_floor_iff.2 (by exact_mod_cast hq0)
  obtain ⟨n1, hn1⟩ : ∃ n, (swapQ L D F T am).floor = n := ⟨_, rfl⟩
  obtain ⟨n2, hn2⟩ : ∃ n, (swapQ L D F T (am + ic)).floor = n := ⟨_, rfl⟩
  obtain ⟨lo, hlo⟩ : ∃ q, swapQ L D F T am - ((swapQ L D F T am).floor : Rat) = q := ⟨_, rfl⟩
  obtain ⟨lo2, hlo2⟩ : ∃ q, swapQ L D F T (am + ic) - ((swapQ L D F T (am + ic)).floor : Rat) = q := ⟨_, rfl⟩
  rw [hlo] at k1 k2 k3 hlm hs1
  rw [hlo2] at hs2
  rw [hn1] at hs1 hmono hfl hlm n0
  rw [hn2] at hs2 hmono
  have kp := den_pos lo
  have sl : 0 < (lo.den : Int) ∧ (lo.den : Int) ≤ 27720 ∧ -68719476736 < lo.num ∧ lo.num < 68719476736 := by omega
  have f1 : ¬ n1 < 0 := by omega
  have f2 : ¬ n2 < n1 := by omega
  have f3 : ¬ lo.num < 0 := by omega
  have f4 : ¬ (lo.den : Int) ≤ lo.num := by omega
  by_cases c2 : 999 < n1
  · repeat' (first | refine zq0 ?_ | refine zq1 ?_ | refine zq2 ?_ | refine zq3 ?_ | refine zq4 ?_ | refine zq5 ?_ | refine thenK_n ?_ | refine thenK_x ?_ | refine thenK_r ?_ | refine blockK_n ?_ | refine blockK_r ?_ | refine blockK_hit ?_ | refine blockK_miss (by decide) ?_ | ((first | refine sym_reg env fun Q hQ => ?_ | refine sym_cz fun Q hQ => ?_); simp only [vkt, Nat.reduceEqDiff, Nat.reduceAdd, Nat.reduceMul, Nat.reduceSub, Nat.reduceLeDiff, reduceCtorEq, ↓reduceIte, ↓reduceDIte, Int.reduceToNat, Int.reduceLE, Int.reduceLT, Int.reduceEq, Int.reduceNeg, tbG15_10, aI, aB, aLed, cLed, bgH, aInts, mInt, eInt, gInt, c19, p20, p21, p22, p27, s54, c48, cWorth, s41, s100, s139, isL_e, ldOf_e, isQ_q, qI_q, aSh, shQ, gShs, gSh, eShs, eSh, hL, hy, c1', wR, wC, hD, hy1, hF, hy2, hg, hy3, wT, hT, hA, hy4, hI, hy5, wA, hs1, hs2, f1, f2, f3, f4, c2]; (try simp only [ite_and]); (repeat' (first | with_reducible assumption | refine And.intro ?_ ?_)); all_goals (first | (refine hQ _ ?_; clear hQ; clear Q) | (refine hQ _ (fun h => ?_) (fun h => ?_) <;> clear hQ <;> clear Q <;> (try simp only [vki, reduceCtorEq] at h)) | omega | (with_reducible assumption) | (with_reducible rfl) | (refine drawB_of ?_; kernel_rfl) | skip)))
    (simp only [retK, leaveA, resL, tupA, rd, wCells_some, wRow_some, Try.results10, vkt, Nat.reduceEqDiff, Nat.reduceAdd, Nat.reduceMul, Nat.reduceSub, Nat.reduceLeDiff, reduceCtorEq, ↓reduceIte, ↓reduceDIte, Int.reduceToNat, Int.reduceLE, Int.reduceLT, Int.reduceEq, Int.reduceNeg, tbG15_10, aI, aB, aLed, cLed, bgH, aInts, mInt, eInt, gInt, c19, p20, p21, p22, p27, s54, c48, cWorth, s41, s100, s139, isL_e, ldOf_e, isQ_q, qI_q, aSh, shQ, gShs, gSh, eShs, eSh]; refine Fin.val rfl ?_; (try simp only [AV.le, AV.leL]))
    all_goals first | rfl | (simp; done)
  have nb : 0 ≤ n1 ∧ n1 ≤ 999 := by omega
  have hs3 := aSwap_of (chkSwap_of hchk u1 kT u2 hTn nb)
  have hw2 := aWorth_of (worth_of hchk u1 kT nb)
  have hback : (swapQ L D T F n1).floor ≤ am := back_le pF hfl
  have hwT := snd_times (r := rq L D T) (n := n1) (by omega) (by omega) (by omega)
  have hcm : (n1 : Rat) * rq L D T = rq L D T * (n1 : Rat) := Rat.mul_comm _ _
  rw [hcm] at hlm
  obtain ⟨r1, r2⟩ := rsh_nd RT
  have t1 := RT.d0
  have t2 := RT.d1
  have t3 := RT.c0
  have t4 := RT.c1
  obtain ⟨bk, hbk⟩ : ∃ n, (swapQ L D T F n1).floor = n := ⟨_, rfl⟩
  obtain ⟨lb, hlb⟩ : ∃ q, swapQ L D T F n1 - ((swapQ L D T F n1).floor : Rat) = q := ⟨_, rfl⟩
  rw [hlb, hbk] at hs3
  rw [hbk] at hback
  obtain ⟨wa, hwa⟩ : ∃ q, rq L D F * (am : Rat) = q := ⟨_, rfl⟩
  obtain ⟨wb, hwb⟩ : ∃ q, rq L D T * (n1 : Rat) = q := ⟨_, rfl⟩
  rw [hwa] at hw1 hwF hlm
  rw [hwb] at hw2 hwT hlm
  obtain ⟨⟨a1, a2, a3⟩, _⟩ := hwF
  obtain ⟨⟨b1, b2, b3⟩, _⟩ := hwT
  have pa := den_pos wa
  have pb := den_pos wb
  have sa : 0 < (wa.den : Int) ∧ (wa.den : Int) ≤ 27720 ∧ -68719476736 < wa.num ∧ wa.num < 68719476736 := by omega
  have sb : 0 < (wb.den : Int) ∧ (wb.den : Int) ≤ 27720 ∧ -68719476736 < wb.num ∧ wb.num < 68719476736 := by omega
  have ma : Sm wa := ⟨by omega, by omega, by omega⟩
  have mb : Sm wb := ⟨by omega, by omega, by omega⟩
  have pq := den_pos (rq L D T)
  obtain ⟨rn, hrn⟩ : ∃ n, (rq L D T).num = n := ⟨_, rfl⟩
  obtain ⟨rde, hrd⟩ : ∃ n, (rq L D T).den = n := ⟨_, rfl⟩
  have hof : mkRat (lo.num * rn) ((lo.den : Int) * (rde : Int)).toNat = wa - wb := by
    have h := Rat.mkRat_mul_mkRat lo.num (rq L D T).num lo.den (rq L D T).den
    rw [Rat.mkRat_self, Rat.mkRat_self, hlm, hrn, hrd] at h
    rw [← Int.natCast_mul, Int.toNat_natCast]
    exact h.symm
  rw [hrn] at r1 nT nT1
  rw [hrd] at r2 dT pq
  have m1 : 0 ≤ lo.num * rn ∧ lo.num * rn ≤ 240 * 20 := ⟨Int.mul_nonneg k1 (by omega), Int.mul_le_mul (by omega) nT1 (by omega) (by decide)⟩
  have m2 : 0 < (lo.den : Int) * (rde : Int) ∧ (lo.den : Int) * (rde : Int) ≤ 240 * 12 := ⟨Int.mul_pos kp pq, Int.mul_le_mul (by omega) (by omega) (by omega) (by decide)⟩
  have w7 := wrap64 (n := lo.num * rn) (by omega) (by omega)
  have w8 := wrap64 (n := (lo.den : Int) * (rde : Int)) (by omega) (by omega)
  have w9 : OfOk (lo.num * rn) ((lo.den : Int) * (rde : Int)) := ⟨by omega, by omega, by omega, by omega⟩
  have f5 : ¬ am < bk := by omega
  repeat' (first | refine zq0 ?_ | refine zq1 ?_ | refine zq2 ?_ | refine zq3 ?_ | refine zq4 ?_ | refine zq5 ?_ | refine thenK_n ?_ | refine thenK_x ?_ | refine thenK_r ?_ | refine blockK_n ?_ | refine blockK_r ?_ | refine blockK_hit ?_ | refine blockK_miss (by decide) ?_ | ((first | refine sym_reg env fun Q hQ => ?_ | refine sym_cz fun Q hQ => ?_); simp only [vkt, Nat.reduceEqDiff, Nat.reduceAdd, Nat.reduceMul, Nat.reduceSub, Nat.reduceLeDiff, reduceCtorEq, ↓reduceIte, ↓reduceDIte, Int.reduceToNat, Int.reduceLE, Int.reduceLT, Int.reduceEq, Int.reduceNeg, tbG15_10, aI, aB, aLed, cLed, bgH, aInts, mInt, eInt, gInt, c19, p20, p21, p22, p27, s54, c48, cWorth, s41, s100, s139, isL_e, ldOf_e, isQ_q, qI_q, aSh, shQ, gShs, gSh, eShs, eSh, hL, hy, c1', wR, wC, hD, hy1, hF, hy2, hg, hy3, wT, hT, hA, hy4, hI, hy5, wA, hs1, hs2, f1, f2, f3, f4, c2, hs3, hw1, hw2, f5, r1, r2, w7, w8, hof]; (try simp only [ite_and]); (repeat' (first | with_reducible assumption | refine And.intro ?_ ?_)); all_goals (first | (refine hQ _ ?_; clear hQ; clear Q) | (refine hQ _ (fun h => ?_) (fun h => ?_) <;> clear hQ <;> clear Q <;> (try simp only [vki, reduceCtorEq] at h)) | omega | (with_reducible assumption) | (with_reducible rfl) | (refine drawB_of ?_; kernel_rfl) | skip)))
  (simp only [retK, leaveA, resL, tupA, rd, wCells_some, wRow_some, Try.results10, vkt, Nat.reduceEqDiff, Nat.reduceAdd, Nat.reduceMul, Nat.reduceSub, Nat.reduceLeDiff, reduceCtorEq, ↓reduceIte, ↓reduceDIte, Int.reduceToNat, Int.reduceLE, Int.reduceLT, Int.reduceEq, Int.reduceNeg, tbG15_10, aI, aB, aLed, cLed, bgH, aInts, mInt, eInt, gInt, c19, p20, p21, p22, p27, s54, c48, cWorth, s41, s100, s139, isL_e, ldOf_e, isQ_q, qI_q, aSh, shQ, gShs, gSh, eShs, eSh]; refine Fin.val rfl ?_; (try simp only [AV.le, AV.leL]))
  all_goals first | rfl | (simp; done)
end Go.Sym.B
