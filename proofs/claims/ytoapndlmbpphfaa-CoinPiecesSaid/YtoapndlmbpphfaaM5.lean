/- Walks and what they compute, joined: part 5. -/
import Derived.ControlIn
import Derived.CallsIn
import Derived.OrdersIn
import Derived.RangeFuncRecord
import Derived.Maps.AppendAt
import Derived.OwnWalk
import Derived.Below
import Derived.Laws.StructEq
import Derived.Laws.Cells
import Derived.Laws.CopyRow
import Derived.Laws.Slices
import Derived.Laws.MakeOwn
import Derived.RangeFuncLeaves
import Derived.Scope
import Derived.Test.YtoapndlmbpphfaaProg
import Derived.KernelRfl
import Derived.Test.YtoapndlmbpphfaaM4
set_option linter.all false
namespace Go.Sym.B
open Go Go.Sym Go.Proofs Go.Sym.C
theorem rateOf_fn (x : Int) : Fn noB Try.prog 84 [.ptr 0 0] (hasg (bgH x)) (aSh (rtV x)) (hasg (bgH (rtS x))) 0 := by
  have env : Env (fun _ => True) Try.prog tyB (tab [(21, fnE p21)]) := mkEnv ⟨e21, trivial⟩
  refine Fn.of (A := fun _ => True) (n0 := 1) (D := noD) (Fn0 Try.func84 rfl (fun vs w => by kernel_rfl) (by kernel_rfl)) (by simp) (by simp [AV.ids]) ?_ (fun _ _ _ _ => trivial) noD_ok ?_
  · intro i o hi
    have h := hasg_mem hi
    simp [bgH] at h
    rcases h with ⟨rfl, rfl⟩; simp [AObj.ids, AV.ids, AV.idsL]
  have hb := rt_bd7 x
  obtain ⟨n0, hn0⟩ : ∃ n : Nat, rtN x = (n : Int) := ⟨(rtN x).toNat, by omega⟩
  obtain ⟨d0, hd0⟩ : ∃ n : Nat, rtD x = (n : Int) := ⟨(rtD x).toNat, by omega⟩
  rw [hn0, hd0] at hb
  have hV : rtV x = shQ (mkRat n0 d0) := by unfold rtV; rw [hn0, hd0]; rfl
  have hn0' : 1 + upV (upS x (12 - 1)) (20 - 1) = (n0 : Int) := hn0
  have hd0' : 1 + upV x (12 - 1) = (d0 : Int) := hd0
  have hS : upS (upS x (12 - 1)) (20 - 1) = rtS x := rfl
  repeat' (first | refine zq0 ?_ | refine zq1 ?_ | refine zq2 ?_ | refine zq3 ?_ | refine zq4 ?_ | refine zq5 ?_ | refine thenK_n ?_ | refine thenK_x ?_ | refine thenK_r ?_ | refine blockK_n ?_ | refine blockK_r ?_ | refine blockK_hit ?_ | refine blockK_miss (by decide) ?_ | ((first | refine sym_reg env fun Q hQ => ?_ | refine sym_cz fun Q hQ => ?_); simp only [vkt, Nat.reduceEqDiff, Nat.reduceAdd, Nat.reduceMul, Nat.reduceSub, Nat.reduceLeDiff, reduceCtorEq, ↓reduceIte, ↓reduceDIte, Int.reduceToNat, Int.reduceLE, Int.reduceLT, Int.reduceEq, Int.reduceNeg, tbG7_84, aI, aB, aSh, bgH, p21, rtT, tmodN, hn0', hd0', hS]; (try simp only [ite_and]); (repeat' (first | with_reducible assumption | refine And.intro ?_ ?_ | intro hp)); all_goals (first | (refine hQ _ ?_; clear hQ; clear Q) | (refine hQ _ (fun h => ?_) (fun h => ?_) <;> clear hQ <;> clear Q <;> (try simp only [vki, reduceCtorEq] at h)) | omega | assumption | (with_reducible rfl) | (refine drawB_of ?_; kernel_rfl) | skip)))
  refine sym_loop (fun i : (k : { k : Nat // 1 ≤ k ∧ k ≤ 12 }) × RI n0 d0 k.1 => rtT (rtS x) i.1.1 i.2.n i.2.d) (fun i => i.1.1) ⟨⟨12, by decide⟩, ⟨n0, d0, by omega, Nat.le_refl _, by omega, Nat.le_refl _, Nat.mul_comm _ _, fun j h1 h2 => by have : 12 < j := h1; omega⟩⟩ ?_ fun ⟨⟨k, hk⟩, i⟩ => ?_
  · (refine Le.ok some [] ⟨?_, ?_, ?_, ?_, ?_, ?_, ?_, ?_, ?_, ?_, ?_⟩; all_goals (try simp only [leT, leH, leO, ADf.leL, imgs, idsT, idsH, List.filterMap_cons, List.filterMap_nil, List.flatMap_nil, Nat.lt_irrefl, Nat.not_lt_zero, vkt, Nat.reduceEqDiff, Nat.reduceAdd, Nat.reduceMul, Nat.reduceSub, Nat.reduceLeDiff, reduceCtorEq, ↓reduceIte, ↓reduceDIte, Int.reduceToNat, Int.reduceLE, Int.reduceLT, Int.reduceEq, Int.reduceNeg, tbG7_84, aI, aB, aSh, bgH, p21, rtT, tmodN]))
    all_goals first | rfl | (simp; done)
  · repeat' (first | refine zq0 ?_ | refine zq1 ?_ | refine zq2 ?_ | refine zq3 ?_ | refine zq4 ?_ | refine zq5 ?_ | refine thenK_n ?_ | refine thenK_x ?_ | refine thenK_r ?_ | refine blockK_n ?_ | refine blockK_r ?_ | refine blockK_hit ?_ | refine blockK_miss (by decide) ?_)
    (refine sym_reg env fun Q hQ => ?_; simp only [vkt, Nat.reduceEqDiff, Nat.reduceAdd, Nat.reduceMul, Nat.reduceSub, Nat.reduceLeDiff, reduceCtorEq, ↓reduceIte, ↓reduceDIte, Int.reduceToNat, Int.reduceLE, Int.reduceLT, Int.reduceEq, Int.reduceNeg, tbG7_84, aI, aB, aSh, bgH, p21, rtT, tmodN]; (try simp only [ite_and]); (repeat' (first | with_reducible assumption | refine And.intro ?_ ?_ | intro hp)); all_goals (first | (refine hQ _ ?_; clear hQ; clear Q) | omega | assumption | (with_reducible rfl) | (refine drawB_of ?_; kernel_rfl) | skip))
    repeat' (first | refine zq0 ?_ | refine zq1 ?_ | refine zq2 ?_ | refine zq3 ?_ | refine zq4 ?_ | refine zq5 ?_ | refine thenK_n ?_ | refine thenK_x ?_ | refine thenK_r ?_ | refine blockK_n ?_ | refine blockK_r ?_ | refine blockK_hit ?_ | refine blockK_miss (by decide) ?_)
    (refine sym_cd (by simp only [vkt, Nat.reduceEqDiff, Nat.reduceAdd, Nat.reduceMul, Nat.reduceSub, Nat.reduceLeDiff, reduceCtorEq, ↓reduceIte, ↓reduceDIte, Int.reduceToNat, Int.reduceLE, Int.reduceLT, Int.reduceEq, Int.reduceNeg, tbG7_84, aI, aB, aSh, bgH, p21, rtT, tmodN]; rfl) (fun h => ?_) (fun h => ?_) <;> (try simp only [vki, reduceCtorEq] at h))
    · have hk2 : 1 < k := by omega
      repeat' (first | refine zq0 ?_ | refine zq1 ?_ | refine zq2 ?_ | refine zq3 ?_ | refine zq4 ?_ | refine zq5 ?_ | refine thenK_n ?_ | refine thenK_x ?_ | refine thenK_r ?_ | refine blockK_n ?_ | refine blockK_r ?_ | refine blockK_hit ?_ | refine blockK_miss (by decide) ?_)
      refine sym_loop (fun i : RI n0 d0 k => rtT (rtS x) k i.n i.d) (fun i => i.n) i ?_ fun i => ?_
      · (refine Le.ok some [] ⟨?_, ?_, ?_, ?_, ?_, ?_, ?_, ?_, ?_, ?_, ?_⟩; all_goals (try simp only [leT, leH, leO, ADf.leL, imgs, idsT, idsH, List.filterMap_cons, List.filterMap_nil, List.flatMap_nil, Nat.lt_irrefl, Nat.not_lt_zero, vkt, Nat.reduceEqDiff, Nat.reduceAdd, Nat.reduceMul, Nat.reduceSub, Nat.reduceLeDiff, reduceCtorEq, ↓reduceIte, ↓reduceDIte, Int.reduceToNat, Int.reduceLE, Int.reduceLT, Int.reduceEq, Int.reduceNeg, tbG7_84, aI, aB, aSh, bgH, p21, rtT, tmodN]))
        all_goals first | rfl | (simp; done)
      · have i1 := i.n1
        have i2 := i.n2
        have i3 := i.d1
        have i4 := i.d2
        have nz : ¬ (k : Int) = 0 := by omega
        have r1 : i.n % k = 0 ↔ k ∣ i.n := (Nat.dvd_iff_mod_eq_zero ..).symm
        have r2 : i.d % k = 0 ↔ k ∣ i.d := (Nat.dvd_iff_mod_eq_zero ..).symm
        have w1 : IntKind.wrap .i64 ((i.n : Int).tdiv (k : Int)) = ((i.n / k : Nat) : Int) := wdiv (by omega)
        have w2 : IntKind.wrap .i64 ((i.d : Int).tdiv (k : Int)) = ((i.d / k : Nat) : Int) := wdiv (by omega)
        have w3 : IntKind.wrap .i64 ((k : Int) - 1) = ((k - 1 : Nat) : Int) := by rw [wrap64 (by omega) (by omega)]; omega
        by_cases c1 : i.n % k = 0
        · by_cases c2 : i.d % k = 0
          · have c1' : (((i.n % k : Nat) : Int) = 0) := by omega
            have c2' : (((i.d % k : Nat) : Int) = 0) := by omega
            repeat' (first | refine zq0 ?_ | refine zq1 ?_ | refine zq2 ?_ | refine zq3 ?_ | refine zq4 ?_ | refine zq5 ?_ | refine thenK_n ?_ | refine thenK_x ?_ | refine thenK_r ?_ | refine blockK_n ?_ | refine blockK_r ?_ | refine blockK_hit ?_ | refine blockK_miss (by decide) ?_ | ((first | refine sym_reg env fun Q hQ => ?_ | refine sym_cz fun Q hQ => ?_); simp only [vkt, Nat.reduceEqDiff, Nat.reduceAdd, Nat.reduceMul, Nat.reduceSub, Nat.reduceLeDiff, reduceCtorEq, ↓reduceIte, ↓reduceDIte, Int.reduceToNat, Int.reduceLE, Int.reduceLT, Int.reduceEq, Int.reduceNeg, tbG7_84, aI, aB, aSh, bgH, p21, rtT, tmodN, nz, c1', c2', w1, w2]; (try simp only [ite_and]); (repeat' (first | with_reducible assumption | refine And.intro ?_ ?_ | intro hp)); all_goals (first | (refine hQ _ ?_; clear hQ; clear Q) | (refine hQ _ (fun h => ?_) (fun h => ?_) <;> clear hQ <;> clear Q <;> (try simp only [vki, reduceCtorEq] at h)) | omega | assumption | (with_reducible rfl) | (refine drawB_of ?_; kernel_rfl) | skip)))
            refine ⟨i.div (by omega) (r1.1 c1) (r2.1 c2), by show i.n / k < i.n; exact Nat.div_lt_self (by omega) hk2, ?_⟩
            (refine Le.ok some [] ⟨?_, ?_, ?_, ?_, ?_, ?_, ?_, ?_, ?_, ?_, ?_⟩; all_goals (try simp only [leT, leH, leO, ADf.leL, imgs, idsT, idsH, List.filterMap_cons, List.filterMap_nil, List.flatMap_nil, Nat.lt_irrefl, Nat.not_lt_zero, vkt, Nat.reduceEqDiff, Nat.reduceAdd, Nat.reduceMul, Nat.reduceSub, Nat.reduceLeDiff, reduceCtorEq, ↓reduceIte, ↓reduceDIte, Int.reduceToNat, Int.reduceLE, Int.reduceLT, Int.reduceEq, Int.reduceNeg, tbG7_84, aI, aB, aSh, bgH, p21, rtT, tmodN]))
            all_goals first | rfl | (simp [RI.div]; done)
          · have c1' : (((i.n % k : Nat) : Int) = 0) := by omega
            have c2' : ¬ (((i.d % k : Nat) : Int) = 0) := by omega
            obtain ⟨m, rfl⟩ : ∃ m, k = m + 1 := ⟨k - 1, by omega⟩
            repeat' (first | refine zq0 ?_ | refine zq1 ?_ | refine zq2 ?_ | refine zq3 ?_ | refine zq4 ?_ | refine zq5 ?_ | refine thenK_n ?_ | refine thenK_x ?_ | refine thenK_r ?_ | refine blockK_n ?_ | refine blockK_r ?_ | refine blockK_hit ?_ | refine blockK_miss (by decide) ?_ | ((first | refine sym_reg env fun Q hQ => ?_ | refine sym_cz fun Q hQ => ?_); simp only [vkt, Nat.reduceEqDiff, Nat.reduceAdd, Nat.reduceMul, Nat.reduceSub, Nat.reduceLeDiff, reduceCtorEq, ↓reduceIte, ↓reduceDIte, Int.reduceToNat, Int.reduceLE, Int.reduceLT, Int.reduceEq, Int.reduceNeg, tbG7_84, aI, aB, aSh, bgH, p21, rtT, tmodN, nz, c1', c2', w3]; (try simp only [ite_and]); (repeat' (first | with_reducible assumption | refine And.intro ?_ ?_ | intro hp)); all_goals (first | (refine hQ _ ?_; clear hQ; clear Q) | (refine hQ _ (fun h => ?_) (fun h => ?_) <;> clear hQ <;> clear Q <;> (try simp only [vki, reduceCtorEq] at h)) | omega | assumption | (with_reducible rfl) | (refine drawB_of ?_; kernel_rfl) | skip)))
            refine ⟨⟨⟨m, by omega, by omega⟩, i.less fun h => c2 (r2.2 h.2)⟩, by show m < m + 1; omega, ?_⟩
            (refine Le.ok some [] ⟨?_, ?_, ?_, ?_, ?_, ?_, ?_, ?_, ?_, ?_, ?_⟩; all_goals (try simp only [leT, leH, leO, ADf.leL, imgs, idsT, idsH, List.filterMap_cons, List.filterMap_nil, List.flatMap_nil, Nat.lt_irrefl, Nat.not_lt_zero, vkt, Nat.reduceEqDiff, Nat.reduceAdd, Nat.reduceMul, Nat.reduceSub, Nat.reduceLeDiff, reduceCtorEq, ↓reduceIte, ↓reduceDIte, Int.reduceToNat, Int.reduceLE, Int.reduceLT, Int.reduceEq, Int.reduceNeg, tbG7_84, aI, aB, aSh, bgH, p21, rtT, tmodN]))
            all_goals first | rfl | (simp [RI.less]; done)
        · have c1' : ¬ (((i.n % k : Nat) : Int) = 0) := by omega
          obtain ⟨m, rfl⟩ : ∃ m, k = m + 1 := ⟨k - 1, by omega⟩
          repeat' (first | refine zq0 ?_ | refine zq1 ?_ | refine zq2 ?_ | refine zq3 ?_ | refine zq4 ?_ | refine zq5 ?_ | refine thenK_n ?_ | refine thenK_x ?_ | refine thenK_r ?_ | refine blockK_n ?_ | refine blockK_r ?_ | refine blockK_hit ?_ | refine blockK_miss (by decide) ?_ | ((first | refine sym_reg env fun Q hQ => ?_ | refine sym_cz fun Q hQ => ?_); simp only [vkt, Nat.reduceEqDiff, Nat.reduceAdd, Nat.reduceMul, Nat.reduceSub, Nat.reduceLeDiff, reduceCtorEq, ↓reduceIte, ↓reduceDIte, Int.reduceToNat, Int.reduceLE, Int.reduceLT, Int.reduceEq, Int.reduceNeg, tbG7_84, aI, aB, aSh, bgH, p21, rtT, tmodN, nz, c1', w3]; (try simp only [ite_and]); (repeat' (first | with_reducible assumption | refine And.intro ?_ ?_ | intro hp)); all_goals (first | (refine hQ _ ?_; clear hQ; clear Q) | (refine hQ _ (fun h => ?_) (fun h => ?_) <;> clear hQ <;> clear Q <;> (try simp only [vki, reduceCtorEq] at h)) | omega | assumption | (with_reducible rfl) | (refine drawB_of ?_; kernel_rfl) | skip)))
          refine ⟨⟨⟨m, by omega, by omega⟩, i.less fun h => c1 (r1.2 h.1)⟩, by show m < m + 1; omega, ?_⟩
          (refine Le.ok some [] ⟨?_, ?_, ?_, ?_, ?_, ?_, ?_, ?_, ?_, ?_, ?_⟩; all_goals (try simp only [leT, leH, leO, ADf.leL, imgs, idsT, idsH, List.filterMap_cons, List.filterMap_nil, List.flatMap_nil, Nat.lt_irrefl, Nat.not_lt_zero, vkt, Nat.reduceEqDiff, Nat.reduceAdd, Nat.reduceMul, Nat.reduceSub, Nat.reduceLeDiff, reduceCtorEq, ↓reduceIte, ↓reduceDIte, Int.reduceToNat, Int.reduceLE, Int.reduceLT, Int.reduceEq, Int.reduceNeg, tbG7_84, aI, aB, aSh, bgH, p21, rtT, tmodN]))
          all_goals first | rfl | (simp [RI.less]; done)
    · have hk1 : k = 1 := by omega
      subst hk1
      have hl := i.last (by omega) (by omega)
      rw [hV, hl]
      repeat' (first | refine zq0 ?_ | refine zq1 ?_ | refine zq2 ?_ | refine zq3 ?_ | refine zq4 ?_ | refine zq5 ?_ | refine thenK_n ?_ | refine thenK_x ?_ | refine thenK_r ?_ | refine blockK_n ?_ | refine blockK_r ?_ | refine blockK_hit ?_ | refine blockK_miss (by decide) ?_ | ((first | refine sym_reg env fun Q hQ => ?_ | refine sym_cz fun Q hQ => ?_); simp only [vkt, Nat.reduceEqDiff, Nat.reduceAdd, Nat.reduceMul, Nat.reduceSub, Nat.reduceLeDiff, reduceCtorEq, ↓reduceIte, ↓reduceDIte, Int.reduceToNat, Int.reduceLE, Int.reduceLT, Int.reduceEq, Int.reduceNeg, tbG7_84, aI, aB, aSh, bgH, p21, rtT, tmodN]; (try simp only [ite_and]); (repeat' (first | with_reducible assumption | refine And.intro ?_ ?_ | intro hp)); all_goals (first | (refine hQ _ ?_; clear hQ; clear Q) | (refine hQ _ (fun h => ?_) (fun h => ?_) <;> clear hQ <;> clear Q <;> (try simp only [vki, reduceCtorEq] at h)) | omega | assumption | (with_reducible rfl) | (refine drawB_of ?_; kernel_rfl) | skip)))
      (simp only [retK, leaveA, resL, tupA, rd, wCells_some, wRow_some, Try.results84, vkt, Nat.reduceEqDiff, Nat.reduceAdd, Nat.reduceMul, Nat.reduceSub, Nat.reduceLeDiff, reduceCtorEq, ↓reduceIte, ↓reduceDIte, Int.reduceToNat, Int.reduceLE, Int.reduceLT, Int.reduceEq, Int.reduceNeg, tbG7_84, aI, aB, aSh, bgH, p21, rtT, tmodN]; refine Fin.ok some [] ?_ ?_ ?_ ?_ ?_ rfl; all_goals (try simp only [leT, leH, leO, ADf.leL, imgs, idsT, idsH, List.filterMap_cons, List.filterMap_nil, List.flatMap_nil, Nat.lt_irrefl, Nat.not_lt_zero, vkt, Nat.reduceEqDiff, Nat.reduceAdd, Nat.reduceMul, Nat.reduceSub, Nat.reduceLeDiff, reduceCtorEq, ↓reduceIte, ↓reduceDIte, Int.reduceToNat, Int.reduceLE, Int.reduceLT, Int.reduceEq, Int.reduceNeg, tbG7_84, aI, aB, aSh, bgH, p21, rtT, tmodN]))
      all_goals first | rfl | (simp; done)
noncomputable def p84 (S : St) : List AV → Option Pk
  | [.ptr i 0] => match S.h i with
    | some (.cells [.v (.int .u64 x)]) => some { hs := [i], ar := [.ptr 0 0], L0 := [.cells [.v (.int .u64 x)]], v := .agg [.v (.int .i64 (rtV x).num), .v (.int .i64 (rtV x).den)], L1 := [some (.cells [.v (.int .u64 (rtS x))])], fl := true }
    | _ => none
  | _ => none
theorem e84 {A : Frm → Prop} : EntryOK A Try.prog 84 (fnE p84) := fnE_ok fun S bs q h hp => by
  unfold p84 at h
  split at h
  · split at h
    · cases h; exact rateOf_fn _
    · cases h
  · cases h
noncomputable def oneV (x : Int) (l : List Int) : Int := l.getD (upV x ((l.length : Int) - 1)).toNat 0
theorem upV_le {x m : Int} (h0 : 0 ≤ m) (h : m < 9223372036854775807) : 0 ≤ upV x m ∧ upV x m ≤ m := by
  have := upV_bd (x := x) h; omega
theorem oneV_mem {x : Int} {l : List Int} (h1 : 1 ≤ l.length) (h2 : l.length ≤ 100) : oneV x l ∈ l := by
  have := upV_le (x := x) (m := (l.length : Int) - 1) (by omega) (by omega)
  exact gMem (by omega)
def tbG7_85 := And.intro @ty3 (And.intro @ty22 (And.intro @ti3.eq_1 @ti22.eq_1))
theorem one_fn (x : Int) (l : List Int) (h1 : 1 ≤ l.length) (h2 : l.length ≤ 100) : Fn noB Try.prog 85 [.ptr 0 0, aInts l] (hasg (bgH x)) (aI (oneV x l)) (hasg (bgH (upS x ((l.length : Int) - 1)))) 0 := by
  have env : Env (fun _ => True) Try.prog tyB (tab [(22, fnE p22)]) := mkEnv ⟨e22, trivial⟩
  refine Fn.of (A := fun _ => True) (n0 := 1) (D := noD) (Fn0 Try.func85 rfl (fun vs w => by kernel_rfl) (by kernel_rfl)) (by simp) (by simp [AV.ids, AV.idsL, aInts]) ?_ (fun _ _ _ _ => trivial) noD_ok ?_
  · intro i o hi
    have h := hasg_mem hi
    simp [bgH] at h
    rcases h with ⟨rfl, rfl⟩; simp [AObj.ids, AV.ids, AV.idsL]
  have hu := upV_le (x := x) (m := (l.length : Int) - 1) (by omega) (by omega)
  have w1 : IntKind.wrap .i64 ((l.length : Int) - 1) = (l.length : Int) - 1 := wrap64 (by omega) (by omega)
  have nz : ¬ (l.length : Int) = 0 := by omega
  have h3 : (l.length : Int) - 1 < 9223372036854775807 := by omega
  have h4 : (upV x ((l.length : Int) - 1)).toNat < l.length := by omega
  repeat' (first | refine zq0 ?_ | refine zq1 ?_ | refine zq2 ?_ | refine zq3 ?_ | refine zq4 ?_ | refine zq5 ?_ | refine thenK_n ?_ | refine thenK_x ?_ | refine thenK_r ?_ | refine blockK_n ?_ | refine blockK_r ?_ | refine blockK_hit ?_ | refine blockK_miss (by decide) ?_ | ((first | refine sym_reg env fun Q hQ => ?_ | refine sym_cz fun Q hQ => ?_); simp only [vkt, Nat.reduceEqDiff, Nat.reduceAdd, Nat.reduceMul, Nat.reduceSub, Nat.reduceLeDiff, reduceCtorEq, ↓reduceIte, ↓reduceDIte, Int.reduceToNat, Int.reduceLE, Int.reduceLT, Int.reduceEq, Int.reduceNeg, tbG7_85, aI, aB, aInts, bgH, p22, gInt, eInt, w1, nz]; (try simp only [ite_and]); (repeat' (first | with_reducible assumption | refine And.intro ?_ ?_ | intro hp)); all_goals (first | (refine hQ _ ?_; clear hQ; clear Q) | (refine hQ _ (fun h => ?_) (fun h => ?_) <;> clear hQ <;> clear Q <;> (try simp only [vki, reduceCtorEq] at h)) | omega | assumption | (with_reducible rfl) | (refine drawB_of ?_; kernel_rfl) | skip)))
  (simp only [retK, leaveA, resL, tupA, rd, wCells_some, wRow_some, Try.results85, vkt, Nat.reduceEqDiff, Nat.reduceAdd, Nat.reduceMul, Nat.reduceSub, Nat.reduceLeDiff, reduceCtorEq, ↓reduceIte, ↓reduceDIte, Int.reduceToNat, Int.reduceLE, Int.reduceLT, Int.reduceEq, Int.reduceNeg, tbG7_85, aI, aB, aInts, bgH, p22, gInt, eInt]; refine Fin.ok some [] ?_ ?_ ?_ ?_ ?_ rfl; all_goals (try simp only [leT, leH, leO, ADf.leL, imgs, idsT, idsH, List.filterMap_cons, List.filterMap_nil, List.flatMap_nil, Nat.lt_irrefl, Nat.not_lt_zero, vkt, Nat.reduceEqDiff, Nat.reduceAdd, Nat.reduceMul, Nat.reduceSub, Nat.reduceLeDiff, reduceCtorEq, ↓reduceIte, ↓reduceDIte, Int.reduceToNat, Int.reduceLE, Int.reduceLT, Int.reduceEq, Int.reduceNeg, tbG7_85, aI, aB, aInts, bgH, p22, gInt, eInt]))
  all_goals first | rfl | (simp; done)
noncomputable def p85 (S : St) : List AV → Option Pk
  | [.ptr i 0, .row r] => match S.h i with
    | some (.cells [.v (.int .u64 x)]) => match S.h r with
      | some (.row _ _ xs) => some { pre := xs = (xs.map dInt).map eInt ∧ 1 ≤ xs.length ∧ xs.length ≤ 100, hs := [i], bo := [r], ar := [.ptr 0 0, .sl xs], L0 := [.cells [.v (.int .u64 x)]], v := .v (.int .i64 (oneV x (xs.map dInt))), L1 := [some (.cells [.v (.int .u64 (upS x ((xs.length : Int) - 1)))])], fl := true }
      | _ => none
    | _ => none
  | _ => none
theorem e85 {A : Frm → Prop} : EntryOK A Try.prog 85 (fnE p85) := fnE_ok fun S bs q h hp => by
  unfold p85 at h
  split at h
  · split at h
    · split at h
      · cases h
        obtain ⟨h1, h2, h3⟩ := hp
        rename_i x _ _ _ _ xs _
        have := one_fn x (List.map dInt xs) (by rw [List.length_map]; exact h2) (by rw [List.length_map]; exact h3)
        simp only [aInts, ← h1, List.length_map] at this
        exact this
      · cases h
    · cases h
  · cases h
def tbG7_71 := And.intro @ty3 @ti3.eq_1
theorem chance_fn (x n m : Int) (h1 : 1 ≤ m) (h2 : m ≤ 1000) : Fn noB Try.prog 71 [.ptr 0 0, aI n, aI m] (hasg (bgH x)) (aB (decide (upV x (m - 1) < n))) (hasg (bgH (upS x (m - 1)))) 0 := by
  have env : Env (fun _ => True) Try.prog tyB (tab [(22, fnE p22)]) := mkEnv ⟨e22, trivial⟩
  refine Fn.of (A := fun _ => True) (n0 := 1) (D := noD) (Fn0 Try.func71 rfl (fun vs w => by kernel_rfl) (by kernel_rfl)) (by simp) (by simp [AV.ids, AV.idsL, aI]) ?_ (fun _ _ _ _ => trivial) noD_ok ?_
  · intro i o hi
    have h := hasg_mem hi
    simp [bgH] at h
    rcases h with ⟨rfl, rfl⟩; simp [AObj.ids, AV.ids, AV.idsL]
  have w1 : IntKind.wrap .i64 (m - 1) = m - 1 := wrap64 (by omega) (by omega)
  have h3 : m - 1 < 9223372036854775807 := by omega
  repeat' (first | refine zq0 ?_ | refine zq1 ?_ | refine zq2 ?_ | refine zq3 ?_ | refine zq4 ?_ | refine zq5 ?_ | refine thenK_n ?_ | refine thenK_x ?_ | refine thenK_r ?_ | refine blockK_n ?_ | refine blockK_r ?_ | refine blockK_hit ?_ | refine blockK_miss (by decide) ?_ | ((first | refine sym_reg env fun Q hQ => ?_ | refine sym_cz fun Q hQ => ?_); simp only [vkt, Nat.reduceEqDiff, Nat.reduceAdd, Nat.reduceMul, Nat.reduceSub, Nat.reduceLeDiff, reduceCtorEq, ↓reduceIte, ↓reduceDIte, Int.reduceToNat, Int.reduceLE, Int.reduceLT, Int.reduceEq, Int.reduceNeg, tbG7_71, aI, aB, aInts, bgH, p22, w1]; (try simp only [ite_and]); (repeat' (first | with_reducible assumption | refine And.intro ?_ ?_ | intro hp)); all_goals (first | (refine hQ _ ?_; clear hQ; clear Q) | (refine hQ _ (fun h => ?_) (fun h => ?_) <;> clear hQ <;> clear Q <;> (try simp only [vki, reduceCtorEq] at h)) | omega | assumption | (with_reducible rfl) | (refine drawB_of ?_; kernel_rfl) | skip)))
  (simp only [retK, leaveA, resL, tupA, rd, wCells_some, wRow_some, Try.results71, vkt, Nat.reduceEqDiff, Nat.reduceAdd, Nat.reduceMul, Nat.reduceSub, Nat.reduceLeDiff, reduceCtorEq, ↓reduceIte, ↓reduceDIte, Int.reduceToNat, Int.reduceLE, Int.reduceLT, Int.reduceEq, Int.reduceNeg, tbG7_71, aI, aB, aInts, bgH, p22]; refine Fin.ok some [] ?_ ?_ ?_ ?_ ?_ rfl; all_goals (try simp only [leT, leH, leO, ADf.leL, imgs, idsT, idsH, List.filterMap_cons, List.filterMap_nil, List.flatMap_nil, Nat.lt_irrefl, Nat.not_lt_zero, vkt, Nat.reduceEqDiff, Nat.reduceAdd, Nat.reduceMul, Nat.reduceSub, Nat.reduceLeDiff, reduceCtorEq, ↓reduceIte, ↓reduceDIte, Int.reduceToNat, Int.reduceLE, Int.reduceLT, Int.reduceEq, Int.reduceNeg, tbG7_71, aI, aB, aInts, bgH, p22]))
  all_goals first | rfl | (simp; done)
noncomputable def p71 (S : St) : List AV → Option Pk
  | [.ptr i 0, .v (.int .i64 n), .v (.int .i64 m)] => match S.h i with
    | some (.cells [.v (.int .u64 x)]) => some { pre := 1 ≤ m ∧ m ≤ 1000, hs := [i], ar := [.ptr 0 0, .v (.int .i64 n), .v (.int .i64 m)], L0 := [.cells [.v (.int .u64 x)]], v := .v (.bool (decide (upV x (m - 1) < n))), L1 := [some (.cells [.v (.int .u64 (upS x (m - 1)))])], fl := true }
    | _ => none
  | _ => none
theorem e71 {A : Frm → Prop} : EntryOK A Try.prog 71 (fnE p71) := fnE_ok fun S bs q h hp => by
  unfold p71 at h
  split at h
  · split at h
    · cases h; exact chance_fn _ _ _ hp.1 hp.2
    · cases h
  · cases h
def foldV (x n : Int) : Int := if n < 2 then 0 else (x.tmod n + n).tmod n
def tbG7_54 := And.intro @ty3 @ti3.eq_1
theorem fold_fn (x n : Int) (h2 : n ≤ 1000000) : FnV Try.prog 54 [aI x, aI n] (aI (foldV x n)) := by
  have env : Env (fun _ => True) Try.prog tyB (tab []) := mkEnv trivial
  refine Fn.of (A := fun _ => True) (n0 := 0) (D := noD) (Fn0 Try.func54 rfl (fun vs w => by kernel_rfl) (by kernel_rfl)) (by simp) (by simp [AV.ids, AV.idsL, aI]) (fun i o h => by cases h) (fun _ _ _ _ => trivial) noD_ok ?_
  by_cases c1 : n < 2
  · repeat' (first | refine zq0 ?_ | refine zq1 ?_ | refine zq2 ?_ | refine zq3 ?_ | refine zq4 ?_ | refine zq5 ?_ | refine thenK_n ?_ | refine thenK_x ?_ | refine thenK_r ?_ | refine blockK_n ?_ | refine blockK_r ?_ | refine blockK_hit ?_ | refine blockK_miss (by decide) ?_ | ((first | refine sym_reg env fun Q hQ => ?_ | refine sym_cz fun Q hQ => ?_); simp only [vkt, Nat.reduceEqDiff, Nat.reduceAdd, Nat.reduceMul, Nat.reduceSub, Nat.reduceLeDiff, reduceCtorEq, ↓reduceIte, ↓reduceDIte, Int.reduceToNat, Int.reduceLE, Int.reduceLT, Int.reduceEq, Int.reduceNeg, tbG7_54, aI, aB, c1]; (try simp only [ite_and]); (repeat' (first | with_reducible assumption | refine And.intro ?_ ?_ | intro hp)); all_goals (first | (refine hQ _ ?_; clear hQ; clear Q) | (refine hQ _ (fun h => ?_) (fun h => ?_) <;> clear hQ <;> clear Q <;> (try simp only [vki, reduceCtorEq] at h)) | omega | assumption | (with_reducible rfl) | (refine drawB_of ?_; kernel_rfl) | skip)))
    (simp only [retK, leaveA, resL, tupA, rd, wCells_some, wRow_some, Try.results54, vkt, Nat.reduceEqDiff, Nat.reduceAdd, Nat.reduceMul, Nat.reduceSub, Nat.reduceLeDiff, reduceCtorEq, ↓reduceIte, ↓reduceDIte, Int.reduceToNat, Int.reduceLE, Int.reduceLT, Int.reduceEq, Int.reduceNeg, tbG7_54, aI, aB]; refine Fin.val rfl ?_; (try simp only [AV.le, AV.leL]))
    all_goals simp [foldV, c1]
  · have nz : ¬ n = 0 := by omega
    have h3 : x.tmod n < n := Int.tmod_lt_of_pos x (by omega)
    have h5 : -n < x.tmod n := Int.lt_tmod_of_pos x (by omega)
    have w1 : IntKind.wrap .i64 (x.tmod n + n) = x.tmod n + n := wrap64 (by omega) (by omega)
    repeat' (first | refine zq0 ?_ | refine zq1 ?_ | refine zq2 ?_ | refine zq3 ?_ | refine zq4 ?_ | refine zq5 ?_ | refine thenK_n ?_ | refine thenK_x ?_ | refine thenK_r ?_ | refine blockK_n ?_ | refine blockK_r ?_ | refine blockK_hit ?_ | refine blockK_miss (by decide) ?_ | ((first | refine sym_reg env fun Q hQ => ?_ | refine sym_cz fun Q hQ => ?_); simp only [vkt, Nat.reduceEqDiff, Nat.reduceAdd, Nat.reduceMul, Nat.reduceSub, Nat.reduceLeDiff, reduceCtorEq, ↓reduceIte, ↓reduceDIte, Int.reduceToNat, Int.reduceLE, Int.reduceLT, Int.reduceEq, Int.reduceNeg, tbG7_54, aI, aB, c1, nz, w1]; (try simp only [ite_and]); (repeat' (first | with_reducible assumption | refine And.intro ?_ ?_ | intro hp)); all_goals (first | (refine hQ _ ?_; clear hQ; clear Q) | (refine hQ _ (fun h => ?_) (fun h => ?_) <;> clear hQ <;> clear Q <;> (try simp only [vki, reduceCtorEq] at h)) | omega | assumption | (with_reducible rfl) | (refine drawB_of ?_; kernel_rfl) | skip)))
    (simp only [retK, leaveA, resL, tupA, rd, wCells_some, wRow_some, Try.results54, vkt, Nat.reduceEqDiff, Nat.reduceAdd, Nat.reduceMul, Nat.reduceSub, Nat.reduceLeDiff, reduceCtorEq, ↓reduceIte, ↓reduceDIte, Int.reduceToNat, Int.reduceLE, Int.reduceLT, Int.reduceEq, Int.reduceNeg, tbG7_54, aI, aB]; refine Fin.val rfl ?_; (try simp only [AV.le, AV.leL]))
    all_goals simp [foldV, c1]
def s54 : List AV → Prop × AV
  | [.v (.int .i64 x), .v (.int .i64 n)] => (n ≤ 1000000, aI (foldV x n))
  | _ => (False, .junk)
theorem e54 {A : Frm → Prop} : EntryOK A Try.prog 54 (valE true s54) := valE_ok fun vs _ h => by
  unfold s54 at h ⊢
  split at h
  · exact ⟨trivial, fun _ => trivial, fold_fn _ _ h⟩
  · exact h.elim
theorem foldV_bd {x n : Int} (h : 1 ≤ n) : 0 ≤ foldV x n ∧ foldV x n < n := by
  unfold foldV
  split
  · omega
  · have h5 : -n < x.tmod n := Int.lt_tmod_of_pos x (by omega)
    have h1 : 0 ≤ x.tmod n + n := by omega
    rw [Int.tmod_eq_emod_of_nonneg h1]
    exact ⟨Int.emod_nonneg _ (by omega), Int.emod_lt_of_pos _ (by omega)⟩
end Go.Sym.B
namespace Go.Sym.B
open Go Go.Sym Go.Proofs Go.Sym.C
noncomputable def pcK (x : Int) : Nat → List Int × Int
  | 0 => ([1], x)
  | k + 1 => ((pcK x k).1 ++ [(pcK x k).1.getD k 0 + (1 + upV (pcK x k).2 (12 - 1))], upS (pcK x k).2 (12 - 1))
structure PcOk (p : List Int) (k : Nat) : Prop where
  len : p.length = k + 1
  one : p.getD 0 0 = 1
  up : ∀ i, i < k → p.getD i 0 < p.getD (i + 1) 0
  le : ∀ i, i ≤ k → 1 ≤ p.getD i 0 ∧ p.getD i 0 ≤ 1 + 12 * (i : Int)
theorem getD_snocL {α : Type} {l : List α} {v d : α} {i : Nat} (h : i < l.length) : (l ++ [v]).getD i d = l.getD i d := by
  simp [List.getD_eq_getElem?_getD, List.getElem?_append_left h]
theorem getD_snocR {α : Type} {l : List α} {v d : α} {i : Nat} (h : i = l.length) : (l ++ [v]).getD i d = v := by
  subst h; simp [List.getD_eq_getElem?_getD]
theorem pcK_ok (x : Int) : ∀ k, PcOk (pcK x k).1 k
  | 0 => ⟨rfl, rfl, fun i h => by omega, fun i h => by obtain rfl : i = 0 := by omega
                                                       simp [pcK]⟩
  | k + 1 => by
    have ih := pcK_ok x k
    have hu := upV_bd (x := (pcK x k).2) (m := 12 - 1) (by decide)
    have hl := ih.len
    have hk := ih.le k (Nat.le_refl _)
    rw [pcK]
    refine ⟨by simp [hl], by rw [getD_snocL (by omega)]; exact ih.one, fun i hi => ?_, fun i hi => ?_⟩
    · rcases Nat.lt_or_eq_of_le (Nat.le_of_lt_succ hi) with h | h
      · rw [getD_snocL (by omega), getD_snocL (by omega)]; exact ih.up i h
      · subst h; rw [getD_snocL (by omega), getD_snocR hl.symm]; omega
    · rcases Nat.lt_or_eq_of_le hi with h | h
      · rw [getD_snocL (by omega)]; exact ih.le i (by omega)
      · subst h; rw [getD_snocR hl.symm]; omega
structure CoS where
  cs : List (List Int)
  ss : List Int
  x : Int
noncomputable def coStep (s : CoS) : CoS := ⟨s.cs ++ [(pcK (upS s.x 3) (upV s.x 3).toNat).1], s.ss ++ [upV (pcK (upS s.x 3) (upV s.x 3).toNat).2 200], upS (pcK (upS s.x 3) (upV s.x 3).toNat).2 200⟩
noncomputable def coK (x : Int) : Nat → CoS
  | 0 => ⟨[], [], x⟩
  | k + 1 => coStep (coK x k)
theorem coK_succ (x : Int) (k : Nat) : coK x (k + 1) = coStep (coK x k) := rfl
structure CoOk (s : CoS) (k : Nat) : Prop where
  c : s.cs.length = k
  l : s.ss.length = k
  p : ∀ q ∈ s.cs, ∃ j, j ≤ 3 ∧ PcOk q j
  v : ∀ n ∈ s.ss, 0 ≤ n ∧ n ≤ 200
theorem coK_ok (x : Int) : ∀ k, CoOk (coK x k) k
  | 0 => ⟨rfl, rfl, fun q hq => by simp [coK] at hq, fun q hq => by simp [coK] at hq⟩
  | k + 1 => by
    have ih := coK_ok x k
    rw [coK_succ]
    unfold coStep
    have h1 := upV_bd (x := (coK x k).x) (m := 3) (by decide)
    have h2 := upV_bd (x := (pcK (upS (coK x k).x 3) (upV (coK x k).x 3).toNat).2) (m := 200) (by decide)
    refine ⟨by simp [ih.c], by simp [ih.l], fun q hq => ?_, fun q hq => ?_⟩
    · rcases List.mem_append.1 hq with hq | hq
      · exact ih.p q hq
      · obtain rfl := List.mem_singleton.1 hq
        exact ⟨_, by omega, pcK_ok _ _⟩
    · rcases List.mem_append.1 hq with hq | hq
      · exact ih.v q hq
      · obtain rfl := List.mem_singleton.1 hq
        omega
noncomputable def rtK (x : Int) : Nat → List Sh × Int
  | 0 => ([⟨1, 1⟩], x)
  | k + 1 => ((rtK x k).1 ++ [rtV (rtK x k).2], rtS (rtK x k).2)
structure ShOk (s : Sh) : Prop where
  n : 1 ≤ s.num ∧ s.num ≤ 20
  d : 1 ≤ s.den ∧ s.den ≤ 12
  r : s = shQ (mkRat s.num s.den.toNat)
theorem shQ_ok {q : Rat} (h1 : 1 ≤ q.num ∧ q.num ≤ 20) (h2 : (q.den : Int) ≤ 12) : ShOk (shQ q) :=
  ⟨h1, ⟨by have := den_pos q; show (1 : Int) ≤ (q.den : Int); omega, h2⟩, by show shQ q = shQ (mkRat q.num (q.den : Int).toNat); rw [Int.toNat_natCast, Rat.mkRat_self]⟩
theorem mkq_bd {n d : Int} (hn : 1 ≤ n ∧ n ≤ 20) (hd : 1 ≤ d ∧ d ≤ 12) : (1 ≤ (mkRat n d.toNat).num ∧ (mkRat n d.toNat).num ≤ 20) ∧ ((mkRat n d.toNat).den : Int) ≤ 12 := by
  have hq : (0 : Int) < d := by omega
  have e1 := mk_num_le (a := n) hq
  have e2 := mk_den_le (a := n) hq
  have hp : 0 < (mkRat n d.toNat).num := by
    have hm := mk_num (a := n) hq
    have h5 : 0 < Nat.gcd n.natAbs d.toNat := Nat.gcd_pos_of_pos_left _ (by omega)
    have h6 := Nat.gcd_dvd_left n.natAbs d.toNat
    rw [hm]
    generalize Nat.gcd n.natAbs d.toNat = g at *
    obtain ⟨q, hq⟩ := h6
    have h7 : n = (g : Int) * (q : Int) := by
      rw [show n = (n.natAbs : Int) by omega, hq]; exact Int.natCast_mul g q
    rw [h7, Int.mul_tdiv_cancel_left _ (by omega)]
    rcases Nat.eq_zero_or_pos q with h8 | h8
    · subst h8; simp at h7; omega
    · omega
  omega
theorem rtV_ok (x : Int) : ShOk (rtV x) := by
  have h := mkq_bd (rt_bd7 x).1 (rt_bd7 x).2
  unfold rtV
  exact shQ_ok h.1 h.2
structure RwOk (r : List Sh) (m : Nat) : Prop where
  len : r.length = m
  one : r.getD 0 default = ⟨1, 1⟩
  all : ∀ s ∈ r, ShOk s
theorem rtK_ok (x : Int) : ∀ k, RwOk (rtK x k).1 (k + 1)
  | 0 => ⟨rfl, rfl, fun s hs => by
    obtain rfl := List.mem_singleton.1 hs
    exact ⟨by decide, by decide, by decide +kernel⟩⟩
  | k + 1 => by
    have ih := rtK_ok x k
    rw [rtK]
    refine ⟨by simp [ih.len], by rw [getD_snocL (by have := ih.len; omega)]; exact ih.one, fun s hs => ?_⟩
    rcases List.mem_append.1 hs with hs | hs
    · exact ih.all s hs
    · obtain rfl := List.mem_singleton.1 hs
      exact rtV_ok _
noncomputable def dyK (m : Nat) (x : Int) : Nat → List (List Sh) × Int
  | 0 => ([], x)
  | k + 1 => ((dyK m x k).1 ++ [(rtK (dyK m x k).2 m).1], (rtK (dyK m x k).2 m).2)
theorem dyK_ok (m : Nat) (x : Int) : ∀ k, (dyK m x k).1.length = k ∧ ∀ r ∈ (dyK m x k).1, RwOk r (m + 1)
  | 0 => ⟨rfl, fun r h => by simp [dyK] at h⟩
  | k + 1 => by
    obtain ⟨h1, h2⟩ := dyK_ok m x k
    rw [dyK]
    refine ⟨by simp [h1], fun r hr => ?_⟩
    rcases List.mem_append.1 hr with hr | hr
    · exact h2 r hr
    · obtain rfl := List.mem_singleton.1 hr
      exact rtK_ok _ _
structure EnS where
  day : Int
  till : List Int
  es : List Ent
  x : Int
noncomputable def enD (R : Nat) (s : EnS) : Int := s.day + upV s.x (min (s.day + 1) ((R : Int) - 1) - s.day)
noncomputable def enX1 (R : Nat) (s : EnS) : Int := upS s.x (min (s.day + 1) ((R : Int) - 1) - s.day)
def kinds : List Int := [1, 2, 3, 3, 3, 4]
noncomputable def enS1 (s : EnS) (day coin x : Int) : EnS := ⟨day, s.till.set coin.toNat (s.till.getD coin.toNat 0 + upV x 90), s.es ++ [⟨day, 1, coin, 0, upV x 90, 0⟩], upS x 90⟩
noncomputable def enS2 (s : EnS) (day coin x : Int) : EnS := ⟨day, s.till.set coin.toNat (s.till.getD coin.toNat 0 - upV x (min (s.till.getD coin.toNat 0) 90)), s.es ++ [⟨day, 2, coin, 0, upV x (min (s.till.getD coin.toNat 0) 90), 0⟩], upS x (min (s.till.getD coin.toNat 0) 90)⟩
noncomputable def enF (x : Int) : Int := -3 + upV x (3 - -3)
noncomputable def enA4 (h x : Int) : Int := max 0 (min 999 (h + oneV (upS x (3 - -3)) [0, enF x]))
noncomputable def enS4 (s : EnS) (day coin x : Int) : EnS := ⟨day, s.till.set coin.toNat (enA4 (s.till.getD coin.toNat 0) x), s.es ++ [⟨day, 4, coin, 0, enA4 (s.till.getD coin.toNat 0) x, 0⟩], upS (upS x (3 - -3)) ((2 : Nat) - 1)⟩
def enG0 (rs : List (List Sh)) (day coin to am : Int) : Int :=
  (am * ((rs.getD day.toNat []).getD coin.toNat default).num * ((rs.getD day.toNat []).getD to.toNat default).den).tdiv (((rs.getD day.toNat []).getD coin.toNat default).den * ((rs.getD day.toNat []).getD to.toNat default).num)
def enS3b (s : EnS) (day coin to am got x : Int) : EnS :=
  if 999 < got then ⟨day, s.till, s.es, x⟩ else ⟨day, (s.till.set coin.toNat (s.till.getD coin.toNat 0 - am)).set to.toNat (s.till.getD to.toNat 0 + got), s.es ++ [⟨day, 3, coin, to, am, got⟩], x⟩
noncomputable def enS3a (rs : List (List Sh)) (w : Int) (s : EnS) (day coin to am x : Int) : EnS :=
  if upV x (10 - 1) < w then enS3b s day coin to am (enG0 rs day coin to am + (1 + upV (upS x (10 - 1)) (3 - 1))) (upS (upS x (10 - 1)) (3 - 1))
  else enS3b s day coin to am (enG0 rs day coin to am) (upS x (10 - 1))
noncomputable def enTo (C : Nat) (coin x : Int) : Int := foldV (coin + (1 + upV x ((C : Int) - 1 - 1))) C
noncomputable def enS3 (C : Nat) (rs : List (List Sh)) (w : Int) (s : EnS) (day coin x : Int) : EnS :=
  if C = 1 then ⟨day, s.till, s.es, x⟩ else
  enS3a rs w s day coin (enTo C coin x) (upV (upS x ((C : Int) - 1 - 1)) (min (s.till.getD coin.toNat 0) 40)) (upS (upS x ((C : Int) - 1 - 1)) (min (s.till.getD coin.toNat 0) 40))
noncomputable def enS0 (C : Nat) (rs : List (List Sh)) (w : Int) (s : EnS) (day kind coin x : Int) : EnS :=
  if kind = 1 then enS1 s day coin x else if kind = 2 then enS2 s day coin x else if kind = 4 then enS4 s day coin x else enS3 C rs w s day coin x
noncomputable def enK0 (R : Nat) (s : EnS) : Int := oneV (enX1 R s) kinds
noncomputable def enX2 (R : Nat) (s : EnS) : Int := upS (enX1 R s) ((6 : Nat) - 1)
noncomputable def enStep (C : Nat) (rs : List (List Sh)) (w : Int) (s : EnS) : EnS :=
  enS0 C rs w s (enD rs.length s) (enK0 rs.length s) (upV (enX2 rs.length s) ((C : Int) - 1)) (upS (enX2 rs.length s) ((C : Int) - 1))
noncomputable def enK (C : Nat) (rs : List (List Sh)) (w : Int) (s : EnS) : Nat → EnS
  | 0 => s
  | k + 1 => enStep C rs w (enK C rs w s k)
structure EnI (C R k : Nat) (s : EnS) : Prop where
  d0 : 0 ≤ s.day
  d1 : s.day ≤ (R : Int) - 1
  len : s.till.length = C
  b : ∀ v ∈ s.till, 0 ≤ v ∧ v ≤ 999 * ((k : Int) + 1)
  es : s.es.length ≤ k
theorem enD_bd {C R k : Nat} {s : EnS} (h : EnI C R k s) (hR : R ≤ 100) : s.day ≤ enD R s ∧ enD R s ≤ (R : Int) - 1 := by
  have h0 := h.d0
  have h1 := h.d1
  have := upV_le (x := s.x) (m := min (s.day + 1) ((R : Int) - 1) - s.day) (by omega) (by omega)
  unfold enD
  omega
structure EnJ (C R k : Nat) (s : EnS) (day coin : Int) : Prop where
  i : EnI C R k s
  d0 : 0 ≤ day
  d1 : day ≤ (R : Int) - 1
  c0 : 0 ≤ coin
  c1 : coin ≤ (C : Int) - 1
theorem EnJ.h {C R k : Nat} {s : EnS} {day coin : Int} (j : EnJ C R k s day coin) : 0 ≤ s.till.getD coin.toNat 0 ∧ s.till.getD coin.toNat 0 ≤ 999 * ((k : Int) + 1) := by
  have := j.c0
  have := j.c1
  have := j.i.len
  exact j.i.b _ (gMem (by omega))
theorem mem_set_bd {l : List Int} {i : Nat} {v : Int} {P : Int → Prop} (h : ∀ x ∈ l, P x) (hv : P v) : ∀ x ∈ l.set i v, P x := fun x hx => by
  rcases List.mem_or_eq_of_mem_set hx with h1 | h1
  · exact h x h1
  · exact h1 ▸ hv
theorem EnJ.bd {C R k : Nat} {s : EnS} {day coin : Int} (j : EnJ C R k s day coin) : ∀ v ∈ s.till, 0 ≤ v ∧ v ≤ 999 * (((k + 1 : Nat) : Int) + 1) := fun v hv => by
  have := j.i.b v hv; omega
theorem EnJ.set {C R k : Nat} {s : EnS} {day coin : Int} (j : EnJ C R k s day coin) {v : Int} {e : Ent} {x : Int} (h : 0 ≤ v ∧ v ≤ 999 * ((k : Int) + 1) + 999) : EnI C R (k + 1) ⟨day, s.till.set coin.toNat v, s.es ++ [e], x⟩ :=
  ⟨j.d0, j.d1, by simp [j.i.len], mem_set_bd j.bd (by omega), by simp; exact j.i.es⟩
theorem enA4_bd (h x : Int) : 0 ≤ enA4 h x ∧ enA4 h x ≤ 999 := by unfold enA4; omega
theorem enS3b_ok {C R k : Nat} {s : EnS} {day coin : Int} (j : EnJ C R k s day coin) {to am got x : Int} (ha : 0 ≤ am) (ha' : am ≤ s.till.getD coin.toNat 0) (ht : 0 ≤ to ∧ to < C) (hg : 0 ≤ got) : EnI C R (k + 1) (enS3b s day coin to am got x) := by
  unfold enS3b
  have hh := j.h
  have hl := j.i.len
  split
  · exact ⟨j.d0, j.d1, hl, j.bd, Nat.le_succ_of_le j.i.es⟩
  · have h2 := j.i.b _ (gMem (l := s.till) (k := to.toNat) (d := 0) (by omega))
    exact ⟨j.d0, j.d1, by simp [hl], mem_set_bd (mem_set_bd j.bd (by omega)) (by omega), by simp; exact j.i.es⟩
theorem enG0_bd {rs : List (List Sh)} {day coin to am : Int} (h1 : ShOk ((rs.getD day.toNat []).getD coin.toNat default)) (h2 : ShOk ((rs.getD day.toNat []).getD to.toNat default)) (ha : 0 ≤ am) (ha' : am ≤ 40) :
    0 ≤ enG0 rs day coin to am ∧ enG0 rs day coin to am ≤ 9600 := by
  unfold enG0
  have a1 := h1.n
  have a2 := h1.d
  have a3 := h2.n
  have a4 := h2.d
  generalize ((rs.getD day.toNat []).getD coin.toNat default).num = p at *
  generalize ((rs.getD day.toNat []).getD coin.toNat default).den = q at *
  generalize ((rs.getD day.toNat []).getD to.toNat default).num = r at *
  generalize ((rs.getD day.toNat []).getD to.toNat default).den = u at *
  have m1 : 0 ≤ am * p * u := Int.mul_nonneg (Int.mul_nonneg ha (by omega)) (by omega)
  have m2 : am * p ≤ 40 * 20 := Int.mul_le_mul ha' a1.2 (by omega) (by omega)
  have m3 : am * p * u ≤ 40 * 20 * 12 := Int.mul_le_mul m2 a4.2 (by omega) (by omega)
  have m4 : 0 < q * r := Int.mul_pos (by omega) (by omega)
  rw [Int.tdiv_eq_ediv_of_nonneg m1]
  refine ⟨Int.ediv_nonneg m1 (by omega), Int.le_trans (Int.ediv_le_self _ m1) (by omega)⟩
structure RsOk (rs : List (List Sh)) (C : Nat) : Prop where
  len : 1 ≤ rs.length ∧ rs.length ≤ 4
  all : ∀ r ∈ rs, RwOk r C
theorem RsOk.sh {rs : List (List Sh)} {C : Nat} (h : RsOk rs C) {day coin : Int} (h1 : 0 ≤ day) (h2 : day ≤ (rs.length : Int) - 1) (h3 : 0 ≤ coin) (h4 : coin ≤ (C : Int) - 1) : ShOk ((rs.getD day.toNat []).getD coin.toNat default) := by
  have hr := h.all _ (gMem (l := rs) (k := day.toNat) (d := []) (by omega))
  exact hr.all _ (gMem (by have := hr.len; omega))
theorem enS0_ok {C k : Nat} {rs : List (List Sh)} (hr : RsOk rs C) (hC : 1 ≤ C ∧ C ≤ 4) {w : Int} {s : EnS} {day coin : Int} (j : EnJ C rs.length k s day coin) (kind x : Int) : EnI C rs.length (k + 1) (enS0 C rs w s day kind coin x) := by
  have hh := j.h
  have hc0 := j.c0
  have hc1 := j.c1
  unfold enS0
  split
  · unfold enS1
    have := upV_le (x := x) (m := 90) (by decide) (by decide)
    exact j.set (by omega)
  split
  · unfold enS2
    have := upV_bd (x := x) (m := min (s.till.getD coin.toNat 0) 90) (by omega)
    exact j.set (by omega)
  split
  · unfold enS4
    have := enA4_bd (s.till.getD coin.toNat 0) x
    exact j.set (by omega)
  · unfold enS3
    split
    · exact ⟨j.d0, j.d1, j.i.len, j.bd, Nat.le_succ_of_le j.i.es⟩
    · have ht : 0 ≤ enTo C coin x ∧ enTo C coin x < C := foldV_bd (by omega)
      generalize enTo C coin x = to at *
      generalize upS x ((C : Int) - 1 - 1) = y
      have ha := upV_bd (x := y) (m := min (s.till.getD coin.toNat 0) 40) (by omega)
      generalize upV y (min (s.till.getD coin.toNat 0) 40) = am at *
      have s1 := hr.sh j.d0 j.d1 hc0 hc1
      have s2 := hr.sh j.d0 j.d1 ht.1 (show to ≤ (C : Int) - 1 by omega)
      have hg := enG0_bd s1 s2 (am := am) (by omega) (by omega)
      unfold enS3a
      split
      · have := upV_bd (x := upS (upS y (min (s.till.getD coin.toNat 0) 40)) (10 - 1)) (m := 3 - 1) (by decide)
        exact enS3b_ok j (by omega) (by omega) ht (by omega)
      · exact enS3b_ok j (by omega) (by omega) ht (by omega)
theorem enJ_of {C k : Nat} {rs : List (List Sh)} (hr : RsOk rs C) (hC : 1 ≤ C ∧ C ≤ 4) {s : EnS} (h : EnI C rs.length k s) : EnJ C rs.length k s (enD rs.length s) (upV (enX2 rs.length s) ((C : Int) - 1)) := by
  have h1 := enD_bd h (by have := hr.len; omega)
  have h2 := upV_le (x := enX2 rs.length s) (m := (C : Int) - 1) (by omega) (by omega)
  exact ⟨h, by have := h.d0; omega, h1.2, h2.1, h2.2⟩
theorem enK_ok {C : Nat} {rs : List (List Sh)} (hr : RsOk rs C) (hC : 1 ≤ C ∧ C ≤ 4) {w : Int} {s : EnS} (h : EnI C rs.length 0 s) : ∀ k, EnI C rs.length k (enK C rs w s k)
  | 0 => h
  | k + 1 => enS0_ok hr hC (enJ_of hr hC (enK_ok hr hC h k)) _ _
noncomputable def lg1 (x c : Int) : CoS := coK (upS x (c - 1)) (1 + upV x (c - 1)).toNat
noncomputable def lg2 (x c d : Int) : List (List Sh) × Int := dyK ((lg1 x c).cs.length - 1) (upS (lg1 x c).x (d - 1)) (1 + upV (lg1 x c).x (d - 1)).toNat
noncomputable def lg3 (x c d e w : Int) : EnS := enK (lg1 x c).cs.length (lg2 x c d).1 w ⟨0, (lg1 x c).ss, [], upS (lg2 x c d).2 e⟩ (upV (lg2 x c d).2 e).toNat
noncomputable def lgL (x c d e w : Int) : Led := ⟨(lg1 x c).cs, (lg2 x c d).1, (lg1 x c).ss, (lg3 x c d e w).es⟩
noncomputable def lgS (x c d e w : Int) : Int := (lg3 x c d e w).x
end Go.Sym.B
namespace Go.Sym.B
open Go Go.Sym Go.Proofs Go.Sym.C
def tbG9_23 := And.intro @ty3 (And.intro @ty22 (And.intro @ti3.eq_1 @ti22.eq_1))
theorem copyR_fn (l : List Int) (hl : l.length ≤ 100000) : Fn noB Try.prog 23 [aInts l] noH (.row 0) (hasg [(0, .row 3 1 (l.map eInt))]) 0 := by
  have env : Env (fun _ => True) Try.prog tyB (tab []) := mkEnv trivial
  refine Fn.of (A := fun _ => True) (n0 := 0) (D := noD) (Fn0 Try.func23 rfl (fun vs w => by kernel_rfl) (by kernel_rfl)) (by simp) (by simp [AV.ids, AV.idsL, aInts]) (fun i o h => by cases h) (fun _ _ _ _ => trivial) noD_ok ?_
  obtain ⟨b1, b2, b3, b4⟩ := b47 hl
  repeat' (first | refine zq0 ?_ | refine zq1 ?_ | refine zq2 ?_ | refine zq3 ?_ | refine zq4 ?_ | refine zq5 ?_ | refine thenK_n ?_ | refine thenK_x ?_ | refine thenK_r ?_ | refine blockK_n ?_ | refine blockK_r ?_ | refine blockK_hit ?_ | refine blockK_miss (by decide) ?_ | ((first | refine sym_reg env fun Q hQ => ?_ | refine sym_cz fun Q hQ => ?_); simp only [vkt, Nat.reduceEqDiff, Nat.reduceAdd, Nat.reduceMul, Nat.reduceSub, Nat.reduceLeDiff, reduceCtorEq, ↓reduceIte, ↓reduceDIte, Int.reduceToNat, Int.reduceLE, Int.reduceLT, Int.reduceEq, Int.reduceNeg, tbG9_23, aI, aB, aInts, rInt]; (try simp only [ite_and]); (repeat' (first | with_reducible assumption | refine And.intro ?_ ?_ | intro hp)); all_goals (first | (refine hQ _ ?_; clear hQ; clear Q) | (refine hQ _ (fun h => ?_) (fun h => ?_) <;> clear hQ <;> clear Q <;> (try simp only [vki, reduceCtorEq] at h)) | omega | assumption | (with_reducible rfl) | (refine drawB_of ?_; kernel_rfl) | skip)))
  (simp only [retK, leaveA, resL, tupA, rd, wCells_some, wRow_some, Try.results23, vkt, Nat.reduceEqDiff, Nat.reduceAdd, Nat.reduceMul, Nat.reduceSub, Nat.reduceLeDiff, reduceCtorEq, ↓reduceIte, ↓reduceDIte, Int.reduceToNat, Int.reduceLE, Int.reduceLT, Int.reduceEq, Int.reduceNeg, tbG9_23, aI, aB, aInts, rInt]; refine Fin.ok some [] ?_ ?_ ?_ ?_ ?_ rfl; all_goals (try simp only [leT, leH, leO, ADf.leL, imgs, idsT, idsH, List.filterMap_cons, List.filterMap_nil, List.flatMap_nil, Nat.lt_irrefl, Nat.not_lt_zero, vkt, Nat.reduceEqDiff, Nat.reduceAdd, Nat.reduceMul, Nat.reduceSub, Nat.reduceLeDiff, reduceCtorEq, ↓reduceIte, ↓reduceDIte, Int.reduceToNat, Int.reduceLE, Int.reduceLT, Int.reduceEq, Int.reduceNeg, tbG9_23, aI, aB, aInts, rInt]))
  all_goals first | rfl | (simp; done)
theorem flInt (l : List Int) : (∀ r ∈ l.map eInt, ∀ d ∈ r, ∃ x, d = DV.v x) = True := by
  simp [eInt]
def p23r (S : St) : List AV → Option Pk
  | [.row r] => match S.h r with
    | some (.row _ _ xs) => some { pre := xs = (xs.map dInt).map eInt ∧ xs.length ≤ 100000, bo := [r], ar := [.sl xs], v := .row 0, L1 := [some (.row 3 1 xs)], fl := true }
    | _ => none
  | [.sl xs] => some { pre := xs = (xs.map dInt).map eInt ∧ xs.length ≤ 100000, ar := [.sl xs], v := .row 0, L1 := [some (.row 3 1 xs)] }
  | _ => none
theorem e23r {A : Frm → Prop} : EntryOK A Try.prog 23 (fnE p23r) := fnE_ok fun S bs q h hp => by
  unfold p23r at h
  split at h
  · split at h
    · cases h
      rename_i xs _
      have := copyR_fn (List.map dInt xs) (by rw [List.length_map]; exact hp.2)
      simp only [aInts, ← hp.1] at this
      exact this
    · cases h
  · cases h
    rename_i xs
    have := copyR_fn (List.map dInt xs) (by rw [List.length_map]; exact hp.2)
    simp only [aInts, ← hp.1] at this
    exact this
  · cases h
theorem pcK_1 (y : Int) (j : Nat) : (pcK y (j + 1)).1 = (pcK y j).1 ++ [(pcK y j).1.getD j 0 + (1 + upV (pcK y j).2 (12 - 1))] := rfl
theorem pcK_2 (y : Int) (j : Nat) : (pcK y (j + 1)).2 = upS (pcK y j).2 (12 - 1) := rfl
theorem rtK_1 (y : Int) (j : Nat) : (rtK y (j + 1)).1 = (rtK y j).1 ++ [rtV (rtK y j).2] := rfl
theorem rtK_2 (y : Int) (j : Nat) : (rtK y (j + 1)).2 = rtS (rtK y j).2 := rfl
theorem dyK_1 (m : Nat) (y : Int) (j : Nat) : (dyK m y (j + 1)).1 = (dyK m y j).1 ++ [(rtK (dyK m y j).2 m).1] := rfl
theorem dyK_2 (m : Nat) (y : Int) (j : Nat) : (dyK m y (j + 1)).2 = (rtK (dyK m y j).2 m).2 := rfl
theorem enK_1 (C : Nat) (rs : List (List Sh)) (w : Int) (s : EnS) (k : Nat) : enK C rs w s (k + 1) = enStep C rs w (enK C rs w s k) := rfl
theorem gRow {l : List (List Sh)} {n : Nat} (h : n < l.length) : (l.map eShs).getD n [] = eShs (l.getD n []) := by simp [List.getD_eq_getElem?_getD, h]
theorem dIntW (n : Int) : dInt [.v (.int .i64 n)] = n := rfl
def loT (c d e w : Int) : List (Nat × AV) := [(0, .ptr 0 0), (1, aI c), (2, aI d), (3, aI e), (4, aI w), (10, .ptr 1 0), (11, .ptr 2 0)]
def nil4 : List AV := [.nil, .nil, .nil, .nil]
noncomputable def lo1 (c d e w : Int) (b : Int) (V k : Nat) : St := { t := asg (loT c d e w ++ [(12, aI ((V : Int) - (k : Int)))]), h := hasg [(0, .cells [.v (.int .u64 (coK b k).x)]), (1, .cells nil4), (2, .cells [.row 3, .nil, .row 4, .nil]), (3, .row 22 1 ((coK b k).cs.map eInts)), (4, .row 3 1 ((coK b k).ss.map eInt))], n := 5, m := 1 }
noncomputable def lo2 (c d e w : Int) (s : CoS) (y : Int) (V k K j : Nat) : St := { t := asg (loT c d e w ++ [(12, aI ((V : Int) - (k : Int))), (13, .row 5), (14, aI ((K : Int) - (j : Int)))]), h := hasg [(0, .cells [.v (.int .u64 (pcK y j).2)]), (1, .cells nil4), (2, .cells [.row 3, .nil, .row 4, .nil]), (3, .row 22 1 (s.cs.map eInts)), (4, .row 3 1 (s.ss.map eInt)), (5, .row 3 1 ((pcK y j).1.map eInt))], n := 6, m := 1 }
def lo3 (c d e w : Int) (s : CoS) (p : List Int) (y : Int) (V k : Nat) : St := { t := asg (loT c d e w ++ [(12, aI ((V : Int) - (k : Int))), (13, aInts p)]), h := hasg [(0, .cells [.v (.int .u64 y)]), (1, .cells nil4), (2, .cells [.row 3, .nil, .row 4, .nil]), (3, .row 22 1 (s.cs.map eInts)), (4, .row 3 1 (s.ss.map eInt))], n := 5, m := 1 }
noncomputable def ld1 (c d e w : Int) (s : CoS) (m : Nat) (b : Int) (V k : Nat) : St := { t := asg (loT c d e w ++ [(15, aI ((V : Int) - (k : Int)))]), h := hasg [(0, .cells [.v (.int .u64 (dyK m b k).2)]), (1, .cells nil4), (2, .cells [.row 3, .row 5, .row 4, .nil]), (3, .row 22 1 (s.cs.map eInts)), (4, .row 3 1 (s.ss.map eInt)), (5, .row 55 1 ((dyK m b k).1.map eShs))], n := 6, m := 1 }
noncomputable def ld2 (c d e w : Int) (s : CoS) (rs : List (List Sh)) (y : Int) (V k j : Nat) : St := { t := asg (loT c d e w ++ [(15, aI ((V : Int) - (k : Int))), (16, .row 6), (17, aI ((j : Int) + 1))]), h := hasg [(0, .cells [.v (.int .u64 (rtK y j).2)]), (1, .cells nil4), (2, .cells [.row 3, .row 5, .row 4, .nil]), (3, .row 22 1 (s.cs.map eInts)), (4, .row 3 1 (s.ss.map eInt)), (5, .row 55 1 (rs.map eShs)), (6, .row 59 2 ((rtK y j).1.map eSh))], n := 7, m := 1 }
def ld3 (c d e w : Int) (s : CoS) (rs : List (List Sh)) (r : List Sh) (y : Int) (V k : Nat) : St := { t := asg (loT c d e w ++ [(15, aI ((V : Int) - (k : Int))), (16, aShs r)]), h := hasg [(0, .cells [.v (.int .u64 y)]), (1, .cells nil4), (2, .cells [.row 3, .row 5, .row 4, .nil]), (3, .row 22 1 (s.cs.map eInts)), (4, .row 3 1 (s.ss.map eInt)), (5, .row 55 1 (rs.map eShs))], n := 6, m := 1 }
def le1 (c d e w : Int) (s : CoS) (rs : List (List Sh)) (t : EnS) (V k : Nat) : St := { t := asg (loT c d e w ++ [(18, .row 6), (19, aI t.day), (20, aI ((V : Int) - (k : Int)))]), h := hasg [(0, .cells [.v (.int .u64 t.x)]), (1, .cells nil4), (2, .cells [.row 3, .row 5, .row 4, .row 7]), (3, .row 22 1 (s.cs.map eInts)), (4, .row 3 1 (s.ss.map eInt)), (5, .row 55 1 (rs.map eShs)), (6, .row 3 1 (t.till.map eInt)), (7, .row 48 6 (t.es.map eEnt))], n := 8, m := 1 }
def tbG9_27 := And.intro @ty3 (And.intro @ty22 (And.intro @ty28 (And.intro @ty35 (And.intro @ty36 (And.intro @ty38 (And.intro @ty48 (And.intro @ty55 (And.intro @ty59 (And.intro @ti3.eq_1 (And.intro @ti22.eq_1 (And.intro @ti28.eq_1 (And.intro @ti35.eq_1 (And.intro @ti36.eq_1 (And.intro @ti38.eq_1 (And.intro @ti48.eq_1 (And.intro @ti55.eq_1 @ti59.eq_1))))))))))))))))
set_option maxRecDepth 100000 in
set_option maxHeartbeats 40000000 in
theorem ledgerOf_fn (x c d e w : Int) (hc : 1 ≤ c ∧ c ≤ 4) (hd : 1 ≤ d ∧ d ≤ 4) (he : 0 ≤ e ∧ e ≤ 6) : Fn noB Try.prog 27 [.ptr 0 0, aI c, aI d, aI e, aI w] (hasg (bgH x)) (aLed (lgL x c d e w)) (hasg (bgH (lgS x c d e w))) 0 := by
  have env : Env (fun _ => True) Try.prog tyB (tab [(21, fnE p21), (22, fnE p22), (23, fnE p23r), (84, fnE p84), (85, fnE p85), (71, fnE p71), (54, valE true s54)]) := mkEnv ⟨e21, e22, e23r, e84, e85, e71, e54, trivial⟩
  refine Fn.of (A := fun _ => True) (n0 := 1) (D := noD) (Fn0 Try.func27 rfl (fun vs w => by kernel_rfl) (by kernel_rfl)) (by simp) (by simp [AV.ids, AV.idsL, aI]) ?_ (fun _ _ _ _ => trivial) noD_ok ?_
  · intro i o hi
    have h := hasg_mem hi
    simp [bgH] at h
    rcases h with ⟨rfl, rfl⟩; simp [AObj.ids, AV.ids, AV.idsL]
  have mc : min c 4 = c := by omega
  have md : min d 4 = d := by omega
  have me : min e 6 = e := by omega
  have big : (100000 : Nat) ≤ maxLen := by decide
  have hu := upV_le (x := x) (m := c - 1) (by omega) (by omega)
  obtain ⟨V, hV⟩ : ∃ V : Nat, 1 + upV x (c - 1) = (V : Int) := ⟨(1 + upV x (c - 1)).toNat, by omega⟩
  have hV1 : 1 ≤ V ∧ V ≤ 4 := by omega
  have g1 : lg1 x c = coK (upS x (c - 1)) V := by unfold lg1; rw [hV]; rfl
  generalize hb : upS x (c - 1) = b at *
  repeat' (first | refine zq0 ?_ | refine zq1 ?_ | refine zq2 ?_ | refine zq3 ?_ | refine zq4 ?_ | refine zq5 ?_ | refine thenK_n ?_ | refine thenK_x ?_ | refine thenK_r ?_ | refine blockK_n ?_ | refine blockK_r ?_ | refine blockK_hit ?_ | refine blockK_miss (by decide) ?_ | ((first | refine sym_reg env fun Q hQ => ?_ | refine sym_cz fun Q hQ => ?_); simp only [vkt, Nat.reduceEqDiff, Nat.reduceAdd, Nat.reduceMul, Nat.reduceSub, Nat.reduceLeDiff, reduceCtorEq, ↓reduceIte, ↓reduceDIte, Int.reduceToNat, Int.reduceLE, Int.reduceLT, Int.reduceEq, Int.reduceNeg, tbG9_27, aI, aB, aSh, aLed, cLed, aInts, aShs, bgH, mInt, dIntW, List.map_cons, List.map_nil, List.length_cons, List.length_nil, loT, nil4, lo1, lo2, lo3, ld1, ld2, ld3, le1, p21, p22, p84, p85, p71, s54, p23r, gInt, eInt, eShs, rInt, rSh, rEnt, rInts, rShs, flInt, List.nil_append, List.append_nil, List.cons_append, mc, hV, hb]; (try simp only [ite_and]); (repeat' (first | with_reducible assumption | refine And.intro ?_ ?_ | intro hp)); all_goals (first | (refine hQ _ ?_; clear hQ; clear Q) | (refine hQ _ (fun h => ?_) (fun h => ?_) <;> clear hQ <;> clear Q <;> (try simp only [vki, reduceCtorEq] at h)) | omega | assumption | (with_reducible rfl) | (refine drawB_of ?_; kernel_rfl) | skip)))
  refine sym_loop (fun k : { k : Nat // k ≤ V } => lo1 c d e w b V k.1) (fun k => V - k.1) ⟨0, Nat.zero_le _⟩ ?_ fun ⟨k, hk⟩ => ?_
  · (refine Le.ok (fun j => if j = 3 ∨ j = 4 then none else some j) [] ⟨?_, ?_, ?_, ?_, ?_, ?_, ?_, ?_, ?_, ?_, ?_⟩; all_goals (try simp only [leT, leH, leO, ADf.leL, imgs, idsT, idsH, List.filterMap_cons, List.filterMap_nil, List.flatMap_nil, Nat.lt_irrefl, Nat.not_lt_zero, vkt, Nat.reduceEqDiff, Nat.reduceAdd, Nat.reduceMul, Nat.reduceSub, Nat.reduceLeDiff, reduceCtorEq, ↓reduceIte, ↓reduceDIte, Int.reduceToNat, Int.reduceLE, Int.reduceLT, Int.reduceEq, Int.reduceNeg, tbG9_27, aI, aB, aSh, aLed, cLed, aInts, aShs, bgH, mInt, dIntW, List.map_cons, List.map_nil, List.length_cons, List.length_nil, loT, nil4, lo1, lo2, lo3, ld1, ld2, ld3, le1, p21, p22, p84, p85, p71, s54, p23r, gInt, eInt, eShs, rInt, rSh, rEnt, rInts, rShs, flInt, List.nil_append, List.append_nil, List.cons_append]))
    all_goals first | rfl | (simp [coK, hb, hV]; done)
  · repeat' (first | refine zq0 ?_ | refine zq1 ?_ | refine zq2 ?_ | refine zq3 ?_ | refine zq4 ?_ | refine zq5 ?_ | refine thenK_n ?_ | refine thenK_x ?_ | refine thenK_r ?_ | refine blockK_n ?_ | refine blockK_r ?_ | refine blockK_hit ?_ | refine blockK_miss (by decide) ?_)
    (refine sym_reg env fun Q hQ => ?_; simp only [vkt, Nat.reduceEqDiff, Nat.reduceAdd, Nat.reduceMul, Nat.reduceSub, Nat.reduceLeDiff, reduceCtorEq, ↓reduceIte, ↓reduceDIte, Int.reduceToNat, Int.reduceLE, Int.reduceLT, Int.reduceEq, Int.reduceNeg, tbG9_27, aI, aB, aSh, aLed, cLed, aInts, aShs, bgH, mInt, dIntW, List.map_cons, List.map_nil, List.length_cons, List.length_nil, loT, nil4, lo1, lo2, lo3, ld1, ld2, ld3, le1, p21, p22, p84, p85, p71, s54, p23r, gInt, eInt, eShs, rInt, rSh, rEnt, rInts, rShs, flInt, List.nil_append, List.append_nil, List.cons_append]; (try simp only [ite_and]); (repeat' (first | with_reducible assumption | refine And.intro ?_ ?_ | intro hp)); all_goals (first | (refine hQ _ ?_; clear hQ; clear Q) | omega | assumption | (with_reducible rfl) | (refine drawB_of ?_; kernel_rfl) | skip))
    repeat' (first | refine zq0 ?_ | refine zq1 ?_ | refine zq2 ?_ | refine zq3 ?_ | refine zq4 ?_ | refine zq5 ?_ | refine thenK_n ?_ | refine thenK_x ?_ | refine thenK_r ?_ | refine blockK_n ?_ | refine blockK_r ?_ | refine blockK_hit ?_ | refine blockK_miss (by decide) ?_)
    (refine sym_cd (by simp only [vkt, Nat.reduceEqDiff, Nat.reduceAdd, Nat.reduceMul, Nat.reduceSub, Nat.reduceLeDiff, reduceCtorEq, ↓reduceIte, ↓reduceDIte, Int.reduceToNat, Int.reduceLE, Int.reduceLT, Int.reduceEq, Int.reduceNeg, tbG9_27, aI, aB, aSh, aLed, cLed, aInts, aShs, bgH, mInt, dIntW, List.map_cons, List.map_nil, List.length_cons, List.length_nil, loT, nil4, lo1, lo2, lo3, ld1, ld2, ld3, le1, p21, p22, p84, p85, p71, s54, p23r, gInt, eInt, eShs, rInt, rSh, rEnt, rInts, rShs, flInt, List.nil_append, List.append_nil, List.cons_append]; rfl) (fun h => ?_) (fun h => ?_) <;> (try simp only [vki, reduceCtorEq] at h))
    · have hlt : k < V := by omega
      have ok := coK_ok b k
      have hs := coK_succ b k
      generalize coK b k = s at *
      have u1 := upV_le (x := s.x) (m := 3) (by decide) (by decide)
      unfold coStep at hs
      obtain ⟨K, hK⟩ : ∃ K : Nat, upV s.x 3 = (K : Int) := ⟨(upV s.x 3).toNat, by omega⟩
      rw [hK, Int.toNat_natCast] at hs
      generalize hy : upS s.x 3 = y at *
      repeat' (first | refine zq0 ?_ | refine zq1 ?_ | refine zq2 ?_ | refine zq3 ?_ | refine zq4 ?_ | refine zq5 ?_ | refine thenK_n ?_ | refine thenK_x ?_ | refine thenK_r ?_ | refine blockK_n ?_ | refine blockK_r ?_ | refine blockK_hit ?_ | refine blockK_miss (by decide) ?_ | ((first | refine sym_reg env fun Q hQ => ?_ | refine sym_cz fun Q hQ => ?_); simp only [vkt, Nat.reduceEqDiff, Nat.reduceAdd, Nat.reduceMul, Nat.reduceSub, Nat.reduceLeDiff, reduceCtorEq, ↓reduceIte, ↓reduceDIte, Int.reduceToNat, Int.reduceLE, Int.reduceLT, Int.reduceEq, Int.reduceNeg, tbG9_27, aI, aB, aSh, aLed, cLed, aInts, aShs, bgH, mInt, dIntW, List.map_cons, List.map_nil, List.length_cons, List.length_nil, loT, nil4, lo1, lo2, lo3, ld1, ld2, ld3, le1, p21, p22, p84, p85, p71, s54, p23r, gInt, eInt, eShs, rInt, rSh, rEnt, rInts, rShs, flInt, List.nil_append, List.append_nil, List.cons_append, hK, hy]; (try simp only [ite_and]); (repeat' (first | with_reducible assumption | refine And.intro ?_ ?_ | intro hp)); all_goals (first | (refine hQ _ ?_; clear hQ; clear Q) | (refine hQ _ (fun h => ?_) (fun h => ?_) <;> clear hQ <;> clear Q <;> (try simp only [vki, reduceCtorEq] at h)) | omega | assumption | (with_reducible rfl) | (refine drawB_of ?_; kernel_rfl) | skip)))
      refine sym_loop (fun j : { j : Nat // j ≤ K } => lo2 c d e w s y V k K j.1) (fun j => K - j.1) ⟨0, Nat.zero_le _⟩ ?_ fun ⟨j, hj⟩ => ?_
      · (refine Le.ok some [] ⟨?_, ?_, ?_, ?_, ?_, ?_, ?_, ?_, ?_, ?_, ?_⟩; all_goals (try simp only [leT, leH, leO, ADf.leL, imgs, idsT, idsH, List.filterMap_cons, List.filterMap_nil, List.flatMap_nil, Nat.lt_irrefl, Nat.not_lt_zero, vkt, Nat.reduceEqDiff, Nat.reduceAdd, Nat.reduceMul, Nat.reduceSub, Nat.reduceLeDiff, reduceCtorEq, ↓reduceIte, ↓reduceDIte, Int.reduceToNat, Int.reduceLE, Int.reduceLT, Int.reduceEq, Int.reduceNeg, tbG9_27, aI, aB, aSh, aLed, cLed, aInts, aShs, bgH, mInt, dIntW, List.map_cons, List.map_nil, List.length_cons, List.length_nil, loT, nil4, lo1, lo2, lo3, ld1, ld2, ld3, le1, p21, p22, p84, p85, p71, s54, p23r, gInt, eInt, eShs, rInt, rSh, rEnt, rInts, rShs, flInt, List.nil_append, List.append_nil, List.cons_append]))
        all_goals first | rfl | (simp [pcK, eInt]; done)
      · repeat' (first | refine zq0 ?_ | refine zq1 ?_ | refine zq2 ?_ | refine zq3 ?_ | refine zq4 ?_ | refine zq5 ?_ | refine thenK_n ?_ | refine thenK_x ?_ | refine thenK_r ?_ | refine blockK_n ?_ | refine blockK_r ?_ | refine blockK_hit ?_ | refine blockK_miss (by decide) ?_)
        (refine sym_reg env fun Q hQ => ?_; simp only [vkt, Nat.reduceEqDiff, Nat.reduceAdd, Nat.reduceMul, Nat.reduceSub, Nat.reduceLeDiff, reduceCtorEq, ↓reduceIte, ↓reduceDIte, Int.reduceToNat, Int.reduceLE, Int.reduceLT, Int.reduceEq, Int.reduceNeg, tbG9_27, aI, aB, aSh, aLed, cLed, aInts, aShs, bgH, mInt, dIntW, List.map_cons, List.map_nil, List.length_cons, List.length_nil, loT, nil4, lo1, lo2, lo3, ld1, ld2, ld3, le1, p21, p22, p84, p85, p71, s54, p23r, gInt, eInt, eShs, rInt, rSh, rEnt, rInts, rShs, flInt, List.nil_append, List.append_nil, List.cons_append]; (try simp only [ite_and]); (repeat' (first | with_reducible assumption | refine And.intro ?_ ?_ | intro hp)); all_goals (first | (refine hQ _ ?_; clear hQ; clear Q) | omega | assumption | (with_reducible rfl) | (refine drawB_of ?_; kernel_rfl) | skip))
        repeat' (first | refine zq0 ?_ | refine zq1 ?_ | refine zq2 ?_ | refine zq3 ?_ | refine zq4 ?_ | refine zq5 ?_ | refine thenK_n ?_ | refine thenK_x ?_ | refine thenK_r ?_ | refine blockK_n ?_ | refine blockK_r ?_ | refine blockK_hit ?_ | refine blockK_miss (by decide) ?_)
        (refine sym_cd (by simp only [vkt, Nat.reduceEqDiff, Nat.reduceAdd, Nat.reduceMul, Nat.reduceSub, Nat.reduceLeDiff, reduceCtorEq, ↓reduceIte, ↓reduceDIte, Int.reduceToNat, Int.reduceLE, Int.reduceLT, Int.reduceEq, Int.reduceNeg, tbG9_27, aI, aB, aSh, aLed, cLed, aInts, aShs, bgH, mInt, dIntW, List.map_cons, List.map_nil, List.length_cons, List.length_nil, loT, nil4, lo1, lo2, lo3, ld1, ld2, ld3, le1, p21, p22, p84, p85, p71, s54, p23r, gInt, eInt, eShs, rInt, rSh, rEnt, rInts, rShs, flInt, List.nil_append, List.append_nil, List.cons_append]; rfl) (fun h => ?_) (fun h => ?_) <;> (try simp only [vki, reduceCtorEq] at h))
        · have hjl : j < K := by omega
          have pk := pcK_ok y j
          have pl := pk.len
          have pb := pk.le j (Nat.le_refl _)
          have hp1 := pcK_1 y j
          have hp2 := (pcK_2 y j).symm
          have q1 := upV_le (x := (pcK y j).2) (m := 12 - 1) (by decide) (by decide)
          generalize (pcK y j).1 = p at *
          generalize (pcK y j).2 = z at *
          have e7 : IntKind.wrap .i64 ((K : Int) - (j : Int) - 1) = (K : Int) - ((j + 1 : Nat) : Int) := by rw [wrap64 (by omega) (by omega)]; omega
          have e8 : IntKind.wrap .i64 (((j + 1 : Nat) : Int) - 1) = (j : Int) := by rw [wrap64 (by omega) (by omega)]; omega
          have e9 : IntKind.wrap .i64 (p.getD j 0 + (1 + upV z (12 - 1))) = p.getD j 0 + (1 + upV z (12 - 1)) := wrap64 (by omega) (by omega)
          have e5 : j < p.length := by omega
          have m1 : (j + 1 + 1) * 8 ≤ 140737488355328 ∧ j + 1 + 1 ≤ maxLen := by omega
          have e6 := gI0 e5
          have e4 : p.map eInt ++ [[.v (.int .i64 (p.getD j 0 + (1 + upV z (12 - 1))))]] = (pcK y (j + 1)).1.map eInt := by rw [hp1, List.map_append]; rfl
          repeat' (first | refine zq0 ?_ | refine zq1 ?_ | refine zq2 ?_ | refine zq3 ?_ | refine zq4 ?_ | refine zq5 ?_ | refine thenK_n ?_ | refine thenK_x ?_ | refine thenK_r ?_ | refine blockK_n ?_ | refine blockK_r ?_ | refine blockK_hit ?_ | refine blockK_miss (by decide) ?_ | ((first | refine sym_reg env fun Q hQ => ?_ | refine sym_cz fun Q hQ => ?_); simp only [vkt, Nat.reduceEqDiff, Nat.reduceAdd, Nat.reduceMul, Nat.reduceSub, Nat.reduceLeDiff, reduceCtorEq, ↓reduceIte, ↓reduceDIte, Int.reduceToNat, Int.reduceLE, Int.reduceLT, Int.reduceEq, Int.reduceNeg, tbG9_27, aI, aB, aSh, aLed, cLed, aInts, aShs, bgH, mInt, dIntW, List.map_cons, List.map_nil, List.length_cons, List.length_nil, loT, nil4, lo1, lo2, lo3, ld1, ld2, ld3, le1, p21, p22, p84, p85, p71, s54, p23r, gInt, eInt, eShs, rInt, rSh, rEnt, rInts, rShs, flInt, List.nil_append, List.append_nil, List.cons_append, e7, e8, e6, e9, e4, pl, hp2]; (try simp only [ite_and]); (repeat' (first | with_reducible assumption | refine And.intro ?_ ?_ | intro hp)); all_goals (first | (refine hQ _ ?_; clear hQ; clear Q) | (refine hQ _ (fun h => ?_) (fun h => ?_) <;> clear hQ <;> clear Q <;> (try simp only [vki, reduceCtorEq] at h)) | omega | assumption | (with_reducible rfl) | (refine drawB_of ?_; kernel_rfl) | skip)))
          refine ⟨⟨j + 1, hjl⟩, by show K - (j + 1) < K - j; omega, ?_⟩
          (refine Le.ok (fun j => if j = 5 then some 7 else some j) [] ⟨?_, ?_, ?_, ?_, ?_, ?_, ?_, ?_, ?_, ?_, ?_⟩; all_goals (try simp only [leT, leH, leO, ADf.leL, imgs, idsT, idsH, List.filterMap_cons, List.filterMap_nil, List.flatMap_nil, Nat.lt_irrefl, Nat.not_lt_zero, vkt, Nat.reduceEqDiff, Nat.reduceAdd, Nat.reduceMul, Nat.reduceSub, Nat.reduceLeDiff, reduceCtorEq, ↓reduceIte, ↓reduceDIte, Int.reduceToNat, Int.reduceLE, Int.reduceLT, Int.reduceEq, Int.reduceNeg, tbG9_27, aI, aB, aSh, aLed, cLed, aInts, aShs, bgH, mInt, dIntW, List.map_cons, List.map_nil, List.length_cons, List.length_nil, loT, nil4, lo1, lo2, lo3, ld1, ld2, ld3, le1, p21, p22, p84, p85, p71, s54, p23r, gInt, eInt, eShs, rInt, rSh, rEnt, rInts, rShs, flInt, List.nil_append, List.append_nil, List.cons_append]))
          all_goals first | rfl | (simp; done)
        · have hjk : j = K := by omega
          subst hjk
          have okc := ok.c
          have okl := ok.l
          have pl := (pcK_ok y j).len
          generalize hq1 : (pcK y j).1 = p at *
          generalize hq2 : (pcK y j).2 = z at *
          refine sym_le (S' := lo3 c d e w s p z V k) ?_ ?_
          · (refine Le.ok some [5] ⟨?_, ?_, ?_, ?_, ?_, ?_, ?_, ?_, ?_, ?_, ?_⟩; all_goals (try simp only [leT, leH, leO, ADf.leL, imgs, idsT, idsH, List.filterMap_cons, List.filterMap_nil, List.flatMap_nil, Nat.lt_irrefl, Nat.not_lt_zero, vkt, Nat.reduceEqDiff, Nat.reduceAdd, Nat.reduceMul, Nat.reduceSub, Nat.reduceLeDiff, reduceCtorEq, ↓reduceIte, ↓reduceDIte, Int.reduceToNat, Int.reduceLE, Int.reduceLT, Int.reduceEq, Int.reduceNeg, tbG9_27, aI, aB, aSh, aLed, cLed, aInts, aShs, bgH, mInt, dIntW, List.map_cons, List.map_nil, List.length_cons, List.length_nil, loT, nil4, lo1, lo2, lo3, ld1, ld2, ld3, le1, p21, p22, p84, p85, p71, s54, p23r, gInt, eInt, eShs, rInt, rSh, rEnt, rInts, rShs, flInt, List.nil_append, List.append_nil, List.cons_append]))
            all_goals first | rfl | (simp [hq1, hq2]; done) | (rw [hq1]; exact ⟨_, _, rfl⟩) | exact ⟨_, _, rfl⟩
          have m1 : (k + 1) * 24 ≤ 140737488355328 ∧ (k + 1) * 8 ≤ 140737488355328 ∧ k + 1 ≤ maxLen := by omega
          have e7 : IntKind.wrap .i64 ((V : Int) - (k : Int) - 1) = (V : Int) - ((k + 1 : Nat) : Int) := by rw [wrap64 (by omega) (by omega)]; omega
          have e4 : s.cs.map eInts ++ [[.sl (p.map eInt)]] = (s.cs ++ [p]).map eInts := by rw [List.map_append]; rfl
          have e5 : s.ss.map eInt ++ [[.v (.int .i64 (upV z 200))]] = (s.ss ++ [upV z 200]).map eInt := by rw [List.map_append]; rfl
          repeat' (first | refine zq0 ?_ | refine zq1 ?_ | refine zq2 ?_ | refine zq3 ?_ | refine zq4 ?_ | refine zq5 ?_ | refine thenK_n ?_ | refine thenK_x ?_ | refine thenK_r ?_ | refine blockK_n ?_ | refine blockK_r ?_ | refine blockK_hit ?_ | refine blockK_miss (by decide) ?_ | ((first | refine sym_reg env fun Q hQ => ?_ | refine sym_cz fun Q hQ => ?_); simp only [vkt, Nat.reduceEqDiff, Nat.reduceAdd, Nat.reduceMul, Nat.reduceSub, Nat.reduceLeDiff, reduceCtorEq, ↓reduceIte, ↓reduceDIte, Int.reduceToNat, Int.reduceLE, Int.reduceLT, Int.reduceEq, Int.reduceNeg, tbG9_27, aI, aB, aSh, aLed, cLed, aInts, aShs, bgH, mInt, dIntW, List.map_cons, List.map_nil, List.length_cons, List.length_nil, loT, nil4, lo1, lo2, lo3, ld1, ld2, ld3, le1, p21, p22, p84, p85, p71, s54, p23r, gInt, eInt, eShs, rInt, rSh, rEnt, rInts, rShs, flInt, List.nil_append, List.append_nil, List.cons_append, e7, e4, e5, okc, okl]; (try simp only [ite_and]); (repeat' (first | with_reducible assumption | refine And.intro ?_ ?_ | intro hp)); all_goals (first | (refine hQ _ ?_; clear hQ; clear Q) | (refine hQ _ (fun h => ?_) (fun h => ?_) <;> clear hQ <;> clear Q <;> (try simp only [vki, reduceCtorEq] at h)) | omega | assumption | (with_reducible rfl) | (refine drawB_of ?_; kernel_rfl) | skip)))
          refine ⟨⟨k + 1, hlt⟩, by show V - (k + 1) < V - k; omega, ?_⟩
          (refine Le.ok (fun j => if j = 3 then some 6 else if j = 4 then some 8 else some j) [] ⟨?_, ?_, ?_, ?_, ?_, ?_, ?_, ?_, ?_, ?_, ?_⟩; all_goals (try simp only [leT, leH, leO, ADf.leL, imgs, idsT, idsH, List.filterMap_cons, List.filterMap_nil, List.flatMap_nil, Nat.lt_irrefl, Nat.not_lt_zero, vkt, Nat.reduceEqDiff, Nat.reduceAdd, Nat.reduceMul, Nat.reduceSub, Nat.reduceLeDiff, reduceCtorEq, ↓reduceIte, ↓reduceDIte, Int.reduceToNat, Int.reduceLE, Int.reduceLT, Int.reduceEq, Int.reduceNeg, tbG9_27, aI, aB, aSh, aLed, cLed, aInts, aShs, bgH, mInt, dIntW, List.map_cons, List.map_nil, List.length_cons, List.length_nil, loT, nil4, lo1, lo2, lo3, ld1, ld2, ld3, le1, p21, p22, p84, p85, p71, s54, p23r, gInt, eInt, eShs, rInt, rSh, rEnt, rInts, rShs, flInt, List.nil_append, List.append_nil, List.cons_append]))
          all_goals first | rfl | (simp [hs]; done)
    · have hkV : k = V := by omega
      subst hkV
      have ok := coK_ok b k
      have g2 : lg2 x c d = dyK ((lg1 x c).cs.length - 1) (upS (lg1 x c).x (d - 1)) (1 + upV (lg1 x c).x (d - 1)).toNat := rfl
      have g3 : lg3 x c d e w = enK (lg1 x c).cs.length (lg2 x c d).1 w ⟨0, (lg1 x c).ss, [], upS (lg2 x c d).2 e⟩ (upV (lg2 x c d).2 e).toNat := rfl
      have gL : lgL x c d e w = ⟨(lg1 x c).cs, (lg2 x c d).1, (lg1 x c).ss, (lg3 x c d e w).es⟩ := rfl
      have gS : lgS x c d e w = (lg3 x c d e w).x := rfl
      generalize lg1 x c = co at *
      rw [← g1] at ok ⊢
      clear g1 hb
      have okc := ok.c
      have okl := ok.l
      have hu2 := upV_le (x := co.x) (m := d - 1) (by omega) (by omega)
      obtain ⟨W, hW⟩ : ∃ W : Nat, 1 + upV co.x (d - 1) = (W : Int) := ⟨(1 + upV co.x (d - 1)).toNat, by omega⟩
      have hW1 : 1 ≤ W ∧ W ≤ 4 := by omega
      obtain ⟨m, hm⟩ : ∃ m, m + 1 = co.cs.length := ⟨co.cs.length - 1, by omega⟩
      have hmC : co.cs.length - 1 = m := by omega
      rw [hW, hmC, Int.toNat_natCast] at g2
      generalize hb2 : upS co.x (d - 1) = b2 at *
      repeat' (first | refine zq0 ?_ | refine zq1 ?_ | refine zq2 ?_ | refine zq3 ?_ | refine zq4 ?_ | refine zq5 ?_ | refine thenK_n ?_ | refine thenK_x ?_ | refine thenK_r ?_ | refine blockK_n ?_ | refine blockK_r ?_ | refine blockK_hit ?_ | refine blockK_miss (by decide) ?_ | ((first | refine sym_reg env fun Q hQ => ?_ | refine sym_cz fun Q hQ => ?_); simp only [vkt, Nat.reduceEqDiff, Nat.reduceAdd, Nat.reduceMul, Nat.reduceSub, Nat.reduceLeDiff, reduceCtorEq, ↓reduceIte, ↓reduceDIte, Int.reduceToNat, Int.reduceLE, Int.reduceLT, Int.reduceEq, Int.reduceNeg, tbG9_27, aI, aB, aSh, aLed, cLed, aInts, aShs, bgH, mInt, dIntW, List.map_cons, List.map_nil, List.length_cons, List.length_nil, loT, nil4, lo1, lo2, lo3, ld1, ld2, ld3, le1, p21, p22, p84, p85, p71, s54, p23r, gInt, eInt, eShs, rInt, rSh, rEnt, rInts, rShs, flInt, List.nil_append, List.append_nil, List.cons_append, md, hW, hb2]; (try simp only [ite_and]); (repeat' (first | with_reducible assumption | refine And.intro ?_ ?_ | intro hp)); all_goals (first | (refine hQ _ ?_; clear hQ; clear Q) | (refine hQ _ (fun h => ?_) (fun h => ?_) <;> clear hQ <;> clear Q <;> (try simp only [vki, reduceCtorEq] at h)) | omega | assumption | (with_reducible rfl) | (refine drawB_of ?_; kernel_rfl) | skip)))
      refine sym_loop (fun k : { k : Nat // k ≤ W } => ld1 c d e w co m b2 W k.1) (fun k => W - k.1) ⟨0, Nat.zero_le _⟩ ?_ fun ⟨i, hi⟩ => ?_
      · (refine Le.ok (fun j => if j = 5 then none else some j) [] ⟨?_, ?_, ?_, ?_, ?_, ?_, ?_, ?_, ?_, ?_, ?_⟩; all_goals (try simp only [leT, leH, leO, ADf.leL, imgs, idsT, idsH, List.filterMap_cons, List.filterMap_nil, List.flatMap_nil, Nat.lt_irrefl, Nat.not_lt_zero, vkt, Nat.reduceEqDiff, Nat.reduceAdd, Nat.reduceMul, Nat.reduceSub, Nat.reduceLeDiff, reduceCtorEq, ↓reduceIte, ↓reduceDIte, Int.reduceToNat, Int.reduceLE, Int.reduceLT, Int.reduceEq, Int.reduceNeg, tbG9_27, aI, aB, aSh, aLed, cLed, aInts, aShs, bgH, mInt, dIntW, List.map_cons, List.map_nil, List.length_cons, List.length_nil, loT, nil4, lo1, lo2, lo3, ld1, ld2, ld3, le1, p21, p22, p84, p85, p71, s54, p23r, gInt, eInt, eShs, rInt, rSh, rEnt, rInts, rShs, flInt, List.nil_append, List.append_nil, List.cons_append]))
        all_goals first | rfl | (simp [dyK, hb2, hW]; done)
      · repeat' (first | refine zq0 ?_ | refine zq1 ?_ | refine zq2 ?_ | refine zq3 ?_ | refine zq4 ?_ | refine zq5 ?_ | refine thenK_n ?_ | refine thenK_x ?_ | refine thenK_r ?_ | refine blockK_n ?_ | refine blockK_r ?_ | refine blockK_hit ?_ | refine blockK_miss (by decide) ?_)
        (refine sym_reg env fun Q hQ => ?_; simp only [vkt, Nat.reduceEqDiff, Nat.reduceAdd, Nat.reduceMul, Nat.reduceSub, Nat.reduceLeDiff, reduceCtorEq, ↓reduceIte, ↓reduceDIte, Int.reduceToNat, Int.reduceLE, Int.reduceLT, Int.reduceEq, Int.reduceNeg, tbG9_27, aI, aB, aSh, aLed, cLed, aInts, aShs, bgH, mInt, dIntW, List.map_cons, List.map_nil, List.length_cons, List.length_nil, loT, nil4, lo1, lo2, lo3, ld1, ld2, ld3, le1, p21, p22, p84, p85, p71, s54, p23r, gInt, eInt, eShs, rInt, rSh, rEnt, rInts, rShs, flInt, List.nil_append, List.append_nil, List.cons_append]; (try simp only [ite_and]); (repeat' (first | with_reducible assumption | refine And.intro ?_ ?_ | intro hp)); all_goals (first | (refine hQ _ ?_; clear hQ; clear Q) | omega | assumption | (with_reducible rfl) | (refine drawB_of ?_; kernel_rfl) | skip))
        repeat' (first | refine zq0 ?_ | refine zq1 ?_ | refine zq2 ?_ | refine zq3 ?_ | refine zq4 ?_ | refine zq5 ?_ | refine thenK_n ?_ | refine thenK_x ?_ | refine thenK_r ?_ | refine blockK_n ?_ | refine blockK_r ?_ | refine blockK_hit ?_ | refine blockK_miss (by decide) ?_)
        (refine sym_cd (by simp only [vkt, Nat.reduceEqDiff, Nat.reduceAdd, Nat.reduceMul, Nat.reduceSub, Nat.reduceLeDiff, reduceCtorEq, ↓reduceIte, ↓reduceDIte, Int.reduceToNat, Int.reduceLE, Int.reduceLT, Int.reduceEq, Int.reduceNeg, tbG9_27, aI, aB, aSh, aLed, cLed, aInts, aShs, bgH, mInt, dIntW, List.map_cons, List.map_nil, List.length_cons, List.length_nil, loT, nil4, lo1, lo2, lo3, ld1, ld2, ld3, le1, p21, p22, p84, p85, p71, s54, p23r, gInt, eInt, eShs, rInt, rSh, rEnt, rInts, rShs, flInt, List.nil_append, List.append_nil, List.cons_append]; rfl) (fun h => ?_) (fun h => ?_) <;> (try simp only [vki, reduceCtorEq] at h))
        · have hlt : i < W := by omega
          have okd := dyK_ok m b2 i
          have hs1 := dyK_1 m b2 i
          have hs2 := dyK_2 m b2 i
          generalize (dyK m b2 i).1 = rs at *
          generalize (dyK m b2 i).2 = y at *
          repeat' (first | refine zq0 ?_ | refine zq1 ?_ | refine zq2 ?_ | refine zq3 ?_ | refine zq4 ?_ | refine zq5 ?_ | refine thenK_n ?_ | refine thenK_x ?_ | refine thenK_r ?_ | refine blockK_n ?_ | refine blockK_r ?_ | refine blockK_hit ?_ | refine blockK_miss (by decide) ?_ | ((first | refine sym_reg env fun Q hQ => ?_ | refine sym_cz fun Q hQ => ?_); simp only [vkt, Nat.reduceEqDiff, Nat.reduceAdd, Nat.reduceMul, Nat.reduceSub, Nat.reduceLeDiff, reduceCtorEq, ↓reduceIte, ↓reduceDIte, Int.reduceToNat, Int.reduceLE, Int.reduceLT, Int.reduceEq, Int.reduceNeg, tbG9_27, aI, aB, aSh, aLed, cLed, aInts, aShs, bgH, mInt, dIntW, List.map_cons, List.map_nil, List.length_cons, List.length_nil, loT, nil4, lo1, lo2, lo3, ld1, ld2, ld3, le1, p21, p22, p84, p85, p71, s54, p23r, gInt, eInt, eShs, rInt, rSh, rEnt, rInts, rShs, flInt, List.nil_append, List.append_nil, List.cons_append]; (try simp only [ite_and]); (repeat' (first | with_reducible assumption | refine And.intro ?_ ?_ | intro hp)); all_goals (first | (refine hQ _ ?_; clear hQ; clear Q) | (refine hQ _ (fun h => ?_) (fun h => ?_) <;> clear hQ <;> clear Q <;> (try simp only [vki, reduceCtorEq] at h)) | omega | assumption | (with_reducible rfl) | (refine drawB_of ?_; kernel_rfl) | skip)))
          refine sym_loop (fun j : { j : Nat // j ≤ m } => ld2 c d e w co rs y W i j.1) (fun j => m - j.1) ⟨0, Nat.zero_le _⟩ ?_ fun ⟨j, hj⟩ => ?_
          · (refine Le.ok some [] ⟨?_, ?_, ?_, ?_, ?_, ?_, ?_, ?_, ?_, ?_, ?_⟩; all_goals (try simp only [leT, leH, leO, ADf.leL, imgs, idsT, idsH, List.filterMap_cons, List.filterMap_nil, List.flatMap_nil, Nat.lt_irrefl, Nat.not_lt_zero, vkt, Nat.reduceEqDiff, Nat.reduceAdd, Nat.reduceMul, Nat.reduceSub, Nat.reduceLeDiff, reduceCtorEq, ↓reduceIte, ↓reduceDIte, Int.reduceToNat, Int.reduceLE, Int.reduceLT, Int.reduceEq, Int.reduceNeg, tbG9_27, aI, aB, aSh, aLed, cLed, aInts, aShs, bgH, mInt, dIntW, List.map_cons, List.map_nil, List.length_cons, List.length_nil, loT, nil4, lo1, lo2, lo3, ld1, ld2, ld3, le1, p21, p22, p84, p85, p71, s54, p23r, gInt, eInt, eShs, rInt, rSh, rEnt, rInts, rShs, flInt, List.nil_append, List.append_nil, List.cons_append]))
            all_goals first | rfl | (simp [rtK, eSh]; done)
          · repeat' (first | refine zq0 ?_ | refine zq1 ?_ | refine zq2 ?_ | refine zq3 ?_ | refine zq4 ?_ | refine zq5 ?_ | refine thenK_n ?_ | refine thenK_x ?_ | refine thenK_r ?_ | refine blockK_n ?_ | refine blockK_r ?_ | refine blockK_hit ?_ | refine blockK_miss (by decide) ?_)
            (refine sym_reg env fun Q hQ => ?_; simp only [vkt, Nat.reduceEqDiff, Nat.reduceAdd, Nat.reduceMul, Nat.reduceSub, Nat.reduceLeDiff, reduceCtorEq, ↓reduceIte, ↓reduceDIte, Int.reduceToNat, Int.reduceLE, Int.reduceLT, Int.reduceEq, Int.reduceNeg, tbG9_27, aI, aB, aSh, aLed, cLed, aInts, aShs, bgH, mInt, dIntW, List.map_cons, List.map_nil, List.length_cons, List.length_nil, loT, nil4, lo1, lo2, lo3, ld1, ld2, ld3, le1, p21, p22, p84, p85, p71, s54, p23r, gInt, eInt, eShs, rInt, rSh, rEnt, rInts, rShs, flInt, List.nil_append, List.append_nil, List.cons_append]; (try simp only [ite_and]); (repeat' (first | with_reducible assumption | refine And.intro ?_ ?_ | intro hp)); all_goals (first | (refine hQ _ ?_; clear hQ; clear Q) | omega | assumption | (with_reducible rfl) | (refine drawB_of ?_; kernel_rfl) | skip))
            repeat' (first | refine zq0 ?_ | refine zq1 ?_ | refine zq2 ?_ | refine zq3 ?_ | refine zq4 ?_ | refine zq5 ?_ | refine thenK_n ?_ | refine thenK_x ?_ | refine thenK_r ?_ | refine blockK_n ?_ | refine blockK_r ?_ | refine blockK_hit ?_ | refine blockK_miss (by decide) ?_)
            (refine sym_cd (by simp only [vkt, Nat.reduceEqDiff, Nat.reduceAdd, Nat.reduceMul, Nat.reduceSub, Nat.reduceLeDiff, reduceCtorEq, ↓reduceIte, ↓reduceDIte, Int.reduceToNat, Int.reduceLE, Int.reduceLT, Int.reduceEq, Int.reduceNeg, tbG9_27, aI, aB, aSh, aLed, cLed, aInts, aShs, bgH, mInt, dIntW, List.map_cons, List.map_nil, List.length_cons, List.length_nil, loT, nil4, lo1, lo2, lo3, ld1, ld2, ld3, le1, p21, p22, p84, p85, p71, s54, p23r, gInt, eInt, eShs, rInt, rSh, rEnt, rInts, rShs, flInt, List.nil_append, List.append_nil, List.cons_append]; rfl) (fun h => ?_) (fun h => ?_) <;> (try simp only [vki, reduceCtorEq] at h))
            · have hjl : j < m := by omega
              have pl := (rtK_ok y j).len
              have hp1 := rtK_1 y j
              have hp2 := (rtK_2 y j).symm
              generalize (rtK y j).1 = r at *
              generalize (rtK y j).2 = z at *
              have e7 : IntKind.wrap .i64 ((j : Int) + 1 + 1) = ((j + 1 : Nat) : Int) + 1 := by rw [wrap64 (by omega) (by omega)]; omega
              have m1 : (j + 1 + 1) * 16 ≤ 140737488355328 ∧ j + 1 + 1 ≤ maxLen := by omega
              have e4 : r.map eSh ++ [[.v (.int .i64 (rtV z).num), .v (.int .i64 (rtV z).den)]] = (rtK y (j + 1)).1.map eSh := by rw [hp1, List.map_append]; rfl
              repeat' (first | refine zq0 ?_ | refine zq1 ?_ | refine zq2 ?_ | refine zq3 ?_ | refine zq4 ?_ | refine zq5 ?_ | refine thenK_n ?_ | refine thenK_x ?_ | refine thenK_r ?_ | refine blockK_n ?_ | refine blockK_r ?_ | refine blockK_hit ?_ | refine blockK_miss (by decide) ?_ | ((first | refine sym_reg env fun Q hQ => ?_ | refine sym_cz fun Q hQ => ?_); simp only [vkt, Nat.reduceEqDiff, Nat.reduceAdd, Nat.reduceMul, Nat.reduceSub, Nat.reduceLeDiff, reduceCtorEq, ↓reduceIte, ↓reduceDIte, Int.reduceToNat, Int.reduceLE, Int.reduceLT, Int.reduceEq, Int.reduceNeg, tbG9_27, aI, aB, aSh, aLed, cLed, aInts, aShs, bgH, mInt, dIntW, List.map_cons, List.map_nil, List.length_cons, List.length_nil, loT, nil4, lo1, lo2, lo3, ld1, ld2, ld3, le1, p21, p22, p84, p85, p71, s54, p23r, gInt, eInt, eShs, rInt, rSh, rEnt, rInts, rShs, flInt, List.nil_append, List.append_nil, List.cons_append, e7, e4, pl, hp2]; (try simp only [ite_and]); (repeat' (first | with_reducible assumption | refine And.intro ?_ ?_ | intro hp)); all_goals (first | (refine hQ _ ?_; clear hQ; clear Q) | (refine hQ _ (fun h => ?_) (fun h => ?_) <;> clear hQ <;> clear Q <;> (try simp only [vki, reduceCtorEq] at h)) | omega | assumption | (with_reducible rfl) | (refine drawB_of ?_; kernel_rfl) | skip)))
              refine ⟨⟨j + 1, hjl⟩, by show m - (j + 1) < m - j; omega, ?_⟩
              (refine Le.ok (fun j => if j = 6 then some 8 else some j) [] ⟨?_, ?_, ?_, ?_, ?_, ?_, ?_, ?_, ?_, ?_, ?_⟩; all_goals (try simp only [leT, leH, leO, ADf.leL, imgs, idsT, idsH, List.filterMap_cons, List.filterMap_nil, List.flatMap_nil, Nat.lt_irrefl, Nat.not_lt_zero, vkt, Nat.reduceEqDiff, Nat.reduceAdd, Nat.reduceMul, Nat.reduceSub, Nat.reduceLeDiff, reduceCtorEq, ↓reduceIte, ↓reduceDIte, Int.reduceToNat, Int.reduceLE, Int.reduceLT, Int.reduceEq, Int.reduceNeg, tbG9_27, aI, aB, aSh, aLed, cLed, aInts, aShs, bgH, mInt, dIntW, List.map_cons, List.map_nil, List.length_cons, List.length_nil, loT, nil4, lo1, lo2, lo3, ld1, ld2, ld3, le1, p21, p22, p84, p85, p71, s54, p23r, gInt, eInt, eShs, rInt, rSh, rEnt, rInts, rShs, flInt, List.nil_append, List.append_nil, List.cons_append]))
              all_goals first | rfl | (simp; done)
            · have hjm : j = m := by omega
              subst hjm
              generalize hq1 : (rtK y j).1 = r at *
              generalize hq2 : (rtK y j).2 = z at *
              have okd1 := okd.1
              refine sym_le (S' := ld3 c d e w co rs r z W i) ?_ ?_
              · (refine Le.ok some [6] ⟨?_, ?_, ?_, ?_, ?_, ?_, ?_, ?_, ?_, ?_, ?_⟩; all_goals (try simp only [leT, leH, leO, ADf.leL, imgs, idsT, idsH, List.filterMap_cons, List.filterMap_nil, List.flatMap_nil, Nat.lt_irrefl, Nat.not_lt_zero, vkt, Nat.reduceEqDiff, Nat.reduceAdd, Nat.reduceMul, Nat.reduceSub, Nat.reduceLeDiff, reduceCtorEq, ↓reduceIte, ↓reduceDIte, Int.reduceToNat, Int.reduceLE, Int.reduceLT, Int.reduceEq, Int.reduceNeg, tbG9_27, aI, aB, aSh, aLed, cLed, aInts, aShs, bgH, mInt, dIntW, List.map_cons, List.map_nil, List.length_cons, List.length_nil, loT, nil4, lo1, lo2, lo3, ld1, ld2, ld3, le1, p21, p22, p84, p85, p71, s54, p23r, gInt, eInt, eShs, rInt, rSh, rEnt, rInts, rShs, flInt, List.nil_append, List.append_nil, List.cons_append]))
                all_goals first | rfl | (simp [hq1, hq2]; done) | (rw [hq1]; exact ⟨_, _, rfl⟩) | exact ⟨_, _, rfl⟩
              have m1 : (i + 1) * 24 ≤ 140737488355328 ∧ i + 1 ≤ maxLen := by omega
              have e7 : IntKind.wrap .i64 ((W : Int) - (i : Int) - 1) = (W : Int) - ((i + 1 : Nat) : Int) := by rw [wrap64 (by omega) (by omega)]; omega
              have e4 : rs.map eShs ++ [[.sl (r.map eSh)]] = (rs ++ [r]).map eShs := by rw [List.map_append]; rfl
              repeat' (first | refine zq0 ?_ | refine zq1 ?_ | refine zq2 ?_ | refine zq3 ?_ | refine zq4 ?_ | refine zq5 ?_ | refine thenK_n ?_ | refine thenK_x ?_ | refine thenK_r ?_ | refine blockK_n ?_ | refine blockK_r ?_ | refine blockK_hit ?_ | refine blockK_miss (by decide) ?_ | ((first | refine sym_reg env fun Q hQ => ?_ | refine sym_cz fun Q hQ => ?_); simp only [vkt, Nat.reduceEqDiff, Nat.reduceAdd, Nat.reduceMul, Nat.reduceSub, Nat.reduceLeDiff, reduceCtorEq, ↓reduceIte, ↓reduceDIte, Int.reduceToNat, Int.reduceLE, Int.reduceLT, Int.reduceEq, Int.reduceNeg, tbG9_27, aI, aB, aSh, aLed, cLed, aInts, aShs, bgH, mInt, dIntW, List.map_cons, List.map_nil, List.length_cons, List.length_nil, loT, nil4, lo1, lo2, lo3, ld1, ld2, ld3, le1, p21, p22, p84, p85, p71, s54, p23r, gInt, eInt, eShs, rInt, rSh, rEnt, rInts, rShs, flInt, List.nil_append, List.append_nil, List.cons_append, e7, e4, okd1]; (try simp only [ite_and]); (repeat' (first | with_reducible assumption | refine And.intro ?_ ?_ | intro hp)); all_goals (first | (refine hQ _ ?_; clear hQ; clear Q) | (refine hQ _ (fun h => ?_) (fun h => ?_) <;> clear hQ <;> clear Q <;> (try simp only [vki, reduceCtorEq] at h)) | omega | assumption | (with_reducible rfl) | (refine drawB_of ?_; kernel_rfl) | skip)))
              refine ⟨⟨i + 1, hlt⟩, by show W - (i + 1) < W - i; omega, ?_⟩
              (refine Le.ok (fun j => if j = 5 then some 7 else some j) [] ⟨?_, ?_, ?_, ?_, ?_, ?_, ?_, ?_, ?_, ?_, ?_⟩; all_goals (try simp only [leT, leH, leO, ADf.leL, imgs, idsT, idsH, List.filterMap_cons, List.filterMap_nil, List.flatMap_nil, Nat.lt_irrefl, Nat.not_lt_zero, vkt, Nat.reduceEqDiff, Nat.reduceAdd, Nat.reduceMul, Nat.reduceSub, Nat.reduceLeDiff, reduceCtorEq, ↓reduceIte, ↓reduceDIte, Int.reduceToNat, Int.reduceLE, Int.reduceLT, Int.reduceEq, Int.reduceNeg, tbG9_27, aI, aB, aSh, aLed, cLed, aInts, aShs, bgH, mInt, dIntW, List.map_cons, List.map_nil, List.length_cons, List.length_nil, loT, nil4, lo1, lo2, lo3, ld1, ld2, ld3, le1, p21, p22, p84, p85, p71, s54, p23r, gInt, eInt, eShs, rInt, rSh, rEnt, rInts, rShs, flInt, List.nil_append, List.append_nil, List.cons_append]))
              all_goals first | rfl | (simp [hs1, hs2]; done)
        · have hiW : i = W := by omega
          subst hiW
          have okd := dyK_ok m b2 i
          generalize lg2 x c d = dy at *
          rw [← g2] at okd ⊢
          clear g2 hb2
          obtain ⟨rs, y⟩ := dy
          dsimp only at okd g3 gL ⊢
          obtain ⟨okd1, okd2⟩ := okd
          subst okd1
          subst okc
          have hrs : RsOk rs co.cs.length := ⟨by omega, fun r hr => by have := okd2 r hr; rwa [hm] at this⟩
          have hC : 1 ≤ co.cs.length ∧ co.cs.length ≤ 4 := by omega
          have hu3 := upV_le (x := y) (m := e) (by omega) (by omega)
          obtain ⟨U, hU⟩ : ∃ U : Nat, upV y e = (U : Int) := ⟨(upV y e).toNat, by omega⟩
          rw [hU, Int.toNat_natCast] at g3
          have hU6 : U ≤ 6 := by omega
          have m6 : co.ss.length ≤ 100000 := by omega
          have m7 : e < 9223372036854775807 := by omega
          generalize hy3 : upS y e = y3 at *
          have hI0 : EnI co.cs.length rs.length 0 ⟨0, co.ss, [], y3⟩ := ⟨Int.le_refl _, by show (0 : Int) ≤ _; omega, okl, fun v hv => by have := ok.v v hv; omega, Nat.le_refl _⟩
          have hIk := enK_ok hrs hC (w := w) hI0
          have hE0 : enK co.cs.length rs w ⟨0, co.ss, [], y3⟩ 0 = ⟨0, co.ss, [], y3⟩ := rfl
          have hst := enK_1 co.cs.length rs w ⟨0, co.ss, [], y3⟩
          generalize enK co.cs.length rs w ⟨0, co.ss, [], y3⟩ = EK at *
          repeat' (first | refine zq0 ?_ | refine zq1 ?_ | refine zq2 ?_ | refine zq3 ?_ | refine zq4 ?_ | refine zq5 ?_ | refine thenK_n ?_ | refine thenK_x ?_ | refine thenK_r ?_ | refine blockK_n ?_ | refine blockK_r ?_ | refine blockK_hit ?_ | refine blockK_miss (by decide) ?_ | ((first | refine sym_reg env fun Q hQ => ?_ | refine sym_cz fun Q hQ => ?_); simp only [vkt, Nat.reduceEqDiff, Nat.reduceAdd, Nat.reduceMul, Nat.reduceSub, Nat.reduceLeDiff, reduceCtorEq, ↓reduceIte, ↓reduceDIte, Int.reduceToNat, Int.reduceLE, Int.reduceLT, Int.reduceEq, Int.reduceNeg, tbG9_27, aI, aB, aSh, aLed, cLed, aInts, aShs, bgH, mInt, dIntW, List.map_cons, List.map_nil, List.length_cons, List.length_nil, loT, nil4, lo1, lo2, lo3, ld1, ld2, ld3, le1, p21, p22, p84, p85, p71, s54, p23r, gInt, eInt, eShs, rInt, rSh, rEnt, rInts, rShs, flInt, List.nil_append, List.append_nil, List.cons_append, me, hU, hy3]; (try simp only [ite_and]); (repeat' (first | with_reducible assumption | refine And.intro ?_ ?_ | intro hp)); all_goals (first | (refine hQ _ ?_; clear hQ; clear Q) | (refine hQ _ (fun h => ?_) (fun h => ?_) <;> clear hQ <;> clear Q <;> (try simp only [vki, reduceCtorEq] at h)) | omega | assumption | (with_reducible rfl) | (refine drawB_of ?_; kernel_rfl) | skip)))
          all_goals first | exact ⟨_, _, rfl⟩ | skip
          refine sym_loop (fun k : { k : Nat // k ≤ U } => le1 c d e w co rs (EK k.1) U k.1) (fun k => U - k.1) ⟨0, Nat.zero_le _⟩ ?_ fun ⟨q, hq⟩ => ?_
          · (refine Le.ok (fun j => if j = 7 then none else some j) [] ⟨?_, ?_, ?_, ?_, ?_, ?_, ?_, ?_, ?_, ?_, ?_⟩; all_goals (try simp only [leT, leH, leO, ADf.leL, imgs, idsT, idsH, List.filterMap_cons, List.filterMap_nil, List.flatMap_nil, Nat.lt_irrefl, Nat.not_lt_zero, vkt, Nat.reduceEqDiff, Nat.reduceAdd, Nat.reduceMul, Nat.reduceSub, Nat.reduceLeDiff, reduceCtorEq, ↓reduceIte, ↓reduceDIte, Int.reduceToNat, Int.reduceLE, Int.reduceLT, Int.reduceEq, Int.reduceNeg, tbG9_27, aI, aB, aSh, aLed, cLed, aInts, aShs, bgH, mInt, dIntW, List.map_cons, List.map_nil, List.length_cons, List.length_nil, loT, nil4, lo1, lo2, lo3, ld1, ld2, ld3, le1, p21, p22, p84, p85, p71, s54, p23r, gInt, eInt, eShs, rInt, rSh, rEnt, rInts, rShs, flInt, List.nil_append, List.append_nil, List.cons_append]))
            all_goals first | rfl | (simp [hE0, hU]; done)
          · repeat' (first | refine zq0 ?_ | refine zq1 ?_ | refine zq2 ?_ | refine zq3 ?_ | refine zq4 ?_ | refine zq5 ?_ | refine thenK_n ?_ | refine thenK_x ?_ | refine thenK_r ?_ | refine blockK_n ?_ | refine blockK_r ?_ | refine blockK_hit ?_ | refine blockK_miss (by decide) ?_)
            (refine sym_reg env fun Q hQ => ?_; simp only [vkt, Nat.reduceEqDiff, Nat.reduceAdd, Nat.reduceMul, Nat.reduceSub, Nat.reduceLeDiff, reduceCtorEq, ↓reduceIte, ↓reduceDIte, Int.reduceToNat, Int.reduceLE, Int.reduceLT, Int.reduceEq, Int.reduceNeg, tbG9_27, aI, aB, aSh, aLed, cLed, aInts, aShs, bgH, mInt, dIntW, List.map_cons, List.map_nil, List.length_cons, List.length_nil, loT, nil4, lo1, lo2, lo3, ld1, ld2, ld3, le1, p21, p22, p84, p85, p71, s54, p23r, gInt, eInt, eShs, rInt, rSh, rEnt, rInts, rShs, flInt, List.nil_append, List.append_nil, List.cons_append]; (try simp only [ite_and]); (repeat' (first | with_reducible assumption | refine And.intro ?_ ?_ | intro hp)); all_goals (first | (refine hQ _ ?_; clear hQ; clear Q) | omega | assumption | (with_reducible rfl) | (refine drawB_of ?_; kernel_rfl) | skip))
            repeat' (first | refine zq0 ?_ | refine zq1 ?_ | refine zq2 ?_ | refine zq3 ?_ | refine zq4 ?_ | refine zq5 ?_ | refine thenK_n ?_ | refine thenK_x ?_ | refine thenK_r ?_ | refine blockK_n ?_ | refine blockK_r ?_ | refine blockK_hit ?_ | refine blockK_miss (by decide) ?_)
            (refine sym_cd (by simp only [vkt, Nat.reduceEqDiff, Nat.reduceAdd, Nat.reduceMul, Nat.reduceSub, Nat.reduceLeDiff, reduceCtorEq, ↓reduceIte, ↓reduceDIte, Int.reduceToNat, Int.reduceLE, Int.reduceLT, Int.reduceEq, Int.reduceNeg, tbG9_27, aI, aB, aSh, aLed, cLed, aInts, aShs, bgH, mInt, dIntW, List.map_cons, List.map_nil, List.length_cons, List.length_nil, loT, nil4, lo1, lo2, lo3, ld1, ld2, ld3, le1, p21, p22, p84, p85, p71, s54, p23r, gInt, eInt, eShs, rInt, rSh, rEnt, rInts, rShs, flInt, List.nil_append, List.append_nil, List.cons_append]; rfl) (fun h => ?_) (fun h => ?_) <;> (try simp only [vki, reduceCtorEq] at h))
            · have hlt : q < U := by omega
              have hI := hIk q
              have hJ := enJ_of hrs hC hI
              have hst := hst q
              generalize EK q = t at *
              unfold enStep enK0 enX2 kinds at hst
              unfold enX2 at hJ
              have hDb := enD_bd hI (by omega)
              obtain ⟨D, hD⟩ : ∃ D, enD rs.length t = D := ⟨_, rfl⟩
              obtain ⟨X1, hX1⟩ : ∃ X1, enX1 rs.length t = X1 := ⟨_, rfl⟩
              rw [hD] at hst hJ
              rw [hX1] at hst hJ
              have hD' : t.day + upV t.x (min (t.day + 1) ((rs.length : Int) - 1) - t.day) = D := hD
              have hX1' : upS t.x (min (t.day + 1) ((rs.length : Int) - 1) - t.day) = X1 := hX1
              clear hD hX1 hDb
              obtain ⟨κ, hκ⟩ : ∃ κ, oneV X1 [1, 2, 3, 3, 3, 4] = κ := ⟨_, rfl⟩
              obtain ⟨X2, hX2⟩ : ∃ X2, upS X1 ((6 : Nat) - 1) = X2 := ⟨_, rfl⟩
              rw [hκ, hX2] at hst
              rw [hX2] at hJ
              obtain ⟨cn, hcn⟩ : ∃ cn, upV X2 ((co.cs.length : Int) - 1) = cn := ⟨_, rfl⟩
              obtain ⟨X3, hX3⟩ : ∃ X3, upS X2 ((co.cs.length : Int) - 1) = X3 := ⟨_, rfl⟩
              rw [hcn] at hst hJ
              rw [hX3] at hst
              have t1 := hI.len
              have t2 := hI.es
              have t3 := hI.d0
              have t4 := hI.d1
              have j1 := hJ.d0
              have j2 := hJ.d1
              have j3 := hJ.c0
              have j4 := hJ.c1
              have j5 := hJ.h
              have wD : IntKind.wrap .i64 (t.day + 1) = t.day + 1 := wrap64 (by omega) (by omega)
              have wR : IntKind.wrap .i64 ((rs.length : Int) - 1) = (rs.length : Int) - 1 := wrap64 (by omega) (by omega)
              have wC : IntKind.wrap .i64 ((co.cs.length : Int) - 1) = (co.cs.length : Int) - 1 := wrap64 (by omega) (by omega)
              have e7 : IntKind.wrap .i64 ((U : Int) - (q : Int) - 1) = (U : Int) - ((q + 1 : Nat) : Int) := by rw [wrap64 (by omega) (by omega)]; omega
              have m1 : (t.es.length + 1) * 48 ≤ 140737488355328 ∧ t.es.length + 1 ≤ maxLen := by omega
              have lc : cn.toNat < t.till.length := by omega
              have e6 := gI0 lc
              have p1 : -100000 ≤ t.day ∧ t.day ≤ 100000 ∧ -100000 ≤ min (t.day + 1) ((rs.length : Int) - 1) ∧ min (t.day + 1) ((rs.length : Int) - 1) ≤ 100000 := by omega
              have p2 : (co.cs.length : Int) - 1 < 9223372036854775807 := by omega
              generalize hh : t.till.getD cn.toNat 0 = hv at *
              by_cases k1 : κ = 1
              · subst k1
                have hst : EK (q + 1) = ⟨D, t.till.set cn.toNat (hv + upV X3 90), t.es ++ [⟨D, 1, cn, 0, upV X3 90, 0⟩], upS X3 90⟩ := by rw [hst]; unfold enS0 enS1; rw [if_pos rfl, hh]
                have u1 := upV_le (x := X3) (m := 90) (by decide) (by decide)
                have w1 : IntKind.wrap .i64 (hv + upV X3 90) = hv + upV X3 90 := wrap64 (by omega) (by omega)
                have e4 : t.es.map eEnt ++ [[.v (.int .i64 D), .v (.int .i64 1), .v (.int .i64 cn), .v (.int .i64 0), .v (.int .i64 (upV X3 90)), .v (.int .i64 0)]] = (t.es ++ [(⟨D, 1, cn, 0, upV X3 90, 0⟩ : Ent)]).map eEnt := by rw [List.map_append]; rfl
                repeat' (first | refine zq0 ?_ | refine zq1 ?_ | refine zq2 ?_ | refine zq3 ?_ | refine zq4 ?_ | refine zq5 ?_ | refine thenK_n ?_ | refine thenK_x ?_ | refine thenK_r ?_ | refine blockK_n ?_ | refine blockK_r ?_ | refine blockK_hit ?_ | refine blockK_miss (by decide) ?_ | ((first | refine sym_reg env fun Q hQ => ?_ | refine sym_cz fun Q hQ => ?_); simp only [vkt, Nat.reduceEqDiff, Nat.reduceAdd, Nat.reduceMul, Nat.reduceSub, Nat.reduceLeDiff, reduceCtorEq, ↓reduceIte, ↓reduceDIte, Int.reduceToNat, Int.reduceLE, Int.reduceLT, Int.reduceEq, Int.reduceNeg, tbG9_27, aI, aB, aSh, aLed, cLed, aInts, aShs, bgH, mInt, dIntW, List.map_cons, List.map_nil, List.length_cons, List.length_nil, loT, nil4, lo1, lo2, lo3, ld1, ld2, ld3, le1, p21, p22, p84, p85, p71, s54, p23r, gInt, eInt, eShs, rInt, rSh, rEnt, rInts, rShs, flInt, List.nil_append, List.append_nil, List.cons_append, wD, wR, wC, hD', hX1', hκ, hX2, hcn, hX3, e6, w1, e4, e7, setI]; (try simp only [ite_and]); (repeat' (first | with_reducible assumption | refine And.intro ?_ ?_)); all_goals (first | (refine hQ _ ?_; clear hQ; clear Q) | (refine hQ _ (fun h => ?_) (fun h => ?_) <;> clear hQ <;> clear Q <;> (try simp only [vki, reduceCtorEq] at h)) | omega | (with_reducible assumption) | (with_reducible rfl) | (refine drawB_of ?_; kernel_rfl) | skip)))
                all_goals first | exact ⟨_, _, rfl⟩ | skip
                refine ⟨⟨q + 1, hlt⟩, by show U - (q + 1) < U - q; omega, ?_⟩
                (refine Le.ok (fun j => if j = 7 then some 11 else some j) [] ⟨?_, ?_, ?_, ?_, ?_, ?_, ?_, ?_, ?_, ?_, ?_⟩; all_goals (try simp only [leT, leH, leO, ADf.leL, imgs, idsT, idsH, List.filterMap_cons, List.filterMap_nil, List.flatMap_nil, Nat.lt_irrefl, Nat.not_lt_zero, vkt, Nat.reduceEqDiff, Nat.reduceAdd, Nat.reduceMul, Nat.reduceSub, Nat.reduceLeDiff, reduceCtorEq, ↓reduceIte, ↓reduceDIte, Int.reduceToNat, Int.reduceLE, Int.reduceLT, Int.reduceEq, Int.reduceNeg, tbG9_27, aI, aB, aSh, aLed, cLed, aInts, aShs, bgH, mInt, dIntW, List.map_cons, List.map_nil, List.length_cons, List.length_nil, loT, nil4, lo1, lo2, lo3, ld1, ld2, ld3, le1, p21, p22, p84, p85, p71, s54, p23r, gInt, eInt, eShs, rInt, rSh, rEnt, rInts, rShs, flInt, List.nil_append, List.append_nil, List.cons_append]))
                all_goals first | rfl | (simp [hst]; done)
              by_cases k2 : κ = 2
              · subst k2
                have u1 := upV_bd (x := X3) (m := min hv 90) (by omega)
                have hst : EK (q + 1) = ⟨D, t.till.set cn.toNat (hv - upV X3 (min hv 90)), t.es ++ [(⟨D, 2, cn, 0, upV X3 (min hv 90), 0⟩ : Ent)], upS X3 (min hv 90)⟩ := by rw [hst]; unfold enS0 enS2; rw [if_neg (by decide), if_pos rfl, hh]
                obtain ⟨am, hA⟩ : ∃ am, upV X3 (min hv 90) = am := ⟨_, rfl⟩
                obtain ⟨X4, hX4⟩ : ∃ X4, upS X3 (min hv 90) = X4 := ⟨_, rfl⟩
                rw [hA, hX4] at hst
                rw [hA] at u1
                have p3 : min hv 90 < 9223372036854775807 := by omega
                have w1 : IntKind.wrap .i64 (hv - am) = hv - am := wrap64 (by omega) (by omega)
                have e4 : t.es.map eEnt ++ [[.v (.int .i64 D), .v (.int .i64 2), .v (.int .i64 cn), .v (.int .i64 0), .v (.int .i64 am), .v (.int .i64 0)]] = (t.es ++ [(⟨D, 2, cn, 0, am, 0⟩ : Ent)]).map eEnt := by rw [List.map_append]; rfl
                repeat' (first | refine zq0 ?_ | refine zq1 ?_ | refine zq2 ?_ | refine zq3 ?_ | refine zq4 ?_ | refine zq5 ?_ | refine thenK_n ?_ | refine thenK_x ?_ | refine thenK_r ?_ | refine blockK_n ?_ | refine blockK_r ?_ | refine blockK_hit ?_ | refine blockK_miss (by decide) ?_ | ((first | refine sym_reg env fun Q hQ => ?_ | refine sym_cz fun Q hQ => ?_); simp only [vkt, Nat.reduceEqDiff, Nat.reduceAdd, Nat.reduceMul, Nat.reduceSub, Nat.reduceLeDiff, reduceCtorEq, ↓reduceIte, ↓reduceDIte, Int.reduceToNat, Int.reduceLE, Int.reduceLT, Int.reduceEq, Int.reduceNeg, tbG9_27, aI, aB, aSh, aLed, cLed, aInts, aShs, bgH, mInt, dIntW, List.map_cons, List.map_nil, List.length_cons, List.length_nil, loT, nil4, lo1, lo2, lo3, ld1, ld2, ld3, le1, p21, p22, p84, p85, p71, s54, p23r, gInt, eInt, eShs, rInt, rSh, rEnt, rInts, rShs, flInt, List.nil_append, List.append_nil, List.cons_append, wD, wR, wC, hD', hX1', hκ, hX2, hcn, hX3, e6, hA, hX4, w1, e4, e7, setI]; (try simp only [ite_and]); (repeat' (first | with_reducible assumption | refine And.intro ?_ ?_)); all_goals (first | (refine hQ _ ?_; clear hQ; clear Q) | (refine hQ _ (fun h => ?_) (fun h => ?_) <;> clear hQ <;> clear Q <;> (try simp only [vki, reduceCtorEq] at h)) | omega | (with_reducible assumption) | (with_reducible rfl) | (refine drawB_of ?_; kernel_rfl) | skip)))
                all_goals first | exact ⟨_, _, rfl⟩ | skip
                refine ⟨⟨q + 1, hlt⟩, by show U - (q + 1) < U - q; omega, ?_⟩
                (refine Le.ok (fun j => if j = 7 then some 11 else some j) [] ⟨?_, ?_, ?_, ?_, ?_, ?_, ?_, ?_, ?_, ?_, ?_⟩; all_goals (try simp only [leT, leH, leO, ADf.leL, imgs, idsT, idsH, List.filterMap_cons, List.filterMap_nil, List.flatMap_nil, Nat.lt_irrefl, Nat.not_lt_zero, vkt, Nat.reduceEqDiff, Nat.reduceAdd, Nat.reduceMul, Nat.reduceSub, Nat.reduceLeDiff, reduceCtorEq, ↓reduceIte, ↓reduceDIte, Int.reduceToNat, Int.reduceLE, Int.reduceLT, Int.reduceEq, Int.reduceNeg, tbG9_27, aI, aB, aSh, aLed, cLed, aInts, aShs, bgH, mInt, dIntW, List.map_cons, List.map_nil, List.length_cons, List.length_nil, loT, nil4, lo1, lo2, lo3, ld1, ld2, ld3, le1, p21, p22, p84, p85, p71, s54, p23r, gInt, eInt, eShs, rInt, rSh, rEnt, rInts, rShs, flInt, List.nil_append, List.append_nil, List.cons_append]))
                all_goals first | rfl | (simp [hst]; done)
              by_cases k4 : κ = 4
              · subst k4
                have u1 := enA4_bd hv X3
                have u2 := upV_bd (x := X3) (m := 3 - -3) (by decide)
                have hst : EK (q + 1) = ⟨D, t.till.set cn.toNat (enA4 hv X3), t.es ++ [(⟨D, 4, cn, 0, enA4 hv X3, 0⟩ : Ent)], upS (upS X3 (3 - -3)) ((2 : Nat) - 1)⟩ := by rw [hst]; unfold enS0 enS4; rw [if_neg (by decide), if_neg (by decide), if_pos rfl, hh]
                unfold enA4 enF at hst u1
                obtain ⟨f, hf⟩ : ∃ f, -3 + upV X3 (3 - -3) = f := ⟨_, rfl⟩
                obtain ⟨X4, hX4⟩ : ∃ X4, upS X3 (3 - -3) = X4 := ⟨_, rfl⟩
                have hf3 : -3 ≤ f ∧ f ≤ 3 := by omega
                rw [hf, hX4] at hst u1
                have ho := oneV_mem (x := X4) (l := [0, f]) (by simp) (by simp)
                obtain ⟨o, hO⟩ : ∃ o, oneV X4 [0, f] = o := ⟨_, rfl⟩
                obtain ⟨X5, hX5⟩ : ∃ X5, upS X4 ((2 : Nat) - 1) = X5 := ⟨_, rfl⟩
                rw [hO, hX5] at hst
                rw [hO] at u1 ho
                have ho : -3 ≤ o ∧ o ≤ 3 := by simp at ho; omega
                have w1 : IntKind.wrap .i64 (hv + o) = hv + o := wrap64 (by omega) (by omega)
                obtain ⟨am, hA⟩ : ∃ am, max 0 (min 999 (hv + o)) = am := ⟨_, rfl⟩
                rw [hA] at hst
                have e4 : t.es.map eEnt ++ [[.v (.int .i64 D), .v (.int .i64 4), .v (.int .i64 cn), .v (.int .i64 0), .v (.int .i64 am), .v (.int .i64 0)]] = (t.es ++ [(⟨D, 4, cn, 0, am, 0⟩ : Ent)]).map eEnt := by rw [List.map_append]; rfl
                repeat' (first | refine zq0 ?_ | refine zq1 ?_ | refine zq2 ?_ | refine zq3 ?_ | refine zq4 ?_ | refine zq5 ?_ | refine thenK_n ?_ | refine thenK_x ?_ | refine thenK_r ?_ | refine blockK_n ?_ | refine blockK_r ?_ | refine blockK_hit ?_ | refine blockK_miss (by decide) ?_ | ((first | refine sym_reg env fun Q hQ => ?_ | refine sym_cz fun Q hQ => ?_); simp only [vkt, Nat.reduceEqDiff, Nat.reduceAdd, Nat.reduceMul, Nat.reduceSub, Nat.reduceLeDiff, reduceCtorEq, ↓reduceIte, ↓reduceDIte, Int.reduceToNat, Int.reduceLE, Int.reduceLT, Int.reduceEq, Int.reduceNeg, tbG9_27, aI, aB, aSh, aLed, cLed, aInts, aShs, bgH, mInt, dIntW, List.map_cons, List.map_nil, List.length_cons, List.length_nil, loT, nil4, lo1, lo2, lo3, ld1, ld2, ld3, le1, p21, p22, p84, p85, p71, s54, p23r, gInt, eInt, eShs, rInt, rSh, rEnt, rInts, rShs, flInt, List.nil_append, List.append_nil, List.cons_append, wD, wR, wC, hD', hX1', hκ, hX2, hcn, hX3, e6, hf, hX4, hO, hX5, w1, hA, e4, e7, setI]; (try simp only [ite_and]); (repeat' (first | with_reducible assumption | refine And.intro ?_ ?_)); all_goals (first | (refine hQ _ ?_; clear hQ; clear Q) | (refine hQ _ (fun h => ?_) (fun h => ?_) <;> clear hQ <;> clear Q <;> (try simp only [vki, reduceCtorEq] at h)) | omega | (with_reducible assumption) | (with_reducible rfl) | (refine drawB_of ?_; kernel_rfl) | skip)))
                all_goals first | exact ⟨_, _, rfl⟩ | skip
                all_goals first | exact ⟨_, _, rfl⟩ | skip
                refine ⟨⟨q + 1, hlt⟩, by show U - (q + 1) < U - q; omega, ?_⟩
                (refine Le.ok (fun j => if j = 7 then some 12 else some j) [] ⟨?_, ?_, ?_, ?_, ?_, ?_, ?_, ?_, ?_, ?_, ?_⟩; all_goals (try simp only [leT, leH, leO, ADf.leL, imgs, idsT, idsH, List.filterMap_cons, List.filterMap_nil, List.flatMap_nil, Nat.lt_irrefl, Nat.not_lt_zero, vkt, Nat.reduceEqDiff, Nat.reduceAdd, Nat.reduceMul, Nat.reduceSub, Nat.reduceLeDiff, reduceCtorEq, ↓reduceIte, ↓reduceDIte, Int.reduceToNat, Int.reduceLE, Int.reduceLT, Int.reduceEq, Int.reduceNeg, tbG9_27, aI, aB, aSh, aLed, cLed, aInts, aShs, bgH, mInt, dIntW, List.map_cons, List.map_nil, List.length_cons, List.length_nil, loT, nil4, lo1, lo2, lo3, ld1, ld2, ld3, le1, p21, p22, p84, p85, p71, s54, p23r, gInt, eInt, eShs, rInt, rSh, rEnt, rInts, rShs, flInt, List.nil_append, List.append_nil, List.cons_append]))
                all_goals first | rfl | (simp [hst]; done)
              have k3 : κ = 3 := by
                have := oneV_mem (x := X1) (l := [1, 2, 3, 3, 3, 4]) (by simp) (by simp)
                rw [hκ] at this
                simp at this
                omega
              subst k3
              unfold enS0 at hst
              rw [if_neg k1, if_neg k2, if_neg k4] at hst
              unfold enS3 at hst
              by_cases cC : co.cs.length = 1
              · rw [if_pos cC] at hst
                have cC' : decide ((co.cs.length : Int) = 1) = true := by simp [cC]
                repeat' (first | refine zq0 ?_ | refine zq1 ?_ | refine zq2 ?_ | refine zq3 ?_ | refine zq4 ?_ | refine zq5 ?_ | refine thenK_n ?_ | refine thenK_x ?_ | refine thenK_r ?_ | refine blockK_n ?_ | refine blockK_r ?_ | refine blockK_hit ?_ | refine blockK_miss (by decide) ?_ | ((first | refine sym_reg env fun Q hQ => ?_ | refine sym_cz fun Q hQ => ?_); simp only [vkt, Nat.reduceEqDiff, Nat.reduceAdd, Nat.reduceMul, Nat.reduceSub, Nat.reduceLeDiff, reduceCtorEq, ↓reduceIte, ↓reduceDIte, Int.reduceToNat, Int.reduceLE, Int.reduceLT, Int.reduceEq, Int.reduceNeg, tbG9_27, aI, aB, aSh, aLed, cLed, aInts, aShs, bgH, mInt, dIntW, List.map_cons, List.map_nil, List.length_cons, List.length_nil, loT, nil4, lo1, lo2, lo3, ld1, ld2, ld3, le1, p21, p22, p84, p85, p71, s54, p23r, gInt, eInt, eShs, rInt, rSh, rEnt, rInts, rShs, flInt, List.nil_append, List.append_nil, List.cons_append, wD, wR, wC, hD', hX1', hκ, hX2, hcn, hX3, cC', e7]; (try simp only [ite_and]); (repeat' (first | with_reducible assumption | refine And.intro ?_ ?_)); all_goals (first | (refine hQ _ ?_; clear hQ; clear Q) | (refine hQ _ (fun h => ?_) (fun h => ?_) <;> clear hQ <;> clear Q <;> (try simp only [vki, reduceCtorEq] at h)) | omega | (with_reducible assumption) | (with_reducible rfl) | (refine drawB_of ?_; kernel_rfl) | skip)))
                all_goals first | exact ⟨_, _, rfl⟩ | skip
                refine ⟨⟨q + 1, hlt⟩, by show U - (q + 1) < U - q; omega, ?_⟩
                (refine Le.ok some [] ⟨?_, ?_, ?_, ?_, ?_, ?_, ?_, ?_, ?_, ?_, ?_⟩; all_goals (try simp only [leT, leH, leO, ADf.leL, imgs, idsT, idsH, List.filterMap_cons, List.filterMap_nil, List.flatMap_nil, Nat.lt_irrefl, Nat.not_lt_zero, vkt, Nat.reduceEqDiff, Nat.reduceAdd, Nat.reduceMul, Nat.reduceSub, Nat.reduceLeDiff, reduceCtorEq, ↓reduceIte, ↓reduceDIte, Int.reduceToNat, Int.reduceLE, Int.reduceLT, Int.reduceEq, Int.reduceNeg, tbG9_27, aI, aB, aSh, aLed, cLed, aInts, aShs, bgH, mInt, dIntW, List.map_cons, List.map_nil, List.length_cons, List.length_nil, loT, nil4, lo1, lo2, lo3, ld1, ld2, ld3, le1, p21, p22, p84, p85, p71, s54, p23r, gInt, eInt, eShs, rInt, rSh, rEnt, rInts, rShs, flInt, List.nil_append, List.append_nil, List.cons_append]))
                all_goals first | rfl | (simp [hst]; done)
              · rw [if_neg cC] at hst
                have cC' : ¬ (co.cs.length : Int) = 1 := by omega
                have u1 := upV_le (x := X3) (m := (co.cs.length : Int) - 1 - 1) (by omega) (by omega)
                have wT : IntKind.wrap .i64 (cn + (1 + upV X3 ((co.cs.length : Int) - 1 - 1))) = cn + (1 + upV X3 ((co.cs.length : Int) - 1 - 1)) := wrap64 (by omega) (by omega)
                have hT2 : foldV (cn + (1 + upV X3 ((co.cs.length : Int) - 1 - 1))) (co.cs.length : Int) = enTo co.cs.length cn X3 := rfl
                have hTb : 0 ≤ enTo co.cs.length cn X3 ∧ enTo co.cs.length cn X3 < (co.cs.length : Int) := foldV_bd (by omega)
                obtain ⟨to, hT⟩ : ∃ to, foldV (cn + (1 + upV X3 ((co.cs.length : Int) - 1 - 1))) (co.cs.length : Int) = to := ⟨_, rfl⟩
                rw [← hT2, hT] at hst hTb
                clear hT2
                obtain ⟨X4, hX4⟩ : ∃ X4, upS X3 ((co.cs.length : Int) - 1 - 1) = X4 := ⟨_, rfl⟩
                rw [hX4, hh] at hst
                have u2 := upV_bd (x := X4) (m := min hv 40) (by omega)
                obtain ⟨am, hA⟩ : ∃ am, upV X4 (min hv 40) = am := ⟨_, rfl⟩
                obtain ⟨X5, hX5⟩ : ∃ X5, upS X4 (min hv 40) = X5 := ⟨_, rfl⟩
                rw [hA, hX5] at hst
                rw [hA] at u2
                have am0 : 0 ≤ am ∧ am ≤ 40 ∧ am ≤ hv := by omega
                have s1 := hrs.sh j1 j2 j3 j4
                have s2 := hrs.sh j1 j2 hTb.1 (show to ≤ (co.cs.length : Int) - 1 by omega)
                have hGb := enG0_bd s1 s2 am0.1 am0.2.1
                have lD : D.toNat < rs.length := by omega
                have g1 := gRow lD
                have lR := (okd2 _ (gMem (l := rs) (k := D.toNat) (d := []) lD)).len
                have q1 := s1.n
                have q2 := s1.d
                have q3 := s2.n
                have q4 := s2.d
                obtain ⟨G, hG0⟩ : ∃ G, enG0 rs D cn to am = G := ⟨_, rfl⟩
                unfold enS3a at hst
                rw [hG0] at hst hGb
                unfold enG0 at hG0
                generalize rs.getD D.toNat [] = rw at *
                obtain ⟨f, hf⟩ : ∃ f, rw.getD cn.toNat default = f := ⟨_, rfl⟩
                obtain ⟨g, hg⟩ : ∃ g, rw.getD to.toNat default = g := ⟨_, rfl⟩
                rw [hf] at q1 q2 hG0
                rw [hg] at q3 q4 hG0
                have lf : cn.toNat < rw.length := by omega
                have lg : to.toNat < rw.length := by omega
                have G1 : (rw.map eSh).getD cn.toNat [.v (.int .i64 0), .v (.int .i64 0)] = [.v (.int .i64 f.num), .v (.int .i64 f.den)] := by rw [gSh, hf]; rfl
                have G2 : (rw.map eSh).getD to.toNat [.v (.int .i64 0), .v (.int .i64 0)] = [.v (.int .i64 g.num), .v (.int .i64 g.den)] := by rw [gSh, hg]; rfl
                have m1' : 0 ≤ am * f.num ∧ am * f.num ≤ 800 := ⟨Int.mul_nonneg am0.1 (by omega), Int.le_trans (Int.mul_le_mul am0.2.1 q1.2 (by omega) (by omega)) (by decide)⟩
                have m2' : 0 ≤ am * f.num * g.den ∧ am * f.num * g.den ≤ 9600 := ⟨Int.mul_nonneg m1'.1 (by omega), Int.le_trans (Int.mul_le_mul m1'.2 q4.2 (by omega) (by omega)) (by decide)⟩
                have m3' : 0 < f.den * g.num ∧ f.den * g.num ≤ 240 := ⟨Int.mul_pos (by omega) (by omega), Int.le_trans (Int.mul_le_mul q2.2 q3.2 (by omega) (by omega)) (by decide)⟩
                have wa : IntKind.wrap .i64 (am * f.num) = am * f.num := wrap64 (by omega) (by omega)
                have wb : IntKind.wrap .i64 (am * f.num * g.den) = am * f.num * g.den := wrap64 (by omega) (by omega)
                have wc : IntKind.wrap .i64 (f.den * g.num) = f.den * g.num := wrap64 (by omega) (by omega)
                have nz : ¬ f.den * g.num = 0 := by omega
                have hG : (am * f.num * g.den).tdiv (f.den * g.num) = G := hG0
                have wd : IntKind.wrap .i64 G = G := wrap64 (by omega) (by omega)
                have ltl : to.toNat < t.till.length := by omega
                have g2 := gI0 ltl
                have hht0 := hI.b _ (gMem (l := t.till) (k := to.toNat) (d := 0) ltl)
                obtain ⟨ht, hht⟩ : ∃ ht, t.till.getD to.toNat 0 = ht := ⟨_, rfl⟩
                rw [hht] at g2 hht0
                have w0 : IntKind.wrap .i64 (hv - am) = hv - am := wrap64 (by omega) (by omega)
                have p3 : min hv 40 < 9223372036854775807 := by omega
                have p4 : (co.cs.length : Int) ≤ 1000000 := by omega
                have et : to.toNat < (t.till.set cn.toNat (hv - am)).length := by rw [List.length_set]; exact ltl
                have g3 := gI0 et
                obtain ⟨X6, hX6⟩ : ∃ X6, upS X5 (10 - 1) = X6 := ⟨_, rfl⟩
                rw [hX6] at hst
                by_cases c5 : upV X5 (10 - 1) < w
                · rw [if_pos c5] at hst
                  have u3 := upV_le (x := X6) (m := 3 - 1) (by decide) (by decide)
                  obtain ⟨v, hv3⟩ : ∃ v, 1 + upV X6 (3 - 1) = v := ⟨_, rfl⟩
                  obtain ⟨X7, hX7⟩ : ∃ X7, upS X6 (3 - 1) = X7 := ⟨_, rfl⟩
                  rw [hv3, hX7] at hst
                  have wg : IntKind.wrap .i64 (G + v) = G + v := wrap64 (by omega) (by omega)
                  by_cases c6 : 999 < G + v
                  · have hst : EK (q + 1) = ⟨D, t.till, t.es, X7⟩ := by rw [hst]; unfold enS3b; rw [if_pos c6]
                    repeat' (first | refine zq0 ?_ | refine zq1 ?_ | refine zq2 ?_ | refine zq3 ?_ | refine zq4 ?_ | refine zq5 ?_ | refine thenK_n ?_ | refine thenK_x ?_ | refine thenK_r ?_ | refine blockK_n ?_ | refine blockK_r ?_ | refine blockK_hit ?_ | refine blockK_miss (by decide) ?_ | ((first | refine sym_reg env fun Q hQ => ?_ | refine sym_cz fun Q hQ => ?_); simp only [vkt, Nat.reduceEqDiff, Nat.reduceAdd, Nat.reduceMul, Nat.reduceSub, Nat.reduceLeDiff, reduceCtorEq, ↓reduceIte, ↓reduceDIte, Int.reduceToNat, Int.reduceLE, Int.reduceLT, Int.reduceEq, Int.reduceNeg, tbG9_27, aI, aB, aSh, aLed, cLed, aInts, aShs, bgH, mInt, dIntW, List.map_cons, List.map_nil, List.length_cons, List.length_nil, loT, nil4, lo1, lo2, lo3, ld1, ld2, ld3, le1, p21, p22, p84, p85, p71, s54, p23r, gInt, eInt, eShs, rInt, rSh, rEnt, rInts, rShs, flInt, List.nil_append, List.append_nil, List.cons_append, wD, wR, wC, hD', hX1', hκ, hX2, hcn, hX3, e6, g1, g2, G1, G2, wT, hT, hX4, hA, hX5, wa, wb, wc, wd, nz, hG, cC', c5, hX6, hv3, hX7, wg, c6, k1, k2, k4, e7, setI]; (try simp only [ite_and]); (repeat' (first | with_reducible assumption | refine And.intro ?_ ?_)); all_goals (first | (refine hQ _ ?_; clear hQ; clear Q) | (refine hQ _ (fun h => ?_) (fun h => ?_) <;> clear hQ <;> clear Q <;> (try simp only [vki, reduceCtorEq] at h)) | omega | (with_reducible assumption) | (with_reducible rfl) | (refine drawB_of ?_; kernel_rfl) | skip)))
                    all_goals first | exact ⟨_, _, rfl⟩ | skip
                    refine ⟨⟨q + 1, hlt⟩, by show U - (q + 1) < U - q; omega, ?_⟩
                    (refine Le.ok some [] ⟨?_, ?_, ?_, ?_, ?_, ?_, ?_, ?_, ?_, ?_, ?_⟩; all_goals (try simp only [leT, leH, leO, ADf.leL, imgs, idsT, idsH, List.filterMap_cons, List.filterMap_nil, List.flatMap_nil, Nat.lt_irrefl, Nat.not_lt_zero, vkt, Nat.reduceEqDiff, Nat.reduceAdd, Nat.reduceMul, Nat.reduceSub, Nat.reduceLeDiff, reduceCtorEq, ↓reduceIte, ↓reduceDIte, Int.reduceToNat, Int.reduceLE, Int.reduceLT, Int.reduceEq, Int.reduceNeg, tbG9_27, aI, aB, aSh, aLed, cLed, aInts, aShs, bgH, mInt, dIntW, List.map_cons, List.map_nil, List.length_cons, List.length_nil, loT, nil4, lo1, lo2, lo3, ld1, ld2, ld3, le1, p21, p22, p84, p85, p71, s54, p23r, gInt, eInt, eShs, rInt, rSh, rEnt, rInts, rShs, flInt, List.nil_append, List.append_nil, List.cons_append]))
                    all_goals first | rfl | (simp [hst]; done)
                  · have hst : EK (q + 1) = ⟨D, (t.till.set cn.toNat (hv - am)).set to.toNat (ht + (G + v)), t.es ++ [(⟨D, 3, cn, to, am, G + v⟩ : Ent)], X7⟩ := by rw [hst]; unfold enS3b; rw [if_neg c6, hh, hht]
                    have w1 : IntKind.wrap .i64 (ht + (G + v)) = ht + (G + v) := wrap64 (by omega) (by omega)
                    have e4 : t.es.map eEnt ++ [[.v (.int .i64 D), .v (.int .i64 3), .v (.int .i64 cn), .v (.int .i64 to), .v (.int .i64 am), .v (.int .i64 (G + v))]] = (t.es ++ [(⟨D, 3, cn, to, am, G + v⟩ : Ent)]).map eEnt := by rw [List.map_append]; rfl
                    repeat' (first | refine zq0 ?_ | refine zq1 ?_ | refine zq2 ?_ | refine zq3 ?_ | refine zq4 ?_ | refine zq5 ?_ | refine thenK_n ?_ | refine thenK_x ?_ | refine thenK_r ?_ | refine blockK_n ?_ | refine blockK_r ?_ | refine blockK_hit ?_ | refine blockK_miss (by decide) ?_ | ((first | refine sym_reg env fun Q hQ => ?_ | refine sym_cz fun Q hQ => ?_); simp only [vkt, Nat.reduceEqDiff, Nat.reduceAdd, Nat.reduceMul, Nat.reduceSub, Nat.reduceLeDiff, reduceCtorEq, ↓reduceIte, ↓reduceDIte, Int.reduceToNat, Int.reduceLE, Int.reduceLT, Int.reduceEq, Int.reduceNeg, tbG9_27, aI, aB, aSh, aLed, cLed, aInts, aShs, bgH, mInt, dIntW, List.map_cons, List.map_nil, List.length_cons, List.length_nil, loT, nil4, lo1, lo2, lo3, ld1, ld2, ld3, le1, p21, p22, p84, p85, p71, s54, p23r, gInt, eInt, eShs, rInt, rSh, rEnt, rInts, rShs, flInt, List.nil_append, List.append_nil, List.cons_append, wD, wR, wC, hD', hX1', hκ, hX2, hcn, hX3, e6, g1, g2, G1, G2, wT, hT, hX4, hA, hX5, wa, wb, wc, wd, nz, hG, cC', c5, hX6, hv3, hX7, wg, c6, k1, k2, k4, e7, hh, hht, et, g3, w0, w1, e4, setI]; (try simp only [ite_and]); (repeat' (first | with_reducible assumption | refine And.intro ?_ ?_)); all_goals (first | (refine hQ _ ?_; clear hQ; clear Q) | (refine hQ _ (fun h => ?_) (fun h => ?_) <;> clear hQ <;> clear Q <;> (try simp only [vki, reduceCtorEq] at h)) | omega | (with_reducible assumption) | (with_reducible rfl) | (refine drawB_of ?_; kernel_rfl) | skip)))
                    all_goals first | exact ⟨_, _, rfl⟩ | skip
                    refine ⟨⟨q + 1, hlt⟩, by show U - (q + 1) < U - q; omega, ?_⟩
                    (refine Le.ok (fun j => if j = 7 then some 13 else some j) [] ⟨?_, ?_, ?_, ?_, ?_, ?_, ?_, ?_, ?_, ?_, ?_⟩; all_goals (try simp only [leT, leH, leO, ADf.leL, imgs, idsT, idsH, List.filterMap_cons, List.filterMap_nil, List.flatMap_nil, Nat.lt_irrefl, Nat.not_lt_zero, vkt, Nat.reduceEqDiff, Nat.reduceAdd, Nat.reduceMul, Nat.reduceSub, Nat.reduceLeDiff, reduceCtorEq, ↓reduceIte, ↓reduceDIte, Int.reduceToNat, Int.reduceLE, Int.reduceLT, Int.reduceEq, Int.reduceNeg, tbG9_27, aI, aB, aSh, aLed, cLed, aInts, aShs, bgH, mInt, dIntW, List.map_cons, List.map_nil, List.length_cons, List.length_nil, loT, nil4, lo1, lo2, lo3, ld1, ld2, ld3, le1, p21, p22, p84, p85, p71, s54, p23r, gInt, eInt, eShs, rInt, rSh, rEnt, rInts, rShs, flInt, List.nil_append, List.append_nil, List.cons_append]))
                    all_goals first | rfl | (simp [hst]; done)
                · rw [if_neg c5] at hst
                  by_cases c6 : 999 < G
                  · have hst : EK (q + 1) = ⟨D, t.till, t.es, X6⟩ := by rw [hst]; unfold enS3b; rw [if_pos c6]
                    repeat' (first | refine zq0 ?_ | refine zq1 ?_ | refine zq2 ?_ | refine zq3 ?_ | refine zq4 ?_ | refine zq5 ?_ | refine thenK_n ?_ | refine thenK_x ?_ | refine thenK_r ?_ | refine blockK_n ?_ | refine blockK_r ?_ | refine blockK_hit ?_ | refine blockK_miss (by decide) ?_ | ((first | refine sym_reg env fun Q hQ => ?_ | refine sym_cz fun Q hQ => ?_); simp only [vkt, Nat.reduceEqDiff, Nat.reduceAdd, Nat.reduceMul, Nat.reduceSub, Nat.reduceLeDiff, reduceCtorEq, ↓reduceIte, ↓reduceDIte, Int.reduceToNat, Int.reduceLE, Int.reduceLT, Int.reduceEq, Int.reduceNeg, tbG9_27, aI, aB, aSh, aLed, cLed, aInts, aShs, bgH, mInt, dIntW, List.map_cons, List.map_nil, List.length_cons, List.length_nil, loT, nil4, lo1, lo2, lo3, ld1, ld2, ld3, le1, p21, p22, p84, p85, p71, s54, p23r, gInt, eInt, eShs, rInt, rSh, rEnt, rInts, rShs, flInt, List.nil_append, List.append_nil, List.cons_append, wD, wR, wC, hD', hX1', hκ, hX2, hcn, hX3, e6, g1, g2, G1, G2, wT, hT, hX4, hA, hX5, wa, wb, wc, wd, nz, hG, cC', c5, hX6, c6, k1, k2, k4, e7, setI]; (try simp only [ite_and]); (repeat' (first | with_reducible assumption | refine And.intro ?_ ?_)); all_goals (first | (refine hQ _ ?_; clear hQ; clear Q) | (refine hQ _ (fun h => ?_) (fun h => ?_) <;> clear hQ <;> clear Q <;> (try simp only [vki, reduceCtorEq] at h)) | omega | (with_reducible assumption) | (with_reducible rfl) | (refine drawB_of ?_; kernel_rfl) | skip)))
                    all_goals first | exact ⟨_, _, rfl⟩ | skip
                    refine ⟨⟨q + 1, hlt⟩, by show U - (q + 1) < U - q; omega, ?_⟩
                    (refine Le.ok some [] ⟨?_, ?_, ?_, ?_, ?_, ?_, ?_, ?_, ?_, ?_, ?_⟩; all_goals (try simp only [leT, leH, leO, ADf.leL, imgs, idsT, idsH, List.filterMap_cons, List.filterMap_nil, List.flatMap_nil, Nat.lt_irrefl, Nat.not_lt_zero, vkt, Nat.reduceEqDiff, Nat.reduceAdd, Nat.reduceMul, Nat.reduceSub, Nat.reduceLeDiff, reduceCtorEq, ↓reduceIte, ↓reduceDIte, Int.reduceToNat, Int.reduceLE, Int.reduceLT, Int.reduceEq, Int.reduceNeg, tbG9_27, aI, aB, aSh, aLed, cLed, aInts, aShs, bgH, mInt, dIntW, List.map_cons, List.map_nil, List.length_cons, List.length_nil, loT, nil4, lo1, lo2, lo3, ld1, ld2, ld3, le1, p21, p22, p84, p85, p71, s54, p23r, gInt, eInt, eShs, rInt, rSh, rEnt, rInts, rShs, flInt, List.nil_append, List.append_nil, List.cons_append]))
                    all_goals first | rfl | (simp [hst]; done)
                  · have hst : EK (q + 1) = ⟨D, (t.till.set cn.toNat (hv - am)).set to.toNat (ht + G), t.es ++ [(⟨D, 3, cn, to, am, G⟩ : Ent)], X6⟩ := by rw [hst]; unfold enS3b; rw [if_neg c6, hh, hht]
                    have w1 : IntKind.wrap .i64 (ht + (G)) = ht + (G) := wrap64 (by omega) (by omega)
                    have e4 : t.es.map eEnt ++ [[.v (.int .i64 D), .v (.int .i64 3), .v (.int .i64 cn), .v (.int .i64 to), .v (.int .i64 am), .v (.int .i64 (G))]] = (t.es ++ [(⟨D, 3, cn, to, am, G⟩ : Ent)]).map eEnt := by rw [List.map_append]; rfl
                    repeat' (first | refine zq0 ?_ | refine zq1 ?_ | refine zq2 ?_ | refine zq3 ?_ | refine zq4 ?_ | refine zq5 ?_ | refine thenK_n ?_ | refine thenK_x ?_ | refine thenK_r ?_ | refine blockK_n ?_ | refine blockK_r ?_ | refine blockK_hit ?_ | refine blockK_miss (by decide) ?_ | ((first | refine sym_reg env fun Q hQ => ?_ | refine sym_cz fun Q hQ => ?_); simp only [vkt, Nat.reduceEqDiff, Nat.reduceAdd, Nat.reduceMul, Nat.reduceSub, Nat.reduceLeDiff, reduceCtorEq, ↓reduceIte, ↓reduceDIte, Int.reduceToNat, Int.reduceLE, Int.reduceLT, Int.reduceEq, Int.reduceNeg, tbG9_27, aI, aB, aSh, aLed, cLed, aInts, aShs, bgH, mInt, dIntW, List.map_cons, List.map_nil, List.length_cons, List.length_nil, loT, nil4, lo1, lo2, lo3, ld1, ld2, ld3, le1, p21, p22, p84, p85, p71, s54, p23r, gInt, eInt, eShs, rInt, rSh, rEnt, rInts, rShs, flInt, List.nil_append, List.append_nil, List.cons_append, wD, wR, wC, hD', hX1', hκ, hX2, hcn, hX3, e6, g1, g2, G1, G2, wT, hT, hX4, hA, hX5, wa, wb, wc, wd, nz, hG, cC', c5, hX6, c6, k1, k2, k4, e7, hh, hht, et, g3, w0, w1, e4, setI]; (try simp only [ite_and]); (repeat' (first | with_reducible assumption | refine And.intro ?_ ?_)); all_goals (first | (refine hQ _ ?_; clear hQ; clear Q) | (refine hQ _ (fun h => ?_) (fun h => ?_) <;> clear hQ <;> clear Q <;> (try simp only [vki, reduceCtorEq] at h)) | omega | (with_reducible assumption) | (with_reducible rfl) | (refine drawB_of ?_; kernel_rfl) | skip)))
                    all_goals first | exact ⟨_, _, rfl⟩ | skip
                    refine ⟨⟨q + 1, hlt⟩, by show U - (q + 1) < U - q; omega, ?_⟩
                    (refine Le.ok (fun j => if j = 7 then some 13 else some j) [] ⟨?_, ?_, ?_, ?_, ?_, ?_, ?_, ?_, ?_, ?_, ?_⟩; all_goals (try simp only [leT, leH, leO, ADf.leL, imgs, idsT, idsH, List.filterMap_cons, List.filterMap_nil, List.flatMap_nil, Nat.lt_irrefl, Nat.not_lt_zero, vkt, Nat.reduceEqDiff, Nat.reduceAdd, Nat.reduceMul, Nat.reduceSub, Nat.reduceLeDiff, reduceCtorEq, ↓reduceIte, ↓reduceDIte, Int.reduceToNat, Int.reduceLE, Int.reduceLT, Int.reduceEq, Int.reduceNeg, tbG9_27, aI, aB, aSh, aLed, cLed, aInts, aShs, bgH, mInt, dIntW, List.map_cons, List.map_nil, List.length_cons, List.length_nil, loT, nil4, lo1, lo2, lo3, ld1, ld2, ld3, le1, p21, p22, p84, p85, p71, s54, p23r, gInt, eInt, eShs, rInt, rSh, rEnt, rInts, rShs, flInt, List.nil_append, List.append_nil, List.cons_append]))
                    all_goals first | rfl | (simp [hst]; done)
            · have hqU : q = U := by omega
              subst hqU
              rw [gL, gS, g3]
              repeat' (first | refine zq0 ?_ | refine zq1 ?_ | refine zq2 ?_ | refine zq3 ?_ | refine zq4 ?_ | refine zq5 ?_ | refine thenK_n ?_ | refine thenK_x ?_ | refine thenK_r ?_ | refine blockK_n ?_ | refine blockK_r ?_ | refine blockK_hit ?_ | refine blockK_miss (by decide) ?_ | ((first | refine sym_reg env fun Q hQ => ?_ | refine sym_cz fun Q hQ => ?_); simp only [vkt, Nat.reduceEqDiff, Nat.reduceAdd, Nat.reduceMul, Nat.reduceSub, Nat.reduceLeDiff, reduceCtorEq, ↓reduceIte, ↓reduceDIte, Int.reduceToNat, Int.reduceLE, Int.reduceLT, Int.reduceEq, Int.reduceNeg, tbG9_27, aI, aB, aSh, aLed, cLed, aInts, aShs, bgH, mInt, dIntW, List.map_cons, List.map_nil, List.length_cons, List.length_nil, loT, nil4, lo1, lo2, lo3, ld1, ld2, ld3, le1, p21, p22, p84, p85, p71, s54, p23r, gInt, eInt, eShs, rInt, rSh, rEnt, rInts, rShs, flInt, List.nil_append, List.append_nil, List.cons_append]; (try simp only [ite_and]); (repeat' (first | with_reducible assumption | refine And.intro ?_ ?_)); all_goals (first | (refine hQ _ ?_; clear hQ; clear Q) | (refine hQ _ (fun h => ?_) (fun h => ?_) <;> clear hQ <;> clear Q <;> (try simp only [vki, reduceCtorEq] at h)) | omega | (with_reducible assumption) | (with_reducible rfl) | (refine drawB_of ?_; kernel_rfl) | skip)))
              (simp only [retK, leaveA, resL, tupA, rd, wCells_some, wRow_some, Try.results27, vkt, Nat.reduceEqDiff, Nat.reduceAdd, Nat.reduceMul, Nat.reduceSub, Nat.reduceLeDiff, reduceCtorEq, ↓reduceIte, ↓reduceDIte, Int.reduceToNat, Int.reduceLE, Int.reduceLT, Int.reduceEq, Int.reduceNeg, tbG9_27, aI, aB, aSh, aLed, cLed, aInts, aShs, bgH, mInt, dIntW, List.map_cons, List.map_nil, List.length_cons, List.length_nil, loT, nil4, lo1, lo2, lo3, ld1, ld2, ld3, le1, p21, p22, p84, p85, p71, s54, p23r, gInt, eInt, eShs, rInt, rSh, rEnt, rInts, rShs, flInt, List.nil_append, List.append_nil, List.cons_append]; refine Fin.ok some [3, 5, 4, 7] ?_ ?_ ?_ ?_ ?_ rfl; all_goals (try simp only [leT, leH, leO, ADf.leL, imgs, idsT, idsH, List.filterMap_cons, List.filterMap_nil, List.flatMap_nil, Nat.lt_irrefl, Nat.not_lt_zero, vkt, Nat.reduceEqDiff, Nat.reduceAdd, Nat.reduceMul, Nat.reduceSub, Nat.reduceLeDiff, reduceCtorEq, ↓reduceIte, ↓reduceDIte, Int.reduceToNat, Int.reduceLE, Int.reduceLT, Int.reduceEq, Int.reduceNeg, tbG9_27, aI, aB, aSh, aLed, cLed, aInts, aShs, bgH, mInt, dIntW, List.map_cons, List.map_nil, List.length_cons, List.length_nil, loT, nil4, lo1, lo2, lo3, ld1, ld2, ld3, le1, p21, p22, p84, p85, p71, s54, p23r, gInt, eInt, eShs, rInt, rSh, rEnt, rInts, rShs, flInt, List.nil_append, List.append_nil, List.cons_append]))
              all_goals first | rfl | (simp; done) | exact ⟨⟨_, _, rfl⟩, ⟨_, _, rfl⟩, ⟨_, _, rfl⟩, ⟨_, _, rfl⟩⟩ | exact ⟨⟨_, _, rfl⟩, ⟨_, _, rfl⟩, ⟨_, _, rfl⟩, ⟨_, _, rfl⟩, trivial⟩
noncomputable def p27 (S : St) : List AV → Option Pk
  | [.ptr i 0, .v (.int .i64 c), .v (.int .i64 d), .v (.int .i64 e), .v (.int .i64 w)] => match S.h i with
    | some (.cells [.v (.int .u64 x)]) => some { pre := (1 ≤ c ∧ c ≤ 4) ∧ (1 ≤ d ∧ d ≤ 4) ∧ (0 ≤ e ∧ e ≤ 6), hs := [i], ar := [.ptr 0 0, .v (.int .i64 c), .v (.int .i64 d), .v (.int .i64 e), .v (.int .i64 w)], L0 := [.cells [.v (.int .u64 x)]], v := aLed (lgL x c d e w), L1 := [some (.cells [.v (.int .u64 (lgS x c d e w))])] }
    | _ => none
  | _ => none
theorem e27 {A : Frm → Prop} : EntryOK A Try.prog 27 (fnE p27) := fnE_ok fun S bs q h hp => by
  unfold p27 at h
  split at h
  · split at h
    · cases h; exact ledgerOf_fn _ _ _ _ _ hp.1 hp.2.1 hp.2.2
    · cases h
  · cases h
end Go.Sym.B
namespace Go.Sym.B
open Go Go.Sym Go.Proofs Go.Sym.C
def accN (f : Nat → List (List Int)) (p a : Nat) : Nat → List (List Int)
  | 0 => []
  | n + 1 => accN f p a n ++ (f (a - n * p)).map ((n : Int) :: ·)
def lsN : List Int → Nat → List (List Int)
  | [], a => if a = 0 then [[]] else []
  | p :: ps, a => accN (lsN ps) p.toNat a (a / p.toNat + 1)
theorem acc_len {f : Nat → List (List Int)} {p a B : Nat} (h : ∀ m, m ≤ a → (f m).length ≤ B) : ∀ n : Nat, (accN f p a n).length ≤ n * B
  | 0 => by simp [accN]
  | n + 1 => by
    have := acc_len (p := p) h n
    have h1 := h (a - n * p) (Nat.sub_le _ _)
    rw [accN, List.length_append, List.length_map, Nat.succ_mul]
    omega
theorem ls_len : ∀ (ps : List Int) (a : Nat), a ≤ 60 → (lsN ps a).length ≤ 61 ^ ps.length
  | [], a, _ => by unfold lsN; split <;> simp
  | p :: ps, a, h => by
    rw [lsN, List.length_cons, Nat.pow_succ, Nat.mul_comm]
    refine Nat.le_trans (acc_len (fun m hm => ls_len ps m (by omega)) _) (Nat.mul_le_mul_right _ ?_)
    have := Nat.div_le_self a p.toNat
    omega
theorem acc_mem {f : Nat → List (List Int)} {p a : Nat} {L : Nat} {B : Int} (h : ∀ m, m ≤ a → ∀ l ∈ f m, l.length = L ∧ ∀ x ∈ l, 0 ≤ x ∧ x ≤ B) : ∀ n : Nat, (n : Int) ≤ B + 1 → ∀ l ∈ accN f p a n, l.length = L + 1 ∧ ∀ x ∈ l, 0 ≤ x ∧ x ≤ B
  | 0, _, l, hl => by simp [accN] at hl
  | n + 1, hn, l, hl => by
    rw [accN] at hl
    rcases List.mem_append.1 hl with hl | hl
    · exact acc_mem h n (by omega) l hl
    · obtain ⟨r, hr, rfl⟩ := List.mem_map.1 hl
      obtain ⟨h1, h2⟩ := h (a - n * p) (Nat.sub_le _ _) r hr
      refine ⟨by simp [h1], fun x hx => ?_⟩
      rcases List.mem_cons.1 hx with rfl | hx
      · omega
      · exact h2 x hx
theorem ls_mem : ∀ (ps : List Int) (a : Nat), a ≤ 60 → ∀ l ∈ lsN ps a, l.length = ps.length ∧ ∀ x ∈ l, 0 ≤ x ∧ x ≤ 60
  | [], a, _, l, hl => by
    unfold lsN at hl
    split at hl
    · obtain rfl := List.mem_singleton.1 hl; exact ⟨rfl, fun x hx => by simp at hx⟩
    · simp at hl
  | p :: ps, a, h, l, hl => by
    rw [lsN] at hl
    have := Nat.div_le_self a p.toNat
    exact acc_mem (fun m hm => ls_mem ps m (by omega)) _ (by omega) l hl
def fmC : Option (List Int) → Option (List Int) → Option (List Int)
  | none, r => r
  | some b, none => some b
  | some b, some c => if pSum c < pSum b then some c else some b
def fm : List (List Int) → Option (List Int)
  | [] => none
  | x :: xs => fmC (some x) (fm xs)
theorem fmC_assoc (a b c : Option (List Int)) : fmC (fmC a b) c = fmC a (fmC b c) := by
  cases a with
  | none => rfl
  | some a => cases b with
    | none => rfl
    | some b => cases c with
      | none => by_cases h1 : pSum b < pSum a <;> simp only [fmC, h1, if_true, if_false]
      | some c =>
        simp only [fmC]
        by_cases h1 : pSum b < pSum a <;> by_cases h2 : pSum c < pSum b <;> by_cases h3 : pSum c < pSum a <;> simp only [fmC, h1, h2, h3, if_true, if_false] <;> omega
theorem fm_append : ∀ xs ys : List (List Int), fm (xs ++ ys) = fmC (fm xs) (fm ys)
  | [], ys => rfl
  | x :: xs, ys => by rw [List.cons_append, fm, fm, fm_append xs ys, fmC_assoc]
theorem sumK_cons (x : Int) (l : List Int) : ∀ k, sumK (fun i => (x :: l).getD i 0) (k + 1) = x + sumK (fun i => l.getD i 0) k
  | 0 => by simp [sumK]
  | k + 1 => by rw [sumK, sumK_cons x l k, sumK]; simp; omega
theorem pSum_cons (x : Int) (l : List Int) : pSum (x :: l) = x + pSum l := by unfold pSum; rw [List.length_cons, sumK_cons]
theorem fm_cons (n : Int) : ∀ xs : List (List Int), fm (xs.map (n :: ·)) = (fm xs).map (n :: ·)
  | [] => rfl
  | x :: xs => by
    rw [List.map_cons, fm, fm, fm_cons n xs]
    cases fm xs with
    | none => rfl
    | some c =>
      simp only [Option.map, fmC, pSum_cons]
      by_cases h : pSum c < pSum x
      · rw [if_pos h, if_pos (by omega)]
      · rw [if_neg h, if_neg (by omega)]
def pcR : List Int → Nat → List Int
  | [], _ => []
  | p :: ps, a => (countN p.toNat (needN ps) a : Int) :: pcR ps (a - countN p.toNat (needN ps) a * p.toNat)
theorem gN_min {p : Nat} {f : Nat → Int} (hp : 1 ≤ p) (hf : ∀ a, -1 ≤ f a) (a : Nat) : ∀ m, m * p ≤ a → 0 ≤ f (a - m * p) → 0 ≤ gN p f a ∧ gN p f a ≤ f (a - m * p) + m := by
  induction a using Nat.strongRecOn with
  | _ a ih =>
    intro m hm h0
    cases m with
    | zero =>
      simp only [Nat.zero_mul, Nat.sub_zero] at h0 ⊢
      by_cases hc : p ≤ a
      · rw [gN_ge hp hc]; unfold updN; split <;> omega
      · rw [gN_lt (by omega)]; omega
    | succ m =>
      have e1 : (m + 1) * p = m * p + p := Nat.succ_mul m p
      have hc : p ≤ a := by omega
      have e2 : a - (m + 1) * p = a - p - m * p := by omega
      rw [e2] at h0 ⊢
      obtain ⟨h1, h2⟩ := ih (a - p) (by omega) m (by omega) h0
      have h3 := hf a
      rw [gN_ge hp hc]
      unfold updN
      split <;> omega
theorem fm_acc {f : Nat → List (List Int)} {g : Nat → Int} {r : Nat → List Int} {p a : Nat} (h0 : ∀ m, m ≤ a → fm (f m) = if 0 ≤ g m then some (r m) else none) (h1 : ∀ m, m ≤ a → 0 ≤ g m → pSum (r m) = g m) :
    ∀ n, (n = 0 ∨ (n - 1) * p ≤ a) → (fm (accN f p a n) = none ∧ (∀ j, j < n → ¬ 0 ≤ g (a - j * p))) ∨ ∃ m, m < n ∧ 0 ≤ g (a - m * p) ∧ fm (accN f p a n) = some ((m : Int) :: r (a - m * p)) ∧ (∀ j, j < n → 0 ≤ g (a - j * p) → g (a - m * p) + m ≤ g (a - j * p) + j) ∧ ∀ j, j < m → 0 ≤ g (a - j * p) → g (a - m * p) + m < g (a - j * p) + j
  | 0, _ => .inl ⟨rfl, fun j hj => by omega⟩
  | n + 1, hn => by
    have hn' : n = 0 ∨ (n - 1) * p ≤ a := by
      rcases Nat.eq_zero_or_pos n with h | h
      · exact .inl h
      · refine .inr (Nat.le_trans (Nat.mul_le_mul_right p (Nat.sub_le n 1)) ?_)
        rcases hn with hn | hn
        · omega
        · simpa using hn
    have ih := fm_acc h0 h1 n hn'
    have hl := h0 (a - n * p) (Nat.sub_le _ _)
    rw [accN, fm_append, fm_cons, hl]
    by_cases hg : 0 ≤ g (a - n * p)
    · have hs := h1 (a - n * p) (Nat.sub_le _ _) hg
      rw [if_pos hg]
      rcases ih with ⟨i1, i2⟩ | ⟨m, i1, i2, i3, i4, i5⟩
      · rw [i1]
        exact .inr ⟨n, by omega, hg, rfl, fun j hj hjg => by
          rcases Nat.lt_or_eq_of_le (Nat.le_of_lt_succ hj) with h | h
          · exact absurd hjg (i2 j h)
          · subst h; omega, fun j hj hjg => absurd hjg (i2 j hj)⟩
      · have hs2 := h1 (a - m * p) (Nat.sub_le _ _) i2
        rw [i3]
        simp only [Option.map, fmC, pSum_cons, hs, hs2]
        by_cases hc : (n : Int) + g (a - n * p) < m + g (a - m * p)
        · rw [if_pos hc]
          refine .inr ⟨n, by omega, hg, rfl, fun j hj hjg => ?_, fun j hj hjg => ?_⟩
          · rcases Nat.lt_or_eq_of_le (Nat.le_of_lt_succ hj) with h | h
            · have := i4 j h hjg; omega
            · subst h; omega
          · have := i4 j hj hjg; omega
        · rw [if_neg hc]
          refine .inr ⟨m, by omega, i2, rfl, fun j hj hjg => ?_, i5⟩
          rcases Nat.lt_or_eq_of_le (Nat.le_of_lt_succ hj) with h | h
          · exact i4 j h hjg
          · subst h; omega
    · rw [if_neg hg]
      rcases ih with ⟨i1, i2⟩ | ⟨m, i1, i2, i3, i4, i5⟩
      · rw [i1]
        refine .inl ⟨rfl, fun j hj => ?_⟩
        rcases Nat.lt_or_eq_of_le (Nat.le_of_lt_succ hj) with h | h
        · exact i2 j h
        · subst h; exact hg
      · rw [i3]
        refine .inr ⟨m, by omega, i2, rfl, fun j hj hjg => ?_, i5⟩
        rcases Nat.lt_or_eq_of_le (Nat.le_of_lt_succ hj) with h | h
        · exact i4 j h hjg
        · subst h; exact absurd hjg hg
theorem fm_ls : ∀ (ps : List Int), (∀ p ∈ ps, 1 ≤ p) → ∀ a : Nat, (fm (lsN ps a) = if 0 ≤ needN ps a then some (pcR ps a) else none) ∧ (0 ≤ needN ps a → pSum (pcR ps a) = needN ps a)
  | [], _, a => by
    unfold lsN needN
    by_cases h : a = 0
    · subst h; exact ⟨rfl, fun _ => rfl⟩
    · simp [h, fm]
  | p :: ps, hp, a => by
    have hps : ∀ q ∈ ps, 1 ≤ q := fun q hq => hp q (List.mem_cons_of_mem _ hq)
    have hp1 : 1 ≤ p.toNat := by have := hp p List.mem_cons_self; omega
    have ih := fm_ls ps hps
    have hf : ∀ a, -1 ≤ needN ps a := fun a => (needN_le hps a).1
    rw [lsN, needN, pcR]
    generalize needN ps = f at *
    generalize p.toNat = q at *
    have hn : a / q + 1 = 0 ∨ (a / q + 1 - 1) * q ≤ a := .inr (by rw [Nat.add_sub_cancel]; exact Nat.div_mul_le_self a q)
    have hk : ∀ j, j * q ≤ a ↔ j < a / q + 1 := fun j => by rw [Nat.lt_succ_iff, Nat.le_div_iff_mul_le hp1]
    have key := fm_acc (f := lsN ps) (g := f) (r := pcR ps) (p := q) (a := a) (fun m _ => (ih m).1) (fun m _ => (ih m).2) (a / q + 1) hn
    rcases key with ⟨k1, k2⟩ | ⟨m, k1, k2, k3, k4, k5⟩
    · have : ¬ 0 ≤ gN q f a := fun h => by
        obtain ⟨m, hm⟩ := hitN_some hp1 a h
        unfold hitN at hm
        simp only [Bool.and_eq_true, decide_eq_true_eq] at hm
        exact k2 m ((hk m).1 hm.1.1) hm.1.2
      rw [k1, if_neg this]
      exact ⟨rfl, fun h => absurd h this⟩
    · obtain ⟨g1, g2⟩ := gN_min hp1 hf a m ((hk m).2 k1) k2
      have hs := countN_spec hp1 g1
      have hm : hitN q f a m = true := by
        unfold hitN at hs ⊢
        simp only [Bool.and_eq_true, decide_eq_true_eq] at hs ⊢
        have h4 := k4 _ ((hk _).1 hs.1.1) hs.1.2
        exact ⟨⟨(hk m).2 k1, k2⟩, by omega⟩
      have hm' := hm
      unfold hitN at hm'
      simp only [Bool.and_eq_true, decide_eq_true_eq] at hm'
      have hc : countN q f a = m := countN_hit hp1 hm fun j hj => by
        cases hh : hitN q f a j with
        | false => rfl
        | true =>
          unfold hitN at hh
          simp only [Bool.and_eq_true, decide_eq_true_eq] at hh
          have := k5 j hj hh.1.2
          omega
      rw [k3, if_pos g1, hc]
      refine ⟨rfl, fun _ => ?_⟩
      rw [pSum_cons, (ih _).2 k2]
      omega
theorem pcA_cons (p : Int) (ps : List Int) (a : Nat) : ∀ i, pcA (p :: ps) a (i + 1) = pcA ps (a - countN p.toNat (needN ps) a * p.toNat) i
  | 0 => rfl
  | i + 1 => by rw [pcA, pcA_cons p ps a i, pcA]; rfl
theorem pcM_cons (p : Int) (ps : List Int) (a : Nat) (i : Nat) : pcM (p :: ps) a (i + 1) = pcM ps (a - countN p.toNat (needN ps) a * p.toNat) i := by
  unfold pcM; rw [pcA_cons]; rfl
theorem pcR_eq : ∀ (ps : List Int) (a : Nat), pcR ps a = pcL ps a ps.length
  | [], a => rfl
  | p :: ps, a => by
    rw [pcR, pcR_eq ps]
    unfold pcL
    rw [List.length_cons, List.range_succ_eq_map, List.map_cons, List.map_map]
    congr 1
    refine List.map_congr_left fun i _ => ?_
    simp only [Function.comp_apply]
    rw [pcM_cons]
def bstK (xs : List (List Int)) : Nat → List Int
  | 0 => xs.getD 0 []
  | k + 1 => if pSum (xs.getD k []) < pSum (bstK xs k) then xs.getD k [] else bstK xs k
theorem bst_fm {xs : List (List Int)} : ∀ k, k < xs.length → fm (xs.take (k + 1)) = some (bstK xs (k + 1))
  | 0, h => by
    rw [bstK, bstK, if_neg (by omega)]
    cases xs with
    | nil => simp at h
    | cons x xs => simp [fm, fmC]
  | k + 1, h => by
    have e : bstK xs (k + 1 + 1) = if pSum (xs.getD (k + 1) []) < pSum (bstK xs (k + 1)) then xs.getD (k + 1) [] else bstK xs (k + 1) := rfl
    have : xs.getD (k + 1) [] = xs[k + 1] := by simp [List.getD_eq_getElem?_getD, h]
    rw [List.take_succ_eq_append_getElem h, fm_append, bst_fm k (by omega), e, this]
    simp only [fm, fmC]
    split <;> rfl
theorem bst_all {xs : List (List Int)} (h : xs ≠ []) : fm xs = some (bstK xs xs.length) := by
  have hl : 0 < xs.length := List.length_pos_iff.2 h
  have := bst_fm (xs := xs) (xs.length - 1) (by omega)
  rw [show xs.length - 1 + 1 = xs.length by omega, List.take_length] at this
  exact this
theorem best_is {ps : List Int} (hp : ∀ p ∈ ps, 1 ≤ p) {a : Nat} (h0 : 0 ≤ needN ps a) : lsN ps a ≠ [] ∧ bstK (lsN ps a) (lsN ps a).length = pcL ps a ps.length := by
  obtain ⟨h1, _⟩ := fm_ls ps hp a
  rw [if_pos h0] at h1
  have hn : lsN ps a ≠ [] := fun h => by rw [h] at h1; simp [fm] at h1
  refine ⟨hn, ?_⟩
  rw [bst_all hn] at h1
  rw [Option.some.inj h1, pcR_eq]
end Go.Sym.B
namespace Go.Sym.B
open Go Go.Sym Go.Proofs Go.Sym.C
def s29 (ps : List Int) : List AV → Prop × AV
  | [.sl xs, .v (.int .i64 n)] => (xs = ps.map eInt ∧ 0 ≤ n ∧ n ≤ 60, aIntss (lsN ps n.toNat))
  | _ => (False, .junk)
def li1 (l : List Int) (a : Int) (X : List (List Int)) (n : Nat) : St := { t := asg [(0, aInts l), (1, aI a), (4, .nil), (5, .row 0), (6, aI n)], h := hasg [(0, .row 22 1 (X.map eInts))], n := 1 }
def li2 (l : List Int) (a : Int) (X rs : List (List Int)) (n k : Nat) : St := { t := asg [(0, aInts l), (1, aI a), (4, .nil), (5, .row 0), (6, aI n), (7, aIntss rs), (8, aI k)], h := hasg [(0, .row 22 1 ((X ++ (rs.take k).map ((n : Int) :: ·)).map eInts))], n := 1 }
theorem lists_env {ps : List Int} (h : ∀ a : Nat, a ≤ 60 → FnV Try.prog 29 [aInts ps, aI a] (aIntss (lsN ps a))) {A : Frm → Prop} : EntryOK A Try.prog 29 (valE false (s29 ps)) := valE_ok fun vs hv h1 => by
  clear hv
  unfold s29 at h1 ⊢
  split at h1
  · obtain ⟨h2, h3, h4⟩ := h1
    refine ⟨trivial, fun h => absurd h (by decide), ?_⟩
    rename_i xs n
    have := h n.toNat (by omega)
    rw [Int.toNat_of_nonneg h3, aInts, ← h2] at this
    exact this
  · exact h1.elim
def tbG11_29 := And.intro @ty3 (And.intro @ty22 (And.intro @ty28 (And.intro @ti3.eq_1 (And.intro @ti22.eq_1 @ti28.eq_1))))
set_option maxHeartbeats 4000000 in
theorem lists_step (p : Int) (ps : List Int) (hl : ps.length ≤ 3) (hp : 1 ≤ p ∧ p ≤ 50) (hr : ∀ a : Nat, a ≤ 60 → FnV Try.prog 29 [aInts ps, aI a] (aIntss (lsN ps a))) (a : Nat) (ha : a ≤ 60) : FnV Try.prog 29 [aInts (p :: ps), aI a] (aIntss (lsN (p :: ps) a)) := by
  have env : Env (fun _ => True) Try.prog tyB (tab [(29, valE false (s29 ps))]) := mkEnv ⟨lists_env hr, trivial⟩
  refine Fn.of (A := fun _ => True) (n0 := 0) (D := noD) (Fn0 Try.func29 rfl (fun vs w => by kernel_rfl) (by kernel_rfl)) (by simp) (by simp [AV.ids, AV.idsL, aInts, aI]) (fun i o h => by cases h) (fun _ _ _ _ => trivial) noD_ok ?_
  obtain ⟨q, hq⟩ : ∃ q : Nat, p = (q : Int) := ⟨p.toNat, by omega⟩
  have hLN : lsN (p :: ps) a = accN (lsN ps) q a (a / q + 1) := by rw [lsN, hq, Int.toNat_natCast]
  rw [hLN]
  obtain ⟨l, hL⟩ : ∃ l, l = p :: ps := ⟨_, rfl⟩
  rw [← hL]
  have l0 : 0 < l.length := by rw [hL]; simp
  have l0' : ¬ (l.length : Int) = 0 := by omega
  have g0 : l.getD 0 0 = (q : Int) := by rw [hL, ← hq]; rfl
  have dp : l.drop 1 = ps := by rw [hL]; rfl
  have l1 : 1 ≤ l.length := l0
  clear hL
  have hq1 : 1 ≤ q := by omega
  have hq2 : q ≤ 50 := by omega
  have big : (100000000 : Nat) ≤ maxLen := by decide
  have hk : ∀ j, j * q ≤ a ↔ j < a / q + 1 := fun j => by rw [Nat.lt_succ_iff, Nat.le_div_iff_mul_le hq1]
  have hB : ∀ m, m ≤ a → (lsN ps m).length ≤ 61 ^ 3 := fun m hm => Nat.le_trans (ls_len ps m (by omega)) (Nat.pow_le_pow_right (by decide) hl)
  repeat' (first | refine zq0 ?_ | refine zq1 ?_ | refine zq2 ?_ | refine zq3 ?_ | refine zq4 ?_ | refine zq5 ?_ | refine thenK_n ?_ | refine thenK_x ?_ | refine thenK_r ?_ | refine blockK_n ?_ | refine blockK_r ?_ | refine blockK_hit ?_ | refine blockK_miss (by decide) ?_ | ((first | refine sym_reg env fun Q hQ => ?_ | refine sym_cz fun Q hQ => ?_); simp only [vkt, Nat.reduceEqDiff, Nat.reduceAdd, Nat.reduceMul, Nat.reduceSub, Nat.reduceLeDiff, reduceCtorEq, ↓reduceIte, ↓reduceDIte, Int.reduceToNat, Int.reduceLE, Int.reduceLT, Int.reduceEq, Int.reduceNeg, tbG11_29, aI, aB, aInts, aIntss, li1, li2, s29, gInt, gInts, eInt, eInts, slT, slD, List.take_length, rInt, rInts, List.cons_append, List.nil_append, l0']; (try simp only [ite_and]); (repeat' (first | with_reducible assumption | refine And.intro ?_ ?_ | intro hp)); all_goals (first | (refine hQ _ ?_; clear hQ; clear Q) | (refine hQ _ (fun h => ?_) (fun h => ?_) <;> clear hQ <;> clear Q <;> (try simp only [vki, reduceCtorEq] at h)) | omega | assumption | (with_reducible rfl) | (refine drawB_of ?_; kernel_rfl) | skip)))
  refine sym_loop (fun n : { n : Nat // n ≤ a / q + 1 } => li1 l a (accN (lsN ps) q a n.1) n.1) (fun n => a / q + 1 - n.1) ⟨0, Nat.zero_le _⟩ ?_ fun ⟨n, hn⟩ => ?_
  · (refine Le.ok (fun _ => none) [] ⟨?_, ?_, ?_, ?_, ?_, ?_, ?_, ?_, ?_, ?_, ?_⟩; all_goals (try simp only [leT, leH, leO, ADf.leL, imgs, idsT, idsH, List.filterMap_cons, List.filterMap_nil, List.flatMap_nil, Nat.lt_irrefl, Nat.not_lt_zero, vkt, Nat.reduceEqDiff, Nat.reduceAdd, Nat.reduceMul, Nat.reduceSub, Nat.reduceLeDiff, reduceCtorEq, ↓reduceIte, ↓reduceDIte, Int.reduceToNat, Int.reduceLE, Int.reduceLT, Int.reduceEq, Int.reduceNeg, tbG11_29, aI, aB, aInts, aIntss, li1, li2, s29, gInt, gInts, eInt, eInts, slT, slD, List.take_length, rInt, rInts, List.cons_append, List.nil_append]))
    all_goals first | rfl | (simp [accN]; done)
  · have hd := Nat.div_le_self a q
    have hn60 : n ≤ 61 := by omega
    have hnq : n * q ≤ 61 * 50 := Nat.mul_le_mul hn60 hq2
    have wm : IntKind.wrap .i64 ((n : Int) * (q : Int)) = ((n * q : Nat) : Int) := by rw [← Int.natCast_mul, wrap64 (by omega) (by omega)]
    repeat' (first | refine zq0 ?_ | refine zq1 ?_ | refine zq2 ?_ | refine zq3 ?_ | refine zq4 ?_ | refine zq5 ?_ | refine thenK_n ?_ | refine thenK_x ?_ | refine thenK_r ?_ | refine blockK_n ?_ | refine blockK_r ?_ | refine blockK_hit ?_ | refine blockK_miss (by decide) ?_)
    (refine sym_reg env fun Q hQ => ?_; simp only [vkt, Nat.reduceEqDiff, Nat.reduceAdd, Nat.reduceMul, Nat.reduceSub, Nat.reduceLeDiff, reduceCtorEq, ↓reduceIte, ↓reduceDIte, Int.reduceToNat, Int.reduceLE, Int.reduceLT, Int.reduceEq, Int.reduceNeg, tbG11_29, aI, aB, aInts, aIntss, li1, li2, s29, gInt, gInts, eInt, eInts, slT, slD, List.take_length, rInt, rInts, List.cons_append, List.nil_append, g0, wm]; (try simp only [ite_and]); (repeat' (first | with_reducible assumption | refine And.intro ?_ ?_ | intro hp)); all_goals (first | (refine hQ _ ?_; clear hQ; clear Q) | omega | assumption | (with_reducible rfl) | (refine drawB_of ?_; kernel_rfl) | skip))
    repeat' (first | refine zq0 ?_ | refine zq1 ?_ | refine zq2 ?_ | refine zq3 ?_ | refine zq4 ?_ | refine zq5 ?_ | refine thenK_n ?_ | refine thenK_x ?_ | refine thenK_r ?_ | refine blockK_n ?_ | refine blockK_r ?_ | refine blockK_hit ?_ | refine blockK_miss (by decide) ?_)
    (refine sym_cd (by simp only [vkt, Nat.reduceEqDiff, Nat.reduceAdd, Nat.reduceMul, Nat.reduceSub, Nat.reduceLeDiff, reduceCtorEq, ↓reduceIte, ↓reduceDIte, Int.reduceToNat, Int.reduceLE, Int.reduceLT, Int.reduceEq, Int.reduceNeg, tbG11_29, aI, aB, aInts, aIntss, li1, li2, s29, gInt, gInts, eInt, eInts, slT, slD, List.take_length, rInt, rInts, List.cons_append, List.nil_append, g0, wm]; rfl) (fun h => ?_) (fun h => ?_) <;> (try simp only [vki, reduceCtorEq] at h))
    · have hle : n * q ≤ a := by omega
      have hlt : n < a / q + 1 := (hk n).1 hle
      have ws : IntKind.wrap .i64 ((a : Int) - ((n * q : Nat) : Int)) = ((a - n * q : Nat) : Int) := by rw [wrap64 (by omega) (by omega)]; omega
      have b1 : ((a - n * q : Nat) : Int) ≤ 60 := by omega
      have hX := acc_len (p := q) hB n
      have hX2 : n * 61 ^ 3 ≤ 61 * 61 ^ 3 := Nat.mul_le_mul_right _ hn60
      have hR := hB (a - n * q) (Nat.sub_le _ _)
      have hM := fun r hr => (ls_mem ps (a - n * q) (by omega) r hr).1
      have hAcc : accN (lsN ps) q a (n + 1) = accN (lsN ps) q a n ++ (lsN ps (a - n * q)).map ((n : Int) :: ·) := rfl
      obtain ⟨rs, hrs⟩ : ∃ rs, lsN ps (a - n * q) = rs := ⟨_, rfl⟩
      rw [hrs] at hR hM hAcc
      have e9 : IntKind.wrap .i64 ((n : Int) + 1) = ((n + 1 : Nat) : Int) := by rw [wrap64 (by omega) (by omega)]; rfl
      generalize hXe : accN (lsN ps) q a n = X at *
      repeat' (first | refine zq0 ?_ | refine zq1 ?_ | refine zq2 ?_ | refine zq3 ?_ | refine zq4 ?_ | refine zq5 ?_ | refine thenK_n ?_ | refine thenK_x ?_ | refine thenK_r ?_ | refine blockK_n ?_ | refine blockK_r ?_ | refine blockK_hit ?_ | refine blockK_miss (by decide) ?_ | ((first | refine sym_reg env fun Q hQ => ?_ | refine sym_cz fun Q hQ => ?_); simp only [vkt, Nat.reduceEqDiff, Nat.reduceAdd, Nat.reduceMul, Nat.reduceSub, Nat.reduceLeDiff, reduceCtorEq, ↓reduceIte, ↓reduceDIte, Int.reduceToNat, Int.reduceLE, Int.reduceLT, Int.reduceEq, Int.reduceNeg, tbG11_29, aI, aB, aInts, aIntss, li1, li2, s29, gInt, gInts, eInt, eInts, slT, slD, List.take_length, rInt, rInts, List.cons_append, List.nil_append, g0, wm, ws, dp, hrs]; (try simp only [ite_and]); (repeat' (first | with_reducible assumption | refine And.intro ?_ ?_ | intro hp)); all_goals (first | (refine hQ _ ?_; clear hQ; clear Q) | (refine hQ _ (fun h => ?_) (fun h => ?_) <;> clear hQ <;> clear Q <;> (try simp only [vki, reduceCtorEq] at h)) | omega | assumption | (with_reducible rfl) | (refine drawB_of ?_; kernel_rfl) | skip)))
      refine sym_loop (fun k : { k : Nat // k ≤ rs.length } => li2 l a X rs n k.1) (fun k => rs.length - k.1) ⟨0, Nat.zero_le _⟩ ?_ fun ⟨k, hk2⟩ => ?_
      · (refine Le.ok some [] ⟨?_, ?_, ?_, ?_, ?_, ?_, ?_, ?_, ?_, ?_, ?_⟩; all_goals (try simp only [leT, leH, leO, ADf.leL, imgs, idsT, idsH, List.filterMap_cons, List.filterMap_nil, List.flatMap_nil, Nat.lt_irrefl, Nat.not_lt_zero, vkt, Nat.reduceEqDiff, Nat.reduceAdd, Nat.reduceMul, Nat.reduceSub, Nat.reduceLeDiff, reduceCtorEq, ↓reduceIte, ↓reduceDIte, Int.reduceToNat, Int.reduceLE, Int.reduceLT, Int.reduceEq, Int.reduceNeg, tbG11_29, aI, aB, aInts, aIntss, li1, li2, s29, gInt, gInts, eInt, eInts, slT, slD, List.take_length, rInt, rInts, List.cons_append, List.nil_append]))
        all_goals first | rfl | (simp; done)
      · repeat' (first | refine zq0 ?_ | refine zq1 ?_ | refine zq2 ?_ | refine zq3 ?_ | refine zq4 ?_ | refine zq5 ?_ | refine thenK_n ?_ | refine thenK_x ?_ | refine thenK_r ?_ | refine blockK_n ?_ | refine blockK_r ?_ | refine blockK_hit ?_ | refine blockK_miss (by decide) ?_)
        (refine sym_reg env fun Q hQ => ?_; simp only [vkt, Nat.reduceEqDiff, Nat.reduceAdd, Nat.reduceMul, Nat.reduceSub, Nat.reduceLeDiff, reduceCtorEq, ↓reduceIte, ↓reduceDIte, Int.reduceToNat, Int.reduceLE, Int.reduceLT, Int.reduceEq, Int.reduceNeg, tbG11_29, aI, aB, aInts, aIntss, li1, li2, s29, gInt, gInts, eInt, eInts, slT, slD, List.take_length, rInt, rInts, List.cons_append, List.nil_append]; (try simp only [ite_and]); (repeat' (first | with_reducible assumption | refine And.intro ?_ ?_ | intro hp)); all_goals (first | (refine hQ _ ?_; clear hQ; clear Q) | omega | assumption | (with_reducible rfl) | (refine drawB_of ?_; kernel_rfl) | skip))
        repeat' (first | refine zq0 ?_ | refine zq1 ?_ | refine zq2 ?_ | refine zq3 ?_ | refine zq4 ?_ | refine zq5 ?_ | refine thenK_n ?_ | refine thenK_x ?_ | refine thenK_r ?_ | refine blockK_n ?_ | refine blockK_r ?_ | refine blockK_hit ?_ | refine blockK_miss (by decide) ?_)
        (refine sym_cd (by simp only [vkt, Nat.reduceEqDiff, Nat.reduceAdd, Nat.reduceMul, Nat.reduceSub, Nat.reduceLeDiff, reduceCtorEq, ↓reduceIte, ↓reduceDIte, Int.reduceToNat, Int.reduceLE, Int.reduceLT, Int.reduceEq, Int.reduceNeg, tbG11_29, aI, aB, aInts, aIntss, li1, li2, s29, gInt, gInts, eInt, eInts, slT, slD, List.take_length, rInt, rInts, List.cons_append, List.nil_append]; rfl) (fun h => ?_) (fun h => ?_) <;> (try simp only [vki, reduceCtorEq] at h))
        · have hkl : k < rs.length := by omega
          have e8 : IntKind.wrap .i64 ((k : Int) + 1) = ((k + 1 : Nat) : Int) := by rw [wrap64 (by omega) (by omega)]; rfl
          have hr := hM _ (gMem (d := []) hkl)
          have hT : (rs.take (k + 1)).map ((n : Int) :: ·) = (rs.take k).map ((n : Int) :: ·) ++ [(n : Int) :: rs.getD k []] := by
            rw [List.take_succ_eq_append_getElem hkl, List.map_append]; simp [List.getD_eq_getElem?_getD, hkl]
          have hY : (X ++ (rs.take k).map ((n : Int) :: ·)).length ≤ 61 * 61 ^ 3 + 61 ^ 3 := by
            rw [List.length_append, List.length_map, List.length_take]; omega
          obtain ⟨r, hre⟩ : ∃ r, rs.getD k [] = r := ⟨_, rfl⟩
          rw [hre] at hr hT
          obtain ⟨Y, hYe⟩ : ∃ Y, X ++ (rs.take k).map ((n : Int) :: ·) = Y := ⟨_, rfl⟩
          rw [hYe] at hY
          have m1 : (Y.length + 1) * 24 ≤ 140737488355328 ∧ Y.length + 1 ≤ maxLen := by omega
          have m2 : (1 + r.length) * 8 ≤ 140737488355328 ∧ 1 + r.length ≤ maxLen ∧ r.length ≤ maxLen := by omega
          have e4 : Y.map eInts ++ [[.sl ([.v (.int .i64 (n : Int))] :: r.map eInt)]] = (X ++ (rs.take (k + 1)).map ((n : Int) :: ·)).map eInts := by
            rw [hT, ← List.append_assoc, hYe, List.map_append]; rfl
          repeat' (first | refine zq0 ?_ | refine zq1 ?_ | refine zq2 ?_ | refine zq3 ?_ | refine zq4 ?_ | refine zq5 ?_ | refine thenK_n ?_ | refine thenK_x ?_ | refine thenK_r ?_ | refine blockK_n ?_ | refine blockK_r ?_ | refine blockK_hit ?_ | refine blockK_miss (by decide) ?_ | ((first | refine sym_reg env fun Q hQ => ?_ | refine sym_cz fun Q hQ => ?_); simp only [vkt, Nat.reduceEqDiff, Nat.reduceAdd, Nat.reduceMul, Nat.reduceSub, Nat.reduceLeDiff, reduceCtorEq, ↓reduceIte, ↓reduceDIte, Int.reduceToNat, Int.reduceLE, Int.reduceLT, Int.reduceEq, Int.reduceNeg, tbG11_29, aI, aB, aInts, aIntss, li1, li2, s29, gInt, gInts, eInt, eInts, slT, slD, List.take_length, rInt, rInts, List.cons_append, List.nil_append, hre, hYe, e4, e8]; (try simp only [ite_and]); (repeat' (first | with_reducible assumption | refine And.intro ?_ ?_ | intro hp)); all_goals (first | (refine hQ _ ?_; clear hQ; clear Q) | (refine hQ _ (fun h => ?_) (fun h => ?_) <;> clear hQ <;> clear Q <;> (try simp only [vki, reduceCtorEq] at h)) | omega | assumption | (with_reducible rfl) | (refine drawB_of ?_; kernel_rfl) | skip)))
          refine ⟨⟨k + 1, hkl⟩, by show rs.length - (k + 1) < rs.length - k; omega, ?_⟩
          (refine Le.ok (fun j => if j = 0 then some 4 else some j) [] ⟨?_, ?_, ?_, ?_, ?_, ?_, ?_, ?_, ?_, ?_, ?_⟩; all_goals (try simp only [leT, leH, leO, ADf.leL, imgs, idsT, idsH, List.filterMap_cons, List.filterMap_nil, List.flatMap_nil, Nat.lt_irrefl, Nat.not_lt_zero, vkt, Nat.reduceEqDiff, Nat.reduceAdd, Nat.reduceMul, Nat.reduceSub, Nat.reduceLeDiff, reduceCtorEq, ↓reduceIte, ↓reduceDIte, Int.reduceToNat, Int.reduceLE, Int.reduceLT, Int.reduceEq, Int.reduceNeg, tbG11_29, aI, aB, aInts, aIntss, li1, li2, s29, gInt, gInts, eInt, eInts, slT, slD, List.take_length, rInt, rInts, List.cons_append, List.nil_append]))
          all_goals first | rfl | (simp; done)
        · have hkn : k = rs.length := by omega
          subst hkn
          repeat' (first | refine zq0 ?_ | refine zq1 ?_ | refine zq2 ?_ | refine zq3 ?_ | refine zq4 ?_ | refine zq5 ?_ | refine thenK_n ?_ | refine thenK_x ?_ | refine thenK_r ?_ | refine blockK_n ?_ | refine blockK_r ?_ | refine blockK_hit ?_ | refine blockK_miss (by decide) ?_ | ((first | refine sym_reg env fun Q hQ => ?_ | refine sym_cz fun Q hQ => ?_); simp only [vkt, Nat.reduceEqDiff, Nat.reduceAdd, Nat.reduceMul, Nat.reduceSub, Nat.reduceLeDiff, reduceCtorEq, ↓reduceIte, ↓reduceDIte, Int.reduceToNat, Int.reduceLE, Int.reduceLT, Int.reduceEq, Int.reduceNeg, tbG11_29, aI, aB, aInts, aIntss, li1, li2, s29, gInt, gInts, eInt, eInts, slT, slD, List.take_length, rInt, rInts, List.cons_append, List.nil_append, e9, List.take_length, ← hAcc]; (try simp only [ite_and]); (repeat' (first | with_reducible assumption | refine And.intro ?_ ?_ | intro hp)); all_goals (first | (refine hQ _ ?_; clear hQ; clear Q) | (refine hQ _ (fun h => ?_) (fun h => ?_) <;> clear hQ <;> clear Q <;> (try simp only [vki, reduceCtorEq] at h)) | omega | assumption | (with_reducible rfl) | (refine drawB_of ?_; kernel_rfl) | skip)))
          refine ⟨⟨n + 1, hlt⟩, by show a / q + 1 - (n + 1) < a / q + 1 - n; omega, ?_⟩
          (refine Le.ok some [] ⟨?_, ?_, ?_, ?_, ?_, ?_, ?_, ?_, ?_, ?_, ?_⟩; all_goals (try simp only [leT, leH, leO, ADf.leL, imgs, idsT, idsH, List.filterMap_cons, List.filterMap_nil, List.flatMap_nil, Nat.lt_irrefl, Nat.not_lt_zero, vkt, Nat.reduceEqDiff, Nat.reduceAdd, Nat.reduceMul, Nat.reduceSub, Nat.reduceLeDiff, reduceCtorEq, ↓reduceIte, ↓reduceDIte, Int.reduceToNat, Int.reduceLE, Int.reduceLT, Int.reduceEq, Int.reduceNeg, tbG11_29, aI, aB, aInts, aIntss, li1, li2, s29, gInt, gInts, eInt, eInts, slT, slD, List.take_length, rInt, rInts, List.cons_append, List.nil_append]))
          all_goals first | rfl | (simp [hAcc]; done)
    · have hnn : n = a / q + 1 := by
        have := hk n
        omega
      subst hnn
      repeat' (first | refine zq0 ?_ | refine zq1 ?_ | refine zq2 ?_ | refine zq3 ?_ | refine zq4 ?_ | refine zq5 ?_ | refine thenK_n ?_ | refine thenK_x ?_ | refine thenK_r ?_ | refine blockK_n ?_ | refine blockK_r ?_ | refine blockK_hit ?_ | refine blockK_miss (by decide) ?_ | ((first | refine sym_reg env fun Q hQ => ?_ | refine sym_cz fun Q hQ => ?_); simp only [vkt, Nat.reduceEqDiff, Nat.reduceAdd, Nat.reduceMul, Nat.reduceSub, Nat.reduceLeDiff, reduceCtorEq, ↓reduceIte, ↓reduceDIte, Int.reduceToNat, Int.reduceLE, Int.reduceLT, Int.reduceEq, Int.reduceNeg, tbG11_29, aI, aB, aInts, aIntss, li1, li2, s29, gInt, gInts, eInt, eInts, slT, slD, List.take_length, rInt, rInts, List.cons_append, List.nil_append]; (try simp only [ite_and]); (repeat' (first | with_reducible assumption | refine And.intro ?_ ?_ | intro hp)); all_goals (first | (refine hQ _ ?_; clear hQ; clear Q) | (refine hQ _ (fun h => ?_) (fun h => ?_) <;> clear hQ <;> clear Q <;> (try simp only [vki, reduceCtorEq] at h)) | omega | assumption | (with_reducible rfl) | (refine drawB_of ?_; kernel_rfl) | skip)))
      (simp only [retK, leaveA, resL, tupA, rd, wCells_some, wRow_some, Try.results29, vkt, Nat.reduceEqDiff, Nat.reduceAdd, Nat.reduceMul, Nat.reduceSub, Nat.reduceLeDiff, reduceCtorEq, ↓reduceIte, ↓reduceDIte, Int.reduceToNat, Int.reduceLE, Int.reduceLT, Int.reduceEq, Int.reduceNeg, tbG11_29, aI, aB, aInts, aIntss, li1, li2, s29, gInt, gInts, eInt, eInts, slT, slD, List.take_length, rInt, rInts, List.cons_append, List.nil_append]; refine Fin.val rfl ?_; (try simp only [AV.le, AV.leL]))
      all_goals first | exact ⟨_, _, rfl⟩
end Go.Sym.B
namespace Go.Sym.B
open Go Go.Sym Go.Proofs Go.Sym.C
theorem first0 {n : Nat} {f : Nat → Int} (h : ∀ k, k < n → f k = 0) : firstE (errs n f) = 0 := by
  have hall : ∀ E : List Int, (∀ e ∈ E, e = 0) → firstE E = 0 := fun E => by
    induction E with
    | nil => intro _; rfl
    | cons e E ih => intro h; rw [firstE, if_pos (h e List.mem_cons_self)]; exact ih fun x hx => h x (List.mem_cons_of_mem _ hx)
  refine hall _ fun e he => ?_
  obtain ⟨j, hj, rfl⟩ := List.mem_map.1 he
  exact h j (List.mem_range.1 hj)
theorem counted0 {n a b : Int} (h1 : a ≤ n) (h2 : n ≤ b) : countedE n a b = 0 := by unfold countedE; rw [if_neg (by omega), if_neg (by omega)]
theorem coinE_ok {q : List Int} {j : Nat} (h : PcOk q j) (hj : j ≤ 3) : coinE q = 0 := by
  have hl := h.len
  unfold coinE
  rw [if_neg (by rw [counted0 (by omega) (by omega)]; simp), if_neg (by rw [h.one]; simp)]
  refine first0 fun i hi => ?_
  have h1 := h.up i (by omega)
  have h2 := h.le (i + 1) (by omega)
  unfold pieceE
  rw [Nat.add_comm 1 i, if_neg (by omega), if_neg (by omega)]
theorem shE_ok {s : Sh} (h : ShOk s) : shE s = 0 := by
  unfold shE
  rw [inB_iff.2 h.n, inB_iff.2 h.d, if_neg (by simp), if_neg (by simp), if_neg (by rw [ne_eq, Decidable.not_not]; exact h.r)]
theorem ratesE_ok {r : List Sh} {n : Nat} (h : RwOk r n) (hn : 1 ≤ n) : ratesE r n = 0 := by
  have hl := h.len
  unfold ratesE
  rw [if_neg (by simp [hl]), if_neg (by rw [h.one]; simp)]
  refine first0 fun i hi => ?_
  exact shE_ok (h.all _ (gMem (by omega)))
structure LgOk (L : Led) : Prop where
  c : 1 ≤ L.coins.length ∧ L.coins.length ≤ 4
  p : ∀ q ∈ L.coins, ∃ j, j ≤ 3 ∧ PcOk q j
  s : L.start.length = L.coins.length
  v : ∀ n ∈ L.start, 0 ≤ n ∧ n ≤ 200
  r : RsOk L.rates L.coins.length
  e : L.entries.length ≤ 6
theorem lg_ok {x c d e w : Int} (hc : 1 ≤ c ∧ c ≤ 4) (hd : 1 ≤ d ∧ d ≤ 4) (he : 0 ≤ e ∧ e ≤ 6) : LgOk (lgL x c d e w) := by
  have h1 := upV_le (x := x) (m := c - 1) (by omega) (by omega)
  have ok1 : CoOk (lg1 x c) (1 + upV x (c - 1)).toNat := coK_ok _ _
  have hl1 := ok1.c
  have h2 := upV_le (x := (lg1 x c).x) (m := d - 1) (by omega) (by omega)
  have ok2 : (lg2 x c d).1.length = (1 + upV (lg1 x c).x (d - 1)).toNat ∧ ∀ r ∈ (lg2 x c d).1, RwOk r ((lg1 x c).cs.length - 1 + 1) := dyK_ok _ _ _
  rw [show (lg1 x c).cs.length - 1 + 1 = (lg1 x c).cs.length by omega] at ok2
  have hr : RsOk (lg2 x c d).1 (lg1 x c).cs.length := ⟨by have := ok2.1; omega, ok2.2⟩
  have h3 := upV_le (x := (lg2 x c d).2) (m := e) (by omega) (by omega)
  have hI : EnI (lg1 x c).cs.length (lg2 x c d).1.length 0 ⟨0, (lg1 x c).ss, [], upS (lg2 x c d).2 e⟩ := ⟨Int.le_refl _, by show (0 : Int) ≤ _; have := hr.len; omega, by rw [ok1.c]; exact ok1.l, fun v hv => by have := ok1.v v hv; omega, Nat.le_refl _⟩
  have h4 := (enK_ok hr (by omega) (w := w) hI (upV (lg2 x c d).2 e).toNat).es
  refine ⟨?_, ok1.p, ?_, ok1.v, hr, ?_⟩
  · show 1 ≤ (lg1 x c).cs.length ∧ (lg1 x c).cs.length ≤ 4; omega
  · show (lg1 x c).ss.length = (lg1 x c).cs.length; rw [ok1.c]; exact ok1.l
  · show (lg3 x c d e w).es.length ≤ 6
    unfold lg3; omega
theorem LgOk.fit {L : Led} (h : LgOk L) : Fit L := by
  refine ⟨by have := h.c; omega, fun q hq => ?_, by have := h.r.len; omega, fun r hr => ?_, by have := h.c; have := h.s; omega, by have := h.e; omega⟩
  · obtain ⟨j, hj, hp⟩ := h.p q hq
    have := hp.len; omega
  · have := (h.r.all r hr).len; have := h.c; omega
theorem LgOk.check {L : Led} (h : LgOk L) : checkE L = entriesE L := by
  have c := h.c
  have r := h.r.len
  have hs := h.s
  unfold checkE
  rw [if_neg (by rw [counted0 (by omega) (by omega)]; simp)]
  rw [if_neg (by
    rw [first0 (f := ckCoin L) fun k hk => by
      obtain ⟨j, hj, hp⟩ := h.p _ (gMem (l := L.coins) (k := k) (d := []) hk)
      exact coinE_ok hp hj]
    simp)]
  rw [if_neg (by rw [counted0 (by omega) (by omega)]; simp)]
  rw [if_neg (by
    rw [first0 (f := ckRate L) fun k hk => ratesE_ok (h.r.all _ (gMem (l := L.rates) (k := k) (d := []) hk)) c.1]
    simp)]
  rw [if_neg (by simp [hs])]
  rw [if_neg (by
    rw [first0 (f := startE L) fun k hk => by
      have := h.v _ (gMem (l := L.start) (k := k) (d := 0) hk)
      unfold startE
      rw [inB_iff.2 (by omega)]; rfl]
    simp)]
theorem lg_e0 (x c d w : Int) : (lgL x c d 0 w).entries = [] := by
  show (lg3 x c d 0 w).es = []
  have h3 := upV_bd (x := (lg2 x c d).2) (m := 0) (by decide)
  have : upV (lg2 x c d).2 0 = 0 := by omega
  unfold lg3
  rw [this]
  rfl
theorem entries0 {L : Led} (h : L.entries = []) : entriesE L = 0 := by
  unfold entriesE
  rw [h, if_neg (by rw [counted0 (by simp) (by simp)]; simp)]
  exact first0 fun k hk => by simp at hk
theorem lg1_one (x d e w : Int) : (lgL x 1 d e w).coins.length = 1 := by
  show (lg1 x 1).cs.length = 1
  have h := upV_bd (x := x) (m := 1 - 1) (by decide)
  have : upV x (1 - 1) = 0 := by omega
  unfold lg1
  rw [this]
  exact (coK_ok _ _).c
end Go.Sym.B
namespace Go.Sym.B
open Go Go.Sym Go.Proofs Go.Sym.C
def tbG13_29 := And.intro @ty3 (And.intro @ty22 (And.intro @ty28 (And.intro @ti3.eq_1 (And.intro @ti22.eq_1 @ti28.eq_1))))
theorem lists_nil (a : Nat) (ha : a ≤ 60) : FnV Try.prog 29 [aInts [], aI a] (aIntss (lsN [] a)) := by
  have env : Env (fun _ => True) Try.prog tyB (tab []) := mkEnv trivial
  refine Fn.of (A := fun _ => True) (n0 := 0) (D := noD) (Fn0 Try.func29 rfl (fun vs w => by kernel_rfl) (by kernel_rfl)) (by simp) (by simp [AV.ids, AV.idsL, aInts, aI]) (fun i o h => by cases h) (fun _ _ _ _ => trivial) noD_ok ?_
  have q1 : (1 : Nat) ≤ maxLen := by decide
  have zz : decide (((0 : Nat) : Int) = 0) = true := rfl
  by_cases h : a = 0
  · have h' : (a : Int) = 0 := by omega
    rw [show lsN [] a = [[]] by unfold lsN; rw [if_pos h]]
    repeat' (first | refine zq0 ?_ | refine zq1 ?_ | refine zq2 ?_ | refine zq3 ?_ | refine zq4 ?_ | refine zq5 ?_ | refine thenK_n ?_ | refine thenK_x ?_ | refine thenK_r ?_ | refine blockK_n ?_ | refine blockK_r ?_ | refine blockK_hit ?_ | refine blockK_miss (by decide) ?_ | ((first | refine sym_reg env fun Q hQ => ?_ | refine sym_cz fun Q hQ => ?_); simp only [vkt, Nat.reduceEqDiff, Nat.reduceAdd, Nat.reduceMul, Nat.reduceSub, Nat.reduceLeDiff, reduceCtorEq, ↓reduceIte, ↓reduceDIte, Int.reduceToNat, Int.reduceLE, Int.reduceLT, Int.reduceEq, Int.reduceNeg, tbG13_29, aI, aB, aInts, aIntss, eInts, eInt, List.map_nil, List.length_nil, rInts, h', zz]; (try simp only [ite_and]); (repeat' (first | with_reducible assumption | refine And.intro ?_ ?_ | intro hp)); all_goals (first | (refine hQ _ ?_; clear hQ; clear Q) | (refine hQ _ (fun h => ?_) (fun h => ?_) <;> clear hQ <;> clear Q <;> (try simp only [vki, reduceCtorEq] at h)) | omega | assumption | (with_reducible rfl) | (refine drawB_of ?_; kernel_rfl) | skip)))
    (simp only [retK, leaveA, resL, tupA, rd, wCells_some, wRow_some, Try.results29, vkt, Nat.reduceEqDiff, Nat.reduceAdd, Nat.reduceMul, Nat.reduceSub, Nat.reduceLeDiff, reduceCtorEq, ↓reduceIte, ↓reduceDIte, Int.reduceToNat, Int.reduceLE, Int.reduceLT, Int.reduceEq, Int.reduceNeg, tbG13_29, aI, aB, aInts, aIntss, eInts, eInt, List.map_nil, List.length_nil, rInts]; refine Fin.val rfl ?_; (try simp only [AV.le, AV.leL]))
    all_goals first | exact ⟨_, _, rfl⟩
  · have h' : ¬ (a : Int) = 0 := by omega
    rw [show lsN [] a = [] by unfold lsN; rw [if_neg h]]
    repeat' (first | refine zq0 ?_ | refine zq1 ?_ | refine zq2 ?_ | refine zq3 ?_ | refine zq4 ?_ | refine zq5 ?_ | refine thenK_n ?_ | refine thenK_x ?_ | refine thenK_r ?_ | refine blockK_n ?_ | refine blockK_r ?_ | refine blockK_hit ?_ | refine blockK_miss (by decide) ?_ | ((first | refine sym_reg env fun Q hQ => ?_ | refine sym_cz fun Q hQ => ?_); simp only [vkt, Nat.reduceEqDiff, Nat.reduceAdd, Nat.reduceMul, Nat.reduceSub, Nat.reduceLeDiff, reduceCtorEq, ↓reduceIte, ↓reduceDIte, Int.reduceToNat, Int.reduceLE, Int.reduceLT, Int.reduceEq, Int.reduceNeg, tbG13_29, aI, aB, aInts, aIntss, eInts, eInt, List.map_nil, List.length_nil, rInts, h', zz]; (try simp only [ite_and]); (repeat' (first | with_reducible assumption | refine And.intro ?_ ?_ | intro hp)); all_goals (first | (refine hQ _ ?_; clear hQ; clear Q) | (refine hQ _ (fun h => ?_) (fun h => ?_) <;> clear hQ <;> clear Q <;> (try simp only [vki, reduceCtorEq] at h)) | omega | assumption | (with_reducible rfl) | (refine drawB_of ?_; kernel_rfl) | skip)))
    (simp only [retK, leaveA, resL, tupA, rd, wCells_some, wRow_some, Try.results29, vkt, Nat.reduceEqDiff, Nat.reduceAdd, Nat.reduceMul, Nat.reduceSub, Nat.reduceLeDiff, reduceCtorEq, ↓reduceIte, ↓reduceDIte, Int.reduceToNat, Int.reduceLE, Int.reduceLT, Int.reduceEq, Int.reduceNeg, tbG13_29, aI, aB, aInts, aIntss, eInts, eInt, List.map_nil, List.length_nil, rInts]; refine Fin.val rfl ?_; (try simp only [AV.le, AV.leL]))
    all_goals first | rfl | (simp; done) | exact ⟨_, _, rfl⟩
theorem lists_fn : ∀ (ps : List Int), ps.length ≤ 4 → (∀ p ∈ ps, 1 ≤ p ∧ p ≤ 50) → ∀ a : Nat, a ≤ 60 → FnV Try.prog 29 [aInts ps, aI a] (aIntss (lsN ps a))
  | [], _, _, a, ha => lists_nil a ha
  | p :: ps, hl, hp, a, ha => lists_step p ps (by simpa using hl) (hp p List.mem_cons_self) (fun b hb => lists_fn ps (by simp at hl; omega) (fun q hq => hp q (List.mem_cons_of_mem _ hq)) b hb) a ha
def c29 : List AV → Prop × AV
  | [.sl xs, .v (.int .i64 n)] => (xs = (xs.map dInt).map eInt ∧ xs.length ≤ 4 ∧ (∀ p ∈ xs.map dInt, 1 ≤ p ∧ p ≤ 50) ∧ 0 ≤ n ∧ n ≤ 60, aIntss (lsN (xs.map dInt) n.toNat))
  | _ => (False, .junk)
theorem d29 {A : Frm → Prop} : EntryOK A Try.prog 29 (valE false c29) := valE_ok fun vs hv h => by
  clear hv
  unfold c29 at h ⊢
  split at h
  · rename_i xs n
    obtain ⟨h1, h2, h3, h4, h5⟩ := h
    refine ⟨trivial, fun h => absurd h (by decide), ?_⟩
    have := lists_fn (xs.map dInt) (by rw [List.length_map]; exact h2) h3 n.toNat (by omega)
    rw [Int.toNat_of_nonneg h4, aInts, ← h1] at this
    exact this
  · exact h.elim
theorem bst_mem {xs : List (List Int)} (h : 0 < xs.length) : ∀ k, k ≤ xs.length → bstK xs k ∈ xs
  | 0, _ => gMem h
  | k + 1, hk => by
    rw [bstK]
    split
    · exact gMem (by omega)
    · exact bst_mem h k (by omega)
def p4T (out : List Int) (X : List (List Int)) (k : Nat) : St := { t := asg [(2, aB false), (6, aInts out), (8, aIntss X), (9, aInts (bstK X k)), (10, aI k)], h := hasg [], n := 0 }
def tbG13_4 := And.intro @ty3 (And.intro @ty22 (And.intro @ty28 (And.intro @ty30 (And.intro @ty38 (And.intro @ti3.eq_1 (And.intro @ti22.eq_1 (And.intro @ti28.eq_1 (And.intro @ti30.eq_1 @ti38.eq_1))))))))
set_option maxRecDepth 100000 in
set_option maxHeartbeats 8000000 in
theorem pieces4_fn (ns : List Int) (h2 : ns.length ≤ maxLen) : FnV Try.prog 4 [aInts ns] (aB true) := by
  have env : Env (fun _ => True) Try.prog tyB (tab [(19, valE true c19), (20, fnE p20), (22, fnE p22), (27, fnE p27), (28, valE false c28), (29, valE false c29), (26, valE true s26), (30, valE true s83)]) := mkEnv ⟨d19, e20, e22, e27, d28, d29, e26, e30, trivial⟩
  refine Fn.of (A := fun _ => True) (n0 := 0) (D := noD) (Fn0 Try.func4 rfl (fun vs w => by kernel_rfl) (by kernel_rfl)) (by simp) (by simp [AV.ids, AV.idsL, aInts, aI]) (fun i o h => by cases h) (fun _ _ _ _ => trivial) noD_ok ?_
  have big : (100000 : Nat) ≤ maxLen := by decide
  have z1 : (1 : Int) ≤ 1 ∧ (1 : Int) ≤ 4 := by decide
  have z2 : (0 : Int) ≤ 0 ∧ (0 : Int) ≤ 6 := by decide
  have hok := lg_ok (x := nbS ns) (w := 0) z1 z1 z2
  have hE := lg_e0 (nbS ns) 1 1 0
  have hC1 := lg1_one (nbS ns) 1 0 0
  obtain ⟨L, hL⟩ : ∃ L, lgL (nbS ns) 1 1 0 0 = L := ⟨_, rfl⟩
  obtain ⟨y, hy⟩ : ∃ y, lgS (nbS ns) 1 1 0 0 = y := ⟨_, rfl⟩
  rw [hL] at hok hE hC1
  have hfit := hok.fit
  have hchk : checkE L = 0 := by rw [hok.check, entries0 hE]
  have hu := upV_le (x := y) (m := 60) (by decide) (by decide)
  obtain ⟨A, hA⟩ : ∃ A : Nat, upV y 60 = (A : Int) := ⟨(upV y 60).toNat, by omega⟩
  have hA60 : A ≤ 60 := by omega
  obtain ⟨z, hz⟩ : ∃ z, upS y 60 = z := ⟨_, rfl⟩
  obtain ⟨j, hj, hpc⟩ := hok.p _ (gMem (l := L.coins) (k := 0) (d := []) (by omega))
  have hce := coinE_ok hpc hj
  obtain ⟨ps, hP⟩ : ∃ ps, L.coins.getD 0 [] = ps := ⟨_, rfl⟩
  rw [hP] at hpc hce
  have hps := coin_ok hce
  have hpl := hps.l
  have hge : ∀ p ∈ ps, 1 ≤ p := fun p hp => (hps.b p hp).1
  have hmo : moneyE L 0 (A : Int) [] = 0 := by
    unfold moneyE
    rw [if_neg (by rw [hchk]; simp), hC1, inB_iff.2 (by decide), if_neg (by simp), if_neg (by simp [errs, firstE]), inB_iff.2 (by omega), if_neg (by simp)]
  have hpi : aPieces L 0 (A : Int) = .tup [.sl ((piL ps A).map eInt), .v (.int .i64 0)] := by
    unfold aPieces
    rw [if_neg (by rw [hmo]; simp)]
    show AV.tup [aInts (piL (L.coins.getD 0 []) A), aI 0] = _
    rw [hP]; rfl
  obtain ⟨hXn, hbest⟩ := best_is hge (need_one hge hps.one hps.l.1 A)
  have hM := ls_mem ps A hA60
  have hXl := ls_len ps A hA60
  have h61 : (61 : Nat) ^ ps.length ≤ 61 ^ 4 := Nat.pow_le_pow_right (by decide) hpl.2
  have hX0 := List.length_pos_iff.2 hXn
  have hol : (piL ps A).length = ps.length := pcL_len _ _ _
  have hb2 : bstK (lsN ps A) (lsN ps A).length = piL ps A := hbest
  obtain ⟨X, hX⟩ : ∃ X, lsN ps A = X := ⟨_, rfl⟩
  rw [hX] at hM hXl hX0 hb2
  obtain ⟨out, hout⟩ : ∃ out, piL ps A = out := ⟨_, rfl⟩
  rw [hout] at hol hb2 hpi
  have hbM : (100000000 : Nat) ≤ maxLen := by decide
  have l10 : ps.length ≤ 10000 := by omega
  have c10 : 0 < L.coins.length := by omega
  have hps2 := hps.b
  have hd : decide (out = out) = true := by simp
  have hol2 : out.length ≤ maxLen := by omega
  have hA0 : (0 : Int) ≤ (A : Int) ∧ (A : Int) ≤ 60 := by omega
  repeat' (first | refine zq0 ?_ | refine zq1 ?_ | refine zq2 ?_ | refine zq3 ?_ | refine zq4 ?_ | refine zq5 ?_ | refine thenK_n ?_ | refine thenK_x ?_ | refine thenK_r ?_ | refine blockK_n ?_ | refine blockK_r ?_ | refine blockK_hit ?_ | refine blockK_miss (by decide) ?_ | ((first | refine sym_reg env fun Q hQ => ?_ | refine sym_cz fun Q hQ => ?_); simp only [vkt, Nat.reduceEqDiff, Nat.reduceAdd, Nat.reduceMul, Nat.reduceSub, Nat.reduceLeDiff, reduceCtorEq, ↓reduceIte, ↓reduceDIte, Int.reduceToNat, Int.reduceLE, Int.reduceLT, Int.reduceEq, Int.reduceNeg, tbG13_4, aI, aB, aLed, cLed, bgH, p4T, aInts, aIntss, c19, p20, p22, p27, c28, c29, s26, s83, isL_e, ldOf_e, gInt, gInts, eInt, eInts, mInt, mInts, hL, hy, hA, hz, hpi, hP, hol, hX]; (try simp only [ite_and]); (repeat' (first | with_reducible assumption | refine And.intro ?_ ?_)); all_goals (first | (refine hQ _ ?_; clear hQ; clear Q) | (refine hQ _ (fun h => ?_) (fun h => ?_) <;> clear hQ <;> clear Q <;> (try simp only [vki, reduceCtorEq] at h)) | omega | (with_reducible assumption) | (with_reducible rfl) | (refine drawB_of ?_; kernel_rfl) | skip)))
  refine sym_loop (fun k : { k : Nat // k ≤ X.length } => p4T out X k.1) (fun k => X.length - k.1) ⟨0, Nat.zero_le _⟩ ?_ fun ⟨k, hk⟩ => ?_
  · (refine Le.ok some [] ⟨?_, ?_, ?_, ?_, ?_, ?_, ?_, ?_, ?_, ?_, ?_⟩; all_goals (try simp only [leT, leH, leO, ADf.leL, imgs, idsT, idsH, List.filterMap_cons, List.filterMap_nil, List.flatMap_nil, Nat.lt_irrefl, Nat.not_lt_zero, vkt, Nat.reduceEqDiff, Nat.reduceAdd, Nat.reduceMul, Nat.reduceSub, Nat.reduceLeDiff, reduceCtorEq, ↓reduceIte, ↓reduceDIte, Int.reduceToNat, Int.reduceLE, Int.reduceLT, Int.reduceEq, Int.reduceNeg, tbG13_4, aI, aB, aLed, cLed, bgH, p4T, aInts, aIntss, c19, p20, p22, p27, c28, c29, s26, s83, isL_e, ldOf_e, gInt, gInts, eInt, eInts, mInt, mInts]))
    all_goals first | rfl | (simp [bstK]; done)
  · repeat' (first | refine zq0 ?_ | refine zq1 ?_ | refine zq2 ?_ | refine zq3 ?_ | refine zq4 ?_ | refine zq5 ?_ | refine thenK_n ?_ | refine thenK_x ?_ | refine thenK_r ?_ | refine blockK_n ?_ | refine blockK_r ?_ | refine blockK_hit ?_ | refine blockK_miss (by decide) ?_)
    (refine sym_reg env fun Q hQ => ?_; simp only [vkt, Nat.reduceEqDiff, Nat.reduceAdd, Nat.reduceMul, Nat.reduceSub, Nat.reduceLeDiff, reduceCtorEq, ↓reduceIte, ↓reduceDIte, Int.reduceToNat, Int.reduceLE, Int.reduceLT, Int.reduceEq, Int.reduceNeg, tbG13_4, aI, aB, aLed, cLed, bgH, p4T, aInts, aIntss, c19, p20, p22, p27, c28, c29, s26, s83, isL_e, ldOf_e, gInt, gInts, eInt, eInts, mInt, mInts]; (try simp only [ite_and]); (repeat' (first | with_reducible assumption | refine And.intro ?_ ?_ | intro hp)); all_goals (first | (refine hQ _ ?_; clear hQ; clear Q) | omega | assumption | (with_reducible rfl) | (refine drawB_of ?_; kernel_rfl) | skip))
    repeat' (first | refine zq0 ?_ | refine zq1 ?_ | refine zq2 ?_ | refine zq3 ?_ | refine zq4 ?_ | refine zq5 ?_ | refine thenK_n ?_ | refine thenK_x ?_ | refine thenK_r ?_ | refine blockK_n ?_ | refine blockK_r ?_ | refine blockK_hit ?_ | refine blockK_miss (by decide) ?_)
    (refine sym_cd (by simp only [vkt, Nat.reduceEqDiff, Nat.reduceAdd, Nat.reduceMul, Nat.reduceSub, Nat.reduceLeDiff, reduceCtorEq, ↓reduceIte, ↓reduceDIte, Int.reduceToNat, Int.reduceLE, Int.reduceLT, Int.reduceEq, Int.reduceNeg, tbG13_4, aI, aB, aLed, cLed, bgH, p4T, aInts, aIntss, c19, p20, p22, p27, c28, c29, s26, s83, isL_e, ldOf_e, gInt, gInts, eInt, eInts, mInt, mInts]; rfl) (fun h => ?_) (fun h => ?_) <;> (try simp only [vki, reduceCtorEq] at h))
    · have hlt : k < X.length := by omega
      have e9 : IntKind.wrap .i64 ((k : Int) + 1) = ((k + 1 : Nat) : Int) := by rw [wrap64 (by omega) (by omega)]; rfl
      obtain ⟨x, hx⟩ : ∃ x, X.getD k [] = x := ⟨_, rfl⟩
      obtain ⟨b, hb⟩ : ∃ b, bstK X k = b := ⟨_, rfl⟩
      have mx := hM x (hx ▸ gMem hlt)
      have mb := hM b (hb ▸ bst_mem hX0 k hk)
      have x1 : x.length ≤ 10000 := by omega
      have x2 : ∀ v ∈ x, 0 ≤ v ∧ v ≤ 1000000 := fun v hv => by have := mx.2 v hv; omega
      have b1 : b.length ≤ 10000 := by omega
      have b2 : ∀ v ∈ b, 0 ≤ v ∧ v ≤ 1000000 := fun v hv => by have := mb.2 v hv; omega
      have hS : bstK X (k + 1) = if pSum x < pSum b then x else b := by rw [bstK, hx, hb]
      by_cases c1 : pSum x < pSum b
      · rw [if_pos c1] at hS
        repeat' (first | refine zq0 ?_ | refine zq1 ?_ | refine zq2 ?_ | refine zq3 ?_ | refine zq4 ?_ | refine zq5 ?_ | refine thenK_n ?_ | refine thenK_x ?_ | refine thenK_r ?_ | refine blockK_n ?_ | refine blockK_r ?_ | refine blockK_hit ?_ | refine blockK_miss (by decide) ?_ | ((first | refine sym_reg env fun Q hQ => ?_ | refine sym_cz fun Q hQ => ?_); simp only [vkt, Nat.reduceEqDiff, Nat.reduceAdd, Nat.reduceMul, Nat.reduceSub, Nat.reduceLeDiff, reduceCtorEq, ↓reduceIte, ↓reduceDIte, Int.reduceToNat, Int.reduceLE, Int.reduceLT, Int.reduceEq, Int.reduceNeg, tbG13_4, aI, aB, aLed, cLed, bgH, p4T, aInts, aIntss, c19, p20, p22, p27, c28, c29, s26, s83, isL_e, ldOf_e, gInt, gInts, eInt, eInts, mInt, mInts, hx, hb, c1, e9]; (try simp only [ite_and]); (repeat' (first | with_reducible assumption | refine And.intro ?_ ?_)); all_goals (first | (refine hQ _ ?_; clear hQ; clear Q) | (refine hQ _ (fun h => ?_) (fun h => ?_) <;> clear hQ <;> clear Q <;> (try simp only [vki, reduceCtorEq] at h)) | omega | (with_reducible assumption) | (with_reducible rfl) | (refine drawB_of ?_; kernel_rfl) | skip)))
        refine ⟨⟨k + 1, hlt⟩, by show X.length - (k + 1) < X.length - k; omega, ?_⟩
        (refine Le.ok some [] ⟨?_, ?_, ?_, ?_, ?_, ?_, ?_, ?_, ?_, ?_, ?_⟩; all_goals (try simp only [leT, leH, leO, ADf.leL, imgs, idsT, idsH, List.filterMap_cons, List.filterMap_nil, List.flatMap_nil, Nat.lt_irrefl, Nat.not_lt_zero, vkt, Nat.reduceEqDiff, Nat.reduceAdd, Nat.reduceMul, Nat.reduceSub, Nat.reduceLeDiff, reduceCtorEq, ↓reduceIte, ↓reduceDIte, Int.reduceToNat, Int.reduceLE, Int.reduceLT, Int.reduceEq, Int.reduceNeg, tbG13_4, aI, aB, aLed, cLed, bgH, p4T, aInts, aIntss, c19, p20, p22, p27, c28, c29, s26, s83, isL_e, ldOf_e, gInt, gInts, eInt, eInts, mInt, mInts]))
        all_goals first | rfl | (simp [hS]; done)
      · rw [if_neg c1] at hS
        repeat' (first | refine zq0 ?_ | refine zq1 ?_ | refine zq2 ?_ | refine zq3 ?_ | refine zq4 ?_ | refine zq5 ?_ | refine thenK_n ?_ | refine thenK_x ?_ | refine thenK_r ?_ | refine blockK_n ?_ | refine blockK_r ?_ | refine blockK_hit ?_ | refine blockK_miss (by decide) ?_ | ((first | refine sym_reg env fun Q hQ => ?_ | refine sym_cz fun Q hQ => ?_); simp only [vkt, Nat.reduceEqDiff, Nat.reduceAdd, Nat.reduceMul, Nat.reduceSub, Nat.reduceLeDiff, reduceCtorEq, ↓reduceIte, ↓reduceDIte, Int.reduceToNat, Int.reduceLE, Int.reduceLT, Int.reduceEq, Int.reduceNeg, tbG13_4, aI, aB, aLed, cLed, bgH, p4T, aInts, aIntss, c19, p20, p22, p27, c28, c29, s26, s83, isL_e, ldOf_e, gInt, gInts, eInt, eInts, mInt, mInts, hx, hb, c1, e9]; (try simp only [ite_and]); (repeat' (first | with_reducible assumption | refine And.intro ?_ ?_)); all_goals (first | (refine hQ _ ?_; clear hQ; clear Q) | (refine hQ _ (fun h => ?_) (fun h => ?_) <;> clear hQ <;> clear Q <;> (try simp only [vki, reduceCtorEq] at h)) | omega | (with_reducible assumption) | (with_reducible rfl) | (refine drawB_of ?_; kernel_rfl) | skip)))
        refine ⟨⟨k + 1, hlt⟩, by show X.length - (k + 1) < X.length - k; omega, ?_⟩
        (refine Le.ok some [] ⟨?_, ?_, ?_, ?_, ?_, ?_, ?_, ?_, ?_, ?_, ?_⟩; all_goals (try simp only [leT, leH, leO, ADf.leL, imgs, idsT, idsH, List.filterMap_cons, List.filterMap_nil, List.flatMap_nil, Nat.lt_irrefl, Nat.not_lt_zero, vkt, Nat.reduceEqDiff, Nat.reduceAdd, Nat.reduceMul, Nat.reduceSub, Nat.reduceLeDiff, reduceCtorEq, ↓reduceIte, ↓reduceDIte, Int.reduceToNat, Int.reduceLE, Int.reduceLT, Int.reduceEq, Int.reduceNeg, tbG13_4, aI, aB, aLed, cLed, bgH, p4T, aInts, aIntss, c19, p20, p22, p27, c28, c29, s26, s83, isL_e, ldOf_e, gInt, gInts, eInt, eInts, mInt, mInts]))
        all_goals first | rfl | (simp [hS]; done)
    · have hkn : k = X.length := by omega
      subst hkn
      repeat' (first | refine zq0 ?_ | refine zq1 ?_ | refine zq2 ?_ | refine zq3 ?_ | refine zq4 ?_ | refine zq5 ?_ | refine thenK_n ?_ | refine thenK_x ?_ | refine thenK_r ?_ | refine blockK_n ?_ | refine blockK_r ?_ | refine blockK_hit ?_ | refine blockK_miss (by decide) ?_ | ((first | refine sym_reg env fun Q hQ => ?_ | refine sym_cz fun Q hQ => ?_); simp only [vkt, Nat.reduceEqDiff, Nat.reduceAdd, Nat.reduceMul, Nat.reduceSub, Nat.reduceLeDiff, reduceCtorEq, ↓reduceIte, ↓reduceDIte, Int.reduceToNat, Int.reduceLE, Int.reduceLT, Int.reduceEq, Int.reduceNeg, tbG13_4, aI, aB, aLed, cLed, bgH, p4T, aInts, aIntss, c19, p20, p22, p27, c28, c29, s26, s83, isL_e, ldOf_e, gInt, gInts, eInt, eInts, mInt, mInts, hb2, hd]; (try simp only [ite_and]); (repeat' (first | with_reducible assumption | refine And.intro ?_ ?_)); all_goals (first | (refine hQ _ ?_; clear hQ; clear Q) | (refine hQ _ (fun h => ?_) (fun h => ?_) <;> clear hQ <;> clear Q <;> (try simp only [vki, reduceCtorEq] at h)) | omega | (with_reducible assumption) | (with_reducible rfl) | (refine drawB_of ?_; kernel_rfl) | skip)))
      (simp only [retK, leaveA, resL, tupA, rd, wCells_some, wRow_some, Try.results4, vkt, Nat.reduceEqDiff, Nat.reduceAdd, Nat.reduceMul, Nat.reduceSub, Nat.reduceLeDiff, reduceCtorEq, ↓reduceIte, ↓reduceDIte, Int.reduceToNat, Int.reduceLE, Int.reduceLT, Int.reduceEq, Int.reduceNeg, tbG13_4, aI, aB, aLed, cLed, bgH, p4T, aInts, aIntss, c19, p20, p22, p27, c28, c29, s26, s83, isL_e, ldOf_e, gInt, gInts, eInt, eInts, mInt, mInts]; refine Fin.val rfl ?_; (try simp only [AV.le, AV.leL]))
      all_goals first | rfl | (simp; done)
end Go.Sym.B
