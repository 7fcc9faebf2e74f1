/- Walks and what they compute, joined: part 2. -/
import Derived.Test.YtoapndlmbpphfaaB2
import Derived.Test.YtoapndlmbpphfaaY1
set_option linter.all false
namespace Go.Sym.B
open Go Go.Sym Go.Proofs Go.Sym.C
set_option maxHeartbeats 4000000 in
theorem copyLed_fn (l : Led) (hl : Fit l) : Fn noB Try.prog 43 [aLed l] noH (.agg [.sl (l.coins.map eInts), .sl (l.rates.map eShs), .sl (l.start.map eInt), .row 0]) (hasg [(0, .row 48 6 (l.entries.map eEnt))]) 0 := by
  have env : Env (fun _ => True) Try.prog tyB (tab [(23, valE false c23), (104, valE false c104)]) := mkEnv ⟨d23, d104, trivial⟩
  refine Fn.of (A := fun _ => True) (n0 := 0) (D := noD) (Fn0 Try.func43 rfl (fun vs w => by kernel_rfl) (by kernel_rfl)) (by simp) (by simp [AV.ids, AV.idsL, aLed, cLed]) (fun i o h => by cases h) (fun _ _ _ _ => trivial) noD_ok ?_
  have q1 := hl.c
  have q2 := hl.r
  have q3 := hl.e
  have q4 : l.start.length ≤ 100000 := by have := hl.s; omega
  have q5 := tmax
  have q6 := hl.csl
  have m0 : l.entries.length * 48 ≤ 140737488355328 ∧ l.entries.length ≤ maxLen := by omega
  repeat' (first | refine zq0 ?_ | refine zq1 ?_ | refine zq2 ?_ | refine zq3 ?_ | refine zq4 ?_ | refine zq5 ?_ | refine thenK_n ?_ | refine thenK_x ?_ | refine thenK_r ?_ | refine blockK_n ?_ | refine blockK_r ?_ | refine blockK_hit ?_ | refine blockK_miss (by decide) ?_ | ((first | refine sym_reg env fun Q hQ => ?_ | refine sym_cz fun Q hQ => ?_); simp only [vkt, seval, tbH6_43, xbH6_2]; (try simp only [ite_and]); (repeat' (first | with_reducible assumption | refine And.intro ?_ ?_ | intro hp)); all_goals (first | (refine hQ _ ?_; clear hQ Q) | (refine hQ _ (fun h => ?_) (fun h => ?_) <;> clear hQ Q <;> (try simp only [vki, reduceCtorEq] at h)) | omega | assumption | (with_reducible rfl) | (refine drawB_of ?_; kernel_rfl) | skip)))
  refine sym_loop (fun k : { k : Nat // k ≤ l.rates.length } => clT l k.1) (fun k => l.rates.length - k.1) ⟨0, Nat.zero_le _⟩ ?_ fun ⟨k, hk⟩ => ?_
  · (refine Le.ok (fun j => if j = 2 then none else some j) [] ?_; constructor; all_goals (try simp only [vle, vkt, seval, tbH6_43, xbH6_2]))
    all_goals first | rfl | (simp; done)
  · repeat' (first | refine zq0 ?_ | refine zq1 ?_ | refine zq2 ?_ | refine zq3 ?_ | refine zq4 ?_ | refine zq5 ?_ | refine thenK_n ?_ | refine thenK_x ?_ | refine thenK_r ?_ | refine blockK_n ?_ | refine blockK_r ?_ | refine blockK_hit ?_ | refine blockK_miss (by decide) ?_)
    (refine sym_reg env fun Q hQ => ?_; simp only [vkt, seval, tbH6_43, xbH6_2]; (try simp only [ite_and]); (repeat' (first | with_reducible assumption | refine And.intro ?_ ?_ | intro hp)); all_goals (first | (refine hQ _ ?_; clear hQ Q) | omega | assumption | (with_reducible rfl) | (refine drawB_of ?_; kernel_rfl) | skip))
    repeat' (first | refine zq0 ?_ | refine zq1 ?_ | refine zq2 ?_ | refine zq3 ?_ | refine zq4 ?_ | refine zq5 ?_ | refine thenK_n ?_ | refine thenK_x ?_ | refine thenK_r ?_ | refine blockK_n ?_ | refine blockK_r ?_ | refine blockK_hit ?_ | refine blockK_miss (by decide) ?_)
    (refine sym_cd (by simp only [vkt, seval, tbH6_43, xbH6_2]; rfl) (fun h => ?_) (fun h => ?_) <;> (try simp only [vki, reduceCtorEq] at h))
    · have hlt : k < l.rates.length := by omega
      have e9 := wrap_succ hlt (show l.rates.length ≤ maxLen by omega)
      have hpl := hl.rs _ (gMem (d := []) hlt)
      have e4 := takeS l.rates hlt
      have hk2 : (l.rates.take k).length = k := by rw [List.length_take]; omega
      obtain ⟨p, hP⟩ : ∃ p, l.rates.getD k [] = p := ⟨_, rfl⟩
      rw [hP] at e4 hpl
      have m1 : (k + 1) * 24 ≤ 140737488355328 ∧ k + 1 ≤ maxLen := by omega
      have m2 : p.length * 16 ≤ 140737488355328 ∧ p.length ≤ maxLen := by omega
      repeat' (first | refine zq0 ?_ | refine zq1 ?_ | refine zq2 ?_ | refine zq3 ?_ | refine zq4 ?_ | refine zq5 ?_ | refine thenK_n ?_ | refine thenK_x ?_ | refine thenK_r ?_ | refine blockK_n ?_ | refine blockK_r ?_ | refine blockK_hit ?_ | refine blockK_miss (by decide) ?_ | ((first | refine sym_reg env fun Q hQ => ?_ | refine sym_cz fun Q hQ => ?_); simp only [vkt, seval, tbH6_43, xbH6_2, hP, e4, e9, hk2]; (try simp only [ite_and]); (repeat' (first | with_reducible assumption | refine And.intro ?_ ?_ | intro hp)); all_goals (first | (refine hQ _ ?_; clear hQ Q) | (refine hQ _ (fun h => ?_) (fun h => ?_) <;> clear hQ Q <;> (try simp only [vki, reduceCtorEq] at h)) | omega | assumption | (with_reducible rfl) | (refine drawB_of ?_; kernel_rfl) | skip)))
      refine ⟨⟨k + 1, hlt⟩, by show l.rates.length - (k + 1) < l.rates.length - k; omega, ?_⟩
      (refine Le.ok (fun j => if j = 2 then some 5 else some j) [] ?_; constructor; all_goals (try simp only [vle, vkt, seval, tbH6_43, xbH6_2]))
      all_goals first | rfl | (simp; done)
    · have hkn : k = l.rates.length := by omega
      subst hkn
      repeat' (first | refine zq0 ?_ | refine zq1 ?_ | refine zq2 ?_ | refine zq3 ?_ | refine zq4 ?_ | refine zq5 ?_ | refine thenK_n ?_ | refine thenK_x ?_ | refine thenK_r ?_ | refine blockK_n ?_ | refine blockK_r ?_ | refine blockK_hit ?_ | refine blockK_miss (by decide) ?_ | ((first | refine sym_reg env fun Q hQ => ?_ | refine sym_cz fun Q hQ => ?_); simp only [vkt, seval, tbH6_43, xbH6_2, List.take_length]; (try simp only [ite_and]); (repeat' (first | with_reducible assumption | refine And.intro ?_ ?_ | intro hp)); all_goals (first | (refine hQ _ ?_; clear hQ Q) | (refine hQ _ (fun h => ?_) (fun h => ?_) <;> clear hQ Q <;> (try simp only [vki, reduceCtorEq] at h)) | omega | assumption | (with_reducible rfl) | (refine drawB_of ?_; kernel_rfl) | skip)))
      (simp only [vrt, Try.results43, vkt, seval, tbH6_43, xbH6_2]; refine Fin.ok (fun j => if j = 0 then some 3 else none) [2] ?_ ?_ ?_ ?_ ?_ rfl; all_goals (try simp only [vle, vkt, seval, tbH6_43, xbH6_2]))
      all_goals first | rfl | (simp; done) | exact ⟨⟨_, _, rfl⟩, ⟨_, _, rfl⟩⟩
end Go.Sym.B
namespace Go.Sym.B
open Go Go.Sym Go.Proofs Go.Sym.C
def largeB (l : Led) : Bool := (List.range (min l.coins.length 20)).any (fun j => decide (20 < (l.coins.getD j []).length)) || ((List.range (min l.rates.length 20)).any (fun j => decide (20 < (l.rates.getD j []).length)) || (decide (20 < l.coins.length) || (decide (20 < l.rates.length) || (decide (20 < l.start.length) || decide (20 < l.entries.length)))))
theorem anyR {n : Nat} {f : Nat → Nat} {k : Nat} (h : k < n) (h2 : k < 20) (hf : 20 < f k) : (List.range (min n 20)).any (fun j => decide (20 < f j)) = true := by
  rw [List.any_eq_true]
  exact ⟨k, List.mem_range.2 (by omega), by simpa using hf⟩
theorem anyN {n : Nat} {f : Nat → Nat} (h : ∀ j, j < n → j < 20 → f j ≤ 20) : (List.range (min n 20)).any (fun j => decide (20 < f j)) = false := by
  rw [List.any_eq_false]
  intro j hj
  have := List.mem_range.1 hj
  have := h j (by omega) (by omega)
  simpa using this
theorem fit_of {l : Led} (h : largeB l = false) : Fit l := by
  unfold largeB at h
  simp only [Bool.or_eq_false_iff, decide_eq_false_iff_not, Nat.not_lt, List.any_eq_false, List.mem_range, decide_eq_true_eq] at h
  obtain ⟨h1, h2, h3, h4, h5, h6⟩ := h
  refine ⟨h3, fun p hp => ?_, h4, fun p hp => ?_, h5, h6⟩
  · obtain ⟨j, hj, rfl⟩ := List.getElem_of_mem hp
    have := h1 j (by omega)
    simpa [List.getD_eq_getElem?_getD, hj] using this
  · obtain ⟨j, hj, rfl⟩ := List.getElem_of_mem hp
    have := h2 j (by omega)
    simpa [List.getD_eq_getElem?_getD, hj] using this
def laT1 (l : Led) (k : Nat) : St := { t := asg [(1, .ptr 0 0), (2, aB false), (3, aI k)], h := hasg [(0, .cells (cLed l))], n := 1 }
def laT2 (l : Led) (k : Nat) : St := { t := asg [(1, .ptr 0 0), (2, aB false), (4, aI k)], h := hasg [(0, .cells (cLed l))], n := 1 }
def tbJ1_44 := And.intro @ty3 (And.intro @ty22 (And.intro @ty28 (And.intro @ty35 (And.intro @ty36 (And.intro @ty38 (And.intro @ty48 (And.intro @ty55 (And.intro @ty59 (And.intro @ti3.eq_1 (And.intro @ti22.eq_1 (And.intro @ti28.eq_1 (And.intro @ti35.eq_1 (And.intro @ti36.eq_1 (And.intro @ti38.eq_1 (And.intro @ti48.eq_1 (And.intro @ti55.eq_1 @ti59.eq_1))))))))))))))))
def xbJ1_1 := And.intro @aI.eq_1 (And.intro @aB.eq_1 (And.intro @aLed.eq_1 (And.intro @cLed.eq_1 (And.intro @laT1.eq_1 (And.intro @laT2.eq_1 (And.intro @gInts (And.intro @eInts.eq_1 (And.intro @gShs (@eShs.eq_1)))))))))
set_option maxHeartbeats 4000000 in
theorem large_fn (l : Led) : FnV Try.prog 44 [aLed l] (aB (largeB l)) := by
  have env : Env (fun _ => True) Try.prog tyB (tab []) := mkEnv trivial
  refine Fn.of (A := fun _ => True) (n0 := 0) (D := noD) (Fn0 Try.func44 rfl (fun vs w => by kernel_rfl) (by kernel_rfl)) (by simp) (by simp [AV.ids, AV.idsL, aLed, cLed]) (fun i o h => by cases h) (fun _ _ _ _ => trivial) noD_ok ?_
  repeat' (first | refine zq0 ?_ | refine zq1 ?_ | refine zq2 ?_ | refine zq3 ?_ | refine zq4 ?_ | refine zq5 ?_ | refine thenK_n ?_ | refine thenK_x ?_ | refine thenK_r ?_ | refine blockK_n ?_ | refine blockK_r ?_ | refine blockK_hit ?_ | refine blockK_miss (by decide) ?_ | ((first | refine sym_reg env fun Q hQ => ?_ | refine sym_cz fun Q hQ => ?_); simp only [vkt, seval, tbJ1_44, xbJ1_1]; (try simp only [ite_and]); (repeat' (first | with_reducible assumption | refine And.intro ?_ ?_ | intro hp)); all_goals (first | (refine hQ _ ?_; clear hQ Q) | (refine hQ _ (fun h => ?_) (fun h => ?_) <;> clear hQ Q <;> (try simp only [vki, reduceCtorEq] at h)) | omega | assumption | (with_reducible rfl) | (refine drawB_of ?_; kernel_rfl) | skip)))
  refine sym_loop (fun k : { k : Nat // k ≤ l.coins.length ∧ k ≤ 20 ∧ ∀ j, j < k → (l.coins.getD j []).length ≤ 20 } => laT1 l k.1) (fun k => 20 - k.1) ⟨0, Nat.zero_le _, Nat.zero_le _, fun j h => by omega⟩ ?_ fun ⟨k, hk, hk2, hall⟩ => ?_
  · (refine Le.ok some [] ?_; constructor; all_goals (try simp only [vle, vkt, seval, tbJ1_44, xbJ1_1]))
    all_goals first | rfl | (simp; done)
  by_cases c1 : k < l.coins.length ∧ k < 20
  · have k1 : decide ((k : Int) < (l.coins.length : Int)) = true := decide_eq_true (by omega)
    have k2 : decide ((k : Int) < 20) = true := decide_eq_true (by omega)
    have e9 := wrap64 (n := (k : Int) + 1) (by omega) (by omega)
    by_cases c2 : 20 < (l.coins.getD k []).length
    · have k3 : decide ((20 : Int) < ((l.coins.getD k []).length : Int)) = true := decide_eq_true (by omega)
      repeat' (first | refine zq0 ?_ | refine zq1 ?_ | refine zq2 ?_ | refine zq3 ?_ | refine zq4 ?_ | refine zq5 ?_ | refine thenK_n ?_ | refine thenK_x ?_ | refine thenK_r ?_ | refine blockK_n ?_ | refine blockK_r ?_ | refine blockK_hit ?_ | refine blockK_miss (by decide) ?_ | ((first | refine sym_reg env fun Q hQ => ?_ | refine sym_cz fun Q hQ => ?_); simp only [vkt, seval, tbJ1_44, xbJ1_1, k1, k2, k3]; (try simp only [ite_and]); (repeat' (first | with_reducible assumption | refine And.intro ?_ ?_ | intro hp)); all_goals (first | (refine hQ _ ?_; clear hQ Q) | (refine hQ _ (fun h => ?_) (fun h => ?_) <;> clear hQ Q <;> (try simp only [vki, reduceCtorEq] at h)) | omega | assumption | (with_reducible rfl) | (refine drawB_of ?_; kernel_rfl) | skip)))
      (simp only [vrt, Try.results44, vkt, seval, tbJ1_44, xbJ1_1]; refine Fin.val rfl ?_; (try simp only [AV.le, AV.leL]))
      all_goals first | (rw [largeB, anyR (f := fun j => (l.coins.getD j []).length) c1.1 c1.2 c2]; rfl)
    · have k3 : decide ((20 : Int) < ((l.coins.getD k []).length : Int)) = false := decide_eq_false (by omega)
      repeat' (first | refine zq0 ?_ | refine zq1 ?_ | refine zq2 ?_ | refine zq3 ?_ | refine zq4 ?_ | refine zq5 ?_ | refine thenK_n ?_ | refine thenK_x ?_ | refine thenK_r ?_ | refine blockK_n ?_ | refine blockK_r ?_ | refine blockK_hit ?_ | refine blockK_miss (by decide) ?_ | ((first | refine sym_reg env fun Q hQ => ?_ | refine sym_cz fun Q hQ => ?_); simp only [vkt, seval, tbJ1_44, xbJ1_1, k1, k2, k3, e9]; (try simp only [ite_and]); (repeat' (first | with_reducible assumption | refine And.intro ?_ ?_ | intro hp)); all_goals (first | (refine hQ _ ?_; clear hQ Q) | (refine hQ _ (fun h => ?_) (fun h => ?_) <;> clear hQ Q <;> (try simp only [vki, reduceCtorEq] at h)) | omega | assumption | (with_reducible rfl) | (refine drawB_of ?_; kernel_rfl) | skip)))
      refine ⟨⟨k + 1, by omega, by omega, fun j hj => ?_⟩, by show 20 - (k + 1) < 20 - k; omega, ?_⟩
      · rcases Nat.lt_or_eq_of_le (Nat.le_of_lt_succ hj) with h | h
        · exact hall j h
        · rw [h]; omega
      · (refine Le.ok some [] ?_; constructor; all_goals (try simp only [vle, vkt, seval, tbJ1_44, xbJ1_1]))
        all_goals first | rfl | (simp; done)
  have a1 : (List.range (min l.coins.length 20)).any (fun j => decide (20 < (l.coins.getD j []).length)) = false := anyN (f := fun j => (l.coins.getD j []).length) fun j h1 h2 => hall j (by omega)
  have hd : (decide ((k : Int) < (l.coins.length : Int)) = true ∧ decide ((k : Int) < 20) = false) ∨ decide ((k : Int) < (l.coins.length : Int)) = false := by
    by_cases h : k < l.coins.length
    · exact .inl ⟨decide_eq_true (by omega), decide_eq_false (by omega)⟩
    · exact .inr (decide_eq_false (by omega))
  rcases hd with ⟨d1, d2⟩ | d1
  rotate_left
  have d2 := d1
  all_goals
    repeat' (first | refine zq0 ?_ | refine zq1 ?_ | refine zq2 ?_ | refine zq3 ?_ | refine zq4 ?_ | refine zq5 ?_ | refine thenK_n ?_ | refine thenK_x ?_ | refine thenK_r ?_ | refine blockK_n ?_ | refine blockK_r ?_ | refine blockK_hit ?_ | refine blockK_miss (by decide) ?_ | ((first | refine sym_reg env fun Q hQ => ?_ | refine sym_cz fun Q hQ => ?_); simp only [vkt, seval, tbJ1_44, xbJ1_1, d1, d2]; (try simp only [ite_and]); (repeat' (first | with_reducible assumption | refine And.intro ?_ ?_ | intro hp)); all_goals (first | (refine hQ _ ?_; clear hQ Q) | (refine hQ _ (fun h => ?_) (fun h => ?_) <;> clear hQ Q <;> (try simp only [vki, reduceCtorEq] at h)) | omega | assumption | (with_reducible rfl) | (refine drawB_of ?_; kernel_rfl) | skip)))
    refine sym_loop (fun k : { k : Nat // k ≤ l.rates.length ∧ k ≤ 20 ∧ ∀ j, j < k → (l.rates.getD j []).length ≤ 20 } => laT2 l k.1) (fun k => 20 - k.1) ⟨0, Nat.zero_le _, Nat.zero_le _, fun j h => by omega⟩ ?_ fun ⟨k, hk, hk2, hall⟩ => ?_
    · (refine Le.ok some [] ?_; constructor; all_goals (try simp only [vle, vkt, seval, tbJ1_44, xbJ1_1]))
      all_goals first | rfl | (simp; done)
    clear d1 d2
    by_cases c1 : k < l.rates.length ∧ k < 20
    · have k1 : decide ((k : Int) < (l.rates.length : Int)) = true := decide_eq_true (by omega)
      have k2 : decide ((k : Int) < 20) = true := decide_eq_true (by omega)
      have e9 := wrap64 (n := (k : Int) + 1) (by omega) (by omega)
      by_cases c2 : 20 < (l.rates.getD k []).length
      · have k3 : decide ((20 : Int) < ((l.rates.getD k []).length : Int)) = true := decide_eq_true (by omega)
        repeat' (first | refine zq0 ?_ | refine zq1 ?_ | refine zq2 ?_ | refine zq3 ?_ | refine zq4 ?_ | refine zq5 ?_ | refine thenK_n ?_ | refine thenK_x ?_ | refine thenK_r ?_ | refine blockK_n ?_ | refine blockK_r ?_ | refine blockK_hit ?_ | refine blockK_miss (by decide) ?_ | ((first | refine sym_reg env fun Q hQ => ?_ | refine sym_cz fun Q hQ => ?_); simp only [vkt, seval, tbJ1_44, xbJ1_1, k1, k2, k3]; (try simp only [ite_and]); (repeat' (first | with_reducible assumption | refine And.intro ?_ ?_ | intro hp)); all_goals (first | (refine hQ _ ?_; clear hQ Q) | (refine hQ _ (fun h => ?_) (fun h => ?_) <;> clear hQ Q <;> (try simp only [vki, reduceCtorEq] at h)) | omega | assumption | (with_reducible rfl) | (refine drawB_of ?_; kernel_rfl) | skip)))
        (simp only [vrt, Try.results44, vkt, seval, tbJ1_44, xbJ1_1]; refine Fin.val rfl ?_; (try simp only [AV.le, AV.leL]))
        all_goals first | (rw [largeB, a1, anyR (f := fun j => (l.rates.getD j []).length) c1.1 c1.2 c2]; rfl)
      · have k3 : decide ((20 : Int) < ((l.rates.getD k []).length : Int)) = false := decide_eq_false (by omega)
        repeat' (first | refine zq0 ?_ | refine zq1 ?_ | refine zq2 ?_ | refine zq3 ?_ | refine zq4 ?_ | refine zq5 ?_ | refine thenK_n ?_ | refine thenK_x ?_ | refine thenK_r ?_ | refine blockK_n ?_ | refine blockK_r ?_ | refine blockK_hit ?_ | refine blockK_miss (by decide) ?_ | ((first | refine sym_reg env fun Q hQ => ?_ | refine sym_cz fun Q hQ => ?_); simp only [vkt, seval, tbJ1_44, xbJ1_1, k1, k2, k3, e9]; (try simp only [ite_and]); (repeat' (first | with_reducible assumption | refine And.intro ?_ ?_ | intro hp)); all_goals (first | (refine hQ _ ?_; clear hQ Q) | (refine hQ _ (fun h => ?_) (fun h => ?_) <;> clear hQ Q <;> (try simp only [vki, reduceCtorEq] at h)) | omega | assumption | (with_reducible rfl) | (refine drawB_of ?_; kernel_rfl) | skip)))
        refine ⟨⟨k + 1, by omega, by omega, fun j hj => ?_⟩, by show 20 - (k + 1) < 20 - k; omega, ?_⟩
        · rcases Nat.lt_or_eq_of_le (Nat.le_of_lt_succ hj) with h | h
          · exact hall j h
          · rw [h]; omega
        · (refine Le.ok some [] ?_; constructor; all_goals (try simp only [vle, vkt, seval, tbJ1_44, xbJ1_1]))
          all_goals first | rfl | (simp; done)
    have a2 : (List.range (min l.rates.length 20)).any (fun j => decide (20 < (l.rates.getD j []).length)) = false := anyN (f := fun j => (l.rates.getD j []).length) fun j h1 h2 => hall j (by omega)
    have hd : (decide ((k : Int) < (l.rates.length : Int)) = true ∧ decide ((k : Int) < 20) = false) ∨ decide ((k : Int) < (l.rates.length : Int)) = false := by
      by_cases h : k < l.rates.length
      · exact .inl ⟨decide_eq_true (by omega), decide_eq_false (by omega)⟩
      · exact .inr (decide_eq_false (by omega))
    have hB : largeB l = (decide (20 < l.coins.length) || (decide (20 < l.rates.length) || (decide (20 < l.start.length) || decide (20 < l.entries.length)))) := by rw [largeB, a1, a2]; rfl
    rw [hB]
    have b1 : decide ((20 : Int) < (l.coins.length : Int)) = decide (20 < l.coins.length) := decide_eq_decide.2 (by omega)
    have b2 : decide ((20 : Int) < (l.rates.length : Int)) = decide (20 < l.rates.length) := decide_eq_decide.2 (by omega)
    have b3 : decide ((20 : Int) < (l.start.length : Int)) = decide (20 < l.start.length) := decide_eq_decide.2 (by omega)
    have b4 : decide ((20 : Int) < (l.entries.length : Int)) = decide (20 < l.entries.length) := decide_eq_decide.2 (by omega)
    generalize decide (20 < l.coins.length) = p1 at *
    generalize decide (20 < l.rates.length) = p2 at *
    generalize decide (20 < l.start.length) = p3 at *
    generalize decide (20 < l.entries.length) = p4 at *
    rcases hd with ⟨d1, d2⟩ | d1
    rotate_left
    have d2 := d1
    all_goals
      cases p1 <;> cases p2 <;> cases p3
      all_goals
        repeat' (first | refine zq0 ?_ | refine zq1 ?_ | refine zq2 ?_ | refine zq3 ?_ | refine zq4 ?_ | refine zq5 ?_ | refine thenK_n ?_ | refine thenK_x ?_ | refine thenK_r ?_ | refine blockK_n ?_ | refine blockK_r ?_ | refine blockK_hit ?_ | refine blockK_miss (by decide) ?_ | ((first | refine sym_reg env fun Q hQ => ?_ | refine sym_cz fun Q hQ => ?_); simp only [vkt, seval, tbJ1_44, xbJ1_1, d1, d2, b1, b2, b3, b4]; (try simp only [ite_and]); (repeat' (first | with_reducible assumption | refine And.intro ?_ ?_ | intro hp)); all_goals (first | (refine hQ _ ?_; clear hQ Q) | (refine hQ _ (fun h => ?_) (fun h => ?_) <;> clear hQ Q <;> (try simp only [vki, reduceCtorEq] at h)) | omega | assumption | (with_reducible rfl) | (refine drawB_of ?_; kernel_rfl) | skip)))
        (simp only [vrt, Try.results44, vkt, seval, tbJ1_44, xbJ1_1]; refine Fin.val rfl ?_; (try simp only [AV.le, AV.leL]))
        all_goals first | rfl | (simp; done)
def c44 : List AV → Prop × AV
  | [.agg [.sl cs, .sl rs, .sl ss, .sl es]] => (isL cs rs ss es, aB (largeB (ldOf cs rs ss es)))
  | _ => (False, .junk)
theorem d44 {A : Frm → Prop} : EntryOK A Try.prog 44 (valE true c44) := valE_ok fun vs hv h => by
  clear hv
  unfold c44 at h ⊢
  split at h
  · refine ⟨by simp [AV.plain, aB], fun _ => by simp [AV.flat, aB], ?_⟩
    rw [← aLed_of h]; exact large_fn _
  · exact h.elim
end Go.Sym.B
namespace Go.Sym.B
open Go Go.Sym Go.Proofs Go.Sym.C
def tbJ2_43 := And.intro @ty3 (And.intro @ty22 (And.intro @ty28 (And.intro @ty35 (And.intro @ty36 (And.intro @ty38 (And.intro @ty48 (And.intro @ty55 (And.intro @ty59 (And.intro @ti3.eq_1 (And.intro @ti22.eq_1 (And.intro @ti28.eq_1 (And.intro @ti35.eq_1 (And.intro @ti36.eq_1 (And.intro @ti38.eq_1 (And.intro @ti48.eq_1 (And.intro @ti55.eq_1 @ti59.eq_1))))))))))))))))
def xbJ2_1 := And.intro @aI.eq_1 (And.intro @aB.eq_1 (And.intro @aLed.eq_1 (And.intro @cLed.eq_1 (And.intro @clT.eq_1 (And.intro @c23.eq_1 (And.intro @c23.eq_2 (And.intro @c104.eq_1 (And.intro @c104.eq_2 (And.intro @gInts (And.intro @eInts.eq_1 (And.intro @gShs (And.intro @eShs.eq_1 (And.intro @mInt (And.intro @mInts (And.intro @rInts (And.intro @rInt (And.intro @rShs (And.intro @rSh (@rEnt)))))))))))))))))))
set_option maxHeartbeats 4000000 in
theorem copyLedV_fn (l : Led) (hl : Fit l) : FnV Try.prog 43 [aLed l] (aLed l) := by
  have env : Env (fun _ => True) Try.prog tyB (tab [(23, valE false c23), (104, valE false c104)]) := mkEnv ⟨d23, d104, trivial⟩
  refine Fn.of (A := fun _ => True) (n0 := 0) (D := noD) (Fn0 Try.func43 rfl (fun vs w => by kernel_rfl) (by kernel_rfl)) (by simp) (by simp [AV.ids, AV.idsL, aLed, cLed]) (fun i o h => by cases h) (fun _ _ _ _ => trivial) noD_ok ?_
  have q1 := hl.c
  have q2 := hl.r
  have q3 := hl.e
  have q4 : l.start.length ≤ 100000 := by have := hl.s; omega
  have q5 := tmax
  have q6 := hl.csl
  have m0 : l.entries.length * 48 ≤ 140737488355328 ∧ l.entries.length ≤ maxLen := by omega
  repeat' (first | refine zq0 ?_ | refine zq1 ?_ | refine zq2 ?_ | refine zq3 ?_ | refine zq4 ?_ | refine zq5 ?_ | refine thenK_n ?_ | refine thenK_x ?_ | refine thenK_r ?_ | refine blockK_n ?_ | refine blockK_r ?_ | refine blockK_hit ?_ | refine blockK_miss (by decide) ?_ | ((first | refine sym_reg env fun Q hQ => ?_ | refine sym_cz fun Q hQ => ?_); simp only [vkt, seval, tbJ2_43, xbJ2_1]; (try simp only [ite_and]); (repeat' (first | with_reducible assumption | refine And.intro ?_ ?_ | intro hp)); all_goals (first | (refine hQ _ ?_; clear hQ Q) | (refine hQ _ (fun h => ?_) (fun h => ?_) <;> clear hQ Q <;> (try simp only [vki, reduceCtorEq] at h)) | omega | assumption | (with_reducible rfl) | (refine drawB_of ?_; kernel_rfl) | skip)))
  refine sym_loop (fun k : { k : Nat // k ≤ l.rates.length } => clT l k.1) (fun k => l.rates.length - k.1) ⟨0, Nat.zero_le _⟩ ?_ fun ⟨k, hk⟩ => ?_
  · (refine Le.ok (fun j => if j = 2 then none else some j) [] ?_; constructor; all_goals (try simp only [vle, vkt, seval, tbJ2_43, xbJ2_1]))
    all_goals first | rfl | (simp; done)
  · repeat' (first | refine zq0 ?_ | refine zq1 ?_ | refine zq2 ?_ | refine zq3 ?_ | refine zq4 ?_ | refine zq5 ?_ | refine thenK_n ?_ | refine thenK_x ?_ | refine thenK_r ?_ | refine blockK_n ?_ | refine blockK_r ?_ | refine blockK_hit ?_ | refine blockK_miss (by decide) ?_)
    (refine sym_reg env fun Q hQ => ?_; simp only [vkt, seval, tbJ2_43, xbJ2_1]; (try simp only [ite_and]); (repeat' (first | with_reducible assumption | refine And.intro ?_ ?_ | intro hp)); all_goals (first | (refine hQ _ ?_; clear hQ Q) | omega | assumption | (with_reducible rfl) | (refine drawB_of ?_; kernel_rfl) | skip))
    repeat' (first | refine zq0 ?_ | refine zq1 ?_ | refine zq2 ?_ | refine zq3 ?_ | refine zq4 ?_ | refine zq5 ?_ | refine thenK_n ?_ | refine thenK_x ?_ | refine thenK_r ?_ | refine blockK_n ?_ | refine blockK_r ?_ | refine blockK_hit ?_ | refine blockK_miss (by decide) ?_)
    (refine sym_cd (by simp only [vkt, seval, tbJ2_43, xbJ2_1]; rfl) (fun h => ?_) (fun h => ?_) <;> (try simp only [vki, reduceCtorEq] at h))
    · have hlt : k < l.rates.length := by omega
      have e9 := wrap_succ hlt (show l.rates.length ≤ maxLen by omega)
      have hpl := hl.rs _ (gMem (d := []) hlt)
      have e4 := takeS l.rates hlt
      have hk2 : (l.rates.take k).length = k := by rw [List.length_take]; omega
      obtain ⟨p, hP⟩ : ∃ p, l.rates.getD k [] = p := ⟨_, rfl⟩
      rw [hP] at e4 hpl
      have m1 : (k + 1) * 24 ≤ 140737488355328 ∧ k + 1 ≤ maxLen := by omega
      have m2 : p.length * 16 ≤ 140737488355328 ∧ p.length ≤ maxLen := by omega
      repeat' (first | refine zq0 ?_ | refine zq1 ?_ | refine zq2 ?_ | refine zq3 ?_ | refine zq4 ?_ | refine zq5 ?_ | refine thenK_n ?_ | refine thenK_x ?_ | refine thenK_r ?_ | refine blockK_n ?_ | refine blockK_r ?_ | refine blockK_hit ?_ | refine blockK_miss (by decide) ?_ | ((first | refine sym_reg env fun Q hQ => ?_ | refine sym_cz fun Q hQ => ?_); simp only [vkt, seval, tbJ2_43, xbJ2_1, hP, e4, e9, hk2]; (try simp only [ite_and]); (repeat' (first | with_reducible assumption | refine And.intro ?_ ?_ | intro hp)); all_goals (first | (refine hQ _ ?_; clear hQ Q) | (refine hQ _ (fun h => ?_) (fun h => ?_) <;> clear hQ Q <;> (try simp only [vki, reduceCtorEq] at h)) | omega | assumption | (with_reducible rfl) | (refine drawB_of ?_; kernel_rfl) | skip)))
      refine ⟨⟨k + 1, hlt⟩, by show l.rates.length - (k + 1) < l.rates.length - k; omega, ?_⟩
      (refine Le.ok (fun j => if j = 2 then some 5 else some j) [] ?_; constructor; all_goals (try simp only [vle, vkt, seval, tbJ2_43, xbJ2_1]))
      all_goals first | rfl | (simp; done)
    · have hkn : k = l.rates.length := by omega
      subst hkn
      repeat' (first | refine zq0 ?_ | refine zq1 ?_ | refine zq2 ?_ | refine zq3 ?_ | refine zq4 ?_ | refine zq5 ?_ | refine thenK_n ?_ | refine thenK_x ?_ | refine thenK_r ?_ | refine blockK_n ?_ | refine blockK_r ?_ | refine blockK_hit ?_ | refine blockK_miss (by decide) ?_ | ((first | refine sym_reg env fun Q hQ => ?_ | refine sym_cz fun Q hQ => ?_); simp only [vkt, seval, tbJ2_43, xbJ2_1, List.take_length]; (try simp only [ite_and]); (repeat' (first | with_reducible assumption | refine And.intro ?_ ?_ | intro hp)); all_goals (first | (refine hQ _ ?_; clear hQ Q) | (refine hQ _ (fun h => ?_) (fun h => ?_) <;> clear hQ Q <;> (try simp only [vki, reduceCtorEq] at h)) | omega | assumption | (with_reducible rfl) | (refine drawB_of ?_; kernel_rfl) | skip)))
      (simp only [vrt, Try.results43, vkt, seval, tbJ2_43, xbJ2_1]; refine Fin.val rfl ?_; (try simp only [AV.le, AV.leL]))
      all_goals first | rfl | (simp; done) | exact ⟨trivial, ⟨_, _, rfl⟩, trivial, ⟨_, _, rfl⟩, trivial⟩ | exact ⟨trivial, ⟨_, _, rfl⟩, trivial, ⟨_, _, rfl⟩⟩ | exact ⟨rfl, ⟨_, _, rfl⟩, rfl, ⟨_, _, rfl⟩, trivial⟩ | exact ⟨⟨_, _, rfl⟩, ⟨_, _, rfl⟩⟩
def c43 : List AV → Prop × AV
  | [.agg [.sl cs, .sl rs, .sl ss, .sl es]] => (isL cs rs ss es ∧ Fit (ldOf cs rs ss es), aLed (ldOf cs rs ss es))
  | _ => (False, .junk)
theorem d43 {A : Frm → Prop} : EntryOK A Try.prog 43 (valE false c43) := valE_ok fun vs hv h => by
  clear hv
  unfold c43 at h ⊢
  split at h
  · refine ⟨by simp [AV.plain, AV.plainL, aLed, cLed], fun h => absurd h (by decide), ?_⟩
    have := copyLedV_fn _ h.2
    rw [aLed_of h.1] at this ⊢
    exact this
  · exact h.elim
def p43 (S : St) : List AV → Option Pk
  | [.agg [.sl cs, .sl rs, .sl ss, .sl es]] => some { pre := isL cs rs ss es ∧ Fit (ldOf cs rs ss es), ar := [.agg [.sl cs, .sl rs, .sl ss, .sl es]], v := .agg [.sl cs, .sl rs, .sl ss, .row 0], L1 := [some (.row 48 6 es)] }
  | _ => none
theorem e43 {A : Frm → Prop} : EntryOK A Try.prog 43 (fnE p43) := fnE_ok fun S bs q h hp => by
  unfold p43 at h
  split at h
  · cases h
    rename_i cs rs ss es
    have := copyLed_fn _ hp.2
    rw [aLed_of hp.1] at this
    simp only [ldOf, ← hp.1.1, ← hp.1.2.1, ← hp.1.2.2.1, ← hp.1.2.2.2] at this
    exact this
  · cases h
def addE1 (l : Led) (x : Ent) : Led := { l with entries := l.entries ++ [x] }
def tbJ2_45 := And.intro @ty36 (And.intro @ty38 (And.intro @ty48 (And.intro @ti36.eq_1 (And.intro @ti38.eq_1 @ti48.eq_1))))
def xbJ2_2 := And.intro @aI.eq_1 (And.intro @aB.eq_1 (And.intro @aLed.eq_1 (And.intro @cLed.eq_1 (And.intro @aEnt.eq_1 (And.intro @p43.eq_1 (And.intro @p43.eq_2 (And.intro @isL_e (And.intro @ldOf_e (And.intro @rEnt (And.intro @eEnt.eq_1 (@addE1.eq_1)))))))))))
theorem with_fn (l : Led) (x : Ent) (hl : Fit l) : FnV Try.prog 45 [aLed l, aEnt x] (aLed (addE1 l x)) := by
  have env : Env (fun _ => True) Try.prog tyB (tab [(43, fnE p43)]) := mkEnv ⟨e43, trivial⟩
  refine Fn.of (A := fun _ => True) (n0 := 0) (D := noD) (Fn0 Try.func45 rfl (fun vs w => by kernel_rfl) (by kernel_rfl)) (by simp) (by simp [AV.ids, AV.idsL, aLed, cLed, aEnt]) (fun i o h => by cases h) (fun _ _ _ _ => trivial) noD_ok ?_
  have q3 := hl.e
  have q5 := tmax
  have big : (100000 : Nat) ≤ maxLen := by decide
  have m0 : (l.entries.length + 1) * 48 ≤ 140737488355328 ∧ l.entries.length + 1 ≤ maxLen := by omega
  have m1 : l.entries.length * 48 ≤ 140737488355328 ∧ l.entries.length ≤ maxLen := by omega
  have e4 : l.entries.map eEnt ++ [[.v (.int .i64 x.day), .v (.int .i64 x.kind), .v (.int .i64 x.coin), .v (.int .i64 x.to), .v (.int .i64 x.amount), .v (.int .i64 x.got)]] = (l.entries ++ [x]).map eEnt := by rw [List.map_append]; rfl
  repeat' (first | refine zq0 ?_ | refine zq1 ?_ | refine zq2 ?_ | refine zq3 ?_ | refine zq4 ?_ | refine zq5 ?_ | refine thenK_n ?_ | refine thenK_x ?_ | refine thenK_r ?_ | refine blockK_n ?_ | refine blockK_r ?_ | refine blockK_hit ?_ | refine blockK_miss (by decide) ?_ | ((first | refine sym_reg env fun Q hQ => ?_ | refine sym_cz fun Q hQ => ?_); simp only [vkt, seval, tbJ2_45, xbJ2_2, e4]; (try simp only [ite_and]); (repeat' (first | with_reducible assumption | refine And.intro ?_ ?_ | intro hp)); all_goals (first | (refine hQ _ ?_; clear hQ Q) | (refine hQ _ (fun h => ?_) (fun h => ?_) <;> clear hQ Q <;> (try simp only [vki, reduceCtorEq] at h)) | omega | assumption | (with_reducible rfl) | (refine drawB_of ?_; kernel_rfl) | skip)))
  (simp only [vrt, Try.results45, vkt, seval, tbJ2_45, xbJ2_2]; refine Fin.val rfl ?_; (try simp only [AV.le, AV.leL]))
  all_goals first | rfl | (simp; done) | exact ⟨trivial, trivial, trivial, ⟨_, _, rfl⟩, trivial⟩ | exact ⟨trivial, trivial, trivial, ⟨_, _, rfl⟩⟩ | exact ⟨rfl, rfl, rfl, ⟨_, _, rfl⟩, trivial⟩
def c45 : List AV → Prop × AV
  | [.agg [.sl cs, .sl rs, .sl ss, .sl es], .agg [.v (.int .i64 a), .v (.int .i64 b), .v (.int .i64 c), .v (.int .i64 d), .v (.int .i64 e), .v (.int .i64 f)]] => (isL cs rs ss es ∧ Fit (ldOf cs rs ss es), aLed (addE1 (ldOf cs rs ss es) ⟨a, b, c, d, e, f⟩))
  | _ => (False, .junk)
theorem d45 {A : Frm → Prop} : EntryOK A Try.prog 45 (valE false c45) := valE_ok fun vs hv h => by
  clear hv
  unfold c45 at h ⊢
  split at h
  · refine ⟨by simp [AV.plain, AV.plainL, aLed, cLed], fun h => absurd h (by decide), ?_⟩
    rw [← aLed_of h.1]; exact with_fn _ ⟨_, _, _, _, _, _⟩ h.2
  · exact h.elim
def esT (r : List Sh) (k : Nat) : St := { t := asg [(0, aShs r), (1, aShs r), (4, aB false), (5, aI k)], h := hasg [], n := 0 }
def tbJ2_57 := And.intro @ty3 (And.intro @ty55 (And.intro @ty59 (And.intro @ti3.eq_1 (And.intro @ti55.eq_1 @ti59.eq_1))))
def xbJ2_3 := And.intro @aI.eq_1 (And.intro @aB.eq_1 (And.intro @aShs.eq_1 (And.intro @esT.eq_1 (And.intro @gSh (@eSh.eq_1)))))
theorem eqShs_fn (r : List Sh) (hl : r.length ≤ maxLen) : FnV Try.prog 57 [aShs r, aShs r] (aB true) := by
  have env : Env (fun _ => True) Try.prog tyB (tab []) := mkEnv trivial
  refine Fn.of (A := fun _ => True) (n0 := 0) (D := noD) (Fn0 Try.func57 rfl (fun vs w => by kernel_rfl) (by kernel_rfl)) (by simp) (by simp [AV.ids, AV.idsL, aShs]) (fun i o h => by cases h) (fun _ _ _ _ => trivial) noD_ok ?_
  have zn : ∀ n : Int, decide (n = n) = true := fun n => decide_eq_true rfl
  repeat' (first | refine zq0 ?_ | refine zq1 ?_ | refine zq2 ?_ | refine zq3 ?_ | refine zq4 ?_ | refine zq5 ?_ | refine thenK_n ?_ | refine thenK_x ?_ | refine thenK_r ?_ | refine blockK_n ?_ | refine blockK_r ?_ | refine blockK_hit ?_ | refine blockK_miss (by decide) ?_ | ((first | refine sym_reg env fun Q hQ => ?_ | refine sym_cz fun Q hQ => ?_); simp only [vkt, seval, tbJ2_57, xbJ2_3, zn]; (try simp only [ite_and]); (repeat' (first | with_reducible assumption | refine And.intro ?_ ?_ | intro hp)); all_goals (first | (refine hQ _ ?_; clear hQ Q) | (refine hQ _ (fun h => ?_) (fun h => ?_) <;> clear hQ Q <;> (try simp only [vki, reduceCtorEq] at h)) | omega | assumption | (with_reducible rfl) | (refine drawB_of ?_; kernel_rfl) | skip)))
  refine sym_loop (fun k : { k : Nat // k ≤ r.length } => esT r k.1) (fun k => r.length - k.1) ⟨0, Nat.zero_le _⟩ ?_ fun ⟨k, hk⟩ => ?_
  · (refine Le.ok some [] ?_; constructor; all_goals (try simp only [vle, vkt, seval, tbJ2_57, xbJ2_3]))
    all_goals first | rfl | (simp; done)
  · by_cases hlt : k < r.length
    · have d1 : decide ((k : Int) < (r.length : Int)) = true := decide_eq_true (by omega)
      have e9 := wrap_succ hlt hl
      repeat' (first | refine zq0 ?_ | refine zq1 ?_ | refine zq2 ?_ | refine zq3 ?_ | refine zq4 ?_ | refine zq5 ?_ | refine thenK_n ?_ | refine thenK_x ?_ | refine thenK_r ?_ | refine blockK_n ?_ | refine blockK_r ?_ | refine blockK_hit ?_ | refine blockK_miss (by decide) ?_ | ((first | refine sym_reg env fun Q hQ => ?_ | refine sym_cz fun Q hQ => ?_); simp only [vkt, seval, tbJ2_57, xbJ2_3, d1, e9, zn]; (try simp only [ite_and]); (repeat' (first | with_reducible assumption | refine And.intro ?_ ?_ | intro hp)); all_goals (first | (refine hQ _ ?_; clear hQ Q) | (refine hQ _ (fun h => ?_) (fun h => ?_) <;> clear hQ Q <;> (try simp only [vki, reduceCtorEq] at h)) | omega | assumption | (with_reducible rfl) | (refine drawB_of ?_; kernel_rfl) | skip)))
      refine ⟨⟨k + 1, hlt⟩, by show r.length - (k + 1) < r.length - k; omega, ?_⟩
      (refine Le.ok some [] ?_; constructor; all_goals (try simp only [vle, vkt, seval, tbJ2_57, xbJ2_3]))
      all_goals first | rfl | (simp; done)
    · have d1 : decide ((k : Int) < (r.length : Int)) = false := decide_eq_false (by omega)
      repeat' (first | refine zq0 ?_ | refine zq1 ?_ | refine zq2 ?_ | refine zq3 ?_ | refine zq4 ?_ | refine zq5 ?_ | refine thenK_n ?_ | refine thenK_x ?_ | refine thenK_r ?_ | refine blockK_n ?_ | refine blockK_r ?_ | refine blockK_hit ?_ | refine blockK_miss (by decide) ?_ | ((first | refine sym_reg env fun Q hQ => ?_ | refine sym_cz fun Q hQ => ?_); simp only [vkt, seval, tbJ2_57, xbJ2_3, d1]; (try simp only [ite_and]); (repeat' (first | with_reducible assumption | refine And.intro ?_ ?_ | intro hp)); all_goals (first | (refine hQ _ ?_; clear hQ Q) | (refine hQ _ (fun h => ?_) (fun h => ?_) <;> clear hQ Q <;> (try simp only [vki, reduceCtorEq] at h)) | omega | assumption | (with_reducible rfl) | (refine drawB_of ?_; kernel_rfl) | skip)))
      (simp only [vrt, Try.results57, vkt, seval, tbJ2_57, xbJ2_3]; refine Fin.val rfl ?_; (try simp only [AV.le, AV.leL]))
      all_goals first | rfl | (simp; done)
def c57 : List AV → Prop × AV
  | [.sl xs, .sl ys] => (ys = xs ∧ xs = (xs.map dSh).map eSh ∧ xs.length ≤ 100000, aB true)
  | _ => (False, .junk)
theorem d57 {A : Frm → Prop} : EntryOK A Try.prog 57 (valE true c57) := valE_ok fun vs hv h => by
  clear hv
  unfold c57 at h ⊢
  split at h
  · rename_i xs ys
    obtain ⟨h1, h2, h3⟩ := h
    refine ⟨by simp [AV.plain, aB], fun _ => by simp [AV.flat, aB], ?_⟩
    have := eqShs_fn (xs.map dSh) (by rw [List.length_map]; have : (100000 : Nat) ≤ maxLen := by decide
                                      omega)
    simp only [aShs, ← h2] at this
    rw [h1]; exact this
  · exact h.elim
def elT1 (l : Led) (k : Nat) : St := { t := asg [(2, .ptr 0 0), (3, .ptr 1 0), (4, aB false), (5, aI k)], h := hasg [(0, .cells (cLed l)), (1, .cells (cLed l))], n := 2 }
def elT2 (l : Led) (k : Nat) : St := { t := asg [(2, .ptr 0 0), (3, .ptr 1 0), (4, aB false), (6, aI k)], h := hasg [(0, .cells (cLed l)), (1, .cells (cLed l))], n := 2 }
def tbJ2_52 := And.intro @ty3 (And.intro @ty22 (And.intro @ty28 (And.intro @ty35 (And.intro @ty36 (And.intro @ty38 (And.intro @ty48 (And.intro @ty55 (And.intro @ty59 (And.intro @ti3.eq_1 (And.intro @ti22.eq_1 (And.intro @ti28.eq_1 (And.intro @ti35.eq_1 (And.intro @ti36.eq_1 (And.intro @ti38.eq_1 (And.intro @ti48.eq_1 (And.intro @ti55.eq_1 @ti59.eq_1))))))))))))))))
def xbJ2_4 := And.intro @aI.eq_1 (And.intro @aB.eq_1 (And.intro @aLed.eq_1 (And.intro @cLed.eq_1 (And.intro @elT1.eq_1 (And.intro @elT2.eq_1 (And.intro @s36.eq_1 (And.intro @s36.eq_2 (And.intro @s26.eq_1 (And.intro @s26.eq_2 (And.intro @c57.eq_1 (And.intro @c57.eq_2 (And.intro @gShs (And.intro @eShs.eq_1 (And.intro @gEnt (And.intro @eEnt.eq_1 (And.intro @mInt (And.intro @mInts (@mSh))))))))))))))))))
theorem eqLed_fn (l : Led) (hl : Fit l) : FnV Try.prog 52 [aLed l, aLed l] (aB true) := by
  have env : Env (fun _ => True) Try.prog tyB (tab [(36, valE true s36), (26, valE true s26), (57, valE true c57)]) := mkEnv ⟨d36, e26, d57, trivial⟩
  refine Fn.of (A := fun _ => True) (n0 := 0) (D := noD) (Fn0 Try.func52 rfl (fun vs w => by kernel_rfl) (by kernel_rfl)) (by simp) (by simp [AV.ids, AV.idsL, aLed, cLed]) (fun i o h => by cases h) (fun _ _ _ _ => trivial) noD_ok ?_
  have zn : ∀ n : Int, decide (n = n) = true := fun n => decide_eq_true rfl
  have zl : ∀ p : List (List Int), decide (p = p) = true := fun n => decide_eq_true rfl
  have zi : ∀ p : List Int, decide (p = p) = true := fun n => decide_eq_true rfl
  have q1 := hl.c
  have q2 := hl.r
  have q3 := hl.e
  have q4 := hl.s
  have q5 := tmax
  have q6 := hl.csl
  have q7 : ∀ p ∈ l.coins, p.length ≤ maxLen := fun p hp => by have := hl.cs p hp; omega
  repeat' (first | refine zq0 ?_ | refine zq1 ?_ | refine zq2 ?_ | refine zq3 ?_ | refine zq4 ?_ | refine zq5 ?_ | refine thenK_n ?_ | refine thenK_x ?_ | refine thenK_r ?_ | refine blockK_n ?_ | refine blockK_r ?_ | refine blockK_hit ?_ | refine blockK_miss (by decide) ?_ | ((first | refine sym_reg env fun Q hQ => ?_ | refine sym_cz fun Q hQ => ?_); simp only [vkt, seval, tbJ2_52, xbJ2_4, zn, zl, zi]; (try simp only [ite_and]); (repeat' (first | with_reducible assumption | refine And.intro ?_ ?_ | intro hp)); all_goals (first | (refine hQ _ ?_; clear hQ Q) | (refine hQ _ (fun h => ?_) (fun h => ?_) <;> clear hQ Q <;> (try simp only [vki, reduceCtorEq] at h)) | omega | assumption | (with_reducible rfl) | (refine drawB_of ?_; kernel_rfl) | skip)))
  all_goals first | (refine sym_loop (fun k : { k : Nat // k ≤ l.rates.length } => elT1 l k.1) (fun k => l.rates.length - k.1) ⟨0, Nat.zero_le _⟩ ?_ fun ⟨k, hk⟩ => ?_)
  · (refine Le.ok some [] ?_; constructor; all_goals (try simp only [vle, vkt, seval, tbJ2_52, xbJ2_4]))
    all_goals first | rfl | (simp; done)
  · by_cases hlt : k < l.rates.length
    · have d1 : decide ((k : Int) < (l.rates.length : Int)) = true := decide_eq_true (by omega)
      have e9 := wrap_succ hlt (show l.rates.length ≤ maxLen by omega)
      have hpl := hl.rs _ (gMem (d := []) hlt)
      have hp2 : (l.rates.getD k []).length ≤ 100000 := by omega
      repeat' (first | refine zq0 ?_ | refine zq1 ?_ | refine zq2 ?_ | refine zq3 ?_ | refine zq4 ?_ | refine zq5 ?_ | refine thenK_n ?_ | refine thenK_x ?_ | refine thenK_r ?_ | refine blockK_n ?_ | refine blockK_r ?_ | refine blockK_hit ?_ | refine blockK_miss (by decide) ?_ | ((first | refine sym_reg env fun Q hQ => ?_ | refine sym_cz fun Q hQ => ?_); simp only [vkt, seval, tbJ2_52, xbJ2_4, d1, e9, zn]; (try simp only [ite_and]); (repeat' (first | with_reducible assumption | refine And.intro ?_ ?_ | intro hp)); all_goals (first | (refine hQ _ ?_; clear hQ Q) | (refine hQ _ (fun h => ?_) (fun h => ?_) <;> clear hQ Q <;> (try simp only [vki, reduceCtorEq] at h)) | omega | assumption | (with_reducible rfl) | (refine drawB_of ?_; kernel_rfl) | skip)))
      refine ⟨⟨k + 1, hlt⟩, by show l.rates.length - (k + 1) < l.rates.length - k; omega, ?_⟩
      (refine Le.ok some [] ?_; constructor; all_goals (try simp only [vle, vkt, seval, tbJ2_52, xbJ2_4]))
      all_goals first | rfl | (simp; done)
    · have d1 : decide ((k : Int) < (l.rates.length : Int)) = false := decide_eq_false (by omega)
      repeat' (first | refine zq0 ?_ | refine zq1 ?_ | refine zq2 ?_ | refine zq3 ?_ | refine zq4 ?_ | refine zq5 ?_ | refine thenK_n ?_ | refine thenK_x ?_ | refine thenK_r ?_ | refine blockK_n ?_ | refine blockK_r ?_ | refine blockK_hit ?_ | refine blockK_miss (by decide) ?_ | ((first | refine sym_reg env fun Q hQ => ?_ | refine sym_cz fun Q hQ => ?_); simp only [vkt, seval, tbJ2_52, xbJ2_4, d1]; (try simp only [ite_and]); (repeat' (first | with_reducible assumption | refine And.intro ?_ ?_ | intro hp)); all_goals (first | (refine hQ _ ?_; clear hQ Q) | (refine hQ _ (fun h => ?_) (fun h => ?_) <;> clear hQ Q <;> (try simp only [vki, reduceCtorEq] at h)) | omega | assumption | (with_reducible rfl) | (refine drawB_of ?_; kernel_rfl) | skip)))
      refine sym_loop (fun k : { k : Nat // k ≤ l.entries.length } => elT2 l k.1) (fun k => l.entries.length - k.1) ⟨0, Nat.zero_le _⟩ ?_ fun ⟨k, hk⟩ => ?_
      · (refine Le.ok some [] ?_; constructor; all_goals (try simp only [vle, vkt, seval, tbJ2_52, xbJ2_4]))
        all_goals first | rfl | (simp; done)
      · by_cases hlt : k < l.entries.length
        · have d2 : decide ((k : Int) < (l.entries.length : Int)) = true := decide_eq_true (by omega)
          have e9 := wrap_succ hlt (show l.entries.length ≤ maxLen by omega)
          repeat' (first | refine zq0 ?_ | refine zq1 ?_ | refine zq2 ?_ | refine zq3 ?_ | refine zq4 ?_ | refine zq5 ?_ | refine thenK_n ?_ | refine thenK_x ?_ | refine thenK_r ?_ | refine blockK_n ?_ | refine blockK_r ?_ | refine blockK_hit ?_ | refine blockK_miss (by decide) ?_ | ((first | refine sym_reg env fun Q hQ => ?_ | refine sym_cz fun Q hQ => ?_); simp only [vkt, seval, tbJ2_52, xbJ2_4, d2, e9, zn]; (try simp only [ite_and]); (repeat' (first | with_reducible assumption | refine And.intro ?_ ?_ | intro hp)); all_goals (first | (refine hQ _ ?_; clear hQ Q) | (refine hQ _ (fun h => ?_) (fun h => ?_) <;> clear hQ Q <;> (try simp only [vki, reduceCtorEq] at h)) | omega | assumption | (with_reducible rfl) | (refine drawB_of ?_; kernel_rfl) | skip)))
          refine ⟨⟨k + 1, hlt⟩, by show l.entries.length - (k + 1) < l.entries.length - k; omega, ?_⟩
          (refine Le.ok some [] ?_; constructor; all_goals (try simp only [vle, vkt, seval, tbJ2_52, xbJ2_4]))
          all_goals first | rfl | (simp; done)
        · have d2 : decide ((k : Int) < (l.entries.length : Int)) = false := decide_eq_false (by omega)
          repeat' (first | refine zq0 ?_ | refine zq1 ?_ | refine zq2 ?_ | refine zq3 ?_ | refine zq4 ?_ | refine zq5 ?_ | refine thenK_n ?_ | refine thenK_x ?_ | refine thenK_r ?_ | refine blockK_n ?_ | refine blockK_r ?_ | refine blockK_hit ?_ | refine blockK_miss (by decide) ?_ | ((first | refine sym_reg env fun Q hQ => ?_ | refine sym_cz fun Q hQ => ?_); simp only [vkt, seval, tbJ2_52, xbJ2_4, d2]; (try simp only [ite_and]); (repeat' (first | with_reducible assumption | refine And.intro ?_ ?_ | intro hp)); all_goals (first | (refine hQ _ ?_; clear hQ Q) | (refine hQ _ (fun h => ?_) (fun h => ?_) <;> clear hQ Q <;> (try simp only [vki, reduceCtorEq] at h)) | omega | assumption | (with_reducible rfl) | (refine drawB_of ?_; kernel_rfl) | skip)))
          (simp only [vrt, Try.results52, vkt, seval, tbJ2_52, xbJ2_4]; refine Fin.val rfl ?_; (try simp only [AV.le, AV.leL]))
          all_goals first | rfl | (simp; done)
def c52 : List AV → Prop × AV
  | [.agg [.sl cs, .sl rs, .sl ss, .sl es], y] => (y = .agg [.sl cs, .sl rs, .sl ss, .sl es] ∧ isL cs rs ss es ∧ Fit (ldOf cs rs ss es), aB true)
  | _ => (False, .junk)
theorem d52 {A : Frm → Prop} : EntryOK A Try.prog 52 (valE true c52) := valE_ok fun vs hv h => by
  clear hv
  unfold c52 at h ⊢
  split at h
  · refine ⟨by simp [AV.plain, aB], fun _ => by simp [AV.flat, aB], ?_⟩
    rw [h.1, ← aLed_of h.2.1]; exact eqLed_fn _ h.2.2
  · exact h.elim
end Go.Sym.B
namespace Go.Sym.B
open Go Go.Sym Go.Proofs Go.Sym.C
def eLed (l : Led) : List DV := [.sl (l.coins.map eInts), .sl (l.rates.map eShs), .sl (l.start.map eInt), .sl (l.entries.map eEnt)]
theorem gLed {l : List Led} {n : Nat} (h : n < l.length) (z : List DV) : (l.map eLed).getD n z = eLed (l.getD n default) := by simp [List.getD_eq_getElem?_getD, h]
theorem add_fit {l : Led} (h : LgOk l) (x : Ent) : Fit (addE1 l x) := by
  have hf := h.fit
  refine ⟨hf.c, hf.cs, hf.r, hf.rs, hf.s, ?_⟩
  show (l.entries ++ [x]).length ≤ 20
  have := h.e
  rw [List.length_append]
  simp; omega
theorem aWorth_form (l : Led) (d c n : Int) : ∃ s e, aWorth l d c n = .tup [.agg [.v (.int .i64 (Sh.num s)), .v (.int .i64 (Sh.den s))], .v (.int .i64 e)] := by
  unfold aWorth aSh; split
  · exact ⟨⟨0, 0⟩, _, rfl⟩
  · exact ⟨_, _, rfl⟩
theorem aSwap_form (l : Led) (d a b n : Int) : ∃ m s e, aSwap l d a b n = .tup [.v (.int .i64 m), .agg [.v (.int .i64 (Sh.num s)), .v (.int .i64 (Sh.den s))], .v (.int .i64 e)] := by
  unfold aSwap aSh; split
  · exact ⟨0, ⟨0, 0⟩, _, rfl⟩
  · exact ⟨_, _, _, rfl⟩
def woT (Ls : List Led) (ds fs ts ns : List Int) (k : Nat) : St := { t := asg [(14, aB false), (17, .row 0), (18, .row 1), (19, .row 2), (20, .row 3), (21, .row 4), (22, aI k)], h := hasg [(0, .row 38 4 (Ls.map eLed)), (1, .row 3 1 (ds.map eInt)), (2, .row 3 1 (fs.map eInt)), (3, .row 3 1 (ts.map eInt)), (4, .row 3 1 (ns.map eInt))], n := 5 }
def tbJ5_8 := And.intro @ty3 (And.intro @ty22 (And.intro @ty28 (And.intro @ty30 (And.intro @ty35 (And.intro @ty38 (And.intro @ty48 (And.intro @ty55 (And.intro @ty59 (And.intro @ty70 (And.intro @ti3.eq_1 (And.intro @ti22.eq_1 (And.intro @ti28.eq_1 (And.intro @ti30.eq_1 (And.intro @ti35.eq_1 (And.intro @ti38.eq_1 (And.intro @ti48.eq_1 (And.intro @ti55.eq_1 (And.intro @ti59.eq_1 @ti70.eq_1))))))))))))))))))
def xbJ5_1 := And.intro @aI.eq_1 (And.intro @aB.eq_1 (And.intro @aLed.eq_1 (And.intro @cLed.eq_1 (And.intro @aEnt.eq_1 (And.intro @woT.eq_1 (And.intro @bgH.eq_1 (And.intro @aInts.eq_1 (And.intro @mInt (And.intro @eInt.eq_1 (And.intro @c19.eq_1 (And.intro @c19.eq_2 (And.intro @p20.eq_1 (And.intro @p20.eq_2 (And.intro @p22.eq_1 (And.intro @p22.eq_2 (And.intro @p27.eq_1 (And.intro @p27.eq_2 (And.intro @c44.eq_1 (And.intro @c44.eq_2 (And.intro @c45.eq_1 (And.intro @c45.eq_2 (And.intro @c43.eq_1 (And.intro @c43.eq_2 (And.intro @cWorth.eq_1 (And.intro @cWorth.eq_2 (And.intro @c48.eq_1 (And.intro @c48.eq_2 (And.intro @c50.eq_1 (And.intro @c50.eq_2 (And.intro @c52.eq_1 (And.intro @c52.eq_2 (And.intro @isL_e (And.intro @ldOf_e (And.intro @aSh.eq_1 (@eLed.eq_1)))))))))))))))))))))))))))))))))))
set_option maxRecDepth 100000 in
set_option maxHeartbeats 8000000 in
theorem worths_fn (l : Led) (x : Ent) (d f t n : Int) (ns : List Int) (h2 : ns.length ≤ maxLen) : FnV Try.prog 8 [aLed l, aEnt x, aI d, aI f, aI t, aI n, aInts ns] (aB true) := by
  have env : Env (fun _ => True) Try.prog tyB (tab [(19, valE true c19), (20, fnE p20), (22, fnE p22), (27, fnE p27), (43, valE false c43), (44, valE true c44), (45, valE false c45), (46, valE true cWorth), (47, valE true cWorth), (48, valE true c48), (49, valE true c48), (50, valE true c50), (51, valE true c50), (52, valE true c52)]) := mkEnv ⟨d19, e20, e22, e27, d43, d44, d45, d46, d47, d48, d49, d50, d51, d52, trivial⟩
  refine Fn.of (A := fun _ => True) (n0 := 0) (D := noD) (Fn0 Try.func8 rfl (fun vs w => by kernel_rfl) (by kernel_rfl)) (by simp) (by simp [AV.ids, AV.idsL, aInts, aI, aLed, cLed, aEnt]) (fun i o h => by cases h) (fun _ _ _ _ => trivial) noD_ok ?_
  cases hlg : largeB l
  · have hfl := fit_of hlg
    have z1 : (1 : Int) ≤ 4 ∧ (4 : Int) ≤ 4 := by decide
    have z2 : (0 : Int) ≤ 6 ∧ (6 : Int) ≤ 6 := by decide
    have hok := lg_ok (x := nbS ns) (w := 3) z1 z1 z2
    obtain ⟨M, hM⟩ : ∃ L, lgL (nbS ns) 4 4 6 3 = L := ⟨_, rfl⟩
    obtain ⟨y, hy⟩ : ∃ y, lgS (nbS ns) 4 4 6 3 = y := ⟨_, rfl⟩
    rw [hM] at hok
    have hfM := hok.fit
    have hfW := add_fit hok x
    have hc := hok.c
    have hr := hok.r.len
    have wR : IntKind.wrap .i64 ((M.rates.length : Int) - 1) = (M.rates.length : Int) - 1 := wrap64 (by omega) (by omega)
    have wC : IntKind.wrap .i64 ((M.coins.length : Int) - 1) = (M.coins.length : Int) - 1 := wrap64 (by omega) (by omega)
    have cR : (M.rates.length : Int) - 1 < 9223372036854775807 := by omega
    have cC : (M.coins.length : Int) - 1 < 9223372036854775807 := by omega
    obtain ⟨D, hD⟩ : ∃ D, upV y ((M.rates.length : Int) - 1) = D := ⟨_, rfl⟩
    obtain ⟨y1, hy1⟩ : ∃ z, upS y ((M.rates.length : Int) - 1) = z := ⟨_, rfl⟩
    obtain ⟨F, hF⟩ : ∃ D, upV y1 ((M.coins.length : Int) - 1) = D := ⟨_, rfl⟩
    obtain ⟨y2, hy2⟩ : ∃ z, upS y1 ((M.coins.length : Int) - 1) = z := ⟨_, rfl⟩
    obtain ⟨T, hT⟩ : ∃ D, upV y2 ((M.coins.length : Int) - 1) = D := ⟨_, rfl⟩
    obtain ⟨y3, hy3⟩ : ∃ z, upS y2 ((M.coins.length : Int) - 1) = z := ⟨_, rfl⟩
    obtain ⟨A, hA⟩ : ∃ D, upV y3 99 = D := ⟨_, rfl⟩
    obtain ⟨y4, hy4⟩ : ∃ z, upS y3 99 = z := ⟨_, rfl⟩
    obtain ⟨W, hW⟩ : ∃ W, addE1 M x = W := ⟨_, rfl⟩
    have hW' : addE1 M ⟨x.day, x.kind, x.coin, x.to, x.amount, x.got⟩ = W := hW
    rw [hW] at hfW
    repeat' (first | refine zq0 ?_ | refine zq1 ?_ | refine zq2 ?_ | refine zq3 ?_ | refine zq4 ?_ | refine zq5 ?_ | refine thenK_n ?_ | refine thenK_x ?_ | refine thenK_r ?_ | refine blockK_n ?_ | refine blockK_r ?_ | refine blockK_hit ?_ | refine blockK_miss (by decide) ?_ | ((first | refine sym_reg env fun Q hQ => ?_ | refine sym_cz fun Q hQ => ?_); simp only [vkt, Nat.reduceEqDiff, Nat.reduceAdd, Nat.reduceMul, Nat.reduceSub, Nat.reduceLeDiff, reduceCtorEq, ↓reduceIte, ↓reduceDIte, Int.reduceToNat, Int.reduceLE, Int.reduceLT, Int.reduceEq, Int.reduceNeg, tbJ5_8, xbJ5_1, hlg, hM, hy, wR, wC, hD, hy1, hF, hy2, hT, hy3, hA, hy4, hW']; (try simp only [ite_and]); (repeat' (first | with_reducible assumption | refine And.intro ?_ ?_)); all_goals (first | (refine hQ _ ?_; clear hQ Q) | (refine hQ _ (fun h => ?_) (fun h => ?_) <;> clear hQ Q <;> (try simp only [vki, reduceCtorEq] at h)) | omega | (with_reducible assumption) | (with_reducible rfl) | (refine drawB_of ?_; kernel_rfl) | skip)))
    obtain ⟨Ls, hLs⟩ : ∃ Ls, [l, M, W, M] = Ls := ⟨_, rfl⟩
    obtain ⟨ds, hds⟩ : ∃ Ls, [d, D, 0, d] = Ls := ⟨_, rfl⟩
    obtain ⟨fs, hfs⟩ : ∃ Ls, [f, F, 0, f] = Ls := ⟨_, rfl⟩
    obtain ⟨ts, hts⟩ : ∃ Ls, [t, T, 0, t] = Ls := ⟨_, rfl⟩
    obtain ⟨az', has⟩ : ∃ Ls, [n, A, n, n] = Ls := ⟨_, rfl⟩
    have hLf : ∀ m ∈ Ls, Fit m := fun m hm => by
      rw [← hLs] at hm
      simp only [List.mem_cons, List.not_mem_nil, or_false] at hm
      rcases hm with rfl | rfl | rfl | rfl <;> assumption
    have l1 : Ls.length = 4 := by rw [← hLs]; rfl
    have l2 : ds.length = 4 := by rw [← hds]; rfl
    have l3 : fs.length = 4 := by rw [← hfs]; rfl
    have l4 : ts.length = 4 := by rw [← hts]; rfl
    have l5 : az'.length = 4 := by rw [← has]; rfl
    refine sym_loop (fun k : { k : Nat // k ≤ 4 } => woT Ls ds fs ts az' k.1) (fun k => 4 - k.1) ⟨0, Nat.zero_le _⟩ ?_ fun ⟨k, hk⟩ => ?_
    · (refine Le.ok (fun j => some (j + 4)) [] ?_; constructor; all_goals (try simp only [vle, vkt, Nat.reduceEqDiff, Nat.reduceAdd, Nat.reduceMul, Nat.reduceSub, Nat.reduceLeDiff, reduceCtorEq, ↓reduceIte, ↓reduceDIte, Int.reduceToNat, Int.reduceLE, Int.reduceLT, Int.reduceEq, Int.reduceNeg, tbJ5_8, xbJ5_1]))
      all_goals first | rfl | (simp [← hLs, ← hds, ← hfs, ← hts, ← has, eLed, eInt]; done) | (intro i hi; omega)
    clear hLs hds hfs hts has hM hy hW hW'
    by_cases hlt : k < 4
    · have d1 : decide ((k : Int) < ((4 : Nat) : Int)) = true := decide_eq_true (by omega)
      have e9 := wrap64 (n := (k : Int) + 1) (by omega) (by omega)
      have hm := hLf _ (gMem (l := Ls) (k := k) (d := default) (by omega))
      have g1 := gLed (l := Ls) (n := k) (by omega) []
      obtain ⟨m, hm1⟩ : ∃ m, Ls.getD k default = m := ⟨_, rfl⟩
      have g2 := gI0 (l := ds) (n := k) (by omega)
      have g3 := gI0 (l := fs) (n := k) (by omega)
      have g4 := gI0 (l := ts) (n := k) (by omega)
      have g5 := gI0 (l := az') (n := k) (by omega)
      obtain ⟨d', hd1⟩ : ∃ m, ds.getD k 0 = m := ⟨_, rfl⟩
      obtain ⟨f', hf1⟩ : ∃ m, fs.getD k 0 = m := ⟨_, rfl⟩
      obtain ⟨t', ht1⟩ : ∃ m, ts.getD k 0 = m := ⟨_, rfl⟩
      obtain ⟨a', ha1⟩ : ∃ m, az'.getD k 0 = m := ⟨_, rfl⟩
      rw [hm1] at hm g1
      rw [hd1] at g2
      rw [hf1] at g3
      rw [ht1] at g4
      rw [ha1] at g5
      have zn : ∀ n : Int, decide (n = n) = true := fun n => decide_eq_true rfl
      obtain ⟨s1, e1, hw1⟩ := aWorth_form m d' f' a'
      obtain ⟨n2, s2, e2, hw2⟩ := aSwap_form m d' f' t' a'
      repeat' (first | refine zq0 ?_ | refine zq1 ?_ | refine zq2 ?_ | refine zq3 ?_ | refine zq4 ?_ | refine zq5 ?_ | refine thenK_n ?_ | refine thenK_x ?_ | refine thenK_r ?_ | refine blockK_n ?_ | refine blockK_r ?_ | refine blockK_hit ?_ | refine blockK_miss (by decide) ?_ | ((first | refine sym_reg env fun Q hQ => ?_ | refine sym_cz fun Q hQ => ?_); simp only [vkt, Nat.reduceEqDiff, Nat.reduceAdd, Nat.reduceMul, Nat.reduceSub, Nat.reduceLeDiff, reduceCtorEq, ↓reduceIte, ↓reduceDIte, Int.reduceToNat, Int.reduceLE, Int.reduceLT, Int.reduceEq, Int.reduceNeg, tbJ5_8, xbJ5_1, d1, l1, l2, l3, l4, l5, g1, g2, g3, g4, g5, hw1, hw2, zn, e9]; (try simp only [ite_and]); (repeat' (first | with_reducible assumption | refine And.intro ?_ ?_)); all_goals (first | (refine hQ _ ?_; clear hQ Q) | (refine hQ _ (fun h => ?_) (fun h => ?_) <;> clear hQ Q <;> (try simp only [vki, reduceCtorEq] at h)) | omega | (with_reducible assumption) | (with_reducible rfl) | (refine drawB_of ?_; kernel_rfl) | skip)))
      refine ⟨⟨k + 1, hlt⟩, by show 4 - (k + 1) < 4 - k; omega, ?_⟩
      (refine Le.ok some [] ?_; constructor; all_goals (try simp only [vle, vkt, Nat.reduceEqDiff, Nat.reduceAdd, Nat.reduceMul, Nat.reduceSub, Nat.reduceLeDiff, reduceCtorEq, ↓reduceIte, ↓reduceDIte, Int.reduceToNat, Int.reduceLE, Int.reduceLT, Int.reduceEq, Int.reduceNeg, tbJ5_8, xbJ5_1]))
      all_goals first | rfl | (simp; done)
    · have d1 : decide ((k : Int) < ((4 : Nat) : Int)) = false := decide_eq_false (by omega)
      repeat' (first | refine zq0 ?_ | refine zq1 ?_ | refine zq2 ?_ | refine zq3 ?_ | refine zq4 ?_ | refine zq5 ?_ | refine thenK_n ?_ | refine thenK_x ?_ | refine thenK_r ?_ | refine blockK_n ?_ | refine blockK_r ?_ | refine blockK_hit ?_ | refine blockK_miss (by decide) ?_ | ((first | refine sym_reg env fun Q hQ => ?_ | refine sym_cz fun Q hQ => ?_); simp only [vkt, Nat.reduceEqDiff, Nat.reduceAdd, Nat.reduceMul, Nat.reduceSub, Nat.reduceLeDiff, reduceCtorEq, ↓reduceIte, ↓reduceDIte, Int.reduceToNat, Int.reduceLE, Int.reduceLT, Int.reduceEq, Int.reduceNeg, tbJ5_8, xbJ5_1, d1, l1]; (try simp only [ite_and]); (repeat' (first | with_reducible assumption | refine And.intro ?_ ?_)); all_goals (first | (refine hQ _ ?_; clear hQ Q) | (refine hQ _ (fun h => ?_) (fun h => ?_) <;> clear hQ Q <;> (try simp only [vki, reduceCtorEq] at h)) | omega | (with_reducible assumption) | (with_reducible rfl) | (refine drawB_of ?_; kernel_rfl) | skip)))
      (simp only [vrt, Try.results8, vkt, Nat.reduceEqDiff, Nat.reduceAdd, Nat.reduceMul, Nat.reduceSub, Nat.reduceLeDiff, reduceCtorEq, ↓reduceIte, ↓reduceDIte, Int.reduceToNat, Int.reduceLE, Int.reduceLT, Int.reduceEq, Int.reduceNeg, tbJ5_8, xbJ5_1]; refine Fin.val rfl ?_; (try simp only [AV.le, AV.leL]))
      all_goals first | rfl | (simp; done)
  · repeat' (first | refine zq0 ?_ | refine zq1 ?_ | refine zq2 ?_ | refine zq3 ?_ | refine zq4 ?_ | refine zq5 ?_ | refine thenK_n ?_ | refine thenK_x ?_ | refine thenK_r ?_ | refine blockK_n ?_ | refine blockK_r ?_ | refine blockK_hit ?_ | refine blockK_miss (by decide) ?_ | ((first | refine sym_reg env fun Q hQ => ?_ | refine sym_cz fun Q hQ => ?_); simp only [vkt, Nat.reduceEqDiff, Nat.reduceAdd, Nat.reduceMul, Nat.reduceSub, Nat.reduceLeDiff, reduceCtorEq, ↓reduceIte, ↓reduceDIte, Int.reduceToNat, Int.reduceLE, Int.reduceLT, Int.reduceEq, Int.reduceNeg, tbJ5_8, xbJ5_1, hlg]; (try simp only [ite_and]); (repeat' (first | with_reducible assumption | refine And.intro ?_ ?_)); all_goals (first | (refine hQ _ ?_; clear hQ Q) | (refine hQ _ (fun h => ?_) (fun h => ?_) <;> clear hQ Q <;> (try simp only [vki, reduceCtorEq] at h)) | omega | (with_reducible assumption) | (with_reducible rfl) | (refine drawB_of ?_; kernel_rfl) | skip)))
    (simp only [vrt, Try.results8, vkt, Nat.reduceEqDiff, Nat.reduceAdd, Nat.reduceMul, Nat.reduceSub, Nat.reduceLeDiff, reduceCtorEq, ↓reduceIte, ↓reduceDIte, Int.reduceToNat, Int.reduceLE, Int.reduceLT, Int.reduceEq, Int.reduceNeg, tbJ5_8, xbJ5_1]; refine Fin.val rfl ?_; (try simp only [AV.le, AV.leL]))
    all_goals first | rfl | (simp; done)
end Go.Sym.B
namespace Go.Sym.B
open Go Go.Sym Go.Proofs Go.RowKit
def spI : Sp := .int .i64
theorem eI_of (r : List DV) (h : r.length = 1) (hs : ∀ (j : Nat) (s : Sp) (d : DV), [spI][j]? = some s → r[j]? = some d → D1 s d) : ∃ a, r = eInt a := by
  obtain ⟨d, rfl⟩ := List.length_eq_one_iff.1 h
  obtain ⟨n, rfl, _⟩ := (hs 0 spI d rfl rfl).int_inv
  exact ⟨n, rfl⟩
theorem eIs_of (r : List DV) (h : r.length = 1) (hs : ∀ (j : Nat) (s : Sp) (d : DV), [Sp.sl [spI]][j]? = some s → r[j]? = some d → D1 s d) : ∃ a, r = eInts a := by
  obtain ⟨d, rfl⟩ := List.length_eq_one_iff.1 h
  obtain ⟨l, rfl, _⟩ := (hs 0 _ d rfl rfl).sl_inv eInt eI_of
  exact ⟨l, rfl⟩
theorem eS_of (r : List DV) (h : r.length = 2) (hs : ∀ (j : Nat) (s : Sp) (d : DV), [spI, spI][j]? = some s → r[j]? = some d → D1 s d) : ∃ a, r = eSh a := by
  match r, h with
  | [a, b], _ =>
    obtain ⟨n, rfl, _⟩ := (hs 0 spI a rfl rfl).int_inv
    obtain ⟨m, rfl, _⟩ := (hs 1 spI b rfl rfl).int_inv
    exact ⟨⟨n, m⟩, rfl⟩
theorem eSs_of (r : List DV) (h : r.length = 1) (hs : ∀ (j : Nat) (s : Sp) (d : DV), [Sp.sl [spI, spI]][j]? = some s → r[j]? = some d → D1 s d) : ∃ a, r = eShs a := by
  obtain ⟨d, rfl⟩ := List.length_eq_one_iff.1 h
  obtain ⟨l, rfl, _⟩ := (hs 0 _ d rfl rfl).sl_inv eSh eS_of
  exact ⟨l, rfl⟩
theorem eE_of (r : List DV) (h : r.length = 6) (hs : ∀ (j : Nat) (s : Sp) (d : DV), [spI, spI, spI, spI, spI, spI][j]? = some s → r[j]? = some d → D1 s d) : ∃ a, r = eEnt a := by
  match r, h with
  | [a, b, c, d, e, f], _ =>
    obtain ⟨n1, rfl, _⟩ := (hs 0 spI a rfl rfl).int_inv
    obtain ⟨n2, rfl, _⟩ := (hs 1 spI b rfl rfl).int_inv
    obtain ⟨n3, rfl, _⟩ := (hs 2 spI c rfl rfl).int_inv
    obtain ⟨n4, rfl, _⟩ := (hs 3 spI d rfl rfl).int_inv
    obtain ⟨n5, rfl, _⟩ := (hs 4 spI e rfl rfl).int_inv
    obtain ⟨n6, rfl, _⟩ := (hs 5 spI f rfl rfl).int_inv
    exact ⟨⟨n1, n2, n3, n4, n5, n6⟩, rfl⟩
def spL : List Sp := [.sl [.sl [spI]], .sl [.sl [spI, spI]], .sl [spI], .sl [spI, spI, spI, spI, spI, spI]]
def spE : List Sp := [spI, spI, spI, spI, spI, spI]
theorem fl3 : Fl Try.prog 3 [spI] := flB_sound (n := 6) (by kernel_rfl)
theorem fl22 : Fl Try.prog 22 [.sl [spI]] := flB_sound (n := 6) (by kernel_rfl)
theorem fl38 : Fl Try.prog 38 spL := flB_sound (n := 6) (by kernel_rfl)
theorem fl48 : Fl Try.prog 48 spE := flB_sound (n := 6) (by kernel_rfl)
variable {H : Type} {enc : TypeId × Value → H} {W : World} {base : Nat} {spare : Nat → Bool} {held : Bool}
theorem arg_int {fuel : Nat} {v : Value} {x : DataW H × List MemPlace} (h : DataW.trod enc Try.prog W base spare held fuel 3 [v] = some x) : ∃ n, ARel W (okW W) rho0 undef (aI n) v := by
  obtain ⟨ds, hd⟩ := open_fl fl3 h
  obtain ⟨d, rfl, h1, h2⟩ := hd.one_inv
  obtain ⟨n, rfl, _⟩ := h1.int_inv
  exact ⟨n, toAV_rel h2⟩
theorem arg_ints {fuel : Nat} {v : Value} {x : DataW H × List MemPlace} (h : DataW.trod enc Try.prog W base spare held fuel 22 [v] = some x) : ∃ l : List Int, ARel W (okW W) rho0 undef (aInts l) v ∧ l.length ≤ maxLen := by
  obtain ⟨ds, hd⟩ := open_fl fl22 h
  obtain ⟨d, rfl, h1, h2⟩ := hd.one_inv
  obtain ⟨l, rfl, hl⟩ := h1.sl_inv eInt eI_of
  exact ⟨l, toAV_rel h2, hl⟩
theorem arg_ent {fuel : Nat} {cs : Array Value} {x : DataW H × List MemPlace} (h : DataW.trod enc Try.prog W base spare held fuel 48 cs.toList = some x) : ∃ e : Ent, ARel W (okW W) rho0 undef (aEnt e) (.agg cs) := by
  obtain ⟨ds, hd⟩ := open_fl fl48 h
  obtain ⟨e, rfl⟩ := eE_of ds hd.len hd.shape
  exact ⟨e, hd.agg⟩
theorem arg_led {fuel : Nat} {cs : Array Value} {x : DataW H × List MemPlace} (h : DataW.trod enc Try.prog W base spare held fuel 38 cs.toList = some x) : ∃ l : Led, ARel W (okW W) rho0 undef (aLed l) (.agg cs) := by
  obtain ⟨ds, hd⟩ := open_fl fl38 h
  match ds, hd with
  | [a, b, c, d], hd =>
    obtain ⟨l1, rfl, _⟩ := (hd.shape 0 _ a rfl rfl).sl_inv eInts eIs_of
    obtain ⟨l2, rfl, _⟩ := (hd.shape 1 _ b rfl rfl).sl_inv eShs eSs_of
    obtain ⟨l3, rfl, _⟩ := (hd.shape 2 _ c rfl rfl).sl_inv eInt eI_of
    obtain ⟨l4, rfl, _⟩ := (hd.shape 3 _ d rfl rfl).sl_inv eEnt eE_of
    exact ⟨⟨l1, l2, l3, l4⟩, hd.agg⟩
  | [], hd => exact absurd hd.len (by simp [spL])
  | [_], hd => exact absurd hd.len (by simp [spL])
  | [_, _], hd => exact absurd hd.len (by simp [spL])
  | [_, _, _], hd => exact absurd hd.len (by simp [spL])
  | _ :: _ :: _ :: _ :: _ :: _, hd => exact absurd hd.len (by simp [spL])
theorem cells_agg {v : Value} (h : v.cells.toList.length ≠ 1) : ∃ cs, v = .agg cs := by
  cases v <;> first | exact ⟨_, rfl⟩ | (simp [Value.cells] at h)
theorem led_of {v : Value} {d : DataW H} {p : List MemPlace} (h : DataW.Trod enc Try.prog W base spare held 38 v d p) : ∃ l : Led, ARel W (okW W) rho0 undef (aLed l) v := by
  obtain ⟨fuel, hf⟩ := h
  obtain ⟨ds, hd⟩ := open_fl fl38 hf
  obtain ⟨cs, rfl⟩ := cells_agg (v := v) (by rw [hd.clen]; simp [spL])
  exact arg_led hf
theorem ent_of {v : Value} {d : DataW H} {p : List MemPlace} (h : DataW.Trod enc Try.prog W base spare held 48 v d p) : ∃ l : Ent, ARel W (okW W) rho0 undef (aEnt l) v := by
  obtain ⟨fuel, hf⟩ := h
  obtain ⟨ds, hd⟩ := open_fl fl48 hf
  obtain ⟨cs, rfl⟩ := cells_agg (v := v) (by rw [hd.clen]; simp [spE])
  exact arg_ent hf
set_option maxRecDepth 100000 in
theorem int_of {v : Value} {d : DataW H} {p : List MemPlace} {r : Reach} {b0 : Nat} (h : DataW.Trod enc Try.prog W base spare held 3 v d p) (hu : Try.prog.underlying 3 = some (.int .i64)) (hv : Value.okWide Try.prog W r b0 3 v) : ∃ n : Int, ARel W (okW W) rho0 undef (aI n) v := by
  obtain ⟨fuel, hf⟩ := h
  obtain ⟨n, rfl⟩ := WideShapes.okWide_int hu hv
  exact arg_int hf
set_option maxRecDepth 100000 in
theorem ints_of {v : Value} {d : DataW H} {p : List MemPlace} {r : Reach} {b0 : Nat} (h : DataW.Trod enc Try.prog W base spare held 22 v d p) (hu : Try.prog.underlying 22 = some (.slice 3)) (hv : Value.okWide Try.prog W r b0 22 v) : ∃ l : List Int, ARel W (okW W) rho0 undef (aInts l) v ∧ l.length ≤ maxLen := by
  obtain ⟨fuel, hf⟩ := h
  obtain ⟨a, n, c, rfl⟩ := WideShapes.okWide_slice hu hv
  exact arg_ints hf
end Go.Sym.B
