/- Walks and what they compute, joined: part 2. -/
import Derived.Test.YtoapndlmbpphfaaB2
import Derived.Test.YtoapndlmbpphfaaR1
set_option linter.all false
namespace Go.Sym.B
open Go Go.Sym Go.Proofs Go.Sym.C
set_option maxHeartbeats 4000000 in
theorem large_fn (l : Led) : FnV Try.prog 44 [aLed l] (aB (largeB l)) := by
  have env : Env (fun _ => True) Try.prog tyB (tab []) := mkEnv trivial
  refine Fn.of (A := fun _ => True) (n0 := 0) (D := noD) (Fn0 Try.func44 rfl (fun vs w => by kernel_rfl) (by kernel_rfl)) (by simp) (by simp [AV.ids, AV.idsL, aLed, cLed]) (fun i o h => by cases h) (fun _ _ _ _ => trivial) noD_ok ?_
  repeat' (first | refine zq0 ?_ | refine zq1 ?_ | refine zq2 ?_ | refine zq3 ?_ | refine zq4 ?_ | refine zq5 ?_ | refine uv ?_ | refine uk ?_ | refine uw ?_ | refine uz ?_ | refine uj ?_ | refine ux ?_ | refine uq (by decide) ?_ | ((first | refine vx env fun Q hQ => ?_ | refine vz fun Q hQ => ?_); simp only [vkt, seval, tbJ1_44, xbJ1_1]; (try simp only [ite_and]); (repeat' (first | with_reducible assumption | refine And.intro ?_ ?_ | intro hp)); all_goals (first | (refine hQ _ ?_; clear hQ Q) | (refine hQ _ (fun h => ?_) (fun h => ?_) <;> clear hQ Q <;> (try simp only [vki, reduceCtorEq] at h)) | omega | assumption | with_reducible rfl | (refine vq ?_; kernel_rfl) | skip)))
  refine sym_loop (fun k : { k : Nat // k ≤ l.coins.length ∧ k ≤ 20 ∧ ∀ j, j < k → (l.coins.getD j []).length ≤ 20 } => laT1 l k.1) (fun k => 20 - k.1) ⟨0, Nat.zero_le _, Nat.zero_le _, fun j h => by omega⟩ ?_ fun ⟨k, hk, hk2, hall⟩ => ?_
  · (refine Le.ok some [] ?_; constructor; all_goals (try simp only [vle, vkt, seval, tbJ1_44, xbJ1_1]))
    all_goals first | rfl | (simp; done)
  by_cases c1 : k < l.coins.length ∧ k < 20
  · have k1 : decide ((k : Int) < (l.coins.length : Int)) = true := decide_eq_true (by omega)
    have k2 : decide ((k : Int) < 20) = true := decide_eq_true (by omega)
    have e9 := wrap64 (n := (k : Int) + 1) (by omega) (by omega)
    by_cases c2 : 20 < (l.coins.getD k []).length
    · have k3 : decide ((20 : Int) < ((l.coins.getD k []).length : Int)) = true := decide_eq_true (by omega)
      repeat' (first | refine zq0 ?_ | refine zq1 ?_ | refine zq2 ?_ | refine zq3 ?_ | refine zq4 ?_ | refine zq5 ?_ | refine uv ?_ | refine uk ?_ | refine uw ?_ | refine uz ?_ | refine uj ?_ | refine ux ?_ | refine uq (by decide) ?_ | ((first | refine vx env fun Q hQ => ?_ | refine vz fun Q hQ => ?_); simp only [vkt, seval, tbJ1_44, xbJ1_1, k1, k2, k3]; (try simp only [ite_and]); (repeat' (first | with_reducible assumption | refine And.intro ?_ ?_ | intro hp)); all_goals (first | (refine hQ _ ?_; clear hQ Q) | (refine hQ _ (fun h => ?_) (fun h => ?_) <;> clear hQ Q <;> (try simp only [vki, reduceCtorEq] at h)) | omega | assumption | with_reducible rfl | (refine vq ?_; kernel_rfl) | skip)))
      (simp only [vrt, Try.results44, vkt, seval, tbJ1_44, xbJ1_1]; refine Fin.val rfl ?_; (try simp only [AV.le, AV.leL]))
      all_goals first | (rw [largeB, anyR (f := fun j => (l.coins.getD j []).length) c1.1 c1.2 c2]; rfl)
    · have k3 : decide ((20 : Int) < ((l.coins.getD k []).length : Int)) = false := decide_eq_false (by omega)
      repeat' (first | refine zq0 ?_ | refine zq1 ?_ | refine zq2 ?_ | refine zq3 ?_ | refine zq4 ?_ | refine zq5 ?_ | refine uv ?_ | refine uk ?_ | refine uw ?_ | refine uz ?_ | refine uj ?_ | refine ux ?_ | refine uq (by decide) ?_ | ((first | refine vx env fun Q hQ => ?_ | refine vz fun Q hQ => ?_); simp only [vkt, seval, tbJ1_44, xbJ1_1, k1, k2, k3, e9]; (try simp only [ite_and]); (repeat' (first | with_reducible assumption | refine And.intro ?_ ?_ | intro hp)); all_goals (first | (refine hQ _ ?_; clear hQ Q) | (refine hQ _ (fun h => ?_) (fun h => ?_) <;> clear hQ Q <;> (try simp only [vki, reduceCtorEq] at h)) | omega | assumption | with_reducible rfl | (refine vq ?_; kernel_rfl) | skip)))
      refine ⟨⟨k + 1, by omega, by omega, fun j hj => ?_⟩, by show 20 - (k + 1) < 20 - k; omega, ?_⟩
      · rcases Nat.lt_or_eq_of_le (Nat.le_of_lt_succ hj) with h | h
        · exact hall j h
        · rw [h]; omega
      · (refine Le.ok some [] ?_; constructor; all_goals (try simp only [vle, vkt, seval, tbJ1_44, xbJ1_1]))
        all_goals first | rfl | (simp; done)
  have a1 : (List.range (min l.coins.length 20)).any (fun j => decide (20 < (l.coins.getD j []).length)) = false := anyN (f := fun j => (l.coins.getD j []).length) fun j h1 h2 => hall j (by omega)
  have hd : (decide ((k : Int) < (l.coins.length : Int)) = true ∧ decide ((k : Int) < 20) = false) ∨ decide ((k : Int) < (l.coins.length : Int)) = false := by
    by_cases h : k < l.coins.length
    · exact .inl ⟨decide_eq_true (by omega), decide_eq_false (by omega)⟩
    · exact .inr (decide_eq_false (by omega))
  rcases hd with ⟨d1, d2⟩ | d1
  rotate_left
  have d2 := d1
  all_goals
    repeat' (first | refine zq0 ?_ | refine zq1 ?_ | refine zq2 ?_ | refine zq3 ?_ | refine zq4 ?_ | refine zq5 ?_ | refine uv ?_ | refine uk ?_ | refine uw ?_ | refine uz ?_ | refine uj ?_ | refine ux ?_ | refine uq (by decide) ?_ | ((first | refine vx env fun Q hQ => ?_ | refine vz fun Q hQ => ?_); simp only [vkt, seval, tbJ1_44, xbJ1_1, d1, d2]; (try simp only [ite_and]); (repeat' (first | with_reducible assumption | refine And.intro ?_ ?_ | intro hp)); all_goals (first | (refine hQ _ ?_; clear hQ Q) | (refine hQ _ (fun h => ?_) (fun h => ?_) <;> clear hQ Q <;> (try simp only [vki, reduceCtorEq] at h)) | omega | assumption | with_reducible rfl | (refine vq ?_; kernel_rfl) | skip)))
    refine sym_loop (fun k : { k : Nat // k ≤ l.rates.length ∧ k ≤ 20 ∧ ∀ j, j < k → (l.rates.getD j []).length ≤ 20 } => laT2 l k.1) (fun k => 20 - k.1) ⟨0, Nat.zero_le _, Nat.zero_le _, fun j h => by omega⟩ ?_ fun ⟨k, hk, hk2, hall⟩ => ?_
    · (refine Le.ok some [] ?_; constructor; all_goals (try simp only [vle, vkt, seval, tbJ1_44, xbJ1_1]))
      all_goals first | rfl | (simp; done)
    clear d1 d2
    by_cases c1 : k < l.rates.length ∧ k < 20
    · have k1 : decide ((k : Int) < (l.rates.length : Int)) = true := decide_eq_true (by omega)
      have k2 : decide ((k : Int) < 20) = true := decide_eq_true (by omega)
      have e9 := wrap64 (n := (k : Int) + 1) (by omega) (by omega)
      by_cases c2 : 20 < (l.rates.getD k []).length
      · have k3 : decide ((20 : Int) < ((l.rates.getD k []).length : Int)) = true := decide_eq_true (by omega)
        repeat' (first | refine zq0 ?_ | refine zq1 ?_ | refine zq2 ?_ | refine zq3 ?_ | refine zq4 ?_ | refine zq5 ?_ | refine uv ?_ | refine uk ?_ | refine uw ?_ | refine uz ?_ | refine uj ?_ | refine ux ?_ | refine uq (by decide) ?_ | ((first | refine vx env fun Q hQ => ?_ | refine vz fun Q hQ => ?_); simp only [vkt, seval, tbJ1_44, xbJ1_1, k1, k2, k3]; (try simp only [ite_and]); (repeat' (first | with_reducible assumption | refine And.intro ?_ ?_ | intro hp)); all_goals (first | (refine hQ _ ?_; clear hQ Q) | (refine hQ _ (fun h => ?_) (fun h => ?_) <;> clear hQ Q <;> (try simp only [vki, reduceCtorEq] at h)) | omega | assumption | with_reducible rfl | (refine vq ?_; kernel_rfl) | skip)))
        (simp only [vrt, Try.results44, vkt, seval, tbJ1_44, xbJ1_1]; refine Fin.val rfl ?_; (try simp only [AV.le, AV.leL]))
        all_goals first | (rw [largeB, a1, anyR (f := fun j => (l.rates.getD j []).length) c1.1 c1.2 c2]; rfl)
      · have k3 : decide ((20 : Int) < ((l.rates.getD k []).length : Int)) = false := decide_eq_false (by omega)
        repeat' (first | refine zq0 ?_ | refine zq1 ?_ | refine zq2 ?_ | refine zq3 ?_ | refine zq4 ?_ | refine zq5 ?_ | refine uv ?_ | refine uk ?_ | refine uw ?_ | refine uz ?_ | refine uj ?_ | refine ux ?_ | refine uq (by decide) ?_ | ((first | refine vx env fun Q hQ => ?_ | refine vz fun Q hQ => ?_); simp only [vkt, seval, tbJ1_44, xbJ1_1, k1, k2, k3, e9]; (try simp only [ite_and]); (repeat' (first | with_reducible assumption | refine And.intro ?_ ?_ | intro hp)); all_goals (first | (refine hQ _ ?_; clear hQ Q) | (refine hQ _ (fun h => ?_) (fun h => ?_) <;> clear hQ Q <;> (try simp only [vki, reduceCtorEq] at h)) | omega | assumption | with_reducible rfl | (refine vq ?_; kernel_rfl) | skip)))
        refine ⟨⟨k + 1, by omega, by omega, fun j hj => ?_⟩, by show 20 - (k + 1) < 20 - k; omega, ?_⟩
        · rcases Nat.lt_or_eq_of_le (Nat.le_of_lt_succ hj) with h | h
          · exact hall j h
          · rw [h]; omega
        · (refine Le.ok some [] ?_; constructor; all_goals (try simp only [vle, vkt, seval, tbJ1_44, xbJ1_1]))
          all_goals first | rfl | (simp; done)
    have a2 : (List.range (min l.rates.length 20)).any (fun j => decide (20 < (l.rates.getD j []).length)) = false := anyN (f := fun j => (l.rates.getD j []).length) fun j h1 h2 => hall j (by omega)
    have hd : (decide ((k : Int) < (l.rates.length : Int)) = true ∧ decide ((k : Int) < 20) = false) ∨ decide ((k : Int) < (l.rates.length : Int)) = false := by
      by_cases h : k < l.rates.length
      · exact .inl ⟨decide_eq_true (by omega), decide_eq_false (by omega)⟩
      · exact .inr (decide_eq_false (by omega))
    have hB : largeB l = (decide (20 < l.coins.length) || (decide (20 < l.rates.length) || (decide (20 < l.start.length) || decide (20 < l.entries.length)))) := by rw [largeB, a1, a2]; rfl
    rw [hB]
    have b1 : decide ((20 : Int) < (l.coins.length : Int)) = decide (20 < l.coins.length) := decide_eq_decide.2 (by omega)
    have b2 : decide ((20 : Int) < (l.rates.length : Int)) = decide (20 < l.rates.length) := decide_eq_decide.2 (by omega)
    have b3 : decide ((20 : Int) < (l.start.length : Int)) = decide (20 < l.start.length) := decide_eq_decide.2 (by omega)
    have b4 : decide ((20 : Int) < (l.entries.length : Int)) = decide (20 < l.entries.length) := decide_eq_decide.2 (by omega)
    generalize decide (20 < l.coins.length) = p1 at *
    generalize decide (20 < l.rates.length) = p2 at *
    generalize decide (20 < l.start.length) = p3 at *
    generalize decide (20 < l.entries.length) = p4 at *
    rcases hd with ⟨d1, d2⟩ | d1
    rotate_left
    have d2 := d1
    all_goals
      cases p1 <;> cases p2 <;> cases p3
      all_goals
        repeat' (first | refine zq0 ?_ | refine zq1 ?_ | refine zq2 ?_ | refine zq3 ?_ | refine zq4 ?_ | refine zq5 ?_ | refine uv ?_ | refine uk ?_ | refine uw ?_ | refine uz ?_ | refine uj ?_ | refine ux ?_ | refine uq (by decide) ?_ | ((first | refine vx env fun Q hQ => ?_ | refine vz fun Q hQ => ?_); simp only [vkt, seval, tbJ1_44, xbJ1_1, d1, d2, b1, b2, b3, b4]; (try simp only [ite_and]); (repeat' (first | with_reducible assumption | refine And.intro ?_ ?_ | intro hp)); all_goals (first | (refine hQ _ ?_; clear hQ Q) | (refine hQ _ (fun h => ?_) (fun h => ?_) <;> clear hQ Q <;> (try simp only [vki, reduceCtorEq] at h)) | omega | assumption | with_reducible rfl | (refine vq ?_; kernel_rfl) | skip)))
        (simp only [vrt, Try.results44, vkt, seval, tbJ1_44, xbJ1_1]; refine Fin.val rfl ?_; (try simp only [AV.le, AV.leL]))
        all_goals first | rfl | (simp; done)
def c44 : List AV → Prop × AV
  | [.agg [.sl cs, .sl rs, .sl ss, .sl es]] => (isL cs rs ss es, aB (largeB (ldOf cs rs ss es)))
  | _ => (False, .junk)
theorem d44 {A : Frm → Prop} : EntryOK A Try.prog 44 (valE true c44) := valE_ok fun vs hv h => by
  clear hv
  unfold c44 at h ⊢
  split at h
  · refine ⟨by simp [AV.plain, aB], fun _ => by simp [AV.flat, aB], ?_⟩
    rw [← aLed_of h]; exact large_fn _
  · exact h.elim
end Go.Sym.B
namespace Go.Sym.B
open Go Go.Sym Go.Proofs Go.Sym.C
def tbJ2_43 := vj @ty3 (vj @ty22 (vj @ty28 (vj @ty35 (vj @ty36 (vj @ty38 (vj @ty48 (vj @ty55 (vj @ty59 (vj @ti3.eq_1 (vj @ti22.eq_1 (vj @ti28.eq_1 (vj @ti35.eq_1 (vj @ti36.eq_1 (vj @ti38.eq_1 (vj @ti48.eq_1 (vj @ti55.eq_1 @ti59.eq_1))))))))))))))))
def xbJ2_1 := vj @aI.eq_1 (vj @aB.eq_1 (vj @aLed.eq_1 (vj @cLed.eq_1 (vj @clT.eq_1 (vj @c23.eq_1 (vj @c23.eq_2 (vj @c104.eq_1 (vj @c104.eq_2 (vj @gInts (vj @eInts.eq_1 (vj @gShs (vj @eShs.eq_1 (vj @mInt (vj @mInts (vj @rInts (vj @rInt (vj @rShs (vj @rSh (@rEnt)))))))))))))))))))
set_option maxHeartbeats 4000000 in
theorem copyLedV_fn (l : Led) (hl : Fit l) : FnV Try.prog 43 [aLed l] (aLed l) := by
  have env : Env (fun _ => True) Try.prog tyB (tab [(23, valE false c23), (104, valE false c104)]) := mkEnv ⟨d23, d104, trivial⟩
  refine Fn.of (A := fun _ => True) (n0 := 0) (D := noD) (Fn0 Try.func43 rfl (fun vs w => by kernel_rfl) (by kernel_rfl)) (by simp) (by simp [AV.ids, AV.idsL, aLed, cLed]) (fun i o h => by cases h) (fun _ _ _ _ => trivial) noD_ok ?_
  have q1 := hl.c
  have q2 := hl.r
  have q3 := hl.e
  have q4 : l.start.length ≤ 100000 := by have := hl.s; omega
  have q5 := tmax
  have q6 := hl.csl
  have m0 : l.entries.length * 48 ≤ 140737488355328 ∧ l.entries.length ≤ maxLen := by omega
  repeat' (first | refine zq0 ?_ | refine zq1 ?_ | refine zq2 ?_ | refine zq3 ?_ | refine zq4 ?_ | refine zq5 ?_ | refine uv ?_ | refine uk ?_ | refine uw ?_ | refine uz ?_ | refine uj ?_ | refine ux ?_ | refine uq (by decide) ?_ | ((first | refine vx env fun Q hQ => ?_ | refine vz fun Q hQ => ?_); simp only [vkt, seval, tbJ2_43, xbJ2_1]; (try simp only [ite_and]); (repeat' (first | with_reducible assumption | refine And.intro ?_ ?_ | intro hp)); all_goals (first | (refine hQ _ ?_; clear hQ Q) | (refine hQ _ (fun h => ?_) (fun h => ?_) <;> clear hQ Q <;> (try simp only [vki, reduceCtorEq] at h)) | omega | assumption | with_reducible rfl | (refine vq ?_; kernel_rfl) | skip)))
  refine sym_loop (fun k : { k : Nat // k ≤ l.rates.length } => clT l k.1) (fun k => l.rates.length - k.1) ⟨0, Nat.zero_le _⟩ ?_ fun ⟨k, hk⟩ => ?_
  · (refine Le.ok (fun j => if j = 2 then none else some j) [] ?_; constructor; all_goals (try simp only [vle, vkt, seval, tbJ2_43, xbJ2_1]))
    all_goals first | rfl | (simp; done)
  · repeat' (first | refine zq0 ?_ | refine zq1 ?_ | refine zq2 ?_ | refine zq3 ?_ | refine zq4 ?_ | refine zq5 ?_ | refine uv ?_ | refine uk ?_ | refine uw ?_ | refine uz ?_ | refine uj ?_ | refine ux ?_ | refine uq (by decide) ?_)
    (refine vx env fun Q hQ => ?_; simp only [vkt, seval, tbJ2_43, xbJ2_1]; (try simp only [ite_and]); (repeat' (first | with_reducible assumption | refine And.intro ?_ ?_ | intro hp)); all_goals (first | (refine hQ _ ?_; clear hQ Q) | omega | assumption | with_reducible rfl | (refine vq ?_; kernel_rfl) | skip))
    repeat' (first | refine zq0 ?_ | refine zq1 ?_ | refine zq2 ?_ | refine zq3 ?_ | refine zq4 ?_ | refine zq5 ?_ | refine uv ?_ | refine uk ?_ | refine uw ?_ | refine uz ?_ | refine uj ?_ | refine ux ?_ | refine uq (by decide) ?_)
    (refine sym_cd (by simp only [vkt, seval, tbJ2_43, xbJ2_1]; rfl) (fun h => ?_) (fun h => ?_) <;> (try simp only [vki, reduceCtorEq] at h))
    · have hlt : k < l.rates.length := by omega
      have e9 := wrap_succ hlt (show l.rates.length ≤ maxLen by omega)
      have hpl := hl.rs _ (gMem (d := []) hlt)
      have e4 := takeS l.rates hlt
      have hk2 : (l.rates.take k).length = k := by rw [List.length_take]; omega
      obtain ⟨p, hP⟩ : ∃ p, l.rates.getD k [] = p := ⟨_, rfl⟩
      rw [hP] at e4 hpl
      have m1 : (k + 1) * 24 ≤ 140737488355328 ∧ k + 1 ≤ maxLen := by omega
      have m2 : p.length * 16 ≤ 140737488355328 ∧ p.length ≤ maxLen := by omega
      repeat' (first | refine zq0 ?_ | refine zq1 ?_ | refine zq2 ?_ | refine zq3 ?_ | refine zq4 ?_ | refine zq5 ?_ | refine uv ?_ | refine uk ?_ | refine uw ?_ | refine uz ?_ | refine uj ?_ | refine ux ?_ | refine uq (by decide) ?_ | ((first | refine vx env fun Q hQ => ?_ | refine vz fun Q hQ => ?_); simp only [vkt, seval, tbJ2_43, xbJ2_1, hP, e4, e9, hk2]; (try simp only [ite_and]); (repeat' (first | with_reducible assumption | refine And.intro ?_ ?_ | intro hp)); all_goals (first | (refine hQ _ ?_; clear hQ Q) | (refine hQ _ (fun h => ?_) (fun h => ?_) <;> clear hQ Q <;> (try simp only [vki, reduceCtorEq] at h)) | omega | assumption | with_reducible rfl | (refine vq ?_; kernel_rfl) | skip)))
      refine ⟨⟨k + 1, hlt⟩, by show l.rates.length - (k + 1) < l.rates.length - k; omega, ?_⟩
      (refine Le.ok (fun j => if j = 2 then some 5 else some j) [] ?_; constructor; all_goals (try simp only [vle, vkt, seval, tbJ2_43, xbJ2_1]))
      all_goals first | rfl | (simp; done)
    · have hkn : k = l.rates.length := by omega
      subst hkn
      repeat' (first | refine zq0 ?_ | refine zq1 ?_ | refine zq2 ?_ | refine zq3 ?_ | refine zq4 ?_ | refine zq5 ?_ | refine uv ?_ | refine uk ?_ | refine uw ?_ | refine uz ?_ | refine uj ?_ | refine ux ?_ | refine uq (by decide) ?_ | ((first | refine vx env fun Q hQ => ?_ | refine vz fun Q hQ => ?_); simp only [vkt, seval, tbJ2_43, xbJ2_1, List.take_length]; (try simp only [ite_and]); (repeat' (first | with_reducible assumption | refine And.intro ?_ ?_ | intro hp)); all_goals (first | (refine hQ _ ?_; clear hQ Q) | (refine hQ _ (fun h => ?_) (fun h => ?_) <;> clear hQ Q <;> (try simp only [vki, reduceCtorEq] at h)) | omega | assumption | with_reducible rfl | (refine vq ?_; kernel_rfl) | skip)))
      (simp only [vrt, Try.results43, vkt, seval, tbJ2_43, xbJ2_1]; refine Fin.val rfl ?_; (try simp only [AV.le, AV.leL]))
      all_goals first | rfl | (simp; done) | exact ⟨trivial, ⟨_, _, rfl⟩, trivial, ⟨_, _, rfl⟩, trivial⟩ | exact ⟨trivial, ⟨_, _, rfl⟩, trivial, ⟨_, _, rfl⟩⟩ | exact ⟨rfl, ⟨_, _, rfl⟩, rfl, ⟨_, _, rfl⟩, trivial⟩ | exact ⟨⟨_, _, rfl⟩, ⟨_, _, rfl⟩⟩
def c43 : List AV → Prop × AV
  | [.agg [.sl cs, .sl rs, .sl ss, .sl es]] => (isL cs rs ss es ∧ Fit (ldOf cs rs ss es), aLed (ldOf cs rs ss es))
  | _ => (False, .junk)
theorem d43 {A : Frm → Prop} : EntryOK A Try.prog 43 (valE false c43) := valE_ok fun vs hv h => by
  clear hv
  unfold c43 at h ⊢
  split at h
  · refine ⟨by simp [AV.plain, AV.plainL, aLed, cLed], fun h => absurd h (by decide), ?_⟩
    have := copyLedV_fn _ h.2
    rw [aLed_of h.1] at this ⊢
    exact this
  · exact h.elim
def p43 (S : St) : List AV → Option Pk
  | [.agg [.sl cs, .sl rs, .sl ss, .sl es]] => some { pre := isL cs rs ss es ∧ Fit (ldOf cs rs ss es), ar := [.agg [.sl cs, .sl rs, .sl ss, .sl es]], v := .agg [.sl cs, .sl rs, .sl ss, .row 0], L1 := [some (.row 48 6 es)] }
  | _ => none
theorem e43 {A : Frm → Prop} : EntryOK A Try.prog 43 (fnE p43) := fnE_ok fun S bs q h hp => by
  unfold p43 at h
  split at h
  · cases h
    rename_i cs rs ss es
    have := copyLed_fn _ hp.2
    rw [aLed_of hp.1] at this
    simp only [ldOf, ← hp.1.1, ← hp.1.2.1, ← hp.1.2.2.1, ← hp.1.2.2.2] at this
    exact this
  · cases h
def addE1 (l : Led) (x : Ent) : Led := { l with entries := l.entries ++ [x] }
def tbJ2_45 := vj @ty36 (vj @ty38 (vj @ty48 (vj @ti36.eq_1 (vj @ti38.eq_1 @ti48.eq_1))))
def xbJ2_2 := vj @aI.eq_1 (vj @aB.eq_1 (vj @aLed.eq_1 (vj @cLed.eq_1 (vj @aEnt.eq_1 (vj @p43.eq_1 (vj @p43.eq_2 (vj @isL_e (vj @ldOf_e (vj @rEnt (vj @eEnt.eq_1 (@addE1.eq_1)))))))))))
theorem with_fn (l : Led) (x : Ent) (hl : Fit l) : FnV Try.prog 45 [aLed l, aEnt x] (aLed (addE1 l x)) := by
  have env : Env (fun _ => True) Try.prog tyB (tab [(43, fnE p43)]) := mkEnv ⟨e43, trivial⟩
  refine Fn.of (A := fun _ => True) (n0 := 0) (D := noD) (Fn0 Try.func45 rfl (fun vs w => by kernel_rfl) (by kernel_rfl)) (by simp) (by simp [AV.ids, AV.idsL, aLed, cLed, aEnt]) (fun i o h => by cases h) (fun _ _ _ _ => trivial) noD_ok ?_
  have q3 := hl.e
  have q5 := tmax
  have big : (100000 : Nat) ≤ maxLen := by decide
  have m0 : (l.entries.length + 1) * 48 ≤ 140737488355328 ∧ l.entries.length + 1 ≤ maxLen := by omega
  have m1 : l.entries.length * 48 ≤ 140737488355328 ∧ l.entries.length ≤ maxLen := by omega
  have e4 : l.entries.map eEnt ++ [[.v (.int .i64 x.day), .v (.int .i64 x.kind), .v (.int .i64 x.coin), .v (.int .i64 x.to), .v (.int .i64 x.amount), .v (.int .i64 x.got)]] = (l.entries ++ [x]).map eEnt := by rw [List.map_append]; rfl
  repeat' (first | refine zq0 ?_ | refine zq1 ?_ | refine zq2 ?_ | refine zq3 ?_ | refine zq4 ?_ | refine zq5 ?_ | refine uv ?_ | refine uk ?_ | refine uw ?_ | refine uz ?_ | refine uj ?_ | refine ux ?_ | refine uq (by decide) ?_ | ((first | refine vx env fun Q hQ => ?_ | refine vz fun Q hQ => ?_); simp only [vkt, seval, tbJ2_45, xbJ2_2, e4]; (try simp only [ite_and]); (repeat' (first | with_reducible assumption | refine And.intro ?_ ?_ | intro hp)); all_goals (first | (refine hQ _ ?_; clear hQ Q) | (refine hQ _ (fun h => ?_) (fun h => ?_) <;> clear hQ Q <;> (try simp only [vki, reduceCtorEq] at h)) | omega | assumption | with_reducible rfl | (refine vq ?_; kernel_rfl) | skip)))
  (simp only [vrt, Try.results45, vkt, seval, tbJ2_45, xbJ2_2]; refine Fin.val rfl ?_; (try simp only [AV.le, AV.leL]))
  all_goals first | rfl | (simp; done) | exact ⟨trivial, trivial, trivial, ⟨_, _, rfl⟩, trivial⟩ | exact ⟨trivial, trivial, trivial, ⟨_, _, rfl⟩⟩ | exact ⟨rfl, rfl, rfl, ⟨_, _, rfl⟩, trivial⟩
def c45 : List AV → Prop × AV
  | [.agg [.sl cs, .sl rs, .sl ss, .sl es], .agg [.v (.int .i64 a), .v (.int .i64 b), .v (.int .i64 c), .v (.int .i64 d), .v (.int .i64 e), .v (.int .i64 f)]] => (isL cs rs ss es ∧ Fit (ldOf cs rs ss es), aLed (addE1 (ldOf cs rs ss es) ⟨a, b, c, d, e, f⟩))
  | _ => (False, .junk)
theorem d45 {A : Frm → Prop} : EntryOK A Try.prog 45 (valE false c45) := valE_ok fun vs hv h => by
  clear hv
  unfold c45 at h ⊢
  split at h
  · refine ⟨by simp [AV.plain, AV.plainL, aLed, cLed], fun h => absurd h (by decide), ?_⟩
    rw [← aLed_of h.1]; exact with_fn _ ⟨_, _, _, _, _, _⟩ h.2
  · exact h.elim
def esT (r : List Sh) (k : Nat) : St := { t := asg [(0, aShs r), (1, aShs r), (4, aB false), (5, aI k)], h := hasg [], n := 0 }
def tbJ2_57 := vj @ty3 (vj @ty55 (vj @ty59 (vj @ti3.eq_1 (vj @ti55.eq_1 @ti59.eq_1))))
def xbJ2_3 := vj @aI.eq_1 (vj @aB.eq_1 (vj @aShs.eq_1 (vj @esT.eq_1 (vj @gSh (@eSh.eq_1)))))
theorem eqShs_fn (r : List Sh) (hl : r.length ≤ maxLen) : FnV Try.prog 57 [aShs r, aShs r] (aB true) := by
  have env : Env (fun _ => True) Try.prog tyB (tab []) := mkEnv trivial
  refine Fn.of (A := fun _ => True) (n0 := 0) (D := noD) (Fn0 Try.func57 rfl (fun vs w => by kernel_rfl) (by kernel_rfl)) (by simp) (by simp [AV.ids, AV.idsL, aShs]) (fun i o h => by cases h) (fun _ _ _ _ => trivial) noD_ok ?_
  have zn : ∀ n : Int, decide (n = n) = true := fun n => decide_eq_true rfl
  repeat' (first | refine zq0 ?_ | refine zq1 ?_ | refine zq2 ?_ | refine zq3 ?_ | refine zq4 ?_ | refine zq5 ?_ | refine uv ?_ | refine uk ?_ | refine uw ?_ | refine uz ?_ | refine uj ?_ | refine ux ?_ | refine uq (by decide) ?_ | ((first | refine vx env fun Q hQ => ?_ | refine vz fun Q hQ => ?_); simp only [vkt, seval, tbJ2_57, xbJ2_3, zn]; (try simp only [ite_and]); (repeat' (first | with_reducible assumption | refine And.intro ?_ ?_ | intro hp)); all_goals (first | (refine hQ _ ?_; clear hQ Q) | (refine hQ _ (fun h => ?_) (fun h => ?_) <;> clear hQ Q <;> (try simp only [vki, reduceCtorEq] at h)) | omega | assumption | with_reducible rfl | (refine vq ?_; kernel_rfl) | skip)))
  refine sym_loop (fun k : { k : Nat // k ≤ r.length } => esT r k.1) (fun k => r.length - k.1) ⟨0, Nat.zero_le _⟩ ?_ fun ⟨k, hk⟩ => ?_
  · (refine Le.ok some [] ?_; constructor; all_goals (try simp only [vle, vkt, seval, tbJ2_57, xbJ2_3]))
    all_goals first | rfl | (simp; done)
  · by_cases hlt : k < r.length
    · have d1 : decide ((k : Int) < (r.length : Int)) = true := decide_eq_true (by omega)
      have e9 := wrap_succ hlt hl
      repeat' (first | refine zq0 ?_ | refine zq1 ?_ | refine zq2 ?_ | refine zq3 ?_ | refine zq4 ?_ | refine zq5 ?_ | refine uv ?_ | refine uk ?_ | refine uw ?_ | refine uz ?_ | refine uj ?_ | refine ux ?_ | refine uq (by decide) ?_ | ((first | refine vx env fun Q hQ => ?_ | refine vz fun Q hQ => ?_); simp only [vkt, seval, tbJ2_57, xbJ2_3, d1, e9, zn]; (try simp only [ite_and]); (repeat' (first | with_reducible assumption | refine And.intro ?_ ?_ | intro hp)); all_goals (first | (refine hQ _ ?_; clear hQ Q) | (refine hQ _ (fun h => ?_) (fun h => ?_) <;> clear hQ Q <;> (try simp only [vki, reduceCtorEq] at h)) | omega | assumption | with_reducible rfl | (refine vq ?_; kernel_rfl) | skip)))
      refine ⟨⟨k + 1, hlt⟩, by show r.length - (k + 1) < r.length - k; omega, ?_⟩
      (refine Le.ok some [] ?_; constructor; all_goals (try simp only [vle, vkt, seval, tbJ2_57, xbJ2_3]))
      all_goals first | rfl | (simp; done)
    · have d1 : decide ((k : Int) < (r.length : Int)) = false := decide_eq_false (by omega)
      repeat' (first | refine zq0 ?_ | refine zq1 ?_ | refine zq2 ?_ | refine zq3 ?_ | refine zq4 ?_ | refine zq5 ?_ | refine uv ?_ | refine uk ?_ | refine uw ?_ | refine uz ?_ | refine uj ?_ | refine ux ?_ | refine uq (by decide) ?_ | ((first | refine vx env fun Q hQ => ?_ | refine vz fun Q hQ => ?_); simp only [vkt, seval, tbJ2_57, xbJ2_3, d1]; (try simp only [ite_and]); (repeat' (first | with_reducible assumption | refine And.intro ?_ ?_ | intro hp)); all_goals (first | (refine hQ _ ?_; clear hQ Q) | (refine hQ _ (fun h => ?_) (fun h => ?_) <;> clear hQ Q <;> (try simp only [vki, reduceCtorEq] at h)) | omega | assumption | with_reducible rfl | (refine vq ?_; kernel_rfl) | skip)))
      (simp only [vrt, Try.results57, vkt, seval, tbJ2_57, xbJ2_3]; refine Fin.val rfl ?_; (try simp only [AV.le, AV.leL]))
      all_goals first | rfl | (simp; done)
def c57 : List AV → Prop × AV
  | [.sl xs, .sl ys] => (ys = xs ∧ xs = (xs.map dSh).map eSh ∧ xs.length ≤ 100000, aB true)
  | _ => (False, .junk)
theorem d57 {A : Frm → Prop} : EntryOK A Try.prog 57 (valE true c57) := valE_ok fun vs hv h => by
  clear hv
  unfold c57 at h ⊢
  split at h
  · rename_i xs ys
    obtain ⟨h1, h2, h3⟩ := h
    refine ⟨by simp [AV.plain, aB], fun _ => by simp [AV.flat, aB], ?_⟩
    have := eqShs_fn (xs.map dSh) (by rw [List.length_map]; have : (100000 : Nat) ≤ maxLen := by decide
                                      omega)
    simp only [aShs, ← h2] at this
    rw [h1]; exact this
  · exact h.elim
def elT1 (l : Led) (k : Nat) : St := { t := asg [(2, .ptr 0 0), (3, .ptr 1 0), (4, aB false), (5, aI k)], h := hasg [(0, .cells (cLed l)), (1, .cells (cLed l))], n := 2 }
def elT2 (l : Led) (k : Nat) : St := { t := asg [(2, .ptr 0 0), (3, .ptr 1 0), (4, aB false), (6, aI k)], h := hasg [(0, .cells (cLed l)), (1, .cells (cLed l))], n := 2 }
def tbJ2_52 := vj @ty3 (vj @ty22 (vj @ty28 (vj @ty35 (vj @ty36 (vj @ty38 (vj @ty48 (vj @ty55 (vj @ty59 (vj @ti3.eq_1 (vj @ti22.eq_1 (vj @ti28.eq_1 (vj @ti35.eq_1 (vj @ti36.eq_1 (vj @ti38.eq_1 (vj @ti48.eq_1 (vj @ti55.eq_1 @ti59.eq_1))))))))))))))))
def xbJ2_4 := vj @aI.eq_1 (vj @aB.eq_1 (vj @aLed.eq_1 (vj @cLed.eq_1 (vj @elT1.eq_1 (vj @elT2.eq_1 (vj @s36.eq_1 (vj @s36.eq_2 (vj @s26.eq_1 (vj @s26.eq_2 (vj @c57.eq_1 (vj @c57.eq_2 (vj @gShs (vj @eShs.eq_1 (vj @gEnt (vj @eEnt.eq_1 (vj @mInt (vj @mInts (@mSh))))))))))))))))))
theorem eqLed_fn (l : Led) (hl : Fit l) : FnV Try.prog 52 [aLed l, aLed l] (aB true) := by
  have env : Env (fun _ => True) Try.prog tyB (tab [(36, valE true s36), (26, valE true s26), (57, valE true c57)]) := mkEnv ⟨d36, e26, d57, trivial⟩
  refine Fn.of (A := fun _ => True) (n0 := 0) (D := noD) (Fn0 Try.func52 rfl (fun vs w => by kernel_rfl) (by kernel_rfl)) (by simp) (by simp [AV.ids, AV.idsL, aLed, cLed]) (fun i o h => by cases h) (fun _ _ _ _ => trivial) noD_ok ?_
  have zn : ∀ n : Int, decide (n = n) = true := fun n => decide_eq_true rfl
  have zl : ∀ p : List (List Int), decide (p = p) = true := fun n => decide_eq_true rfl
  have zi : ∀ p : List Int, decide (p = p) = true := fun n => decide_eq_true rfl
  have q1 := hl.c
  have q2 := hl.r
  have q3 := hl.e
  have q4 := hl.s
  have q5 := tmax
  have q6 := hl.csl
  have q7 : ∀ p ∈ l.coins, p.length ≤ maxLen := fun p hp => by have := hl.cs p hp; omega
  repeat' (first | refine zq0 ?_ | refine zq1 ?_ | refine zq2 ?_ | refine zq3 ?_ | refine zq4 ?_ | refine zq5 ?_ | refine uv ?_ | refine uk ?_ | refine uw ?_ | refine uz ?_ | refine uj ?_ | refine ux ?_ | refine uq (by decide) ?_ | ((first | refine vx env fun Q hQ => ?_ | refine vz fun Q hQ => ?_); simp only [vkt, seval, tbJ2_52, xbJ2_4, zn, zl, zi]; (try simp only [ite_and]); (repeat' (first | with_reducible assumption | refine And.intro ?_ ?_ | intro hp)); all_goals (first | (refine hQ _ ?_; clear hQ Q) | (refine hQ _ (fun h => ?_) (fun h => ?_) <;> clear hQ Q <;> (try simp only [vki, reduceCtorEq] at h)) | omega | assumption | with_reducible rfl | (refine vq ?_; kernel_rfl) | skip)))
  all_goals first | (refine sym_loop (fun k : { k : Nat // k ≤ l.rates.length } => elT1 l k.1) (fun k => l.rates.length - k.1) ⟨0, Nat.zero_le _⟩ ?_ fun ⟨k, hk⟩ => ?_)
  · (refine Le.ok some [] ?_; constructor; all_goals (try simp only [vle, vkt, seval, tbJ2_52, xbJ2_4]))
    all_goals first | rfl | (simp; done)
  · by_cases hlt : k < l.rates.length
    · have d1 : decide ((k : Int) < (l.rates.length : Int)) = true := decide_eq_true (by omega)
      have e9 := wrap_succ hlt (show l.rates.length ≤ maxLen by omega)
      have hpl := hl.rs _ (gMem (d := []) hlt)
      have hp2 : (l.rates.getD k []).length ≤ 100000 := by omega
      repeat' (first | refine zq0 ?_ | refine zq1 ?_ | refine zq2 ?_ | refine zq3 ?_ | refine zq4 ?_ | refine zq5 ?_ | refine uv ?_ | refine uk ?_ | refine uw ?_ | refine uz ?_ | refine uj ?_ | refine ux ?_ | refine uq (by decide) ?_ | ((first | refine vx env fun Q hQ => ?_ | refine vz fun Q hQ => ?_); simp only [vkt, seval, tbJ2_52, xbJ2_4, d1, e9, zn]; (try simp only [ite_and]); (repeat' (first | with_reducible assumption | refine And.intro ?_ ?_ | intro hp)); all_goals (first | (refine hQ _ ?_; clear hQ Q) | (refine hQ _ (fun h => ?_) (fun h => ?_) <;> clear hQ Q <;> (try simp only [vki, reduceCtorEq] at h)) | omega | assumption | with_reducible rfl | (refine vq ?_; kernel_rfl) | skip)))
      refine ⟨⟨k + 1, hlt⟩, by show l.rates.length - (k + 1) < l.rates.length - k; omega, ?_⟩
      (refine Le.ok some [] ?_; constructor; all_goals (try simp only [vle, vkt, seval, tbJ2_52, xbJ2_4]))
      all_goals first | rfl | (simp; done)
    · have d1 : decide ((k : Int) < (l.rates.length : Int)) = false := decide_eq_false (by omega)
      repeat' (first | refine zq0 ?_ | refine zq1 ?_ | refine zq2 ?_ | refine zq3 ?_ | refine zq4 ?_ | refine zq5 ?_ | refine uv ?_ | refine uk ?_ | refine uw ?_ | refine uz ?_ | refine uj ?_ | refine ux ?_ | refine uq (by decide) ?_ | ((first | refine vx env fun Q hQ => ?_ | refine vz fun Q hQ => ?_); simp only [vkt, seval, tbJ2_52, xbJ2_4, d1]; (try simp only [ite_and]); (repeat' (first | with_reducible assumption | refine And.intro ?_ ?_ | intro hp)); all_goals (first | (refine hQ _ ?_; clear hQ Q) | (refine hQ _ (fun h => ?_) (fun h => ?_) <;> clear hQ Q <;> (try simp only [vki, reduceCtorEq] at h)) | omega | assumption | with_reducible rfl | (refine vq ?_; kernel_rfl) | skip)))
      refine sym_loop (fun k : { k : Nat // k ≤ l.entries.length } => elT2 l k.1) (fun k => l.entries.length - k.1) ⟨0, Nat.zero_le _⟩ ?_ fun ⟨k, hk⟩ => ?_
      · (refine Le.ok some [] ?_; constructor; all_goals (try simp only [vle, vkt, seval, tbJ2_52, xbJ2_4]))
        all_goals first | rfl | (simp; done)
      · by_cases hlt : k < l.entries.length
        · have d2 : decide ((k : Int) < (l.entries.length : Int)) = true := decide_eq_true (by omega)
          have e9 := wrap_succ hlt (show l.entries.length ≤ maxLen by omega)
          repeat' (first | refine zq0 ?_ | refine zq1 ?_ | refine zq2 ?_ | refine zq3 ?_ | refine zq4 ?_ | refine zq5 ?_ | refine uv ?_ | refine uk ?_ | refine uw ?_ | refine uz ?_ | refine uj ?_ | refine ux ?_ | refine uq (by decide) ?_ | ((first | refine vx env fun Q hQ => ?_ | refine vz fun Q hQ => ?_); simp only [vkt, seval, tbJ2_52, xbJ2_4, d2, e9, zn]; (try simp only [ite_and]); (repeat' (first | with_reducible assumption | refine And.intro ?_ ?_ | intro hp)); all_goals (first | (refine hQ _ ?_; clear hQ Q) | (refine hQ _ (fun h => ?_) (fun h => ?_) <;> clear hQ Q <;> (try simp only [vki, reduceCtorEq] at h)) | omega | assumption | with_reducible rfl | (refine vq ?_; kernel_rfl) | skip)))
          refine ⟨⟨k + 1, hlt⟩, by show l.entries.length - (k + 1) < l.entries.length - k; omega, ?_⟩
          (refine Le.ok some [] ?_; constructor; all_goals (try simp only [vle, vkt, seval, tbJ2_52, xbJ2_4]))
          all_goals first | rfl | (simp; done)
        · have d2 : decide ((k : Int) < (l.entries.length : Int)) = false := decide_eq_false (by omega)
          repeat' (first | refine zq0 ?_ | refine zq1 ?_ | refine zq2 ?_ | refine zq3 ?_ | refine zq4 ?_ | refine zq5 ?_ | refine uv ?_ | refine uk ?_ | refine uw ?_ | refine uz ?_ | refine uj ?_ | refine ux ?_ | refine uq (by decide) ?_ | ((first | refine vx env fun Q hQ => ?_ | refine vz fun Q hQ => ?_); simp only [vkt, seval, tbJ2_52, xbJ2_4, d2]; (try simp only [ite_and]); (repeat' (first | with_reducible assumption | refine And.intro ?_ ?_ | intro hp)); all_goals (first | (refine hQ _ ?_; clear hQ Q) | (refine hQ _ (fun h => ?_) (fun h => ?_) <;> clear hQ Q <;> (try simp only [vki, reduceCtorEq] at h)) | omega | assumption | with_reducible rfl | (refine vq ?_; kernel_rfl) | skip)))
          (simp only [vrt, Try.results52, vkt, seval, tbJ2_52, xbJ2_4]; refine Fin.val rfl ?_; (try simp only [AV.le, AV.leL]))
          all_goals first | rfl | (simp; done)
def c52 : List AV → Prop × AV
  | [.agg [.sl cs, .sl rs, .sl ss, .sl es], y] => (y = .agg [.sl cs, .sl rs, .sl ss, .sl es] ∧ isL cs rs ss es ∧ Fit (ldOf cs rs ss es), aB true)
  | _ => (False, .junk)
theorem d52 {A : Frm → Prop} : EntryOK A Try.prog 52 (valE true c52) := valE_ok fun vs hv h => by
  clear hv
  unfold c52 at h ⊢
  split at h
  · refine ⟨by simp [AV.plain, aB], fun _ => by simp [AV.flat, aB], ?_⟩
    rw [h.1, ← aLed_of h.2.1]; exact eqLed_fn _ h.2.2
  · exact h.elim
end Go.Sym.B
namespace Go.Sym.B
open Go Go.Sym Go.Proofs Go.Sym.C
def eLed (l : Led) : List DV := [.sl (l.coins.map eInts), .sl (l.rates.map eShs), .sl (l.start.map eInt), .sl (l.entries.map eEnt)]
theorem gLed {l : List Led} {n : Nat} (h : n < l.length) (z : List DV) : (l.map eLed).getD n z = eLed (l.getD n default) := by simp [List.getD_eq_getElem?_getD, h]
theorem add_fit {l : Led} (h : LgOk l) (x : Ent) : Fit (addE1 l x) := by
  have hf := h.fit
  refine ⟨hf.c, hf.cs, hf.r, hf.rs, hf.s, ?_⟩
  show (l.entries ++ [x]).length ≤ 20
  have := h.e
  rw [List.length_append]
  simp; omega
def woT (Ls : List Led) (ds fs ts ns : List Int) (k : Nat) : St := { t := asg [(14, aB false), (17, .row 0), (18, .row 1), (19, .row 2), (20, .row 3), (21, .row 4), (22, aI k)], h := hasg [(0, .row 38 4 (Ls.map eLed)), (1, .row 3 1 (ds.map eInt)), (2, .row 3 1 (fs.map eInt)), (3, .row 3 1 (ts.map eInt)), (4, .row 3 1 (ns.map eInt))], n := 5 }
end Go.Sym.B
namespace Go.Sym.B
open Go Go.Sym Go.Proofs Go.RowKit
def spI : Sp := .int .i64
theorem eI_of (r : List DV) (h : r.length = 1) (hs : ∀ (j : Nat) (s : Sp) (d : DV), [spI][j]? = some s → r[j]? = some d → D1 s d) : ∃ a, r = eInt a := by
  obtain ⟨d, rfl⟩ := List.length_eq_one_iff.1 h
  obtain ⟨n, rfl, _⟩ := (hs 0 spI d rfl rfl).int_inv
  exact ⟨n, rfl⟩
theorem eIs_of (r : List DV) (h : r.length = 1) (hs : ∀ (j : Nat) (s : Sp) (d : DV), [Sp.sl [spI]][j]? = some s → r[j]? = some d → D1 s d) : ∃ a, r = eInts a := by
  obtain ⟨d, rfl⟩ := List.length_eq_one_iff.1 h
  obtain ⟨l, rfl, _⟩ := (hs 0 _ d rfl rfl).sl_inv eInt eI_of
  exact ⟨l, rfl⟩
theorem eS_of (r : List DV) (h : r.length = 2) (hs : ∀ (j : Nat) (s : Sp) (d : DV), [spI, spI][j]? = some s → r[j]? = some d → D1 s d) : ∃ a, r = eSh a := by
  match r, h with
  | [a, b], _ =>
    obtain ⟨n, rfl, _⟩ := (hs 0 spI a rfl rfl).int_inv
    obtain ⟨m, rfl, _⟩ := (hs 1 spI b rfl rfl).int_inv
    exact ⟨⟨n, m⟩, rfl⟩
theorem eSs_of (r : List DV) (h : r.length = 1) (hs : ∀ (j : Nat) (s : Sp) (d : DV), [Sp.sl [spI, spI]][j]? = some s → r[j]? = some d → D1 s d) : ∃ a, r = eShs a := by
  obtain ⟨d, rfl⟩ := List.length_eq_one_iff.1 h
  obtain ⟨l, rfl, _⟩ := (hs 0 _ d rfl rfl).sl_inv eSh eS_of
  exact ⟨l, rfl⟩
theorem eE_of (r : List DV) (h : r.length = 6) (hs : ∀ (j : Nat) (s : Sp) (d : DV), [spI, spI, spI, spI, spI, spI][j]? = some s → r[j]? = some d → D1 s d) : ∃ a, r = eEnt a := by
  match r, h with
  | [a, b, c, d, e, f], _ =>
    obtain ⟨n1, rfl, _⟩ := (hs 0 spI a rfl rfl).int_inv
    obtain ⟨n2, rfl, _⟩ := (hs 1 spI b rfl rfl).int_inv
    obtain ⟨n3, rfl, _⟩ := (hs 2 spI c rfl rfl).int_inv
    obtain ⟨n4, rfl, _⟩ := (hs 3 spI d rfl rfl).int_inv
    obtain ⟨n5, rfl, _⟩ := (hs 4 spI e rfl rfl).int_inv
    obtain ⟨n6, rfl, _⟩ := (hs 5 spI f rfl rfl).int_inv
    exact ⟨⟨n1, n2, n3, n4, n5, n6⟩, rfl⟩
def spL : List Sp := [.sl [.sl [spI]], .sl [.sl [spI, spI]], .sl [spI], .sl [spI, spI, spI, spI, spI, spI]]
def spE : List Sp := [spI, spI, spI, spI, spI, spI]
theorem fl3 : Fl Try.prog 3 [spI] := flB_sound (n := 6) (by kernel_rfl)
theorem fl22 : Fl Try.prog 22 [.sl [spI]] := flB_sound (n := 6) (by kernel_rfl)
theorem fl38 : Fl Try.prog 38 spL := flB_sound (n := 6) (by kernel_rfl)
theorem fl48 : Fl Try.prog 48 spE := flB_sound (n := 6) (by kernel_rfl)
variable {H : Type} {enc : TypeId × Value → H} {W : World} {base : Nat} {spare : Nat → Bool} {held : Bool}
theorem arg_int {fuel : Nat} {v : Value} {x : DataW H × List MemPlace} (h : DataW.trod enc Try.prog W base spare held fuel 3 [v] = some x) : ∃ n, ARel W (okW W) rho0 undef (aI n) v := by
  obtain ⟨ds, hd⟩ := open_fl fl3 h
  obtain ⟨d, rfl, h1, h2⟩ := hd.one_inv
  obtain ⟨n, rfl, _⟩ := h1.int_inv
  exact ⟨n, toAV_rel h2⟩
theorem arg_ints {fuel : Nat} {v : Value} {x : DataW H × List MemPlace} (h : DataW.trod enc Try.prog W base spare held fuel 22 [v] = some x) : ∃ l : List Int, ARel W (okW W) rho0 undef (aInts l) v ∧ l.length ≤ maxLen := by
  obtain ⟨ds, hd⟩ := open_fl fl22 h
  obtain ⟨d, rfl, h1, h2⟩ := hd.one_inv
  obtain ⟨l, rfl, hl⟩ := h1.sl_inv eInt eI_of
  exact ⟨l, toAV_rel h2, hl⟩
theorem arg_ent {fuel : Nat} {cs : Array Value} {x : DataW H × List MemPlace} (h : DataW.trod enc Try.prog W base spare held fuel 48 cs.toList = some x) : ∃ e : Ent, ARel W (okW W) rho0 undef (aEnt e) (.agg cs) := by
  obtain ⟨ds, hd⟩ := open_fl fl48 h
  obtain ⟨e, rfl⟩ := eE_of ds hd.len hd.shape
  exact ⟨e, hd.agg⟩
theorem arg_led {fuel : Nat} {cs : Array Value} {x : DataW H × List MemPlace} (h : DataW.trod enc Try.prog W base spare held fuel 38 cs.toList = some x) : ∃ l : Led, ARel W (okW W) rho0 undef (aLed l) (.agg cs) := by
  obtain ⟨ds, hd⟩ := open_fl fl38 h
  match ds, hd with
  | [a, b, c, d], hd =>
    obtain ⟨l1, rfl, _⟩ := (hd.shape 0 _ a rfl rfl).sl_inv eInts eIs_of
    obtain ⟨l2, rfl, _⟩ := (hd.shape 1 _ b rfl rfl).sl_inv eShs eSs_of
    obtain ⟨l3, rfl, _⟩ := (hd.shape 2 _ c rfl rfl).sl_inv eInt eI_of
    obtain ⟨l4, rfl, _⟩ := (hd.shape 3 _ d rfl rfl).sl_inv eEnt eE_of
    exact ⟨⟨l1, l2, l3, l4⟩, hd.agg⟩
  | [], hd => exact absurd hd.len (by simp [spL])
  | [_], hd => exact absurd hd.len (by simp [spL])
  | [_, _], hd => exact absurd hd.len (by simp [spL])
  | [_, _, _], hd => exact absurd hd.len (by simp [spL])
  | _ :: _ :: _ :: _ :: _ :: _, hd => exact absurd hd.len (by simp [spL])
theorem cells_agg {v : Value} (h : v.cells.toList.length ≠ 1) : ∃ cs, v = .agg cs := by
  cases v <;> first | exact ⟨_, rfl⟩ | (simp [Value.cells] at h)
theorem led_of {v : Value} {d : DataW H} {p : List MemPlace} (h : DataW.Trod enc Try.prog W base spare held 38 v d p) : ∃ l : Led, ARel W (okW W) rho0 undef (aLed l) v := by
  obtain ⟨fuel, hf⟩ := h
  obtain ⟨ds, hd⟩ := open_fl fl38 hf
  obtain ⟨cs, rfl⟩ := cells_agg (v := v) (by rw [hd.clen]; simp [spL])
  exact arg_led hf
theorem ent_of {v : Value} {d : DataW H} {p : List MemPlace} (h : DataW.Trod enc Try.prog W base spare held 48 v d p) : ∃ l : Ent, ARel W (okW W) rho0 undef (aEnt l) v := by
  obtain ⟨fuel, hf⟩ := h
  obtain ⟨ds, hd⟩ := open_fl fl48 hf
  obtain ⟨cs, rfl⟩ := cells_agg (v := v) (by rw [hd.clen]; simp [spE])
  exact arg_ent hf
set_option maxRecDepth 100000 in
theorem int_of {v : Value} {d : DataW H} {p : List MemPlace} {r : Reach} {b0 : Nat} (h : DataW.Trod enc Try.prog W base spare held 3 v d p) (hu : Try.prog.underlying 3 = some (.int .i64)) (hv : Value.okWide Try.prog W r b0 3 v) : ∃ n : Int, ARel W (okW W) rho0 undef (aI n) v := by
  obtain ⟨fuel, hf⟩ := h
  obtain ⟨n, rfl⟩ := WideShapes.okWide_int hu hv
  exact arg_int hf
set_option maxRecDepth 100000 in
theorem ints_of {v : Value} {d : DataW H} {p : List MemPlace} {r : Reach} {b0 : Nat} (h : DataW.Trod enc Try.prog W base spare held 22 v d p) (hu : Try.prog.underlying 22 = some (.slice 3)) (hv : Value.okWide Try.prog W r b0 22 v) : ∃ l : List Int, ARel W (okW W) rho0 undef (aInts l) v ∧ l.length ≤ maxLen := by
  obtain ⟨fuel, hf⟩ := h
  obtain ⟨a, n, c, rfl⟩ := WideShapes.okWide_slice hu hv
  exact arg_ints hf
end Go.Sym.B
namespace Go.Sym.B
open Go Go.Sym Go.Proofs Go.Sym.C
def idxZ (p : List Int) (c : Int) : Int := match p.findIdx? (fun x => decide (c = x)) with
  | some k => k
  | none => -1
theorem idxZ_hit {p : List Int} {c : Int} {k : Nat} (hk : k < p.length) (h : c = p.getD k 0) (hn : ∀ j, j < k → c ≠ p.getD j 0) : idxZ p c = k := by
  unfold idxZ
  rw [List.findIdx?_eq_some_iff_getElem.2 ⟨hk, by simpa [List.getD_eq_getElem?_getD, hk] using h, fun j hj => by
    have := hn j hj
    simpa [List.getD_eq_getElem?_getD, show j < p.length by omega] using this⟩]
theorem idxZ_none {p : List Int} {c : Int} (hn : ∀ j, j < p.length → c ≠ p.getD j 0) : idxZ p c = -1 := by
  unfold idxZ
  rw [List.findIdx?_eq_none_iff.2 fun x hx => by
    obtain ⟨j, hj, rfl⟩ := List.getElem_of_mem hx
    have := hn j hj
    simpa [List.getD_eq_getElem?_getD, hj] using this]
theorem idxZ_mem (p : List Int) (c : Int) : decide (0 ≤ idxZ p c) = decide (c ∈ p) := by
  by_cases h : c ∈ p
  · rw [decide_eq_true h]
    refine decide_eq_true ?_
    unfold idxZ
    cases hf : p.findIdx? (fun x => decide (c = x)) with
    | some k => simp
    | none => have := List.findIdx?_eq_none_iff.1 hf c h; simp at this
  · rw [decide_eq_false h]
    refine decide_eq_false ?_
    rw [idxZ_none fun j hj e => h (by rw [e]; exact gMem hj)]
    decide
def ixT (p : List Int) (c : Int) (k : Nat) : St := { t := asg [(0, aInts p), (1, aI c), (4, aI 0), (7, aI p.length), (8, aI k)], h := hasg [], n := 0 }
def tbK2_143 := vj @ty3 (vj @ty22 (vj @ti3.eq_1 @ti22.eq_1))
def xbK2_1 := vj @aI.eq_1 (vj @aB.eq_1 (vj @aInts.eq_1 (vj @gInt (@eInt.eq_1))))
theorem index_fn (p : List Int) (c : Int) (hl : p.length ≤ maxLen) : FnV Try.prog 143 [aInts p, aI c] (aI (idxZ p c)) := by
  have env : Env (fun _ => True) Try.prog tyB (tab []) := mkEnv trivial
  refine Fn.of (A := fun _ => True) (n0 := 0) (D := noD) (Fn0 Try.func143 rfl (fun vs w => by kernel_rfl) (by kernel_rfl)) (by simp) (by simp [AV.ids, AV.idsL, aInts, aI]) (fun i o h => by cases h) (fun _ _ _ _ => trivial) noD_ok ?_
  repeat' (first | refine zq0 ?_ | refine zq1 ?_ | refine zq2 ?_ | refine zq3 ?_ | refine zq4 ?_ | refine zq5 ?_ | refine uv ?_ | refine uk ?_ | refine uw ?_ | refine uz ?_ | refine uj ?_ | refine ux ?_ | refine uq (by decide) ?_ | ((first | refine vx env fun Q hQ => ?_ | refine vz fun Q hQ => ?_); simp only [vkt, seval, tbK2_143, xbK2_1, ixT]; (try simp only [ite_and]); (repeat' (first | with_reducible assumption | refine And.intro ?_ ?_ | intro hp)); all_goals (first | (refine hQ _ ?_; clear hQ Q) | (refine hQ _ (fun h => ?_) (fun h => ?_) <;> clear hQ Q <;> (try simp only [vki, reduceCtorEq] at h)) | omega | assumption | with_reducible rfl | (refine vq ?_; kernel_rfl) | skip)))
  refine sym_loop (fun k : { k : Nat // k ≤ p.length ∧ ∀ j, j < k → c ≠ p.getD j 0 } => ixT p c k.1) (fun k => p.length - k.1) ⟨0, Nat.zero_le _, fun j h => by omega⟩ ?_ fun ⟨k, hk, hn⟩ => ?_
  · (refine Le.ok some [] ?_; constructor; all_goals (try simp only [vle, vkt, seval, tbK2_143, xbK2_1, ixT]))
    all_goals first | rfl | (simp; done)
  by_cases hlt : k < p.length
  · have d1 : decide ((k : Int) < (p.length : Int)) = true := decide_eq_true (by omega)
    have e9 := wrap_succ hlt hl
    by_cases hc : c = p.getD k 0
    · have d2 : decide (c = p.getD k 0) = true := decide_eq_true hc
      have hz := idxZ_hit hlt hc hn
      repeat' (first | refine zq0 ?_ | refine zq1 ?_ | refine zq2 ?_ | refine zq3 ?_ | refine zq4 ?_ | refine zq5 ?_ | refine uv ?_ | refine uk ?_ | refine uw ?_ | refine uz ?_ | refine uj ?_ | refine ux ?_ | refine uq (by decide) ?_ | ((first | refine vx env fun Q hQ => ?_ | refine vz fun Q hQ => ?_); simp only [vkt, seval, tbK2_143, xbK2_1, ixT, d1, d2]; (try simp only [ite_and]); (repeat' (first | with_reducible assumption | refine And.intro ?_ ?_ | intro hp)); all_goals (first | (refine hQ _ ?_; clear hQ Q) | (refine hQ _ (fun h => ?_) (fun h => ?_) <;> clear hQ Q <;> (try simp only [vki, reduceCtorEq] at h)) | omega | assumption | with_reducible rfl | (refine vq ?_; kernel_rfl) | skip)))
      (simp only [vrt, Try.results143, vkt, seval, tbK2_143, xbK2_1, ixT]; refine Fin.val rfl ?_; (try simp only [AV.le, AV.leL]))
      all_goals first | rfl | (simp [hz]; done)
    · have d2 : decide (c = p.getD k 0) = false := decide_eq_false hc
      repeat' (first | refine zq0 ?_ | refine zq1 ?_ | refine zq2 ?_ | refine zq3 ?_ | refine zq4 ?_ | refine zq5 ?_ | refine uv ?_ | refine uk ?_ | refine uw ?_ | refine uz ?_ | refine uj ?_ | refine ux ?_ | refine uq (by decide) ?_ | ((first | refine vx env fun Q hQ => ?_ | refine vz fun Q hQ => ?_); simp only [vkt, seval, tbK2_143, xbK2_1, ixT, d1, d2, e9]; (try simp only [ite_and]); (repeat' (first | with_reducible assumption | refine And.intro ?_ ?_ | intro hp)); all_goals (first | (refine hQ _ ?_; clear hQ Q) | (refine hQ _ (fun h => ?_) (fun h => ?_) <;> clear hQ Q <;> (try simp only [vki, reduceCtorEq] at h)) | omega | assumption | with_reducible rfl | (refine vq ?_; kernel_rfl) | skip)))
      refine ⟨⟨k + 1, hlt, fun j hj => ?_⟩, by show p.length - (k + 1) < p.length - k; omega, ?_⟩
      · rcases Nat.lt_or_eq_of_le (Nat.le_of_lt_succ hj) with h | h
        · exact hn j h
        · rw [h]; exact hc
      · (refine Le.ok some [] ?_; constructor; all_goals (try simp only [vle, vkt, seval, tbK2_143, xbK2_1, ixT]))
        all_goals first | rfl | (simp; done)
  · have d1 : decide ((k : Int) < (p.length : Int)) = false := decide_eq_false (by omega)
    have hz := idxZ_none (p := p) (c := c) fun j hj => hn j (by omega)
    repeat' (first | refine zq0 ?_ | refine zq1 ?_ | refine zq2 ?_ | refine zq3 ?_ | refine zq4 ?_ | refine zq5 ?_ | refine uv ?_ | refine uk ?_ | refine uw ?_ | refine uz ?_ | refine uj ?_ | refine ux ?_ | refine uq (by decide) ?_ | ((first | refine vx env fun Q hQ => ?_ | refine vz fun Q hQ => ?_); simp only [vkt, seval, tbK2_143, xbK2_1, ixT, d1]; (try simp only [ite_and]); (repeat' (first | with_reducible assumption | refine And.intro ?_ ?_ | intro hp)); all_goals (first | (refine hQ _ ?_; clear hQ Q) | (refine hQ _ (fun h => ?_) (fun h => ?_) <;> clear hQ Q <;> (try simp only [vki, reduceCtorEq] at h)) | omega | assumption | with_reducible rfl | (refine vq ?_; kernel_rfl) | skip)))
    (simp only [vrt, Try.results143, vkt, seval, tbK2_143, xbK2_1, ixT]; refine Fin.val rfl ?_; (try simp only [AV.le, AV.leL]))
    all_goals first | rfl | (simp [hz]; done)
def c143 : List AV → Prop × AV
  | [.sl xs, .v (.int .i64 c)] => (xs = (xs.map dInt).map eInt ∧ xs.length ≤ maxLen, aI (idxZ (xs.map dInt) c))
  | _ => (False, .junk)
theorem d143 {A : Frm → Prop} : EntryOK A Try.prog 143 (valE true c143) := valE_ok fun vs hv h => by
  clear hv
  unfold c143 at h ⊢
  split at h
  · refine ⟨by simp [AV.plain, aI], fun _ => by simp [AV.flat, aI], ?_⟩
    rename_i xs c
    have := index_fn (xs.map dInt) c (by rw [List.length_map]; exact h.2)
    simp only [aInts, ← h.1] at this
    exact this
  · exact h.elim
def tbK2_121 := vj @ty3 @ti3.eq_1
def xbK2_2 := vj @aI.eq_1 (vj @aB.eq_1 (vj @aInts.eq_1 (@mInt)))
theorem has_fn (p : List Int) (c : Int) (hl : p.length ≤ maxLen) : FnV Try.prog 121 [aInts p, aI c] (aB (decide (c ∈ p))) := by
  have env : Env (fun _ => True) Try.prog tyB (tab [(143, valE true c143)]) := mkEnv ⟨d143, trivial⟩
  refine Fn.of (A := fun _ => True) (n0 := 0) (D := noD) (Fn0 Try.func121 rfl (fun vs w => by kernel_rfl) (by kernel_rfl)) (by simp) (by simp [AV.ids, AV.idsL, aInts, aI]) (fun i o h => by cases h) (fun _ _ _ _ => trivial) noD_ok ?_
  have hz := idxZ_mem p c
  repeat' (first | refine zq0 ?_ | refine zq1 ?_ | refine zq2 ?_ | refine zq3 ?_ | refine zq4 ?_ | refine zq5 ?_ | refine uv ?_ | refine uk ?_ | refine uw ?_ | refine uz ?_ | refine uj ?_ | refine ux ?_ | refine uq (by decide) ?_ | ((first | refine vx env fun Q hQ => ?_ | refine vz fun Q hQ => ?_); simp only [vkt, seval, tbK2_121, xbK2_2, c143, hz]; (try simp only [ite_and]); (repeat' (first | with_reducible assumption | refine And.intro ?_ ?_ | intro hp)); all_goals (first | (refine hQ _ ?_; clear hQ Q) | (refine hQ _ (fun h => ?_) (fun h => ?_) <;> clear hQ Q <;> (try simp only [vki, reduceCtorEq] at h)) | omega | assumption | with_reducible rfl | (refine vq ?_; kernel_rfl) | skip)))
  (simp only [vrt, Try.results121, vkt, seval, tbK2_121, xbK2_2, c143]; refine Fin.val rfl ?_; (try simp only [AV.le, AV.leL]))
  all_goals first | rfl | (simp [hz]; done)
def c121 : List AV → Prop × AV
  | [.sl xs, .v (.int .i64 c)] => (xs = (xs.map dInt).map eInt ∧ xs.length ≤ maxLen, aB (decide (c ∈ xs.map dInt)))
  | _ => (False, .junk)
theorem d121 {A : Frm → Prop} : EntryOK A Try.prog 121 (valE true c121) := valE_ok fun vs hv h => by
  clear hv
  unfold c121 at h ⊢
  split at h
  · refine ⟨by simp [AV.plain, aB], fun _ => by simp [AV.flat, aB], ?_⟩
    rename_i xs c
    have := has_fn (xs.map dInt) c (by rw [List.length_map]; exact h.2)
    simp only [aInts, ← h.1] at this
    exact this
  · exact h.elim
structure Cap (l : Led) (d c n : Int) : Prop where
  nn : 0 ≤ n
  le : ((n : Int) : Rat) * rq l d c ≤ ((19980 : Int) : Rat)
theorem rq_pos {l : Led} {d c : Int} (h : Rt l d c) : 0 < rq l d c := Rat.lt_of_le_of_ne (Rat.num_nonneg.1 (by have := h.n0; omega)) (Ne.symm (num_pos (by have := h.n0; omega)))
theorem i_nn {n : Int} (h : 0 ≤ n) : (0 : Rat) ≤ ((n : Int) : Rat) := by
  have : ((0 : Int) : Rat) ≤ ((n : Int) : Rat) := Rat.intCast_le_intCast.2 h
  simpa using this
theorem Cap.bd {l : Led} {d c n : Int} (h : Cap l d c n) (hr : Rt l d c) : n ≤ 300000 := by
  have h1 := Rat.mul_le_mul_of_nonneg_right h.le (i_nn (n := ((rq l d c).den : Int)) (Int.natCast_nonneg _))
  rw [Rat.mul_assoc, q_mul, ← Rat.intCast_mul, ← Rat.intCast_mul] at h1
  have h2 := Rat.intCast_le_intCast.1 h1
  have h3 : n * 1 ≤ n * (rq l d c).num := Int.mul_le_mul_of_nonneg_left hr.n0 h.nn
  have := hr.e1
  omega
theorem Cap.step {l : Led} {d a b n : Int} (h : Cap l d a n) (h1 : Rt l d a) (h2 : Rt l d b) : Cap l d b (swapQ l d a b n).floor := by
  refine ⟨Rat.le_floor_iff.2 (by simpa using (swapQ_nn h1 h2 h.nn).2), ?_⟩
  refine Rat.le_trans (floor_mul_le (rq_pos h2)) ?_
  rw [Rat.mul_comm]; exact h.le
theorem cap_start {l : Led} {d c n : Int} (hr : Rt l d c) (h0 : 0 ≤ n) (h1 : n ≤ 999) : Cap l d c n := by
  refine ⟨h0, ?_⟩
  have h2 : rq l d c ≤ ((20 : Int) : Rat) := by simpa using (bd_iff.1 (rt_bd hr)).2.1
  refine Rat.le_trans (Rat.mul_le_mul_of_nonneg_left h2 (i_nn h0)) ?_
  rw [← Rat.intCast_mul]
  exact Rat.intCast_le_intCast.2 (by omega)
theorem Cap.fl {l : Led} {d a b n : Int} (h : Cap l d a n) (h1 : Rt l d a) (h2 : Rt l d b) : FlOk (swapQ l d a b n) := by
  have hb := h.bd h1
  have hn := h.nn
  have hw := w_nd h1 (n := n) (by omega)
  exact sm_fl (sm_div3 (w := rq l d a * (n : Rat)) (by omega) (by omega) (by have := h2.n0; omega) h2.n1 h2.e1)
end Go.Sym.B
namespace Go.Sym.B
open Go Go.Sym Go.Proofs Go.Sym.C
def swF (l : Led) (d a b n : Int) : Int := (swapQ l d a b n).floor
def beH (l : Led) (d to : Int) (s : List Int × Int) : List (Nat × AObj) := [(0, .cells [.v (.int .i64 to)]), (1, .cells [.v (.int .i64 s.2)]), (2, .cells [.sl (s.1.map eInt)]), (3, .cells (cLed l)), (4, .cells [.clo 120 [.ptr 0 0, .ptr 1 0, .ptr 2 0, .ptr 3 0, .ptr 4 0, .ptr 5 0]]), (5, .cells [.v (.int .i64 d)])]
structure BeOk (l : Led) (d : Int) (p : List Int) (n : Int) (m : Nat) : Prop where
  fit : Fit l
  way : Way l.coins.length p
  len : p.length + m = l.coins.length
  rt : ∀ c : Int, 0 ≤ c → c < l.coins.length → Rt l d c
  cap : Cap l d (p.getLastD 0) n
def BeFn (m : Nat) : Prop := ∀ (l : Led) (d to : Int) (p : List Int) (n : Int) (s : List Int × Int), BeOk l d p n m → s.1.length ≤ 20 → Fn noB Try.prog 120 [aInts p, aI n, .ptr 0 0, .ptr 1 0, .ptr 2 0, .ptr 3 0, .ptr 4 0, .ptr 5 0] (hasg (beH l d to s)) (.tup []) (hasg (beH l d to (dfs (swF l d) to l.coins.length m p n s))) 0
def p120 (M : Nat) (S : St) : List AV → Option Pk
  | [.row r, .v (.int .i64 n), .ptr a 0, .ptr b 0, .ptr c 0, .ptr e 0, .ptr f 0, .ptr g 0] => match S.h r, S.h a, S.h b, S.h c, S.h e, S.h f, S.h g with
    | some (.row 3 1 pp), some (.cells [.v (.int .i64 to)]), some (.cells [.v (.int .i64 got)]), some (.cells [.sl way]), some (.cells [.sl cs, .sl rs, .sl ss, .sl es]), some (.cells [.clo 120 [.ptr a' 0, .ptr b' 0, .ptr c' 0, .ptr e' 0, .ptr f' 0, .ptr g' 0]]), some (.cells [.v (.int .i64 d)]) =>
      some { pre := a' = a ∧ b' = b ∧ c' = c ∧ e' = e ∧ f' = f ∧ g' = g ∧ pp = (pp.map dInt).map eInt ∧ way = (way.map dInt).map eInt ∧ isL cs rs ss es ∧ pp.length ≤ cs.length ∧ cs.length - pp.length < M ∧ BeOk (ldOf cs rs ss es) d (pp.map dInt) n (cs.length - pp.length) ∧ way.length ≤ 20, hs := [a, b, c, e, f, g], bo := [r], ar := [.sl pp, .v (.int .i64 n), .ptr 0 0, .ptr 1 0, .ptr 2 0, .ptr 3 0, .ptr 4 0, .ptr 5 0], L0 := [.cells [.v (.int .i64 to)], .cells [.v (.int .i64 got)], .cells [.sl way], .cells [.sl cs, .sl rs, .sl ss, .sl es], .cells [.clo 120 [.ptr 0 0, .ptr 1 0, .ptr 2 0, .ptr 3 0, .ptr 4 0, .ptr 5 0]], .cells [.v (.int .i64 d)]], v := .tup [], L1 := [some (.cells [.v (.int .i64 to)]), some (.cells [.v (.int .i64 (dfs (swF (ldOf cs rs ss es) d) to cs.length (cs.length - pp.length) (pp.map dInt) n (way.map dInt, got)).2)]), some (.cells [.sl ((dfs (swF (ldOf cs rs ss es) d) to cs.length (cs.length - pp.length) (pp.map dInt) n (way.map dInt, got)).1.map eInt)]), some (.cells [.sl cs, .sl rs, .sl ss, .sl es]), some (.cells [.clo 120 [.ptr 0 0, .ptr 1 0, .ptr 2 0, .ptr 3 0, .ptr 4 0, .ptr 5 0]]), some (.cells [.v (.int .i64 d)])] }
    | _, _, _, _, _, _, _ => none
  | _ => none
theorem e120 {A : Frm → Prop} {M : Nat} (ih : ∀ m, m < M → BeFn m) : EntryOK A Try.prog 120 (fnE (p120 M)) := fnE_ok fun S bs q h hp => by
  unfold p120 at h
  split at h
  · split at h
    · rename_i r n a b c e f g _ _ _ _ _ _ _ pp to got way cs rs ss es a' b' c' e' f' g' d _ _ _ _ _ _ _
      cases h
      obtain ⟨_, _, _, _, _, _, h1, h2, h3, h4, h5, h6, h7⟩ := hp
      have := ih _ h5 (ldOf cs rs ss es) d to (pp.map dInt) n (way.map dInt, got) h6 (by simpa using h7)
      simp only [beH, aInts, aI, ← h1, ← h2, cLed_of' h3, show (ldOf cs rs ss es).coins.length = cs.length by simp [ldOf]] at this
      exact this
    · cases h
  · cases h
theorem bst_len {s : List Int × Int} {p : List Int} {n : Int} {L : Nat} (h1 : s.1.length ≤ L) (h2 : p.length ≤ L) : (bst s p n).1.length ≤ L := by
  unfold bst; split <;> assumption
theorem dfs_len {f : Int → Int → Int → Int} {to : Int} {N : Nat} : ∀ {m : Nat} {p : List Int} {n : Int} {s : List Int × Int}, s.1.length ≤ 20 → p.length + m ≤ 20 → (dfs f to N m p n s).1.length ≤ 20
  | 0, p, n, s, h1, h2 => by
    simp only [dfs]; split
    · exact bst_len h1 (by omega)
    · exact h1
  | m + 1, p, n, s, h1, h2 => by
    simp only [dfs]; split
    · exact bst_len h1 (by omega)
    · have key : ∀ (l : List Nat) (s : List Int × Int), s.1.length ≤ 20 → (l.foldl (fun s (c : Nat) => if (c : Int) ∈ p then s else dfs f to N m (p ++ [(c : Int)]) (f (p.getLastD 0) c n) s) s).1.length ≤ 20 := by
        intro l
        induction l with
        | nil => intro s h; exact h
        | cons c l ih =>
          intro s h
          rw [List.foldl_cons]
          refine ih _ ?_
          split
          · exact h
          · exact dfs_len h (by simp; omega)
      exact key _ _ h1
theorem dfsK_len {f : Int → Int → Int → Int} {to : Int} {N m : Nat} {p : List Int} {n : Int} {s : List Int × Int} (h1 : s.1.length ≤ 20) (h2 : p.length + m + 1 ≤ 20) : ∀ k, (dfsK f to N m p n s k).1.length ≤ 20
  | 0 => h1
  | k + 1 => by
    rw [dfsK_succ]; split
    · exact dfsK_len h1 h2 k
    · exact dfs_len (dfsK_len h1 h2 k) (by simp; omega)
theorem lastD_get {p : List Int} (h : p ≠ []) : p.getD (p.length - 1) 0 = p.getLastD 0 := by
  rw [List.getLastD_eq_getLast?, List.getLast?_eq_getElem?, List.getD_eq_getElem?_getD]
def beT (l : Led) (d to : Int) (p : List Int) (n : Int) (s : List Int × Int) (k : Nat) : St := { t := asg [(0, aInts p), (1, aI n), (2, .ptr 0 0), (3, .ptr 1 0), (4, .ptr 2 0), (5, .ptr 3 0), (6, .ptr 4 0), (7, .ptr 5 0), (10, aI (p.getLastD 0)), (40, aI l.coins.length), (41, aI k)], h := hasg (beH l d to s), n := 6, m := 6 }
def tbK3_120 := vj @ty3 (vj @ty22 (vj @ty28 (vj @ty38 (vj @ty137 (vj @ti3.eq_1 (vj @ti22.eq_1 (vj @ti28.eq_1 (vj @ti38.eq_1 @ti137.eq_1))))))))
def xbK3_1 := vj @aI.eq_1 (vj @aB.eq_1 (vj @aLed.eq_1 (vj @cLed.eq_1 (vj @aInts.eq_1 (vj @aSh.eq_1 (vj @shQ.eq_1 (vj @p88.eq_1 (vj @p88.eq_2 (vj @p88.eq_3 (vj @c89.eq_1 (vj @c89.eq_2 (vj @s90.eq_1 (vj @s90.eq_2 (vj @isL_e (vj @ldOf_e (vj @isQ_q (vj @qI_q (vj @mInt (vj @rInt (vj @eInt.eq_1 (vj @gInt (vj @gInts (@eInts.eq_1)))))))))))))))))))))))
set_option maxRecDepth 100000 in
set_option maxHeartbeats 4000000 in
theorem best_all (m : Nat) : BeFn m := by
  induction m using Nat.strongRecOn with
  | _ m ih =>
    intro l d to p n s hg hs
    have env : Env (fun _ => True) Try.prog tyB (tab [(121, valE true c121), (88, fnE p88), (89, valE true c89), (90, valE true s90), (120, fnE (p120 m))]) := mkEnv ⟨d121, e88, d89, e90, e120 ih, trivial⟩
    refine Fn.of (A := fun _ => True) (n0 := 6) (D := noD) (Fn0 Try.func120 rfl (fun vs w => by kernel_rfl) (by kernel_rfl)) (by simp) (by simp [AV.ids, AV.idsL, aInts, aI]) ?_ (fun _ _ _ _ => trivial) noD_ok ?_
    · intro i o hi
      have h := hasg_mem hi
      simp [beH] at h
      rcases h with ⟨rfl, rfl⟩ | ⟨rfl, rfl⟩ | ⟨rfl, rfl⟩ | ⟨rfl, rfl⟩ | ⟨rfl, rfl⟩ | ⟨rfl, rfl⟩ <;> simp [cLed, AObj.ids, AV.ids, AV.idsL]
    have hf := hg.fit
    have hW := hg.way
    have hne : 0 < p.length := List.length_pos_iff.2 hW.ne
    have hpl : p.length ≤ 20 := by have := hg.len; have := hf.c; omega
    have hpm : p.length ≤ maxLen := by have := tmax; omega
    have big : (100000 : Nat) ≤ maxLen := by decide
    have hlast := lastD_get hW.ne
    have hlb := hW.last
    obtain ⟨q, hq⟩ : ∃ q, p.getLastD 0 = q := ⟨_, rfl⟩
    rw [hq] at hlast hlb
    have w1 : IntKind.wrap .i64 ((p.length : Int) - 1) = ((p.length - 1 : Nat) : Int) := by rw [wrap64 (by omega) (by omega)]; omega
    have g1 : (p.map eInt).getD (p.length - 1) [.v (.int .i64 0)] = [.v (.int .i64 q)] := by rw [gInt, hlast]; rfl
    by_cases ht : q = to
    · have t1 : decide (q = to) = true := decide_eq_true ht
      have hd : dfs (swF l d) to l.coins.length m p n s = bst s p n := by cases m <;> (simp only [dfs]; rw [if_pos (by rw [hq]; exact ht)])
      rw [hd]
      by_cases c1 : s.2 < n
      · have k1 : decide (s.2 < n) = true := decide_eq_true c1
        rw [show bst s p n = (p, n) from if_pos (.inl c1)]
        repeat' (first | refine zq0 ?_ | refine zq1 ?_ | refine zq2 ?_ | refine zq3 ?_ | refine zq4 ?_ | refine zq5 ?_ | refine uv ?_ | refine uk ?_ | refine uw ?_ | refine uz ?_ | refine uj ?_ | refine ux ?_ | refine uq (by decide) ?_ | ((first | refine vx env fun Q hQ => ?_ | refine vz fun Q hQ => ?_); simp only [vkt, seval, tbK3_120, xbK3_1, beH, beT, p120, c121, w1, g1, t1, k1]; (try simp only [ite_and]); (repeat' (first | with_reducible assumption | refine And.intro ?_ ?_ | intro hp)); all_goals (first | (refine hQ _ ?_; clear hQ Q) | (refine hQ _ (fun h => ?_) (fun h => ?_) <;> clear hQ Q <;> (try simp only [vki, reduceCtorEq] at h)) | omega | assumption | with_reducible rfl | (refine vq ?_; kernel_rfl) | skip)))
        (simp only [vrt, Try.results120, vkt, seval, tbK3_120, xbK3_1, beH, beT, p120, c121]; refine Fin.ok some [] ?_ ?_ ?_ ?_ ?_ rfl; all_goals (try simp only [vle, vkt, seval, tbK3_120, xbK3_1, beH, beT, p120, c121]))
        all_goals first | rfl | (simp; done)
      have k1 : decide (s.2 < n) = false := decide_eq_false c1
      by_cases c2 : n = s.2
      · have k2 : decide (n = s.2) = true := decide_eq_true c2
        by_cases c3 : p.length < s.1.length
        · have k3 : decide ((p.length : Int) < (s.1.length : Int)) = true := decide_eq_true (by omega)
          rw [show bst s p n = (p, n) from if_pos (.inr ⟨c2, c3⟩)]
          repeat' (first | refine zq0 ?_ | refine zq1 ?_ | refine zq2 ?_ | refine zq3 ?_ | refine zq4 ?_ | refine zq5 ?_ | refine uv ?_ | refine uk ?_ | refine uw ?_ | refine uz ?_ | refine uj ?_ | refine ux ?_ | refine uq (by decide) ?_ | ((first | refine vx env fun Q hQ => ?_ | refine vz fun Q hQ => ?_); simp only [vkt, seval, tbK3_120, xbK3_1, beH, beT, p120, c121, w1, g1, t1, k1, k2, k3]; (try simp only [ite_and]); (repeat' (first | with_reducible assumption | refine And.intro ?_ ?_ | intro hp)); all_goals (first | (refine hQ _ ?_; clear hQ Q) | (refine hQ _ (fun h => ?_) (fun h => ?_) <;> clear hQ Q <;> (try simp only [vki, reduceCtorEq] at h)) | omega | assumption | with_reducible rfl | (refine vq ?_; kernel_rfl) | skip)))
          (simp only [vrt, Try.results120, vkt, seval, tbK3_120, xbK3_1, beH, beT, p120, c121]; refine Fin.ok some [] ?_ ?_ ?_ ?_ ?_ rfl; all_goals (try simp only [vle, vkt, seval, tbK3_120, xbK3_1, beH, beT, p120, c121]))
          all_goals first | rfl | (simp; done)
        · have k3 : decide ((p.length : Int) < (s.1.length : Int)) = false := decide_eq_false (by omega)
          rw [show bst s p n = s from if_neg (fun h => by rcases h with h | h; exact c1 h; exact c3 h.2)]
          repeat' (first | refine zq0 ?_ | refine zq1 ?_ | refine zq2 ?_ | refine zq3 ?_ | refine zq4 ?_ | refine zq5 ?_ | refine uv ?_ | refine uk ?_ | refine uw ?_ | refine uz ?_ | refine uj ?_ | refine ux ?_ | refine uq (by decide) ?_ | ((first | refine vx env fun Q hQ => ?_ | refine vz fun Q hQ => ?_); simp only [vkt, seval, tbK3_120, xbK3_1, beH, beT, p120, c121, w1, g1, t1, k1, k2, k3]; (try simp only [ite_and]); (repeat' (first | with_reducible assumption | refine And.intro ?_ ?_ | intro hp)); all_goals (first | (refine hQ _ ?_; clear hQ Q) | (refine hQ _ (fun h => ?_) (fun h => ?_) <;> clear hQ Q <;> (try simp only [vki, reduceCtorEq] at h)) | omega | assumption | with_reducible rfl | (refine vq ?_; kernel_rfl) | skip)))
          (simp only [vrt, Try.results120, vkt, seval, tbK3_120, xbK3_1, beH, beT, p120, c121]; refine Fin.ok some [] ?_ ?_ ?_ ?_ ?_ rfl; all_goals (try simp only [vle, vkt, seval, tbK3_120, xbK3_1, beH, beT, p120, c121]))
          all_goals first | rfl | (simp; done)
      · have k2 : decide (n = s.2) = false := decide_eq_false c2
        rw [show bst s p n = s from if_neg (fun h => by rcases h with h | h; exact c1 h; exact c2 h.1)]
        repeat' (first | refine zq0 ?_ | refine zq1 ?_ | refine zq2 ?_ | refine zq3 ?_ | refine zq4 ?_ | refine zq5 ?_ | refine uv ?_ | refine uk ?_ | refine uw ?_ | refine uz ?_ | refine uj ?_ | refine ux ?_ | refine uq (by decide) ?_ | ((first | refine vx env fun Q hQ => ?_ | refine vz fun Q hQ => ?_); simp only [vkt, seval, tbK3_120, xbK3_1, beH, beT, p120, c121, w1, g1, t1, k1, k2]; (try simp only [ite_and]); (repeat' (first | with_reducible assumption | refine And.intro ?_ ?_ | intro hp)); all_goals (first | (refine hQ _ ?_; clear hQ Q) | (refine hQ _ (fun h => ?_) (fun h => ?_) <;> clear hQ Q <;> (try simp only [vki, reduceCtorEq] at h)) | omega | assumption | with_reducible rfl | (refine vq ?_; kernel_rfl) | skip)))
        (simp only [vrt, Try.results120, vkt, seval, tbK3_120, xbK3_1, beH, beT, p120, c121]; refine Fin.ok some [] ?_ ?_ ?_ ?_ ?_ rfl; all_goals (try simp only [vle, vkt, seval, tbK3_120, xbK3_1, beH, beT, p120, c121]))
        all_goals first | rfl | (simp; done)
    · have t1 : decide (q = to) = false := decide_eq_false ht
      have ht' : p.getLastD 0 ≠ to := by rw [hq]; exact ht
      have hmk : ∀ k, k ≤ l.coins.length → m = 0 → True := fun _ _ _ => trivial
      obtain ⟨mm, fin⟩ : ∃ G : Nat → List Int × Int, G 0 = s ∧ (∀ k, k < l.coins.length → (G (k + 1) = if (k : Int) ∈ p then G k else dfs (swF l d) to l.coins.length (m - 1) (p ++ [(k : Int)]) (swF l d q k n) (G k)) ∧ ((k : Int) ∉ p → 0 < m)) ∧ (∀ k, (G k).1.length ≤ 20) ∧ G l.coins.length = dfs (swF l d) to l.coins.length m p n s := by
        cases m with
        | zero =>
          have hall : ∀ k, k < l.coins.length → (k : Int) ∈ p := fun k hk => nodup_full hW.nd hW.bd (by have := hg.len; omega) hk
          refine ⟨fun _ => s, rfl, fun k hk => ⟨by rw [if_pos (hall k hk)], fun h => absurd (hall k hk) h⟩, fun _ => hs, ?_⟩
          simp only [dfs]; rw [if_neg ht']
        | succ m =>
          refine ⟨dfsK (swF l d) to l.coins.length m p n s, rfl, fun k hk => ⟨by rw [dfsK_succ, hq]; rfl, fun _ => Nat.succ_pos _⟩, dfsK_len hs (by have := hg.len; have := hf.c; omega), (dfs_succ ht').symm⟩
      obtain ⟨f0, f1, f2, f3⟩ := fin
      rw [← f3]
      repeat' (first | refine zq0 ?_ | refine zq1 ?_ | refine zq2 ?_ | refine zq3 ?_ | refine zq4 ?_ | refine zq5 ?_ | refine uv ?_ | refine uk ?_ | refine uw ?_ | refine uz ?_ | refine uj ?_ | refine ux ?_ | refine uq (by decide) ?_ | ((first | refine vx env fun Q hQ => ?_ | refine vz fun Q hQ => ?_); simp only [vkt, seval, tbK3_120, xbK3_1, beH, beT, p120, c121, w1, g1, t1]; (try simp only [ite_and]); (repeat' (first | with_reducible assumption | refine And.intro ?_ ?_ | intro hp)); all_goals (first | (refine hQ _ ?_; clear hQ Q) | (refine hQ _ (fun h => ?_) (fun h => ?_) <;> clear hQ Q <;> (try simp only [vki, reduceCtorEq] at h)) | omega | assumption | with_reducible rfl | (refine vq ?_; kernel_rfl) | skip)))
      refine sym_loop (fun k : { k : Nat // k ≤ l.coins.length } => beT l d to p n (mm k.1) k.1) (fun k => l.coins.length - k.1) ⟨0, Nat.zero_le _⟩ ?_ fun ⟨k, hk⟩ => ?_
      · (refine Le.ok some [] ?_; constructor; all_goals (try simp only [vle, vkt, seval, tbK3_120, xbK3_1, beH, beT, p120, c121]))
        all_goals first | rfl | (rw [hq, f0]; done) | (rw [hq]; done) | (simp [f0, hq]; done)
      unfold beT
      rw [hq]
      by_cases hlt : k < l.coins.length
      · have d1 : decide ((k : Int) < (l.coins.length : Int)) = true := decide_eq_true (by omega)
        have e9 := wrap64 (n := (k : Int) + 1) (by omega) (by have := hf.c; omega)
        obtain ⟨f4, f5⟩ := f1 k hlt
        by_cases hm : (k : Int) ∈ p
        · have d2 : decide ((k : Int) ∈ p) = true := decide_eq_true hm
          rw [if_pos hm] at f4
          repeat' (first | refine zq0 ?_ | refine zq1 ?_ | refine zq2 ?_ | refine zq3 ?_ | refine zq4 ?_ | refine zq5 ?_ | refine uv ?_ | refine uk ?_ | refine uw ?_ | refine uz ?_ | refine uj ?_ | refine ux ?_ | refine uq (by decide) ?_ | ((first | refine vx env fun Q hQ => ?_ | refine vz fun Q hQ => ?_); simp only [vkt, seval, tbK3_120, xbK3_1, beH, beT, p120, c121, d1, d2, e9]; (try simp only [ite_and]); (repeat' (first | with_reducible assumption | refine And.intro ?_ ?_ | intro hp)); all_goals (first | (refine hQ _ ?_; clear hQ Q) | (refine hQ _ (fun h => ?_) (fun h => ?_) <;> clear hQ Q <;> (try simp only [vki, reduceCtorEq] at h)) | omega | assumption | with_reducible rfl | (refine vq ?_; kernel_rfl) | skip)))
          refine ⟨⟨k + 1, hlt⟩, by show l.coins.length - (k + 1) < l.coins.length - k; omega, ?_⟩
          (refine Le.ok some [] ?_; constructor; all_goals (try simp only [vle, vkt, seval, tbK3_120, xbK3_1, beH, beT, p120, c121]))
          all_goals first | rfl | (rw [hq]; done) | (simp [f4, hq]; done)
        · have d2 : decide ((k : Int) ∈ p) = false := decide_eq_false hm
          rw [if_neg hm] at f4
          have hm0 := f5 hm
          have R1 := hg.rt q hlb.1 hlb.2
          have R2 := hg.rt k (by omega) (by omega)
          have hcap := hg.cap
          rw [hq] at hcap
          have c0 := hcap.nn
          have c1 := hcap.bd R1
          have c2 := hcap.fl R1 R2
          have c3 := hcap.step R1 R2
          have hpc : p.map eInt ++ [[.v (.int .i64 (k : Int))]] = (p ++ [(k : Int)]).map eInt := by rw [List.map_append]; rfl
          have m1 : (p.length + 1) * 8 ≤ 140737488355328 ∧ p.length + 1 ≤ maxLen := by omega
          have m2 : p.length ≤ 100000 := by omega
          have l1 : (p ++ [(k : Int)]).length = p.length + 1 := by simp
          have l2 : l.coins.length - (p.length + 1) = m - 1 := by have := hg.len; omega
          have hG : BeOk l d (p ++ [(k : Int)]) (swapQ l d q k n).floor (l.coins.length - (p.length + 1)) := ⟨hf, hW.snoc hlt hm, by rw [l1]; have := hg.len; omega, hg.rt, by simpa using c3⟩
          have l3 : p.length + 1 ≤ l.coins.length ∧ l.coins.length - (p.length + 1) < m := by have := hg.len; omega
          have hsw : rq l d q * (n : Rat) / rq l d (k : Int) = swapQ l d q k n := rfl
          have f6 := f2 k
          obtain ⟨M0, hM0⟩ : ∃ x, mm k = x := ⟨_, rfl⟩
          rw [hM0] at f4 f6 ⊢
          obtain ⟨sw, sg⟩ := M0
          have f7 : sw.length ≤ 20 := f6
          rw [show swF l d q k n = (swapQ l d q k n).floor from rfl, ← l2] at f4
          repeat' (first | refine zq0 ?_ | refine zq1 ?_ | refine zq2 ?_ | refine zq3 ?_ | refine zq4 ?_ | refine zq5 ?_ | refine uv ?_ | refine uk ?_ | refine uw ?_ | refine uz ?_ | refine uj ?_ | refine ux ?_ | refine uq (by decide) ?_ | ((first | refine vx env fun Q hQ => ?_ | refine vz fun Q hQ => ?_); simp only [vkt, seval, tbK3_120, xbK3_1, beH, beT, p120, c121, d1, d2, e9, hpc, hsw, l1]; (try simp only [ite_and]); (repeat' (first | with_reducible assumption | refine And.intro ?_ ?_ | intro hp)); all_goals (first | (refine hQ _ ?_; clear hQ Q) | (refine hQ _ (fun h => ?_) (fun h => ?_) <;> clear hQ Q <;> (try simp only [vki, reduceCtorEq] at h)) | omega | assumption | with_reducible rfl | (refine vq ?_; kernel_rfl) | skip)))
          · exact ⟨_, _, rfl⟩
          refine ⟨⟨k + 1, hlt⟩, by show l.coins.length - (k + 1) < l.coins.length - k; omega, ?_⟩
          (refine Le.ok some [] ?_; constructor; all_goals (try simp only [vle, vkt, seval, tbK3_120, xbK3_1, beH, beT, p120, c121]))
          all_goals first | rfl | (rw [hq]; done) | (simp [f4, hq]; done)
      · have d1 : decide ((k : Int) < (l.coins.length : Int)) = false := decide_eq_false (by omega)
        have hkn : k = l.coins.length := by omega
        subst hkn
        repeat' (first | refine zq0 ?_ | refine zq1 ?_ | refine zq2 ?_ | refine zq3 ?_ | refine zq4 ?_ | refine zq5 ?_ | refine uv ?_ | refine uk ?_ | refine uw ?_ | refine uz ?_ | refine uj ?_ | refine ux ?_ | refine uq (by decide) ?_ | ((first | refine vx env fun Q hQ => ?_ | refine vz fun Q hQ => ?_); simp only [vkt, seval, tbK3_120, xbK3_1, beH, beT, p120, c121, d1]; (try simp only [ite_and]); (repeat' (first | with_reducible assumption | refine And.intro ?_ ?_ | intro hp)); all_goals (first | (refine hQ _ ?_; clear hQ Q) | (refine hQ _ (fun h => ?_) (fun h => ?_) <;> clear hQ Q <;> (try simp only [vki, reduceCtorEq] at h)) | omega | assumption | with_reducible rfl | (refine vq ?_; kernel_rfl) | skip)))
        (simp only [vrt, Try.results120, vkt, seval, tbK3_120, xbK3_1, beH, beT, p120, c121]; refine Fin.ok some [] ?_ ?_ ?_ ?_ ?_ rfl; all_goals (try simp only [vle, vkt, seval, tbK3_120, xbK3_1, beH, beT, p120, c121]))
        all_goals first | rfl | (simp; done)
end Go.Sym.B
namespace Go.Sym.B
open Go Go.Sym Go.Proofs Go.Sym.C
theorem flat_len {α : Type} {f : Nat → List α} {B : Nat} : ∀ (l : List Nat), (∀ c ∈ l, (f c).length ≤ B) → (l.flatMap f).length ≤ l.length * B
  | [], _ => by simp
  | c :: l, h => by
    have h1 := h c (by simp)
    have h2 := flat_len l fun c hc => h c (List.mem_cons_of_mem _ hc)
    rw [List.flatMap_cons, List.length_append, List.length_cons, Nat.add_mul]
    omega
theorem ways_len {to : Int} {N : Nat} (hN : N ≤ 4) : ∀ {m : Nat} {p : List Int}, (waysF to N m p).length ≤ 4 ^ m
  | 0, p => by simp only [waysF]; split <;> simp
  | m + 1, p => by
    have h4 : 1 ≤ 4 ^ (m + 1) := Nat.one_le_pow _ _ (by decide)
    simp only [waysF]; split
    · simpa using h4
    · refine Nat.le_trans (flat_len (B := 4 ^ m) _ fun c _ => ?_) ?_
      · split
        · simp
        · exact ways_len hN
      · rw [List.length_range, Nat.pow_succ, Nat.mul_comm]; exact Nat.mul_le_mul_left _ hN
theorem waysK_len {to : Int} {N m : Nat} (hN : N ≤ 4) (hm : m ≤ 4) {p : List Int} {k : Nat} (hk : k ≤ N) : (waysK to N m p k).length ≤ 1024 := by
  unfold waysK
  refine Nat.le_trans (flat_len (B := 4 ^ m) _ fun c _ => ?_) ?_
  · split
    · simp
    · exact ways_len hN
  · rw [List.length_range]
    have : 4 ^ m ≤ 4 ^ 4 := Nat.pow_le_pow_right (by decide) hm
    calc k * 4 ^ m ≤ 4 * 4 ^ 4 := Nat.mul_le_mul (by omega) this
      _ = 1024 := rfl
structure WyOk (N : Nat) (p : List Int) (m : Nat) : Prop where
  way : Way N p
  len : p.length + m = N
  n4 : N ≤ 4
def WaFn (m : Nat) : Prop := ∀ (N : Nat) (to : Int) (p : List Int), WyOk N p m → FnV Try.prog 66 [aInts p, aI to, aI N] (aIntss (waysF to N m p))
def c66 (M : Nat) : List AV → Prop × AV
  | [.sl xs, .v (.int .i64 to), .v (.int .i64 n)] => (xs = (xs.map dInt).map eInt ∧ 0 ≤ n ∧ n.toNat - xs.length < M ∧ WyOk n.toNat (xs.map dInt) (n.toNat - xs.length), .sl ((waysF to n.toNat (n.toNat - xs.length) (xs.map dInt)).map eInts))
  | _ => (False, .junk)
theorem d66 {A : Frm → Prop} {M : Nat} (ih : ∀ m, m < M → WaFn m) : EntryOK A Try.prog 66 (valE false (c66 M)) := valE_ok fun vs hv h => by
  clear hv
  unfold c66 at h ⊢
  split at h
  · rename_i xs to n
    obtain ⟨h1, h2, h3, h4⟩ := h
    refine ⟨by simp [AV.plain], fun h => absurd h (by decide), ?_⟩
    have := ih _ h3 n.toNat to (xs.map dInt) h4
    simp only [aInts, aI, aIntss, ← h1, Int.toNat_of_nonneg h2] at this
    exact this
  · exact h.elim
theorem mem_take_succ {p : List Int} {j : Nat} {c : Int} (h : j < p.length) : decide (c ∈ p.take (j + 1)) = (decide (c ∈ p.take j) || decide (p.getD j 0 = c)) := by
  rw [List.take_succ_eq_append_getElem h]
  have : p.getD j 0 = p[j] := by simp [List.getD_eq_getElem?_getD, h]
  rw [this]
  rw [Bool.eq_iff_iff]
  simp only [decide_eq_true_eq, Bool.or_eq_true, List.mem_append, List.mem_singleton]
  exact ⟨fun h => h.imp id Eq.symm, fun h => h.imp id Eq.symm⟩
def waT1 (N : Nat) (to : Int) (p : List Int) (W : List (List Int)) (k : Nat) : St := { t := asg [(0, aInts p), (1, aI to), (2, aI N), (6, .nil), (7, .row 0), (8, aI k)], h := hasg [(0, .row 22 1 (W.map eInts))], n := 1 }
def waT2 (N : Nat) (to : Int) (p : List Int) (W : List (List Int)) (k j : Nat) : St := { t := asg [(0, aInts p), (1, aI to), (2, aI N), (6, .nil), (7, .row 0), (8, aI k), (9, aB (decide ((k : Int) ∈ p.take j))), (10, aI j)], h := hasg [(0, .row 22 1 (W.map eInts))], n := 1 }
def tbK4_66 := vj @ty3 (vj @ty22 (vj @ty28 (vj @ti3.eq_1 (vj @ti22.eq_1 @ti28.eq_1))))
def xbK4_1 := vj @aI.eq_1 (vj @aB.eq_1 (vj @aInts.eq_1 (vj @aIntss.eq_1 (vj @mInt (vj @mInts (vj @rInt (vj @rInts (vj @eInt.eq_1 (vj @eInts.eq_1 (@gInt))))))))))
set_option maxRecDepth 100000 in
set_option maxHeartbeats 4000000 in
theorem ways_all (m : Nat) : WaFn m := by
  induction m using Nat.strongRecOn with
  | _ m ih =>
    intro N to p hg
    have env : Env (fun _ => True) Try.prog tyB (tab [(66, valE false (c66 m))]) := mkEnv ⟨d66 ih, trivial⟩
    refine Fn.of (A := fun _ => True) (n0 := 0) (D := noD) (Fn0 Try.func66 rfl (fun vs w => by kernel_rfl) (by kernel_rfl)) (by simp) (by simp [AV.ids, AV.idsL, aInts, aI]) (fun i o h => by cases h) (fun _ _ _ _ => trivial) noD_ok ?_
    have hW := hg.way
    have hne : 0 < p.length := List.length_pos_iff.2 hW.ne
    have hN := hg.n4
    have hpN := hg.len
    have big : (100000 : Nat) ≤ maxLen := by decide
    have hlast := lastD_get hW.ne
    obtain ⟨q, hq⟩ : ∃ q, p.getLastD 0 = q := ⟨_, rfl⟩
    rw [hq] at hlast
    have w1 : IntKind.wrap .i64 ((p.length : Int) - 1) = ((p.length - 1 : Nat) : Int) := by rw [wrap64 (by omega) (by omega)]; omega
    have g1 : (p.map eInt).getD (p.length - 1) [.v (.int .i64 0)] = [.v (.int .i64 q)] := by rw [gInt, hlast]; rfl
    by_cases ht : q = to
    · have t1 : decide (q = to) = true := decide_eq_true ht
      have hd : waysF to N m p = [p] := by cases m <;> (simp only [waysF]; rw [if_pos (by rw [hq]; exact ht)])
      rw [hd]
      repeat' (first | refine zq0 ?_ | refine zq1 ?_ | refine zq2 ?_ | refine zq3 ?_ | refine zq4 ?_ | refine zq5 ?_ | refine uv ?_ | refine uk ?_ | refine uw ?_ | refine uz ?_ | refine uj ?_ | refine ux ?_ | refine uq (by decide) ?_ | ((first | refine vx env fun Q hQ => ?_ | refine vz fun Q hQ => ?_); simp only [vkt, seval, tbK4_66, xbK4_1, waT1, waT2, c66, w1, g1, t1]; (try simp only [ite_and]); (repeat' (first | with_reducible assumption | refine And.intro ?_ ?_ | intro hp)); all_goals (first | (refine hQ _ ?_; clear hQ Q) | (refine hQ _ (fun h => ?_) (fun h => ?_) <;> clear hQ Q <;> (try simp only [vki, reduceCtorEq] at h)) | omega | assumption | with_reducible rfl | (refine vq ?_; kernel_rfl) | skip)))
      (simp only [vrt, Try.results66, vkt, seval, tbK4_66, xbK4_1, waT1, waT2, c66]; refine Fin.val rfl ?_; (try simp only [AV.le, AV.leL]))
      all_goals first | rfl | (simp; done) | exact ⟨_, _, rfl⟩
    · have t1 : decide (q = to) = false := decide_eq_false ht
      have ht' : p.getLastD 0 ≠ to := by rw [hq]; exact ht
      obtain ⟨G, f0, f1, f2, f3⟩ : ∃ G : Nat → List (List Int), G 0 = [] ∧ (∀ k, k < N → (G (k + 1) = G k ++ if (k : Int) ∈ p then [] else waysF to N (m - 1) (p ++ [(k : Int)])) ∧ ((k : Int) ∉ p → 0 < m)) ∧ (∀ k, k ≤ N → (G k).length ≤ 1024) ∧ G N = waysF to N m p := by
        cases m with
        | zero =>
          have hall : ∀ k, k < N → (k : Int) ∈ p := fun k hk => nodup_full hW.nd hW.bd (by omega) hk
          refine ⟨fun _ => [], rfl, fun k hk => ⟨by rw [if_pos (hall k hk)]; rfl, fun h => absurd (hall k hk) h⟩, fun _ _ => by simp, ?_⟩
          simp only [waysF]; rw [if_neg ht']
        | succ m => exact ⟨waysK to N m p, rfl, fun k hk => ⟨waysK_succ .., fun _ => Nat.succ_pos _⟩, fun k hk => waysK_len hN (by omega) hk, (waysF_succ ht').symm⟩
      rw [← f3]
      repeat' (first | refine zq0 ?_ | refine zq1 ?_ | refine zq2 ?_ | refine zq3 ?_ | refine zq4 ?_ | refine zq5 ?_ | refine uv ?_ | refine uk ?_ | refine uw ?_ | refine uz ?_ | refine uj ?_ | refine ux ?_ | refine uq (by decide) ?_ | ((first | refine vx env fun Q hQ => ?_ | refine vz fun Q hQ => ?_); simp only [vkt, seval, tbK4_66, xbK4_1, waT1, waT2, c66, w1, g1, t1]; (try simp only [ite_and]); (repeat' (first | with_reducible assumption | refine And.intro ?_ ?_ | intro hp)); all_goals (first | (refine hQ _ ?_; clear hQ Q) | (refine hQ _ (fun h => ?_) (fun h => ?_) <;> clear hQ Q <;> (try simp only [vki, reduceCtorEq] at h)) | omega | assumption | with_reducible rfl | (refine vq ?_; kernel_rfl) | skip)))
      refine sym_loop (fun k : { k : Nat // k ≤ N } => waT1 N to p (G k.1) k.1) (fun k => N - k.1) ⟨0, Nat.zero_le _⟩ ?_ fun ⟨k, hk⟩ => ?_
      · (refine Le.ok (fun _ => none) [] ?_; constructor; all_goals (try simp only [vle, vkt, seval, tbK4_66, xbK4_1, waT1, waT2, c66]))
        all_goals first | rfl | (simp [f0]; done)
      by_cases hlt : k < N
      · have d1 : decide ((k : Int) < (N : Int)) = true := decide_eq_true (by omega)
        have e9 := wrap64 (n := (k : Int) + 1) (by omega) (by omega)
        obtain ⟨f4, f5⟩ := f1 k hlt
        have f6 := f2 k hk
        obtain ⟨W, hWk⟩ : ∃ W, G k = W := ⟨_, rfl⟩
        rw [hWk] at f4 f6 ⊢
        repeat' (first | refine zq0 ?_ | refine zq1 ?_ | refine zq2 ?_ | refine zq3 ?_ | refine zq4 ?_ | refine zq5 ?_ | refine uv ?_ | refine uk ?_ | refine uw ?_ | refine uz ?_ | refine uj ?_ | refine ux ?_ | refine uq (by decide) ?_ | ((first | refine vx env fun Q hQ => ?_ | refine vz fun Q hQ => ?_); simp only [vkt, seval, tbK4_66, xbK4_1, waT1, waT2, c66, d1]; (try simp only [ite_and]); (repeat' (first | with_reducible assumption | refine And.intro ?_ ?_ | intro hp)); all_goals (first | (refine hQ _ ?_; clear hQ Q) | (refine hQ _ (fun h => ?_) (fun h => ?_) <;> clear hQ Q <;> (try simp only [vki, reduceCtorEq] at h)) | omega | assumption | with_reducible rfl | (refine vq ?_; kernel_rfl) | skip)))
        refine sym_loop (fun j : { j : Nat // j ≤ p.length } => waT2 N to p W k j.1) (fun j => p.length - j.1) ⟨0, Nat.zero_le _⟩ ?_ fun ⟨j, hj⟩ => ?_
        · (refine Le.ok some [] ?_; constructor; all_goals (try simp only [vle, vkt, seval, tbK4_66, xbK4_1, waT1, waT2, c66]))
          all_goals first | rfl | (simp; done)
        by_cases hjl : j < p.length
        · have d2 : decide ((j : Int) < (p.length : Int)) = true := decide_eq_true (by omega)
          have e8 := wrap64 (n := (j : Int) + 1) (by omega) (by omega)
          have hms := mem_take_succ (c := (k : Int)) hjl
          obtain ⟨b, hb⟩ : ∃ b, decide ((k : Int) ∈ p.take j) = b := ⟨_, rfl⟩
          rw [hb] at hms
          cases b
          · repeat' (first | refine zq0 ?_ | refine zq1 ?_ | refine zq2 ?_ | refine zq3 ?_ | refine zq4 ?_ | refine zq5 ?_ | refine uv ?_ | refine uk ?_ | refine uw ?_ | refine uz ?_ | refine uj ?_ | refine ux ?_ | refine uq (by decide) ?_ | ((first | refine vx env fun Q hQ => ?_ | refine vz fun Q hQ => ?_); simp only [vkt, seval, tbK4_66, xbK4_1, waT1, waT2, c66, d2, e8, hb]; (try simp only [ite_and]); (repeat' (first | with_reducible assumption | refine And.intro ?_ ?_ | intro hp)); all_goals (first | (refine hQ _ ?_; clear hQ Q) | (refine hQ _ (fun h => ?_) (fun h => ?_) <;> clear hQ Q <;> (try simp only [vki, reduceCtorEq] at h)) | omega | assumption | with_reducible rfl | (refine vq ?_; kernel_rfl) | skip)))
            refine ⟨⟨j + 1, hjl⟩, by show p.length - (j + 1) < p.length - j; omega, ?_⟩
            (refine Le.ok some [] ?_; constructor; all_goals (try simp only [vle, vkt, seval, tbK4_66, xbK4_1, waT1, waT2, c66]))
            all_goals first | rfl | (rw [hms]; rfl) | (simp [hms]; done) | exact ⟨by rw [hms]; rfl, rfl⟩
          · repeat' (first | refine zq0 ?_ | refine zq1 ?_ | refine zq2 ?_ | refine zq3 ?_ | refine zq4 ?_ | refine zq5 ?_ | refine uv ?_ | refine uk ?_ | refine uw ?_ | refine uz ?_ | refine uj ?_ | refine ux ?_ | refine uq (by decide) ?_ | ((first | refine vx env fun Q hQ => ?_ | refine vz fun Q hQ => ?_); simp only [vkt, seval, tbK4_66, xbK4_1, waT1, waT2, c66, d2, e8, hb]; (try simp only [ite_and]); (repeat' (first | with_reducible assumption | refine And.intro ?_ ?_ | intro hp)); all_goals (first | (refine hQ _ ?_; clear hQ Q) | (refine hQ _ (fun h => ?_) (fun h => ?_) <;> clear hQ Q <;> (try simp only [vki, reduceCtorEq] at h)) | omega | assumption | with_reducible rfl | (refine vq ?_; kernel_rfl) | skip)))
            refine ⟨⟨j + 1, hjl⟩, by show p.length - (j + 1) < p.length - j; omega, ?_⟩
            (refine Le.ok some [] ?_; constructor; all_goals (try simp only [vle, vkt, seval, tbK4_66, xbK4_1, waT1, waT2, c66]))
            all_goals first | rfl | (rw [hms]; rfl) | (simp [hms]; done) | exact ⟨by rw [hms]; rfl, rfl⟩
        · have d2 : decide ((j : Int) < (p.length : Int)) = false := decide_eq_false (by omega)
          have hjn : j = p.length := by omega
          subst hjn
          unfold waT2
          rw [List.take_length]
          by_cases hm : (k : Int) ∈ p
          · have d3 : decide ((k : Int) ∈ p) = true := decide_eq_true hm
            rw [if_pos hm, List.append_nil] at f4
            repeat' (first | refine zq0 ?_ | refine zq1 ?_ | refine zq2 ?_ | refine zq3 ?_ | refine zq4 ?_ | refine zq5 ?_ | refine uv ?_ | refine uk ?_ | refine uw ?_ | refine uz ?_ | refine uj ?_ | refine ux ?_ | refine uq (by decide) ?_ | ((first | refine vx env fun Q hQ => ?_ | refine vz fun Q hQ => ?_); simp only [vkt, seval, tbK4_66, xbK4_1, waT1, waT2, c66, d2, d3, e9]; (try simp only [ite_and]); (repeat' (first | with_reducible assumption | refine And.intro ?_ ?_ | intro hp)); all_goals (first | (refine hQ _ ?_; clear hQ Q) | (refine hQ _ (fun h => ?_) (fun h => ?_) <;> clear hQ Q <;> (try simp only [vki, reduceCtorEq] at h)) | omega | assumption | with_reducible rfl | (refine vq ?_; kernel_rfl) | skip)))
            refine ⟨⟨k + 1, hlt⟩, by show N - (k + 1) < N - k; omega, ?_⟩
            (refine Le.ok some [] ?_; constructor; all_goals (try simp only [vle, vkt, seval, tbK4_66, xbK4_1, waT1, waT2, c66]))
            all_goals first | rfl | (simp [f4]; done)
          · have d3 : decide ((k : Int) ∈ p) = false := decide_eq_false hm
            rw [if_neg hm] at f4
            have hm0 := f5 hm
            have hpc : p.map eInt ++ [[.v (.int .i64 (k : Int))]] = (p ++ [(k : Int)]).map eInt := by rw [List.map_append]; rfl
            have l1 : (p ++ [(k : Int)]).length = p.length + 1 := by simp
            have l2 : N - (p.length + 1) = m - 1 := by omega
            have hG : WyOk N (p ++ [(k : Int)]) (N - (p.length + 1)) := ⟨hW.snoc hlt hm, by rw [l1]; omega, hN⟩
            have l3 : N - (p.length + 1) < m := by omega
            have f7 := f2 (k + 1) (by omega)
            rw [← l2] at f4
            obtain ⟨V, hV⟩ : ∃ V, waysF to N (N - (p.length + 1)) (p ++ [(k : Int)]) = V := ⟨_, rfl⟩
            rw [hV] at f4
            rw [f4, List.length_append] at f7
            have m1 : (p.length + 1) * 8 ≤ 140737488355328 ∧ p.length + 1 ≤ maxLen := by omega
            have m3 : p.length * 8 ≤ 140737488355328 ∧ p.length ≤ maxLen := by omega
            have m2 : (W.length + V.length) * 24 ≤ 140737488355328 ∧ W.length + V.length ≤ maxLen := by omega
            have ecc : W.map eInts ++ V.map eInts = (W ++ V).map eInts := by rw [List.map_append]
            repeat' (first | refine zq0 ?_ | refine zq1 ?_ | refine zq2 ?_ | refine zq3 ?_ | refine zq4 ?_ | refine zq5 ?_ | refine uv ?_ | refine uk ?_ | refine uw ?_ | refine uz ?_ | refine uj ?_ | refine ux ?_ | refine uq (by decide) ?_ | ((first | refine vx env fun Q hQ => ?_ | refine vz fun Q hQ => ?_); simp only [vkt, seval, tbK4_66, xbK4_1, waT1, waT2, c66, d2, d3, e9, hpc, l1, hV, ecc]; (try simp only [ite_and]); (repeat' (first | with_reducible assumption | refine And.intro ?_ ?_ | intro hp)); all_goals (first | (refine hQ _ ?_; clear hQ Q) | (refine hQ _ (fun h => ?_) (fun h => ?_) <;> clear hQ Q <;> (try simp only [vki, reduceCtorEq] at h)) | omega | assumption | with_reducible rfl | (refine vq ?_; kernel_rfl) | skip)))
            refine ⟨⟨k + 1, hlt⟩, by show N - (k + 1) < N - k; omega, ?_⟩
            (refine Le.ok (fun j => if j = 0 then some 4 else some j) [] ?_; constructor; all_goals (try simp only [vle, vkt, seval, tbK4_66, xbK4_1, waT1, waT2, c66]))
            all_goals first | rfl | (simp [f4]; done)
      · have d1 : decide ((k : Int) < (N : Int)) = false := decide_eq_false (by omega)
        have hkn : k = N := by omega
        subst hkn
        repeat' (first | refine zq0 ?_ | refine zq1 ?_ | refine zq2 ?_ | refine zq3 ?_ | refine zq4 ?_ | refine zq5 ?_ | refine uv ?_ | refine uk ?_ | refine uw ?_ | refine uz ?_ | refine uj ?_ | refine ux ?_ | refine uq (by decide) ?_ | ((first | refine vx env fun Q hQ => ?_ | refine vz fun Q hQ => ?_); simp only [vkt, seval, tbK4_66, xbK4_1, waT1, waT2, c66, d1]; (try simp only [ite_and]); (repeat' (first | with_reducible assumption | refine And.intro ?_ ?_ | intro hp)); all_goals (first | (refine hQ _ ?_; clear hQ Q) | (refine hQ _ (fun h => ?_) (fun h => ?_) <;> clear hQ Q <;> (try simp only [vki, reduceCtorEq] at h)) | omega | assumption | with_reducible rfl | (refine vq ?_; kernel_rfl) | skip)))
        (simp only [vrt, Try.results66, vkt, seval, tbK4_66, xbK4_1, waT1, waT2, c66]; refine Fin.val rfl ?_; (try simp only [AV.le, AV.leL]))
        all_goals first | rfl | exact ⟨_, _, rfl⟩ | (simp; done)
end Go.Sym.B
namespace Go.Sym.B
open Go Go.Sym Go.Proofs Go.Sym.C
structure AlOk (l : Led) (d : Int) (q : List Int) (n : Int) : Prop where
  ne : q ≠ []
  rt : ∀ c ∈ q, Rt l d c
  cap : Cap l d (q.getD 0 0) n
  len : q.length ≤ 20
theorem take_lastD {q : List Int} {i : Nat} (h : i < q.length) : (q.take (i + 1)).getLastD 0 = q.getD i 0 := by
  rw [List.take_succ_eq_append_getElem h, List.getLastD_concat]
  simp [List.getD_eq_getElem?_getD, h]
theorem along_take {f : Int → Int → Int → Int} {q : List Int} {n : Int} {i : Nat} (h : i + 1 < q.length) : alongL f (q.take (i + 2)) n = f (q.getD i 0) (q.getD (i + 1) 0) (alongL f (q.take (i + 1)) n) := by
  have hl : (q.take (i + 1)).length = i + 1 := by rw [List.length_take]; omega
  rw [List.take_succ_eq_append_getElem (i := i + 1) h, along_snoc f _ _ _ (fun e => by rw [e] at hl; simp at hl), take_lastD (by omega)]
  simp [List.getD_eq_getElem?_getD, h]
theorem AlOk.caps {l : Led} {d : Int} {q : List Int} {n : Int} (h : AlOk l d q n) : ∀ i, i < q.length → Cap l d (q.getD i 0) (alongL (swF l d) (q.take (i + 1)) n)
  | 0, hi => by
    have : q.take 1 = [q.getD 0 0] := by
      rw [List.take_succ_eq_append_getElem hi]; simp [List.getD_eq_getElem?_getD, hi]
    rw [this]; exact h.cap
  | i + 1, hi => by
    have ih := h.caps i (by omega)
    rw [along_take hi]
    exact ih.step (h.rt _ (gMem (by omega))) (h.rt _ (gMem hi))
def alT (l : Led) (d : Int) (q : List Int) (n : Int) (i : Nat) : St := { t := asg [(1, aI d), (2, aInts q), (3, aI (alongL (swF l d) (q.take (i + 1)) n)), (4, .ptr 0 0), (8, aI 0), (9, aI i)], h := hasg [(0, .cells (cLed l))], n := 1 }
def tbK5_122 := vj @ty3 (vj @ty22 (vj @ty38 (vj @ti3.eq_1 (vj @ti22.eq_1 @ti38.eq_1))))
def xbK5_1 := vj @aI.eq_1 (vj @aB.eq_1 (vj @aLed.eq_1 (vj @cLed.eq_1 (vj @aInts.eq_1 (vj @aSh.eq_1 (vj @shQ.eq_1 (vj @c109.eq_1 (vj @c109.eq_2 (vj @isL_e (vj @ldOf_e (vj @mInt (vj @eInt.eq_1 (@gInt)))))))))))))
theorem along_fn (l : Led) (d : Int) (q : List Int) (n : Int) (hA : AlOk l d q n) : FnV Try.prog 122 [aLed l, aI d, aInts q, aI n] (aI (alongL (swF l d) q n)) := by
  have env : Env (fun _ => True) Try.prog tyB (tab [(109, valE true c109)]) := mkEnv ⟨d109, trivial⟩
  refine Fn.of (A := fun _ => True) (n0 := 0) (D := noD) (Fn0 Try.func122 rfl (fun vs w => by kernel_rfl) (by kernel_rfl)) (by simp) (by simp [AV.ids, AV.idsL, aInts, aI, aLed, cLed]) (fun i o h => by cases h) (fun _ _ _ _ => trivial) noD_ok ?_
  have hql := hA.len
  have hq0 : 0 < q.length := List.length_pos_iff.2 hA.ne
  have h0 : alongL (swF l d) (q.take (0 + 1)) n = n := by
    rw [List.take_succ_eq_append_getElem hq0]; rfl
  repeat' (first | refine zq0 ?_ | refine zq1 ?_ | refine zq2 ?_ | refine zq3 ?_ | refine zq4 ?_ | refine zq5 ?_ | refine uv ?_ | refine uk ?_ | refine uw ?_ | refine uz ?_ | refine uj ?_ | refine ux ?_ | refine uq (by decide) ?_ | ((first | refine vx env fun Q hQ => ?_ | refine vz fun Q hQ => ?_); simp only [vkt, seval, tbK5_122, xbK5_1, alT]; (try simp only [ite_and]); (repeat' (first | with_reducible assumption | refine And.intro ?_ ?_ | intro hp)); all_goals (first | (refine hQ _ ?_; clear hQ Q) | (refine hQ _ (fun h => ?_) (fun h => ?_) <;> clear hQ Q <;> (try simp only [vki, reduceCtorEq] at h)) | omega | assumption | with_reducible rfl | (refine vq ?_; kernel_rfl) | skip)))
  refine sym_loop (fun i : { i : Nat // i < q.length } => alT l d q n i.1) (fun i => q.length - i.1) ⟨0, hq0⟩ ?_ fun ⟨i, hi⟩ => ?_
  · (refine Le.ok some [] ?_; constructor; all_goals (try simp only [vle, vkt, seval, tbK5_122, xbK5_1, alT]))
    all_goals first | rfl | (rw [h0]; done) | exact ⟨by rw [h0], rfl⟩
  have e9 := wrap64 (n := (i : Int) + 1) (by omega) (by omega)
  by_cases hlt : i + 1 < q.length
  · have d1 : decide ((i : Int) + 1 < (q.length : Int)) = true := decide_eq_true (by omega)
    have hc := hA.caps i hi
    have R1 := hA.rt _ (gMem (d := 0) hi)
    have R2 := hA.rt _ (gMem (d := 0) hlt)
    have hcb := hc.bd R1
    have hcn := hc.nn
    have hS := along_take (f := swF l d) (n := n) hlt
    have tn : ((i : Int) + 1).toNat = i + 1 := by omega
    have z0 : (0 : Int) ≤ (i : Int) + 1 := by omega
    obtain ⟨a, ha⟩ : ∃ a, q.getD i 0 = a := ⟨_, rfl⟩
    obtain ⟨b, hb⟩ : ∃ a, q.getD (i + 1) 0 = a := ⟨_, rfl⟩
    obtain ⟨v, hv⟩ : ∃ a, alongL (swF l d) (q.take (i + 1)) n = a := ⟨_, rfl⟩
    rw [ha] at R1
    rw [hb] at R2
    rw [hv] at hcb hcn
    rw [ha, hb, hv] at hS
    repeat' (first | refine zq0 ?_ | refine zq1 ?_ | refine zq2 ?_ | refine zq3 ?_ | refine zq4 ?_ | refine zq5 ?_ | refine uv ?_ | refine uk ?_ | refine uw ?_ | refine uz ?_ | refine uj ?_ | refine ux ?_ | refine uq (by decide) ?_ | ((first | refine vx env fun Q hQ => ?_ | refine vz fun Q hQ => ?_); simp only [vkt, seval, tbK5_122, xbK5_1, alT, e9, d1, tn, ha, hb, hv]; (try simp only [ite_and]); (repeat' (first | with_reducible assumption | refine And.intro ?_ ?_ | intro hp)); all_goals (first | (refine hQ _ ?_; clear hQ Q) | (refine hQ _ (fun h => ?_) (fun h => ?_) <;> clear hQ Q <;> (try simp only [vki, reduceCtorEq] at h)) | omega | assumption | with_reducible rfl | (refine vq ?_; kernel_rfl) | skip)))
    refine ⟨⟨i + 1, hlt⟩, by show q.length - (i + 1) < q.length - i; omega, ?_⟩
    (refine Le.ok some [] ?_; constructor; all_goals (try simp only [vle, vkt, seval, tbK5_122, xbK5_1, alT]))
    all_goals first | rfl | (rw [hS]; rfl) | exact ⟨by rw [hS]; rfl, rfl⟩
  · have d1 : decide ((i : Int) + 1 < (q.length : Int)) = false := decide_eq_false (by omega)
    have hin : q.take (i + 1) = q := List.take_of_length_le (by omega)
    repeat' (first | refine zq0 ?_ | refine zq1 ?_ | refine zq2 ?_ | refine zq3 ?_ | refine zq4 ?_ | refine zq5 ?_ | refine uv ?_ | refine uk ?_ | refine uw ?_ | refine uz ?_ | refine uj ?_ | refine ux ?_ | refine uq (by decide) ?_ | ((first | refine vx env fun Q hQ => ?_ | refine vz fun Q hQ => ?_); simp only [vkt, seval, tbK5_122, xbK5_1, alT, e9, d1, hin]; (try simp only [ite_and]); (repeat' (first | with_reducible assumption | refine And.intro ?_ ?_ | intro hp)); all_goals (first | (refine hQ _ ?_; clear hQ Q) | (refine hQ _ (fun h => ?_) (fun h => ?_) <;> clear hQ Q <;> (try simp only [vki, reduceCtorEq] at h)) | omega | assumption | with_reducible rfl | (refine vq ?_; kernel_rfl) | skip)))
    (simp only [vrt, Try.results122, vkt, seval, tbK5_122, xbK5_1, alT]; refine Fin.val rfl ?_; (try simp only [AV.le, AV.leL]))
    all_goals first | rfl | (simp; done)
def c122 : List AV → Prop × AV
  | [.agg [.sl cs, .sl rs, .sl ss, .sl es], .v (.int .i64 d), .sl xs, .v (.int .i64 n)] => (isL cs rs ss es ∧ xs = (xs.map dInt).map eInt ∧ AlOk (ldOf cs rs ss es) d (xs.map dInt) n, aI (alongL (swF (ldOf cs rs ss es) d) (xs.map dInt) n))
  | _ => (False, .junk)
theorem d122 {A : Frm → Prop} : EntryOK A Try.prog 122 (valE true c122) := valE_ok fun vs hv h => by
  clear hv
  unfold c122 at h ⊢
  split at h
  · refine ⟨by simp [AV.plain, aI], fun _ => by simp [AV.flat, aI], ?_⟩
    have := along_fn _ _ _ _ h.2.2
    simp only [aInts, ← h.2.1] at this
    rw [aLed_of h.1] at this
    exact this
  · exact h.elim
def bestW (l : Led) (d a b n : Int) : List Int × Int := dfs (swF l d) b l.coins.length (l.coins.length - 1) [a] n ([], -1)
def aBest (l : Led) (d a b n : Int) : AV := if chkSwapE l d a b n ≠ 0 then .tup [.sl [], aI 0, aI (chkSwapE l d a b n)] else .tup [aInts (bestW l d a b n).1, aI (bestW l d a b n).2, aI 0]
structure BwOk (l : Led) (d a b n : Int) : Prop where
  val : Val l
  way : Way l.coins.length [a]
  rt : ∀ c : Int, 0 ≤ c → c < l.coins.length → Rt l d c
  cap : Cap l d a n
  ab : a ≠ b
  b : 0 ≤ b ∧ b < l.coins.length
theorem bw_of {l : Led} {d a b n : Int} (h : chkSwapE l d a b n = 0) : BwOk l d a b n := by
  obtain ⟨v1, v2, v3, v4, v5, v6⟩ := chkSwap_ok h
  unfold chkSwapE at h
  split at h
  · exact absurd h ‹_›
  split at h
  · exact absurd h (by decide)
  rename_i a2
  split at h
  · exact absurd h (by decide)
  rename_i a3
  split at h
  · exact absurd h (by decide)
  rename_i a4
  have nf : ∀ {p : Bool}, ¬ (!p) = true → p = true := fun h => by simpa using h
  have b2 := inB_iff.1 (nf a2)
  have b3 := inB_iff.1 (nf a3)
  have b4 := inB_iff.1 (nf a4)
  exact ⟨v1, ⟨by simp, by simp, fun x hx => by rw [List.mem_singleton.1 hx]; omega⟩, fun c h0 h1 => val_rt v1 b2.1 b2.2 h0 (by omega), cap_start v2 v4 v5, v6, by omega⟩
def p120n (S : St) : List AV → Option Pk
  | [.row r, .v (.int .i64 n), .ptr a 0, .ptr b 0, .ptr c 0, .ptr e 0, .ptr f 0, .ptr g 0] => match S.h r, S.h a, S.h b, S.h c, S.h e, S.h f, S.h g with
    | some (.row 3 1 pp), some (.cells [.v (.int .i64 to)]), some (.cells [.v (.int .i64 got)]), some (.cells [.nil]), some (.cells [.sl cs, .sl rs, .sl ss, .sl es]), some (.cells [.clo 120 [.ptr a' 0, .ptr b' 0, .ptr c' 0, .ptr e' 0, .ptr f' 0, .ptr g' 0]]), some (.cells [.v (.int .i64 d)]) =>
      some { pre := a' = a ∧ b' = b ∧ c' = c ∧ e' = e ∧ f' = f ∧ g' = g ∧ pp = (pp.map dInt).map eInt ∧ isL cs rs ss es ∧ BeOk (ldOf cs rs ss es) d (pp.map dInt) n (cs.length - pp.length), hs := [a, b, c, e, f, g], bo := [r], ar := [.sl pp, .v (.int .i64 n), .ptr 0 0, .ptr 1 0, .ptr 2 0, .ptr 3 0, .ptr 4 0, .ptr 5 0], L0 := [.cells [.v (.int .i64 to)], .cells [.v (.int .i64 got)], .cells [.sl []], .cells [.sl cs, .sl rs, .sl ss, .sl es], .cells [.clo 120 [.ptr 0 0, .ptr 1 0, .ptr 2 0, .ptr 3 0, .ptr 4 0, .ptr 5 0]], .cells [.v (.int .i64 d)]], v := .tup [], L1 := [some (.cells [.v (.int .i64 to)]), some (.cells [.v (.int .i64 (dfs (swF (ldOf cs rs ss es) d) to cs.length (cs.length - pp.length) (pp.map dInt) n ([], got)).2)]), some (.cells [.sl ((dfs (swF (ldOf cs rs ss es) d) to cs.length (cs.length - pp.length) (pp.map dInt) n ([], got)).1.map eInt)]), some (.cells [.sl cs, .sl rs, .sl ss, .sl es]), some (.cells [.clo 120 [.ptr 0 0, .ptr 1 0, .ptr 2 0, .ptr 3 0, .ptr 4 0, .ptr 5 0]]), some (.cells [.v (.int .i64 d)])] }
    | _, _, _, _, _, _, _ => none
  | _ => none
theorem e120n {A : Frm → Prop} : EntryOK A Try.prog 120 (fnE p120n) := fnE_ok fun S bs q h hp => by
  unfold p120n at h
  split at h
  · split at h
    · rename_i r n a b c e f g _ _ _ _ _ _ _ pp to got cs rs ss es a' b' c' e' f' g' d _ _ _ _ _ _ _
      cases h
      obtain ⟨_, _, _, _, _, _, h1, h3, h6⟩ := hp
      have := best_all _ (ldOf cs rs ss es) d to (pp.map dInt) n ([], got) h6 (by simp)
      simp only [beH, aInts, aI, ← h1, cLed_of' h3, show (ldOf cs rs ss es).coins.length = cs.length by simp [ldOf], List.map_nil] at this
      exact this
    · cases h
  · cases h
def tbK5_62 := vj @ty3 (vj @ty22 (vj @ty30 (vj @ty38 (vj @ty137 (vj @ti3.eq_1 (vj @ti22.eq_1 (vj @ti30.eq_1 (vj @ti38.eq_1 @ti137.eq_1))))))))
def xbK5_2 := vj @aI.eq_1 (vj @aB.eq_1 (vj @aLed.eq_1 (vj @cLed.eq_1 (vj @aInts.eq_1 (vj @c106.eq_1 (vj @c106.eq_2 (vj @isL_e (vj @ldOf_e (vj @mInt (@eInt.eq_1))))))))))
set_option maxHeartbeats 4000000 in
theorem best_fn (l : Led) (d a b n : Int) (hl : Fit l) : FnV Try.prog 62 [aLed l, aI d, aI a, aI b, aI n] (aBest l d a b n) := by
  have env : Env (fun _ => True) Try.prog tyB (tab [(106, valE true c106), (120, fnE p120n)]) := mkEnv ⟨d106, e120n, trivial⟩
  refine Fn.of (A := fun _ => True) (n0 := 0) (D := noD) (Fn0 Try.func62 rfl (fun vs w => by kernel_rfl) (by kernel_rfl)) (by simp) (by simp [AV.ids, AV.idsL, aI, aLed, cLed]) (fun i o h => by cases h) (fun _ _ _ _ => trivial) noD_ok ?_
  by_cases c0 : chkSwapE l d a b n = 0
  · have hb := bw_of c0
    rw [show aBest l d a b n = _ from if_neg (by rw [c0]; simp)]
    have hc := hb.val.c
    have hG : BeOk l d [a] n (l.coins.length - 1) := ⟨hl, hb.way, by simp; omega, hb.rt, hb.cap⟩
    have hG' : BeOk l d [dInt [.v (.int .i64 a)]] n (l.coins.length - 1) := hG
    have hW : dfs (swF l d) b l.coins.length (l.coins.length - 1) [dInt [.v (.int .i64 a)]] n ([], -1) = bestW l d a b n := rfl
    have dIW : dInt [DV.v (.int .i64 a)] = a := rfl
    repeat' (first | refine zq0 ?_ | refine zq1 ?_ | refine zq2 ?_ | refine zq3 ?_ | refine zq4 ?_ | refine zq5 ?_ | refine uv ?_ | refine uk ?_ | refine uw ?_ | refine uz ?_ | refine uj ?_ | refine ux ?_ | refine uq (by decide) ?_ | ((first | refine vx env fun Q hQ => ?_ | refine vz fun Q hQ => ?_); simp only [vkt, seval, tbK5_62, xbK5_2, p120n, c0, dIW]; (try simp only [ite_and]); (repeat' (first | with_reducible assumption | refine And.intro ?_ ?_ | intro hp)); all_goals (first | (refine hQ _ ?_; clear hQ Q) | (refine hQ _ (fun h => ?_) (fun h => ?_) <;> clear hQ Q <;> (try simp only [vki, reduceCtorEq] at h)) | omega | assumption | with_reducible rfl | (refine vq ?_; kernel_rfl) | skip)))
    all_goals first | exact ⟨_, _, rfl⟩ | skip
    (simp only [vrt, Try.results62, vkt, seval, tbK5_62, xbK5_2, p120n]; refine Fin.val rfl ?_; (try simp only [AV.le, AV.leL]))
    all_goals first | rfl | (simp; done) | exact ⟨rfl, rfl, trivial, trivial⟩
  · rw [show aBest l d a b n = _ from if_pos c0]
    repeat' (first | refine zq0 ?_ | refine zq1 ?_ | refine zq2 ?_ | refine zq3 ?_ | refine zq4 ?_ | refine zq5 ?_ | refine uv ?_ | refine uk ?_ | refine uw ?_ | refine uz ?_ | refine uj ?_ | refine ux ?_ | refine uq (by decide) ?_ | ((first | refine vx env fun Q hQ => ?_ | refine vz fun Q hQ => ?_); simp only [vkt, seval, tbK5_62, xbK5_2, p120n, c0]; (try simp only [ite_and]); (repeat' (first | with_reducible assumption | refine And.intro ?_ ?_ | intro hp)); all_goals (first | (refine hQ _ ?_; clear hQ Q) | (refine hQ _ (fun h => ?_) (fun h => ?_) <;> clear hQ Q <;> (try simp only [vki, reduceCtorEq] at h)) | omega | assumption | with_reducible rfl | (refine vq ?_; kernel_rfl) | skip)))
    (simp only [vrt, Try.results62, vkt, seval, tbK5_62, xbK5_2, p120n]; refine Fin.val rfl ?_; (try simp only [AV.le, AV.leL]))
    all_goals first | rfl | (simp; done)
theorem aBest_plain (l : Led) (d a b n : Int) : (aBest l d a b n).plain := by
  unfold aBest aInts; split <;> simp [AV.plain, AV.plainL, aI]
def c62 : List AV → Prop × AV
  | [.agg [.sl cs, .sl rs, .sl ss, .sl es], .v (.int .i64 d), .v (.int .i64 a), .v (.int .i64 b), .v (.int .i64 n)] => (isL cs rs ss es ∧ Fit (ldOf cs rs ss es), aBest (ldOf cs rs ss es) d a b n)
  | _ => (False, .junk)
theorem d62 {A : Frm → Prop} : EntryOK A Try.prog 62 (valE false c62) := valE_ok fun vs hv h => by
  clear hv
  unfold c62 at h ⊢
  split at h
  · refine ⟨aBest_plain _ _ _ _ _, fun h => absurd h (by decide), ?_⟩
    rw [← aLed_of h.1]; exact best_fn _ _ _ _ _ h.2
  · exact h.elim
theorem best_cons {f : Int → Int → Int → Int} {n : Int} {q : List Int} {r : List (List Int)} (h : 0 ≤ alongL f q n) : bestOf f n (q :: r) ([], -1) = bestOf f n (q :: r) (q, alongL f q n) := by
  unfold bestOf
  rw [List.foldl_cons, List.foldl_cons]
  congr 1
  unfold bst
  rw [if_pos (.inl (by show (-1 : Int) < _; omega)), if_neg (fun h => by rcases h with h | h; exact absurd h (Int.lt_irrefl _); exact absurd h.2 (Nat.lt_irrefl _))]
theorem bestOf_succ {f : Int → Int → Int → Int} {n : Int} {A : List (List Int)} {s : List Int × Int} {k : Nat} (h : k < A.length) : bestOf f n (A.take (k + 1)) s = bst (bestOf f n (A.take k) s) (A.getD k []) (alongL f (A.getD k []) n) := by
  rw [List.take_succ_eq_append_getElem h, bestOf_append]
  simp [bestOf, List.getD_eq_getElem?_getD, h]
theorem bw_ways {l : Led} {d a b n : Int} (h : BwOk l d a b n) : ∀ q ∈ waysF b l.coins.length (l.coins.length - 1) [a], AlOk l d q n := fun q hq => by
  obtain ⟨h1, _, r, h3⟩ := ways_ok h.way q hq
  refine ⟨h1.ne, fun c hc => h.rt c (h1.bd c hc).1 (h1.bd c hc).2, ?_, by have := h1.len; have := h.val.c; omega⟩
  rw [h3]; exact h.cap
def rbT (l : Led) (d a b n : Int) (A : List (List Int)) (s : List Int × Int) (k : Nat) : St := { t := asg [(1, aI d), (4, aI n), (5, .ptr 0 0), (10, .nil), (11, aI 0), (12, aI 0), (14, .sl (A.map eInts)), (15, aInts s.1), (16, aI s.2), (17, aI k)], h := hasg [(0, .cells (cLed l))], n := 1 }
def tbK5_63 := vj @ty3 (vj @ty22 (vj @ty28 (vj @ty30 (vj @ty38 (vj @ti3.eq_1 (vj @ti22.eq_1 (vj @ti28.eq_1 (vj @ti30.eq_1 @ti38.eq_1))))))))
def xbK5_3 := vj @aI.eq_1 (vj @aB.eq_1 (vj @aLed.eq_1 (vj @cLed.eq_1 (vj @aInts.eq_1 (vj @aIntss.eq_1 (vj @c106.eq_1 (vj @c106.eq_2 (vj @isL_e (vj @ldOf_e (vj @mInt (vj @eInt.eq_1 (vj @gInts (vj @eInts.eq_1 (@mInts))))))))))))))
set_option maxRecDepth 100000 in
set_option maxHeartbeats 4000000 in
theorem rbest_fn (l : Led) (d a b n : Int) (hl : Fit l) : FnV Try.prog 63 [aLed l, aI d, aI a, aI b, aI n] (aBest l d a b n) := by
  have env : Env (fun _ => True) Try.prog tyB (tab [(108, valE true c106), (66, valE false (c66 100)), (122, valE true c122)]) := mkEnv ⟨d108, d66 (fun m _ => ways_all m), d122, trivial⟩
  refine Fn.of (A := fun _ => True) (n0 := 0) (D := noD) (Fn0 Try.func63 rfl (fun vs w => by kernel_rfl) (by kernel_rfl)) (by simp) (by simp [AV.ids, AV.idsL, aI, aLed, cLed]) (fun i o h => by cases h) (fun _ _ _ _ => trivial) noD_ok ?_
  by_cases c0 : chkSwapE l d a b n = 0
  · have hb := bw_of c0
    rw [show aBest l d a b n = _ from if_neg (by rw [c0]; simp)]
    have hc := hb.val.c
    have hWy : WyOk l.coins.length [a] (l.coins.length - 1) := ⟨hb.way, by simp; omega, hc.2⟩
    have dIW : dInt [DV.v (.int .i64 a)] = a := rfl
    have hM : l.coins.length - 1 < 100 := by omega
    have hA := bw_ways hb
    have hAl := ways_len (to := b) hc.2 (m := l.coins.length - 1) (p := [a])
    have h44 : 4 ^ (l.coins.length - 1) ≤ 4 ^ 4 := Nat.pow_le_pow_right (by decide) (by omega)
    have hne : waysF b l.coins.length (l.coins.length - 1) [a] ≠ [] := by
      obtain ⟨T, rfl⟩ := Int.eq_ofNat_of_zero_le hb.b.1
      refine ways_ne (by have := hb.b.2; omega) (.inr ⟨?_, fun h => hb.ab (List.mem_singleton.1 h).symm⟩)
      have h1 := hb.way.bd a (by simp)
      have h2 := hb.b
      have h3 := hb.ab
      omega
    have hbw : bestW l d a b n = bestOf (swF l d) n (waysF b l.coins.length (l.coins.length - 1) [a]) ([], -1) := dfs_ways (swF l d) b l.coins.length n (l.coins.length - 1) [a] ([], -1) (by simp)
    obtain ⟨A, hAe⟩ : ∃ A, waysF b l.coins.length (l.coins.length - 1) [a] = A := ⟨_, rfl⟩
    rw [hAe] at hA hAl hne hbw
    have hA0 : 0 < A.length := List.length_pos_iff.2 hne
    have hq0 := hA _ (gMem (d := []) hA0)
    have g0 : (A.map eInts).getD 0 [.sl []] = [.sl ((A.getD 0 []).map eInt)] := by rw [gInts]; rfl
    obtain ⟨q0, hq⟩ : ∃ q, A.getD 0 [] = q := ⟨_, rfl⟩
    rw [hq] at hq0 g0
    have hv0 := hq0.caps (q0.length - 1) (by have := List.length_pos_iff.2 hq0.ne; omega)
    rw [show q0.length - 1 + 1 = q0.length by have := List.length_pos_iff.2 hq0.ne; omega, List.take_length] at hv0
    have hv1 := hv0.nn
    obtain ⟨v0, hv⟩ : ∃ v, alongL (swF l d) q0 n = v := ⟨_, rfl⟩
    rw [hv] at hv1
    have hbw2 : bestW l d a b n = bestOf (swF l d) n A (q0, v0) := by
      rw [hbw]
      match A, hA0, hq with
      | q :: r, _, hq =>
        have hq : q = q0 := hq
        subst hq
        rw [best_cons (by rw [hv]; exact hv1), hv]
    have hql := hq0.len
    rw [hbw2]
    repeat' (first | refine zq0 ?_ | refine zq1 ?_ | refine zq2 ?_ | refine zq3 ?_ | refine zq4 ?_ | refine zq5 ?_ | refine uv ?_ | refine uk ?_ | refine uw ?_ | refine uz ?_ | refine uj ?_ | refine ux ?_ | refine uq (by decide) ?_ | ((first | refine vx env fun Q hQ => ?_ | refine vz fun Q hQ => ?_); simp only [vkt, seval, tbK5_63, xbK5_3, rbT, c66, c122, c0, dIW, hAe, g0, hv]; (try simp only [ite_and]); (repeat' (first | with_reducible assumption | refine And.intro ?_ ?_ | intro hp)); all_goals (first | (refine hQ _ ?_; clear hQ Q) | (refine hQ _ (fun h => ?_) (fun h => ?_) <;> clear hQ Q <;> (try simp only [vki, reduceCtorEq] at h)) | omega | assumption | with_reducible rfl | (refine vq ?_; kernel_rfl) | skip)))
    refine sym_loop (fun k : { k : Nat // k ≤ A.length } => rbT l d a b n A (bestOf (swF l d) n (A.take k.1) (q0, v0)) k.1) (fun k => A.length - k.1) ⟨0, Nat.zero_le _⟩ ?_ fun ⟨k, hk⟩ => ?_
    · (refine Le.ok some [] ?_; constructor; all_goals (try simp only [vle, vkt, seval, tbK5_63, xbK5_3, rbT, c66, c122]))
      all_goals first | rfl | (simp [bestOf]; done) | exact ⟨rfl, rfl, rfl, rfl⟩
    by_cases hlt : k < A.length
    · have d1 : decide ((k : Int) < (A.length : Int)) = true := decide_eq_true (by omega)
      have e9 := wrap64 (n := (k : Int) + 1) (by omega) (by omega)
      have hS := bestOf_succ (f := swF l d) (n := n) (s := (q0, v0)) hlt
      have hqk := hA _ (gMem (d := []) hlt)
      obtain ⟨q, hq1⟩ : ∃ q, A.getD k [] = q := ⟨_, rfl⟩
      rw [hq1] at hS hqk
      obtain ⟨v, hv2⟩ : ∃ v, alongL (swF l d) q n = v := ⟨_, rfl⟩
      rw [hv2] at hS
      obtain ⟨s, hs⟩ : ∃ s, bestOf (swF l d) n (A.take k) (q0, v0) = s := ⟨_, rfl⟩
      rw [hs] at hS ⊢
      by_cases c1 : s.2 < v
      · have k1 : decide (s.2 < v) = true := decide_eq_true c1
        rw [show bst s q v = (q, v) from if_pos (.inl c1)] at hS
        repeat' (first | refine zq0 ?_ | refine zq1 ?_ | refine zq2 ?_ | refine zq3 ?_ | refine zq4 ?_ | refine zq5 ?_ | refine uv ?_ | refine uk ?_ | refine uw ?_ | refine uz ?_ | refine uj ?_ | refine ux ?_ | refine uq (by decide) ?_ | ((first | refine vx env fun Q hQ => ?_ | refine vz fun Q hQ => ?_); simp only [vkt, seval, tbK5_63, xbK5_3, rbT, c66, c122, d1, e9, hq1, hv2, k1]; (try simp only [ite_and]); (repeat' (first | with_reducible assumption | refine And.intro ?_ ?_ | intro hp)); all_goals (first | (refine hQ _ ?_; clear hQ Q) | (refine hQ _ (fun h => ?_) (fun h => ?_) <;> clear hQ Q <;> (try simp only [vki, reduceCtorEq] at h)) | omega | assumption | with_reducible rfl | (refine vq ?_; kernel_rfl) | skip)))
        refine ⟨⟨k + 1, hlt⟩, by show A.length - (k + 1) < A.length - k; omega, ?_⟩
        (refine Le.ok some [] ?_; constructor; all_goals (try simp only [vle, vkt, seval, tbK5_63, xbK5_3, rbT, c66, c122]))
        all_goals first | rfl | (simp [hS]; done) | exact ⟨by rw [hS], by rw [hS], rfl⟩
      have k1 : decide (s.2 < v) = false := decide_eq_false c1
      by_cases c2 : v = s.2
      · have k2 : decide (v = s.2) = true := decide_eq_true c2
        by_cases c3 : q.length < s.1.length
        · have k3 : decide ((q.length : Int) < (s.1.length : Int)) = true := decide_eq_true (by omega)
          rw [show bst s q v = (q, v) from if_pos (.inr ⟨c2, c3⟩)] at hS
          repeat' (first | refine zq0 ?_ | refine zq1 ?_ | refine zq2 ?_ | refine zq3 ?_ | refine zq4 ?_ | refine zq5 ?_ | refine uv ?_ | refine uk ?_ | refine uw ?_ | refine uz ?_ | refine uj ?_ | refine ux ?_ | refine uq (by decide) ?_ | ((first | refine vx env fun Q hQ => ?_ | refine vz fun Q hQ => ?_); simp only [vkt, seval, tbK5_63, xbK5_3, rbT, c66, c122, d1, e9, hq1, hv2, k1, k2, k3]; (try simp only [ite_and]); (repeat' (first | with_reducible assumption | refine And.intro ?_ ?_ | intro hp)); all_goals (first | (refine hQ _ ?_; clear hQ Q) | (refine hQ _ (fun h => ?_) (fun h => ?_) <;> clear hQ Q <;> (try simp only [vki, reduceCtorEq] at h)) | omega | assumption | with_reducible rfl | (refine vq ?_; kernel_rfl) | skip)))
          refine ⟨⟨k + 1, hlt⟩, by show A.length - (k + 1) < A.length - k; omega, ?_⟩
          (refine Le.ok some [] ?_; constructor; all_goals (try simp only [vle, vkt, seval, tbK5_63, xbK5_3, rbT, c66, c122]))
          all_goals first | rfl | (simp [hS]; done) | exact ⟨by rw [hS], by rw [hS], rfl⟩
        · have k3 : decide ((q.length : Int) < (s.1.length : Int)) = false := decide_eq_false (by omega)
          rw [show bst s q v = s from if_neg (fun h => by rcases h with h | h; exact c1 h; exact c3 h.2)] at hS
          repeat' (first | refine zq0 ?_ | refine zq1 ?_ | refine zq2 ?_ | refine zq3 ?_ | refine zq4 ?_ | refine zq5 ?_ | refine uv ?_ | refine uk ?_ | refine uw ?_ | refine uz ?_ | refine uj ?_ | refine ux ?_ | refine uq (by decide) ?_ | ((first | refine vx env fun Q hQ => ?_ | refine vz fun Q hQ => ?_); simp only [vkt, seval, tbK5_63, xbK5_3, rbT, c66, c122, d1, e9, hq1, hv2, k1, k2, k3]; (try simp only [ite_and]); (repeat' (first | with_reducible assumption | refine And.intro ?_ ?_ | intro hp)); all_goals (first | (refine hQ _ ?_; clear hQ Q) | (refine hQ _ (fun h => ?_) (fun h => ?_) <;> clear hQ Q <;> (try simp only [vki, reduceCtorEq] at h)) | omega | assumption | with_reducible rfl | (refine vq ?_; kernel_rfl) | skip)))
          refine ⟨⟨k + 1, hlt⟩, by show A.length - (k + 1) < A.length - k; omega, ?_⟩
          (refine Le.ok some [] ?_; constructor; all_goals (try simp only [vle, vkt, seval, tbK5_63, xbK5_3, rbT, c66, c122]))
          all_goals first | rfl | (simp [hS]; done) | exact ⟨by rw [hS], by rw [hS], rfl⟩
      · have k2 : decide (v = s.2) = false := decide_eq_false c2
        rw [show bst s q v = s from if_neg (fun h => by rcases h with h | h; exact c1 h; exact c2 h.1)] at hS
        repeat' (first | refine zq0 ?_ | refine zq1 ?_ | refine zq2 ?_ | refine zq3 ?_ | refine zq4 ?_ | refine zq5 ?_ | refine uv ?_ | refine uk ?_ | refine uw ?_ | refine uz ?_ | refine uj ?_ | refine ux ?_ | refine uq (by decide) ?_ | ((first | refine vx env fun Q hQ => ?_ | refine vz fun Q hQ => ?_); simp only [vkt, seval, tbK5_63, xbK5_3, rbT, c66, c122, d1, e9, hq1, hv2, k1, k2]; (try simp only [ite_and]); (repeat' (first | with_reducible assumption | refine And.intro ?_ ?_ | intro hp)); all_goals (first | (refine hQ _ ?_; clear hQ Q) | (refine hQ _ (fun h => ?_) (fun h => ?_) <;> clear hQ Q <;> (try simp only [vki, reduceCtorEq] at h)) | omega | assumption | with_reducible rfl | (refine vq ?_; kernel_rfl) | skip)))
        refine ⟨⟨k + 1, hlt⟩, by show A.length - (k + 1) < A.length - k; omega, ?_⟩
        (refine Le.ok some [] ?_; constructor; all_goals (try simp only [vle, vkt, seval, tbK5_63, xbK5_3, rbT, c66, c122]))
        all_goals first | rfl | (simp [hS]; done) | exact ⟨by rw [hS], by rw [hS], rfl⟩
    · have d1 : decide ((k : Int) < (A.length : Int)) = false := decide_eq_false (by omega)
      have hkn : k = A.length := by omega
      subst hkn
      rw [List.take_length]
      repeat' (first | refine zq0 ?_ | refine zq1 ?_ | refine zq2 ?_ | refine zq3 ?_ | refine zq4 ?_ | refine zq5 ?_ | refine uv ?_ | refine uk ?_ | refine uw ?_ | refine uz ?_ | refine uj ?_ | refine ux ?_ | refine uq (by decide) ?_ | ((first | refine vx env fun Q hQ => ?_ | refine vz fun Q hQ => ?_); simp only [vkt, seval, tbK5_63, xbK5_3, rbT, c66, c122, d1]; (try simp only [ite_and]); (repeat' (first | with_reducible assumption | refine And.intro ?_ ?_ | intro hp)); all_goals (first | (refine hQ _ ?_; clear hQ Q) | (refine hQ _ (fun h => ?_) (fun h => ?_) <;> clear hQ Q <;> (try simp only [vki, reduceCtorEq] at h)) | omega | assumption | with_reducible rfl | (refine vq ?_; kernel_rfl) | skip)))
      (simp only [vrt, Try.results63, vkt, seval, tbK5_63, xbK5_3, rbT, c66, c122]; refine Fin.val rfl ?_; (try simp only [AV.le, AV.leL]))
      all_goals first | rfl | (simp; done)
  · rw [show aBest l d a b n = _ from if_pos c0]
    repeat' (first | refine zq0 ?_ | refine zq1 ?_ | refine zq2 ?_ | refine zq3 ?_ | refine zq4 ?_ | refine zq5 ?_ | refine uv ?_ | refine uk ?_ | refine uw ?_ | refine uz ?_ | refine uj ?_ | refine ux ?_ | refine uq (by decide) ?_ | ((first | refine vx env fun Q hQ => ?_ | refine vz fun Q hQ => ?_); simp only [vkt, seval, tbK5_63, xbK5_3, rbT, c66, c122, c0]; (try simp only [ite_and]); (repeat' (first | with_reducible assumption | refine And.intro ?_ ?_ | intro hp)); all_goals (first | (refine hQ _ ?_; clear hQ Q) | (refine hQ _ (fun h => ?_) (fun h => ?_) <;> clear hQ Q <;> (try simp only [vki, reduceCtorEq] at h)) | omega | assumption | with_reducible rfl | (refine vq ?_; kernel_rfl) | skip)))
    (simp only [vrt, Try.results63, vkt, seval, tbK5_63, xbK5_3, rbT, c66, c122]; refine Fin.val rfl ?_; (try simp only [AV.le, AV.leL]))
    all_goals first | rfl | (simp; done)
theorem d63 {A : Frm → Prop} : EntryOK A Try.prog 63 (valE false c62) := valE_ok fun vs hv h => by
  clear hv
  unfold c62 at h ⊢
  split at h
  · refine ⟨aBest_plain _ _ _ _ _, fun h => absurd h (by decide), ?_⟩
    rw [← aLed_of h.1]; exact rbest_fn _ _ _ _ _ h.2
  · exact h.elim
end Go.Sym.B
namespace Go.Sym.B
open Go Go.Sym Go.Proofs Go.Sym.C
def choF : Nat → List (List Int) → List (List (List Int))
  | 0, _ => [[]]
  | m + 1, ps => (List.range ps.length).flatMap fun i : Nat => (choF m (ps.drop (i + 1))).map fun c => ps.getD i [] :: c
def choK (m : Nat) (ps : List (List Int)) (k : Nat) : List (List (List Int)) := (List.range k).flatMap fun i : Nat => (choF m (ps.drop (i + 1))).map fun c => ps.getD i [] :: c
theorem choF_succ (m : Nat) (ps : List (List Int)) : choF (m + 1) ps = choK m ps ps.length := rfl
theorem choK_succ (m : Nat) (ps : List (List Int)) (k : Nat) : choK m ps (k + 1) = choK m ps k ++ (choF m (ps.drop (k + 1))).map fun c => ps.getD k [] :: c := by
  unfold choK; rw [List.range_succ, List.flatMap_append]; simp
theorem drop_getD (ps : List (List Int)) (f i : Nat) : (ps.drop f).getD i [] = ps.getD (f + i) [] := by simp [List.getD_eq_getElem?_getD]
theorem grow_cho (hit : List (List Int) → Bool) (ps : List (List Int)) : ∀ (m : Nat) (b : List (List Int)) (f : Nat),
    (growF hit ps m b f).2 = ((choF m (ps.drop f)).find? fun c => hit (b ++ c)).isSome ∧ ∀ c, ((choF m (ps.drop f)).find? fun c => hit (b ++ c)) = some c → (growF hit ps m b f).1 = b ++ c
  | 0, b, f => by
    simp only [growF, choF, List.find?_cons, List.find?_nil, List.append_nil]
    cases hit b <;> simp
  | m + 1, b, f => by
    have ih := grow_cho hit ps m
    have e : ((choF (m + 1) (ps.drop f)).find? fun c => hit (b ++ c)) = (List.range (ps.length - f)).findSome? fun i => ((choF m (ps.drop (f + i + 1))).find? fun c => hit ((b ++ [ps.getD (f + i) []]) ++ c)).map fun c => ps.getD (f + i) [] :: c := by
      rw [choF_succ]
      unfold choK
      rw [List.find?_flatMap, List.length_drop]
      congr 1
      funext i
      rw [List.find?_map, List.drop_drop, drop_getD, show f + (i + 1) = f + i + 1 by omega]
      congr 2
      funext c
      simp
    rw [e]
    simp only [growF]
    cases hf : (List.range (ps.length - f)).find? (fun i => (growF hit ps m (b ++ [ps.getD (f + i) []]) (f + i + 1)).2) with
    | none =>
      have hn := List.find?_eq_none.1 hf
      have : ((List.range (ps.length - f)).findSome? fun i => ((choF m (ps.drop (f + i + 1))).find? fun c => hit ((b ++ [ps.getD (f + i) []]) ++ c)).map fun c => ps.getD (f + i) [] :: c) = none := by
        rw [List.findSome?_eq_none_iff]
        intro i hi
        have h1 := hn i hi
        rw [(ih _ _).1] at h1
        simp only [Bool.not_eq_true, Option.isSome_eq_false_iff, Option.isNone_iff_eq_none] at h1
        rw [h1]; rfl
      rw [this]
      exact ⟨rfl, fun c hc => by cases hc⟩
    | some i =>
      obtain ⟨h1, h2, h3⟩ := List.find?_range_eq_some.1 hf
      have h2 := List.mem_range.1 h2
      have g1 := (ih (b ++ [ps.getD (f + i) []]) (f + i + 1)).1
      rw [h1] at g1
      obtain ⟨c0, hc0⟩ := Option.isSome_iff_exists.1 g1.symm
      have g2 := (ih (b ++ [ps.getD (f + i) []]) (f + i + 1)).2 c0 hc0
      have : ((List.range (ps.length - f)).findSome? fun i => ((choF m (ps.drop (f + i + 1))).find? fun c => hit ((b ++ [ps.getD (f + i) []]) ++ c)).map fun c => ps.getD (f + i) [] :: c) = some (ps.getD (f + i) [] :: c0) := by
        have hr : List.range (ps.length - f) = List.range i ++ i :: (List.range (ps.length - f)).drop (i + 1) := by
          have hi : i < (List.range (ps.length - f)).length := by simpa using h2
          conv => lhs; rw [← List.take_append_drop i (List.range (ps.length - f)), List.drop_eq_getElem_cons hi]
          congr 1
          · rw [List.take_range]; congr 1; omega
          · congr 1; simp
        rw [hr, List.findSome?_append]
        have : ((List.range i).findSome? fun i => ((choF m (ps.drop (f + i + 1))).find? fun c => hit ((b ++ [ps.getD (f + i) []]) ++ c)).map fun c => ps.getD (f + i) [] :: c) = none := by
          rw [List.findSome?_eq_none_iff]
          intro j hj
          have h4 := h3 j (List.mem_range.1 hj)
          rw [(ih _ _).1] at h4
          simp only [Bool.not_eq_true', Option.isSome_eq_false_iff, Option.isNone_iff_eq_none] at h4
          rw [h4]; rfl
        rw [this, Option.none_or, List.findSome?_cons, hc0]
        rfl
      rw [this]
      refine ⟨rfl, fun c hc => ?_⟩
      simp only [Option.some.injEq] at hc
      subst hc
      rw [g2]; simp
theorem sub_cho {s ps : List (List Int)} (h : s.Sublist ps) : s ∈ choF s.length ps := by
  induction h with
  | slnil => simp [choF]
  | @cons s ps a h ih =>
    cases s with
    | nil => simp [choF]
    | cons x s =>
      simp only [List.length_cons, choF] at ih ⊢
      obtain ⟨i, hi, h2⟩ := List.mem_flatMap.1 ih
      refine List.mem_flatMap.2 ⟨i + 1, by simpa using hi, ?_⟩
      simpa using h2
  | @cons_cons s ps a h ih =>
    simp only [List.length_cons, choF]
    refine List.mem_flatMap.2 ⟨0, by simp, ?_⟩
    refine List.mem_map.2 ⟨s, by simpa using ih, by simp⟩
theorem nodup_sub {α : Type} [DecidableEq α] : ∀ (l C : List α), l.Nodup → (∀ x ∈ l, x ∈ C) → l.length ≤ C.length
  | [], _, _, _ => by simp
  | a :: l, C, hn, h => by
    obtain ⟨h1, h2⟩ := List.nodup_cons.1 hn
    have ha := h a (by simp)
    have := nodup_sub l (C.erase a) h2 fun x hx => (List.mem_erase_of_ne (by intro e; subst e; exact h1 hx)).2 (h x (List.mem_cons_of_mem _ hx))
    rw [List.length_erase_of_mem ha] at this
    have := List.length_pos_of_mem ha
    rw [List.length_cons]; omega
theorem pairs_nodup (l : Led) : (pairsOf l).Nodup := by
  unfold pairsOf pairsK List.Nodup
  rw [List.pairwise_flatMap]
  refine ⟨fun d _ => ?_, ?_⟩
  · unfold pairsR
    rw [List.pairwise_map]
    refine List.Pairwise.imp (fun {a b} hab => ?_) List.nodup_range
    intro e
    simp at e
    omega
  · refine List.Pairwise.imp (fun {a b} hab => ?_) List.nodup_range
    intro x hx y hy e
    unfold pairsR at hx hy
    obtain ⟨c, _, rfl⟩ := List.mem_map.1 hx
    obtain ⟨c', _, rfl⟩ := List.mem_map.1 hy
    simp at e
    omega
end Go.Sym.B
namespace Go.Sym.B
open Go Go.Sym Go.Proofs Go.Sym.C
def rdT (l : Led) (k : Nat) : St := { t := asg [(1, .ptr 0 0), (2, .nil), (3, .row 1), (4, aI k)], h := hasg [(0, .cells (cLed l)), (1, .row 3 1 ((badK l k).map eInt))], n := 2 }
def tbK9_123 := vj @ty3 (vj @ty22 (vj @ty36 (vj @ty38 (vj @ty48 (vj @ty59 (vj @ti3.eq_1 (vj @ti22.eq_1 (vj @ti36.eq_1 (vj @ti38.eq_1 (vj @ti48.eq_1 @ti59.eq_1))))))))))
def xbK9_1 := vj @aI.eq_1 (vj @aB.eq_1 (vj @aLed.eq_1 (vj @cLed.eq_1 (vj @aSh.eq_1 (vj @shQ.eq_1 (vj @aInts.eq_1 (vj @c109.eq_1 (vj @c109.eq_2 (vj @isL_e (vj @ldOf_e (vj @eEnt.eq_1 (vj @gEnt (vj @eInt.eq_1 (@rInt))))))))))))))
set_option maxHeartbeats 4000000 in
theorem rbad_fn (l : Led) (hV : Val l) : FnV Try.prog 123 [aLed l] (aInts (badL l)) := by
  have env : Env (fun _ => True) Try.prog tyB (tab [(109, valE true c109)]) := mkEnv ⟨d109, trivial⟩
  refine Fn.of (A := fun _ => True) (n0 := 0) (D := noD) (Fn0 Try.func123 rfl (fun vs w => by kernel_rfl) (by kernel_rfl)) (by simp) (by simp [AV.ids, AV.idsL, aLed, cLed]) (fun i o h => by cases h) (fun _ _ _ _ => trivial) noD_ok ?_
  have q4 := hV.e
  have big : (100000 : Nat) ≤ maxLen := by decide
  repeat' (first | refine zq0 ?_ | refine zq1 ?_ | refine zq2 ?_ | refine zq3 ?_ | refine zq4 ?_ | refine zq5 ?_ | refine uv ?_ | refine uk ?_ | refine uw ?_ | refine uz ?_ | refine uj ?_ | refine ux ?_ | refine uq (by decide) ?_ | ((first | refine vx env fun Q hQ => ?_ | refine vz fun Q hQ => ?_); simp only [vkt, seval, tbK9_123, xbK9_1, rdT]; (try simp only [ite_and]); (repeat' (first | with_reducible assumption | refine And.intro ?_ ?_ | intro hp)); all_goals (first | (refine hQ _ ?_; clear hQ Q) | (refine hQ _ (fun h => ?_) (fun h => ?_) <;> clear hQ Q <;> (try simp only [vki, reduceCtorEq] at h)) | omega | assumption | with_reducible rfl | (refine vq ?_; kernel_rfl) | skip)))
  refine sym_loop (fun k : { k : Nat // k ≤ l.entries.length } => rdT l k.1) (fun k => l.entries.length - k.1) ⟨0, Nat.zero_le _⟩ ?_ fun ⟨k, hk⟩ => ?_
  · (refine Le.ok (fun j => if j = 0 then some 0 else none) [] ?_; constructor; all_goals (try simp only [vle, vkt, seval, tbK9_123, xbK9_1, rdT]))
    all_goals first | rfl | trivial | (simp [badK]; done)
  by_cases hlt : k < l.entries.length
  · have d1 : decide ((k : Int) < (l.entries.length : Int)) = true := decide_eq_true (by omega)
    have e9 := wrap64 (n := (k : Int) + 1) (by omega) (by omega)
    have hentry := val_entry hV hlt
    have hS := badK_succ l k
    have hbl := badK_len l k
    have hle : ((badK l k).length + 1) * 8 ≤ 140737488355328 ∧ (badK l k).length + 1 ≤ maxLen := by omega
    have hB := isBad_eq l k
    obtain ⟨x, hx⟩ : ∃ x, l.entries.getD k default = x := ⟨_, rfl⟩
    rw [hx] at hentry hB
    by_cases k3 : x.kind = 3
    · have r1 := val_rt hV hentry.day.1 hentry.day.2 hentry.coin.1 hentry.coin.2
      have r2 := val_rt hV hentry.day.1 hentry.day.2 (hentry.to k3).1 (hentry.to k3).2
      have am := hentry.am
      have am1 : 0 ≤ x.amount ∧ x.amount ≤ 300000 := by omega
      obtain ⟨v, hv⟩ : ∃ v, (swapQ l x.day x.coin x.to x.amount).floor = v := ⟨_, rfl⟩
      rw [hv] at hB
      by_cases k4 : v = x.got
      · have hB' : isBad l k = false := by rw [hB, k3]; simp [k4]
        have d4 : decide (v = x.got) = true := decide_eq_true k4
        repeat' (first | refine zq0 ?_ | refine zq1 ?_ | refine zq2 ?_ | refine zq3 ?_ | refine zq4 ?_ | refine zq5 ?_ | refine uv ?_ | refine uk ?_ | refine uw ?_ | refine uz ?_ | refine uj ?_ | refine ux ?_ | refine uq (by decide) ?_ | ((first | refine vx env fun Q hQ => ?_ | refine vz fun Q hQ => ?_); simp only [vkt, seval, tbK9_123, xbK9_1, rdT, d1, e9, hx, k3, hv, d4]; (try simp only [ite_and]); (repeat' (first | with_reducible assumption | refine And.intro ?_ ?_ | intro hp)); all_goals (first | (refine hQ _ ?_; clear hQ Q) | (refine hQ _ (fun h => ?_) (fun h => ?_) <;> clear hQ Q <;> (try simp only [vki, reduceCtorEq] at h)) | omega | assumption | with_reducible rfl | (refine vq ?_; kernel_rfl) | skip)))
        refine ⟨⟨k + 1, hlt⟩, by show l.entries.length - (k + 1) < l.entries.length - k; omega, ?_⟩
        (refine Le.ok some [] ?_; constructor; all_goals (try simp only [vle, vkt, seval, tbK9_123, xbK9_1, rdT]))
        all_goals first | rfl | trivial | (simp [hS, hB']; done)
      · have hB' : isBad l k = true := by rw [hB, k3]; simp [k4]
        have d4 : decide (v = x.got) = false := decide_eq_false k4
        rw [if_pos hB'] at hS
        have e4 : (badK l k).map eInt ++ [[.v (.int .i64 (k : Int))]] = (badK l (k + 1)).map eInt := by rw [hS, List.map_append]; rfl
        repeat' (first | refine zq0 ?_ | refine zq1 ?_ | refine zq2 ?_ | refine zq3 ?_ | refine zq4 ?_ | refine zq5 ?_ | refine uv ?_ | refine uk ?_ | refine uw ?_ | refine uz ?_ | refine uj ?_ | refine ux ?_ | refine uq (by decide) ?_ | ((first | refine vx env fun Q hQ => ?_ | refine vz fun Q hQ => ?_); simp only [vkt, seval, tbK9_123, xbK9_1, rdT, d1, e9, hx, k3, hv, d4, e4]; (try simp only [ite_and]); (repeat' (first | with_reducible assumption | refine And.intro ?_ ?_ | intro hp)); all_goals (first | (refine hQ _ ?_; clear hQ Q) | (refine hQ _ (fun h => ?_) (fun h => ?_) <;> clear hQ Q <;> (try simp only [vki, reduceCtorEq] at h)) | omega | assumption | with_reducible rfl | (refine vq ?_; kernel_rfl) | skip)))
        refine ⟨⟨k + 1, hlt⟩, by show l.entries.length - (k + 1) < l.entries.length - k; omega, ?_⟩
        (refine Le.ok (fun j => if j = 1 then some 5 else some j) [] ?_; constructor; all_goals (try simp only [vle, vkt, seval, tbK9_123, xbK9_1, rdT]))
        all_goals first | rfl | trivial | (simp; done)
    · have hB' : isBad l k = false := by rw [hB]; simp [k3]
      have d3 : decide (x.kind = 3) = false := decide_eq_false k3
      repeat' (first | refine zq0 ?_ | refine zq1 ?_ | refine zq2 ?_ | refine zq3 ?_ | refine zq4 ?_ | refine zq5 ?_ | refine uv ?_ | refine uk ?_ | refine uw ?_ | refine uz ?_ | refine uj ?_ | refine ux ?_ | refine uq (by decide) ?_ | ((first | refine vx env fun Q hQ => ?_ | refine vz fun Q hQ => ?_); simp only [vkt, seval, tbK9_123, xbK9_1, rdT, d1, e9, hx, d3]; (try simp only [ite_and]); (repeat' (first | with_reducible assumption | refine And.intro ?_ ?_ | intro hp)); all_goals (first | (refine hQ _ ?_; clear hQ Q) | (refine hQ _ (fun h => ?_) (fun h => ?_) <;> clear hQ Q <;> (try simp only [vki, reduceCtorEq] at h)) | omega | assumption | with_reducible rfl | (refine vq ?_; kernel_rfl) | skip)))
      refine ⟨⟨k + 1, hlt⟩, by show l.entries.length - (k + 1) < l.entries.length - k; omega, ?_⟩
      (refine Le.ok some [] ?_; constructor; all_goals (try simp only [vle, vkt, seval, tbK9_123, xbK9_1, rdT]))
      all_goals first | rfl | trivial | (simp [hS, hB']; done)
  · have d1 : decide ((k : Int) < (l.entries.length : Int)) = false := decide_eq_false (by omega)
    have hkn : k = l.entries.length := by omega
    subst hkn
    repeat' (first | refine zq0 ?_ | refine zq1 ?_ | refine zq2 ?_ | refine zq3 ?_ | refine zq4 ?_ | refine zq5 ?_ | refine uv ?_ | refine uk ?_ | refine uw ?_ | refine uz ?_ | refine uj ?_ | refine ux ?_ | refine uq (by decide) ?_ | ((first | refine vx env fun Q hQ => ?_ | refine vz fun Q hQ => ?_); simp only [vkt, seval, tbK9_123, xbK9_1, rdT, d1]; (try simp only [ite_and]); (repeat' (first | with_reducible assumption | refine And.intro ?_ ?_ | intro hp)); all_goals (first | (refine hQ _ ?_; clear hQ Q) | (refine hQ _ (fun h => ?_) (fun h => ?_) <;> clear hQ Q <;> (try simp only [vki, reduceCtorEq] at h)) | omega | assumption | with_reducible rfl | (refine vq ?_; kernel_rfl) | skip)))
    (simp only [vrt, Try.results123, vkt, seval, tbK9_123, xbK9_1, rdT]; refine Fin.val rfl ?_; (try simp only [AV.le, AV.leL]))
    all_goals first | rfl | exact ⟨_, _, rfl⟩
def c123 : List AV → Prop × AV
  | [.agg [.sl cs, .sl rs, .sl ss, .sl es]] => (isL cs rs ss es ∧ Val (ldOf cs rs ss es), aInts (badL (ldOf cs rs ss es)))
  | _ => (False, .junk)
theorem d123 {A : Frm → Prop} : EntryOK A Try.prog 123 (valE false c123) := valE_ok fun vs hv h => by
  clear hv
  unfold c123 at h ⊢
  split at h
  · refine ⟨by simp [AV.plain, aInts], fun h => absurd h (by decide), ?_⟩
    rw [← aLed_of h.1]; exact rbad_fn _ h.2
  · exact h.elim
def tbK9_64 := vj @ty30 (vj @ty38 (vj @ti30.eq_1 @ti38.eq_1))
def xbK9_2 := vj @aI.eq_1 (vj @aB.eq_1 (vj @aLed.eq_1 (vj @cLed.eq_1 (vj @aInts.eq_1 (vj @c50.eq_1 (vj @c50.eq_2 (vj @isL_e (@ldOf_e))))))))
theorem rBad_fn (l : Led) (hl : Fit l) : FnV Try.prog 64 [aLed l] (aBad l) := by
  have env : Env (fun _ => True) Try.prog tyB (tab [(51, valE true c50), (123, valE false c123)]) := mkEnv ⟨d51, d123, trivial⟩
  refine Fn.of (A := fun _ => True) (n0 := 0) (D := noD) (Fn0 Try.func64 rfl (fun vs w => by kernel_rfl) (by kernel_rfl)) (by simp) (by simp [AV.ids, AV.idsL, aLed, cLed]) (fun i o h => by cases h) (fun _ _ _ _ => trivial) noD_ok ?_
  by_cases h0 : checkE l = 0
  · have hV := val_of h0
    rw [show aBad l = _ from if_neg (by rw [h0]; simp)]
    repeat' (first | refine zq0 ?_ | refine zq1 ?_ | refine zq2 ?_ | refine zq3 ?_ | refine zq4 ?_ | refine zq5 ?_ | refine uv ?_ | refine uk ?_ | refine uw ?_ | refine uz ?_ | refine uj ?_ | refine ux ?_ | refine uq (by decide) ?_ | ((first | refine vx env fun Q hQ => ?_ | refine vz fun Q hQ => ?_); simp only [vkt, seval, tbK9_64, xbK9_2, c123, h0]; (try simp only [ite_and]); (repeat' (first | with_reducible assumption | refine And.intro ?_ ?_ | intro hp)); all_goals (first | (refine hQ _ ?_; clear hQ Q) | (refine hQ _ (fun h => ?_) (fun h => ?_) <;> clear hQ Q <;> (try simp only [vki, reduceCtorEq] at h)) | omega | assumption | with_reducible rfl | (refine vq ?_; kernel_rfl) | skip)))
    (simp only [vrt, Try.results64, vkt, seval, tbK9_64, xbK9_2, c123]; refine Fin.val rfl ?_; (try simp only [AV.le, AV.leL]))
    all_goals first | rfl | (simp; done)
  · rw [show aBad l = _ from if_pos h0]
    repeat' (first | refine zq0 ?_ | refine zq1 ?_ | refine zq2 ?_ | refine zq3 ?_ | refine zq4 ?_ | refine zq5 ?_ | refine uv ?_ | refine uk ?_ | refine uw ?_ | refine uz ?_ | refine uj ?_ | refine ux ?_ | refine uq (by decide) ?_ | ((first | refine vx env fun Q hQ => ?_ | refine vz fun Q hQ => ?_); simp only [vkt, seval, tbK9_64, xbK9_2, c123, h0]; (try simp only [ite_and]); (repeat' (first | with_reducible assumption | refine And.intro ?_ ?_ | intro hp)); all_goals (first | (refine hQ _ ?_; clear hQ Q) | (refine hQ _ (fun h => ?_) (fun h => ?_) <;> clear hQ Q <;> (try simp only [vki, reduceCtorEq] at h)) | omega | assumption | with_reducible rfl | (refine vq ?_; kernel_rfl) | skip)))
    (simp only [vrt, Try.results64, vkt, seval, tbK9_64, xbK9_2, c123]; refine Fin.val rfl ?_; (try simp only [AV.le, AV.leL]))
    all_goals first | rfl | (simp; done)
theorem d64 {A : Frm → Prop} : EntryOK A Try.prog 64 (valE false c31) := valE_ok fun vs hv h => by
  clear hv
  unfold c31 at h ⊢
  split at h
  · refine ⟨by unfold aBad; split <;> simp [AV.plain, AV.plainL, aI, aInts], fun h => absurd h (by decide), ?_⟩
    rw [← aLed_of h.1]; exact rBad_fn _ h.2
  · exact h.elim
def paT1 (l : Led) (d : Nat) : St := { t := asg [(1, .ptr 0 0), (2, .nil), (3, .row 1), (4, aI d)], h := hasg [(0, .cells (cLed l)), (1, .row 22 1 ((pairsK l.coins.length d).map eInts))], n := 2 }
def paT2 (l : Led) (d c : Nat) : St := { t := asg [(1, .ptr 0 0), (2, .nil), (3, .row 1), (4, aI d), (5, aI ((c : Int) + 1))], h := hasg [(0, .cells (cLed l)), (1, .row 22 1 ((pairsK l.coins.length d ++ pairsC d c).map eInts))], n := 2 }
def tbK9_35 := vj @ty3 (vj @ty22 (vj @ty28 (vj @ty35 (vj @ty38 (vj @ty55 (vj @ti3.eq_1 (vj @ti22.eq_1 (vj @ti28.eq_1 (vj @ti35.eq_1 (vj @ti38.eq_1 @ti55.eq_1))))))))))
def xbK9_3 := vj @aI.eq_1 (vj @aB.eq_1 (vj @aLed.eq_1 (vj @cLed.eq_1 (vj @aInts.eq_1 (vj @aIntss.eq_1 (vj @eInt.eq_1 (vj @eInts.eq_1 (vj @rInt (@rInts)))))))))
theorem pairs_fn (l : Led) (hV : Val l) : FnV Try.prog 35 [aLed l] (aIntss (pairsOf l)) := by
  have env : Env (fun _ => True) Try.prog tyB (tab []) := mkEnv trivial
  refine Fn.of (A := fun _ => True) (n0 := 0) (D := noD) (Fn0 Try.func35 rfl (fun vs w => by kernel_rfl) (by kernel_rfl)) (by simp) (by simp [AV.ids, AV.idsL, aLed, cLed]) (fun i o h => by cases h) (fun _ _ _ _ => trivial) noD_ok ?_
  have q1 := hV.c
  have q2 := hV.r
  have big : (100000 : Nat) ≤ maxLen := by decide
  repeat' (first | refine zq0 ?_ | refine zq1 ?_ | refine zq2 ?_ | refine zq3 ?_ | refine zq4 ?_ | refine zq5 ?_ | refine uv ?_ | refine uk ?_ | refine uw ?_ | refine uz ?_ | refine uj ?_ | refine ux ?_ | refine uq (by decide) ?_ | ((first | refine vx env fun Q hQ => ?_ | refine vz fun Q hQ => ?_); simp only [vkt, seval, tbK9_35, xbK9_3, paT1, paT2]; (try simp only [ite_and]); (repeat' (first | with_reducible assumption | refine And.intro ?_ ?_ | intro hp)); all_goals (first | (refine hQ _ ?_; clear hQ Q) | (refine hQ _ (fun h => ?_) (fun h => ?_) <;> clear hQ Q <;> (try simp only [vki, reduceCtorEq] at h)) | omega | assumption | with_reducible rfl | (refine vq ?_; kernel_rfl) | skip)))
  refine sym_loop (fun d : { d : Nat // d ≤ l.rates.length } => paT1 l d.1) (fun d => l.rates.length - d.1) ⟨0, Nat.zero_le _⟩ ?_ fun ⟨d, hd⟩ => ?_
  · (refine Le.ok (fun j => if j = 0 then some 0 else none) [] ?_; constructor; all_goals (try simp only [vle, vkt, seval, tbK9_35, xbK9_3, paT1, paT2]))
    all_goals first | rfl | trivial | (simp [pairsK]; done)
  by_cases hlt : d < l.rates.length
  · have d1 : decide ((d : Int) < (l.rates.length : Int)) = true := decide_eq_true (by omega)
    have e9 := wrap64 (n := (d : Int) + 1) (by omega) (by omega)
    repeat' (first | refine zq0 ?_ | refine zq1 ?_ | refine zq2 ?_ | refine zq3 ?_ | refine zq4 ?_ | refine zq5 ?_ | refine uv ?_ | refine uk ?_ | refine uw ?_ | refine uz ?_ | refine uj ?_ | refine ux ?_ | refine uq (by decide) ?_ | ((first | refine vx env fun Q hQ => ?_ | refine vz fun Q hQ => ?_); simp only [vkt, seval, tbK9_35, xbK9_3, paT1, paT2, d1]; (try simp only [ite_and]); (repeat' (first | with_reducible assumption | refine And.intro ?_ ?_ | intro hp)); all_goals (first | (refine hQ _ ?_; clear hQ Q) | (refine hQ _ (fun h => ?_) (fun h => ?_) <;> clear hQ Q <;> (try simp only [vki, reduceCtorEq] at h)) | omega | assumption | with_reducible rfl | (refine vq ?_; kernel_rfl) | skip)))
    refine sym_loop (fun c : { c : Nat // c + 1 ≤ l.coins.length } => paT2 l d c.1) (fun c => l.coins.length - c.1) ⟨0, by omega⟩ ?_ fun ⟨c, hc⟩ => ?_
    · (refine Le.ok some [] ?_; constructor; all_goals (try simp only [vle, vkt, seval, tbK9_35, xbK9_3, paT1, paT2]))
      all_goals first | rfl | trivial | (simp [pairsC]; done)
    by_cases hcl : c + 1 < l.coins.length
    · have d2 : decide ((c : Int) + 1 < (l.coins.length : Int)) = true := decide_eq_true (by omega)
      have e8 : IntKind.wrap .i64 ((c : Int) + 1 + 1) = ((c + 1 : Nat) : Int) + 1 := by rw [wrap64 (by omega) (by omega)]; omega
      have e4 : (pairsK l.coins.length d ++ pairsC d c).map eInts ++ [[.sl [[.v (.int .i64 (d : Int))], [.v (.int .i64 ((c : Int) + 1))]]]] = (pairsK l.coins.length d ++ pairsC d (c + 1)).map eInts := by
        rw [pairsC_succ, ← List.append_assoc, List.map_append (l₁ := pairsK l.coins.length d ++ pairsC d c)]; rfl
      have hl1 : (pairsK l.coins.length d ++ pairsC d c).length ≤ 100 := by
        rw [List.length_append, pairsK_len, pairsC_len]
        have : d * (l.coins.length - 1) ≤ 4 * 3 := Nat.mul_le_mul (by omega) (by omega)
        omega
      obtain ⟨X, hX⟩ : ∃ X, pairsK l.coins.length d ++ pairsC d c = X := ⟨_, rfl⟩
      rw [hX] at e4 hl1
      have m1 : (X.length + 1) * 24 ≤ 140737488355328 ∧ X.length + 1 ≤ maxLen := by omega
      unfold paT2
      rw [hX]
      repeat' (first | refine zq0 ?_ | refine zq1 ?_ | refine zq2 ?_ | refine zq3 ?_ | refine zq4 ?_ | refine zq5 ?_ | refine uv ?_ | refine uk ?_ | refine uw ?_ | refine uz ?_ | refine uj ?_ | refine ux ?_ | refine uq (by decide) ?_ | ((first | refine vx env fun Q hQ => ?_ | refine vz fun Q hQ => ?_); simp only [vkt, seval, tbK9_35, xbK9_3, paT1, paT2, d2, e8, e4]; (try simp only [ite_and]); (repeat' (first | with_reducible assumption | refine And.intro ?_ ?_ | intro hp)); all_goals (first | (refine hQ _ ?_; clear hQ Q) | (refine hQ _ (fun h => ?_) (fun h => ?_) <;> clear hQ Q <;> (try simp only [vki, reduceCtorEq] at h)) | omega | assumption | with_reducible rfl | (refine vq ?_; kernel_rfl) | skip)))
      refine ⟨⟨c + 1, hcl⟩, by show l.coins.length - (c + 1) < l.coins.length - c; omega, ?_⟩
      (refine Le.ok (fun j => if j = 1 then some 4 else some j) [] ?_; constructor; all_goals (try simp only [vle, vkt, seval, tbK9_35, xbK9_3, paT1, paT2]))
      all_goals first | rfl | trivial | (simp; done)
    · have d2 : decide ((c : Int) + 1 < (l.coins.length : Int)) = false := decide_eq_false (by omega)
      have hcn : c = l.coins.length - 1 := by omega
      have hP : pairsK l.coins.length d ++ pairsC d c = pairsK l.coins.length (d + 1) := by rw [pairsK_succ, hcn]; rfl
      unfold paT2
      rw [hP]
      repeat' (first | refine zq0 ?_ | refine zq1 ?_ | refine zq2 ?_ | refine zq3 ?_ | refine zq4 ?_ | refine zq5 ?_ | refine uv ?_ | refine uk ?_ | refine uw ?_ | refine uz ?_ | refine uj ?_ | refine ux ?_ | refine uq (by decide) ?_ | ((first | refine vx env fun Q hQ => ?_ | refine vz fun Q hQ => ?_); simp only [vkt, seval, tbK9_35, xbK9_3, paT1, paT2, d2, e9]; (try simp only [ite_and]); (repeat' (first | with_reducible assumption | refine And.intro ?_ ?_ | intro hp)); all_goals (first | (refine hQ _ ?_; clear hQ Q) | (refine hQ _ (fun h => ?_) (fun h => ?_) <;> clear hQ Q <;> (try simp only [vki, reduceCtorEq] at h)) | omega | assumption | with_reducible rfl | (refine vq ?_; kernel_rfl) | skip)))
      refine ⟨⟨d + 1, hlt⟩, by show l.rates.length - (d + 1) < l.rates.length - d; omega, ?_⟩
      (refine Le.ok some [] ?_; constructor; all_goals (try simp only [vle, vkt, seval, tbK9_35, xbK9_3, paT1, paT2]))
      all_goals first | rfl | trivial | (simp; done)
  · have d1 : decide ((d : Int) < (l.rates.length : Int)) = false := decide_eq_false (by omega)
    have hdn : d = l.rates.length := by omega
    subst hdn
    repeat' (first | refine zq0 ?_ | refine zq1 ?_ | refine zq2 ?_ | refine zq3 ?_ | refine zq4 ?_ | refine zq5 ?_ | refine uv ?_ | refine uk ?_ | refine uw ?_ | refine uz ?_ | refine uj ?_ | refine ux ?_ | refine uq (by decide) ?_ | ((first | refine vx env fun Q hQ => ?_ | refine vz fun Q hQ => ?_); simp only [vkt, seval, tbK9_35, xbK9_3, paT1, paT2, d1]; (try simp only [ite_and]); (repeat' (first | with_reducible assumption | refine And.intro ?_ ?_ | intro hp)); all_goals (first | (refine hQ _ ?_; clear hQ Q) | (refine hQ _ (fun h => ?_) (fun h => ?_) <;> clear hQ Q <;> (try simp only [vki, reduceCtorEq] at h)) | omega | assumption | with_reducible rfl | (refine vq ?_; kernel_rfl) | skip)))
    (simp only [vrt, Try.results35, vkt, seval, tbK9_35, xbK9_3, paT1, paT2]; refine Fin.val rfl ?_; (try simp only [AV.le, AV.leL]))
    all_goals first | rfl | exact ⟨_, _, rfl⟩
def c35 : List AV → Prop × AV
  | [.agg [.sl cs, .sl rs, .sl ss, .sl es]] => (isL cs rs ss es ∧ Val (ldOf cs rs ss es), aIntss (pairsOf (ldOf cs rs ss es)))
  | _ => (False, .junk)
theorem d35 {A : Frm → Prop} : EntryOK A Try.prog 35 (valE false c35) := valE_ok fun vs hv h => by
  clear hv
  unfold c35 at h ⊢
  split at h
  · refine ⟨by simp [AV.plain, aIntss], fun h => absurd h (by decide), ?_⟩
    rw [← aLed_of h.1]; exact pairs_fn _ h.2
  · exact h.elim
theorem cho_len : ∀ (m : Nat) (ps : List (List Int)), ps.length ≤ 12 → (choF m ps).length ≤ 12 ^ m
  | 0, ps, _ => by simp [choF]
  | m + 1, ps, h => by
    rw [choF_succ, choK]
    refine Nat.le_trans (List.length_flatMap_le (B := 12 ^ m) fun i _ => ?_) ?_
    · rw [List.length_map]; exact cho_len m _ (by rw [List.length_drop]; omega)
    · rw [List.length_range, Nat.pow_succ, Nat.mul_comm]; exact Nat.mul_le_mul_left _ h
where
  List.length_flatMap_le {α : Type} {f : Nat → List α} {B : Nat} : ∀ {l : List Nat}, (∀ c ∈ l, (f c).length ≤ B) → (l.flatMap f).length ≤ l.length * B
  | [], _ => by simp
  | c :: l, h => by
    have h1 := h c (by simp)
    have h2 := List.length_flatMap_le (l := l) (f := f) (B := B) fun c hc => h c (List.mem_cons_of_mem _ hc)
    rw [List.flatMap_cons, List.length_append, List.length_cons, Nat.add_mul]
    omega
end Go.Sym.B
namespace Go.Sym.B
open Go Go.Sym Go.Proofs Go.Sym.C
structure ChOk (ps : List (List Int)) (m : Nat) : Prop where
  len : ps.length ≤ 12
  m6 : m ≤ 6
  in' : ∀ p ∈ ps, p.length ≤ 100000
def ChFn (m : Nat) : Prop := ∀ ps : List (List Int), ChOk ps m → FnV Try.prog 34 [aIntss ps, aI m] (.sl ((choF m ps).map eIntss))
def c34 (M : Nat) : List AV → Prop × AV
  | [.sl xs, .v (.int .i64 m)] => (xs = (xs.map dInts).map eInts ∧ 0 ≤ m ∧ m.toNat < M ∧ ChOk (xs.map dInts) m.toNat, .sl ((choF m.toNat (xs.map dInts)).map eIntss))
  | _ => (False, .junk)
theorem d34 {A : Frm → Prop} {M : Nat} (ih : ∀ m, m < M → ChFn m) : EntryOK A Try.prog 34 (valE false (c34 M)) := valE_ok fun vs hv h => by
  clear hv
  unfold c34 at h ⊢
  split at h
  · rename_i xs m
    obtain ⟨h1, h2, h3, h4⟩ := h
    refine ⟨by simp [AV.plain], fun h => absurd h (by decide), ?_⟩
    have := ih _ h3 (xs.map dInts) h4
    simp only [aI, aIntss, ← h1, Int.toNat_of_nonneg h2] at this
    exact this
  · exact h.elim
theorem cho_mem_len : ∀ (m : Nat) (ps : List (List Int)), ∀ c ∈ choF m ps, c.length = m
  | 0, ps, c, hc => by simp [choF] at hc; subst hc; rfl
  | m + 1, ps, c, hc => by
    rw [choF_succ, choK] at hc
    obtain ⟨i, _, hc⟩ := List.mem_flatMap.1 hc
    obtain ⟨c', h', rfl⟩ := List.mem_map.1 hc
    rw [List.length_cons, cho_mem_len m _ c' h']
theorem flat_len9 {α : Type} {f : Nat → List α} {B : Nat} : ∀ {l : List Nat}, (∀ c ∈ l, (f c).length ≤ B) → (l.flatMap f).length ≤ l.length * B
  | [], _ => by simp
  | c :: l, h => by
    have h1 := h c (by simp)
    have h2 := flat_len9 (l := l) (f := f) (B := B) fun c hc => h c (List.mem_cons_of_mem _ hc)
    rw [List.flatMap_cons, List.length_append, List.length_cons, Nat.add_mul]
    omega
theorem choK_len {m k : Nat} {ps : List (List Int)} (hp : ps.length ≤ 12) (hk : k ≤ ps.length) (hm : m ≤ 6) : (choK m ps k).length ≤ 12 * 12 ^ 6 := by
  unfold choK
  refine Nat.le_trans (flat_len9 (B := 12 ^ m) fun i _ => ?_) ?_
  · rw [List.length_map]; exact cho_len m _ (by rw [List.length_drop]; omega)
  · rw [List.length_range]
    exact Nat.mul_le_mul (by omega) (Nat.pow_le_pow_right (by decide) hm)
def chT1 (ps : List (List Int)) (m : Nat) (W : List (List (List Int))) (k : Nat) : St := { t := asg [(0, aIntss ps), (1, aI m), (4, .nil), (5, .row 0), (6, aI k)], h := hasg [(0, .row 28 1 (W.map eIntss))], n := 1 }
def chT2 (ps : List (List Int)) (m : Nat) (W R : List (List (List Int))) (k j : Nat) : St := { t := asg [(0, aIntss ps), (1, aI m), (4, .nil), (5, .row 0), (6, aI k), (7, .sl (R.map eIntss)), (8, aI j)], h := hasg [(0, .row 28 1 ((W ++ (R.take j).map fun c => ps.getD k [] :: c).map eIntss))], n := 1 }
def tbL1_34 := vj @ty3 (vj @ty22 (vj @ty28 (vj @ty50 (vj @ti3.eq_1 (vj @ti22.eq_1 (vj @ti28.eq_1 @ti50.eq_1))))))
def xbL1_1 := vj @aI.eq_1 (vj @aB.eq_1 (vj @aInts.eq_1 (vj @aIntss.eq_1 (vj @mInt (vj @mInts (vj @rInt (vj @rInts (vj @eInts.eq_1 (vj @gInts (vj @slT (@slD)))))))))))
set_option maxRecDepth 100000 in
set_option maxHeartbeats 4000000 in
theorem cho_all (m : Nat) : ChFn m := by
  induction m using Nat.strongRecOn with
  | _ m ih =>
    intro ps hg
    have env : Env (fun _ => True) Try.prog tyB (tab [(34, valE false (c34 m))]) := mkEnv ⟨d34 ih, trivial⟩
    refine Fn.of (A := fun _ => True) (n0 := 0) (D := noD) (Fn0 Try.func34 rfl (fun vs w => by kernel_rfl) (by kernel_rfl)) (by simp) (by simp [AV.ids, AV.idsL, aIntss, aI]) (fun i o h => by cases h) (fun _ _ _ _ => trivial) noD_ok ?_
    have hp := hg.len
    have h6 := hg.m6
    have hin := hg.in'
    have big : (100000000 : Nat) ≤ maxLen := by decide
    cases m with
    | zero =>
      have c0 : decide (((0 : Nat) : Int) = 0) = true := by simp
      repeat' (first | refine zq0 ?_ | refine zq1 ?_ | refine zq2 ?_ | refine zq3 ?_ | refine zq4 ?_ | refine zq5 ?_ | refine uv ?_ | refine uk ?_ | refine uw ?_ | refine uz ?_ | refine uj ?_ | refine ux ?_ | refine uq (by decide) ?_ | ((first | refine vx env fun Q hQ => ?_ | refine vz fun Q hQ => ?_); simp only [vkt, seval, tbL1_34, xbL1_1, chT1, chT2, c34, rIntss, eIntss, gIntss, List.take_length, List.cons_append, List.nil_append, c0]; (try simp only [ite_and]); (repeat' (first | with_reducible assumption | refine And.intro ?_ ?_ | intro hp)); all_goals (first | (refine hQ _ ?_; clear hQ Q) | (refine hQ _ (fun h => ?_) (fun h => ?_) <;> clear hQ Q <;> (try simp only [vki, reduceCtorEq] at h)) | omega | assumption | with_reducible rfl | (refine vq ?_; kernel_rfl) | skip)))
      (simp only [vrt, Try.results34, vkt, seval, tbL1_34, xbL1_1, chT1, chT2, c34, rIntss, eIntss, gIntss, List.take_length, List.cons_append, List.nil_append]; refine Fin.val rfl ?_; (try simp only [AV.le, AV.leL]))
      all_goals first | rfl | exact ⟨_, _, rfl⟩ | (simp [choF]; done)
    | succ m =>
      have c0 : decide (((m + 1 : Nat) : Int) = 0) = false := decide_eq_false (by omega)
      rw [choF_succ]
      repeat' (first | refine zq0 ?_ | refine zq1 ?_ | refine zq2 ?_ | refine zq3 ?_ | refine zq4 ?_ | refine zq5 ?_ | refine uv ?_ | refine uk ?_ | refine uw ?_ | refine uz ?_ | refine uj ?_ | refine ux ?_ | refine uq (by decide) ?_ | ((first | refine vx env fun Q hQ => ?_ | refine vz fun Q hQ => ?_); simp only [vkt, seval, tbL1_34, xbL1_1, chT1, chT2, c34, rIntss, eIntss, gIntss, List.take_length, List.cons_append, List.nil_append, c0]; (try simp only [ite_and]); (repeat' (first | with_reducible assumption | refine And.intro ?_ ?_ | intro hp)); all_goals (first | (refine hQ _ ?_; clear hQ Q) | (refine hQ _ (fun h => ?_) (fun h => ?_) <;> clear hQ Q <;> (try simp only [vki, reduceCtorEq] at h)) | omega | assumption | with_reducible rfl | (refine vq ?_; kernel_rfl) | skip)))
      refine sym_loop (fun k : { k : Nat // k ≤ ps.length } => chT1 ps (m + 1) (choK m ps k.1) k.1) (fun k => ps.length - k.1) ⟨0, Nat.zero_le _⟩ ?_ fun ⟨k, hk⟩ => ?_
      · (refine Le.ok (fun _ => none) [] ?_; constructor; all_goals (try simp only [vle, vkt, seval, tbL1_34, xbL1_1, chT1, chT2, c34, rIntss, eIntss, gIntss, List.take_length, List.cons_append, List.nil_append]))
        all_goals first | rfl | (simp [choK]; done)
      by_cases hlt : k < ps.length
      · have d1 : decide ((k : Int) < (ps.length : Int)) = true := decide_eq_true (by omega)
        have e9 := wrap64 (n := (k : Int) + 1) (by omega) (by omega)
        have e8 : IntKind.wrap .i64 (((m + 1 : Nat) : Int) - 1) = (m : Int) := by rw [wrap64 (by omega) (by omega)]; omega
        have tn : ((k : Int) + 1).toNat = k + 1 := by omega
        have z0 : (0 : Int) ≤ (k : Int) + 1 ∧ (k : Int) + 1 ≤ (ps.length : Int) := by omega
        have hG : ChOk (ps.drop (k + 1)) m := ⟨by rw [List.length_drop]; omega, by omega, fun p hp => hin p (List.mem_of_mem_drop hp)⟩
        have hm : (m : Int).toNat < m + 1 := by omega
        have hW1 := choK_len (m := m) hp hk (by omega)
        have hW2 := choK_len (m := m) hp (show k + 1 ≤ ps.length from hlt) (by omega)
        have hS := choK_succ m ps k
        have hR := cho_mem_len m (ps.drop (k + 1))
        obtain ⟨R, hRe⟩ : ∃ R, choF m (ps.drop (k + 1)) = R := ⟨_, rfl⟩
        rw [hRe] at hR hS
        obtain ⟨W, hWe⟩ : ∃ W, choK m ps k = W := ⟨_, rfl⟩
        rw [hWe] at hS hW1
        rw [hS, List.length_append, List.length_map] at hW2
        unfold chT1
        rw [hWe]
        have tm : (m : Int).toNat = m := Int.toNat_natCast m
        repeat' (first | refine zq0 ?_ | refine zq1 ?_ | refine zq2 ?_ | refine zq3 ?_ | refine zq4 ?_ | refine zq5 ?_ | refine uv ?_ | refine uk ?_ | refine uw ?_ | refine uz ?_ | refine uj ?_ | refine ux ?_ | refine uq (by decide) ?_ | ((first | refine vx env fun Q hQ => ?_ | refine vz fun Q hQ => ?_); simp only [vkt, seval, tbL1_34, xbL1_1, chT1, chT2, c34, rIntss, eIntss, gIntss, List.take_length, List.cons_append, List.nil_append, d1, e9, e8, tn, hRe, tm]; (try simp only [ite_and]); (repeat' (first | with_reducible assumption | refine And.intro ?_ ?_ | intro hp)); all_goals (first | (refine hQ _ ?_; clear hQ Q) | (refine hQ _ (fun h => ?_) (fun h => ?_) <;> clear hQ Q <;> (try simp only [vki, reduceCtorEq] at h)) | omega | assumption | with_reducible rfl | (refine vq ?_; kernel_rfl) | skip)))
        refine sym_loop (fun j : { j : Nat // j ≤ R.length } => chT2 ps (m + 1) W R k j.1) (fun j => R.length - j.1) ⟨0, Nat.zero_le _⟩ ?_ fun ⟨j, hj⟩ => ?_
        · (refine Le.ok some [] ?_; constructor; all_goals (try simp only [vle, vkt, seval, tbL1_34, xbL1_1, chT1, chT2, c34, rIntss, eIntss, gIntss, List.take_length, List.cons_append, List.nil_append]))
          all_goals first | rfl | (simp; done)
        by_cases hjl : j < R.length
        · have d2 : decide ((j : Int) < (R.length : Int)) = true := decide_eq_true (by omega)
          have e7 := wrap64 (n := (j : Int) + 1) (by omega) (by omega)
          have hr := hR _ (gMem (d := []) hjl)
          have hpk := hin _ (gMem (d := []) hlt)
          have hT : (R.take (j + 1)).map (fun c => ps.getD k [] :: c) = (R.take j).map (fun c => ps.getD k [] :: c) ++ [ps.getD k [] :: R.getD j []] := by
            rw [List.take_succ_eq_append_getElem hjl, List.map_append]; simp [List.getD_eq_getElem?_getD, hjl]
          have hY : (W ++ (R.take j).map fun c => ps.getD k [] :: c).length + 1 ≤ 12 * 12 ^ 6 := by
            rw [List.length_append, List.length_map, List.length_take]; omega
          obtain ⟨r, hre⟩ : ∃ r, R.getD j [] = r := ⟨_, rfl⟩
          rw [hre] at hr hT
          obtain ⟨p, hpe⟩ : ∃ p, ps.getD k [] = p := ⟨_, rfl⟩
          unfold chT2
          rw [hpe] at hT hY hpk ⊢
          obtain ⟨Y, hYe⟩ : ∃ Y, (W ++ (R.take j).map fun c => p :: c) = Y := ⟨_, rfl⟩
          rw [hYe] at hY ⊢
          have m1 : (Y.length + 1) * 24 ≤ 140737488355328 ∧ Y.length + 1 ≤ maxLen := by omega
          have m2 : (1 + r.length) * 24 ≤ 140737488355328 ∧ 1 + r.length ≤ maxLen ∧ r.length ≤ maxLen := by omega
          have e4 : Y.map eIntss ++ [[.sl ([.sl (p.map eInt)] :: r.map eInts)]] = (W ++ (R.take (j + 1)).map fun c => p :: c).map eIntss := by
            rw [hT, ← List.append_assoc, hYe, List.map_append]; rfl
          repeat' (first | refine zq0 ?_ | refine zq1 ?_ | refine zq2 ?_ | refine zq3 ?_ | refine zq4 ?_ | refine zq5 ?_ | refine uv ?_ | refine uk ?_ | refine uw ?_ | refine uz ?_ | refine uj ?_ | refine ux ?_ | refine uq (by decide) ?_ | ((first | refine vx env fun Q hQ => ?_ | refine vz fun Q hQ => ?_); simp only [vkt, seval, tbL1_34, xbL1_1, chT1, chT2, c34, rIntss, eIntss, gIntss, List.take_length, List.cons_append, List.nil_append, d2, e7, hre, hpe, e4]; (try simp only [ite_and]); (repeat' (first | with_reducible assumption | refine And.intro ?_ ?_ | intro hp)); all_goals (first | (refine hQ _ ?_; clear hQ Q) | (refine hQ _ (fun h => ?_) (fun h => ?_) <;> clear hQ Q <;> (try simp only [vki, reduceCtorEq] at h)) | omega | assumption | with_reducible rfl | (refine vq ?_; kernel_rfl) | skip)))
          refine ⟨⟨j + 1, hjl⟩, by show R.length - (j + 1) < R.length - j; omega, ?_⟩
          (refine Le.ok (fun j => if j = 0 then some 4 else some j) [] ?_; constructor; all_goals (try simp only [vle, vkt, seval, tbL1_34, xbL1_1, chT1, chT2, c34, rIntss, eIntss, gIntss, List.take_length, List.cons_append, List.nil_append]))
          all_goals first | rfl | (rw [hpe]; done) | exact ⟨_, _, rfl⟩ | (simp [hpe]; done)
        · have d2 : decide ((j : Int) < (R.length : Int)) = false := decide_eq_false (by omega)
          have hjn : j = R.length := by omega
          subst hjn
          unfold chT2
          rw [List.take_length, ← hS]
          repeat' (first | refine zq0 ?_ | refine zq1 ?_ | refine zq2 ?_ | refine zq3 ?_ | refine zq4 ?_ | refine zq5 ?_ | refine uv ?_ | refine uk ?_ | refine uw ?_ | refine uz ?_ | refine uj ?_ | refine ux ?_ | refine uq (by decide) ?_ | ((first | refine vx env fun Q hQ => ?_ | refine vz fun Q hQ => ?_); simp only [vkt, seval, tbL1_34, xbL1_1, chT1, chT2, c34, rIntss, eIntss, gIntss, List.take_length, List.cons_append, List.nil_append, d2, e9]; (try simp only [ite_and]); (repeat' (first | with_reducible assumption | refine And.intro ?_ ?_ | intro hp)); all_goals (first | (refine hQ _ ?_; clear hQ Q) | (refine hQ _ (fun h => ?_) (fun h => ?_) <;> clear hQ Q <;> (try simp only [vki, reduceCtorEq] at h)) | omega | assumption | with_reducible rfl | (refine vq ?_; kernel_rfl) | skip)))
          refine ⟨⟨k + 1, hlt⟩, by show ps.length - (k + 1) < ps.length - k; omega, ?_⟩
          (refine Le.ok some [] ?_; constructor; all_goals (try simp only [vle, vkt, seval, tbL1_34, xbL1_1, chT1, chT2, c34, rIntss, eIntss, gIntss, List.take_length, List.cons_append, List.nil_append]))
          all_goals first | rfl | (simp; done)
      · have d1 : decide ((k : Int) < (ps.length : Int)) = false := decide_eq_false (by omega)
        have hkn : k = ps.length := by omega
        subst hkn
        repeat' (first | refine zq0 ?_ | refine zq1 ?_ | refine zq2 ?_ | refine zq3 ?_ | refine zq4 ?_ | refine zq5 ?_ | refine uv ?_ | refine uk ?_ | refine uw ?_ | refine uz ?_ | refine uj ?_ | refine ux ?_ | refine uq (by decide) ?_ | ((first | refine vx env fun Q hQ => ?_ | refine vz fun Q hQ => ?_); simp only [vkt, seval, tbL1_34, xbL1_1, chT1, chT2, c34, rIntss, eIntss, gIntss, List.take_length, List.cons_append, List.nil_append, d1]; (try simp only [ite_and]); (repeat' (first | with_reducible assumption | refine And.intro ?_ ?_ | intro hp)); all_goals (first | (refine hQ _ ?_; clear hQ Q) | (refine hQ _ (fun h => ?_) (fun h => ?_) <;> clear hQ Q <;> (try simp only [vki, reduceCtorEq] at h)) | omega | assumption | with_reducible rfl | (refine vq ?_; kernel_rfl) | skip)))
        (simp only [vrt, Try.results34, vkt, seval, tbL1_34, xbL1_1, chT1, chT2, c34, rIntss, eIntss, gIntss, List.take_length, List.cons_append, List.nil_append]; refine Fin.val rfl ?_; (try simp only [AV.le, AV.leL]))
        all_goals first | rfl | exact ⟨_, _, rfl⟩ | (simp; done)
end Go.Sym.B
namespace Go.Sym.B
open Go Go.Sym Go.Proofs Go.Sym.C
theorem any_take_succ {α : Type} {f : α → Bool} {l : List α} {j : Nat} {d : α} (h : j < l.length) : (l.take (j + 1)).any f = ((l.take j).any f || f (l.getD j d)) := by
  rw [List.take_succ_eq_append_getElem h, List.any_append]; simp [List.getD_eq_getElem?_getD, h]
def meT1 (l : Led) (bds : List Int) (own : List (List Int)) (k : Nat) : St := { t := asg [(1, aInts bds), (2, aIntss own), (3, .ptr 0 0), (6, aB false), (7, aI k)], h := hasg [(0, .cells (cLed l))], n := 1 }
def meT2 (l : Led) (bds : List Int) (own : List (List Int)) (k : Nat) (x : Ent) (j : Nat) : St := { t := asg [(1, aInts bds), (2, aIntss own), (3, .ptr 0 0), (6, aB false), (7, aI k), (8, .ptr 1 0), (9, aB ((own.take j).any (metB x))), (10, aI j)], h := hasg [(0, .cells (cLed l)), (1, .cells (cEnt x))], n := 2 }
def tbL2_33 := vj @ty3 (vj @ty22 (vj @ty28 (vj @ty36 (vj @ty38 (vj @ty48 (vj @ti3.eq_1 (vj @ti22.eq_1 (vj @ti28.eq_1 (vj @ti36.eq_1 (vj @ti38.eq_1 @ti48.eq_1))))))))))
def xbL2_1 := vj @aI.eq_1 (vj @aB.eq_1 (vj @aLed.eq_1 (vj @cLed.eq_1 (vj @cEnt.eq_1 (vj @aInts.eq_1 (vj @aIntss.eq_1 (vj @eInt.eq_1 (vj @gInt (vj @gInts (vj @eInts.eq_1 (vj @eEnt.eq_1 (@gEnt))))))))))))
set_option maxRecDepth 100000 in
set_option maxHeartbeats 4000000 in
theorem meets_fn (l : Led) (bds : List Int) (own : List (List Int)) (hb : BadOk l bds) (hl : own.length ≤ 100) (hp : ∀ p ∈ own, 2 ≤ p.length) : FnV Try.prog 33 [aLed l, aInts bds, aIntss own] (aB (hitB l bds own)) := by
  have env : Env (fun _ => True) Try.prog tyB (tab []) := mkEnv trivial
  refine Fn.of (A := fun _ => True) (n0 := 0) (D := noD) (Fn0 Try.func33 rfl (fun vs w => by kernel_rfl) (by kernel_rfl)) (by simp) (by simp [AV.ids, AV.idsL, aLed, cLed, aInts, aIntss]) (fun i o h => by cases h) (fun _ _ _ _ => trivial) noD_ok ?_
  have hbl := hb.len
  repeat' (first | refine zq0 ?_ | refine zq1 ?_ | refine zq2 ?_ | refine zq3 ?_ | refine zq4 ?_ | refine zq5 ?_ | refine uv ?_ | refine uk ?_ | refine uw ?_ | refine uz ?_ | refine uj ?_ | refine ux ?_ | refine uq (by decide) ?_ | ((first | refine vx env fun Q hQ => ?_ | refine vz fun Q hQ => ?_); simp only [vkt, seval, tbL2_33, xbL2_1, meT1, meT2]; (try simp only [ite_and]); (repeat' (first | with_reducible assumption | refine And.intro ?_ ?_ | intro hp)); all_goals (first | (refine hQ _ ?_; clear hQ Q) | (refine hQ _ (fun h => ?_) (fun h => ?_) <;> clear hQ Q <;> (try simp only [vki, reduceCtorEq] at h)) | omega | assumption | with_reducible rfl | (refine vq ?_; kernel_rfl) | skip)))
  refine sym_loop (fun k : { k : Nat // k ≤ bds.length ∧ ∀ i, i < k → own.any (metB (l.entries.getD (bds.getD i 0).toNat default)) = true } => meT1 l bds own k.1) (fun k => bds.length - k.1) ⟨0, Nat.zero_le _, fun i h => by omega⟩ ?_ fun ⟨k, hk, hall⟩ => ?_
  · (refine Le.ok some [] ?_; constructor; all_goals (try simp only [vle, vkt, seval, tbL2_33, xbL2_1, meT1, meT2]))
    all_goals first | rfl | (simp; done)
  by_cases hlt : k < bds.length
  · have d1 : decide ((k : Int) < (bds.length : Int)) = true := decide_eq_true (by omega)
    have e9 := wrap64 (n := (k : Int) + 1) (by omega) (by omega)
    have hbb := hb.b _ (gMem (d := 0) hlt)
    obtain ⟨e, he⟩ : ∃ e, bds.getD k 0 = e := ⟨_, rfl⟩
    rw [he] at hbb
    obtain ⟨b0, b1⟩ := hbb
    obtain ⟨x, hx⟩ : ∃ x, l.entries.getD e.toNat default = x := ⟨_, rfl⟩
    repeat' (first | refine zq0 ?_ | refine zq1 ?_ | refine zq2 ?_ | refine zq3 ?_ | refine zq4 ?_ | refine zq5 ?_ | refine uv ?_ | refine uk ?_ | refine uw ?_ | refine uz ?_ | refine uj ?_ | refine ux ?_ | refine uq (by decide) ?_ | ((first | refine vx env fun Q hQ => ?_ | refine vz fun Q hQ => ?_); simp only [vkt, seval, tbL2_33, xbL2_1, meT1, meT2, d1, he, hx]; (try simp only [ite_and]); (repeat' (first | with_reducible assumption | refine And.intro ?_ ?_ | intro hp)); all_goals (first | (refine hQ _ ?_; clear hQ Q) | (refine hQ _ (fun h => ?_) (fun h => ?_) <;> clear hQ Q <;> (try simp only [vki, reduceCtorEq] at h)) | omega | assumption | with_reducible rfl | (refine vq ?_; kernel_rfl) | skip)))
    refine sym_loop (fun j : { j : Nat // j ≤ own.length } => meT2 l bds own k x j.1) (fun j => own.length - j.1) ⟨0, Nat.zero_le _⟩ ?_ fun ⟨j, hj⟩ => ?_
    · (refine Le.ok some [] ?_; constructor; all_goals (try simp only [vle, vkt, seval, tbL2_33, xbL2_1, meT1, meT2]))
      all_goals first | rfl | (simp; done)
    by_cases hjl : j < own.length
    · have d2 : decide ((j : Int) < (own.length : Int)) = true := decide_eq_true (by omega)
      have e8 := wrap64 (n := (j : Int) + 1) (by omega) (by omega)
      have hS := any_take_succ (f := metB x) (d := []) hjl
      have hp2 := hp _ (gMem (d := []) hjl)
      obtain ⟨p, hpe⟩ : ∃ p, own.getD j [] = p := ⟨_, rfl⟩
      rw [hpe] at hS hp2
      unfold metB at hS
      have p0 : 0 < p.length := by omega
      have p1 : 1 < p.length := by omega
      obtain ⟨m, hm⟩ : ∃ m, (own.take j).any (metB x) = m := ⟨_, rfl⟩
      have hS : (own.take (j + 1)).any (metB x) = (m || (decide (p.getD 0 0 = x.day) && (decide (p.getD 1 0 = x.coin) || decide (p.getD 1 0 = x.to)))) := by rw [← hm]; exact hS
      obtain ⟨c1, h1⟩ : ∃ c, decide (p.getD 0 0 = x.day) = c := ⟨_, rfl⟩
      obtain ⟨c2, h2⟩ : ∃ c, decide (p.getD 1 0 = x.coin) = c := ⟨_, rfl⟩
      obtain ⟨c3, h3⟩ : ∃ c, decide (p.getD 1 0 = x.to) = c := ⟨_, rfl⟩
      rw [h1, h2, h3] at hS
      unfold meT2
      rw [hm]
      cases m <;> cases c1 <;> cases c2 <;> cases c3
      all_goals
        repeat' (first | refine zq0 ?_ | refine zq1 ?_ | refine zq2 ?_ | refine zq3 ?_ | refine zq4 ?_ | refine zq5 ?_ | refine uv ?_ | refine uk ?_ | refine uw ?_ | refine uz ?_ | refine uj ?_ | refine ux ?_ | refine uq (by decide) ?_ | ((first | refine vx env fun Q hQ => ?_ | refine vz fun Q hQ => ?_); simp only [vkt, seval, tbL2_33, xbL2_1, meT1, meT2, d2, e8, hpe, h1, h2, h3]; (try simp only [ite_and]); (repeat' (first | with_reducible assumption | refine And.intro ?_ ?_ | intro hp)); all_goals (first | (refine hQ _ ?_; clear hQ Q) | (refine hQ _ (fun h => ?_) (fun h => ?_) <;> clear hQ Q <;> (try simp only [vki, reduceCtorEq] at h)) | omega | assumption | with_reducible rfl | (refine vq ?_; kernel_rfl) | skip)))
        refine ⟨⟨j + 1, hjl⟩, by show own.length - (j + 1) < own.length - j; omega, ?_⟩
        (refine Le.ok some [] ?_; constructor; all_goals (try simp only [vle, vkt, seval, tbL2_33, xbL2_1, meT1, meT2]))
        all_goals first | rfl | (rw [hS]; rfl) | exact ⟨by rw [hS]; rfl, rfl⟩ | (simp [hS]; done)
    · have d2 : decide ((j : Int) < (own.length : Int)) = false := decide_eq_false (by omega)
      have hjn : j = own.length := by omega
      subst hjn
      unfold meT2
      rw [List.take_length]
      cases hm : own.any (metB x)
      · have hF : hitB l bds own = false := by
          unfold hitB
          rw [List.all_eq_false]
          exact ⟨e, by rw [← he]; exact gMem hlt, by rw [hx, hm]; simp⟩
        rw [hF]
        repeat' (first | refine zq0 ?_ | refine zq1 ?_ | refine zq2 ?_ | refine zq3 ?_ | refine zq4 ?_ | refine zq5 ?_ | refine uv ?_ | refine uk ?_ | refine uw ?_ | refine uz ?_ | refine uj ?_ | refine ux ?_ | refine uq (by decide) ?_ | ((first | refine vx env fun Q hQ => ?_ | refine vz fun Q hQ => ?_); simp only [vkt, seval, tbL2_33, xbL2_1, meT1, meT2, d2, hm]; (try simp only [ite_and]); (repeat' (first | with_reducible assumption | refine And.intro ?_ ?_ | intro hp)); all_goals (first | (refine hQ _ ?_; clear hQ Q) | (refine hQ _ (fun h => ?_) (fun h => ?_) <;> clear hQ Q <;> (try simp only [vki, reduceCtorEq] at h)) | omega | assumption | with_reducible rfl | (refine vq ?_; kernel_rfl) | skip)))
        (simp only [vrt, Try.results33, vkt, seval, tbL2_33, xbL2_1, meT1, meT2]; refine Fin.val rfl ?_; (try simp only [AV.le, AV.leL]))
        all_goals first | rfl | (simp; done)
      · repeat' (first | refine zq0 ?_ | refine zq1 ?_ | refine zq2 ?_ | refine zq3 ?_ | refine zq4 ?_ | refine zq5 ?_ | refine uv ?_ | refine uk ?_ | refine uw ?_ | refine uz ?_ | refine uj ?_ | refine ux ?_ | refine uq (by decide) ?_ | ((first | refine vx env fun Q hQ => ?_ | refine vz fun Q hQ => ?_); simp only [vkt, seval, tbL2_33, xbL2_1, meT1, meT2, d2, hm, e9]; (try simp only [ite_and]); (repeat' (first | with_reducible assumption | refine And.intro ?_ ?_ | intro hp)); all_goals (first | (refine hQ _ ?_; clear hQ Q) | (refine hQ _ (fun h => ?_) (fun h => ?_) <;> clear hQ Q <;> (try simp only [vki, reduceCtorEq] at h)) | omega | assumption | with_reducible rfl | (refine vq ?_; kernel_rfl) | skip)))
        refine ⟨⟨k + 1, hlt, fun i hi => ?_⟩, by show bds.length - (k + 1) < bds.length - k; omega, ?_⟩
        · rcases Nat.lt_or_eq_of_le (Nat.le_of_lt_succ hi) with h | h
          · exact hall i h
          · rw [h, he, hx, hm]
        · (refine Le.ok some [] ?_; constructor; all_goals (try simp only [vle, vkt, seval, tbL2_33, xbL2_1, meT1, meT2]))
          all_goals first | rfl | (simp; done)
  · have d1 : decide ((k : Int) < (bds.length : Int)) = false := decide_eq_false (by omega)
    have hT : hitB l bds own = true := by
      unfold hitB
      rw [List.all_eq_true]
      intro y hy
      obtain ⟨i, hi, rfl⟩ := List.getElem_of_mem hy
      have := hall i (by omega)
      rw [show bds.getD i 0 = bds[i] by simp [List.getD_eq_getElem?_getD, hi]] at this
      exact this
    rw [hT]
    repeat' (first | refine zq0 ?_ | refine zq1 ?_ | refine zq2 ?_ | refine zq3 ?_ | refine zq4 ?_ | refine zq5 ?_ | refine uv ?_ | refine uk ?_ | refine uw ?_ | refine uz ?_ | refine uj ?_ | refine ux ?_ | refine uq (by decide) ?_ | ((first | refine vx env fun Q hQ => ?_ | refine vz fun Q hQ => ?_); simp only [vkt, seval, tbL2_33, xbL2_1, meT1, meT2, d1]; (try simp only [ite_and]); (repeat' (first | with_reducible assumption | refine And.intro ?_ ?_ | intro hp)); all_goals (first | (refine hQ _ ?_; clear hQ Q) | (refine hQ _ (fun h => ?_) (fun h => ?_) <;> clear hQ Q <;> (try simp only [vki, reduceCtorEq] at h)) | omega | assumption | with_reducible rfl | (refine vq ?_; kernel_rfl) | skip)))
    (simp only [vrt, Try.results33, vkt, seval, tbL2_33, xbL2_1, meT1, meT2]; refine Fin.val rfl ?_; (try simp only [AV.le, AV.leL]))
    all_goals first | rfl | (simp; done)
def c33 : List AV → Prop × AV
  | [.agg [.sl cs, .sl rs, .sl ss, .sl es], .sl bs, .sl os] => (isL cs rs ss es ∧ bs = (bs.map dInt).map eInt ∧ os = (os.map dInts).map eInts ∧ BadOk (ldOf cs rs ss es) (bs.map dInt) ∧ os.length ≤ 100 ∧ (∀ p ∈ os.map dInts, 2 ≤ p.length), aB (hitB (ldOf cs rs ss es) (bs.map dInt) (os.map dInts)))
  | _ => (False, .junk)
theorem d33 {A : Frm → Prop} : EntryOK A Try.prog 33 (valE true c33) := valE_ok fun vs hv h => by
  clear hv
  unfold c33 at h ⊢
  split at h
  · obtain ⟨h1, h2, h3, h4, h5, h6⟩ := h
    refine ⟨by simp [AV.plain, aB], fun _ => by simp [AV.flat, aB], ?_⟩
    have := meets_fn _ _ _ h4 (by rw [List.length_map]; exact h5) h6
    simp only [aInts, aIntss, ← h2, ← h3] at this
    rw [aLed_of h1] at this
    exact this
  · exact h.elim
def pairX (x : Ent) : List Int := [x.day, if 1 ≤ x.coin then x.coin else x.to]
theorem cover {l : Led} (hV : Val l) : ∃ s, s.Sublist (pairsOf l) ∧ s.length ≤ (badL l).length ∧ hitB l (badL l) s = true := by
  refine ⟨(pairsOf l).filter fun p => decide (p ∈ (badL l).map fun i => pairX (l.entries.getD i.toNat default)), List.filter_sublist, ?_, ?_⟩
  · have := nodup_sub ((pairsOf l).filter fun p => decide (p ∈ (badL l).map fun i => pairX (l.entries.getD i.toNat default))) ((badL l).map fun i => pairX (l.entries.getD i.toNat default)) ((pairs_nodup l).filter _) fun x hx => by simpa using (List.mem_filter.1 hx).2
    rwa [List.length_map] at this
  · unfold hitB
    rw [List.all_eq_true]
    intro y hy
    have hy' := hy
    obtain ⟨i, hi, rfl⟩ := List.mem_map.1 hy
    obtain ⟨h1, h2⟩ := List.mem_filter.1 hi
    have h1 := List.mem_range.1 h1
    have hx := val_entry hV h1
    unfold isBad at h2
    rw [Bool.and_eq_true, decide_eq_true_eq] at h2
    have hm : pairX (l.entries.getD i default) ∈ (badL l).map fun i => pairX (l.entries.getD i.toNat default) := List.mem_map.2 ⟨(i : Int), hy', by rw [Int.toNat_natCast]⟩
    rw [Int.toNat_natCast]
    obtain ⟨x, hxe⟩ : ∃ x, l.entries.getD i default = x := ⟨_, rfl⟩
    rw [hxe] at hx h2 hm ⊢
    have k3 := h2.1
    have t1 := hx.to k3
    have t2 := hx.ne k3
    rw [List.any_eq_true]
    refine ⟨pairX x, List.mem_filter.2 ⟨?_, by simpa using hm⟩, ?_⟩
    · unfold pairX
      split
      · exact pairs_mem hx.day.1 hx.day.2 (by assumption) hx.coin.2
      · exact pairs_mem hx.day.1 hx.day.2 (show 1 ≤ x.to by have := hx.coin.1; omega) t1.2
    · unfold pairX metB
      split <;> simp
theorem cho_le : ∀ (m : Nat) (ps : List (List Int)), ∀ c ∈ choF m ps, m ≤ ps.length ∧ ∀ p ∈ c, p ∈ ps
  | 0, ps, c, hc => by simp [choF] at hc; subst hc; simp
  | m + 1, ps, c, hc => by
    rw [choF_succ, choK] at hc
    obtain ⟨i, hi, hc⟩ := List.mem_flatMap.1 hc
    have hi := List.mem_range.1 hi
    obtain ⟨c', h', rfl⟩ := List.mem_map.1 hc
    obtain ⟨h1, h2⟩ := cho_le m _ c' h'
    rw [List.length_drop] at h1
    refine ⟨by omega, fun p hp => ?_⟩
    rcases List.mem_cons.1 hp with rfl | hp
    · exact gMem hi
    · exact List.mem_of_mem_drop (h2 p hp)
theorem growN_some {l : Led} {m : Nat} {c : List (List Int)} (hc : c ∈ choF m (pairsOf l)) (h : hitB l (badL l) c = true) : (growN l m).2 = true := by
  unfold growN
  rw [(grow_cho (hitB l (badL l)) (pairsOf l) m [] 0).1, List.drop_zero, List.find?_isSome]
  exact ⟨c, hc, by simpa using h⟩
theorem growN_none {l : Led} {m : Nat} (h : ∀ c ∈ choF m (pairsOf l), hitB l (badL l) c = false) : (growN l m).2 = false := by
  unfold growN
  rw [(grow_cho (hitB l (badL l)) (pairsOf l) m [] 0).1, List.drop_zero, Option.isSome_eq_false_iff, Option.isNone_iff_eq_none, List.find?_eq_none]
  intro c hc
  simpa using h c hc
theorem wrong_is {l : Led} {m i : Nat} (hn : ∀ j, j < m → (growN l j).2 = false) (hi : i < (choF m (pairsOf l)).length) (h : hitB l (badL l) ((choF m (pairsOf l)).getD i []) = true) (hno : ∀ j, j < i → hitB l (badL l) ((choF m (pairsOf l)).getD j []) = false) : wrongL l = (choF m (pairsOf l)).getD i [] := by
  have hmem := gMem (d := []) hi
  have hT := growN_some hmem h
  have hM := wrongM_hit (cho_le m _ _ hmem).1 hT hn
  unfold wrongL
  rw [hM]
  have := (grow_cho (hitB l (badL l)) (pairsOf l) m [] 0).2 ((choF m (pairsOf l)).getD i []) (by
    rw [List.drop_zero, List.find?_eq_some_iff_getElem]
    refine ⟨by simpa using h, i, hi, by simp [List.getD_eq_getElem?_getD, hi], fun j hj => ?_⟩
    have h1 := hno j hj
    rw [show (choF m (pairsOf l)).getD j [] = (choF m (pairsOf l))[j] by simp [List.getD_eq_getElem?_getD, show j < (choF m (pairsOf l)).length by omega]] at h1
    simp [h1])
  unfold growN
  rw [this]; simp
def rwT1 (l : Led) (m : Nat) : St := { t := asg [(1, .ptr 0 0), (2, .nil), (3, aI 0), (5, aInts (badL l)), (6, aI m)], h := hasg [(0, .cells (cLed l))], n := 1 }
def rwT2 (l : Led) (m : Nat) (A : List (List (List Int))) (k : Nat) : St := { t := asg [(1, .ptr 0 0), (2, .nil), (3, aI 0), (5, aInts (badL l)), (6, aI m), (7, .sl (A.map eIntss)), (8, aI k)], h := hasg [(0, .cells (cLed l))], n := 1 }
def tbL2_65 := vj @ty3 (vj @ty22 (vj @ty28 (vj @ty30 (vj @ty38 (vj @ty50 (vj @ti3.eq_1 (vj @ti22.eq_1 (vj @ti28.eq_1 (vj @ti30.eq_1 (vj @ti38.eq_1 @ti50.eq_1))))))))))
def xbL2_2 := vj @aI.eq_1 (vj @aB.eq_1 (vj @aLed.eq_1 (vj @cLed.eq_1 (vj @aInts.eq_1 (vj @aIntss.eq_1 (vj @c50.eq_1 (vj @c50.eq_2 (vj @isL_e (vj @ldOf_e (vj @mInt (@mInts)))))))))))
set_option maxRecDepth 100000 in
set_option maxHeartbeats 4000000 in
theorem rwrong_fn (l : Led) (hl : Fit l) : FnV Try.prog 65 [aLed l] (aWrong l) := by
  have env : Env (fun _ => True) Try.prog tyB (tab [(51, valE true c50), (123, valE false c123), (35, valE false c35), (34, valE false (c34 100)), (33, valE true c33)]) := mkEnv ⟨d51, d123, d35, d34 (fun m _ => cho_all m), d33, trivial⟩
  refine Fn.of (A := fun _ => True) (n0 := 0) (D := noD) (Fn0 Try.func65 rfl (fun vs w => by kernel_rfl) (by kernel_rfl)) (by simp) (by simp [AV.ids, AV.idsL, aLed, cLed]) (fun i o h => by cases h) (fun _ _ _ _ => trivial) noD_ok ?_
  by_cases h0 : checkE l = 0
  · have hV := val_of h0
    rw [show aWrong l = _ from if_neg (by rw [h0]; simp)]
    have hbad := badOk hV
    have hb6 : (badL l).length ≤ 6 := by have := badK_len l l.entries.length; have := hV.e; unfold badL; omega
    have hpl := pairs_len hV
    have hp2 := pairs_two l
    have hp3 : ∀ p ∈ pairsOf l, p.length ≤ 100000 := fun p hp => by
      unfold pairsOf pairsK pairsR at hp
      obtain ⟨d, _, hp⟩ := List.mem_flatMap.1 hp
      obtain ⟨c, _, rfl⟩ := List.mem_map.1 hp
      simp
    repeat' (first | refine zq0 ?_ | refine zq1 ?_ | refine zq2 ?_ | refine zq3 ?_ | refine zq4 ?_ | refine zq5 ?_ | refine uv ?_ | refine uk ?_ | refine uw ?_ | refine uz ?_ | refine uj ?_ | refine ux ?_ | refine uq (by decide) ?_ | ((first | refine vx env fun Q hQ => ?_ | refine vz fun Q hQ => ?_); simp only [vkt, seval, tbL2_65, xbL2_2, rwT1, rwT2, c123, c35, c34, c33, gIntss, eIntss, h0]; (try simp only [ite_and]); (repeat' (first | with_reducible assumption | refine And.intro ?_ ?_ | intro hp)); all_goals (first | (refine hQ _ ?_; clear hQ Q) | (refine hQ _ (fun h => ?_) (fun h => ?_) <;> clear hQ Q <;> (try simp only [vki, reduceCtorEq] at h)) | omega | assumption | with_reducible rfl | (refine vq ?_; kernel_rfl) | skip)))
    refine sym_loop (fun m : { m : Nat // m ≤ (badL l).length + 1 ∧ ∀ j, j < m → (growN l j).2 = false } => rwT1 l m.1) (fun m => (badL l).length + 1 - m.1) ⟨0, Nat.zero_le _, fun j h => by omega⟩ ?_ fun ⟨m, hm, hn⟩ => ?_
    · (refine Le.ok some [] ?_; constructor; all_goals (try simp only [vle, vkt, seval, tbL2_65, xbL2_2, rwT1, rwT2, c123, c35, c34, c33, gIntss, eIntss]))
      all_goals first | rfl | (simp; done)
    by_cases hlt : m ≤ (badL l).length
    · have d1 : decide ((m : Int) ≤ ((badL l).length : Int)) = true := decide_eq_true (by omega)
      have e9 := wrap64 (n := (m : Int) + 1) (by omega) (by omega)
      have hG : ChOk (pairsOf l) m := ⟨hpl, by omega, hp3⟩
      have tm : (m : Int).toNat = m := Int.toNat_natCast m
      have hM : m < 100 := by omega
      have hw := fun i hi h hno => wrong_is (i := i) hn hi h hno
      have hN := growN_none (l := l) (m := m)
      have hAc := cho_le m (pairsOf l)
      have hAn := cho_mem_len m (pairsOf l)
      have hAl := cho_len m (pairsOf l) hpl
      have h12 : 12 ^ m ≤ 12 ^ 6 := Nat.pow_le_pow_right (by decide) (by omega)
      obtain ⟨A, hA⟩ : ∃ A, choF m (pairsOf l) = A := ⟨_, rfl⟩
      rw [hA] at hw hN hAc hAn hAl
      repeat' (first | refine zq0 ?_ | refine zq1 ?_ | refine zq2 ?_ | refine zq3 ?_ | refine zq4 ?_ | refine zq5 ?_ | refine uv ?_ | refine uk ?_ | refine uw ?_ | refine uz ?_ | refine uj ?_ | refine ux ?_ | refine uq (by decide) ?_ | ((first | refine vx env fun Q hQ => ?_ | refine vz fun Q hQ => ?_); simp only [vkt, seval, tbL2_65, xbL2_2, rwT1, rwT2, c123, c35, c34, c33, gIntss, eIntss, d1, tm, hA]; (try simp only [ite_and]); (repeat' (first | with_reducible assumption | refine And.intro ?_ ?_ | intro hp)); all_goals (first | (refine hQ _ ?_; clear hQ Q) | (refine hQ _ (fun h => ?_) (fun h => ?_) <;> clear hQ Q <;> (try simp only [vki, reduceCtorEq] at h)) | omega | assumption | with_reducible rfl | (refine vq ?_; kernel_rfl) | skip)))
      refine sym_loop (fun k : { k : Nat // k ≤ A.length ∧ ∀ j, j < k → hitB l (badL l) (A.getD j []) = false } => rwT2 l m A k.1) (fun k => A.length - k.1) ⟨0, Nat.zero_le _, fun j h => by omega⟩ ?_ fun ⟨k, hk, hno⟩ => ?_
      · (refine Le.ok some [] ?_; constructor; all_goals (try simp only [vle, vkt, seval, tbL2_65, xbL2_2, rwT1, rwT2, c123, c35, c34, c33, gIntss, eIntss]))
        all_goals first | rfl | (simp; done)
      by_cases hkl : k < A.length
      · have d2 : decide ((k : Int) < (A.length : Int)) = true := decide_eq_true (by omega)
        have e8 := wrap64 (n := (k : Int) + 1) (by omega) (by omega)
        have hmem := gMem (d := []) hkl
        have hc1 := (hAc _ hmem).2
        have hc2 := hAn _ hmem
        have hwk := hw k hkl
        obtain ⟨c, hc⟩ : ∃ c, A.getD k [] = c := ⟨_, rfl⟩
        rw [hc] at hc1 hc2 hwk
        have hcl : c.length ≤ 100 := by omega
        have hct : ∀ p ∈ c, 2 ≤ p.length := fun p hp => hp2 p (hc1 p hp)
        cases hh : hitB l (badL l) c
        · repeat' (first | refine zq0 ?_ | refine zq1 ?_ | refine zq2 ?_ | refine zq3 ?_ | refine zq4 ?_ | refine zq5 ?_ | refine uv ?_ | refine uk ?_ | refine uw ?_ | refine uz ?_ | refine uj ?_ | refine ux ?_ | refine uq (by decide) ?_ | ((first | refine vx env fun Q hQ => ?_ | refine vz fun Q hQ => ?_); simp only [vkt, seval, tbL2_65, xbL2_2, rwT1, rwT2, c123, c35, c34, c33, gIntss, eIntss, d2, e8, hc, hh]; (try simp only [ite_and]); (repeat' (first | with_reducible assumption | refine And.intro ?_ ?_ | intro hp)); all_goals (first | (refine hQ _ ?_; clear hQ Q) | (refine hQ _ (fun h => ?_) (fun h => ?_) <;> clear hQ Q <;> (try simp only [vki, reduceCtorEq] at h)) | omega | assumption | with_reducible rfl | (refine vq ?_; kernel_rfl) | skip)))
          refine ⟨⟨k + 1, hkl, fun j hj => ?_⟩, by show A.length - (k + 1) < A.length - k; omega, ?_⟩
          · rcases Nat.lt_or_eq_of_le (Nat.le_of_lt_succ hj) with h | h
            · exact hno j h
            · rw [h, hc]; exact hh
          · (refine Le.ok some [] ?_; constructor; all_goals (try simp only [vle, vkt, seval, tbL2_65, xbL2_2, rwT1, rwT2, c123, c35, c34, c33, gIntss, eIntss]))
            all_goals first | rfl | (simp; done)
        · have hwe := hwk hh hno
          rw [hwe]
          repeat' (first | refine zq0 ?_ | refine zq1 ?_ | refine zq2 ?_ | refine zq3 ?_ | refine zq4 ?_ | refine zq5 ?_ | refine uv ?_ | refine uk ?_ | refine uw ?_ | refine uz ?_ | refine uj ?_ | refine ux ?_ | refine uq (by decide) ?_ | ((first | refine vx env fun Q hQ => ?_ | refine vz fun Q hQ => ?_); simp only [vkt, seval, tbL2_65, xbL2_2, rwT1, rwT2, c123, c35, c34, c33, gIntss, eIntss, d2, hc, hh]; (try simp only [ite_and]); (repeat' (first | with_reducible assumption | refine And.intro ?_ ?_ | intro hp)); all_goals (first | (refine hQ _ ?_; clear hQ Q) | (refine hQ _ (fun h => ?_) (fun h => ?_) <;> clear hQ Q <;> (try simp only [vki, reduceCtorEq] at h)) | omega | assumption | with_reducible rfl | (refine vq ?_; kernel_rfl) | skip)))
          (simp only [vrt, Try.results65, vkt, seval, tbL2_65, xbL2_2, rwT1, rwT2, c123, c35, c34, c33, gIntss, eIntss]; refine Fin.val rfl ?_; (try simp only [AV.le, AV.leL]))
          all_goals first | rfl | (simp; done)
      · have d2 : decide ((k : Int) < (A.length : Int)) = false := decide_eq_false (by omega)
        repeat' (first | refine zq0 ?_ | refine zq1 ?_ | refine zq2 ?_ | refine zq3 ?_ | refine zq4 ?_ | refine zq5 ?_ | refine uv ?_ | refine uk ?_ | refine uw ?_ | refine uz ?_ | refine uj ?_ | refine ux ?_ | refine uq (by decide) ?_ | ((first | refine vx env fun Q hQ => ?_ | refine vz fun Q hQ => ?_); simp only [vkt, seval, tbL2_65, xbL2_2, rwT1, rwT2, c123, c35, c34, c33, gIntss, eIntss, d2, e9]; (try simp only [ite_and]); (repeat' (first | with_reducible assumption | refine And.intro ?_ ?_ | intro hp)); all_goals (first | (refine hQ _ ?_; clear hQ Q) | (refine hQ _ (fun h => ?_) (fun h => ?_) <;> clear hQ Q <;> (try simp only [vki, reduceCtorEq] at h)) | omega | assumption | with_reducible rfl | (refine vq ?_; kernel_rfl) | skip)))
        refine ⟨⟨m + 1, by omega, fun j hj => ?_⟩, by show (badL l).length + 1 - (m + 1) < (badL l).length + 1 - m; omega, ?_⟩
        · rcases Nat.lt_or_eq_of_le (Nat.le_of_lt_succ hj) with h | h
          · exact hn j h
          · rw [h]
            refine hN fun c hc => ?_
            obtain ⟨j, hj, rfl⟩ := List.getElem_of_mem hc
            have := hno j (by omega)
            rwa [show A.getD j [] = A[j] by simp [List.getD_eq_getElem?_getD, hj]] at this
        · (refine Le.ok some [] ?_; constructor; all_goals (try simp only [vle, vkt, seval, tbL2_65, xbL2_2, rwT1, rwT2, c123, c35, c34, c33, gIntss, eIntss]))
          all_goals first | rfl | (simp; done)
    · exfalso
      obtain ⟨s, hs1, hs2, hs3⟩ := cover hV
      have h1 := growN_some (sub_cho hs1) hs3
      rw [hn s.length (by omega)] at h1
      cases h1
  · rw [show aWrong l = _ from if_pos h0]
    repeat' (first | refine zq0 ?_ | refine zq1 ?_ | refine zq2 ?_ | refine zq3 ?_ | refine zq4 ?_ | refine zq5 ?_ | refine uv ?_ | refine uk ?_ | refine uw ?_ | refine uz ?_ | refine uj ?_ | refine ux ?_ | refine uq (by decide) ?_ | ((first | refine vx env fun Q hQ => ?_ | refine vz fun Q hQ => ?_); simp only [vkt, seval, tbL2_65, xbL2_2, rwT1, rwT2, c123, c35, c34, c33, gIntss, eIntss, h0]; (try simp only [ite_and]); (repeat' (first | with_reducible assumption | refine And.intro ?_ ?_ | intro hp)); all_goals (first | (refine hQ _ ?_; clear hQ Q) | (refine hQ _ (fun h => ?_) (fun h => ?_) <;> clear hQ Q <;> (try simp only [vki, reduceCtorEq] at h)) | omega | assumption | with_reducible rfl | (refine vq ?_; kernel_rfl) | skip)))
    (simp only [vrt, Try.results65, vkt, seval, tbL2_65, xbL2_2, rwT1, rwT2, c123, c35, c34, c33, gIntss, eIntss]; refine Fin.val rfl ?_; (try simp only [AV.le, AV.leL]))
    all_goals first | rfl | (simp; done)
end Go.Sym.B
namespace Go.Sym.B
open Go Go.Sym Go.Proofs Go.Sym.C
theorem d65 {A : Frm → Prop} : EntryOK A Try.prog 65 (valE false c32) := valE_ok fun vs hv h => by
  clear hv
  unfold c32 at h ⊢
  split at h
  · refine ⟨by unfold aWrong; split <;> simp [AV.plain, AV.plainL, aI, aIntss], fun h => absurd h (by decide), ?_⟩
    rw [← aLed_of h.1]; exact rwrong_fn _ h.2
  · exact h.elim
theorem wrong_ok {l : Led} (hV : Val l) : (wrongL l).length ≤ 12 ∧ ∀ p ∈ wrongL l, p ∈ pairsOf l := by
  have hT : (growN l (wrongM l)).2 = true := by
    unfold wrongM
    cases hf : (List.range ((pairsOf l).length + 1)).find? (fun m => (growN l m).2) with
    | none =>
      have := List.find?_eq_none.1 hf (pairsOf l).length (List.mem_range.2 (by omega))
      exact absurd (growN_all hV) this
    | some m => exact (List.find?_range_eq_some.1 hf).1
  have h1 := (grow_cho (hitB l (badL l)) (pairsOf l) (wrongM l) [] 0).1
  rw [show (growF (hitB l (badL l)) (pairsOf l) (wrongM l) [] 0).2 = true from hT] at h1
  obtain ⟨c, hc⟩ := Option.isSome_iff_exists.1 h1.symm
  have h2 := (grow_cho (hitB l (badL l)) (pairsOf l) (wrongM l) [] 0).2 c hc
  have h3 := List.mem_of_find?_eq_some hc
  rw [List.drop_zero] at h3
  have h4 : wrongL l = c := h2
  rw [h4]
  refine ⟨?_, (cho_le _ _ c h3).2⟩
  rw [cho_mem_len _ _ c h3]
  have := (cho_le _ _ c h3).1
  have := pairs_len hV
  omega
theorem aBest_form (l : Led) (d a b n : Int) : ∃ (w : List Int) (g e : Int), aBest l d a b n = .tup [.sl (w.map eInt), .v (.int .i64 g), .v (.int .i64 e)] ∧ w.length ≤ maxLen := by
  have := tmax
  unfold aBest aInts
  split
  · exact ⟨[], 0, _, rfl, by simp⟩
  · rename_i h
    have hb := bw_of (Decidable.not_not.1 h)
    have hc := hb.val.c
    have : (bestW l d a b n).1.length ≤ 20 := dfs_len (by simp) (by simp; omega)
    exact ⟨_, _, _, rfl, by omega⟩
theorem aBad_form {l : Led} (hl : Fit l) : ∃ (w : List Int) (e : Int), aBad l = .tup [.sl (w.map eInt), .v (.int .i64 e)] ∧ w.length ≤ maxLen := by
  have := tmax
  unfold aBad aInts
  split
  · exact ⟨[], _, rfl, by simp⟩
  · have h1 := badK_len l l.entries.length
    have h2 := hl.e
    exact ⟨_, _, rfl, by unfold badL; omega⟩
theorem aWrong_form {l : Led} (hl : Fit l) : ∃ (w : List (List Int)) (e : Int), aWrong l = .tup [.sl (w.map eInts), .v (.int .i64 e)] ∧ w.length ≤ maxLen ∧ ∀ p ∈ w, p.length ≤ maxLen := by
  have := tmax
  unfold aWrong aIntss
  split
  · exact ⟨[], _, rfl, by simp, by simp⟩
  · rename_i h
    have hV := val_of (Decidable.not_not.1 h)
    obtain ⟨h1, h2⟩ := wrong_ok hV
    refine ⟨_, _, rfl, by omega, fun p hp => ?_⟩
    have hp := h2 p hp
    unfold pairsOf pairsK pairsR at hp
    obtain ⟨d, _, hp⟩ := List.mem_flatMap.1 hp
    obtain ⟨c, _, rfl⟩ := List.mem_map.1 hp
    simp; omega
def tbL3_13 := vj @ty3 (vj @ty22 (vj @ty28 (vj @ty30 (vj @ty35 (vj @ty38 (vj @ty48 (vj @ty55 (vj @ty70 (vj @ti3.eq_1 (vj @ti22.eq_1 (vj @ti28.eq_1 (vj @ti30.eq_1 (vj @ti35.eq_1 (vj @ti38.eq_1 (vj @ti48.eq_1 (vj @ti55.eq_1 @ti70.eq_1))))))))))))))))
def xbL3_1 := vj @aI.eq_1 (vj @aB.eq_1 (vj @aLed.eq_1 (vj @cLed.eq_1 (vj @aEnt.eq_1 (vj @woT.eq_1 (vj @bgH.eq_1 (vj @aInts.eq_1 (vj @mInt (vj @mInts (vj @eInt.eq_1 (vj @eInts.eq_1 (vj @c19.eq_1 (vj @c19.eq_2 (vj @p20.eq_1 (vj @p20.eq_2 (vj @p22.eq_1 (vj @p22.eq_2 (vj @p27.eq_1 (vj @p27.eq_2 (vj @c44.eq_1 (vj @c44.eq_2 (vj @c45.eq_1 (vj @c45.eq_2 (vj @c43.eq_1 (vj @c43.eq_2 (vj @s26.eq_1 (vj @s26.eq_2 (vj @s36.eq_1 (vj @s36.eq_2 (vj @c31.eq_1 (vj @c31.eq_2 (vj @c32.eq_1 (vj @c32.eq_2 (vj @c52.eq_1 (vj @c52.eq_2 (vj @isL_e (vj @ldOf_e (vj @aSh.eq_1 (@eLed.eq_1)))))))))))))))))))))))))))))))))))))))
set_option maxRecDepth 100000 in
set_option maxHeartbeats 8000000 in
theorem ways_fn13 (l : Led) (x : Ent) (d f t n : Int) (ns : List Int) (h2 : ns.length ≤ maxLen) : FnV Try.prog 13 [aLed l, aEnt x, aI d, aI f, aI t, aI n, aInts ns] (aB true) := by
  have env : Env (fun _ => True) Try.prog tyB (tab [(19, valE true c19), (20, fnE p20), (22, fnE p22), (26, valE true s26), (27, fnE p27), (31, valE false c31), (32, valE false c32), (36, valE true s36), (43, valE false c43), (44, valE true c44), (45, valE false c45), (52, valE true c52), (62, valE false c62), (63, valE false c62), (64, valE false c31), (65, valE false c32)]) := mkEnv ⟨d19, e20, e22, e26, e27, d31, d32, d36, d43, d44, d45, d52, d62, d63, d64, d65, trivial⟩
  refine Fn.of (A := fun _ => True) (n0 := 0) (D := noD) (Fn0 Try.func13 rfl (fun vs w => by kernel_rfl) (by kernel_rfl)) (by simp) (by simp [AV.ids, AV.idsL, aInts, aI, aLed, cLed, aEnt]) (fun i o h => by cases h) (fun _ _ _ _ => trivial) noD_ok ?_
  cases hlg : largeB l
  · have hfl := fit_of hlg
    have z1 : (1 : Int) ≤ 4 ∧ (4 : Int) ≤ 4 := by decide
    have z3 : (1 : Int) ≤ 3 ∧ (3 : Int) ≤ 4 := by decide
    have z2 : (0 : Int) ≤ 6 ∧ (6 : Int) ≤ 6 := by decide
    have hok := lg_ok (x := nbS ns) (w := 5) z1 z3 z2
    obtain ⟨M, hM⟩ : ∃ L, lgL (nbS ns) 4 3 6 5 = L := ⟨_, rfl⟩
    obtain ⟨y, hy⟩ : ∃ y, lgS (nbS ns) 4 3 6 5 = y := ⟨_, rfl⟩
    rw [hM] at hok
    have hfM := hok.fit
    have hfW := add_fit hok x
    have hc := hok.c
    have hr := hok.r.len
    have wR : IntKind.wrap .i64 ((M.rates.length : Int) - 1) = (M.rates.length : Int) - 1 := wrap64 (by omega) (by omega)
    have wC : IntKind.wrap .i64 ((M.coins.length : Int) - 1) = (M.coins.length : Int) - 1 := wrap64 (by omega) (by omega)
    have cR : (M.rates.length : Int) - 1 < 9223372036854775807 := by omega
    have cC : (M.coins.length : Int) - 1 < 9223372036854775807 := by omega
    obtain ⟨D, hD⟩ : ∃ D, upV y ((M.rates.length : Int) - 1) = D := ⟨_, rfl⟩
    obtain ⟨y1, hy1⟩ : ∃ z, upS y ((M.rates.length : Int) - 1) = z := ⟨_, rfl⟩
    obtain ⟨F, hF⟩ : ∃ D, upV y1 ((M.coins.length : Int) - 1) = D := ⟨_, rfl⟩
    obtain ⟨y2, hy2⟩ : ∃ z, upS y1 ((M.coins.length : Int) - 1) = z := ⟨_, rfl⟩
    obtain ⟨T, hT⟩ : ∃ D, upV y2 ((M.coins.length : Int) - 1) = D := ⟨_, rfl⟩
    obtain ⟨y3, hy3⟩ : ∃ z, upS y2 ((M.coins.length : Int) - 1) = z := ⟨_, rfl⟩
    obtain ⟨A, hA⟩ : ∃ D, upV y3 30 = D := ⟨_, rfl⟩
    obtain ⟨y4, hy4⟩ : ∃ z, upS y3 30 = z := ⟨_, rfl⟩
    obtain ⟨W, hW⟩ : ∃ W, addE1 M x = W := ⟨_, rfl⟩
    have hW' : addE1 M ⟨x.day, x.kind, x.coin, x.to, x.amount, x.got⟩ = W := hW
    rw [hW] at hfW
    repeat' (first | refine zq0 ?_ | refine zq1 ?_ | refine zq2 ?_ | refine zq3 ?_ | refine zq4 ?_ | refine zq5 ?_ | refine uv ?_ | refine uk ?_ | refine uw ?_ | refine uz ?_ | refine uj ?_ | refine ux ?_ | refine uq (by decide) ?_ | ((first | refine vx env fun Q hQ => ?_ | refine vz fun Q hQ => ?_); simp only [vkt, Nat.reduceEqDiff, Nat.reduceAdd, Nat.reduceMul, Nat.reduceSub, Nat.reduceLeDiff, reduceCtorEq, ↓reduceIte, ↓reduceDIte, Int.reduceToNat, Int.reduceLE, Int.reduceLT, Int.reduceEq, Int.reduceNeg, tbL3_13, xbL3_1, c62, hlg, hM, hy, wR, wC, hD, hy1, hF, hy2, hT, hy3, hA, hy4, hW']; (try simp only [ite_and]); (repeat' (first | with_reducible assumption | refine And.intro ?_ ?_)); all_goals (first | (refine hQ _ ?_; clear hQ Q) | (refine hQ _ (fun h => ?_) (fun h => ?_) <;> clear hQ Q <;> (try simp only [vki, reduceCtorEq] at h)) | omega | with_reducible assumption | with_reducible rfl | (refine vq ?_; kernel_rfl) | skip)))
    obtain ⟨Ls, hLs⟩ : ∃ Ls, [l, M, W, M] = Ls := ⟨_, rfl⟩
    obtain ⟨ds, hds⟩ : ∃ Ls, [d, D, 0, d] = Ls := ⟨_, rfl⟩
    obtain ⟨fs, hfs⟩ : ∃ Ls, [f, F, 0, f] = Ls := ⟨_, rfl⟩
    obtain ⟨ts, hts⟩ : ∃ Ls, [t, T, 0, t] = Ls := ⟨_, rfl⟩
    obtain ⟨az', has⟩ : ∃ Ls, [n, A, n, n] = Ls := ⟨_, rfl⟩
    have hLf : ∀ m ∈ Ls, Fit m := fun m hm => by
      rw [← hLs] at hm
      simp only [List.mem_cons, List.not_mem_nil, or_false] at hm
      rcases hm with rfl | rfl | rfl | rfl <;> assumption
    have l1 : Ls.length = 4 := by rw [← hLs]; rfl
    have l2 : ds.length = 4 := by rw [← hds]; rfl
    have l3 : fs.length = 4 := by rw [← hfs]; rfl
    have l4 : ts.length = 4 := by rw [← hts]; rfl
    have l5 : az'.length = 4 := by rw [← has]; rfl
    refine sym_loop (fun k : { k : Nat // k ≤ 4 } => woT Ls ds fs ts az' k.1) (fun k => 4 - k.1) ⟨0, Nat.zero_le _⟩ ?_ fun ⟨k, hk⟩ => ?_
    · (refine Le.ok (fun j => some (j + 4)) [] ?_; constructor; all_goals (try simp only [vle, vkt, Nat.reduceEqDiff, Nat.reduceAdd, Nat.reduceMul, Nat.reduceSub, Nat.reduceLeDiff, reduceCtorEq, ↓reduceIte, ↓reduceDIte, Int.reduceToNat, Int.reduceLE, Int.reduceLT, Int.reduceEq, Int.reduceNeg, tbL3_13, xbL3_1, c62]))
      all_goals first | rfl | (simp [← hLs, ← hds, ← hfs, ← hts, ← has, eLed, eInt]; done) | (intro i hi; omega)
    clear hLs hds hfs hts has hM hy hW hW'
    by_cases hlt : k < 4
    · have d1 : decide ((k : Int) < ((4 : Nat) : Int)) = true := decide_eq_true (by omega)
      have e9 := wrap64 (n := (k : Int) + 1) (by omega) (by omega)
      have hm := hLf _ (gMem (l := Ls) (k := k) (d := default) (by omega))
      have g1 := gLed (l := Ls) (n := k) (by omega) []
      obtain ⟨m, hm1⟩ : ∃ m, Ls.getD k default = m := ⟨_, rfl⟩
      have g2 := gI0 (l := ds) (n := k) (by omega)
      have g3 := gI0 (l := fs) (n := k) (by omega)
      have g4 := gI0 (l := ts) (n := k) (by omega)
      have g5 := gI0 (l := az') (n := k) (by omega)
      obtain ⟨d', hd1⟩ : ∃ m, ds.getD k 0 = m := ⟨_, rfl⟩
      obtain ⟨f', hf1⟩ : ∃ m, fs.getD k 0 = m := ⟨_, rfl⟩
      obtain ⟨t', ht1⟩ : ∃ m, ts.getD k 0 = m := ⟨_, rfl⟩
      obtain ⟨a', ha1⟩ : ∃ m, az'.getD k 0 = m := ⟨_, rfl⟩
      rw [hm1] at hm g1
      rw [hd1] at g2
      rw [hf1] at g3
      rw [ht1] at g4
      rw [ha1] at g5
      have zn : ∀ n : Int, decide (n = n) = true := fun n => decide_eq_true rfl
      have zi : ∀ p : List Int, decide (p = p) = true := fun n => decide_eq_true rfl
      have zl : ∀ p : List (List Int), decide (p = p) = true := fun n => decide_eq_true rfl
      obtain ⟨w1, v1, e1, hw1, b1⟩ := aBest_form m d' f' t' a'
      obtain ⟨w2, e2, hw2, b2⟩ := aBad_form hm
      obtain ⟨w3, e3, hw3, b3, b4⟩ := aWrong_form hm
      repeat' (first | refine zq0 ?_ | refine zq1 ?_ | refine zq2 ?_ | refine zq3 ?_ | refine zq4 ?_ | refine zq5 ?_ | refine uv ?_ | refine uk ?_ | refine uw ?_ | refine uz ?_ | refine uj ?_ | refine ux ?_ | refine uq (by decide) ?_ | ((first | refine vx env fun Q hQ => ?_ | refine vz fun Q hQ => ?_); simp only [vkt, Nat.reduceEqDiff, Nat.reduceAdd, Nat.reduceMul, Nat.reduceSub, Nat.reduceLeDiff, reduceCtorEq, ↓reduceIte, ↓reduceDIte, Int.reduceToNat, Int.reduceLE, Int.reduceLT, Int.reduceEq, Int.reduceNeg, tbL3_13, xbL3_1, c62, d1, l1, l2, l3, l4, l5, g1, g2, g3, g4, g5, hw1, hw2, hw3, zn, zi, zl, e9]; (try simp only [ite_and]); (repeat' (first | with_reducible assumption | refine And.intro ?_ ?_)); all_goals (first | (refine hQ _ ?_; clear hQ Q) | (refine hQ _ (fun h => ?_) (fun h => ?_) <;> clear hQ Q <;> (try simp only [vki, reduceCtorEq] at h)) | omega | with_reducible assumption | with_reducible rfl | (refine vq ?_; kernel_rfl) | skip)))
      refine ⟨⟨k + 1, hlt⟩, by show 4 - (k + 1) < 4 - k; omega, ?_⟩
      (refine Le.ok some [] ?_; constructor; all_goals (try simp only [vle, vkt, Nat.reduceEqDiff, Nat.reduceAdd, Nat.reduceMul, Nat.reduceSub, Nat.reduceLeDiff, reduceCtorEq, ↓reduceIte, ↓reduceDIte, Int.reduceToNat, Int.reduceLE, Int.reduceLT, Int.reduceEq, Int.reduceNeg, tbL3_13, xbL3_1, c62]))
      all_goals first | rfl | (simp; done)
    · have d1 : decide ((k : Int) < ((4 : Nat) : Int)) = false := decide_eq_false (by omega)
      repeat' (first | refine zq0 ?_ | refine zq1 ?_ | refine zq2 ?_ | refine zq3 ?_ | refine zq4 ?_ | refine zq5 ?_ | refine uv ?_ | refine uk ?_ | refine uw ?_ | refine uz ?_ | refine uj ?_ | refine ux ?_ | refine uq (by decide) ?_ | ((first | refine vx env fun Q hQ => ?_ | refine vz fun Q hQ => ?_); simp only [vkt, Nat.reduceEqDiff, Nat.reduceAdd, Nat.reduceMul, Nat.reduceSub, Nat.reduceLeDiff, reduceCtorEq, ↓reduceIte, ↓reduceDIte, Int.reduceToNat, Int.reduceLE, Int.reduceLT, Int.reduceEq, Int.reduceNeg, tbL3_13, xbL3_1, c62, d1, l1]; (try simp only [ite_and]); (repeat' (first | with_reducible assumption | refine And.intro ?_ ?_)); all_goals (first | (refine hQ _ ?_; clear hQ Q) | (refine hQ _ (fun h => ?_) (fun h => ?_) <;> clear hQ Q <;> (try simp only [vki, reduceCtorEq] at h)) | omega | with_reducible assumption | with_reducible rfl | (refine vq ?_; kernel_rfl) | skip)))
      (simp only [vrt, Try.results13, vkt, Nat.reduceEqDiff, Nat.reduceAdd, Nat.reduceMul, Nat.reduceSub, Nat.reduceLeDiff, reduceCtorEq, ↓reduceIte, ↓reduceDIte, Int.reduceToNat, Int.reduceLE, Int.reduceLT, Int.reduceEq, Int.reduceNeg, tbL3_13, xbL3_1, c62]; refine Fin.val rfl ?_; (try simp only [AV.le, AV.leL]))
      all_goals first | rfl | (simp; done)
  · repeat' (first | refine zq0 ?_ | refine zq1 ?_ | refine zq2 ?_ | refine zq3 ?_ | refine zq4 ?_ | refine zq5 ?_ | refine uv ?_ | refine uk ?_ | refine uw ?_ | refine uz ?_ | refine uj ?_ | refine ux ?_ | refine uq (by decide) ?_ | ((first | refine vx env fun Q hQ => ?_ | refine vz fun Q hQ => ?_); simp only [vkt, Nat.reduceEqDiff, Nat.reduceAdd, Nat.reduceMul, Nat.reduceSub, Nat.reduceLeDiff, reduceCtorEq, ↓reduceIte, ↓reduceDIte, Int.reduceToNat, Int.reduceLE, Int.reduceLT, Int.reduceEq, Int.reduceNeg, tbL3_13, xbL3_1, c62, hlg]; (try simp only [ite_and]); (repeat' (first | with_reducible assumption | refine And.intro ?_ ?_)); all_goals (first | (refine hQ _ ?_; clear hQ Q) | (refine hQ _ (fun h => ?_) (fun h => ?_) <;> clear hQ Q <;> (try simp only [vki, reduceCtorEq] at h)) | omega | with_reducible assumption | with_reducible rfl | (refine vq ?_; kernel_rfl) | skip)))
    (simp only [vrt, Try.results13, vkt, Nat.reduceEqDiff, Nat.reduceAdd, Nat.reduceMul, Nat.reduceSub, Nat.reduceLeDiff, reduceCtorEq, ↓reduceIte, ↓reduceDIte, Int.reduceToNat, Int.reduceLE, Int.reduceLT, Int.reduceEq, Int.reduceNeg, tbL3_13, xbL3_1, c62]; refine Fin.val rfl ?_; (try simp only [AV.le, AV.leL]))
    all_goals first | rfl | (simp; done)
end Go.Sym.B
