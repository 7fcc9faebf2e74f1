/- Walks and what they compute, joined: part 2. -/
import Derived.Test.YtoapndlmbpphfaaB2
import Derived.Test.YtoapndlmbpphfaaZ1
set_option linter.all false
namespace Go.Sym.B
open Go Go.Sym Go.Proofs Go.Sym.C
set_option maxHeartbeats 4000000 in
theorem copyLedV_fn (l : Led) (hl : Fit l) : FnV Try.prog 43 [aLed l] (aLed l) := by
  have env : Env (fun _ => True) Try.prog tyB (tab [(23, valE false c23), (104, valE false c104)]) := mkEnv ⟨d23, d104, trivial⟩
  refine Fn.of (A := fun _ => True) (n0 := 0) (D := noD) (Fn0 Try.func43 rfl (fun vs w => by kernel_rfl) (by kernel_rfl)) (by simp) (by simp [AV.ids, AV.idsL, aLed, cLed]) (fun i o h => by cases h) (fun _ _ _ _ => trivial) noD_ok ?_
  have q1 := hl.c
  have q2 := hl.r
  have q3 := hl.e
  have q4 : l.start.length ≤ 100000 := by have := hl.s; omega
  have q5 := tmax
  have q6 := hl.csl
  have m0 : l.entries.length * 48 ≤ 140737488355328 ∧ l.entries.length ≤ maxLen := by omega
  repeat' (first | refine zq0 ?_ | refine zq1 ?_ | refine zq2 ?_ | refine zq3 ?_ | refine zq4 ?_ | refine zq5 ?_ | refine thenK_n ?_ | refine thenK_x ?_ | refine thenK_r ?_ | refine blockK_n ?_ | refine blockK_r ?_ | refine blockK_hit ?_ | refine blockK_miss (by decide) ?_ | ((first | refine sym_reg env fun Q hQ => ?_ | refine sym_cz fun Q hQ => ?_); simp only [vkt, seval, tbJ2_43, xbJ2_1]; (try simp only [ite_and]); (repeat' (first | with_reducible assumption | refine And.intro ?_ ?_ | intro hp)); all_goals (first | (refine hQ _ ?_; clear hQ Q) | (refine hQ _ (fun h => ?_) (fun h => ?_) <;> clear hQ Q <;> (try simp only [vki, reduceCtorEq] at h)) | omega | assumption | (with_reducible rfl) | (refine drawB_of ?_; kernel_rfl) | skip)))
  refine sym_loop (fun k : { k : Nat // k ≤ l.rates.length } => clT l k.1) (fun k => l.rates.length - k.1) ⟨0, Nat.zero_le _⟩ ?_ fun ⟨k, hk⟩ => ?_
  · (refine Le.ok (fun j => if j = 2 then none else some j) [] ?_; constructor; all_goals (try simp only [vle, vkt, seval, tbJ2_43, xbJ2_1]))
    all_goals first | rfl | (simp; done)
  · repeat' (first | refine zq0 ?_ | refine zq1 ?_ | refine zq2 ?_ | refine zq3 ?_ | refine zq4 ?_ | refine zq5 ?_ | refine thenK_n ?_ | refine thenK_x ?_ | refine thenK_r ?_ | refine blockK_n ?_ | refine blockK_r ?_ | refine blockK_hit ?_ | refine blockK_miss (by decide) ?_)
    (refine sym_reg env fun Q hQ => ?_; simp only [vkt, seval, tbJ2_43, xbJ2_1]; (try simp only [ite_and]); (repeat' (first | with_reducible assumption | refine And.intro ?_ ?_ | intro hp)); all_goals (first | (refine hQ _ ?_; clear hQ Q) | omega | assumption | (with_reducible rfl) | (refine drawB_of ?_; kernel_rfl) | skip))
    repeat' (first | refine zq0 ?_ | refine zq1 ?_ | refine zq2 ?_ | refine zq3 ?_ | refine zq4 ?_ | refine zq5 ?_ | refine thenK_n ?_ | refine thenK_x ?_ | refine thenK_r ?_ | refine blockK_n ?_ | refine blockK_r ?_ | refine blockK_hit ?_ | refine blockK_miss (by decide) ?_)
    (refine sym_cd (by simp only [vkt, seval, tbJ2_43, xbJ2_1]; rfl) (fun h => ?_) (fun h => ?_) <;> (try simp only [vki, reduceCtorEq] at h))
    · have hlt : k < l.rates.length := by omega
      have e9 := wrap_succ hlt (show l.rates.length ≤ maxLen by omega)
      have hpl := hl.rs _ (gMem (d := []) hlt)
      have e4 := takeS l.rates hlt
      have hk2 : (l.rates.take k).length = k := by rw [List.length_take]; omega
      obtain ⟨p, hP⟩ : ∃ p, l.rates.getD k [] = p := ⟨_, rfl⟩
      rw [hP] at e4 hpl
      have m1 : (k + 1) * 24 ≤ 140737488355328 ∧ k + 1 ≤ maxLen := by omega
      have m2 : p.length * 16 ≤ 140737488355328 ∧ p.length ≤ maxLen := by omega
      repeat' (first | refine zq0 ?_ | refine zq1 ?_ | refine zq2 ?_ | refine zq3 ?_ | refine zq4 ?_ | refine zq5 ?_ | refine thenK_n ?_ | refine thenK_x ?_ | refine thenK_r ?_ | refine blockK_n ?_ | refine blockK_r ?_ | refine blockK_hit ?_ | refine blockK_miss (by decide) ?_ | ((first | refine sym_reg env fun Q hQ => ?_ | refine sym_cz fun Q hQ => ?_); simp only [vkt, seval, tbJ2_43, xbJ2_1, hP, e4, e9, hk2]; (try simp only [ite_and]); (repeat' (first | with_reducible assumption | refine And.intro ?_ ?_ | intro hp)); all_goals (first | (refine hQ _ ?_; clear hQ Q) | (refine hQ _ (fun h => ?_) (fun h => ?_) <;> clear hQ Q <;> (try simp only [vki, reduceCtorEq] at h)) | omega | assumption | (with_reducible rfl) | (refine drawB_of ?_; kernel_rfl) | skip)))
      refine ⟨⟨k + 1, hlt⟩, by show l.rates.length - (k + 1) < l.rates.length - k; omega, ?_⟩
      (refine Le.ok (fun j => if j = 2 then some 5 else some j) [] ?_; constructor; all_goals (try simp only [vle, vkt, seval, tbJ2_43, xbJ2_1]))
      all_goals first | rfl | (simp; done)
    · have hkn : k = l.rates.length := by omega
      subst hkn
      repeat' (first | refine zq0 ?_ | refine zq1 ?_ | refine zq2 ?_ | refine zq3 ?_ | refine zq4 ?_ | refine zq5 ?_ | refine thenK_n ?_ | refine thenK_x ?_ | refine thenK_r ?_ | refine blockK_n ?_ | refine blockK_r ?_ | refine blockK_hit ?_ | refine blockK_miss (by decide) ?_ | ((first | refine sym_reg env fun Q hQ => ?_ | refine sym_cz fun Q hQ => ?_); simp only [vkt, seval, tbJ2_43, xbJ2_1, List.take_length]; (try simp only [ite_and]); (repeat' (first | with_reducible assumption | refine And.intro ?_ ?_ | intro hp)); all_goals (first | (refine hQ _ ?_; clear hQ Q) | (refine hQ _ (fun h => ?_) (fun h => ?_) <;> clear hQ Q <;> (try simp only [vki, reduceCtorEq] at h)) | omega | assumption | (with_reducible rfl) | (refine drawB_of ?_; kernel_rfl) | skip)))
      (simp only [vrt, Try.results43, vkt, seval, tbJ2_43, xbJ2_1]; refine Fin.val rfl ?_; (try simp only [AV.le, AV.leL]))
      all_goals first | rfl | (simp; done) | exact ⟨trivial, ⟨_, _, rfl⟩, trivial, ⟨_, _, rfl⟩, trivial⟩ | exact ⟨trivial, ⟨_, _, rfl⟩, trivial, ⟨_, _, rfl⟩⟩ | exact ⟨rfl, ⟨_, _, rfl⟩, rfl, ⟨_, _, rfl⟩, trivial⟩ | exact ⟨⟨_, _, rfl⟩, ⟨_, _, rfl⟩⟩
def c43 : List AV → Prop × AV
  | [.agg [.sl cs, .sl rs, .sl ss, .sl es]] => (isL cs rs ss es ∧ Fit (ldOf cs rs ss es), aLed (ldOf cs rs ss es))
  | _ => (False, .junk)
theorem d43 {A : Frm → Prop} : EntryOK A Try.prog 43 (valE false c43) := valE_ok fun vs hv h => by
  clear hv
  unfold c43 at h ⊢
  split at h
  · refine ⟨by simp [AV.plain, AV.plainL, aLed, cLed], fun h => absurd h (by decide), ?_⟩
    have := copyLedV_fn _ h.2
    rw [aLed_of h.1] at this ⊢
    exact this
  · exact h.elim
def p43 (S : St) : List AV → Option Pk
  | [.agg [.sl cs, .sl rs, .sl ss, .sl es]] => some { pre := isL cs rs ss es ∧ Fit (ldOf cs rs ss es), ar := [.agg [.sl cs, .sl rs, .sl ss, .sl es]], v := .agg [.sl cs, .sl rs, .sl ss, .row 0], L1 := [some (.row 48 6 es)] }
  | _ => none
theorem e43 {A : Frm → Prop} : EntryOK A Try.prog 43 (fnE p43) := fnE_ok fun S bs q h hp => by
  unfold p43 at h
  split at h
  · cases h
    rename_i cs rs ss es
    have := copyLed_fn _ hp.2
    rw [aLed_of hp.1] at this
    simp only [ldOf, ← hp.1.1, ← hp.1.2.1, ← hp.1.2.2.1, ← hp.1.2.2.2] at this
    exact this
  · cases h
def addE1 (l : Led) (x : Ent) : Led := { l with entries := l.entries ++ [x] }
def tbJ2_45 := And.intro @ty36 (And.intro @ty38 (And.intro @ty48 (And.intro @ti36.eq_1 (And.intro @ti38.eq_1 @ti48.eq_1))))
def xbJ2_2 := And.intro @aI.eq_1 (And.intro @aB.eq_1 (And.intro @aLed.eq_1 (And.intro @cLed.eq_1 (And.intro @aEnt.eq_1 (And.intro @p43.eq_1 (And.intro @p43.eq_2 (And.intro @isL_e (And.intro @ldOf_e (And.intro @rEnt (And.intro @eEnt.eq_1 (@addE1.eq_1)))))))))))
theorem with_fn (l : Led) (x : Ent) (hl : Fit l) : FnV Try.prog 45 [aLed l, aEnt x] (aLed (addE1 l x)) := by
  have env : Env (fun _ => True) Try.prog tyB (tab [(43, fnE p43)]) := mkEnv ⟨e43, trivial⟩
  refine Fn.of (A := fun _ => True) (n0 := 0) (D := noD) (Fn0 Try.func45 rfl (fun vs w => by kernel_rfl) (by kernel_rfl)) (by simp) (by simp [AV.ids, AV.idsL, aLed, cLed, aEnt]) (fun i o h => by cases h) (fun _ _ _ _ => trivial) noD_ok ?_
  have q3 := hl.e
  have q5 := tmax
  have big : (100000 : Nat) ≤ maxLen := by decide
  have m0 : (l.entries.length + 1) * 48 ≤ 140737488355328 ∧ l.entries.length + 1 ≤ maxLen := by omega
  have m1 : l.entries.length * 48 ≤ 140737488355328 ∧ l.entries.length ≤ maxLen := by omega
  have e4 : l.entries.map eEnt ++ [[.v (.int .i64 x.day), .v (.int .i64 x.kind), .v (.int .i64 x.coin), .v (.int .i64 x.to), .v (.int .i64 x.amount), .v (.int .i64 x.got)]] = (l.entries ++ [x]).map eEnt := by rw [List.map_append]; rfl
  repeat' (first | refine zq0 ?_ | refine zq1 ?_ | refine zq2 ?_ | refine zq3 ?_ | refine zq4 ?_ | refine zq5 ?_ | refine thenK_n ?_ | refine thenK_x ?_ | refine thenK_r ?_ | refine blockK_n ?_ | refine blockK_r ?_ | refine blockK_hit ?_ | refine blockK_miss (by decide) ?_ | ((first | refine sym_reg env fun Q hQ => ?_ | refine sym_cz fun Q hQ => ?_); simp only [vkt, seval, tbJ2_45, xbJ2_2, e4]; (try simp only [ite_and]); (repeat' (first | with_reducible assumption | refine And.intro ?_ ?_ | intro hp)); all_goals (first | (refine hQ _ ?_; clear hQ Q) | (refine hQ _ (fun h => ?_) (fun h => ?_) <;> clear hQ Q <;> (try simp only [vki, reduceCtorEq] at h)) | omega | assumption | (with_reducible rfl) | (refine drawB_of ?_; kernel_rfl) | skip)))
  (simp only [vrt, Try.results45, vkt, seval, tbJ2_45, xbJ2_2]; refine Fin.val rfl ?_; (try simp only [AV.le, AV.leL]))
  all_goals first | rfl | (simp; done) | exact ⟨trivial, trivial, trivial, ⟨_, _, rfl⟩, trivial⟩ | exact ⟨trivial, trivial, trivial, ⟨_, _, rfl⟩⟩ | exact ⟨rfl, rfl, rfl, ⟨_, _, rfl⟩, trivial⟩
def c45 : List AV → Prop × AV
  | [.agg [.sl cs, .sl rs, .sl ss, .sl es], .agg [.v (.int .i64 a), .v (.int .i64 b), .v (.int .i64 c), .v (.int .i64 d), .v (.int .i64 e), .v (.int .i64 f)]] => (isL cs rs ss es ∧ Fit (ldOf cs rs ss es), aLed (addE1 (ldOf cs rs ss es) ⟨a, b, c, d, e, f⟩))
  | _ => (False, .junk)
theorem d45 {A : Frm → Prop} : EntryOK A Try.prog 45 (valE false c45) := valE_ok fun vs hv h => by
  clear hv
  unfold c45 at h ⊢
  split at h
  · refine ⟨by simp [AV.plain, AV.plainL, aLed, cLed], fun h => absurd h (by decide), ?_⟩
    rw [← aLed_of h.1]; exact with_fn _ ⟨_, _, _, _, _, _⟩ h.2
  · exact h.elim
def esT (r : List Sh) (k : Nat) : St := { t := asg [(0, aShs r), (1, aShs r), (4, aB false), (5, aI k)], h := hasg [], n := 0 }
def tbJ2_57 := And.intro @ty3 (And.intro @ty55 (And.intro @ty59 (And.intro @ti3.eq_1 (And.intro @ti55.eq_1 @ti59.eq_1))))
def xbJ2_3 := And.intro @aI.eq_1 (And.intro @aB.eq_1 (And.intro @aShs.eq_1 (And.intro @esT.eq_1 (And.intro @gSh (@eSh.eq_1)))))
theorem eqShs_fn (r : List Sh) (hl : r.length ≤ maxLen) : FnV Try.prog 57 [aShs r, aShs r] (aB true) := by
  have env : Env (fun _ => True) Try.prog tyB (tab []) := mkEnv trivial
  refine Fn.of (A := fun _ => True) (n0 := 0) (D := noD) (Fn0 Try.func57 rfl (fun vs w => by kernel_rfl) (by kernel_rfl)) (by simp) (by simp [AV.ids, AV.idsL, aShs]) (fun i o h => by cases h) (fun _ _ _ _ => trivial) noD_ok ?_
  have zn : ∀ n : Int, decide (n = n) = true := fun n => decide_eq_true rfl
  repeat' (first | refine zq0 ?_ | refine zq1 ?_ | refine zq2 ?_ | refine zq3 ?_ | refine zq4 ?_ | refine zq5 ?_ | refine thenK_n ?_ | refine thenK_x ?_ | refine thenK_r ?_ | refine blockK_n ?_ | refine blockK_r ?_ | refine blockK_hit ?_ | refine blockK_miss (by decide) ?_ | ((first | refine sym_reg env fun Q hQ => ?_ | refine sym_cz fun Q hQ => ?_); simp only [vkt, seval, tbJ2_57, xbJ2_3, zn]; (try simp only [ite_and]); (repeat' (first | with_reducible assumption | refine And.intro ?_ ?_ | intro hp)); all_goals (first | (refine hQ _ ?_; clear hQ Q) | (refine hQ _ (fun h => ?_) (fun h => ?_) <;> clear hQ Q <;> (try simp only [vki, reduceCtorEq] at h)) | omega | assumption | (with_reducible rfl) | (refine drawB_of ?_; kernel_rfl) | skip)))
  refine sym_loop (fun k : { k : Nat // k ≤ r.length } => esT r k.1) (fun k => r.length - k.1) ⟨0, Nat.zero_le _⟩ ?_ fun ⟨k, hk⟩ => ?_
  · (refine Le.ok some [] ?_; constructor; all_goals (try simp only [vle, vkt, seval, tbJ2_57, xbJ2_3]))
    all_goals first | rfl | (simp; done)
  · by_cases hlt : k < r.length
    · have d1 : decide ((k : Int) < (r.length : Int)) = true := decide_eq_true (by omega)
      have e9 := wrap_succ hlt hl
      repeat' (first | refine zq0 ?_ | refine zq1 ?_ | refine zq2 ?_ | refine zq3 ?_ | refine zq4 ?_ | refine zq5 ?_ | refine thenK_n ?_ | refine thenK_x ?_ | refine thenK_r ?_ | refine blockK_n ?_ | refine blockK_r ?_ | refine blockK_hit ?_ | refine blockK_miss (by decide) ?_ | ((first | refine sym_reg env fun Q hQ => ?_ | refine sym_cz fun Q hQ => ?_); simp only [vkt, seval, tbJ2_57, xbJ2_3, d1, e9, zn]; (try simp only [ite_and]); (repeat' (first | with_reducible assumption | refine And.intro ?_ ?_ | intro hp)); all_goals (first | (refine hQ _ ?_; clear hQ Q) | (refine hQ _ (fun h => ?_) (fun h => ?_) <;> clear hQ Q <;> (try simp only [vki, reduceCtorEq] at h)) | omega | assumption | (with_reducible rfl) | (refine drawB_of ?_; kernel_rfl) | skip)))
      refine ⟨⟨k + 1, hlt⟩, by show r.length - (k + 1) < r.length - k; omega, ?_⟩
      (refine Le.ok some [] ?_; constructor; all_goals (try simp only [vle, vkt, seval, tbJ2_57, xbJ2_3]))
      all_goals first | rfl | (simp; done)
    · have d1 : decide ((k : Int) < (r.length : Int)) = false := decide_eq_false (by omega)
      repeat' (first | refine zq0 ?_ | refine zq1 ?_ | refine zq2 ?_ | refine zq3 ?_ | refine zq4 ?_ | refine zq5 ?_ | refine thenK_n ?_ | refine thenK_x ?_ | refine thenK_r ?_ | refine blockK_n ?_ | refine blockK_r ?_ | refine blockK_hit ?_ | refine blockK_miss (by decide) ?_ | ((first | refine sym_reg env fun Q hQ => ?_ | refine sym_cz fun Q hQ => ?_); simp only [vkt, seval, tbJ2_57, xbJ2_3, d1]; (try simp only [ite_and]); (repeat' (first | with_reducible assumption | refine And.intro ?_ ?_ | intro hp)); all_goals (first | (refine hQ _ ?_; clear hQ Q) | (refine hQ _ (fun h => ?_) (fun h => ?_) <;> clear hQ Q <;> (try simp only [vki, reduceCtorEq] at h)) | omega | assumption | (with_reducible rfl) | (refine drawB_of ?_; kernel_rfl) | skip)))
      (simp only [vrt, Try.results57, vkt, seval, tbJ2_57, xbJ2_3]; refine Fin.val rfl ?_; (try simp only [AV.le, AV.leL]))
      all_goals first | rfl | (simp; done)
def c57 : List AV → Prop × AV
  | [.sl xs, .sl ys] => (ys = xs ∧ xs = (xs.map dSh).map eSh ∧ xs.length ≤ 100000, aB true)
  | _ => (False, .junk)
theorem d57 {A : Frm → Prop} : EntryOK A Try.prog 57 (valE true c57) := valE_ok fun vs hv h => by
  clear hv
  unfold c57 at h ⊢
  split at h
  · rename_i xs ys
    obtain ⟨h1, h2, h3⟩ := h
    refine ⟨by simp [AV.plain, aB], fun _ => by simp [AV.flat, aB], ?_⟩
    have := eqShs_fn (xs.map dSh) (by rw [List.length_map]; have : (100000 : Nat) ≤ maxLen := by decide
                                      omega)
    simp only [aShs, ← h2] at this
    rw [h1]; exact this
  · exact h.elim
def elT1 (l : Led) (k : Nat) : St := { t := asg [(2, .ptr 0 0), (3, .ptr 1 0), (4, aB false), (5, aI k)], h := hasg [(0, .cells (cLed l)), (1, .cells (cLed l))], n := 2 }
def elT2 (l : Led) (k : Nat) : St := { t := asg [(2, .ptr 0 0), (3, .ptr 1 0), (4, aB false), (6, aI k)], h := hasg [(0, .cells (cLed l)), (1, .cells (cLed l))], n := 2 }
def tbJ2_52 := And.intro @ty3 (And.intro @ty22 (And.intro @ty28 (And.intro @ty35 (And.intro @ty36 (And.intro @ty38 (And.intro @ty48 (And.intro @ty55 (And.intro @ty59 (And.intro @ti3.eq_1 (And.intro @ti22.eq_1 (And.intro @ti28.eq_1 (And.intro @ti35.eq_1 (And.intro @ti36.eq_1 (And.intro @ti38.eq_1 (And.intro @ti48.eq_1 (And.intro @ti55.eq_1 @ti59.eq_1))))))))))))))))
def xbJ2_4 := And.intro @aI.eq_1 (And.intro @aB.eq_1 (And.intro @aLed.eq_1 (And.intro @cLed.eq_1 (And.intro @elT1.eq_1 (And.intro @elT2.eq_1 (And.intro @s36.eq_1 (And.intro @s36.eq_2 (And.intro @s26.eq_1 (And.intro @s26.eq_2 (And.intro @c57.eq_1 (And.intro @c57.eq_2 (And.intro @gShs (And.intro @eShs.eq_1 (And.intro @gEnt (And.intro @eEnt.eq_1 (And.intro @mInt (And.intro @mInts (@mSh))))))))))))))))))
theorem eqLed_fn (l : Led) (hl : Fit l) : FnV Try.prog 52 [aLed l, aLed l] (aB true) := by
  have env : Env (fun _ => True) Try.prog tyB (tab [(36, valE true s36), (26, valE true s26), (57, valE true c57)]) := mkEnv ⟨d36, e26, d57, trivial⟩
  refine Fn.of (A := fun _ => True) (n0 := 0) (D := noD) (Fn0 Try.func52 rfl (fun vs w => by kernel_rfl) (by kernel_rfl)) (by simp) (by simp [AV.ids, AV.idsL, aLed, cLed]) (fun i o h => by cases h) (fun _ _ _ _ => trivial) noD_ok ?_
  have zn : ∀ n : Int, decide (n = n) = true := fun n => decide_eq_true rfl
  have zl : ∀ p : List (List Int), decide (p = p) = true := fun n => decide_eq_true rfl
  have zi : ∀ p : List Int, decide (p = p) = true := fun n => decide_eq_true rfl
  have q1 := hl.c
  have q2 := hl.r
  have q3 := hl.e
  have q4 := hl.s
  have q5 := tmax
  have q6 := hl.csl
  have q7 : ∀ p ∈ l.coins, p.length ≤ maxLen := fun p hp => by have := hl.cs p hp; omega
  repeat' (first | refine zq0 ?_ | refine zq1 ?_ | refine zq2 ?_ | refine zq3 ?_ | refine zq4 ?_ | refine zq5 ?_ | refine thenK_n ?_ | refine thenK_x ?_ | refine thenK_r ?_ | refine blockK_n ?_ | refine blockK_r ?_ | refine blockK_hit ?_ | refine blockK_miss (by decide) ?_ | ((first | refine sym_reg env fun Q hQ => ?_ | refine sym_cz fun Q hQ => ?_); simp only [vkt, seval, tbJ2_52, xbJ2_4, zn, zl, zi]; (try simp only [ite_and]); (repeat' (first | with_reducible assumption | refine And.intro ?_ ?_ | intro hp)); all_goals (first | (refine hQ _ ?_; clear hQ Q) | (refine hQ _ (fun h => ?_) (fun h => ?_) <;> clear hQ Q <;> (try simp only [vki, reduceCtorEq] at h)) | omega | assumption | (with_reducible rfl) | (refine drawB_of ?_; kernel_rfl) | skip)))
  all_goals first | (refine sym_loop (fun k : { k : Nat // k ≤ l.rates.length } => elT1 l k.1) (fun k => l.rates.length - k.1) ⟨0, Nat.zero_le _⟩ ?_ fun ⟨k, hk⟩ => ?_)
  · (refine Le.ok some [] ?_; constructor; all_goals (try simp only [vle, vkt, seval, tbJ2_52, xbJ2_4]))
    all_goals first | rfl | (simp; done)
  · by_cases hlt : k < l.rates.length
    · have d1 : decide ((k : Int) < (l.rates.length : Int)) = true := decide_eq_true (by omega)
      have e9 := wrap_succ hlt (show l.rates.length ≤ maxLen by omega)
      have hpl := hl.rs _ (gMem (d := []) hlt)
      have hp2 : (l.rates.getD k []).length ≤ 100000 := by omega
      repeat' (first | refine zq0 ?_ | refine zq1 ?_ | refine zq2 ?_ | refine zq3 ?_ | refine zq4 ?_ | refine zq5 ?_ | refine thenK_n ?_ | refine thenK_x ?_ | refine thenK_r ?_ | refine blockK_n ?_ | refine blockK_r ?_ | refine blockK_hit ?_ | refine blockK_miss (by decide) ?_ | ((first | refine sym_reg env fun Q hQ => ?_ | refine sym_cz fun Q hQ => ?_); simp only [vkt, seval, tbJ2_52, xbJ2_4, d1, e9, zn]; (try simp only [ite_and]); (repeat' (first | with_reducible assumption | refine And.intro ?_ ?_ | intro hp)); all_goals (first | (refine hQ _ ?_; clear hQ Q) | (refine hQ _ (fun h => ?_) (fun h => ?_) <;> clear hQ Q <;> (try simp only [vki, reduceCtorEq] at h)) | omega | assumption | (with_reducible rfl) | (refine drawB_of ?_; kernel_rfl) | skip)))
      refine ⟨⟨k + 1, hlt⟩, by show l.rates.length - (k + 1) < l.rates.length - k; omega, ?_⟩
      (refine Le.ok some [] ?_; constructor; all_goals (try simp only [vle, vkt, seval, tbJ2_52, xbJ2_4]))
      all_goals first | rfl | (simp; done)
    · have d1 : decide ((k : Int) < (l.rates.length : Int)) = false := decide_eq_false (by omega)
      repeat' (first | refine zq0 ?_ | refine zq1 ?_ | refine zq2 ?_ | refine zq3 ?_ | refine zq4 ?_ | refine zq5 ?_ | refine thenK_n ?_ | refine thenK_x ?_ | refine thenK_r ?_ | refine blockK_n ?_ | refine blockK_r ?_ | refine blockK_hit ?_ | refine blockK_miss (by decide) ?_ | ((first | refine sym_reg env fun Q hQ => ?_ | refine sym_cz fun Q hQ => ?_); simp only [vkt, seval, tbJ2_52, xbJ2_4, d1]; (try simp only [ite_and]); (repeat' (first | with_reducible assumption | refine And.intro ?_ ?_ | intro hp)); all_goals (first | (refine hQ _ ?_; clear hQ Q) | (refine hQ _ (fun h => ?_) (fun h => ?_) <;> clear hQ Q <;> (try simp only [vki, reduceCtorEq] at h)) | omega | assumption | (with_reducible rfl) | (refine drawB_of ?_; kernel_rfl) | skip)))
      refine sym_loop (fun k : { k : Nat // k ≤ l.entries.length } => elT2 l k.1) (fun k => l.entries.length - k.1) ⟨0, Nat.zero_le _⟩ ?_ fun ⟨k, hk⟩ => ?_
      · (refine Le.ok some [] ?_; constructor; all_goals (try simp only [vle, vkt, seval, tbJ2_52, xbJ2_4]))
        all_goals first | rfl | (simp; done)
      · by_cases hlt : k < l.entries.length
        · have d2 : decide ((k : Int) < (l.entries.length : Int)) = true := decide_eq_true (by omega)
          have e9 := wrap_succ hlt (show l.entries.length ≤ maxLen by omega)
          repeat' (first | refine zq0 ?_ | refine zq1 ?_ | refine zq2 ?_ | refine zq3 ?_ | refine zq4 ?_ | refine zq5 ?_ | refine thenK_n ?_ | refine thenK_x ?_ | refine thenK_r ?_ | refine blockK_n ?_ | refine blockK_r ?_ | refine blockK_hit ?_ | refine blockK_miss (by decide) ?_ | ((first | refine sym_reg env fun Q hQ => ?_ | refine sym_cz fun Q hQ => ?_); simp only [vkt, seval, tbJ2_52, xbJ2_4, d2, e9, zn]; (try simp only [ite_and]); (repeat' (first | with_reducible assumption | refine And.intro ?_ ?_ | intro hp)); all_goals (first | (refine hQ _ ?_; clear hQ Q) | (refine hQ _ (fun h => ?_) (fun h => ?_) <;> clear hQ Q <;> (try simp only [vki, reduceCtorEq] at h)) | omega | assumption | (with_reducible rfl) | (refine drawB_of ?_; kernel_rfl) | skip)))
          refine ⟨⟨k + 1, hlt⟩, by show l.entries.length - (k + 1) < l.entries.length - k; omega, ?_⟩
          (refine Le.ok some [] ?_; constructor; all_goals (try simp only [vle, vkt, seval, tbJ2_52, xbJ2_4]))
          all_goals first | rfl | (simp; done)
        · have d2 : decide ((k : Int) < (l.entries.length : Int)) = false := decide_eq_false (by omega)
          repeat' (first | refine zq0 ?_ | refine zq1 ?_ | refine zq2 ?_ | refine zq3 ?_ | refine zq4 ?_ | refine zq5 ?_ | refine thenK_n ?_ | refine thenK_x ?_ | refine thenK_r ?_ | refine blockK_n ?_ | refine blockK_r ?_ | refine blockK_hit ?_ | refine blockK_miss (by decide) ?_ | ((first | refine sym_reg env fun Q hQ => ?_ | refine sym_cz fun Q hQ => ?_); simp only [vkt, seval, tbJ2_52, xbJ2_4, d2]; (try simp only [ite_and]); (repeat' (first | with_reducible assumption | refine And.intro ?_ ?_ | intro hp)); all_goals (first | (refine hQ _ ?_; clear hQ Q) | (refine hQ _ (fun h => ?_) (fun h => ?_) <;> clear hQ Q <;> (try simp only [vki, reduceCtorEq] at h)) | omega | assumption | (with_reducible rfl) | (refine drawB_of ?_; kernel_rfl) | skip)))
          (simp only [vrt, Try.results52, vkt, seval, tbJ2_52, xbJ2_4]; refine Fin.val rfl ?_; (try simp only [AV.le, AV.leL]))
          all_goals first | rfl | (simp; done)
def c52 : List AV → Prop × AV
  | [.agg [.sl cs, .sl rs, .sl ss, .sl es], y] => (y = .agg [.sl cs, .sl rs, .sl ss, .sl es] ∧ isL cs rs ss es ∧ Fit (ldOf cs rs ss es), aB true)
  | _ => (False, .junk)
theorem d52 {A : Frm → Prop} : EntryOK A Try.prog 52 (valE true c52) := valE_ok fun vs hv h => by
  clear hv
  unfold c52 at h ⊢
  split at h
  · refine ⟨by simp [AV.plain, aB], fun _ => by simp [AV.flat, aB], ?_⟩
    rw [h.1, ← aLed_of h.2.1]; exact eqLed_fn _ h.2.2
  · exact h.elim
end Go.Sym.B
namespace Go.Sym.B
open Go Go.Sym Go.Proofs Go.Sym.C
theorem gains_len (l : Led) : (gainsL l).length = l.coins.length := by simp [gainsL]
theorem gain_bd {l : Led} (h : Val l) : ∀ q ∈ gainsL l, Bd 420000 q := fun q hq => by
  obtain ⟨c, hc, rfl⟩ := List.mem_map.1 hq
  have h1 := qsum_bd ((List.range (l.rates.length - 1)).map fun d => gT l c d) (B := 140000) fun q hq => by
    obtain ⟨d, hd', rfl⟩ := List.mem_map.1 hq
    exact gT_bd2 h (List.mem_range.1 hc) (by have := List.mem_range.1 hd'; omega)
  refine h1.mono ?_
  have := h.r
  simp; omega
theorem gainK_bd {l : Led} (h : Val l) (k : Nat) : Bd 1680000 (qsum ((gainsL l).take k)) := by
  have := qsum_bd ((gainsL l).take k) (B := 420000) fun q hq => gain_bd h q (List.mem_of_mem_take hq)
  refine this.mono ?_
  have h1 := h.c
  have h2 : ((gainsL l).take k).length ≤ 4 := by
    have := List.length_take_le k (gainsL l)
    have := List.length_take_le' k (gainsL l)
    rw [gains_len] at this; omega
  omega
end Go.Sym.B
namespace Go.Sym.B
open Go Go.Sym Go.Proofs Go.Sym.C
def eLed (l : Led) : List DV := [.sl (l.coins.map eInts), .sl (l.rates.map eShs), .sl (l.start.map eInt), .sl (l.entries.map eEnt)]
theorem gLed {l : List Led} {n : Nat} (h : n < l.length) (z : List DV) : (l.map eLed).getD n z = eLed (l.getD n default) := by simp [List.getD_eq_getElem?_getD, h]
theorem add_fit {l : Led} (h : LgOk l) (x : Ent) : Fit (addE1 l x) := by
  have hf := h.fit
  refine ⟨hf.c, hf.cs, hf.r, hf.rs, hf.s, ?_⟩
  show (l.entries ++ [x]).length ≤ 20
  have := h.e
  rw [List.length_append]
  simp; omega
end Go.Sym.B
namespace Go.Sym.B
open Go Go.Sym Go.Proofs Go.Sym.C
theorem day_le {l : Led} (h : Val l) {i : Nat} (hi : i < l.entries.length) : ∀ j, i < j → j ≤ l.entries.length → (l.entries.getD i default).day ≤ (stK l j).1 := by
  intro j
  induction j with
  | zero => intro h; omega
  | succ j ih =>
    intro h1 h2
    rw [stK_succ (by omega)]
    rcases Nat.lt_or_eq_of_le (Nat.le_of_lt_succ h1) with h3 | h3
    · exact Int.le_trans (ih h3 (by omega)) (val_entry h (by omega)).ord
    · rw [h3]; exact Int.le_refl _
theorem day_pair {l : Led} (h : Val l) : l.entries.Pairwise fun a b => a.day ≤ b.day := by
  rw [List.pairwise_iff_getElem]
  intro i j hi hj hij
  have h1 := day_le h hi j hij (by omega)
  have h2 := (val_entry h hj).ord
  have e1 : l.entries.getD i default = l.entries[i] := by simp [List.getD_eq_getElem?_getD, hi]
  have e2 : l.entries.getD j default = l.entries[j] := by simp [List.getD_eq_getElem?_getD, hj]
  rw [← e1, ← e2]
  omega
theorem filter_tw (d : Int) : ∀ (l : List Ent), l.Pairwise (fun a b => a.day ≤ b.day) → l.filter (fun x => decide (x.day ≤ d)) = l.takeWhile fun x => decide (x.day ≤ d)
  | [], _ => rfl
  | a :: l, h => by
    obtain ⟨h1, h2⟩ := List.pairwise_cons.1 h
    by_cases ha : a.day ≤ d
    · rw [List.filter_cons_of_pos (by simpa using ha), List.takeWhile_cons_of_pos (by simpa using ha), filter_tw d l h2]
    · rw [List.filter_cons_of_neg (by simpa using ha), List.takeWhile_cons_of_neg (by simpa using ha)]
      refine List.filter_eq_nil_iff.2 fun b hb => ?_
      have := h1 b hb
      simp; omega
def cntK (l : Led) (d : Int) (k : Nat) : Nat := ((l.entries.take k).filter fun x => decide (x.day ≤ d)).length
theorem cntK_succ {l : Led} {d : Int} {k : Nat} (h : k < l.entries.length) : cntK l d (k + 1) = cntK l d k + if (l.entries.getD k default).day ≤ d then 1 else 0 := by
  unfold cntK
  rw [List.take_succ_eq_append_getElem h, List.filter_append, List.length_append]
  have : l.entries.getD k default = l.entries[k] := by simp [List.getD_eq_getElem?_getD, h]
  rw [this]
  by_cases hd : l.entries[k].day ≤ d
  · rw [if_pos hd, List.filter_cons_of_pos (by simpa using hd)]; rfl
  · rw [if_neg hd, List.filter_cons_of_neg (by simpa using hd)]; rfl
theorem cntK_all {l : Led} (h : Val l) (d : Int) : cntK l d l.entries.length = kd l d := by
  unfold cntK kd
  rw [List.take_length, filter_tw d _ (day_pair h)]
theorem cntK_le (l : Led) (d : Int) (k : Nat) : cntK l d k ≤ k := by
  unfold cntK
  exact Nat.le_trans (List.length_filter_le _ _) (by rw [List.length_take]; omega)
def afT (l : Led) (n k : Nat) : St := { t := asg [(1, aI n), (2, .ptr 0 0), (5, aInts (stK l k).2), (6, aI k)], h := hasg [(0, .cells (cLed l))], n := 1 }
def tbJ6_117 := And.intro @ty3 (And.intro @ty22 (And.intro @ty36 (And.intro @ty38 (And.intro @ty48 (And.intro @ti3.eq_1 (And.intro @ti22.eq_1 (And.intro @ti36.eq_1 (And.intro @ti38.eq_1 @ti48.eq_1))))))))
def xbJ6_1 := And.intro @aI.eq_1 (And.intro @aB.eq_1 (And.intro @aLed.eq_1 (And.intro @cLed.eq_1 (And.intro @aInts.eq_1 (And.intro @afT.eq_1 (And.intro @s115.eq_1 (And.intro @s115.eq_2 (And.intro @gEnt (And.intro @eEnt.eq_1 (And.intro @mInt (@rInt)))))))))))
theorem after_fn (l : Led) (n : Nat) (hV : Val l) (hn : n ≤ l.entries.length) : FnV Try.prog 117 [aLed l, aI n] (aInts (stK l n).2) := by
  have env : Env (fun _ => True) Try.prog tyB (tab [(115, valE false s115)]) := mkEnv ⟨e115, trivial⟩
  refine Fn.of (A := fun _ => True) (n0 := 0) (D := noD) (Fn0 Try.func117 rfl (fun vs w => by kernel_rfl) (by kernel_rfl)) (by simp) (by simp [AV.ids, AV.idsL, aLed, cLed, aI]) (fun i o h => by cases h) (fun _ _ _ _ => trivial) noD_ok ?_
  have q1 := hV.c
  have q3 := hV.sl
  have q4 := hV.e
  have big : (100000 : Nat) ≤ maxLen := by decide
  have m0 : l.start.length * 8 ≤ 140737488355328 ∧ l.start.length ≤ maxLen := by omega
  repeat' (first | refine zq0 ?_ | refine zq1 ?_ | refine zq2 ?_ | refine zq3 ?_ | refine zq4 ?_ | refine zq5 ?_ | refine thenK_n ?_ | refine thenK_x ?_ | refine thenK_r ?_ | refine blockK_n ?_ | refine blockK_r ?_ | refine blockK_hit ?_ | refine blockK_miss (by decide) ?_ | ((first | refine sym_reg env fun Q hQ => ?_ | refine sym_cz fun Q hQ => ?_); simp only [vkt, seval, tbJ6_117, xbJ6_1]; (try simp only [ite_and]); (repeat' (first | with_reducible assumption | refine And.intro ?_ ?_ | intro hp)); all_goals (first | (refine hQ _ ?_; clear hQ Q) | (refine hQ _ (fun h => ?_) (fun h => ?_) <;> clear hQ Q <;> (try simp only [vki, reduceCtorEq] at h)) | omega | assumption | (with_reducible rfl) | (refine drawB_of ?_; kernel_rfl) | skip)))
  refine sym_loop (fun k : { k : Nat // k ≤ n } => afT l n k.1) (fun k => n - k.1) ⟨0, Nat.zero_le _⟩ ?_ fun ⟨k, hk⟩ => ?_
  · (refine Le.ok some [1] ?_; constructor; all_goals (try simp only [vle, vkt, seval, tbJ6_117, xbJ6_1]))
    all_goals first | rfl | exact ⟨_, _, rfl⟩ | exact ⟨⟨_, _, rfl⟩, rfl⟩ | (simp; done)
  by_cases hlt : k < n
  · have d1 : decide ((k : Int) < (n : Int)) = true := decide_eq_true (by omega)
    have e9 := wrap64 (n := (k : Int) + 1) (by omega) (by omega)
    have hkE : k < l.entries.length := by omega
    have ho := val_has hV k (by omega)
    have hen := enOk_of ho (by omega) (val_entry hV hkE)
    have hS := stK_succ hkE
    have hl := ho.len
    have hl2 : (stK l k).2.length ≤ 100000 := by omega
    obtain ⟨x, hx⟩ : ∃ x, l.entries.getD k default = x := ⟨_, rfl⟩
    rw [hx] at hen hS
    obtain ⟨has, hh⟩ : ∃ x, (stK l k).2 = x := ⟨_, rfl⟩
    rw [hh] at hen hl2 hS
    have hen' : EnOk has ⟨x.day, x.kind, x.coin, x.to, x.amount, x.got⟩ := hen
    repeat' (first | refine zq0 ?_ | refine zq1 ?_ | refine zq2 ?_ | refine zq3 ?_ | refine zq4 ?_ | refine zq5 ?_ | refine thenK_n ?_ | refine thenK_x ?_ | refine thenK_r ?_ | refine blockK_n ?_ | refine blockK_r ?_ | refine blockK_hit ?_ | refine blockK_miss (by decide) ?_ | ((first | refine sym_reg env fun Q hQ => ?_ | refine sym_cz fun Q hQ => ?_); simp only [vkt, seval, tbJ6_117, xbJ6_1, d1, e9, hx, hh]; (try simp only [ite_and]); (repeat' (first | with_reducible assumption | refine And.intro ?_ ?_ | intro hp)); all_goals (first | (refine hQ _ ?_; clear hQ Q) | (refine hQ _ (fun h => ?_) (fun h => ?_) <;> clear hQ Q <;> (try simp only [vki, reduceCtorEq] at h)) | omega | assumption | (with_reducible rfl) | (refine drawB_of ?_; kernel_rfl) | skip)))
    refine ⟨⟨k + 1, hlt⟩, by show n - (k + 1) < n - k; omega, ?_⟩
    (refine Le.ok some [] ?_; constructor; all_goals (try simp only [vle, vkt, seval, tbJ6_117, xbJ6_1]))
    all_goals first | rfl | (simp [hS]; done)
  · have d1 : decide ((k : Int) < (n : Int)) = false := decide_eq_false (by omega)
    have hkn : k = n := by omega
    subst hkn
    repeat' (first | refine zq0 ?_ | refine zq1 ?_ | refine zq2 ?_ | refine zq3 ?_ | refine zq4 ?_ | refine zq5 ?_ | refine thenK_n ?_ | refine thenK_x ?_ | refine thenK_r ?_ | refine blockK_n ?_ | refine blockK_r ?_ | refine blockK_hit ?_ | refine blockK_miss (by decide) ?_ | ((first | refine sym_reg env fun Q hQ => ?_ | refine sym_cz fun Q hQ => ?_); simp only [vkt, seval, tbJ6_117, xbJ6_1, d1]; (try simp only [ite_and]); (repeat' (first | with_reducible assumption | refine And.intro ?_ ?_ | intro hp)); all_goals (first | (refine hQ _ ?_; clear hQ Q) | (refine hQ _ (fun h => ?_) (fun h => ?_) <;> clear hQ Q <;> (try simp only [vki, reduceCtorEq] at h)) | omega | assumption | (with_reducible rfl) | (refine drawB_of ?_; kernel_rfl) | skip)))
    (simp only [vrt, Try.results117, vkt, seval, tbJ6_117, xbJ6_1]; refine Fin.val rfl ?_; (try simp only [AV.le, AV.leL]))
    all_goals first | rfl | (simp; done)
def c117 : List AV → Prop × AV
  | [.agg [.sl cs, .sl rs, .sl ss, .sl es], .v (.int .i64 n)] => (isL cs rs ss es ∧ Val (ldOf cs rs ss es) ∧ 0 ≤ n ∧ n ≤ (es.length : Int), aInts (stK (ldOf cs rs ss es) n.toNat).2)
  | _ => (False, .junk)
theorem d117 {A : Frm → Prop} : EntryOK A Try.prog 117 (valE false c117) := valE_ok fun vs hv h => by
  clear hv
  unfold c117 at h ⊢
  split at h
  · rename_i cs rs ss es n
    obtain ⟨h1, h2, h3, h4⟩ := h
    refine ⟨by simp [AV.plain, aInts], fun h => absurd h (by decide), ?_⟩
    obtain ⟨m, rfl⟩ := Int.eq_ofNat_of_zero_le h3
    have := after_fn (ldOf cs rs ss es) m h2 (by simp only [ldOf, List.length_map]; omega)
    rw [aLed_of h1] at this
    exact this
  · exact h.elim
def evT (l : Led) (d : Int) (k : Nat) : St := { t := asg [(1, aI d), (2, .ptr 0 0), (5, aI (cntK l d k)), (6, aI k)], h := hasg [(0, .cells (cLed l))], n := 1 }
def tbJ6_142 := And.intro @ty3 (And.intro @ty36 (And.intro @ty38 (And.intro @ty48 (And.intro @ti3.eq_1 (And.intro @ti36.eq_1 (And.intro @ti38.eq_1 @ti48.eq_1))))))
def xbJ6_2 := And.intro @aI.eq_1 (And.intro @aB.eq_1 (And.intro @aLed.eq_1 (And.intro @cLed.eq_1 (And.intro @aInts.eq_1 (And.intro @evT.eq_1 (And.intro @c117.eq_1 (And.intro @c117.eq_2 (And.intro @gEnt (And.intro @eEnt.eq_1 (And.intro @isL_e (@ldOf_e)))))))))))
theorem evening_fn (l : Led) (d : Int) (hV : Val l) : FnV Try.prog 142 [aLed l, aI d] (aInts (evH l d)) := by
  have env : Env (fun _ => True) Try.prog tyB (tab [(117, valE false c117)]) := mkEnv ⟨d117, trivial⟩
  refine Fn.of (A := fun _ => True) (n0 := 0) (D := noD) (Fn0 Try.func142 rfl (fun vs w => by kernel_rfl) (by kernel_rfl)) (by simp) (by simp [AV.ids, AV.idsL, aLed, cLed, aI]) (fun i o h => by cases h) (fun _ _ _ _ => trivial) noD_ok ?_
  have q4 := hV.e
  repeat' (first | refine zq0 ?_ | refine zq1 ?_ | refine zq2 ?_ | refine zq3 ?_ | refine zq4 ?_ | refine zq5 ?_ | refine thenK_n ?_ | refine thenK_x ?_ | refine thenK_r ?_ | refine blockK_n ?_ | refine blockK_r ?_ | refine blockK_hit ?_ | refine blockK_miss (by decide) ?_ | ((first | refine sym_reg env fun Q hQ => ?_ | refine sym_cz fun Q hQ => ?_); simp only [vkt, seval, tbJ6_142, xbJ6_2]; (try simp only [ite_and]); (repeat' (first | with_reducible assumption | refine And.intro ?_ ?_ | intro hp)); all_goals (first | (refine hQ _ ?_; clear hQ Q) | (refine hQ _ (fun h => ?_) (fun h => ?_) <;> clear hQ Q <;> (try simp only [vki, reduceCtorEq] at h)) | omega | assumption | (with_reducible rfl) | (refine drawB_of ?_; kernel_rfl) | skip)))
  refine sym_loop (fun k : { k : Nat // k ≤ l.entries.length } => evT l d k.1) (fun k => l.entries.length - k.1) ⟨0, Nat.zero_le _⟩ ?_ fun ⟨k, hk⟩ => ?_
  · (refine Le.ok some [] ?_; constructor; all_goals (try simp only [vle, vkt, seval, tbJ6_142, xbJ6_2]))
    all_goals first | rfl | (simp [cntK]; done)
  have hcl := cntK_le l d k
  by_cases hlt : k < l.entries.length
  · have d1 : decide ((k : Int) < (l.entries.length : Int)) = true := decide_eq_true (by omega)
    have e9 := wrap64 (n := (k : Int) + 1) (by omega) (by omega)
    have hS := cntK_succ (d := d) hlt
    obtain ⟨x, hx⟩ : ∃ x, l.entries.getD k default = x := ⟨_, rfl⟩
    rw [hx] at hS
    by_cases hd : x.day ≤ d
    · have d2 : decide (x.day ≤ d) = true := decide_eq_true hd
      have e8 := wrap64 (n := (cntK l d k : Int) + 1) (by omega) (by omega)
      rw [if_pos hd] at hS
      repeat' (first | refine zq0 ?_ | refine zq1 ?_ | refine zq2 ?_ | refine zq3 ?_ | refine zq4 ?_ | refine zq5 ?_ | refine thenK_n ?_ | refine thenK_x ?_ | refine thenK_r ?_ | refine blockK_n ?_ | refine blockK_r ?_ | refine blockK_hit ?_ | refine blockK_miss (by decide) ?_ | ((first | refine sym_reg env fun Q hQ => ?_ | refine sym_cz fun Q hQ => ?_); simp only [vkt, seval, tbJ6_142, xbJ6_2, d1, d2, e9, e8, hx]; (try simp only [ite_and]); (repeat' (first | with_reducible assumption | refine And.intro ?_ ?_ | intro hp)); all_goals (first | (refine hQ _ ?_; clear hQ Q) | (refine hQ _ (fun h => ?_) (fun h => ?_) <;> clear hQ Q <;> (try simp only [vki, reduceCtorEq] at h)) | omega | assumption | (with_reducible rfl) | (refine drawB_of ?_; kernel_rfl) | skip)))
      refine ⟨⟨k + 1, hlt⟩, by show l.entries.length - (k + 1) < l.entries.length - k; omega, ?_⟩
      (refine Le.ok some [] ?_; constructor; all_goals (try simp only [vle, vkt, seval, tbJ6_142, xbJ6_2]))
      all_goals first | rfl | (simp [hS]; done)
    · have d2 : decide (x.day ≤ d) = false := decide_eq_false hd
      rw [if_neg hd] at hS
      repeat' (first | refine zq0 ?_ | refine zq1 ?_ | refine zq2 ?_ | refine zq3 ?_ | refine zq4 ?_ | refine zq5 ?_ | refine thenK_n ?_ | refine thenK_x ?_ | refine thenK_r ?_ | refine blockK_n ?_ | refine blockK_r ?_ | refine blockK_hit ?_ | refine blockK_miss (by decide) ?_ | ((first | refine sym_reg env fun Q hQ => ?_ | refine sym_cz fun Q hQ => ?_); simp only [vkt, seval, tbJ6_142, xbJ6_2, d1, d2, e9, hx]; (try simp only [ite_and]); (repeat' (first | with_reducible assumption | refine And.intro ?_ ?_ | intro hp)); all_goals (first | (refine hQ _ ?_; clear hQ Q) | (refine hQ _ (fun h => ?_) (fun h => ?_) <;> clear hQ Q <;> (try simp only [vki, reduceCtorEq] at h)) | omega | assumption | (with_reducible rfl) | (refine drawB_of ?_; kernel_rfl) | skip)))
      refine ⟨⟨k + 1, hlt⟩, by show l.entries.length - (k + 1) < l.entries.length - k; omega, ?_⟩
      (refine Le.ok some [] ?_; constructor; all_goals (try simp only [vle, vkt, seval, tbJ6_142, xbJ6_2]))
      all_goals first | rfl | (simp [hS]; done)
  · have d1 : decide ((k : Int) < (l.entries.length : Int)) = false := decide_eq_false (by omega)
    have hkn : k = l.entries.length := by omega
    subst hkn
    have hA := cntK_all hV d
    have hb : (0 : Int) ≤ (cntK l d l.entries.length : Int) ∧ (cntK l d l.entries.length : Int) ≤ (l.entries.length : Int) := by omega
    repeat' (first | refine zq0 ?_ | refine zq1 ?_ | refine zq2 ?_ | refine zq3 ?_ | refine zq4 ?_ | refine zq5 ?_ | refine thenK_n ?_ | refine thenK_x ?_ | refine thenK_r ?_ | refine blockK_n ?_ | refine blockK_r ?_ | refine blockK_hit ?_ | refine blockK_miss (by decide) ?_ | ((first | refine sym_reg env fun Q hQ => ?_ | refine sym_cz fun Q hQ => ?_); simp only [vkt, seval, tbJ6_142, xbJ6_2, d1]; (try simp only [ite_and]); (repeat' (first | with_reducible assumption | refine And.intro ?_ ?_ | intro hp)); all_goals (first | (refine hQ _ ?_; clear hQ Q) | (refine hQ _ (fun h => ?_) (fun h => ?_) <;> clear hQ Q <;> (try simp only [vki, reduceCtorEq] at h)) | omega | assumption | (with_reducible rfl) | (refine drawB_of ?_; kernel_rfl) | skip)))
    (simp only [vrt, Try.results142, vkt, seval, tbJ6_142, xbJ6_2]; refine Fin.val rfl ?_; (try simp only [AV.le, AV.leL]))
    all_goals first | rfl | (simp [hA, evH]; done)
def c142 : List AV → Prop × AV
  | [.agg [.sl cs, .sl rs, .sl ss, .sl es], .v (.int .i64 d)] => (isL cs rs ss es ∧ Val (ldOf cs rs ss es), aInts (evH (ldOf cs rs ss es) d))
  | _ => (False, .junk)
theorem d142 {A : Frm → Prop} : EntryOK A Try.prog 142 (valE false c142) := valE_ok fun vs hv h => by
  clear hv
  unfold c142 at h ⊢
  split at h
  · refine ⟨by simp [AV.plain, aInts], fun h => absurd h (by decide), ?_⟩
    rw [← aLed_of h.1]; exact evening_fn _ _ h.2
  · exact h.elim
end Go.Sym.B
namespace Go.Sym.B
open Go Go.Sym Go.Proofs Go.Sym.C
def rgH (l : Led) (q : Rat) (c : Nat) : List (Nat × AObj) := [(0, .cells (cLed l)), (1, .row 59 2 (((gainsL l).take c).map eQ)), (2, .cells [.v (.int .i64 q.num), .v (.int .i64 (q.den : Int))])]
def rgT1 (l : Led) (c : Nat) : St := { t := asg [(1, .ptr 0 0), (3, .row 1), (4, aI c)], h := hasg [(0, .cells (cLed l)), (1, .row 59 2 (((gainsL l).take c).map eQ))], n := 2 }
def rgT2 (l : Led) (c d : Nat) : St := { t := asg [(1, .ptr 0 0), (3, .row 1), (4, aI c), (5, .ptr 2 0), (6, aI d)], h := hasg (rgH l (gQ1 l d c) c), n := 3 }
theorem gainsL_get {l : Led} {c : Nat} (h : c < l.coins.length) : (gainsL l).getD c 0 = gQ1 l (l.rates.length - 1) c := by
  simp [gainsL, List.getD_eq_getElem?_getD, h]
def tbJ7_118 := And.intro @ty3 (And.intro @ty22 (And.intro @ty28 (And.intro @ty35 (And.intro @ty38 (And.intro @ty55 (And.intro @ty59 (And.intro @ti3.eq_1 (And.intro @ti22.eq_1 (And.intro @ti28.eq_1 (And.intro @ti35.eq_1 (And.intro @ti38.eq_1 (And.intro @ti55.eq_1 @ti59.eq_1))))))))))))
def xbJ7_1 := And.intro @aI.eq_1 (And.intro @aB.eq_1 (And.intro @aLed.eq_1 (And.intro @cLed.eq_1 (And.intro @aInts.eq_1 (And.intro @rgH.eq_1 (And.intro @rgT1.eq_1 (And.intro @rgT2.eq_1 (And.intro @c142.eq_1 (And.intro @c142.eq_2 (And.intro @s139.eq_1 (And.intro @s139.eq_2 (And.intro @s100.eq_1 (And.intro @s100.eq_2 (And.intro @s99.eq_1 (And.intro @s99.eq_2 (And.intro @s138.eq_1 (And.intro @s138.eq_2 (And.intro @isL_e (And.intro @ldOf_e (And.intro @isQ_q (And.intro @qI_q (And.intro @aSh.eq_1 (And.intro @shQ.eq_1 (And.intro @gShs (And.intro @gSh (And.intro @eShs.eq_1 (And.intro @eSh.eq_1 (And.intro @rQ (And.intro @gInt (@eInt.eq_1))))))))))))))))))))))))))))))
set_option maxHeartbeats 4000000 in
theorem rgains_fn (l : Led) (hV : Val l) : FnV Try.prog 118 [aLed l] (.sl ((gainsL l).map eQ)) := by
  have env : Env (fun _ => True) Try.prog tyB (tab [(142, valE false c142), (55, valE true s139), (53, valE true s100), (56, valE true s99), (42, valE true s138)]) := mkEnv ⟨d142, e55, e53, e56, e42, trivial⟩
  refine Fn.of (A := fun _ => True) (n0 := 0) (D := noD) (Fn0 Try.func118 rfl (fun vs w => by kernel_rfl) (by kernel_rfl)) (by simp) (by simp [AV.ids, AV.idsL, aLed, cLed, aI]) (fun i o h => by cases h) (fun _ _ _ _ => trivial) noD_ok ?_
  have q1 := hV.c
  have q2 := hV.r
  have q3 := hV.sl
  have q4 := hV.e
  have big : (100000 : Nat) ≤ maxLen := by decide
  have ok1 : OfOk 0 1 := ⟨by omega, by omega, by omega, by omega⟩
  have w01 : mkRat 0 (1 : Int).toNat = 0 := by decide +kernel
  have hGl := (show (gainsL l).length = l.coins.length by simp [gainsL])
  repeat' (first | refine zq0 ?_ | refine zq1 ?_ | refine zq2 ?_ | refine zq3 ?_ | refine zq4 ?_ | refine zq5 ?_ | refine thenK_n ?_ | refine thenK_x ?_ | refine thenK_r ?_ | refine blockK_n ?_ | refine blockK_r ?_ | refine blockK_hit ?_ | refine blockK_miss (by decide) ?_ | ((first | refine sym_reg env fun Q hQ => ?_ | refine sym_cz fun Q hQ => ?_); simp only [vkt, seval, tbJ7_118, xbJ7_1]; (try simp only [ite_and]); (repeat' (first | with_reducible assumption | refine And.intro ?_ ?_ | intro hp)); all_goals (first | (refine hQ _ ?_; clear hQ Q) | (refine hQ _ (fun h => ?_) (fun h => ?_) <;> clear hQ Q <;> (try simp only [vki, reduceCtorEq] at h)) | omega | assumption | (with_reducible rfl) | (refine drawB_of ?_; kernel_rfl) | skip)))
  refine sym_loop (fun c : { c : Nat // c ≤ l.coins.length } => rgT1 l c.1) (fun c => l.coins.length - c.1) ⟨0, Nat.zero_le _⟩ ?_ fun ⟨c, hc⟩ => ?_
  · (refine Le.ok (fun j => if j = 1 then none else some j) [] ?_; constructor; all_goals (try simp only [vle, vkt, seval, tbJ7_118, xbJ7_1]))
    all_goals first | rfl | (simp; done)
  by_cases hlt : c < l.coins.length
  · have d1 : decide ((c : Int) < (l.coins.length : Int)) = true := decide_eq_true (by omega)
    have w0 : gQ1 l 0 c = 0 := rfl
    repeat' (first | refine zq0 ?_ | refine zq1 ?_ | refine zq2 ?_ | refine zq3 ?_ | refine zq4 ?_ | refine zq5 ?_ | refine thenK_n ?_ | refine thenK_x ?_ | refine thenK_r ?_ | refine blockK_n ?_ | refine blockK_r ?_ | refine blockK_hit ?_ | refine blockK_miss (by decide) ?_ | ((first | refine sym_reg env fun Q hQ => ?_ | refine sym_cz fun Q hQ => ?_); simp only [vkt, seval, tbJ7_118, xbJ7_1, d1, w01]; (try simp only [ite_and]); (repeat' (first | with_reducible assumption | refine And.intro ?_ ?_ | intro hp)); all_goals (first | (refine hQ _ ?_; clear hQ Q) | (refine hQ _ (fun h => ?_) (fun h => ?_) <;> clear hQ Q <;> (try simp only [vki, reduceCtorEq] at h)) | omega | assumption | (with_reducible rfl) | (refine drawB_of ?_; kernel_rfl) | skip)))
    refine sym_loop (fun d : { d : Nat // d + 1 ≤ l.rates.length } => rgT2 l c d.1) (fun d => l.rates.length - d.1) ⟨0, by omega⟩ ?_ fun ⟨d, hd⟩ => ?_
    · (refine Le.ok some [] ?_; constructor; all_goals (try simp only [vle, vkt, seval, tbJ7_118, xbJ7_1]))
      all_goals first | rfl | (simp [w0]; done)
    have e8 := wrap64 (n := (d : Int) + 1) (by omega) (by omega)
    by_cases hdl : d + 1 < l.rates.length
    · have d2 : decide ((d : Int) + 1 < (l.rates.length : Int)) = true := decide_eq_true (by omega)
      have R1 := val_rt hV (d := (d : Int) + 1) (c := c) (by omega) (by omega) (by omega) (by omega)
      have R2 := val_rt hV (d := (d : Int)) (c := c) (by omega) (by omega) (by omega) (by omega)
      have b1 := rt_bd R1
      have b2 := rt_bd R2
      have s1 := b1.sm (by decide)
      have s2 := b2.sm (by decide)
      have hb := val_hb hV (kd l d) (kd_le _ _) c
      have b3 := b1.sub b2
      have t3 : Tm (rq l ((d : Int) + 1) c - rq l d c) ((evH l d).getD c 0) := ⟨b3.sm (by decide), by unfold evH; omega, by unfold evH; omega⟩
      have s3 := (gT_bd hV hlt hdl).sm (by decide)
      unfold gT at s3
      have s4 := (gQ1_bd hV hlt (show d < l.rates.length by omega)).sm (by decide)
      have hS := gQ1_succ l d c
      unfold gT at hS
      have ho := (val_has hV (kd l d) (kd_le _ _)).len
      have hel : c < (evH l d).length := by unfold evH; omega
      have g2 := gI0 hel
      have u1 := R1.d1
      have u2 := R1.c1
      have u3 := R2.d1
      have u4 := R2.c1
      have r1 : ((l.rates.getD ((d : Int) + 1).toNat []).getD c default).num = (rq l ((d : Int) + 1) c).num ∧ ((l.rates.getD ((d : Int) + 1).toNat []).getD c default).den = ((rq l ((d : Int) + 1) c).den : Int) := rsh_nd R1
      have r2 : ((l.rates.getD d []).getD c default).num = (rq l (d : Int) c).num ∧ ((l.rates.getD d []).getD c default).den = ((rq l (d : Int) c).den : Int) := rsh_nd R2
      obtain ⟨r1a, r1b⟩ := r1
      obtain ⟨r2a, r2b⟩ := r2
      have tn : ((d : Int) + 1).toNat = d + 1 := by omega
      rw [tn] at r1a r1b u1 u2
      have z0 : (0 : Int) ≤ (d : Int) + 1 := by omega
      repeat' (first | refine zq0 ?_ | refine zq1 ?_ | refine zq2 ?_ | refine zq3 ?_ | refine zq4 ?_ | refine zq5 ?_ | refine thenK_n ?_ | refine thenK_x ?_ | refine thenK_r ?_ | refine blockK_n ?_ | refine blockK_r ?_ | refine blockK_hit ?_ | refine blockK_miss (by decide) ?_ | ((first | refine sym_reg env fun Q hQ => ?_ | refine sym_cz fun Q hQ => ?_); simp only [vkt, seval, tbJ7_118, xbJ7_1, e8, d2, tn, r1a, r1b, r2a, r2b]; (try simp only [ite_and]); (repeat' (first | with_reducible assumption | refine And.intro ?_ ?_ | intro hp)); all_goals (first | (refine hQ _ ?_; clear hQ Q) | (refine hQ _ (fun h => ?_) (fun h => ?_) <;> clear hQ Q <;> (try simp only [vki, reduceCtorEq] at h)) | omega | assumption | (with_reducible rfl) | (refine drawB_of ?_; kernel_rfl) | skip)))
      refine ⟨⟨d + 1, by omega⟩, by show l.rates.length - (d + 1) < l.rates.length - d; omega, ?_⟩
      (refine Le.ok some [] ?_; constructor; all_goals (try simp only [vle, vkt, seval, tbJ7_118, xbJ7_1]))
      all_goals first | rfl | (simp [hS]; done)
    · have d2 : decide ((d : Int) + 1 < (l.rates.length : Int)) = false := decide_eq_false (by omega)
      have hdn : d = l.rates.length - 1 := by omega
      have e9 := wrap64 (n := (c : Int) + 1) (by omega) (by omega)
      have e4 : ((gainsL l).take c).map eQ ++ [[.v (.int .i64 (gQ1 l d c).num), .v (.int .i64 ((gQ1 l d c).den : Int))]] = ((gainsL l).take (c + 1)).map eQ := by
        rw [hdn, ← gainsL_get hlt]; exact takeQ _ (by omega)
      have hk2 : ((gainsL l).take c).length = c := by rw [List.length_take]; omega
      have m1 : (c + 1) * 16 ≤ 140737488355328 ∧ c + 1 ≤ maxLen := by omega
      repeat' (first | refine zq0 ?_ | refine zq1 ?_ | refine zq2 ?_ | refine zq3 ?_ | refine zq4 ?_ | refine zq5 ?_ | refine thenK_n ?_ | refine thenK_x ?_ | refine thenK_r ?_ | refine blockK_n ?_ | refine blockK_r ?_ | refine blockK_hit ?_ | refine blockK_miss (by decide) ?_ | ((first | refine sym_reg env fun Q hQ => ?_ | refine sym_cz fun Q hQ => ?_); simp only [vkt, seval, tbJ7_118, xbJ7_1, e8, d2, e4, e9, hk2]; (try simp only [ite_and]); (repeat' (first | with_reducible assumption | refine And.intro ?_ ?_ | intro hp)); all_goals (first | (refine hQ _ ?_; clear hQ Q) | (refine hQ _ (fun h => ?_) (fun h => ?_) <;> clear hQ Q <;> (try simp only [vki, reduceCtorEq] at h)) | omega | assumption | (with_reducible rfl) | (refine drawB_of ?_; kernel_rfl) | skip)))
      refine ⟨⟨c + 1, hlt⟩, by show l.coins.length - (c + 1) < l.coins.length - c; omega, ?_⟩
      (refine Le.ok (fun j => if j = 1 then some 4 else some j) [] ?_; constructor; all_goals (try simp only [vle, vkt, seval, tbJ7_118, xbJ7_1]))
      all_goals first | rfl | (simp; done)
  · have d1 : decide ((c : Int) < (l.coins.length : Int)) = false := decide_eq_false (by omega)
    have hcn : c = (gainsL l).length := by omega
    repeat' (first | refine zq0 ?_ | refine zq1 ?_ | refine zq2 ?_ | refine zq3 ?_ | refine zq4 ?_ | refine zq5 ?_ | refine thenK_n ?_ | refine thenK_x ?_ | refine thenK_r ?_ | refine blockK_n ?_ | refine blockK_r ?_ | refine blockK_hit ?_ | refine blockK_miss (by decide) ?_ | ((first | refine sym_reg env fun Q hQ => ?_ | refine sym_cz fun Q hQ => ?_); simp only [vkt, seval, tbJ7_118, xbJ7_1, d1]; (try simp only [ite_and]); (repeat' (first | with_reducible assumption | refine And.intro ?_ ?_ | intro hp)); all_goals (first | (refine hQ _ ?_; clear hQ Q) | (refine hQ _ (fun h => ?_) (fun h => ?_) <;> clear hQ Q <;> (try simp only [vki, reduceCtorEq] at h)) | omega | assumption | (with_reducible rfl) | (refine drawB_of ?_; kernel_rfl) | skip)))
    (simp only [vrt, Try.results118, vkt, seval, tbJ7_118, xbJ7_1]; refine Fin.val rfl ?_; (try simp only [AV.le, AV.leL]))
    all_goals first | (rw [hcn, List.take_length]; exact ⟨_, _, rfl⟩)
def c118 : List AV → Prop × AV
  | [.agg [.sl cs, .sl rs, .sl ss, .sl es]] => (isL cs rs ss es ∧ Val (ldOf cs rs ss es), .sl ((gainsL (ldOf cs rs ss es)).map eQ))
  | _ => (False, .junk)
theorem d118 {A : Frm → Prop} : EntryOK A Try.prog 118 (valE false c118) := valE_ok fun vs hv h => by
  clear hv
  unfold c118 at h ⊢
  split at h
  · refine ⟨trivial, fun h => absurd h (by decide), ?_⟩
    rw [← aLed_of h.1]; exact rgains_fn _ h.2
  · exact h.elim
def tbJ7_60 := And.intro @ty30 (And.intro @ty38 (And.intro @ti30.eq_1 @ti38.eq_1))
def xbJ7_2 := And.intro @aI.eq_1 (And.intro @aB.eq_1 (And.intro @aLed.eq_1 (And.intro @cLed.eq_1 (And.intro @c50.eq_1 (And.intro @c50.eq_2 (And.intro @c118.eq_1 (And.intro @c118.eq_2 (And.intro @isL_e (@ldOf_e)))))))))
theorem rGains_fn (l : Led) (hl : Fit l) : FnV Try.prog 60 [aLed l] (aGains l) := by
  have env : Env (fun _ => True) Try.prog tyB (tab [(51, valE true c50), (118, valE false c118)]) := mkEnv ⟨d51, d118, trivial⟩
  refine Fn.of (A := fun _ => True) (n0 := 0) (D := noD) (Fn0 Try.func60 rfl (fun vs w => by kernel_rfl) (by kernel_rfl)) (by simp) (by simp [AV.ids, AV.idsL, aLed, cLed]) (fun i o h => by cases h) (fun _ _ _ _ => trivial) noD_ok ?_
  by_cases h0 : checkE l = 0
  · have hV := val_of h0
    rw [show aGains l = _ from if_neg (by rw [h0]; simp)]
    repeat' (first | refine zq0 ?_ | refine zq1 ?_ | refine zq2 ?_ | refine zq3 ?_ | refine zq4 ?_ | refine zq5 ?_ | refine thenK_n ?_ | refine thenK_x ?_ | refine thenK_r ?_ | refine blockK_n ?_ | refine blockK_r ?_ | refine blockK_hit ?_ | refine blockK_miss (by decide) ?_ | ((first | refine sym_reg env fun Q hQ => ?_ | refine sym_cz fun Q hQ => ?_); simp only [vkt, seval, tbJ7_60, xbJ7_2, h0]; (try simp only [ite_and]); (repeat' (first | with_reducible assumption | refine And.intro ?_ ?_ | intro hp)); all_goals (first | (refine hQ _ ?_; clear hQ Q) | (refine hQ _ (fun h => ?_) (fun h => ?_) <;> clear hQ Q <;> (try simp only [vki, reduceCtorEq] at h)) | omega | assumption | (with_reducible rfl) | (refine drawB_of ?_; kernel_rfl) | skip)))
    (simp only [vrt, Try.results60, vkt, seval, tbJ7_60, xbJ7_2]; refine Fin.val rfl ?_; (try simp only [AV.le, AV.leL]))
    all_goals first | rfl | (simp; done)
  · rw [show aGains l = _ from if_pos h0]
    repeat' (first | refine zq0 ?_ | refine zq1 ?_ | refine zq2 ?_ | refine zq3 ?_ | refine zq4 ?_ | refine zq5 ?_ | refine thenK_n ?_ | refine thenK_x ?_ | refine thenK_r ?_ | refine blockK_n ?_ | refine blockK_r ?_ | refine blockK_hit ?_ | refine blockK_miss (by decide) ?_ | ((first | refine sym_reg env fun Q hQ => ?_ | refine sym_cz fun Q hQ => ?_); simp only [vkt, seval, tbJ7_60, xbJ7_2, h0]; (try simp only [ite_and]); (repeat' (first | with_reducible assumption | refine And.intro ?_ ?_ | intro hp)); all_goals (first | (refine hQ _ ?_; clear hQ Q) | (refine hQ _ (fun h => ?_) (fun h => ?_) <;> clear hQ Q <;> (try simp only [vki, reduceCtorEq] at h)) | omega | assumption | (with_reducible rfl) | (refine drawB_of ?_; kernel_rfl) | skip)))
    (simp only [vrt, Try.results60, vkt, seval, tbJ7_60, xbJ7_2]; refine Fin.val rfl ?_; (try simp only [AV.le, AV.leL]))
    all_goals first | rfl | (simp; done)
theorem d60 {A : Frm → Prop} : EntryOK A Try.prog 60 (valE false c38) := valE_ok fun vs hv h => by
  clear hv
  unfold c38 at h ⊢
  split at h
  · refine ⟨by unfold aGains; split <;> simp [AV.plain, AV.plainL, aI], fun h => absurd h (by decide), ?_⟩
    rw [← aLed_of h.1]; exact rGains_fn _ h.2
  · exact h.elim
def aTill (l : Led) (n : Int) : AV := if checkE l ≠ 0 then .tup [.sl [], aI (checkE l)] else if (l.entries.length : Int) < n then .tup [.sl [], aI 6] else if n < 0 then .tup [.sl [], aI 1] else .tup [aInts (stK l n.toNat).2, aI 0]
def tbJ7_59 := And.intro @ty3 (And.intro @ty30 (And.intro @ty36 (And.intro @ty38 (And.intro @ty48 (And.intro @ti3.eq_1 (And.intro @ti30.eq_1 (And.intro @ti36.eq_1 (And.intro @ti38.eq_1 @ti48.eq_1))))))))
def xbJ7_3 := And.intro @aI.eq_1 (And.intro @aB.eq_1 (And.intro @aLed.eq_1 (And.intro @cLed.eq_1 (And.intro @aInts.eq_1 (And.intro @c50.eq_1 (And.intro @c50.eq_2 (And.intro @c117.eq_1 (And.intro @c117.eq_2 (And.intro @isL_e (@ldOf_e))))))))))
theorem rTill_fn (l : Led) (n : Int) (hl : Fit l) : FnV Try.prog 59 [aLed l, aI n] (aTill l n) := by
  have env : Env (fun _ => True) Try.prog tyB (tab [(51, valE true c50), (117, valE false c117)]) := mkEnv ⟨d51, d117, trivial⟩
  refine Fn.of (A := fun _ => True) (n0 := 0) (D := noD) (Fn0 Try.func59 rfl (fun vs w => by kernel_rfl) (by kernel_rfl)) (by simp) (by simp [AV.ids, AV.idsL, aLed, cLed, aI]) (fun i o h => by cases h) (fun _ _ _ _ => trivial) noD_ok ?_
  by_cases h0 : checkE l = 0
  · have hV := val_of h0
    rw [show aTill l n = _ from if_neg (by rw [h0]; simp)]
    by_cases h1 : (l.entries.length : Int) < n
    · rw [if_pos h1]
      repeat' (first | refine zq0 ?_ | refine zq1 ?_ | refine zq2 ?_ | refine zq3 ?_ | refine zq4 ?_ | refine zq5 ?_ | refine thenK_n ?_ | refine thenK_x ?_ | refine thenK_r ?_ | refine blockK_n ?_ | refine blockK_r ?_ | refine blockK_hit ?_ | refine blockK_miss (by decide) ?_ | ((first | refine sym_reg env fun Q hQ => ?_ | refine sym_cz fun Q hQ => ?_); simp only [vkt, seval, tbJ7_59, xbJ7_3, h0, h1]; (try simp only [ite_and]); (repeat' (first | with_reducible assumption | refine And.intro ?_ ?_ | intro hp)); all_goals (first | (refine hQ _ ?_; clear hQ Q) | (refine hQ _ (fun h => ?_) (fun h => ?_) <;> clear hQ Q <;> (try simp only [vki, reduceCtorEq] at h)) | omega | assumption | (with_reducible rfl) | (refine drawB_of ?_; kernel_rfl) | skip)))
      (simp only [vrt, Try.results59, vkt, seval, tbJ7_59, xbJ7_3]; refine Fin.val rfl ?_; (try simp only [AV.le, AV.leL]))
      all_goals first | rfl | (simp; done)
    · rw [if_neg h1]
      by_cases h2 : n < 0
      · rw [if_pos h2]
        repeat' (first | refine zq0 ?_ | refine zq1 ?_ | refine zq2 ?_ | refine zq3 ?_ | refine zq4 ?_ | refine zq5 ?_ | refine thenK_n ?_ | refine thenK_x ?_ | refine thenK_r ?_ | refine blockK_n ?_ | refine blockK_r ?_ | refine blockK_hit ?_ | refine blockK_miss (by decide) ?_ | ((first | refine sym_reg env fun Q hQ => ?_ | refine sym_cz fun Q hQ => ?_); simp only [vkt, seval, tbJ7_59, xbJ7_3, h0, h1, h2]; (try simp only [ite_and]); (repeat' (first | with_reducible assumption | refine And.intro ?_ ?_ | intro hp)); all_goals (first | (refine hQ _ ?_; clear hQ Q) | (refine hQ _ (fun h => ?_) (fun h => ?_) <;> clear hQ Q <;> (try simp only [vki, reduceCtorEq] at h)) | omega | assumption | (with_reducible rfl) | (refine drawB_of ?_; kernel_rfl) | skip)))
        (simp only [vrt, Try.results59, vkt, seval, tbJ7_59, xbJ7_3]; refine Fin.val rfl ?_; (try simp only [AV.le, AV.leL]))
        all_goals first | rfl | (simp; done)
      · rw [if_neg h2]
        have h3 : 0 ≤ n ∧ n ≤ (l.entries.length : Int) := by omega
        have h4 : n ≤ ((l.entries.map eEnt).length : Int) := by rw [List.length_map]; omega
        repeat' (first | refine zq0 ?_ | refine zq1 ?_ | refine zq2 ?_ | refine zq3 ?_ | refine zq4 ?_ | refine zq5 ?_ | refine thenK_n ?_ | refine thenK_x ?_ | refine thenK_r ?_ | refine blockK_n ?_ | refine blockK_r ?_ | refine blockK_hit ?_ | refine blockK_miss (by decide) ?_ | ((first | refine sym_reg env fun Q hQ => ?_ | refine sym_cz fun Q hQ => ?_); simp only [vkt, seval, tbJ7_59, xbJ7_3, h0, h1, h2]; (try simp only [ite_and]); (repeat' (first | with_reducible assumption | refine And.intro ?_ ?_ | intro hp)); all_goals (first | (refine hQ _ ?_; clear hQ Q) | (refine hQ _ (fun h => ?_) (fun h => ?_) <;> clear hQ Q <;> (try simp only [vki, reduceCtorEq] at h)) | omega | assumption | (with_reducible rfl) | (refine drawB_of ?_; kernel_rfl) | skip)))
        (simp only [vrt, Try.results59, vkt, seval, tbJ7_59, xbJ7_3]; refine Fin.val rfl ?_; (try simp only [AV.le, AV.leL]))
        all_goals first | rfl | (simp; done)
  · rw [show aTill l n = _ from if_pos h0]
    repeat' (first | refine zq0 ?_ | refine zq1 ?_ | refine zq2 ?_ | refine zq3 ?_ | refine zq4 ?_ | refine zq5 ?_ | refine thenK_n ?_ | refine thenK_x ?_ | refine thenK_r ?_ | refine blockK_n ?_ | refine blockK_r ?_ | refine blockK_hit ?_ | refine blockK_miss (by decide) ?_ | ((first | refine sym_reg env fun Q hQ => ?_ | refine sym_cz fun Q hQ => ?_); simp only [vkt, seval, tbJ7_59, xbJ7_3, h0]; (try simp only [ite_and]); (repeat' (first | with_reducible assumption | refine And.intro ?_ ?_ | intro hp)); all_goals (first | (refine hQ _ ?_; clear hQ Q) | (refine hQ _ (fun h => ?_) (fun h => ?_) <;> clear hQ Q <;> (try simp only [vki, reduceCtorEq] at h)) | omega | assumption | (with_reducible rfl) | (refine drawB_of ?_; kernel_rfl) | skip)))
    (simp only [vrt, Try.results59, vkt, seval, tbJ7_59, xbJ7_3]; refine Fin.val rfl ?_; (try simp only [AV.le, AV.leL]))
    all_goals first | rfl | (simp; done)
def c59 : List AV → Prop × AV
  | [.agg [.sl cs, .sl rs, .sl ss, .sl es], .v (.int .i64 n)] => (isL cs rs ss es ∧ Fit (ldOf cs rs ss es), aTill (ldOf cs rs ss es) n)
  | _ => (False, .junk)
theorem aTill_plain (l : Led) (n : Int) : (aTill l n).plain := by
  unfold aTill aInts; repeat' split
  all_goals simp [AV.plain, AV.plainL, aI]
theorem d59 {A : Frm → Prop} : EntryOK A Try.prog 59 (valE false c59) := valE_ok fun vs hv h => by
  clear hv
  unfold c59 at h ⊢
  split at h
  · refine ⟨aTill_plain _ _, fun h => absurd h (by decide), ?_⟩
    rw [← aLed_of h.1]; exact rTill_fn _ _ h.2
  · exact h.elim
def tiT (l : Led) (es : List Ent) (k : Nat) : St := { t := asg [(2, .ptr 0 0), (7, .ptr 1 0), (29, .sl (es.map eEnt)), (30, aI es.length), (31, aI k)], h := hasg [(0, .cells (cLed l)), (1, oTill l 2), (2, oHas (stK l k).2)], n := 3 }
def tbJ7_58 := And.intro @ty3 (And.intro @ty22 (And.intro @ty30 (And.intro @ty36 (And.intro @ty38 (And.intro @ty48 (And.intro @ty123 (And.intro @ti3.eq_1 (And.intro @ti22.eq_1 (And.intro @ti30.eq_1 (And.intro @ti36.eq_1 (And.intro @ti38.eq_1 (And.intro @ti48.eq_1 @ti123.eq_1))))))))))))
def xbJ7_4 := And.intro @aI.eq_1 (And.intro @aB.eq_1 (And.intro @aLed.eq_1 (And.intro @cLed.eq_1 (And.intro @aInts.eq_1 (And.intro @aEnt.eq_1 (And.intro @eEnt.eq_1 (And.intro @gEnt (And.intro @c50.eq_1 (And.intro @c50.eq_2 (And.intro @p97.eq_1 (And.intro @p97.eq_2 (And.intro @p101.eq_1 (And.intro @p101.eq_2 (And.intro @oTill.eq_1 (And.intro @oHas.eq_1 (And.intro @tiT.eq_1 (And.intro @isL_e (And.intro @ldOf_e (And.intro @mInts (And.intro @mShs (And.intro @mInt (And.intro @mEnt (@rEnt)))))))))))))))))))))))
set_option maxHeartbeats 4000000 in
theorem pTill_fn (l : Led) (n : Int) (hl : Fit l) : FnV Try.prog 58 [aLed l, aI n] (aTill l n) := by
  have env : Env (fun _ => True) Try.prog tyB (tab [(50, valE true c50), (97, fnE p97), (101, fnE p101)]) := mkEnv ⟨d50, e97, e101, trivial⟩
  refine Fn.of (A := fun _ => True) (n0 := 0) (D := noD) (Fn0 Try.func58 rfl (fun vs w => by kernel_rfl) (by kernel_rfl)) (by simp) (by simp [AV.ids, AV.idsL, aLed, cLed, aI]) (fun i o h => by cases h) (fun _ _ _ _ => trivial) noD_ok ?_
  by_cases h0 : checkE l = 0
  · have hV := val_of h0
    rw [show aTill l n = _ from if_neg (by rw [h0]; simp)]
    by_cases h1 : (l.entries.length : Int) < n
    · rw [if_pos h1]
      repeat' (first | refine zq0 ?_ | refine zq1 ?_ | refine zq2 ?_ | refine zq3 ?_ | refine zq4 ?_ | refine zq5 ?_ | refine thenK_n ?_ | refine thenK_x ?_ | refine thenK_r ?_ | refine blockK_n ?_ | refine blockK_r ?_ | refine blockK_hit ?_ | refine blockK_miss (by decide) ?_ | ((first | refine sym_reg env fun Q hQ => ?_ | refine sym_cz fun Q hQ => ?_); simp only [vkt, seval, tbJ7_58, xbJ7_4, h0, h1]; (try simp only [ite_and]); (repeat' (first | with_reducible assumption | refine And.intro ?_ ?_ | intro hp)); all_goals (first | (refine hQ _ ?_; clear hQ Q) | (refine hQ _ (fun h => ?_) (fun h => ?_) <;> clear hQ Q <;> (try simp only [vki, reduceCtorEq] at h)) | omega | assumption | (with_reducible rfl) | (refine drawB_of ?_; kernel_rfl) | skip)))
      (simp only [vrt, Try.results58, vkt, seval, tbJ7_58, xbJ7_4]; refine Fin.val rfl ?_; (try simp only [AV.le, AV.leL]))
      all_goals first | rfl | (simp; done)
    · rw [if_neg h1]
      by_cases h2 : n < 0
      · rw [if_pos h2]
        repeat' (first | refine zq0 ?_ | refine zq1 ?_ | refine zq2 ?_ | refine zq3 ?_ | refine zq4 ?_ | refine zq5 ?_ | refine thenK_n ?_ | refine thenK_x ?_ | refine thenK_r ?_ | refine blockK_n ?_ | refine blockK_r ?_ | refine blockK_hit ?_ | refine blockK_miss (by decide) ?_ | ((first | refine sym_reg env fun Q hQ => ?_ | refine sym_cz fun Q hQ => ?_); simp only [vkt, seval, tbJ7_58, xbJ7_4, h0, h1, h2]; (try simp only [ite_and]); (repeat' (first | with_reducible assumption | refine And.intro ?_ ?_ | intro hp)); all_goals (first | (refine hQ _ ?_; clear hQ Q) | (refine hQ _ (fun h => ?_) (fun h => ?_) <;> clear hQ Q <;> (try simp only [vki, reduceCtorEq] at h)) | omega | assumption | (with_reducible rfl) | (refine drawB_of ?_; kernel_rfl) | skip)))
        (simp only [vrt, Try.results58, vkt, seval, tbJ7_58, xbJ7_4]; refine Fin.val rfl ?_; (try simp only [AV.le, AV.leL]))
        all_goals first | rfl | (simp; done)
      · rw [if_neg h2]
        have q1 := hV.c
        have q3 := hV.sl
        have q4 := hV.e
        have q5 : l.start.length ≤ 100000 := by omega
        obtain ⟨m, rfl⟩ := Int.eq_ofNat_of_zero_le (show 0 ≤ n by omega)
        have hm : m ≤ l.entries.length := by omega
        rw [Int.toNat_natCast]
        have hes : List.take m (l.entries.map eEnt) = (l.entries.take m).map eEnt := by rw [List.map_take]
        have hel : (l.entries.take m).length = m := by rw [List.length_take]; omega
        have hge : ∀ k, k < m → (l.entries.take m).getD k default = l.entries.getD k default := fun k hk => by
          simp [List.getD_eq_getElem?_getD, List.getElem?_take, hk]
        obtain ⟨es, hE⟩ : ∃ es, l.entries.take m = es := ⟨_, rfl⟩
        rw [hE] at hes hel hge
        have b1 : (m : Int) ≤ ((l.entries.map eEnt).length : Int) := by rw [List.length_map]; omega
        have b2 : (m : Int) ≤ (l.entries.length : Int) := by omega
        repeat' (first | refine zq0 ?_ | refine zq1 ?_ | refine zq2 ?_ | refine zq3 ?_ | refine zq4 ?_ | refine zq5 ?_ | refine thenK_n ?_ | refine thenK_x ?_ | refine thenK_r ?_ | refine blockK_n ?_ | refine blockK_r ?_ | refine blockK_hit ?_ | refine blockK_miss (by decide) ?_ | ((first | refine sym_reg env fun Q hQ => ?_ | refine sym_cz fun Q hQ => ?_); simp only [vkt, seval, tbJ7_58, xbJ7_4, h0, h1, h2, hes]; (try simp only [ite_and]); (repeat' (first | with_reducible assumption | refine And.intro ?_ ?_ | intro hp)); all_goals (first | (refine hQ _ ?_; clear hQ Q) | (refine hQ _ (fun h => ?_) (fun h => ?_) <;> clear hQ Q <;> (try simp only [vki, reduceCtorEq] at h)) | omega | assumption | (with_reducible rfl) | (refine drawB_of ?_; kernel_rfl) | skip)))
        refine sym_loop (fun k : { k : Nat // k ≤ es.length } => tiT l es k.1) (fun k => es.length - k.1) ⟨0, Nat.zero_le _⟩ ?_ fun ⟨k, hk⟩ => ?_
        · (refine Le.ok some [] ?_; constructor; all_goals (try simp only [vle, vkt, seval, tbJ7_58, xbJ7_4]))
          all_goals first | rfl | exact ⟨rfl, rfl⟩ | exact ⟨rfl, rfl, rfl⟩ | (simp; done)
        by_cases hlt : k < es.length
        · have d1 : decide ((k : Int) < (es.length : Int)) = true := decide_eq_true (by omega)
          have e9 := wrap64 (n := (k : Int) + 1) (by omega) (by omega)
          have hkE : k < l.entries.length := by omega
          have ho := val_has hV k (by omega)
          have hen := enOk_of ho (by omega) (val_entry hV hkE)
          have hS := stK_succ hkE
          have hx' := hge k (by omega)
          obtain ⟨x, hx⟩ : ∃ x, l.entries.getD k default = x := ⟨_, rfl⟩
          rw [hx] at hen hS hx'
          obtain ⟨has, hh⟩ : ∃ x, (stK l k).2 = x := ⟨_, rfl⟩
          rw [hh] at hen hS
          have hen' : EnOk has ⟨x.day, x.kind, x.coin, x.to, x.amount, x.got⟩ := hen
          have hS1 : enterF has ⟨x.day, x.kind, x.coin, x.to, x.amount, x.got⟩ = (stK l (k + 1)).2 := by rw [hS]
          repeat' (first | refine zq0 ?_ | refine zq1 ?_ | refine zq2 ?_ | refine zq3 ?_ | refine zq4 ?_ | refine zq5 ?_ | refine thenK_n ?_ | refine thenK_x ?_ | refine thenK_r ?_ | refine blockK_n ?_ | refine blockK_r ?_ | refine blockK_hit ?_ | refine blockK_miss (by decide) ?_ | ((first | refine sym_reg env fun Q hQ => ?_ | refine sym_cz fun Q hQ => ?_); simp only [vkt, seval, tbJ7_58, xbJ7_4, d1, e9, hx', hh]; (try simp only [ite_and]); (repeat' (first | with_reducible assumption | refine And.intro ?_ ?_ | intro hp)); all_goals (first | (refine hQ _ ?_; clear hQ Q) | (refine hQ _ (fun h => ?_) (fun h => ?_) <;> clear hQ Q <;> (try simp only [vki, reduceCtorEq] at h)) | omega | assumption | (with_reducible rfl) | (refine drawB_of ?_; kernel_rfl) | skip)))
          refine ⟨⟨k + 1, hlt⟩, by show es.length - (k + 1) < es.length - k; omega, ?_⟩
          (refine Le.ok some [] ?_; constructor; all_goals (try simp only [vle, vkt, seval, tbJ7_58, xbJ7_4]))
          all_goals first | rfl | exact ⟨rfl, by rw [hS1]⟩ | exact ⟨rfl, by rw [hS1], trivial⟩ | (simp [hS1]; done)
        · have d1 : decide ((k : Int) < (es.length : Int)) = false := decide_eq_false (by omega)
          have hkn : k = m := by omega
          subst hkn
          repeat' (first | refine zq0 ?_ | refine zq1 ?_ | refine zq2 ?_ | refine zq3 ?_ | refine zq4 ?_ | refine zq5 ?_ | refine thenK_n ?_ | refine thenK_x ?_ | refine thenK_r ?_ | refine blockK_n ?_ | refine blockK_r ?_ | refine blockK_hit ?_ | refine blockK_miss (by decide) ?_ | ((first | refine sym_reg env fun Q hQ => ?_ | refine sym_cz fun Q hQ => ?_); simp only [vkt, seval, tbJ7_58, xbJ7_4, d1]; (try simp only [ite_and]); (repeat' (first | with_reducible assumption | refine And.intro ?_ ?_ | intro hp)); all_goals (first | (refine hQ _ ?_; clear hQ Q) | (refine hQ _ (fun h => ?_) (fun h => ?_) <;> clear hQ Q <;> (try simp only [vki, reduceCtorEq] at h)) | omega | assumption | (with_reducible rfl) | (refine drawB_of ?_; kernel_rfl) | skip)))
          (simp only [vrt, Try.results58, vkt, seval, tbJ7_58, xbJ7_4]; refine Fin.val rfl ?_; (try simp only [AV.le, AV.leL]))
          all_goals first | rfl | exact ⟨⟨_, _, rfl⟩, trivial⟩ | exact ⟨⟨_, _, rfl⟩, rfl, trivial⟩ | exact ⟨⟨_, _, rfl⟩, trivial, trivial⟩ | (simp; done)
  · rw [show aTill l n = _ from if_pos h0]
    repeat' (first | refine zq0 ?_ | refine zq1 ?_ | refine zq2 ?_ | refine zq3 ?_ | refine zq4 ?_ | refine zq5 ?_ | refine thenK_n ?_ | refine thenK_x ?_ | refine thenK_r ?_ | refine blockK_n ?_ | refine blockK_r ?_ | refine blockK_hit ?_ | refine blockK_miss (by decide) ?_ | ((first | refine sym_reg env fun Q hQ => ?_ | refine sym_cz fun Q hQ => ?_); simp only [vkt, seval, tbJ7_58, xbJ7_4, h0]; (try simp only [ite_and]); (repeat' (first | with_reducible assumption | refine And.intro ?_ ?_ | intro hp)); all_goals (first | (refine hQ _ ?_; clear hQ Q) | (refine hQ _ (fun h => ?_) (fun h => ?_) <;> clear hQ Q <;> (try simp only [vki, reduceCtorEq] at h)) | omega | assumption | (with_reducible rfl) | (refine drawB_of ?_; kernel_rfl) | skip)))
    (simp only [vrt, Try.results58, vkt, seval, tbJ7_58, xbJ7_4]; refine Fin.val rfl ?_; (try simp only [AV.le, AV.leL]))
    all_goals first | rfl | (simp; done)
theorem d58 {A : Frm → Prop} : EntryOK A Try.prog 58 (valE false c59) := valE_ok fun vs hv h => by
  clear hv
  unfold c59 at h ⊢
  split at h
  · refine ⟨aTill_plain _ _, fun h => absurd h (by decide), ?_⟩
    rw [← aLed_of h.1]; exact pTill_fn _ _ h.2
  · exact h.elim
end Go.Sym.B
namespace Go.Sym.B
open Go Go.Sym Go.Proofs Go.Sym.C
def whT (l : Led) (d : Int) (has : List Int) (k : Nat) : St := { t := asg [(1, aI d), (2, aInts has), (3, .ptr 0 0), (6, .ptr 1 0), (7, .ptr 2 0), (8, aI k)], h := hasg [(0, .cells (cLed l)), (1, .cells [.v (.int .i64 0), .v (.int .i64 0)]), (2, .cells [.v (.int .i64 (worthQ l d has k).num), .v (.int .i64 ((worthQ l d has k).den : Int))])], n := 3 }
def tbJ8_119 := And.intro @ty3 (And.intro @ty22 (And.intro @ty38 (And.intro @ty59 (And.intro @ti3.eq_1 (And.intro @ti22.eq_1 (And.intro @ti38.eq_1 @ti59.eq_1))))))
def xbJ8_1 := And.intro @aI.eq_1 (And.intro @aB.eq_1 (And.intro @aLed.eq_1 (And.intro @cLed.eq_1 (And.intro @aInts.eq_1 (And.intro @aSh.eq_1 (And.intro @shQ.eq_1 (And.intro @eInt.eq_1 (And.intro @gInt (And.intro @whT.eq_1 (And.intro @s139.eq_1 (And.intro @s139.eq_2 (And.intro @s138.eq_1 (And.intro @s138.eq_2 (And.intro @c105.eq_1 (And.intro @c105.eq_2 (And.intro @isL_e (And.intro @ldOf_e (And.intro @isQ_q (@qI_q)))))))))))))))))))
theorem rwhole_fn (l : Led) (d : Int) (has : List Int) (hW : WOk l d has) : FnV Try.prog 119 [aLed l, aI d, aInts has] (aSh (shQ (worthQ l d has has.length))) := by
  have env : Env (fun _ => True) Try.prog tyB (tab [(55, valE true s139), (42, valE true s138), (105, valE true c105)]) := mkEnv ⟨e55, e42, d105, trivial⟩
  refine Fn.of (A := fun _ => True) (n0 := 0) (D := noD) (Fn0 Try.func119 rfl (fun vs w => by kernel_rfl) (by kernel_rfl)) (by simp) (by simp [AV.ids, AV.idsL, aLed, cLed, aI, aInts]) (fun i o h => by cases h) (fun _ _ _ _ => trivial) noD_ok ?_
  have hl := hW.len
  have ok1 : OfOk 0 1 := ⟨by omega, by omega, by omega, by omega⟩
  have w01 : mkRat 0 (1 : Int).toNat = 0 := by decide +kernel
  have w0 : worthQ l d has 0 = 0 := rfl
  repeat' (first | refine zq0 ?_ | refine zq1 ?_ | refine zq2 ?_ | refine zq3 ?_ | refine zq4 ?_ | refine zq5 ?_ | refine thenK_n ?_ | refine thenK_x ?_ | refine thenK_r ?_ | refine blockK_n ?_ | refine blockK_r ?_ | refine blockK_hit ?_ | refine blockK_miss (by decide) ?_ | ((first | refine sym_reg env fun Q hQ => ?_ | refine sym_cz fun Q hQ => ?_); simp only [vkt, seval, tbJ8_119, xbJ8_1, w01]; (try simp only [ite_and]); (repeat' (first | with_reducible assumption | refine And.intro ?_ ?_ | intro hp)); all_goals (first | (refine hQ _ ?_; clear hQ Q) | (refine hQ _ (fun h => ?_) (fun h => ?_) <;> clear hQ Q <;> (try simp only [vki, reduceCtorEq] at h)) | omega | assumption | (with_reducible rfl) | (refine drawB_of ?_; kernel_rfl) | skip)))
  refine sym_loop (fun k : { k : Nat // k ≤ has.length } => whT l d has k.1) (fun k => has.length - k.1) ⟨0, Nat.zero_le _⟩ ?_ fun ⟨k, hk⟩ => ?_
  · (refine Le.ok some [] ?_; constructor; all_goals (try simp only [vle, vkt, seval, tbJ8_119, xbJ8_1]))
    all_goals first | rfl | (simp [w0]; done)
  have h1 := ((hW.part k hk).mono (C := 4 * (20 * 10000)) (Nat.mul_le_mul_right _ (by omega))).sm (by decide)
  by_cases hlt : k < has.length
  · have d1 : decide ((k : Int) < (has.length : Int)) = true := decide_eq_true (by omega)
    have e9 := wrap64 (n := (k : Int) + 1) (by omega) (by omega)
    have h2 := hW.rt k hlt
    have h3 := hW.b _ (gMem (d := 0) hlt)
    have h4 : -300000 ≤ has.getD k 0 ∧ has.getD k 0 ≤ 300000 := by omega
    have h5 := ((rt_bd h2).muli (C := 10000) (n := has.getD k 0) (by omega) (by omega)).sm (by decide)
    have hS := worthQ_succ l d has k
    repeat' (first | refine zq0 ?_ | refine zq1 ?_ | refine zq2 ?_ | refine zq3 ?_ | refine zq4 ?_ | refine zq5 ?_ | refine thenK_n ?_ | refine thenK_x ?_ | refine thenK_r ?_ | refine blockK_n ?_ | refine blockK_r ?_ | refine blockK_hit ?_ | refine blockK_miss (by decide) ?_ | ((first | refine sym_reg env fun Q hQ => ?_ | refine sym_cz fun Q hQ => ?_); simp only [vkt, seval, tbJ8_119, xbJ8_1, d1, e9]; (try simp only [ite_and]); (repeat' (first | with_reducible assumption | refine And.intro ?_ ?_ | intro hp)); all_goals (first | (refine hQ _ ?_; clear hQ Q) | (refine hQ _ (fun h => ?_) (fun h => ?_) <;> clear hQ Q <;> (try simp only [vki, reduceCtorEq] at h)) | omega | assumption | (with_reducible rfl) | (refine drawB_of ?_; kernel_rfl) | skip)))
    refine ⟨⟨k + 1, hlt⟩, by show has.length - (k + 1) < has.length - k; omega, ?_⟩
    (refine Le.ok some [] ?_; constructor; all_goals (try simp only [vle, vkt, seval, tbJ8_119, xbJ8_1]))
    all_goals first | rfl | (simp [hS]; done)
  · have d1 : decide ((k : Int) < (has.length : Int)) = false := decide_eq_false (by omega)
    have hk : k = has.length := by omega
    subst hk
    repeat' (first | refine zq0 ?_ | refine zq1 ?_ | refine zq2 ?_ | refine zq3 ?_ | refine zq4 ?_ | refine zq5 ?_ | refine thenK_n ?_ | refine thenK_x ?_ | refine thenK_r ?_ | refine blockK_n ?_ | refine blockK_r ?_ | refine blockK_hit ?_ | refine blockK_miss (by decide) ?_ | ((first | refine sym_reg env fun Q hQ => ?_ | refine sym_cz fun Q hQ => ?_); simp only [vkt, seval, tbJ8_119, xbJ8_1, d1]; (try simp only [ite_and]); (repeat' (first | with_reducible assumption | refine And.intro ?_ ?_ | intro hp)); all_goals (first | (refine hQ _ ?_; clear hQ Q) | (refine hQ _ (fun h => ?_) (fun h => ?_) <;> clear hQ Q <;> (try simp only [vki, reduceCtorEq] at h)) | omega | assumption | (with_reducible rfl) | (refine drawB_of ?_; kernel_rfl) | skip)))
    (simp only [vrt, Try.results119, vkt, seval, tbJ8_119, xbJ8_1]; refine Fin.val rfl ?_; (try simp only [AV.le, AV.leL]))
    all_goals first | rfl | (simp; done)
def c119 : List AV → Prop × AV
  | [.agg [.sl cs, .sl rs, .sl ss, .sl es], .v (.int .i64 d), .sl hs] => (isL cs rs ss es ∧ hs = (hs.map dInt).map eInt ∧ WOk (ldOf cs rs ss es) d (hs.map dInt), aSh (shQ (worthQ (ldOf cs rs ss es) d (hs.map dInt) (hs.map dInt).length)))
  | _ => (False, .junk)
theorem d119 {A : Frm → Prop} : EntryOK A Try.prog 119 (valE true c119) := valE_ok fun vs hv h => by
  clear hv
  unfold c119 at h ⊢
  split at h
  · refine ⟨by simp [AV.plain, AV.plainL, aSh], fun _ => by simp [AV.flat, AV.flatL, aSh], ?_⟩
    have := rwhole_fn _ _ _ h.2.2
    simp only [aInts, ← h.2.1] at this
    rw [aLed_of h.1] at this
    exact this
  · exact h.elim
theorem kLk_bd {l : Led} (h : Val l) (κ : Int) {k : Nat} (hk : k ≤ l.entries.length) : Bd 6000000 (qsum (kL l κ k)) := by
  have := qsum_bd (kL l κ k) (B := 1000000) (kL_ok h κ hk).bd
  refine this.mono ?_
  have := kL_len l κ k
  have := h.e
  omega
def cAcc5 (t p g lo f : Rat) : List AV := [.v (.int .i64 t.num), .v (.int .i64 (t.den : Int)), .v (.int .i64 p.num), .v (.int .i64 (p.den : Int)), .v (.int .i64 g.num), .v (.int .i64 (g.den : Int)), .v (.int .i64 lo.num), .v (.int .i64 (lo.den : Int)), .v (.int .i64 f.num), .v (.int .i64 (f.den : Int)), .v (.int .i64 0), .v (.int .i64 0)]
def raT (l : Led) (k : Nat) : St := { t := asg [(1, .ptr 0 0), (2, .ptr 1 0), (3, aI 0), (6, .ptr 2 0), (7, aI k)], h := hasg [(0, .cells (cLed l)), (1, .cells z12), (2, .cells (cAcc5 (qsum (kL l 1 k)) (qsum (kL l 2 k)) 0 (qsum (kL l 3 k)) (qsum (kL l 4 k))))], n := 3 }
def raT2 (l : Led) (G : List Rat) (T P Lo F : Rat) (k : Nat) : St := { t := asg [(1, .ptr 0 0), (2, .ptr 1 0), (3, aI 0), (6, .ptr 2 0), (10, .sl (G.map eQ)), (11, aI k)], h := hasg [(0, .cells (cLed l)), (1, .cells z12), (2, .cells (cAcc5 T P (qsum (G.take k)) Lo F))], n := 3 }
def tbJ8_61 := And.intro @ty3 (And.intro @ty22 (And.intro @ty30 (And.intro @ty35 (And.intro @ty36 (And.intro @ty38 (And.intro @ty48 (And.intro @ty55 (And.intro @ty59 (And.intro @ty61 (And.intro @ti3.eq_1 (And.intro @ti22.eq_1 (And.intro @ti30.eq_1 (And.intro @ti35.eq_1 (And.intro @ti36.eq_1 (And.intro @ti38.eq_1 (And.intro @ti48.eq_1 (And.intro @ti55.eq_1 (And.intro @ti59.eq_1 @ti61.eq_1))))))))))))))))))
def xbJ8_2 := And.intro @aI.eq_1 (And.intro @aB.eq_1 (And.intro @aLed.eq_1 (And.intro @cLed.eq_1 (And.intro @aInts.eq_1 (And.intro @aSh.eq_1 (And.intro @shQ.eq_1 (And.intro @aEnt.eq_1 (And.intro @eEnt.eq_1 (And.intro @gEnt (And.intro @eInt.eq_1 (And.intro @gInt (And.intro @cAcc5.eq_1 (And.intro @z12.eq_1 (And.intro @raT.eq_1 (And.intro @raT2.eq_1 (And.intro @c50.eq_1 (And.intro @c50.eq_2 (And.intro @s139.eq_1 (And.intro @s139.eq_2 (And.intro @s138.eq_1 (And.intro @s138.eq_2 (And.intro @s100.eq_1 (And.intro @s100.eq_2 (And.intro @c105.eq_1 (And.intro @c105.eq_2 (And.intro @c117.eq_1 (And.intro @c117.eq_2 (And.intro @c118.eq_1 (And.intro @c118.eq_2 (And.intro @c119.eq_1 (And.intro @c119.eq_2 (And.intro @isL_e (And.intro @ldOf_e (And.intro @isQ_q (And.intro @qI_q (@mInt))))))))))))))))))))))))))))))))))))
set_option maxHeartbeats 8000000 in
theorem rbal_fn (l : Led) (hl : Fit l) : FnV Try.prog 61 [aLed l] (aBal l) := by
  have env : Env (fun _ => True) Try.prog tyB (tab [(51, valE true c50), (55, valE true s139), (42, valE true s138), (53, valE true s100), (105, valE true c105), (117, valE false c117), (118, valE false c118), (119, valE true c119)]) := mkEnv ⟨d51, e55, e42, e53, d105, d117, d118, d119, trivial⟩
  refine Fn.of (A := fun _ => True) (n0 := 0) (D := noD) (Fn0 Try.func61 rfl (fun vs w => by kernel_rfl) (by kernel_rfl)) (by simp) (by simp [AV.ids, AV.idsL, aLed, cLed, aI]) (fun i o h => by cases h) (fun _ _ _ _ => trivial) noD_ok ?_
  by_cases c0 : checkE l = 0
  · rw [show aBal l = _ from if_neg (by rw [c0]; simp)]
    have hV := val_of c0
    have q1 := hV.c
    have q2 := hV.r
    have q3 := hV.sl
    have q4 := hV.e
    have ok1 : OfOk 0 1 := ⟨by omega, by omega, by omega, by omega⟩
    have w01 : mkRat 0 (1 : Int).toNat = 0 := by decide +kernel
    have k0 : ∀ κ, kL l κ 0 = [] := fun κ => rfl
    repeat' (first | refine zq0 ?_ | refine zq1 ?_ | refine zq2 ?_ | refine zq3 ?_ | refine zq4 ?_ | refine zq5 ?_ | refine thenK_n ?_ | refine thenK_x ?_ | refine thenK_r ?_ | refine blockK_n ?_ | refine blockK_r ?_ | refine blockK_hit ?_ | refine blockK_miss (by decide) ?_ | ((first | refine sym_reg env fun Q hQ => ?_ | refine sym_cz fun Q hQ => ?_); simp only [vkt, seval, tbJ8_61, xbJ8_2, c0, w01]; (try simp only [ite_and]); (repeat' (first | with_reducible assumption | refine And.intro ?_ ?_)); all_goals (first | (refine hQ _ ?_; clear hQ Q) | (refine hQ _ (fun h => ?_) (fun h => ?_) <;> clear hQ Q <;> (try simp only [vki, reduceCtorEq] at h)) | omega | (with_reducible assumption) | (with_reducible rfl) | (refine drawB_of ?_; kernel_rfl) | skip)))
    refine sym_loop (fun k : { k : Nat // k ≤ l.entries.length } => raT l k.1) (fun k => l.entries.length - k.1) ⟨0, Nat.zero_le _⟩ ?_ fun ⟨k, hk⟩ => ?_
    · (refine Le.ok (fun j => if j = 2 then some 3 else some j) [] ?_; constructor; all_goals (try simp only [vle, vkt, seval, tbJ8_61, xbJ8_2]))
      all_goals first | rfl | (simp [k0, qsum]; done)
    by_cases hlt : k < l.entries.length
    · have d1 : decide ((k : Int) < (l.entries.length : Int)) = true := decide_eq_true (by omega)
      have e9 := wrap64 (n := (k : Int) + 1) (by omega) (by omega)
      have hentry := val_entry hV hlt
      have ho := (val_has hV k (by omega)).len
      have hb := val_hb hV k (by omega)
      have hvb := (vE_bd hV hlt).sm (by decide)
      have hkk : ∀ κ, kL l κ (k + 1) = _ := fun κ => kL_succ l κ k
      have b1 := (kLk_bd hV 1 hk).sm (by decide)
      have b2 := (kLk_bd hV 2 hk).sm (by decide)
      have b3 := (kLk_bd hV 3 hk).sm (by decide)
      have b4 := (kLk_bd hV 4 hk).sm (by decide)
      have fin : ∀ κ, ¬ (l.entries.getD k default).kind = κ → qsum (kL l κ (k + 1)) = qsum (kL l κ k) := fun κ h => by rw [hkk, if_neg h]
      have fin1 : ∀ κ, (l.entries.getD k default).kind = κ → qsum (kL l κ (k + 1)) = qsum (kL l κ k) + vE l k := fun κ h => by rw [hkk, if_pos h, qsum_snoc]
      obtain ⟨x, hx⟩ : ∃ x, l.entries.getD k default = x := ⟨_, rfl⟩
      have hve := vE_eq hx
      rw [hx] at hentry fin fin1
      have R1 := val_rt hV hentry.day.1 hentry.day.2 hentry.coin.1 hentry.coin.2
      have am := hentry.am
      have am1 : -300000 ≤ x.amount ∧ x.amount ≤ 300000 := by omega
      have s1 := ((rt_bd R1).muli (C := 1000) (n := x.amount) (by omega) (by omega)).sm (by decide)
      obtain ⟨w, hW⟩ : ∃ w, rq l x.day x.coin * (x.amount : Rat) = w := ⟨_, rfl⟩
      rw [hW] at s1 hve
      rcases (by have := hentry.kind; omega : x.kind = 1 ∨ x.kind = 2 ∨ x.kind = 3 ∨ x.kind = 4) with k1 | k2 | k3 | k4
      · have n1 := fin1 1 (by omega)
        have n2 := fin 2 (by omega)
        have n3 := fin 3 (by omega)
        have n4 := fin 4 (by omega)
        rw [if_neg (by omega), if_neg (by omega)] at hve
        rw [hve] at n1 hvb
        obtain ⟨T, hT⟩ : ∃ T, qsum (kL l 1 k) = T := ⟨_, rfl⟩
        rw [hT] at n1 b1
        repeat' (first | refine zq0 ?_ | refine zq1 ?_ | refine zq2 ?_ | refine zq3 ?_ | refine zq4 ?_ | refine zq5 ?_ | refine thenK_n ?_ | refine thenK_x ?_ | refine thenK_r ?_ | refine blockK_n ?_ | refine blockK_r ?_ | refine blockK_hit ?_ | refine blockK_miss (by decide) ?_ | ((first | refine sym_reg env fun Q hQ => ?_ | refine sym_cz fun Q hQ => ?_); simp only [vkt, seval, tbJ8_61, xbJ8_2, d1, e9, hx, k1, hW, hT]; (try simp only [ite_and]); (repeat' (first | with_reducible assumption | refine And.intro ?_ ?_)); all_goals (first | (refine hQ _ ?_; clear hQ Q) | (refine hQ _ (fun h => ?_) (fun h => ?_) <;> clear hQ Q <;> (try simp only [vki, reduceCtorEq] at h)) | omega | (with_reducible assumption) | (with_reducible rfl) | (refine drawB_of ?_; kernel_rfl) | skip)))
        refine ⟨⟨k + 1, hlt⟩, by show l.entries.length - (k + 1) < l.entries.length - k; omega, ?_⟩
        (refine Le.ok some [] ?_; constructor; all_goals (try simp only [vle, vkt, seval, tbJ8_61, xbJ8_2]))
        all_goals first | rfl | (simp [n1, n2, n3, n4]; done)
      · have n1 := fin 1 (by omega)
        have n2 := fin1 2 (by omega)
        have n3 := fin 3 (by omega)
        have n4 := fin 4 (by omega)
        rw [if_neg (by omega), if_neg (by omega)] at hve
        rw [hve] at n2 hvb
        obtain ⟨T, hT⟩ : ∃ T, qsum (kL l 2 k) = T := ⟨_, rfl⟩
        rw [hT] at n2 b2
        repeat' (first | refine zq0 ?_ | refine zq1 ?_ | refine zq2 ?_ | refine zq3 ?_ | refine zq4 ?_ | refine zq5 ?_ | refine thenK_n ?_ | refine thenK_x ?_ | refine thenK_r ?_ | refine blockK_n ?_ | refine blockK_r ?_ | refine blockK_hit ?_ | refine blockK_miss (by decide) ?_ | ((first | refine sym_reg env fun Q hQ => ?_ | refine sym_cz fun Q hQ => ?_); simp only [vkt, seval, tbJ8_61, xbJ8_2, d1, e9, hx, k2, hW, hT]; (try simp only [ite_and]); (repeat' (first | with_reducible assumption | refine And.intro ?_ ?_)); all_goals (first | (refine hQ _ ?_; clear hQ Q) | (refine hQ _ (fun h => ?_) (fun h => ?_) <;> clear hQ Q <;> (try simp only [vki, reduceCtorEq] at h)) | omega | (with_reducible assumption) | (with_reducible rfl) | (refine drawB_of ?_; kernel_rfl) | skip)))
        refine ⟨⟨k + 1, hlt⟩, by show l.entries.length - (k + 1) < l.entries.length - k; omega, ?_⟩
        (refine Le.ok some [] ?_; constructor; all_goals (try simp only [vle, vkt, seval, tbJ8_61, xbJ8_2]))
        all_goals first | rfl | (simp [n1, n2, n3, n4]; done)
      · have n1 := fin 1 (by omega)
        have n2 := fin 2 (by omega)
        have n3 := fin1 3 (by omega)
        have n4 := fin 4 (by omega)
        rw [if_pos (by omega)] at hve
        rw [hve] at n3 hvb
        have hto := hentry.to k3
        have hgo := hentry.got k3
        have R2 := val_rt hV hentry.day.1 hentry.day.2 hto.1 hto.2
        have am2 : -300000 ≤ x.got ∧ x.got ≤ 300000 := by omega
        have s2 := ((rt_bd R2).muli (C := 1000) (n := x.got) (by omega) (by omega)).sm (by decide)
        obtain ⟨v, hv⟩ : ∃ w, rq l x.day x.to * (x.got : Rat) = w := ⟨_, rfl⟩
        rw [hv] at s2 hvb n3
        obtain ⟨T, hT⟩ : ∃ T, qsum (kL l 3 k) = T := ⟨_, rfl⟩
        rw [hT] at n3 b3
        repeat' (first | refine zq0 ?_ | refine zq1 ?_ | refine zq2 ?_ | refine zq3 ?_ | refine zq4 ?_ | refine zq5 ?_ | refine thenK_n ?_ | refine thenK_x ?_ | refine thenK_r ?_ | refine blockK_n ?_ | refine blockK_r ?_ | refine blockK_hit ?_ | refine blockK_miss (by decide) ?_ | ((first | refine sym_reg env fun Q hQ => ?_ | refine sym_cz fun Q hQ => ?_); simp only [vkt, seval, tbJ8_61, xbJ8_2, d1, e9, hx, k3, hW, hT, hv]; (try simp only [ite_and]); (repeat' (first | with_reducible assumption | refine And.intro ?_ ?_)); all_goals (first | (refine hQ _ ?_; clear hQ Q) | (refine hQ _ (fun h => ?_) (fun h => ?_) <;> clear hQ Q <;> (try simp only [vki, reduceCtorEq] at h)) | omega | (with_reducible assumption) | (with_reducible rfl) | (refine drawB_of ?_; kernel_rfl) | skip)))
        refine ⟨⟨k + 1, hlt⟩, by show l.entries.length - (k + 1) < l.entries.length - k; omega, ?_⟩
        (refine Le.ok some [] ?_; constructor; all_goals (try simp only [vle, vkt, seval, tbJ8_61, xbJ8_2]))
        all_goals first | rfl | (simp [n1, n2, n3, n4]; done)
      · have n1 := fin 1 (by omega)
        have n2 := fin 2 (by omega)
        have n3 := fin 3 (by omega)
        have n4 := fin1 4 (by omega)
        rw [if_neg (by omega), if_pos (by omega)] at hve
        rw [hve] at n4 hvb
        have hbc := hb x.coin.toNat
        have cc := hentry.coin
        have hcl : x.coin.toNat < (stK l k).2.length := by omega
        obtain ⟨hc, hhc⟩ : ∃ w, (stK l k).2.getD x.coin.toNat 0 = w := ⟨_, rfl⟩
        rw [hhc] at hbc hvb n4
        have am2 : -300000 ≤ hc ∧ hc ≤ 300000 := by omega
        have s2 := ((rt_bd R1).muli (C := 7000) (n := hc) (by omega) (by omega)).sm (by decide)
        obtain ⟨v, hv⟩ : ∃ w, rq l x.day x.coin * (hc : Rat) = w := ⟨_, rfl⟩
        rw [hv] at s2 hvb n4
        obtain ⟨T, hT⟩ : ∃ T, qsum (kL l 4 k) = T := ⟨_, rfl⟩
        rw [hT] at n4 b4
        have kb : (0 : Int) ≤ (k : Int) ∧ (k : Int) ≤ ((l.entries.map eEnt).length : Int) := by rw [List.length_map]; omega
        repeat' (first | refine zq0 ?_ | refine zq1 ?_ | refine zq2 ?_ | refine zq3 ?_ | refine zq4 ?_ | refine zq5 ?_ | refine thenK_n ?_ | refine thenK_x ?_ | refine thenK_r ?_ | refine blockK_n ?_ | refine blockK_r ?_ | refine blockK_hit ?_ | refine blockK_miss (by decide) ?_ | ((first | refine sym_reg env fun Q hQ => ?_ | refine sym_cz fun Q hQ => ?_); simp only [vkt, seval, tbJ8_61, xbJ8_2, d1, e9, hx, k4, hW, hT, hhc, hv]; (try simp only [ite_and]); (repeat' (first | with_reducible assumption | refine And.intro ?_ ?_)); all_goals (first | (refine hQ _ ?_; clear hQ Q) | (refine hQ _ (fun h => ?_) (fun h => ?_) <;> clear hQ Q <;> (try simp only [vki, reduceCtorEq] at h)) | omega | (with_reducible assumption) | (with_reducible rfl) | (refine drawB_of ?_; kernel_rfl) | skip)))
        refine ⟨⟨k + 1, hlt⟩, by show l.entries.length - (k + 1) < l.entries.length - k; omega, ?_⟩
        (refine Le.ok some [] ?_; constructor; all_goals (try simp only [vle, vkt, seval, tbJ8_61, xbJ8_2]))
        all_goals first | rfl | (simp [n1, n2, n3, n4]; done)
    · have d1 : decide ((k : Int) < (l.entries.length : Int)) = false := decide_eq_false (by omega)
      have hk : k = l.entries.length := by omega
      subst hk
      obtain ⟨T, hT⟩ : ∃ T, qsum (kL l 1 l.entries.length) = T := ⟨_, rfl⟩
      obtain ⟨P, hP⟩ : ∃ T, qsum (kL l 2 l.entries.length) = T := ⟨_, rfl⟩
      obtain ⟨Lo, hLo⟩ : ∃ T, qsum (kL l 3 l.entries.length) = T := ⟨_, rfl⟩
      obtain ⟨F, hF⟩ : ∃ T, qsum (kL l 4 l.entries.length) = T := ⟨_, rfl⟩
      have hacc : accOf l = ⟨T, P, qsum (gainsL l), Lo, F, worthQ l ((l.rates.length : Int) - 1) (stK l l.entries.length).2 l.coins.length⟩ := by rw [← hT, ← hP, ← hLo, ← hF]; rfl
      rw [hacc]
      have hGb := gain_bd hV
      have hGk := gainK_bd hV
      have hGl := gains_len l
      obtain ⟨G, hG⟩ : ∃ G, gainsL l = G := ⟨_, rfl⟩
      rw [hG] at hGb hGk hGl ⊢
      repeat' (first | refine zq0 ?_ | refine zq1 ?_ | refine zq2 ?_ | refine zq3 ?_ | refine zq4 ?_ | refine zq5 ?_ | refine thenK_n ?_ | refine thenK_x ?_ | refine thenK_r ?_ | refine blockK_n ?_ | refine blockK_r ?_ | refine blockK_hit ?_ | refine blockK_miss (by decide) ?_ | ((first | refine sym_reg env fun Q hQ => ?_ | refine sym_cz fun Q hQ => ?_); simp only [vkt, seval, tbJ8_61, xbJ8_2, d1, hG]; (try simp only [ite_and]); (repeat' (first | with_reducible assumption | refine And.intro ?_ ?_)); all_goals (first | (refine hQ _ ?_; clear hQ Q) | (refine hQ _ (fun h => ?_) (fun h => ?_) <;> clear hQ Q <;> (try simp only [vki, reduceCtorEq] at h)) | omega | (with_reducible assumption) | (with_reducible rfl) | (refine drawB_of ?_; kernel_rfl) | skip)))
      refine sym_loop (fun k : { k : Nat // k ≤ G.length } => raT2 l G T P Lo F k.1) (fun k => G.length - k.1) ⟨0, Nat.zero_le _⟩ ?_ fun ⟨k, hk⟩ => ?_
      · (refine Le.ok some [] ?_; constructor; all_goals (try simp only [vle, vkt, seval, tbJ8_61, xbJ8_2]))
        all_goals first | rfl | (simp [show qsum [] = 0 from rfl, hT, hP, hLo, hF]; done)
      clear hT hP hLo hF hacc
      by_cases hlt : k < G.length
      · have d2 : decide ((k : Int) < (G.length : Int)) = true := decide_eq_true (by omega)
        have e9 := wrap64 (n := (k : Int) + 1) (by omega) (by omega)
        have g1 : (G.map eQ).getD k [.v (.int .i64 0), .v (.int .i64 0)] = [.v (.int .i64 (G.getD k 0).num), .v (.int .i64 ((G.getD k 0).den : Int))] := by rw [gQ hlt]; rfl
        have hS : qsum (G.take (k + 1)) = qsum (G.take k) + G.getD k 0 := by
          rw [List.take_succ_eq_append_getElem hlt, qsum_snoc]; simp [List.getD_eq_getElem?_getD, hlt]
        have b1 := (hGb _ (gMem (d := (0 : Rat)) hlt)).sm (by decide)
        have b2 := (hGk k).sm (by decide)
        obtain ⟨w, hW⟩ : ∃ w, G.getD k 0 = w := ⟨_, rfl⟩
        rw [hW] at g1 hS b1
        obtain ⟨q, hq⟩ : ∃ q, qsum (G.take k) = q := ⟨_, rfl⟩
        rw [hq] at b2 hS
        repeat' (first | refine zq0 ?_ | refine zq1 ?_ | refine zq2 ?_ | refine zq3 ?_ | refine zq4 ?_ | refine zq5 ?_ | refine thenK_n ?_ | refine thenK_x ?_ | refine thenK_r ?_ | refine blockK_n ?_ | refine blockK_r ?_ | refine blockK_hit ?_ | refine blockK_miss (by decide) ?_ | ((first | refine sym_reg env fun Q hQ => ?_ | refine sym_cz fun Q hQ => ?_); simp only [vkt, seval, tbJ8_61, xbJ8_2, d2, e9, g1, hq]; (try simp only [ite_and]); (repeat' (first | with_reducible assumption | refine And.intro ?_ ?_)); all_goals (first | (refine hQ _ ?_; clear hQ Q) | (refine hQ _ (fun h => ?_) (fun h => ?_) <;> clear hQ Q <;> (try simp only [vki, reduceCtorEq] at h)) | omega | (with_reducible assumption) | (with_reducible rfl) | (refine drawB_of ?_; kernel_rfl) | skip)))
        refine ⟨⟨k + 1, hlt⟩, by show G.length - (k + 1) < G.length - k; omega, ?_⟩
        (refine Le.ok some [] ?_; constructor; all_goals (try simp only [vle, vkt, seval, tbJ8_61, xbJ8_2]))
        all_goals first | rfl | (simp [hS]; done)
      · have d2 : decide ((k : Int) < (G.length : Int)) = false := decide_eq_false (by omega)
        have hk : k = G.length := by omega
        subst hk
        have wR : IntKind.wrap .i64 ((l.rates.length : Int) - 1) = (l.rates.length : Int) - 1 := wrap64 (by omega) (by omega)
        have hWo := w_ok hV (d := (l.rates.length : Int) - 1) (by omega) (Int.le_refl _) (Nat.le_refl l.entries.length)
        have ho := (val_has hV l.entries.length (Nat.le_refl _)).len
        have kb : (0 : Int) ≤ (l.entries.length : Int) ∧ (l.entries.length : Int) ≤ ((l.entries.map eEnt).length : Int) := by rw [List.length_map]; omega
        obtain ⟨q, hq⟩ : ∃ q, qsum (G.take G.length) = q := ⟨_, rfl⟩
        have hq2 : qsum G = q := by rw [← hq, List.take_length]
        rw [hq2]
        repeat' (first | refine zq0 ?_ | refine zq1 ?_ | refine zq2 ?_ | refine zq3 ?_ | refine zq4 ?_ | refine zq5 ?_ | refine thenK_n ?_ | refine thenK_x ?_ | refine thenK_r ?_ | refine blockK_n ?_ | refine blockK_r ?_ | refine blockK_hit ?_ | refine blockK_miss (by decide) ?_ | ((first | refine sym_reg env fun Q hQ => ?_ | refine sym_cz fun Q hQ => ?_); simp only [vkt, seval, tbJ8_61, xbJ8_2, d2, wR, hq, ho]; (try simp only [ite_and]); (repeat' (first | with_reducible assumption | refine And.intro ?_ ?_)); all_goals (first | (refine hQ _ ?_; clear hQ Q) | (refine hQ _ (fun h => ?_) (fun h => ?_) <;> clear hQ Q <;> (try simp only [vki, reduceCtorEq] at h)) | omega | (with_reducible assumption) | (with_reducible rfl) | (refine drawB_of ?_; kernel_rfl) | skip)))
        (simp only [vrt, Try.results61, vkt, seval, tbJ8_61, xbJ8_2]; refine Fin.val rfl ?_; (try simp only [AV.le, AV.leL]))
        all_goals first | rfl | (simp; done) | (simp [cAcc]; done) | (simp [cAcc, AV.leL, AV.le, upd, hasg]; done)
  · rw [show aBal l = _ from if_pos c0]
    repeat' (first | refine zq0 ?_ | refine zq1 ?_ | refine zq2 ?_ | refine zq3 ?_ | refine zq4 ?_ | refine zq5 ?_ | refine thenK_n ?_ | refine thenK_x ?_ | refine thenK_r ?_ | refine blockK_n ?_ | refine blockK_r ?_ | refine blockK_hit ?_ | refine blockK_miss (by decide) ?_ | ((first | refine sym_reg env fun Q hQ => ?_ | refine sym_cz fun Q hQ => ?_); simp only [vkt, seval, tbJ8_61, xbJ8_2, c0]; (try simp only [ite_and]); (repeat' (first | with_reducible assumption | refine And.intro ?_ ?_ | intro hp)); all_goals (first | (refine hQ _ ?_; clear hQ Q) | (refine hQ _ (fun h => ?_) (fun h => ?_) <;> clear hQ Q <;> (try simp only [vki, reduceCtorEq] at h)) | omega | assumption | (with_reducible rfl) | (refine drawB_of ?_; kernel_rfl) | skip)))
    (simp only [vrt, Try.results61, vkt, seval, tbJ8_61, xbJ8_2]; refine Fin.val rfl ?_; (try simp only [AV.le, AV.leL]))
    all_goals first | rfl | (simp; done)
theorem d61 {A : Frm → Prop} : EntryOK A Try.prog 61 (valE true c39) := valE_ok fun vs hv h => by
  clear hv
  unfold c39 at h ⊢
  split at h
  · refine ⟨by unfold aBal; split <;> simp [AV.plain, AV.plainL, aI, cAcc, z12], fun _ => by unfold aBal; split <;> simp [AV.flat, AV.flatL, aI, cAcc, z12], ?_⟩
    rw [← aLed_of h.1]; exact rbal_fn _ h.2
  · exact h.elim
end Go.Sym.B
namespace Go.Sym.B
open Go Go.Sym Go.Proofs Go.Sym.C
theorem aTill_form {l : Led} (hl : Fit l) (n : Int) : ∃ (t : List Int) (e : Int), aTill l n = .tup [.sl (t.map eInt), .v (.int .i64 e)] ∧ t.length ≤ maxLen := by
  have : (100000 : Nat) ≤ maxLen := by decide
  unfold aTill aInts
  repeat' split
  · exact ⟨[], _, rfl, by simp⟩
  · exact ⟨[], _, rfl, by simp⟩
  · exact ⟨[], _, rfl, by simp⟩
  · rename_i h0 h1 h2
    have hV := val_of (Decidable.not_not.1 h0)
    have := (val_has hV n.toNat (by omega)).len
    have := hV.c
    exact ⟨_, _, rfl, by omega⟩
theorem aGains_form (l : Led) (hl : Fit l) : ∃ (g : List Sh) (e : Int), aGains l = .tup [.sl (g.map eSh), .v (.int .i64 e)] ∧ g.length ≤ 100000 := by
  unfold aGains
  split
  · exact ⟨[], _, rfl, by simp⟩
  · refine ⟨(gainsL l).map shQ, 0, ?_, ?_⟩
    · rw [List.map_map]; rfl
    · have := hl.c; rw [List.length_map, gains_len]; omega
theorem aBal_form (l : Led) : ∃ a1 a2 a3 a4 a5 a6 a7 a8 a9 b1 b2 b3 e : Int, aBal l = .tup [.agg [.v (.int .i64 a1), .v (.int .i64 a2), .v (.int .i64 a3), .v (.int .i64 a4), .v (.int .i64 a5), .v (.int .i64 a6), .v (.int .i64 a7), .v (.int .i64 a8), .v (.int .i64 a9), .v (.int .i64 b1), .v (.int .i64 b2), .v (.int .i64 b3)], .v (.int .i64 e)] := by
  unfold aBal
  split
  · exact ⟨0, 0, 0, 0, 0, 0, 0, 0, 0, 0, 0, 0, _, rfl⟩
  · exact ⟨_, _, _, _, _, _, _, _, _, _, _, _, _, rfl⟩
def acT (Ls : List Led) (ns : List Int) (k : Nat) : St := { t := asg [(8, aB false), (11, .row 0), (12, .row 1), (13, aI k)], h := hasg [(0, .row 38 4 (Ls.map eLed)), (1, .row 3 1 (ns.map eInt))], n := 2 }
def tbJ9_12 := And.intro @ty3 (And.intro @ty22 (And.intro @ty30 (And.intro @ty36 (And.intro @ty38 (And.intro @ty48 (And.intro @ty61 (And.intro @ty70 (And.intro @ti3.eq_1 (And.intro @ti22.eq_1 (And.intro @ti30.eq_1 (And.intro @ti36.eq_1 (And.intro @ti38.eq_1 (And.intro @ti48.eq_1 (And.intro @ti61.eq_1 @ti70.eq_1))))))))))))))
def xbJ9_1 := And.intro @aI.eq_1 (And.intro @aB.eq_1 (And.intro @aLed.eq_1 (And.intro @cLed.eq_1 (And.intro @aEnt.eq_1 (And.intro @acT.eq_1 (And.intro @bgH.eq_1 (And.intro @aInts.eq_1 (And.intro @mInt (And.intro @mSh (And.intro @eInt.eq_1 (And.intro @c19.eq_1 (And.intro @c19.eq_2 (And.intro @p20.eq_1 (And.intro @p20.eq_2 (And.intro @p22.eq_1 (And.intro @p22.eq_2 (And.intro @p27.eq_1 (And.intro @p27.eq_2 (And.intro @c44.eq_1 (And.intro @c44.eq_2 (And.intro @c45.eq_1 (And.intro @c45.eq_2 (And.intro @c43.eq_1 (And.intro @c43.eq_2 (And.intro @c59.eq_1 (And.intro @c59.eq_2 (And.intro @c38.eq_1 (And.intro @c38.eq_2 (And.intro @c39.eq_1 (And.intro @c39.eq_2 (And.intro @s26.eq_1 (And.intro @s26.eq_2 (And.intro @c57.eq_1 (And.intro @c57.eq_2 (And.intro @c52.eq_1 (And.intro @c52.eq_2 (And.intro @isL_e (And.intro @ldOf_e (And.intro @aSh.eq_1 (@eLed.eq_1))))))))))))))))))))))))))))))))))))))))
set_option maxRecDepth 100000 in
set_option maxHeartbeats 8000000 in
theorem accounts_fn (l : Led) (x : Ent) (n : Int) (ns : List Int) (h2 : ns.length ≤ maxLen) : FnV Try.prog 12 [aLed l, aEnt x, aI n, aInts ns] (aB true) := by
  have env : Env (fun _ => True) Try.prog tyB (tab [(19, valE true c19), (20, fnE p20), (22, fnE p22), (26, valE true s26), (27, fnE p27), (38, valE false c38), (39, valE true c39), (43, valE false c43), (44, valE true c44), (45, valE false c45), (52, valE true c52), (57, valE true c57), (58, valE false c59), (59, valE false c59), (60, valE false c38), (61, valE true c39)]) := mkEnv ⟨d19, e20, e22, e26, e27, d38, d39, d43, d44, d45, d52, d57, d58, d59, d60, d61, trivial⟩
  refine Fn.of (A := fun _ => True) (n0 := 0) (D := noD) (Fn0 Try.func12 rfl (fun vs w => by kernel_rfl) (by kernel_rfl)) (by simp) (by simp [AV.ids, AV.idsL, aInts, aI, aLed, cLed, aEnt]) (fun i o h => by cases h) (fun _ _ _ _ => trivial) noD_ok ?_
  cases hlg : largeB l
  · have hfl := fit_of hlg
    have z1 : (1 : Int) ≤ 4 ∧ (4 : Int) ≤ 4 := by decide
    have z2 : (0 : Int) ≤ 6 ∧ (6 : Int) ≤ 6 := by decide
    have hok := lg_ok (x := nbS ns) (w := 3) z1 z1 z2
    obtain ⟨M, hM⟩ : ∃ L, lgL (nbS ns) 4 4 6 3 = L := ⟨_, rfl⟩
    obtain ⟨y, hy⟩ : ∃ y, lgS (nbS ns) 4 4 6 3 = y := ⟨_, rfl⟩
    rw [hM] at hok
    have hfM := hok.fit
    have hfW := add_fit hok x
    have hE := hok.e
    have cE : (M.entries.length : Int) < 9223372036854775807 := by omega
    obtain ⟨D, hD⟩ : ∃ D, upV y (M.entries.length : Int) = D := ⟨_, rfl⟩
    obtain ⟨y1, hy1⟩ : ∃ z, upS y (M.entries.length : Int) = z := ⟨_, rfl⟩
    obtain ⟨F, hF⟩ : ∃ D, upV y1 (M.entries.length : Int) = D := ⟨_, rfl⟩
    obtain ⟨y2, hy2⟩ : ∃ z, upS y1 (M.entries.length : Int) = z := ⟨_, rfl⟩
    obtain ⟨W, hW⟩ : ∃ W, addE1 M x = W := ⟨_, rfl⟩
    have hW' : addE1 M ⟨x.day, x.kind, x.coin, x.to, x.amount, x.got⟩ = W := hW
    rw [hW] at hfW
    repeat' (first | refine zq0 ?_ | refine zq1 ?_ | refine zq2 ?_ | refine zq3 ?_ | refine zq4 ?_ | refine zq5 ?_ | refine thenK_n ?_ | refine thenK_x ?_ | refine thenK_r ?_ | refine blockK_n ?_ | refine blockK_r ?_ | refine blockK_hit ?_ | refine blockK_miss (by decide) ?_ | ((first | refine sym_reg env fun Q hQ => ?_ | refine sym_cz fun Q hQ => ?_); simp only [vkt, Nat.reduceEqDiff, Nat.reduceAdd, Nat.reduceMul, Nat.reduceSub, Nat.reduceLeDiff, reduceCtorEq, ↓reduceIte, ↓reduceDIte, Int.reduceToNat, Int.reduceLE, Int.reduceLT, Int.reduceEq, Int.reduceNeg, tbJ9_12, xbJ9_1, hlg, hM, hy, hD, hy1, hF, hy2, hW']; (try simp only [ite_and]); (repeat' (first | with_reducible assumption | refine And.intro ?_ ?_)); all_goals (first | (refine hQ _ ?_; clear hQ Q) | (refine hQ _ (fun h => ?_) (fun h => ?_) <;> clear hQ Q <;> (try simp only [vki, reduceCtorEq] at h)) | omega | (with_reducible assumption) | (with_reducible rfl) | (refine drawB_of ?_; kernel_rfl) | skip)))
    obtain ⟨Ls, hLs⟩ : ∃ Ls, [l, M, W, M] = Ls := ⟨_, rfl⟩
    obtain ⟨ds, hds⟩ : ∃ Ls, [n, D, F, n] = Ls := ⟨_, rfl⟩
    have hLf : ∀ m ∈ Ls, Fit m := fun m hm => by
      rw [← hLs] at hm
      simp only [List.mem_cons, List.not_mem_nil, or_false] at hm
      rcases hm with rfl | rfl | rfl | rfl <;> assumption
    have l1 : Ls.length = 4 := by rw [← hLs]; rfl
    have l2 : ds.length = 4 := by rw [← hds]; rfl
    refine sym_loop (fun k : { k : Nat // k ≤ 4 } => acT Ls ds k.1) (fun k => 4 - k.1) ⟨0, Nat.zero_le _⟩ ?_ fun ⟨k, hk⟩ => ?_
    · (refine Le.ok (fun j => some (j + 4)) [] ?_; constructor; all_goals (try simp only [vle, vkt, Nat.reduceEqDiff, Nat.reduceAdd, Nat.reduceMul, Nat.reduceSub, Nat.reduceLeDiff, reduceCtorEq, ↓reduceIte, ↓reduceDIte, Int.reduceToNat, Int.reduceLE, Int.reduceLT, Int.reduceEq, Int.reduceNeg, tbJ9_12, xbJ9_1]))
      all_goals first | rfl | (simp [← hLs, ← hds, eLed, eInt]; done) | (intro i hi; omega)
    clear hLs hds hM hy hW hW'
    by_cases hlt : k < 4
    · have d1 : decide ((k : Int) < ((4 : Nat) : Int)) = true := decide_eq_true (by omega)
      have e9 := wrap64 (n := (k : Int) + 1) (by omega) (by omega)
      have hm := hLf _ (gMem (l := Ls) (k := k) (d := default) (by omega))
      have g1 := gLed (l := Ls) (n := k) (by omega) []
      obtain ⟨m, hm1⟩ : ∃ m, Ls.getD k default = m := ⟨_, rfl⟩
      have g2 := gI0 (l := ds) (n := k) (by omega)
      obtain ⟨d', hd1⟩ : ∃ m, ds.getD k 0 = m := ⟨_, rfl⟩
      rw [hm1] at hm g1
      rw [hd1] at g2
      have zn : ∀ n : Int, decide (n = n) = true := fun n => decide_eq_true rfl
      have zi : ∀ p : List Int, decide (p = p) = true := fun n => decide_eq_true rfl
      obtain ⟨t, e1, hw1, lt1⟩ := aTill_form hm d'
      obtain ⟨g, e2, hw2, lt2⟩ := aGains_form m hm
      obtain ⟨a1, a2, a3, a4, a5, a6, a7, a8, a9, b1, b2, b3, e3, hw3⟩ := aBal_form m
      repeat' (first | refine zq0 ?_ | refine zq1 ?_ | refine zq2 ?_ | refine zq3 ?_ | refine zq4 ?_ | refine zq5 ?_ | refine thenK_n ?_ | refine thenK_x ?_ | refine thenK_r ?_ | refine blockK_n ?_ | refine blockK_r ?_ | refine blockK_hit ?_ | refine blockK_miss (by decide) ?_ | ((first | refine sym_reg env fun Q hQ => ?_ | refine sym_cz fun Q hQ => ?_); simp only [vkt, Nat.reduceEqDiff, Nat.reduceAdd, Nat.reduceMul, Nat.reduceSub, Nat.reduceLeDiff, reduceCtorEq, ↓reduceIte, ↓reduceDIte, Int.reduceToNat, Int.reduceLE, Int.reduceLT, Int.reduceEq, Int.reduceNeg, tbJ9_12, xbJ9_1, d1, l1, l2, g1, g2, hw1, hw2, hw3, zn, zi, e9]; (try simp only [ite_and]); (repeat' (first | with_reducible assumption | refine And.intro ?_ ?_)); all_goals (first | (refine hQ _ ?_; clear hQ Q) | (refine hQ _ (fun h => ?_) (fun h => ?_) <;> clear hQ Q <;> (try simp only [vki, reduceCtorEq] at h)) | omega | (with_reducible assumption) | (with_reducible rfl) | (refine drawB_of ?_; kernel_rfl) | skip)))
      refine ⟨⟨k + 1, hlt⟩, by show 4 - (k + 1) < 4 - k; omega, ?_⟩
      (refine Le.ok some [] ?_; constructor; all_goals (try simp only [vle, vkt, Nat.reduceEqDiff, Nat.reduceAdd, Nat.reduceMul, Nat.reduceSub, Nat.reduceLeDiff, reduceCtorEq, ↓reduceIte, ↓reduceDIte, Int.reduceToNat, Int.reduceLE, Int.reduceLT, Int.reduceEq, Int.reduceNeg, tbJ9_12, xbJ9_1]))
      all_goals first | rfl | (simp; done)
    · have d1 : decide ((k : Int) < ((4 : Nat) : Int)) = false := decide_eq_false (by omega)
      repeat' (first | refine zq0 ?_ | refine zq1 ?_ | refine zq2 ?_ | refine zq3 ?_ | refine zq4 ?_ | refine zq5 ?_ | refine thenK_n ?_ | refine thenK_x ?_ | refine thenK_r ?_ | refine blockK_n ?_ | refine blockK_r ?_ | refine blockK_hit ?_ | refine blockK_miss (by decide) ?_ | ((first | refine sym_reg env fun Q hQ => ?_ | refine sym_cz fun Q hQ => ?_); simp only [vkt, Nat.reduceEqDiff, Nat.reduceAdd, Nat.reduceMul, Nat.reduceSub, Nat.reduceLeDiff, reduceCtorEq, ↓reduceIte, ↓reduceDIte, Int.reduceToNat, Int.reduceLE, Int.reduceLT, Int.reduceEq, Int.reduceNeg, tbJ9_12, xbJ9_1, d1, l1]; (try simp only [ite_and]); (repeat' (first | with_reducible assumption | refine And.intro ?_ ?_)); all_goals (first | (refine hQ _ ?_; clear hQ Q) | (refine hQ _ (fun h => ?_) (fun h => ?_) <;> clear hQ Q <;> (try simp only [vki, reduceCtorEq] at h)) | omega | (with_reducible assumption) | (with_reducible rfl) | (refine drawB_of ?_; kernel_rfl) | skip)))
      (simp only [vrt, Try.results12, vkt, Nat.reduceEqDiff, Nat.reduceAdd, Nat.reduceMul, Nat.reduceSub, Nat.reduceLeDiff, reduceCtorEq, ↓reduceIte, ↓reduceDIte, Int.reduceToNat, Int.reduceLE, Int.reduceLT, Int.reduceEq, Int.reduceNeg, tbJ9_12, xbJ9_1]; refine Fin.val rfl ?_; (try simp only [AV.le, AV.leL]))
      all_goals first | rfl | (simp; done)
  · repeat' (first | refine zq0 ?_ | refine zq1 ?_ | refine zq2 ?_ | refine zq3 ?_ | refine zq4 ?_ | refine zq5 ?_ | refine thenK_n ?_ | refine thenK_x ?_ | refine thenK_r ?_ | refine blockK_n ?_ | refine blockK_r ?_ | refine blockK_hit ?_ | refine blockK_miss (by decide) ?_ | ((first | refine sym_reg env fun Q hQ => ?_ | refine sym_cz fun Q hQ => ?_); simp only [vkt, Nat.reduceEqDiff, Nat.reduceAdd, Nat.reduceMul, Nat.reduceSub, Nat.reduceLeDiff, reduceCtorEq, ↓reduceIte, ↓reduceDIte, Int.reduceToNat, Int.reduceLE, Int.reduceLT, Int.reduceEq, Int.reduceNeg, tbJ9_12, xbJ9_1, hlg]; (try simp only [ite_and]); (repeat' (first | with_reducible assumption | refine And.intro ?_ ?_)); all_goals (first | (refine hQ _ ?_; clear hQ Q) | (refine hQ _ (fun h => ?_) (fun h => ?_) <;> clear hQ Q <;> (try simp only [vki, reduceCtorEq] at h)) | omega | (with_reducible assumption) | (with_reducible rfl) | (refine drawB_of ?_; kernel_rfl) | skip)))
    (simp only [vrt, Try.results12, vkt, Nat.reduceEqDiff, Nat.reduceAdd, Nat.reduceMul, Nat.reduceSub, Nat.reduceLeDiff, reduceCtorEq, ↓reduceIte, ↓reduceDIte, Int.reduceToNat, Int.reduceLE, Int.reduceLT, Int.reduceEq, Int.reduceNeg, tbJ9_12, xbJ9_1]; refine Fin.val rfl ?_; (try simp only [AV.le, AV.leL]))
    all_goals first | rfl | (simp; done)
end Go.Sym.B
namespace Go.Sym.B
open Go Go.Sym Go.Proofs Go.RowKit
def spI : Sp := .int .i64
theorem eI_of (r : List DV) (h : r.length = 1) (hs : ∀ (j : Nat) (s : Sp) (d : DV), [spI][j]? = some s → r[j]? = some d → D1 s d) : ∃ a, r = eInt a := by
  obtain ⟨d, rfl⟩ := List.length_eq_one_iff.1 h
  obtain ⟨n, rfl, _⟩ := (hs 0 spI d rfl rfl).int_inv
  exact ⟨n, rfl⟩
theorem eIs_of (r : List DV) (h : r.length = 1) (hs : ∀ (j : Nat) (s : Sp) (d : DV), [Sp.sl [spI]][j]? = some s → r[j]? = some d → D1 s d) : ∃ a, r = eInts a := by
  obtain ⟨d, rfl⟩ := List.length_eq_one_iff.1 h
  obtain ⟨l, rfl, _⟩ := (hs 0 _ d rfl rfl).sl_inv eInt eI_of
  exact ⟨l, rfl⟩
theorem eS_of (r : List DV) (h : r.length = 2) (hs : ∀ (j : Nat) (s : Sp) (d : DV), [spI, spI][j]? = some s → r[j]? = some d → D1 s d) : ∃ a, r = eSh a := by
  match r, h with
  | [a, b], _ =>
    obtain ⟨n, rfl, _⟩ := (hs 0 spI a rfl rfl).int_inv
    obtain ⟨m, rfl, _⟩ := (hs 1 spI b rfl rfl).int_inv
    exact ⟨⟨n, m⟩, rfl⟩
theorem eSs_of (r : List DV) (h : r.length = 1) (hs : ∀ (j : Nat) (s : Sp) (d : DV), [Sp.sl [spI, spI]][j]? = some s → r[j]? = some d → D1 s d) : ∃ a, r = eShs a := by
  obtain ⟨d, rfl⟩ := List.length_eq_one_iff.1 h
  obtain ⟨l, rfl, _⟩ := (hs 0 _ d rfl rfl).sl_inv eSh eS_of
  exact ⟨l, rfl⟩
theorem eE_of (r : List DV) (h : r.length = 6) (hs : ∀ (j : Nat) (s : Sp) (d : DV), [spI, spI, spI, spI, spI, spI][j]? = some s → r[j]? = some d → D1 s d) : ∃ a, r = eEnt a := by
  match r, h with
  | [a, b, c, d, e, f], _ =>
    obtain ⟨n1, rfl, _⟩ := (hs 0 spI a rfl rfl).int_inv
    obtain ⟨n2, rfl, _⟩ := (hs 1 spI b rfl rfl).int_inv
    obtain ⟨n3, rfl, _⟩ := (hs 2 spI c rfl rfl).int_inv
    obtain ⟨n4, rfl, _⟩ := (hs 3 spI d rfl rfl).int_inv
    obtain ⟨n5, rfl, _⟩ := (hs 4 spI e rfl rfl).int_inv
    obtain ⟨n6, rfl, _⟩ := (hs 5 spI f rfl rfl).int_inv
    exact ⟨⟨n1, n2, n3, n4, n5, n6⟩, rfl⟩
def spL : List Sp := [.sl [.sl [spI]], .sl [.sl [spI, spI]], .sl [spI], .sl [spI, spI, spI, spI, spI, spI]]
def spE : List Sp := [spI, spI, spI, spI, spI, spI]
theorem fl3 : Fl Try.prog 3 [spI] := flB_sound (n := 6) (by kernel_rfl)
theorem fl22 : Fl Try.prog 22 [.sl [spI]] := flB_sound (n := 6) (by kernel_rfl)
theorem fl38 : Fl Try.prog 38 spL := flB_sound (n := 6) (by kernel_rfl)
theorem fl48 : Fl Try.prog 48 spE := flB_sound (n := 6) (by kernel_rfl)
variable {H : Type} {enc : TypeId × Value → H} {W : World} {base : Nat} {spare : Nat → Bool} {held : Bool}
theorem arg_int {fuel : Nat} {v : Value} {x : DataW H × List MemPlace} (h : DataW.trod enc Try.prog W base spare held fuel 3 [v] = some x) : ∃ n, ARel W (okW W) rho0 undef (aI n) v := by
  obtain ⟨ds, hd⟩ := open_fl fl3 h
  obtain ⟨d, rfl, h1, h2⟩ := hd.one_inv
  obtain ⟨n, rfl, _⟩ := h1.int_inv
  exact ⟨n, toAV_rel h2⟩
theorem arg_ints {fuel : Nat} {v : Value} {x : DataW H × List MemPlace} (h : DataW.trod enc Try.prog W base spare held fuel 22 [v] = some x) : ∃ l : List Int, ARel W (okW W) rho0 undef (aInts l) v ∧ l.length ≤ maxLen := by
  obtain ⟨ds, hd⟩ := open_fl fl22 h
  obtain ⟨d, rfl, h1, h2⟩ := hd.one_inv
  obtain ⟨l, rfl, hl⟩ := h1.sl_inv eInt eI_of
  exact ⟨l, toAV_rel h2, hl⟩
theorem arg_ent {fuel : Nat} {cs : Array Value} {x : DataW H × List MemPlace} (h : DataW.trod enc Try.prog W base spare held fuel 48 cs.toList = some x) : ∃ e : Ent, ARel W (okW W) rho0 undef (aEnt e) (.agg cs) := by
  obtain ⟨ds, hd⟩ := open_fl fl48 h
  obtain ⟨e, rfl⟩ := eE_of ds hd.len hd.shape
  exact ⟨e, hd.agg⟩
theorem arg_led {fuel : Nat} {cs : Array Value} {x : DataW H × List MemPlace} (h : DataW.trod enc Try.prog W base spare held fuel 38 cs.toList = some x) : ∃ l : Led, ARel W (okW W) rho0 undef (aLed l) (.agg cs) := by
  obtain ⟨ds, hd⟩ := open_fl fl38 h
  match ds, hd with
  | [a, b, c, d], hd =>
    obtain ⟨l1, rfl, _⟩ := (hd.shape 0 _ a rfl rfl).sl_inv eInts eIs_of
    obtain ⟨l2, rfl, _⟩ := (hd.shape 1 _ b rfl rfl).sl_inv eShs eSs_of
    obtain ⟨l3, rfl, _⟩ := (hd.shape 2 _ c rfl rfl).sl_inv eInt eI_of
    obtain ⟨l4, rfl, _⟩ := (hd.shape 3 _ d rfl rfl).sl_inv eEnt eE_of
    exact ⟨⟨l1, l2, l3, l4⟩, hd.agg⟩
  | [], hd => exact absurd hd.len (by simp [spL])
  | [_], hd => exact absurd hd.len (by simp [spL])
  | [_, _], hd => exact absurd hd.len (by simp [spL])
  | [_, _, _], hd => exact absurd hd.len (by simp [spL])
  | _ :: _ :: _ :: _ :: _ :: _, hd => exact absurd hd.len (by simp [spL])
theorem cells_agg {v : Value} (h : v.cells.toList.length ≠ 1) : ∃ cs, v = .agg cs := by
  cases v <;> first | exact ⟨_, rfl⟩ | (simp [Value.cells] at h)
theorem led_of {v : Value} {d : DataW H} {p : List MemPlace} (h : DataW.Trod enc Try.prog W base spare held 38 v d p) : ∃ l : Led, ARel W (okW W) rho0 undef (aLed l) v := by
  obtain ⟨fuel, hf⟩ := h
  obtain ⟨ds, hd⟩ := open_fl fl38 hf
  obtain ⟨cs, rfl⟩ := cells_agg (v := v) (by rw [hd.clen]; simp [spL])
  exact arg_led hf
theorem ent_of {v : Value} {d : DataW H} {p : List MemPlace} (h : DataW.Trod enc Try.prog W base spare held 48 v d p) : ∃ l : Ent, ARel W (okW W) rho0 undef (aEnt l) v := by
  obtain ⟨fuel, hf⟩ := h
  obtain ⟨ds, hd⟩ := open_fl fl48 hf
  obtain ⟨cs, rfl⟩ := cells_agg (v := v) (by rw [hd.clen]; simp [spE])
  exact arg_ent hf
set_option maxRecDepth 100000 in
theorem int_of {v : Value} {d : DataW H} {p : List MemPlace} {r : Reach} {b0 : Nat} (h : DataW.Trod enc Try.prog W base spare held 3 v d p) (hu : Try.prog.underlying 3 = some (.int .i64)) (hv : Value.okWide Try.prog W r b0 3 v) : ∃ n : Int, ARel W (okW W) rho0 undef (aI n) v := by
  obtain ⟨fuel, hf⟩ := h
  obtain ⟨n, rfl⟩ := WideShapes.okWide_int hu hv
  exact arg_int hf
set_option maxRecDepth 100000 in
theorem ints_of {v : Value} {d : DataW H} {p : List MemPlace} {r : Reach} {b0 : Nat} (h : DataW.Trod enc Try.prog W base spare held 22 v d p) (hu : Try.prog.underlying 22 = some (.slice 3)) (hv : Value.okWide Try.prog W r b0 22 v) : ∃ l : List Int, ARel W (okW W) rho0 undef (aInts l) v ∧ l.length ≤ maxLen := by
  obtain ⟨fuel, hf⟩ := h
  obtain ⟨a, n, c, rfl⟩ := WideShapes.okWide_slice hu hv
  exact arg_ints hf
end Go.Sym.B
