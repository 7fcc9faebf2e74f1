/- Walks and what they compute, joined: part 1. -/
import Derived.Test.YtoapndlmbpphfaaB2
set_option linter.all false
namespace Go.Sym.B
open Go Go.Sym Go.Proofs Go.Sym.C
def ltR (r : Int → Int) (x y : Int) : Prop := r y < r x ∨ (r y = r x ∧ x < y)
def Has (l : List Int) (x : Int) : Prop := ∃ i, i < l.length ∧ l.getD i 0 = x
structure SoK (r : Int → Int) (n k : Nat) (l : List Int) : Prop where
  len : l.length = n
  so : ∀ a b, a < b → b ≤ k → ltR r (l.getD a 0) (l.getD b 0)
  keep : ∀ i, k < i → i < n → l.getD i 0 = i
  lo : ∀ a, a ≤ k → 0 ≤ l.getD a 0 ∧ l.getD a 0 ≤ k
  has : ∀ i : Nat, i < n → Has l i
end Go.Sym.B
namespace Go.Sym.B
open Go Go.Sym Go.Proofs Go.Sym.C
def bgH (x : Int) : List (Nat × AObj) := [(0, .cells [.v (.int .u64 x)])]
def xsh (s : Int) (k : Nat) : Int := IntKind.u64.wrap (BitVec.ofInt IntKind.u64.bits s ^^^ BitVec.ofInt IntKind.u64.bits (s.fdiv (2 ^ min k IntKind.u64.bits))).toNat
def nxS (x : Int) : Int := IntKind.u64.wrap (IntKind.u64.wrap (x * 2862933555777941757) + 3037000493)
def nxV (x : Int) : Int := xsh (IntKind.u64.wrap (xsh (nxS x) 31 * 10723151780598845931)) 30
def tbG2_77 := And.intro @ty95 (And.intro @ty97 (And.intro @ti95.eq_1 @ti97.eq_1))
def xbG2_1 := And.intro @aI.eq_1 (And.intro @aB.eq_1 (@bgH.eq_1))
theorem next_fn (x : Int) : Fn noB Try.prog 77 [.ptr 0 0] (hasg (bgH x)) (.v (.int .u64 (nxV x))) (hasg (bgH (nxS x))) 0 := by
  have env : Env (fun _ => True) Try.prog tyB (tab []) := mkEnv trivial
  refine Fn.of (A := fun _ => True) (n0 := 1) (D := noD) (Fn0 Try.func77 rfl (fun vs w => by kernel_rfl) (by kernel_rfl)) (by simp) (by simp [AV.ids]) ?_ (fun _ _ _ _ => trivial) noD_ok ?_
  · intro i o hi
    have h := hasg_mem hi
    simp [bgH] at h
    rcases h with ⟨rfl, rfl⟩; simp [AObj.ids, AV.ids, AV.idsL]
  repeat' (first | refine zq0 ?_ | refine zq1 ?_ | refine zq2 ?_ | refine zq3 ?_ | refine zq4 ?_ | refine zq5 ?_ | refine thenK_n ?_ | refine thenK_x ?_ | refine thenK_r ?_ | refine blockK_n ?_ | refine blockK_r ?_ | refine blockK_hit ?_ | refine blockK_miss (by decide) ?_ | ((first | refine sym_reg env fun Q hQ => ?_ | refine sym_cz fun Q hQ => ?_); simp only [vkt, seval, tbG2_77, xbG2_1]; (try simp only [ite_and]); (repeat' (first | with_reducible assumption | refine And.intro ?_ ?_ | intro hp)); all_goals (first | (refine hQ _ ?_; clear hQ Q) | (refine hQ _ (fun h => ?_) (fun h => ?_) <;> clear hQ Q <;> (try simp only [vki, reduceCtorEq] at h)) | omega | assumption | (with_reducible rfl) | (refine drawB_of ?_; kernel_rfl) | skip)))
  (simp only [vrt, Try.results77, vkt, seval, tbG2_77, xbG2_1]; refine Fin.ok some [] ?_ ?_ ?_ ?_ ?_ rfl; all_goals (try simp only [vle, vkt, seval, tbG2_77, xbG2_1]))
  all_goals rfl
def p77 (S : St) : List AV → Option Pk
  | [.ptr i 0] => match S.h i with
    | some (.cells [.v (.int .u64 x)]) => some { hs := [i], ar := [.ptr 0 0], L0 := [.cells [.v (.int .u64 x)]], v := .v (.int .u64 (nxV x)), L1 := [some (.cells [.v (.int .u64 (nxS x))])] }
    | _ => none
  | _ => none
theorem e77 {A : Frm → Prop} : EntryOK A Try.prog 77 (fnE p77) := fnE_ok fun S bs q h hp => by
  unfold p77 at h
  split at h
  · split at h
    · cases h; exact next_fn _
    · cases h
  · cases h
def upV0 (x m : Int) : Int := if m < 1 then 0 else IntKind.i64.wrap (((nxV x).fdiv (2 ^ min 13 IntKind.u64.bits)).tmod (IntKind.u64.wrap (IntKind.i64.wrap (m + 1))))
def upS0 (x m : Int) : Int := if m < 1 then x else nxS x
theorem up_ex : ∃ f : Int → Int → Int × Int, ∀ x m, f x m = (upV0 x m, upS0 x m) := ⟨fun x m => (upV0 x m, upS0 x m), fun _ _ => rfl⟩
noncomputable def upV (x m : Int) : Int := (Classical.choose up_ex x m).1
noncomputable def upS (x m : Int) : Int := (Classical.choose up_ex x m).2
theorem upV_eq (x m : Int) : upV x m = upV0 x m := by unfold upV; rw [Classical.choose_spec up_ex]
theorem upS_eq (x m : Int) : upS x m = upS0 x m := by unfold upS; rw [Classical.choose_spec up_ex]
theorem wrapU2 {n : Int} (h0 : 0 ≤ n) (h1 : n < 18446744073709551616) : IntKind.u64.wrap n = n := by
  unfold IntKind.wrap
  simp only [IntKind.bits, IntKind.signed]
  simp
  omega
theorem wrapU_nn (n : Int) : 0 ≤ IntKind.u64.wrap n := by
  unfold IntKind.wrap
  simp only [IntKind.bits, IntKind.signed]
  simp
  omega
theorem upV_bd {x m : Int} (h : m < 9223372036854775807) : 0 ≤ upV x m ∧ (upV x m ≤ m ∨ upV x m = 0) := by
  rw [upV_eq]
  unfold upV0
  split
  · exact ⟨Int.le_refl _, .inr rfl⟩
  · have h1 : IntKind.i64.wrap (m + 1) = m + 1 := wrap64 (by omega) (by omega)
    have h2 : IntKind.u64.wrap (m + 1) = m + 1 := wrapU2 (by omega) (by omega)
    rw [h1, h2]
    have h3 : 0 ≤ (nxV x).fdiv (2 ^ min 13 IntKind.u64.bits) := Int.fdiv_nonneg (by unfold nxV xsh; exact wrapU_nn _) (by decide)
    rw [Int.tmod_eq_emod_of_nonneg h3]
    have h4 := Int.emod_nonneg ((nxV x).fdiv (2 ^ min 13 IntKind.u64.bits)) (show m + 1 ≠ 0 by omega)
    have h5 := Int.emod_lt_of_pos ((nxV x).fdiv (2 ^ min 13 IntKind.u64.bits)) (show 0 < m + 1 by omega)
    rw [wrap64 (by omega) (by omega)]
    omega
def tbG2_22 := And.intro @ty3 (And.intro @ty95 (And.intro @ti3.eq_1 @ti95.eq_1))
def xbG2_2 := And.intro @aI.eq_1 (And.intro @aB.eq_1 (And.intro @bgH.eq_1 (And.intro @p77.eq_1 (@p77.eq_2))))
theorem up_fn (x m : Int) (h : m < 9223372036854775807) : Fn noB Try.prog 22 [.ptr 0 0, aI m] (hasg (bgH x)) (aI (upV x m)) (hasg (bgH (upS x m))) 0 := by
  have env : Env (fun _ => True) Try.prog tyB (tab [(77, fnE p77)]) := mkEnv ⟨e77, trivial⟩
  refine Fn.of (A := fun _ => True) (n0 := 1) (D := noD) (Fn0 Try.func22 rfl (fun vs w => by kernel_rfl) (by kernel_rfl)) (by simp) (by simp [AV.ids, AV.idsL, aI]) ?_ (fun _ _ _ _ => trivial) noD_ok ?_
  · intro i o hi
    have h := hasg_mem hi
    simp [bgH] at h
    rcases h with ⟨rfl, rfl⟩; simp [AObj.ids, AV.ids, AV.idsL]
  rw [upV_eq, upS_eq]
  by_cases c1 : m < 1
  · rw [show upV0 x m = 0 from if_pos c1, show upS0 x m = x from if_pos c1]
    repeat' (first | refine zq0 ?_ | refine zq1 ?_ | refine zq2 ?_ | refine zq3 ?_ | refine zq4 ?_ | refine zq5 ?_ | refine thenK_n ?_ | refine thenK_x ?_ | refine thenK_r ?_ | refine blockK_n ?_ | refine blockK_r ?_ | refine blockK_hit ?_ | refine blockK_miss (by decide) ?_ | ((first | refine sym_reg env fun Q hQ => ?_ | refine sym_cz fun Q hQ => ?_); simp only [vkt, seval, tbG2_22, xbG2_2, c1]; (try simp only [ite_and]); (repeat' (first | with_reducible assumption | refine And.intro ?_ ?_ | intro hp)); all_goals (first | (refine hQ _ ?_; clear hQ Q) | (refine hQ _ (fun h => ?_) (fun h => ?_) <;> clear hQ Q <;> (try simp only [vki, reduceCtorEq] at h)) | omega | assumption | (with_reducible rfl) | (refine drawB_of ?_; kernel_rfl) | skip)))
    (simp only [vrt, Try.results22, vkt, seval, tbG2_22, xbG2_2]; refine Fin.ok some [] ?_ ?_ ?_ ?_ ?_ rfl; all_goals (try simp only [vle, vkt, seval, tbG2_22, xbG2_2]))
    all_goals simp
  · rw [show upV0 x m = _ from if_neg c1, show upS0 x m = _ from if_neg c1]
    have h1 : IntKind.i64.wrap (m + 1) = m + 1 := wrap64 (by omega) (by omega)
    have h2 : IntKind.u64.wrap (m + 1) = m + 1 := wrapU2 (by omega) (by omega)
    have h0 : ¬ m + 1 = 0 := by omega
    repeat' (first | refine zq0 ?_ | refine zq1 ?_ | refine zq2 ?_ | refine zq3 ?_ | refine zq4 ?_ | refine zq5 ?_ | refine thenK_n ?_ | refine thenK_x ?_ | refine thenK_r ?_ | refine blockK_n ?_ | refine blockK_r ?_ | refine blockK_hit ?_ | refine blockK_miss (by decide) ?_ | ((first | refine sym_reg env fun Q hQ => ?_ | refine sym_cz fun Q hQ => ?_); simp only [vkt, seval, tbG2_22, xbG2_2, c1, h1, h2, h0]; (try simp only [ite_and]); (repeat' (first | with_reducible assumption | refine And.intro ?_ ?_ | intro hp)); all_goals (first | (refine hQ _ ?_; clear hQ Q) | (refine hQ _ (fun h => ?_) (fun h => ?_) <;> clear hQ Q <;> (try simp only [vki, reduceCtorEq] at h)) | omega | assumption | (with_reducible rfl) | (refine drawB_of ?_; kernel_rfl) | skip)))
    (simp only [vrt, Try.results22, vkt, seval, tbG2_22, xbG2_2]; refine Fin.ok some [] ?_ ?_ ?_ ?_ ?_ rfl; all_goals (try simp only [vle, vkt, seval, tbG2_22, xbG2_2]))
    all_goals (first | rfl | rw [h1, h2])
noncomputable def p22 (S : St) : List AV → Option Pk
  | [.ptr i 0, .v (.int .i64 m)] => match S.h i with
    | some (.cells [.v (.int .u64 x)]) => some { pre := m < 9223372036854775807, hs := [i], ar := [.ptr 0 0, .v (.int .i64 m)], L0 := [.cells [.v (.int .u64 x)]], v := .v (.int .i64 (upV x m)), L1 := [some (.cells [.v (.int .u64 (upS x m))])] }
    | _ => none
  | _ => none
theorem e22 {A : Frm → Prop} : EntryOK A Try.prog 22 (fnE p22) := fnE_ok fun S bs q h hp => by
  unfold p22 at h
  split at h
  · split at h
    · cases h; exact up_fn _ _ hp
    · cases h
  · cases h
def tbG2_21 := And.intro @ty3 @ti3.eq_1
def xbG2_3 := And.intro @aI.eq_1 (And.intro @aB.eq_1 (And.intro @bgH.eq_1 (And.intro @p22.eq_1 (@p22.eq_2))))
theorem from_fn (x a b : Int) (h : -100000 ≤ a ∧ a ≤ 100000 ∧ -100000 ≤ b ∧ b ≤ 100000) : Fn noB Try.prog 21 [.ptr 0 0, aI a, aI b] (hasg (bgH x)) (aI (a + upV x (b - a))) (hasg (bgH (upS x (b - a)))) 0 := by
  have env : Env (fun _ => True) Try.prog tyB (tab [(22, fnE p22)]) := mkEnv ⟨e22, trivial⟩
  refine Fn.of (A := fun _ => True) (n0 := 1) (D := noD) (Fn0 Try.func21 rfl (fun vs w => by kernel_rfl) (by kernel_rfl)) (by simp) (by simp [AV.ids, AV.idsL, aI]) ?_ (fun _ _ _ _ => trivial) noD_ok ?_
  · intro i o hi
    have h := hasg_mem hi
    simp [bgH] at h
    rcases h with ⟨rfl, rfl⟩; simp [AObj.ids, AV.ids, AV.idsL]
  have b1 := upV_bd (x := x) (m := b - a) (by omega)
  have h1 : IntKind.i64.wrap (b - a) = b - a := wrap64 (by omega) (by omega)
  have h2 : IntKind.i64.wrap (a + upV x (b - a)) = a + upV x (b - a) := wrap64 (by omega) (by omega)
  have h3 : b - a < 9223372036854775807 := by omega
  repeat' (first | refine zq0 ?_ | refine zq1 ?_ | refine zq2 ?_ | refine zq3 ?_ | refine zq4 ?_ | refine zq5 ?_ | refine thenK_n ?_ | refine thenK_x ?_ | refine thenK_r ?_ | refine blockK_n ?_ | refine blockK_r ?_ | refine blockK_hit ?_ | refine blockK_miss (by decide) ?_ | ((first | refine sym_reg env fun Q hQ => ?_ | refine sym_cz fun Q hQ => ?_); simp only [vkt, seval, tbG2_21, xbG2_3, h1, h2]; (try simp only [ite_and]); (repeat' (first | with_reducible assumption | refine And.intro ?_ ?_ | intro hp)); all_goals (first | (refine hQ _ ?_; clear hQ Q) | (refine hQ _ (fun h => ?_) (fun h => ?_) <;> clear hQ Q <;> (try simp only [vki, reduceCtorEq] at h)) | omega | assumption | (with_reducible rfl) | (refine drawB_of ?_; kernel_rfl) | skip)))
  (simp only [vrt, Try.results21, vkt, seval, tbG2_21, xbG2_3]; refine Fin.ok some [] ?_ ?_ ?_ ?_ ?_ rfl; all_goals (try simp only [vle, vkt, seval, tbG2_21, xbG2_3]))
  all_goals rfl
noncomputable def p21 (S : St) : List AV → Option Pk
  | [.ptr i 0, .v (.int .i64 a), .v (.int .i64 b)] => match S.h i with
    | some (.cells [.v (.int .u64 x)]) => some { pre := -100000 ≤ a ∧ a ≤ 100000 ∧ -100000 ≤ b ∧ b ≤ 100000, hs := [i], ar := [.ptr 0 0, .v (.int .i64 a), .v (.int .i64 b)], L0 := [.cells [.v (.int .u64 x)]], v := .v (.int .i64 (a + upV x (b - a))), L1 := [some (.cells [.v (.int .u64 (upS x (b - a)))])] }
    | _ => none
  | _ => none
theorem e21 {A : Frm → Prop} : EntryOK A Try.prog 21 (fnE p21) := fnE_ok fun S bs q h hp => by
  unfold p21 at h
  split at h
  · split at h
    · cases h; exact from_fn _ _ _ hp
    · cases h
  · cases h
def nbK (l : List Int) : Nat → Int
  | 0 => 11400714819323198485
  | k + 1 => xsh (IntKind.u64.wrap (IntKind.u64.wrap (nbK l k + IntKind.u64.wrap (l.getD k 0)) * 13787848793156543929)) 29
def nbS (l : List Int) : Int := nbK l l.length
def nbI (l : List Int) (k : Nat) : St := { t := asg [(0, aInts l), (3, .ptr 0 0), (4, aI k)], h := hasg (bgH (nbK l k)), n := 1 }
def tbG2_20 := And.intro @ty3 (And.intro @ty22 (And.intro @ty95 (And.intro @ty97 (And.intro @ti3.eq_1 (And.intro @ti22.eq_1 (And.intro @ti95.eq_1 @ti97.eq_1))))))
def xbG2_4 := And.intro @aI.eq_1 (And.intro @aB.eq_1 (And.intro @bgH.eq_1 (And.intro @nbI.eq_1 (And.intro @aInts.eq_1 (And.intro @gInt (@eInt.eq_1))))))
theorem bag_fn (l : List Int) (hl : l.length ≤ maxLen) : Fn noB Try.prog 20 [aInts l] noH (.ptr 0 0) (hasg (bgH (nbS l))) 0 := by
  have env : Env (fun _ => True) Try.prog tyB (tab []) := mkEnv trivial
  refine Fn.of (A := fun _ => True) (n0 := 0) (D := noD) (Fn0 Try.func20 rfl (fun vs w => by kernel_rfl) (by kernel_rfl)) (by simp) (by simp [AV.ids, AV.idsL, aInts]) (fun i o h => by cases h) (fun _ _ _ _ => trivial) noD_ok ?_
  repeat' (first | refine zq0 ?_ | refine zq1 ?_ | refine zq2 ?_ | refine zq3 ?_ | refine zq4 ?_ | refine zq5 ?_ | refine thenK_n ?_ | refine thenK_x ?_ | refine thenK_r ?_ | refine blockK_n ?_ | refine blockK_r ?_ | refine blockK_hit ?_ | refine blockK_miss (by decide) ?_ | ((first | refine sym_reg env fun Q hQ => ?_ | refine sym_cz fun Q hQ => ?_); simp only [vkt, seval, tbG2_20, xbG2_4]; (try simp only [ite_and]); (repeat' (first | with_reducible assumption | refine And.intro ?_ ?_ | intro hp)); all_goals (first | (refine hQ _ ?_; clear hQ Q) | (refine hQ _ (fun h => ?_) (fun h => ?_) <;> clear hQ Q <;> (try simp only [vki, reduceCtorEq] at h)) | omega | assumption | (with_reducible rfl) | (refine drawB_of ?_; kernel_rfl) | skip)))
  refine sym_loop (fun k : { k : Nat // k ≤ l.length } => nbI l k.1) (fun k => l.length - k.1) ⟨0, Nat.zero_le _⟩ ?_ fun ⟨k, hk⟩ => ?_
  · (refine Le.ok some [] ?_; constructor; all_goals (try simp only [vle, vkt, seval, tbG2_20, xbG2_4]))
    all_goals first | rfl | simp
  · repeat' (first | refine zq0 ?_ | refine zq1 ?_ | refine zq2 ?_ | refine zq3 ?_ | refine zq4 ?_ | refine zq5 ?_ | refine thenK_n ?_ | refine thenK_x ?_ | refine thenK_r ?_ | refine blockK_n ?_ | refine blockK_r ?_ | refine blockK_hit ?_ | refine blockK_miss (by decide) ?_)
    (refine sym_reg env fun Q hQ => ?_; simp only [vkt, seval, tbG2_20, xbG2_4]; (try simp only [ite_and]); (repeat' (first | with_reducible assumption | refine And.intro ?_ ?_ | intro hp)); all_goals (first | (refine hQ _ ?_; clear hQ Q) | omega | assumption | (with_reducible rfl) | (refine drawB_of ?_; kernel_rfl) | skip))
    repeat' (first | refine zq0 ?_ | refine zq1 ?_ | refine zq2 ?_ | refine zq3 ?_ | refine zq4 ?_ | refine zq5 ?_ | refine thenK_n ?_ | refine thenK_x ?_ | refine thenK_r ?_ | refine blockK_n ?_ | refine blockK_r ?_ | refine blockK_hit ?_ | refine blockK_miss (by decide) ?_)
    (refine sym_cd (by simp only [vkt, seval, tbG2_20, xbG2_4]; rfl) (fun h => ?_) (fun h => ?_) <;> (try simp only [vki, reduceCtorEq] at h))
    · have hlt : k < l.length := by omega
      have e9 := wrap_succ hlt hl
      repeat' (first | refine zq0 ?_ | refine zq1 ?_ | refine zq2 ?_ | refine zq3 ?_ | refine zq4 ?_ | refine zq5 ?_ | refine thenK_n ?_ | refine thenK_x ?_ | refine thenK_r ?_ | refine blockK_n ?_ | refine blockK_r ?_ | refine blockK_hit ?_ | refine blockK_miss (by decide) ?_ | ((first | refine sym_reg env fun Q hQ => ?_ | refine sym_cz fun Q hQ => ?_); simp only [vkt, seval, tbG2_20, xbG2_4, e9]; (try simp only [ite_and]); (repeat' (first | with_reducible assumption | refine And.intro ?_ ?_ | intro hp)); all_goals (first | (refine hQ _ ?_; clear hQ Q) | (refine hQ _ (fun h => ?_) (fun h => ?_) <;> clear hQ Q <;> (try simp only [vki, reduceCtorEq] at h)) | omega | assumption | (with_reducible rfl) | (refine drawB_of ?_; kernel_rfl) | skip)))
      refine ⟨⟨k + 1, hlt⟩, by show l.length - (k + 1) < l.length - k; omega, ?_⟩
      (refine Le.ok some [] ?_; constructor; all_goals (try simp only [vle, vkt, seval, tbG2_20, xbG2_4]))
      all_goals first | rfl | (simp [e9]; done)
    · have hkn : k = l.length := by omega
      subst hkn
      repeat' (first | refine zq0 ?_ | refine zq1 ?_ | refine zq2 ?_ | refine zq3 ?_ | refine zq4 ?_ | refine zq5 ?_ | refine thenK_n ?_ | refine thenK_x ?_ | refine thenK_r ?_ | refine blockK_n ?_ | refine blockK_r ?_ | refine blockK_hit ?_ | refine blockK_miss (by decide) ?_ | ((first | refine sym_reg env fun Q hQ => ?_ | refine sym_cz fun Q hQ => ?_); simp only [vkt, seval, tbG2_20, xbG2_4]; (try simp only [ite_and]); (repeat' (first | with_reducible assumption | refine And.intro ?_ ?_ | intro hp)); all_goals (first | (refine hQ _ ?_; clear hQ Q) | (refine hQ _ (fun h => ?_) (fun h => ?_) <;> clear hQ Q <;> (try simp only [vki, reduceCtorEq] at h)) | omega | assumption | (with_reducible rfl) | (refine drawB_of ?_; kernel_rfl) | skip)))
      (simp only [vrt, Try.results20, vkt, seval, tbG2_20, xbG2_4]; refine Fin.ok some [] ?_ ?_ ?_ ?_ ?_ rfl; all_goals (try simp only [vle, vkt, seval, tbG2_20, xbG2_4]))
      all_goals rfl
def p20 (_ : St) : List AV → Option Pk
  | [.sl xs] => some { pre := xs = (xs.map dInt).map eInt ∧ xs.length ≤ maxLen, ar := [.sl xs], v := .ptr 0 0, L1 := [some (.cells [.v (.int .u64 (nbS (xs.map dInt)))])] }
  | _ => none
theorem e20 {A : Frm → Prop} : EntryOK A Try.prog 20 (fnE p20) := fnE_ok fun S bs q h hp => by
  unfold p20 at h
  split at h <;> cases h
  have := bag_fn (List.map dInt _) (by rw [List.length_map]; exact hp.2)
  simp only [aInts, ← hp.1] at this
  exact this
end Go.Sym.B
namespace Go.Sym.B
open Go Go.Sym Go.Proofs Go.Sym.C
end Go.Sym.B
namespace Go.Sym.B
open Go Go.Sym Go.Proofs Go.Sym.C
end Go.Sym.B
namespace Go.Sym.B
open Go Go.Sym Go.Proofs Go.Sym.C
structure RI (n0 d0 k : Nat) where
  n : Nat
  d : Nat
  n1 : 1 ≤ n
  n2 : n ≤ n0
  d1 : 1 ≤ d
  d2 : d ≤ d0
  e : n * d0 = d * n0
  c : ∀ j, k < j → j ≤ 12 → ¬ (j ∣ n ∧ j ∣ d)
def RI.div {n0 d0 k : Nat} (i : RI n0 d0 k) (hk : 2 ≤ k) (h1 : k ∣ i.n) (h2 : k ∣ i.d) : RI n0 d0 k where
  n := i.n / k
  d := i.d / k
  n1 := Nat.div_pos (Nat.le_of_dvd i.n1 h1) (by omega)
  n2 := Nat.le_trans (Nat.div_le_self _ _) i.n2
  d1 := Nat.div_pos (Nat.le_of_dvd i.d1 h2) (by omega)
  d2 := Nat.le_trans (Nat.div_le_self _ _) i.d2
  e := by
    obtain ⟨a, ha⟩ := h1
    obtain ⟨b, hb⟩ := h2
    have := i.e
    rw [ha, hb] at this ⊢
    rw [Nat.mul_div_cancel_left _ (by omega), Nat.mul_div_cancel_left _ (by omega)]
    rw [Nat.mul_assoc, Nat.mul_assoc] at this
    exact Nat.eq_of_mul_eq_mul_left (by omega) this
  c := fun j hj hl h => i.c j hj hl ⟨Nat.dvd_trans h.1 (Nat.div_dvd_of_dvd h1), Nat.dvd_trans h.2 (Nat.div_dvd_of_dvd h2)⟩
def RI.less {n0 d0 k : Nat} (i : RI n0 d0 (k + 1)) (h : ¬ (k + 1 ∣ i.n ∧ k + 1 ∣ i.d)) : RI n0 d0 k where
  n := i.n
  d := i.d
  n1 := i.n1
  n2 := i.n2
  d1 := i.d1
  d2 := i.d2
  e := i.e
  c := fun j hj hl hh => by
    rcases Nat.lt_or_eq_of_le (Nat.succ_le_of_lt hj) with h1 | h1
    · exact i.c j h1 hl hh
    · subst h1; exact h hh
theorem RI.last {n0 d0 : Nat} (i : RI n0 d0 1) (hd : d0 ≤ 12) (hd1 : 1 ≤ d0) : shQ (mkRat n0 d0) = ⟨i.n, i.d⟩ := by
  have hg : Nat.gcd i.n i.d = 1 := by
    have h1 := Nat.gcd_dvd_left i.n i.d
    have h2 := Nat.gcd_dvd_right i.n i.d
    have h3 : 0 < Nat.gcd i.n i.d := Nat.gcd_pos_of_pos_left _ i.n1
    have h4 := Nat.le_of_dvd i.d1 h2
    have h5 := i.d2
    rcases Nat.lt_or_eq_of_le h3 with h6 | h6
    · exact absurd ⟨h1, h2⟩ (i.c _ h6 (by omega))
    · exact h6.symm
  have hd0 : d0 ≠ 0 := by omega
  have hid : i.d ≠ 0 := by have := i.d1; omega
  have he : mkRat (n0 : Int) d0 = mkRat (i.n : Int) i.d := by
    rw [Rat.mkRat_eq_iff hd0 hid]
    have := i.e
    rw [Nat.mul_comm i.d] at this
    exact_mod_cast this.symm
  have hp : (0 : Int) < (i.d : Int) := by have := i.d1; omega
  have e1 := mk_num (a := (i.n : Int)) hp
  have e2 := mk_den (a := (i.n : Int)) hp
  simp only [Int.toNat_natCast, Int.natAbs_natCast, hg] at e1 e2
  simp only [shQ, he, e1, e2]
  simp
noncomputable def rtN (x : Int) : Int := 1 + upV (upS x (12 - 1)) (20 - 1)
noncomputable def rtD (x : Int) : Int := 1 + upV x (12 - 1)
noncomputable def rtV (x : Int) : Sh := shQ (mkRat (rtN x) (rtD x).toNat)
noncomputable def rtS (x : Int) : Int := upS (upS x (12 - 1)) (20 - 1)
theorem rt_bd7 (x : Int) : (1 ≤ rtN x ∧ rtN x ≤ 20) ∧ 1 ≤ rtD x ∧ rtD x ≤ 12 := by
  have h1 := upV_bd (x := upS x (12 - 1)) (m := 20 - 1) (by decide)
  have h2 := upV_bd (x := x) (m := 12 - 1) (by decide)
  unfold rtN rtD
  omega
def rtT (x : Int) (k n d : Nat) : St := { t := asg [(2, .ptr 1 0), (3, aI d), (4, aI n), (5, aI k)], h := hasg [(0, .cells [.v (.int .u64 x)]), (1, .cells [.v (.int .i64 0), .v (.int .i64 0)])], n := 2, m := 1 }
theorem tmodN (a b : Nat) : ((a : Int)).tmod (b : Int) = ((a % b : Nat) : Int) := rfl
theorem tdivN (a b : Nat) : ((a : Int)).tdiv (b : Int) = ((a / b : Nat) : Int) := rfl
theorem wdiv {a b : Nat} (h : a ≤ 1000) : IntKind.wrap .i64 ((a : Int).tdiv (b : Int)) = ((a / b : Nat) : Int) := by
  rw [tdivN]
  have := Nat.div_le_self a b
  generalize a / b = q at *
  exact wrap64 (by omega) (by omega)
def tbG7_84 := And.intro @ty3 (And.intro @ty59 (And.intro @ti3.eq_1 @ti59.eq_1))
def xbG7_1 := And.intro @aI.eq_1 (And.intro @aB.eq_1 (And.intro @aSh.eq_1 (And.intro @bgH.eq_1 (And.intro @p21.eq_1 (And.intro @p21.eq_2 (And.intro @rtT.eq_1 (@tmodN)))))))
theorem rateOf_fn (x : Int) : Fn noB Try.prog 84 [.ptr 0 0] (hasg (bgH x)) (aSh (rtV x)) (hasg (bgH (rtS x))) 0 := by
  have env : Env (fun _ => True) Try.prog tyB (tab [(21, fnE p21)]) := mkEnv ⟨e21, trivial⟩
  refine Fn.of (A := fun _ => True) (n0 := 1) (D := noD) (Fn0 Try.func84 rfl (fun vs w => by kernel_rfl) (by kernel_rfl)) (by simp) (by simp [AV.ids]) ?_ (fun _ _ _ _ => trivial) noD_ok ?_
  · intro i o hi
    have h := hasg_mem hi
    simp [bgH] at h
    rcases h with ⟨rfl, rfl⟩; simp [AObj.ids, AV.ids, AV.idsL]
  have hb := rt_bd7 x
  obtain ⟨n0, hn0⟩ : ∃ n : Nat, rtN x = (n : Int) := ⟨(rtN x).toNat, by omega⟩
  obtain ⟨d0, hd0⟩ : ∃ n : Nat, rtD x = (n : Int) := ⟨(rtD x).toNat, by omega⟩
  rw [hn0, hd0] at hb
  have hV : rtV x = shQ (mkRat n0 d0) := by unfold rtV; rw [hn0, hd0]; rfl
  have hn0' : 1 + upV (upS x (12 - 1)) (20 - 1) = (n0 : Int) := hn0
  have hd0' : 1 + upV x (12 - 1) = (d0 : Int) := hd0
  have hS : upS (upS x (12 - 1)) (20 - 1) = rtS x := rfl
  repeat' (first | refine zq0 ?_ | refine zq1 ?_ | refine zq2 ?_ | refine zq3 ?_ | refine zq4 ?_ | refine zq5 ?_ | refine thenK_n ?_ | refine thenK_x ?_ | refine thenK_r ?_ | refine blockK_n ?_ | refine blockK_r ?_ | refine blockK_hit ?_ | refine blockK_miss (by decide) ?_ | ((first | refine sym_reg env fun Q hQ => ?_ | refine sym_cz fun Q hQ => ?_); simp only [vkt, seval, -Int.reduceSub, -Int.reduceAdd, -Int.reduceMul, tbG7_84, xbG7_1, hn0', hd0', hS]; (try simp only [ite_and]); (repeat' (first | with_reducible assumption | refine And.intro ?_ ?_ | intro hp)); all_goals (first | (refine hQ _ ?_; clear hQ Q) | (refine hQ _ (fun h => ?_) (fun h => ?_) <;> clear hQ Q <;> (try simp only [vki, reduceCtorEq] at h)) | omega | assumption | (with_reducible rfl) | (refine drawB_of ?_; kernel_rfl) | skip)))
  refine sym_loop (fun i : (k : { k : Nat // 1 ≤ k ∧ k ≤ 12 }) × RI n0 d0 k.1 => rtT (rtS x) i.1.1 i.2.n i.2.d) (fun i => i.1.1) ⟨⟨12, by decide⟩, ⟨n0, d0, by omega, Nat.le_refl _, by omega, Nat.le_refl _, Nat.mul_comm _ _, fun j h1 h2 => by have : 12 < j := h1; omega⟩⟩ ?_ fun ⟨⟨k, hk⟩, i⟩ => ?_
  · (refine Le.ok some [] ?_; constructor; all_goals (try simp only [vle, vkt, seval, -Int.reduceSub, -Int.reduceAdd, -Int.reduceMul, tbG7_84, xbG7_1]))
    all_goals first | rfl | (simp; done)
  · repeat' (first | refine zq0 ?_ | refine zq1 ?_ | refine zq2 ?_ | refine zq3 ?_ | refine zq4 ?_ | refine zq5 ?_ | refine thenK_n ?_ | refine thenK_x ?_ | refine thenK_r ?_ | refine blockK_n ?_ | refine blockK_r ?_ | refine blockK_hit ?_ | refine blockK_miss (by decide) ?_)
    (refine sym_reg env fun Q hQ => ?_; simp only [vkt, seval, -Int.reduceSub, -Int.reduceAdd, -Int.reduceMul, tbG7_84, xbG7_1]; (try simp only [ite_and]); (repeat' (first | with_reducible assumption | refine And.intro ?_ ?_ | intro hp)); all_goals (first | (refine hQ _ ?_; clear hQ Q) | omega | assumption | (with_reducible rfl) | (refine drawB_of ?_; kernel_rfl) | skip))
    repeat' (first | refine zq0 ?_ | refine zq1 ?_ | refine zq2 ?_ | refine zq3 ?_ | refine zq4 ?_ | refine zq5 ?_ | refine thenK_n ?_ | refine thenK_x ?_ | refine thenK_r ?_ | refine blockK_n ?_ | refine blockK_r ?_ | refine blockK_hit ?_ | refine blockK_miss (by decide) ?_)
    (refine sym_cd (by simp only [vkt, seval, -Int.reduceSub, -Int.reduceAdd, -Int.reduceMul, tbG7_84, xbG7_1]; rfl) (fun h => ?_) (fun h => ?_) <;> (try simp only [vki, reduceCtorEq] at h))
    · have hk2 : 1 < k := by omega
      repeat' (first | refine zq0 ?_ | refine zq1 ?_ | refine zq2 ?_ | refine zq3 ?_ | refine zq4 ?_ | refine zq5 ?_ | refine thenK_n ?_ | refine thenK_x ?_ | refine thenK_r ?_ | refine blockK_n ?_ | refine blockK_r ?_ | refine blockK_hit ?_ | refine blockK_miss (by decide) ?_)
      refine sym_loop (fun i : RI n0 d0 k => rtT (rtS x) k i.n i.d) (fun i => i.n) i ?_ fun i => ?_
      · (refine Le.ok some [] ?_; constructor; all_goals (try simp only [vle, vkt, seval, -Int.reduceSub, -Int.reduceAdd, -Int.reduceMul, tbG7_84, xbG7_1]))
        all_goals first | rfl | (simp; done)
      · have i1 := i.n1
        have i2 := i.n2
        have i3 := i.d1
        have i4 := i.d2
        have nz : ¬ (k : Int) = 0 := by omega
        have r1 : i.n % k = 0 ↔ k ∣ i.n := (Nat.dvd_iff_mod_eq_zero ..).symm
        have r2 : i.d % k = 0 ↔ k ∣ i.d := (Nat.dvd_iff_mod_eq_zero ..).symm
        have w1 : IntKind.wrap .i64 ((i.n : Int).tdiv (k : Int)) = ((i.n / k : Nat) : Int) := wdiv (by omega)
        have w2 : IntKind.wrap .i64 ((i.d : Int).tdiv (k : Int)) = ((i.d / k : Nat) : Int) := wdiv (by omega)
        have w3 : IntKind.wrap .i64 ((k : Int) - 1) = ((k - 1 : Nat) : Int) := by rw [wrap64 (by omega) (by omega)]; omega
        by_cases c1 : i.n % k = 0
        · by_cases c2 : i.d % k = 0
          · have c1' : (((i.n % k : Nat) : Int) = 0) := by omega
            have c2' : (((i.d % k : Nat) : Int) = 0) := by omega
            repeat' (first | refine zq0 ?_ | refine zq1 ?_ | refine zq2 ?_ | refine zq3 ?_ | refine zq4 ?_ | refine zq5 ?_ | refine thenK_n ?_ | refine thenK_x ?_ | refine thenK_r ?_ | refine blockK_n ?_ | refine blockK_r ?_ | refine blockK_hit ?_ | refine blockK_miss (by decide) ?_ | ((first | refine sym_reg env fun Q hQ => ?_ | refine sym_cz fun Q hQ => ?_); simp only [vkt, seval, -Int.reduceSub, -Int.reduceAdd, -Int.reduceMul, tbG7_84, xbG7_1, nz, c1', c2', w1, w2]; (try simp only [ite_and]); (repeat' (first | with_reducible assumption | refine And.intro ?_ ?_ | intro hp)); all_goals (first | (refine hQ _ ?_; clear hQ Q) | (refine hQ _ (fun h => ?_) (fun h => ?_) <;> clear hQ Q <;> (try simp only [vki, reduceCtorEq] at h)) | omega | assumption | (with_reducible rfl) | (refine drawB_of ?_; kernel_rfl) | skip)))
            refine ⟨i.div (by omega) (r1.1 c1) (r2.1 c2), by show i.n / k < i.n; exact Nat.div_lt_self (by omega) hk2, ?_⟩
            (refine Le.ok some [] ?_; constructor; all_goals (try simp only [vle, vkt, seval, -Int.reduceSub, -Int.reduceAdd, -Int.reduceMul, tbG7_84, xbG7_1]))
            all_goals first | rfl | (simp [RI.div]; done)
          · have c1' : (((i.n % k : Nat) : Int) = 0) := by omega
            have c2' : ¬ (((i.d % k : Nat) : Int) = 0) := by omega
            obtain ⟨m, rfl⟩ : ∃ m, k = m + 1 := ⟨k - 1, by omega⟩
            repeat' (first | refine zq0 ?_ | refine zq1 ?_ | refine zq2 ?_ | refine zq3 ?_ | refine zq4 ?_ | refine zq5 ?_ | refine thenK_n ?_ | refine thenK_x ?_ | refine thenK_r ?_ | refine blockK_n ?_ | refine blockK_r ?_ | refine blockK_hit ?_ | refine blockK_miss (by decide) ?_ | ((first | refine sym_reg env fun Q hQ => ?_ | refine sym_cz fun Q hQ => ?_); simp only [vkt, seval, -Int.reduceSub, -Int.reduceAdd, -Int.reduceMul, tbG7_84, xbG7_1, nz, c1', c2', w3]; (try simp only [ite_and]); (repeat' (first | with_reducible assumption | refine And.intro ?_ ?_ | intro hp)); all_goals (first | (refine hQ _ ?_; clear hQ Q) | (refine hQ _ (fun h => ?_) (fun h => ?_) <;> clear hQ Q <;> (try simp only [vki, reduceCtorEq] at h)) | omega | assumption | (with_reducible rfl) | (refine drawB_of ?_; kernel_rfl) | skip)))
            refine ⟨⟨⟨m, by omega, by omega⟩, i.less fun h => c2 (r2.2 h.2)⟩, by show m < m + 1; omega, ?_⟩
            (refine Le.ok some [] ?_; constructor; all_goals (try simp only [vle, vkt, seval, -Int.reduceSub, -Int.reduceAdd, -Int.reduceMul, tbG7_84, xbG7_1]))
            all_goals first | rfl | (simp [RI.less]; done)
        · have c1' : ¬ (((i.n % k : Nat) : Int) = 0) := by omega
          obtain ⟨m, rfl⟩ : ∃ m, k = m + 1 := ⟨k - 1, by omega⟩
          repeat' (first | refine zq0 ?_ | refine zq1 ?_ | refine zq2 ?_ | refine zq3 ?_ | refine zq4 ?_ | refine zq5 ?_ | refine thenK_n ?_ | refine thenK_x ?_ | refine thenK_r ?_ | refine blockK_n ?_ | refine blockK_r ?_ | refine blockK_hit ?_ | refine blockK_miss (by decide) ?_ | ((first | refine sym_reg env fun Q hQ => ?_ | refine sym_cz fun Q hQ => ?_); simp only [vkt, seval, -Int.reduceSub, -Int.reduceAdd, -Int.reduceMul, tbG7_84, xbG7_1, nz, c1', w3]; (try simp only [ite_and]); (repeat' (first | with_reducible assumption | refine And.intro ?_ ?_ | intro hp)); all_goals (first | (refine hQ _ ?_; clear hQ Q) | (refine hQ _ (fun h => ?_) (fun h => ?_) <;> clear hQ Q <;> (try simp only [vki, reduceCtorEq] at h)) | omega | assumption | (with_reducible rfl) | (refine drawB_of ?_; kernel_rfl) | skip)))
          refine ⟨⟨⟨m, by omega, by omega⟩, i.less fun h => c1 (r1.2 h.1)⟩, by show m < m + 1; omega, ?_⟩
          (refine Le.ok some [] ?_; constructor; all_goals (try simp only [vle, vkt, seval, -Int.reduceSub, -Int.reduceAdd, -Int.reduceMul, tbG7_84, xbG7_1]))
          all_goals first | rfl | (simp [RI.less]; done)
    · have hk1 : k = 1 := by omega
      subst hk1
      have hl := i.last (by omega) (by omega)
      rw [hV, hl]
      repeat' (first | refine zq0 ?_ | refine zq1 ?_ | refine zq2 ?_ | refine zq3 ?_ | refine zq4 ?_ | refine zq5 ?_ | refine thenK_n ?_ | refine thenK_x ?_ | refine thenK_r ?_ | refine blockK_n ?_ | refine blockK_r ?_ | refine blockK_hit ?_ | refine blockK_miss (by decide) ?_ | ((first | refine sym_reg env fun Q hQ => ?_ | refine sym_cz fun Q hQ => ?_); simp only [vkt, seval, -Int.reduceSub, -Int.reduceAdd, -Int.reduceMul, tbG7_84, xbG7_1]; (try simp only [ite_and]); (repeat' (first | with_reducible assumption | refine And.intro ?_ ?_ | intro hp)); all_goals (first | (refine hQ _ ?_; clear hQ Q) | (refine hQ _ (fun h => ?_) (fun h => ?_) <;> clear hQ Q <;> (try simp only [vki, reduceCtorEq] at h)) | omega | assumption | (with_reducible rfl) | (refine drawB_of ?_; kernel_rfl) | skip)))
      (simp only [vrt, Try.results84, vkt, seval, -Int.reduceSub, -Int.reduceAdd, -Int.reduceMul, tbG7_84, xbG7_1]; refine Fin.ok some [] ?_ ?_ ?_ ?_ ?_ rfl; all_goals (try simp only [vle, vkt, seval, -Int.reduceSub, -Int.reduceAdd, -Int.reduceMul, tbG7_84, xbG7_1]))
      all_goals first | rfl | (simp; done)
noncomputable def p84 (S : St) : List AV → Option Pk
  | [.ptr i 0] => match S.h i with
    | some (.cells [.v (.int .u64 x)]) => some { hs := [i], ar := [.ptr 0 0], L0 := [.cells [.v (.int .u64 x)]], v := .agg [.v (.int .i64 (rtV x).num), .v (.int .i64 (rtV x).den)], L1 := [some (.cells [.v (.int .u64 (rtS x))])], fl := true }
    | _ => none
  | _ => none
theorem e84 {A : Frm → Prop} : EntryOK A Try.prog 84 (fnE p84) := fnE_ok fun S bs q h hp => by
  unfold p84 at h
  split at h
  · split at h
    · cases h; exact rateOf_fn _
    · cases h
  · cases h
noncomputable def oneV (x : Int) (l : List Int) : Int := l.getD (upV x ((l.length : Int) - 1)).toNat 0
theorem upV_le {x m : Int} (h0 : 0 ≤ m) (h : m < 9223372036854775807) : 0 ≤ upV x m ∧ upV x m ≤ m := by
  have := upV_bd (x := x) h; omega
theorem oneV_mem {x : Int} {l : List Int} (h1 : 1 ≤ l.length) (h2 : l.length ≤ 100) : oneV x l ∈ l := by
  have := upV_le (x := x) (m := (l.length : Int) - 1) (by omega) (by omega)
  exact gMem (by omega)
def tbG7_85 := And.intro @ty3 (And.intro @ty22 (And.intro @ti3.eq_1 @ti22.eq_1))
def xbG7_2 := And.intro @aI.eq_1 (And.intro @aB.eq_1 (And.intro @aInts.eq_1 (And.intro @bgH.eq_1 (And.intro @p22.eq_1 (And.intro @p22.eq_2 (And.intro @gInt (@eInt.eq_1)))))))
theorem one_fn (x : Int) (l : List Int) (h1 : 1 ≤ l.length) (h2 : l.length ≤ 100) : Fn noB Try.prog 85 [.ptr 0 0, aInts l] (hasg (bgH x)) (aI (oneV x l)) (hasg (bgH (upS x ((l.length : Int) - 1)))) 0 := by
  have env : Env (fun _ => True) Try.prog tyB (tab [(22, fnE p22)]) := mkEnv ⟨e22, trivial⟩
  refine Fn.of (A := fun _ => True) (n0 := 1) (D := noD) (Fn0 Try.func85 rfl (fun vs w => by kernel_rfl) (by kernel_rfl)) (by simp) (by simp [AV.ids, AV.idsL, aInts]) ?_ (fun _ _ _ _ => trivial) noD_ok ?_
  · intro i o hi
    have h := hasg_mem hi
    simp [bgH] at h
    rcases h with ⟨rfl, rfl⟩; simp [AObj.ids, AV.ids, AV.idsL]
  have hu := upV_le (x := x) (m := (l.length : Int) - 1) (by omega) (by omega)
  have w1 : IntKind.wrap .i64 ((l.length : Int) - 1) = (l.length : Int) - 1 := wrap64 (by omega) (by omega)
  have nz : ¬ (l.length : Int) = 0 := by omega
  have h3 : (l.length : Int) - 1 < 9223372036854775807 := by omega
  have h4 : (upV x ((l.length : Int) - 1)).toNat < l.length := by omega
  repeat' (first | refine zq0 ?_ | refine zq1 ?_ | refine zq2 ?_ | refine zq3 ?_ | refine zq4 ?_ | refine zq5 ?_ | refine thenK_n ?_ | refine thenK_x ?_ | refine thenK_r ?_ | refine blockK_n ?_ | refine blockK_r ?_ | refine blockK_hit ?_ | refine blockK_miss (by decide) ?_ | ((first | refine sym_reg env fun Q hQ => ?_ | refine sym_cz fun Q hQ => ?_); simp only [vkt, seval, -Int.reduceSub, -Int.reduceAdd, -Int.reduceMul, tbG7_85, xbG7_2, w1, nz]; (try simp only [ite_and]); (repeat' (first | with_reducible assumption | refine And.intro ?_ ?_ | intro hp)); all_goals (first | (refine hQ _ ?_; clear hQ Q) | (refine hQ _ (fun h => ?_) (fun h => ?_) <;> clear hQ Q <;> (try simp only [vki, reduceCtorEq] at h)) | omega | assumption | (with_reducible rfl) | (refine drawB_of ?_; kernel_rfl) | skip)))
  (simp only [vrt, Try.results85, vkt, seval, -Int.reduceSub, -Int.reduceAdd, -Int.reduceMul, tbG7_85, xbG7_2]; refine Fin.ok some [] ?_ ?_ ?_ ?_ ?_ rfl; all_goals (try simp only [vle, vkt, seval, -Int.reduceSub, -Int.reduceAdd, -Int.reduceMul, tbG7_85, xbG7_2]))
  all_goals first | rfl | (simp; done)
noncomputable def p85 (S : St) : List AV → Option Pk
  | [.ptr i 0, .row r] => match S.h i with
    | some (.cells [.v (.int .u64 x)]) => match S.h r with
      | some (.row _ _ xs) => some { pre := xs = (xs.map dInt).map eInt ∧ 1 ≤ xs.length ∧ xs.length ≤ 100, hs := [i], bo := [r], ar := [.ptr 0 0, .sl xs], L0 := [.cells [.v (.int .u64 x)]], v := .v (.int .i64 (oneV x (xs.map dInt))), L1 := [some (.cells [.v (.int .u64 (upS x ((xs.length : Int) - 1)))])], fl := true }
      | _ => none
    | _ => none
  | _ => none
theorem e85 {A : Frm → Prop} : EntryOK A Try.prog 85 (fnE p85) := fnE_ok fun S bs q h hp => by
  unfold p85 at h
  split at h
  · split at h
    · split at h
      · cases h
        obtain ⟨h1, h2, h3⟩ := hp
        rename_i x _ _ _ _ xs _
        have := one_fn x (List.map dInt xs) (by rw [List.length_map]; exact h2) (by rw [List.length_map]; exact h3)
        simp only [aInts, ← h1, List.length_map] at this
        exact this
      · cases h
    · cases h
  · cases h
def tbG7_71 := And.intro @ty3 @ti3.eq_1
def xbG7_3 := And.intro @aI.eq_1 (And.intro @aB.eq_1 (And.intro @aInts.eq_1 (And.intro @bgH.eq_1 (And.intro @p22.eq_1 (@p22.eq_2)))))
theorem chance_fn (x n m : Int) (h1 : 1 ≤ m) (h2 : m ≤ 1000) : Fn noB Try.prog 71 [.ptr 0 0, aI n, aI m] (hasg (bgH x)) (aB (decide (upV x (m - 1) < n))) (hasg (bgH (upS x (m - 1)))) 0 := by
  have env : Env (fun _ => True) Try.prog tyB (tab [(22, fnE p22)]) := mkEnv ⟨e22, trivial⟩
  refine Fn.of (A := fun _ => True) (n0 := 1) (D := noD) (Fn0 Try.func71 rfl (fun vs w => by kernel_rfl) (by kernel_rfl)) (by simp) (by simp [AV.ids, AV.idsL, aI]) ?_ (fun _ _ _ _ => trivial) noD_ok ?_
  · intro i o hi
    have h := hasg_mem hi
    simp [bgH] at h
    rcases h with ⟨rfl, rfl⟩; simp [AObj.ids, AV.ids, AV.idsL]
  have w1 : IntKind.wrap .i64 (m - 1) = m - 1 := wrap64 (by omega) (by omega)
  have h3 : m - 1 < 9223372036854775807 := by omega
  repeat' (first | refine zq0 ?_ | refine zq1 ?_ | refine zq2 ?_ | refine zq3 ?_ | refine zq4 ?_ | refine zq5 ?_ | refine thenK_n ?_ | refine thenK_x ?_ | refine thenK_r ?_ | refine blockK_n ?_ | refine blockK_r ?_ | refine blockK_hit ?_ | refine blockK_miss (by decide) ?_ | ((first | refine sym_reg env fun Q hQ => ?_ | refine sym_cz fun Q hQ => ?_); simp only [vkt, seval, -Int.reduceSub, -Int.reduceAdd, -Int.reduceMul, tbG7_71, xbG7_3, w1]; (try simp only [ite_and]); (repeat' (first | with_reducible assumption | refine And.intro ?_ ?_ | intro hp)); all_goals (first | (refine hQ _ ?_; clear hQ Q) | (refine hQ _ (fun h => ?_) (fun h => ?_) <;> clear hQ Q <;> (try simp only [vki, reduceCtorEq] at h)) | omega | assumption | (with_reducible rfl) | (refine drawB_of ?_; kernel_rfl) | skip)))
  (simp only [vrt, Try.results71, vkt, seval, -Int.reduceSub, -Int.reduceAdd, -Int.reduceMul, tbG7_71, xbG7_3]; refine Fin.ok some [] ?_ ?_ ?_ ?_ ?_ rfl; all_goals (try simp only [vle, vkt, seval, -Int.reduceSub, -Int.reduceAdd, -Int.reduceMul, tbG7_71, xbG7_3]))
  all_goals first | rfl | (simp; done)
noncomputable def p71 (S : St) : List AV → Option Pk
  | [.ptr i 0, .v (.int .i64 n), .v (.int .i64 m)] => match S.h i with
    | some (.cells [.v (.int .u64 x)]) => some { pre := 1 ≤ m ∧ m ≤ 1000, hs := [i], ar := [.ptr 0 0, .v (.int .i64 n), .v (.int .i64 m)], L0 := [.cells [.v (.int .u64 x)]], v := .v (.bool (decide (upV x (m - 1) < n))), L1 := [some (.cells [.v (.int .u64 (upS x (m - 1)))])], fl := true }
    | _ => none
  | _ => none
theorem e71 {A : Frm → Prop} : EntryOK A Try.prog 71 (fnE p71) := fnE_ok fun S bs q h hp => by
  unfold p71 at h
  split at h
  · split at h
    · cases h; exact chance_fn _ _ _ hp.1 hp.2
    · cases h
  · cases h
def foldV (x n : Int) : Int := if n < 2 then 0 else (x.tmod n + n).tmod n
def tbG7_54 := And.intro @ty3 @ti3.eq_1
def xbG7_4 := And.intro @aI.eq_1 (@aB.eq_1)
theorem fold_fn (x n : Int) (h2 : n ≤ 1000000) : FnV Try.prog 54 [aI x, aI n] (aI (foldV x n)) := by
  have env : Env (fun _ => True) Try.prog tyB (tab []) := mkEnv trivial
  refine Fn.of (A := fun _ => True) (n0 := 0) (D := noD) (Fn0 Try.func54 rfl (fun vs w => by kernel_rfl) (by kernel_rfl)) (by simp) (by simp [AV.ids, AV.idsL, aI]) (fun i o h => by cases h) (fun _ _ _ _ => trivial) noD_ok ?_
  by_cases c1 : n < 2
  · repeat' (first | refine zq0 ?_ | refine zq1 ?_ | refine zq2 ?_ | refine zq3 ?_ | refine zq4 ?_ | refine zq5 ?_ | refine thenK_n ?_ | refine thenK_x ?_ | refine thenK_r ?_ | refine blockK_n ?_ | refine blockK_r ?_ | refine blockK_hit ?_ | refine blockK_miss (by decide) ?_ | ((first | refine sym_reg env fun Q hQ => ?_ | refine sym_cz fun Q hQ => ?_); simp only [vkt, seval, -Int.reduceSub, -Int.reduceAdd, -Int.reduceMul, tbG7_54, xbG7_4, c1]; (try simp only [ite_and]); (repeat' (first | with_reducible assumption | refine And.intro ?_ ?_ | intro hp)); all_goals (first | (refine hQ _ ?_; clear hQ Q) | (refine hQ _ (fun h => ?_) (fun h => ?_) <;> clear hQ Q <;> (try simp only [vki, reduceCtorEq] at h)) | omega | assumption | (with_reducible rfl) | (refine drawB_of ?_; kernel_rfl) | skip)))
    (simp only [vrt, Try.results54, vkt, seval, -Int.reduceSub, -Int.reduceAdd, -Int.reduceMul, tbG7_54, xbG7_4]; refine Fin.val rfl ?_; (try simp only [AV.le, AV.leL]))
    all_goals simp [foldV, c1]
  · have nz : ¬ n = 0 := by omega
    have h3 : x.tmod n < n := Int.tmod_lt_of_pos x (by omega)
    have h5 : -n < x.tmod n := Int.lt_tmod_of_pos x (by omega)
    have w1 : IntKind.wrap .i64 (x.tmod n + n) = x.tmod n + n := wrap64 (by omega) (by omega)
    repeat' (first | refine zq0 ?_ | refine zq1 ?_ | refine zq2 ?_ | refine zq3 ?_ | refine zq4 ?_ | refine zq5 ?_ | refine thenK_n ?_ | refine thenK_x ?_ | refine thenK_r ?_ | refine blockK_n ?_ | refine blockK_r ?_ | refine blockK_hit ?_ | refine blockK_miss (by decide) ?_ | ((first | refine sym_reg env fun Q hQ => ?_ | refine sym_cz fun Q hQ => ?_); simp only [vkt, seval, -Int.reduceSub, -Int.reduceAdd, -Int.reduceMul, tbG7_54, xbG7_4, c1, nz, w1]; (try simp only [ite_and]); (repeat' (first | with_reducible assumption | refine And.intro ?_ ?_ | intro hp)); all_goals (first | (refine hQ _ ?_; clear hQ Q) | (refine hQ _ (fun h => ?_) (fun h => ?_) <;> clear hQ Q <;> (try simp only [vki, reduceCtorEq] at h)) | omega | assumption | (with_reducible rfl) | (refine drawB_of ?_; kernel_rfl) | skip)))
    (simp only [vrt, Try.results54, vkt, seval, -Int.reduceSub, -Int.reduceAdd, -Int.reduceMul, tbG7_54, xbG7_4]; refine Fin.val rfl ?_; (try simp only [AV.le, AV.leL]))
    all_goals simp [foldV, c1]
def s54 : List AV → Prop × AV
  | [.v (.int .i64 x), .v (.int .i64 n)] => (n ≤ 1000000, aI (foldV x n))
  | _ => (False, .junk)
theorem e54 {A : Frm → Prop} : EntryOK A Try.prog 54 (valE true s54) := valE_ok fun vs _ h => by
  unfold s54 at h ⊢
  split at h
  · exact ⟨trivial, fun _ => trivial, fold_fn _ _ h⟩
  · exact h.elim
theorem foldV_bd {x n : Int} (h : 1 ≤ n) : 0 ≤ foldV x n ∧ foldV x n < n := by
  unfold foldV
  split
  · omega
  · have h5 : -n < x.tmod n := Int.lt_tmod_of_pos x (by omega)
    have h1 : 0 ≤ x.tmod n + n := by omega
    rw [Int.tmod_eq_emod_of_nonneg h1]
    exact ⟨Int.emod_nonneg _ (by omega), Int.emod_lt_of_pos _ (by omega)⟩
end Go.Sym.B
namespace Go.Sym.B
open Go Go.Sym Go.Proofs Go.Sym.C
noncomputable def pcK (x : Int) : Nat → List Int × Int
  | 0 => ([1], x)
  | k + 1 => ((pcK x k).1 ++ [(pcK x k).1.getD k 0 + (1 + upV (pcK x k).2 (12 - 1))], upS (pcK x k).2 (12 - 1))
structure PcOk (p : List Int) (k : Nat) : Prop where
  len : p.length = k + 1
  one : p.getD 0 0 = 1
  up : ∀ i, i < k → p.getD i 0 < p.getD (i + 1) 0
  le : ∀ i, i ≤ k → 1 ≤ p.getD i 0 ∧ p.getD i 0 ≤ 1 + 12 * (i : Int)
theorem getD_snocL {α : Type} {l : List α} {v d : α} {i : Nat} (h : i < l.length) : (l ++ [v]).getD i d = l.getD i d := by
  simp [List.getD_eq_getElem?_getD, List.getElem?_append_left h]
theorem getD_snocR {α : Type} {l : List α} {v d : α} {i : Nat} (h : i = l.length) : (l ++ [v]).getD i d = v := by
  subst h; simp [List.getD_eq_getElem?_getD]
theorem pcK_ok (x : Int) : ∀ k, PcOk (pcK x k).1 k
  | 0 => ⟨rfl, rfl, fun i h => by omega, fun i h => by obtain rfl : i = 0 := by omega
                                                       simp [pcK]⟩
  | k + 1 => by
    have ih := pcK_ok x k
    have hu := upV_bd (x := (pcK x k).2) (m := 12 - 1) (by decide)
    have hl := ih.len
    have hk := ih.le k (Nat.le_refl _)
    rw [pcK]
    refine ⟨by simp [hl], by rw [getD_snocL (by omega)]; exact ih.one, fun i hi => ?_, fun i hi => ?_⟩
    · rcases Nat.lt_or_eq_of_le (Nat.le_of_lt_succ hi) with h | h
      · rw [getD_snocL (by omega), getD_snocL (by omega)]; exact ih.up i h
      · subst h; rw [getD_snocL (by omega), getD_snocR hl.symm]; omega
    · rcases Nat.lt_or_eq_of_le hi with h | h
      · rw [getD_snocL (by omega)]; exact ih.le i (by omega)
      · subst h; rw [getD_snocR hl.symm]; omega
structure CoS where
  cs : List (List Int)
  ss : List Int
  x : Int
noncomputable def coStep (s : CoS) : CoS := ⟨s.cs ++ [(pcK (upS s.x 3) (upV s.x 3).toNat).1], s.ss ++ [upV (pcK (upS s.x 3) (upV s.x 3).toNat).2 200], upS (pcK (upS s.x 3) (upV s.x 3).toNat).2 200⟩
noncomputable def coK (x : Int) : Nat → CoS
  | 0 => ⟨[], [], x⟩
  | k + 1 => coStep (coK x k)
theorem coK_succ (x : Int) (k : Nat) : coK x (k + 1) = coStep (coK x k) := rfl
structure CoOk (s : CoS) (k : Nat) : Prop where
  c : s.cs.length = k
  l : s.ss.length = k
  p : ∀ q ∈ s.cs, ∃ j, j ≤ 3 ∧ PcOk q j
  v : ∀ n ∈ s.ss, 0 ≤ n ∧ n ≤ 200
theorem coK_ok (x : Int) : ∀ k, CoOk (coK x k) k
  | 0 => ⟨rfl, rfl, fun q hq => by simp [coK] at hq, fun q hq => by simp [coK] at hq⟩
  | k + 1 => by
    have ih := coK_ok x k
    rw [coK_succ]
    unfold coStep
    have h1 := upV_bd (x := (coK x k).x) (m := 3) (by decide)
    have h2 := upV_bd (x := (pcK (upS (coK x k).x 3) (upV (coK x k).x 3).toNat).2) (m := 200) (by decide)
    refine ⟨by simp [ih.c], by simp [ih.l], fun q hq => ?_, fun q hq => ?_⟩
    · rcases List.mem_append.1 hq with hq | hq
      · exact ih.p q hq
      · obtain rfl := List.mem_singleton.1 hq
        exact ⟨_, by omega, pcK_ok _ _⟩
    · rcases List.mem_append.1 hq with hq | hq
      · exact ih.v q hq
      · obtain rfl := List.mem_singleton.1 hq
        omega
noncomputable def rtK (x : Int) : Nat → List Sh × Int
  | 0 => ([⟨1, 1⟩], x)
  | k + 1 => ((rtK x k).1 ++ [rtV (rtK x k).2], rtS (rtK x k).2)
structure ShOk (s : Sh) : Prop where
  n : 1 ≤ s.num ∧ s.num ≤ 20
  d : 1 ≤ s.den ∧ s.den ≤ 12
  r : s = shQ (mkRat s.num s.den.toNat)
theorem shQ_ok {q : Rat} (h1 : 1 ≤ q.num ∧ q.num ≤ 20) (h2 : (q.den : Int) ≤ 12) : ShOk (shQ q) :=
  ⟨h1, ⟨by have := den_pos q; show (1 : Int) ≤ (q.den : Int); omega, h2⟩, by show shQ q = shQ (mkRat q.num (q.den : Int).toNat); rw [Int.toNat_natCast, Rat.mkRat_self]⟩
theorem mkq_bd {n d : Int} (hn : 1 ≤ n ∧ n ≤ 20) (hd : 1 ≤ d ∧ d ≤ 12) : (1 ≤ (mkRat n d.toNat).num ∧ (mkRat n d.toNat).num ≤ 20) ∧ ((mkRat n d.toNat).den : Int) ≤ 12 := by
  have hq : (0 : Int) < d := by omega
  have e1 := mk_num_le (a := n) hq
  have e2 := mk_den_le (a := n) hq
  have hp : 0 < (mkRat n d.toNat).num := by
    have hm := mk_num (a := n) hq
    have h5 : 0 < Nat.gcd n.natAbs d.toNat := Nat.gcd_pos_of_pos_left _ (by omega)
    have h6 := Nat.gcd_dvd_left n.natAbs d.toNat
    rw [hm]
    generalize Nat.gcd n.natAbs d.toNat = g at *
    obtain ⟨q, hq⟩ := h6
    have h7 : n = (g : Int) * (q : Int) := by
      rw [show n = (n.natAbs : Int) by omega, hq]; exact Int.natCast_mul g q
    rw [h7, Int.mul_tdiv_cancel_left _ (by omega)]
    rcases Nat.eq_zero_or_pos q with h8 | h8
    · subst h8; simp at h7; omega
    · omega
  omega
theorem rtV_ok (x : Int) : ShOk (rtV x) := by
  have h := mkq_bd (rt_bd7 x).1 (rt_bd7 x).2
  unfold rtV
  exact shQ_ok h.1 h.2
structure RwOk (r : List Sh) (m : Nat) : Prop where
  len : r.length = m
  one : r.getD 0 default = ⟨1, 1⟩
  all : ∀ s ∈ r, ShOk s
theorem rtK_ok (x : Int) : ∀ k, RwOk (rtK x k).1 (k + 1)
  | 0 => ⟨rfl, rfl, fun s hs => by
    obtain rfl := List.mem_singleton.1 hs
    exact ⟨by decide, by decide, by decide +kernel⟩⟩
  | k + 1 => by
    have ih := rtK_ok x k
    rw [rtK]
    refine ⟨by simp [ih.len], by rw [getD_snocL (by have := ih.len; omega)]; exact ih.one, fun s hs => ?_⟩
    rcases List.mem_append.1 hs with hs | hs
    · exact ih.all s hs
    · obtain rfl := List.mem_singleton.1 hs
      exact rtV_ok _
noncomputable def dyK (m : Nat) (x : Int) : Nat → List (List Sh) × Int
  | 0 => ([], x)
  | k + 1 => ((dyK m x k).1 ++ [(rtK (dyK m x k).2 m).1], (rtK (dyK m x k).2 m).2)
theorem dyK_ok (m : Nat) (x : Int) : ∀ k, (dyK m x k).1.length = k ∧ ∀ r ∈ (dyK m x k).1, RwOk r (m + 1)
  | 0 => ⟨rfl, fun r h => by simp [dyK] at h⟩
  | k + 1 => by
    obtain ⟨h1, h2⟩ := dyK_ok m x k
    rw [dyK]
    refine ⟨by simp [h1], fun r hr => ?_⟩
    rcases List.mem_append.1 hr with hr | hr
    · exact h2 r hr
    · obtain rfl := List.mem_singleton.1 hr
      exact rtK_ok _ _
structure EnS where
  day : Int
  till : List Int
  es : List Ent
  x : Int
noncomputable def enD (R : Nat) (s : EnS) : Int := s.day + upV s.x (min (s.day + 1) ((R : Int) - 1) - s.day)
noncomputable def enX1 (R : Nat) (s : EnS) : Int := upS s.x (min (s.day + 1) ((R : Int) - 1) - s.day)
def kinds : List Int := [1, 2, 3, 3, 3, 4]
noncomputable def enS1 (s : EnS) (day coin x : Int) : EnS := ⟨day, s.till.set coin.toNat (s.till.getD coin.toNat 0 + upV x 90), s.es ++ [⟨day, 1, coin, 0, upV x 90, 0⟩], upS x 90⟩
noncomputable def enS2 (s : EnS) (day coin x : Int) : EnS := ⟨day, s.till.set coin.toNat (s.till.getD coin.toNat 0 - upV x (min (s.till.getD coin.toNat 0) 90)), s.es ++ [⟨day, 2, coin, 0, upV x (min (s.till.getD coin.toNat 0) 90), 0⟩], upS x (min (s.till.getD coin.toNat 0) 90)⟩
noncomputable def enF (x : Int) : Int := -3 + upV x (3 - -3)
noncomputable def enA4 (h x : Int) : Int := max 0 (min 999 (h + oneV (upS x (3 - -3)) [0, enF x]))
noncomputable def enS4 (s : EnS) (day coin x : Int) : EnS := ⟨day, s.till.set coin.toNat (enA4 (s.till.getD coin.toNat 0) x), s.es ++ [⟨day, 4, coin, 0, enA4 (s.till.getD coin.toNat 0) x, 0⟩], upS (upS x (3 - -3)) ((2 : Nat) - 1)⟩
def enG0 (rs : List (List Sh)) (day coin to am : Int) : Int :=
  (am * ((rs.getD day.toNat []).getD coin.toNat default).num * ((rs.getD day.toNat []).getD to.toNat default).den).tdiv (((rs.getD day.toNat []).getD coin.toNat default).den * ((rs.getD day.toNat []).getD to.toNat default).num)
def enS3b (s : EnS) (day coin to am got x : Int) : EnS :=
  if 999 < got then ⟨day, s.till, s.es, x⟩ else ⟨day, (s.till.set coin.toNat (s.till.getD coin.toNat 0 - am)).set to.toNat (s.till.getD to.toNat 0 + got), s.es ++ [⟨day, 3, coin, to, am, got⟩], x⟩
noncomputable def enS3a (rs : List (List Sh)) (w : Int) (s : EnS) (day coin to am x : Int) : EnS :=
  if upV x (10 - 1) < w then enS3b s day coin to am (enG0 rs day coin to am + (1 + upV (upS x (10 - 1)) (3 - 1))) (upS (upS x (10 - 1)) (3 - 1))
  else enS3b s day coin to am (enG0 rs day coin to am) (upS x (10 - 1))
noncomputable def enTo (C : Nat) (coin x : Int) : Int := foldV (coin + (1 + upV x ((C : Int) - 1 - 1))) C
noncomputable def enS3 (C : Nat) (rs : List (List Sh)) (w : Int) (s : EnS) (day coin x : Int) : EnS :=
  if C = 1 then ⟨day, s.till, s.es, x⟩ else
  enS3a rs w s day coin (enTo C coin x) (upV (upS x ((C : Int) - 1 - 1)) (min (s.till.getD coin.toNat 0) 40)) (upS (upS x ((C : Int) - 1 - 1)) (min (s.till.getD coin.toNat 0) 40))
noncomputable def enS0 (C : Nat) (rs : List (List Sh)) (w : Int) (s : EnS) (day kind coin x : Int) : EnS :=
  if kind = 1 then enS1 s day coin x else if kind = 2 then enS2 s day coin x else if kind = 4 then enS4 s day coin x else enS3 C rs w s day coin x
noncomputable def enK0 (R : Nat) (s : EnS) : Int := oneV (enX1 R s) kinds
noncomputable def enX2 (R : Nat) (s : EnS) : Int := upS (enX1 R s) ((6 : Nat) - 1)
noncomputable def enStep (C : Nat) (rs : List (List Sh)) (w : Int) (s : EnS) : EnS :=
  enS0 C rs w s (enD rs.length s) (enK0 rs.length s) (upV (enX2 rs.length s) ((C : Int) - 1)) (upS (enX2 rs.length s) ((C : Int) - 1))
noncomputable def enK (C : Nat) (rs : List (List Sh)) (w : Int) (s : EnS) : Nat → EnS
  | 0 => s
  | k + 1 => enStep C rs w (enK C rs w s k)
structure EnI (C R k : Nat) (s : EnS) : Prop where
  d0 : 0 ≤ s.day
  d1 : s.day ≤ (R : Int) - 1
  len : s.till.length = C
  b : ∀ v ∈ s.till, 0 ≤ v ∧ v ≤ 999 * ((k : Int) + 1)
  es : s.es.length ≤ k
theorem enD_bd {C R k : Nat} {s : EnS} (h : EnI C R k s) (hR : R ≤ 100) : s.day ≤ enD R s ∧ enD R s ≤ (R : Int) - 1 := by
  have h0 := h.d0
  have h1 := h.d1
  have := upV_le (x := s.x) (m := min (s.day + 1) ((R : Int) - 1) - s.day) (by omega) (by omega)
  unfold enD
  omega
structure EnJ (C R k : Nat) (s : EnS) (day coin : Int) : Prop where
  i : EnI C R k s
  d0 : 0 ≤ day
  d1 : day ≤ (R : Int) - 1
  c0 : 0 ≤ coin
  c1 : coin ≤ (C : Int) - 1
theorem EnJ.h {C R k : Nat} {s : EnS} {day coin : Int} (j : EnJ C R k s day coin) : 0 ≤ s.till.getD coin.toNat 0 ∧ s.till.getD coin.toNat 0 ≤ 999 * ((k : Int) + 1) := by
  have := j.c0
  have := j.c1
  have := j.i.len
  exact j.i.b _ (gMem (by omega))
theorem mem_set_bd {l : List Int} {i : Nat} {v : Int} {P : Int → Prop} (h : ∀ x ∈ l, P x) (hv : P v) : ∀ x ∈ l.set i v, P x := fun x hx => by
  rcases List.mem_or_eq_of_mem_set hx with h1 | h1
  · exact h x h1
  · exact h1 ▸ hv
theorem EnJ.bd {C R k : Nat} {s : EnS} {day coin : Int} (j : EnJ C R k s day coin) : ∀ v ∈ s.till, 0 ≤ v ∧ v ≤ 999 * (((k + 1 : Nat) : Int) + 1) := fun v hv => by
  have := j.i.b v hv; omega
theorem EnJ.set {C R k : Nat} {s : EnS} {day coin : Int} (j : EnJ C R k s day coin) {v : Int} {e : Ent} {x : Int} (h : 0 ≤ v ∧ v ≤ 999 * ((k : Int) + 1) + 999) : EnI C R (k + 1) ⟨day, s.till.set coin.toNat v, s.es ++ [e], x⟩ :=
  ⟨j.d0, j.d1, by simp [j.i.len], mem_set_bd j.bd (by omega), by simp; exact j.i.es⟩
theorem enA4_bd (h x : Int) : 0 ≤ enA4 h x ∧ enA4 h x ≤ 999 := by unfold enA4; omega
theorem enS3b_ok {C R k : Nat} {s : EnS} {day coin : Int} (j : EnJ C R k s day coin) {to am got x : Int} (ha : 0 ≤ am) (ha' : am ≤ s.till.getD coin.toNat 0) (ht : 0 ≤ to ∧ to < C) (hg : 0 ≤ got) : EnI C R (k + 1) (enS3b s day coin to am got x) := by
  unfold enS3b
  have hh := j.h
  have hl := j.i.len
  split
  · exact ⟨j.d0, j.d1, hl, j.bd, Nat.le_succ_of_le j.i.es⟩
  · have h2 := j.i.b _ (gMem (l := s.till) (k := to.toNat) (d := 0) (by omega))
    exact ⟨j.d0, j.d1, by simp [hl], mem_set_bd (mem_set_bd j.bd (by omega)) (by omega), by simp; exact j.i.es⟩
theorem enG0_bd {rs : List (List Sh)} {day coin to am : Int} (h1 : ShOk ((rs.getD day.toNat []).getD coin.toNat default)) (h2 : ShOk ((rs.getD day.toNat []).getD to.toNat default)) (ha : 0 ≤ am) (ha' : am ≤ 40) :
    0 ≤ enG0 rs day coin to am ∧ enG0 rs day coin to am ≤ 9600 := by
  unfold enG0
  have a1 := h1.n
  have a2 := h1.d
  have a3 := h2.n
  have a4 := h2.d
  generalize ((rs.getD day.toNat []).getD coin.toNat default).num = p at *
  generalize ((rs.getD day.toNat []).getD coin.toNat default).den = q at *
  generalize ((rs.getD day.toNat []).getD to.toNat default).num = r at *
  generalize ((rs.getD day.toNat []).getD to.toNat default).den = u at *
  have m1 : 0 ≤ am * p * u := Int.mul_nonneg (Int.mul_nonneg ha (by omega)) (by omega)
  have m2 : am * p ≤ 40 * 20 := Int.mul_le_mul ha' a1.2 (by omega) (by omega)
  have m3 : am * p * u ≤ 40 * 20 * 12 := Int.mul_le_mul m2 a4.2 (by omega) (by omega)
  have m4 : 0 < q * r := Int.mul_pos (by omega) (by omega)
  rw [Int.tdiv_eq_ediv_of_nonneg m1]
  refine ⟨Int.ediv_nonneg m1 (by omega), Int.le_trans (Int.ediv_le_self _ m1) (by omega)⟩
structure RsOk (rs : List (List Sh)) (C : Nat) : Prop where
  len : 1 ≤ rs.length ∧ rs.length ≤ 4
  all : ∀ r ∈ rs, RwOk r C
theorem RsOk.sh {rs : List (List Sh)} {C : Nat} (h : RsOk rs C) {day coin : Int} (h1 : 0 ≤ day) (h2 : day ≤ (rs.length : Int) - 1) (h3 : 0 ≤ coin) (h4 : coin ≤ (C : Int) - 1) : ShOk ((rs.getD day.toNat []).getD coin.toNat default) := by
  have hr := h.all _ (gMem (l := rs) (k := day.toNat) (d := []) (by omega))
  exact hr.all _ (gMem (by have := hr.len; omega))
theorem enS0_ok {C k : Nat} {rs : List (List Sh)} (hr : RsOk rs C) (hC : 1 ≤ C ∧ C ≤ 4) {w : Int} {s : EnS} {day coin : Int} (j : EnJ C rs.length k s day coin) (kind x : Int) : EnI C rs.length (k + 1) (enS0 C rs w s day kind coin x) := by
  have hh := j.h
  have hc0 := j.c0
  have hc1 := j.c1
  unfold enS0
  split
  · unfold enS1
    have := upV_le (x := x) (m := 90) (by decide) (by decide)
    exact j.set (by omega)
  split
  · unfold enS2
    have := upV_bd (x := x) (m := min (s.till.getD coin.toNat 0) 90) (by omega)
    exact j.set (by omega)
  split
  · unfold enS4
    have := enA4_bd (s.till.getD coin.toNat 0) x
    exact j.set (by omega)
  · unfold enS3
    split
    · exact ⟨j.d0, j.d1, j.i.len, j.bd, Nat.le_succ_of_le j.i.es⟩
    · have ht : 0 ≤ enTo C coin x ∧ enTo C coin x < C := foldV_bd (by omega)
      generalize enTo C coin x = to at *
      generalize upS x ((C : Int) - 1 - 1) = y
      have ha := upV_bd (x := y) (m := min (s.till.getD coin.toNat 0) 40) (by omega)
      generalize upV y (min (s.till.getD coin.toNat 0) 40) = am at *
      have s1 := hr.sh j.d0 j.d1 hc0 hc1
      have s2 := hr.sh j.d0 j.d1 ht.1 (show to ≤ (C : Int) - 1 by omega)
      have hg := enG0_bd s1 s2 (am := am) (by omega) (by omega)
      unfold enS3a
      split
      · have := upV_bd (x := upS (upS y (min (s.till.getD coin.toNat 0) 40)) (10 - 1)) (m := 3 - 1) (by decide)
        exact enS3b_ok j (by omega) (by omega) ht (by omega)
      · exact enS3b_ok j (by omega) (by omega) ht (by omega)
theorem enJ_of {C k : Nat} {rs : List (List Sh)} (hr : RsOk rs C) (hC : 1 ≤ C ∧ C ≤ 4) {s : EnS} (h : EnI C rs.length k s) : EnJ C rs.length k s (enD rs.length s) (upV (enX2 rs.length s) ((C : Int) - 1)) := by
  have h1 := enD_bd h (by have := hr.len; omega)
  have h2 := upV_le (x := enX2 rs.length s) (m := (C : Int) - 1) (by omega) (by omega)
  exact ⟨h, by have := h.d0; omega, h1.2, h2.1, h2.2⟩
theorem enK_ok {C : Nat} {rs : List (List Sh)} (hr : RsOk rs C) (hC : 1 ≤ C ∧ C ≤ 4) {w : Int} {s : EnS} (h : EnI C rs.length 0 s) : ∀ k, EnI C rs.length k (enK C rs w s k)
  | 0 => h
  | k + 1 => enS0_ok hr hC (enJ_of hr hC (enK_ok hr hC h k)) _ _
noncomputable def lg1 (x c : Int) : CoS := coK (upS x (c - 1)) (1 + upV x (c - 1)).toNat
noncomputable def lg2 (x c d : Int) : List (List Sh) × Int := dyK ((lg1 x c).cs.length - 1) (upS (lg1 x c).x (d - 1)) (1 + upV (lg1 x c).x (d - 1)).toNat
noncomputable def lg3 (x c d e w : Int) : EnS := enK (lg1 x c).cs.length (lg2 x c d).1 w ⟨0, (lg1 x c).ss, [], upS (lg2 x c d).2 e⟩ (upV (lg2 x c d).2 e).toNat
noncomputable def lgL (x c d e w : Int) : Led := ⟨(lg1 x c).cs, (lg2 x c d).1, (lg1 x c).ss, (lg3 x c d e w).es⟩
noncomputable def lgS (x c d e w : Int) : Int := (lg3 x c d e w).x
end Go.Sym.B
namespace Go.Sym.B
open Go Go.Sym Go.Proofs Go.Sym.C
def tbG9_23 := And.intro @ty3 (And.intro @ty22 (And.intro @ti3.eq_1 @ti22.eq_1))
def xbG9_1 := And.intro @aI.eq_1 (And.intro @aB.eq_1 (And.intro @aInts.eq_1 (@rInt)))
theorem copyR_fn (l : List Int) (hl : l.length ≤ 100000) : Fn noB Try.prog 23 [aInts l] noH (.row 0) (hasg [(0, .row 3 1 (l.map eInt))]) 0 := by
  have env : Env (fun _ => True) Try.prog tyB (tab []) := mkEnv trivial
  refine Fn.of (A := fun _ => True) (n0 := 0) (D := noD) (Fn0 Try.func23 rfl (fun vs w => by kernel_rfl) (by kernel_rfl)) (by simp) (by simp [AV.ids, AV.idsL, aInts]) (fun i o h => by cases h) (fun _ _ _ _ => trivial) noD_ok ?_
  obtain ⟨b1, b2, b3, b4⟩ := b47 hl
  repeat' (first | refine zq0 ?_ | refine zq1 ?_ | refine zq2 ?_ | refine zq3 ?_ | refine zq4 ?_ | refine zq5 ?_ | refine thenK_n ?_ | refine thenK_x ?_ | refine thenK_r ?_ | refine blockK_n ?_ | refine blockK_r ?_ | refine blockK_hit ?_ | refine blockK_miss (by decide) ?_ | ((first | refine sym_reg env fun Q hQ => ?_ | refine sym_cz fun Q hQ => ?_); simp only [vkt, Nat.reduceEqDiff, Nat.reduceAdd, Nat.reduceMul, Nat.reduceSub, Nat.reduceLeDiff, reduceCtorEq, ↓reduceIte, ↓reduceDIte, Int.reduceToNat, Int.reduceLE, Int.reduceLT, Int.reduceEq, Int.reduceNeg, tbG9_23, xbG9_1]; (try simp only [ite_and]); (repeat' (first | with_reducible assumption | refine And.intro ?_ ?_ | intro hp)); all_goals (first | (refine hQ _ ?_; clear hQ Q) | (refine hQ _ (fun h => ?_) (fun h => ?_) <;> clear hQ Q <;> (try simp only [vki, reduceCtorEq] at h)) | omega | assumption | (with_reducible rfl) | (refine drawB_of ?_; kernel_rfl) | skip)))
  (simp only [vrt, Try.results23, vkt, Nat.reduceEqDiff, Nat.reduceAdd, Nat.reduceMul, Nat.reduceSub, Nat.reduceLeDiff, reduceCtorEq, ↓reduceIte, ↓reduceDIte, Int.reduceToNat, Int.reduceLE, Int.reduceLT, Int.reduceEq, Int.reduceNeg, tbG9_23, xbG9_1]; refine Fin.ok some [] ?_ ?_ ?_ ?_ ?_ rfl; all_goals (try simp only [vle, vkt, Nat.reduceEqDiff, Nat.reduceAdd, Nat.reduceMul, Nat.reduceSub, Nat.reduceLeDiff, reduceCtorEq, ↓reduceIte, ↓reduceDIte, Int.reduceToNat, Int.reduceLE, Int.reduceLT, Int.reduceEq, Int.reduceNeg, tbG9_23, xbG9_1]))
  all_goals first | rfl | (simp; done)
theorem flInt (l : List Int) : (∀ r ∈ l.map eInt, ∀ d ∈ r, ∃ x, d = DV.v x) = True := by
  simp [eInt]
def p23r (S : St) : List AV → Option Pk
  | [.row r] => match S.h r with
    | some (.row _ _ xs) => some { pre := xs = (xs.map dInt).map eInt ∧ xs.length ≤ 100000, bo := [r], ar := [.sl xs], v := .row 0, L1 := [some (.row 3 1 xs)], fl := true }
    | _ => none
  | [.sl xs] => some { pre := xs = (xs.map dInt).map eInt ∧ xs.length ≤ 100000, ar := [.sl xs], v := .row 0, L1 := [some (.row 3 1 xs)] }
  | _ => none
theorem e23r {A : Frm → Prop} : EntryOK A Try.prog 23 (fnE p23r) := fnE_ok fun S bs q h hp => by
  unfold p23r at h
  split at h
  · split at h
    · cases h
      rename_i xs _
      have := copyR_fn (List.map dInt xs) (by rw [List.length_map]; exact hp.2)
      simp only [aInts, ← hp.1] at this
      exact this
    · cases h
  · cases h
    rename_i xs
    have := copyR_fn (List.map dInt xs) (by rw [List.length_map]; exact hp.2)
    simp only [aInts, ← hp.1] at this
    exact this
  · cases h
theorem pcK_1 (y : Int) (j : Nat) : (pcK y (j + 1)).1 = (pcK y j).1 ++ [(pcK y j).1.getD j 0 + (1 + upV (pcK y j).2 (12 - 1))] := rfl
theorem pcK_2 (y : Int) (j : Nat) : (pcK y (j + 1)).2 = upS (pcK y j).2 (12 - 1) := rfl
theorem rtK_1 (y : Int) (j : Nat) : (rtK y (j + 1)).1 = (rtK y j).1 ++ [rtV (rtK y j).2] := rfl
theorem rtK_2 (y : Int) (j : Nat) : (rtK y (j + 1)).2 = rtS (rtK y j).2 := rfl
theorem dyK_1 (m : Nat) (y : Int) (j : Nat) : (dyK m y (j + 1)).1 = (dyK m y j).1 ++ [(rtK (dyK m y j).2 m).1] := rfl
theorem dyK_2 (m : Nat) (y : Int) (j : Nat) : (dyK m y (j + 1)).2 = (rtK (dyK m y j).2 m).2 := rfl
theorem enK_1 (C : Nat) (rs : List (List Sh)) (w : Int) (s : EnS) (k : Nat) : enK C rs w s (k + 1) = enStep C rs w (enK C rs w s k) := rfl
theorem gRow {l : List (List Sh)} {n : Nat} (h : n < l.length) : (l.map eShs).getD n [] = eShs (l.getD n []) := by simp [List.getD_eq_getElem?_getD, h]
theorem dIntW (n : Int) : dInt [.v (.int .i64 n)] = n := rfl
def loT (c d e w : Int) : List (Nat × AV) := [(0, .ptr 0 0), (1, aI c), (2, aI d), (3, aI e), (4, aI w), (10, .ptr 1 0), (11, .ptr 2 0)]
def nil4 : List AV := [.nil, .nil, .nil, .nil]
noncomputable def lo1 (c d e w : Int) (b : Int) (V k : Nat) : St := { t := asg (loT c d e w ++ [(12, aI ((V : Int) - (k : Int)))]), h := hasg [(0, .cells [.v (.int .u64 (coK b k).x)]), (1, .cells nil4), (2, .cells [.row 3, .nil, .row 4, .nil]), (3, .row 22 1 ((coK b k).cs.map eInts)), (4, .row 3 1 ((coK b k).ss.map eInt))], n := 5, m := 1 }
noncomputable def lo2 (c d e w : Int) (s : CoS) (y : Int) (V k K j : Nat) : St := { t := asg (loT c d e w ++ [(12, aI ((V : Int) - (k : Int))), (13, .row 5), (14, aI ((K : Int) - (j : Int)))]), h := hasg [(0, .cells [.v (.int .u64 (pcK y j).2)]), (1, .cells nil4), (2, .cells [.row 3, .nil, .row 4, .nil]), (3, .row 22 1 (s.cs.map eInts)), (4, .row 3 1 (s.ss.map eInt)), (5, .row 3 1 ((pcK y j).1.map eInt))], n := 6, m := 1 }
def lo3 (c d e w : Int) (s : CoS) (p : List Int) (y : Int) (V k : Nat) : St := { t := asg (loT c d e w ++ [(12, aI ((V : Int) - (k : Int))), (13, aInts p)]), h := hasg [(0, .cells [.v (.int .u64 y)]), (1, .cells nil4), (2, .cells [.row 3, .nil, .row 4, .nil]), (3, .row 22 1 (s.cs.map eInts)), (4, .row 3 1 (s.ss.map eInt))], n := 5, m := 1 }
noncomputable def ld1 (c d e w : Int) (s : CoS) (m : Nat) (b : Int) (V k : Nat) : St := { t := asg (loT c d e w ++ [(15, aI ((V : Int) - (k : Int)))]), h := hasg [(0, .cells [.v (.int .u64 (dyK m b k).2)]), (1, .cells nil4), (2, .cells [.row 3, .row 5, .row 4, .nil]), (3, .row 22 1 (s.cs.map eInts)), (4, .row 3 1 (s.ss.map eInt)), (5, .row 55 1 ((dyK m b k).1.map eShs))], n := 6, m := 1 }
noncomputable def ld2 (c d e w : Int) (s : CoS) (rs : List (List Sh)) (y : Int) (V k j : Nat) : St := { t := asg (loT c d e w ++ [(15, aI ((V : Int) - (k : Int))), (16, .row 6), (17, aI ((j : Int) + 1))]), h := hasg [(0, .cells [.v (.int .u64 (rtK y j).2)]), (1, .cells nil4), (2, .cells [.row 3, .row 5, .row 4, .nil]), (3, .row 22 1 (s.cs.map eInts)), (4, .row 3 1 (s.ss.map eInt)), (5, .row 55 1 (rs.map eShs)), (6, .row 59 2 ((rtK y j).1.map eSh))], n := 7, m := 1 }
def ld3 (c d e w : Int) (s : CoS) (rs : List (List Sh)) (r : List Sh) (y : Int) (V k : Nat) : St := { t := asg (loT c d e w ++ [(15, aI ((V : Int) - (k : Int))), (16, aShs r)]), h := hasg [(0, .cells [.v (.int .u64 y)]), (1, .cells nil4), (2, .cells [.row 3, .row 5, .row 4, .nil]), (3, .row 22 1 (s.cs.map eInts)), (4, .row 3 1 (s.ss.map eInt)), (5, .row 55 1 (rs.map eShs))], n := 6, m := 1 }
def le1 (c d e w : Int) (s : CoS) (rs : List (List Sh)) (t : EnS) (V k : Nat) : St := { t := asg (loT c d e w ++ [(18, .row 6), (19, aI t.day), (20, aI ((V : Int) - (k : Int)))]), h := hasg [(0, .cells [.v (.int .u64 t.x)]), (1, .cells nil4), (2, .cells [.row 3, .row 5, .row 4, .row 7]), (3, .row 22 1 (s.cs.map eInts)), (4, .row 3 1 (s.ss.map eInt)), (5, .row 55 1 (rs.map eShs)), (6, .row 3 1 (t.till.map eInt)), (7, .row 48 6 (t.es.map eEnt))], n := 8, m := 1 }
def tbG9_27 := And.intro @ty3 (And.intro @ty22 (And.intro @ty28 (And.intro @ty35 (And.intro @ty36 (And.intro @ty38 (And.intro @ty48 (And.intro @ty55 (And.intro @ty59 (And.intro @ti3.eq_1 (And.intro @ti22.eq_1 (And.intro @ti28.eq_1 (And.intro @ti35.eq_1 (And.intro @ti36.eq_1 (And.intro @ti38.eq_1 (And.intro @ti48.eq_1 (And.intro @ti55.eq_1 @ti59.eq_1))))))))))))))))
def xbG9_2 := And.intro @aI.eq_1 (And.intro @aB.eq_1 (And.intro @aSh.eq_1 (And.intro @aLed.eq_1 (And.intro @cLed.eq_1 (And.intro @aInts.eq_1 (And.intro @aShs.eq_1 (And.intro @bgH.eq_1 (And.intro @mInt (And.intro @dIntW (And.intro @loT.eq_1 (And.intro @nil4.eq_1 (And.intro @lo1.eq_1 (And.intro @lo2.eq_1 (And.intro @lo3.eq_1 (And.intro @ld1.eq_1 (And.intro @ld2.eq_1 (And.intro @ld3.eq_1 (And.intro @le1.eq_1 (And.intro @p21.eq_1 (And.intro @p21.eq_2 (And.intro @p22.eq_1 (And.intro @p22.eq_2 (And.intro @p84.eq_1 (And.intro @p84.eq_2 (And.intro @p85.eq_1 (And.intro @p85.eq_2 (And.intro @p71.eq_1 (And.intro @p71.eq_2 (And.intro @s54.eq_1 (And.intro @s54.eq_2 (And.intro @p23r.eq_1 (And.intro @p23r.eq_2 (And.intro @p23r.eq_3 (And.intro @gInt (And.intro @eInt.eq_1 (And.intro @eShs.eq_1 (And.intro @rInt (And.intro @rSh (And.intro @rEnt (And.intro @rInts (And.intro @rShs (@flInt))))))))))))))))))))))))))))))))))))))))))
set_option maxRecDepth 100000 in
set_option maxHeartbeats 40000000 in
theorem ledgerOf_fn (x c d e w : Int) (hc : 1 ≤ c ∧ c ≤ 4) (hd : 1 ≤ d ∧ d ≤ 4) (he : 0 ≤ e ∧ e ≤ 6) : Fn noB Try.prog 27 [.ptr 0 0, aI c, aI d, aI e, aI w] (hasg (bgH x)) (aLed (lgL x c d e w)) (hasg (bgH (lgS x c d e w))) 0 := by
  have env : Env (fun _ => True) Try.prog tyB (tab [(21, fnE p21), (22, fnE p22), (23, fnE p23r), (84, fnE p84), (85, fnE p85), (71, fnE p71), (54, valE true s54)]) := mkEnv ⟨e21, e22, e23r, e84, e85, e71, e54, trivial⟩
  refine Fn.of (A := fun _ => True) (n0 := 1) (D := noD) (Fn0 Try.func27 rfl (fun vs w => by kernel_rfl) (by kernel_rfl)) (by simp) (by simp [AV.ids, AV.idsL, aI]) ?_ (fun _ _ _ _ => trivial) noD_ok ?_
  · intro i o hi
    have h := hasg_mem hi
    simp [bgH] at h
    rcases h with ⟨rfl, rfl⟩; simp [AObj.ids, AV.ids, AV.idsL]
  have mc : min c 4 = c := by omega
  have md : min d 4 = d := by omega
  have me : min e 6 = e := by omega
  have big : (100000 : Nat) ≤ maxLen := by decide
  have hu := upV_le (x := x) (m := c - 1) (by omega) (by omega)
  obtain ⟨V, hV⟩ : ∃ V : Nat, 1 + upV x (c - 1) = (V : Int) := ⟨(1 + upV x (c - 1)).toNat, by omega⟩
  have hV1 : 1 ≤ V ∧ V ≤ 4 := by omega
  have g1 : lg1 x c = coK (upS x (c - 1)) V := by unfold lg1; rw [hV]; rfl
  generalize hb : upS x (c - 1) = b at *
  repeat' (first | refine zq0 ?_ | refine zq1 ?_ | refine zq2 ?_ | refine zq3 ?_ | refine zq4 ?_ | refine zq5 ?_ | refine thenK_n ?_ | refine thenK_x ?_ | refine thenK_r ?_ | refine blockK_n ?_ | refine blockK_r ?_ | refine blockK_hit ?_ | refine blockK_miss (by decide) ?_ | ((first | refine sym_reg env fun Q hQ => ?_ | refine sym_cz fun Q hQ => ?_); simp only [vkt, Nat.reduceEqDiff, Nat.reduceAdd, Nat.reduceMul, Nat.reduceSub, Nat.reduceLeDiff, reduceCtorEq, ↓reduceIte, ↓reduceDIte, Int.reduceToNat, Int.reduceLE, Int.reduceLT, Int.reduceEq, Int.reduceNeg, tbG9_27, xbG9_2, List.map_cons, List.map_nil, List.length_cons, List.length_nil, List.nil_append, List.append_nil, List.cons_append, mc, hV, hb]; (try simp only [ite_and]); (repeat' (first | with_reducible assumption | refine And.intro ?_ ?_ | intro hp)); all_goals (first | (refine hQ _ ?_; clear hQ Q) | (refine hQ _ (fun h => ?_) (fun h => ?_) <;> clear hQ Q <;> (try simp only [vki, reduceCtorEq] at h)) | omega | assumption | (with_reducible rfl) | (refine drawB_of ?_; kernel_rfl) | skip)))
  refine sym_loop (fun k : { k : Nat // k ≤ V } => lo1 c d e w b V k.1) (fun k => V - k.1) ⟨0, Nat.zero_le _⟩ ?_ fun ⟨k, hk⟩ => ?_
  · (refine Le.ok (fun j => if j = 3 ∨ j = 4 then none else some j) [] ?_; constructor; all_goals (try simp only [vle, vkt, Nat.reduceEqDiff, Nat.reduceAdd, Nat.reduceMul, Nat.reduceSub, Nat.reduceLeDiff, reduceCtorEq, ↓reduceIte, ↓reduceDIte, Int.reduceToNat, Int.reduceLE, Int.reduceLT, Int.reduceEq, Int.reduceNeg, tbG9_27, xbG9_2, List.map_cons, List.map_nil, List.length_cons, List.length_nil, List.nil_append, List.append_nil, List.cons_append]))
    all_goals first | rfl | (simp [coK, hb, hV]; done)
  · repeat' (first | refine zq0 ?_ | refine zq1 ?_ | refine zq2 ?_ | refine zq3 ?_ | refine zq4 ?_ | refine zq5 ?_ | refine thenK_n ?_ | refine thenK_x ?_ | refine thenK_r ?_ | refine blockK_n ?_ | refine blockK_r ?_ | refine blockK_hit ?_ | refine blockK_miss (by decide) ?_)
    (refine sym_reg env fun Q hQ => ?_; simp only [vkt, Nat.reduceEqDiff, Nat.reduceAdd, Nat.reduceMul, Nat.reduceSub, Nat.reduceLeDiff, reduceCtorEq, ↓reduceIte, ↓reduceDIte, Int.reduceToNat, Int.reduceLE, Int.reduceLT, Int.reduceEq, Int.reduceNeg, tbG9_27, xbG9_2, List.map_cons, List.map_nil, List.length_cons, List.length_nil, List.nil_append, List.append_nil, List.cons_append]; (try simp only [ite_and]); (repeat' (first | with_reducible assumption | refine And.intro ?_ ?_ | intro hp)); all_goals (first | (refine hQ _ ?_; clear hQ Q) | omega | assumption | (with_reducible rfl) | (refine drawB_of ?_; kernel_rfl) | skip))
    repeat' (first | refine zq0 ?_ | refine zq1 ?_ | refine zq2 ?_ | refine zq3 ?_ | refine zq4 ?_ | refine zq5 ?_ | refine thenK_n ?_ | refine thenK_x ?_ | refine thenK_r ?_ | refine blockK_n ?_ | refine blockK_r ?_ | refine blockK_hit ?_ | refine blockK_miss (by decide) ?_)
    (refine sym_cd (by simp only [vkt, Nat.reduceEqDiff, Nat.reduceAdd, Nat.reduceMul, Nat.reduceSub, Nat.reduceLeDiff, reduceCtorEq, ↓reduceIte, ↓reduceDIte, Int.reduceToNat, Int.reduceLE, Int.reduceLT, Int.reduceEq, Int.reduceNeg, tbG9_27, xbG9_2, List.map_cons, List.map_nil, List.length_cons, List.length_nil, List.nil_append, List.append_nil, List.cons_append]; rfl) (fun h => ?_) (fun h => ?_) <;> (try simp only [vki, reduceCtorEq] at h))
    · have hlt : k < V := by omega
      have ok := coK_ok b k
      have hs := coK_succ b k
      generalize coK b k = s at *
      have u1 := upV_le (x := s.x) (m := 3) (by decide) (by decide)
      unfold coStep at hs
      obtain ⟨K, hK⟩ : ∃ K : Nat, upV s.x 3 = (K : Int) := ⟨(upV s.x 3).toNat, by omega⟩
      rw [hK, Int.toNat_natCast] at hs
      generalize hy : upS s.x 3 = y at *
      repeat' (first | refine zq0 ?_ | refine zq1 ?_ | refine zq2 ?_ | refine zq3 ?_ | refine zq4 ?_ | refine zq5 ?_ | refine thenK_n ?_ | refine thenK_x ?_ | refine thenK_r ?_ | refine blockK_n ?_ | refine blockK_r ?_ | refine blockK_hit ?_ | refine blockK_miss (by decide) ?_ | ((first | refine sym_reg env fun Q hQ => ?_ | refine sym_cz fun Q hQ => ?_); simp only [vkt, Nat.reduceEqDiff, Nat.reduceAdd, Nat.reduceMul, Nat.reduceSub, Nat.reduceLeDiff, reduceCtorEq, ↓reduceIte, ↓reduceDIte, Int.reduceToNat, Int.reduceLE, Int.reduceLT, Int.reduceEq, Int.reduceNeg, tbG9_27, xbG9_2, List.map_cons, List.map_nil, List.length_cons, List.length_nil, List.nil_append, List.append_nil, List.cons_append, hK, hy]; (try simp only [ite_and]); (repeat' (first | with_reducible assumption | refine And.intro ?_ ?_ | intro hp)); all_goals (first | (refine hQ _ ?_; clear hQ Q) | (refine hQ _ (fun h => ?_) (fun h => ?_) <;> clear hQ Q <;> (try simp only [vki, reduceCtorEq] at h)) | omega | assumption | (with_reducible rfl) | (refine drawB_of ?_; kernel_rfl) | skip)))
      refine sym_loop (fun j : { j : Nat // j ≤ K } => lo2 c d e w s y V k K j.1) (fun j => K - j.1) ⟨0, Nat.zero_le _⟩ ?_ fun ⟨j, hj⟩ => ?_
      · (refine Le.ok some [] ?_; constructor; all_goals (try simp only [vle, vkt, Nat.reduceEqDiff, Nat.reduceAdd, Nat.reduceMul, Nat.reduceSub, Nat.reduceLeDiff, reduceCtorEq, ↓reduceIte, ↓reduceDIte, Int.reduceToNat, Int.reduceLE, Int.reduceLT, Int.reduceEq, Int.reduceNeg, tbG9_27, xbG9_2, List.map_cons, List.map_nil, List.length_cons, List.length_nil, List.nil_append, List.append_nil, List.cons_append]))
        all_goals first | rfl | (simp [pcK, eInt]; done)
      · repeat' (first | refine zq0 ?_ | refine zq1 ?_ | refine zq2 ?_ | refine zq3 ?_ | refine zq4 ?_ | refine zq5 ?_ | refine thenK_n ?_ | refine thenK_x ?_ | refine thenK_r ?_ | refine blockK_n ?_ | refine blockK_r ?_ | refine blockK_hit ?_ | refine blockK_miss (by decide) ?_)
        (refine sym_reg env fun Q hQ => ?_; simp only [vkt, Nat.reduceEqDiff, Nat.reduceAdd, Nat.reduceMul, Nat.reduceSub, Nat.reduceLeDiff, reduceCtorEq, ↓reduceIte, ↓reduceDIte, Int.reduceToNat, Int.reduceLE, Int.reduceLT, Int.reduceEq, Int.reduceNeg, tbG9_27, xbG9_2, List.map_cons, List.map_nil, List.length_cons, List.length_nil, List.nil_append, List.append_nil, List.cons_append]; (try simp only [ite_and]); (repeat' (first | with_reducible assumption | refine And.intro ?_ ?_ | intro hp)); all_goals (first | (refine hQ _ ?_; clear hQ Q) | omega | assumption | (with_reducible rfl) | (refine drawB_of ?_; kernel_rfl) | skip))
        repeat' (first | refine zq0 ?_ | refine zq1 ?_ | refine zq2 ?_ | refine zq3 ?_ | refine zq4 ?_ | refine zq5 ?_ | refine thenK_n ?_ | refine thenK_x ?_ | refine thenK_r ?_ | refine blockK_n ?_ | refine blockK_r ?_ | refine blockK_hit ?_ | refine blockK_miss (by decide) ?_)
        (refine sym_cd (by simp only [vkt, Nat.reduceEqDiff, Nat.reduceAdd, Nat.reduceMul, Nat.reduceSub, Nat.reduceLeDiff, reduceCtorEq, ↓reduceIte, ↓reduceDIte, Int.reduceToNat, Int.reduceLE, Int.reduceLT, Int.reduceEq, Int.reduceNeg, tbG9_27, xbG9_2, List.map_cons, List.map_nil, List.length_cons, List.length_nil, List.nil_append, List.append_nil, List.cons_append]; rfl) (fun h => ?_) (fun h => ?_) <;> (try simp only [vki, reduceCtorEq] at h))
        · have hjl : j < K := by omega
          have pk := pcK_ok y j
          have pl := pk.len
          have pb := pk.le j (Nat.le_refl _)
          have hp1 := pcK_1 y j
          have hp2 := (pcK_2 y j).symm
          have q1 := upV_le (x := (pcK y j).2) (m := 12 - 1) (by decide) (by decide)
          generalize (pcK y j).1 = p at *
          generalize (pcK y j).2 = z at *
          have e7 : IntKind.wrap .i64 ((K : Int) - (j : Int) - 1) = (K : Int) - ((j + 1 : Nat) : Int) := by rw [wrap64 (by omega) (by omega)]; omega
          have e8 : IntKind.wrap .i64 (((j + 1 : Nat) : Int) - 1) = (j : Int) := by rw [wrap64 (by omega) (by omega)]; omega
          have e9 : IntKind.wrap .i64 (p.getD j 0 + (1 + upV z (12 - 1))) = p.getD j 0 + (1 + upV z (12 - 1)) := wrap64 (by omega) (by omega)
          have e5 : j < p.length := by omega
          have m1 : (j + 1 + 1) * 8 ≤ 140737488355328 ∧ j + 1 + 1 ≤ maxLen := by omega
          have e6 := gI0 e5
          have e4 : p.map eInt ++ [[.v (.int .i64 (p.getD j 0 + (1 + upV z (12 - 1))))]] = (pcK y (j + 1)).1.map eInt := by rw [hp1, List.map_append]; rfl
          repeat' (first | refine zq0 ?_ | refine zq1 ?_ | refine zq2 ?_ | refine zq3 ?_ | refine zq4 ?_ | refine zq5 ?_ | refine thenK_n ?_ | refine thenK_x ?_ | refine thenK_r ?_ | refine blockK_n ?_ | refine blockK_r ?_ | refine blockK_hit ?_ | refine blockK_miss (by decide) ?_ | ((first | refine sym_reg env fun Q hQ => ?_ | refine sym_cz fun Q hQ => ?_); simp only [vkt, Nat.reduceEqDiff, Nat.reduceAdd, Nat.reduceMul, Nat.reduceSub, Nat.reduceLeDiff, reduceCtorEq, ↓reduceIte, ↓reduceDIte, Int.reduceToNat, Int.reduceLE, Int.reduceLT, Int.reduceEq, Int.reduceNeg, tbG9_27, xbG9_2, List.map_cons, List.map_nil, List.length_cons, List.length_nil, List.nil_append, List.append_nil, List.cons_append, e7, e8, e6, e9, e4, pl, hp2]; (try simp only [ite_and]); (repeat' (first | with_reducible assumption | refine And.intro ?_ ?_ | intro hp)); all_goals (first | (refine hQ _ ?_; clear hQ Q) | (refine hQ _ (fun h => ?_) (fun h => ?_) <;> clear hQ Q <;> (try simp only [vki, reduceCtorEq] at h)) | omega | assumption | (with_reducible rfl) | (refine drawB_of ?_; kernel_rfl) | skip)))
          refine ⟨⟨j + 1, hjl⟩, by show K - (j + 1) < K - j; omega, ?_⟩
          (refine Le.ok (fun j => if j = 5 then some 7 else some j) [] ?_; constructor; all_goals (try simp only [vle, vkt, Nat.reduceEqDiff, Nat.reduceAdd, Nat.reduceMul, Nat.reduceSub, Nat.reduceLeDiff, reduceCtorEq, ↓reduceIte, ↓reduceDIte, Int.reduceToNat, Int.reduceLE, Int.reduceLT, Int.reduceEq, Int.reduceNeg, tbG9_27, xbG9_2, List.map_cons, List.map_nil, List.length_cons, List.length_nil, List.nil_append, List.append_nil, List.cons_append]))
          all_goals first | rfl | (simp; done)
        · have hjk : j = K := by omega
          subst hjk
          have okc := ok.c
          have okl := ok.l
          have pl := (pcK_ok y j).len
          generalize hq1 : (pcK y j).1 = p at *
          generalize hq2 : (pcK y j).2 = z at *
          refine sym_le (S' := lo3 c d e w s p z V k) ?_ ?_
          · (refine Le.ok some [5] ?_; constructor; all_goals (try simp only [vle, vkt, Nat.reduceEqDiff, Nat.reduceAdd, Nat.reduceMul, Nat.reduceSub, Nat.reduceLeDiff, reduceCtorEq, ↓reduceIte, ↓reduceDIte, Int.reduceToNat, Int.reduceLE, Int.reduceLT, Int.reduceEq, Int.reduceNeg, tbG9_27, xbG9_2, List.map_cons, List.map_nil, List.length_cons, List.length_nil, List.nil_append, List.append_nil, List.cons_append]))
            all_goals first | rfl | (simp [hq1, hq2]; done) | (rw [hq1]; exact ⟨_, _, rfl⟩) | exact ⟨_, _, rfl⟩
          have m1 : (k + 1) * 24 ≤ 140737488355328 ∧ (k + 1) * 8 ≤ 140737488355328 ∧ k + 1 ≤ maxLen := by omega
          have e7 : IntKind.wrap .i64 ((V : Int) - (k : Int) - 1) = (V : Int) - ((k + 1 : Nat) : Int) := by rw [wrap64 (by omega) (by omega)]; omega
          have e4 : s.cs.map eInts ++ [[.sl (p.map eInt)]] = (s.cs ++ [p]).map eInts := by rw [List.map_append]; rfl
          have e5 : s.ss.map eInt ++ [[.v (.int .i64 (upV z 200))]] = (s.ss ++ [upV z 200]).map eInt := by rw [List.map_append]; rfl
          repeat' (first | refine zq0 ?_ | refine zq1 ?_ | refine zq2 ?_ | refine zq3 ?_ | refine zq4 ?_ | refine zq5 ?_ | refine thenK_n ?_ | refine thenK_x ?_ | refine thenK_r ?_ | refine blockK_n ?_ | refine blockK_r ?_ | refine blockK_hit ?_ | refine blockK_miss (by decide) ?_ | ((first | refine sym_reg env fun Q hQ => ?_ | refine sym_cz fun Q hQ => ?_); simp only [vkt, Nat.reduceEqDiff, Nat.reduceAdd, Nat.reduceMul, Nat.reduceSub, Nat.reduceLeDiff, reduceCtorEq, ↓reduceIte, ↓reduceDIte, Int.reduceToNat, Int.reduceLE, Int.reduceLT, Int.reduceEq, Int.reduceNeg, tbG9_27, xbG9_2, List.map_cons, List.map_nil, List.length_cons, List.length_nil, List.nil_append, List.append_nil, List.cons_append, e7, e4, e5, okc, okl]; (try simp only [ite_and]); (repeat' (first | with_reducible assumption | refine And.intro ?_ ?_ | intro hp)); all_goals (first | (refine hQ _ ?_; clear hQ Q) | (refine hQ _ (fun h => ?_) (fun h => ?_) <;> clear hQ Q <;> (try simp only [vki, reduceCtorEq] at h)) | omega | assumption | (with_reducible rfl) | (refine drawB_of ?_; kernel_rfl) | skip)))
          refine ⟨⟨k + 1, hlt⟩, by show V - (k + 1) < V - k; omega, ?_⟩
          (refine Le.ok (fun j => if j = 3 then some 6 else if j = 4 then some 8 else some j) [] ?_; constructor; all_goals (try simp only [vle, vkt, Nat.reduceEqDiff, Nat.reduceAdd, Nat.reduceMul, Nat.reduceSub, Nat.reduceLeDiff, reduceCtorEq, ↓reduceIte, ↓reduceDIte, Int.reduceToNat, Int.reduceLE, Int.reduceLT, Int.reduceEq, Int.reduceNeg, tbG9_27, xbG9_2, List.map_cons, List.map_nil, List.length_cons, List.length_nil, List.nil_append, List.append_nil, List.cons_append]))
          all_goals first | rfl | (simp [hs]; done)
    · have hkV : k = V := by omega
      subst hkV
      have ok := coK_ok b k
      have g2 : lg2 x c d = dyK ((lg1 x c).cs.length - 1) (upS (lg1 x c).x (d - 1)) (1 + upV (lg1 x c).x (d - 1)).toNat := rfl
      have g3 : lg3 x c d e w = enK (lg1 x c).cs.length (lg2 x c d).1 w ⟨0, (lg1 x c).ss, [], upS (lg2 x c d).2 e⟩ (upV (lg2 x c d).2 e).toNat := rfl
      have gL : lgL x c d e w = ⟨(lg1 x c).cs, (lg2 x c d).1, (lg1 x c).ss, (lg3 x c d e w).es⟩ := rfl
      have gS : lgS x c d e w = (lg3 x c d e w).x := rfl
      generalize lg1 x c = co at *
      rw [← g1] at ok ⊢
      clear g1 hb
      have okc := ok.c
      have okl := ok.l
      have hu2 := upV_le (x := co.x) (m := d - 1) (by omega) (by omega)
      obtain ⟨W, hW⟩ : ∃ W : Nat, 1 + upV co.x (d - 1) = (W : Int) := ⟨(1 + upV co.x (d - 1)).toNat, by omega⟩
      have hW1 : 1 ≤ W ∧ W ≤ 4 := by omega
      obtain ⟨m, hm⟩ : ∃ m, m + 1 = co.cs.length := ⟨co.cs.length - 1, by omega⟩
      have hmC : co.cs.length - 1 = m := by omega
      rw [hW, hmC, Int.toNat_natCast] at g2
      generalize hb2 : upS co.x (d - 1) = b2 at *
      repeat' (first | refine zq0 ?_ | refine zq1 ?_ | refine zq2 ?_ | refine zq3 ?_ | refine zq4 ?_ | refine zq5 ?_ | refine thenK_n ?_ | refine thenK_x ?_ | refine thenK_r ?_ | refine blockK_n ?_ | refine blockK_r ?_ | refine blockK_hit ?_ | refine blockK_miss (by decide) ?_ | ((first | refine sym_reg env fun Q hQ => ?_ | refine sym_cz fun Q hQ => ?_); simp only [vkt, Nat.reduceEqDiff, Nat.reduceAdd, Nat.reduceMul, Nat.reduceSub, Nat.reduceLeDiff, reduceCtorEq, ↓reduceIte, ↓reduceDIte, Int.reduceToNat, Int.reduceLE, Int.reduceLT, Int.reduceEq, Int.reduceNeg, tbG9_27, xbG9_2, List.map_cons, List.map_nil, List.length_cons, List.length_nil, List.nil_append, List.append_nil, List.cons_append, md, hW, hb2]; (try simp only [ite_and]); (repeat' (first | with_reducible assumption | refine And.intro ?_ ?_ | intro hp)); all_goals (first | (refine hQ _ ?_; clear hQ Q) | (refine hQ _ (fun h => ?_) (fun h => ?_) <;> clear hQ Q <;> (try simp only [vki, reduceCtorEq] at h)) | omega | assumption | (with_reducible rfl) | (refine drawB_of ?_; kernel_rfl) | skip)))
      refine sym_loop (fun k : { k : Nat // k ≤ W } => ld1 c d e w co m b2 W k.1) (fun k => W - k.1) ⟨0, Nat.zero_le _⟩ ?_ fun ⟨i, hi⟩ => ?_
      · (refine Le.ok (fun j => if j = 5 then none else some j) [] ?_; constructor; all_goals (try simp only [vle, vkt, Nat.reduceEqDiff, Nat.reduceAdd, Nat.reduceMul, Nat.reduceSub, Nat.reduceLeDiff, reduceCtorEq, ↓reduceIte, ↓reduceDIte, Int.reduceToNat, Int.reduceLE, Int.reduceLT, Int.reduceEq, Int.reduceNeg, tbG9_27, xbG9_2, List.map_cons, List.map_nil, List.length_cons, List.length_nil, List.nil_append, List.append_nil, List.cons_append]))
        all_goals first | rfl | (simp [dyK, hb2, hW]; done)
      · repeat' (first | refine zq0 ?_ | refine zq1 ?_ | refine zq2 ?_ | refine zq3 ?_ | refine zq4 ?_ | refine zq5 ?_ | refine thenK_n ?_ | refine thenK_x ?_ | refine thenK_r ?_ | refine blockK_n ?_ | refine blockK_r ?_ | refine blockK_hit ?_ | refine blockK_miss (by decide) ?_)
        (refine sym_reg env fun Q hQ => ?_; simp only [vkt, Nat.reduceEqDiff, Nat.reduceAdd, Nat.reduceMul, Nat.reduceSub, Nat.reduceLeDiff, reduceCtorEq, ↓reduceIte, ↓reduceDIte, Int.reduceToNat, Int.reduceLE, Int.reduceLT, Int.reduceEq, Int.reduceNeg, tbG9_27, xbG9_2, List.map_cons, List.map_nil, List.length_cons, List.length_nil, List.nil_append, List.append_nil, List.cons_append]; (try simp only [ite_and]); (repeat' (first | with_reducible assumption | refine And.intro ?_ ?_ | intro hp)); all_goals (first | (refine hQ _ ?_; clear hQ Q) | omega | assumption | (with_reducible rfl) | (refine drawB_of ?_; kernel_rfl) | skip))
        repeat' (first | refine zq0 ?_ | refine zq1 ?_ | refine zq2 ?_ | refine zq3 ?_ | refine zq4 ?_ | refine zq5 ?_ | refine thenK_n ?_ | refine thenK_x ?_ | refine thenK_r ?_ | refine blockK_n ?_ | refine blockK_r ?_ | refine blockK_hit ?_ | refine blockK_miss (by decide) ?_)
        (refine sym_cd (by simp only [vkt, Nat.reduceEqDiff, Nat.reduceAdd, Nat.reduceMul, Nat.reduceSub, Nat.reduceLeDiff, reduceCtorEq, ↓reduceIte, ↓reduceDIte, Int.reduceToNat, Int.reduceLE, Int.reduceLT, Int.reduceEq, Int.reduceNeg, tbG9_27, xbG9_2, List.map_cons, List.map_nil, List.length_cons, List.length_nil, List.nil_append, List.append_nil, List.cons_append]; rfl) (fun h => ?_) (fun h => ?_) <;> (try simp only [vki, reduceCtorEq] at h))
        · have hlt : i < W := by omega
          have okd := dyK_ok m b2 i
          have hs1 := dyK_1 m b2 i
          have hs2 := dyK_2 m b2 i
          generalize (dyK m b2 i).1 = rs at *
          generalize (dyK m b2 i).2 = y at *
          repeat' (first | refine zq0 ?_ | refine zq1 ?_ | refine zq2 ?_ | refine zq3 ?_ | refine zq4 ?_ | refine zq5 ?_ | refine thenK_n ?_ | refine thenK_x ?_ | refine thenK_r ?_ | refine blockK_n ?_ | refine blockK_r ?_ | refine blockK_hit ?_ | refine blockK_miss (by decide) ?_ | ((first | refine sym_reg env fun Q hQ => ?_ | refine sym_cz fun Q hQ => ?_); simp only [vkt, Nat.reduceEqDiff, Nat.reduceAdd, Nat.reduceMul, Nat.reduceSub, Nat.reduceLeDiff, reduceCtorEq, ↓reduceIte, ↓reduceDIte, Int.reduceToNat, Int.reduceLE, Int.reduceLT, Int.reduceEq, Int.reduceNeg, tbG9_27, xbG9_2, List.map_cons, List.map_nil, List.length_cons, List.length_nil, List.nil_append, List.append_nil, List.cons_append]; (try simp only [ite_and]); (repeat' (first | with_reducible assumption | refine And.intro ?_ ?_ | intro hp)); all_goals (first | (refine hQ _ ?_; clear hQ Q) | (refine hQ _ (fun h => ?_) (fun h => ?_) <;> clear hQ Q <;> (try simp only [vki, reduceCtorEq] at h)) | omega | assumption | (with_reducible rfl) | (refine drawB_of ?_; kernel_rfl) | skip)))
          refine sym_loop (fun j : { j : Nat // j ≤ m } => ld2 c d e w co rs y W i j.1) (fun j => m - j.1) ⟨0, Nat.zero_le _⟩ ?_ fun ⟨j, hj⟩ => ?_
          · (refine Le.ok some [] ?_; constructor; all_goals (try simp only [vle, vkt, Nat.reduceEqDiff, Nat.reduceAdd, Nat.reduceMul, Nat.reduceSub, Nat.reduceLeDiff, reduceCtorEq, ↓reduceIte, ↓reduceDIte, Int.reduceToNat, Int.reduceLE, Int.reduceLT, Int.reduceEq, Int.reduceNeg, tbG9_27, xbG9_2, List.map_cons, List.map_nil, List.length_cons, List.length_nil, List.nil_append, List.append_nil, List.cons_append]))
            all_goals first | rfl | (simp [rtK, eSh]; done)
          · repeat' (first | refine zq0 ?_ | refine zq1 ?_ | refine zq2 ?_ | refine zq3 ?_ | refine zq4 ?_ | refine zq5 ?_ | refine thenK_n ?_ | refine thenK_x ?_ | refine thenK_r ?_ | refine blockK_n ?_ | refine blockK_r ?_ | refine blockK_hit ?_ | refine blockK_miss (by decide) ?_)
            (refine sym_reg env fun Q hQ => ?_; simp only [vkt, Nat.reduceEqDiff, Nat.reduceAdd, Nat.reduceMul, Nat.reduceSub, Nat.reduceLeDiff, reduceCtorEq, ↓reduceIte, ↓reduceDIte, Int.reduceToNat, Int.reduceLE, Int.reduceLT, Int.reduceEq, Int.reduceNeg, tbG9_27, xbG9_2, List.map_cons, List.map_nil, List.length_cons, List.length_nil, List.nil_append, List.append_nil, List.cons_append]; (try simp only [ite_and]); (repeat' (first | with_reducible assumption | refine And.intro ?_ ?_ | intro hp)); all_goals (first | (refine hQ _ ?_; clear hQ Q) | omega | assumption | (with_reducible rfl) | (refine drawB_of ?_; kernel_rfl) | skip))
            repeat' (first | refine zq0 ?_ | refine zq1 ?_ | refine zq2 ?_ | refine zq3 ?_ | refine zq4 ?_ | refine zq5 ?_ | refine thenK_n ?_ | refine thenK_x ?_ | refine thenK_r ?_ | refine blockK_n ?_ | refine blockK_r ?_ | refine blockK_hit ?_ | refine blockK_miss (by decide) ?_)
            (refine sym_cd (by simp only [vkt, Nat.reduceEqDiff, Nat.reduceAdd, Nat.reduceMul, Nat.reduceSub, Nat.reduceLeDiff, reduceCtorEq, ↓reduceIte, ↓reduceDIte, Int.reduceToNat, Int.reduceLE, Int.reduceLT, Int.reduceEq, Int.reduceNeg, tbG9_27, xbG9_2, List.map_cons, List.map_nil, List.length_cons, List.length_nil, List.nil_append, List.append_nil, List.cons_append]; rfl) (fun h => ?_) (fun h => ?_) <;> (try simp only [vki, reduceCtorEq] at h))
            · have hjl : j < m := by omega
              have pl := (rtK_ok y j).len
              have hp1 := rtK_1 y j
              have hp2 := (rtK_2 y j).symm
              generalize (rtK y j).1 = r at *
              generalize (rtK y j).2 = z at *
              have e7 : IntKind.wrap .i64 ((j : Int) + 1 + 1) = ((j + 1 : Nat) : Int) + 1 := by rw [wrap64 (by omega) (by omega)]; omega
              have m1 : (j + 1 + 1) * 16 ≤ 140737488355328 ∧ j + 1 + 1 ≤ maxLen := by omega
              have e4 : r.map eSh ++ [[.v (.int .i64 (rtV z).num), .v (.int .i64 (rtV z).den)]] = (rtK y (j + 1)).1.map eSh := by rw [hp1, List.map_append]; rfl
              repeat' (first | refine zq0 ?_ | refine zq1 ?_ | refine zq2 ?_ | refine zq3 ?_ | refine zq4 ?_ | refine zq5 ?_ | refine thenK_n ?_ | refine thenK_x ?_ | refine thenK_r ?_ | refine blockK_n ?_ | refine blockK_r ?_ | refine blockK_hit ?_ | refine blockK_miss (by decide) ?_ | ((first | refine sym_reg env fun Q hQ => ?_ | refine sym_cz fun Q hQ => ?_); simp only [vkt, Nat.reduceEqDiff, Nat.reduceAdd, Nat.reduceMul, Nat.reduceSub, Nat.reduceLeDiff, reduceCtorEq, ↓reduceIte, ↓reduceDIte, Int.reduceToNat, Int.reduceLE, Int.reduceLT, Int.reduceEq, Int.reduceNeg, tbG9_27, xbG9_2, List.map_cons, List.map_nil, List.length_cons, List.length_nil, List.nil_append, List.append_nil, List.cons_append, e7, e4, pl, hp2]; (try simp only [ite_and]); (repeat' (first | with_reducible assumption | refine And.intro ?_ ?_ | intro hp)); all_goals (first | (refine hQ _ ?_; clear hQ Q) | (refine hQ _ (fun h => ?_) (fun h => ?_) <;> clear hQ Q <;> (try simp only [vki, reduceCtorEq] at h)) | omega | assumption | (with_reducible rfl) | (refine drawB_of ?_; kernel_rfl) | skip)))
              refine ⟨⟨j + 1, hjl⟩, by show m - (j + 1) < m - j; omega, ?_⟩
              (refine Le.ok (fun j => if j = 6 then some 8 else some j) [] ?_; constructor; all_goals (try simp only [vle, vkt, Nat.reduceEqDiff, Nat.reduceAdd, Nat.reduceMul, Nat.reduceSub, Nat.reduceLeDiff, reduceCtorEq, ↓reduceIte, ↓reduceDIte, Int.reduceToNat, Int.reduceLE, Int.reduceLT, Int.reduceEq, Int.reduceNeg, tbG9_27, xbG9_2, List.map_cons, List.map_nil, List.length_cons, List.length_nil, List.nil_append, List.append_nil, List.cons_append]))
              all_goals first | rfl | (simp; done)
            · have hjm : j = m := by omega
              subst hjm
              generalize hq1 : (rtK y j).1 = r at *
              generalize hq2 : (rtK y j).2 = z at *
              have okd1 := okd.1
              refine sym_le (S' := ld3 c d e w co rs r z W i) ?_ ?_
              · (refine Le.ok some [6] ?_; constructor; all_goals (try simp only [vle, vkt, Nat.reduceEqDiff, Nat.reduceAdd, Nat.reduceMul, Nat.reduceSub, Nat.reduceLeDiff, reduceCtorEq, ↓reduceIte, ↓reduceDIte, Int.reduceToNat, Int.reduceLE, Int.reduceLT, Int.reduceEq, Int.reduceNeg, tbG9_27, xbG9_2, List.map_cons, List.map_nil, List.length_cons, List.length_nil, List.nil_append, List.append_nil, List.cons_append]))
                all_goals first | rfl | (simp [hq1, hq2]; done) | (rw [hq1]; exact ⟨_, _, rfl⟩) | exact ⟨_, _, rfl⟩
              have m1 : (i + 1) * 24 ≤ 140737488355328 ∧ i + 1 ≤ maxLen := by omega
              have e7 : IntKind.wrap .i64 ((W : Int) - (i : Int) - 1) = (W : Int) - ((i + 1 : Nat) : Int) := by rw [wrap64 (by omega) (by omega)]; omega
              have e4 : rs.map eShs ++ [[.sl (r.map eSh)]] = (rs ++ [r]).map eShs := by rw [List.map_append]; rfl
              repeat' (first | refine zq0 ?_ | refine zq1 ?_ | refine zq2 ?_ | refine zq3 ?_ | refine zq4 ?_ | refine zq5 ?_ | refine thenK_n ?_ | refine thenK_x ?_ | refine thenK_r ?_ | refine blockK_n ?_ | refine blockK_r ?_ | refine blockK_hit ?_ | refine blockK_miss (by decide) ?_ | ((first | refine sym_reg env fun Q hQ => ?_ | refine sym_cz fun Q hQ => ?_); simp only [vkt, Nat.reduceEqDiff, Nat.reduceAdd, Nat.reduceMul, Nat.reduceSub, Nat.reduceLeDiff, reduceCtorEq, ↓reduceIte, ↓reduceDIte, Int.reduceToNat, Int.reduceLE, Int.reduceLT, Int.reduceEq, Int.reduceNeg, tbG9_27, xbG9_2, List.map_cons, List.map_nil, List.length_cons, List.length_nil, List.nil_append, List.append_nil, List.cons_append, e7, e4, okd1]; (try simp only [ite_and]); (repeat' (first | with_reducible assumption | refine And.intro ?_ ?_ | intro hp)); all_goals (first | (refine hQ _ ?_; clear hQ Q) | (refine hQ _ (fun h => ?_) (fun h => ?_) <;> clear hQ Q <;> (try simp only [vki, reduceCtorEq] at h)) | omega | assumption | (with_reducible rfl) | (refine drawB_of ?_; kernel_rfl) | skip)))
              refine ⟨⟨i + 1, hlt⟩, by show W - (i + 1) < W - i; omega, ?_⟩
              (refine Le.ok (fun j => if j = 5 then some 7 else some j) [] ?_; constructor; all_goals (try simp only [vle, vkt, Nat.reduceEqDiff, Nat.reduceAdd, Nat.reduceMul, Nat.reduceSub, Nat.reduceLeDiff, reduceCtorEq, ↓reduceIte, ↓reduceDIte, Int.reduceToNat, Int.reduceLE, Int.reduceLT, Int.reduceEq, Int.reduceNeg, tbG9_27, xbG9_2, List.map_cons, List.map_nil, List.length_cons, List.length_nil, List.nil_append, List.append_nil, List.cons_append]))
              all_goals first | rfl | (simp [hs1, hs2]; done)
        · have hiW : i = W := by omega
          subst hiW
          have okd := dyK_ok m b2 i
          generalize lg2 x c d = dy at *
          rw [← g2] at okd ⊢
          clear g2 hb2
          obtain ⟨rs, y⟩ := dy
          dsimp only at okd g3 gL ⊢
          obtain ⟨okd1, okd2⟩ := okd
          subst okd1
          subst okc
          have hrs : RsOk rs co.cs.length := ⟨by omega, fun r hr => by have := okd2 r hr; rwa [hm] at this⟩
          have hC : 1 ≤ co.cs.length ∧ co.cs.length ≤ 4 := by omega
          have hu3 := upV_le (x := y) (m := e) (by omega) (by omega)
          obtain ⟨U, hU⟩ : ∃ U : Nat, upV y e = (U : Int) := ⟨(upV y e).toNat, by omega⟩
          rw [hU, Int.toNat_natCast] at g3
          have hU6 : U ≤ 6 := by omega
          have m6 : co.ss.length ≤ 100000 := by omega
          have m7 : e < 9223372036854775807 := by omega
          generalize hy3 : upS y e = y3 at *
          have hI0 : EnI co.cs.length rs.length 0 ⟨0, co.ss, [], y3⟩ := ⟨Int.le_refl _, by show (0 : Int) ≤ _; omega, okl, fun v hv => by have := ok.v v hv; omega, Nat.le_refl _⟩
          have hIk := enK_ok hrs hC (w := w) hI0
          have hE0 : enK co.cs.length rs w ⟨0, co.ss, [], y3⟩ 0 = ⟨0, co.ss, [], y3⟩ := rfl
          have hst := enK_1 co.cs.length rs w ⟨0, co.ss, [], y3⟩
          generalize enK co.cs.length rs w ⟨0, co.ss, [], y3⟩ = EK at *
          repeat' (first | refine zq0 ?_ | refine zq1 ?_ | refine zq2 ?_ | refine zq3 ?_ | refine zq4 ?_ | refine zq5 ?_ | refine thenK_n ?_ | refine thenK_x ?_ | refine thenK_r ?_ | refine blockK_n ?_ | refine blockK_r ?_ | refine blockK_hit ?_ | refine blockK_miss (by decide) ?_ | ((first | refine sym_reg env fun Q hQ => ?_ | refine sym_cz fun Q hQ => ?_); simp only [vkt, Nat.reduceEqDiff, Nat.reduceAdd, Nat.reduceMul, Nat.reduceSub, Nat.reduceLeDiff, reduceCtorEq, ↓reduceIte, ↓reduceDIte, Int.reduceToNat, Int.reduceLE, Int.reduceLT, Int.reduceEq, Int.reduceNeg, tbG9_27, xbG9_2, List.map_cons, List.map_nil, List.length_cons, List.length_nil, List.nil_append, List.append_nil, List.cons_append, me, hU, hy3]; (try simp only [ite_and]); (repeat' (first | with_reducible assumption | refine And.intro ?_ ?_ | intro hp)); all_goals (first | (refine hQ _ ?_; clear hQ Q) | (refine hQ _ (fun h => ?_) (fun h => ?_) <;> clear hQ Q <;> (try simp only [vki, reduceCtorEq] at h)) | omega | assumption | (with_reducible rfl) | (refine drawB_of ?_; kernel_rfl) | skip)))
          all_goals first | exact ⟨_, _, rfl⟩ | skip
          refine sym_loop (fun k : { k : Nat // k ≤ U } => le1 c d e w co rs (EK k.1) U k.1) (fun k => U - k.1) ⟨0, Nat.zero_le _⟩ ?_ fun ⟨q, hq⟩ => ?_
          · (refine Le.ok (fun j => if j = 7 then none else some j) [] ?_; constructor; all_goals (try simp only [vle, vkt, Nat.reduceEqDiff, Nat.reduceAdd, Nat.reduceMul, Nat.reduceSub, Nat.reduceLeDiff, reduceCtorEq, ↓reduceIte, ↓reduceDIte, Int.reduceToNat, Int.reduceLE, Int.reduceLT, Int.reduceEq, Int.reduceNeg, tbG9_27, xbG9_2, List.map_cons, List.map_nil, List.length_cons, List.length_nil, List.nil_append, List.append_nil, List.cons_append]))
            all_goals first | rfl | (simp [hE0, hU]; done)
          · repeat' (first | refine zq0 ?_ | refine zq1 ?_ | refine zq2 ?_ | refine zq3 ?_ | refine zq4 ?_ | refine zq5 ?_ | refine thenK_n ?_ | refine thenK_x ?_ | refine thenK_r ?_ | refine blockK_n ?_ | refine blockK_r ?_ | refine blockK_hit ?_ | refine blockK_miss (by decide) ?_)
            (refine sym_reg env fun Q hQ => ?_; simp only [vkt, Nat.reduceEqDiff, Nat.reduceAdd, Nat.reduceMul, Nat.reduceSub, Nat.reduceLeDiff, reduceCtorEq, ↓reduceIte, ↓reduceDIte, Int.reduceToNat, Int.reduceLE, Int.reduceLT, Int.reduceEq, Int.reduceNeg, tbG9_27, xbG9_2, List.map_cons, List.map_nil, List.length_cons, List.length_nil, List.nil_append, List.append_nil, List.cons_append]; (try simp only [ite_and]); (repeat' (first | with_reducible assumption | refine And.intro ?_ ?_ | intro hp)); all_goals (first | (refine hQ _ ?_; clear hQ Q) | omega | assumption | (with_reducible rfl) | (refine drawB_of ?_; kernel_rfl) | skip))
            repeat' (first | refine zq0 ?_ | refine zq1 ?_ | refine zq2 ?_ | refine zq3 ?_ | refine zq4 ?_ | refine zq5 ?_ | refine thenK_n ?_ | refine thenK_x ?_ | refine thenK_r ?_ | refine blockK_n ?_ | refine blockK_r ?_ | refine blockK_hit ?_ | refine blockK_miss (by decide) ?_)
            (refine sym_cd (by simp only [vkt, Nat.reduceEqDiff, Nat.reduceAdd, Nat.reduceMul, Nat.reduceSub, Nat.reduceLeDiff, reduceCtorEq, ↓reduceIte, ↓reduceDIte, Int.reduceToNat, Int.reduceLE, Int.reduceLT, Int.reduceEq, Int.reduceNeg, tbG9_27, xbG9_2, List.map_cons, List.map_nil, List.length_cons, List.length_nil, List.nil_append, List.append_nil, List.cons_append]; rfl) (fun h => ?_) (fun h => ?_) <;> (try simp only [vki, reduceCtorEq] at h))
            · have hlt : q < U := by omega
              have hI := hIk q
              have hJ := enJ_of hrs hC hI
              have hst := hst q
              generalize EK q = t at *
              unfold enStep enK0 enX2 kinds at hst
              unfold enX2 at hJ
              have hDb := enD_bd hI (by omega)
              obtain ⟨D, hD⟩ : ∃ D, enD rs.length t = D := ⟨_, rfl⟩
              obtain ⟨X1, hX1⟩ : ∃ X1, enX1 rs.length t = X1 := ⟨_, rfl⟩
              rw [hD] at hst hJ
              rw [hX1] at hst hJ
              have hD' : t.day + upV t.x (min (t.day + 1) ((rs.length : Int) - 1) - t.day) = D := hD
              have hX1' : upS t.x (min (t.day + 1) ((rs.length : Int) - 1) - t.day) = X1 := hX1
              clear hD hX1 hDb
              obtain ⟨κ, hκ⟩ : ∃ κ, oneV X1 [1, 2, 3, 3, 3, 4] = κ := ⟨_, rfl⟩
              obtain ⟨X2, hX2⟩ : ∃ X2, upS X1 ((6 : Nat) - 1) = X2 := ⟨_, rfl⟩
              rw [hκ, hX2] at hst
              rw [hX2] at hJ
              obtain ⟨cn, hcn⟩ : ∃ cn, upV X2 ((co.cs.length : Int) - 1) = cn := ⟨_, rfl⟩
              obtain ⟨X3, hX3⟩ : ∃ X3, upS X2 ((co.cs.length : Int) - 1) = X3 := ⟨_, rfl⟩
              rw [hcn] at hst hJ
              rw [hX3] at hst
              have t1 := hI.len
              have t2 := hI.es
              have t3 := hI.d0
              have t4 := hI.d1
              have j1 := hJ.d0
              have j2 := hJ.d1
              have j3 := hJ.c0
              have j4 := hJ.c1
              have j5 := hJ.h
              have wD : IntKind.wrap .i64 (t.day + 1) = t.day + 1 := wrap64 (by omega) (by omega)
              have wR : IntKind.wrap .i64 ((rs.length : Int) - 1) = (rs.length : Int) - 1 := wrap64 (by omega) (by omega)
              have wC : IntKind.wrap .i64 ((co.cs.length : Int) - 1) = (co.cs.length : Int) - 1 := wrap64 (by omega) (by omega)
              have e7 : IntKind.wrap .i64 ((U : Int) - (q : Int) - 1) = (U : Int) - ((q + 1 : Nat) : Int) := by rw [wrap64 (by omega) (by omega)]; omega
              have m1 : (t.es.length + 1) * 48 ≤ 140737488355328 ∧ t.es.length + 1 ≤ maxLen := by omega
              have lc : cn.toNat < t.till.length := by omega
              have e6 := gI0 lc
              have p1 : -100000 ≤ t.day ∧ t.day ≤ 100000 ∧ -100000 ≤ min (t.day + 1) ((rs.length : Int) - 1) ∧ min (t.day + 1) ((rs.length : Int) - 1) ≤ 100000 := by omega
              have p2 : (co.cs.length : Int) - 1 < 9223372036854775807 := by omega
              generalize hh : t.till.getD cn.toNat 0 = hv at *
              by_cases k1 : κ = 1
              · subst k1
                have hst : EK (q + 1) = ⟨D, t.till.set cn.toNat (hv + upV X3 90), t.es ++ [⟨D, 1, cn, 0, upV X3 90, 0⟩], upS X3 90⟩ := by rw [hst]; unfold enS0 enS1; rw [if_pos rfl, hh]
                have u1 := upV_le (x := X3) (m := 90) (by decide) (by decide)
                have w1 : IntKind.wrap .i64 (hv + upV X3 90) = hv + upV X3 90 := wrap64 (by omega) (by omega)
                have e4 : t.es.map eEnt ++ [[.v (.int .i64 D), .v (.int .i64 1), .v (.int .i64 cn), .v (.int .i64 0), .v (.int .i64 (upV X3 90)), .v (.int .i64 0)]] = (t.es ++ [(⟨D, 1, cn, 0, upV X3 90, 0⟩ : Ent)]).map eEnt := by rw [List.map_append]; rfl
                repeat' (first | refine zq0 ?_ | refine zq1 ?_ | refine zq2 ?_ | refine zq3 ?_ | refine zq4 ?_ | refine zq5 ?_ | refine thenK_n ?_ | refine thenK_x ?_ | refine thenK_r ?_ | refine blockK_n ?_ | refine blockK_r ?_ | refine blockK_hit ?_ | refine blockK_miss (by decide) ?_ | ((first | refine sym_reg env fun Q hQ => ?_ | refine sym_cz fun Q hQ => ?_); simp only [vkt, Nat.reduceEqDiff, Nat.reduceAdd, Nat.reduceMul, Nat.reduceSub, Nat.reduceLeDiff, reduceCtorEq, ↓reduceIte, ↓reduceDIte, Int.reduceToNat, Int.reduceLE, Int.reduceLT, Int.reduceEq, Int.reduceNeg, tbG9_27, xbG9_2, List.map_cons, List.map_nil, List.length_cons, List.length_nil, List.nil_append, List.append_nil, List.cons_append, wD, wR, wC, hD', hX1', hκ, hX2, hcn, hX3, e6, w1, e4, e7, setI]; (try simp only [ite_and]); (repeat' (first | with_reducible assumption | refine And.intro ?_ ?_)); all_goals (first | (refine hQ _ ?_; clear hQ Q) | (refine hQ _ (fun h => ?_) (fun h => ?_) <;> clear hQ Q <;> (try simp only [vki, reduceCtorEq] at h)) | omega | (with_reducible assumption) | (with_reducible rfl) | (refine drawB_of ?_; kernel_rfl) | skip)))
                all_goals first | exact ⟨_, _, rfl⟩ | skip
                refine ⟨⟨q + 1, hlt⟩, by show U - (q + 1) < U - q; omega, ?_⟩
                (refine Le.ok (fun j => if j = 7 then some 11 else some j) [] ?_; constructor; all_goals (try simp only [vle, vkt, Nat.reduceEqDiff, Nat.reduceAdd, Nat.reduceMul, Nat.reduceSub, Nat.reduceLeDiff, reduceCtorEq, ↓reduceIte, ↓reduceDIte, Int.reduceToNat, Int.reduceLE, Int.reduceLT, Int.reduceEq, Int.reduceNeg, tbG9_27, xbG9_2, List.map_cons, List.map_nil, List.length_cons, List.length_nil, List.nil_append, List.append_nil, List.cons_append]))
                all_goals first | rfl | (simp [hst]; done)
              by_cases k2 : κ = 2
              · subst k2
                have u1 := upV_bd (x := X3) (m := min hv 90) (by omega)
                have hst : EK (q + 1) = ⟨D, t.till.set cn.toNat (hv - upV X3 (min hv 90)), t.es ++ [(⟨D, 2, cn, 0, upV X3 (min hv 90), 0⟩ : Ent)], upS X3 (min hv 90)⟩ := by rw [hst]; unfold enS0 enS2; rw [if_neg (by decide), if_pos rfl, hh]
                obtain ⟨am, hA⟩ : ∃ am, upV X3 (min hv 90) = am := ⟨_, rfl⟩
                obtain ⟨X4, hX4⟩ : ∃ X4, upS X3 (min hv 90) = X4 := ⟨_, rfl⟩
                rw [hA, hX4] at hst
                rw [hA] at u1
                have p3 : min hv 90 < 9223372036854775807 := by omega
                have w1 : IntKind.wrap .i64 (hv - am) = hv - am := wrap64 (by omega) (by omega)
                have e4 : t.es.map eEnt ++ [[.v (.int .i64 D), .v (.int .i64 2), .v (.int .i64 cn), .v (.int .i64 0), .v (.int .i64 am), .v (.int .i64 0)]] = (t.es ++ [(⟨D, 2, cn, 0, am, 0⟩ : Ent)]).map eEnt := by rw [List.map_append]; rfl
                repeat' (first | refine zq0 ?_ | refine zq1 ?_ | refine zq2 ?_ | refine zq3 ?_ | refine zq4 ?_ | refine zq5 ?_ | refine thenK_n ?_ | refine thenK_x ?_ | refine thenK_r ?_ | refine blockK_n ?_ | refine blockK_r ?_ | refine blockK_hit ?_ | refine blockK_miss (by decide) ?_ | ((first | refine sym_reg env fun Q hQ => ?_ | refine sym_cz fun Q hQ => ?_); simp only [vkt, Nat.reduceEqDiff, Nat.reduceAdd, Nat.reduceMul, Nat.reduceSub, Nat.reduceLeDiff, reduceCtorEq, ↓reduceIte, ↓reduceDIte, Int.reduceToNat, Int.reduceLE, Int.reduceLT, Int.reduceEq, Int.reduceNeg, tbG9_27, xbG9_2, List.map_cons, List.map_nil, List.length_cons, List.length_nil, List.nil_append, List.append_nil, List.cons_append, wD, wR, wC, hD', hX1', hκ, hX2, hcn, hX3, e6, hA, hX4, w1, e4, e7, setI]; (try simp only [ite_and]); (repeat' (first | with_reducible assumption | refine And.intro ?_ ?_)); all_goals (first | (refine hQ _ ?_; clear hQ Q) | (refine hQ _ (fun h => ?_) (fun h => ?_) <;> clear hQ Q <;> (try simp only [vki, reduceCtorEq] at h)) | omega | (with_reducible assumption) | (with_reducible rfl) | (refine drawB_of ?_; kernel_rfl) | skip)))
                all_goals first | exact ⟨_, _, rfl⟩ | skip
                refine ⟨⟨q + 1, hlt⟩, by show U - (q + 1) < U - q; omega, ?_⟩
                (refine Le.ok (fun j => if j = 7 then some 11 else some j) [] ?_; constructor; all_goals (try simp only [vle, vkt, Nat.reduceEqDiff, Nat.reduceAdd, Nat.reduceMul, Nat.reduceSub, Nat.reduceLeDiff, reduceCtorEq, ↓reduceIte, ↓reduceDIte, Int.reduceToNat, Int.reduceLE, Int.reduceLT, Int.reduceEq, Int.reduceNeg, tbG9_27, xbG9_2, List.map_cons, List.map_nil, List.length_cons, List.length_nil, List.nil_append, List.append_nil, List.cons_append]))
                all_goals first | rfl | (simp [hst]; done)
              by_cases k4 : κ = 4
              · subst k4
                have u1 := enA4_bd hv X3
                have u2 := upV_bd (x := X3) (m := 3 - -3) (by decide)
                have hst : EK (q + 1) = ⟨D, t.till.set cn.toNat (enA4 hv X3), t.es ++ [(⟨D, 4, cn, 0, enA4 hv X3, 0⟩ : Ent)], upS (upS X3 (3 - -3)) ((2 : Nat) - 1)⟩ := by rw [hst]; unfold enS0 enS4; rw [if_neg (by decide), if_neg (by decide), if_pos rfl, hh]
                unfold enA4 enF at hst u1
                obtain ⟨f, hf⟩ : ∃ f, -3 + upV X3 (3 - -3) = f := ⟨_, rfl⟩
                obtain ⟨X4, hX4⟩ : ∃ X4, upS X3 (3 - -3) = X4 := ⟨_, rfl⟩
                have hf3 : -3 ≤ f ∧ f ≤ 3 := by omega
                rw [hf, hX4] at hst u1
                have ho := oneV_mem (x := X4) (l := [0, f]) (by simp) (by simp)
                obtain ⟨o, hO⟩ : ∃ o, oneV X4 [0, f] = o := ⟨_, rfl⟩
                obtain ⟨X5, hX5⟩ : ∃ X5, upS X4 ((2 : Nat) - 1) = X5 := ⟨_, rfl⟩
                rw [hO, hX5] at hst
                rw [hO] at u1 ho
                have ho : -3 ≤ o ∧ o ≤ 3 := by simp at ho; omega
                have w1 : IntKind.wrap .i64 (hv + o) = hv + o := wrap64 (by omega) (by omega)
                obtain ⟨am, hA⟩ : ∃ am, max 0 (min 999 (hv + o)) = am := ⟨_, rfl⟩
                rw [hA] at hst
                have e4 : t.es.map eEnt ++ [[.v (.int .i64 D), .v (.int .i64 4), .v (.int .i64 cn), .v (.int .i64 0), .v (.int .i64 am), .v (.int .i64 0)]] = (t.es ++ [(⟨D, 4, cn, 0, am, 0⟩ : Ent)]).map eEnt := by rw [List.map_append]; rfl
                repeat' (first | refine zq0 ?_ | refine zq1 ?_ | refine zq2 ?_ | refine zq3 ?_ | refine zq4 ?_ | refine zq5 ?_ | refine thenK_n ?_ | refine thenK_x ?_ | refine thenK_r ?_ | refine blockK_n ?_ | refine blockK_r ?_ | refine blockK_hit ?_ | refine blockK_miss (by decide) ?_ | ((first | refine sym_reg env fun Q hQ => ?_ | refine sym_cz fun Q hQ => ?_); simp only [vkt, Nat.reduceEqDiff, Nat.reduceAdd, Nat.reduceMul, Nat.reduceSub, Nat.reduceLeDiff, reduceCtorEq, ↓reduceIte, ↓reduceDIte, Int.reduceToNat, Int.reduceLE, Int.reduceLT, Int.reduceEq, Int.reduceNeg, tbG9_27, xbG9_2, List.map_cons, List.map_nil, List.length_cons, List.length_nil, List.nil_append, List.append_nil, List.cons_append, wD, wR, wC, hD', hX1', hκ, hX2, hcn, hX3, e6, hf, hX4, hO, hX5, w1, hA, e4, e7, setI]; (try simp only [ite_and]); (repeat' (first | with_reducible assumption | refine And.intro ?_ ?_)); all_goals (first | (refine hQ _ ?_; clear hQ Q) | (refine hQ _ (fun h => ?_) (fun h => ?_) <;> clear hQ Q <;> (try simp only [vki, reduceCtorEq] at h)) | omega | (with_reducible assumption) | (with_reducible rfl) | (refine drawB_of ?_; kernel_rfl) | skip)))
                all_goals first | exact ⟨_, _, rfl⟩ | skip
                all_goals first | exact ⟨_, _, rfl⟩ | skip
                refine ⟨⟨q + 1, hlt⟩, by show U - (q + 1) < U - q; omega, ?_⟩
                (refine Le.ok (fun j => if j = 7 then some 12 else some j) [] ?_; constructor; all_goals (try simp only [vle, vkt, Nat.reduceEqDiff, Nat.reduceAdd, Nat.reduceMul, Nat.reduceSub, Nat.reduceLeDiff, reduceCtorEq, ↓reduceIte, ↓reduceDIte, Int.reduceToNat, Int.reduceLE, Int.reduceLT, Int.reduceEq, Int.reduceNeg, tbG9_27, xbG9_2, List.map_cons, List.map_nil, List.length_cons, List.length_nil, List.nil_append, List.append_nil, List.cons_append]))
                all_goals first | rfl | (simp [hst]; done)
              have k3 : κ = 3 := by
                have := oneV_mem (x := X1) (l := [1, 2, 3, 3, 3, 4]) (by simp) (by simp)
                rw [hκ] at this
                simp at this
                omega
              subst k3
              unfold enS0 at hst
              rw [if_neg k1, if_neg k2, if_neg k4] at hst
              unfold enS3 at hst
              by_cases cC : co.cs.length = 1
              · rw [if_pos cC] at hst
                have cC' : decide ((co.cs.length : Int) = 1) = true := by simp [cC]
                repeat' (first | refine zq0 ?_ | refine zq1 ?_ | refine zq2 ?_ | refine zq3 ?_ | refine zq4 ?_ | refine zq5 ?_ | refine thenK_n ?_ | refine thenK_x ?_ | refine thenK_r ?_ | refine blockK_n ?_ | refine blockK_r ?_ | refine blockK_hit ?_ | refine blockK_miss (by decide) ?_ | ((first | refine sym_reg env fun Q hQ => ?_ | refine sym_cz fun Q hQ => ?_); simp only [vkt, Nat.reduceEqDiff, Nat.reduceAdd, Nat.reduceMul, Nat.reduceSub, Nat.reduceLeDiff, reduceCtorEq, ↓reduceIte, ↓reduceDIte, Int.reduceToNat, Int.reduceLE, Int.reduceLT, Int.reduceEq, Int.reduceNeg, tbG9_27, xbG9_2, List.map_cons, List.map_nil, List.length_cons, List.length_nil, List.nil_append, List.append_nil, List.cons_append, wD, wR, wC, hD', hX1', hκ, hX2, hcn, hX3, cC', e7]; (try simp only [ite_and]); (repeat' (first | with_reducible assumption | refine And.intro ?_ ?_)); all_goals (first | (refine hQ _ ?_; clear hQ Q) | (refine hQ _ (fun h => ?_) (fun h => ?_) <;> clear hQ Q <;> (try simp only [vki, reduceCtorEq] at h)) | omega | (with_reducible assumption) | (with_reducible rfl) | (refine drawB_of ?_; kernel_rfl) | skip)))
                all_goals first | exact ⟨_, _, rfl⟩ | skip
                refine ⟨⟨q + 1, hlt⟩, by show U - (q + 1) < U - q; omega, ?_⟩
                (refine Le.ok some [] ?_; constructor; all_goals (try simp only [vle, vkt, Nat.reduceEqDiff, Nat.reduceAdd, Nat.reduceMul, Nat.reduceSub, Nat.reduceLeDiff, reduceCtorEq, ↓reduceIte, ↓reduceDIte, Int.reduceToNat, Int.reduceLE, Int.reduceLT, Int.reduceEq, Int.reduceNeg, tbG9_27, xbG9_2, List.map_cons, List.map_nil, List.length_cons, List.length_nil, List.nil_append, List.append_nil, List.cons_append]))
                all_goals first | rfl | (simp [hst]; done)
              · rw [if_neg cC] at hst
                have cC' : ¬ (co.cs.length : Int) = 1 := by omega
                have u1 := upV_le (x := X3) (m := (co.cs.length : Int) - 1 - 1) (by omega) (by omega)
                have wT : IntKind.wrap .i64 (cn + (1 + upV X3 ((co.cs.length : Int) - 1 - 1))) = cn + (1 + upV X3 ((co.cs.length : Int) - 1 - 1)) := wrap64 (by omega) (by omega)
                have hT2 : foldV (cn + (1 + upV X3 ((co.cs.length : Int) - 1 - 1))) (co.cs.length : Int) = enTo co.cs.length cn X3 := rfl
                have hTb : 0 ≤ enTo co.cs.length cn X3 ∧ enTo co.cs.length cn X3 < (co.cs.length : Int) := foldV_bd (by omega)
                obtain ⟨to, hT⟩ : ∃ to, foldV (cn + (1 + upV X3 ((co.cs.length : Int) - 1 - 1))) (co.cs.length : Int) = to := ⟨_, rfl⟩
                rw [← hT2, hT] at hst hTb
                clear hT2
                obtain ⟨X4, hX4⟩ : ∃ X4, upS X3 ((co.cs.length : Int) - 1 - 1) = X4 := ⟨_, rfl⟩
                rw [hX4, hh] at hst
                have u2 := upV_bd (x := X4) (m := min hv 40) (by omega)
                obtain ⟨am, hA⟩ : ∃ am, upV X4 (min hv 40) = am := ⟨_, rfl⟩
                obtain ⟨X5, hX5⟩ : ∃ X5, upS X4 (min hv 40) = X5 := ⟨_, rfl⟩
                rw [hA, hX5] at hst
                rw [hA] at u2
                have am0 : 0 ≤ am ∧ am ≤ 40 ∧ am ≤ hv := by omega
                have s1 := hrs.sh j1 j2 j3 j4
                have s2 := hrs.sh j1 j2 hTb.1 (show to ≤ (co.cs.length : Int) - 1 by omega)
                have hGb := enG0_bd s1 s2 am0.1 am0.2.1
                have lD : D.toNat < rs.length := by omega
                have g1 := gRow lD
                have lR := (okd2 _ (gMem (l := rs) (k := D.toNat) (d := []) lD)).len
                have q1 := s1.n
                have q2 := s1.d
                have q3 := s2.n
                have q4 := s2.d
                obtain ⟨G, hG0⟩ : ∃ G, enG0 rs D cn to am = G := ⟨_, rfl⟩
                unfold enS3a at hst
                rw [hG0] at hst hGb
                unfold enG0 at hG0
                generalize rs.getD D.toNat [] = rw at *
                obtain ⟨f, hf⟩ : ∃ f, rw.getD cn.toNat default = f := ⟨_, rfl⟩
                obtain ⟨g, hg⟩ : ∃ g, rw.getD to.toNat default = g := ⟨_, rfl⟩
                rw [hf] at q1 q2 hG0
                rw [hg] at q3 q4 hG0
                have lf : cn.toNat < rw.length := by omega
                have lg : to.toNat < rw.length := by omega
                have G1 : (rw.map eSh).getD cn.toNat [.v (.int .i64 0), .v (.int .i64 0)] = [.v (.int .i64 f.num), .v (.int .i64 f.den)] := by rw [gSh, hf]; rfl
                have G2 : (rw.map eSh).getD to.toNat [.v (.int .i64 0), .v (.int .i64 0)] = [.v (.int .i64 g.num), .v (.int .i64 g.den)] := by rw [gSh, hg]; rfl
                have m1' : 0 ≤ am * f.num ∧ am * f.num ≤ 800 := ⟨Int.mul_nonneg am0.1 (by omega), Int.le_trans (Int.mul_le_mul am0.2.1 q1.2 (by omega) (by omega)) (by decide)⟩
                have m2' : 0 ≤ am * f.num * g.den ∧ am * f.num * g.den ≤ 9600 := ⟨Int.mul_nonneg m1'.1 (by omega), Int.le_trans (Int.mul_le_mul m1'.2 q4.2 (by omega) (by omega)) (by decide)⟩
                have m3' : 0 < f.den * g.num ∧ f.den * g.num ≤ 240 := ⟨Int.mul_pos (by omega) (by omega), Int.le_trans (Int.mul_le_mul q2.2 q3.2 (by omega) (by omega)) (by decide)⟩
                have wa : IntKind.wrap .i64 (am * f.num) = am * f.num := wrap64 (by omega) (by omega)
                have wb : IntKind.wrap .i64 (am * f.num * g.den) = am * f.num * g.den := wrap64 (by omega) (by omega)
                have wc : IntKind.wrap .i64 (f.den * g.num) = f.den * g.num := wrap64 (by omega) (by omega)
                have nz : ¬ f.den * g.num = 0 := by omega
                have hG : (am * f.num * g.den).tdiv (f.den * g.num) = G := hG0
                have wd : IntKind.wrap .i64 G = G := wrap64 (by omega) (by omega)
                have ltl : to.toNat < t.till.length := by omega
                have g2 := gI0 ltl
                have hht0 := hI.b _ (gMem (l := t.till) (k := to.toNat) (d := 0) ltl)
                obtain ⟨ht, hht⟩ : ∃ ht, t.till.getD to.toNat 0 = ht := ⟨_, rfl⟩
                rw [hht] at g2 hht0
                have w0 : IntKind.wrap .i64 (hv - am) = hv - am := wrap64 (by omega) (by omega)
                have p3 : min hv 40 < 9223372036854775807 := by omega
                have p4 : (co.cs.length : Int) ≤ 1000000 := by omega
                have et : to.toNat < (t.till.set cn.toNat (hv - am)).length := by rw [List.length_set]; exact ltl
                have g3 := gI0 et
                obtain ⟨X6, hX6⟩ : ∃ X6, upS X5 (10 - 1) = X6 := ⟨_, rfl⟩
                rw [hX6] at hst
                by_cases c5 : upV X5 (10 - 1) < w
                · rw [if_pos c5] at hst
                  have u3 := upV_le (x := X6) (m := 3 - 1) (by decide) (by decide)
                  obtain ⟨v, hv3⟩ : ∃ v, 1 + upV X6 (3 - 1) = v := ⟨_, rfl⟩
                  obtain ⟨X7, hX7⟩ : ∃ X7, upS X6 (3 - 1) = X7 := ⟨_, rfl⟩
                  rw [hv3, hX7] at hst
                  have wg : IntKind.wrap .i64 (G + v) = G + v := wrap64 (by omega) (by omega)
                  by_cases c6 : 999 < G + v
                  · have hst : EK (q + 1) = ⟨D, t.till, t.es, X7⟩ := by rw [hst]; unfold enS3b; rw [if_pos c6]
                    repeat' (first | refine zq0 ?_ | refine zq1 ?_ | refine zq2 ?_ | refine zq3 ?_ | refine zq4 ?_ | refine zq5 ?_ | refine thenK_n ?_ | refine thenK_x ?_ | refine thenK_r ?_ | refine blockK_n ?_ | refine blockK_r ?_ | refine blockK_hit ?_ | refine blockK_miss (by decide) ?_ | ((first | refine sym_reg env fun Q hQ => ?_ | refine sym_cz fun Q hQ => ?_); simp only [vkt, Nat.reduceEqDiff, Nat.reduceAdd, Nat.reduceMul, Nat.reduceSub, Nat.reduceLeDiff, reduceCtorEq, ↓reduceIte, ↓reduceDIte, Int.reduceToNat, Int.reduceLE, Int.reduceLT, Int.reduceEq, Int.reduceNeg, tbG9_27, xbG9_2, List.map_cons, List.map_nil, List.length_cons, List.length_nil, List.nil_append, List.append_nil, List.cons_append, wD, wR, wC, hD', hX1', hκ, hX2, hcn, hX3, e6, g1, g2, G1, G2, wT, hT, hX4, hA, hX5, wa, wb, wc, wd, nz, hG, cC', c5, hX6, hv3, hX7, wg, c6, k1, k2, k4, e7, setI]; (try simp only [ite_and]); (repeat' (first | with_reducible assumption | refine And.intro ?_ ?_)); all_goals (first | (refine hQ _ ?_; clear hQ Q) | (refine hQ _ (fun h => ?_) (fun h => ?_) <;> clear hQ Q <;> (try simp only [vki, reduceCtorEq] at h)) | omega | (with_reducible assumption) | (with_reducible rfl) | (refine drawB_of ?_; kernel_rfl) | skip)))
                    all_goals first | exact ⟨_, _, rfl⟩ | skip
                    refine ⟨⟨q + 1, hlt⟩, by show U - (q + 1) < U - q; omega, ?_⟩
                    (refine Le.ok some [] ?_; constructor; all_goals (try simp only [vle, vkt, Nat.reduceEqDiff, Nat.reduceAdd, Nat.reduceMul, Nat.reduceSub, Nat.reduceLeDiff, reduceCtorEq, ↓reduceIte, ↓reduceDIte, Int.reduceToNat, Int.reduceLE, Int.reduceLT, Int.reduceEq, Int.reduceNeg, tbG9_27, xbG9_2, List.map_cons, List.map_nil, List.length_cons, List.length_nil, List.nil_append, List.append_nil, List.cons_append]))
                    all_goals first | rfl | (simp [hst]; done)
                  · have hst : EK (q + 1) = ⟨D, (t.till.set cn.toNat (hv - am)).set to.toNat (ht + (G + v)), t.es ++ [(⟨D, 3, cn, to, am, G + v⟩ : Ent)], X7⟩ := by rw [hst]; unfold enS3b; rw [if_neg c6, hh, hht]
                    have w1 : IntKind.wrap .i64 (ht + (G + v)) = ht + (G + v) := wrap64 (by omega) (by omega)
                    have e4 : t.es.map eEnt ++ [[.v (.int .i64 D), .v (.int .i64 3), .v (.int .i64 cn), .v (.int .i64 to), .v (.int .i64 am), .v (.int .i64 (G + v))]] = (t.es ++ [(⟨D, 3, cn, to, am, G + v⟩ : Ent)]).map eEnt := by rw [List.map_append]; rfl
                    repeat' (first | refine zq0 ?_ | refine zq1 ?_ | refine zq2 ?_ | refine zq3 ?_ | refine zq4 ?_ | refine zq5 ?_ | refine thenK_n ?_ | refine thenK_x ?_ | refine thenK_r ?_ | refine blockK_n ?_ | refine blockK_r ?_ | refine blockK_hit ?_ | refine blockK_miss (by decide) ?_ | ((first | refine sym_reg env fun Q hQ => ?_ | refine sym_cz fun Q hQ => ?_); simp only [vkt, Nat.reduceEqDiff, Nat.reduceAdd, Nat.reduceMul, Nat.reduceSub, Nat.reduceLeDiff, reduceCtorEq, ↓reduceIte, ↓reduceDIte, Int.reduceToNat, Int.reduceLE, Int.reduceLT, Int.reduceEq, Int.reduceNeg, tbG9_27, xbG9_2, List.map_cons, List.map_nil, List.length_cons, List.length_nil, List.nil_append, List.append_nil, List.cons_append, wD, wR, wC, hD', hX1', hκ, hX2, hcn, hX3, e6, g1, g2, G1, G2, wT, hT, hX4, hA, hX5, wa, wb, wc, wd, nz, hG, cC', c5, hX6, hv3, hX7, wg, c6, k1, k2, k4, e7, hh, hht, et, g3, w0, w1, e4, setI]; (try simp only [ite_and]); (repeat' (first | with_reducible assumption | refine And.intro ?_ ?_)); all_goals (first | (refine hQ _ ?_; clear hQ Q) | (refine hQ _ (fun h => ?_) (fun h => ?_) <;> clear hQ Q <;> (try simp only [vki, reduceCtorEq] at h)) | omega | (with_reducible assumption) | (with_reducible rfl) | (refine drawB_of ?_; kernel_rfl) | skip)))
                    all_goals first | exact ⟨_, _, rfl⟩ | skip
                    refine ⟨⟨q + 1, hlt⟩, by show U - (q + 1) < U - q; omega, ?_⟩
                    (refine Le.ok (fun j => if j = 7 then some 13 else some j) [] ?_; constructor; all_goals (try simp only [vle, vkt, Nat.reduceEqDiff, Nat.reduceAdd, Nat.reduceMul, Nat.reduceSub, Nat.reduceLeDiff, reduceCtorEq, ↓reduceIte, ↓reduceDIte, Int.reduceToNat, Int.reduceLE, Int.reduceLT, Int.reduceEq, Int.reduceNeg, tbG9_27, xbG9_2, List.map_cons, List.map_nil, List.length_cons, List.length_nil, List.nil_append, List.append_nil, List.cons_append]))
                    all_goals first | rfl | (simp [hst]; done)
                · rw [if_neg c5] at hst
                  by_cases c6 : 999 < G
                  · have hst : EK (q + 1) = ⟨D, t.till, t.es, X6⟩ := by rw [hst]; unfold enS3b; rw [if_pos c6]
                    repeat' (first | refine zq0 ?_ | refine zq1 ?_ | refine zq2 ?_ | refine zq3 ?_ | refine zq4 ?_ | refine zq5 ?_ | refine thenK_n ?_ | refine thenK_x ?_ | refine thenK_r ?_ | refine blockK_n ?_ | refine blockK_r ?_ | refine blockK_hit ?_ | refine blockK_miss (by decide) ?_ | ((first | refine sym_reg env fun Q hQ => ?_ | refine sym_cz fun Q hQ => ?_); simp only [vkt, Nat.reduceEqDiff, Nat.reduceAdd, Nat.reduceMul, Nat.reduceSub, Nat.reduceLeDiff, reduceCtorEq, ↓reduceIte, ↓reduceDIte, Int.reduceToNat, Int.reduceLE, Int.reduceLT, Int.reduceEq, Int.reduceNeg, tbG9_27, xbG9_2, List.map_cons, List.map_nil, List.length_cons, List.length_nil, List.nil_append, List.append_nil, List.cons_append, wD, wR, wC, hD', hX1', hκ, hX2, hcn, hX3, e6, g1, g2, G1, G2, wT, hT, hX4, hA, hX5, wa, wb, wc, wd, nz, hG, cC', c5, hX6, c6, k1, k2, k4, e7, setI]; (try simp only [ite_and]); (repeat' (first | with_reducible assumption | refine And.intro ?_ ?_)); all_goals (first | (refine hQ _ ?_; clear hQ Q) | (refine hQ _ (fun h => ?_) (fun h => ?_) <;> clear hQ Q <;> (try simp only [vki, reduceCtorEq] at h)) | omega | (with_reducible assumption) | (with_reducible rfl) | (refine drawB_of ?_; kernel_rfl) | skip)))
                    all_goals first | exact ⟨_, _, rfl⟩ | skip
                    refine ⟨⟨q + 1, hlt⟩, by show U - (q + 1) < U - q; omega, ?_⟩
                    (refine Le.ok some [] ?_; constructor; all_goals (try simp only [vle, vkt, Nat.reduceEqDiff, Nat.reduceAdd, Nat.reduceMul, Nat.reduceSub, Nat.reduceLeDiff, reduceCtorEq, ↓reduceIte, ↓reduceDIte, Int.reduceToNat, Int.reduceLE, Int.reduceLT, Int.reduceEq, Int.reduceNeg, tbG9_27, xbG9_2, List.map_cons, List.map_nil, List.length_cons, List.length_nil, List.nil_append, List.append_nil, List.cons_append]))
                    all_goals first | rfl | (simp [hst]; done)
                  · have hst : EK (q + 1) = ⟨D, (t.till.set cn.toNat (hv - am)).set to.toNat (ht + G), t.es ++ [(⟨D, 3, cn, to, am, G⟩ : Ent)], X6⟩ := by rw [hst]; unfold enS3b; rw [if_neg c6, hh, hht]
                    have w1 : IntKind.wrap .i64 (ht + (G)) = ht + (G) := wrap64 (by omega) (by omega)
                    have e4 : t.es.map eEnt ++ [[.v (.int .i64 D), .v (.int .i64 3), .v (.int .i64 cn), .v (.int .i64 to), .v (.int .i64 am), .v (.int .i64 (G))]] = (t.es ++ [(⟨D, 3, cn, to, am, G⟩ : Ent)]).map eEnt := by rw [List.map_append]; rfl
                    repeat' (first | refine zq0 ?_ | refine zq1 ?_ | refine zq2 ?_ | refine zq3 ?_ | refine zq4 ?_ | refine zq5 ?_ | refine thenK_n ?_ | refine thenK_x ?_ | refine thenK_r ?_ | refine blockK_n ?_ | refine blockK_r ?_ | refine blockK_hit ?_ | refine blockK_miss (by decide) ?_ | ((first | refine sym_reg env fun Q hQ => ?_ | refine sym_cz fun Q hQ => ?_); simp only [vkt, Nat.reduceEqDiff, Nat.reduceAdd, Nat.reduceMul, Nat.reduceSub, Nat.reduceLeDiff, reduceCtorEq, ↓reduceIte, ↓reduceDIte, Int.reduceToNat, Int.reduceLE, Int.reduceLT, Int.reduceEq, Int.reduceNeg, tbG9_27, xbG9_2, List.map_cons, List.map_nil, List.length_cons, List.length_nil, List.nil_append, List.append_nil, List.cons_append, wD, wR, wC, hD', hX1', hκ, hX2, hcn, hX3, e6, g1, g2, G1, G2, wT, hT, hX4, hA, hX5, wa, wb, wc, wd, nz, hG, cC', c5, hX6, c6, k1, k2, k4, e7, hh, hht, et, g3, w0, w1, e4, setI]; (try simp only [ite_and]); (repeat' (first | with_reducible assumption | refine And.intro ?_ ?_)); all_goals (first | (refine hQ _ ?_; clear hQ Q) | (refine hQ _ (fun h => ?_) (fun h => ?_) <;> clear hQ Q <;> (try simp only [vki, reduceCtorEq] at h)) | omega | (with_reducible assumption) | (with_reducible rfl) | (refine drawB_of ?_; kernel_rfl) | skip)))
                    all_goals first | exact ⟨_, _, rfl⟩ | skip
                    refine ⟨⟨q + 1, hlt⟩, by show U - (q + 1) < U - q; omega, ?_⟩
                    (refine Le.ok (fun j => if j = 7 then some 13 else some j) [] ?_; constructor; all_goals (try simp only [vle, vkt, Nat.reduceEqDiff, Nat.reduceAdd, Nat.reduceMul, Nat.reduceSub, Nat.reduceLeDiff, reduceCtorEq, ↓reduceIte, ↓reduceDIte, Int.reduceToNat, Int.reduceLE, Int.reduceLT, Int.reduceEq, Int.reduceNeg, tbG9_27, xbG9_2, List.map_cons, List.map_nil, List.length_cons, List.length_nil, List.nil_append, List.append_nil, List.cons_append]))
                    all_goals first | rfl | (simp [hst]; done)
            · have hqU : q = U := by omega
              subst hqU
              rw [gL, gS, g3]
              repeat' (first | refine zq0 ?_ | refine zq1 ?_ | refine zq2 ?_ | refine zq3 ?_ | refine zq4 ?_ | refine zq5 ?_ | refine thenK_n ?_ | refine thenK_x ?_ | refine thenK_r ?_ | refine blockK_n ?_ | refine blockK_r ?_ | refine blockK_hit ?_ | refine blockK_miss (by decide) ?_ | ((first | refine sym_reg env fun Q hQ => ?_ | refine sym_cz fun Q hQ => ?_); simp only [vkt, Nat.reduceEqDiff, Nat.reduceAdd, Nat.reduceMul, Nat.reduceSub, Nat.reduceLeDiff, reduceCtorEq, ↓reduceIte, ↓reduceDIte, Int.reduceToNat, Int.reduceLE, Int.reduceLT, Int.reduceEq, Int.reduceNeg, tbG9_27, xbG9_2, List.map_cons, List.map_nil, List.length_cons, List.length_nil, List.nil_append, List.append_nil, List.cons_append]; (try simp only [ite_and]); (repeat' (first | with_reducible assumption | refine And.intro ?_ ?_)); all_goals (first | (refine hQ _ ?_; clear hQ Q) | (refine hQ _ (fun h => ?_) (fun h => ?_) <;> clear hQ Q <;> (try simp only [vki, reduceCtorEq] at h)) | omega | (with_reducible assumption) | (with_reducible rfl) | (refine drawB_of ?_; kernel_rfl) | skip)))
              (simp only [vrt, Try.results27, vkt, Nat.reduceEqDiff, Nat.reduceAdd, Nat.reduceMul, Nat.reduceSub, Nat.reduceLeDiff, reduceCtorEq, ↓reduceIte, ↓reduceDIte, Int.reduceToNat, Int.reduceLE, Int.reduceLT, Int.reduceEq, Int.reduceNeg, tbG9_27, xbG9_2, List.map_cons, List.map_nil, List.length_cons, List.length_nil, List.nil_append, List.append_nil, List.cons_append]; refine Fin.ok some [3, 5, 4, 7] ?_ ?_ ?_ ?_ ?_ rfl; all_goals (try simp only [vle, vkt, Nat.reduceEqDiff, Nat.reduceAdd, Nat.reduceMul, Nat.reduceSub, Nat.reduceLeDiff, reduceCtorEq, ↓reduceIte, ↓reduceDIte, Int.reduceToNat, Int.reduceLE, Int.reduceLT, Int.reduceEq, Int.reduceNeg, tbG9_27, xbG9_2, List.map_cons, List.map_nil, List.length_cons, List.length_nil, List.nil_append, List.append_nil, List.cons_append]))
              all_goals first | rfl | (simp; done) | exact ⟨⟨_, _, rfl⟩, ⟨_, _, rfl⟩, ⟨_, _, rfl⟩, ⟨_, _, rfl⟩⟩ | exact ⟨⟨_, _, rfl⟩, ⟨_, _, rfl⟩, ⟨_, _, rfl⟩, ⟨_, _, rfl⟩, trivial⟩
noncomputable def p27 (S : St) : List AV → Option Pk
  | [.ptr i 0, .v (.int .i64 c), .v (.int .i64 d), .v (.int .i64 e), .v (.int .i64 w)] => match S.h i with
    | some (.cells [.v (.int .u64 x)]) => some { pre := (1 ≤ c ∧ c ≤ 4) ∧ (1 ≤ d ∧ d ≤ 4) ∧ (0 ≤ e ∧ e ≤ 6), hs := [i], ar := [.ptr 0 0, .v (.int .i64 c), .v (.int .i64 d), .v (.int .i64 e), .v (.int .i64 w)], L0 := [.cells [.v (.int .u64 x)]], v := aLed (lgL x c d e w), L1 := [some (.cells [.v (.int .u64 (lgS x c d e w))])] }
    | _ => none
  | _ => none
theorem e27 {A : Frm → Prop} : EntryOK A Try.prog 27 (fnE p27) := fnE_ok fun S bs q h hp => by
  unfold p27 at h
  split at h
  · split at h
    · cases h; exact ledgerOf_fn _ _ _ _ _ hp.1 hp.2.1 hp.2.2
    · cases h
  · cases h
end Go.Sym.B
namespace Go.Sym.B
open Go Go.Sym Go.Proofs Go.Sym.C
theorem rsh_nd {l : Led} {d c : Int} (h : Rt l d c) : ((l.rates.getD d.toNat []).getD c.toNat default).num = (rq l d c).num ∧ ((l.rates.getD d.toNat []).getD c.toNat default).den = ((rq l d c).den : Int) :=
  ⟨congrArg Sh.num h.q, congrArg Sh.den h.q⟩
end Go.Sym.B
namespace Go.Sym.B
open Go Go.Sym Go.Proofs Go.Sym.C
end Go.Sym.B
namespace Go.Sym.B
open Go Go.Sym Go.Proofs Go.Sym.C
end Go.Sym.B
namespace Go.Sym.B
open Go Go.Sym Go.Proofs Go.Sym.C
end Go.Sym.B
namespace Go.Sym.B
open Go Go.Sym Go.Proofs Go.Sym.C
theorem num_nn {q : Rat} (h : 0 ≤ q) : 0 ≤ q.num := Rat.num_nonneg.2 h
theorem swapQ_nn {l : Led} {d a b n : Int} (h1 : Rt l d a) (h2 : Rt l d b) (hn : 0 ≤ n) : 0 ≤ rq l d a * (n : Rat) ∧ 0 ≤ swapQ l d a b n := by
  have e1 : 0 ≤ rq l d a := Rat.num_nonneg.1 (by have := h1.n0; omega)
  have e2 : 0 ≤ rq l d b := Rat.num_nonneg.1 (by have := h2.n0; omega)
  have e3 : (0 : Rat) ≤ (n : Rat) := by exact_mod_cast hn
  have e4 := Rat.mul_nonneg e1 e3
  refine ⟨e4, ?_⟩
  unfold swapQ
  rw [← div_mk _ _ (show 0 < (rq l d b).num by have := h2.n0; omega)]
  refine Rat.num_nonneg.1 ?_
  rw [mk_num (Int.mul_pos (den_pos _) (by have := h2.n0; omega))]
  exact Int.tdiv_nonneg (Int.mul_nonneg (num_nn e4) (by omega)) (Int.natCast_nonneg _)
theorem w_nd {l : Led} {d a n : Int} (h : Rt l d a) (hn : n.natAbs ≤ 300000) : (rq l d a * (n : Rat)).num.natAbs ≤ 6000000 ∧ ((rq l d a * (n : Rat)).den : Int) ≤ 12 := by
  have hp := den_pos (rq l d a)
  have e := mul_mk (rq l d a) n
  have d' := mk_den_le (a := (rq l d a).num * n) hp
  have m := mk_num_le (a := (rq l d a).num * n) hp
  rw [e] at d' m
  have h0 := h.n0
  have h1 := h.n1
  have h2 := h.e1
  have : ((rq l d a).num * n).natAbs ≤ 20 * 300000 := by rw [Int.natAbs_mul]; exact Nat.mul_le_mul (by omega) hn
  exact ⟨by omega, by omega⟩
theorem sm_div3 {w r : Rat} (hn : w.num.natAbs ≤ 6000000) (hd : (w.den : Int) ≤ 12) (h0 : 0 < r.num) (h1 : r.num ≤ 20) (h2 : r.den ≤ 12) : Sm (w / r) := by
  rw [← div_mk w r h0]
  have hp := Int.mul_pos (den_pos w) h0
  have d' := mk_den_le (a := w.num * r.den) hp
  have m := mk_num_le (a := w.num * r.den) hp
  have hr : (w.num * (r.den : Int)).natAbs ≤ 6000000 * 12 := by rw [Int.natAbs_mul]; exact Nat.mul_le_mul hn (by simpa using h2)
  have : (w.den : Int) * r.num ≤ 12 * 20 := Int.mul_le_mul hd h1 (by omega) (by decide)
  exact ⟨by omega, by omega, by omega⟩
end Go.Sym.B
namespace Go.Sym.B
open Go Go.Sym Go.Proofs Go.Sym.C
theorem first0 {n : Nat} {f : Nat → Int} (h : ∀ k, k < n → f k = 0) : firstE (errs n f) = 0 := by
  have hall : ∀ E : List Int, (∀ e ∈ E, e = 0) → firstE E = 0 := fun E => by
    induction E with
    | nil => intro _; rfl
    | cons e E ih => intro h; rw [firstE, if_pos (h e List.mem_cons_self)]; exact ih fun x hx => h x (List.mem_cons_of_mem _ hx)
  refine hall _ fun e he => ?_
  obtain ⟨j, hj, rfl⟩ := List.mem_map.1 he
  exact h j (List.mem_range.1 hj)
theorem counted0 {n a b : Int} (h1 : a ≤ n) (h2 : n ≤ b) : countedE n a b = 0 := by unfold countedE; rw [if_neg (by omega), if_neg (by omega)]
theorem coinE_ok {q : List Int} {j : Nat} (h : PcOk q j) (hj : j ≤ 3) : coinE q = 0 := by
  have hl := h.len
  unfold coinE
  rw [if_neg (by rw [counted0 (by omega) (by omega)]; simp), if_neg (by rw [h.one]; simp)]
  refine first0 fun i hi => ?_
  have h1 := h.up i (by omega)
  have h2 := h.le (i + 1) (by omega)
  unfold pieceE
  rw [Nat.add_comm 1 i, if_neg (by omega), if_neg (by omega)]
theorem shE_ok {s : Sh} (h : ShOk s) : shE s = 0 := by
  unfold shE
  rw [inB_iff.2 h.n, inB_iff.2 h.d, if_neg (by simp), if_neg (by simp), if_neg (by rw [ne_eq, Decidable.not_not]; exact h.r)]
theorem ratesE_ok {r : List Sh} {n : Nat} (h : RwOk r n) (hn : 1 ≤ n) : ratesE r n = 0 := by
  have hl := h.len
  unfold ratesE
  rw [if_neg (by simp [hl]), if_neg (by rw [h.one]; simp)]
  refine first0 fun i hi => ?_
  exact shE_ok (h.all _ (gMem (by omega)))
structure LgOk (L : Led) : Prop where
  c : 1 ≤ L.coins.length ∧ L.coins.length ≤ 4
  p : ∀ q ∈ L.coins, ∃ j, j ≤ 3 ∧ PcOk q j
  s : L.start.length = L.coins.length
  v : ∀ n ∈ L.start, 0 ≤ n ∧ n ≤ 200
  r : RsOk L.rates L.coins.length
  e : L.entries.length ≤ 6
theorem lg_ok {x c d e w : Int} (hc : 1 ≤ c ∧ c ≤ 4) (hd : 1 ≤ d ∧ d ≤ 4) (he : 0 ≤ e ∧ e ≤ 6) : LgOk (lgL x c d e w) := by
  have h1 := upV_le (x := x) (m := c - 1) (by omega) (by omega)
  have ok1 : CoOk (lg1 x c) (1 + upV x (c - 1)).toNat := coK_ok _ _
  have hl1 := ok1.c
  have h2 := upV_le (x := (lg1 x c).x) (m := d - 1) (by omega) (by omega)
  have ok2 : (lg2 x c d).1.length = (1 + upV (lg1 x c).x (d - 1)).toNat ∧ ∀ r ∈ (lg2 x c d).1, RwOk r ((lg1 x c).cs.length - 1 + 1) := dyK_ok _ _ _
  rw [show (lg1 x c).cs.length - 1 + 1 = (lg1 x c).cs.length by omega] at ok2
  have hr : RsOk (lg2 x c d).1 (lg1 x c).cs.length := ⟨by have := ok2.1; omega, ok2.2⟩
  have h3 := upV_le (x := (lg2 x c d).2) (m := e) (by omega) (by omega)
  have hI : EnI (lg1 x c).cs.length (lg2 x c d).1.length 0 ⟨0, (lg1 x c).ss, [], upS (lg2 x c d).2 e⟩ := ⟨Int.le_refl _, by show (0 : Int) ≤ _; have := hr.len; omega, by rw [ok1.c]; exact ok1.l, fun v hv => by have := ok1.v v hv; omega, Nat.le_refl _⟩
  have h4 := (enK_ok hr (by omega) (w := w) hI (upV (lg2 x c d).2 e).toNat).es
  refine ⟨?_, ok1.p, ?_, ok1.v, hr, ?_⟩
  · show 1 ≤ (lg1 x c).cs.length ∧ (lg1 x c).cs.length ≤ 4; omega
  · show (lg1 x c).ss.length = (lg1 x c).cs.length; rw [ok1.c]; exact ok1.l
  · show (lg3 x c d e w).es.length ≤ 6
    unfold lg3; omega
theorem LgOk.fit {L : Led} (h : LgOk L) : Fit L := by
  refine ⟨by have := h.c; omega, fun q hq => ?_, by have := h.r.len; omega, fun r hr => ?_, by have := h.c; have := h.s; omega, by have := h.e; omega⟩
  · obtain ⟨j, hj, hp⟩ := h.p q hq
    have := hp.len; omega
  · have := (h.r.all r hr).len; have := h.c; omega
theorem LgOk.check {L : Led} (h : LgOk L) : checkE L = entriesE L := by
  have c := h.c
  have r := h.r.len
  have hs := h.s
  unfold checkE
  rw [if_neg (by rw [counted0 (by omega) (by omega)]; simp)]
  rw [if_neg (by
    rw [first0 (f := ckCoin L) fun k hk => by
      obtain ⟨j, hj, hp⟩ := h.p _ (gMem (l := L.coins) (k := k) (d := []) hk)
      exact coinE_ok hp hj]
    simp)]
  rw [if_neg (by rw [counted0 (by omega) (by omega)]; simp)]
  rw [if_neg (by
    rw [first0 (f := ckRate L) fun k hk => ratesE_ok (h.r.all _ (gMem (l := L.rates) (k := k) (d := []) hk)) c.1]
    simp)]
  rw [if_neg (by simp [hs])]
  rw [if_neg (by
    rw [first0 (f := startE L) fun k hk => by
      have := h.v _ (gMem (l := L.start) (k := k) (d := 0) hk)
      unfold startE
      rw [inB_iff.2 (by omega)]; rfl]
    simp)]
theorem lg_e0 (x c d w : Int) : (lgL x c d 0 w).entries = [] := by
  show (lg3 x c d 0 w).es = []
  have h3 := upV_bd (x := (lg2 x c d).2) (m := 0) (by decide)
  have : upV (lg2 x c d).2 0 = 0 := by omega
  unfold lg3
  rw [this]
  rfl
theorem entries0 {L : Led} (h : L.entries = []) : entriesE L = 0 := by
  unfold entriesE
  rw [h, if_neg (by rw [counted0 (by simp) (by simp)]; simp)]
  exact first0 fun k hk => by simp at hk
end Go.Sym.B
namespace Go.Sym.B
open Go Go.Sym Go.Proofs Go.Sym.C
theorem q_cancel {a r : Rat} (h : r ≠ 0) : a / r * r = a := Rat.div_mul_cancel h
theorem floor_mul_le {w r : Rat} (hr : 0 < r) : ((w / r).floor : Rat) * r ≤ w := by
  have h1 := Rat.mul_le_mul_of_nonneg_right (Rat.floor_le (w / r)) (Rat.le_of_lt hr)
  rwa [q_cancel (fun h => by rw [h] at hr; exact absurd hr (by decide))] at h1
end Go.Sym.B
namespace Go.Sym.B
open Go Go.Sym Go.Proofs Go.Sym.C
theorem foldV_ne {f g n : Int} (hf : 0 ≤ f) (hg : 1 ≤ g) (hg2 : g ≤ n - 1) : foldV (f + g) n ≠ f := by
  intro h
  unfold foldV at h
  rw [if_neg (by omega), Int.tmod_eq_emod_of_nonneg (show 0 ≤ f + g by omega)] at h
  have e1 := Int.mul_ediv_add_emod (f + g) n
  have e2 := Int.emod_nonneg (f + g) (show n ≠ 0 by omega)
  rw [Int.tmod_eq_emod_of_nonneg (by omega)] at h
  have e3 := Int.mul_ediv_add_emod ((f + g) % n + n) n
  rw [h] at e3
  have e4 : g = n * ((f + g) / n + ((f + g) % n + n) / n - 1) := by rw [Int.mul_sub, Int.mul_add]; omega
  generalize (f + g) / n + ((f + g) % n + n) / n - 1 = k at e4
  rcases Int.lt_or_le 0 k with hk | hk
  · have := Int.mul_le_mul_of_nonneg_left (show 1 ≤ k by omega) (show 0 ≤ n by omega); omega
  · have := Int.mul_le_mul_of_nonneg_left hk (show 0 ≤ n by omega); omega
theorem chkSwap_of {L : Led} {d a b n : Int} (h : checkE L = 0) (hd : 0 ≤ d ∧ d ≤ (L.rates.length : Int) - 1) (ha : 0 ≤ a ∧ a ≤ (L.coins.length : Int) - 1) (hb : 0 ≤ b ∧ b ≤ (L.coins.length : Int) - 1) (hab : a ≠ b) (hn : 0 ≤ n ∧ n ≤ 999) : chkSwapE L d a b n = 0 := by
  unfold chkSwapE
  rw [if_neg (by rw [h]; simp), inB_iff.2 hd, inB_iff.2 ha, inB_iff.2 hb, inB_iff.2 hn, if_neg (by simp), if_neg (by simp), if_neg (by simp), if_neg hab, if_neg (by simp)]
theorem aSwap_of {L : Led} {d a b n : Int} (h : chkSwapE L d a b n = 0) : aSwap L d a b n = .tup [.v (.int .i64 (swapQ L d a b n).floor), .agg [.v (.int .i64 (swapQ L d a b n - ((swapQ L d a b n).floor : Rat)).num), .v (.int .i64 ((swapQ L d a b n - ((swapQ L d a b n).floor : Rat)).den : Int))], .v (.int .i64 0)] := if_neg (by rw [h]; simp)
end Go.Sym.B
namespace Go.Sym.B
open Go Go.Sym Go.Proofs Go.Sym.C
def alongL (f : Int → Int → Int → Int) : List Int → Int → Int
  | a :: b :: r, n => alongL f (b :: r) (f a b n)
  | [_], n => n
  | [], n => n
theorem along_snoc (f : Int → Int → Int → Int) : ∀ (p : List Int) (c n : Int), p ≠ [] → alongL f (p ++ [c]) n = f (p.getLastD 0) c (alongL f p n)
  | [], _, _, h => absurd rfl h
  | [a], c, n, _ => by simp [alongL]
  | a :: b :: r, c, n, _ => by
    have := along_snoc f (b :: r) c (f a b n) (by simp)
    simp only [List.cons_append, alongL] at this ⊢
    rw [this]
    simp [List.getLastD]
def waysF (to : Int) (N : Nat) : Nat → List Int → List (List Int)
  | 0, p => if p.getLastD 0 = to then [p] else []
  | m + 1, p => if p.getLastD 0 = to then [p] else (List.range N).flatMap fun c : Nat => if (c : Int) ∈ p then [] else waysF to N m (p ++ [(c : Int)])
def bst (s : List Int × Int) (p : List Int) (n : Int) : List Int × Int := if s.2 < n ∨ (n = s.2 ∧ p.length < s.1.length) then (p, n) else s
def dfs (f : Int → Int → Int → Int) (to : Int) (N : Nat) : Nat → List Int → Int → List Int × Int → List Int × Int
  | 0, p, n, s => if p.getLastD 0 = to then bst s p n else s
  | m + 1, p, n, s => if p.getLastD 0 = to then bst s p n else (List.range N).foldl (fun s (c : Nat) => if (c : Int) ∈ p then s else dfs f to N m (p ++ [(c : Int)]) (f (p.getLastD 0) c n) s) s
def bestOf (f : Int → Int → Int → Int) (n : Int) (l : List (List Int)) (s : List Int × Int) : List Int × Int := l.foldl (fun s q => bst s q (alongL f q n)) s
theorem bestOf_append (f : Int → Int → Int → Int) (n : Int) (l l' : List (List Int)) (s : List Int × Int) : bestOf f n (l ++ l') s = bestOf f n l' (bestOf f n l s) := by
  unfold bestOf; rw [List.foldl_append]
theorem dfs_ways (f : Int → Int → Int → Int) (to : Int) (N : Nat) (n0 : Int) : ∀ (m : Nat) (p : List Int) (s : List Int × Int), p ≠ [] → dfs f to N m p (alongL f p n0) s = bestOf f n0 (waysF to N m p) s
  | 0, p, s, _ => by
    simp only [dfs, waysF]
    split <;> rfl
  | m + 1, p, s, hp => by
    simp only [dfs, waysF]
    split
    · rfl
    · have key : ∀ (l : List Nat) (s : List Int × Int), l.foldl (fun s (c : Nat) => if (c : Int) ∈ p then s else dfs f to N m (p ++ [(c : Int)]) (f (p.getLastD 0) c (alongL f p n0)) s) s = bestOf f n0 (l.flatMap fun c : Nat => if (c : Int) ∈ p then [] else waysF to N m (p ++ [(c : Int)])) s := by
        intro l
        induction l with
        | nil => intro s; rfl
        | cons c l ih =>
          intro s
          rw [List.foldl_cons, List.flatMap_cons, bestOf_append, ih]
          congr 1
          split
          · rfl
          · rw [← along_snoc f p c n0 hp, dfs_ways f to N n0 m _ s (by simp)]
      exact key _ _
theorem nodup_le : ∀ (N : Nat) (l : List Int), l.Nodup → (∀ x ∈ l, 0 ≤ x ∧ x < N) → l.length ≤ N
  | 0, l, _, h => by
    cases l with
    | nil => simp
    | cons a l => have := h a (by simp); omega
  | N + 1, l, hn, h => by
    have h1 : (l.erase (N : Int)).Nodup := hn.erase _
    have h2 := nodup_le N (l.erase (N : Int)) h1 fun x hx => by
      have h3 := h x (List.mem_of_mem_erase hx)
      have h4 : x ≠ (N : Int) := fun e => by
        rw [e] at hx
        exact (List.Nodup.not_mem_erase hn) hx
      omega
    have := List.length_erase_le_of (l := l) (a := (N : Int))
    omega
where
  List.length_erase_le_of {l : List Int} {a : Int} : l.length ≤ (l.erase a).length + 1 := by
    by_cases h : a ∈ l
    · rw [List.length_erase_of_mem h]; omega
    · rw [List.erase_of_not_mem h]; omega
theorem nodup_full {N : Nat} {p : List Int} (hn : p.Nodup) (h : ∀ x ∈ p, 0 ≤ x ∧ x < N) (hl : p.length = N) {c : Nat} (hc : c < N) : (c : Int) ∈ p := by
  refine Classical.byContradiction fun hm => ?_
  have := nodup_le N ((c : Int) :: p) (List.nodup_cons.2 ⟨hm, hn⟩) fun x hx => by
    rcases List.mem_cons.1 hx with rfl | hx
    · omega
    · exact h x hx
  simp at this
  omega
structure Way (N : Nat) (p : List Int) : Prop where
  ne : p ≠ []
  nd : p.Nodup
  bd : ∀ x ∈ p, 0 ≤ x ∧ x < N
theorem Way.len {N : Nat} {p : List Int} (h : Way N p) : p.length ≤ N := nodup_le N p h.nd h.bd
theorem Way.snoc {N : Nat} {p : List Int} (h : Way N p) {c : Nat} (hc : c < N) (hm : (c : Int) ∉ p) : Way N (p ++ [(c : Int)]) := by
  refine ⟨by simp, ?_, fun x hx => ?_⟩
  · rw [List.nodup_append]
    refine ⟨h.nd, by simp, fun a ha b hb => ?_⟩
    rw [List.mem_singleton] at hb
    subst hb
    exact fun e => hm (e ▸ ha)
  · rcases List.mem_append.1 hx with hx | hx
    · exact h.bd x hx
    · rw [List.mem_singleton.1 hx]; omega
theorem Way.last {N : Nat} {p : List Int} (h : Way N p) : 0 ≤ p.getLastD 0 ∧ p.getLastD 0 < N := by
  have hm : p.getLastD 0 ∈ p := by
    have := h.ne
    rw [List.getLastD_eq_getLast?, List.getLast?_eq_some_getLast this]
    exact List.getLast_mem this
  exact h.bd _ hm
theorem ways_ok {to : Int} {N : Nat} : ∀ {m : Nat} {p : List Int}, Way N p → ∀ q ∈ waysF to N m p, Way N q ∧ q.getLastD 0 = to ∧ ∃ r, q = p ++ r
  | 0, p, h, q, hq => by
    simp only [waysF] at hq
    split at hq
    · rw [List.mem_singleton.1 hq]; exact ⟨h, ‹_›, [], by simp⟩
    · simp at hq
  | m + 1, p, h, q, hq => by
    simp only [waysF] at hq
    split at hq
    · rw [List.mem_singleton.1 hq]; exact ⟨h, ‹_›, [], by simp⟩
    · obtain ⟨c, hc, hq⟩ := List.mem_flatMap.1 hq
      have hc := List.mem_range.1 hc
      split at hq
      · simp at hq
      · rename_i hm
        obtain ⟨h1, h2, r, h3⟩ := ways_ok (h.snoc hc hm) q hq
        exact ⟨h1, h2, [(c : Int)] ++ r, by rw [h3, List.append_assoc]⟩
def waysK (to : Int) (N m : Nat) (p : List Int) (k : Nat) : List (List Int) := (List.range k).flatMap fun c : Nat => if (c : Int) ∈ p then [] else waysF to N m (p ++ [(c : Int)])
theorem waysK_succ (to : Int) (N m : Nat) (p : List Int) (k : Nat) : waysK to N m p (k + 1) = waysK to N m p k ++ if (k : Int) ∈ p then [] else waysF to N m (p ++ [(k : Int)]) := by
  unfold waysK; rw [List.range_succ, List.flatMap_append]; simp
theorem waysF_succ {to : Int} {N m : Nat} {p : List Int} (h : p.getLastD 0 ≠ to) : waysF to N (m + 1) p = waysK to N m p N := by
  simp only [waysF]; rw [if_neg h]; rfl
def dfsK (f : Int → Int → Int → Int) (to : Int) (N m : Nat) (p : List Int) (n : Int) (s : List Int × Int) (k : Nat) : List Int × Int := (List.range k).foldl (fun s (c : Nat) => if (c : Int) ∈ p then s else dfs f to N m (p ++ [(c : Int)]) (f (p.getLastD 0) c n) s) s
theorem dfsK_succ (f : Int → Int → Int → Int) (to : Int) (N m : Nat) (p : List Int) (n : Int) (s : List Int × Int) (k : Nat) : dfsK f to N m p n s (k + 1) = if (k : Int) ∈ p then dfsK f to N m p n s k else dfs f to N m (p ++ [(k : Int)]) (f (p.getLastD 0) k n) (dfsK f to N m p n s k) := by
  unfold dfsK; rw [List.range_succ, List.foldl_append]; rfl
theorem dfs_succ {f : Int → Int → Int → Int} {to : Int} {N m : Nat} {p : List Int} {n : Int} {s : List Int × Int} (h : p.getLastD 0 ≠ to) : dfs f to N (m + 1) p n s = dfsK f to N m p n s N := by
  simp only [dfs]; rw [if_neg h]; rfl
end Go.Sym.B
namespace Go.Sym.B
open Go Go.Sym Go.Proofs Go.Sym.C
def idxZ (p : List Int) (c : Int) : Int := match p.findIdx? (fun x => decide (c = x)) with
  | some k => k
  | none => -1
theorem idxZ_hit {p : List Int} {c : Int} {k : Nat} (hk : k < p.length) (h : c = p.getD k 0) (hn : ∀ j, j < k → c ≠ p.getD j 0) : idxZ p c = k := by
  unfold idxZ
  rw [List.findIdx?_eq_some_iff_getElem.2 ⟨hk, by simpa [List.getD_eq_getElem?_getD, hk] using h, fun j hj => by
    have := hn j hj
    simpa [List.getD_eq_getElem?_getD, show j < p.length by omega] using this⟩]
theorem idxZ_none {p : List Int} {c : Int} (hn : ∀ j, j < p.length → c ≠ p.getD j 0) : idxZ p c = -1 := by
  unfold idxZ
  rw [List.findIdx?_eq_none_iff.2 fun x hx => by
    obtain ⟨j, hj, rfl⟩ := List.getElem_of_mem hx
    have := hn j hj
    simpa [List.getD_eq_getElem?_getD, hj] using this]
theorem idxZ_mem (p : List Int) (c : Int) : decide (0 ≤ idxZ p c) = decide (c ∈ p) := by
  by_cases h : c ∈ p
  · rw [decide_eq_true h]
    refine decide_eq_true ?_
    unfold idxZ
    cases hf : p.findIdx? (fun x => decide (c = x)) with
    | some k => simp
    | none => have := List.findIdx?_eq_none_iff.1 hf c h; simp at this
  · rw [decide_eq_false h]
    refine decide_eq_false ?_
    rw [idxZ_none fun j hj e => h (by rw [e]; exact gMem hj)]
    decide
def ixT (p : List Int) (c : Int) (k : Nat) : St := { t := asg [(0, aInts p), (1, aI c), (4, aI 0), (7, aI p.length), (8, aI k)], h := hasg [], n := 0 }
def tbK2_143 := And.intro @ty3 (And.intro @ty22 (And.intro @ti3.eq_1 @ti22.eq_1))
def xbK2_1 := And.intro @aI.eq_1 (And.intro @aB.eq_1 (And.intro @aInts.eq_1 (And.intro @gInt (@eInt.eq_1))))
theorem index_fn (p : List Int) (c : Int) (hl : p.length ≤ maxLen) : FnV Try.prog 143 [aInts p, aI c] (aI (idxZ p c)) := by
  have env : Env (fun _ => True) Try.prog tyB (tab []) := mkEnv trivial
  refine Fn.of (A := fun _ => True) (n0 := 0) (D := noD) (Fn0 Try.func143 rfl (fun vs w => by kernel_rfl) (by kernel_rfl)) (by simp) (by simp [AV.ids, AV.idsL, aInts, aI]) (fun i o h => by cases h) (fun _ _ _ _ => trivial) noD_ok ?_
  repeat' (first | refine zq0 ?_ | refine zq1 ?_ | refine zq2 ?_ | refine zq3 ?_ | refine zq4 ?_ | refine zq5 ?_ | refine thenK_n ?_ | refine thenK_x ?_ | refine thenK_r ?_ | refine blockK_n ?_ | refine blockK_r ?_ | refine blockK_hit ?_ | refine blockK_miss (by decide) ?_ | ((first | refine sym_reg env fun Q hQ => ?_ | refine sym_cz fun Q hQ => ?_); simp only [vkt, seval, tbK2_143, xbK2_1, ixT]; (try simp only [ite_and]); (repeat' (first | with_reducible assumption | refine And.intro ?_ ?_ | intro hp)); all_goals (first | (refine hQ _ ?_; clear hQ Q) | (refine hQ _ (fun h => ?_) (fun h => ?_) <;> clear hQ Q <;> (try simp only [vki, reduceCtorEq] at h)) | omega | assumption | (with_reducible rfl) | (refine drawB_of ?_; kernel_rfl) | skip)))
  refine sym_loop (fun k : { k : Nat // k ≤ p.length ∧ ∀ j, j < k → c ≠ p.getD j 0 } => ixT p c k.1) (fun k => p.length - k.1) ⟨0, Nat.zero_le _, fun j h => by omega⟩ ?_ fun ⟨k, hk, hn⟩ => ?_
  · (refine Le.ok some [] ?_; constructor; all_goals (try simp only [vle, vkt, seval, tbK2_143, xbK2_1, ixT]))
    all_goals first | rfl | (simp; done)
  by_cases hlt : k < p.length
  · have d1 : decide ((k : Int) < (p.length : Int)) = true := decide_eq_true (by omega)
    have e9 := wrap_succ hlt hl
    by_cases hc : c = p.getD k 0
    · have d2 : decide (c = p.getD k 0) = true := decide_eq_true hc
      have hz := idxZ_hit hlt hc hn
      repeat' (first | refine zq0 ?_ | refine zq1 ?_ | refine zq2 ?_ | refine zq3 ?_ | refine zq4 ?_ | refine zq5 ?_ | refine thenK_n ?_ | refine thenK_x ?_ | refine thenK_r ?_ | refine blockK_n ?_ | refine blockK_r ?_ | refine blockK_hit ?_ | refine blockK_miss (by decide) ?_ | ((first | refine sym_reg env fun Q hQ => ?_ | refine sym_cz fun Q hQ => ?_); simp only [vkt, seval, tbK2_143, xbK2_1, ixT, d1, d2]; (try simp only [ite_and]); (repeat' (first | with_reducible assumption | refine And.intro ?_ ?_ | intro hp)); all_goals (first | (refine hQ _ ?_; clear hQ Q) | (refine hQ _ (fun h => ?_) (fun h => ?_) <;> clear hQ Q <;> (try simp only [vki, reduceCtorEq] at h)) | omega | assumption | (with_reducible rfl) | (refine drawB_of ?_; kernel_rfl) | skip)))
      (simp only [vrt, Try.results143, vkt, seval, tbK2_143, xbK2_1, ixT]; refine Fin.val rfl ?_; (try simp only [AV.le, AV.leL]))
      all_goals first | rfl | (simp [hz]; done)
    · have d2 : decide (c = p.getD k 0) = false := decide_eq_false hc
      repeat' (first | refine zq0 ?_ | refine zq1 ?_ | refine zq2 ?_ | refine zq3 ?_ | refine zq4 ?_ | refine zq5 ?_ | refine thenK_n ?_ | refine thenK_x ?_ | refine thenK_r ?_ | refine blockK_n ?_ | refine blockK_r ?_ | refine blockK_hit ?_ | refine blockK_miss (by decide) ?_ | ((first | refine sym_reg env fun Q hQ => ?_ | refine sym_cz fun Q hQ => ?_); simp only [vkt, seval, tbK2_143, xbK2_1, ixT, d1, d2, e9]; (try simp only [ite_and]); (repeat' (first | with_reducible assumption | refine And.intro ?_ ?_ | intro hp)); all_goals (first | (refine hQ _ ?_; clear hQ Q) | (refine hQ _ (fun h => ?_) (fun h => ?_) <;> clear hQ Q <;> (try simp only [vki, reduceCtorEq] at h)) | omega | assumption | (with_reducible rfl) | (refine drawB_of ?_; kernel_rfl) | skip)))
      refine ⟨⟨k + 1, hlt, fun j hj => ?_⟩, by show p.length - (k + 1) < p.length - k; omega, ?_⟩
      · rcases Nat.lt_or_eq_of_le (Nat.le_of_lt_succ hj) with h | h
        · exact hn j h
        · rw [h]; exact hc
      · (refine Le.ok some [] ?_; constructor; all_goals (try simp only [vle, vkt, seval, tbK2_143, xbK2_1, ixT]))
        all_goals first | rfl | (simp; done)
  · have d1 : decide ((k : Int) < (p.length : Int)) = false := decide_eq_false (by omega)
    have hz := idxZ_none (p := p) (c := c) fun j hj => hn j (by omega)
    repeat' (first | refine zq0 ?_ | refine zq1 ?_ | refine zq2 ?_ | refine zq3 ?_ | refine zq4 ?_ | refine zq5 ?_ | refine thenK_n ?_ | refine thenK_x ?_ | refine thenK_r ?_ | refine blockK_n ?_ | refine blockK_r ?_ | refine blockK_hit ?_ | refine blockK_miss (by decide) ?_ | ((first | refine sym_reg env fun Q hQ => ?_ | refine sym_cz fun Q hQ => ?_); simp only [vkt, seval, tbK2_143, xbK2_1, ixT, d1]; (try simp only [ite_and]); (repeat' (first | with_reducible assumption | refine And.intro ?_ ?_ | intro hp)); all_goals (first | (refine hQ _ ?_; clear hQ Q) | (refine hQ _ (fun h => ?_) (fun h => ?_) <;> clear hQ Q <;> (try simp only [vki, reduceCtorEq] at h)) | omega | assumption | (with_reducible rfl) | (refine drawB_of ?_; kernel_rfl) | skip)))
    (simp only [vrt, Try.results143, vkt, seval, tbK2_143, xbK2_1, ixT]; refine Fin.val rfl ?_; (try simp only [AV.le, AV.leL]))
    all_goals first | rfl | (simp [hz]; done)
def c143 : List AV → Prop × AV
  | [.sl xs, .v (.int .i64 c)] => (xs = (xs.map dInt).map eInt ∧ xs.length ≤ maxLen, aI (idxZ (xs.map dInt) c))
  | _ => (False, .junk)
theorem d143 {A : Frm → Prop} : EntryOK A Try.prog 143 (valE true c143) := valE_ok fun vs hv h => by
  clear hv
  unfold c143 at h ⊢
  split at h
  · refine ⟨by simp [AV.plain, aI], fun _ => by simp [AV.flat, aI], ?_⟩
    rename_i xs c
    have := index_fn (xs.map dInt) c (by rw [List.length_map]; exact h.2)
    simp only [aInts, ← h.1] at this
    exact this
  · exact h.elim
def tbK2_121 := And.intro @ty3 @ti3.eq_1
def xbK2_2 := And.intro @aI.eq_1 (And.intro @aB.eq_1 (And.intro @aInts.eq_1 (@mInt)))
theorem has_fn (p : List Int) (c : Int) (hl : p.length ≤ maxLen) : FnV Try.prog 121 [aInts p, aI c] (aB (decide (c ∈ p))) := by
  have env : Env (fun _ => True) Try.prog tyB (tab [(143, valE true c143)]) := mkEnv ⟨d143, trivial⟩
  refine Fn.of (A := fun _ => True) (n0 := 0) (D := noD) (Fn0 Try.func121 rfl (fun vs w => by kernel_rfl) (by kernel_rfl)) (by simp) (by simp [AV.ids, AV.idsL, aInts, aI]) (fun i o h => by cases h) (fun _ _ _ _ => trivial) noD_ok ?_
  have hz := idxZ_mem p c
  repeat' (first | refine zq0 ?_ | refine zq1 ?_ | refine zq2 ?_ | refine zq3 ?_ | refine zq4 ?_ | refine zq5 ?_ | refine thenK_n ?_ | refine thenK_x ?_ | refine thenK_r ?_ | refine blockK_n ?_ | refine blockK_r ?_ | refine blockK_hit ?_ | refine blockK_miss (by decide) ?_ | ((first | refine sym_reg env fun Q hQ => ?_ | refine sym_cz fun Q hQ => ?_); simp only [vkt, seval, tbK2_121, xbK2_2, c143, hz]; (try simp only [ite_and]); (repeat' (first | with_reducible assumption | refine And.intro ?_ ?_ | intro hp)); all_goals (first | (refine hQ _ ?_; clear hQ Q) | (refine hQ _ (fun h => ?_) (fun h => ?_) <;> clear hQ Q <;> (try simp only [vki, reduceCtorEq] at h)) | omega | assumption | (with_reducible rfl) | (refine drawB_of ?_; kernel_rfl) | skip)))
  (simp only [vrt, Try.results121, vkt, seval, tbK2_121, xbK2_2, c143]; refine Fin.val rfl ?_; (try simp only [AV.le, AV.leL]))
  all_goals first | rfl | (simp [hz]; done)
def c121 : List AV → Prop × AV
  | [.sl xs, .v (.int .i64 c)] => (xs = (xs.map dInt).map eInt ∧ xs.length ≤ maxLen, aB (decide (c ∈ xs.map dInt)))
  | _ => (False, .junk)
theorem d121 {A : Frm → Prop} : EntryOK A Try.prog 121 (valE true c121) := valE_ok fun vs hv h => by
  clear hv
  unfold c121 at h ⊢
  split at h
  · refine ⟨by simp [AV.plain, aB], fun _ => by simp [AV.flat, aB], ?_⟩
    rename_i xs c
    have := has_fn (xs.map dInt) c (by rw [List.length_map]; exact h.2)
    simp only [aInts, ← h.1] at this
    exact this
  · exact h.elim
structure Cap (l : Led) (d c n : Int) : Prop where
  nn : 0 ≤ n
  le : ((n : Int) : Rat) * rq l d c ≤ ((19980 : Int) : Rat)
theorem rq_pos {l : Led} {d c : Int} (h : Rt l d c) : 0 < rq l d c := Rat.lt_of_le_of_ne (Rat.num_nonneg.1 (by have := h.n0; omega)) (Ne.symm (num_pos (by have := h.n0; omega)))
theorem i_nn {n : Int} (h : 0 ≤ n) : (0 : Rat) ≤ ((n : Int) : Rat) := by
  have : ((0 : Int) : Rat) ≤ ((n : Int) : Rat) := Rat.intCast_le_intCast.2 h
  simpa using this
theorem Cap.bd {l : Led} {d c n : Int} (h : Cap l d c n) (hr : Rt l d c) : n ≤ 300000 := by
  have h1 := Rat.mul_le_mul_of_nonneg_right h.le (i_nn (n := ((rq l d c).den : Int)) (Int.natCast_nonneg _))
  rw [Rat.mul_assoc, q_mul, ← Rat.intCast_mul, ← Rat.intCast_mul] at h1
  have h2 := Rat.intCast_le_intCast.1 h1
  have h3 : n * 1 ≤ n * (rq l d c).num := Int.mul_le_mul_of_nonneg_left hr.n0 h.nn
  have := hr.e1
  omega
theorem Cap.step {l : Led} {d a b n : Int} (h : Cap l d a n) (h1 : Rt l d a) (h2 : Rt l d b) : Cap l d b (swapQ l d a b n).floor := by
  refine ⟨Rat.le_floor_iff.2 (by simpa using (swapQ_nn h1 h2 h.nn).2), ?_⟩
  refine Rat.le_trans (floor_mul_le (rq_pos h2)) ?_
  rw [Rat.mul_comm]; exact h.le
theorem cap_start {l : Led} {d c n : Int} (hr : Rt l d c) (h0 : 0 ≤ n) (h1 : n ≤ 999) : Cap l d c n := by
  refine ⟨h0, ?_⟩
  have h2 : rq l d c ≤ ((20 : Int) : Rat) := by simpa using (bd_iff.1 (rt_bd hr)).2.1
  refine Rat.le_trans (Rat.mul_le_mul_of_nonneg_left h2 (i_nn h0)) ?_
  rw [← Rat.intCast_mul]
  exact Rat.intCast_le_intCast.2 (by omega)
theorem Cap.fl {l : Led} {d a b n : Int} (h : Cap l d a n) (h1 : Rt l d a) (h2 : Rt l d b) : FlOk (swapQ l d a b n) := by
  have hb := h.bd h1
  have hn := h.nn
  have hw := w_nd h1 (n := n) (by omega)
  exact sm_fl (sm_div3 (w := rq l d a * (n : Rat)) (by omega) (by omega) (by have := h2.n0; omega) h2.n1 h2.e1)
end Go.Sym.B
namespace Go.Sym.B
open Go Go.Sym Go.Proofs Go.Sym.C
def swF (l : Led) (d a b n : Int) : Int := (swapQ l d a b n).floor
def beH (l : Led) (d to : Int) (s : List Int × Int) : List (Nat × AObj) := [(0, .cells [.v (.int .i64 to)]), (1, .cells [.v (.int .i64 s.2)]), (2, .cells [.sl (s.1.map eInt)]), (3, .cells (cLed l)), (4, .cells [.clo 120 [.ptr 0 0, .ptr 1 0, .ptr 2 0, .ptr 3 0, .ptr 4 0, .ptr 5 0]]), (5, .cells [.v (.int .i64 d)])]
structure BeOk (l : Led) (d : Int) (p : List Int) (n : Int) (m : Nat) : Prop where
  fit : Fit l
  way : Way l.coins.length p
  len : p.length + m = l.coins.length
  rt : ∀ c : Int, 0 ≤ c → c < l.coins.length → Rt l d c
  cap : Cap l d (p.getLastD 0) n
def BeFn (m : Nat) : Prop := ∀ (l : Led) (d to : Int) (p : List Int) (n : Int) (s : List Int × Int), BeOk l d p n m → s.1.length ≤ 20 → Fn noB Try.prog 120 [aInts p, aI n, .ptr 0 0, .ptr 1 0, .ptr 2 0, .ptr 3 0, .ptr 4 0, .ptr 5 0] (hasg (beH l d to s)) (.tup []) (hasg (beH l d to (dfs (swF l d) to l.coins.length m p n s))) 0
def p120 (M : Nat) (S : St) : List AV → Option Pk
  | [.row r, .v (.int .i64 n), .ptr a 0, .ptr b 0, .ptr c 0, .ptr e 0, .ptr f 0, .ptr g 0] => match S.h r, S.h a, S.h b, S.h c, S.h e, S.h f, S.h g with
    | some (.row 3 1 pp), some (.cells [.v (.int .i64 to)]), some (.cells [.v (.int .i64 got)]), some (.cells [.sl way]), some (.cells [.sl cs, .sl rs, .sl ss, .sl es]), some (.cells [.clo 120 [.ptr a' 0, .ptr b' 0, .ptr c' 0, .ptr e' 0, .ptr f' 0, .ptr g' 0]]), some (.cells [.v (.int .i64 d)]) =>
      some { pre := a' = a ∧ b' = b ∧ c' = c ∧ e' = e ∧ f' = f ∧ g' = g ∧ pp = (pp.map dInt).map eInt ∧ way = (way.map dInt).map eInt ∧ isL cs rs ss es ∧ pp.length ≤ cs.length ∧ cs.length - pp.length < M ∧ BeOk (ldOf cs rs ss es) d (pp.map dInt) n (cs.length - pp.length) ∧ way.length ≤ 20, hs := [a, b, c, e, f, g], bo := [r], ar := [.sl pp, .v (.int .i64 n), .ptr 0 0, .ptr 1 0, .ptr 2 0, .ptr 3 0, .ptr 4 0, .ptr 5 0], L0 := [.cells [.v (.int .i64 to)], .cells [.v (.int .i64 got)], .cells [.sl way], .cells [.sl cs, .sl rs, .sl ss, .sl es], .cells [.clo 120 [.ptr 0 0, .ptr 1 0, .ptr 2 0, .ptr 3 0, .ptr 4 0, .ptr 5 0]], .cells [.v (.int .i64 d)]], v := .tup [], L1 := [some (.cells [.v (.int .i64 to)]), some (.cells [.v (.int .i64 (dfs (swF (ldOf cs rs ss es) d) to cs.length (cs.length - pp.length) (pp.map dInt) n (way.map dInt, got)).2)]), some (.cells [.sl ((dfs (swF (ldOf cs rs ss es) d) to cs.length (cs.length - pp.length) (pp.map dInt) n (way.map dInt, got)).1.map eInt)]), some (.cells [.sl cs, .sl rs, .sl ss, .sl es]), some (.cells [.clo 120 [.ptr 0 0, .ptr 1 0, .ptr 2 0, .ptr 3 0, .ptr 4 0, .ptr 5 0]]), some (.cells [.v (.int .i64 d)])] }
    | _, _, _, _, _, _, _ => none
  | _ => none
theorem e120 {A : Frm → Prop} {M : Nat} (ih : ∀ m, m < M → BeFn m) : EntryOK A Try.prog 120 (fnE (p120 M)) := fnE_ok fun S bs q h hp => by
  unfold p120 at h
  split at h
  · split at h
    · rename_i r n a b c e f g _ _ _ _ _ _ _ pp to got way cs rs ss es a' b' c' e' f' g' d _ _ _ _ _ _ _
      cases h
      obtain ⟨_, _, _, _, _, _, h1, h2, h3, h4, h5, h6, h7⟩ := hp
      have := ih _ h5 (ldOf cs rs ss es) d to (pp.map dInt) n (way.map dInt, got) h6 (by simpa using h7)
      simp only [beH, aInts, aI, ← h1, ← h2, cLed_of' h3, show (ldOf cs rs ss es).coins.length = cs.length by simp [ldOf]] at this
      exact this
    · cases h
  · cases h
theorem bst_len {s : List Int × Int} {p : List Int} {n : Int} {L : Nat} (h1 : s.1.length ≤ L) (h2 : p.length ≤ L) : (bst s p n).1.length ≤ L := by
  unfold bst; split <;> assumption
theorem dfs_len {f : Int → Int → Int → Int} {to : Int} {N : Nat} : ∀ {m : Nat} {p : List Int} {n : Int} {s : List Int × Int}, s.1.length ≤ 20 → p.length + m ≤ 20 → (dfs f to N m p n s).1.length ≤ 20
  | 0, p, n, s, h1, h2 => by
    simp only [dfs]; split
    · exact bst_len h1 (by omega)
    · exact h1
  | m + 1, p, n, s, h1, h2 => by
    simp only [dfs]; split
    · exact bst_len h1 (by omega)
    · have key : ∀ (l : List Nat) (s : List Int × Int), s.1.length ≤ 20 → (l.foldl (fun s (c : Nat) => if (c : Int) ∈ p then s else dfs f to N m (p ++ [(c : Int)]) (f (p.getLastD 0) c n) s) s).1.length ≤ 20 := by
        intro l
        induction l with
        | nil => intro s h; exact h
        | cons c l ih =>
          intro s h
          rw [List.foldl_cons]
          refine ih _ ?_
          split
          · exact h
          · exact dfs_len h (by simp; omega)
      exact key _ _ h1
theorem dfsK_len {f : Int → Int → Int → Int} {to : Int} {N m : Nat} {p : List Int} {n : Int} {s : List Int × Int} (h1 : s.1.length ≤ 20) (h2 : p.length + m + 1 ≤ 20) : ∀ k, (dfsK f to N m p n s k).1.length ≤ 20
  | 0 => h1
  | k + 1 => by
    rw [dfsK_succ]; split
    · exact dfsK_len h1 h2 k
    · exact dfs_len (dfsK_len h1 h2 k) (by simp; omega)
theorem lastD_get {p : List Int} (h : p ≠ []) : p.getD (p.length - 1) 0 = p.getLastD 0 := by
  rw [List.getLastD_eq_getLast?, List.getLast?_eq_getElem?, List.getD_eq_getElem?_getD]
def beT (l : Led) (d to : Int) (p : List Int) (n : Int) (s : List Int × Int) (k : Nat) : St := { t := asg [(0, aInts p), (1, aI n), (2, .ptr 0 0), (3, .ptr 1 0), (4, .ptr 2 0), (5, .ptr 3 0), (6, .ptr 4 0), (7, .ptr 5 0), (10, aI (p.getLastD 0)), (40, aI l.coins.length), (41, aI k)], h := hasg (beH l d to s), n := 6, m := 6 }
def tbK3_120 := And.intro @ty3 (And.intro @ty22 (And.intro @ty28 (And.intro @ty38 (And.intro @ty137 (And.intro @ti3.eq_1 (And.intro @ti22.eq_1 (And.intro @ti28.eq_1 (And.intro @ti38.eq_1 @ti137.eq_1))))))))
def xbK3_1 := And.intro @aI.eq_1 (And.intro @aB.eq_1 (And.intro @aLed.eq_1 (And.intro @cLed.eq_1 (And.intro @aInts.eq_1 (And.intro @aSh.eq_1 (And.intro @shQ.eq_1 (And.intro @p88.eq_1 (And.intro @p88.eq_2 (And.intro @p88.eq_3 (And.intro @c89.eq_1 (And.intro @c89.eq_2 (And.intro @s90.eq_1 (And.intro @s90.eq_2 (And.intro @isL_e (And.intro @ldOf_e (And.intro @isQ_q (And.intro @qI_q (And.intro @mInt (And.intro @rInt (And.intro @eInt.eq_1 (And.intro @gInt (And.intro @gInts (@eInts.eq_1)))))))))))))))))))))))
set_option maxRecDepth 100000 in
set_option maxHeartbeats 4000000 in
theorem best_all (m : Nat) : BeFn m := by
  induction m using Nat.strongRecOn with
  | _ m ih =>
    intro l d to p n s hg hs
    have env : Env (fun _ => True) Try.prog tyB (tab [(121, valE true c121), (88, fnE p88), (89, valE true c89), (90, valE true s90), (120, fnE (p120 m))]) := mkEnv ⟨d121, e88, d89, e90, e120 ih, trivial⟩
    refine Fn.of (A := fun _ => True) (n0 := 6) (D := noD) (Fn0 Try.func120 rfl (fun vs w => by kernel_rfl) (by kernel_rfl)) (by simp) (by simp [AV.ids, AV.idsL, aInts, aI]) ?_ (fun _ _ _ _ => trivial) noD_ok ?_
    · intro i o hi
      have h := hasg_mem hi
      simp [beH] at h
      rcases h with ⟨rfl, rfl⟩ | ⟨rfl, rfl⟩ | ⟨rfl, rfl⟩ | ⟨rfl, rfl⟩ | ⟨rfl, rfl⟩ | ⟨rfl, rfl⟩ <;> simp [cLed, AObj.ids, AV.ids, AV.idsL]
    have hf := hg.fit
    have hW := hg.way
    have hne : 0 < p.length := List.length_pos_iff.2 hW.ne
    have hpl : p.length ≤ 20 := by have := hg.len; have := hf.c; omega
    have hpm : p.length ≤ maxLen := by have := tmax; omega
    have big : (100000 : Nat) ≤ maxLen := by decide
    have hlast := lastD_get hW.ne
    have hlb := hW.last
    obtain ⟨q, hq⟩ : ∃ q, p.getLastD 0 = q := ⟨_, rfl⟩
    rw [hq] at hlast hlb
    have w1 : IntKind.wrap .i64 ((p.length : Int) - 1) = ((p.length - 1 : Nat) : Int) := by rw [wrap64 (by omega) (by omega)]; omega
    have g1 : (p.map eInt).getD (p.length - 1) [.v (.int .i64 0)] = [.v (.int .i64 q)] := by rw [gInt, hlast]; rfl
    by_cases ht : q = to
    · have t1 : decide (q = to) = true := decide_eq_true ht
      have hd : dfs (swF l d) to l.coins.length m p n s = bst s p n := by cases m <;> (simp only [dfs]; rw [if_pos (by rw [hq]; exact ht)])
      rw [hd]
      by_cases c1 : s.2 < n
      · have k1 : decide (s.2 < n) = true := decide_eq_true c1
        rw [show bst s p n = (p, n) from if_pos (.inl c1)]
        repeat' (first | refine zq0 ?_ | refine zq1 ?_ | refine zq2 ?_ | refine zq3 ?_ | refine zq4 ?_ | refine zq5 ?_ | refine thenK_n ?_ | refine thenK_x ?_ | refine thenK_r ?_ | refine blockK_n ?_ | refine blockK_r ?_ | refine blockK_hit ?_ | refine blockK_miss (by decide) ?_ | ((first | refine sym_reg env fun Q hQ => ?_ | refine sym_cz fun Q hQ => ?_); simp only [vkt, seval, tbK3_120, xbK3_1, beH, beT, p120, c121, w1, g1, t1, k1]; (try simp only [ite_and]); (repeat' (first | with_reducible assumption | refine And.intro ?_ ?_ | intro hp)); all_goals (first | (refine hQ _ ?_; clear hQ Q) | (refine hQ _ (fun h => ?_) (fun h => ?_) <;> clear hQ Q <;> (try simp only [vki, reduceCtorEq] at h)) | omega | assumption | (with_reducible rfl) | (refine drawB_of ?_; kernel_rfl) | skip)))
        (simp only [vrt, Try.results120, vkt, seval, tbK3_120, xbK3_1, beH, beT, p120, c121]; refine Fin.ok some [] ?_ ?_ ?_ ?_ ?_ rfl; all_goals (try simp only [vle, vkt, seval, tbK3_120, xbK3_1, beH, beT, p120, c121]))
        all_goals first | rfl | (simp; done)
      have k1 : decide (s.2 < n) = false := decide_eq_false c1
      by_cases c2 : n = s.2
      · have k2 : decide (n = s.2) = true := decide_eq_true c2
        by_cases c3 : p.length < s.1.length
        · have k3 : decide ((p.length : Int) < (s.1.length : Int)) = true := decide_eq_true (by omega)
          rw [show bst s p n = (p, n) from if_pos (.inr ⟨c2, c3⟩)]
          repeat' (first | refine zq0 ?_ | refine zq1 ?_ | refine zq2 ?_ | refine zq3 ?_ | refine zq4 ?_ | refine zq5 ?_ | refine thenK_n ?_ | refine thenK_x ?_ | refine thenK_r ?_ | refine blockK_n ?_ | refine blockK_r ?_ | refine blockK_hit ?_ | refine blockK_miss (by decide) ?_ | ((first | refine sym_reg env fun Q hQ => ?_ | refine sym_cz fun Q hQ => ?_); simp only [vkt, seval, tbK3_120, xbK3_1, beH, beT, p120, c121, w1, g1, t1, k1, k2, k3]; (try simp only [ite_and]); (repeat' (first | with_reducible assumption | refine And.intro ?_ ?_ | intro hp)); all_goals (first | (refine hQ _ ?_; clear hQ Q) | (refine hQ _ (fun h => ?_) (fun h => ?_) <;> clear hQ Q <;> (try simp only [vki, reduceCtorEq] at h)) | omega | assumption | (with_reducible rfl) | (refine drawB_of ?_; kernel_rfl) | skip)))
          (simp only [vrt, Try.results120, vkt, seval, tbK3_120, xbK3_1, beH, beT, p120, c121]; refine Fin.ok some [] ?_ ?_ ?_ ?_ ?_ rfl; all_goals (try simp only [vle, vkt, seval, tbK3_120, xbK3_1, beH, beT, p120, c121]))
          all_goals first | rfl | (simp; done)
        · have k3 : decide ((p.length : Int) < (s.1.length : Int)) = false := decide_eq_false (by omega)
          rw [show bst s p n = s from if_neg (fun h => by rcases h with h | h; exact c1 h; exact c3 h.2)]
          repeat' (first | refine zq0 ?_ | refine zq1 ?_ | refine zq2 ?_ | refine zq3 ?_ | refine zq4 ?_ | refine zq5 ?_ | refine thenK_n ?_ | refine thenK_x ?_ | refine thenK_r ?_ | refine blockK_n ?_ | refine blockK_r ?_ | refine blockK_hit ?_ | refine blockK_miss (by decide) ?_ | ((first | refine sym_reg env fun Q hQ => ?_ | refine sym_cz fun Q hQ => ?_); simp only [vkt, seval, tbK3_120, xbK3_1, beH, beT, p120, c121, w1, g1, t1, k1, k2, k3]; (try simp only [ite_and]); (repeat' (first | with_reducible assumption | refine And.intro ?_ ?_ | intro hp)); all_goals (first | (refine hQ _ ?_; clear hQ Q) | (refine hQ _ (fun h => ?_) (fun h => ?_) <;> clear hQ Q <;> (try simp only [vki, reduceCtorEq] at h)) | omega | assumption | (with_reducible rfl) | (refine drawB_of ?_; kernel_rfl) | skip)))
          (simp only [vrt, Try.results120, vkt, seval, tbK3_120, xbK3_1, beH, beT, p120, c121]; refine Fin.ok some [] ?_ ?_ ?_ ?_ ?_ rfl; all_goals (try simp only [vle, vkt, seval, tbK3_120, xbK3_1, beH, beT, p120, c121]))
          all_goals first | rfl | (simp; done)
      · have k2 : decide (n = s.2) = false := decide_eq_false c2
        rw [show bst s p n = s from if_neg (fun h => by rcases h with h | h; exact c1 h; exact c2 h.1)]
        repeat' (first | refine zq0 ?_ | refine zq1 ?_ | refine zq2 ?_ | refine zq3 ?_ | refine zq4 ?_ | refine zq5 ?_ | refine thenK_n ?_ | refine thenK_x ?_ | refine thenK_r ?_ | refine blockK_n ?_ | refine blockK_r ?_ | refine blockK_hit ?_ | refine blockK_miss (by decide) ?_ | ((first | refine sym_reg env fun Q hQ => ?_ | refine sym_cz fun Q hQ => ?_); simp only [vkt, seval, tbK3_120, xbK3_1, beH, beT, p120, c121, w1, g1, t1, k1, k2]; (try simp only [ite_and]); (repeat' (first | with_reducible assumption | refine And.intro ?_ ?_ | intro hp)); all_goals (first | (refine hQ _ ?_; clear hQ Q) | (refine hQ _ (fun h => ?_) (fun h => ?_) <;> clear hQ Q <;> (try simp only [vki, reduceCtorEq] at h)) | omega | assumption | (with_reducible rfl) | (refine drawB_of ?_; kernel_rfl) | skip)))
        (simp only [vrt, Try.results120, vkt, seval, tbK3_120, xbK3_1, beH, beT, p120, c121]; refine Fin.ok some [] ?_ ?_ ?_ ?_ ?_ rfl; all_goals (try simp only [vle, vkt, seval, tbK3_120, xbK3_1, beH, beT, p120, c121]))
        all_goals first | rfl | (simp; done)
    · have t1 : decide (q = to) = false := decide_eq_false ht
      have ht' : p.getLastD 0 ≠ to := by rw [hq]; exact ht
      have hmk : ∀ k, k ≤ l.coins.length → m = 0 → True := fun _ _ _ => trivial
      obtain ⟨mm, fin⟩ : ∃ G : Nat → List Int × Int, G 0 = s ∧ (∀ k, k < l.coins.length → (G (k + 1) = if (k : Int) ∈ p then G k else dfs (swF l d) to l.coins.length (m - 1) (p ++ [(k : Int)]) (swF l d q k n) (G k)) ∧ ((k : Int) ∉ p → 0 < m)) ∧ (∀ k, (G k).1.length ≤ 20) ∧ G l.coins.length = dfs (swF l d) to l.coins.length m p n s := by
        cases m with
        | zero =>
          have hall : ∀ k, k < l.coins.length → (k : Int) ∈ p := fun k hk => nodup_full hW.nd hW.bd (by have := hg.len; omega) hk
          refine ⟨fun _ => s, rfl, fun k hk => ⟨by rw [if_pos (hall k hk)], fun h => absurd (hall k hk) h⟩, fun _ => hs, ?_⟩
          simp only [dfs]; rw [if_neg ht']
        | succ m =>
          refine ⟨dfsK (swF l d) to l.coins.length m p n s, rfl, fun k hk => ⟨by rw [dfsK_succ, hq]; rfl, fun _ => Nat.succ_pos _⟩, dfsK_len hs (by have := hg.len; have := hf.c; omega), (dfs_succ ht').symm⟩
      obtain ⟨f0, f1, f2, f3⟩ := fin
      rw [← f3]
      repeat' (first | refine zq0 ?_ | refine zq1 ?_ | refine zq2 ?_ | refine zq3 ?_ | refine zq4 ?_ | refine zq5 ?_ | refine thenK_n ?_ | refine thenK_x ?_ | refine thenK_r ?_ | refine blockK_n ?_ | refine blockK_r ?_ | refine blockK_hit ?_ | refine blockK_miss (by decide) ?_ | ((first | refine sym_reg env fun Q hQ => ?_ | refine sym_cz fun Q hQ => ?_); simp only [vkt, seval, tbK3_120, xbK3_1, beH, beT, p120, c121, w1, g1, t1]; (try simp only [ite_and]); (repeat' (first | with_reducible assumption | refine And.intro ?_ ?_ | intro hp)); all_goals (first | (refine hQ _ ?_; clear hQ Q) | (refine hQ _ (fun h => ?_) (fun h => ?_) <;> clear hQ Q <;> (try simp only [vki, reduceCtorEq] at h)) | omega | assumption | (with_reducible rfl) | (refine drawB_of ?_; kernel_rfl) | skip)))
      refine sym_loop (fun k : { k : Nat // k ≤ l.coins.length } => beT l d to p n (mm k.1) k.1) (fun k => l.coins.length - k.1) ⟨0, Nat.zero_le _⟩ ?_ fun ⟨k, hk⟩ => ?_
      · (refine Le.ok some [] ?_; constructor; all_goals (try simp only [vle, vkt, seval, tbK3_120, xbK3_1, beH, beT, p120, c121]))
        all_goals first | rfl | (rw [hq, f0]; done) | (rw [hq]; done) | (simp [f0, hq]; done)
      unfold beT
      rw [hq]
      by_cases hlt : k < l.coins.length
      · have d1 : decide ((k : Int) < (l.coins.length : Int)) = true := decide_eq_true (by omega)
        have e9 := wrap64 (n := (k : Int) + 1) (by omega) (by have := hf.c; omega)
        obtain ⟨f4, f5⟩ := f1 k hlt
        by_cases hm : (k : Int) ∈ p
        · have d2 : decide ((k : Int) ∈ p) = true := decide_eq_true hm
          rw [if_pos hm] at f4
          repeat' (first | refine zq0 ?_ | refine zq1 ?_ | refine zq2 ?_ | refine zq3 ?_ | refine zq4 ?_ | refine zq5 ?_ | refine thenK_n ?_ | refine thenK_x ?_ | refine thenK_r ?_ | refine blockK_n ?_ | refine blockK_r ?_ | refine blockK_hit ?_ | refine blockK_miss (by decide) ?_ | ((first | refine sym_reg env fun Q hQ => ?_ | refine sym_cz fun Q hQ => ?_); simp only [vkt, seval, tbK3_120, xbK3_1, beH, beT, p120, c121, d1, d2, e9]; (try simp only [ite_and]); (repeat' (first | with_reducible assumption | refine And.intro ?_ ?_ | intro hp)); all_goals (first | (refine hQ _ ?_; clear hQ Q) | (refine hQ _ (fun h => ?_) (fun h => ?_) <;> clear hQ Q <;> (try simp only [vki, reduceCtorEq] at h)) | omega | assumption | (with_reducible rfl) | (refine drawB_of ?_; kernel_rfl) | skip)))
          refine ⟨⟨k + 1, hlt⟩, by show l.coins.length - (k + 1) < l.coins.length - k; omega, ?_⟩
          (refine Le.ok some [] ?_; constructor; all_goals (try simp only [vle, vkt, seval, tbK3_120, xbK3_1, beH, beT, p120, c121]))
          all_goals first | rfl | (rw [hq]; done) | (simp [f4, hq]; done)
        · have d2 : decide ((k : Int) ∈ p) = false := decide_eq_false hm
          rw [if_neg hm] at f4
          have hm0 := f5 hm
          have R1 := hg.rt q hlb.1 hlb.2
          have R2 := hg.rt k (by omega) (by omega)
          have hcap := hg.cap
          rw [hq] at hcap
          have c0 := hcap.nn
          have c1 := hcap.bd R1
          have c2 := hcap.fl R1 R2
          have c3 := hcap.step R1 R2
          have hpc : p.map eInt ++ [[.v (.int .i64 (k : Int))]] = (p ++ [(k : Int)]).map eInt := by rw [List.map_append]; rfl
          have m1 : (p.length + 1) * 8 ≤ 140737488355328 ∧ p.length + 1 ≤ maxLen := by omega
          have m2 : p.length ≤ 100000 := by omega
          have l1 : (p ++ [(k : Int)]).length = p.length + 1 := by simp
          have l2 : l.coins.length - (p.length + 1) = m - 1 := by have := hg.len; omega
          have hG : BeOk l d (p ++ [(k : Int)]) (swapQ l d q k n).floor (l.coins.length - (p.length + 1)) := ⟨hf, hW.snoc hlt hm, by rw [l1]; have := hg.len; omega, hg.rt, by simpa using c3⟩
          have l3 : p.length + 1 ≤ l.coins.length ∧ l.coins.length - (p.length + 1) < m := by have := hg.len; omega
          have hsw : rq l d q * (n : Rat) / rq l d (k : Int) = swapQ l d q k n := rfl
          have f6 := f2 k
          obtain ⟨M0, hM0⟩ : ∃ x, mm k = x := ⟨_, rfl⟩
          rw [hM0] at f4 f6 ⊢
          obtain ⟨sw, sg⟩ := M0
          have f7 : sw.length ≤ 20 := f6
          rw [show swF l d q k n = (swapQ l d q k n).floor from rfl, ← l2] at f4
          repeat' (first | refine zq0 ?_ | refine zq1 ?_ | refine zq2 ?_ | refine zq3 ?_ | refine zq4 ?_ | refine zq5 ?_ | refine thenK_n ?_ | refine thenK_x ?_ | refine thenK_r ?_ | refine blockK_n ?_ | refine blockK_r ?_ | refine blockK_hit ?_ | refine blockK_miss (by decide) ?_ | ((first | refine sym_reg env fun Q hQ => ?_ | refine sym_cz fun Q hQ => ?_); simp only [vkt, seval, tbK3_120, xbK3_1, beH, beT, p120, c121, d1, d2, e9, hpc, hsw, l1]; (try simp only [ite_and]); (repeat' (first | with_reducible assumption | refine And.intro ?_ ?_ | intro hp)); all_goals (first | (refine hQ _ ?_; clear hQ Q) | (refine hQ _ (fun h => ?_) (fun h => ?_) <;> clear hQ Q <;> (try simp only [vki, reduceCtorEq] at h)) | omega | assumption | (with_reducible rfl) | (refine drawB_of ?_; kernel_rfl) | skip)))
          · exact ⟨_, _, rfl⟩
          refine ⟨⟨k + 1, hlt⟩, by show l.coins.length - (k + 1) < l.coins.length - k; omega, ?_⟩
          (refine Le.ok some [] ?_; constructor; all_goals (try simp only [vle, vkt, seval, tbK3_120, xbK3_1, beH, beT, p120, c121]))
          all_goals first | rfl | (rw [hq]; done) | (simp [f4, hq]; done)
      · have d1 : decide ((k : Int) < (l.coins.length : Int)) = false := decide_eq_false (by omega)
        have hkn : k = l.coins.length := by omega
        subst hkn
        repeat' (first | refine zq0 ?_ | refine zq1 ?_ | refine zq2 ?_ | refine zq3 ?_ | refine zq4 ?_ | refine zq5 ?_ | refine thenK_n ?_ | refine thenK_x ?_ | refine thenK_r ?_ | refine blockK_n ?_ | refine blockK_r ?_ | refine blockK_hit ?_ | refine blockK_miss (by decide) ?_ | ((first | refine sym_reg env fun Q hQ => ?_ | refine sym_cz fun Q hQ => ?_); simp only [vkt, seval, tbK3_120, xbK3_1, beH, beT, p120, c121, d1]; (try simp only [ite_and]); (repeat' (first | with_reducible assumption | refine And.intro ?_ ?_ | intro hp)); all_goals (first | (refine hQ _ ?_; clear hQ Q) | (refine hQ _ (fun h => ?_) (fun h => ?_) <;> clear hQ Q <;> (try simp only [vki, reduceCtorEq] at h)) | omega | assumption | (with_reducible rfl) | (refine drawB_of ?_; kernel_rfl) | skip)))
        (simp only [vrt, Try.results120, vkt, seval, tbK3_120, xbK3_1, beH, beT, p120, c121]; refine Fin.ok some [] ?_ ?_ ?_ ?_ ?_ rfl; all_goals (try simp only [vle, vkt, seval, tbK3_120, xbK3_1, beH, beT, p120, c121]))
        all_goals first | rfl | (simp; done)
end Go.Sym.B
namespace Go.Sym.B
open Go Go.Sym Go.Proofs Go.Sym.C
theorem flat_len {α : Type} {f : Nat → List α} {B : Nat} : ∀ (l : List Nat), (∀ c ∈ l, (f c).length ≤ B) → (l.flatMap f).length ≤ l.length * B
  | [], _ => by simp
  | c :: l, h => by
    have h1 := h c (by simp)
    have h2 := flat_len l fun c hc => h c (List.mem_cons_of_mem _ hc)
    rw [List.flatMap_cons, List.length_append, List.length_cons, Nat.add_mul]
    omega
theorem ways_len {to : Int} {N : Nat} (hN : N ≤ 4) : ∀ {m : Nat} {p : List Int}, (waysF to N m p).length ≤ 4 ^ m
  | 0, p => by simp only [waysF]; split <;> simp
  | m + 1, p => by
    have h4 : 1 ≤ 4 ^ (m + 1) := Nat.one_le_pow _ _ (by decide)
    simp only [waysF]; split
    · simpa using h4
    · refine Nat.le_trans (flat_len (B := 4 ^ m) _ fun c _ => ?_) ?_
      · split
        · simp
        · exact ways_len hN
      · rw [List.length_range, Nat.pow_succ, Nat.mul_comm]; exact Nat.mul_le_mul_left _ hN
theorem waysK_len {to : Int} {N m : Nat} (hN : N ≤ 4) (hm : m ≤ 4) {p : List Int} {k : Nat} (hk : k ≤ N) : (waysK to N m p k).length ≤ 1024 := by
  unfold waysK
  refine Nat.le_trans (flat_len (B := 4 ^ m) _ fun c _ => ?_) ?_
  · split
    · simp
    · exact ways_len hN
  · rw [List.length_range]
    have : 4 ^ m ≤ 4 ^ 4 := Nat.pow_le_pow_right (by decide) hm
    calc k * 4 ^ m ≤ 4 * 4 ^ 4 := Nat.mul_le_mul (by omega) this
      _ = 1024 := rfl
structure WyOk (N : Nat) (p : List Int) (m : Nat) : Prop where
  way : Way N p
  len : p.length + m = N
  n4 : N ≤ 4
def WaFn (m : Nat) : Prop := ∀ (N : Nat) (to : Int) (p : List Int), WyOk N p m → FnV Try.prog 66 [aInts p, aI to, aI N] (aIntss (waysF to N m p))
def c66 (M : Nat) : List AV → Prop × AV
  | [.sl xs, .v (.int .i64 to), .v (.int .i64 n)] => (xs = (xs.map dInt).map eInt ∧ 0 ≤ n ∧ n.toNat - xs.length < M ∧ WyOk n.toNat (xs.map dInt) (n.toNat - xs.length), .sl ((waysF to n.toNat (n.toNat - xs.length) (xs.map dInt)).map eInts))
  | _ => (False, .junk)
theorem d66 {A : Frm → Prop} {M : Nat} (ih : ∀ m, m < M → WaFn m) : EntryOK A Try.prog 66 (valE false (c66 M)) := valE_ok fun vs hv h => by
  clear hv
  unfold c66 at h ⊢
  split at h
  · rename_i xs to n
    obtain ⟨h1, h2, h3, h4⟩ := h
    refine ⟨by simp [AV.plain], fun h => absurd h (by decide), ?_⟩
    have := ih _ h3 n.toNat to (xs.map dInt) h4
    simp only [aInts, aI, aIntss, ← h1, Int.toNat_of_nonneg h2] at this
    exact this
  · exact h.elim
theorem mem_take_succ {p : List Int} {j : Nat} {c : Int} (h : j < p.length) : decide (c ∈ p.take (j + 1)) = (decide (c ∈ p.take j) || decide (p.getD j 0 = c)) := by
  rw [List.take_succ_eq_append_getElem h]
  have : p.getD j 0 = p[j] := by simp [List.getD_eq_getElem?_getD, h]
  rw [this]
  rw [Bool.eq_iff_iff]
  simp only [decide_eq_true_eq, Bool.or_eq_true, List.mem_append, List.mem_singleton]
  exact ⟨fun h => h.imp id Eq.symm, fun h => h.imp id Eq.symm⟩
def waT1 (N : Nat) (to : Int) (p : List Int) (W : List (List Int)) (k : Nat) : St := { t := asg [(0, aInts p), (1, aI to), (2, aI N), (6, .nil), (7, .row 0), (8, aI k)], h := hasg [(0, .row 22 1 (W.map eInts))], n := 1 }
def waT2 (N : Nat) (to : Int) (p : List Int) (W : List (List Int)) (k j : Nat) : St := { t := asg [(0, aInts p), (1, aI to), (2, aI N), (6, .nil), (7, .row 0), (8, aI k), (9, aB (decide ((k : Int) ∈ p.take j))), (10, aI j)], h := hasg [(0, .row 22 1 (W.map eInts))], n := 1 }
def tbK4_66 := And.intro @ty3 (And.intro @ty22 (And.intro @ty28 (And.intro @ti3.eq_1 (And.intro @ti22.eq_1 @ti28.eq_1))))
def xbK4_1 := And.intro @aI.eq_1 (And.intro @aB.eq_1 (And.intro @aInts.eq_1 (And.intro @aIntss.eq_1 (And.intro @mInt (And.intro @mInts (And.intro @rInt (And.intro @rInts (And.intro @eInt.eq_1 (And.intro @eInts.eq_1 (@gInt))))))))))
set_option maxRecDepth 100000 in
set_option maxHeartbeats 4000000 in
theorem ways_all (m : Nat) : WaFn m := by
  induction m using Nat.strongRecOn with
  | _ m ih =>
    intro N to p hg
    have env : Env (fun _ => True) Try.prog tyB (tab [(66, valE false (c66 m))]) := mkEnv ⟨d66 ih, trivial⟩
    refine Fn.of (A := fun _ => True) (n0 := 0) (D := noD) (Fn0 Try.func66 rfl (fun vs w => by kernel_rfl) (by kernel_rfl)) (by simp) (by simp [AV.ids, AV.idsL, aInts, aI]) (fun i o h => by cases h) (fun _ _ _ _ => trivial) noD_ok ?_
    have hW := hg.way
    have hne : 0 < p.length := List.length_pos_iff.2 hW.ne
    have hN := hg.n4
    have hpN := hg.len
    have big : (100000 : Nat) ≤ maxLen := by decide
    have hlast := lastD_get hW.ne
    obtain ⟨q, hq⟩ : ∃ q, p.getLastD 0 = q := ⟨_, rfl⟩
    rw [hq] at hlast
    have w1 : IntKind.wrap .i64 ((p.length : Int) - 1) = ((p.length - 1 : Nat) : Int) := by rw [wrap64 (by omega) (by omega)]; omega
    have g1 : (p.map eInt).getD (p.length - 1) [.v (.int .i64 0)] = [.v (.int .i64 q)] := by rw [gInt, hlast]; rfl
    by_cases ht : q = to
    · have t1 : decide (q = to) = true := decide_eq_true ht
      have hd : waysF to N m p = [p] := by cases m <;> (simp only [waysF]; rw [if_pos (by rw [hq]; exact ht)])
      rw [hd]
      repeat' (first | refine zq0 ?_ | refine zq1 ?_ | refine zq2 ?_ | refine zq3 ?_ | refine zq4 ?_ | refine zq5 ?_ | refine thenK_n ?_ | refine thenK_x ?_ | refine thenK_r ?_ | refine blockK_n ?_ | refine blockK_r ?_ | refine blockK_hit ?_ | refine blockK_miss (by decide) ?_ | ((first | refine sym_reg env fun Q hQ => ?_ | refine sym_cz fun Q hQ => ?_); simp only [vkt, seval, tbK4_66, xbK4_1, waT1, waT2, c66, w1, g1, t1]; (try simp only [ite_and]); (repeat' (first | with_reducible assumption | refine And.intro ?_ ?_ | intro hp)); all_goals (first | (refine hQ _ ?_; clear hQ Q) | (refine hQ _ (fun h => ?_) (fun h => ?_) <;> clear hQ Q <;> (try simp only [vki, reduceCtorEq] at h)) | omega | assumption | (with_reducible rfl) | (refine drawB_of ?_; kernel_rfl) | skip)))
      (simp only [vrt, Try.results66, vkt, seval, tbK4_66, xbK4_1, waT1, waT2, c66]; refine Fin.val rfl ?_; (try simp only [AV.le, AV.leL]))
      all_goals first | rfl | (simp; done) | exact ⟨_, _, rfl⟩
    · have t1 : decide (q = to) = false := decide_eq_false ht
      have ht' : p.getLastD 0 ≠ to := by rw [hq]; exact ht
      obtain ⟨G, f0, f1, f2, f3⟩ : ∃ G : Nat → List (List Int), G 0 = [] ∧ (∀ k, k < N → (G (k + 1) = G k ++ if (k : Int) ∈ p then [] else waysF to N (m - 1) (p ++ [(k : Int)])) ∧ ((k : Int) ∉ p → 0 < m)) ∧ (∀ k, k ≤ N → (G k).length ≤ 1024) ∧ G N = waysF to N m p := by
        cases m with
        | zero =>
          have hall : ∀ k, k < N → (k : Int) ∈ p := fun k hk => nodup_full hW.nd hW.bd (by omega) hk
          refine ⟨fun _ => [], rfl, fun k hk => ⟨by rw [if_pos (hall k hk)]; rfl, fun h => absurd (hall k hk) h⟩, fun _ _ => by simp, ?_⟩
          simp only [waysF]; rw [if_neg ht']
        | succ m => exact ⟨waysK to N m p, rfl, fun k hk => ⟨waysK_succ .., fun _ => Nat.succ_pos _⟩, fun k hk => waysK_len hN (by omega) hk, (waysF_succ ht').symm⟩
      rw [← f3]
      repeat' (first | refine zq0 ?_ | refine zq1 ?_ | refine zq2 ?_ | refine zq3 ?_ | refine zq4 ?_ | refine zq5 ?_ | refine thenK_n ?_ | refine thenK_x ?_ | refine thenK_r ?_ | refine blockK_n ?_ | refine blockK_r ?_ | refine blockK_hit ?_ | refine blockK_miss (by decide) ?_ | ((first | refine sym_reg env fun Q hQ => ?_ | refine sym_cz fun Q hQ => ?_); simp only [vkt, seval, tbK4_66, xbK4_1, waT1, waT2, c66, w1, g1, t1]; (try simp only [ite_and]); (repeat' (first | with_reducible assumption | refine And.intro ?_ ?_ | intro hp)); all_goals (first | (refine hQ _ ?_; clear hQ Q) | (refine hQ _ (fun h => ?_) (fun h => ?_) <;> clear hQ Q <;> (try simp only [vki, reduceCtorEq] at h)) | omega | assumption | (with_reducible rfl) | (refine drawB_of ?_; kernel_rfl) | skip)))
      refine sym_loop (fun k : { k : Nat // k ≤ N } => waT1 N to p (G k.1) k.1) (fun k => N - k.1) ⟨0, Nat.zero_le _⟩ ?_ fun ⟨k, hk⟩ => ?_
      · (refine Le.ok (fun _ => none) [] ?_; constructor; all_goals (try simp only [vle, vkt, seval, tbK4_66, xbK4_1, waT1, waT2, c66]))
        all_goals first | rfl | (simp [f0]; done)
      by_cases hlt : k < N
      · have d1 : decide ((k : Int) < (N : Int)) = true := decide_eq_true (by omega)
        have e9 := wrap64 (n := (k : Int) + 1) (by omega) (by omega)
        obtain ⟨f4, f5⟩ := f1 k hlt
        have f6 := f2 k hk
        obtain ⟨W, hWk⟩ : ∃ W, G k = W := ⟨_, rfl⟩
        rw [hWk] at f4 f6 ⊢
        repeat' (first | refine zq0 ?_ | refine zq1 ?_ | refine zq2 ?_ | refine zq3 ?_ | refine zq4 ?_ | refine zq5 ?_ | refine thenK_n ?_ | refine thenK_x ?_ | refine thenK_r ?_ | refine blockK_n ?_ | refine blockK_r ?_ | refine blockK_hit ?_ | refine blockK_miss (by decide) ?_ | ((first | refine sym_reg env fun Q hQ => ?_ | refine sym_cz fun Q hQ => ?_); simp only [vkt, seval, tbK4_66, xbK4_1, waT1, waT2, c66, d1]; (try simp only [ite_and]); (repeat' (first | with_reducible assumption | refine And.intro ?_ ?_ | intro hp)); all_goals (first | (refine hQ _ ?_; clear hQ Q) | (refine hQ _ (fun h => ?_) (fun h => ?_) <;> clear hQ Q <;> (try simp only [vki, reduceCtorEq] at h)) | omega | assumption | (with_reducible rfl) | (refine drawB_of ?_; kernel_rfl) | skip)))
        refine sym_loop (fun j : { j : Nat // j ≤ p.length } => waT2 N to p W k j.1) (fun j => p.length - j.1) ⟨0, Nat.zero_le _⟩ ?_ fun ⟨j, hj⟩ => ?_
        · (refine Le.ok some [] ?_; constructor; all_goals (try simp only [vle, vkt, seval, tbK4_66, xbK4_1, waT1, waT2, c66]))
          all_goals first | rfl | (simp; done)
        by_cases hjl : j < p.length
        · have d2 : decide ((j : Int) < (p.length : Int)) = true := decide_eq_true (by omega)
          have e8 := wrap64 (n := (j : Int) + 1) (by omega) (by omega)
          have hms := mem_take_succ (c := (k : Int)) hjl
          obtain ⟨b, hb⟩ : ∃ b, decide ((k : Int) ∈ p.take j) = b := ⟨_, rfl⟩
          rw [hb] at hms
          cases b
          · repeat' (first | refine zq0 ?_ | refine zq1 ?_ | refine zq2 ?_ | refine zq3 ?_ | refine zq4 ?_ | refine zq5 ?_ | refine thenK_n ?_ | refine thenK_x ?_ | refine thenK_r ?_ | refine blockK_n ?_ | refine blockK_r ?_ | refine blockK_hit ?_ | refine blockK_miss (by decide) ?_ | ((first | refine sym_reg env fun Q hQ => ?_ | refine sym_cz fun Q hQ => ?_); simp only [vkt, seval, tbK4_66, xbK4_1, waT1, waT2, c66, d2, e8, hb]; (try simp only [ite_and]); (repeat' (first | with_reducible assumption | refine And.intro ?_ ?_ | intro hp)); all_goals (first | (refine hQ _ ?_; clear hQ Q) | (refine hQ _ (fun h => ?_) (fun h => ?_) <;> clear hQ Q <;> (try simp only [vki, reduceCtorEq] at h)) | omega | assumption | (with_reducible rfl) | (refine drawB_of ?_; kernel_rfl) | skip)))
            refine ⟨⟨j + 1, hjl⟩, by show p.length - (j + 1) < p.length - j; omega, ?_⟩
            (refine Le.ok some [] ?_; constructor; all_goals (try simp only [vle, vkt, seval, tbK4_66, xbK4_1, waT1, waT2, c66]))
            all_goals first | rfl | (rw [hms]; rfl) | (simp [hms]; done) | exact ⟨by rw [hms]; rfl, rfl⟩
          · repeat' (first | refine zq0 ?_ | refine zq1 ?_ | refine zq2 ?_ | refine zq3 ?_ | refine zq4 ?_ | refine zq5 ?_ | refine thenK_n ?_ | refine thenK_x ?_ | refine thenK_r ?_ | refine blockK_n ?_ | refine blockK_r ?_ | refine blockK_hit ?_ | refine blockK_miss (by decide) ?_ | ((first | refine sym_reg env fun Q hQ => ?_ | refine sym_cz fun Q hQ => ?_); simp only [vkt, seval, tbK4_66, xbK4_1, waT1, waT2, c66, d2, e8, hb]; (try simp only [ite_and]); (repeat' (first | with_reducible assumption | refine And.intro ?_ ?_ | intro hp)); all_goals (first | (refine hQ _ ?_; clear hQ Q) | (refine hQ _ (fun h => ?_) (fun h => ?_) <;> clear hQ Q <;> (try simp only [vki, reduceCtorEq] at h)) | omega | assumption | (with_reducible rfl) | (refine drawB_of ?_; kernel_rfl) | skip)))
            refine ⟨⟨j + 1, hjl⟩, by show p.length - (j + 1) < p.length - j; omega, ?_⟩
            (refine Le.ok some [] ?_; constructor; all_goals (try simp only [vle, vkt, seval, tbK4_66, xbK4_1, waT1, waT2, c66]))
            all_goals first | rfl | (rw [hms]; rfl) | (simp [hms]; done) | exact ⟨by rw [hms]; rfl, rfl⟩
        · have d2 : decide ((j : Int) < (p.length : Int)) = false := decide_eq_false (by omega)
          have hjn : j = p.length := by omega
          subst hjn
          unfold waT2
          rw [List.take_length]
          by_cases hm : (k : Int) ∈ p
          · have d3 : decide ((k : Int) ∈ p) = true := decide_eq_true hm
            rw [if_pos hm, List.append_nil] at f4
            repeat' (first | refine zq0 ?_ | refine zq1 ?_ | refine zq2 ?_ | refine zq3 ?_ | refine zq4 ?_ | refine zq5 ?_ | refine thenK_n ?_ | refine thenK_x ?_ | refine thenK_r ?_ | refine blockK_n ?_ | refine blockK_r ?_ | refine blockK_hit ?_ | refine blockK_miss (by decide) ?_ | ((first | refine sym_reg env fun Q hQ => ?_ | refine sym_cz fun Q hQ => ?_); simp only [vkt, seval, tbK4_66, xbK4_1, waT1, waT2, c66, d2, d3, e9]; (try simp only [ite_and]); (repeat' (first | with_reducible assumption | refine And.intro ?_ ?_ | intro hp)); all_goals (first | (refine hQ _ ?_; clear hQ Q) | (refine hQ _ (fun h => ?_) (fun h => ?_) <;> clear hQ Q <;> (try simp only [vki, reduceCtorEq] at h)) | omega | assumption | (with_reducible rfl) | (refine drawB_of ?_; kernel_rfl) | skip)))
            refine ⟨⟨k + 1, hlt⟩, by show N - (k + 1) < N - k; omega, ?_⟩
            (refine Le.ok some [] ?_; constructor; all_goals (try simp only [vle, vkt, seval, tbK4_66, xbK4_1, waT1, waT2, c66]))
            all_goals first | rfl | (simp [f4]; done)
          · have d3 : decide ((k : Int) ∈ p) = false := decide_eq_false hm
            rw [if_neg hm] at f4
            have hm0 := f5 hm
            have hpc : p.map eInt ++ [[.v (.int .i64 (k : Int))]] = (p ++ [(k : Int)]).map eInt := by rw [List.map_append]; rfl
            have l1 : (p ++ [(k : Int)]).length = p.length + 1 := by simp
            have l2 : N - (p.length + 1) = m - 1 := by omega
            have hG : WyOk N (p ++ [(k : Int)]) (N - (p.length + 1)) := ⟨hW.snoc hlt hm, by rw [l1]; omega, hN⟩
            have l3 : N - (p.length + 1) < m := by omega
            have f7 := f2 (k + 1) (by omega)
            rw [← l2] at f4
            obtain ⟨V, hV⟩ : ∃ V, waysF to N (N - (p.length + 1)) (p ++ [(k : Int)]) = V := ⟨_, rfl⟩
            rw [hV] at f4
            rw [f4, List.length_append] at f7
            have m1 : (p.length + 1) * 8 ≤ 140737488355328 ∧ p.length + 1 ≤ maxLen := by omega
            have m3 : p.length * 8 ≤ 140737488355328 ∧ p.length ≤ maxLen := by omega
            have m2 : (W.length + V.length) * 24 ≤ 140737488355328 ∧ W.length + V.length ≤ maxLen := by omega
            have ecc : W.map eInts ++ V.map eInts = (W ++ V).map eInts := by rw [List.map_append]
            repeat' (first | refine zq0 ?_ | refine zq1 ?_ | refine zq2 ?_ | refine zq3 ?_ | refine zq4 ?_ | refine zq5 ?_ | refine thenK_n ?_ | refine thenK_x ?_ | refine thenK_r ?_ | refine blockK_n ?_ | refine blockK_r ?_ | refine blockK_hit ?_ | refine blockK_miss (by decide) ?_ | ((first | refine sym_reg env fun Q hQ => ?_ | refine sym_cz fun Q hQ => ?_); simp only [vkt, seval, tbK4_66, xbK4_1, waT1, waT2, c66, d2, d3, e9, hpc, l1, hV, ecc]; (try simp only [ite_and]); (repeat' (first | with_reducible assumption | refine And.intro ?_ ?_ | intro hp)); all_goals (first | (refine hQ _ ?_; clear hQ Q) | (refine hQ _ (fun h => ?_) (fun h => ?_) <;> clear hQ Q <;> (try simp only [vki, reduceCtorEq] at h)) | omega | assumption | (with_reducible rfl) | (refine drawB_of ?_; kernel_rfl) | skip)))
            refine ⟨⟨k + 1, hlt⟩, by show N - (k + 1) < N - k; omega, ?_⟩
            (refine Le.ok (fun j => if j = 0 then some 4 else some j) [] ?_; constructor; all_goals (try simp only [vle, vkt, seval, tbK4_66, xbK4_1, waT1, waT2, c66]))
            all_goals first | rfl | (simp [f4]; done)
      · have d1 : decide ((k : Int) < (N : Int)) = false := decide_eq_false (by omega)
        have hkn : k = N := by omega
        subst hkn
        repeat' (first | refine zq0 ?_ | refine zq1 ?_ | refine zq2 ?_ | refine zq3 ?_ | refine zq4 ?_ | refine zq5 ?_ | refine thenK_n ?_ | refine thenK_x ?_ | refine thenK_r ?_ | refine blockK_n ?_ | refine blockK_r ?_ | refine blockK_hit ?_ | refine blockK_miss (by decide) ?_ | ((first | refine sym_reg env fun Q hQ => ?_ | refine sym_cz fun Q hQ => ?_); simp only [vkt, seval, tbK4_66, xbK4_1, waT1, waT2, c66, d1]; (try simp only [ite_and]); (repeat' (first | with_reducible assumption | refine And.intro ?_ ?_ | intro hp)); all_goals (first | (refine hQ _ ?_; clear hQ Q) | (refine hQ _ (fun h => ?_) (fun h => ?_) <;> clear hQ Q <;> (try simp only [vki, reduceCtorEq] at h)) | omega | assumption | (with_reducible rfl) | (refine drawB_of ?_; kernel_rfl) | skip)))
        (simp only [vrt, Try.results66, vkt, seval, tbK4_66, xbK4_1, waT1, waT2, c66]; refine Fin.val rfl ?_; (try simp only [AV.le, AV.leL]))
        all_goals first | rfl | exact ⟨_, _, rfl⟩ | (simp; done)
end Go.Sym.B
namespace Go.Sym.B
open Go Go.Sym Go.Proofs Go.Sym.C
structure AlOk (l : Led) (d : Int) (q : List Int) (n : Int) : Prop where
  ne : q ≠ []
  rt : ∀ c ∈ q, Rt l d c
  cap : Cap l d (q.getD 0 0) n
  len : q.length ≤ 20
theorem take_lastD {q : List Int} {i : Nat} (h : i < q.length) : (q.take (i + 1)).getLastD 0 = q.getD i 0 := by
  rw [List.take_succ_eq_append_getElem h, List.getLastD_concat]
  simp [List.getD_eq_getElem?_getD, h]
theorem along_take {f : Int → Int → Int → Int} {q : List Int} {n : Int} {i : Nat} (h : i + 1 < q.length) : alongL f (q.take (i + 2)) n = f (q.getD i 0) (q.getD (i + 1) 0) (alongL f (q.take (i + 1)) n) := by
  have hl : (q.take (i + 1)).length = i + 1 := by rw [List.length_take]; omega
  rw [List.take_succ_eq_append_getElem (i := i + 1) h, along_snoc f _ _ _ (fun e => by rw [e] at hl; simp at hl), take_lastD (by omega)]
  simp [List.getD_eq_getElem?_getD, h]
theorem AlOk.caps {l : Led} {d : Int} {q : List Int} {n : Int} (h : AlOk l d q n) : ∀ i, i < q.length → Cap l d (q.getD i 0) (alongL (swF l d) (q.take (i + 1)) n)
  | 0, hi => by
    have : q.take 1 = [q.getD 0 0] := by
      rw [List.take_succ_eq_append_getElem hi]; simp [List.getD_eq_getElem?_getD, hi]
    rw [this]; exact h.cap
  | i + 1, hi => by
    have ih := h.caps i (by omega)
    rw [along_take hi]
    exact ih.step (h.rt _ (gMem (by omega))) (h.rt _ (gMem hi))
def bestW (l : Led) (d a b n : Int) : List Int × Int := dfs (swF l d) b l.coins.length (l.coins.length - 1) [a] n ([], -1)
def aBest (l : Led) (d a b n : Int) : AV := if chkSwapE l d a b n ≠ 0 then .tup [.sl [], aI 0, aI (chkSwapE l d a b n)] else .tup [aInts (bestW l d a b n).1, aI (bestW l d a b n).2, aI 0]
structure BwOk (l : Led) (d a b n : Int) : Prop where
  val : Val l
  way : Way l.coins.length [a]
  rt : ∀ c : Int, 0 ≤ c → c < l.coins.length → Rt l d c
  cap : Cap l d a n
  ab : a ≠ b
  b : 0 ≤ b ∧ b < l.coins.length
theorem bw_of {l : Led} {d a b n : Int} (h : chkSwapE l d a b n = 0) : BwOk l d a b n := by
  obtain ⟨v1, v2, v3, v4, v5, v6⟩ := chkSwap_ok h
  unfold chkSwapE at h
  split at h
  · exact absurd h ‹_›
  split at h
  · exact absurd h (by decide)
  rename_i a2
  split at h
  · exact absurd h (by decide)
  rename_i a3
  split at h
  · exact absurd h (by decide)
  rename_i a4
  have nf : ∀ {p : Bool}, ¬ (!p) = true → p = true := fun h => by simpa using h
  have b2 := inB_iff.1 (nf a2)
  have b3 := inB_iff.1 (nf a3)
  have b4 := inB_iff.1 (nf a4)
  exact ⟨v1, ⟨by simp, by simp, fun x hx => by rw [List.mem_singleton.1 hx]; omega⟩, fun c h0 h1 => val_rt v1 b2.1 b2.2 h0 (by omega), cap_start v2 v4 v5, v6, by omega⟩
def p120n (S : St) : List AV → Option Pk
  | [.row r, .v (.int .i64 n), .ptr a 0, .ptr b 0, .ptr c 0, .ptr e 0, .ptr f 0, .ptr g 0] => match S.h r, S.h a, S.h b, S.h c, S.h e, S.h f, S.h g with
    | some (.row 3 1 pp), some (.cells [.v (.int .i64 to)]), some (.cells [.v (.int .i64 got)]), some (.cells [.nil]), some (.cells [.sl cs, .sl rs, .sl ss, .sl es]), some (.cells [.clo 120 [.ptr a' 0, .ptr b' 0, .ptr c' 0, .ptr e' 0, .ptr f' 0, .ptr g' 0]]), some (.cells [.v (.int .i64 d)]) =>
      some { pre := a' = a ∧ b' = b ∧ c' = c ∧ e' = e ∧ f' = f ∧ g' = g ∧ pp = (pp.map dInt).map eInt ∧ isL cs rs ss es ∧ BeOk (ldOf cs rs ss es) d (pp.map dInt) n (cs.length - pp.length), hs := [a, b, c, e, f, g], bo := [r], ar := [.sl pp, .v (.int .i64 n), .ptr 0 0, .ptr 1 0, .ptr 2 0, .ptr 3 0, .ptr 4 0, .ptr 5 0], L0 := [.cells [.v (.int .i64 to)], .cells [.v (.int .i64 got)], .cells [.sl []], .cells [.sl cs, .sl rs, .sl ss, .sl es], .cells [.clo 120 [.ptr 0 0, .ptr 1 0, .ptr 2 0, .ptr 3 0, .ptr 4 0, .ptr 5 0]], .cells [.v (.int .i64 d)]], v := .tup [], L1 := [some (.cells [.v (.int .i64 to)]), some (.cells [.v (.int .i64 (dfs (swF (ldOf cs rs ss es) d) to cs.length (cs.length - pp.length) (pp.map dInt) n ([], got)).2)]), some (.cells [.sl ((dfs (swF (ldOf cs rs ss es) d) to cs.length (cs.length - pp.length) (pp.map dInt) n ([], got)).1.map eInt)]), some (.cells [.sl cs, .sl rs, .sl ss, .sl es]), some (.cells [.clo 120 [.ptr 0 0, .ptr 1 0, .ptr 2 0, .ptr 3 0, .ptr 4 0, .ptr 5 0]]), some (.cells [.v (.int .i64 d)])] }
    | _, _, _, _, _, _, _ => none
  | _ => none
theorem e120n {A : Frm → Prop} : EntryOK A Try.prog 120 (fnE p120n) := fnE_ok fun S bs q h hp => by
  unfold p120n at h
  split at h
  · split at h
    · rename_i r n a b c e f g _ _ _ _ _ _ _ pp to got cs rs ss es a' b' c' e' f' g' d _ _ _ _ _ _ _
      cases h
      obtain ⟨_, _, _, _, _, _, h1, h3, h6⟩ := hp
      have := best_all _ (ldOf cs rs ss es) d to (pp.map dInt) n ([], got) h6 (by simp)
      simp only [beH, aInts, aI, ← h1, cLed_of' h3, show (ldOf cs rs ss es).coins.length = cs.length by simp [ldOf], List.map_nil] at this
      exact this
    · cases h
  · cases h
def tbK5_62 := And.intro @ty3 (And.intro @ty22 (And.intro @ty30 (And.intro @ty38 (And.intro @ty137 (And.intro @ti3.eq_1 (And.intro @ti22.eq_1 (And.intro @ti30.eq_1 (And.intro @ti38.eq_1 @ti137.eq_1))))))))
def xbK5_2 := And.intro @aI.eq_1 (And.intro @aB.eq_1 (And.intro @aLed.eq_1 (And.intro @cLed.eq_1 (And.intro @aInts.eq_1 (And.intro @c106.eq_1 (And.intro @c106.eq_2 (And.intro @isL_e (And.intro @ldOf_e (And.intro @mInt (@eInt.eq_1))))))))))
set_option maxHeartbeats 4000000 in
theorem best_fn (l : Led) (d a b n : Int) (hl : Fit l) : FnV Try.prog 62 [aLed l, aI d, aI a, aI b, aI n] (aBest l d a b n) := by
  have env : Env (fun _ => True) Try.prog tyB (tab [(106, valE true c106), (120, fnE p120n)]) := mkEnv ⟨d106, e120n, trivial⟩
  refine Fn.of (A := fun _ => True) (n0 := 0) (D := noD) (Fn0 Try.func62 rfl (fun vs w => by kernel_rfl) (by kernel_rfl)) (by simp) (by simp [AV.ids, AV.idsL, aI, aLed, cLed]) (fun i o h => by cases h) (fun _ _ _ _ => trivial) noD_ok ?_
  by_cases c0 : chkSwapE l d a b n = 0
  · have hb := bw_of c0
    rw [show aBest l d a b n = _ from if_neg (by rw [c0]; simp)]
    have hc := hb.val.c
    have hG : BeOk l d [a] n (l.coins.length - 1) := ⟨hl, hb.way, by simp; omega, hb.rt, hb.cap⟩
    have hG' : BeOk l d [dInt [.v (.int .i64 a)]] n (l.coins.length - 1) := hG
    have hW : dfs (swF l d) b l.coins.length (l.coins.length - 1) [dInt [.v (.int .i64 a)]] n ([], -1) = bestW l d a b n := rfl
    have dIW : dInt [DV.v (.int .i64 a)] = a := rfl
    repeat' (first | refine zq0 ?_ | refine zq1 ?_ | refine zq2 ?_ | refine zq3 ?_ | refine zq4 ?_ | refine zq5 ?_ | refine thenK_n ?_ | refine thenK_x ?_ | refine thenK_r ?_ | refine blockK_n ?_ | refine blockK_r ?_ | refine blockK_hit ?_ | refine blockK_miss (by decide) ?_ | ((first | refine sym_reg env fun Q hQ => ?_ | refine sym_cz fun Q hQ => ?_); simp only [vkt, seval, tbK5_62, xbK5_2, p120n, c0, dIW]; (try simp only [ite_and]); (repeat' (first | with_reducible assumption | refine And.intro ?_ ?_ | intro hp)); all_goals (first | (refine hQ _ ?_; clear hQ Q) | (refine hQ _ (fun h => ?_) (fun h => ?_) <;> clear hQ Q <;> (try simp only [vki, reduceCtorEq] at h)) | omega | assumption | (with_reducible rfl) | (refine drawB_of ?_; kernel_rfl) | skip)))
    all_goals first | exact ⟨_, _, rfl⟩ | skip
    (simp only [vrt, Try.results62, vkt, seval, tbK5_62, xbK5_2, p120n]; refine Fin.val rfl ?_; (try simp only [AV.le, AV.leL]))
    all_goals first | rfl | (simp; done) | exact ⟨rfl, rfl, trivial, trivial⟩
  · rw [show aBest l d a b n = _ from if_pos c0]
    repeat' (first | refine zq0 ?_ | refine zq1 ?_ | refine zq2 ?_ | refine zq3 ?_ | refine zq4 ?_ | refine zq5 ?_ | refine thenK_n ?_ | refine thenK_x ?_ | refine thenK_r ?_ | refine blockK_n ?_ | refine blockK_r ?_ | refine blockK_hit ?_ | refine blockK_miss (by decide) ?_ | ((first | refine sym_reg env fun Q hQ => ?_ | refine sym_cz fun Q hQ => ?_); simp only [vkt, seval, tbK5_62, xbK5_2, p120n, c0]; (try simp only [ite_and]); (repeat' (first | with_reducible assumption | refine And.intro ?_ ?_ | intro hp)); all_goals (first | (refine hQ _ ?_; clear hQ Q) | (refine hQ _ (fun h => ?_) (fun h => ?_) <;> clear hQ Q <;> (try simp only [vki, reduceCtorEq] at h)) | omega | assumption | (with_reducible rfl) | (refine drawB_of ?_; kernel_rfl) | skip)))
    (simp only [vrt, Try.results62, vkt, seval, tbK5_62, xbK5_2, p120n]; refine Fin.val rfl ?_; (try simp only [AV.le, AV.leL]))
    all_goals first | rfl | (simp; done)
theorem aBest_plain (l : Led) (d a b n : Int) : (aBest l d a b n).plain := by
  unfold aBest aInts; split <;> simp [AV.plain, AV.plainL, aI]
def c62 : List AV → Prop × AV
  | [.agg [.sl cs, .sl rs, .sl ss, .sl es], .v (.int .i64 d), .v (.int .i64 a), .v (.int .i64 b), .v (.int .i64 n)] => (isL cs rs ss es ∧ Fit (ldOf cs rs ss es), aBest (ldOf cs rs ss es) d a b n)
  | _ => (False, .junk)
theorem d62 {A : Frm → Prop} : EntryOK A Try.prog 62 (valE false c62) := valE_ok fun vs hv h => by
  clear hv
  unfold c62 at h ⊢
  split at h
  · refine ⟨aBest_plain _ _ _ _ _, fun h => absurd h (by decide), ?_⟩
    rw [← aLed_of h.1]; exact best_fn _ _ _ _ _ h.2
  · exact h.elim
theorem bestOf_succ {f : Int → Int → Int → Int} {n : Int} {A : List (List Int)} {s : List Int × Int} {k : Nat} (h : k < A.length) : bestOf f n (A.take (k + 1)) s = bst (bestOf f n (A.take k) s) (A.getD k []) (alongL f (A.getD k []) n) := by
  rw [List.take_succ_eq_append_getElem h, bestOf_append]
  simp [bestOf, List.getD_eq_getElem?_getD, h]
theorem bw_ways {l : Led} {d a b n : Int} (h : BwOk l d a b n) : ∀ q ∈ waysF b l.coins.length (l.coins.length - 1) [a], AlOk l d q n := fun q hq => by
  obtain ⟨h1, _, r, h3⟩ := ways_ok h.way q hq
  refine ⟨h1.ne, fun c hc => h.rt c (h1.bd c hc).1 (h1.bd c hc).2, ?_, by have := h1.len; have := h.val.c; omega⟩
  rw [h3]; exact h.cap
end Go.Sym.B
namespace Go.Sym.B
open Go Go.Sym Go.Proofs Go.Sym.C
theorem int_eq_of {a b : Int} (h : ∀ k : Int, k ≤ a ↔ k ≤ b) : a = b := Int.le_antisymm ((h a).1 (Int.le_refl _)) ((h b).2 (Int.le_refl _))
theorem sw_int {l : Led} {d a b n : Int} (h1 : Rt l d a) (h2 : Rt l d b) : swF l d a b n = (n * (rq l d a).num * ((rq l d b).den : Int)) / (((rq l d a).den : Int) * (rq l d b).num) := by
  have hA := den_pos (rq l d a)
  have hC : 0 < (rq l d b).num := by have := h2.n0; omega
  have hBC := Int.mul_pos hA hC
  have hpos : (0 : Rat) < (((rq l d a).den : Int) * (rq l d b).num : Int) := by
    have : ((0 : Int) : Rat) < ((((rq l d a).den : Int) * (rq l d b).num : Int) : Rat) := Rat.intCast_lt_intCast.2 hBC
    simpa using this
  have key : swapQ l d a b n * (((((rq l d a).den : Int) * (rq l d b).num : Int)) : Rat) = ((n * (rq l d a).num * ((rq l d b).den : Int) : Int) : Rat) := by
    have e1 := q_mul (rq l d a)
    have e2 := q_mul (rq l d b)
    have e3 : swapQ l d a b n * rq l d b = rq l d a * (n : Rat) := q_cancel (num_pos hC)
    rw [Rat.intCast_mul, Rat.intCast_mul, Rat.intCast_mul, ← e1, ← e2]
    generalize ((rq l d a).den : Int) = B at *
    generalize ((rq l d b).den : Int) = D at *
    generalize rq l d a = x at *
    generalize rq l d b = y at *
    generalize swapQ l d a b n = s at *
    calc s * ((B : Rat) * (y * (D : Rat))) = (s * y) * (B : Rat) * (D : Rat) := by grind
      _ = (n : Rat) * (x * (B : Rat)) * (D : Rat) := by rw [e3]; grind
  refine int_eq_of fun k => ?_
  unfold swF
  rw [Rat.le_floor_iff, Int.le_ediv_iff_mul_le hBC, ← mul_le hpos, key, ← Rat.intCast_mul, Rat.intCast_le_intCast]
theorem sw_tdiv {l : Led} {d a b n : Int} (h1 : Rt l d a) (h2 : Rt l d b) (hn : 0 ≤ n) : (n * (rq l d a).num * ((rq l d b).den : Int)).tdiv (((rq l d a).den : Int) * (rq l d b).num) = swF l d a b n := by
  rw [sw_int h1 h2, Int.tdiv_eq_ediv_of_nonneg]
  exact Int.mul_nonneg (Int.mul_nonneg hn (by have := h1.n0; omega)) (Int.natCast_nonneg _)
theorem bst_ge (s : List Int × Int) (p : List Int) (n : Int) : s.2 ≤ (bst s p n).2 ∧ n ≤ (bst s p n).2 := by
  unfold bst
  split
  · rename_i h
    rcases h with h | h
    · exact ⟨Int.le_of_lt h, Int.le_refl _⟩
    · exact ⟨by show s.2 ≤ n; rw [h.1]; exact Int.le_refl _, Int.le_refl _⟩
  · rename_i h
    exact ⟨Int.le_refl _, Int.not_lt.1 fun hh => h (.inl hh)⟩
theorem bestOf_ge (f : Int → Int → Int → Int) (n : Int) : ∀ (A : List (List Int)) (s : List Int × Int), s.2 ≤ (bestOf f n A s).2 ∧ ∀ q ∈ A, alongL f q n ≤ (bestOf f n A s).2
  | [], s => ⟨Int.le_refl _, by simp⟩
  | a :: A, s => by
    obtain ⟨h1, h2⟩ := bestOf_ge f n A (bst s a (alongL f a n))
    obtain ⟨h3, h4⟩ := bst_ge s a (alongL f a n)
    have e : bestOf f n (a :: A) s = bestOf f n A (bst s a (alongL f a n)) := rfl
    rw [e]
    refine ⟨Int.le_trans h3 h1, fun q hq => ?_⟩
    rcases List.mem_cons.1 hq with rfl | hq
    · exact Int.le_trans h4 h1
    · exact h2 q hq
theorem once_mem {N : Nat} {a : Int} {T m : Nat} (hT : T < N) (hne : a ≠ (T : Int)) : [a, (T : Int)] ∈ waysF (T : Int) N (m + 1) [a] := by
  simp only [waysF]
  rw [if_neg (by simpa using hne)]
  refine List.mem_flatMap.2 ⟨T, List.mem_range.2 hT, ?_⟩
  rw [if_neg (by simpa using Ne.symm hne)]
  cases m with
  | zero => simp [waysF]
  | succ m => simp [waysF]
theorem best_once {l : Led} {d a b n : Int} (h : BwOk l d a b n) : (swapQ l d a b n).floor ≤ (bestW l d a b n).2 := by
  obtain ⟨T, rfl⟩ := Int.eq_ofNat_of_zero_le h.b.1
  have h1 := h.way.bd a (by simp)
  have h2 := h.b.2
  have h3 := h.ab
  obtain ⟨m, hm⟩ : ∃ m, l.coins.length - 1 = m + 1 := ⟨l.coins.length - 2, by omega⟩
  have hmem := once_mem (N := l.coins.length) (a := a) (T := T) (m := m) (by omega) h3
  have := (bestOf_ge (swF l d) n (waysF (T : Int) l.coins.length (m + 1) [a]) ([], -1)).2 _ hmem
  have e : bestW l d a T n = bestOf (swF l d) n (waysF (T : Int) l.coins.length (m + 1) [a]) ([], -1) := by
    have := dfs_ways (swF l d) (T : Int) l.coins.length n (l.coins.length - 1) [a] ([], -1) (by simp)
    rw [← hm]; exact this
  rw [e]
  exact this
end Go.Sym.B
namespace Go.Sym.B
open Go Go.Sym Go.Proofs Go.Sym.C
theorem aBest_of {l : Led} {d a b n : Int} (h : chkSwapE l d a b n = 0) : aBest l d a b n = .tup [.sl ((bestW l d a b n).1.map eInt), .v (.int .i64 (bestW l d a b n).2), .v (.int .i64 0)] := if_neg (by rw [h]; simp)
def cbT (L : Led) (D F T am : Int) (s : List Int × Int) (A : List (List Int)) (z : List Int × Int) (k : Nat) : St := { t := asg [(2, aB false), (4, .ptr 0 0), (5, aI D), (6, aI F), (7, aI T), (8, aI am), (9, aInts s.1), (10, aI s.2), (15, .sl (A.map eInts)), (16, aInts z.1), (17, aI z.2), (18, aI k)], h := hasg [(0, .cells (cLed L))], n := 1 }
def cbT2 (L : Led) (D F T am : Int) (s : List Int × Int) (A : List (List Int)) (z : List Int × Int) (k : Nat) (q : List Int) (i : Nat) : St := { t := asg [(2, aB false), (4, .ptr 0 0), (5, aI D), (6, aI F), (7, aI T), (8, aI am), (9, aInts s.1), (10, aI s.2), (15, .sl (A.map eInts)), (16, aInts z.1), (17, aI z.2), (18, aI k), (19, aI (alongL (swF L D) (q.take (i + 1)) am)), (20, aI i)], h := hasg [(0, .cells (cLed L))], n := 1 }
def tbK7_14 := And.intro @ty3 (And.intro @ty22 (And.intro @ty28 (And.intro @ty30 (And.intro @ty35 (And.intro @ty38 (And.intro @ty55 (And.intro @ty59 (And.intro @ti3.eq_1 (And.intro @ti22.eq_1 (And.intro @ti28.eq_1 (And.intro @ti30.eq_1 (And.intro @ti35.eq_1 (And.intro @ti38.eq_1 (And.intro @ti55.eq_1 @ti59.eq_1))))))))))))))
def xbK7_1 := And.intro @aI.eq_1 (And.intro @aB.eq_1 (And.intro @aLed.eq_1 (And.intro @cLed.eq_1 (And.intro @bgH.eq_1 (And.intro @aInts.eq_1 (And.intro @mInt (And.intro @mInts (And.intro @eInt.eq_1 (And.intro @gInt (And.intro @gInts (And.intro @eInts.eq_1 (And.intro @c19.eq_1 (And.intro @c19.eq_2 (And.intro @p20.eq_1 (And.intro @p20.eq_2 (And.intro @p21.eq_1 (And.intro @p21.eq_2 (And.intro @p22.eq_1 (And.intro @p22.eq_2 (And.intro @p27.eq_1 (And.intro @p27.eq_2 (And.intro @s54.eq_1 (And.intro @s54.eq_2 (And.intro @s26.eq_1 (And.intro @s26.eq_2 (And.intro @c48.eq_1 (And.intro @c48.eq_2 (And.intro @isL_e (And.intro @ldOf_e (And.intro @aSh.eq_1 (And.intro @shQ.eq_1 (And.intro @gShs (And.intro @gSh (And.intro @eShs.eq_1 (@eSh.eq_1)))))))))))))))))))))))))))))))))))
set_option maxRecDepth 100000 in
set_option maxHeartbeats 8000000 in
theorem bestLaw_fn (ns : List Int) (h2 : ns.length ≤ maxLen) : FnV Try.prog 14 [aInts ns] (aB true) := by
  have env : Env (fun _ => True) Try.prog tyB (tab [(19, valE true c19), (20, fnE p20), (21, fnE p21), (22, fnE p22), (26, valE true s26), (27, fnE p27), (48, valE true c48), (54, valE true s54), (62, valE false c62), (66, valE false (c66 100))]) := mkEnv ⟨d19, e20, e21, e22, e26, e27, d48, e54, d62, d66 (fun m _ => ways_all m), trivial⟩
  refine Fn.of (A := fun _ => True) (n0 := 0) (D := noD) (Fn0 Try.func14 rfl (fun vs w => by kernel_rfl) (by kernel_rfl)) (by simp) (by simp [AV.ids, AV.idsL, aInts, aI]) (fun i o h => by cases h) (fun _ _ _ _ => trivial) noD_ok ?_
  have big : (100000 : Nat) ≤ maxLen := by decide
  have z1 : (1 : Int) ≤ 4 ∧ (4 : Int) ≤ 4 := by decide
  have z3 : (1 : Int) ≤ 2 ∧ (2 : Int) ≤ 4 := by decide
  have z2 : (0 : Int) ≤ 0 ∧ (0 : Int) ≤ 6 := by decide
  have hok := lg_ok (x := nbS ns) (w := 0) z1 z3 z2
  have hE := lg_e0 (nbS ns) 4 2 0
  obtain ⟨L, hL⟩ : ∃ L, lgL (nbS ns) 4 2 0 0 = L := ⟨_, rfl⟩
  obtain ⟨y, hy⟩ : ∃ y, lgS (nbS ns) 4 2 0 0 = y := ⟨_, rfl⟩
  rw [hL] at hok hE
  have hfit := hok.fit
  have hchk : checkE L = 0 := by rw [hok.check, entries0 hE]
  have hV := val_of hchk
  have hc := hok.c
  have hr := hok.r.len
  have zn : ∀ n : Int, decide (n = n) = true := fun n => decide_eq_true rfl
  have zi : ∀ p : List Int, decide (p = p) = true := fun n => decide_eq_true rfl
  by_cases c1 : L.coins.length = 1
  · have c1' : decide ((L.coins.length : Int) = 1) = true := by simp [c1]
    repeat' (first | refine zq0 ?_ | refine zq1 ?_ | refine zq2 ?_ | refine zq3 ?_ | refine zq4 ?_ | refine zq5 ?_ | refine thenK_n ?_ | refine thenK_x ?_ | refine thenK_r ?_ | refine blockK_n ?_ | refine blockK_r ?_ | refine blockK_hit ?_ | refine blockK_miss (by decide) ?_ | ((first | refine sym_reg env fun Q hQ => ?_ | refine sym_cz fun Q hQ => ?_); simp only [vkt, seval, tbK7_14, xbK7_1, cbT, cbT2, c62, c66, hL, hy, c1']; (try simp only [ite_and]); (repeat' (first | with_reducible assumption | refine And.intro ?_ ?_)); all_goals (first | (refine hQ _ ?_; clear hQ Q) | (refine hQ _ (fun h => ?_) (fun h => ?_) <;> clear hQ Q <;> (try simp only [vki, reduceCtorEq] at h)) | omega | (with_reducible assumption) | (with_reducible rfl) | (refine drawB_of ?_; kernel_rfl) | skip)))
    (simp only [vrt, Try.results14, vkt, seval, tbK7_14, xbK7_1, cbT, cbT2, c62, c66]; refine Fin.val rfl ?_; (try simp only [AV.le, AV.leL]))
    all_goals first | rfl | (simp; done)
  have c1' : decide ((L.coins.length : Int) = 1) = false := decide_eq_false (by omega)
  have wR : IntKind.wrap .i64 ((L.rates.length : Int) - 1) = (L.rates.length : Int) - 1 := wrap64 (by omega) (by omega)
  have wC : IntKind.wrap .i64 ((L.coins.length : Int) - 1) = (L.coins.length : Int) - 1 := wrap64 (by omega) (by omega)
  have u1 := upV_le (x := y) (m := (L.rates.length : Int) - 1) (by omega) (by omega)
  obtain ⟨D, hD⟩ : ∃ D, upV y ((L.rates.length : Int) - 1) = D := ⟨_, rfl⟩
  obtain ⟨y1, hy1⟩ : ∃ z, upS y ((L.rates.length : Int) - 1) = z := ⟨_, rfl⟩
  have u2 := upV_le (x := y1) (m := (L.coins.length : Int) - 1) (by omega) (by omega)
  obtain ⟨F, hF⟩ : ∃ D, upV y1 ((L.coins.length : Int) - 1) = D := ⟨_, rfl⟩
  obtain ⟨y2, hy2⟩ : ∃ z, upS y1 ((L.coins.length : Int) - 1) = z := ⟨_, rfl⟩
  have u3 := upV_le (x := y2) (m := (L.coins.length : Int) - 1 - 1) (by omega) (by omega)
  obtain ⟨g, hg⟩ : ∃ g, 1 + upV y2 ((L.coins.length : Int) - 1 - 1) = g := ⟨_, rfl⟩
  obtain ⟨y3, hy3⟩ : ∃ z, upS y2 ((L.coins.length : Int) - 1 - 1) = z := ⟨_, rfl⟩
  rw [hD] at u1
  rw [hF] at u2
  have u3 : 1 ≤ g ∧ g ≤ (L.coins.length : Int) - 1 := by omega
  have hTb := foldV_bd (x := F + g) (n := (L.coins.length : Int)) (by omega)
  have hTn := foldV_ne u2.1 u3.1 u3.2
  have wT : IntKind.wrap .i64 (F + g) = F + g := wrap64 (by omega) (by omega)
  obtain ⟨T, hT⟩ : ∃ T, foldV (F + g) (L.coins.length : Int) = T := ⟨_, rfl⟩
  rw [hT] at hTb hTn
  have u4 := upV_le (x := y3) (m := 30) (by decide) (by decide)
  obtain ⟨am, hA⟩ : ∃ g, upV y3 30 = g := ⟨_, rfl⟩
  obtain ⟨y4, hy4⟩ : ∃ z, upS y3 30 = z := ⟨_, rfl⟩
  rw [hA] at u4
  have kT : 0 ≤ T ∧ T ≤ (L.coins.length : Int) - 1 := by omega
  have hck := chkSwap_of hchk u1 u2 kT (Ne.symm hTn) (show 0 ≤ am ∧ am ≤ 999 by omega)
  have hb := bw_of hck
  have hs1 := aSwap_of hck
  have hs2 := aBest_of hck
  have honce := best_once hb
  obtain ⟨n1, hn1⟩ : ∃ n, (swapQ L D F T am).floor = n := ⟨_, rfl⟩
  obtain ⟨lo, hlo⟩ : ∃ q, swapQ L D F T am - ((swapQ L D F T am).floor : Rat) = q := ⟨_, rfl⟩
  rw [hlo, hn1] at hs1
  rw [hn1] at honce
  have hWy : WyOk L.coins.length [F] (L.coins.length - 1) := ⟨hb.way, by simp; omega, hc.2⟩
  have dIW : dInt [DV.v (.int .i64 F)] = F := rfl
  have hM : L.coins.length - 1 < 100 := by omega
  have hAw := bw_ways hb
  have hAl := ways_len (to := T) hc.2 (m := L.coins.length - 1) (p := [F])
  have h44 : 4 ^ (L.coins.length - 1) ≤ 4 ^ 4 := Nat.pow_le_pow_right (by decide) (by omega)
  have hbw : bestW L D F T am = bestOf (swF L D) am (waysF T L.coins.length (L.coins.length - 1) [F]) ([], -1) := dfs_ways (swF L D) T L.coins.length am (L.coins.length - 1) [F] ([], -1) (by simp)
  have hbl : (bestW L D F T am).1.length ≤ maxLen := by
    have : (bestW L D F T am).1.length ≤ 20 := dfs_len (by simp) (by simp; omega)
    omega
  obtain ⟨A, hAe⟩ : ∃ A, waysF T L.coins.length (L.coins.length - 1) [F] = A := ⟨_, rfl⟩
  rw [hAe] at hAw hAl hbw
  obtain ⟨s, hs⟩ : ∃ s, bestW L D F T am = s := ⟨_, rfl⟩
  rw [hs] at hs2 honce hbw hbl
  have f1 : decide (s.2 < n1) = false := decide_eq_false (by omega)
  repeat' (first | refine zq0 ?_ | refine zq1 ?_ | refine zq2 ?_ | refine zq3 ?_ | refine zq4 ?_ | refine zq5 ?_ | refine thenK_n ?_ | refine thenK_x ?_ | refine thenK_r ?_ | refine blockK_n ?_ | refine blockK_r ?_ | refine blockK_hit ?_ | refine blockK_miss (by decide) ?_ | ((first | refine sym_reg env fun Q hQ => ?_ | refine sym_cz fun Q hQ => ?_); simp only [vkt, seval, tbK7_14, xbK7_1, cbT, cbT2, c62, c66, hL, hy, c1', wR, wC, hD, hy1, hF, hy2, hg, hy3, wT, hT, hA, hy4, hs1, hs2, f1, dIW, hAe]; (try simp only [ite_and]); (repeat' (first | with_reducible assumption | refine And.intro ?_ ?_)); all_goals (first | (refine hQ _ ?_; clear hQ Q) | (refine hQ _ (fun h => ?_) (fun h => ?_) <;> clear hQ Q <;> (try simp only [vki, reduceCtorEq] at h)) | omega | (with_reducible assumption) | (with_reducible rfl) | (refine drawB_of ?_; kernel_rfl) | skip)))
  refine sym_loop (fun k : { k : Nat // k ≤ A.length } => cbT L D F T am s A (bestOf (swF L D) am (A.take k.1) ([], -1)) k.1) (fun k => A.length - k.1) ⟨0, Nat.zero_le _⟩ ?_ fun ⟨k, hk⟩ => ?_
  · (refine Le.ok (fun j => some (j + 1)) [] ?_; constructor; all_goals (try simp only [vle, vkt, seval, tbK7_14, xbK7_1, cbT, cbT2, c62, c66]))
    all_goals first | rfl | (simp [bestOf]; done) | (intro i hi; omega)
  by_cases hlt : k < A.length
  · have d1 : decide ((k : Int) < (A.length : Int)) = true := decide_eq_true (by omega)
    have e9 := wrap64 (n := (k : Int) + 1) (by omega) (by omega)
    have hS := bestOf_succ (f := swF L D) (n := am) (s := ([], -1)) hlt
    have hqk := hAw _ (gMem (d := []) hlt)
    obtain ⟨q, hq1⟩ : ∃ q, A.getD k [] = q := ⟨_, rfl⟩
    rw [hq1] at hS hqk
    obtain ⟨z, hz⟩ : ∃ s, bestOf (swF L D) am (A.take k) ([], -1) = s := ⟨_, rfl⟩
    rw [hz] at hS ⊢
    have hq0 : 0 < q.length := List.length_pos_iff.2 hqk.ne
    have hql := hqk.len
    have h0 : alongL (swF L D) (q.take (0 + 1)) am = am := by rw [List.take_succ_eq_append_getElem hq0]; rfl
    repeat' (first | refine zq0 ?_ | refine zq1 ?_ | refine zq2 ?_ | refine zq3 ?_ | refine zq4 ?_ | refine zq5 ?_ | refine thenK_n ?_ | refine thenK_x ?_ | refine thenK_r ?_ | refine blockK_n ?_ | refine blockK_r ?_ | refine blockK_hit ?_ | refine blockK_miss (by decide) ?_ | ((first | refine sym_reg env fun Q hQ => ?_ | refine sym_cz fun Q hQ => ?_); simp only [vkt, seval, tbK7_14, xbK7_1, cbT, cbT2, c62, c66, d1]; (try simp only [ite_and]); (repeat' (first | with_reducible assumption | refine And.intro ?_ ?_)); all_goals (first | (refine hQ _ ?_; clear hQ Q) | (refine hQ _ (fun h => ?_) (fun h => ?_) <;> clear hQ Q <;> (try simp only [vki, reduceCtorEq] at h)) | omega | (with_reducible assumption) | (with_reducible rfl) | (refine drawB_of ?_; kernel_rfl) | skip)))
    refine sym_loop (fun i : { i : Nat // i < q.length } => cbT2 L D F T am s A z k q i.1) (fun i => q.length - i.1) ⟨0, hq0⟩ ?_ fun ⟨i, hi⟩ => ?_
    · (refine Le.ok some [] ?_; constructor; all_goals (try simp only [vle, vkt, seval, tbK7_14, xbK7_1, cbT, cbT2, c62, c66]))
      all_goals first | rfl | (rw [h0]; done) | exact ⟨by rw [h0], rfl⟩ | (simp [h0]; done)
    have e8 := wrap64 (n := (i : Int) + 1) (by omega) (by omega)
    by_cases hil : i + 1 < q.length
    · have d2 : decide ((i : Int) + 1 < (q.length : Int)) = true := decide_eq_true (by omega)
      have hcp := hqk.caps i hi
      have R1 := hqk.rt _ (gMem (d := 0) hi)
      have R2 := hqk.rt _ (gMem (d := 0) hil)
      have hS2 := along_take (f := swF L D) (n := am) hil
      have tn : ((i : Int) + 1).toNat = i + 1 := by omega
      have zz : (0 : Int) ≤ (i : Int) + 1 := by omega
      obtain ⟨a, ha⟩ : ∃ a, q.getD i 0 = a := ⟨_, rfl⟩
      obtain ⟨b, hb1⟩ : ∃ a, q.getD (i + 1) 0 = a := ⟨_, rfl⟩
      rw [ha] at R1 hcp hS2
      rw [hb1] at R2 hS2
      have hcb := hcp.bd R1
      have hcn := hcp.nn
      obtain ⟨v, hv⟩ : ∃ a, alongL (swF L D) (q.take (i + 1)) am = a := ⟨_, rfl⟩
      rw [hv] at hcb hcn hS2
      have ht := sw_tdiv R1 R2 hcn
      obtain ⟨r1, r2⟩ := rsh_nd R1
      obtain ⟨r3, r4⟩ := rsh_nd R2
      have t1 := R1.d0
      have t2 := R1.d1
      have t3 := R1.c0
      have t4 := R1.c1
      have t5 := R2.c0
      have t6 := R2.c1
      have v0 := R1.n0
      have v1 := R1.n1
      have v2 := R1.e1
      have v3 := R2.n0
      have v4 := R2.n1
      have v5 := R2.e1
      have v6 := den_pos (rq L D a)
      have v7 := den_pos (rq L D b)
      have hfl := (sw_int (n := v) R1 R2)
      have m1 : v * (rq L D a).num ≤ 300000 * 20 := Int.mul_le_mul hcb v1 (by omega) (by decide)
      have m0 : 0 ≤ v * (rq L D a).num := Int.mul_nonneg hcn (by omega)
      have m2 : v * (rq L D a).num * ((rq L D b).den : Int) ≤ 300000 * 20 * 12 := Int.mul_le_mul m1 (by omega) (by omega) (by decide)
      have m3 : 0 ≤ v * (rq L D a).num * ((rq L D b).den : Int) := Int.mul_nonneg m0 (by omega)
      have m4 : ((rq L D a).den : Int) * (rq L D b).num ≤ 12 * 20 := Int.mul_le_mul (by omega) v4 (by omega) (by decide)
      have m5 : 0 < ((rq L D a).den : Int) * (rq L D b).num := Int.mul_pos v6 (by omega)
      have m6 : ((rq L D a).den : Int) * (rq L D b).num ≠ 0 := by omega
      have m7 : (v * (rq L D a).num * ((rq L D b).den : Int)) / (((rq L D a).den : Int) * (rq L D b).num) ≤ v * (rq L D a).num * ((rq L D b).den : Int) := Int.ediv_le_self _ m3
      have m8 : 0 ≤ (v * (rq L D a).num * ((rq L D b).den : Int)) / (((rq L D a).den : Int) * (rq L D b).num) := Int.ediv_nonneg m3 (by omega)
      rw [← hfl] at m7 m8
      have w1 := wrap64 (n := v * (rq L D a).num) (by omega) (by omega)
      have w2 := wrap64 (n := v * (rq L D a).num * ((rq L D b).den : Int)) (by omega) (by omega)
      have w3 := wrap64 (n := ((rq L D a).den : Int) * (rq L D b).num) (by omega) (by omega)
      have w4 := wrap64 (n := swF L D a b v) (by omega) (by omega)
      repeat' (first | refine zq0 ?_ | refine zq1 ?_ | refine zq2 ?_ | refine zq3 ?_ | refine zq4 ?_ | refine zq5 ?_ | refine thenK_n ?_ | refine thenK_x ?_ | refine thenK_r ?_ | refine blockK_n ?_ | refine blockK_r ?_ | refine blockK_hit ?_ | refine blockK_miss (by decide) ?_ | ((first | refine sym_reg env fun Q hQ => ?_ | refine sym_cz fun Q hQ => ?_); simp only [vkt, seval, tbK7_14, xbK7_1, cbT, cbT2, c62, c66, e8, d2, tn, hq1, ha, hb1, hv, r1, r2, r3, r4, w1, w2, w3, ht, w4]; (try simp only [ite_and]); (repeat' (first | with_reducible assumption | refine And.intro ?_ ?_)); all_goals (first | (refine hQ _ ?_; clear hQ Q) | (refine hQ _ (fun h => ?_) (fun h => ?_) <;> clear hQ Q <;> (try simp only [vki, reduceCtorEq] at h)) | omega | (with_reducible assumption) | (with_reducible rfl) | (refine drawB_of ?_; kernel_rfl) | skip)))
      refine ⟨⟨i + 1, hil⟩, by show q.length - (i + 1) < q.length - i; omega, ?_⟩
      (refine Le.ok some [] ?_; constructor; all_goals (try simp only [vle, vkt, seval, tbK7_14, xbK7_1, cbT, cbT2, c62, c66]))
      all_goals first | rfl | (rw [hS2]; done) | exact ⟨by rw [hS2], rfl⟩
    · have d2 : decide ((i : Int) + 1 < (q.length : Int)) = false := decide_eq_false (by omega)
      have hin : q.take (i + 1) = q := List.take_of_length_le (by omega)
      unfold cbT2
      rw [hin]
      obtain ⟨v, hv2⟩ : ∃ v, alongL (swF L D) q am = v := ⟨_, rfl⟩
      rw [hv2] at hS ⊢
      by_cases c1 : z.2 < v
      · have k1 : decide (z.2 < v) = true := decide_eq_true c1
        rw [show bst z q v = (q, v) from if_pos (.inl c1)] at hS
        repeat' (first | refine zq0 ?_ | refine zq1 ?_ | refine zq2 ?_ | refine zq3 ?_ | refine zq4 ?_ | refine zq5 ?_ | refine thenK_n ?_ | refine thenK_x ?_ | refine thenK_r ?_ | refine blockK_n ?_ | refine blockK_r ?_ | refine blockK_hit ?_ | refine blockK_miss (by decide) ?_ | ((first | refine sym_reg env fun Q hQ => ?_ | refine sym_cz fun Q hQ => ?_); simp only [vkt, seval, tbK7_14, xbK7_1, cbT, cbT2, c62, c66, e8, d2, e9, hq1, k1]; (try simp only [ite_and]); (repeat' (first | with_reducible assumption | refine And.intro ?_ ?_)); all_goals (first | (refine hQ _ ?_; clear hQ Q) | (refine hQ _ (fun h => ?_) (fun h => ?_) <;> clear hQ Q <;> (try simp only [vki, reduceCtorEq] at h)) | omega | (with_reducible assumption) | (with_reducible rfl) | (refine drawB_of ?_; kernel_rfl) | skip)))
        refine ⟨⟨k + 1, hlt⟩, by show A.length - (k + 1) < A.length - k; omega, ?_⟩
        (refine Le.ok some [] ?_; constructor; all_goals (try simp only [vle, vkt, seval, tbK7_14, xbK7_1, cbT, cbT2, c62, c66]))
        all_goals first | rfl | (simp [hS]; done) | exact ⟨by rw [hS], by rw [hS], rfl⟩
      have k1 : decide (z.2 < v) = false := decide_eq_false c1
      by_cases c2 : v = z.2
      · have k2 : decide (v = z.2) = true := decide_eq_true c2
        by_cases c3 : q.length < z.1.length
        · have k3 : decide ((q.length : Int) < (z.1.length : Int)) = true := decide_eq_true (by omega)
          rw [show bst z q v = (q, v) from if_pos (.inr ⟨c2, c3⟩)] at hS
          repeat' (first | refine zq0 ?_ | refine zq1 ?_ | refine zq2 ?_ | refine zq3 ?_ | refine zq4 ?_ | refine zq5 ?_ | refine thenK_n ?_ | refine thenK_x ?_ | refine thenK_r ?_ | refine blockK_n ?_ | refine blockK_r ?_ | refine blockK_hit ?_ | refine blockK_miss (by decide) ?_ | ((first | refine sym_reg env fun Q hQ => ?_ | refine sym_cz fun Q hQ => ?_); simp only [vkt, seval, tbK7_14, xbK7_1, cbT, cbT2, c62, c66, e8, d2, e9, hq1, k1, k2, k3]; (try simp only [ite_and]); (repeat' (first | with_reducible assumption | refine And.intro ?_ ?_)); all_goals (first | (refine hQ _ ?_; clear hQ Q) | (refine hQ _ (fun h => ?_) (fun h => ?_) <;> clear hQ Q <;> (try simp only [vki, reduceCtorEq] at h)) | omega | (with_reducible assumption) | (with_reducible rfl) | (refine drawB_of ?_; kernel_rfl) | skip)))
          refine ⟨⟨k + 1, hlt⟩, by show A.length - (k + 1) < A.length - k; omega, ?_⟩
          (refine Le.ok some [] ?_; constructor; all_goals (try simp only [vle, vkt, seval, tbK7_14, xbK7_1, cbT, cbT2, c62, c66]))
          all_goals first | rfl | (simp [hS]; done) | exact ⟨by rw [hS], by rw [hS], rfl⟩
        · have k3 : decide ((q.length : Int) < (z.1.length : Int)) = false := decide_eq_false (by omega)
          rw [show bst z q v = z from if_neg (fun h => by rcases h with h | h; exact c1 h; exact c3 h.2)] at hS
          repeat' (first | refine zq0 ?_ | refine zq1 ?_ | refine zq2 ?_ | refine zq3 ?_ | refine zq4 ?_ | refine zq5 ?_ | refine thenK_n ?_ | refine thenK_x ?_ | refine thenK_r ?_ | refine blockK_n ?_ | refine blockK_r ?_ | refine blockK_hit ?_ | refine blockK_miss (by decide) ?_ | ((first | refine sym_reg env fun Q hQ => ?_ | refine sym_cz fun Q hQ => ?_); simp only [vkt, seval, tbK7_14, xbK7_1, cbT, cbT2, c62, c66, e8, d2, e9, hq1, k1, k2, k3]; (try simp only [ite_and]); (repeat' (first | with_reducible assumption | refine And.intro ?_ ?_)); all_goals (first | (refine hQ _ ?_; clear hQ Q) | (refine hQ _ (fun h => ?_) (fun h => ?_) <;> clear hQ Q <;> (try simp only [vki, reduceCtorEq] at h)) | omega | (with_reducible assumption) | (with_reducible rfl) | (refine drawB_of ?_; kernel_rfl) | skip)))
          refine ⟨⟨k + 1, hlt⟩, by show A.length - (k + 1) < A.length - k; omega, ?_⟩
          (refine Le.ok some [] ?_; constructor; all_goals (try simp only [vle, vkt, seval, tbK7_14, xbK7_1, cbT, cbT2, c62, c66]))
          all_goals first | rfl | (simp [hS]; done) | exact ⟨by rw [hS], by rw [hS], rfl⟩
      · have k2 : decide (v = z.2) = false := decide_eq_false c2
        rw [show bst z q v = z from if_neg (fun h => by rcases h with h | h; exact c1 h; exact c2 h.1)] at hS
        repeat' (first | refine zq0 ?_ | refine zq1 ?_ | refine zq2 ?_ | refine zq3 ?_ | refine zq4 ?_ | refine zq5 ?_ | refine thenK_n ?_ | refine thenK_x ?_ | refine thenK_r ?_ | refine blockK_n ?_ | refine blockK_r ?_ | refine blockK_hit ?_ | refine blockK_miss (by decide) ?_ | ((first | refine sym_reg env fun Q hQ => ?_ | refine sym_cz fun Q hQ => ?_); simp only [vkt, seval, tbK7_14, xbK7_1, cbT, cbT2, c62, c66, e8, d2, e9, hq1, k1, k2]; (try simp only [ite_and]); (repeat' (first | with_reducible assumption | refine And.intro ?_ ?_)); all_goals (first | (refine hQ _ ?_; clear hQ Q) | (refine hQ _ (fun h => ?_) (fun h => ?_) <;> clear hQ Q <;> (try simp only [vki, reduceCtorEq] at h)) | omega | (with_reducible assumption) | (with_reducible rfl) | (refine drawB_of ?_; kernel_rfl) | skip)))
        refine ⟨⟨k + 1, hlt⟩, by show A.length - (k + 1) < A.length - k; omega, ?_⟩
        (refine Le.ok some [] ?_; constructor; all_goals (try simp only [vle, vkt, seval, tbK7_14, xbK7_1, cbT, cbT2, c62, c66]))
        all_goals first | rfl | (simp [hS]; done) | exact ⟨by rw [hS], by rw [hS], rfl⟩
  · have d1 : decide ((k : Int) < (A.length : Int)) = false := decide_eq_false (by omega)
    have hkn : k = A.length := by omega
    subst hkn
    unfold cbT
    rw [List.take_length, ← hbw]
    repeat' (first | refine zq0 ?_ | refine zq1 ?_ | refine zq2 ?_ | refine zq3 ?_ | refine zq4 ?_ | refine zq5 ?_ | refine thenK_n ?_ | refine thenK_x ?_ | refine thenK_r ?_ | refine blockK_n ?_ | refine blockK_r ?_ | refine blockK_hit ?_ | refine blockK_miss (by decide) ?_ | ((first | refine sym_reg env fun Q hQ => ?_ | refine sym_cz fun Q hQ => ?_); simp only [vkt, seval, tbK7_14, xbK7_1, cbT, cbT2, c62, c66, d1, zn, zi]; (try simp only [ite_and]); (repeat' (first | with_reducible assumption | refine And.intro ?_ ?_)); all_goals (first | (refine hQ _ ?_; clear hQ Q) | (refine hQ _ (fun h => ?_) (fun h => ?_) <;> clear hQ Q <;> (try simp only [vki, reduceCtorEq] at h)) | omega | (with_reducible assumption) | (with_reducible rfl) | (refine drawB_of ?_; kernel_rfl) | skip)))
    (simp only [vrt, Try.results14, vkt, seval, tbK7_14, xbK7_1, cbT, cbT2, c62, c66]; refine Fin.val rfl ?_; (try simp only [AV.le, AV.leL]))
    all_goals first | rfl | (simp; done)
end Go.Sym.B
