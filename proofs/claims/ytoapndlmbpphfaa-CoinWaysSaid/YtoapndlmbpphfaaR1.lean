/- Walks and what they compute, joined: part 1. -/
import Derived.Test.YtoapndlmbpphfaaB2
set_option linter.all false
namespace Go.Sym.B
open Go Go.Sym Go.Proofs Go.Sym.C
theorem _root_.Go.Sym.vj {a b : Prop} (x : a) (y : b) : a ∧ b := ⟨x, y⟩
def _root_.Go.Sym.uq := @blockK_miss
def _root_.Go.Sym.ux := @blockK_hit
def _root_.Go.Sym.uz := @blockK_n
def _root_.Go.Sym.uj := @blockK_r
def _root_.Go.Sym.uk := @thenK_x
def _root_.Go.Sym.uw := @thenK_r
def _root_.Go.Sym.uv := @thenK_n
def _root_.Go.Sym.vq := @drawB_of
def _root_.Go.Sym.vx := @sym_reg
def _root_.Go.Sym.vz := @sym_cz
def ltR (r : Int → Int) (x y : Int) : Prop := r y < r x ∨ (r y = r x ∧ x < y)
def Has (l : List Int) (x : Int) : Prop := ∃ i, i < l.length ∧ l.getD i 0 = x
structure SoK (r : Int → Int) (n k : Nat) (l : List Int) : Prop where
  len : l.length = n
  so : ∀ a b, a < b → b ≤ k → ltR r (l.getD a 0) (l.getD b 0)
  keep : ∀ i, k < i → i < n → l.getD i 0 = i
  lo : ∀ a, a ≤ k → 0 ≤ l.getD a 0 ∧ l.getD a 0 ≤ k
  has : ∀ i : Nat, i < n → Has l i
end Go.Sym.B
namespace Go.Sym.B
open Go Go.Sym Go.Proofs Go.Sym.C
def bgH (x : Int) : List (Nat × AObj) := [(0, .cells [.v (.int .u64 x)])]
def xsh (s : Int) (k : Nat) : Int := IntKind.u64.wrap (BitVec.ofInt IntKind.u64.bits s ^^^ BitVec.ofInt IntKind.u64.bits (s.fdiv (2 ^ min k IntKind.u64.bits))).toNat
def nxS (x : Int) : Int := IntKind.u64.wrap (IntKind.u64.wrap (x * 2862933555777941757) + 3037000493)
def nxV (x : Int) : Int := xsh (IntKind.u64.wrap (xsh (nxS x) 31 * 10723151780598845931)) 30
def tbG2_77 := vj @ty95 (vj @ty97 (vj @ti95.eq_1 @ti97.eq_1))
def xbG2_1 := vj @aI.eq_1 (vj @aB.eq_1 (@bgH.eq_1))
theorem next_fn (x : Int) : Fn noB Try.prog 77 [.ptr 0 0] (hasg (bgH x)) (.v (.int .u64 (nxV x))) (hasg (bgH (nxS x))) 0 := by
  have env : Env (fun _ => True) Try.prog tyB (tab []) := mkEnv trivial
  refine Fn.of (A := fun _ => True) (n0 := 1) (D := noD) (Fn0 Try.func77 rfl (fun vs w => by kernel_rfl) (by kernel_rfl)) (by simp) (by simp [AV.ids]) ?_ (fun _ _ _ _ => trivial) noD_ok ?_
  · intro i o hi
    have h := hasg_mem hi
    simp [bgH] at h
    rcases h with ⟨rfl, rfl⟩; simp [AObj.ids, AV.ids, AV.idsL]
  repeat' (first | refine zq0 ?_ | refine zq1 ?_ | refine zq2 ?_ | refine zq3 ?_ | refine zq4 ?_ | refine zq5 ?_ | refine uv ?_ | refine uk ?_ | refine uw ?_ | refine uz ?_ | refine uj ?_ | refine ux ?_ | refine uq (by decide) ?_ | ((first | refine vx env fun Q hQ => ?_ | refine vz fun Q hQ => ?_); simp only [vkt, seval, tbG2_77, xbG2_1]; (try simp only [ite_and]); (repeat' (first | with_reducible assumption | refine And.intro ?_ ?_ | intro hp)); all_goals (first | (refine hQ _ ?_; clear hQ Q) | (refine hQ _ (fun h => ?_) (fun h => ?_) <;> clear hQ Q <;> (try simp only [vki, reduceCtorEq] at h)) | omega | assumption | with_reducible rfl | (refine vq ?_; kernel_rfl) | skip)))
  (simp only [vrt, Try.results77, vkt, seval, tbG2_77, xbG2_1]; refine Fin.ok some [] ?_ ?_ ?_ ?_ ?_ rfl; all_goals (try simp only [vle, vkt, seval, tbG2_77, xbG2_1]))
  all_goals rfl
def p77 (S : St) : List AV → Option Pk
  | [.ptr i 0] => match S.h i with
    | some (.cells [.v (.int .u64 x)]) => some { hs := [i], ar := [.ptr 0 0], L0 := [.cells [.v (.int .u64 x)]], v := .v (.int .u64 (nxV x)), L1 := [some (.cells [.v (.int .u64 (nxS x))])] }
    | _ => none
  | _ => none
theorem e77 {A : Frm → Prop} : EntryOK A Try.prog 77 (fnE p77) := fnE_ok fun S bs q h hp => by
  unfold p77 at h
  split at h
  · split at h
    · cases h; exact next_fn _
    · cases h
  · cases h
def upV0 (x m : Int) : Int := if m < 1 then 0 else IntKind.i64.wrap (((nxV x).fdiv (2 ^ min 13 IntKind.u64.bits)).tmod (IntKind.u64.wrap (IntKind.i64.wrap (m + 1))))
def upS0 (x m : Int) : Int := if m < 1 then x else nxS x
theorem up_ex : ∃ f : Int → Int → Int × Int, ∀ x m, f x m = (upV0 x m, upS0 x m) := ⟨fun x m => (upV0 x m, upS0 x m), fun _ _ => rfl⟩
noncomputable def upV (x m : Int) : Int := (Classical.choose up_ex x m).1
noncomputable def upS (x m : Int) : Int := (Classical.choose up_ex x m).2
theorem upV_eq (x m : Int) : upV x m = upV0 x m := by unfold upV; rw [Classical.choose_spec up_ex]
theorem upS_eq (x m : Int) : upS x m = upS0 x m := by unfold upS; rw [Classical.choose_spec up_ex]
theorem wrapU2 {n : Int} (h0 : 0 ≤ n) (h1 : n < 18446744073709551616) : IntKind.u64.wrap n = n := by
  unfold IntKind.wrap
  simp only [IntKind.bits, IntKind.signed]
  simp
  omega
theorem wrapU_nn (n : Int) : 0 ≤ IntKind.u64.wrap n := by
  unfold IntKind.wrap
  simp only [IntKind.bits, IntKind.signed]
  simp
  omega
theorem upV_bd {x m : Int} (h : m < 9223372036854775807) : 0 ≤ upV x m ∧ (upV x m ≤ m ∨ upV x m = 0) := by
  rw [upV_eq]
  unfold upV0
  split
  · exact ⟨Int.le_refl _, .inr rfl⟩
  · have h1 : IntKind.i64.wrap (m + 1) = m + 1 := wrap64 (by omega) (by omega)
    have h2 : IntKind.u64.wrap (m + 1) = m + 1 := wrapU2 (by omega) (by omega)
    rw [h1, h2]
    have h3 : 0 ≤ (nxV x).fdiv (2 ^ min 13 IntKind.u64.bits) := Int.fdiv_nonneg (by unfold nxV xsh; exact wrapU_nn _) (by decide)
    rw [Int.tmod_eq_emod_of_nonneg h3]
    have h4 := Int.emod_nonneg ((nxV x).fdiv (2 ^ min 13 IntKind.u64.bits)) (show m + 1 ≠ 0 by omega)
    have h5 := Int.emod_lt_of_pos ((nxV x).fdiv (2 ^ min 13 IntKind.u64.bits)) (show 0 < m + 1 by omega)
    rw [wrap64 (by omega) (by omega)]
    omega
def tbG2_22 := vj @ty3 (vj @ty95 (vj @ti3.eq_1 @ti95.eq_1))
def xbG2_2 := vj @aI.eq_1 (vj @aB.eq_1 (vj @bgH.eq_1 (vj @p77.eq_1 (@p77.eq_2))))
theorem up_fn (x m : Int) (h : m < 9223372036854775807) : Fn noB Try.prog 22 [.ptr 0 0, aI m] (hasg (bgH x)) (aI (upV x m)) (hasg (bgH (upS x m))) 0 := by
  have env : Env (fun _ => True) Try.prog tyB (tab [(77, fnE p77)]) := mkEnv ⟨e77, trivial⟩
  refine Fn.of (A := fun _ => True) (n0 := 1) (D := noD) (Fn0 Try.func22 rfl (fun vs w => by kernel_rfl) (by kernel_rfl)) (by simp) (by simp [AV.ids, AV.idsL, aI]) ?_ (fun _ _ _ _ => trivial) noD_ok ?_
  · intro i o hi
    have h := hasg_mem hi
    simp [bgH] at h
    rcases h with ⟨rfl, rfl⟩; simp [AObj.ids, AV.ids, AV.idsL]
  rw [upV_eq, upS_eq]
  by_cases c1 : m < 1
  · rw [show upV0 x m = 0 from if_pos c1, show upS0 x m = x from if_pos c1]
    repeat' (first | refine zq0 ?_ | refine zq1 ?_ | refine zq2 ?_ | refine zq3 ?_ | refine zq4 ?_ | refine zq5 ?_ | refine uv ?_ | refine uk ?_ | refine uw ?_ | refine uz ?_ | refine uj ?_ | refine ux ?_ | refine uq (by decide) ?_ | ((first | refine vx env fun Q hQ => ?_ | refine vz fun Q hQ => ?_); simp only [vkt, seval, tbG2_22, xbG2_2, c1]; (try simp only [ite_and]); (repeat' (first | with_reducible assumption | refine And.intro ?_ ?_ | intro hp)); all_goals (first | (refine hQ _ ?_; clear hQ Q) | (refine hQ _ (fun h => ?_) (fun h => ?_) <;> clear hQ Q <;> (try simp only [vki, reduceCtorEq] at h)) | omega | assumption | with_reducible rfl | (refine vq ?_; kernel_rfl) | skip)))
    (simp only [vrt, Try.results22, vkt, seval, tbG2_22, xbG2_2]; refine Fin.ok some [] ?_ ?_ ?_ ?_ ?_ rfl; all_goals (try simp only [vle, vkt, seval, tbG2_22, xbG2_2]))
    all_goals simp
  · rw [show upV0 x m = _ from if_neg c1, show upS0 x m = _ from if_neg c1]
    have h1 : IntKind.i64.wrap (m + 1) = m + 1 := wrap64 (by omega) (by omega)
    have h2 : IntKind.u64.wrap (m + 1) = m + 1 := wrapU2 (by omega) (by omega)
    have h0 : ¬ m + 1 = 0 := by omega
    repeat' (first | refine zq0 ?_ | refine zq1 ?_ | refine zq2 ?_ | refine zq3 ?_ | refine zq4 ?_ | refine zq5 ?_ | refine uv ?_ | refine uk ?_ | refine uw ?_ | refine uz ?_ | refine uj ?_ | refine ux ?_ | refine uq (by decide) ?_ | ((first | refine vx env fun Q hQ => ?_ | refine vz fun Q hQ => ?_); simp only [vkt, seval, tbG2_22, xbG2_2, c1, h1, h2, h0]; (try simp only [ite_and]); (repeat' (first | with_reducible assumption | refine And.intro ?_ ?_ | intro hp)); all_goals (first | (refine hQ _ ?_; clear hQ Q) | (refine hQ _ (fun h => ?_) (fun h => ?_) <;> clear hQ Q <;> (try simp only [vki, reduceCtorEq] at h)) | omega | assumption | with_reducible rfl | (refine vq ?_; kernel_rfl) | skip)))
    (simp only [vrt, Try.results22, vkt, seval, tbG2_22, xbG2_2]; refine Fin.ok some [] ?_ ?_ ?_ ?_ ?_ rfl; all_goals (try simp only [vle, vkt, seval, tbG2_22, xbG2_2]))
    all_goals (first | rfl | rw [h1, h2])
noncomputable def p22 (S : St) : List AV → Option Pk
  | [.ptr i 0, .v (.int .i64 m)] => match S.h i with
    | some (.cells [.v (.int .u64 x)]) => some { pre := m < 9223372036854775807, hs := [i], ar := [.ptr 0 0, .v (.int .i64 m)], L0 := [.cells [.v (.int .u64 x)]], v := .v (.int .i64 (upV x m)), L1 := [some (.cells [.v (.int .u64 (upS x m))])] }
    | _ => none
  | _ => none
theorem e22 {A : Frm → Prop} : EntryOK A Try.prog 22 (fnE p22) := fnE_ok fun S bs q h hp => by
  unfold p22 at h
  split at h
  · split at h
    · cases h; exact up_fn _ _ hp
    · cases h
  · cases h
def tbG2_21 := vj @ty3 @ti3.eq_1
def xbG2_3 := vj @aI.eq_1 (vj @aB.eq_1 (vj @bgH.eq_1 (vj @p22.eq_1 (@p22.eq_2))))
theorem from_fn (x a b : Int) (h : -100000 ≤ a ∧ a ≤ 100000 ∧ -100000 ≤ b ∧ b ≤ 100000) : Fn noB Try.prog 21 [.ptr 0 0, aI a, aI b] (hasg (bgH x)) (aI (a + upV x (b - a))) (hasg (bgH (upS x (b - a)))) 0 := by
  have env : Env (fun _ => True) Try.prog tyB (tab [(22, fnE p22)]) := mkEnv ⟨e22, trivial⟩
  refine Fn.of (A := fun _ => True) (n0 := 1) (D := noD) (Fn0 Try.func21 rfl (fun vs w => by kernel_rfl) (by kernel_rfl)) (by simp) (by simp [AV.ids, AV.idsL, aI]) ?_ (fun _ _ _ _ => trivial) noD_ok ?_
  · intro i o hi
    have h := hasg_mem hi
    simp [bgH] at h
    rcases h with ⟨rfl, rfl⟩; simp [AObj.ids, AV.ids, AV.idsL]
  have b1 := upV_bd (x := x) (m := b - a) (by omega)
  have h1 : IntKind.i64.wrap (b - a) = b - a := wrap64 (by omega) (by omega)
  have h2 : IntKind.i64.wrap (a + upV x (b - a)) = a + upV x (b - a) := wrap64 (by omega) (by omega)
  have h3 : b - a < 9223372036854775807 := by omega
  repeat' (first | refine zq0 ?_ | refine zq1 ?_ | refine zq2 ?_ | refine zq3 ?_ | refine zq4 ?_ | refine zq5 ?_ | refine uv ?_ | refine uk ?_ | refine uw ?_ | refine uz ?_ | refine uj ?_ | refine ux ?_ | refine uq (by decide) ?_ | ((first | refine vx env fun Q hQ => ?_ | refine vz fun Q hQ => ?_); simp only [vkt, seval, tbG2_21, xbG2_3, h1, h2]; (try simp only [ite_and]); (repeat' (first | with_reducible assumption | refine And.intro ?_ ?_ | intro hp)); all_goals (first | (refine hQ _ ?_; clear hQ Q) | (refine hQ _ (fun h => ?_) (fun h => ?_) <;> clear hQ Q <;> (try simp only [vki, reduceCtorEq] at h)) | omega | assumption | with_reducible rfl | (refine vq ?_; kernel_rfl) | skip)))
  (simp only [vrt, Try.results21, vkt, seval, tbG2_21, xbG2_3]; refine Fin.ok some [] ?_ ?_ ?_ ?_ ?_ rfl; all_goals (try simp only [vle, vkt, seval, tbG2_21, xbG2_3]))
  all_goals rfl
noncomputable def p21 (S : St) : List AV → Option Pk
  | [.ptr i 0, .v (.int .i64 a), .v (.int .i64 b)] => match S.h i with
    | some (.cells [.v (.int .u64 x)]) => some { pre := -100000 ≤ a ∧ a ≤ 100000 ∧ -100000 ≤ b ∧ b ≤ 100000, hs := [i], ar := [.ptr 0 0, .v (.int .i64 a), .v (.int .i64 b)], L0 := [.cells [.v (.int .u64 x)]], v := .v (.int .i64 (a + upV x (b - a))), L1 := [some (.cells [.v (.int .u64 (upS x (b - a)))])] }
    | _ => none
  | _ => none
theorem e21 {A : Frm → Prop} : EntryOK A Try.prog 21 (fnE p21) := fnE_ok fun S bs q h hp => by
  unfold p21 at h
  split at h
  · split at h
    · cases h; exact from_fn _ _ _ hp
    · cases h
  · cases h
def nbK (l : List Int) : Nat → Int
  | 0 => 11400714819323198485
  | k + 1 => xsh (IntKind.u64.wrap (IntKind.u64.wrap (nbK l k + IntKind.u64.wrap (l.getD k 0)) * 13787848793156543929)) 29
def nbS (l : List Int) : Int := nbK l l.length
def nbI (l : List Int) (k : Nat) : St := { t := asg [(0, aInts l), (3, .ptr 0 0), (4, aI k)], h := hasg (bgH (nbK l k)), n := 1 }
def tbG2_20 := vj @ty3 (vj @ty22 (vj @ty95 (vj @ty97 (vj @ti3.eq_1 (vj @ti22.eq_1 (vj @ti95.eq_1 @ti97.eq_1))))))
def xbG2_4 := vj @aI.eq_1 (vj @aB.eq_1 (vj @bgH.eq_1 (vj @nbI.eq_1 (vj @aInts.eq_1 (vj @gInt (@eInt.eq_1))))))
theorem bag_fn (l : List Int) (hl : l.length ≤ maxLen) : Fn noB Try.prog 20 [aInts l] noH (.ptr 0 0) (hasg (bgH (nbS l))) 0 := by
  have env : Env (fun _ => True) Try.prog tyB (tab []) := mkEnv trivial
  refine Fn.of (A := fun _ => True) (n0 := 0) (D := noD) (Fn0 Try.func20 rfl (fun vs w => by kernel_rfl) (by kernel_rfl)) (by simp) (by simp [AV.ids, AV.idsL, aInts]) (fun i o h => by cases h) (fun _ _ _ _ => trivial) noD_ok ?_
  repeat' (first | refine zq0 ?_ | refine zq1 ?_ | refine zq2 ?_ | refine zq3 ?_ | refine zq4 ?_ | refine zq5 ?_ | refine uv ?_ | refine uk ?_ | refine uw ?_ | refine uz ?_ | refine uj ?_ | refine ux ?_ | refine uq (by decide) ?_ | ((first | refine vx env fun Q hQ => ?_ | refine vz fun Q hQ => ?_); simp only [vkt, seval, tbG2_20, xbG2_4]; (try simp only [ite_and]); (repeat' (first | with_reducible assumption | refine And.intro ?_ ?_ | intro hp)); all_goals (first | (refine hQ _ ?_; clear hQ Q) | (refine hQ _ (fun h => ?_) (fun h => ?_) <;> clear hQ Q <;> (try simp only [vki, reduceCtorEq] at h)) | omega | assumption | with_reducible rfl | (refine vq ?_; kernel_rfl) | skip)))
  refine sym_loop (fun k : { k : Nat // k ≤ l.length } => nbI l k.1) (fun k => l.length - k.1) ⟨0, Nat.zero_le _⟩ ?_ fun ⟨k, hk⟩ => ?_
  · (refine Le.ok some [] ?_; constructor; all_goals (try simp only [vle, vkt, seval, tbG2_20, xbG2_4]))
    all_goals first | rfl | simp
  · repeat' (first | refine zq0 ?_ | refine zq1 ?_ | refine zq2 ?_ | refine zq3 ?_ | refine zq4 ?_ | refine zq5 ?_ | refine uv ?_ | refine uk ?_ | refine uw ?_ | refine uz ?_ | refine uj ?_ | refine ux ?_ | refine uq (by decide) ?_)
    (refine vx env fun Q hQ => ?_; simp only [vkt, seval, tbG2_20, xbG2_4]; (try simp only [ite_and]); (repeat' (first | with_reducible assumption | refine And.intro ?_ ?_ | intro hp)); all_goals (first | (refine hQ _ ?_; clear hQ Q) | omega | assumption | with_reducible rfl | (refine vq ?_; kernel_rfl) | skip))
    repeat' (first | refine zq0 ?_ | refine zq1 ?_ | refine zq2 ?_ | refine zq3 ?_ | refine zq4 ?_ | refine zq5 ?_ | refine uv ?_ | refine uk ?_ | refine uw ?_ | refine uz ?_ | refine uj ?_ | refine ux ?_ | refine uq (by decide) ?_)
    (refine sym_cd (by simp only [vkt, seval, tbG2_20, xbG2_4]; rfl) (fun h => ?_) (fun h => ?_) <;> (try simp only [vki, reduceCtorEq] at h))
    · have hlt : k < l.length := by omega
      have e9 := wrap_succ hlt hl
      repeat' (first | refine zq0 ?_ | refine zq1 ?_ | refine zq2 ?_ | refine zq3 ?_ | refine zq4 ?_ | refine zq5 ?_ | refine uv ?_ | refine uk ?_ | refine uw ?_ | refine uz ?_ | refine uj ?_ | refine ux ?_ | refine uq (by decide) ?_ | ((first | refine vx env fun Q hQ => ?_ | refine vz fun Q hQ => ?_); simp only [vkt, seval, tbG2_20, xbG2_4, e9]; (try simp only [ite_and]); (repeat' (first | with_reducible assumption | refine And.intro ?_ ?_ | intro hp)); all_goals (first | (refine hQ _ ?_; clear hQ Q) | (refine hQ _ (fun h => ?_) (fun h => ?_) <;> clear hQ Q <;> (try simp only [vki, reduceCtorEq] at h)) | omega | assumption | with_reducible rfl | (refine vq ?_; kernel_rfl) | skip)))
      refine ⟨⟨k + 1, hlt⟩, by show l.length - (k + 1) < l.length - k; omega, ?_⟩
      (refine Le.ok some [] ?_; constructor; all_goals (try simp only [vle, vkt, seval, tbG2_20, xbG2_4]))
      all_goals first | rfl | (simp [e9]; done)
    · have hkn : k = l.length := by omega
      subst hkn
      repeat' (first | refine zq0 ?_ | refine zq1 ?_ | refine zq2 ?_ | refine zq3 ?_ | refine zq4 ?_ | refine zq5 ?_ | refine uv ?_ | refine uk ?_ | refine uw ?_ | refine uz ?_ | refine uj ?_ | refine ux ?_ | refine uq (by decide) ?_ | ((first | refine vx env fun Q hQ => ?_ | refine vz fun Q hQ => ?_); simp only [vkt, seval, tbG2_20, xbG2_4]; (try simp only [ite_and]); (repeat' (first | with_reducible assumption | refine And.intro ?_ ?_ | intro hp)); all_goals (first | (refine hQ _ ?_; clear hQ Q) | (refine hQ _ (fun h => ?_) (fun h => ?_) <;> clear hQ Q <;> (try simp only [vki, reduceCtorEq] at h)) | omega | assumption | with_reducible rfl | (refine vq ?_; kernel_rfl) | skip)))
      (simp only [vrt, Try.results20, vkt, seval, tbG2_20, xbG2_4]; refine Fin.ok some [] ?_ ?_ ?_ ?_ ?_ rfl; all_goals (try simp only [vle, vkt, seval, tbG2_20, xbG2_4]))
      all_goals rfl
def p20 (_ : St) : List AV → Option Pk
  | [.sl xs] => some { pre := xs = (xs.map dInt).map eInt ∧ xs.length ≤ maxLen, ar := [.sl xs], v := .ptr 0 0, L1 := [some (.cells [.v (.int .u64 (nbS (xs.map dInt)))])] }
  | _ => none
theorem e20 {A : Frm → Prop} : EntryOK A Try.prog 20 (fnE p20) := fnE_ok fun S bs q h hp => by
  unfold p20 at h
  split at h <;> cases h
  have := bag_fn (List.map dInt _) (by rw [List.length_map]; exact hp.2)
  simp only [aInts, ← hp.1] at this
  exact this
end Go.Sym.B
namespace Go.Sym.B
open Go Go.Sym Go.Proofs Go.Sym.C
end Go.Sym.B
namespace Go.Sym.B
open Go Go.Sym Go.Proofs Go.Sym.C
def tbG4_23 := vj @ty3 (vj @ty22 (vj @ti3.eq_1 @ti22.eq_1))
def xbG4_1 := vj @aI.eq_1 (vj @aB.eq_1 (vj @aInts.eq_1 (@rInt)))
theorem copy_fn (l : List Int) (hl : l.length ≤ 100000) : FnV Try.prog 23 [aInts l] (aInts l) := by
  have env : Env (fun _ => True) Try.prog tyB (tab []) := mkEnv trivial
  refine Fn.of (A := fun _ => True) (n0 := 0) (D := noD) (Fn0 Try.func23 rfl (fun vs w => by kernel_rfl) (by kernel_rfl)) (by simp) (by simp [AV.ids, AV.idsL, aInts]) (fun i o h => by cases h) (fun _ _ _ _ => trivial) noD_ok ?_
  obtain ⟨b1, b2, b3, b4⟩ := b47 hl
  repeat' (first | refine zq0 ?_ | refine zq1 ?_ | refine zq2 ?_ | refine zq3 ?_ | refine zq4 ?_ | refine zq5 ?_ | refine uv ?_ | refine uk ?_ | refine uw ?_ | refine uz ?_ | refine uj ?_ | refine ux ?_ | refine uq (by decide) ?_ | ((first | refine vx env fun Q hQ => ?_ | refine vz fun Q hQ => ?_); simp only [vkt, Nat.reduceEqDiff, Nat.reduceAdd, Nat.reduceMul, Nat.reduceSub, Nat.reduceLeDiff, reduceCtorEq, ↓reduceIte, ↓reduceDIte, Int.reduceToNat, Int.reduceLE, Int.reduceLT, Int.reduceEq, Int.reduceNeg, tbG4_23, xbG4_1]; (try simp only [ite_and]); (repeat' (first | with_reducible assumption | refine And.intro ?_ ?_ | intro hp)); all_goals (first | (refine hQ _ ?_; clear hQ Q) | (refine hQ _ (fun h => ?_) (fun h => ?_) <;> clear hQ Q <;> (try simp only [vki, reduceCtorEq] at h)) | omega | assumption | with_reducible rfl | (refine vq ?_; kernel_rfl) | skip)))
  (simp only [vrt, Try.results23, vkt, Nat.reduceEqDiff, Nat.reduceAdd, Nat.reduceMul, Nat.reduceSub, Nat.reduceLeDiff, reduceCtorEq, ↓reduceIte, ↓reduceDIte, Int.reduceToNat, Int.reduceLE, Int.reduceLT, Int.reduceEq, Int.reduceNeg, tbG4_23, xbG4_1]; refine Fin.val rfl ?_; (try simp only [AV.le, AV.leL]))
  exact ⟨_, _, rfl⟩
def c23 : List AV → Prop × AV
  | [.sl xs] => (xs = (xs.map dInt).map eInt ∧ xs.length ≤ 100000, .sl xs)
  | _ => (False, .junk)
theorem d23 {A : Frm → Prop} : EntryOK A Try.prog 23 (valE false c23) := valE_ok fun vs hv h => by
  clear hv
  unfold c23 at h ⊢
  split at h
  · refine ⟨trivial, fun h => absurd h (by decide), ?_⟩
    have := copy_fn (List.map dInt _) (by rw [List.length_map]; exact h.2)
    simp only [aInts, ← h.1] at this
    exact this
  · exact h.elim
end Go.Sym.B
namespace Go.Sym.B
open Go Go.Sym Go.Proofs Go.Sym.C
structure RI (n0 d0 k : Nat) where
  n : Nat
  d : Nat
  n1 : 1 ≤ n
  n2 : n ≤ n0
  d1 : 1 ≤ d
  d2 : d ≤ d0
  e : n * d0 = d * n0
  c : ∀ j, k < j → j ≤ 12 → ¬ (j ∣ n ∧ j ∣ d)
def RI.div {n0 d0 k : Nat} (i : RI n0 d0 k) (hk : 2 ≤ k) (h1 : k ∣ i.n) (h2 : k ∣ i.d) : RI n0 d0 k where
  n := i.n / k
  d := i.d / k
  n1 := Nat.div_pos (Nat.le_of_dvd i.n1 h1) (by omega)
  n2 := Nat.le_trans (Nat.div_le_self _ _) i.n2
  d1 := Nat.div_pos (Nat.le_of_dvd i.d1 h2) (by omega)
  d2 := Nat.le_trans (Nat.div_le_self _ _) i.d2
  e := by
    obtain ⟨a, ha⟩ := h1
    obtain ⟨b, hb⟩ := h2
    have := i.e
    rw [ha, hb] at this ⊢
    rw [Nat.mul_div_cancel_left _ (by omega), Nat.mul_div_cancel_left _ (by omega)]
    rw [Nat.mul_assoc, Nat.mul_assoc] at this
    exact Nat.eq_of_mul_eq_mul_left (by omega) this
  c := fun j hj hl h => i.c j hj hl ⟨Nat.dvd_trans h.1 (Nat.div_dvd_of_dvd h1), Nat.dvd_trans h.2 (Nat.div_dvd_of_dvd h2)⟩
def RI.less {n0 d0 k : Nat} (i : RI n0 d0 (k + 1)) (h : ¬ (k + 1 ∣ i.n ∧ k + 1 ∣ i.d)) : RI n0 d0 k where
  n := i.n
  d := i.d
  n1 := i.n1
  n2 := i.n2
  d1 := i.d1
  d2 := i.d2
  e := i.e
  c := fun j hj hl hh => by
    rcases Nat.lt_or_eq_of_le (Nat.succ_le_of_lt hj) with h1 | h1
    · exact i.c j h1 hl hh
    · subst h1; exact h hh
theorem RI.last {n0 d0 : Nat} (i : RI n0 d0 1) (hd : d0 ≤ 12) (hd1 : 1 ≤ d0) : shQ (mkRat n0 d0) = ⟨i.n, i.d⟩ := by
  have hg : Nat.gcd i.n i.d = 1 := by
    have h1 := Nat.gcd_dvd_left i.n i.d
    have h2 := Nat.gcd_dvd_right i.n i.d
    have h3 : 0 < Nat.gcd i.n i.d := Nat.gcd_pos_of_pos_left _ i.n1
    have h4 := Nat.le_of_dvd i.d1 h2
    have h5 := i.d2
    rcases Nat.lt_or_eq_of_le h3 with h6 | h6
    · exact absurd ⟨h1, h2⟩ (i.c _ h6 (by omega))
    · exact h6.symm
  have hd0 : d0 ≠ 0 := by omega
  have hid : i.d ≠ 0 := by have := i.d1; omega
  have he : mkRat (n0 : Int) d0 = mkRat (i.n : Int) i.d := by
    rw [Rat.mkRat_eq_iff hd0 hid]
    have := i.e
    rw [Nat.mul_comm i.d] at this
    exact_mod_cast this.symm
  have hp : (0 : Int) < (i.d : Int) := by have := i.d1; omega
  have e1 := mk_num (a := (i.n : Int)) hp
  have e2 := mk_den (a := (i.n : Int)) hp
  simp only [Int.toNat_natCast, Int.natAbs_natCast, hg] at e1 e2
  simp only [shQ, he, e1, e2]
  simp
noncomputable def rtN (x : Int) : Int := 1 + upV (upS x (12 - 1)) (20 - 1)
noncomputable def rtD (x : Int) : Int := 1 + upV x (12 - 1)
noncomputable def rtV (x : Int) : Sh := shQ (mkRat (rtN x) (rtD x).toNat)
noncomputable def rtS (x : Int) : Int := upS (upS x (12 - 1)) (20 - 1)
theorem rt_bd7 (x : Int) : (1 ≤ rtN x ∧ rtN x ≤ 20) ∧ 1 ≤ rtD x ∧ rtD x ≤ 12 := by
  have h1 := upV_bd (x := upS x (12 - 1)) (m := 20 - 1) (by decide)
  have h2 := upV_bd (x := x) (m := 12 - 1) (by decide)
  unfold rtN rtD
  omega
def rtT (x : Int) (k n d : Nat) : St := { t := asg [(2, .ptr 1 0), (3, aI d), (4, aI n), (5, aI k)], h := hasg [(0, .cells [.v (.int .u64 x)]), (1, .cells [.v (.int .i64 0), .v (.int .i64 0)])], n := 2, m := 1 }
theorem tmodN (a b : Nat) : ((a : Int)).tmod (b : Int) = ((a % b : Nat) : Int) := rfl
theorem tdivN (a b : Nat) : ((a : Int)).tdiv (b : Int) = ((a / b : Nat) : Int) := rfl
theorem wdiv {a b : Nat} (h : a ≤ 1000) : IntKind.wrap .i64 ((a : Int).tdiv (b : Int)) = ((a / b : Nat) : Int) := by
  rw [tdivN]
  have := Nat.div_le_self a b
  generalize a / b = q at *
  exact wrap64 (by omega) (by omega)
def tbG7_84 := vj @ty3 (vj @ty59 (vj @ti3.eq_1 @ti59.eq_1))
def xbG7_1 := vj @aI.eq_1 (vj @aB.eq_1 (vj @aSh.eq_1 (vj @bgH.eq_1 (vj @p21.eq_1 (vj @p21.eq_2 (vj @rtT.eq_1 (@tmodN)))))))
theorem rateOf_fn (x : Int) : Fn noB Try.prog 84 [.ptr 0 0] (hasg (bgH x)) (aSh (rtV x)) (hasg (bgH (rtS x))) 0 := by
  have env : Env (fun _ => True) Try.prog tyB (tab [(21, fnE p21)]) := mkEnv ⟨e21, trivial⟩
  refine Fn.of (A := fun _ => True) (n0 := 1) (D := noD) (Fn0 Try.func84 rfl (fun vs w => by kernel_rfl) (by kernel_rfl)) (by simp) (by simp [AV.ids]) ?_ (fun _ _ _ _ => trivial) noD_ok ?_
  · intro i o hi
    have h := hasg_mem hi
    simp [bgH] at h
    rcases h with ⟨rfl, rfl⟩; simp [AObj.ids, AV.ids, AV.idsL]
  have hb := rt_bd7 x
  obtain ⟨n0, hn0⟩ : ∃ n : Nat, rtN x = (n : Int) := ⟨(rtN x).toNat, by omega⟩
  obtain ⟨d0, hd0⟩ : ∃ n : Nat, rtD x = (n : Int) := ⟨(rtD x).toNat, by omega⟩
  rw [hn0, hd0] at hb
  have hV : rtV x = shQ (mkRat n0 d0) := by unfold rtV; rw [hn0, hd0]; rfl
  have hn0' : 1 + upV (upS x (12 - 1)) (20 - 1) = (n0 : Int) := hn0
  have hd0' : 1 + upV x (12 - 1) = (d0 : Int) := hd0
  have hS : upS (upS x (12 - 1)) (20 - 1) = rtS x := rfl
  repeat' (first | refine zq0 ?_ | refine zq1 ?_ | refine zq2 ?_ | refine zq3 ?_ | refine zq4 ?_ | refine zq5 ?_ | refine uv ?_ | refine uk ?_ | refine uw ?_ | refine uz ?_ | refine uj ?_ | refine ux ?_ | refine uq (by decide) ?_ | ((first | refine vx env fun Q hQ => ?_ | refine vz fun Q hQ => ?_); simp only [vkt, seval, -Int.reduceSub, -Int.reduceAdd, -Int.reduceMul, tbG7_84, xbG7_1, hn0', hd0', hS]; (try simp only [ite_and]); (repeat' (first | with_reducible assumption | refine And.intro ?_ ?_ | intro hp)); all_goals (first | (refine hQ _ ?_; clear hQ Q) | (refine hQ _ (fun h => ?_) (fun h => ?_) <;> clear hQ Q <;> (try simp only [vki, reduceCtorEq] at h)) | omega | assumption | with_reducible rfl | (refine vq ?_; kernel_rfl) | skip)))
  refine sym_loop (fun i : (k : { k : Nat // 1 ≤ k ∧ k ≤ 12 }) × RI n0 d0 k.1 => rtT (rtS x) i.1.1 i.2.n i.2.d) (fun i => i.1.1) ⟨⟨12, by decide⟩, ⟨n0, d0, by omega, Nat.le_refl _, by omega, Nat.le_refl _, Nat.mul_comm _ _, fun j h1 h2 => by have : 12 < j := h1; omega⟩⟩ ?_ fun ⟨⟨k, hk⟩, i⟩ => ?_
  · (refine Le.ok some [] ?_; constructor; all_goals (try simp only [vle, vkt, seval, -Int.reduceSub, -Int.reduceAdd, -Int.reduceMul, tbG7_84, xbG7_1]))
    all_goals first | rfl | (simp; done)
  · repeat' (first | refine zq0 ?_ | refine zq1 ?_ | refine zq2 ?_ | refine zq3 ?_ | refine zq4 ?_ | refine zq5 ?_ | refine uv ?_ | refine uk ?_ | refine uw ?_ | refine uz ?_ | refine uj ?_ | refine ux ?_ | refine uq (by decide) ?_)
    (refine vx env fun Q hQ => ?_; simp only [vkt, seval, -Int.reduceSub, -Int.reduceAdd, -Int.reduceMul, tbG7_84, xbG7_1]; (try simp only [ite_and]); (repeat' (first | with_reducible assumption | refine And.intro ?_ ?_ | intro hp)); all_goals (first | (refine hQ _ ?_; clear hQ Q) | omega | assumption | with_reducible rfl | (refine vq ?_; kernel_rfl) | skip))
    repeat' (first | refine zq0 ?_ | refine zq1 ?_ | refine zq2 ?_ | refine zq3 ?_ | refine zq4 ?_ | refine zq5 ?_ | refine uv ?_ | refine uk ?_ | refine uw ?_ | refine uz ?_ | refine uj ?_ | refine ux ?_ | refine uq (by decide) ?_)
    (refine sym_cd (by simp only [vkt, seval, -Int.reduceSub, -Int.reduceAdd, -Int.reduceMul, tbG7_84, xbG7_1]; rfl) (fun h => ?_) (fun h => ?_) <;> (try simp only [vki, reduceCtorEq] at h))
    · have hk2 : 1 < k := by omega
      repeat' (first | refine zq0 ?_ | refine zq1 ?_ | refine zq2 ?_ | refine zq3 ?_ | refine zq4 ?_ | refine zq5 ?_ | refine uv ?_ | refine uk ?_ | refine uw ?_ | refine uz ?_ | refine uj ?_ | refine ux ?_ | refine uq (by decide) ?_)
      refine sym_loop (fun i : RI n0 d0 k => rtT (rtS x) k i.n i.d) (fun i => i.n) i ?_ fun i => ?_
      · (refine Le.ok some [] ?_; constructor; all_goals (try simp only [vle, vkt, seval, -Int.reduceSub, -Int.reduceAdd, -Int.reduceMul, tbG7_84, xbG7_1]))
        all_goals first | rfl | (simp; done)
      · have i1 := i.n1
        have i2 := i.n2
        have i3 := i.d1
        have i4 := i.d2
        have nz : ¬ (k : Int) = 0 := by omega
        have r1 : i.n % k = 0 ↔ k ∣ i.n := (Nat.dvd_iff_mod_eq_zero ..).symm
        have r2 : i.d % k = 0 ↔ k ∣ i.d := (Nat.dvd_iff_mod_eq_zero ..).symm
        have w1 : IntKind.wrap .i64 ((i.n : Int).tdiv (k : Int)) = ((i.n / k : Nat) : Int) := wdiv (by omega)
        have w2 : IntKind.wrap .i64 ((i.d : Int).tdiv (k : Int)) = ((i.d / k : Nat) : Int) := wdiv (by omega)
        have w3 : IntKind.wrap .i64 ((k : Int) - 1) = ((k - 1 : Nat) : Int) := by rw [wrap64 (by omega) (by omega)]; omega
        by_cases c1 : i.n % k = 0
        · by_cases c2 : i.d % k = 0
          · have c1' : (((i.n % k : Nat) : Int) = 0) := by omega
            have c2' : (((i.d % k : Nat) : Int) = 0) := by omega
            repeat' (first | refine zq0 ?_ | refine zq1 ?_ | refine zq2 ?_ | refine zq3 ?_ | refine zq4 ?_ | refine zq5 ?_ | refine uv ?_ | refine uk ?_ | refine uw ?_ | refine uz ?_ | refine uj ?_ | refine ux ?_ | refine uq (by decide) ?_ | ((first | refine vx env fun Q hQ => ?_ | refine vz fun Q hQ => ?_); simp only [vkt, seval, -Int.reduceSub, -Int.reduceAdd, -Int.reduceMul, tbG7_84, xbG7_1, nz, c1', c2', w1, w2]; (try simp only [ite_and]); (repeat' (first | with_reducible assumption | refine And.intro ?_ ?_ | intro hp)); all_goals (first | (refine hQ _ ?_; clear hQ Q) | (refine hQ _ (fun h => ?_) (fun h => ?_) <;> clear hQ Q <;> (try simp only [vki, reduceCtorEq] at h)) | omega | assumption | with_reducible rfl | (refine vq ?_; kernel_rfl) | skip)))
            refine ⟨i.div (by omega) (r1.1 c1) (r2.1 c2), by show i.n / k < i.n; exact Nat.div_lt_self (by omega) hk2, ?_⟩
            (refine Le.ok some [] ?_; constructor; all_goals (try simp only [vle, vkt, seval, -Int.reduceSub, -Int.reduceAdd, -Int.reduceMul, tbG7_84, xbG7_1]))
            all_goals first | rfl | (simp [RI.div]; done)
          · have c1' : (((i.n % k : Nat) : Int) = 0) := by omega
            have c2' : ¬ (((i.d % k : Nat) : Int) = 0) := by omega
            obtain ⟨m, rfl⟩ : ∃ m, k = m + 1 := ⟨k - 1, by omega⟩
            repeat' (first | refine zq0 ?_ | refine zq1 ?_ | refine zq2 ?_ | refine zq3 ?_ | refine zq4 ?_ | refine zq5 ?_ | refine uv ?_ | refine uk ?_ | refine uw ?_ | refine uz ?_ | refine uj ?_ | refine ux ?_ | refine uq (by decide) ?_ | ((first | refine vx env fun Q hQ => ?_ | refine vz fun Q hQ => ?_); simp only [vkt, seval, -Int.reduceSub, -Int.reduceAdd, -Int.reduceMul, tbG7_84, xbG7_1, nz, c1', c2', w3]; (try simp only [ite_and]); (repeat' (first | with_reducible assumption | refine And.intro ?_ ?_ | intro hp)); all_goals (first | (refine hQ _ ?_; clear hQ Q) | (refine hQ _ (fun h => ?_) (fun h => ?_) <;> clear hQ Q <;> (try simp only [vki, reduceCtorEq] at h)) | omega | assumption | with_reducible rfl | (refine vq ?_; kernel_rfl) | skip)))
            refine ⟨⟨⟨m, by omega, by omega⟩, i.less fun h => c2 (r2.2 h.2)⟩, by show m < m + 1; omega, ?_⟩
            (refine Le.ok some [] ?_; constructor; all_goals (try simp only [vle, vkt, seval, -Int.reduceSub, -Int.reduceAdd, -Int.reduceMul, tbG7_84, xbG7_1]))
            all_goals first | rfl | (simp [RI.less]; done)
        · have c1' : ¬ (((i.n % k : Nat) : Int) = 0) := by omega
          obtain ⟨m, rfl⟩ : ∃ m, k = m + 1 := ⟨k - 1, by omega⟩
          repeat' (first | refine zq0 ?_ | refine zq1 ?_ | refine zq2 ?_ | refine zq3 ?_ | refine zq4 ?_ | refine zq5 ?_ | refine uv ?_ | refine uk ?_ | refine uw ?_ | refine uz ?_ | refine uj ?_ | refine ux ?_ | refine uq (by decide) ?_ | ((first | refine vx env fun Q hQ => ?_ | refine vz fun Q hQ => ?_); simp only [vkt, seval, -Int.reduceSub, -Int.reduceAdd, -Int.reduceMul, tbG7_84, xbG7_1, nz, c1', w3]; (try simp only [ite_and]); (repeat' (first | with_reducible assumption | refine And.intro ?_ ?_ | intro hp)); all_goals (first | (refine hQ _ ?_; clear hQ Q) | (refine hQ _ (fun h => ?_) (fun h => ?_) <;> clear hQ Q <;> (try simp only [vki, reduceCtorEq] at h)) | omega | assumption | with_reducible rfl | (refine vq ?_; kernel_rfl) | skip)))
          refine ⟨⟨⟨m, by omega, by omega⟩, i.less fun h => c1 (r1.2 h.1)⟩, by show m < m + 1; omega, ?_⟩
          (refine Le.ok some [] ?_; constructor; all_goals (try simp only [vle, vkt, seval, -Int.reduceSub, -Int.reduceAdd, -Int.reduceMul, tbG7_84, xbG7_1]))
          all_goals first | rfl | (simp [RI.less]; done)
    · have hk1 : k = 1 := by omega
      subst hk1
      have hl := i.last (by omega) (by omega)
      rw [hV, hl]
      repeat' (first | refine zq0 ?_ | refine zq1 ?_ | refine zq2 ?_ | refine zq3 ?_ | refine zq4 ?_ | refine zq5 ?_ | refine uv ?_ | refine uk ?_ | refine uw ?_ | refine uz ?_ | refine uj ?_ | refine ux ?_ | refine uq (by decide) ?_ | ((first | refine vx env fun Q hQ => ?_ | refine vz fun Q hQ => ?_); simp only [vkt, seval, -Int.reduceSub, -Int.reduceAdd, -Int.reduceMul, tbG7_84, xbG7_1]; (try simp only [ite_and]); (repeat' (first | with_reducible assumption | refine And.intro ?_ ?_ | intro hp)); all_goals (first | (refine hQ _ ?_; clear hQ Q) | (refine hQ _ (fun h => ?_) (fun h => ?_) <;> clear hQ Q <;> (try simp only [vki, reduceCtorEq] at h)) | omega | assumption | with_reducible rfl | (refine vq ?_; kernel_rfl) | skip)))
      (simp only [vrt, Try.results84, vkt, seval, -Int.reduceSub, -Int.reduceAdd, -Int.reduceMul, tbG7_84, xbG7_1]; refine Fin.ok some [] ?_ ?_ ?_ ?_ ?_ rfl; all_goals (try simp only [vle, vkt, seval, -Int.reduceSub, -Int.reduceAdd, -Int.reduceMul, tbG7_84, xbG7_1]))
      all_goals first | rfl | (simp; done)
noncomputable def p84 (S : St) : List AV → Option Pk
  | [.ptr i 0] => match S.h i with
    | some (.cells [.v (.int .u64 x)]) => some { hs := [i], ar := [.ptr 0 0], L0 := [.cells [.v (.int .u64 x)]], v := .agg [.v (.int .i64 (rtV x).num), .v (.int .i64 (rtV x).den)], L1 := [some (.cells [.v (.int .u64 (rtS x))])], fl := true }
    | _ => none
  | _ => none
theorem e84 {A : Frm → Prop} : EntryOK A Try.prog 84 (fnE p84) := fnE_ok fun S bs q h hp => by
  unfold p84 at h
  split at h
  · split at h
    · cases h; exact rateOf_fn _
    · cases h
  · cases h
noncomputable def oneV (x : Int) (l : List Int) : Int := l.getD (upV x ((l.length : Int) - 1)).toNat 0
theorem upV_le {x m : Int} (h0 : 0 ≤ m) (h : m < 9223372036854775807) : 0 ≤ upV x m ∧ upV x m ≤ m := by
  have := upV_bd (x := x) h; omega
theorem oneV_mem {x : Int} {l : List Int} (h1 : 1 ≤ l.length) (h2 : l.length ≤ 100) : oneV x l ∈ l := by
  have := upV_le (x := x) (m := (l.length : Int) - 1) (by omega) (by omega)
  exact gMem (by omega)
def tbG7_85 := vj @ty3 (vj @ty22 (vj @ti3.eq_1 @ti22.eq_1))
def xbG7_2 := vj @aI.eq_1 (vj @aB.eq_1 (vj @aInts.eq_1 (vj @bgH.eq_1 (vj @p22.eq_1 (vj @p22.eq_2 (vj @gInt (@eInt.eq_1)))))))
theorem one_fn (x : Int) (l : List Int) (h1 : 1 ≤ l.length) (h2 : l.length ≤ 100) : Fn noB Try.prog 85 [.ptr 0 0, aInts l] (hasg (bgH x)) (aI (oneV x l)) (hasg (bgH (upS x ((l.length : Int) - 1)))) 0 := by
  have env : Env (fun _ => True) Try.prog tyB (tab [(22, fnE p22)]) := mkEnv ⟨e22, trivial⟩
  refine Fn.of (A := fun _ => True) (n0 := 1) (D := noD) (Fn0 Try.func85 rfl (fun vs w => by kernel_rfl) (by kernel_rfl)) (by simp) (by simp [AV.ids, AV.idsL, aInts]) ?_ (fun _ _ _ _ => trivial) noD_ok ?_
  · intro i o hi
    have h := hasg_mem hi
    simp [bgH] at h
    rcases h with ⟨rfl, rfl⟩; simp [AObj.ids, AV.ids, AV.idsL]
  have hu := upV_le (x := x) (m := (l.length : Int) - 1) (by omega) (by omega)
  have w1 : IntKind.wrap .i64 ((l.length : Int) - 1) = (l.length : Int) - 1 := wrap64 (by omega) (by omega)
  have nz : ¬ (l.length : Int) = 0 := by omega
  have h3 : (l.length : Int) - 1 < 9223372036854775807 := by omega
  have h4 : (upV x ((l.length : Int) - 1)).toNat < l.length := by omega
  repeat' (first | refine zq0 ?_ | refine zq1 ?_ | refine zq2 ?_ | refine zq3 ?_ | refine zq4 ?_ | refine zq5 ?_ | refine uv ?_ | refine uk ?_ | refine uw ?_ | refine uz ?_ | refine uj ?_ | refine ux ?_ | refine uq (by decide) ?_ | ((first | refine vx env fun Q hQ => ?_ | refine vz fun Q hQ => ?_); simp only [vkt, seval, -Int.reduceSub, -Int.reduceAdd, -Int.reduceMul, tbG7_85, xbG7_2, w1, nz]; (try simp only [ite_and]); (repeat' (first | with_reducible assumption | refine And.intro ?_ ?_ | intro hp)); all_goals (first | (refine hQ _ ?_; clear hQ Q) | (refine hQ _ (fun h => ?_) (fun h => ?_) <;> clear hQ Q <;> (try simp only [vki, reduceCtorEq] at h)) | omega | assumption | with_reducible rfl | (refine vq ?_; kernel_rfl) | skip)))
  (simp only [vrt, Try.results85, vkt, seval, -Int.reduceSub, -Int.reduceAdd, -Int.reduceMul, tbG7_85, xbG7_2]; refine Fin.ok some [] ?_ ?_ ?_ ?_ ?_ rfl; all_goals (try simp only [vle, vkt, seval, -Int.reduceSub, -Int.reduceAdd, -Int.reduceMul, tbG7_85, xbG7_2]))
  all_goals first | rfl | (simp; done)
noncomputable def p85 (S : St) : List AV → Option Pk
  | [.ptr i 0, .row r] => match S.h i with
    | some (.cells [.v (.int .u64 x)]) => match S.h r with
      | some (.row _ _ xs) => some { pre := xs = (xs.map dInt).map eInt ∧ 1 ≤ xs.length ∧ xs.length ≤ 100, hs := [i], bo := [r], ar := [.ptr 0 0, .sl xs], L0 := [.cells [.v (.int .u64 x)]], v := .v (.int .i64 (oneV x (xs.map dInt))), L1 := [some (.cells [.v (.int .u64 (upS x ((xs.length : Int) - 1)))])], fl := true }
      | _ => none
    | _ => none
  | _ => none
theorem e85 {A : Frm → Prop} : EntryOK A Try.prog 85 (fnE p85) := fnE_ok fun S bs q h hp => by
  unfold p85 at h
  split at h
  · split at h
    · split at h
      · cases h
        obtain ⟨h1, h2, h3⟩ := hp
        rename_i x _ _ _ _ xs _
        have := one_fn x (List.map dInt xs) (by rw [List.length_map]; exact h2) (by rw [List.length_map]; exact h3)
        simp only [aInts, ← h1, List.length_map] at this
        exact this
      · cases h
    · cases h
  · cases h
def tbG7_71 := vj @ty3 @ti3.eq_1
def xbG7_3 := vj @aI.eq_1 (vj @aB.eq_1 (vj @aInts.eq_1 (vj @bgH.eq_1 (vj @p22.eq_1 (@p22.eq_2)))))
theorem chance_fn (x n m : Int) (h1 : 1 ≤ m) (h2 : m ≤ 1000) : Fn noB Try.prog 71 [.ptr 0 0, aI n, aI m] (hasg (bgH x)) (aB (decide (upV x (m - 1) < n))) (hasg (bgH (upS x (m - 1)))) 0 := by
  have env : Env (fun _ => True) Try.prog tyB (tab [(22, fnE p22)]) := mkEnv ⟨e22, trivial⟩
  refine Fn.of (A := fun _ => True) (n0 := 1) (D := noD) (Fn0 Try.func71 rfl (fun vs w => by kernel_rfl) (by kernel_rfl)) (by simp) (by simp [AV.ids, AV.idsL, aI]) ?_ (fun _ _ _ _ => trivial) noD_ok ?_
  · intro i o hi
    have h := hasg_mem hi
    simp [bgH] at h
    rcases h with ⟨rfl, rfl⟩; simp [AObj.ids, AV.ids, AV.idsL]
  have w1 : IntKind.wrap .i64 (m - 1) = m - 1 := wrap64 (by omega) (by omega)
  have h3 : m - 1 < 9223372036854775807 := by omega
  repeat' (first | refine zq0 ?_ | refine zq1 ?_ | refine zq2 ?_ | refine zq3 ?_ | refine zq4 ?_ | refine zq5 ?_ | refine uv ?_ | refine uk ?_ | refine uw ?_ | refine uz ?_ | refine uj ?_ | refine ux ?_ | refine uq (by decide) ?_ | ((first | refine vx env fun Q hQ => ?_ | refine vz fun Q hQ => ?_); simp only [vkt, seval, -Int.reduceSub, -Int.reduceAdd, -Int.reduceMul, tbG7_71, xbG7_3, w1]; (try simp only [ite_and]); (repeat' (first | with_reducible assumption | refine And.intro ?_ ?_ | intro hp)); all_goals (first | (refine hQ _ ?_; clear hQ Q) | (refine hQ _ (fun h => ?_) (fun h => ?_) <;> clear hQ Q <;> (try simp only [vki, reduceCtorEq] at h)) | omega | assumption | with_reducible rfl | (refine vq ?_; kernel_rfl) | skip)))
  (simp only [vrt, Try.results71, vkt, seval, -Int.reduceSub, -Int.reduceAdd, -Int.reduceMul, tbG7_71, xbG7_3]; refine Fin.ok some [] ?_ ?_ ?_ ?_ ?_ rfl; all_goals (try simp only [vle, vkt, seval, -Int.reduceSub, -Int.reduceAdd, -Int.reduceMul, tbG7_71, xbG7_3]))
  all_goals first | rfl | (simp; done)
noncomputable def p71 (S : St) : List AV → Option Pk
  | [.ptr i 0, .v (.int .i64 n), .v (.int .i64 m)] => match S.h i with
    | some (.cells [.v (.int .u64 x)]) => some { pre := 1 ≤ m ∧ m ≤ 1000, hs := [i], ar := [.ptr 0 0, .v (.int .i64 n), .v (.int .i64 m)], L0 := [.cells [.v (.int .u64 x)]], v := .v (.bool (decide (upV x (m - 1) < n))), L1 := [some (.cells [.v (.int .u64 (upS x (m - 1)))])], fl := true }
    | _ => none
  | _ => none
theorem e71 {A : Frm → Prop} : EntryOK A Try.prog 71 (fnE p71) := fnE_ok fun S bs q h hp => by
  unfold p71 at h
  split at h
  · split at h
    · cases h; exact chance_fn _ _ _ hp.1 hp.2
    · cases h
  · cases h
def foldV (x n : Int) : Int := if n < 2 then 0 else (x.tmod n + n).tmod n
def tbG7_54 := vj @ty3 @ti3.eq_1
def xbG7_4 := vj @aI.eq_1 (@aB.eq_1)
theorem fold_fn (x n : Int) (h2 : n ≤ 1000000) : FnV Try.prog 54 [aI x, aI n] (aI (foldV x n)) := by
  have env : Env (fun _ => True) Try.prog tyB (tab []) := mkEnv trivial
  refine Fn.of (A := fun _ => True) (n0 := 0) (D := noD) (Fn0 Try.func54 rfl (fun vs w => by kernel_rfl) (by kernel_rfl)) (by simp) (by simp [AV.ids, AV.idsL, aI]) (fun i o h => by cases h) (fun _ _ _ _ => trivial) noD_ok ?_
  by_cases c1 : n < 2
  · repeat' (first | refine zq0 ?_ | refine zq1 ?_ | refine zq2 ?_ | refine zq3 ?_ | refine zq4 ?_ | refine zq5 ?_ | refine uv ?_ | refine uk ?_ | refine uw ?_ | refine uz ?_ | refine uj ?_ | refine ux ?_ | refine uq (by decide) ?_ | ((first | refine vx env fun Q hQ => ?_ | refine vz fun Q hQ => ?_); simp only [vkt, seval, -Int.reduceSub, -Int.reduceAdd, -Int.reduceMul, tbG7_54, xbG7_4, c1]; (try simp only [ite_and]); (repeat' (first | with_reducible assumption | refine And.intro ?_ ?_ | intro hp)); all_goals (first | (refine hQ _ ?_; clear hQ Q) | (refine hQ _ (fun h => ?_) (fun h => ?_) <;> clear hQ Q <;> (try simp only [vki, reduceCtorEq] at h)) | omega | assumption | with_reducible rfl | (refine vq ?_; kernel_rfl) | skip)))
    (simp only [vrt, Try.results54, vkt, seval, -Int.reduceSub, -Int.reduceAdd, -Int.reduceMul, tbG7_54, xbG7_4]; refine Fin.val rfl ?_; (try simp only [AV.le, AV.leL]))
    all_goals simp [foldV, c1]
  · have nz : ¬ n = 0 := by omega
    have h3 : x.tmod n < n := Int.tmod_lt_of_pos x (by omega)
    have h5 : -n < x.tmod n := Int.lt_tmod_of_pos x (by omega)
    have w1 : IntKind.wrap .i64 (x.tmod n + n) = x.tmod n + n := wrap64 (by omega) (by omega)
    repeat' (first | refine zq0 ?_ | refine zq1 ?_ | refine zq2 ?_ | refine zq3 ?_ | refine zq4 ?_ | refine zq5 ?_ | refine uv ?_ | refine uk ?_ | refine uw ?_ | refine uz ?_ | refine uj ?_ | refine ux ?_ | refine uq (by decide) ?_ | ((first | refine vx env fun Q hQ => ?_ | refine vz fun Q hQ => ?_); simp only [vkt, seval, -Int.reduceSub, -Int.reduceAdd, -Int.reduceMul, tbG7_54, xbG7_4, c1, nz, w1]; (try simp only [ite_and]); (repeat' (first | with_reducible assumption | refine And.intro ?_ ?_ | intro hp)); all_goals (first | (refine hQ _ ?_; clear hQ Q) | (refine hQ _ (fun h => ?_) (fun h => ?_) <;> clear hQ Q <;> (try simp only [vki, reduceCtorEq] at h)) | omega | assumption | with_reducible rfl | (refine vq ?_; kernel_rfl) | skip)))
    (simp only [vrt, Try.results54, vkt, seval, -Int.reduceSub, -Int.reduceAdd, -Int.reduceMul, tbG7_54, xbG7_4]; refine Fin.val rfl ?_; (try simp only [AV.le, AV.leL]))
    all_goals simp [foldV, c1]
def s54 : List AV → Prop × AV
  | [.v (.int .i64 x), .v (.int .i64 n)] => (n ≤ 1000000, aI (foldV x n))
  | _ => (False, .junk)
theorem e54 {A : Frm → Prop} : EntryOK A Try.prog 54 (valE true s54) := valE_ok fun vs _ h => by
  unfold s54 at h ⊢
  split at h
  · exact ⟨trivial, fun _ => trivial, fold_fn _ _ h⟩
  · exact h.elim
theorem foldV_bd {x n : Int} (h : 1 ≤ n) : 0 ≤ foldV x n ∧ foldV x n < n := by
  unfold foldV
  split
  · omega
  · have h5 : -n < x.tmod n := Int.lt_tmod_of_pos x (by omega)
    have h1 : 0 ≤ x.tmod n + n := by omega
    rw [Int.tmod_eq_emod_of_nonneg h1]
    exact ⟨Int.emod_nonneg _ (by omega), Int.emod_lt_of_pos _ (by omega)⟩
end Go.Sym.B
namespace Go.Sym.B
open Go Go.Sym Go.Proofs Go.Sym.C
noncomputable def pcK (x : Int) : Nat → List Int × Int
  | 0 => ([1], x)
  | k + 1 => ((pcK x k).1 ++ [(pcK x k).1.getD k 0 + (1 + upV (pcK x k).2 (12 - 1))], upS (pcK x k).2 (12 - 1))
structure PcOk (p : List Int) (k : Nat) : Prop where
  len : p.length = k + 1
  one : p.getD 0 0 = 1
  up : ∀ i, i < k → p.getD i 0 < p.getD (i + 1) 0
  le : ∀ i, i ≤ k → 1 ≤ p.getD i 0 ∧ p.getD i 0 ≤ 1 + 12 * (i : Int)
theorem getD_snocL {α : Type} {l : List α} {v d : α} {i : Nat} (h : i < l.length) : (l ++ [v]).getD i d = l.getD i d := by
  simp [List.getD_eq_getElem?_getD, List.getElem?_append_left h]
theorem getD_snocR {α : Type} {l : List α} {v d : α} {i : Nat} (h : i = l.length) : (l ++ [v]).getD i d = v := by
  subst h; simp [List.getD_eq_getElem?_getD]
theorem pcK_ok (x : Int) : ∀ k, PcOk (pcK x k).1 k
  | 0 => ⟨rfl, rfl, fun i h => by omega, fun i h => by obtain rfl : i = 0 := by omega
                                                       simp [pcK]⟩
  | k + 1 => by
    have ih := pcK_ok x k
    have hu := upV_bd (x := (pcK x k).2) (m := 12 - 1) (by decide)
    have hl := ih.len
    have hk := ih.le k (Nat.le_refl _)
    rw [pcK]
    refine ⟨by simp [hl], by rw [getD_snocL (by omega)]; exact ih.one, fun i hi => ?_, fun i hi => ?_⟩
    · rcases Nat.lt_or_eq_of_le (Nat.le_of_lt_succ hi) with h | h
      · rw [getD_snocL (by omega), getD_snocL (by omega)]; exact ih.up i h
      · subst h; rw [getD_snocL (by omega), getD_snocR hl.symm]; omega
    · rcases Nat.lt_or_eq_of_le hi with h | h
      · rw [getD_snocL (by omega)]; exact ih.le i (by omega)
      · subst h; rw [getD_snocR hl.symm]; omega
structure CoS where
  cs : List (List Int)
  ss : List Int
  x : Int
noncomputable def coStep (s : CoS) : CoS := ⟨s.cs ++ [(pcK (upS s.x 3) (upV s.x 3).toNat).1], s.ss ++ [upV (pcK (upS s.x 3) (upV s.x 3).toNat).2 200], upS (pcK (upS s.x 3) (upV s.x 3).toNat).2 200⟩
noncomputable def coK (x : Int) : Nat → CoS
  | 0 => ⟨[], [], x⟩
  | k + 1 => coStep (coK x k)
theorem coK_succ (x : Int) (k : Nat) : coK x (k + 1) = coStep (coK x k) := rfl
structure CoOk (s : CoS) (k : Nat) : Prop where
  c : s.cs.length = k
  l : s.ss.length = k
  p : ∀ q ∈ s.cs, ∃ j, j ≤ 3 ∧ PcOk q j
  v : ∀ n ∈ s.ss, 0 ≤ n ∧ n ≤ 200
theorem coK_ok (x : Int) : ∀ k, CoOk (coK x k) k
  | 0 => ⟨rfl, rfl, fun q hq => by simp [coK] at hq, fun q hq => by simp [coK] at hq⟩
  | k + 1 => by
    have ih := coK_ok x k
    rw [coK_succ]
    unfold coStep
    have h1 := upV_bd (x := (coK x k).x) (m := 3) (by decide)
    have h2 := upV_bd (x := (pcK (upS (coK x k).x 3) (upV (coK x k).x 3).toNat).2) (m := 200) (by decide)
    refine ⟨by simp [ih.c], by simp [ih.l], fun q hq => ?_, fun q hq => ?_⟩
    · rcases List.mem_append.1 hq with hq | hq
      · exact ih.p q hq
      · obtain rfl := List.mem_singleton.1 hq
        exact ⟨_, by omega, pcK_ok _ _⟩
    · rcases List.mem_append.1 hq with hq | hq
      · exact ih.v q hq
      · obtain rfl := List.mem_singleton.1 hq
        omega
noncomputable def rtK (x : Int) : Nat → List Sh × Int
  | 0 => ([⟨1, 1⟩], x)
  | k + 1 => ((rtK x k).1 ++ [rtV (rtK x k).2], rtS (rtK x k).2)
structure ShOk (s : Sh) : Prop where
  n : 1 ≤ s.num ∧ s.num ≤ 20
  d : 1 ≤ s.den ∧ s.den ≤ 12
  r : s = shQ (mkRat s.num s.den.toNat)
theorem shQ_ok {q : Rat} (h1 : 1 ≤ q.num ∧ q.num ≤ 20) (h2 : (q.den : Int) ≤ 12) : ShOk (shQ q) :=
  ⟨h1, ⟨by have := den_pos q; show (1 : Int) ≤ (q.den : Int); omega, h2⟩, by show shQ q = shQ (mkRat q.num (q.den : Int).toNat); rw [Int.toNat_natCast, Rat.mkRat_self]⟩
theorem mkq_bd {n d : Int} (hn : 1 ≤ n ∧ n ≤ 20) (hd : 1 ≤ d ∧ d ≤ 12) : (1 ≤ (mkRat n d.toNat).num ∧ (mkRat n d.toNat).num ≤ 20) ∧ ((mkRat n d.toNat).den : Int) ≤ 12 := by
  have hq : (0 : Int) < d := by omega
  have e1 := mk_num_le (a := n) hq
  have e2 := mk_den_le (a := n) hq
  have hp : 0 < (mkRat n d.toNat).num := by
    have hm := mk_num (a := n) hq
    have h5 : 0 < Nat.gcd n.natAbs d.toNat := Nat.gcd_pos_of_pos_left _ (by omega)
    have h6 := Nat.gcd_dvd_left n.natAbs d.toNat
    rw [hm]
    generalize Nat.gcd n.natAbs d.toNat = g at *
    obtain ⟨q, hq⟩ := h6
    have h7 : n = (g : Int) * (q : Int) := by
      rw [show n = (n.natAbs : Int) by omega, hq]; exact Int.natCast_mul g q
    rw [h7, Int.mul_tdiv_cancel_left _ (by omega)]
    rcases Nat.eq_zero_or_pos q with h8 | h8
    · subst h8; simp at h7; omega
    · omega
  omega
theorem rtV_ok (x : Int) : ShOk (rtV x) := by
  have h := mkq_bd (rt_bd7 x).1 (rt_bd7 x).2
  unfold rtV
  exact shQ_ok h.1 h.2
structure RwOk (r : List Sh) (m : Nat) : Prop where
  len : r.length = m
  one : r.getD 0 default = ⟨1, 1⟩
  all : ∀ s ∈ r, ShOk s
theorem rtK_ok (x : Int) : ∀ k, RwOk (rtK x k).1 (k + 1)
  | 0 => ⟨rfl, rfl, fun s hs => by
    obtain rfl := List.mem_singleton.1 hs
    exact ⟨by decide, by decide, by decide +kernel⟩⟩
  | k + 1 => by
    have ih := rtK_ok x k
    rw [rtK]
    refine ⟨by simp [ih.len], by rw [getD_snocL (by have := ih.len; omega)]; exact ih.one, fun s hs => ?_⟩
    rcases List.mem_append.1 hs with hs | hs
    · exact ih.all s hs
    · obtain rfl := List.mem_singleton.1 hs
      exact rtV_ok _
noncomputable def dyK (m : Nat) (x : Int) : Nat → List (List Sh) × Int
  | 0 => ([], x)
  | k + 1 => ((dyK m x k).1 ++ [(rtK (dyK m x k).2 m).1], (rtK (dyK m x k).2 m).2)
theorem dyK_ok (m : Nat) (x : Int) : ∀ k, (dyK m x k).1.length = k ∧ ∀ r ∈ (dyK m x k).1, RwOk r (m + 1)
  | 0 => ⟨rfl, fun r h => by simp [dyK] at h⟩
  | k + 1 => by
    obtain ⟨h1, h2⟩ := dyK_ok m x k
    rw [dyK]
    refine ⟨by simp [h1], fun r hr => ?_⟩
    rcases List.mem_append.1 hr with hr | hr
    · exact h2 r hr
    · obtain rfl := List.mem_singleton.1 hr
      exact rtK_ok _ _
structure EnS where
  day : Int
  till : List Int
  es : List Ent
  x : Int
noncomputable def enD (R : Nat) (s : EnS) : Int := s.day + upV s.x (min (s.day + 1) ((R : Int) - 1) - s.day)
noncomputable def enX1 (R : Nat) (s : EnS) : Int := upS s.x (min (s.day + 1) ((R : Int) - 1) - s.day)
def kinds : List Int := [1, 2, 3, 3, 3, 4]
noncomputable def enS1 (s : EnS) (day coin x : Int) : EnS := ⟨day, s.till.set coin.toNat (s.till.getD coin.toNat 0 + upV x 90), s.es ++ [⟨day, 1, coin, 0, upV x 90, 0⟩], upS x 90⟩
noncomputable def enS2 (s : EnS) (day coin x : Int) : EnS := ⟨day, s.till.set coin.toNat (s.till.getD coin.toNat 0 - upV x (min (s.till.getD coin.toNat 0) 90)), s.es ++ [⟨day, 2, coin, 0, upV x (min (s.till.getD coin.toNat 0) 90), 0⟩], upS x (min (s.till.getD coin.toNat 0) 90)⟩
noncomputable def enF (x : Int) : Int := -3 + upV x (3 - -3)
noncomputable def enA4 (h x : Int) : Int := max 0 (min 999 (h + oneV (upS x (3 - -3)) [0, enF x]))
noncomputable def enS4 (s : EnS) (day coin x : Int) : EnS := ⟨day, s.till.set coin.toNat (enA4 (s.till.getD coin.toNat 0) x), s.es ++ [⟨day, 4, coin, 0, enA4 (s.till.getD coin.toNat 0) x, 0⟩], upS (upS x (3 - -3)) ((2 : Nat) - 1)⟩
def enG0 (rs : List (List Sh)) (day coin to am : Int) : Int :=
  (am * ((rs.getD day.toNat []).getD coin.toNat default).num * ((rs.getD day.toNat []).getD to.toNat default).den).tdiv (((rs.getD day.toNat []).getD coin.toNat default).den * ((rs.getD day.toNat []).getD to.toNat default).num)
def enS3b (s : EnS) (day coin to am got x : Int) : EnS :=
  if 999 < got then ⟨day, s.till, s.es, x⟩ else ⟨day, (s.till.set coin.toNat (s.till.getD coin.toNat 0 - am)).set to.toNat (s.till.getD to.toNat 0 + got), s.es ++ [⟨day, 3, coin, to, am, got⟩], x⟩
noncomputable def enS3a (rs : List (List Sh)) (w : Int) (s : EnS) (day coin to am x : Int) : EnS :=
  if upV x (10 - 1) < w then enS3b s day coin to am (enG0 rs day coin to am + (1 + upV (upS x (10 - 1)) (3 - 1))) (upS (upS x (10 - 1)) (3 - 1))
  else enS3b s day coin to am (enG0 rs day coin to am) (upS x (10 - 1))
noncomputable def enTo (C : Nat) (coin x : Int) : Int := foldV (coin + (1 + upV x ((C : Int) - 1 - 1))) C
noncomputable def enS3 (C : Nat) (rs : List (List Sh)) (w : Int) (s : EnS) (day coin x : Int) : EnS :=
  if C = 1 then ⟨day, s.till, s.es, x⟩ else
  enS3a rs w s day coin (enTo C coin x) (upV (upS x ((C : Int) - 1 - 1)) (min (s.till.getD coin.toNat 0) 40)) (upS (upS x ((C : Int) - 1 - 1)) (min (s.till.getD coin.toNat 0) 40))
noncomputable def enS0 (C : Nat) (rs : List (List Sh)) (w : Int) (s : EnS) (day kind coin x : Int) : EnS :=
  if kind = 1 then enS1 s day coin x else if kind = 2 then enS2 s day coin x else if kind = 4 then enS4 s day coin x else enS3 C rs w s day coin x
noncomputable def enK0 (R : Nat) (s : EnS) : Int := oneV (enX1 R s) kinds
noncomputable def enX2 (R : Nat) (s : EnS) : Int := upS (enX1 R s) ((6 : Nat) - 1)
noncomputable def enStep (C : Nat) (rs : List (List Sh)) (w : Int) (s : EnS) : EnS :=
  enS0 C rs w s (enD rs.length s) (enK0 rs.length s) (upV (enX2 rs.length s) ((C : Int) - 1)) (upS (enX2 rs.length s) ((C : Int) - 1))
noncomputable def enK (C : Nat) (rs : List (List Sh)) (w : Int) (s : EnS) : Nat → EnS
  | 0 => s
  | k + 1 => enStep C rs w (enK C rs w s k)
structure EnI (C R k : Nat) (s : EnS) : Prop where
  d0 : 0 ≤ s.day
  d1 : s.day ≤ (R : Int) - 1
  len : s.till.length = C
  b : ∀ v ∈ s.till, 0 ≤ v ∧ v ≤ 999 * ((k : Int) + 1)
  es : s.es.length ≤ k
theorem enD_bd {C R k : Nat} {s : EnS} (h : EnI C R k s) (hR : R ≤ 100) : s.day ≤ enD R s ∧ enD R s ≤ (R : Int) - 1 := by
  have h0 := h.d0
  have h1 := h.d1
  have := upV_le (x := s.x) (m := min (s.day + 1) ((R : Int) - 1) - s.day) (by omega) (by omega)
  unfold enD
  omega
structure EnJ (C R k : Nat) (s : EnS) (day coin : Int) : Prop where
  i : EnI C R k s
  d0 : 0 ≤ day
  d1 : day ≤ (R : Int) - 1
  c0 : 0 ≤ coin
  c1 : coin ≤ (C : Int) - 1
theorem EnJ.h {C R k : Nat} {s : EnS} {day coin : Int} (j : EnJ C R k s day coin) : 0 ≤ s.till.getD coin.toNat 0 ∧ s.till.getD coin.toNat 0 ≤ 999 * ((k : Int) + 1) := by
  have := j.c0
  have := j.c1
  have := j.i.len
  exact j.i.b _ (gMem (by omega))
theorem mem_set_bd {l : List Int} {i : Nat} {v : Int} {P : Int → Prop} (h : ∀ x ∈ l, P x) (hv : P v) : ∀ x ∈ l.set i v, P x := fun x hx => by
  rcases List.mem_or_eq_of_mem_set hx with h1 | h1
  · exact h x h1
  · exact h1 ▸ hv
theorem EnJ.bd {C R k : Nat} {s : EnS} {day coin : Int} (j : EnJ C R k s day coin) : ∀ v ∈ s.till, 0 ≤ v ∧ v ≤ 999 * (((k + 1 : Nat) : Int) + 1) := fun v hv => by
  have := j.i.b v hv; omega
theorem EnJ.set {C R k : Nat} {s : EnS} {day coin : Int} (j : EnJ C R k s day coin) {v : Int} {e : Ent} {x : Int} (h : 0 ≤ v ∧ v ≤ 999 * ((k : Int) + 1) + 999) : EnI C R (k + 1) ⟨day, s.till.set coin.toNat v, s.es ++ [e], x⟩ :=
  ⟨j.d0, j.d1, by simp [j.i.len], mem_set_bd j.bd (by omega), by simp; exact j.i.es⟩
theorem enA4_bd (h x : Int) : 0 ≤ enA4 h x ∧ enA4 h x ≤ 999 := by unfold enA4; omega
theorem enS3b_ok {C R k : Nat} {s : EnS} {day coin : Int} (j : EnJ C R k s day coin) {to am got x : Int} (ha : 0 ≤ am) (ha' : am ≤ s.till.getD coin.toNat 0) (ht : 0 ≤ to ∧ to < C) (hg : 0 ≤ got) : EnI C R (k + 1) (enS3b s day coin to am got x) := by
  unfold enS3b
  have hh := j.h
  have hl := j.i.len
  split
  · exact ⟨j.d0, j.d1, hl, j.bd, Nat.le_succ_of_le j.i.es⟩
  · have h2 := j.i.b _ (gMem (l := s.till) (k := to.toNat) (d := 0) (by omega))
    exact ⟨j.d0, j.d1, by simp [hl], mem_set_bd (mem_set_bd j.bd (by omega)) (by omega), by simp; exact j.i.es⟩
theorem enG0_bd {rs : List (List Sh)} {day coin to am : Int} (h1 : ShOk ((rs.getD day.toNat []).getD coin.toNat default)) (h2 : ShOk ((rs.getD day.toNat []).getD to.toNat default)) (ha : 0 ≤ am) (ha' : am ≤ 40) :
    0 ≤ enG0 rs day coin to am ∧ enG0 rs day coin to am ≤ 9600 := by
  unfold enG0
  have a1 := h1.n
  have a2 := h1.d
  have a3 := h2.n
  have a4 := h2.d
  generalize ((rs.getD day.toNat []).getD coin.toNat default).num = p at *
  generalize ((rs.getD day.toNat []).getD coin.toNat default).den = q at *
  generalize ((rs.getD day.toNat []).getD to.toNat default).num = r at *
  generalize ((rs.getD day.toNat []).getD to.toNat default).den = u at *
  have m1 : 0 ≤ am * p * u := Int.mul_nonneg (Int.mul_nonneg ha (by omega)) (by omega)
  have m2 : am * p ≤ 40 * 20 := Int.mul_le_mul ha' a1.2 (by omega) (by omega)
  have m3 : am * p * u ≤ 40 * 20 * 12 := Int.mul_le_mul m2 a4.2 (by omega) (by omega)
  have m4 : 0 < q * r := Int.mul_pos (by omega) (by omega)
  rw [Int.tdiv_eq_ediv_of_nonneg m1]
  refine ⟨Int.ediv_nonneg m1 (by omega), Int.le_trans (Int.ediv_le_self _ m1) (by omega)⟩
structure RsOk (rs : List (List Sh)) (C : Nat) : Prop where
  len : 1 ≤ rs.length ∧ rs.length ≤ 4
  all : ∀ r ∈ rs, RwOk r C
theorem RsOk.sh {rs : List (List Sh)} {C : Nat} (h : RsOk rs C) {day coin : Int} (h1 : 0 ≤ day) (h2 : day ≤ (rs.length : Int) - 1) (h3 : 0 ≤ coin) (h4 : coin ≤ (C : Int) - 1) : ShOk ((rs.getD day.toNat []).getD coin.toNat default) := by
  have hr := h.all _ (gMem (l := rs) (k := day.toNat) (d := []) (by omega))
  exact hr.all _ (gMem (by have := hr.len; omega))
theorem enS0_ok {C k : Nat} {rs : List (List Sh)} (hr : RsOk rs C) (hC : 1 ≤ C ∧ C ≤ 4) {w : Int} {s : EnS} {day coin : Int} (j : EnJ C rs.length k s day coin) (kind x : Int) : EnI C rs.length (k + 1) (enS0 C rs w s day kind coin x) := by
  have hh := j.h
  have hc0 := j.c0
  have hc1 := j.c1
  unfold enS0
  split
  · unfold enS1
    have := upV_le (x := x) (m := 90) (by decide) (by decide)
    exact j.set (by omega)
  split
  · unfold enS2
    have := upV_bd (x := x) (m := min (s.till.getD coin.toNat 0) 90) (by omega)
    exact j.set (by omega)
  split
  · unfold enS4
    have := enA4_bd (s.till.getD coin.toNat 0) x
    exact j.set (by omega)
  · unfold enS3
    split
    · exact ⟨j.d0, j.d1, j.i.len, j.bd, Nat.le_succ_of_le j.i.es⟩
    · have ht : 0 ≤ enTo C coin x ∧ enTo C coin x < C := foldV_bd (by omega)
      generalize enTo C coin x = to at *
      generalize upS x ((C : Int) - 1 - 1) = y
      have ha := upV_bd (x := y) (m := min (s.till.getD coin.toNat 0) 40) (by omega)
      generalize upV y (min (s.till.getD coin.toNat 0) 40) = am at *
      have s1 := hr.sh j.d0 j.d1 hc0 hc1
      have s2 := hr.sh j.d0 j.d1 ht.1 (show to ≤ (C : Int) - 1 by omega)
      have hg := enG0_bd s1 s2 (am := am) (by omega) (by omega)
      unfold enS3a
      split
      · have := upV_bd (x := upS (upS y (min (s.till.getD coin.toNat 0) 40)) (10 - 1)) (m := 3 - 1) (by decide)
        exact enS3b_ok j (by omega) (by omega) ht (by omega)
      · exact enS3b_ok j (by omega) (by omega) ht (by omega)
theorem enJ_of {C k : Nat} {rs : List (List Sh)} (hr : RsOk rs C) (hC : 1 ≤ C ∧ C ≤ 4) {s : EnS} (h : EnI C rs.length k s) : EnJ C rs.length k s (enD rs.length s) (upV (enX2 rs.length s) ((C : Int) - 1)) := by
  have h1 := enD_bd h (by have := hr.len; omega)
  have h2 := upV_le (x := enX2 rs.length s) (m := (C : Int) - 1) (by omega) (by omega)
  exact ⟨h, by have := h.d0; omega, h1.2, h2.1, h2.2⟩
theorem enK_ok {C : Nat} {rs : List (List Sh)} (hr : RsOk rs C) (hC : 1 ≤ C ∧ C ≤ 4) {w : Int} {s : EnS} (h : EnI C rs.length 0 s) : ∀ k, EnI C rs.length k (enK C rs w s k)
  | 0 => h
  | k + 1 => enS0_ok hr hC (enJ_of hr hC (enK_ok hr hC h k)) _ _
noncomputable def lg1 (x c : Int) : CoS := coK (upS x (c - 1)) (1 + upV x (c - 1)).toNat
noncomputable def lg2 (x c d : Int) : List (List Sh) × Int := dyK ((lg1 x c).cs.length - 1) (upS (lg1 x c).x (d - 1)) (1 + upV (lg1 x c).x (d - 1)).toNat
noncomputable def lg3 (x c d e w : Int) : EnS := enK (lg1 x c).cs.length (lg2 x c d).1 w ⟨0, (lg1 x c).ss, [], upS (lg2 x c d).2 e⟩ (upV (lg2 x c d).2 e).toNat
noncomputable def lgL (x c d e w : Int) : Led := ⟨(lg1 x c).cs, (lg2 x c d).1, (lg1 x c).ss, (lg3 x c d e w).es⟩
noncomputable def lgS (x c d e w : Int) : Int := (lg3 x c d e w).x
end Go.Sym.B
namespace Go.Sym.B
open Go Go.Sym Go.Proofs Go.Sym.C
def tbG9_23 := vj @ty3 (vj @ty22 (vj @ti3.eq_1 @ti22.eq_1))
def xbG9_1 := vj @aI.eq_1 (vj @aB.eq_1 (vj @aInts.eq_1 (@rInt)))
theorem copyR_fn (l : List Int) (hl : l.length ≤ 100000) : Fn noB Try.prog 23 [aInts l] noH (.row 0) (hasg [(0, .row 3 1 (l.map eInt))]) 0 := by
  have env : Env (fun _ => True) Try.prog tyB (tab []) := mkEnv trivial
  refine Fn.of (A := fun _ => True) (n0 := 0) (D := noD) (Fn0 Try.func23 rfl (fun vs w => by kernel_rfl) (by kernel_rfl)) (by simp) (by simp [AV.ids, AV.idsL, aInts]) (fun i o h => by cases h) (fun _ _ _ _ => trivial) noD_ok ?_
  obtain ⟨b1, b2, b3, b4⟩ := b47 hl
  repeat' (first | refine zq0 ?_ | refine zq1 ?_ | refine zq2 ?_ | refine zq3 ?_ | refine zq4 ?_ | refine zq5 ?_ | refine uv ?_ | refine uk ?_ | refine uw ?_ | refine uz ?_ | refine uj ?_ | refine ux ?_ | refine uq (by decide) ?_ | ((first | refine vx env fun Q hQ => ?_ | refine vz fun Q hQ => ?_); simp only [vkt, Nat.reduceEqDiff, Nat.reduceAdd, Nat.reduceMul, Nat.reduceSub, Nat.reduceLeDiff, reduceCtorEq, ↓reduceIte, ↓reduceDIte, Int.reduceToNat, Int.reduceLE, Int.reduceLT, Int.reduceEq, Int.reduceNeg, tbG9_23, xbG9_1]; (try simp only [ite_and]); (repeat' (first | with_reducible assumption | refine And.intro ?_ ?_ | intro hp)); all_goals (first | (refine hQ _ ?_; clear hQ Q) | (refine hQ _ (fun h => ?_) (fun h => ?_) <;> clear hQ Q <;> (try simp only [vki, reduceCtorEq] at h)) | omega | assumption | with_reducible rfl | (refine vq ?_; kernel_rfl) | skip)))
  (simp only [vrt, Try.results23, vkt, Nat.reduceEqDiff, Nat.reduceAdd, Nat.reduceMul, Nat.reduceSub, Nat.reduceLeDiff, reduceCtorEq, ↓reduceIte, ↓reduceDIte, Int.reduceToNat, Int.reduceLE, Int.reduceLT, Int.reduceEq, Int.reduceNeg, tbG9_23, xbG9_1]; refine Fin.ok some [] ?_ ?_ ?_ ?_ ?_ rfl; all_goals (try simp only [vle, vkt, Nat.reduceEqDiff, Nat.reduceAdd, Nat.reduceMul, Nat.reduceSub, Nat.reduceLeDiff, reduceCtorEq, ↓reduceIte, ↓reduceDIte, Int.reduceToNat, Int.reduceLE, Int.reduceLT, Int.reduceEq, Int.reduceNeg, tbG9_23, xbG9_1]))
  all_goals first | rfl | (simp; done)
theorem flInt (l : List Int) : (∀ r ∈ l.map eInt, ∀ d ∈ r, ∃ x, d = DV.v x) = True := by
  simp [eInt]
def p23r (S : St) : List AV → Option Pk
  | [.row r] => match S.h r with
    | some (.row _ _ xs) => some { pre := xs = (xs.map dInt).map eInt ∧ xs.length ≤ 100000, bo := [r], ar := [.sl xs], v := .row 0, L1 := [some (.row 3 1 xs)], fl := true }
    | _ => none
  | [.sl xs] => some { pre := xs = (xs.map dInt).map eInt ∧ xs.length ≤ 100000, ar := [.sl xs], v := .row 0, L1 := [some (.row 3 1 xs)] }
  | _ => none
theorem e23r {A : Frm → Prop} : EntryOK A Try.prog 23 (fnE p23r) := fnE_ok fun S bs q h hp => by
  unfold p23r at h
  split at h
  · split at h
    · cases h
      rename_i xs _
      have := copyR_fn (List.map dInt xs) (by rw [List.length_map]; exact hp.2)
      simp only [aInts, ← hp.1] at this
      exact this
    · cases h
  · cases h
    rename_i xs
    have := copyR_fn (List.map dInt xs) (by rw [List.length_map]; exact hp.2)
    simp only [aInts, ← hp.1] at this
    exact this
  · cases h
theorem pcK_1 (y : Int) (j : Nat) : (pcK y (j + 1)).1 = (pcK y j).1 ++ [(pcK y j).1.getD j 0 + (1 + upV (pcK y j).2 (12 - 1))] := rfl
theorem pcK_2 (y : Int) (j : Nat) : (pcK y (j + 1)).2 = upS (pcK y j).2 (12 - 1) := rfl
theorem rtK_1 (y : Int) (j : Nat) : (rtK y (j + 1)).1 = (rtK y j).1 ++ [rtV (rtK y j).2] := rfl
theorem rtK_2 (y : Int) (j : Nat) : (rtK y (j + 1)).2 = rtS (rtK y j).2 := rfl
theorem dyK_1 (m : Nat) (y : Int) (j : Nat) : (dyK m y (j + 1)).1 = (dyK m y j).1 ++ [(rtK (dyK m y j).2 m).1] := rfl
theorem dyK_2 (m : Nat) (y : Int) (j : Nat) : (dyK m y (j + 1)).2 = (rtK (dyK m y j).2 m).2 := rfl
theorem enK_1 (C : Nat) (rs : List (List Sh)) (w : Int) (s : EnS) (k : Nat) : enK C rs w s (k + 1) = enStep C rs w (enK C rs w s k) := rfl
theorem gRow {l : List (List Sh)} {n : Nat} (h : n < l.length) : (l.map eShs).getD n [] = eShs (l.getD n []) := by simp [List.getD_eq_getElem?_getD, h]
theorem dIntW (n : Int) : dInt [.v (.int .i64 n)] = n := rfl
def loT (c d e w : Int) : List (Nat × AV) := [(0, .ptr 0 0), (1, aI c), (2, aI d), (3, aI e), (4, aI w), (10, .ptr 1 0), (11, .ptr 2 0)]
def nil4 : List AV := [.nil, .nil, .nil, .nil]
noncomputable def lo1 (c d e w : Int) (b : Int) (V k : Nat) : St := { t := asg (loT c d e w ++ [(12, aI ((V : Int) - (k : Int)))]), h := hasg [(0, .cells [.v (.int .u64 (coK b k).x)]), (1, .cells nil4), (2, .cells [.row 3, .nil, .row 4, .nil]), (3, .row 22 1 ((coK b k).cs.map eInts)), (4, .row 3 1 ((coK b k).ss.map eInt))], n := 5, m := 1 }
noncomputable def lo2 (c d e w : Int) (s : CoS) (y : Int) (V k K j : Nat) : St := { t := asg (loT c d e w ++ [(12, aI ((V : Int) - (k : Int))), (13, .row 5), (14, aI ((K : Int) - (j : Int)))]), h := hasg [(0, .cells [.v (.int .u64 (pcK y j).2)]), (1, .cells nil4), (2, .cells [.row 3, .nil, .row 4, .nil]), (3, .row 22 1 (s.cs.map eInts)), (4, .row 3 1 (s.ss.map eInt)), (5, .row 3 1 ((pcK y j).1.map eInt))], n := 6, m := 1 }
def lo3 (c d e w : Int) (s : CoS) (p : List Int) (y : Int) (V k : Nat) : St := { t := asg (loT c d e w ++ [(12, aI ((V : Int) - (k : Int))), (13, aInts p)]), h := hasg [(0, .cells [.v (.int .u64 y)]), (1, .cells nil4), (2, .cells [.row 3, .nil, .row 4, .nil]), (3, .row 22 1 (s.cs.map eInts)), (4, .row 3 1 (s.ss.map eInt))], n := 5, m := 1 }
noncomputable def ld1 (c d e w : Int) (s : CoS) (m : Nat) (b : Int) (V k : Nat) : St := { t := asg (loT c d e w ++ [(15, aI ((V : Int) - (k : Int)))]), h := hasg [(0, .cells [.v (.int .u64 (dyK m b k).2)]), (1, .cells nil4), (2, .cells [.row 3, .row 5, .row 4, .nil]), (3, .row 22 1 (s.cs.map eInts)), (4, .row 3 1 (s.ss.map eInt)), (5, .row 55 1 ((dyK m b k).1.map eShs))], n := 6, m := 1 }
noncomputable def ld2 (c d e w : Int) (s : CoS) (rs : List (List Sh)) (y : Int) (V k j : Nat) : St := { t := asg (loT c d e w ++ [(15, aI ((V : Int) - (k : Int))), (16, .row 6), (17, aI ((j : Int) + 1))]), h := hasg [(0, .cells [.v (.int .u64 (rtK y j).2)]), (1, .cells nil4), (2, .cells [.row 3, .row 5, .row 4, .nil]), (3, .row 22 1 (s.cs.map eInts)), (4, .row 3 1 (s.ss.map eInt)), (5, .row 55 1 (rs.map eShs)), (6, .row 59 2 ((rtK y j).1.map eSh))], n := 7, m := 1 }
def ld3 (c d e w : Int) (s : CoS) (rs : List (List Sh)) (r : List Sh) (y : Int) (V k : Nat) : St := { t := asg (loT c d e w ++ [(15, aI ((V : Int) - (k : Int))), (16, aShs r)]), h := hasg [(0, .cells [.v (.int .u64 y)]), (1, .cells nil4), (2, .cells [.row 3, .row 5, .row 4, .nil]), (3, .row 22 1 (s.cs.map eInts)), (4, .row 3 1 (s.ss.map eInt)), (5, .row 55 1 (rs.map eShs))], n := 6, m := 1 }
def le1 (c d e w : Int) (s : CoS) (rs : List (List Sh)) (t : EnS) (V k : Nat) : St := { t := asg (loT c d e w ++ [(18, .row 6), (19, aI t.day), (20, aI ((V : Int) - (k : Int)))]), h := hasg [(0, .cells [.v (.int .u64 t.x)]), (1, .cells nil4), (2, .cells [.row 3, .row 5, .row 4, .row 7]), (3, .row 22 1 (s.cs.map eInts)), (4, .row 3 1 (s.ss.map eInt)), (5, .row 55 1 (rs.map eShs)), (6, .row 3 1 (t.till.map eInt)), (7, .row 48 6 (t.es.map eEnt))], n := 8, m := 1 }
def tbG9_27 := vj @ty3 (vj @ty22 (vj @ty28 (vj @ty35 (vj @ty36 (vj @ty38 (vj @ty48 (vj @ty55 (vj @ty59 (vj @ti3.eq_1 (vj @ti22.eq_1 (vj @ti28.eq_1 (vj @ti35.eq_1 (vj @ti36.eq_1 (vj @ti38.eq_1 (vj @ti48.eq_1 (vj @ti55.eq_1 @ti59.eq_1))))))))))))))))
def xbG9_2 := vj @aI.eq_1 (vj @aB.eq_1 (vj @aSh.eq_1 (vj @aLed.eq_1 (vj @cLed.eq_1 (vj @aInts.eq_1 (vj @aShs.eq_1 (vj @bgH.eq_1 (vj @mInt (vj @dIntW (vj @loT.eq_1 (vj @nil4.eq_1 (vj @lo1.eq_1 (vj @lo2.eq_1 (vj @lo3.eq_1 (vj @ld1.eq_1 (vj @ld2.eq_1 (vj @ld3.eq_1 (vj @le1.eq_1 (vj @p21.eq_1 (vj @p21.eq_2 (vj @p22.eq_1 (vj @p22.eq_2 (vj @p84.eq_1 (vj @p84.eq_2 (vj @p85.eq_1 (vj @p85.eq_2 (vj @p71.eq_1 (vj @p71.eq_2 (vj @s54.eq_1 (vj @s54.eq_2 (vj @p23r.eq_1 (vj @p23r.eq_2 (vj @p23r.eq_3 (vj @gInt (vj @eInt.eq_1 (vj @eShs.eq_1 (vj @rInt (vj @rSh (vj @rEnt (vj @rInts (vj @rShs (@flInt))))))))))))))))))))))))))))))))))))))))))
set_option maxRecDepth 100000 in
set_option maxHeartbeats 40000000 in
theorem ledgerOf_fn (x c d e w : Int) (hc : 1 ≤ c ∧ c ≤ 4) (hd : 1 ≤ d ∧ d ≤ 4) (he : 0 ≤ e ∧ e ≤ 6) : Fn noB Try.prog 27 [.ptr 0 0, aI c, aI d, aI e, aI w] (hasg (bgH x)) (aLed (lgL x c d e w)) (hasg (bgH (lgS x c d e w))) 0 := by
  have env : Env (fun _ => True) Try.prog tyB (tab [(21, fnE p21), (22, fnE p22), (23, fnE p23r), (84, fnE p84), (85, fnE p85), (71, fnE p71), (54, valE true s54)]) := mkEnv ⟨e21, e22, e23r, e84, e85, e71, e54, trivial⟩
  refine Fn.of (A := fun _ => True) (n0 := 1) (D := noD) (Fn0 Try.func27 rfl (fun vs w => by kernel_rfl) (by kernel_rfl)) (by simp) (by simp [AV.ids, AV.idsL, aI]) ?_ (fun _ _ _ _ => trivial) noD_ok ?_
  · intro i o hi
    have h := hasg_mem hi
    simp [bgH] at h
    rcases h with ⟨rfl, rfl⟩; simp [AObj.ids, AV.ids, AV.idsL]
  have mc : min c 4 = c := by omega
  have md : min d 4 = d := by omega
  have me : min e 6 = e := by omega
  have big : (100000 : Nat) ≤ maxLen := by decide
  have hu := upV_le (x := x) (m := c - 1) (by omega) (by omega)
  obtain ⟨V, hV⟩ : ∃ V : Nat, 1 + upV x (c - 1) = (V : Int) := ⟨(1 + upV x (c - 1)).toNat, by omega⟩
  have hV1 : 1 ≤ V ∧ V ≤ 4 := by omega
  have g1 : lg1 x c = coK (upS x (c - 1)) V := by unfold lg1; rw [hV]; rfl
  generalize hb : upS x (c - 1) = b at *
  repeat' (first | refine zq0 ?_ | refine zq1 ?_ | refine zq2 ?_ | refine zq3 ?_ | refine zq4 ?_ | refine zq5 ?_ | refine uv ?_ | refine uk ?_ | refine uw ?_ | refine uz ?_ | refine uj ?_ | refine ux ?_ | refine uq (by decide) ?_ | ((first | refine vx env fun Q hQ => ?_ | refine vz fun Q hQ => ?_); simp only [vkt, Nat.reduceEqDiff, Nat.reduceAdd, Nat.reduceMul, Nat.reduceSub, Nat.reduceLeDiff, reduceCtorEq, ↓reduceIte, ↓reduceDIte, Int.reduceToNat, Int.reduceLE, Int.reduceLT, Int.reduceEq, Int.reduceNeg, tbG9_27, xbG9_2, List.map_cons, List.map_nil, List.length_cons, List.length_nil, List.nil_append, List.append_nil, List.cons_append, mc, hV, hb]; (try simp only [ite_and]); (repeat' (first | with_reducible assumption | refine And.intro ?_ ?_ | intro hp)); all_goals (first | (refine hQ _ ?_; clear hQ Q) | (refine hQ _ (fun h => ?_) (fun h => ?_) <;> clear hQ Q <;> (try simp only [vki, reduceCtorEq] at h)) | omega | assumption | with_reducible rfl | (refine vq ?_; kernel_rfl) | skip)))
  refine sym_loop (fun k : { k : Nat // k ≤ V } => lo1 c d e w b V k.1) (fun k => V - k.1) ⟨0, Nat.zero_le _⟩ ?_ fun ⟨k, hk⟩ => ?_
  · (refine Le.ok (fun j => if j = 3 ∨ j = 4 then none else some j) [] ?_; constructor; all_goals (try simp only [vle, vkt, Nat.reduceEqDiff, Nat.reduceAdd, Nat.reduceMul, Nat.reduceSub, Nat.reduceLeDiff, reduceCtorEq, ↓reduceIte, ↓reduceDIte, Int.reduceToNat, Int.reduceLE, Int.reduceLT, Int.reduceEq, Int.reduceNeg, tbG9_27, xbG9_2, List.map_cons, List.map_nil, List.length_cons, List.length_nil, List.nil_append, List.append_nil, List.cons_append]))
    all_goals first | rfl | (simp [coK, hb, hV]; done)
  · repeat' (first | refine zq0 ?_ | refine zq1 ?_ | refine zq2 ?_ | refine zq3 ?_ | refine zq4 ?_ | refine zq5 ?_ | refine uv ?_ | refine uk ?_ | refine uw ?_ | refine uz ?_ | refine uj ?_ | refine ux ?_ | refine uq (by decide) ?_)
    (refine vx env fun Q hQ => ?_; simp only [vkt, Nat.reduceEqDiff, Nat.reduceAdd, Nat.reduceMul, Nat.reduceSub, Nat.reduceLeDiff, reduceCtorEq, ↓reduceIte, ↓reduceDIte, Int.reduceToNat, Int.reduceLE, Int.reduceLT, Int.reduceEq, Int.reduceNeg, tbG9_27, xbG9_2, List.map_cons, List.map_nil, List.length_cons, List.length_nil, List.nil_append, List.append_nil, List.cons_append]; (try simp only [ite_and]); (repeat' (first | with_reducible assumption | refine And.intro ?_ ?_ | intro hp)); all_goals (first | (refine hQ _ ?_; clear hQ Q) | omega | assumption | with_reducible rfl | (refine vq ?_; kernel_rfl) | skip))
    repeat' (first | refine zq0 ?_ | refine zq1 ?_ | refine zq2 ?_ | refine zq3 ?_ | refine zq4 ?_ | refine zq5 ?_ | refine uv ?_ | refine uk ?_ | refine uw ?_ | refine uz ?_ | refine uj ?_ | refine ux ?_ | refine uq (by decide) ?_)
    (refine sym_cd (by simp only [vkt, Nat.reduceEqDiff, Nat.reduceAdd, Nat.reduceMul, Nat.reduceSub, Nat.reduceLeDiff, reduceCtorEq, ↓reduceIte, ↓reduceDIte, Int.reduceToNat, Int.reduceLE, Int.reduceLT, Int.reduceEq, Int.reduceNeg, tbG9_27, xbG9_2, List.map_cons, List.map_nil, List.length_cons, List.length_nil, List.nil_append, List.append_nil, List.cons_append]; rfl) (fun h => ?_) (fun h => ?_) <;> (try simp only [vki, reduceCtorEq] at h))
    · have hlt : k < V := by omega
      have ok := coK_ok b k
      have hs := coK_succ b k
      generalize coK b k = s at *
      have u1 := upV_le (x := s.x) (m := 3) (by decide) (by decide)
      unfold coStep at hs
      obtain ⟨K, hK⟩ : ∃ K : Nat, upV s.x 3 = (K : Int) := ⟨(upV s.x 3).toNat, by omega⟩
      rw [hK, Int.toNat_natCast] at hs
      generalize hy : upS s.x 3 = y at *
      repeat' (first | refine zq0 ?_ | refine zq1 ?_ | refine zq2 ?_ | refine zq3 ?_ | refine zq4 ?_ | refine zq5 ?_ | refine uv ?_ | refine uk ?_ | refine uw ?_ | refine uz ?_ | refine uj ?_ | refine ux ?_ | refine uq (by decide) ?_ | ((first | refine vx env fun Q hQ => ?_ | refine vz fun Q hQ => ?_); simp only [vkt, Nat.reduceEqDiff, Nat.reduceAdd, Nat.reduceMul, Nat.reduceSub, Nat.reduceLeDiff, reduceCtorEq, ↓reduceIte, ↓reduceDIte, Int.reduceToNat, Int.reduceLE, Int.reduceLT, Int.reduceEq, Int.reduceNeg, tbG9_27, xbG9_2, List.map_cons, List.map_nil, List.length_cons, List.length_nil, List.nil_append, List.append_nil, List.cons_append, hK, hy]; (try simp only [ite_and]); (repeat' (first | with_reducible assumption | refine And.intro ?_ ?_ | intro hp)); all_goals (first | (refine hQ _ ?_; clear hQ Q) | (refine hQ _ (fun h => ?_) (fun h => ?_) <;> clear hQ Q <;> (try simp only [vki, reduceCtorEq] at h)) | omega | assumption | with_reducible rfl | (refine vq ?_; kernel_rfl) | skip)))
      refine sym_loop (fun j : { j : Nat // j ≤ K } => lo2 c d e w s y V k K j.1) (fun j => K - j.1) ⟨0, Nat.zero_le _⟩ ?_ fun ⟨j, hj⟩ => ?_
      · (refine Le.ok some [] ?_; constructor; all_goals (try simp only [vle, vkt, Nat.reduceEqDiff, Nat.reduceAdd, Nat.reduceMul, Nat.reduceSub, Nat.reduceLeDiff, reduceCtorEq, ↓reduceIte, ↓reduceDIte, Int.reduceToNat, Int.reduceLE, Int.reduceLT, Int.reduceEq, Int.reduceNeg, tbG9_27, xbG9_2, List.map_cons, List.map_nil, List.length_cons, List.length_nil, List.nil_append, List.append_nil, List.cons_append]))
        all_goals first | rfl | (simp [pcK, eInt]; done)
      · repeat' (first | refine zq0 ?_ | refine zq1 ?_ | refine zq2 ?_ | refine zq3 ?_ | refine zq4 ?_ | refine zq5 ?_ | refine uv ?_ | refine uk ?_ | refine uw ?_ | refine uz ?_ | refine uj ?_ | refine ux ?_ | refine uq (by decide) ?_)
        (refine vx env fun Q hQ => ?_; simp only [vkt, Nat.reduceEqDiff, Nat.reduceAdd, Nat.reduceMul, Nat.reduceSub, Nat.reduceLeDiff, reduceCtorEq, ↓reduceIte, ↓reduceDIte, Int.reduceToNat, Int.reduceLE, Int.reduceLT, Int.reduceEq, Int.reduceNeg, tbG9_27, xbG9_2, List.map_cons, List.map_nil, List.length_cons, List.length_nil, List.nil_append, List.append_nil, List.cons_append]; (try simp only [ite_and]); (repeat' (first | with_reducible assumption | refine And.intro ?_ ?_ | intro hp)); all_goals (first | (refine hQ _ ?_; clear hQ Q) | omega | assumption | with_reducible rfl | (refine vq ?_; kernel_rfl) | skip))
        repeat' (first | refine zq0 ?_ | refine zq1 ?_ | refine zq2 ?_ | refine zq3 ?_ | refine zq4 ?_ | refine zq5 ?_ | refine uv ?_ | refine uk ?_ | refine uw ?_ | refine uz ?_ | refine uj ?_ | refine ux ?_ | refine uq (by decide) ?_)
        (refine sym_cd (by simp only [vkt, Nat.reduceEqDiff, Nat.reduceAdd, Nat.reduceMul, Nat.reduceSub, Nat.reduceLeDiff, reduceCtorEq, ↓reduceIte, ↓reduceDIte, Int.reduceToNat, Int.reduceLE, Int.reduceLT, Int.reduceEq, Int.reduceNeg, tbG9_27, xbG9_2, List.map_cons, List.map_nil, List.length_cons, List.length_nil, List.nil_append, List.append_nil, List.cons_append]; rfl) (fun h => ?_) (fun h => ?_) <;> (try simp only [vki, reduceCtorEq] at h))
        · have hjl : j < K := by omega
          have pk := pcK_ok y j
          have pl := pk.len
          have pb := pk.le j (Nat.le_refl _)
          have hp1 := pcK_1 y j
          have hp2 := (pcK_2 y j).symm
          have q1 := upV_le (x := (pcK y j).2) (m := 12 - 1) (by decide) (by decide)
          generalize (pcK y j).1 = p at *
          generalize (pcK y j).2 = z at *
          have e7 : IntKind.wrap .i64 ((K : Int) - (j : Int) - 1) = (K : Int) - ((j + 1 : Nat) : Int) := by rw [wrap64 (by omega) (by omega)]; omega
          have e8 : IntKind.wrap .i64 (((j + 1 : Nat) : Int) - 1) = (j : Int) := by rw [wrap64 (by omega) (by omega)]; omega
          have e9 : IntKind.wrap .i64 (p.getD j 0 + (1 + upV z (12 - 1))) = p.getD j 0 + (1 + upV z (12 - 1)) := wrap64 (by omega) (by omega)
          have e5 : j < p.length := by omega
          have m1 : (j + 1 + 1) * 8 ≤ 140737488355328 ∧ j + 1 + 1 ≤ maxLen := by omega
          have e6 := gI0 e5
          have e4 : p.map eInt ++ [[.v (.int .i64 (p.getD j 0 + (1 + upV z (12 - 1))))]] = (pcK y (j + 1)).1.map eInt := by rw [hp1, List.map_append]; rfl
          repeat' (first | refine zq0 ?_ | refine zq1 ?_ | refine zq2 ?_ | refine zq3 ?_ | refine zq4 ?_ | refine zq5 ?_ | refine uv ?_ | refine uk ?_ | refine uw ?_ | refine uz ?_ | refine uj ?_ | refine ux ?_ | refine uq (by decide) ?_ | ((first | refine vx env fun Q hQ => ?_ | refine vz fun Q hQ => ?_); simp only [vkt, Nat.reduceEqDiff, Nat.reduceAdd, Nat.reduceMul, Nat.reduceSub, Nat.reduceLeDiff, reduceCtorEq, ↓reduceIte, ↓reduceDIte, Int.reduceToNat, Int.reduceLE, Int.reduceLT, Int.reduceEq, Int.reduceNeg, tbG9_27, xbG9_2, List.map_cons, List.map_nil, List.length_cons, List.length_nil, List.nil_append, List.append_nil, List.cons_append, e7, e8, e6, e9, e4, pl, hp2]; (try simp only [ite_and]); (repeat' (first | with_reducible assumption | refine And.intro ?_ ?_ | intro hp)); all_goals (first | (refine hQ _ ?_; clear hQ Q) | (refine hQ _ (fun h => ?_) (fun h => ?_) <;> clear hQ Q <;> (try simp only [vki, reduceCtorEq] at h)) | omega | assumption | with_reducible rfl | (refine vq ?_; kernel_rfl) | skip)))
          refine ⟨⟨j + 1, hjl⟩, by show K - (j + 1) < K - j; omega, ?_⟩
          (refine Le.ok (fun j => if j = 5 then some 7 else some j) [] ?_; constructor; all_goals (try simp only [vle, vkt, Nat.reduceEqDiff, Nat.reduceAdd, Nat.reduceMul, Nat.reduceSub, Nat.reduceLeDiff, reduceCtorEq, ↓reduceIte, ↓reduceDIte, Int.reduceToNat, Int.reduceLE, Int.reduceLT, Int.reduceEq, Int.reduceNeg, tbG9_27, xbG9_2, List.map_cons, List.map_nil, List.length_cons, List.length_nil, List.nil_append, List.append_nil, List.cons_append]))
          all_goals first | rfl | (simp; done)
        · have hjk : j = K := by omega
          subst hjk
          have okc := ok.c
          have okl := ok.l
          have pl := (pcK_ok y j).len
          generalize hq1 : (pcK y j).1 = p at *
          generalize hq2 : (pcK y j).2 = z at *
          refine sym_le (S' := lo3 c d e w s p z V k) ?_ ?_
          · (refine Le.ok some [5] ?_; constructor; all_goals (try simp only [vle, vkt, Nat.reduceEqDiff, Nat.reduceAdd, Nat.reduceMul, Nat.reduceSub, Nat.reduceLeDiff, reduceCtorEq, ↓reduceIte, ↓reduceDIte, Int.reduceToNat, Int.reduceLE, Int.reduceLT, Int.reduceEq, Int.reduceNeg, tbG9_27, xbG9_2, List.map_cons, List.map_nil, List.length_cons, List.length_nil, List.nil_append, List.append_nil, List.cons_append]))
            all_goals first | rfl | (simp [hq1, hq2]; done) | (rw [hq1]; exact ⟨_, _, rfl⟩) | exact ⟨_, _, rfl⟩
          have m1 : (k + 1) * 24 ≤ 140737488355328 ∧ (k + 1) * 8 ≤ 140737488355328 ∧ k + 1 ≤ maxLen := by omega
          have e7 : IntKind.wrap .i64 ((V : Int) - (k : Int) - 1) = (V : Int) - ((k + 1 : Nat) : Int) := by rw [wrap64 (by omega) (by omega)]; omega
          have e4 : s.cs.map eInts ++ [[.sl (p.map eInt)]] = (s.cs ++ [p]).map eInts := by rw [List.map_append]; rfl
          have e5 : s.ss.map eInt ++ [[.v (.int .i64 (upV z 200))]] = (s.ss ++ [upV z 200]).map eInt := by rw [List.map_append]; rfl
          repeat' (first | refine zq0 ?_ | refine zq1 ?_ | refine zq2 ?_ | refine zq3 ?_ | refine zq4 ?_ | refine zq5 ?_ | refine uv ?_ | refine uk ?_ | refine uw ?_ | refine uz ?_ | refine uj ?_ | refine ux ?_ | refine uq (by decide) ?_ | ((first | refine vx env fun Q hQ => ?_ | refine vz fun Q hQ => ?_); simp only [vkt, Nat.reduceEqDiff, Nat.reduceAdd, Nat.reduceMul, Nat.reduceSub, Nat.reduceLeDiff, reduceCtorEq, ↓reduceIte, ↓reduceDIte, Int.reduceToNat, Int.reduceLE, Int.reduceLT, Int.reduceEq, Int.reduceNeg, tbG9_27, xbG9_2, List.map_cons, List.map_nil, List.length_cons, List.length_nil, List.nil_append, List.append_nil, List.cons_append, e7, e4, e5, okc, okl]; (try simp only [ite_and]); (repeat' (first | with_reducible assumption | refine And.intro ?_ ?_ | intro hp)); all_goals (first | (refine hQ _ ?_; clear hQ Q) | (refine hQ _ (fun h => ?_) (fun h => ?_) <;> clear hQ Q <;> (try simp only [vki, reduceCtorEq] at h)) | omega | assumption | with_reducible rfl | (refine vq ?_; kernel_rfl) | skip)))
          refine ⟨⟨k + 1, hlt⟩, by show V - (k + 1) < V - k; omega, ?_⟩
          (refine Le.ok (fun j => if j = 3 then some 6 else if j = 4 then some 8 else some j) [] ?_; constructor; all_goals (try simp only [vle, vkt, Nat.reduceEqDiff, Nat.reduceAdd, Nat.reduceMul, Nat.reduceSub, Nat.reduceLeDiff, reduceCtorEq, ↓reduceIte, ↓reduceDIte, Int.reduceToNat, Int.reduceLE, Int.reduceLT, Int.reduceEq, Int.reduceNeg, tbG9_27, xbG9_2, List.map_cons, List.map_nil, List.length_cons, List.length_nil, List.nil_append, List.append_nil, List.cons_append]))
          all_goals first | rfl | (simp [hs]; done)
    · have hkV : k = V := by omega
      subst hkV
      have ok := coK_ok b k
      have g2 : lg2 x c d = dyK ((lg1 x c).cs.length - 1) (upS (lg1 x c).x (d - 1)) (1 + upV (lg1 x c).x (d - 1)).toNat := rfl
      have g3 : lg3 x c d e w = enK (lg1 x c).cs.length (lg2 x c d).1 w ⟨0, (lg1 x c).ss, [], upS (lg2 x c d).2 e⟩ (upV (lg2 x c d).2 e).toNat := rfl
      have gL : lgL x c d e w = ⟨(lg1 x c).cs, (lg2 x c d).1, (lg1 x c).ss, (lg3 x c d e w).es⟩ := rfl
      have gS : lgS x c d e w = (lg3 x c d e w).x := rfl
      generalize lg1 x c = co at *
      rw [← g1] at ok ⊢
      clear g1 hb
      have okc := ok.c
      have okl := ok.l
      have hu2 := upV_le (x := co.x) (m := d - 1) (by omega) (by omega)
      obtain ⟨W, hW⟩ : ∃ W : Nat, 1 + upV co.x (d - 1) = (W : Int) := ⟨(1 + upV co.x (d - 1)).toNat, by omega⟩
      have hW1 : 1 ≤ W ∧ W ≤ 4 := by omega
      obtain ⟨m, hm⟩ : ∃ m, m + 1 = co.cs.length := ⟨co.cs.length - 1, by omega⟩
      have hmC : co.cs.length - 1 = m := by omega
      rw [hW, hmC, Int.toNat_natCast] at g2
      generalize hb2 : upS co.x (d - 1) = b2 at *
      repeat' (first | refine zq0 ?_ | refine zq1 ?_ | refine zq2 ?_ | refine zq3 ?_ | refine zq4 ?_ | refine zq5 ?_ | refine uv ?_ | refine uk ?_ | refine uw ?_ | refine uz ?_ | refine uj ?_ | refine ux ?_ | refine uq (by decide) ?_ | ((first | refine vx env fun Q hQ => ?_ | refine vz fun Q hQ => ?_); simp only [vkt, Nat.reduceEqDiff, Nat.reduceAdd, Nat.reduceMul, Nat.reduceSub, Nat.reduceLeDiff, reduceCtorEq, ↓reduceIte, ↓reduceDIte, Int.reduceToNat, Int.reduceLE, Int.reduceLT, Int.reduceEq, Int.reduceNeg, tbG9_27, xbG9_2, List.map_cons, List.map_nil, List.length_cons, List.length_nil, List.nil_append, List.append_nil, List.cons_append, md, hW, hb2]; (try simp only [ite_and]); (repeat' (first | with_reducible assumption | refine And.intro ?_ ?_ | intro hp)); all_goals (first | (refine hQ _ ?_; clear hQ Q) | (refine hQ _ (fun h => ?_) (fun h => ?_) <;> clear hQ Q <;> (try simp only [vki, reduceCtorEq] at h)) | omega | assumption | with_reducible rfl | (refine vq ?_; kernel_rfl) | skip)))
      refine sym_loop (fun k : { k : Nat // k ≤ W } => ld1 c d e w co m b2 W k.1) (fun k => W - k.1) ⟨0, Nat.zero_le _⟩ ?_ fun ⟨i, hi⟩ => ?_
      · (refine Le.ok (fun j => if j = 5 then none else some j) [] ?_; constructor; all_goals (try simp only [vle, vkt, Nat.reduceEqDiff, Nat.reduceAdd, Nat.reduceMul, Nat.reduceSub, Nat.reduceLeDiff, reduceCtorEq, ↓reduceIte, ↓reduceDIte, Int.reduceToNat, Int.reduceLE, Int.reduceLT, Int.reduceEq, Int.reduceNeg, tbG9_27, xbG9_2, List.map_cons, List.map_nil, List.length_cons, List.length_nil, List.nil_append, List.append_nil, List.cons_append]))
        all_goals first | rfl | (simp [dyK, hb2, hW]; done)
      · repeat' (first | refine zq0 ?_ | refine zq1 ?_ | refine zq2 ?_ | refine zq3 ?_ | refine zq4 ?_ | refine zq5 ?_ | refine uv ?_ | refine uk ?_ | refine uw ?_ | refine uz ?_ | refine uj ?_ | refine ux ?_ | refine uq (by decide) ?_)
        (refine vx env fun Q hQ => ?_; simp only [vkt, Nat.reduceEqDiff, Nat.reduceAdd, Nat.reduceMul, Nat.reduceSub, Nat.reduceLeDiff, reduceCtorEq, ↓reduceIte, ↓reduceDIte, Int.reduceToNat, Int.reduceLE, Int.reduceLT, Int.reduceEq, Int.reduceNeg, tbG9_27, xbG9_2, List.map_cons, List.map_nil, List.length_cons, List.length_nil, List.nil_append, List.append_nil, List.cons_append]; (try simp only [ite_and]); (repeat' (first | with_reducible assumption | refine And.intro ?_ ?_ | intro hp)); all_goals (first | (refine hQ _ ?_; clear hQ Q) | omega | assumption | with_reducible rfl | (refine vq ?_; kernel_rfl) | skip))
        repeat' (first | refine zq0 ?_ | refine zq1 ?_ | refine zq2 ?_ | refine zq3 ?_ | refine zq4 ?_ | refine zq5 ?_ | refine uv ?_ | refine uk ?_ | refine uw ?_ | refine uz ?_ | refine uj ?_ | refine ux ?_ | refine uq (by decide) ?_)
        (refine sym_cd (by simp only [vkt, Nat.reduceEqDiff, Nat.reduceAdd, Nat.reduceMul, Nat.reduceSub, Nat.reduceLeDiff, reduceCtorEq, ↓reduceIte, ↓reduceDIte, Int.reduceToNat, Int.reduceLE, Int.reduceLT, Int.reduceEq, Int.reduceNeg, tbG9_27, xbG9_2, List.map_cons, List.map_nil, List.length_cons, List.length_nil, List.nil_append, List.append_nil, List.cons_append]; rfl) (fun h => ?_) (fun h => ?_) <;> (try simp only [vki, reduceCtorEq] at h))
        · have hlt : i < W := by omega
          have okd := dyK_ok m b2 i
          have hs1 := dyK_1 m b2 i
          have hs2 := dyK_2 m b2 i
          generalize (dyK m b2 i).1 = rs at *
          generalize (dyK m b2 i).2 = y at *
          repeat' (first | refine zq0 ?_ | refine zq1 ?_ | refine zq2 ?_ | refine zq3 ?_ | refine zq4 ?_ | refine zq5 ?_ | refine uv ?_ | refine uk ?_ | refine uw ?_ | refine uz ?_ | refine uj ?_ | refine ux ?_ | refine uq (by decide) ?_ | ((first | refine vx env fun Q hQ => ?_ | refine vz fun Q hQ => ?_); simp only [vkt, Nat.reduceEqDiff, Nat.reduceAdd, Nat.reduceMul, Nat.reduceSub, Nat.reduceLeDiff, reduceCtorEq, ↓reduceIte, ↓reduceDIte, Int.reduceToNat, Int.reduceLE, Int.reduceLT, Int.reduceEq, Int.reduceNeg, tbG9_27, xbG9_2, List.map_cons, List.map_nil, List.length_cons, List.length_nil, List.nil_append, List.append_nil, List.cons_append]; (try simp only [ite_and]); (repeat' (first | with_reducible assumption | refine And.intro ?_ ?_ | intro hp)); all_goals (first | (refine hQ _ ?_; clear hQ Q) | (refine hQ _ (fun h => ?_) (fun h => ?_) <;> clear hQ Q <;> (try simp only [vki, reduceCtorEq] at h)) | omega | assumption | with_reducible rfl | (refine vq ?_; kernel_rfl) | skip)))
          refine sym_loop (fun j : { j : Nat // j ≤ m } => ld2 c d e w co rs y W i j.1) (fun j => m - j.1) ⟨0, Nat.zero_le _⟩ ?_ fun ⟨j, hj⟩ => ?_
          · (refine Le.ok some [] ?_; constructor; all_goals (try simp only [vle, vkt, Nat.reduceEqDiff, Nat.reduceAdd, Nat.reduceMul, Nat.reduceSub, Nat.reduceLeDiff, reduceCtorEq, ↓reduceIte, ↓reduceDIte, Int.reduceToNat, Int.reduceLE, Int.reduceLT, Int.reduceEq, Int.reduceNeg, tbG9_27, xbG9_2, List.map_cons, List.map_nil, List.length_cons, List.length_nil, List.nil_append, List.append_nil, List.cons_append]))
            all_goals first | rfl | (simp [rtK, eSh]; done)
          · repeat' (first | refine zq0 ?_ | refine zq1 ?_ | refine zq2 ?_ | refine zq3 ?_ | refine zq4 ?_ | refine zq5 ?_ | refine uv ?_ | refine uk ?_ | refine uw ?_ | refine uz ?_ | refine uj ?_ | refine ux ?_ | refine uq (by decide) ?_)
            (refine vx env fun Q hQ => ?_; simp only [vkt, Nat.reduceEqDiff, Nat.reduceAdd, Nat.reduceMul, Nat.reduceSub, Nat.reduceLeDiff, reduceCtorEq, ↓reduceIte, ↓reduceDIte, Int.reduceToNat, Int.reduceLE, Int.reduceLT, Int.reduceEq, Int.reduceNeg, tbG9_27, xbG9_2, List.map_cons, List.map_nil, List.length_cons, List.length_nil, List.nil_append, List.append_nil, List.cons_append]; (try simp only [ite_and]); (repeat' (first | with_reducible assumption | refine And.intro ?_ ?_ | intro hp)); all_goals (first | (refine hQ _ ?_; clear hQ Q) | omega | assumption | with_reducible rfl | (refine vq ?_; kernel_rfl) | skip))
            repeat' (first | refine zq0 ?_ | refine zq1 ?_ | refine zq2 ?_ | refine zq3 ?_ | refine zq4 ?_ | refine zq5 ?_ | refine uv ?_ | refine uk ?_ | refine uw ?_ | refine uz ?_ | refine uj ?_ | refine ux ?_ | refine uq (by decide) ?_)
            (refine sym_cd (by simp only [vkt, Nat.reduceEqDiff, Nat.reduceAdd, Nat.reduceMul, Nat.reduceSub, Nat.reduceLeDiff, reduceCtorEq, ↓reduceIte, ↓reduceDIte, Int.reduceToNat, Int.reduceLE, Int.reduceLT, Int.reduceEq, Int.reduceNeg, tbG9_27, xbG9_2, List.map_cons, List.map_nil, List.length_cons, List.length_nil, List.nil_append, List.append_nil, List.cons_append]; rfl) (fun h => ?_) (fun h => ?_) <;> (try simp only [vki, reduceCtorEq] at h))
            · have hjl : j < m := by omega
              have pl := (rtK_ok y j).len
              have hp1 := rtK_1 y j
              have hp2 := (rtK_2 y j).symm
              generalize (rtK y j).1 = r at *
              generalize (rtK y j).2 = z at *
              have e7 : IntKind.wrap .i64 ((j : Int) + 1 + 1) = ((j + 1 : Nat) : Int) + 1 := by rw [wrap64 (by omega) (by omega)]; omega
              have m1 : (j + 1 + 1) * 16 ≤ 140737488355328 ∧ j + 1 + 1 ≤ maxLen := by omega
              have e4 : r.map eSh ++ [[.v (.int .i64 (rtV z).num), .v (.int .i64 (rtV z).den)]] = (rtK y (j + 1)).1.map eSh := by rw [hp1, List.map_append]; rfl
              repeat' (first | refine zq0 ?_ | refine zq1 ?_ | refine zq2 ?_ | refine zq3 ?_ | refine zq4 ?_ | refine zq5 ?_ | refine uv ?_ | refine uk ?_ | refine uw ?_ | refine uz ?_ | refine uj ?_ | refine ux ?_ | refine uq (by decide) ?_ | ((first | refine vx env fun Q hQ => ?_ | refine vz fun Q hQ => ?_); simp only [vkt, Nat.reduceEqDiff, Nat.reduceAdd, Nat.reduceMul, Nat.reduceSub, Nat.reduceLeDiff, reduceCtorEq, ↓reduceIte, ↓reduceDIte, Int.reduceToNat, Int.reduceLE, Int.reduceLT, Int.reduceEq, Int.reduceNeg, tbG9_27, xbG9_2, List.map_cons, List.map_nil, List.length_cons, List.length_nil, List.nil_append, List.append_nil, List.cons_append, e7, e4, pl, hp2]; (try simp only [ite_and]); (repeat' (first | with_reducible assumption | refine And.intro ?_ ?_ | intro hp)); all_goals (first | (refine hQ _ ?_; clear hQ Q) | (refine hQ _ (fun h => ?_) (fun h => ?_) <;> clear hQ Q <;> (try simp only [vki, reduceCtorEq] at h)) | omega | assumption | with_reducible rfl | (refine vq ?_; kernel_rfl) | skip)))
              refine ⟨⟨j + 1, hjl⟩, by show m - (j + 1) < m - j; omega, ?_⟩
              (refine Le.ok (fun j => if j = 6 then some 8 else some j) [] ?_; constructor; all_goals (try simp only [vle, vkt, Nat.reduceEqDiff, Nat.reduceAdd, Nat.reduceMul, Nat.reduceSub, Nat.reduceLeDiff, reduceCtorEq, ↓reduceIte, ↓reduceDIte, Int.reduceToNat, Int.reduceLE, Int.reduceLT, Int.reduceEq, Int.reduceNeg, tbG9_27, xbG9_2, List.map_cons, List.map_nil, List.length_cons, List.length_nil, List.nil_append, List.append_nil, List.cons_append]))
              all_goals first | rfl | (simp; done)
            · have hjm : j = m := by omega
              subst hjm
              generalize hq1 : (rtK y j).1 = r at *
              generalize hq2 : (rtK y j).2 = z at *
              have okd1 := okd.1
              refine sym_le (S' := ld3 c d e w co rs r z W i) ?_ ?_
              · (refine Le.ok some [6] ?_; constructor; all_goals (try simp only [vle, vkt, Nat.reduceEqDiff, Nat.reduceAdd, Nat.reduceMul, Nat.reduceSub, Nat.reduceLeDiff, reduceCtorEq, ↓reduceIte, ↓reduceDIte, Int.reduceToNat, Int.reduceLE, Int.reduceLT, Int.reduceEq, Int.reduceNeg, tbG9_27, xbG9_2, List.map_cons, List.map_nil, List.length_cons, List.length_nil, List.nil_append, List.append_nil, List.cons_append]))
                all_goals first | rfl | (simp [hq1, hq2]; done) | (rw [hq1]; exact ⟨_, _, rfl⟩) | exact ⟨_, _, rfl⟩
              have m1 : (i + 1) * 24 ≤ 140737488355328 ∧ i + 1 ≤ maxLen := by omega
              have e7 : IntKind.wrap .i64 ((W : Int) - (i : Int) - 1) = (W : Int) - ((i + 1 : Nat) : Int) := by rw [wrap64 (by omega) (by omega)]; omega
              have e4 : rs.map eShs ++ [[.sl (r.map eSh)]] = (rs ++ [r]).map eShs := by rw [List.map_append]; rfl
              repeat' (first | refine zq0 ?_ | refine zq1 ?_ | refine zq2 ?_ | refine zq3 ?_ | refine zq4 ?_ | refine zq5 ?_ | refine uv ?_ | refine uk ?_ | refine uw ?_ | refine uz ?_ | refine uj ?_ | refine ux ?_ | refine uq (by decide) ?_ | ((first | refine vx env fun Q hQ => ?_ | refine vz fun Q hQ => ?_); simp only [vkt, Nat.reduceEqDiff, Nat.reduceAdd, Nat.reduceMul, Nat.reduceSub, Nat.reduceLeDiff, reduceCtorEq, ↓reduceIte, ↓reduceDIte, Int.reduceToNat, Int.reduceLE, Int.reduceLT, Int.reduceEq, Int.reduceNeg, tbG9_27, xbG9_2, List.map_cons, List.map_nil, List.length_cons, List.length_nil, List.nil_append, List.append_nil, List.cons_append, e7, e4, okd1]; (try simp only [ite_and]); (repeat' (first | with_reducible assumption | refine And.intro ?_ ?_ | intro hp)); all_goals (first | (refine hQ _ ?_; clear hQ Q) | (refine hQ _ (fun h => ?_) (fun h => ?_) <;> clear hQ Q <;> (try simp only [vki, reduceCtorEq] at h)) | omega | assumption | with_reducible rfl | (refine vq ?_; kernel_rfl) | skip)))
              refine ⟨⟨i + 1, hlt⟩, by show W - (i + 1) < W - i; omega, ?_⟩
              (refine Le.ok (fun j => if j = 5 then some 7 else some j) [] ?_; constructor; all_goals (try simp only [vle, vkt, Nat.reduceEqDiff, Nat.reduceAdd, Nat.reduceMul, Nat.reduceSub, Nat.reduceLeDiff, reduceCtorEq, ↓reduceIte, ↓reduceDIte, Int.reduceToNat, Int.reduceLE, Int.reduceLT, Int.reduceEq, Int.reduceNeg, tbG9_27, xbG9_2, List.map_cons, List.map_nil, List.length_cons, List.length_nil, List.nil_append, List.append_nil, List.cons_append]))
              all_goals first | rfl | (simp [hs1, hs2]; done)
        · have hiW : i = W := by omega
          subst hiW
          have okd := dyK_ok m b2 i
          generalize lg2 x c d = dy at *
          rw [← g2] at okd ⊢
          clear g2 hb2
          obtain ⟨rs, y⟩ := dy
          dsimp only at okd g3 gL ⊢
          obtain ⟨okd1, okd2⟩ := okd
          subst okd1
          subst okc
          have hrs : RsOk rs co.cs.length := ⟨by omega, fun r hr => by have := okd2 r hr; rwa [hm] at this⟩
          have hC : 1 ≤ co.cs.length ∧ co.cs.length ≤ 4 := by omega
          have hu3 := upV_le (x := y) (m := e) (by omega) (by omega)
          obtain ⟨U, hU⟩ : ∃ U : Nat, upV y e = (U : Int) := ⟨(upV y e).toNat, by omega⟩
          rw [hU, Int.toNat_natCast] at g3
          have hU6 : U ≤ 6 := by omega
          have m6 : co.ss.length ≤ 100000 := by omega
          have m7 : e < 9223372036854775807 := by omega
          generalize hy3 : upS y e = y3 at *
          have hI0 : EnI co.cs.length rs.length 0 ⟨0, co.ss, [], y3⟩ := ⟨Int.le_refl _, by show (0 : Int) ≤ _; omega, okl, fun v hv => by have := ok.v v hv; omega, Nat.le_refl _⟩
          have hIk := enK_ok hrs hC (w := w) hI0
          have hE0 : enK co.cs.length rs w ⟨0, co.ss, [], y3⟩ 0 = ⟨0, co.ss, [], y3⟩ := rfl
          have hst := enK_1 co.cs.length rs w ⟨0, co.ss, [], y3⟩
          generalize enK co.cs.length rs w ⟨0, co.ss, [], y3⟩ = EK at *
          repeat' (first | refine zq0 ?_ | refine zq1 ?_ | refine zq2 ?_ | refine zq3 ?_ | refine zq4 ?_ | refine zq5 ?_ | refine uv ?_ | refine uk ?_ | refine uw ?_ | refine uz ?_ | refine uj ?_ | refine ux ?_ | refine uq (by decide) ?_ | ((first | refine vx env fun Q hQ => ?_ | refine vz fun Q hQ => ?_); simp only [vkt, Nat.reduceEqDiff, Nat.reduceAdd, Nat.reduceMul, Nat.reduceSub, Nat.reduceLeDiff, reduceCtorEq, ↓reduceIte, ↓reduceDIte, Int.reduceToNat, Int.reduceLE, Int.reduceLT, Int.reduceEq, Int.reduceNeg, tbG9_27, xbG9_2, List.map_cons, List.map_nil, List.length_cons, List.length_nil, List.nil_append, List.append_nil, List.cons_append, me, hU, hy3]; (try simp only [ite_and]); (repeat' (first | with_reducible assumption | refine And.intro ?_ ?_ | intro hp)); all_goals (first | (refine hQ _ ?_; clear hQ Q) | (refine hQ _ (fun h => ?_) (fun h => ?_) <;> clear hQ Q <;> (try simp only [vki, reduceCtorEq] at h)) | omega | assumption | with_reducible rfl | (refine vq ?_; kernel_rfl) | skip)))
          all_goals first | exact ⟨_, _, rfl⟩ | skip
          refine sym_loop (fun k : { k : Nat // k ≤ U } => le1 c d e w co rs (EK k.1) U k.1) (fun k => U - k.1) ⟨0, Nat.zero_le _⟩ ?_ fun ⟨q, hq⟩ => ?_
          · (refine Le.ok (fun j => if j = 7 then none else some j) [] ?_; constructor; all_goals (try simp only [vle, vkt, Nat.reduceEqDiff, Nat.reduceAdd, Nat.reduceMul, Nat.reduceSub, Nat.reduceLeDiff, reduceCtorEq, ↓reduceIte, ↓reduceDIte, Int.reduceToNat, Int.reduceLE, Int.reduceLT, Int.reduceEq, Int.reduceNeg, tbG9_27, xbG9_2, List.map_cons, List.map_nil, List.length_cons, List.length_nil, List.nil_append, List.append_nil, List.cons_append]))
            all_goals first | rfl | (simp [hE0, hU]; done)
          · repeat' (first | refine zq0 ?_ | refine zq1 ?_ | refine zq2 ?_ | refine zq3 ?_ | refine zq4 ?_ | refine zq5 ?_ | refine uv ?_ | refine uk ?_ | refine uw ?_ | refine uz ?_ | refine uj ?_ | refine ux ?_ | refine uq (by decide) ?_)
            (refine vx env fun Q hQ => ?_; simp only [vkt, Nat.reduceEqDiff, Nat.reduceAdd, Nat.reduceMul, Nat.reduceSub, Nat.reduceLeDiff, reduceCtorEq, ↓reduceIte, ↓reduceDIte, Int.reduceToNat, Int.reduceLE, Int.reduceLT, Int.reduceEq, Int.reduceNeg, tbG9_27, xbG9_2, List.map_cons, List.map_nil, List.length_cons, List.length_nil, List.nil_append, List.append_nil, List.cons_append]; (try simp only [ite_and]); (repeat' (first | with_reducible assumption | refine And.intro ?_ ?_ | intro hp)); all_goals (first | (refine hQ _ ?_; clear hQ Q) | omega | assumption | with_reducible rfl | (refine vq ?_; kernel_rfl) | skip))
            repeat' (first | refine zq0 ?_ | refine zq1 ?_ | refine zq2 ?_ | refine zq3 ?_ | refine zq4 ?_ | refine zq5 ?_ | refine uv ?_ | refine uk ?_ | refine uw ?_ | refine uz ?_ | refine uj ?_ | refine ux ?_ | refine uq (by decide) ?_)
            (refine sym_cd (by simp only [vkt, Nat.reduceEqDiff, Nat.reduceAdd, Nat.reduceMul, Nat.reduceSub, Nat.reduceLeDiff, reduceCtorEq, ↓reduceIte, ↓reduceDIte, Int.reduceToNat, Int.reduceLE, Int.reduceLT, Int.reduceEq, Int.reduceNeg, tbG9_27, xbG9_2, List.map_cons, List.map_nil, List.length_cons, List.length_nil, List.nil_append, List.append_nil, List.cons_append]; rfl) (fun h => ?_) (fun h => ?_) <;> (try simp only [vki, reduceCtorEq] at h))
            · have hlt : q < U := by omega
              have hI := hIk q
              have hJ := enJ_of hrs hC hI
              have hst := hst q
              generalize EK q = t at *
              unfold enStep enK0 enX2 kinds at hst
              unfold enX2 at hJ
              have hDb := enD_bd hI (by omega)
              obtain ⟨D, hD⟩ : ∃ D, enD rs.length t = D := ⟨_, rfl⟩
              obtain ⟨X1, hX1⟩ : ∃ X1, enX1 rs.length t = X1 := ⟨_, rfl⟩
              rw [hD] at hst hJ
              rw [hX1] at hst hJ
              have hD' : t.day + upV t.x (min (t.day + 1) ((rs.length : Int) - 1) - t.day) = D := hD
              have hX1' : upS t.x (min (t.day + 1) ((rs.length : Int) - 1) - t.day) = X1 := hX1
              clear hD hX1 hDb
              obtain ⟨κ, hκ⟩ : ∃ κ, oneV X1 [1, 2, 3, 3, 3, 4] = κ := ⟨_, rfl⟩
              obtain ⟨X2, hX2⟩ : ∃ X2, upS X1 ((6 : Nat) - 1) = X2 := ⟨_, rfl⟩
              rw [hκ, hX2] at hst
              rw [hX2] at hJ
              obtain ⟨cn, hcn⟩ : ∃ cn, upV X2 ((co.cs.length : Int) - 1) = cn := ⟨_, rfl⟩
              obtain ⟨X3, hX3⟩ : ∃ X3, upS X2 ((co.cs.length : Int) - 1) = X3 := ⟨_, rfl⟩
              rw [hcn] at hst hJ
              rw [hX3] at hst
              have t1 := hI.len
              have t2 := hI.es
              have t3 := hI.d0
              have t4 := hI.d1
              have j1 := hJ.d0
              have j2 := hJ.d1
              have j3 := hJ.c0
              have j4 := hJ.c1
              have j5 := hJ.h
              have wD : IntKind.wrap .i64 (t.day + 1) = t.day + 1 := wrap64 (by omega) (by omega)
              have wR : IntKind.wrap .i64 ((rs.length : Int) - 1) = (rs.length : Int) - 1 := wrap64 (by omega) (by omega)
              have wC : IntKind.wrap .i64 ((co.cs.length : Int) - 1) = (co.cs.length : Int) - 1 := wrap64 (by omega) (by omega)
              have e7 : IntKind.wrap .i64 ((U : Int) - (q : Int) - 1) = (U : Int) - ((q + 1 : Nat) : Int) := by rw [wrap64 (by omega) (by omega)]; omega
              have m1 : (t.es.length + 1) * 48 ≤ 140737488355328 ∧ t.es.length + 1 ≤ maxLen := by omega
              have lc : cn.toNat < t.till.length := by omega
              have e6 := gI0 lc
              have p1 : -100000 ≤ t.day ∧ t.day ≤ 100000 ∧ -100000 ≤ min (t.day + 1) ((rs.length : Int) - 1) ∧ min (t.day + 1) ((rs.length : Int) - 1) ≤ 100000 := by omega
              have p2 : (co.cs.length : Int) - 1 < 9223372036854775807 := by omega
              generalize hh : t.till.getD cn.toNat 0 = hv at *
              by_cases k1 : κ = 1
              · subst k1
                have hst : EK (q + 1) = ⟨D, t.till.set cn.toNat (hv + upV X3 90), t.es ++ [⟨D, 1, cn, 0, upV X3 90, 0⟩], upS X3 90⟩ := by rw [hst]; unfold enS0 enS1; rw [if_pos rfl, hh]
                have u1 := upV_le (x := X3) (m := 90) (by decide) (by decide)
                have w1 : IntKind.wrap .i64 (hv + upV X3 90) = hv + upV X3 90 := wrap64 (by omega) (by omega)
                have e4 : t.es.map eEnt ++ [[.v (.int .i64 D), .v (.int .i64 1), .v (.int .i64 cn), .v (.int .i64 0), .v (.int .i64 (upV X3 90)), .v (.int .i64 0)]] = (t.es ++ [(⟨D, 1, cn, 0, upV X3 90, 0⟩ : Ent)]).map eEnt := by rw [List.map_append]; rfl
                repeat' (first | refine zq0 ?_ | refine zq1 ?_ | refine zq2 ?_ | refine zq3 ?_ | refine zq4 ?_ | refine zq5 ?_ | refine uv ?_ | refine uk ?_ | refine uw ?_ | refine uz ?_ | refine uj ?_ | refine ux ?_ | refine uq (by decide) ?_ | ((first | refine vx env fun Q hQ => ?_ | refine vz fun Q hQ => ?_); simp only [vkt, Nat.reduceEqDiff, Nat.reduceAdd, Nat.reduceMul, Nat.reduceSub, Nat.reduceLeDiff, reduceCtorEq, ↓reduceIte, ↓reduceDIte, Int.reduceToNat, Int.reduceLE, Int.reduceLT, Int.reduceEq, Int.reduceNeg, tbG9_27, xbG9_2, List.map_cons, List.map_nil, List.length_cons, List.length_nil, List.nil_append, List.append_nil, List.cons_append, wD, wR, wC, hD', hX1', hκ, hX2, hcn, hX3, e6, w1, e4, e7, setI]; (try simp only [ite_and]); (repeat' (first | with_reducible assumption | refine And.intro ?_ ?_)); all_goals (first | (refine hQ _ ?_; clear hQ Q) | (refine hQ _ (fun h => ?_) (fun h => ?_) <;> clear hQ Q <;> (try simp only [vki, reduceCtorEq] at h)) | omega | with_reducible assumption | with_reducible rfl | (refine vq ?_; kernel_rfl) | skip)))
                all_goals first | exact ⟨_, _, rfl⟩ | skip
                refine ⟨⟨q + 1, hlt⟩, by show U - (q + 1) < U - q; omega, ?_⟩
                (refine Le.ok (fun j => if j = 7 then some 11 else some j) [] ?_; constructor; all_goals (try simp only [vle, vkt, Nat.reduceEqDiff, Nat.reduceAdd, Nat.reduceMul, Nat.reduceSub, Nat.reduceLeDiff, reduceCtorEq, ↓reduceIte, ↓reduceDIte, Int.reduceToNat, Int.reduceLE, Int.reduceLT, Int.reduceEq, Int.reduceNeg, tbG9_27, xbG9_2, List.map_cons, List.map_nil, List.length_cons, List.length_nil, List.nil_append, List.append_nil, List.cons_append]))
                all_goals first | rfl | (simp [hst]; done)
              by_cases k2 : κ = 2
              · subst k2
                have u1 := upV_bd (x := X3) (m := min hv 90) (by omega)
                have hst : EK (q + 1) = ⟨D, t.till.set cn.toNat (hv - upV X3 (min hv 90)), t.es ++ [(⟨D, 2, cn, 0, upV X3 (min hv 90), 0⟩ : Ent)], upS X3 (min hv 90)⟩ := by rw [hst]; unfold enS0 enS2; rw [if_neg (by decide), if_pos rfl, hh]
                obtain ⟨am, hA⟩ : ∃ am, upV X3 (min hv 90) = am := ⟨_, rfl⟩
                obtain ⟨X4, hX4⟩ : ∃ X4, upS X3 (min hv 90) = X4 := ⟨_, rfl⟩
                rw [hA, hX4] at hst
                rw [hA] at u1
                have p3 : min hv 90 < 9223372036854775807 := by omega
                have w1 : IntKind.wrap .i64 (hv - am) = hv - am := wrap64 (by omega) (by omega)
                have e4 : t.es.map eEnt ++ [[.v (.int .i64 D), .v (.int .i64 2), .v (.int .i64 cn), .v (.int .i64 0), .v (.int .i64 am), .v (.int .i64 0)]] = (t.es ++ [(⟨D, 2, cn, 0, am, 0⟩ : Ent)]).map eEnt := by rw [List.map_append]; rfl
                repeat' (first | refine zq0 ?_ | refine zq1 ?_ | refine zq2 ?_ | refine zq3 ?_ | refine zq4 ?_ | refine zq5 ?_ | refine uv ?_ | refine uk ?_ | refine uw ?_ | refine uz ?_ | refine uj ?_ | refine ux ?_ | refine uq (by decide) ?_ | ((first | refine vx env fun Q hQ => ?_ | refine vz fun Q hQ => ?_); simp only [vkt, Nat.reduceEqDiff, Nat.reduceAdd, Nat.reduceMul, Nat.reduceSub, Nat.reduceLeDiff, reduceCtorEq, ↓reduceIte, ↓reduceDIte, Int.reduceToNat, Int.reduceLE, Int.reduceLT, Int.reduceEq, Int.reduceNeg, tbG9_27, xbG9_2, List.map_cons, List.map_nil, List.length_cons, List.length_nil, List.nil_append, List.append_nil, List.cons_append, wD, wR, wC, hD', hX1', hκ, hX2, hcn, hX3, e6, hA, hX4, w1, e4, e7, setI]; (try simp only [ite_and]); (repeat' (first | with_reducible assumption | refine And.intro ?_ ?_)); all_goals (first | (refine hQ _ ?_; clear hQ Q) | (refine hQ _ (fun h => ?_) (fun h => ?_) <;> clear hQ Q <;> (try simp only [vki, reduceCtorEq] at h)) | omega | with_reducible assumption | with_reducible rfl | (refine vq ?_; kernel_rfl) | skip)))
                all_goals first | exact ⟨_, _, rfl⟩ | skip
                refine ⟨⟨q + 1, hlt⟩, by show U - (q + 1) < U - q; omega, ?_⟩
                (refine Le.ok (fun j => if j = 7 then some 11 else some j) [] ?_; constructor; all_goals (try simp only [vle, vkt, Nat.reduceEqDiff, Nat.reduceAdd, Nat.reduceMul, Nat.reduceSub, Nat.reduceLeDiff, reduceCtorEq, ↓reduceIte, ↓reduceDIte, Int.reduceToNat, Int.reduceLE, Int.reduceLT, Int.reduceEq, Int.reduceNeg, tbG9_27, xbG9_2, List.map_cons, List.map_nil, List.length_cons, List.length_nil, List.nil_append, List.append_nil, List.cons_append]))
                all_goals first | rfl | (simp [hst]; done)
              by_cases k4 : κ = 4
              · subst k4
                have u1 := enA4_bd hv X3
                have u2 := upV_bd (x := X3) (m := 3 - -3) (by decide)
                have hst : EK (q + 1) = ⟨D, t.till.set cn.toNat (enA4 hv X3), t.es ++ [(⟨D, 4, cn, 0, enA4 hv X3, 0⟩ : Ent)], upS (upS X3 (3 - -3)) ((2 : Nat) - 1)⟩ := by rw [hst]; unfold enS0 enS4; rw [if_neg (by decide), if_neg (by decide), if_pos rfl, hh]
                unfold enA4 enF at hst u1
                obtain ⟨f, hf⟩ : ∃ f, -3 + upV X3 (3 - -3) = f := ⟨_, rfl⟩
                obtain ⟨X4, hX4⟩ : ∃ X4, upS X3 (3 - -3) = X4 := ⟨_, rfl⟩
                have hf3 : -3 ≤ f ∧ f ≤ 3 := by omega
                rw [hf, hX4] at hst u1
                have ho := oneV_mem (x := X4) (l := [0, f]) (by simp) (by simp)
                obtain ⟨o, hO⟩ : ∃ o, oneV X4 [0, f] = o := ⟨_, rfl⟩
                obtain ⟨X5, hX5⟩ : ∃ X5, upS X4 ((2 : Nat) - 1) = X5 := ⟨_, rfl⟩
                rw [hO, hX5] at hst
                rw [hO] at u1 ho
                have ho : -3 ≤ o ∧ o ≤ 3 := by simp at ho; omega
                have w1 : IntKind.wrap .i64 (hv + o) = hv + o := wrap64 (by omega) (by omega)
                obtain ⟨am, hA⟩ : ∃ am, max 0 (min 999 (hv + o)) = am := ⟨_, rfl⟩
                rw [hA] at hst
                have e4 : t.es.map eEnt ++ [[.v (.int .i64 D), .v (.int .i64 4), .v (.int .i64 cn), .v (.int .i64 0), .v (.int .i64 am), .v (.int .i64 0)]] = (t.es ++ [(⟨D, 4, cn, 0, am, 0⟩ : Ent)]).map eEnt := by rw [List.map_append]; rfl
                repeat' (first | refine zq0 ?_ | refine zq1 ?_ | refine zq2 ?_ | refine zq3 ?_ | refine zq4 ?_ | refine zq5 ?_ | refine uv ?_ | refine uk ?_ | refine uw ?_ | refine uz ?_ | refine uj ?_ | refine ux ?_ | refine uq (by decide) ?_ | ((first | refine vx env fun Q hQ => ?_ | refine vz fun Q hQ => ?_); simp only [vkt, Nat.reduceEqDiff, Nat.reduceAdd, Nat.reduceMul, Nat.reduceSub, Nat.reduceLeDiff, reduceCtorEq, ↓reduceIte, ↓reduceDIte, Int.reduceToNat, Int.reduceLE, Int.reduceLT, Int.reduceEq, Int.reduceNeg, tbG9_27, xbG9_2, List.map_cons, List.map_nil, List.length_cons, List.length_nil, List.nil_append, List.append_nil, List.cons_append, wD, wR, wC, hD', hX1', hκ, hX2, hcn, hX3, e6, hf, hX4, hO, hX5, w1, hA, e4, e7, setI]; (try simp only [ite_and]); (repeat' (first | with_reducible assumption | refine And.intro ?_ ?_)); all_goals (first | (refine hQ _ ?_; clear hQ Q) | (refine hQ _ (fun h => ?_) (fun h => ?_) <;> clear hQ Q <;> (try simp only [vki, reduceCtorEq] at h)) | omega | with_reducible assumption | with_reducible rfl | (refine vq ?_; kernel_rfl) | skip)))
                all_goals first | exact ⟨_, _, rfl⟩ | skip
                all_goals first | exact ⟨_, _, rfl⟩ | skip
                refine ⟨⟨q + 1, hlt⟩, by show U - (q + 1) < U - q; omega, ?_⟩
                (refine Le.ok (fun j => if j = 7 then some 12 else some j) [] ?_; constructor; all_goals (try simp only [vle, vkt, Nat.reduceEqDiff, Nat.reduceAdd, Nat.reduceMul, Nat.reduceSub, Nat.reduceLeDiff, reduceCtorEq, ↓reduceIte, ↓reduceDIte, Int.reduceToNat, Int.reduceLE, Int.reduceLT, Int.reduceEq, Int.reduceNeg, tbG9_27, xbG9_2, List.map_cons, List.map_nil, List.length_cons, List.length_nil, List.nil_append, List.append_nil, List.cons_append]))
                all_goals first | rfl | (simp [hst]; done)
              have k3 : κ = 3 := by
                have := oneV_mem (x := X1) (l := [1, 2, 3, 3, 3, 4]) (by simp) (by simp)
                rw [hκ] at this
                simp at this
                omega
              subst k3
              unfold enS0 at hst
              rw [if_neg k1, if_neg k2, if_neg k4] at hst
              unfold enS3 at hst
              by_cases cC : co.cs.length = 1
              · rw [if_pos cC] at hst
                have cC' : decide ((co.cs.length : Int) = 1) = true := by simp [cC]
                repeat' (first | refine zq0 ?_ | refine zq1 ?_ | refine zq2 ?_ | refine zq3 ?_ | refine zq4 ?_ | refine zq5 ?_ | refine uv ?_ | refine uk ?_ | refine uw ?_ | refine uz ?_ | refine uj ?_ | refine ux ?_ | refine uq (by decide) ?_ | ((first | refine vx env fun Q hQ => ?_ | refine vz fun Q hQ => ?_); simp only [vkt, Nat.reduceEqDiff, Nat.reduceAdd, Nat.reduceMul, Nat.reduceSub, Nat.reduceLeDiff, reduceCtorEq, ↓reduceIte, ↓reduceDIte, Int.reduceToNat, Int.reduceLE, Int.reduceLT, Int.reduceEq, Int.reduceNeg, tbG9_27, xbG9_2, List.map_cons, List.map_nil, List.length_cons, List.length_nil, List.nil_append, List.append_nil, List.cons_append, wD, wR, wC, hD', hX1', hκ, hX2, hcn, hX3, cC', e7]; (try simp only [ite_and]); (repeat' (first | with_reducible assumption | refine And.intro ?_ ?_)); all_goals (first | (refine hQ _ ?_; clear hQ Q) | (refine hQ _ (fun h => ?_) (fun h => ?_) <;> clear hQ Q <;> (try simp only [vki, reduceCtorEq] at h)) | omega | with_reducible assumption | with_reducible rfl | (refine vq ?_; kernel_rfl) | skip)))
                all_goals first | exact ⟨_, _, rfl⟩ | skip
                refine ⟨⟨q + 1, hlt⟩, by show U - (q + 1) < U - q; omega, ?_⟩
                (refine Le.ok some [] ?_; constructor; all_goals (try simp only [vle, vkt, Nat.reduceEqDiff, Nat.reduceAdd, Nat.reduceMul, Nat.reduceSub, Nat.reduceLeDiff, reduceCtorEq, ↓reduceIte, ↓reduceDIte, Int.reduceToNat, Int.reduceLE, Int.reduceLT, Int.reduceEq, Int.reduceNeg, tbG9_27, xbG9_2, List.map_cons, List.map_nil, List.length_cons, List.length_nil, List.nil_append, List.append_nil, List.cons_append]))
                all_goals first | rfl | (simp [hst]; done)
              · rw [if_neg cC] at hst
                have cC' : ¬ (co.cs.length : Int) = 1 := by omega
                have u1 := upV_le (x := X3) (m := (co.cs.length : Int) - 1 - 1) (by omega) (by omega)
                have wT : IntKind.wrap .i64 (cn + (1 + upV X3 ((co.cs.length : Int) - 1 - 1))) = cn + (1 + upV X3 ((co.cs.length : Int) - 1 - 1)) := wrap64 (by omega) (by omega)
                have hT2 : foldV (cn + (1 + upV X3 ((co.cs.length : Int) - 1 - 1))) (co.cs.length : Int) = enTo co.cs.length cn X3 := rfl
                have hTb : 0 ≤ enTo co.cs.length cn X3 ∧ enTo co.cs.length cn X3 < (co.cs.length : Int) := foldV_bd (by omega)
                obtain ⟨to, hT⟩ : ∃ to, foldV (cn + (1 + upV X3 ((co.cs.length : Int) - 1 - 1))) (co.cs.length : Int) = to := ⟨_, rfl⟩
                rw [← hT2, hT] at hst hTb
                clear hT2
                obtain ⟨X4, hX4⟩ : ∃ X4, upS X3 ((co.cs.length : Int) - 1 - 1) = X4 := ⟨_, rfl⟩
                rw [hX4, hh] at hst
                have u2 := upV_bd (x := X4) (m := min hv 40) (by omega)
                obtain ⟨am, hA⟩ : ∃ am, upV X4 (min hv 40) = am := ⟨_, rfl⟩
                obtain ⟨X5, hX5⟩ : ∃ X5, upS X4 (min hv 40) = X5 := ⟨_, rfl⟩
                rw [hA, hX5] at hst
                rw [hA] at u2
                have am0 : 0 ≤ am ∧ am ≤ 40 ∧ am ≤ hv := by omega
                have s1 := hrs.sh j1 j2 j3 j4
                have s2 := hrs.sh j1 j2 hTb.1 (show to ≤ (co.cs.length : Int) - 1 by omega)
                have hGb := enG0_bd s1 s2 am0.1 am0.2.1
                have lD : D.toNat < rs.length := by omega
                have g1 := gRow lD
                have lR := (okd2 _ (gMem (l := rs) (k := D.toNat) (d := []) lD)).len
                have q1 := s1.n
                have q2 := s1.d
                have q3 := s2.n
                have q4 := s2.d
                obtain ⟨G, hG0⟩ : ∃ G, enG0 rs D cn to am = G := ⟨_, rfl⟩
                unfold enS3a at hst
                rw [hG0] at hst hGb
                unfold enG0 at hG0
                generalize rs.getD D.toNat [] = rw at *
                obtain ⟨f, hf⟩ : ∃ f, rw.getD cn.toNat default = f := ⟨_, rfl⟩
                obtain ⟨g, hg⟩ : ∃ g, rw.getD to.toNat default = g := ⟨_, rfl⟩
                rw [hf] at q1 q2 hG0
                rw [hg] at q3 q4 hG0
                have lf : cn.toNat < rw.length := by omega
                have lg : to.toNat < rw.length := by omega
                have G1 : (rw.map eSh).getD cn.toNat [.v (.int .i64 0), .v (.int .i64 0)] = [.v (.int .i64 f.num), .v (.int .i64 f.den)] := by rw [gSh, hf]; rfl
                have G2 : (rw.map eSh).getD to.toNat [.v (.int .i64 0), .v (.int .i64 0)] = [.v (.int .i64 g.num), .v (.int .i64 g.den)] := by rw [gSh, hg]; rfl
                have m1' : 0 ≤ am * f.num ∧ am * f.num ≤ 800 := ⟨Int.mul_nonneg am0.1 (by omega), Int.le_trans (Int.mul_le_mul am0.2.1 q1.2 (by omega) (by omega)) (by decide)⟩
                have m2' : 0 ≤ am * f.num * g.den ∧ am * f.num * g.den ≤ 9600 := ⟨Int.mul_nonneg m1'.1 (by omega), Int.le_trans (Int.mul_le_mul m1'.2 q4.2 (by omega) (by omega)) (by decide)⟩
                have m3' : 0 < f.den * g.num ∧ f.den * g.num ≤ 240 := ⟨Int.mul_pos (by omega) (by omega), Int.le_trans (Int.mul_le_mul q2.2 q3.2 (by omega) (by omega)) (by decide)⟩
                have wa : IntKind.wrap .i64 (am * f.num) = am * f.num := wrap64 (by omega) (by omega)
                have wb : IntKind.wrap .i64 (am * f.num * g.den) = am * f.num * g.den := wrap64 (by omega) (by omega)
                have wc : IntKind.wrap .i64 (f.den * g.num) = f.den * g.num := wrap64 (by omega) (by omega)
                have nz : ¬ f.den * g.num = 0 := by omega
                have hG : (am * f.num * g.den).tdiv (f.den * g.num) = G := hG0
                have wd : IntKind.wrap .i64 G = G := wrap64 (by omega) (by omega)
                have ltl : to.toNat < t.till.length := by omega
                have g2 := gI0 ltl
                have hht0 := hI.b _ (gMem (l := t.till) (k := to.toNat) (d := 0) ltl)
                obtain ⟨ht, hht⟩ : ∃ ht, t.till.getD to.toNat 0 = ht := ⟨_, rfl⟩
                rw [hht] at g2 hht0
                have w0 : IntKind.wrap .i64 (hv - am) = hv - am := wrap64 (by omega) (by omega)
                have p3 : min hv 40 < 9223372036854775807 := by omega
                have p4 : (co.cs.length : Int) ≤ 1000000 := by omega
                have et : to.toNat < (t.till.set cn.toNat (hv - am)).length := by rw [List.length_set]; exact ltl
                have g3 := gI0 et
                obtain ⟨X6, hX6⟩ : ∃ X6, upS X5 (10 - 1) = X6 := ⟨_, rfl⟩
                rw [hX6] at hst
                by_cases c5 : upV X5 (10 - 1) < w
                · rw [if_pos c5] at hst
                  have u3 := upV_le (x := X6) (m := 3 - 1) (by decide) (by decide)
                  obtain ⟨v, hv3⟩ : ∃ v, 1 + upV X6 (3 - 1) = v := ⟨_, rfl⟩
                  obtain ⟨X7, hX7⟩ : ∃ X7, upS X6 (3 - 1) = X7 := ⟨_, rfl⟩
                  rw [hv3, hX7] at hst
                  have wg : IntKind.wrap .i64 (G + v) = G + v := wrap64 (by omega) (by omega)
                  by_cases c6 : 999 < G + v
                  · have hst : EK (q + 1) = ⟨D, t.till, t.es, X7⟩ := by rw [hst]; unfold enS3b; rw [if_pos c6]
                    repeat' (first | refine zq0 ?_ | refine zq1 ?_ | refine zq2 ?_ | refine zq3 ?_ | refine zq4 ?_ | refine zq5 ?_ | refine uv ?_ | refine uk ?_ | refine uw ?_ | refine uz ?_ | refine uj ?_ | refine ux ?_ | refine uq (by decide) ?_ | ((first | refine vx env fun Q hQ => ?_ | refine vz fun Q hQ => ?_); simp only [vkt, Nat.reduceEqDiff, Nat.reduceAdd, Nat.reduceMul, Nat.reduceSub, Nat.reduceLeDiff, reduceCtorEq, ↓reduceIte, ↓reduceDIte, Int.reduceToNat, Int.reduceLE, Int.reduceLT, Int.reduceEq, Int.reduceNeg, tbG9_27, xbG9_2, List.map_cons, List.map_nil, List.length_cons, List.length_nil, List.nil_append, List.append_nil, List.cons_append, wD, wR, wC, hD', hX1', hκ, hX2, hcn, hX3, e6, g1, g2, G1, G2, wT, hT, hX4, hA, hX5, wa, wb, wc, wd, nz, hG, cC', c5, hX6, hv3, hX7, wg, c6, k1, k2, k4, e7, setI]; (try simp only [ite_and]); (repeat' (first | with_reducible assumption | refine And.intro ?_ ?_)); all_goals (first | (refine hQ _ ?_; clear hQ Q) | (refine hQ _ (fun h => ?_) (fun h => ?_) <;> clear hQ Q <;> (try simp only [vki, reduceCtorEq] at h)) | omega | with_reducible assumption | with_reducible rfl | (refine vq ?_; kernel_rfl) | skip)))
                    all_goals first | exact ⟨_, _, rfl⟩ | skip
                    refine ⟨⟨q + 1, hlt⟩, by show U - (q + 1) < U - q; omega, ?_⟩
                    (refine Le.ok some [] ?_; constructor; all_goals (try simp only [vle, vkt, Nat.reduceEqDiff, Nat.reduceAdd, Nat.reduceMul, Nat.reduceSub, Nat.reduceLeDiff, reduceCtorEq, ↓reduceIte, ↓reduceDIte, Int.reduceToNat, Int.reduceLE, Int.reduceLT, Int.reduceEq, Int.reduceNeg, tbG9_27, xbG9_2, List.map_cons, List.map_nil, List.length_cons, List.length_nil, List.nil_append, List.append_nil, List.cons_append]))
                    all_goals first | rfl | (simp [hst]; done)
                  · have hst : EK (q + 1) = ⟨D, (t.till.set cn.toNat (hv - am)).set to.toNat (ht + (G + v)), t.es ++ [(⟨D, 3, cn, to, am, G + v⟩ : Ent)], X7⟩ := by rw [hst]; unfold enS3b; rw [if_neg c6, hh, hht]
                    have w1 : IntKind.wrap .i64 (ht + (G + v)) = ht + (G + v) := wrap64 (by omega) (by omega)
                    have e4 : t.es.map eEnt ++ [[.v (.int .i64 D), .v (.int .i64 3), .v (.int .i64 cn), .v (.int .i64 to), .v (.int .i64 am), .v (.int .i64 (G + v))]] = (t.es ++ [(⟨D, 3, cn, to, am, G + v⟩ : Ent)]).map eEnt := by rw [List.map_append]; rfl
                    repeat' (first | refine zq0 ?_ | refine zq1 ?_ | refine zq2 ?_ | refine zq3 ?_ | refine zq4 ?_ | refine zq5 ?_ | refine uv ?_ | refine uk ?_ | refine uw ?_ | refine uz ?_ | refine uj ?_ | refine ux ?_ | refine uq (by decide) ?_ | ((first | refine vx env fun Q hQ => ?_ | refine vz fun Q hQ => ?_); simp only [vkt, Nat.reduceEqDiff, Nat.reduceAdd, Nat.reduceMul, Nat.reduceSub, Nat.reduceLeDiff, reduceCtorEq, ↓reduceIte, ↓reduceDIte, Int.reduceToNat, Int.reduceLE, Int.reduceLT, Int.reduceEq, Int.reduceNeg, tbG9_27, xbG9_2, List.map_cons, List.map_nil, List.length_cons, List.length_nil, List.nil_append, List.append_nil, List.cons_append, wD, wR, wC, hD', hX1', hκ, hX2, hcn, hX3, e6, g1, g2, G1, G2, wT, hT, hX4, hA, hX5, wa, wb, wc, wd, nz, hG, cC', c5, hX6, hv3, hX7, wg, c6, k1, k2, k4, e7, hh, hht, et, g3, w0, w1, e4, setI]; (try simp only [ite_and]); (repeat' (first | with_reducible assumption | refine And.intro ?_ ?_)); all_goals (first | (refine hQ _ ?_; clear hQ Q) | (refine hQ _ (fun h => ?_) (fun h => ?_) <;> clear hQ Q <;> (try simp only [vki, reduceCtorEq] at h)) | omega | with_reducible assumption | with_reducible rfl | (refine vq ?_; kernel_rfl) | skip)))
                    all_goals first | exact ⟨_, _, rfl⟩ | skip
                    refine ⟨⟨q + 1, hlt⟩, by show U - (q + 1) < U - q; omega, ?_⟩
                    (refine Le.ok (fun j => if j = 7 then some 13 else some j) [] ?_; constructor; all_goals (try simp only [vle, vkt, Nat.reduceEqDiff, Nat.reduceAdd, Nat.reduceMul, Nat.reduceSub, Nat.reduceLeDiff, reduceCtorEq, ↓reduceIte, ↓reduceDIte, Int.reduceToNat, Int.reduceLE, Int.reduceLT, Int.reduceEq, Int.reduceNeg, tbG9_27, xbG9_2, List.map_cons, List.map_nil, List.length_cons, List.length_nil, List.nil_append, List.append_nil, List.cons_append]))
                    all_goals first | rfl | (simp [hst]; done)
                · rw [if_neg c5] at hst
                  by_cases c6 : 999 < G
                  · have hst : EK (q + 1) = ⟨D, t.till, t.es, X6⟩ := by rw [hst]; unfold enS3b; rw [if_pos c6]
                    repeat' (first | refine zq0 ?_ | refine zq1 ?_ | refine zq2 ?_ | refine zq3 ?_ | refine zq4 ?_ | refine zq5 ?_ | refine uv ?_ | refine uk ?_ | refine uw ?_ | refine uz ?_ | refine uj ?_ | refine ux ?_ | refine uq (by decide) ?_ | ((first | refine vx env fun Q hQ => ?_ | refine vz fun Q hQ => ?_); simp only [vkt, Nat.reduceEqDiff, Nat.reduceAdd, Nat.reduceMul, Nat.reduceSub, Nat.reduceLeDiff, reduceCtorEq, ↓reduceIte, ↓reduceDIte, Int.reduceToNat, Int.reduceLE, Int.reduceLT, Int.reduceEq, Int.reduceNeg, tbG9_27, xbG9_2, List.map_cons, List.map_nil, List.length_cons, List.length_nil, List.nil_append, List.append_nil, List.cons_append, wD, wR, wC, hD', hX1', hκ, hX2, hcn, hX3, e6, g1, g2, G1, G2, wT, hT, hX4, hA, hX5, wa, wb, wc, wd, nz, hG, cC', c5, hX6, c6, k1, k2, k4, e7, setI]; (try simp only [ite_and]); (repeat' (first | with_reducible assumption | refine And.intro ?_ ?_)); all_goals (first | (refine hQ _ ?_; clear hQ Q) | (refine hQ _ (fun h => ?_) (fun h => ?_) <;> clear hQ Q <;> (try simp only [vki, reduceCtorEq] at h)) | omega | with_reducible assumption | with_reducible rfl | (refine vq ?_; kernel_rfl) | skip)))
                    all_goals first | exact ⟨_, _, rfl⟩ | skip
                    refine ⟨⟨q + 1, hlt⟩, by show U - (q + 1) < U - q; omega, ?_⟩
                    (refine Le.ok some [] ?_; constructor; all_goals (try simp only [vle, vkt, Nat.reduceEqDiff, Nat.reduceAdd, Nat.reduceMul, Nat.reduceSub, Nat.reduceLeDiff, reduceCtorEq, ↓reduceIte, ↓reduceDIte, Int.reduceToNat, Int.reduceLE, Int.reduceLT, Int.reduceEq, Int.reduceNeg, tbG9_27, xbG9_2, List.map_cons, List.map_nil, List.length_cons, List.length_nil, List.nil_append, List.append_nil, List.cons_append]))
                    all_goals first | rfl | (simp [hst]; done)
                  · have hst : EK (q + 1) = ⟨D, (t.till.set cn.toNat (hv - am)).set to.toNat (ht + G), t.es ++ [(⟨D, 3, cn, to, am, G⟩ : Ent)], X6⟩ := by rw [hst]; unfold enS3b; rw [if_neg c6, hh, hht]
                    have w1 : IntKind.wrap .i64 (ht + (G)) = ht + (G) := wrap64 (by omega) (by omega)
                    have e4 : t.es.map eEnt ++ [[.v (.int .i64 D), .v (.int .i64 3), .v (.int .i64 cn), .v (.int .i64 to), .v (.int .i64 am), .v (.int .i64 (G))]] = (t.es ++ [(⟨D, 3, cn, to, am, G⟩ : Ent)]).map eEnt := by rw [List.map_append]; rfl
                    repeat' (first | refine zq0 ?_ | refine zq1 ?_ | refine zq2 ?_ | refine zq3 ?_ | refine zq4 ?_ | refine zq5 ?_ | refine uv ?_ | refine uk ?_ | refine uw ?_ | refine uz ?_ | refine uj ?_ | refine ux ?_ | refine uq (by decide) ?_ | ((first | refine vx env fun Q hQ => ?_ | refine vz fun Q hQ => ?_); simp only [vkt, Nat.reduceEqDiff, Nat.reduceAdd, Nat.reduceMul, Nat.reduceSub, Nat.reduceLeDiff, reduceCtorEq, ↓reduceIte, ↓reduceDIte, Int.reduceToNat, Int.reduceLE, Int.reduceLT, Int.reduceEq, Int.reduceNeg, tbG9_27, xbG9_2, List.map_cons, List.map_nil, List.length_cons, List.length_nil, List.nil_append, List.append_nil, List.cons_append, wD, wR, wC, hD', hX1', hκ, hX2, hcn, hX3, e6, g1, g2, G1, G2, wT, hT, hX4, hA, hX5, wa, wb, wc, wd, nz, hG, cC', c5, hX6, c6, k1, k2, k4, e7, hh, hht, et, g3, w0, w1, e4, setI]; (try simp only [ite_and]); (repeat' (first | with_reducible assumption | refine And.intro ?_ ?_)); all_goals (first | (refine hQ _ ?_; clear hQ Q) | (refine hQ _ (fun h => ?_) (fun h => ?_) <;> clear hQ Q <;> (try simp only [vki, reduceCtorEq] at h)) | omega | with_reducible assumption | with_reducible rfl | (refine vq ?_; kernel_rfl) | skip)))
                    all_goals first | exact ⟨_, _, rfl⟩ | skip
                    refine ⟨⟨q + 1, hlt⟩, by show U - (q + 1) < U - q; omega, ?_⟩
                    (refine Le.ok (fun j => if j = 7 then some 13 else some j) [] ?_; constructor; all_goals (try simp only [vle, vkt, Nat.reduceEqDiff, Nat.reduceAdd, Nat.reduceMul, Nat.reduceSub, Nat.reduceLeDiff, reduceCtorEq, ↓reduceIte, ↓reduceDIte, Int.reduceToNat, Int.reduceLE, Int.reduceLT, Int.reduceEq, Int.reduceNeg, tbG9_27, xbG9_2, List.map_cons, List.map_nil, List.length_cons, List.length_nil, List.nil_append, List.append_nil, List.cons_append]))
                    all_goals first | rfl | (simp [hst]; done)
            · have hqU : q = U := by omega
              subst hqU
              rw [gL, gS, g3]
              repeat' (first | refine zq0 ?_ | refine zq1 ?_ | refine zq2 ?_ | refine zq3 ?_ | refine zq4 ?_ | refine zq5 ?_ | refine uv ?_ | refine uk ?_ | refine uw ?_ | refine uz ?_ | refine uj ?_ | refine ux ?_ | refine uq (by decide) ?_ | ((first | refine vx env fun Q hQ => ?_ | refine vz fun Q hQ => ?_); simp only [vkt, Nat.reduceEqDiff, Nat.reduceAdd, Nat.reduceMul, Nat.reduceSub, Nat.reduceLeDiff, reduceCtorEq, ↓reduceIte, ↓reduceDIte, Int.reduceToNat, Int.reduceLE, Int.reduceLT, Int.reduceEq, Int.reduceNeg, tbG9_27, xbG9_2, List.map_cons, List.map_nil, List.length_cons, List.length_nil, List.nil_append, List.append_nil, List.cons_append]; (try simp only [ite_and]); (repeat' (first | with_reducible assumption | refine And.intro ?_ ?_)); all_goals (first | (refine hQ _ ?_; clear hQ Q) | (refine hQ _ (fun h => ?_) (fun h => ?_) <;> clear hQ Q <;> (try simp only [vki, reduceCtorEq] at h)) | omega | with_reducible assumption | with_reducible rfl | (refine vq ?_; kernel_rfl) | skip)))
              (simp only [vrt, Try.results27, vkt, Nat.reduceEqDiff, Nat.reduceAdd, Nat.reduceMul, Nat.reduceSub, Nat.reduceLeDiff, reduceCtorEq, ↓reduceIte, ↓reduceDIte, Int.reduceToNat, Int.reduceLE, Int.reduceLT, Int.reduceEq, Int.reduceNeg, tbG9_27, xbG9_2, List.map_cons, List.map_nil, List.length_cons, List.length_nil, List.nil_append, List.append_nil, List.cons_append]; refine Fin.ok some [3, 5, 4, 7] ?_ ?_ ?_ ?_ ?_ rfl; all_goals (try simp only [vle, vkt, Nat.reduceEqDiff, Nat.reduceAdd, Nat.reduceMul, Nat.reduceSub, Nat.reduceLeDiff, reduceCtorEq, ↓reduceIte, ↓reduceDIte, Int.reduceToNat, Int.reduceLE, Int.reduceLT, Int.reduceEq, Int.reduceNeg, tbG9_27, xbG9_2, List.map_cons, List.map_nil, List.length_cons, List.length_nil, List.nil_append, List.append_nil, List.cons_append]))
              all_goals first | rfl | (simp; done) | exact ⟨⟨_, _, rfl⟩, ⟨_, _, rfl⟩, ⟨_, _, rfl⟩, ⟨_, _, rfl⟩⟩ | exact ⟨⟨_, _, rfl⟩, ⟨_, _, rfl⟩, ⟨_, _, rfl⟩, ⟨_, _, rfl⟩, trivial⟩
noncomputable def p27 (S : St) : List AV → Option Pk
  | [.ptr i 0, .v (.int .i64 c), .v (.int .i64 d), .v (.int .i64 e), .v (.int .i64 w)] => match S.h i with
    | some (.cells [.v (.int .u64 x)]) => some { pre := (1 ≤ c ∧ c ≤ 4) ∧ (1 ≤ d ∧ d ≤ 4) ∧ (0 ≤ e ∧ e ≤ 6), hs := [i], ar := [.ptr 0 0, .v (.int .i64 c), .v (.int .i64 d), .v (.int .i64 e), .v (.int .i64 w)], L0 := [.cells [.v (.int .u64 x)]], v := aLed (lgL x c d e w), L1 := [some (.cells [.v (.int .u64 (lgS x c d e w))])] }
    | _ => none
  | _ => none
theorem e27 {A : Frm → Prop} : EntryOK A Try.prog 27 (fnE p27) := fnE_ok fun S bs q h hp => by
  unfold p27 at h
  split at h
  · split at h
    · cases h; exact ledgerOf_fn _ _ _ _ _ hp.1 hp.2.1 hp.2.2
    · cases h
  · cases h
end Go.Sym.B
namespace Go.Sym.B
open Go Go.Sym Go.Proofs Go.Sym.C
def gcdI (a b : Int) : Int := ((Nat.gcd a.natAbs b.toNat : Nat) : Int)
def dvT (x y : Int) : St := { t := asg [(0, aI x), (1, aI y), (4, aI 0)], h := hasg [], n := 0 }
def tbH1_116 := vj @ty3 @ti3.eq_1
def xbH1_1 := vj @aI.eq_1 (vj @aB.eq_1 (@dvT.eq_1))
theorem divisor_fn (a b : Int) (hab : OfOk a b) : FnV Try.prog 116 [aI a, aI b] (aI (gcdI a b)) := by
  have env : Env (fun _ => True) Try.prog tyB (tab []) := mkEnv trivial
  refine Fn.of (A := fun _ => True) (n0 := 0) (D := noD) (Fn0 Try.func116 rfl (fun vs w => by kernel_rfl) (by kernel_rfl)) (by simp) (by simp [AV.ids, aI]) (fun i o h => by cases h) (fun _ _ _ _ => trivial) noD_ok ?_
  obtain ⟨ha, ha', hb, hb'⟩ := hab
  have hw : IntKind.wrap .i64 (0 - a) = -a := by rw [wrap64 (by omega) (by omega)]; omega
  by_cases c1 : a < 0
  · repeat' (first | refine zq0 ?_ | refine zq1 ?_ | refine zq2 ?_ | refine zq3 ?_ | refine zq4 ?_ | refine zq5 ?_ | refine uv ?_ | refine uk ?_ | refine uw ?_ | refine uz ?_ | refine uj ?_ | refine ux ?_ | refine uq (by decide) ?_ | ((first | refine vx env fun Q hQ => ?_ | refine vz fun Q hQ => ?_); simp only [vkt, seval, tbH1_116, xbH1_1, c1, hw]; (try simp only [ite_and]); (repeat' (first | with_reducible assumption | refine And.intro ?_ ?_ | intro hp)); all_goals (first | (refine hQ _ ?_; clear hQ Q) | (refine hQ _ (fun h => ?_) (fun h => ?_) <;> clear hQ Q <;> (try simp only [vki, reduceCtorEq] at h)) | omega | assumption | with_reducible rfl | (refine vq ?_; kernel_rfl) | skip)))
    refine sym_loop (ι := { p : Int × Int // 0 ≤ p.1 ∧ 0 ≤ p.2 ∧ Nat.gcd p.1.toNat p.2.toNat = Nat.gcd a.natAbs b.toNat }) (fun p => dvT p.1.1 p.1.2) (fun p => p.1.1.toNat) ⟨((-a), b), by show (0 : Int) ≤ (-a); omega, by show (0 : Int) ≤ b; omega, by show Nat.gcd ((-a)).toNat b.toNat = _; congr 1; omega⟩ ?_ fun ⟨(x, y), h1, h2, h3⟩ => ?_
    · (refine Le.ok some [] ?_; constructor; all_goals (try simp only [vle, vkt, seval, tbH1_116, xbH1_1]))
      all_goals simp
    · dsimp only at h1 h2 h3
      repeat' (first | refine zq0 ?_ | refine zq1 ?_ | refine zq2 ?_ | refine zq3 ?_ | refine zq4 ?_ | refine zq5 ?_ | refine uv ?_ | refine uk ?_ | refine uw ?_ | refine uz ?_ | refine uj ?_ | refine ux ?_ | refine uq (by decide) ?_)
      (refine vx env fun Q hQ => ?_; simp only [vkt, seval, tbH1_116, xbH1_1]; (try simp only [ite_and]); (repeat' (first | with_reducible assumption | refine And.intro ?_ ?_ | intro hp)); all_goals (first | (refine hQ _ ?_; clear hQ Q) | omega | assumption | with_reducible rfl | (refine vq ?_; kernel_rfl) | skip))
      repeat' (first | refine zq0 ?_ | refine zq1 ?_ | refine zq2 ?_ | refine zq3 ?_ | refine zq4 ?_ | refine zq5 ?_ | refine uv ?_ | refine uk ?_ | refine uw ?_ | refine uz ?_ | refine uj ?_ | refine ux ?_ | refine uq (by decide) ?_)
      (refine sym_cd (by simp only [vkt, seval, tbH1_116, xbH1_1]; rfl) (fun h => ?_) (fun h => ?_) <;> (try simp only [vki, reduceCtorEq] at h))
      · have hx : 0 < x := by omega
        have nz : ¬ x = 0 := by omega
        have e1 := Int.emod_nonneg y (show x ≠ 0 by omega)
        have e2 := Int.emod_lt_of_pos y hx
        have e3 : y.tmod x = y % x := Int.tmod_eq_emod_of_nonneg h2
        repeat' (first | refine zq0 ?_ | refine zq1 ?_ | refine zq2 ?_ | refine zq3 ?_ | refine zq4 ?_ | refine zq5 ?_ | refine uv ?_ | refine uk ?_ | refine uw ?_ | refine uz ?_ | refine uj ?_ | refine ux ?_ | refine uq (by decide) ?_ | ((first | refine vx env fun Q hQ => ?_ | refine vz fun Q hQ => ?_); simp only [vkt, seval, tbH1_116, xbH1_1, nz]; (try simp only [ite_and]); (repeat' (first | with_reducible assumption | refine And.intro ?_ ?_ | intro hp)); all_goals (first | (refine hQ _ ?_; clear hQ Q) | (refine hQ _ (fun h => ?_) (fun h => ?_) <;> clear hQ Q <;> (try simp only [vki, reduceCtorEq] at h)) | omega | assumption | with_reducible rfl | (refine vq ?_; kernel_rfl) | skip)))
        refine ⟨⟨(y.tmod x, x), by show (0 : Int) ≤ y.tmod x; omega, h1, ?_⟩, ?_, ?_⟩
        · show Nat.gcd (y.tmod x).toNat x.toNat = _
          rw [← h3, e3, Int.toNat_emod h2 h1, Nat.gcd_comm x.toNat, Nat.gcd_comm, Nat.gcd_comm x.toNat, ← Nat.gcd_rec, Nat.gcd_comm]
        · show (y.tmod x).toNat < x.toNat
          omega
        · (refine Le.ok some [] ?_; constructor; all_goals (try simp only [vle, vkt, seval, tbH1_116, xbH1_1]))
          all_goals simp
      · have hx : x = 0 := by omega
        subst hx
        have hg : y = gcdI a b := by unfold gcdI; rw [← h3]; simp; omega
        subst hg
        repeat' (first | refine zq0 ?_ | refine zq1 ?_ | refine zq2 ?_ | refine zq3 ?_ | refine zq4 ?_ | refine zq5 ?_ | refine uv ?_ | refine uk ?_ | refine uw ?_ | refine uz ?_ | refine uj ?_ | refine ux ?_ | refine uq (by decide) ?_ | ((first | refine vx env fun Q hQ => ?_ | refine vz fun Q hQ => ?_); simp only [vkt, seval, tbH1_116, xbH1_1]; (try simp only [ite_and]); (repeat' (first | with_reducible assumption | refine And.intro ?_ ?_ | intro hp)); all_goals (first | (refine hQ _ ?_; clear hQ Q) | (refine hQ _ (fun h => ?_) (fun h => ?_) <;> clear hQ Q <;> (try simp only [vki, reduceCtorEq] at h)) | omega | assumption | with_reducible rfl | (refine vq ?_; kernel_rfl) | skip)))
        (simp only [vrt, Try.results116, vkt, seval, tbH1_116, xbH1_1]; refine Fin.val rfl ?_; (try simp only [AV.le, AV.leL]))
        all_goals first | rfl | simp
  · repeat' (first | refine zq0 ?_ | refine zq1 ?_ | refine zq2 ?_ | refine zq3 ?_ | refine zq4 ?_ | refine zq5 ?_ | refine uv ?_ | refine uk ?_ | refine uw ?_ | refine uz ?_ | refine uj ?_ | refine ux ?_ | refine uq (by decide) ?_ | ((first | refine vx env fun Q hQ => ?_ | refine vz fun Q hQ => ?_); simp only [vkt, seval, tbH1_116, xbH1_1, c1]; (try simp only [ite_and]); (repeat' (first | with_reducible assumption | refine And.intro ?_ ?_ | intro hp)); all_goals (first | (refine hQ _ ?_; clear hQ Q) | (refine hQ _ (fun h => ?_) (fun h => ?_) <;> clear hQ Q <;> (try simp only [vki, reduceCtorEq] at h)) | omega | assumption | with_reducible rfl | (refine vq ?_; kernel_rfl) | skip)))
    refine sym_loop (ι := { p : Int × Int // 0 ≤ p.1 ∧ 0 ≤ p.2 ∧ Nat.gcd p.1.toNat p.2.toNat = Nat.gcd a.natAbs b.toNat }) (fun p => dvT p.1.1 p.1.2) (fun p => p.1.1.toNat) ⟨(a, b), by show (0 : Int) ≤ a; omega, by show (0 : Int) ≤ b; omega, by show Nat.gcd (a).toNat b.toNat = _; congr 1; omega⟩ ?_ fun ⟨(x, y), h1, h2, h3⟩ => ?_
    · (refine Le.ok some [] ?_; constructor; all_goals (try simp only [vle, vkt, seval, tbH1_116, xbH1_1]))
      all_goals simp
    · dsimp only at h1 h2 h3
      repeat' (first | refine zq0 ?_ | refine zq1 ?_ | refine zq2 ?_ | refine zq3 ?_ | refine zq4 ?_ | refine zq5 ?_ | refine uv ?_ | refine uk ?_ | refine uw ?_ | refine uz ?_ | refine uj ?_ | refine ux ?_ | refine uq (by decide) ?_)
      (refine vx env fun Q hQ => ?_; simp only [vkt, seval, tbH1_116, xbH1_1]; (try simp only [ite_and]); (repeat' (first | with_reducible assumption | refine And.intro ?_ ?_ | intro hp)); all_goals (first | (refine hQ _ ?_; clear hQ Q) | omega | assumption | with_reducible rfl | (refine vq ?_; kernel_rfl) | skip))
      repeat' (first | refine zq0 ?_ | refine zq1 ?_ | refine zq2 ?_ | refine zq3 ?_ | refine zq4 ?_ | refine zq5 ?_ | refine uv ?_ | refine uk ?_ | refine uw ?_ | refine uz ?_ | refine uj ?_ | refine ux ?_ | refine uq (by decide) ?_)
      (refine sym_cd (by simp only [vkt, seval, tbH1_116, xbH1_1]; rfl) (fun h => ?_) (fun h => ?_) <;> (try simp only [vki, reduceCtorEq] at h))
      · have hx : 0 < x := by omega
        have nz : ¬ x = 0 := by omega
        have e1 := Int.emod_nonneg y (show x ≠ 0 by omega)
        have e2 := Int.emod_lt_of_pos y hx
        have e3 : y.tmod x = y % x := Int.tmod_eq_emod_of_nonneg h2
        repeat' (first | refine zq0 ?_ | refine zq1 ?_ | refine zq2 ?_ | refine zq3 ?_ | refine zq4 ?_ | refine zq5 ?_ | refine uv ?_ | refine uk ?_ | refine uw ?_ | refine uz ?_ | refine uj ?_ | refine ux ?_ | refine uq (by decide) ?_ | ((first | refine vx env fun Q hQ => ?_ | refine vz fun Q hQ => ?_); simp only [vkt, seval, tbH1_116, xbH1_1, nz]; (try simp only [ite_and]); (repeat' (first | with_reducible assumption | refine And.intro ?_ ?_ | intro hp)); all_goals (first | (refine hQ _ ?_; clear hQ Q) | (refine hQ _ (fun h => ?_) (fun h => ?_) <;> clear hQ Q <;> (try simp only [vki, reduceCtorEq] at h)) | omega | assumption | with_reducible rfl | (refine vq ?_; kernel_rfl) | skip)))
        refine ⟨⟨(y.tmod x, x), by show (0 : Int) ≤ y.tmod x; omega, h1, ?_⟩, ?_, ?_⟩
        · show Nat.gcd (y.tmod x).toNat x.toNat = _
          rw [← h3, e3, Int.toNat_emod h2 h1, Nat.gcd_comm x.toNat, Nat.gcd_comm, Nat.gcd_comm x.toNat, ← Nat.gcd_rec, Nat.gcd_comm]
        · show (y.tmod x).toNat < x.toNat
          omega
        · (refine Le.ok some [] ?_; constructor; all_goals (try simp only [vle, vkt, seval, tbH1_116, xbH1_1]))
          all_goals simp
      · have hx : x = 0 := by omega
        subst hx
        have hg : y = gcdI a b := by unfold gcdI; rw [← h3]; simp; omega
        subst hg
        repeat' (first | refine zq0 ?_ | refine zq1 ?_ | refine zq2 ?_ | refine zq3 ?_ | refine zq4 ?_ | refine zq5 ?_ | refine uv ?_ | refine uk ?_ | refine uw ?_ | refine uz ?_ | refine uj ?_ | refine ux ?_ | refine uq (by decide) ?_ | ((first | refine vx env fun Q hQ => ?_ | refine vz fun Q hQ => ?_); simp only [vkt, seval, tbH1_116, xbH1_1]; (try simp only [ite_and]); (repeat' (first | with_reducible assumption | refine And.intro ?_ ?_ | intro hp)); all_goals (first | (refine hQ _ ?_; clear hQ Q) | (refine hQ _ (fun h => ?_) (fun h => ?_) <;> clear hQ Q <;> (try simp only [vki, reduceCtorEq] at h)) | omega | assumption | with_reducible rfl | (refine vq ?_; kernel_rfl) | skip)))
        (simp only [vrt, Try.results116, vkt, seval, tbH1_116, xbH1_1]; refine Fin.val rfl ?_; (try simp only [AV.le, AV.leL]))
        all_goals first | rfl | simp
def s116 : List AV → Prop × AV
  | [.v (.int .i64 a), .v (.int .i64 b)] => (OfOk a b, aI (gcdI a b))
  | _ => (False, .junk)
theorem e116 {A : Frm → Prop} : EntryOK A Try.prog 116 (valE true s116) := valE_ok fun vs _ h => by
  unfold s116 at h ⊢
  split at h
  · exact ⟨by simp [AV.plain, aI], fun _ => by simp [AV.flat, aI], divisor_fn _ _ h⟩
  · exact h.elim
def tbH1_55 := vj @ty3 (vj @ty59 (vj @ti3.eq_1 @ti59.eq_1))
def xbH1_2 := vj @aI.eq_1 (vj @aB.eq_1 (vj @aSh.eq_1 (vj @shQ.eq_1 (vj @s116.eq_1 (@s116.eq_2)))))
theorem rof_fn (a b : Int) (hab : OfOk a b) : FnV Try.prog 55 [aI a, aI b] (aSh (shQ (mkRat a b.toNat))) := by
  have env : Env (fun _ => True) Try.prog tyB (tab [(116, valE true s116)]) := mkEnv ⟨e116, trivial⟩
  refine Fn.of (A := fun _ => True) (n0 := 0) (D := noD) (Fn0 Try.func55 rfl (fun vs w => by kernel_rfl) (by kernel_rfl)) (by simp) (by simp [AV.ids, aI]) (fun i o h => by cases h) (fun _ _ _ _ => trivial) noD_ok ?_
  obtain ⟨ha, ha', hb, hb'⟩ := id hab
  have nz : ¬ gcdI a b = 0 := by
    have := Nat.gcd_pos_of_pos_right a.natAbs (show 0 < b.toNat by omega)
    unfold gcdI; omega
  have w1 := tdiv_fit (x := gcdI a b) ha ha'
  have w2 := tdiv_fit (x := gcdI a b) (show -9223372036854775808 < b by omega) hb'
  repeat' (first | refine zq0 ?_ | refine zq1 ?_ | refine zq2 ?_ | refine zq3 ?_ | refine zq4 ?_ | refine zq5 ?_ | refine uv ?_ | refine uk ?_ | refine uw ?_ | refine uz ?_ | refine uj ?_ | refine ux ?_ | refine uq (by decide) ?_ | ((first | refine vx env fun Q hQ => ?_ | refine vz fun Q hQ => ?_); simp only [vkt, seval, tbH1_55, xbH1_2, nz, w1, w2]; (try simp only [ite_and]); (repeat' (first | with_reducible assumption | refine And.intro ?_ ?_ | intro hp)); all_goals (first | (refine hQ _ ?_; clear hQ Q) | (refine hQ _ (fun h => ?_) (fun h => ?_) <;> clear hQ Q <;> (try simp only [vki, reduceCtorEq] at h)) | omega | assumption | with_reducible rfl | (refine vq ?_; kernel_rfl) | skip)))
  (simp only [vrt, Try.results55, vkt, seval, tbH1_55, xbH1_2]; refine Fin.val rfl ?_; (try simp only [AV.le, AV.leL]))
  rw [mk_num hb, mk_den hb]
  simp [gcdI]
theorem e55 {A : Frm → Prop} : EntryOK A Try.prog 55 (valE true s139) := valE_ok fun vs _ h => by
  unfold s139 at h ⊢
  split at h
  · exact ⟨by simp [AV.plain, AV.plainL, aSh], fun _ => by simp [AV.flat, AV.flatL, aSh], rof_fn _ _ h⟩
  · exact h.elim
def xbH1_3 := vj @aI.eq_1 (vj @aB.eq_1 (vj @aSh.eq_1 (vj @shQ.eq_1 (vj @s139.eq_1 (vj @s139.eq_2 (vj @isQ_q (@qI_q)))))))
def tbH1_53 := vj @ty3 (vj @ty59 (vj @ti3.eq_1 @ti59.eq_1))
theorem rminus_fn (q r : Rat) (hq : Sm q) (hr : Sm r) : FnV Try.prog 53 [aSh (shQ q), aSh (shQ r)] (aSh (shQ (q - r))) := by
  have env : Env (fun _ => True) Try.prog tyB (tab [(55, valE true s139)]) := mkEnv ⟨e55, trivial⟩
  refine Fn.of (A := fun _ => True) (n0 := 0) (D := noD) (Fn0 Try.func53 rfl (fun vs w => by kernel_rfl) (by kernel_rfl)) (by simp) (by simp [AV.ids, AV.idsL, aSh]) (fun i o h => by cases h) (fun _ _ _ _ => trivial) noD_ok ?_
  have b1 := mul_bd hq.1 hq.2.1 (den_pos r) (Int.ofNat_le.2 hr.2.2)
  have b2 := mul_bd hr.1 hr.2.1 (den_pos q) (Int.ofNat_le.2 hq.2.2)
  have b3 := mul_bd (a := (q.den : Int)) (by have := hq.2.2; omega) (by omega) (den_pos r) (Int.ofNat_le.2 hr.2.2)
  have b4 := Int.mul_pos (den_pos q) (den_pos r)
  have w1 := wrap64 (n := q.num * r.den) (by omega) (by omega)
  have w2 := wrap64 (n := r.num * q.den) (by omega) (by omega)
  have w3 := wrap64 (n := (q.den : Int) * r.den) (by omega) (by omega)
  have w4 := wrap64 (n := q.num * r.den - r.num * q.den) (by omega) (by omega)
  have w5 : OfOk (q.num * r.den - r.num * q.den) ((q.den : Int) * r.den) := ⟨by omega, by omega, by omega, by omega⟩
  repeat' (first | refine zq0 ?_ | refine zq1 ?_ | refine zq2 ?_ | refine zq3 ?_ | refine zq4 ?_ | refine zq5 ?_ | refine uv ?_ | refine uk ?_ | refine uw ?_ | refine uz ?_ | refine uj ?_ | refine ux ?_ | refine uq (by decide) ?_ | ((first | refine vx env fun Q hQ => ?_ | refine vz fun Q hQ => ?_); simp only [vkt, seval, tbH1_53, xbH1_3, w1, w2, w3, w4, sub_mk]; (try simp only [ite_and]); (repeat' (first | with_reducible assumption | refine And.intro ?_ ?_ | intro hp)); all_goals (first | (refine hQ _ ?_; clear hQ Q) | (refine hQ _ (fun h => ?_) (fun h => ?_) <;> clear hQ Q <;> (try simp only [vki, reduceCtorEq] at h)) | omega | assumption | with_reducible rfl | (refine vq ?_; kernel_rfl) | skip)))
  (simp only [vrt, Try.results53, vkt, seval, tbH1_53, xbH1_3]; refine Fin.val rfl ?_; (try simp only [AV.le, AV.leL]))
  simp
theorem e53 {A : Frm → Prop} : EntryOK A Try.prog 53 (valE true s100) := valE_ok fun vs _ h => by
  unfold s100 at h ⊢
  split at h
  · refine ⟨by simp [AV.plain, AV.plainL, aSh], fun _ => by simp [AV.flat, AV.flatL, aSh], ?_⟩
    rw [← shQ_of h.1, ← shQ_of h.2.1]
    exact rminus_fn _ _ h.2.2.1 h.2.2.2
  · exact h.elim
def tbH1_56 := vj @ty3 (vj @ty59 (vj @ti3.eq_1 @ti59.eq_1))
theorem rtimes_fn (q : Rat) (n : Int) (hq : Tm q n) : FnV Try.prog 56 [aSh (shQ q), aI n] (aSh (shQ (q * (n : Rat)))) := by
  have env : Env (fun _ => True) Try.prog tyB (tab [(55, valE true s139)]) := mkEnv ⟨e55, trivial⟩
  refine Fn.of (A := fun _ => True) (n0 := 0) (D := noD) (Fn0 Try.func56 rfl (fun vs w => by kernel_rfl) (by kernel_rfl)) (by simp) (by simp [AV.ids, AV.idsL, aSh, aI]) (fun i o h => by cases h) (fun _ _ _ _ => trivial) noD_ok ?_
  obtain ⟨hq, hn, hn'⟩ := hq
  have b1 : -1152921504606846976 ≤ q.num * n ∧ q.num * n ≤ 1152921504606846976 := mul_bd' hq.1 hq.2.1 hn hn'
  have b2 := den_pos q
  have b3 : (q.den : Int) ≤ 1048576 := Int.ofNat_le.2 hq.2.2
  have w1 := wrap64 (n := q.num * n) (by omega) (by omega)
  have w2 := mul_mk q n
  have w5 : OfOk (q.num * n) (q.den : Int) := ⟨by omega, by omega, by omega, by omega⟩
  repeat' (first | refine zq0 ?_ | refine zq1 ?_ | refine zq2 ?_ | refine zq3 ?_ | refine zq4 ?_ | refine zq5 ?_ | refine uv ?_ | refine uk ?_ | refine uw ?_ | refine uz ?_ | refine uj ?_ | refine ux ?_ | refine uq (by decide) ?_ | ((first | refine vx env fun Q hQ => ?_ | refine vz fun Q hQ => ?_); simp only [vkt, seval, tbH1_56, xbH1_3, w1, w2]; (try simp only [ite_and]); (repeat' (first | with_reducible assumption | refine And.intro ?_ ?_ | intro hp)); all_goals (first | (refine hQ _ ?_; clear hQ Q) | (refine hQ _ (fun h => ?_) (fun h => ?_) <;> clear hQ Q <;> (try simp only [vki, reduceCtorEq] at h)) | omega | assumption | with_reducible rfl | (refine vq ?_; kernel_rfl) | skip)))
  (simp only [vrt, Try.results56, ← mul_mk, vkt, seval, tbH1_56, xbH1_3]; refine Fin.val rfl ?_; (try simp only [AV.le, AV.leL]))
  simp
theorem e56 {A : Frm → Prop} : EntryOK A Try.prog 56 (valE true s99) := valE_ok fun vs _ h => by
  unfold s99 at h ⊢
  split at h
  · refine ⟨by simp [AV.plain, AV.plainL, aSh], fun _ => by simp [AV.flat, AV.flatL, aSh], ?_⟩
    rw [← shQ_of h.1]
    exact rtimes_fn _ _ h.2
  · exact h.elim
theorem rsh_nd {l : Led} {d c : Int} (h : Rt l d c) : ((l.rates.getD d.toNat []).getD c.toNat default).num = (rq l d c).num ∧ ((l.rates.getD d.toNat []).getD c.toNat default).den = ((rq l d c).den : Int) :=
  ⟨congrArg Sh.num h.q, congrArg Sh.den h.q⟩
def tbH1_105 := vj @ty35 (vj @ty38 (vj @ty55 (vj @ty59 (vj @ti35.eq_1 (vj @ti38.eq_1 (vj @ti55.eq_1 @ti59.eq_1))))))
def xbH1_4 := vj @aI.eq_1 (vj @aB.eq_1 (vj @aLed.eq_1 (vj @cLed.eq_1 (vj @aSh.eq_1 (vj @shQ.eq_1 (vj @gShs (vj @gSh (vj @eShs.eq_1 (vj @eSh.eq_1 (vj @s99.eq_1 (vj @s99.eq_2 (vj @isQ_q (@qI_q)))))))))))))
theorem rworth_fn (l : Led) (d c n : Int) (h : Rt l d c) (hn : -300000 ≤ n) (hn' : n ≤ 300000) : FnV Try.prog 105 [aLed l, aI d, aI c, aI n] (aSh (shQ (rq l d c * (n : Rat)))) := by
  have env : Env (fun _ => True) Try.prog tyB (tab [(56, valE true s99)]) := mkEnv ⟨e56, trivial⟩
  refine Fn.of (A := fun _ => True) (n0 := 0) (D := noD) (Fn0 Try.func105 rfl (fun vs w => by kernel_rfl) (by kernel_rfl)) (by simp) (by simp [AV.ids, AV.idsL, aLed, cLed, aI]) (fun i o h => by cases h) (fun _ _ _ _ => trivial) noD_ok ?_
  have q1 := h.d0
  have q2 := h.d1
  have q3 := h.c0
  have q4 := h.c1
  obtain ⟨r1, r2⟩ := rsh_nd h
  have g2 := tm_of3 (rt_bd h) (show -300000 ≤ n by omega) (by omega)
  repeat' (first | refine zq0 ?_ | refine zq1 ?_ | refine zq2 ?_ | refine zq3 ?_ | refine zq4 ?_ | refine zq5 ?_ | refine uv ?_ | refine uk ?_ | refine uw ?_ | refine uz ?_ | refine uj ?_ | refine ux ?_ | refine uq (by decide) ?_ | ((first | refine vx env fun Q hQ => ?_ | refine vz fun Q hQ => ?_); simp only [vkt, seval, tbH1_105, xbH1_4, r1, r2]; (try simp only [ite_and]); (repeat' (first | with_reducible assumption | refine And.intro ?_ ?_ | intro hp)); all_goals (first | (refine hQ _ ?_; clear hQ Q) | (refine hQ _ (fun h => ?_) (fun h => ?_) <;> clear hQ Q <;> (try simp only [vki, reduceCtorEq] at h)) | omega | assumption | with_reducible rfl | (refine vq ?_; kernel_rfl) | skip)))
  (simp only [vrt, Try.results105, vkt, seval, tbH1_105, xbH1_4]; refine Fin.val rfl ?_; (try simp only [AV.le, AV.leL]))
  all_goals simp
def c105 : List AV → Prop × AV
  | [.agg [.sl cs, .sl rs, .sl ss, .sl es], .v (.int .i64 d), .v (.int .i64 c), .v (.int .i64 n)] => (isL cs rs ss es ∧ Rt (ldOf cs rs ss es) d c ∧ -300000 ≤ n ∧ n ≤ 300000, aSh (shQ (rq (ldOf cs rs ss es) d c * (n : Rat))))
  | _ => (False, .junk)
theorem d105 {A : Frm → Prop} : EntryOK A Try.prog 105 (valE true c105) := valE_ok fun vs hv h => by
  clear hv
  unfold c105 at h ⊢
  split at h
  · refine ⟨by simp [AV.plain, AV.plainL, aSh], fun _ => by simp [AV.flat, AV.flatL, aSh], ?_⟩
    rw [← aLed_of h.1]; exact rworth_fn _ _ _ _ h.2.1 h.2.2.1 h.2.2.2
  · exact h.elim
end Go.Sym.B
namespace Go.Sym.B
open Go Go.Sym Go.Proofs Go.Sym.C
def tbH2_114 := vj @ty3 (vj @ty22 (vj @ty28 (vj @ty35 (vj @ty38 (vj @ty48 (vj @ty55 (vj @ti3.eq_1 (vj @ti22.eq_1 (vj @ti28.eq_1 (vj @ti35.eq_1 (vj @ti38.eq_1 (vj @ti48.eq_1 @ti55.eq_1))))))))))))
def xbH2_1 := vj @aI.eq_1 (vj @aB.eq_1 (vj @aEnt.eq_1 (vj @aLed.eq_1 (vj @cLed.eq_1 (vj @aInts.eq_1 (vj @s79.eq_1 (vj @s79.eq_2 (vj @gInt (@eInt.eq_1)))))))))
set_option maxHeartbeats 4000000 in
theorem rentry_fn (l : Led) (x : Ent) (before : Int) (has : List Int) (h1 : l.rates.length ≤ 20) (h2 : l.coins.length ≤ 20) (h3 : has.length = l.coins.length) : FnV Try.prog 114 [aLed l, aEnt x, aI before, aInts has] (aI (eV l x before has)) := by
  have env : Env (fun _ => True) Try.prog tyB (tab [(82, valE true s79)]) := mkEnv ⟨e82, trivial⟩
  refine Fn.of (A := fun _ => True) (n0 := 0) (D := noD) (Fn0 Try.func114 rfl (fun vs w => by kernel_rfl) (by kernel_rfl)) (by simp) (by simp [AV.ids, AV.idsL, aLed, cLed, aEnt, aI, aInts]) (fun i o h => by cases h) (fun _ _ _ _ => trivial) noD_ok ?_
  have w1 : IntKind.wrap .i64 ((l.rates.length : Int) - 1) = (l.rates.length : Int) - 1 := wrap64 (by omega) (by omega)
  have w2 : IntKind.wrap .i64 ((l.coins.length : Int) - 1) = (l.coins.length : Int) - 1 := wrap64 (by omega) (by omega)
  by_cases hE : entryE l x before = 0
  · have ho := entryE_ok hE
    rw [show eV l x before has = _ from if_neg (by rw [hE]; simp)]
    have c1 := inB_iff.2 ho.day
    have c2 : ¬ x.day < before := by have := ho.ord; omega
    have c3 := inB_iff.2 ho.kind
    have c4 := inB_iff.2 ho.coin
    have c8 := inB_iff.2 ho.am
    have k0 := ho.coin.1
    have k1 : x.coin.toNat < has.length := by have := ho.coin; omega
    by_cases c5 : x.kind = 3
    · have c7 : inB 3 1 4 = true := by decide
      have c6 := inB_iff.2 (ho.to c5)
      have c9 := inB_iff.2 (ho.got c5)
      have c10 := ho.ne c5
      by_cases c11 : has.getD x.coin.toNat 0 < x.amount
      · repeat' (first | refine zq0 ?_ | refine zq1 ?_ | refine zq2 ?_ | refine zq3 ?_ | refine zq4 ?_ | refine zq5 ?_ | refine uv ?_ | refine uk ?_ | refine uw ?_ | refine uz ?_ | refine uj ?_ | refine ux ?_ | refine uq (by decide) ?_ | ((first | refine vx env fun Q hQ => ?_ | refine vz fun Q hQ => ?_); simp only [vkt, seval, tbH2_114, xbH2_1, w1, w2, c1, c2, c7, c4, c5, c6, c8, c9, c10, c11]; (try simp only [ite_and]); (repeat' (first | with_reducible assumption | refine And.intro ?_ ?_ | intro hp)); all_goals (first | (refine hQ _ ?_; clear hQ Q) | (refine hQ _ (fun h => ?_) (fun h => ?_) <;> clear hQ Q <;> (try simp only [vki, reduceCtorEq] at h)) | omega | assumption | with_reducible rfl | (refine vq ?_; kernel_rfl) | skip)))
        (simp only [vrt, Try.results114, vkt, seval, tbH2_114, xbH2_1]; refine Fin.val rfl ?_; (try simp only [AV.le, AV.leL]))
        all_goals simp [-List.getD_eq_getElem?_getD, c5, c11]
      · repeat' (first | refine zq0 ?_ | refine zq1 ?_ | refine zq2 ?_ | refine zq3 ?_ | refine zq4 ?_ | refine zq5 ?_ | refine uv ?_ | refine uk ?_ | refine uw ?_ | refine uz ?_ | refine uj ?_ | refine ux ?_ | refine uq (by decide) ?_ | ((first | refine vx env fun Q hQ => ?_ | refine vz fun Q hQ => ?_); simp only [vkt, seval, tbH2_114, xbH2_1, w1, w2, c1, c2, c7, c4, c5, c6, c8, c9, c10, c11]; (try simp only [ite_and]); (repeat' (first | with_reducible assumption | refine And.intro ?_ ?_ | intro hp)); all_goals (first | (refine hQ _ ?_; clear hQ Q) | (refine hQ _ (fun h => ?_) (fun h => ?_) <;> clear hQ Q <;> (try simp only [vki, reduceCtorEq] at h)) | omega | assumption | with_reducible rfl | (refine vq ?_; kernel_rfl) | skip)))
        (simp only [vrt, Try.results114, vkt, seval, tbH2_114, xbH2_1]; refine Fin.val rfl ?_; (try simp only [AV.le, AV.leL]))
        all_goals simp [-List.getD_eq_getElem?_getD, c5, c11]
    · obtain ⟨c6, c7⟩ := ho.no c5
      by_cases c12 : x.kind = 2
      · have c13 : inB 2 1 4 = true := by decide
        by_cases c11 : has.getD x.coin.toNat 0 < x.amount
        · repeat' (first | refine zq0 ?_ | refine zq1 ?_ | refine zq2 ?_ | refine zq3 ?_ | refine zq4 ?_ | refine zq5 ?_ | refine uv ?_ | refine uk ?_ | refine uw ?_ | refine uz ?_ | refine uj ?_ | refine ux ?_ | refine uq (by decide) ?_ | ((first | refine vx env fun Q hQ => ?_ | refine vz fun Q hQ => ?_); simp only [vkt, seval, tbH2_114, xbH2_1, w1, w2, c1, c2, c13, c4, c12, c6, c7, c8, c11]; (try simp only [ite_and]); (repeat' (first | with_reducible assumption | refine And.intro ?_ ?_ | intro hp)); all_goals (first | (refine hQ _ ?_; clear hQ Q) | (refine hQ _ (fun h => ?_) (fun h => ?_) <;> clear hQ Q <;> (try simp only [vki, reduceCtorEq] at h)) | omega | assumption | with_reducible rfl | (refine vq ?_; kernel_rfl) | skip)))
          (simp only [vrt, Try.results114, vkt, seval, tbH2_114, xbH2_1]; refine Fin.val rfl ?_; (try simp only [AV.le, AV.leL]))
          all_goals simp [-List.getD_eq_getElem?_getD, c12, c11]
        · repeat' (first | refine zq0 ?_ | refine zq1 ?_ | refine zq2 ?_ | refine zq3 ?_ | refine zq4 ?_ | refine zq5 ?_ | refine uv ?_ | refine uk ?_ | refine uw ?_ | refine uz ?_ | refine uj ?_ | refine ux ?_ | refine uq (by decide) ?_ | ((first | refine vx env fun Q hQ => ?_ | refine vz fun Q hQ => ?_); simp only [vkt, seval, tbH2_114, xbH2_1, w1, w2, c1, c2, c13, c4, c12, c6, c7, c8, c11]; (try simp only [ite_and]); (repeat' (first | with_reducible assumption | refine And.intro ?_ ?_ | intro hp)); all_goals (first | (refine hQ _ ?_; clear hQ Q) | (refine hQ _ (fun h => ?_) (fun h => ?_) <;> clear hQ Q <;> (try simp only [vki, reduceCtorEq] at h)) | omega | assumption | with_reducible rfl | (refine vq ?_; kernel_rfl) | skip)))
          (simp only [vrt, Try.results114, vkt, seval, tbH2_114, xbH2_1]; refine Fin.val rfl ?_; (try simp only [AV.le, AV.leL]))
          all_goals simp [-List.getD_eq_getElem?_getD, c12, c11]
      · repeat' (first | refine zq0 ?_ | refine zq1 ?_ | refine zq2 ?_ | refine zq3 ?_ | refine zq4 ?_ | refine zq5 ?_ | refine uv ?_ | refine uk ?_ | refine uw ?_ | refine uz ?_ | refine uj ?_ | refine ux ?_ | refine uq (by decide) ?_ | ((first | refine vx env fun Q hQ => ?_ | refine vz fun Q hQ => ?_); simp only [vkt, seval, tbH2_114, xbH2_1, w1, w2, c1, c2, c3, c4, c5, c6, c7, c8, c12]; (try simp only [ite_and]); (repeat' (first | with_reducible assumption | refine And.intro ?_ ?_ | intro hp)); all_goals (first | (refine hQ _ ?_; clear hQ Q) | (refine hQ _ (fun h => ?_) (fun h => ?_) <;> clear hQ Q <;> (try simp only [vki, reduceCtorEq] at h)) | omega | assumption | with_reducible rfl | (refine vq ?_; kernel_rfl) | skip)))
        (simp only [vrt, Try.results114, vkt, seval, tbH2_114, xbH2_1]; refine Fin.val rfl ?_; (try simp only [AV.le, AV.leL]))
        all_goals simp [c12, c5]
  · rw [show eV l x before has = _ from if_pos hE]
    cases c1 : inB x.day 0 ((l.rates.length : Int) - 1)
    · repeat' (first | refine zq0 ?_ | refine zq1 ?_ | refine zq2 ?_ | refine zq3 ?_ | refine zq4 ?_ | refine zq5 ?_ | refine uv ?_ | refine uk ?_ | refine uw ?_ | refine uz ?_ | refine uj ?_ | refine ux ?_ | refine uq (by decide) ?_ | ((first | refine vx env fun Q hQ => ?_ | refine vz fun Q hQ => ?_); simp only [vkt, seval, tbH2_114, xbH2_1, w1, w2, c1]; (try simp only [ite_and]); (repeat' (first | with_reducible assumption | refine And.intro ?_ ?_ | intro hp)); all_goals (first | (refine hQ _ ?_; clear hQ Q) | (refine hQ _ (fun h => ?_) (fun h => ?_) <;> clear hQ Q <;> (try simp only [vki, reduceCtorEq] at h)) | omega | assumption | with_reducible rfl | (refine vq ?_; kernel_rfl) | skip)))
      (simp only [vrt, Try.results114, vkt, seval, tbH2_114, xbH2_1]; refine Fin.val rfl ?_; (try simp only [AV.le, AV.leL]))
      all_goals simp [entryE, c1]
    by_cases c2 : x.day < before
    · repeat' (first | refine zq0 ?_ | refine zq1 ?_ | refine zq2 ?_ | refine zq3 ?_ | refine zq4 ?_ | refine zq5 ?_ | refine uv ?_ | refine uk ?_ | refine uw ?_ | refine uz ?_ | refine uj ?_ | refine ux ?_ | refine uq (by decide) ?_ | ((first | refine vx env fun Q hQ => ?_ | refine vz fun Q hQ => ?_); simp only [vkt, seval, tbH2_114, xbH2_1, w1, w2, c1, c2]; (try simp only [ite_and]); (repeat' (first | with_reducible assumption | refine And.intro ?_ ?_ | intro hp)); all_goals (first | (refine hQ _ ?_; clear hQ Q) | (refine hQ _ (fun h => ?_) (fun h => ?_) <;> clear hQ Q <;> (try simp only [vki, reduceCtorEq] at h)) | omega | assumption | with_reducible rfl | (refine vq ?_; kernel_rfl) | skip)))
      (simp only [vrt, Try.results114, vkt, seval, tbH2_114, xbH2_1]; refine Fin.val rfl ?_; (try simp only [AV.le, AV.leL]))
      all_goals simp [entryE, c1, c2]
    cases c3 : inB x.kind 1 4
    · repeat' (first | refine zq0 ?_ | refine zq1 ?_ | refine zq2 ?_ | refine zq3 ?_ | refine zq4 ?_ | refine zq5 ?_ | refine uv ?_ | refine uk ?_ | refine uw ?_ | refine uz ?_ | refine uj ?_ | refine ux ?_ | refine uq (by decide) ?_ | ((first | refine vx env fun Q hQ => ?_ | refine vz fun Q hQ => ?_); simp only [vkt, seval, tbH2_114, xbH2_1, w1, w2, c1, c2, c3]; (try simp only [ite_and]); (repeat' (first | with_reducible assumption | refine And.intro ?_ ?_ | intro hp)); all_goals (first | (refine hQ _ ?_; clear hQ Q) | (refine hQ _ (fun h => ?_) (fun h => ?_) <;> clear hQ Q <;> (try simp only [vki, reduceCtorEq] at h)) | omega | assumption | with_reducible rfl | (refine vq ?_; kernel_rfl) | skip)))
      (simp only [vrt, Try.results114, vkt, seval, tbH2_114, xbH2_1]; refine Fin.val rfl ?_; (try simp only [AV.le, AV.leL]))
      all_goals simp [entryE, c1, c2, c3]
    cases c4 : inB x.coin 0 ((l.coins.length : Int) - 1)
    · repeat' (first | refine zq0 ?_ | refine zq1 ?_ | refine zq2 ?_ | refine zq3 ?_ | refine zq4 ?_ | refine zq5 ?_ | refine uv ?_ | refine uk ?_ | refine uw ?_ | refine uz ?_ | refine uj ?_ | refine ux ?_ | refine uq (by decide) ?_ | ((first | refine vx env fun Q hQ => ?_ | refine vz fun Q hQ => ?_); simp only [vkt, seval, tbH2_114, xbH2_1, w1, w2, c1, c2, c3, c4]; (try simp only [ite_and]); (repeat' (first | with_reducible assumption | refine And.intro ?_ ?_ | intro hp)); all_goals (first | (refine hQ _ ?_; clear hQ Q) | (refine hQ _ (fun h => ?_) (fun h => ?_) <;> clear hQ Q <;> (try simp only [vki, reduceCtorEq] at h)) | omega | assumption | with_reducible rfl | (refine vq ?_; kernel_rfl) | skip)))
      (simp only [vrt, Try.results114, vkt, seval, tbH2_114, xbH2_1]; refine Fin.val rfl ?_; (try simp only [AV.le, AV.leL]))
      all_goals simp [entryE, c1, c2, c3, c4]
    by_cases c5 : x.kind = 3
    · have c7 : inB 3 1 4 = true := by decide
      cases c6 : inB x.to 0 ((l.coins.length : Int) - 1)
      · repeat' (first | refine zq0 ?_ | refine zq1 ?_ | refine zq2 ?_ | refine zq3 ?_ | refine zq4 ?_ | refine zq5 ?_ | refine uv ?_ | refine uk ?_ | refine uw ?_ | refine uz ?_ | refine uj ?_ | refine ux ?_ | refine uq (by decide) ?_ | ((first | refine vx env fun Q hQ => ?_ | refine vz fun Q hQ => ?_); simp only [vkt, seval, tbH2_114, xbH2_1, w1, w2, c1, c2, c7, c4, c5, c6]; (try simp only [ite_and]); (repeat' (first | with_reducible assumption | refine And.intro ?_ ?_ | intro hp)); all_goals (first | (refine hQ _ ?_; clear hQ Q) | (refine hQ _ (fun h => ?_) (fun h => ?_) <;> clear hQ Q <;> (try simp only [vki, reduceCtorEq] at h)) | omega | assumption | with_reducible rfl | (refine vq ?_; kernel_rfl) | skip)))
        (simp only [vrt, Try.results114, vkt, seval, tbH2_114, xbH2_1]; refine Fin.val rfl ?_; (try simp only [AV.le, AV.leL]))
        all_goals simp [entryE, c1, c2, c7, c4, c5, c6]
      by_cases c8 : x.to = x.coin
      · have c6' : inB x.coin 0 ((l.coins.length : Int) - 1) = true := c4
        repeat' (first | refine zq0 ?_ | refine zq1 ?_ | refine zq2 ?_ | refine zq3 ?_ | refine zq4 ?_ | refine zq5 ?_ | refine uv ?_ | refine uk ?_ | refine uw ?_ | refine uz ?_ | refine uj ?_ | refine ux ?_ | refine uq (by decide) ?_ | ((first | refine vx env fun Q hQ => ?_ | refine vz fun Q hQ => ?_); simp only [vkt, seval, tbH2_114, xbH2_1, w1, w2, c1, c2, c7, c4, c5, c6, c8]; (try simp only [ite_and]); (repeat' (first | with_reducible assumption | refine And.intro ?_ ?_ | intro hp)); all_goals (first | (refine hQ _ ?_; clear hQ Q) | (refine hQ _ (fun h => ?_) (fun h => ?_) <;> clear hQ Q <;> (try simp only [vki, reduceCtorEq] at h)) | omega | assumption | with_reducible rfl | (refine vq ?_; kernel_rfl) | skip)))
        (simp only [vrt, Try.results114, vkt, seval, tbH2_114, xbH2_1]; refine Fin.val rfl ?_; (try simp only [AV.le, AV.leL]))
        all_goals simp [entryE, c1, c2, c7, c4, c5, c6', c8]
      cases c9 : inB x.got 0 999
      · repeat' (first | refine zq0 ?_ | refine zq1 ?_ | refine zq2 ?_ | refine zq3 ?_ | refine zq4 ?_ | refine zq5 ?_ | refine uv ?_ | refine uk ?_ | refine uw ?_ | refine uz ?_ | refine uj ?_ | refine ux ?_ | refine uq (by decide) ?_ | ((first | refine vx env fun Q hQ => ?_ | refine vz fun Q hQ => ?_); simp only [vkt, seval, tbH2_114, xbH2_1, w1, w2, c1, c2, c7, c4, c5, c6, c8, c9]; (try simp only [ite_and]); (repeat' (first | with_reducible assumption | refine And.intro ?_ ?_ | intro hp)); all_goals (first | (refine hQ _ ?_; clear hQ Q) | (refine hQ _ (fun h => ?_) (fun h => ?_) <;> clear hQ Q <;> (try simp only [vki, reduceCtorEq] at h)) | omega | assumption | with_reducible rfl | (refine vq ?_; kernel_rfl) | skip)))
        (simp only [vrt, Try.results114, vkt, seval, tbH2_114, xbH2_1]; refine Fin.val rfl ?_; (try simp only [AV.le, AV.leL]))
        all_goals simp [entryE, c1, c2, c7, c4, c5, c6, c8, c9]
      cases c10 : inB x.amount 0 999
      · repeat' (first | refine zq0 ?_ | refine zq1 ?_ | refine zq2 ?_ | refine zq3 ?_ | refine zq4 ?_ | refine zq5 ?_ | refine uv ?_ | refine uk ?_ | refine uw ?_ | refine uz ?_ | refine uj ?_ | refine ux ?_ | refine uq (by decide) ?_ | ((first | refine vx env fun Q hQ => ?_ | refine vz fun Q hQ => ?_); simp only [vkt, seval, tbH2_114, xbH2_1, w1, w2, c1, c2, c7, c4, c5, c6, c8, c9, c10]; (try simp only [ite_and]); (repeat' (first | with_reducible assumption | refine And.intro ?_ ?_ | intro hp)); all_goals (first | (refine hQ _ ?_; clear hQ Q) | (refine hQ _ (fun h => ?_) (fun h => ?_) <;> clear hQ Q <;> (try simp only [vki, reduceCtorEq] at h)) | omega | assumption | with_reducible rfl | (refine vq ?_; kernel_rfl) | skip)))
        (simp only [vrt, Try.results114, vkt, seval, tbH2_114, xbH2_1]; refine Fin.val rfl ?_; (try simp only [AV.le, AV.leL]))
        all_goals simp [entryE, c1, c2, c7, c4, c5, c6, c8, c9, c10]
      exact absurd (by simp [entryE, c1, c2, c7, c4, c5, c6, c8, c9, c10]) hE
    · by_cases c6 : x.to = 0
      · by_cases c7 : x.got = 0
        · cases c10 : inB x.amount 0 999
          · repeat' (first | refine zq0 ?_ | refine zq1 ?_ | refine zq2 ?_ | refine zq3 ?_ | refine zq4 ?_ | refine zq5 ?_ | refine uv ?_ | refine uk ?_ | refine uw ?_ | refine uz ?_ | refine uj ?_ | refine ux ?_ | refine uq (by decide) ?_ | ((first | refine vx env fun Q hQ => ?_ | refine vz fun Q hQ => ?_); simp only [vkt, seval, tbH2_114, xbH2_1, w1, w2, c1, c2, c3, c4, c5, c6, c7, c10]; (try simp only [ite_and]); (repeat' (first | with_reducible assumption | refine And.intro ?_ ?_ | intro hp)); all_goals (first | (refine hQ _ ?_; clear hQ Q) | (refine hQ _ (fun h => ?_) (fun h => ?_) <;> clear hQ Q <;> (try simp only [vki, reduceCtorEq] at h)) | omega | assumption | with_reducible rfl | (refine vq ?_; kernel_rfl) | skip)))
            (simp only [vrt, Try.results114, vkt, seval, tbH2_114, xbH2_1]; refine Fin.val rfl ?_; (try simp only [AV.le, AV.leL]))
            all_goals simp [entryE, c1, c2, c3, c4, c5, c6, c7, c10]
          exact absurd (by simp [entryE, c1, c2, c3, c4, c5, c6, c7, c10]) hE
        · repeat' (first | refine zq0 ?_ | refine zq1 ?_ | refine zq2 ?_ | refine zq3 ?_ | refine zq4 ?_ | refine zq5 ?_ | refine uv ?_ | refine uk ?_ | refine uw ?_ | refine uz ?_ | refine uj ?_ | refine ux ?_ | refine uq (by decide) ?_ | ((first | refine vx env fun Q hQ => ?_ | refine vz fun Q hQ => ?_); simp only [vkt, seval, tbH2_114, xbH2_1, w1, w2, c1, c2, c3, c4, c5, c6, c7]; (try simp only [ite_and]); (repeat' (first | with_reducible assumption | refine And.intro ?_ ?_ | intro hp)); all_goals (first | (refine hQ _ ?_; clear hQ Q) | (refine hQ _ (fun h => ?_) (fun h => ?_) <;> clear hQ Q <;> (try simp only [vki, reduceCtorEq] at h)) | omega | assumption | with_reducible rfl | (refine vq ?_; kernel_rfl) | skip)))
          (simp only [vrt, Try.results114, vkt, seval, tbH2_114, xbH2_1]; refine Fin.val rfl ?_; (try simp only [AV.le, AV.leL]))
          all_goals simp [entryE, c1, c2, c3, c4, c5, c6, c7]
      · repeat' (first | refine zq0 ?_ | refine zq1 ?_ | refine zq2 ?_ | refine zq3 ?_ | refine zq4 ?_ | refine zq5 ?_ | refine uv ?_ | refine uk ?_ | refine uw ?_ | refine uz ?_ | refine uj ?_ | refine ux ?_ | refine uq (by decide) ?_ | ((first | refine vx env fun Q hQ => ?_ | refine vz fun Q hQ => ?_); simp only [vkt, seval, tbH2_114, xbH2_1, w1, w2, c1, c2, c3, c4, c5, c6]; (try simp only [ite_and]); (repeat' (first | with_reducible assumption | refine And.intro ?_ ?_ | intro hp)); all_goals (first | (refine hQ _ ?_; clear hQ Q) | (refine hQ _ (fun h => ?_) (fun h => ?_) <;> clear hQ Q <;> (try simp only [vki, reduceCtorEq] at h)) | omega | assumption | with_reducible rfl | (refine vq ?_; kernel_rfl) | skip)))
        (simp only [vrt, Try.results114, vkt, seval, tbH2_114, xbH2_1]; refine Fin.val rfl ?_; (try simp only [AV.le, AV.leL]))
        all_goals simp [entryE, c1, c2, c3, c4, c5, c6]
def s114 : List AV → Prop × AV
  | [.agg [.sl cs, .sl rs, .sl ss, .sl es], .agg [.v (.int .i64 a), .v (.int .i64 b), .v (.int .i64 c), .v (.int .i64 d), .v (.int .i64 e), .v (.int .i64 f)], .v (.int .i64 n), .sl hs] =>
    (isL cs rs ss es ∧ hs = (hs.map dInt).map eInt ∧ rs.length ≤ 20 ∧ cs.length ≤ 20 ∧ hs.length = cs.length, aI (eV (ldOf cs rs ss es) ⟨a, b, c, d, e, f⟩ n (hs.map dInt)))
  | _ => (False, .junk)
theorem e114 {A : Frm → Prop} : EntryOK A Try.prog 114 (valE true s114) := valE_ok fun vs hv h => by
  clear hv
  unfold s114 at h ⊢
  split at h
  · rename_i cs rs ss es a b c d e f n hs
    obtain ⟨h1, h2, h3, h4, h5⟩ := h
    refine ⟨trivial, fun _ => trivial, ?_⟩
    have := rentry_fn (ldOf cs rs ss es) ⟨a, b, c, d, e, f⟩ n (hs.map dInt) (by simpa [ldOf] using h3) (by simpa [ldOf] using h4) (by simpa [ldOf] using h5)
    rw [aLed_of h1, aInts, ← h2] at this
    exact this
  · exact h.elim
def tbH2_115 := vj @ty3 (vj @ty22 (vj @ty48 (vj @ti3.eq_1 (vj @ti22.eq_1 @ti48.eq_1))))
def xbH2_2 := vj @aI.eq_1 (vj @aB.eq_1 (vj @aEnt.eq_1 (vj @aInts.eq_1 (vj @setI (@rInt)))))
set_option maxHeartbeats 1000000 in
theorem rdone_fn (has : List Int) (x : Ent) (h : EnOk has x) (hl : has.length ≤ 100000) : FnV Try.prog 115 [aInts has, aEnt x] (aInts (enterF has x)) := by
  have env : Env (fun _ => True) Try.prog tyB (tab []) := mkEnv trivial
  refine Fn.of (A := fun _ => True) (n0 := 0) (D := noD) (Fn0 Try.func115 rfl (fun vs w => by kernel_rfl) (by kernel_rfl)) (by simp) (by simp [AV.ids, AV.idsL, aEnt, aInts]) (fun i o h => by cases h) (fun _ _ _ _ => trivial) noD_ok ?_
  obtain ⟨z1, z2, z3, z4⟩ := b47 hl
  have c0 := h.c0
  have c1 := h.c1
  have g1 := gI0 h.c1
  have b1 := bGet (n := x.coin.toNat) h.b
  have ha := h.a
  by_cases k1 : x.kind = 1
  · rw [show enterF has x = _ from if_pos k1]
    have w1 : IntKind.wrap .i64 (has.getD x.coin.toNat 0 + x.amount) = has.getD x.coin.toNat 0 + x.amount := wrap64 (by omega) (by omega)
    repeat' (first | refine zq0 ?_ | refine zq1 ?_ | refine zq2 ?_ | refine zq3 ?_ | refine zq4 ?_ | refine zq5 ?_ | refine uv ?_ | refine uk ?_ | refine uw ?_ | refine uz ?_ | refine uj ?_ | refine ux ?_ | refine uq (by decide) ?_ | ((first | refine vx env fun Q hQ => ?_ | refine vz fun Q hQ => ?_); simp only [vkt, seval, tbH2_115, xbH2_2, k1, g1, w1, eInt]; (try simp only [ite_and]); (repeat' (first | with_reducible assumption | refine And.intro ?_ ?_ | intro hp)); all_goals (first | (refine hQ _ ?_; clear hQ Q) | (refine hQ _ (fun h => ?_) (fun h => ?_) <;> clear hQ Q <;> (try simp only [vki, reduceCtorEq] at h)) | omega | assumption | with_reducible rfl | (refine vq ?_; kernel_rfl) | skip)))
    (simp only [vrt, Try.results115, vkt, seval, tbH2_115, xbH2_2]; refine Fin.val rfl ?_; (try simp only [AV.le, AV.leL]))
    all_goals exact ⟨_, _, rfl⟩
  by_cases k2 : x.kind = 2
  · rw [show enterF has x = addAt has x.coin (-x.amount) by unfold enterF; rw [if_neg k1, if_pos k2]]
    have w1 : IntKind.wrap .i64 (has.getD x.coin.toNat 0 - x.amount) = has.getD x.coin.toNat 0 + -x.amount := by rw [wrap64 (by omega) (by omega)]; omega
    repeat' (first | refine zq0 ?_ | refine zq1 ?_ | refine zq2 ?_ | refine zq3 ?_ | refine zq4 ?_ | refine zq5 ?_ | refine uv ?_ | refine uk ?_ | refine uw ?_ | refine uz ?_ | refine uj ?_ | refine ux ?_ | refine uq (by decide) ?_ | ((first | refine vx env fun Q hQ => ?_ | refine vz fun Q hQ => ?_); simp only [vkt, seval, tbH2_115, xbH2_2, k2, g1, w1, eInt]; (try simp only [ite_and]); (repeat' (first | with_reducible assumption | refine And.intro ?_ ?_ | intro hp)); all_goals (first | (refine hQ _ ?_; clear hQ Q) | (refine hQ _ (fun h => ?_) (fun h => ?_) <;> clear hQ Q <;> (try simp only [vki, reduceCtorEq] at h)) | omega | assumption | with_reducible rfl | (refine vq ?_; kernel_rfl) | skip)))
    (simp only [vrt, Try.results115, vkt, seval, tbH2_115, xbH2_2]; refine Fin.val rfl ?_; (try simp only [AV.le, AV.leL]))
    all_goals exact ⟨_, _, rfl⟩
  by_cases k3 : x.kind = 3
  · rw [show enterF has x = addAt (addAt has x.coin (-x.amount)) x.to x.got by unfold enterF; rw [if_neg k1, if_neg k2, if_pos k3]]
    have w1 : IntKind.wrap .i64 (has.getD x.coin.toNat 0 - x.amount) = has.getD x.coin.toNat 0 + -x.amount := by rw [wrap64 (by omega) (by omega)]; omega
    obtain ⟨t0, t1⟩ := h.t k3
    have hg := h.g k3
    have hb2 : ∀ v ∈ addAt has x.coin (-x.amount), -1001000 ≤ v ∧ v ≤ 1001000 := fun v hv => by
      rcases List.mem_or_eq_of_mem_set hv with h1 | h1
      · have := h.b v h1; omega
      · omega
    have t2 : x.to.toNat < (addAt has x.coin (-x.amount)).length := by simp [addAt]; exact t1
    have g2 := gI0 t2
    have b2 := hb2 _ (gMem (d := 0) t2)
    have w2 : IntKind.wrap .i64 ((addAt has x.coin (-x.amount)).getD x.to.toNat 0 + x.got) = (addAt has x.coin (-x.amount)).getD x.to.toNat 0 + x.got := wrap64 (by omega) (by omega)
    have e2 : has.set x.coin.toNat (has.getD x.coin.toNat 0 + -x.amount) = addAt has x.coin (-x.amount) := rfl
    repeat' (first | refine zq0 ?_ | refine zq1 ?_ | refine zq2 ?_ | refine zq3 ?_ | refine zq4 ?_ | refine zq5 ?_ | refine uv ?_ | refine uk ?_ | refine uw ?_ | refine uz ?_ | refine uj ?_ | refine ux ?_ | refine uq (by decide) ?_ | ((first | refine vx env fun Q hQ => ?_ | refine vz fun Q hQ => ?_); simp only [vkt, seval, tbH2_115, xbH2_2, k3, g1, w1, e2, g2, w2, eInt]; (try simp only [ite_and]); (repeat' (first | with_reducible assumption | refine And.intro ?_ ?_ | intro hp)); all_goals (first | (refine hQ _ ?_; clear hQ Q) | (refine hQ _ (fun h => ?_) (fun h => ?_) <;> clear hQ Q <;> (try simp only [vki, reduceCtorEq] at h)) | omega | assumption | with_reducible rfl | (refine vq ?_; kernel_rfl) | skip)))
    (simp only [vrt, Try.results115, vkt, seval, tbH2_115, xbH2_2]; refine Fin.val rfl ?_; (try simp only [AV.le, AV.leL]))
    all_goals exact ⟨_, _, rfl⟩
  by_cases k4 : x.kind = 4
  · rw [show enterF has x = has.set x.coin.toNat x.amount by unfold enterF; rw [if_neg k1, if_neg k2, if_neg k3, if_pos k4]]
    repeat' (first | refine zq0 ?_ | refine zq1 ?_ | refine zq2 ?_ | refine zq3 ?_ | refine zq4 ?_ | refine zq5 ?_ | refine uv ?_ | refine uk ?_ | refine uw ?_ | refine uz ?_ | refine uj ?_ | refine ux ?_ | refine uq (by decide) ?_ | ((first | refine vx env fun Q hQ => ?_ | refine vz fun Q hQ => ?_); simp only [vkt, seval, tbH2_115, xbH2_2, k4, g1, eInt]; (try simp only [ite_and]); (repeat' (first | with_reducible assumption | refine And.intro ?_ ?_ | intro hp)); all_goals (first | (refine hQ _ ?_; clear hQ Q) | (refine hQ _ (fun h => ?_) (fun h => ?_) <;> clear hQ Q <;> (try simp only [vki, reduceCtorEq] at h)) | omega | assumption | with_reducible rfl | (refine vq ?_; kernel_rfl) | skip)))
    (simp only [vrt, Try.results115, vkt, seval, tbH2_115, xbH2_2]; refine Fin.val rfl ?_; (try simp only [AV.le, AV.leL]))
    all_goals exact ⟨_, _, rfl⟩
  · rw [show enterF has x = has by unfold enterF; rw [if_neg k1, if_neg k2, if_neg k3, if_neg k4]]
    repeat' (first | refine zq0 ?_ | refine zq1 ?_ | refine zq2 ?_ | refine zq3 ?_ | refine zq4 ?_ | refine zq5 ?_ | refine uv ?_ | refine uk ?_ | refine uw ?_ | refine uz ?_ | refine uj ?_ | refine ux ?_ | refine uq (by decide) ?_ | ((first | refine vx env fun Q hQ => ?_ | refine vz fun Q hQ => ?_); simp only [vkt, seval, tbH2_115, xbH2_2, k1, k2, k3, k4]; (try simp only [ite_and]); (repeat' (first | with_reducible assumption | refine And.intro ?_ ?_ | intro hp)); all_goals (first | (refine hQ _ ?_; clear hQ Q) | (refine hQ _ (fun h => ?_) (fun h => ?_) <;> clear hQ Q <;> (try simp only [vki, reduceCtorEq] at h)) | omega | assumption | with_reducible rfl | (refine vq ?_; kernel_rfl) | skip)))
    (simp only [vrt, Try.results115, vkt, seval, tbH2_115, xbH2_2]; refine Fin.val rfl ?_; (try simp only [AV.le, AV.leL]))
    all_goals exact ⟨_, _, rfl⟩
def s115 : List AV → Prop × AV
  | [.sl hs, .agg [.v (.int .i64 a), .v (.int .i64 b), .v (.int .i64 c), .v (.int .i64 d), .v (.int .i64 e), .v (.int .i64 f)]] => (hs = (hs.map dInt).map eInt ∧ hs.length ≤ 100000 ∧ EnOk (hs.map dInt) ⟨a, b, c, d, e, f⟩, aInts (enterF (hs.map dInt) ⟨a, b, c, d, e, f⟩))
  | _ => (False, .junk)
theorem e115 {A : Frm → Prop} : EntryOK A Try.prog 115 (valE false s115) := valE_ok fun vs hv h => by
  clear hv
  unfold s115 at h ⊢
  split at h
  · rename_i hs a b c d e f
    obtain ⟨h1, h2, h3⟩ := h
    refine ⟨trivial, fun h => absurd h (by decide), ?_⟩
    have := rdone_fn (hs.map dInt) ⟨a, b, c, d, e, f⟩ h3 (by simpa using h2)
    rw [aInts, ← h1] at this
    exact this
  · exact h.elim
end Go.Sym.B
namespace Go.Sym.B
open Go Go.Sym Go.Proofs Go.Sym.C
theorem sh_gcd {n d : Int} (hn : 1 ≤ n) (hd : 1 ≤ d) : (⟨n, d⟩ : Sh) = shQ (mkRat n d.toNat) ↔ gcdI n d = 1 := by
  have hq : (0 : Int) < d := by omega
  have e1 := mk_num (a := n) hq
  have e2 := mk_den (a := n) hq
  have hg : 0 < Nat.gcd n.natAbs d.toNat := Nat.gcd_pos_of_pos_right _ (by omega)
  have hl := Nat.gcd_dvd_left n.natAbs d.toNat
  rw [sh_eq]
  show (n = (mkRat n d.toNat).num ∧ d = ((mkRat n d.toNat).den : Int)) ↔ _
  rw [e1, e2]
  unfold gcdI
  generalize Nat.gcd n.natAbs d.toNat = g at *
  constructor
  · rintro ⟨h1, _⟩
    obtain ⟨q, hq⟩ := hl
    have h7 : n = (g : Int) * (q : Int) := by rw [show n = (n.natAbs : Int) by omega, hq]; exact Int.natCast_mul g q
    rw [h7, Int.mul_tdiv_cancel_left _ (by omega)] at h1
    have hq0 : 0 < (q : Int) := by
      rcases Nat.eq_zero_or_pos q with h8 | h8
      · subst h8; simp at h7; omega
      · omega
    have : (g : Int) * q = 1 * q := by omega
    exact Int.eq_of_mul_eq_mul_right (by omega) this
  · intro h
    rw [h]; simp
def ckR (l : Led) : Int :=
  if countedE l.rates.length 1 4 ≠ 0 then countedE l.rates.length 1 4 else if firstE (errs l.rates.length (ckRate l)) ≠ 0 then firstE (errs l.rates.length (ckRate l))
  else if l.start.length ≠ l.coins.length then 2 else firstE (errs l.start.length (startE l))
def ckC (l : Led) : Int :=
  if countedE l.coins.length 1 4 ≠ 0 then countedE l.coins.length 1 4 else if firstE (errs l.coins.length (ckCoin l)) ≠ 0 then firstE (errs l.coins.length (ckCoin l)) else ckR l
theorem checkE_eq (l : Led) : checkE l = if ckC l ≠ 0 then ckC l else entriesE l := by
  unfold checkE ckC ckR
  repeat' split
  all_goals first | rfl | contradiction | (simp_all; done)
def rr1 (l : Led) (k : Nat) : St := { t := asg [(1, .ptr 0 0), (2, aI 0), (3, aI k)], h := hasg [(0, .cells (cLed l))], n := 1 }
def rr2 (l : Led) (r : List Sh) (k i : Nat) : St := { t := asg [(1, .ptr 0 0), (2, aI 0), (3, aI k), (4, aShs r), (5, aI ((1 + i : Nat) : Int))], h := hasg [(0, .cells (cLed l))], n := 1 }
def rr3 (l : Led) (k : Nat) : St := { t := asg [(1, .ptr 0 0), (2, aI 0), (6, aI k)], h := hasg [(0, .cells (cLed l))], n := 1 }
def rc2 (l : Led) (r : List Int) (k i : Nat) : St := { t := asg [(1, .ptr 0 0), (2, aI 0), (3, aI k), (4, aInts r), (5, aI ((1 + i : Nat) : Int))], h := hasg [(0, .cells (cLed l))], n := 1 }
def tbH3_141 := vj @ty3 (vj @ty22 (vj @ty28 (vj @ty35 (vj @ty38 (vj @ty55 (vj @ty59 (vj @ti3.eq_1 (vj @ti22.eq_1 (vj @ti28.eq_1 (vj @ti35.eq_1 (vj @ti38.eq_1 (vj @ti55.eq_1 @ti59.eq_1))))))))))))
def xbH3_1 := vj @aI.eq_1 (vj @aB.eq_1 (vj @aLed.eq_1 (vj @cLed.eq_1 (vj @rr1.eq_1 (vj @rr2.eq_1 (vj @rr3.eq_1 (vj @aShs.eq_1 (vj @gInt (vj @eInt.eq_1 (vj @gShs (vj @gSh (vj @eShs.eq_1 (vj @eSh.eq_1 (vj @s79.eq_1 (vj @s79.eq_2 (vj @s116.eq_1 (@s116.eq_2)))))))))))))))))
set_option maxHeartbeats 4000000 in
theorem rrates_fn (l : Led) (hl : Fit l) (hc : 1 ≤ l.coins.length) : FnV Try.prog 141 [aLed l] (aI (ckR l)) := by
  have env : Env (fun _ => True) Try.prog tyB (tab [(82, valE true s79), (116, valE true s116)]) := mkEnv ⟨e82, e116, trivial⟩
  refine Fn.of (A := fun _ => True) (n0 := 0) (D := noD) (Fn0 Try.func141 rfl (fun vs w => by kernel_rfl) (by kernel_rfl)) (by simp) (by simp [AV.ids, AV.idsL, aLed, cLed]) (fun i o h => by cases h) (fun _ _ _ _ => trivial) noD_ok ?_
  have q1 := hl.c
  have q2 := hl.r
  have q4 := hl.s
  have q5 := tmax
  by_cases a1 : l.rates.length = 0
  · have a1' : (l.rates.length : Int) = 0 := by omega
    repeat' (first | refine zq0 ?_ | refine zq1 ?_ | refine zq2 ?_ | refine zq3 ?_ | refine zq4 ?_ | refine zq5 ?_ | refine uv ?_ | refine uk ?_ | refine uw ?_ | refine uz ?_ | refine uj ?_ | refine ux ?_ | refine uq (by decide) ?_ | ((first | refine vx env fun Q hQ => ?_ | refine vz fun Q hQ => ?_); simp only [vkt, seval, tbH3_141, xbH3_1, a1']; (try simp only [ite_and]); (repeat' (first | with_reducible assumption | refine And.intro ?_ ?_ | intro hp)); all_goals (first | (refine hQ _ ?_; clear hQ Q) | (refine hQ _ (fun h => ?_) (fun h => ?_) <;> clear hQ Q <;> (try simp only [vki, reduceCtorEq] at h)) | omega | assumption | with_reducible rfl | (refine vq ?_; kernel_rfl) | skip)))
    (simp only [vrt, Try.results141, vkt, seval, tbH3_141, xbH3_1]; refine Fin.val rfl ?_; (try simp only [AV.le, AV.leL]))
    all_goals (unfold ckR countedE; simp [a1])
  by_cases a2 : 4 < l.rates.length
  · have a1' : ¬ (l.rates.length : Int) = 0 := by omega
    have a2' : (4 : Int) < (l.rates.length : Int) := by omega
    have h4 : countedE l.rates.length 1 4 = 6 := by unfold countedE; rw [if_neg (by omega), if_pos a2']
    repeat' (first | refine zq0 ?_ | refine zq1 ?_ | refine zq2 ?_ | refine zq3 ?_ | refine zq4 ?_ | refine zq5 ?_ | refine uv ?_ | refine uk ?_ | refine uw ?_ | refine uz ?_ | refine uj ?_ | refine ux ?_ | refine uq (by decide) ?_ | ((first | refine vx env fun Q hQ => ?_ | refine vz fun Q hQ => ?_); simp only [vkt, seval, tbH3_141, xbH3_1, a1', a2']; (try simp only [ite_and]); (repeat' (first | with_reducible assumption | refine And.intro ?_ ?_ | intro hp)); all_goals (first | (refine hQ _ ?_; clear hQ Q) | (refine hQ _ (fun h => ?_) (fun h => ?_) <;> clear hQ Q <;> (try simp only [vki, reduceCtorEq] at h)) | omega | assumption | with_reducible rfl | (refine vq ?_; kernel_rfl) | skip)))
    (simp only [vrt, Try.results141, vkt, seval, tbH3_141, xbH3_1]; refine Fin.val rfl ?_; (try simp only [AV.le, AV.leL]))
    all_goals (unfold ckR; rw [if_pos (by rw [h4]; decide), h4])
  have a1' : ¬ (l.rates.length : Int) = 0 := by omega
  have a2' : ¬ (4 : Int) < (l.rates.length : Int) := by omega
  have h0 : countedE l.rates.length 1 4 = 0 := by unfold countedE; rw [if_neg (by omega), if_neg a2']
  repeat' (first | refine zq0 ?_ | refine zq1 ?_ | refine zq2 ?_ | refine zq3 ?_ | refine zq4 ?_ | refine zq5 ?_ | refine uv ?_ | refine uk ?_ | refine uw ?_ | refine uz ?_ | refine uj ?_ | refine ux ?_ | refine uq (by decide) ?_ | ((first | refine vx env fun Q hQ => ?_ | refine vz fun Q hQ => ?_); simp only [vkt, seval, tbH3_141, xbH3_1, a1', a2']; (try simp only [ite_and]); (repeat' (first | with_reducible assumption | refine And.intro ?_ ?_ | intro hp)); all_goals (first | (refine hQ _ ?_; clear hQ Q) | (refine hQ _ (fun h => ?_) (fun h => ?_) <;> clear hQ Q <;> (try simp only [vki, reduceCtorEq] at h)) | omega | assumption | with_reducible rfl | (refine vq ?_; kernel_rfl) | skip)))
  refine sym_loop (ι := FI (errs l.rates.length (ckRate l))) (fun i => rr1 l i.k) (fun i => l.rates.length - i.k) (FI.zero _) ?_ fun i => ?_
  · (refine Le.ok some [] ?_; constructor; all_goals (try simp only [vle, vkt, seval, tbH3_141, xbH3_1]))
    all_goals simp [FI.zero]
  · have hk := i.le
    rw [errs_len] at hk
    repeat' (first | refine zq0 ?_ | refine zq1 ?_ | refine zq2 ?_ | refine zq3 ?_ | refine zq4 ?_ | refine zq5 ?_ | refine uv ?_ | refine uk ?_ | refine uw ?_ | refine uz ?_ | refine uj ?_ | refine ux ?_ | refine uq (by decide) ?_)
    (refine vx env fun Q hQ => ?_; simp only [vkt, seval, tbH3_141, xbH3_1]; (try simp only [ite_and]); (repeat' (first | with_reducible assumption | refine And.intro ?_ ?_ | intro hp)); all_goals (first | (refine hQ _ ?_; clear hQ Q) | omega | assumption | with_reducible rfl | (refine vq ?_; kernel_rfl) | skip))
    repeat' (first | refine zq0 ?_ | refine zq1 ?_ | refine zq2 ?_ | refine zq3 ?_ | refine zq4 ?_ | refine zq5 ?_ | refine uv ?_ | refine uk ?_ | refine uw ?_ | refine uz ?_ | refine uj ?_ | refine ux ?_ | refine uq (by decide) ?_)
    (refine sym_cd (by simp only [vkt, seval, tbH3_141, xbH3_1]; rfl) (fun h => ?_) (fun h => ?_) <;> (try simp only [vki, reduceCtorEq] at h))
    · have hlt : i.k < l.rates.length := by omega
      have hpl := hl.rs _ (gMem (d := []) hlt)
      have e9 := wrap_succ hlt (show l.rates.length ≤ maxLen by omega)
      have out : ∀ e, ratesE (l.rates.getD i.k []) l.coins.length = e → e ≠ 0 → ckR l = e := fun e he h1 => by
        have := i.hit hlt (by show ratesE (l.rates.getD i.k []) l.coins.length ≠ 0; rw [he]; exact h1)
        unfold ckR
        rw [if_neg (by rw [h0]; simp), if_pos (by rw [this]; show ratesE _ _ ≠ 0; rw [he]; exact h1), this]
        exact he
      have hN : ratesE (l.rates.getD i.k []) l.coins.length = 0 → ∃ i' : FI (errs l.rates.length (ckRate l)), l.rates.length - i'.k < l.rates.length - i.k ∧ i'.k = i.k + 1 := fun h1 => ⟨i.next hlt h1, by show l.rates.length - (i.k + 1) < _; omega, rfl⟩
      obtain ⟨r, hr⟩ : ∃ r, l.rates.getD i.k [] = r := ⟨_, rfl⟩
      rw [hr] at hpl out hN
      by_cases d1 : r.length = l.coins.length
      · have d1' : (r.length : Int) = (l.coins.length : Int) := by omega
        have r0 : 0 < r.length := by omega
        by_cases d2 : r.getD 0 default = ⟨1, 1⟩
        · have d3 := congrArg Sh.num d2
          have d4 := congrArg Sh.den d2
          dsimp only at d3 d4
          have hrE : ratesE r l.coins.length = firstE (errs (r.length - 1) (rateE r)) := by unfold ratesE; rw [if_neg (by rw [d1']; simp), if_neg (by rw [d2]; simp)]
          repeat' (first | refine zq0 ?_ | refine zq1 ?_ | refine zq2 ?_ | refine zq3 ?_ | refine zq4 ?_ | refine zq5 ?_ | refine uv ?_ | refine uk ?_ | refine uw ?_ | refine uz ?_ | refine uj ?_ | refine ux ?_ | refine uq (by decide) ?_ | ((first | refine vx env fun Q hQ => ?_ | refine vz fun Q hQ => ?_); simp only [vkt, seval, tbH3_141, xbH3_1, hr, d1', d3, d4]; (try simp only [ite_and]); (repeat' (first | with_reducible assumption | refine And.intro ?_ ?_ | intro hp)); all_goals (first | (refine hQ _ ?_; clear hQ Q) | (refine hQ _ (fun h => ?_) (fun h => ?_) <;> clear hQ Q <;> (try simp only [vki, reduceCtorEq] at h)) | omega | assumption | with_reducible rfl | (refine vq ?_; kernel_rfl) | skip)))
          refine sym_loop (ι := FI (errs (r.length - 1) (rateE r))) (fun j => rr2 l r i.k j.k) (fun j => r.length - j.k) (FI.zero _) ?_ fun j => ?_
          · (refine Le.ok some [] ?_; constructor; all_goals (try simp only [vle, vkt, seval, tbH3_141, xbH3_1]))
            all_goals first | rfl | (simp [FI.zero]; done)
          · have hj := j.le
            rw [errs_len] at hj
            repeat' (first | refine zq0 ?_ | refine zq1 ?_ | refine zq2 ?_ | refine zq3 ?_ | refine zq4 ?_ | refine zq5 ?_ | refine uv ?_ | refine uk ?_ | refine uw ?_ | refine uz ?_ | refine uj ?_ | refine ux ?_ | refine uq (by decide) ?_)
            (refine vx env fun Q hQ => ?_; simp only [vkt, seval, tbH3_141, xbH3_1]; (try simp only [ite_and]); (repeat' (first | with_reducible assumption | refine And.intro ?_ ?_ | intro hp)); all_goals (first | (refine hQ _ ?_; clear hQ Q) | omega | assumption | with_reducible rfl | (refine vq ?_; kernel_rfl) | skip))
            repeat' (first | refine zq0 ?_ | refine zq1 ?_ | refine zq2 ?_ | refine zq3 ?_ | refine zq4 ?_ | refine zq5 ?_ | refine uv ?_ | refine uk ?_ | refine uw ?_ | refine uz ?_ | refine uj ?_ | refine ux ?_ | refine uq (by decide) ?_)
            (refine sym_cd (by simp only [vkt, seval, tbH3_141, xbH3_1]; rfl) (fun h => ?_) (fun h => ?_) <;> (try simp only [vki, reduceCtorEq] at h))
            · have hjl : j.k < r.length - 1 := by omega
              have hjl2 : 1 + j.k < r.length := by omega
              have e8 : IntKind.wrap .i64 (((1 + j.k : Nat) : Int) + 1) = ((1 + (j.k + 1) : Nat) : Int) := by rw [wrap64 (by omega) (by omega)]; omega
              have hit : ∀ e, rateE r j.k = e → e ≠ 0 → ckR l = e := fun e he h1 => out e (by rw [hrE, j.hit hjl (by rw [he]; exact h1), he]) h1
              have nxt : rateE r j.k = 0 → ∃ j' : FI (errs (r.length - 1) (rateE r)), r.length - j'.k < r.length - j.k ∧ j'.k = j.k + 1 := fun h1 => ⟨j.next hjl h1, by show r.length - (j.k + 1) < _; omega, rfl⟩
              unfold rateE at hit nxt
              obtain ⟨s, hs⟩ : ∃ s, r.getD (1 + j.k) default = s := ⟨_, rfl⟩
              rw [hs] at hit nxt
              cases c1 : inB s.num 1 20
              · repeat' (first | refine zq0 ?_ | refine zq1 ?_ | refine zq2 ?_ | refine zq3 ?_ | refine zq4 ?_ | refine zq5 ?_ | refine uv ?_ | refine uk ?_ | refine uw ?_ | refine uz ?_ | refine uj ?_ | refine ux ?_ | refine uq (by decide) ?_ | ((first | refine vx env fun Q hQ => ?_ | refine vz fun Q hQ => ?_); simp only [vkt, seval, tbH3_141, xbH3_1, hr, hs, c1]; (try simp only [ite_and]); (repeat' (first | with_reducible assumption | refine And.intro ?_ ?_ | intro hp)); all_goals (first | (refine hQ _ ?_; clear hQ Q) | (refine hQ _ (fun h => ?_) (fun h => ?_) <;> clear hQ Q <;> (try simp only [vki, reduceCtorEq] at h)) | omega | assumption | with_reducible rfl | (refine vq ?_; kernel_rfl) | skip)))
                (simp only [vrt, Try.results141, vkt, seval, tbH3_141, xbH3_1]; refine Fin.val rfl ?_; (try simp only [AV.le, AV.leL]))
                all_goals rw [hit 1 (by unfold shE; simp [c1]) (by decide)]
              cases c2 : inB s.den 1 12
              · repeat' (first | refine zq0 ?_ | refine zq1 ?_ | refine zq2 ?_ | refine zq3 ?_ | refine zq4 ?_ | refine zq5 ?_ | refine uv ?_ | refine uk ?_ | refine uw ?_ | refine uz ?_ | refine uj ?_ | refine ux ?_ | refine uq (by decide) ?_ | ((first | refine vx env fun Q hQ => ?_ | refine vz fun Q hQ => ?_); simp only [vkt, seval, tbH3_141, xbH3_1, hr, hs, c1, c2]; (try simp only [ite_and]); (repeat' (first | with_reducible assumption | refine And.intro ?_ ?_ | intro hp)); all_goals (first | (refine hQ _ ?_; clear hQ Q) | (refine hQ _ (fun h => ?_) (fun h => ?_) <;> clear hQ Q <;> (try simp only [vki, reduceCtorEq] at h)) | omega | assumption | with_reducible rfl | (refine vq ?_; kernel_rfl) | skip)))
                (simp only [vrt, Try.results141, vkt, seval, tbH3_141, xbH3_1]; refine Fin.val rfl ?_; (try simp only [AV.le, AV.leL]))
                all_goals rw [hit 1 (by unfold shE; simp [c1, c2]) (by decide)]
              have b1 := inB_iff.1 c1
              have b2 := inB_iff.1 c2
              have hro : OfOk s.num s.den := ⟨by omega, by omega, by omega, by omega⟩
              have hsg := sh_gcd (n := s.num) (d := s.den) b1.1 b2.1
              by_cases c3 : gcdI s.num s.den = 1
              · obtain ⟨j', g1, g2⟩ := nxt (by unfold shE; rw [c1, c2, if_neg (by simp), if_neg (by simp), if_neg (by rw [ne_eq, Decidable.not_not]; exact hsg.2 c3)])
                repeat' (first | refine zq0 ?_ | refine zq1 ?_ | refine zq2 ?_ | refine zq3 ?_ | refine zq4 ?_ | refine zq5 ?_ | refine uv ?_ | refine uk ?_ | refine uw ?_ | refine uz ?_ | refine uj ?_ | refine ux ?_ | refine uq (by decide) ?_ | ((first | refine vx env fun Q hQ => ?_ | refine vz fun Q hQ => ?_); simp only [vkt, seval, tbH3_141, xbH3_1, hr, hs, c1, c2, c3, e8]; (try simp only [ite_and]); (repeat' (first | with_reducible assumption | refine And.intro ?_ ?_ | intro hp)); all_goals (first | (refine hQ _ ?_; clear hQ Q) | (refine hQ _ (fun h => ?_) (fun h => ?_) <;> clear hQ Q <;> (try simp only [vki, reduceCtorEq] at h)) | omega | assumption | with_reducible rfl | (refine vq ?_; kernel_rfl) | skip)))
                refine ⟨j', g1, ?_⟩
                rw [g2]
                (refine Le.ok some [] ?_; constructor; all_goals (try simp only [vle, vkt, seval, tbH3_141, xbH3_1]))
                all_goals first | rfl | (simp; done)
              · have h8 := hit 8 (by unfold shE; rw [c1, c2, if_neg (by simp), if_neg (by simp), if_pos (fun hh => c3 (hsg.1 hh))]) (by decide)
                repeat' (first | refine zq0 ?_ | refine zq1 ?_ | refine zq2 ?_ | refine zq3 ?_ | refine zq4 ?_ | refine zq5 ?_ | refine uv ?_ | refine uk ?_ | refine uw ?_ | refine uz ?_ | refine uj ?_ | refine ux ?_ | refine uq (by decide) ?_ | ((first | refine vx env fun Q hQ => ?_ | refine vz fun Q hQ => ?_); simp only [vkt, seval, tbH3_141, xbH3_1, hr, hs, c1, c2, c3]; (try simp only [ite_and]); (repeat' (first | with_reducible assumption | refine And.intro ?_ ?_ | intro hp)); all_goals (first | (refine hQ _ ?_; clear hQ Q) | (refine hQ _ (fun h => ?_) (fun h => ?_) <;> clear hQ Q <;> (try simp only [vki, reduceCtorEq] at h)) | omega | assumption | with_reducible rfl | (refine vq ?_; kernel_rfl) | skip)))
                (simp only [vrt, Try.results141, vkt, seval, tbH3_141, xbH3_1]; refine Fin.val rfl ?_; (try simp only [AV.le, AV.leL]))
                all_goals rw [h8]
            · obtain ⟨i', g1, g2⟩ := hN (by rw [hrE]; exact j.last (by omega))
              repeat' (first | refine zq0 ?_ | refine zq1 ?_ | refine zq2 ?_ | refine zq3 ?_ | refine zq4 ?_ | refine zq5 ?_ | refine uv ?_ | refine uk ?_ | refine uw ?_ | refine uz ?_ | refine uj ?_ | refine ux ?_ | refine uq (by decide) ?_ | ((first | refine vx env fun Q hQ => ?_ | refine vz fun Q hQ => ?_); simp only [vkt, seval, tbH3_141, xbH3_1, e9]; (try simp only [ite_and]); (repeat' (first | with_reducible assumption | refine And.intro ?_ ?_ | intro hp)); all_goals (first | (refine hQ _ ?_; clear hQ Q) | (refine hQ _ (fun h => ?_) (fun h => ?_) <;> clear hQ Q <;> (try simp only [vki, reduceCtorEq] at h)) | omega | assumption | with_reducible rfl | (refine vq ?_; kernel_rfl) | skip)))
              refine ⟨i', g1, ?_⟩
              rw [g2]
              (refine Le.ok some [] ?_; constructor; all_goals (try simp only [vle, vkt, seval, tbH3_141, xbH3_1]))
              all_goals first | rfl | (simp; done)
        · have h1 := out 1 (by unfold ratesE; rw [if_neg (by rw [d1']; simp), if_pos d2]) (by decide)
          have d2' : ¬ ((r.getD 0 default).num = 1 ∧ (r.getD 0 default).den = 1) := fun hh => d2 (by rw [sh_eq]; exact hh)
          repeat' (first | refine zq0 ?_ | refine zq1 ?_ | refine zq2 ?_ | refine zq3 ?_ | refine zq4 ?_ | refine zq5 ?_ | refine uv ?_ | refine uk ?_ | refine uw ?_ | refine uz ?_ | refine uj ?_ | refine ux ?_ | refine uq (by decide) ?_ | ((first | refine vx env fun Q hQ => ?_ | refine vz fun Q hQ => ?_); simp only [vkt, seval, tbH3_141, xbH3_1, hr, d1']; (try simp only [ite_and]); (repeat' (first | with_reducible assumption | refine And.intro ?_ ?_ | intro hp)); all_goals (first | (refine hQ _ ?_; clear hQ Q) | (refine hQ _ (fun h => ?_) (fun h => ?_) <;> clear hQ Q <;> (try simp only [vki, reduceCtorEq] at h)) | omega | assumption | with_reducible rfl | (refine vq ?_; kernel_rfl) | skip)))
          all_goals first | ((simp only [vrt, Try.results141, vkt, seval, tbH3_141, xbH3_1]; refine Fin.val rfl ?_; (try simp only [AV.le, AV.leL])); all_goals rw [h1]) | (exfalso; omega)
      · have d1' : ¬ (r.length : Int) = (l.coins.length : Int) := by omega
        have h1 := out 2 (by unfold ratesE; rw [if_pos d1']) (by decide)
        repeat' (first | refine zq0 ?_ | refine zq1 ?_ | refine zq2 ?_ | refine zq3 ?_ | refine zq4 ?_ | refine zq5 ?_ | refine uv ?_ | refine uk ?_ | refine uw ?_ | refine uz ?_ | refine uj ?_ | refine ux ?_ | refine uq (by decide) ?_ | ((first | refine vx env fun Q hQ => ?_ | refine vz fun Q hQ => ?_); simp only [vkt, seval, tbH3_141, xbH3_1, hr, d1']; (try simp only [ite_and]); (repeat' (first | with_reducible assumption | refine And.intro ?_ ?_ | intro hp)); all_goals (first | (refine hQ _ ?_; clear hQ Q) | (refine hQ _ (fun h => ?_) (fun h => ?_) <;> clear hQ Q <;> (try simp only [vki, reduceCtorEq] at h)) | omega | assumption | with_reducible rfl | (refine vq ?_; kernel_rfl) | skip)))
        (simp only [vrt, Try.results141, vkt, seval, tbH3_141, xbH3_1]; refine Fin.val rfl ?_; (try simp only [AV.le, AV.leL]))
        all_goals rw [h1]
    · have hf2 := i.last (by omega)
      by_cases h3 : l.start.length = l.coins.length
      · have h3' : (l.start.length : Int) = l.coins.length := by omega
        repeat' (first | refine zq0 ?_ | refine zq1 ?_ | refine zq2 ?_ | refine zq3 ?_ | refine zq4 ?_ | refine zq5 ?_ | refine uv ?_ | refine uk ?_ | refine uw ?_ | refine uz ?_ | refine uj ?_ | refine ux ?_ | refine uq (by decide) ?_ | ((first | refine vx env fun Q hQ => ?_ | refine vz fun Q hQ => ?_); simp only [vkt, seval, tbH3_141, xbH3_1, h3']; (try simp only [ite_and]); (repeat' (first | with_reducible assumption | refine And.intro ?_ ?_ | intro hp)); all_goals (first | (refine hQ _ ?_; clear hQ Q) | (refine hQ _ (fun h => ?_) (fun h => ?_) <;> clear hQ Q <;> (try simp only [vki, reduceCtorEq] at h)) | omega | assumption | with_reducible rfl | (refine vq ?_; kernel_rfl) | skip)))
        refine sym_loop (ι := FI (errs l.start.length (startE l))) (fun i => rr3 l i.k) (fun i => l.start.length - i.k) (FI.zero _) ?_ fun i => ?_
        · (refine Le.ok some [] ?_; constructor; all_goals (try simp only [vle, vkt, seval, tbH3_141, xbH3_1]))
          all_goals simp [FI.zero, h3]
        · have hk := i.le
          rw [errs_len] at hk
          have fin : ckR l = firstE (errs l.start.length (startE l)) := by unfold ckR; rw [if_neg (by rw [h0]; simp), if_neg (by rw [hf2]; simp), if_neg (by rw [h3]; simp)]
          repeat' (first | refine zq0 ?_ | refine zq1 ?_ | refine zq2 ?_ | refine zq3 ?_ | refine zq4 ?_ | refine zq5 ?_ | refine uv ?_ | refine uk ?_ | refine uw ?_ | refine uz ?_ | refine uj ?_ | refine ux ?_ | refine uq (by decide) ?_)
          (refine vx env fun Q hQ => ?_; simp only [vkt, seval, tbH3_141, xbH3_1]; (try simp only [ite_and]); (repeat' (first | with_reducible assumption | refine And.intro ?_ ?_ | intro hp)); all_goals (first | (refine hQ _ ?_; clear hQ Q) | omega | assumption | with_reducible rfl | (refine vq ?_; kernel_rfl) | skip))
          repeat' (first | refine zq0 ?_ | refine zq1 ?_ | refine zq2 ?_ | refine zq3 ?_ | refine zq4 ?_ | refine zq5 ?_ | refine uv ?_ | refine uk ?_ | refine uw ?_ | refine uz ?_ | refine uj ?_ | refine ux ?_ | refine uq (by decide) ?_)
          (refine sym_cd (by simp only [vkt, seval, tbH3_141, xbH3_1]; rfl) (fun h => ?_) (fun h => ?_) <;> (try simp only [vki, reduceCtorEq] at h))
          · have hlt : i.k < l.start.length := by omega
            have e9 := wrap_succ hlt (show l.start.length ≤ maxLen by omega)
            by_cases c1 : inB (l.start.getD i.k 0) 0 999 = true
            · repeat' (first | refine zq0 ?_ | refine zq1 ?_ | refine zq2 ?_ | refine zq3 ?_ | refine zq4 ?_ | refine zq5 ?_ | refine uv ?_ | refine uk ?_ | refine uw ?_ | refine uz ?_ | refine uj ?_ | refine ux ?_ | refine uq (by decide) ?_ | ((first | refine vx env fun Q hQ => ?_ | refine vz fun Q hQ => ?_); simp only [vkt, seval, tbH3_141, xbH3_1, c1]; (try simp only [ite_and]); (repeat' (first | with_reducible assumption | refine And.intro ?_ ?_ | intro hp)); all_goals (first | (refine hQ _ ?_; clear hQ Q) | (refine hQ _ (fun h => ?_) (fun h => ?_) <;> clear hQ Q <;> (try simp only [vki, reduceCtorEq] at h)) | omega | assumption | with_reducible rfl | (refine vq ?_; kernel_rfl) | skip)))
              refine ⟨i.next hlt (by unfold startE; rw [c1]; rfl), by show l.start.length - (i.k + 1) < _; omega, ?_⟩
              (refine Le.ok some [] ?_; constructor; all_goals (try simp only [vle, vkt, seval, tbH3_141, xbH3_1]))
              all_goals simp [FI.next, e9]
            · have c1 : inB (l.start.getD i.k 0) 0 999 = false := by simpa using c1
              repeat' (first | refine zq0 ?_ | refine zq1 ?_ | refine zq2 ?_ | refine zq3 ?_ | refine zq4 ?_ | refine zq5 ?_ | refine uv ?_ | refine uk ?_ | refine uw ?_ | refine uz ?_ | refine uj ?_ | refine ux ?_ | refine uq (by decide) ?_ | ((first | refine vx env fun Q hQ => ?_ | refine vz fun Q hQ => ?_); simp only [vkt, seval, tbH3_141, xbH3_1, c1]; (try simp only [ite_and]); (repeat' (first | with_reducible assumption | refine And.intro ?_ ?_ | intro hp)); all_goals (first | (refine hQ _ ?_; clear hQ Q) | (refine hQ _ (fun h => ?_) (fun h => ?_) <;> clear hQ Q <;> (try simp only [vki, reduceCtorEq] at h)) | omega | assumption | with_reducible rfl | (refine vq ?_; kernel_rfl) | skip)))
              (simp only [vrt, Try.results141, vkt, seval, tbH3_141, xbH3_1]; refine Fin.val rfl ?_; (try simp only [AV.le, AV.leL]))
              have h1 : startE l i.k = 1 := by unfold startE; rw [c1]; rfl
              all_goals rw [fin, i.hit hlt (by rw [h1]; decide), h1]
          · repeat' (first | refine zq0 ?_ | refine zq1 ?_ | refine zq2 ?_ | refine zq3 ?_ | refine zq4 ?_ | refine zq5 ?_ | refine uv ?_ | refine uk ?_ | refine uw ?_ | refine uz ?_ | refine uj ?_ | refine ux ?_ | refine uq (by decide) ?_ | ((first | refine vx env fun Q hQ => ?_ | refine vz fun Q hQ => ?_); simp only [vkt, seval, tbH3_141, xbH3_1]; (try simp only [ite_and]); (repeat' (first | with_reducible assumption | refine And.intro ?_ ?_ | intro hp)); all_goals (first | (refine hQ _ ?_; clear hQ Q) | (refine hQ _ (fun h => ?_) (fun h => ?_) <;> clear hQ Q <;> (try simp only [vki, reduceCtorEq] at h)) | omega | assumption | with_reducible rfl | (refine vq ?_; kernel_rfl) | skip)))
            (simp only [vrt, Try.results141, vkt, seval, tbH3_141, xbH3_1]; refine Fin.val rfl ?_; (try simp only [AV.le, AV.leL]))
            all_goals rw [fin, i.last (by omega)]
      · have h3' : ¬ (l.start.length : Int) = l.coins.length := by omega
        repeat' (first | refine zq0 ?_ | refine zq1 ?_ | refine zq2 ?_ | refine zq3 ?_ | refine zq4 ?_ | refine zq5 ?_ | refine uv ?_ | refine uk ?_ | refine uw ?_ | refine uz ?_ | refine uj ?_ | refine ux ?_ | refine uq (by decide) ?_ | ((first | refine vx env fun Q hQ => ?_ | refine vz fun Q hQ => ?_); simp only [vkt, seval, tbH3_141, xbH3_1, h3']; (try simp only [ite_and]); (repeat' (first | with_reducible assumption | refine And.intro ?_ ?_ | intro hp)); all_goals (first | (refine hQ _ ?_; clear hQ Q) | (refine hQ _ (fun h => ?_) (fun h => ?_) <;> clear hQ Q <;> (try simp only [vki, reduceCtorEq] at h)) | omega | assumption | with_reducible rfl | (refine vq ?_; kernel_rfl) | skip)))
        (simp only [vrt, Try.results141, vkt, seval, tbH3_141, xbH3_1]; refine Fin.val rfl ?_; (try simp only [AV.le, AV.leL]))
        all_goals (unfold ckR; rw [if_neg (by rw [h0]; simp), if_neg (by rw [hf2]; simp), if_pos h3])
def c141 : List AV → Prop × AV
  | [.agg [.sl cs, .sl rs, .sl ss, .sl es]] => (isL cs rs ss es ∧ Fit (ldOf cs rs ss es) ∧ 1 ≤ cs.length, aI (ckR (ldOf cs rs ss es)))
  | _ => (False, .junk)
theorem d141 {A : Frm → Prop} : EntryOK A Try.prog 141 (valE true c141) := valE_ok fun vs hv h => by
  clear hv
  unfold c141 at h ⊢
  split at h
  · refine ⟨trivial, fun _ => trivial, ?_⟩
    rw [← aLed_of h.1]; exact rrates_fn _ h.2.1 (by simpa [ldOf] using h.2.2)
  · exact h.elim
def tbH3_113 := vj @ty3 (vj @ty22 (vj @ty28 (vj @ty38 (vj @ti3.eq_1 (vj @ti22.eq_1 (vj @ti28.eq_1 @ti38.eq_1))))))
def xbH3_2 := vj @aI.eq_1 (vj @aB.eq_1 (vj @aLed.eq_1 (vj @cLed.eq_1 (vj @rr1.eq_1 (vj @rc2.eq_1 (vj @aInts.eq_1 (vj @gInts (vj @gInt (vj @eInts.eq_1 (vj @eInt.eq_1 (vj @c141.eq_1 (vj @c141.eq_2 (vj @isL_e (@ldOf_e))))))))))))))
set_option maxHeartbeats 4000000 in
theorem rcoins_fn (l : Led) (hl : Fit l) : FnV Try.prog 113 [aLed l] (aI (ckC l)) := by
  have env : Env (fun _ => True) Try.prog tyB (tab [(141, valE true c141)]) := mkEnv ⟨d141, trivial⟩
  refine Fn.of (A := fun _ => True) (n0 := 0) (D := noD) (Fn0 Try.func113 rfl (fun vs w => by kernel_rfl) (by kernel_rfl)) (by simp) (by simp [AV.ids, AV.idsL, aLed, cLed]) (fun i o h => by cases h) (fun _ _ _ _ => trivial) noD_ok ?_
  have q1 := hl.c
  have q5 := tmax
  by_cases a1 : l.coins.length = 0
  · have a1' : (l.coins.length : Int) = 0 := by omega
    repeat' (first | refine zq0 ?_ | refine zq1 ?_ | refine zq2 ?_ | refine zq3 ?_ | refine zq4 ?_ | refine zq5 ?_ | refine uv ?_ | refine uk ?_ | refine uw ?_ | refine uz ?_ | refine uj ?_ | refine ux ?_ | refine uq (by decide) ?_ | ((first | refine vx env fun Q hQ => ?_ | refine vz fun Q hQ => ?_); simp only [vkt, seval, tbH3_113, xbH3_2, a1']; (try simp only [ite_and]); (repeat' (first | with_reducible assumption | refine And.intro ?_ ?_ | intro hp)); all_goals (first | (refine hQ _ ?_; clear hQ Q) | (refine hQ _ (fun h => ?_) (fun h => ?_) <;> clear hQ Q <;> (try simp only [vki, reduceCtorEq] at h)) | omega | assumption | with_reducible rfl | (refine vq ?_; kernel_rfl) | skip)))
    (simp only [vrt, Try.results113, vkt, seval, tbH3_113, xbH3_2]; refine Fin.val rfl ?_; (try simp only [AV.le, AV.leL]))
    all_goals (unfold ckC countedE; simp [a1])
  by_cases a2 : 4 < l.coins.length
  · have a1' : ¬ (l.coins.length : Int) = 0 := by omega
    have a2' : (4 : Int) < (l.coins.length : Int) := by omega
    have h4 : countedE l.coins.length 1 4 = 6 := by unfold countedE; rw [if_neg (by omega), if_pos a2']
    repeat' (first | refine zq0 ?_ | refine zq1 ?_ | refine zq2 ?_ | refine zq3 ?_ | refine zq4 ?_ | refine zq5 ?_ | refine uv ?_ | refine uk ?_ | refine uw ?_ | refine uz ?_ | refine uj ?_ | refine ux ?_ | refine uq (by decide) ?_ | ((first | refine vx env fun Q hQ => ?_ | refine vz fun Q hQ => ?_); simp only [vkt, seval, tbH3_113, xbH3_2, a1', a2']; (try simp only [ite_and]); (repeat' (first | with_reducible assumption | refine And.intro ?_ ?_ | intro hp)); all_goals (first | (refine hQ _ ?_; clear hQ Q) | (refine hQ _ (fun h => ?_) (fun h => ?_) <;> clear hQ Q <;> (try simp only [vki, reduceCtorEq] at h)) | omega | assumption | with_reducible rfl | (refine vq ?_; kernel_rfl) | skip)))
    (simp only [vrt, Try.results113, vkt, seval, tbH3_113, xbH3_2]; refine Fin.val rfl ?_; (try simp only [AV.le, AV.leL]))
    all_goals (unfold ckC; rw [if_pos (by rw [h4]; decide), h4])
  have a1' : ¬ (l.coins.length : Int) = 0 := by omega
  have a2' : ¬ (4 : Int) < (l.coins.length : Int) := by omega
  have a3 : 1 ≤ l.coins.length := by omega
  have h0 : countedE l.coins.length 1 4 = 0 := by unfold countedE; rw [if_neg (by omega), if_neg a2']
  repeat' (first | refine zq0 ?_ | refine zq1 ?_ | refine zq2 ?_ | refine zq3 ?_ | refine zq4 ?_ | refine zq5 ?_ | refine uv ?_ | refine uk ?_ | refine uw ?_ | refine uz ?_ | refine uj ?_ | refine ux ?_ | refine uq (by decide) ?_ | ((first | refine vx env fun Q hQ => ?_ | refine vz fun Q hQ => ?_); simp only [vkt, seval, tbH3_113, xbH3_2, a1', a2']; (try simp only [ite_and]); (repeat' (first | with_reducible assumption | refine And.intro ?_ ?_ | intro hp)); all_goals (first | (refine hQ _ ?_; clear hQ Q) | (refine hQ _ (fun h => ?_) (fun h => ?_) <;> clear hQ Q <;> (try simp only [vki, reduceCtorEq] at h)) | omega | assumption | with_reducible rfl | (refine vq ?_; kernel_rfl) | skip)))
  refine sym_loop (ι := FI (errs l.coins.length (ckCoin l))) (fun i => rr1 l i.k) (fun i => l.coins.length - i.k) (FI.zero _) ?_ fun i => ?_
  · (refine Le.ok some [] ?_; constructor; all_goals (try simp only [vle, vkt, seval, tbH3_113, xbH3_2]))
    all_goals simp [FI.zero]
  · have hk := i.le
    rw [errs_len] at hk
    repeat' (first | refine zq0 ?_ | refine zq1 ?_ | refine zq2 ?_ | refine zq3 ?_ | refine zq4 ?_ | refine zq5 ?_ | refine uv ?_ | refine uk ?_ | refine uw ?_ | refine uz ?_ | refine uj ?_ | refine ux ?_ | refine uq (by decide) ?_)
    (refine vx env fun Q hQ => ?_; simp only [vkt, seval, tbH3_113, xbH3_2]; (try simp only [ite_and]); (repeat' (first | with_reducible assumption | refine And.intro ?_ ?_ | intro hp)); all_goals (first | (refine hQ _ ?_; clear hQ Q) | omega | assumption | with_reducible rfl | (refine vq ?_; kernel_rfl) | skip))
    repeat' (first | refine zq0 ?_ | refine zq1 ?_ | refine zq2 ?_ | refine zq3 ?_ | refine zq4 ?_ | refine zq5 ?_ | refine uv ?_ | refine uk ?_ | refine uw ?_ | refine uz ?_ | refine uj ?_ | refine ux ?_ | refine uq (by decide) ?_)
    (refine sym_cd (by simp only [vkt, seval, tbH3_113, xbH3_2]; rfl) (fun h => ?_) (fun h => ?_) <;> (try simp only [vki, reduceCtorEq] at h))
    · have hlt : i.k < l.coins.length := by omega
      have hpl := hl.cs _ (gMem (d := []) hlt)
      have e9 := wrap_succ hlt (show l.coins.length ≤ maxLen by omega)
      have out : ∀ e, coinE (l.coins.getD i.k []) = e → e ≠ 0 → ckC l = e := fun e he h1 => by
        have := i.hit hlt (by show coinE (l.coins.getD i.k []) ≠ 0; rw [he]; exact h1)
        unfold ckC
        rw [if_neg (by rw [h0]; simp), if_pos (by rw [this]; show coinE _ ≠ 0; rw [he]; exact h1), this]
        exact he
      have hN : coinE (l.coins.getD i.k []) = 0 → ∃ i' : FI (errs l.coins.length (ckCoin l)), l.coins.length - i'.k < l.coins.length - i.k ∧ i'.k = i.k + 1 := fun h1 => ⟨i.next hlt h1, by show l.coins.length - (i.k + 1) < _; omega, rfl⟩
      obtain ⟨r, hr⟩ : ∃ r, l.coins.getD i.k [] = r := ⟨_, rfl⟩
      rw [hr] at hpl out hN
      by_cases d1 : r.length = 0
      · have d1' : (r.length : Int) = 0 := by omega
        have h1 := out 7 (by unfold coinE countedE; simp [d1]) (by decide)
        repeat' (first | refine zq0 ?_ | refine zq1 ?_ | refine zq2 ?_ | refine zq3 ?_ | refine zq4 ?_ | refine zq5 ?_ | refine uv ?_ | refine uk ?_ | refine uw ?_ | refine uz ?_ | refine uj ?_ | refine ux ?_ | refine uq (by decide) ?_ | ((first | refine vx env fun Q hQ => ?_ | refine vz fun Q hQ => ?_); simp only [vkt, seval, tbH3_113, xbH3_2, hr, d1']; (try simp only [ite_and]); (repeat' (first | with_reducible assumption | refine And.intro ?_ ?_ | intro hp)); all_goals (first | (refine hQ _ ?_; clear hQ Q) | (refine hQ _ (fun h => ?_) (fun h => ?_) <;> clear hQ Q <;> (try simp only [vki, reduceCtorEq] at h)) | omega | assumption | with_reducible rfl | (refine vq ?_; kernel_rfl) | skip)))
        (simp only [vrt, Try.results113, vkt, seval, tbH3_113, xbH3_2]; refine Fin.val rfl ?_; (try simp only [AV.le, AV.leL]))
        all_goals rw [h1]
      have d1' : ¬ (r.length : Int) = 0 := by omega
      by_cases d2 : 4 < r.length
      · have d2' : (4 : Int) < (r.length : Int) := by omega
        have h4 : countedE r.length 1 4 = 6 := by unfold countedE; rw [if_neg (by omega), if_pos d2']
        have h1 := out 6 (by unfold coinE; rw [if_pos (by rw [h4]; decide), h4]) (by decide)
        repeat' (first | refine zq0 ?_ | refine zq1 ?_ | refine zq2 ?_ | refine zq3 ?_ | refine zq4 ?_ | refine zq5 ?_ | refine uv ?_ | refine uk ?_ | refine uw ?_ | refine uz ?_ | refine uj ?_ | refine ux ?_ | refine uq (by decide) ?_ | ((first | refine vx env fun Q hQ => ?_ | refine vz fun Q hQ => ?_); simp only [vkt, seval, tbH3_113, xbH3_2, hr, d1', d2']; (try simp only [ite_and]); (repeat' (first | with_reducible assumption | refine And.intro ?_ ?_ | intro hp)); all_goals (first | (refine hQ _ ?_; clear hQ Q) | (refine hQ _ (fun h => ?_) (fun h => ?_) <;> clear hQ Q <;> (try simp only [vki, reduceCtorEq] at h)) | omega | assumption | with_reducible rfl | (refine vq ?_; kernel_rfl) | skip)))
        (simp only [vrt, Try.results113, vkt, seval, tbH3_113, xbH3_2]; refine Fin.val rfl ?_; (try simp only [AV.le, AV.leL]))
        all_goals rw [h1]
      have d2' : ¬ (4 : Int) < (r.length : Int) := by omega
      have h4 : countedE r.length 1 4 = 0 := by unfold countedE; rw [if_neg (by omega), if_neg d2']
      have r0 : 0 < r.length := by omega
      by_cases d3 : r.getD 0 0 = 1
      · have hrE : coinE r = firstE (errs (r.length - 1) (pieceE r)) := by unfold coinE; rw [if_neg (by rw [h4]; simp), if_neg (by rw [d3]; simp)]
        repeat' (first | refine zq0 ?_ | refine zq1 ?_ | refine zq2 ?_ | refine zq3 ?_ | refine zq4 ?_ | refine zq5 ?_ | refine uv ?_ | refine uk ?_ | refine uw ?_ | refine uz ?_ | refine uj ?_ | refine ux ?_ | refine uq (by decide) ?_ | ((first | refine vx env fun Q hQ => ?_ | refine vz fun Q hQ => ?_); simp only [vkt, seval, tbH3_113, xbH3_2, hr, d1', d2', d3]; (try simp only [ite_and]); (repeat' (first | with_reducible assumption | refine And.intro ?_ ?_ | intro hp)); all_goals (first | (refine hQ _ ?_; clear hQ Q) | (refine hQ _ (fun h => ?_) (fun h => ?_) <;> clear hQ Q <;> (try simp only [vki, reduceCtorEq] at h)) | omega | assumption | with_reducible rfl | (refine vq ?_; kernel_rfl) | skip)))
        refine sym_loop (ι := FI (errs (r.length - 1) (pieceE r))) (fun j => rc2 l r i.k j.k) (fun j => r.length - j.k) (FI.zero _) ?_ fun j => ?_
        · (refine Le.ok some [] ?_; constructor; all_goals (try simp only [vle, vkt, seval, tbH3_113, xbH3_2]))
          all_goals first | rfl | (simp [FI.zero]; done)
        · have hj := j.le
          rw [errs_len] at hj
          repeat' (first | refine zq0 ?_ | refine zq1 ?_ | refine zq2 ?_ | refine zq3 ?_ | refine zq4 ?_ | refine zq5 ?_ | refine uv ?_ | refine uk ?_ | refine uw ?_ | refine uz ?_ | refine uj ?_ | refine ux ?_ | refine uq (by decide) ?_)
          (refine vx env fun Q hQ => ?_; simp only [vkt, seval, tbH3_113, xbH3_2]; (try simp only [ite_and]); (repeat' (first | with_reducible assumption | refine And.intro ?_ ?_ | intro hp)); all_goals (first | (refine hQ _ ?_; clear hQ Q) | omega | assumption | with_reducible rfl | (refine vq ?_; kernel_rfl) | skip))
          repeat' (first | refine zq0 ?_ | refine zq1 ?_ | refine zq2 ?_ | refine zq3 ?_ | refine zq4 ?_ | refine zq5 ?_ | refine uv ?_ | refine uk ?_ | refine uw ?_ | refine uz ?_ | refine uj ?_ | refine ux ?_ | refine uq (by decide) ?_)
          (refine sym_cd (by simp only [vkt, seval, tbH3_113, xbH3_2]; rfl) (fun h => ?_) (fun h => ?_) <;> (try simp only [vki, reduceCtorEq] at h))
          · have hjl : j.k < r.length - 1 := by omega
            have hjl2 : 1 + j.k < r.length := by omega
            have hjl3 : j.k < r.length := by omega
            have e8 : IntKind.wrap .i64 (((1 + j.k : Nat) : Int) + 1) = ((1 + (j.k + 1) : Nat) : Int) := by rw [wrap64 (by omega) (by omega)]; omega
            have e7 : IntKind.wrap .i64 (((1 + j.k : Nat) : Int) - 1) = (j.k : Int) := by rw [wrap64 (by omega) (by omega)]; omega
            have hit : ∀ e, pieceE r j.k = e → e ≠ 0 → ckC l = e := fun e he h1 => out e (by rw [hrE, j.hit hjl (by rw [he]; exact h1), he]) h1
            have nxt : pieceE r j.k = 0 → ∃ j' : FI (errs (r.length - 1) (pieceE r)), r.length - j'.k < r.length - j.k ∧ j'.k = j.k + 1 := fun h1 => ⟨j.next hjl h1, by show r.length - (j.k + 1) < _; omega, rfl⟩
            by_cases c1 : 50 < r.getD (1 + j.k) 0
            · have h1 := hit 1 (by unfold pieceE; rw [if_pos c1]) (by decide)
              repeat' (first | refine zq0 ?_ | refine zq1 ?_ | refine zq2 ?_ | refine zq3 ?_ | refine zq4 ?_ | refine zq5 ?_ | refine uv ?_ | refine uk ?_ | refine uw ?_ | refine uz ?_ | refine uj ?_ | refine ux ?_ | refine uq (by decide) ?_ | ((first | refine vx env fun Q hQ => ?_ | refine vz fun Q hQ => ?_); simp only [vkt, seval, tbH3_113, xbH3_2, hr, c1]; (try simp only [ite_and]); (repeat' (first | with_reducible assumption | refine And.intro ?_ ?_ | intro hp)); all_goals (first | (refine hQ _ ?_; clear hQ Q) | (refine hQ _ (fun h => ?_) (fun h => ?_) <;> clear hQ Q <;> (try simp only [vki, reduceCtorEq] at h)) | omega | assumption | with_reducible rfl | (refine vq ?_; kernel_rfl) | skip)))
              (simp only [vrt, Try.results113, vkt, seval, tbH3_113, xbH3_2]; refine Fin.val rfl ?_; (try simp only [AV.le, AV.leL]))
              all_goals rw [h1]
            by_cases c2 : r.getD (1 + j.k) 0 ≤ r.getD j.k 0
            · have h1 := hit 5 (by unfold pieceE; rw [if_neg c1, if_pos c2]) (by decide)
              repeat' (first | refine zq0 ?_ | refine zq1 ?_ | refine zq2 ?_ | refine zq3 ?_ | refine zq4 ?_ | refine zq5 ?_ | refine uv ?_ | refine uk ?_ | refine uw ?_ | refine uz ?_ | refine uj ?_ | refine ux ?_ | refine uq (by decide) ?_ | ((first | refine vx env fun Q hQ => ?_ | refine vz fun Q hQ => ?_); simp only [vkt, seval, tbH3_113, xbH3_2, hr, c1, c2, e7]; (try simp only [ite_and]); (repeat' (first | with_reducible assumption | refine And.intro ?_ ?_ | intro hp)); all_goals (first | (refine hQ _ ?_; clear hQ Q) | (refine hQ _ (fun h => ?_) (fun h => ?_) <;> clear hQ Q <;> (try simp only [vki, reduceCtorEq] at h)) | omega | assumption | with_reducible rfl | (refine vq ?_; kernel_rfl) | skip)))
              (simp only [vrt, Try.results113, vkt, seval, tbH3_113, xbH3_2]; refine Fin.val rfl ?_; (try simp only [AV.le, AV.leL]))
              all_goals rw [h1]
            · obtain ⟨j', g1, g2⟩ := nxt (by unfold pieceE; rw [if_neg c1, if_neg c2])
              repeat' (first | refine zq0 ?_ | refine zq1 ?_ | refine zq2 ?_ | refine zq3 ?_ | refine zq4 ?_ | refine zq5 ?_ | refine uv ?_ | refine uk ?_ | refine uw ?_ | refine uz ?_ | refine uj ?_ | refine ux ?_ | refine uq (by decide) ?_ | ((first | refine vx env fun Q hQ => ?_ | refine vz fun Q hQ => ?_); simp only [vkt, seval, tbH3_113, xbH3_2, hr, c1, c2, e7, e8]; (try simp only [ite_and]); (repeat' (first | with_reducible assumption | refine And.intro ?_ ?_ | intro hp)); all_goals (first | (refine hQ _ ?_; clear hQ Q) | (refine hQ _ (fun h => ?_) (fun h => ?_) <;> clear hQ Q <;> (try simp only [vki, reduceCtorEq] at h)) | omega | assumption | with_reducible rfl | (refine vq ?_; kernel_rfl) | skip)))
              refine ⟨j', g1, ?_⟩
              rw [g2]
              (refine Le.ok some [] ?_; constructor; all_goals (try simp only [vle, vkt, seval, tbH3_113, xbH3_2]))
              all_goals first | rfl | (simp; done)
          · obtain ⟨i', g1, g2⟩ := hN (by rw [hrE]; exact j.last (by omega))
            repeat' (first | refine zq0 ?_ | refine zq1 ?_ | refine zq2 ?_ | refine zq3 ?_ | refine zq4 ?_ | refine zq5 ?_ | refine uv ?_ | refine uk ?_ | refine uw ?_ | refine uz ?_ | refine uj ?_ | refine ux ?_ | refine uq (by decide) ?_ | ((first | refine vx env fun Q hQ => ?_ | refine vz fun Q hQ => ?_); simp only [vkt, seval, tbH3_113, xbH3_2, e9]; (try simp only [ite_and]); (repeat' (first | with_reducible assumption | refine And.intro ?_ ?_ | intro hp)); all_goals (first | (refine hQ _ ?_; clear hQ Q) | (refine hQ _ (fun h => ?_) (fun h => ?_) <;> clear hQ Q <;> (try simp only [vki, reduceCtorEq] at h)) | omega | assumption | with_reducible rfl | (refine vq ?_; kernel_rfl) | skip)))
            refine ⟨i', g1, ?_⟩
            rw [g2]
            (refine Le.ok some [] ?_; constructor; all_goals (try simp only [vle, vkt, seval, tbH3_113, xbH3_2]))
            all_goals first | rfl | (simp; done)
      · have h1 := out 1 (by unfold coinE; rw [if_neg (by rw [h4]; simp), if_pos d3]) (by decide)
        repeat' (first | refine zq0 ?_ | refine zq1 ?_ | refine zq2 ?_ | refine zq3 ?_ | refine zq4 ?_ | refine zq5 ?_ | refine uv ?_ | refine uk ?_ | refine uw ?_ | refine uz ?_ | refine uj ?_ | refine ux ?_ | refine uq (by decide) ?_ | ((first | refine vx env fun Q hQ => ?_ | refine vz fun Q hQ => ?_); simp only [vkt, seval, tbH3_113, xbH3_2, hr, d1', d2', d3]; (try simp only [ite_and]); (repeat' (first | with_reducible assumption | refine And.intro ?_ ?_ | intro hp)); all_goals (first | (refine hQ _ ?_; clear hQ Q) | (refine hQ _ (fun h => ?_) (fun h => ?_) <;> clear hQ Q <;> (try simp only [vki, reduceCtorEq] at h)) | omega | assumption | with_reducible rfl | (refine vq ?_; kernel_rfl) | skip)))
        (simp only [vrt, Try.results113, vkt, seval, tbH3_113, xbH3_2]; refine Fin.val rfl ?_; (try simp only [AV.le, AV.leL]))
        all_goals rw [h1]
    · have hf := i.last (by omega)
      repeat' (first | refine zq0 ?_ | refine zq1 ?_ | refine zq2 ?_ | refine zq3 ?_ | refine zq4 ?_ | refine zq5 ?_ | refine uv ?_ | refine uk ?_ | refine uw ?_ | refine uz ?_ | refine uj ?_ | refine ux ?_ | refine uq (by decide) ?_ | ((first | refine vx env fun Q hQ => ?_ | refine vz fun Q hQ => ?_); simp only [vkt, seval, tbH3_113, xbH3_2]; (try simp only [ite_and]); (repeat' (first | with_reducible assumption | refine And.intro ?_ ?_ | intro hp)); all_goals (first | (refine hQ _ ?_; clear hQ Q) | (refine hQ _ (fun h => ?_) (fun h => ?_) <;> clear hQ Q <;> (try simp only [vki, reduceCtorEq] at h)) | omega | assumption | with_reducible rfl | (refine vq ?_; kernel_rfl) | skip)))
      (simp only [vrt, Try.results113, vkt, seval, tbH3_113, xbH3_2]; refine Fin.val rfl ?_; (try simp only [AV.le, AV.leL]))
      all_goals (unfold ckC; rw [if_neg (by rw [h0]; simp), if_neg (by rw [hf]; simp)])
def c113 : List AV → Prop × AV
  | [.agg [.sl cs, .sl rs, .sl ss, .sl es]] => (isL cs rs ss es ∧ Fit (ldOf cs rs ss es), aI (ckC (ldOf cs rs ss es)))
  | _ => (False, .junk)
theorem d113 {A : Frm → Prop} : EntryOK A Try.prog 113 (valE true c113) := valE_ok fun vs hv h => by
  clear hv
  unfold c113 at h ⊢
  split at h
  · refine ⟨trivial, fun _ => trivial, ?_⟩
    rw [← aLed_of h.1]; exact rcoins_fn _ h.2
  · exact h.elim
end Go.Sym.B
namespace Go.Sym.B
open Go Go.Sym Go.Proofs Go.Sym.C
theorem ckC_es {l : Led} (h : ckC l = 0) (hl : Fit l) : EsOk l := by
  unfold ckC at h
  split at h
  · rename_i h1; exact absurd h h1
  split at h
  · rename_i h1; exact absurd h h1
  unfold ckR at h
  split at h
  · rename_i h1; exact absurd h h1
  split at h
  · rename_i h1; exact absurd h h1
  split at h
  · exact absurd h (by decide)
  rename_i h3
  have h3 := Decidable.not_not.1 h3
  exact ⟨hl.c, hl.r, hl.e, h3, fun v hv => by
    obtain ⟨j, hj, rfl⟩ := List.getElem_of_mem hv
    have := errs_zero h hj
    unfold startE at this
    cases hb : inB (l.start.getD j 0) 0 999 with
    | true => rw [inB_iff] at hb; simpa [List.getD_eq_getElem?_getD, hj] using hb
    | false => rw [hb] at this; simp at this⟩
def rkT (l : Led) (k : Nat) : St := { t := asg [(1, .ptr 0 0), (2, aI 0), (4, aI (stK l k).1), (5, aInts (stK l k).2), (6, aI k)], h := hasg [(0, .cells (cLed l))], n := 1 }
def tbH4_51 := vj @ty3 (vj @ty22 (vj @ty30 (vj @ty36 (vj @ty38 (vj @ty48 (vj @ti3.eq_1 (vj @ti22.eq_1 (vj @ti30.eq_1 (vj @ti36.eq_1 (vj @ti38.eq_1 @ti48.eq_1))))))))))
def xbH4_1 := vj @aI.eq_1 (vj @aB.eq_1 (vj @aLed.eq_1 (vj @cLed.eq_1 (vj @aInts.eq_1 (vj @rkT.eq_1 (vj @gEnt (vj @eEnt.eq_1 (vj @c113.eq_1 (vj @c113.eq_2 (vj @s114.eq_1 (vj @s114.eq_2 (vj @s115.eq_1 (vj @s115.eq_2 (vj @isL_e (vj @ldOf_e (@mInt))))))))))))))))
set_option maxHeartbeats 4000000 in
theorem rcheck_fn (l : Led) (hl : Fit l) : FnV Try.prog 51 [aLed l] (aI (checkE l)) := by
  have env : Env (fun _ => True) Try.prog tyB (tab [(113, valE true c113), (114, valE true s114), (115, valE false s115)]) := mkEnv ⟨d113, e114, e115, trivial⟩
  refine Fn.of (A := fun _ => True) (n0 := 0) (D := noD) (Fn0 Try.func51 rfl (fun vs w => by kernel_rfl) (by kernel_rfl)) (by simp) (by simp [AV.ids, AV.idsL, aLed, cLed]) (fun i o h => by cases h) (fun _ _ _ _ => trivial) noD_ok ?_
  by_cases h0 : ckC l = 0
  · have hes := ckC_es h0 hl
    have hce : checkE l = entriesE l := by rw [checkE_eq, if_neg (by rw [h0]; simp)]
    rw [hce]
    have q1 := hes.c
    have q2 := hes.r
    have q3 := hes.e
    have q5 := tmax
    by_cases a1 : 6 < l.entries.length
    · have a1' : (6 : Int) < (l.entries.length : Int) := by omega
      have h4 : countedE l.entries.length 0 6 = 6 := by unfold countedE; rw [if_neg (by omega), if_pos a1']
      repeat' (first | refine zq0 ?_ | refine zq1 ?_ | refine zq2 ?_ | refine zq3 ?_ | refine zq4 ?_ | refine zq5 ?_ | refine uv ?_ | refine uk ?_ | refine uw ?_ | refine uz ?_ | refine uj ?_ | refine ux ?_ | refine uq (by decide) ?_ | ((first | refine vx env fun Q hQ => ?_ | refine vz fun Q hQ => ?_); simp only [vkt, seval, tbH4_51, xbH4_1, h0, a1']; (try simp only [ite_and]); (repeat' (first | with_reducible assumption | refine And.intro ?_ ?_ | intro hp)); all_goals (first | (refine hQ _ ?_; clear hQ Q) | (refine hQ _ (fun h => ?_) (fun h => ?_) <;> clear hQ Q <;> (try simp only [vki, reduceCtorEq] at h)) | omega | assumption | with_reducible rfl | (refine vq ?_; kernel_rfl) | skip)))
      (simp only [vrt, Try.results51, vkt, seval, tbH4_51, xbH4_1]; refine Fin.val rfl ?_; (try simp only [AV.le, AV.leL]))
      all_goals (unfold entriesE; rw [if_pos (by rw [h4]; decide), h4])
    · have a1' : ¬ (6 : Int) < (l.entries.length : Int) := by omega
      have h4 : countedE l.entries.length 0 6 = 0 := by unfold countedE; rw [if_neg (by omega), if_neg a1']
      have hE0 : entriesE l = firstE (errs l.entries.length (eK l)) := by unfold entriesE; rw [if_neg (by rw [h4]; simp)]
      repeat' (first | refine zq0 ?_ | refine zq1 ?_ | refine zq2 ?_ | refine zq3 ?_ | refine zq4 ?_ | refine zq5 ?_ | refine uv ?_ | refine uk ?_ | refine uw ?_ | refine uz ?_ | refine uj ?_ | refine ux ?_ | refine uq (by decide) ?_ | ((first | refine vx env fun Q hQ => ?_ | refine vz fun Q hQ => ?_); simp only [vkt, seval, tbH4_51, xbH4_1, h0, a1']; (try simp only [ite_and]); (repeat' (first | with_reducible assumption | refine And.intro ?_ ?_ | intro hp)); all_goals (first | (refine hQ _ ?_; clear hQ Q) | (refine hQ _ (fun h => ?_) (fun h => ?_) <;> clear hQ Q <;> (try simp only [vki, reduceCtorEq] at h)) | omega | assumption | with_reducible rfl | (refine vq ?_; kernel_rfl) | skip)))
      refine sym_loop (ι := FI (errs l.entries.length (eK l))) (fun i => rkT l i.k) (fun i => l.entries.length - i.k) (FI.zero _) ?_ fun i => ?_
      · (refine Le.ok some [] ?_; constructor; all_goals (try simp only [vle, vkt, seval, tbH4_51, xbH4_1]))
        all_goals first | rfl | (simp [FI.zero, stK]; done)
      · have hk := i.le
        rw [errs_len] at hk
        have hall : ∀ j, j < i.k → eK l j = 0 := fun j hj => by rw [← errs_get (eK l) (show j < l.entries.length by omega)]; exact i.all j hj
        have hok := hasOk_all hes.s hes.v i.k hk hall
        repeat' (first | refine zq0 ?_ | refine zq1 ?_ | refine zq2 ?_ | refine zq3 ?_ | refine zq4 ?_ | refine zq5 ?_ | refine uv ?_ | refine uk ?_ | refine uw ?_ | refine uz ?_ | refine uj ?_ | refine ux ?_ | refine uq (by decide) ?_)
        (refine vx env fun Q hQ => ?_; simp only [vkt, seval, tbH4_51, xbH4_1]; (try simp only [ite_and]); (repeat' (first | with_reducible assumption | refine And.intro ?_ ?_ | intro hp)); all_goals (first | (refine hQ _ ?_; clear hQ Q) | omega | assumption | with_reducible rfl | (refine vq ?_; kernel_rfl) | skip))
        repeat' (first | refine zq0 ?_ | refine zq1 ?_ | refine zq2 ?_ | refine zq3 ?_ | refine zq4 ?_ | refine zq5 ?_ | refine uv ?_ | refine uk ?_ | refine uw ?_ | refine uz ?_ | refine uj ?_ | refine ux ?_ | refine uq (by decide) ?_)
        (refine sym_cd (by simp only [vkt, seval, tbH4_51, xbH4_1]; rfl) (fun h => ?_) (fun h => ?_) <;> (try simp only [vki, reduceCtorEq] at h))
        · have hlt : i.k < l.entries.length := by omega
          have hS := stK_succ hlt
          have hE := eK_eq l i.k
          have hN : eK l i.k = 0 → ∃ i' : FI (errs l.entries.length (eK l)), l.entries.length - i'.k < l.entries.length - i.k ∧ i'.k = i.k + 1 := fun h1 => ⟨i.next hlt h1, by show l.entries.length - (i.k + 1) < _; omega, rfl⟩
          have out : eK l i.k ≠ 0 → entriesE l = eK l i.k := fun h1 => by rw [hE0, i.hit hlt h1]
          have e9 := wrap_succ hlt (show l.entries.length ≤ maxLen by omega)
          have k20 : i.k ≤ 100 := by omega
          generalize hx : l.entries.getD i.k default = x at *
          generalize hst : stK l i.k = st at *
          obtain ⟨b, has⟩ := st
          dsimp only at hE hok hS
          have ho := hok.len
          have ho2 : has.length ≤ 100000 := by omega
          by_cases c1 : eV l x b has = 0
          · have c1' : eV l ⟨x.day, x.kind, x.coin, x.to, x.amount, x.got⟩ b has = 0 := c1
            have hent : entryE l x b = 0 := by
              unfold eV at c1
              split at c1
              · rename_i h1; exact absurd c1 h1
              · rename_i h1; exact Decidable.not_not.1 h1
            have hen : EnOk has ⟨x.day, x.kind, x.coin, x.to, x.amount, x.got⟩ := enOk_of hok k20 (entryE_ok hent)
            obtain ⟨i', g1, g2⟩ := hN (by rw [hE]; exact c1)
            repeat' (first | refine zq0 ?_ | refine zq1 ?_ | refine zq2 ?_ | refine zq3 ?_ | refine zq4 ?_ | refine zq5 ?_ | refine uv ?_ | refine uk ?_ | refine uw ?_ | refine uz ?_ | refine uj ?_ | refine ux ?_ | refine uq (by decide) ?_ | ((first | refine vx env fun Q hQ => ?_ | refine vz fun Q hQ => ?_); simp only [vkt, seval, tbH4_51, xbH4_1, hx, c1', e9]; (try simp only [ite_and]); (repeat' (first | with_reducible assumption | refine And.intro ?_ ?_ | intro hp)); all_goals (first | (refine hQ _ ?_; clear hQ Q) | (refine hQ _ (fun h => ?_) (fun h => ?_) <;> clear hQ Q <;> (try simp only [vki, reduceCtorEq] at h)) | omega | assumption | with_reducible rfl | (refine vq ?_; kernel_rfl) | skip)))
            refine ⟨i', g1, ?_⟩
            rw [g2]
            (refine Le.ok some [] ?_; constructor; all_goals (try simp only [vle, vkt, seval, tbH4_51, xbH4_1]))
            all_goals first | rfl | (simp [hS]; done)
          · have c1' : ¬ eV l ⟨x.day, x.kind, x.coin, x.to, x.amount, x.got⟩ b has = 0 := c1
            repeat' (first | refine zq0 ?_ | refine zq1 ?_ | refine zq2 ?_ | refine zq3 ?_ | refine zq4 ?_ | refine zq5 ?_ | refine uv ?_ | refine uk ?_ | refine uw ?_ | refine uz ?_ | refine uj ?_ | refine ux ?_ | refine uq (by decide) ?_ | ((first | refine vx env fun Q hQ => ?_ | refine vz fun Q hQ => ?_); simp only [vkt, seval, tbH4_51, xbH4_1, hx, c1']; (try simp only [ite_and]); (repeat' (first | with_reducible assumption | refine And.intro ?_ ?_ | intro hp)); all_goals (first | (refine hQ _ ?_; clear hQ Q) | (refine hQ _ (fun h => ?_) (fun h => ?_) <;> clear hQ Q <;> (try simp only [vki, reduceCtorEq] at h)) | omega | assumption | with_reducible rfl | (refine vq ?_; kernel_rfl) | skip)))
            (simp only [vrt, Try.results51, vkt, seval, tbH4_51, xbH4_1]; refine Fin.val rfl ?_; (try simp only [AV.le, AV.leL]))
            all_goals (rw [out (by rw [hE]; exact c1), hE])
        · repeat' (first | refine zq0 ?_ | refine zq1 ?_ | refine zq2 ?_ | refine zq3 ?_ | refine zq4 ?_ | refine zq5 ?_ | refine uv ?_ | refine uk ?_ | refine uw ?_ | refine uz ?_ | refine uj ?_ | refine ux ?_ | refine uq (by decide) ?_ | ((first | refine vx env fun Q hQ => ?_ | refine vz fun Q hQ => ?_); simp only [vkt, seval, tbH4_51, xbH4_1]; (try simp only [ite_and]); (repeat' (first | with_reducible assumption | refine And.intro ?_ ?_ | intro hp)); all_goals (first | (refine hQ _ ?_; clear hQ Q) | (refine hQ _ (fun h => ?_) (fun h => ?_) <;> clear hQ Q <;> (try simp only [vki, reduceCtorEq] at h)) | omega | assumption | with_reducible rfl | (refine vq ?_; kernel_rfl) | skip)))
          (simp only [vrt, Try.results51, vkt, seval, tbH4_51, xbH4_1]; refine Fin.val rfl ?_; (try simp only [AV.le, AV.leL]))
          all_goals (rw [hE0, i.last (by omega)])
  · have hce : checkE l = ckC l := by rw [checkE_eq, if_pos h0]
    rw [hce]
    repeat' (first | refine zq0 ?_ | refine zq1 ?_ | refine zq2 ?_ | refine zq3 ?_ | refine zq4 ?_ | refine zq5 ?_ | refine uv ?_ | refine uk ?_ | refine uw ?_ | refine uz ?_ | refine uj ?_ | refine ux ?_ | refine uq (by decide) ?_ | ((first | refine vx env fun Q hQ => ?_ | refine vz fun Q hQ => ?_); simp only [vkt, seval, tbH4_51, xbH4_1, h0]; (try simp only [ite_and]); (repeat' (first | with_reducible assumption | refine And.intro ?_ ?_ | intro hp)); all_goals (first | (refine hQ _ ?_; clear hQ Q) | (refine hQ _ (fun h => ?_) (fun h => ?_) <;> clear hQ Q <;> (try simp only [vki, reduceCtorEq] at h)) | omega | assumption | with_reducible rfl | (refine vq ?_; kernel_rfl) | skip)))
    (simp only [vrt, Try.results51, vkt, seval, tbH4_51, xbH4_1]; refine Fin.val rfl ?_; (try simp only [AV.le, AV.leL]))
    all_goals simp
theorem d51 {A : Frm → Prop} : EntryOK A Try.prog 51 (valE true c50) := valE_ok fun vs hv h => by
  clear hv
  unfold c50 at h ⊢
  split at h
  · refine ⟨trivial, fun _ => trivial, ?_⟩
    rw [← aLed_of h.1]; exact rcheck_fn _ h.2
  · exact h.elim
end Go.Sym.B
namespace Go.Sym.B
open Go Go.Sym Go.Proofs Go.Sym.C
theorem floor_nn {q : Rat} (h : 0 ≤ q.num) : q.num.tdiv (q.den : Int) = q.floor := by
  rw [Rat.floor_def, Int.tdiv_eq_ediv_of_nonneg h]
theorem mk_one (n : Int) : mkRat n 1 = (n : Rat) := by rw [Rat.mkRat_one]
theorem num_nn {q : Rat} (h : 0 ≤ q) : 0 ≤ q.num := Rat.num_nonneg.2 h
theorem swapQ_nn {l : Led} {d a b n : Int} (h1 : Rt l d a) (h2 : Rt l d b) (hn : 0 ≤ n) : 0 ≤ rq l d a * (n : Rat) ∧ 0 ≤ swapQ l d a b n := by
  have e1 : 0 ≤ rq l d a := Rat.num_nonneg.1 (by have := h1.n0; omega)
  have e2 : 0 ≤ rq l d b := Rat.num_nonneg.1 (by have := h2.n0; omega)
  have e3 : (0 : Rat) ≤ (n : Rat) := by exact_mod_cast hn
  have e4 := Rat.mul_nonneg e1 e3
  refine ⟨e4, ?_⟩
  unfold swapQ
  rw [← div_mk _ _ (show 0 < (rq l d b).num by have := h2.n0; omega)]
  refine Rat.num_nonneg.1 ?_
  rw [mk_num (Int.mul_pos (den_pos _) (by have := h2.n0; omega))]
  exact Int.tdiv_nonneg (Int.mul_nonneg (num_nn e4) (by omega)) (Int.natCast_nonneg _)
theorem w_nd {l : Led} {d a n : Int} (h : Rt l d a) (hn : n.natAbs ≤ 300000) : (rq l d a * (n : Rat)).num.natAbs ≤ 6000000 ∧ ((rq l d a * (n : Rat)).den : Int) ≤ 12 := by
  have hp := den_pos (rq l d a)
  have e := mul_mk (rq l d a) n
  have d' := mk_den_le (a := (rq l d a).num * n) hp
  have m := mk_num_le (a := (rq l d a).num * n) hp
  rw [e] at d' m
  have h0 := h.n0
  have h1 := h.n1
  have h2 := h.e1
  have : ((rq l d a).num * n).natAbs ≤ 20 * 300000 := by rw [Int.natAbs_mul]; exact Nat.mul_le_mul (by omega) hn
  exact ⟨by omega, by omega⟩
theorem sm_div3 {w r : Rat} (hn : w.num.natAbs ≤ 6000000) (hd : (w.den : Int) ≤ 12) (h0 : 0 < r.num) (h1 : r.num ≤ 20) (h2 : r.den ≤ 12) : Sm (w / r) := by
  rw [← div_mk w r h0]
  have hp := Int.mul_pos (den_pos w) h0
  have d' := mk_den_le (a := w.num * r.den) hp
  have m := mk_num_le (a := w.num * r.den) hp
  have hr : (w.num * (r.den : Int)).natAbs ≤ 6000000 * 12 := by rw [Int.natAbs_mul]; exact Nat.mul_le_mul hn (by simpa using h2)
  have : (w.den : Int) * r.num ≤ 12 * 20 := Int.mul_le_mul hd h1 (by omega) (by decide)
  exact ⟨by omega, by omega, by omega⟩
def tbH5_109 := vj @ty3 (vj @ty35 (vj @ty38 (vj @ty55 (vj @ty59 (vj @ti3.eq_1 (vj @ti35.eq_1 (vj @ti38.eq_1 (vj @ti55.eq_1 @ti59.eq_1))))))))
def xbH5_1 := vj @aI.eq_1 (vj @aB.eq_1 (vj @aLed.eq_1 (vj @cLed.eq_1 (vj @aSh.eq_1 (vj @shQ.eq_1 (vj @gShs (vj @gSh (vj @eShs.eq_1 (vj @eSh.eq_1 (vj @c105.eq_1 (vj @c105.eq_2 (vj @s139.eq_1 (vj @s139.eq_2 (vj @s100.eq_1 (vj @s100.eq_2 (vj @isL_e (vj @ldOf_e (vj @isQ_q (@qI_q)))))))))))))))))))
set_option maxHeartbeats 4000000 in
theorem rswp_fn (l : Led) (d a b n : Int) (h1 : Rt l d a) (h2 : Rt l d b) (hn : 0 ≤ n) (hn' : n ≤ 300000) : FnV Try.prog 109 [aLed l, aI d, aI a, aI b, aI n] (.tup [aI (swapQ l d a b n).floor, aSh (shQ (swapQ l d a b n - ((swapQ l d a b n).floor : Rat)))]) := by
  have env : Env (fun _ => True) Try.prog tyB (tab [(105, valE true c105), (55, valE true s139), (53, valE true s100)]) := mkEnv ⟨d105, e55, e53, trivial⟩
  refine Fn.of (A := fun _ => True) (n0 := 0) (D := noD) (Fn0 Try.func109 rfl (fun vs w => by kernel_rfl) (by kernel_rfl)) (by simp) (by simp [AV.ids, AV.idsL, aLed, cLed, aI]) (fun i o h => by cases h) (fun _ _ _ _ => trivial) noD_ok ?_
  have q1 := h2.d0
  have q2 := h2.d1
  have q3 := h2.c0
  have q4 := h2.c1
  obtain ⟨r1, r2⟩ := rsh_nd h2
  obtain ⟨k1, k2⟩ := swapQ_nn h1 h2 hn
  have k0 : -300000 ≤ n ∧ n ≤ 300000 := by omega
  have hb := (rt_bd h1).muli (C := 300000) (n := n) (by omega) (by omega)
  have hw := hb.sm (by decide)
  have b0 : 0 < (rq l d b).num := by have := h2.n0; omega
  have hq := sm_div3 (w := rq l d a * (n : Rat)) (by have := (w_nd h1 (n := n) (by omega)).1; omega) (by have := (w_nd h1 (n := n) (by omega)).2; omega) b0 h2.n1 h2.e1
  have hf := sm_floor hq
  have hSQ : rq l d a * (n : Rat) / rq l d b = swapQ l d a b n := rfl
  rw [hSQ] at hq hf
  have b1 := h2.n1
  have b2 := h2.e1
  have b3 := den_pos (rq l d b)
  obtain ⟨w, hW⟩ : ∃ w, rq l d a * (n : Rat) = w := ⟨_, rfl⟩
  rw [hW] at hb hw hSQ k1
  generalize rq l d b = r at *
  generalize swapQ l d a b n = q at *
  have m1 := mul_bd' (d := (r.den : Int)) hw.1 hw.2.1 (by omega) (by omega)
  have m2 : 0 < (w.den : Int) * r.num := Int.mul_pos (den_pos w) b0
  have m3 : (w.den : Int) * r.num ≤ 1048576 * 20 := Int.mul_le_mul (Int.ofNat_le.2 hw.2.2) b1 (by omega) (by decide)
  have w1 := wrap64 (n := w.num * r.den) (by omega) (by omega)
  have w2 := wrap64 (n := (w.den : Int) * r.num) (by omega) (by omega)
  have w3 : mkRat (w.num * r.den) ((w.den : Int) * r.num).toNat = q := by rw [div_mk w r b0, hSQ]
  have w4 : OfOk (w.num * r.den) ((w.den : Int) * r.num) := ⟨by omega, by omega, by omega, by omega⟩
  have nz := den_ne q
  have kf := floor_nn (num_nn k2)
  have fb := tdiv_fit (a := q.num) (x := (q.den : Int)) (by have := hq.2.1; omega) (by have := hq.1; omega)
  rw [kf] at fb
  have f1 : OfOk q.floor 1 := by
    have e1 := tdiv_lo (a := q.num) (x := (q.den : Int)) (by have := hq.2.1; omega) (by have := hq.1; omega)
    have e2 := tdiv_hi (a := q.num) (x := (q.den : Int)) (by have := hq.2.1; omega) (by have := hq.1; omega)
    rw [kf] at e1 e2
    exact ⟨by omega, by omega, by omega, by omega⟩
  have w5 := mk_one q.floor
  repeat' (first | refine zq0 ?_ | refine zq1 ?_ | refine zq2 ?_ | refine zq3 ?_ | refine zq4 ?_ | refine zq5 ?_ | refine uv ?_ | refine uk ?_ | refine uw ?_ | refine uz ?_ | refine uj ?_ | refine ux ?_ | refine uq (by decide) ?_ | ((first | refine vx env fun Q hQ => ?_ | refine vz fun Q hQ => ?_); simp only [vkt, seval, tbH5_109, xbH5_1, hW, r1, r2, w1, w2, w3, nz, kf, fb, w5]; (try simp only [ite_and]); (repeat' (first | with_reducible assumption | refine And.intro ?_ ?_ | intro hp)); all_goals (first | (refine hQ _ ?_; clear hQ Q) | (refine hQ _ (fun h => ?_) (fun h => ?_) <;> clear hQ Q <;> (try simp only [vki, reduceCtorEq] at h)) | omega | assumption | with_reducible rfl | (refine vq ?_; kernel_rfl) | skip)))
  (simp only [vrt, Try.results109, vkt, seval, tbH5_109, xbH5_1]; refine Fin.val rfl ?_; (try simp only [AV.le, AV.leL]))
  all_goals first | rfl | (simp; done)
def c109 : List AV → Prop × AV
  | [.agg [.sl cs, .sl rs, .sl ss, .sl es], .v (.int .i64 d), .v (.int .i64 a), .v (.int .i64 b), .v (.int .i64 n)] => (isL cs rs ss es ∧ Rt (ldOf cs rs ss es) d a ∧ Rt (ldOf cs rs ss es) d b ∧ 0 ≤ n ∧ n ≤ 300000, .tup [aI (swapQ (ldOf cs rs ss es) d a b n).floor, aSh (shQ (swapQ (ldOf cs rs ss es) d a b n - ((swapQ (ldOf cs rs ss es) d a b n).floor : Rat)))])
  | _ => (False, .junk)
theorem d109 {A : Frm → Prop} : EntryOK A Try.prog 109 (valE true c109) := valE_ok fun vs hv h => by
  clear hv
  unfold c109 at h ⊢
  split at h
  · refine ⟨by simp [AV.plain, AV.plainL, aI, aSh], fun _ => by simp [AV.flat, AV.flatL, aI, aSh], ?_⟩
    rw [← aLed_of h.1]; exact rswp_fn _ _ _ _ _ h.2.1 h.2.2.1 h.2.2.2.1 h.2.2.2.2
  · exact h.elim
def tbH5_108 := vj @ty3 (vj @ty22 (vj @ty28 (vj @ty30 (vj @ty35 (vj @ty38 (vj @ty55 (vj @ti3.eq_1 (vj @ti22.eq_1 (vj @ti28.eq_1 (vj @ti30.eq_1 (vj @ti35.eq_1 (vj @ti38.eq_1 @ti55.eq_1))))))))))))
def xbH5_2 := vj @aI.eq_1 (vj @aB.eq_1 (vj @aLed.eq_1 (vj @cLed.eq_1 (vj @c50.eq_1 (vj @c50.eq_2 (vj @s79.eq_1 (vj @s79.eq_2 (vj @isL_e (@ldOf_e)))))))))
theorem rchkSwap_fn (l : Led) (d a b n : Int) (hl : Fit l) : FnV Try.prog 108 [aLed l, aI d, aI a, aI b, aI n] (aI (chkSwapE l d a b n)) := by
  have env : Env (fun _ => True) Try.prog tyB (tab [(51, valE true c50), (82, valE true s79)]) := mkEnv ⟨d51, e82, trivial⟩
  refine Fn.of (A := fun _ => True) (n0 := 0) (D := noD) (Fn0 Try.func108 rfl (fun vs w => by kernel_rfl) (by kernel_rfl)) (by simp) (by simp [AV.ids, AV.idsL, aLed, cLed, aI]) (fun i o h => by cases h) (fun _ _ _ _ => trivial) noD_ok ?_
  have q1 := hl.c
  have q2 := hl.r
  have w1 : IntKind.wrap .i64 ((l.rates.length : Int) - 1) = (l.rates.length : Int) - 1 := wrap64 (by omega) (by omega)
  have w2 : IntKind.wrap .i64 ((l.coins.length : Int) - 1) = (l.coins.length : Int) - 1 := wrap64 (by omega) (by omega)
  by_cases c0 : checkE l = 0
  · cases c1 : inB d 0 ((l.rates.length : Int) - 1)
    · repeat' (first | refine zq0 ?_ | refine zq1 ?_ | refine zq2 ?_ | refine zq3 ?_ | refine zq4 ?_ | refine zq5 ?_ | refine uv ?_ | refine uk ?_ | refine uw ?_ | refine uz ?_ | refine uj ?_ | refine ux ?_ | refine uq (by decide) ?_ | ((first | refine vx env fun Q hQ => ?_ | refine vz fun Q hQ => ?_); simp only [vkt, seval, tbH5_108, xbH5_2, w1, w2, c0, c1]; (try simp only [ite_and]); (repeat' (first | with_reducible assumption | refine And.intro ?_ ?_ | intro hp)); all_goals (first | (refine hQ _ ?_; clear hQ Q) | (refine hQ _ (fun h => ?_) (fun h => ?_) <;> clear hQ Q <;> (try simp only [vki, reduceCtorEq] at h)) | omega | assumption | with_reducible rfl | (refine vq ?_; kernel_rfl) | skip)))
      (simp only [vrt, Try.results108, vkt, seval, tbH5_108, xbH5_2]; refine Fin.val rfl ?_; (try simp only [AV.le, AV.leL]))
      all_goals simp [chkSwapE, *]
    cases c2 : inB a 0 ((l.coins.length : Int) - 1)
    · repeat' (first | refine zq0 ?_ | refine zq1 ?_ | refine zq2 ?_ | refine zq3 ?_ | refine zq4 ?_ | refine zq5 ?_ | refine uv ?_ | refine uk ?_ | refine uw ?_ | refine uz ?_ | refine uj ?_ | refine ux ?_ | refine uq (by decide) ?_ | ((first | refine vx env fun Q hQ => ?_ | refine vz fun Q hQ => ?_); simp only [vkt, seval, tbH5_108, xbH5_2, w1, w2, c0, c1, c2]; (try simp only [ite_and]); (repeat' (first | with_reducible assumption | refine And.intro ?_ ?_ | intro hp)); all_goals (first | (refine hQ _ ?_; clear hQ Q) | (refine hQ _ (fun h => ?_) (fun h => ?_) <;> clear hQ Q <;> (try simp only [vki, reduceCtorEq] at h)) | omega | assumption | with_reducible rfl | (refine vq ?_; kernel_rfl) | skip)))
      (simp only [vrt, Try.results108, vkt, seval, tbH5_108, xbH5_2]; refine Fin.val rfl ?_; (try simp only [AV.le, AV.leL]))
      all_goals simp [chkSwapE, *]
    cases c3 : inB b 0 ((l.coins.length : Int) - 1)
    · repeat' (first | refine zq0 ?_ | refine zq1 ?_ | refine zq2 ?_ | refine zq3 ?_ | refine zq4 ?_ | refine zq5 ?_ | refine uv ?_ | refine uk ?_ | refine uw ?_ | refine uz ?_ | refine uj ?_ | refine ux ?_ | refine uq (by decide) ?_ | ((first | refine vx env fun Q hQ => ?_ | refine vz fun Q hQ => ?_); simp only [vkt, seval, tbH5_108, xbH5_2, w1, w2, c0, c1, c2, c3]; (try simp only [ite_and]); (repeat' (first | with_reducible assumption | refine And.intro ?_ ?_ | intro hp)); all_goals (first | (refine hQ _ ?_; clear hQ Q) | (refine hQ _ (fun h => ?_) (fun h => ?_) <;> clear hQ Q <;> (try simp only [vki, reduceCtorEq] at h)) | omega | assumption | with_reducible rfl | (refine vq ?_; kernel_rfl) | skip)))
      (simp only [vrt, Try.results108, vkt, seval, tbH5_108, xbH5_2]; refine Fin.val rfl ?_; (try simp only [AV.le, AV.leL]))
      all_goals simp [chkSwapE, *]
    repeat' (first | refine zq0 ?_ | refine zq1 ?_ | refine zq2 ?_ | refine zq3 ?_ | refine zq4 ?_ | refine zq5 ?_ | refine uv ?_ | refine uk ?_ | refine uw ?_ | refine uz ?_ | refine uj ?_ | refine ux ?_ | refine uq (by decide) ?_ | ((first | refine vx env fun Q hQ => ?_ | refine vz fun Q hQ => ?_); simp only [vkt, seval, tbH5_108, xbH5_2, w1, w2, c0, c1, c2, c3]; (try simp only [ite_and]); (repeat' (first | with_reducible assumption | refine And.intro ?_ ?_ | intro hp)); all_goals (first | (refine hQ _ ?_; clear hQ Q) | (refine hQ _ (fun h => ?_) (fun h => ?_) <;> clear hQ Q <;> (try simp only [vki, reduceCtorEq] at h)) | omega | assumption | with_reducible rfl | (refine vq ?_; kernel_rfl) | skip)))
    all_goals (simp only [vrt, Try.results108, vkt, seval, tbH5_108, xbH5_2]; refine Fin.val rfl ?_; (try simp only [AV.le, AV.leL]))
    all_goals simp [chkSwapE, *]
  · repeat' (first | refine zq0 ?_ | refine zq1 ?_ | refine zq2 ?_ | refine zq3 ?_ | refine zq4 ?_ | refine zq5 ?_ | refine uv ?_ | refine uk ?_ | refine uw ?_ | refine uz ?_ | refine uj ?_ | refine ux ?_ | refine uq (by decide) ?_ | ((first | refine vx env fun Q hQ => ?_ | refine vz fun Q hQ => ?_); simp only [vkt, seval, tbH5_108, xbH5_2, w1, w2, c0]; (try simp only [ite_and]); (repeat' (first | with_reducible assumption | refine And.intro ?_ ?_ | intro hp)); all_goals (first | (refine hQ _ ?_; clear hQ Q) | (refine hQ _ (fun h => ?_) (fun h => ?_) <;> clear hQ Q <;> (try simp only [vki, reduceCtorEq] at h)) | omega | assumption | with_reducible rfl | (refine vq ?_; kernel_rfl) | skip)))
    (simp only [vrt, Try.results108, vkt, seval, tbH5_108, xbH5_2]; refine Fin.val rfl ?_; (try simp only [AV.le, AV.leL]))
    all_goals simp [chkSwapE, c0]
theorem d108 {A : Frm → Prop} : EntryOK A Try.prog 108 (valE true c106) := valE_ok fun vs hv h => by
  clear hv
  unfold c106 at h ⊢
  split at h
  · refine ⟨by simp [AV.plain, aI], fun _ => by simp [AV.flat, aI], ?_⟩
    rw [← aLed_of h.1]; exact rchkSwap_fn _ _ _ _ _ h.2
  · exact h.elim
end Go.Sym.B
namespace Go.Sym.B
open Go Go.Sym Go.Proofs Go.Sym.C
structure LgOk (L : Led) : Prop where
  c : 1 ≤ L.coins.length ∧ L.coins.length ≤ 4
  p : ∀ q ∈ L.coins, ∃ j, j ≤ 3 ∧ PcOk q j
  s : L.start.length = L.coins.length
  v : ∀ n ∈ L.start, 0 ≤ n ∧ n ≤ 200
  r : RsOk L.rates L.coins.length
  e : L.entries.length ≤ 6
theorem lg_ok {x c d e w : Int} (hc : 1 ≤ c ∧ c ≤ 4) (hd : 1 ≤ d ∧ d ≤ 4) (he : 0 ≤ e ∧ e ≤ 6) : LgOk (lgL x c d e w) := by
  have h1 := upV_le (x := x) (m := c - 1) (by omega) (by omega)
  have ok1 : CoOk (lg1 x c) (1 + upV x (c - 1)).toNat := coK_ok _ _
  have hl1 := ok1.c
  have h2 := upV_le (x := (lg1 x c).x) (m := d - 1) (by omega) (by omega)
  have ok2 : (lg2 x c d).1.length = (1 + upV (lg1 x c).x (d - 1)).toNat ∧ ∀ r ∈ (lg2 x c d).1, RwOk r ((lg1 x c).cs.length - 1 + 1) := dyK_ok _ _ _
  rw [show (lg1 x c).cs.length - 1 + 1 = (lg1 x c).cs.length by omega] at ok2
  have hr : RsOk (lg2 x c d).1 (lg1 x c).cs.length := ⟨by have := ok2.1; omega, ok2.2⟩
  have h3 := upV_le (x := (lg2 x c d).2) (m := e) (by omega) (by omega)
  have hI : EnI (lg1 x c).cs.length (lg2 x c d).1.length 0 ⟨0, (lg1 x c).ss, [], upS (lg2 x c d).2 e⟩ := ⟨Int.le_refl _, by show (0 : Int) ≤ _; have := hr.len; omega, by rw [ok1.c]; exact ok1.l, fun v hv => by have := ok1.v v hv; omega, Nat.le_refl _⟩
  have h4 := (enK_ok hr (by omega) (w := w) hI (upV (lg2 x c d).2 e).toNat).es
  refine ⟨?_, ok1.p, ?_, ok1.v, hr, ?_⟩
  · show 1 ≤ (lg1 x c).cs.length ∧ (lg1 x c).cs.length ≤ 4; omega
  · show (lg1 x c).ss.length = (lg1 x c).cs.length; rw [ok1.c]; exact ok1.l
  · show (lg3 x c d e w).es.length ≤ 6
    unfold lg3; omega
theorem LgOk.fit {L : Led} (h : LgOk L) : Fit L := by
  refine ⟨by have := h.c; omega, fun q hq => ?_, by have := h.r.len; omega, fun r hr => ?_, by have := h.c; have := h.s; omega, by have := h.e; omega⟩
  · obtain ⟨j, hj, hp⟩ := h.p q hq
    have := hp.len; omega
  · have := (h.r.all r hr).len; have := h.c; omega
end Go.Sym.B
namespace Go.Sym.B
open Go Go.Sym Go.Proofs Go.Sym.C
theorem q_cancel {a r : Rat} (h : r ≠ 0) : a / r * r = a := Rat.div_mul_cancel h
theorem floor_mul_le {w r : Rat} (hr : 0 < r) : ((w / r).floor : Rat) * r ≤ w := by
  have h1 := Rat.mul_le_mul_of_nonneg_right (Rat.floor_le (w / r)) (Rat.le_of_lt hr)
  rwa [q_cancel (fun h => by rw [h] at hr; exact absurd hr (by decide))] at h1
end Go.Sym.B
namespace Go.Sym.B
open Go Go.Sym Go.Proofs Go.Sym.C
end Go.Sym.B
namespace Go.Sym.B
open Go Go.Sym Go.Proofs Go.Sym.C
def stE (ss : List Int) (es : List Ent) : Int × List Int := es.foldl (fun s x => (x.day, enterF s.2 x)) (0, ss)
def VE (l : Led) : Prop := ∀ j, j < l.entries.length → eV l (l.entries.getD j default) (stE l.start (l.entries.take j)).1 (stE l.start (l.entries.take j)).2 = 0
theorem VE.snoc {cs : List (List Int)} {rs : List (List Sh)} {ss : List Int} {es : List Ent} {x : Ent} (h : VE ⟨cs, rs, ss, es⟩) (hx : eV ⟨cs, rs, ss, []⟩ x (stE ss es).1 (stE ss es).2 = 0) : VE ⟨cs, rs, ss, es ++ [x]⟩ := fun j hj => by
  have hj : j < es.length + 1 := by simpa using hj
  show eV _ ((es ++ [x]).getD j default) (stE ss ((es ++ [x]).take j)).1 (stE ss ((es ++ [x]).take j)).2 = 0
  rcases Nat.lt_or_eq_of_le (Nat.le_of_lt_succ hj) with h1 | h1
  · rw [getD_snocL h1, List.take_append_of_le_length (by omega)]
    exact h j h1
  · subst h1
    rw [getD_snocR rfl, List.take_left]
    exact hx
structure EnV (cs : List (List Int)) (rs : List (List Sh)) (ss : List Int) (s : EnS) : Prop where
  v : VE ⟨cs, rs, ss, s.es⟩
  t : (stE ss s.es).2 = s.till
  d : (stE ss s.es).1 ≤ s.day
theorem EnV.skip {cs : List (List Int)} {rs : List (List Sh)} {ss : List Int} {s : EnS} (h : EnV cs rs ss s) {d x : Int} (hd : s.day ≤ d) : EnV cs rs ss ⟨d, s.till, s.es, x⟩ :=
  ⟨h.v, h.t, Int.le_trans h.d hd⟩
end Go.Sym.B
namespace Go.Sym.B
open Go Go.Sym Go.Proofs Go.Sym.C
end Go.Sym.B
namespace Go.Sym.B
open Go Go.Sym Go.Proofs Go.Sym.C
end Go.Sym.B
namespace Go.Sym.B
open Go Go.Sym Go.Proofs Go.Sym.C
theorem takeI (l : List (List Int)) {k : Nat} (h : k < l.length) : (l.take k).map eInts ++ [[.sl ((l.getD k []).map eInt)]] = (l.take (k + 1)).map eInts := by
  rw [List.take_succ_eq_append_getElem h, List.map_append]; simp [List.getD_eq_getElem?_getD, h, eInts]
theorem takeS (l : List (List Sh)) {k : Nat} (h : k < l.length) : (l.take k).map eShs ++ [[.sl ((l.getD k []).map eSh)]] = (l.take (k + 1)).map eShs := by
  rw [List.take_succ_eq_append_getElem h, List.map_append]; simp [List.getD_eq_getElem?_getD, h, eShs]
def crT (l : List (List Int)) (k : Nat) : St := { t := asg [(0, aIntss l), (2, .nil), (3, .row 0), (4, aI k)], h := hasg [(0, .row 22 1 ((l.take k).map eInts))], n := 1 }
def tbH6_104 := vj @ty3 (vj @ty22 (vj @ty28 (vj @ti3.eq_1 (vj @ti22.eq_1 @ti28.eq_1))))
def xbH6_1 := vj @aI.eq_1 (vj @aB.eq_1 (vj @aInts.eq_1 (vj @aIntss.eq_1 (vj @crT.eq_1 (vj @c23.eq_1 (vj @c23.eq_2 (vj @gInts (vj @eInts.eq_1 (vj @mInt (vj @rInts (@rInt)))))))))))
theorem copyRows_fn (l : List (List Int)) (hl : l.length ≤ 20) (hp : ∀ p ∈ l, p.length ≤ 100000) : FnV Try.prog 104 [aIntss l] (aIntss l) := by
  have env : Env (fun _ => True) Try.prog tyB (tab [(23, valE false c23)]) := mkEnv ⟨d23, trivial⟩
  refine Fn.of (A := fun _ => True) (n0 := 0) (D := noD) (Fn0 Try.func104 rfl (fun vs w => by kernel_rfl) (by kernel_rfl)) (by simp) (by simp [AV.ids, AV.idsL, aIntss]) (fun i o h => by cases h) (fun _ _ _ _ => trivial) noD_ok ?_
  have q5 := tmax
  repeat' (first | refine zq0 ?_ | refine zq1 ?_ | refine zq2 ?_ | refine zq3 ?_ | refine zq4 ?_ | refine zq5 ?_ | refine uv ?_ | refine uk ?_ | refine uw ?_ | refine uz ?_ | refine uj ?_ | refine ux ?_ | refine uq (by decide) ?_ | ((first | refine vx env fun Q hQ => ?_ | refine vz fun Q hQ => ?_); simp only [vkt, seval, tbH6_104, xbH6_1]; (try simp only [ite_and]); (repeat' (first | with_reducible assumption | refine And.intro ?_ ?_ | intro hp)); all_goals (first | (refine hQ _ ?_; clear hQ Q) | (refine hQ _ (fun h => ?_) (fun h => ?_) <;> clear hQ Q <;> (try simp only [vki, reduceCtorEq] at h)) | omega | assumption | with_reducible rfl | (refine vq ?_; kernel_rfl) | skip)))
  refine sym_loop (fun k : { k : Nat // k ≤ l.length } => crT l k.1) (fun k => l.length - k.1) ⟨0, Nat.zero_le _⟩ ?_ fun ⟨k, hk⟩ => ?_
  · (refine Le.ok (fun _ => none) [] ?_; constructor; all_goals (try simp only [vle, vkt, seval, tbH6_104, xbH6_1]))
    all_goals first | rfl | (simp; done)
  · repeat' (first | refine zq0 ?_ | refine zq1 ?_ | refine zq2 ?_ | refine zq3 ?_ | refine zq4 ?_ | refine zq5 ?_ | refine uv ?_ | refine uk ?_ | refine uw ?_ | refine uz ?_ | refine uj ?_ | refine ux ?_ | refine uq (by decide) ?_)
    (refine vx env fun Q hQ => ?_; simp only [vkt, seval, tbH6_104, xbH6_1]; (try simp only [ite_and]); (repeat' (first | with_reducible assumption | refine And.intro ?_ ?_ | intro hp)); all_goals (first | (refine hQ _ ?_; clear hQ Q) | omega | assumption | with_reducible rfl | (refine vq ?_; kernel_rfl) | skip))
    repeat' (first | refine zq0 ?_ | refine zq1 ?_ | refine zq2 ?_ | refine zq3 ?_ | refine zq4 ?_ | refine zq5 ?_ | refine uv ?_ | refine uk ?_ | refine uw ?_ | refine uz ?_ | refine uj ?_ | refine ux ?_ | refine uq (by decide) ?_)
    (refine sym_cd (by simp only [vkt, seval, tbH6_104, xbH6_1]; rfl) (fun h => ?_) (fun h => ?_) <;> (try simp only [vki, reduceCtorEq] at h))
    · have hlt : k < l.length := by omega
      have e9 := wrap_succ hlt (show l.length ≤ maxLen by omega)
      have hpl := hp _ (gMem (d := []) hlt)
      have e4 := takeI l hlt
      have hk2 : (l.take k).length = k := by rw [List.length_take]; omega
      obtain ⟨p, hP⟩ : ∃ p, l.getD k [] = p := ⟨_, rfl⟩
      rw [hP] at e4 hpl
      have m1 : (k + 1) * 24 ≤ 140737488355328 ∧ k + 1 ≤ maxLen := by omega
      repeat' (first | refine zq0 ?_ | refine zq1 ?_ | refine zq2 ?_ | refine zq3 ?_ | refine zq4 ?_ | refine zq5 ?_ | refine uv ?_ | refine uk ?_ | refine uw ?_ | refine uz ?_ | refine uj ?_ | refine ux ?_ | refine uq (by decide) ?_ | ((first | refine vx env fun Q hQ => ?_ | refine vz fun Q hQ => ?_); simp only [vkt, seval, tbH6_104, xbH6_1, hP, e4, e9, hk2]; (try simp only [ite_and]); (repeat' (first | with_reducible assumption | refine And.intro ?_ ?_ | intro hp)); all_goals (first | (refine hQ _ ?_; clear hQ Q) | (refine hQ _ (fun h => ?_) (fun h => ?_) <;> clear hQ Q <;> (try simp only [vki, reduceCtorEq] at h)) | omega | assumption | with_reducible rfl | (refine vq ?_; kernel_rfl) | skip)))
      refine ⟨⟨k + 1, hlt⟩, by show l.length - (k + 1) < l.length - k; omega, ?_⟩
      (refine Le.ok (fun j => if j = 0 then some 2 else some j) [] ?_; constructor; all_goals (try simp only [vle, vkt, seval, tbH6_104, xbH6_1]))
      all_goals first | rfl | (simp; done)
    · have hkn : k = l.length := by omega
      subst hkn
      repeat' (first | refine zq0 ?_ | refine zq1 ?_ | refine zq2 ?_ | refine zq3 ?_ | refine zq4 ?_ | refine zq5 ?_ | refine uv ?_ | refine uk ?_ | refine uw ?_ | refine uz ?_ | refine uj ?_ | refine ux ?_ | refine uq (by decide) ?_ | ((first | refine vx env fun Q hQ => ?_ | refine vz fun Q hQ => ?_); simp only [vkt, seval, tbH6_104, xbH6_1]; (try simp only [ite_and]); (repeat' (first | with_reducible assumption | refine And.intro ?_ ?_ | intro hp)); all_goals (first | (refine hQ _ ?_; clear hQ Q) | (refine hQ _ (fun h => ?_) (fun h => ?_) <;> clear hQ Q <;> (try simp only [vki, reduceCtorEq] at h)) | omega | assumption | with_reducible rfl | (refine vq ?_; kernel_rfl) | skip)))
      (simp only [vrt, Try.results104, vkt, seval, tbH6_104, xbH6_1]; refine Fin.val rfl ?_; (try simp only [AV.le, AV.leL]))
      all_goals first | (rw [List.take_length]; exact ⟨_, _, rfl⟩)
def c104 : List AV → Prop × AV
  | [.sl xs] => (xs = (xs.map dInts).map eInts ∧ xs.length ≤ 20 ∧ ∀ p ∈ xs.map dInts, p.length ≤ 100000, .sl xs)
  | _ => (False, .junk)
theorem d104 {A : Frm → Prop} : EntryOK A Try.prog 104 (valE false c104) := valE_ok fun vs hv h => by
  clear hv
  unfold c104 at h ⊢
  split at h
  · refine ⟨trivial, fun h => absurd h (by decide), ?_⟩
    have := copyRows_fn (List.map dInts _) (by rw [List.length_map]; exact h.2.1) h.2.2
    simp only [aIntss, ← h.1] at this
    exact this
  · exact h.elim
def clT (l : Led) (k : Nat) : St := { t := asg [(1, .ptr 0 0), (2, .ptr 1 0), (3, .sl (l.rates.map eShs)), (4, aI k)], h := hasg [(0, .cells [.sl (l.coins.map eInts), .row 2, .sl (l.start.map eInt), .sl (l.entries.map eEnt)]), (1, .cells [.nil, .nil, .nil, .nil]), (2, .row 55 1 ((l.rates.take k).map eShs))], n := 3 }
theorem Fit.csl {l : Led} (h : Fit l) : ∀ p ∈ l.coins, p.length ≤ 100000 := fun p hp => by have := h.cs p hp; omega
def tbH6_43 := vj @ty3 (vj @ty22 (vj @ty28 (vj @ty35 (vj @ty36 (vj @ty38 (vj @ty48 (vj @ty55 (vj @ty59 (vj @ti3.eq_1 (vj @ti22.eq_1 (vj @ti28.eq_1 (vj @ti35.eq_1 (vj @ti36.eq_1 (vj @ti38.eq_1 (vj @ti48.eq_1 (vj @ti55.eq_1 @ti59.eq_1))))))))))))))))
def xbH6_2 := vj @aI.eq_1 (vj @aB.eq_1 (vj @aLed.eq_1 (vj @cLed.eq_1 (vj @clT.eq_1 (vj @c23.eq_1 (vj @c23.eq_2 (vj @c104.eq_1 (vj @c104.eq_2 (vj @gInts (vj @eInts.eq_1 (vj @gShs (vj @eShs.eq_1 (vj @mInt (vj @mInts (vj @rInts (vj @rInt (vj @rShs (vj @rSh (@rEnt)))))))))))))))))))
set_option maxHeartbeats 4000000 in
theorem copyLed_fn (l : Led) (hl : Fit l) : Fn noB Try.prog 43 [aLed l] noH (.agg [.sl (l.coins.map eInts), .sl (l.rates.map eShs), .sl (l.start.map eInt), .row 0]) (hasg [(0, .row 48 6 (l.entries.map eEnt))]) 0 := by
  have env : Env (fun _ => True) Try.prog tyB (tab [(23, valE false c23), (104, valE false c104)]) := mkEnv ⟨d23, d104, trivial⟩
  refine Fn.of (A := fun _ => True) (n0 := 0) (D := noD) (Fn0 Try.func43 rfl (fun vs w => by kernel_rfl) (by kernel_rfl)) (by simp) (by simp [AV.ids, AV.idsL, aLed, cLed]) (fun i o h => by cases h) (fun _ _ _ _ => trivial) noD_ok ?_
  have q1 := hl.c
  have q2 := hl.r
  have q3 := hl.e
  have q4 : l.start.length ≤ 100000 := by have := hl.s; omega
  have q5 := tmax
  have q6 := hl.csl
  have m0 : l.entries.length * 48 ≤ 140737488355328 ∧ l.entries.length ≤ maxLen := by omega
  repeat' (first | refine zq0 ?_ | refine zq1 ?_ | refine zq2 ?_ | refine zq3 ?_ | refine zq4 ?_ | refine zq5 ?_ | refine uv ?_ | refine uk ?_ | refine uw ?_ | refine uz ?_ | refine uj ?_ | refine ux ?_ | refine uq (by decide) ?_ | ((first | refine vx env fun Q hQ => ?_ | refine vz fun Q hQ => ?_); simp only [vkt, seval, tbH6_43, xbH6_2]; (try simp only [ite_and]); (repeat' (first | with_reducible assumption | refine And.intro ?_ ?_ | intro hp)); all_goals (first | (refine hQ _ ?_; clear hQ Q) | (refine hQ _ (fun h => ?_) (fun h => ?_) <;> clear hQ Q <;> (try simp only [vki, reduceCtorEq] at h)) | omega | assumption | with_reducible rfl | (refine vq ?_; kernel_rfl) | skip)))
  refine sym_loop (fun k : { k : Nat // k ≤ l.rates.length } => clT l k.1) (fun k => l.rates.length - k.1) ⟨0, Nat.zero_le _⟩ ?_ fun ⟨k, hk⟩ => ?_
  · (refine Le.ok (fun j => if j = 2 then none else some j) [] ?_; constructor; all_goals (try simp only [vle, vkt, seval, tbH6_43, xbH6_2]))
    all_goals first | rfl | (simp; done)
  · repeat' (first | refine zq0 ?_ | refine zq1 ?_ | refine zq2 ?_ | refine zq3 ?_ | refine zq4 ?_ | refine zq5 ?_ | refine uv ?_ | refine uk ?_ | refine uw ?_ | refine uz ?_ | refine uj ?_ | refine ux ?_ | refine uq (by decide) ?_)
    (refine vx env fun Q hQ => ?_; simp only [vkt, seval, tbH6_43, xbH6_2]; (try simp only [ite_and]); (repeat' (first | with_reducible assumption | refine And.intro ?_ ?_ | intro hp)); all_goals (first | (refine hQ _ ?_; clear hQ Q) | omega | assumption | with_reducible rfl | (refine vq ?_; kernel_rfl) | skip))
    repeat' (first | refine zq0 ?_ | refine zq1 ?_ | refine zq2 ?_ | refine zq3 ?_ | refine zq4 ?_ | refine zq5 ?_ | refine uv ?_ | refine uk ?_ | refine uw ?_ | refine uz ?_ | refine uj ?_ | refine ux ?_ | refine uq (by decide) ?_)
    (refine sym_cd (by simp only [vkt, seval, tbH6_43, xbH6_2]; rfl) (fun h => ?_) (fun h => ?_) <;> (try simp only [vki, reduceCtorEq] at h))
    · have hlt : k < l.rates.length := by omega
      have e9 := wrap_succ hlt (show l.rates.length ≤ maxLen by omega)
      have hpl := hl.rs _ (gMem (d := []) hlt)
      have e4 := takeS l.rates hlt
      have hk2 : (l.rates.take k).length = k := by rw [List.length_take]; omega
      obtain ⟨p, hP⟩ : ∃ p, l.rates.getD k [] = p := ⟨_, rfl⟩
      rw [hP] at e4 hpl
      have m1 : (k + 1) * 24 ≤ 140737488355328 ∧ k + 1 ≤ maxLen := by omega
      have m2 : p.length * 16 ≤ 140737488355328 ∧ p.length ≤ maxLen := by omega
      repeat' (first | refine zq0 ?_ | refine zq1 ?_ | refine zq2 ?_ | refine zq3 ?_ | refine zq4 ?_ | refine zq5 ?_ | refine uv ?_ | refine uk ?_ | refine uw ?_ | refine uz ?_ | refine uj ?_ | refine ux ?_ | refine uq (by decide) ?_ | ((first | refine vx env fun Q hQ => ?_ | refine vz fun Q hQ => ?_); simp only [vkt, seval, tbH6_43, xbH6_2, hP, e4, e9, hk2]; (try simp only [ite_and]); (repeat' (first | with_reducible assumption | refine And.intro ?_ ?_ | intro hp)); all_goals (first | (refine hQ _ ?_; clear hQ Q) | (refine hQ _ (fun h => ?_) (fun h => ?_) <;> clear hQ Q <;> (try simp only [vki, reduceCtorEq] at h)) | omega | assumption | with_reducible rfl | (refine vq ?_; kernel_rfl) | skip)))
      refine ⟨⟨k + 1, hlt⟩, by show l.rates.length - (k + 1) < l.rates.length - k; omega, ?_⟩
      (refine Le.ok (fun j => if j = 2 then some 5 else some j) [] ?_; constructor; all_goals (try simp only [vle, vkt, seval, tbH6_43, xbH6_2]))
      all_goals first | rfl | (simp; done)
    · have hkn : k = l.rates.length := by omega
      subst hkn
      repeat' (first | refine zq0 ?_ | refine zq1 ?_ | refine zq2 ?_ | refine zq3 ?_ | refine zq4 ?_ | refine zq5 ?_ | refine uv ?_ | refine uk ?_ | refine uw ?_ | refine uz ?_ | refine uj ?_ | refine ux ?_ | refine uq (by decide) ?_ | ((first | refine vx env fun Q hQ => ?_ | refine vz fun Q hQ => ?_); simp only [vkt, seval, tbH6_43, xbH6_2, List.take_length]; (try simp only [ite_and]); (repeat' (first | with_reducible assumption | refine And.intro ?_ ?_ | intro hp)); all_goals (first | (refine hQ _ ?_; clear hQ Q) | (refine hQ _ (fun h => ?_) (fun h => ?_) <;> clear hQ Q <;> (try simp only [vki, reduceCtorEq] at h)) | omega | assumption | with_reducible rfl | (refine vq ?_; kernel_rfl) | skip)))
      (simp only [vrt, Try.results43, vkt, seval, tbH6_43, xbH6_2]; refine Fin.ok (fun j => if j = 0 then some 3 else none) [2] ?_ ?_ ?_ ?_ ?_ rfl; all_goals (try simp only [vle, vkt, seval, tbH6_43, xbH6_2]))
      all_goals first | rfl | (simp; done) | exact ⟨⟨_, _, rfl⟩, ⟨_, _, rfl⟩⟩
end Go.Sym.B
namespace Go.Sym.B
open Go Go.Sym Go.Proofs Go.Sym.C
def alongL (f : Int → Int → Int → Int) : List Int → Int → Int
  | a :: b :: r, n => alongL f (b :: r) (f a b n)
  | [_], n => n
  | [], n => n
theorem along_snoc (f : Int → Int → Int → Int) : ∀ (p : List Int) (c n : Int), p ≠ [] → alongL f (p ++ [c]) n = f (p.getLastD 0) c (alongL f p n)
  | [], _, _, h => absurd rfl h
  | [a], c, n, _ => by simp [alongL]
  | a :: b :: r, c, n, _ => by
    have := along_snoc f (b :: r) c (f a b n) (by simp)
    simp only [List.cons_append, alongL] at this ⊢
    rw [this]
    simp [List.getLastD]
def waysF (to : Int) (N : Nat) : Nat → List Int → List (List Int)
  | 0, p => if p.getLastD 0 = to then [p] else []
  | m + 1, p => if p.getLastD 0 = to then [p] else (List.range N).flatMap fun c : Nat => if (c : Int) ∈ p then [] else waysF to N m (p ++ [(c : Int)])
def bst (s : List Int × Int) (p : List Int) (n : Int) : List Int × Int := if s.2 < n ∨ (n = s.2 ∧ p.length < s.1.length) then (p, n) else s
def dfs (f : Int → Int → Int → Int) (to : Int) (N : Nat) : Nat → List Int → Int → List Int × Int → List Int × Int
  | 0, p, n, s => if p.getLastD 0 = to then bst s p n else s
  | m + 1, p, n, s => if p.getLastD 0 = to then bst s p n else (List.range N).foldl (fun s (c : Nat) => if (c : Int) ∈ p then s else dfs f to N m (p ++ [(c : Int)]) (f (p.getLastD 0) c n) s) s
def bestOf (f : Int → Int → Int → Int) (n : Int) (l : List (List Int)) (s : List Int × Int) : List Int × Int := l.foldl (fun s q => bst s q (alongL f q n)) s
theorem bestOf_append (f : Int → Int → Int → Int) (n : Int) (l l' : List (List Int)) (s : List Int × Int) : bestOf f n (l ++ l') s = bestOf f n l' (bestOf f n l s) := by
  unfold bestOf; rw [List.foldl_append]
theorem dfs_ways (f : Int → Int → Int → Int) (to : Int) (N : Nat) (n0 : Int) : ∀ (m : Nat) (p : List Int) (s : List Int × Int), p ≠ [] → dfs f to N m p (alongL f p n0) s = bestOf f n0 (waysF to N m p) s
  | 0, p, s, _ => by
    simp only [dfs, waysF]
    split <;> rfl
  | m + 1, p, s, hp => by
    simp only [dfs, waysF]
    split
    · rfl
    · have key : ∀ (l : List Nat) (s : List Int × Int), l.foldl (fun s (c : Nat) => if (c : Int) ∈ p then s else dfs f to N m (p ++ [(c : Int)]) (f (p.getLastD 0) c (alongL f p n0)) s) s = bestOf f n0 (l.flatMap fun c : Nat => if (c : Int) ∈ p then [] else waysF to N m (p ++ [(c : Int)])) s := by
        intro l
        induction l with
        | nil => intro s; rfl
        | cons c l ih =>
          intro s
          rw [List.foldl_cons, List.flatMap_cons, bestOf_append, ih]
          congr 1
          split
          · rfl
          · rw [← along_snoc f p c n0 hp, dfs_ways f to N n0 m _ s (by simp)]
      exact key _ _
theorem nodup_le : ∀ (N : Nat) (l : List Int), l.Nodup → (∀ x ∈ l, 0 ≤ x ∧ x < N) → l.length ≤ N
  | 0, l, _, h => by
    cases l with
    | nil => simp
    | cons a l => have := h a (by simp); omega
  | N + 1, l, hn, h => by
    have h1 : (l.erase (N : Int)).Nodup := hn.erase _
    have h2 := nodup_le N (l.erase (N : Int)) h1 fun x hx => by
      have h3 := h x (List.mem_of_mem_erase hx)
      have h4 : x ≠ (N : Int) := fun e => by
        rw [e] at hx
        exact (List.Nodup.not_mem_erase hn) hx
      omega
    have := List.length_erase_le_of (l := l) (a := (N : Int))
    omega
where
  List.length_erase_le_of {l : List Int} {a : Int} : l.length ≤ (l.erase a).length + 1 := by
    by_cases h : a ∈ l
    · rw [List.length_erase_of_mem h]; omega
    · rw [List.erase_of_not_mem h]; omega
theorem nodup_full {N : Nat} {p : List Int} (hn : p.Nodup) (h : ∀ x ∈ p, 0 ≤ x ∧ x < N) (hl : p.length = N) {c : Nat} (hc : c < N) : (c : Int) ∈ p := by
  refine Classical.byContradiction fun hm => ?_
  have := nodup_le N ((c : Int) :: p) (List.nodup_cons.2 ⟨hm, hn⟩) fun x hx => by
    rcases List.mem_cons.1 hx with rfl | hx
    · omega
    · exact h x hx
  simp at this
  omega
structure Way (N : Nat) (p : List Int) : Prop where
  ne : p ≠ []
  nd : p.Nodup
  bd : ∀ x ∈ p, 0 ≤ x ∧ x < N
theorem Way.len {N : Nat} {p : List Int} (h : Way N p) : p.length ≤ N := nodup_le N p h.nd h.bd
theorem Way.snoc {N : Nat} {p : List Int} (h : Way N p) {c : Nat} (hc : c < N) (hm : (c : Int) ∉ p) : Way N (p ++ [(c : Int)]) := by
  refine ⟨by simp, ?_, fun x hx => ?_⟩
  · rw [List.nodup_append]
    refine ⟨h.nd, by simp, fun a ha b hb => ?_⟩
    rw [List.mem_singleton] at hb
    subst hb
    exact fun e => hm (e ▸ ha)
  · rcases List.mem_append.1 hx with hx | hx
    · exact h.bd x hx
    · rw [List.mem_singleton.1 hx]; omega
theorem Way.last {N : Nat} {p : List Int} (h : Way N p) : 0 ≤ p.getLastD 0 ∧ p.getLastD 0 < N := by
  have hm : p.getLastD 0 ∈ p := by
    have := h.ne
    rw [List.getLastD_eq_getLast?, List.getLast?_eq_some_getLast this]
    exact List.getLast_mem this
  exact h.bd _ hm
theorem ways_ok {to : Int} {N : Nat} : ∀ {m : Nat} {p : List Int}, Way N p → ∀ q ∈ waysF to N m p, Way N q ∧ q.getLastD 0 = to ∧ ∃ r, q = p ++ r
  | 0, p, h, q, hq => by
    simp only [waysF] at hq
    split at hq
    · rw [List.mem_singleton.1 hq]; exact ⟨h, ‹_›, [], by simp⟩
    · simp at hq
  | m + 1, p, h, q, hq => by
    simp only [waysF] at hq
    split at hq
    · rw [List.mem_singleton.1 hq]; exact ⟨h, ‹_›, [], by simp⟩
    · obtain ⟨c, hc, hq⟩ := List.mem_flatMap.1 hq
      have hc := List.mem_range.1 hc
      split at hq
      · simp at hq
      · rename_i hm
        obtain ⟨h1, h2, r, h3⟩ := ways_ok (h.snoc hc hm) q hq
        exact ⟨h1, h2, [(c : Int)] ++ r, by rw [h3, List.append_assoc]⟩
theorem ways_ne {N m T : Nat} {p : List Int} (hT : T < N) (h : p.getLastD 0 = (T : Int) ∨ (0 < m ∧ (T : Int) ∉ p)) : waysF (T : Int) N m p ≠ [] := by
  cases m with
  | zero => simp only [waysF]; rw [if_pos (by rcases h with h | h; exact h; omega)]; simp
  | succ m =>
    simp only [waysF]
    split
    · simp
    · rename_i h0
      rcases h with h | ⟨_, h⟩
      · exact absurd h h0
      · intro he
        have h1 := List.flatMap_eq_nil_iff.1 he T (List.mem_range.2 hT)
        rw [if_neg h] at h1
        have h2 : (p ++ [(T : Int)]).getLastD 0 = (T : Int) := by simp
        cases m with
        | zero => simp [waysF] at h1
        | succ m => simp [waysF] at h1
def waysK (to : Int) (N m : Nat) (p : List Int) (k : Nat) : List (List Int) := (List.range k).flatMap fun c : Nat => if (c : Int) ∈ p then [] else waysF to N m (p ++ [(c : Int)])
theorem waysK_succ (to : Int) (N m : Nat) (p : List Int) (k : Nat) : waysK to N m p (k + 1) = waysK to N m p k ++ if (k : Int) ∈ p then [] else waysF to N m (p ++ [(k : Int)]) := by
  unfold waysK; rw [List.range_succ, List.flatMap_append]; simp
theorem waysF_succ {to : Int} {N m : Nat} {p : List Int} (h : p.getLastD 0 ≠ to) : waysF to N (m + 1) p = waysK to N m p N := by
  simp only [waysF]; rw [if_neg h]; rfl
def dfsK (f : Int → Int → Int → Int) (to : Int) (N m : Nat) (p : List Int) (n : Int) (s : List Int × Int) (k : Nat) : List Int × Int := (List.range k).foldl (fun s (c : Nat) => if (c : Int) ∈ p then s else dfs f to N m (p ++ [(c : Int)]) (f (p.getLastD 0) c n) s) s
theorem dfsK_succ (f : Int → Int → Int → Int) (to : Int) (N m : Nat) (p : List Int) (n : Int) (s : List Int × Int) (k : Nat) : dfsK f to N m p n s (k + 1) = if (k : Int) ∈ p then dfsK f to N m p n s k else dfs f to N m (p ++ [(k : Int)]) (f (p.getLastD 0) k n) (dfsK f to N m p n s k) := by
  unfold dfsK; rw [List.range_succ, List.foldl_append]; rfl
theorem dfs_succ {f : Int → Int → Int → Int} {to : Int} {N m : Nat} {p : List Int} {n : Int} {s : List Int × Int} (h : p.getLastD 0 ≠ to) : dfs f to N (m + 1) p n s = dfsK f to N m p n s N := by
  simp only [dfs]; rw [if_neg h]; rfl
end Go.Sym.B
namespace Go.Sym.B
open Go Go.Sym Go.Proofs Go.Sym.C
def largeB (l : Led) : Bool := (List.range (min l.coins.length 20)).any (fun j => decide (20 < (l.coins.getD j []).length)) || ((List.range (min l.rates.length 20)).any (fun j => decide (20 < (l.rates.getD j []).length)) || (decide (20 < l.coins.length) || (decide (20 < l.rates.length) || (decide (20 < l.start.length) || decide (20 < l.entries.length)))))
theorem anyR {n : Nat} {f : Nat → Nat} {k : Nat} (h : k < n) (h2 : k < 20) (hf : 20 < f k) : (List.range (min n 20)).any (fun j => decide (20 < f j)) = true := by
  rw [List.any_eq_true]
  exact ⟨k, List.mem_range.2 (by omega), by simpa using hf⟩
theorem anyN {n : Nat} {f : Nat → Nat} (h : ∀ j, j < n → j < 20 → f j ≤ 20) : (List.range (min n 20)).any (fun j => decide (20 < f j)) = false := by
  rw [List.any_eq_false]
  intro j hj
  have := List.mem_range.1 hj
  have := h j (by omega) (by omega)
  simpa using this
theorem fit_of {l : Led} (h : largeB l = false) : Fit l := by
  unfold largeB at h
  simp only [Bool.or_eq_false_iff, decide_eq_false_iff_not, Nat.not_lt, List.any_eq_false, List.mem_range, decide_eq_true_eq] at h
  obtain ⟨h1, h2, h3, h4, h5, h6⟩ := h
  refine ⟨h3, fun p hp => ?_, h4, fun p hp => ?_, h5, h6⟩
  · obtain ⟨j, hj, rfl⟩ := List.getElem_of_mem hp
    have := h1 j (by omega)
    simpa [List.getD_eq_getElem?_getD, hj] using this
  · obtain ⟨j, hj, rfl⟩ := List.getElem_of_mem hp
    have := h2 j (by omega)
    simpa [List.getD_eq_getElem?_getD, hj] using this
def laT1 (l : Led) (k : Nat) : St := { t := asg [(1, .ptr 0 0), (2, aB false), (3, aI k)], h := hasg [(0, .cells (cLed l))], n := 1 }
def laT2 (l : Led) (k : Nat) : St := { t := asg [(1, .ptr 0 0), (2, aB false), (4, aI k)], h := hasg [(0, .cells (cLed l))], n := 1 }
def tbJ1_44 := vj @ty3 (vj @ty22 (vj @ty28 (vj @ty35 (vj @ty36 (vj @ty38 (vj @ty48 (vj @ty55 (vj @ty59 (vj @ti3.eq_1 (vj @ti22.eq_1 (vj @ti28.eq_1 (vj @ti35.eq_1 (vj @ti36.eq_1 (vj @ti38.eq_1 (vj @ti48.eq_1 (vj @ti55.eq_1 @ti59.eq_1))))))))))))))))
def xbJ1_1 := vj @aI.eq_1 (vj @aB.eq_1 (vj @aLed.eq_1 (vj @cLed.eq_1 (vj @laT1.eq_1 (vj @laT2.eq_1 (vj @gInts (vj @eInts.eq_1 (vj @gShs (@eShs.eq_1)))))))))
end Go.Sym.B
