/- Walks and what they compute, joined: part 5. -/
import Derived.ControlIn
import Derived.CallsIn
import Derived.OrdersIn
import Derived.RangeFuncRecord
import Derived.Maps.AppendAt
import Derived.OwnWalk
import Derived.Below
import Derived.Laws.StructEq
import Derived.Laws.Cells
import Derived.Laws.CopyRow
import Derived.Laws.Slices
import Derived.Laws.MakeOwn
import Derived.RangeFuncLeaves
import Derived.Scope
import Derived.Test.YtoapndlmbpphfaaProg
import Derived.KernelRfl
import Derived.Test.YtoapndlmbpphfaaL4
set_option linter.all false
namespace Go.Sym.B
open Go Go.Sym Go.Proofs Go.Sym.C
def hitN (p : Nat) (f : Nat → Int) (a : Nat) (m : Nat) : Bool := decide (m * p ≤ a) && decide (0 ≤ f (a - m * p)) && decide (f (a - m * p) + m = gN p f a)
theorem hitN_some {p : Nat} {f : Nat → Int} (hp : 1 ≤ p) (a : Nat) (h : 0 ≤ gN p f a) : ∃ m, hitN p f a m = true := by
  induction a using Nat.strongRecOn with
  | _ a ih =>
    by_cases hc : p ≤ a
    · rw [gN_ge hp hc] at h
      by_cases hu : 0 ≤ gN p f (a - p) ∧ (f a < 0 ∨ gN p f (a - p) + 1 < f a)
      · obtain ⟨m, hm⟩ := ih (a - p) (by omega) hu.1
        refine ⟨m + 1, ?_⟩
        unfold hitN at hm ⊢
        simp only [Bool.and_eq_true, decide_eq_true_eq] at hm ⊢
        have e1 : (m + 1) * p = m * p + p := Nat.succ_mul m p
        have e2 : a - (m + 1) * p = a - p - m * p := by omega
        have e3 : gN p f a = gN p f (a - p) + 1 := by rw [gN_ge hp hc]; unfold updN; rw [if_pos hu]
        rw [e2, e3]
        refine ⟨⟨by omega, hm.1.2⟩, ?_⟩
        have := hm.2
        omega
      · refine ⟨0, ?_⟩
        unfold hitN
        simp only [Bool.and_eq_true, decide_eq_true_eq]
        have e3 : gN p f a = f a := by rw [gN_ge hp hc]; unfold updN; rw [if_neg hu]
        rw [← gN_ge hp hc, e3] at h
        rw [e3]
        simp; exact h
    · refine ⟨0, ?_⟩
      rw [gN_lt (by omega)] at h
      unfold hitN
      simp only [Bool.and_eq_true, decide_eq_true_eq]
      rw [gN_lt (by omega)]
      simp; exact h
theorem hitN_le {p : Nat} {f : Nat → Int} (hp : 1 ≤ p) {a m : Nat} (h : hitN p f a m = true) : m ≤ a := by
  unfold hitN at h
  simp only [Bool.and_eq_true, decide_eq_true_eq] at h
  have := Nat.le_mul_of_pos_right m hp
  omega
def countN (p : Nat) (f : Nat → Int) (a : Nat) : Nat := ((List.range (a + 1)).find? (hitN p f a)).getD 0
theorem countN_hit {p : Nat} {f : Nat → Int} (hp : 1 ≤ p) {a m : Nat} (h : hitN p f a m = true) (hb : ∀ j, j < m → hitN p f a j = false) : countN p f a = m := by
  have hm := hitN_le hp h
  unfold countN
  have : (List.range (a + 1)).find? (hitN p f a) = some m := by
    rw [List.find?_range_eq_some]
    exact ⟨h, List.mem_range.2 (by omega), fun j hj => by simpa using hb j hj⟩
  rw [this]; rfl
theorem countN_spec {p : Nat} {f : Nat → Int} (hp : 1 ≤ p) {a : Nat} (h : 0 ≤ gN p f a) : hitN p f a (countN p f a) = true := by
  obtain ⟨m, hm⟩ := hitN_some hp a h
  have hle := hitN_le hp hm
  unfold countN
  cases hq : (List.range (a + 1)).find? (hitN p f a) with
  | some i => exact List.find?_some hq
  | none => exact absurd hm (List.find?_eq_none.1 hq m (List.mem_range.2 (by omega)))
def pcA (ps : List Int) (A : Nat) : Nat → Nat
  | 0 => A
  | i + 1 => pcA ps A i - countN (ps.getD i 0).toNat (needN (ps.drop (i + 1))) (pcA ps A i) * (ps.getD i 0).toNat
def pcM (ps : List Int) (A : Nat) (i : Nat) : Nat := countN (ps.getD i 0).toNat (needN (ps.drop (i + 1))) (pcA ps A i)
def pcL (ps : List Int) (A : Nat) (k : Nat) : List Int := (List.range k).map fun i => (pcM ps A i : Int)
theorem pcL_succ (ps : List Int) (A k : Nat) : pcL ps A (k + 1) = pcL ps A k ++ [(pcM ps A k : Int)] := by unfold pcL; rw [List.range_succ, List.map_append]; rfl
theorem pcL_len (ps : List Int) (A k : Nat) : (pcL ps A k).length = k := by simp [pcL]
theorem need_drop {ps : List Int} {i : Nat} (h : i < ps.length) (a : Nat) : needN (ps.drop i) a = gN (ps.getD i 0).toNat (needN (ps.drop (i + 1))) a := by
  rw [List.drop_eq_getElem_cons h, needN]; simp [List.getD_eq_getElem?_getD, h]
theorem pc_inv {ps : List Int} (hp : ∀ p ∈ ps, 1 ≤ p) {A : Nat} (h0 : 0 ≤ needN ps A) : ∀ i, i ≤ ps.length → 0 ≤ needN (ps.drop i) (pcA ps A i) ∧ pcA ps A i ≤ A
  | 0, _ => by rw [List.drop_zero]; exact ⟨h0, Nat.le_refl _⟩
  | i + 1, hi => by
    obtain ⟨h1, h2⟩ := pc_inv hp h0 i (by omega)
    have h3 := hp _ (gMem (d := 0) (show i < ps.length by omega))
    rw [need_drop (by omega)] at h1
    have h4 := countN_spec (by omega) h1
    unfold hitN at h4
    simp only [Bool.and_eq_true, decide_eq_true_eq] at h4
    rw [pcA]
    exact ⟨h4.1.2, by omega⟩
theorem need_one {ps : List Int} (hp : ∀ p ∈ ps, 1 ≤ p) (h1 : ps.getD 0 0 = 1) (hl : 1 ≤ ps.length) (a : Nat) : 0 ≤ needN ps a := by
  obtain ⟨p, r, rfl⟩ : ∃ p r, ps = p :: r := by cases ps with | nil => simp at hl | cons p r => exact ⟨p, r, rfl⟩
  obtain rfl : p = 1 := by simpa using h1
  have hr : ∀ a, -1 ≤ needN r a := fun a => (needN_le (fun q hq => hp q (List.mem_cons_of_mem _ hq)) a).1
  have h00 : ∀ {r : List Int}, (∀ p ∈ r, 1 ≤ p) → needN r 0 = 0 := by
    intro r
    induction r with
    | nil => intro _; rfl
    | cons q r ih =>
      intro h
      have := h q List.mem_cons_self
      rw [needN, gN_lt (by omega)]
      exact ih fun x hx => h x (List.mem_cons_of_mem _ hx)
  rw [needN]
  show 0 ≤ gN 1 (needN r) a
  induction a with
  | zero => rw [gN_lt (by omega), h00 fun q hq => hp q (List.mem_cons_of_mem _ hq)]; decide
  | succ a ih =>
    rw [gN_ge (Nat.le_refl _) (by omega), show a + 1 - 1 = a by omega]
    unfold updN
    have := hr (a + 1)
    split <;> omega
structure PsOk (ps : List Int) : Prop where
  l : 1 ≤ ps.length ∧ ps.length ≤ 4
  one : ps.getD 0 0 = 1
  b : ∀ p ∈ ps, 1 ≤ p ∧ p ≤ 50
  inc : ∀ i, i + 1 < ps.length → ps.getD i 0 < ps.getD (i + 1) 0
theorem coin_ok {p : List Int} (h : coinE p = 0) : PsOk p := by
  unfold coinE at h
  split at h
  · exact absurd h ‹_›
  · rename_i h0
    split at h
    · exact absurd h (by decide)
    · rename_i h1
      have hl : 1 ≤ p.length ∧ p.length ≤ 4 := by unfold countedE at h0; split at h0 <;> simp at h0; omega
      have hs : ∀ i, i + 1 < p.length → p.getD (i + 1) 0 ≤ 50 ∧ p.getD i 0 < p.getD (i + 1) 0 := fun i hi => by
        have := firstE_zero h (pieceE p i) (List.mem_map.2 ⟨i, List.mem_range.2 (by omega), rfl⟩)
        unfold pieceE at this
        rw [Nat.add_comm 1 i] at this
        split at this
        · exact absurd this (by decide)
        · split at this
          · exact absurd this (by decide)
          · omega
      have hb : ∀ i, i < p.length → 1 ≤ p.getD i 0 ∧ p.getD i 0 ≤ 50 := fun i => by
        induction i with
        | zero => intro _; omega
        | succ i ih => intro hi; have := ih (by omega); have := hs i hi; omega
      refine ⟨hl, by omega, fun q hq => ?_, fun i hi => (hs i hi).2⟩
      obtain ⟨j, hj, rfl⟩ := List.getElem_of_mem hq
      have := hb j hj
      simpa [List.getD_eq_getElem?_getD, hj] using this
def rowR (f : Nat → Int) (A : Nat) : List Int := (List.range (A + 1)).map f
theorem rowR_len (f : Nat → Int) (A : Nat) : (rowR f A).length = A + 1 := by simp [rowR]
theorem rowR_get {f : Nat → Int} {A j : Nat} (h : j ≤ A) : (rowR f A).getD j 0 = f j := by simp [rowR, List.getD_eq_getElem?_getD, show j < A + 1 by omega]
theorem rowR_set {f : Nat → Int} {A j : Nat} {v : Int} : (rowR f A).set j v = rowR (fun i => if i = j then v else f i) A := by
  apply List.ext_getElem?
  intro i
  simp only [rowR, List.getElem?_set, List.getElem?_map, List.getElem?_range, List.length_map, List.length_range]
  by_cases hi : j = i
  · subst hi
    by_cases h : j < A + 1
    · simp [h]
    · simp [h]
  · rw [if_neg hi]
    by_cases h : i < A + 1
    · simp [h]; exact fun h' => absurd h'.symm hi
    · simp [h]
theorem rowR_congr {f g : Nat → Int} {A : Nat} (h : ∀ j, j ≤ A → f j = g j) : rowR f A = rowR g A := by
  unfold rowR
  exact List.map_congr_left fun j hj => h j (by have := List.mem_range.1 hj; omega)
def mixF (p : Nat) (f : Nat → Int) (n : Nat) : Nat → Int := fun j => if j < n then gN p f j else f j
theorem mix_start {p : Nat} {f : Nat → Int} {A : Nat} : rowR (mixF p f p) A = rowR f A := rowR_congr fun j _ => by
  unfold mixF; split
  · exact gN_lt ‹_›
  · rfl
theorem mix_end {p : Nat} {f : Nat → Int} {A n : Nat} (h : A < n) : rowR (mixF p f n) A = rowR (gN p f) A := rowR_congr fun j hj => by
  unfold mixF; rw [if_pos (by omega)]
theorem mix_set {p : Nat} {f : Nat → Int} {A n : Nat} {v : Int} (hv : gN p f n = v) : (rowR (mixF p f n) A).set n v = rowR (mixF p f (n + 1)) A := by
  rw [rowR_set]
  refine rowR_congr fun j _ => ?_
  unfold mixF
  by_cases h : j = n
  · subst h; rw [if_pos rfl, if_pos (by omega), hv]
  · rw [if_neg h]
    by_cases h1 : j < n
    · rw [if_pos h1, if_pos (by omega)]
    · rw [if_neg h1, if_neg (by omega)]
theorem mix_same {p : Nat} {f : Nat → Int} {A n : Nat} (hv : gN p f n = f n) : rowR (mixF p f n) A = rowR (mixF p f (n + 1)) A := rowR_congr fun j _ => by
  unfold mixF
  by_cases h : j = n
  · subst h; rw [if_neg (by omega), if_pos (by omega), hv]
  · by_cases h1 : j < n
    · rw [if_pos h1, if_pos (by omega)]
    · rw [if_neg h1, if_neg (by omega)]
def tabC (g : Nat → AV) (n : Nat) : List AV := (List.range n).map g
theorem tabC_len (g : Nat → AV) (n : Nat) : (tabC g n).length = n := by simp [tabC]
theorem tabC_read {g : Nat → AV} {n k : Nat} (h : k < n) : ((tabC g n).drop k).take 1 = [g k] := by
  apply List.ext_getElem?
  intro i
  rw [List.getElem?_take]
  by_cases hi : i < 1
  · obtain rfl : i = 0 := by omega
    simp [tabC, h]
  · rw [if_neg hi]
    simp; omega
theorem tabC_store {g : Nat → AV} {n k : Nat} {v : AV} (h : k < n) : (tabC g n).take k ++ v :: (tabC g n).drop (k + 1) = tabC (fun j => if j = k then v else g j) n := by
  apply List.ext_getElem?
  intro i
  rw [List.getElem?_append]
  simp only [tabC, List.length_take, List.length_map, List.length_range]
  rw [show min k n = k by omega]
  by_cases h1 : i < k
  · rw [if_pos h1, List.getElem?_take, if_pos h1]
    simp [show i < n by omega, show i ≠ k by omega]
  · rw [if_neg h1]
    by_cases h2 : i = k
    · subst h2
      simp [h]
    · rw [show i - k = (i - k - 1) + 1 by omega, List.getElem?_cons_succ, List.getElem?_drop, show k + 1 + (i - k - 1) = i by omega]
      by_cases h3 : i < n
      · simp [h3, h2]
      · simp [h3]
theorem tabC_nil (n : Nat) : List.replicate n AV.nil = tabC (fun _ => .nil) n := by
  apply List.ext_getElem?
  intro i
  simp only [tabC, List.getElem?_replicate, List.getElem?_map, List.getElem?_range]
  by_cases h : i < n <;> simp [h]
theorem tabC_le {h : Nat → Option AObj} {σ : Nat → Option Nat} {g g' : Nat → AV} {n : Nat} (hg : ∀ j, j < n → AV.le h σ (g j) (g' j)) : AV.leL h σ (tabC g n) (tabC g' n) := by
  have key : ∀ (l : List Nat), (∀ j ∈ l, AV.le h σ (g j) (g' j)) → AV.leL h σ (l.map g) (l.map g') := by
    intro l
    induction l with
    | nil => intro _; exact trivial
    | cons a l ih => intro hh; exact ⟨hh a List.mem_cons_self, ih fun j hj => hh j (List.mem_cons_of_mem _ hj)⟩
  exact key _ fun j hj => hg j (List.mem_range.1 hj)
theorem tabC_ids {g : Nat → AV} {n N : Nat} (hg : ∀ j, j < n → ∀ id ∈ (g j).ids, id < N) : ∀ id ∈ AV.idsL (tabC g n), id < N := fun id hid => by
  obtain ⟨c, hc, hi⟩ := AV.mem_idsL.1 hid
  obtain ⟨j, hj, rfl⟩ := List.mem_map.1 hc
  exact hg j (List.mem_range.1 hj) id hi
end Go.Sym.B
namespace Go.Sym.B
open Go Go.Sym Go.Proofs Go.Sym.C
def piL (ps : List Int) (A : Nat) : List Int := pcL ps A ps.length
def aPieces (l : Led) (c n : Int) : AV := if moneyE l c n [] ≠ 0 then .tup [.sl [], aI (moneyE l c n [])] else .tup [aInts (piL (l.coins.getD c.toNat []) n.toNat), aI 0]
def tbG (ps : List Int) (A i : Nat) : Nat → AV := fun j => if j < i then .nil else .sl ((rowR (needN (ps.drop j)) A).map eInt)
def tbH (ps : List Int) (A i id : Nat) : Nat → AV := fun j => if j = i then .row id else tbG ps A (i + 1) j
theorem tabC_st {g : Nat → AV} {n k : Nat} {v : AV} (h : k < n) : List.take (k * 1) (tabC g n) ++ [v] ++ List.drop (k * 1 + 1) (tabC g n) = tabC (fun j => if j = k then v else g j) n := by
  rw [Nat.mul_one, List.append_assoc, List.singleton_append, tabC_store h]
theorem tabC_rd {g : Nat → AV} {n k : Nat} (h : k < n) : List.take 1 (List.drop (k * 1) (tabC g n)) = [g k] := by
  rw [Nat.mul_one, tabC_read h]
theorem tbG_ids {ps : List Int} {A i n N : Nat} : ∀ id ∈ AV.idsL (tabC (tbG ps A i) n), id < N := tabC_ids fun j _ id hid => by
  unfold tbG at hid; split at hid <;> simp [AV.ids] at hid
theorem tbH_ids {ps : List Int} {A i n r N : Nat} (h : r < N) : ∀ id ∈ AV.idsL (tabC (tbH ps A i r) n), id < N := tabC_ids fun j _ id hid => by
  unfold tbH tbG at hid
  split at hid
  · simp [AV.ids] at hid; omega
  · split at hid <;> simp [AV.ids] at hid
theorem tbG_le {h : Nat → Option AObj} {σ : Nat → Option Nat} {ps : List Int} {A i n : Nat} : AV.leL h σ (tabC (tbG ps A i) n) (tabC (tbG ps A i) n) := tabC_le fun j _ => by
  unfold tbG; split
  · trivial
  · exact rfl
theorem tbH_le {h : Nat → Option AObj} {σ : Nat → Option Nat} {ps : List Int} {A i n r r' : Nat} (hr : σ r' = some r) : AV.leL h σ (tabC (tbH ps A i r) n) (tabC (tbH ps A i r') n) := tabC_le fun j _ => by
  unfold tbH; split
  · exact hr
  · unfold tbG; split
    · trivial
    · exact rfl
theorem tbS_le {h : Nat → Option AObj} {σ : Nat → Option Nat} {ps : List Int} {A n r : Nat} (hr : h r = some (.row 3 1 ((rowR (needN []) A).map eInt))) (hn : ps.length = n) : AV.leL h σ (tabC (fun j => if j = n then .row r else .nil) (n + 1)) (tabC (tbG ps A n) (n + 1)) := tabC_le fun j hj => by
  by_cases hjn : j = n
  · subst hjn; subst hn; simp only [if_true, tbG, Nat.lt_irrefl, if_false, List.drop_length]; exact ⟨_, _, hr⟩
  · rw [if_neg hjn, tbG, if_pos (by omega)]; trivial
theorem tbF_le {h : Nat → Option AObj} {σ : Nat → Option Nat} {ps : List Int} {A i n r : Nat} (hr : h r = some (.row 3 1 ((rowR (needN (ps.drop i)) A).map eInt))) : AV.leL h σ (tabC (tbH ps A i r) n) (tabC (tbG ps A i) n) := tabC_le fun j hj => by
  unfold tbH tbG
  by_cases hji : j = i
  · subst hji; simp only [if_true, Nat.lt_irrefl, if_false]; exact ⟨_, _, hr⟩
  · rw [if_neg hji]
    by_cases h1 : j < i
    · rw [if_pos (by omega), if_pos h1]; trivial
    · rw [if_neg (by omega), if_neg h1]; exact rfl
theorem row0 (A : Nat) : (List.replicate (A + 1) (eInt (-1))).set 0 (eInt 0) = (rowR (needN []) A).map eInt := by
  rw [show List.replicate (A + 1) (eInt (-1)) = (rowR (fun _ => -1) A).map eInt by
    apply List.ext_getElem?
    intro i
    simp only [rowR, List.getElem?_replicate, List.getElem?_map, List.getElem?_range]
    by_cases h : i < A + 1 <;> simp [h]]
  rw [← List.map_set, rowR_set]
  congr 1
def peH (l : Led) (cs : List AV) : List (Nat × AObj) := [(0, .cells (cLed l)), (1, .cells cs)]
def peS1 (l : Led) (c : Int) (ps : List Int) (A i : Nat) : St := { t := asg [(1, aI c), (2, aI A), (3, .ptr 0 0), (9, aInts ps), (10, .csl 1 (ps.length + 1)), (11, aI ((i : Int) - 1))], h := hasg (peH l (tabC (tbG ps A i) (ps.length + 1))), n := 2 }
def peS2 (l : Led) (c : Int) (ps : List Int) (A p i n : Nat) : St := { t := asg [(1, aI c), (2, aI A), (3, .ptr 0 0), (9, aInts ps), (10, .csl 1 (ps.length + 1)), (11, aI i), (12, aI n)], h := hasg (peH l (tabC (tbH ps A i 2) (ps.length + 1)) ++ [(2, .row 3 1 ((rowR (mixF p (needN (ps.drop (i + 1))) n) A).map eInt))]), n := 3 }
def peS3 (l : Led) (c : Int) (ps : List Int) (A i : Nat) : St := { t := asg [(1, aI c), (2, aI (pcA ps A i)), (3, .ptr 0 0), (9, aInts ps), (10, .csl 1 (ps.length + 1)), (14, .row 2), (118, aInts ps), (119, aI ps.length), (120, aI i)], h := hasg (peH l (tabC (tbG ps A 0) (ps.length + 1)) ++ [(2, .row 3 1 ((pcL ps A i).map eInt))]), n := 3 }
def peS4 (l : Led) (c : Int) (ps : List Int) (A i m : Nat) : St := { t := asg [(1, aI c), (2, aI (pcA ps A i)), (3, .ptr 0 0), (9, aInts ps), (10, .csl 1 (ps.length + 1)), (14, .row 2), (15, aI i), (16, aI (ps.getD i 0)), (17, aI m), (118, aInts ps), (119, aI ps.length), (120, aI i)], h := hasg (peH l (tabC (tbG ps A 0) (ps.length + 1)) ++ [(2, .row 3 1 ((pcL ps A i).map eInt))]), n := 3 }
set_option maxRecDepth 100000 in
set_option maxHeartbeats 4000000 in
theorem pieces_fn (l : Led) (c n : Int) (hl : Fit l) : FnV Try.prog 28 [aLed l, aI c, aI n] (aPieces l c n) := by
  have env : Env (fun _ => True) Try.prog tyB (tab [(86, valE true c86), (87, fnE p87), (88, fnE p88)]) := mkEnv ⟨d86, e87, e88, trivial⟩
  refine Fn.of (A := fun _ => True) (n0 := 0) (D := noD) (Fn0 Try.func28 rfl (fun vs w => by kernel_rfl) (by kernel_rfl)) (by simp) (by simp [AV.ids, AV.idsL, aI, aLed, cLed]) (fun i o h => by cases h) (fun _ _ _ _ => trivial) noD_ok ?_
  have q0 : ∀ p ∈ ([] : List (List Int)), p.length ≤ maxLen := fun p hp => by simp at hp
  have q1 : (0 : Nat) ≤ maxLen := Nat.zero_le _
  by_cases h0 : moneyE l c n [] = 0
  · rw [show aPieces l c n = _ from if_neg (by rw [h0]; simp)]
    obtain ⟨hV, ⟨g1, g2⟩, _, hn0, hn1⟩ := money_ok h0
    obtain ⟨A, rfl⟩ := Int.eq_ofNat_of_zero_le hn0
    rw [Int.toNat_natCast]
    generalize hP : l.coins.getD c.toNat [] = ps at *
    have hps : PsOk ps := hP ▸ coin_ok (hV.cs _ g2)
    have hl1 := hps.l
    have w1 : IntKind.wrap .i64 ((ps.length : Int) + 1) = ((ps.length + 1 : Nat) : Int) := by rw [wrap64 (by omega) (by omega)]; rfl
    have w2 : IntKind.wrap .i64 ((A : Int) + 1) = ((A + 1 : Nat) : Int) := by rw [wrap64 (by omega) (by omega)]; rfl
    have w3 : List.replicate (ps.length + 1) AV.nil = tabC (fun _ => .nil) (ps.length + 1) := tabC_nil _
    have w4 := tabC_st (g := fun _ => .nil) (n := ps.length + 1) (k := ps.length) (v := .row 3) (by omega)
    have w5 := tabC_rd (g := fun j => if j = ps.length then .row 3 else .nil) (n := ps.length + 1) (k := ps.length) (by omega)
    rw [if_pos rfl] at w5
    have w6 : (List.replicate (A + 1) [.v (.int .i64 (-1))]).set 0 [.v (.int .i64 0)] = (rowR (needN []) A).map eInt := row0 A
    have w8 : (List.replicate (A + 1) [.v (.int .i64 (-1))]).getD 0 [] = [DV.v (.int .i64 (-1))] := by simp [List.getD_eq_getElem?_getD]
    have w7 : IntKind.wrap .i64 ((ps.length : Int) - 1) = (ps.length : Int) - 1 := wrap64 (by omega) (by omega)
    have big : (100000 : Nat) ≤ maxLen := by decide
    have b1 : ((24 : Nat) : Int) * ((ps.length + 1 : Nat) : Int) ≤ 140737488355328 := by omega
    have b2 : ((ps.length + 1 : Nat) : Int) ≤ maxLen := by have : (20 : Nat) ≤ maxLen := tmax
                                                           omega
    repeat' (first | refine sym_seq ?_ | refine sym_block ?_ | refine sym_skip ?_ | refine sym_label ?_ | refine sym_exit ?_ | refine sym_ret ?_ | refine thenK_n ?_ | refine thenK_x ?_ | refine thenK_r ?_ | refine blockK_n ?_ | refine blockK_r ?_ | refine blockK_hit ?_ | refine blockK_miss (by decide) ?_ | refine sym_scope ?_ | refine scopeK_n ?_ | refine scopeK_x ?_ | refine scopeK_r ?_ | (refine sym_reg env fun Q hQ => ?_; simp only [vks, Nat.reduceEqDiff, Nat.reduceAdd, Nat.reduceMul, Nat.reduceSub, Nat.reduceLeDiff, reduceCtorEq, ↓reduceIte, ↓reduceDIte, Int.reduceToNat, Int.reduceLE, Int.reduceLT, Int.reduceEq, Int.reduceNeg, ty3, ti3, ty22, ti22, ty28, ti28, ty30, ti30, ty38, ti38, aI, aB, aLed, cLed, aInts, peH, peS1, peS2, peS3, peS4, c86, p87, p88, isL_e, ldOf_e, eInt, gInt, rInt, rInts, mInt, mInts, eInts, gInts, setI, List.map_nil, List.length_nil, tabC_len, h0, hP, w1, w2, w3, w4, w5, w6, w7, w8]; (try simp only [ite_and]); (repeat' (first | with_reducible assumption | refine And.intro ?_ ?_ | intro hp)); all_goals (first | (refine hQ _ ?_; clear hQ; clear Q) | omega | assumption | (with_reducible rfl) | (refine drawB_of ?_; kernel_rfl) | skip)) | (refine sym_cd (by simp only [vks, Nat.reduceEqDiff, Nat.reduceAdd, Nat.reduceMul, Nat.reduceSub, Nat.reduceLeDiff, reduceCtorEq, ↓reduceIte, ↓reduceDIte, Int.reduceToNat, Int.reduceLE, Int.reduceLT, Int.reduceEq, Int.reduceNeg, ty3, ti3, ty22, ti22, ty28, ti28, ty30, ti30, ty38, ti38, aI, aB, aLed, cLed, aInts, peH, peS1, peS2, peS3, peS4, c86, p87, p88, isL_e, ldOf_e, eInt, gInt, rInt, rInts, mInt, mInts, eInts, gInts, setI, List.map_nil, List.length_nil, tabC_len, h0, hP, w1, w2, w3, w4, w5, w6, w7, w8]; rfl) (fun h => ?_) (fun h => ?_) <;> (try simp only [decide_eq_true_eq, decide_eq_false_iff_not, Bool.not_eq_true', Bool.not_eq_false', Bool.and_eq_true, Bool.or_eq_false_iff, Bool.and_eq_false_iff, Bool.or_eq_true, not_true_eq_false, not_false_eq_true, reduceCtorEq] at h)))
    · exact ⟨_, _, rfl⟩
    · rw [List.length_replicate]; omega
    · rw [List.length_replicate]; omega
    have hge : ∀ q ∈ ps, 1 ≤ q := fun q hq => (hps.b q hq).1
    have b3 : ∀ k : Nat, k < ps.length → ps.getD k 0 = (((ps.getD k 0).toNat : Nat) : Int) ∧ 1 ≤ (ps.getD k 0).toNat ∧ (ps.getD k 0).toNat ≤ 50 := fun k hk => by
      have := hps.b _ (gMem (d := 0) hk); omega
    have nd : ∀ k a : Nat, -1 ≤ needN (ps.drop k) a ∧ needN (ps.drop k) a ≤ a := fun k a => needN_le (fun q hq => hge q (List.mem_of_mem_drop hq)) a
    refine sym_loop (fun i : { i : Nat // i ≤ ps.length } => peS1 l c ps A i.1) (fun i => i.1) ⟨ps.length, Nat.le_refl _⟩ ?_ fun ⟨i, hi⟩ => ?_
    · (refine Le.ok some [3] ⟨?_, ?_, ?_, ?_, ?_, ?_, ?_, ?_, ?_, ?_, ?_⟩; all_goals (try simp only [leT, leH, leO, ADf.leL, imgs, idsT, idsH, List.filterMap_cons, List.filterMap_nil, List.flatMap_nil, Nat.lt_irrefl, Nat.not_lt_zero, vks, Nat.reduceEqDiff, Nat.reduceAdd, Nat.reduceMul, Nat.reduceSub, Nat.reduceLeDiff, reduceCtorEq, ↓reduceIte, ↓reduceDIte, Int.reduceToNat, Int.reduceLE, Int.reduceLT, Int.reduceEq, Int.reduceNeg, ty3, ti3, ty22, ti22, ty28, ti28, ty30, ti30, ty38, ti38, aI, aB, aLed, cLed, aInts, peH, peS1, peS2, peS3, peS4, c86, p87, p88, isL_e, ldOf_e, eInt, gInt, rInt, rInts, mInt, mInts, eInts, gInts, setI, List.map_nil, List.length_nil, tabC_len]))
      all_goals first | rfl | (simp [upd]; done) | exact tbG_ids | exact tbS_le rfl rfl
    · repeat' (first | refine sym_seq ?_ | refine sym_block ?_ | refine sym_skip ?_ | refine sym_label ?_ | refine sym_exit ?_ | refine sym_ret ?_ | refine thenK_n ?_ | refine thenK_x ?_ | refine thenK_r ?_ | refine blockK_n ?_ | refine blockK_r ?_ | refine blockK_hit ?_ | refine blockK_miss (by decide) ?_ | refine sym_scope ?_ | refine scopeK_n ?_ | refine scopeK_x ?_ | refine scopeK_r ?_)
      (refine sym_reg env fun Q hQ => ?_; simp only [vks, Nat.reduceEqDiff, Nat.reduceAdd, Nat.reduceMul, Nat.reduceSub, Nat.reduceLeDiff, reduceCtorEq, ↓reduceIte, ↓reduceDIte, Int.reduceToNat, Int.reduceLE, Int.reduceLT, Int.reduceEq, Int.reduceNeg, ty3, ti3, ty22, ti22, ty28, ti28, ty30, ti30, ty38, ti38, aI, aB, aLed, cLed, aInts, peH, peS1, peS2, peS3, peS4, c86, p87, p88, isL_e, ldOf_e, eInt, gInt, rInt, rInts, mInt, mInts, eInts, gInts, setI, List.map_nil, List.length_nil, tabC_len]; (try simp only [ite_and]); (repeat' (first | with_reducible assumption | refine And.intro ?_ ?_ | intro hp)); all_goals (first | (refine hQ _ ?_; clear hQ; clear Q) | omega | assumption | (with_reducible rfl) | (refine drawB_of ?_; kernel_rfl) | skip))
      repeat' (first | refine sym_seq ?_ | refine sym_block ?_ | refine sym_skip ?_ | refine sym_label ?_ | refine sym_exit ?_ | refine sym_ret ?_ | refine thenK_n ?_ | refine thenK_x ?_ | refine thenK_r ?_ | refine blockK_n ?_ | refine blockK_r ?_ | refine blockK_hit ?_ | refine blockK_miss (by decide) ?_ | refine sym_scope ?_ | refine scopeK_n ?_ | refine scopeK_x ?_ | refine scopeK_r ?_)
      (refine sym_cd (by simp only [vks, Nat.reduceEqDiff, Nat.reduceAdd, Nat.reduceMul, Nat.reduceSub, Nat.reduceLeDiff, reduceCtorEq, ↓reduceIte, ↓reduceDIte, Int.reduceToNat, Int.reduceLE, Int.reduceLT, Int.reduceEq, Int.reduceNeg, ty3, ti3, ty22, ti22, ty28, ti28, ty30, ti30, ty38, ti38, aI, aB, aLed, cLed, aInts, peH, peS1, peS2, peS3, peS4, c86, p87, p88, isL_e, ldOf_e, eInt, gInt, rInt, rInts, mInt, mInts, eInts, gInts, setI, List.map_nil, List.length_nil, tabC_len]; rfl) (fun h => ?_) (fun h => ?_) <;> (try simp only [decide_eq_true_eq, decide_eq_false_iff_not, Bool.not_eq_true', Bool.not_eq_false', Bool.and_eq_true, Bool.or_eq_false_iff, Bool.and_eq_false_iff, Bool.or_eq_true, not_true_eq_false, not_false_eq_true, reduceCtorEq] at h))
      · obtain ⟨m, rfl⟩ : ∃ m, i = m + 1 := ⟨i - 1, by omega⟩
        have e1 : ((m + 1 : Nat) : Int) - 1 = (m : Int) := by omega
        have e2 : IntKind.wrap .i64 ((m : Int) + 1) = ((m + 1 : Nat) : Int) := by rw [wrap64 (by omega) (by omega)]; rfl
        have v1 : List.take 1 (List.drop ((m + 1) * 1) (tabC (tbG ps A (m + 1)) (ps.length + 1))) = [.sl ((rowR (needN (ps.drop (m + 1))) A).map eInt)] := by rw [tabC_rd (by omega), tbG, if_neg (by omega)]
        have v2 : List.take (m * 1) (tabC (tbG ps A (m + 1)) (ps.length + 1)) ++ [.row 2] ++ List.drop (m * 1 + 1) (tabC (tbG ps A (m + 1)) (ps.length + 1)) = tabC (tbH ps A m 2) (ps.length + 1) := tabC_st (by omega)
        obtain ⟨p1, p2, p3⟩ := b3 m (by omega)
        obtain ⟨p, hp⟩ : ∃ p : Nat, ps.getD m 0 = (p : Int) := ⟨_, p1⟩
        rw [hp, Int.toNat_natCast] at p2 p3
        have r1 := rowR_len (needN (ps.drop (m + 1))) A
        have m2 : (A + 1) * 8 ≤ 140737488355328 ∧ A + 1 ≤ maxLen := by omega
        have lt1 : m < ps.length := by omega
        have fl := nd (m + 1)
        have nm : ∀ a, needN (ps.drop m) a = gN p (needN (ps.drop (m + 1))) a := fun a => by rw [need_drop lt1, hp, Int.toNat_natCast]
        repeat' (first | refine sym_seq ?_ | refine sym_block ?_ | refine sym_skip ?_ | refine sym_label ?_ | refine sym_exit ?_ | refine sym_ret ?_ | refine thenK_n ?_ | refine thenK_x ?_ | refine thenK_r ?_ | refine blockK_n ?_ | refine blockK_r ?_ | refine blockK_hit ?_ | refine blockK_miss (by decide) ?_ | refine sym_scope ?_ | refine scopeK_n ?_ | refine scopeK_x ?_ | refine scopeK_r ?_ | (refine sym_reg env fun Q hQ => ?_; simp only [vks, Nat.reduceEqDiff, Nat.reduceAdd, Nat.reduceMul, Nat.reduceSub, Nat.reduceLeDiff, reduceCtorEq, ↓reduceIte, ↓reduceDIte, Int.reduceToNat, Int.reduceLE, Int.reduceLT, Int.reduceEq, Int.reduceNeg, ty3, ti3, ty22, ti22, ty28, ti28, ty30, ti30, ty38, ti38, aI, aB, aLed, cLed, aInts, peH, peS1, peS2, peS3, peS4, c86, p87, p88, isL_e, ldOf_e, eInt, gInt, rInt, rInts, mInt, mInts, eInts, gInts, setI, List.map_nil, List.length_nil, tabC_len, e1, e2, v1, v2, hp]; (try simp only [ite_and]); (repeat' (first | with_reducible assumption | refine And.intro ?_ ?_ | intro hp)); all_goals (first | (refine hQ _ ?_; clear hQ; clear Q) | omega | assumption | (with_reducible rfl) | (refine drawB_of ?_; kernel_rfl) | skip)) | (refine sym_cd (by simp only [vks, Nat.reduceEqDiff, Nat.reduceAdd, Nat.reduceMul, Nat.reduceSub, Nat.reduceLeDiff, reduceCtorEq, ↓reduceIte, ↓reduceDIte, Int.reduceToNat, Int.reduceLE, Int.reduceLT, Int.reduceEq, Int.reduceNeg, ty3, ti3, ty22, ti22, ty28, ti28, ty30, ti30, ty38, ti38, aI, aB, aLed, cLed, aInts, peH, peS1, peS2, peS3, peS4, c86, p87, p88, isL_e, ldOf_e, eInt, gInt, rInt, rInts, mInt, mInts, eInts, gInts, setI, List.map_nil, List.length_nil, tabC_len, e1, e2, v1, v2, hp]; rfl) (fun h => ?_) (fun h => ?_) <;> (try simp only [decide_eq_true_eq, decide_eq_false_iff_not, Bool.not_eq_true', Bool.not_eq_false', Bool.and_eq_true, Bool.or_eq_false_iff, Bool.and_eq_false_iff, Bool.or_eq_true, not_true_eq_false, not_false_eq_true, reduceCtorEq] at h)))
        generalize hf : needN (ps.drop (m + 1)) = f at *
        refine sym_loop (fun n : { n : Nat // p ≤ n } => peS2 l c ps A p m n.1) (fun n => A + 1 - n.1) ⟨p, Nat.le_refl _⟩ ?_ fun ⟨n, hn⟩ => ?_
        · (refine Le.ok some [] ⟨?_, ?_, ?_, ?_, ?_, ?_, ?_, ?_, ?_, ?_, ?_⟩; all_goals (try simp only [leT, leH, leO, ADf.leL, imgs, idsT, idsH, List.filterMap_cons, List.filterMap_nil, List.flatMap_nil, Nat.lt_irrefl, Nat.not_lt_zero, vks, Nat.reduceEqDiff, Nat.reduceAdd, Nat.reduceMul, Nat.reduceSub, Nat.reduceLeDiff, reduceCtorEq, ↓reduceIte, ↓reduceDIte, Int.reduceToNat, Int.reduceLE, Int.reduceLT, Int.reduceEq, Int.reduceNeg, ty3, ti3, ty22, ti22, ty28, ti28, ty30, ti30, ty38, ti38, aI, aB, aLed, cLed, aInts, peH, peS1, peS2, peS3, peS4, c86, p87, p88, isL_e, ldOf_e, eInt, gInt, rInt, rInts, mInt, mInts, eInts, gInts, setI, List.map_nil, List.length_nil, tabC_len]))
          all_goals first | rfl | (simp [upd]; done) | exact ⟨tbH_le rfl, by rw [hf, mix_start]⟩ | exact ⟨by decide, tbH_ids (by decide)⟩ | skip
        · unfold peS2
          rw [hf]
          repeat' (first | refine sym_seq ?_ | refine sym_block ?_ | refine sym_skip ?_ | refine sym_label ?_ | refine sym_exit ?_ | refine sym_ret ?_ | refine thenK_n ?_ | refine thenK_x ?_ | refine thenK_r ?_ | refine blockK_n ?_ | refine blockK_r ?_ | refine blockK_hit ?_ | refine blockK_miss (by decide) ?_ | refine sym_scope ?_ | refine scopeK_n ?_ | refine scopeK_x ?_ | refine scopeK_r ?_)
          (refine sym_reg env fun Q hQ => ?_; simp only [vks, Nat.reduceEqDiff, Nat.reduceAdd, Nat.reduceMul, Nat.reduceSub, Nat.reduceLeDiff, reduceCtorEq, ↓reduceIte, ↓reduceDIte, Int.reduceToNat, Int.reduceLE, Int.reduceLT, Int.reduceEq, Int.reduceNeg, ty3, ti3, ty22, ti22, ty28, ti28, ty30, ti30, ty38, ti38, aI, aB, aLed, cLed, aInts, peH, peS1, peS2, peS3, peS4, c86, p87, p88, isL_e, ldOf_e, eInt, gInt, rInt, rInts, mInt, mInts, eInts, gInts, setI, List.map_nil, List.length_nil, tabC_len]; (try simp only [ite_and]); (repeat' (first | with_reducible assumption | refine And.intro ?_ ?_ | intro hp)); all_goals (first | (refine hQ _ ?_; clear hQ; clear Q) | omega | assumption | (with_reducible rfl) | (refine drawB_of ?_; kernel_rfl) | skip))
          repeat' (first | refine sym_seq ?_ | refine sym_block ?_ | refine sym_skip ?_ | refine sym_label ?_ | refine sym_exit ?_ | refine sym_ret ?_ | refine thenK_n ?_ | refine thenK_x ?_ | refine thenK_r ?_ | refine blockK_n ?_ | refine blockK_r ?_ | refine blockK_hit ?_ | refine blockK_miss (by decide) ?_ | refine sym_scope ?_ | refine scopeK_n ?_ | refine scopeK_x ?_ | refine scopeK_r ?_)
          (refine sym_cd (by simp only [vks, Nat.reduceEqDiff, Nat.reduceAdd, Nat.reduceMul, Nat.reduceSub, Nat.reduceLeDiff, reduceCtorEq, ↓reduceIte, ↓reduceDIte, Int.reduceToNat, Int.reduceLE, Int.reduceLT, Int.reduceEq, Int.reduceNeg, ty3, ti3, ty22, ti22, ty28, ti28, ty30, ti30, ty38, ti38, aI, aB, aLed, cLed, aInts, peH, peS1, peS2, peS3, peS4, c86, p87, p88, isL_e, ldOf_e, eInt, gInt, rInt, rInts, mInt, mInts, eInts, gInts, setI, List.map_nil, List.length_nil, tabC_len]; rfl) (fun h => ?_) (fun h => ?_) <;> (try simp only [decide_eq_true_eq, decide_eq_false_iff_not, Bool.not_eq_true', Bool.not_eq_false', Bool.and_eq_true, Bool.or_eq_false_iff, Bool.and_eq_false_iff, Bool.or_eq_true, not_true_eq_false, not_false_eq_true, reduceCtorEq] at h))
          · have hna : n ≤ A := by omega
            have hgl := gN_ge1 p2 (fun a => (fl a).1)
            have hgu := gN_le p2 (fun a => (fl a).2)
            have u1 : IntKind.wrap .i64 ((n : Int) - (p : Int)) = ((n - p : Nat) : Int) := by rw [wrap64 (by omega) (by omega)]; omega
            have v3 : List.take 1 (List.drop (m * 1) (tabC (tbH ps A m 2) (ps.length + 1))) = [.row 2] := by rw [tabC_rd (by omega), tbH, if_pos rfl]
            have r2 := rowR_len (mixF p f n) A
            have k1 : ((rowR (mixF p f n) A).map eInt).getD (n - p) [] = [.v (.int .i64 (gN p f (n - p)))] := by rw [gI0 (by omega), rowR_get (by omega), mixF, if_pos (by omega)]; rfl
            have k2 : ((rowR (mixF p f n) A).map eInt).getD n [] = [.v (.int .i64 (f n))] := by rw [gI0 (by omega), rowR_get (by omega), mixF, if_neg (by omega)]; rfl
            have g1 := hgl (n - p)
            have g2 := hgu (n - p)
            have u2 : IntKind.wrap .i64 (gN p f (n - p) + 1) = gN p f (n - p) + 1 := wrap64 (by omega) (by omega)
            have u3 : IntKind.wrap .i64 ((n : Int) + 1) = ((n + 1 : Nat) : Int) := by rw [wrap64 (by omega) (by omega)]; rfl
            have gn := gN_ge (f := f) p2 hn
            unfold updN at gn
            have stay : ¬ (0 ≤ gN p f (n - p) ∧ (f n < 0 ∨ gN p f (n - p) + 1 < f n)) → rowR (mixF p f n) A = rowR (mixF p f (n + 1)) A := fun h => mix_same (by rw [gn, if_neg h])
            have move : (0 ≤ gN p f (n - p) ∧ (f n < 0 ∨ gN p f (n - p) + 1 < f n)) → (rowR (mixF p f n) A).set n (gN p f (n - p) + 1) = rowR (mixF p f (n + 1)) A := fun h => mix_set (by rw [gn, if_pos h])
            by_cases c1 : 0 ≤ gN p f (n - p)
            · by_cases c2 : f n < 0
              · have mv := move ⟨c1, .inl c2⟩
                repeat' (first | refine sym_seq ?_ | refine sym_block ?_ | refine sym_skip ?_ | refine sym_label ?_ | refine sym_exit ?_ | refine sym_ret ?_ | refine thenK_n ?_ | refine thenK_x ?_ | refine thenK_r ?_ | refine blockK_n ?_ | refine blockK_r ?_ | refine blockK_hit ?_ | refine blockK_miss (by decide) ?_ | refine sym_scope ?_ | refine scopeK_n ?_ | refine scopeK_x ?_ | refine scopeK_r ?_ | (refine sym_reg env fun Q hQ => ?_; simp only [vks, Nat.reduceEqDiff, Nat.reduceAdd, Nat.reduceMul, Nat.reduceSub, Nat.reduceLeDiff, reduceCtorEq, ↓reduceIte, ↓reduceDIte, Int.reduceToNat, Int.reduceLE, Int.reduceLT, Int.reduceEq, Int.reduceNeg, ty3, ti3, ty22, ti22, ty28, ti28, ty30, ti30, ty38, ti38, aI, aB, aLed, cLed, aInts, peH, peS1, peS2, peS3, peS4, c86, p87, p88, isL_e, ldOf_e, eInt, gInt, rInt, rInts, mInt, mInts, eInts, gInts, setI, List.map_nil, List.length_nil, tabC_len, u1, u2, u3, v3, k1, k2, r2, c1, c2, hp, mv]; (try simp only [ite_and]); (repeat' (first | with_reducible assumption | refine And.intro ?_ ?_ | intro hp)); all_goals (first | (refine hQ _ ?_; clear hQ; clear Q) | omega | assumption | (with_reducible rfl) | (refine drawB_of ?_; kernel_rfl) | skip)) | (refine sym_cd (by simp only [vks, Nat.reduceEqDiff, Nat.reduceAdd, Nat.reduceMul, Nat.reduceSub, Nat.reduceLeDiff, reduceCtorEq, ↓reduceIte, ↓reduceDIte, Int.reduceToNat, Int.reduceLE, Int.reduceLT, Int.reduceEq, Int.reduceNeg, ty3, ti3, ty22, ti22, ty28, ti28, ty30, ti30, ty38, ti38, aI, aB, aLed, cLed, aInts, peH, peS1, peS2, peS3, peS4, c86, p87, p88, isL_e, ldOf_e, eInt, gInt, rInt, rInts, mInt, mInts, eInts, gInts, setI, List.map_nil, List.length_nil, tabC_len, u1, u2, u3, v3, k1, k2, r2, c1, c2, hp, mv]; rfl) (fun h => ?_) (fun h => ?_) <;> (try simp only [decide_eq_true_eq, decide_eq_false_iff_not, Bool.not_eq_true', Bool.not_eq_false', Bool.and_eq_true, Bool.or_eq_false_iff, Bool.and_eq_false_iff, Bool.or_eq_true, not_true_eq_false, not_false_eq_true, reduceCtorEq] at h)))
                refine ⟨⟨n + 1, by omega⟩, by show A + 1 - (n + 1) < A + 1 - n; omega, ?_⟩
                (refine Le.ok some [] ⟨?_, ?_, ?_, ?_, ?_, ?_, ?_, ?_, ?_, ?_, ?_⟩; all_goals (try simp only [leT, leH, leO, ADf.leL, imgs, idsT, idsH, List.filterMap_cons, List.filterMap_nil, List.flatMap_nil, Nat.lt_irrefl, Nat.not_lt_zero, vks, Nat.reduceEqDiff, Nat.reduceAdd, Nat.reduceMul, Nat.reduceSub, Nat.reduceLeDiff, reduceCtorEq, ↓reduceIte, ↓reduceDIte, Int.reduceToNat, Int.reduceLE, Int.reduceLT, Int.reduceEq, Int.reduceNeg, ty3, ti3, ty22, ti22, ty28, ti28, ty30, ti30, ty38, ti38, aI, aB, aLed, cLed, aInts, peH, peS1, peS2, peS3, peS4, c86, p87, p88, isL_e, ldOf_e, eInt, gInt, rInt, rInts, mInt, mInts, eInts, gInts, setI, List.map_nil, List.length_nil, tabC_len]))
                all_goals first | rfl | (simp [upd]; done) | exact tbH_le rfl | exact ⟨tbH_le rfl, by rw [hf]⟩ | exact ⟨by decide, tbH_ids (by decide)⟩
              · by_cases c3 : gN p f (n - p) + 1 < f n
                · have mv := move ⟨c1, .inr c3⟩
                  repeat' (first | refine sym_seq ?_ | refine sym_block ?_ | refine sym_skip ?_ | refine sym_label ?_ | refine sym_exit ?_ | refine sym_ret ?_ | refine thenK_n ?_ | refine thenK_x ?_ | refine thenK_r ?_ | refine blockK_n ?_ | refine blockK_r ?_ | refine blockK_hit ?_ | refine blockK_miss (by decide) ?_ | refine sym_scope ?_ | refine scopeK_n ?_ | refine scopeK_x ?_ | refine scopeK_r ?_ | (refine sym_reg env fun Q hQ => ?_; simp only [vks, Nat.reduceEqDiff, Nat.reduceAdd, Nat.reduceMul, Nat.reduceSub, Nat.reduceLeDiff, reduceCtorEq, ↓reduceIte, ↓reduceDIte, Int.reduceToNat, Int.reduceLE, Int.reduceLT, Int.reduceEq, Int.reduceNeg, ty3, ti3, ty22, ti22, ty28, ti28, ty30, ti30, ty38, ti38, aI, aB, aLed, cLed, aInts, peH, peS1, peS2, peS3, peS4, c86, p87, p88, isL_e, ldOf_e, eInt, gInt, rInt, rInts, mInt, mInts, eInts, gInts, setI, List.map_nil, List.length_nil, tabC_len, u1, u2, u3, v3, k1, k2, r2, c1, c2, c3, hp, mv]; (try simp only [ite_and]); (repeat' (first | with_reducible assumption | refine And.intro ?_ ?_ | intro hp)); all_goals (first | (refine hQ _ ?_; clear hQ; clear Q) | omega | assumption | (with_reducible rfl) | (refine drawB_of ?_; kernel_rfl) | skip)) | (refine sym_cd (by simp only [vks, Nat.reduceEqDiff, Nat.reduceAdd, Nat.reduceMul, Nat.reduceSub, Nat.reduceLeDiff, reduceCtorEq, ↓reduceIte, ↓reduceDIte, Int.reduceToNat, Int.reduceLE, Int.reduceLT, Int.reduceEq, Int.reduceNeg, ty3, ti3, ty22, ti22, ty28, ti28, ty30, ti30, ty38, ti38, aI, aB, aLed, cLed, aInts, peH, peS1, peS2, peS3, peS4, c86, p87, p88, isL_e, ldOf_e, eInt, gInt, rInt, rInts, mInt, mInts, eInts, gInts, setI, List.map_nil, List.length_nil, tabC_len, u1, u2, u3, v3, k1, k2, r2, c1, c2, c3, hp, mv]; rfl) (fun h => ?_) (fun h => ?_) <;> (try simp only [decide_eq_true_eq, decide_eq_false_iff_not, Bool.not_eq_true', Bool.not_eq_false', Bool.and_eq_true, Bool.or_eq_false_iff, Bool.and_eq_false_iff, Bool.or_eq_true, not_true_eq_false, not_false_eq_true, reduceCtorEq] at h)))
                  refine ⟨⟨n + 1, by omega⟩, by show A + 1 - (n + 1) < A + 1 - n; omega, ?_⟩
                  (refine Le.ok some [] ⟨?_, ?_, ?_, ?_, ?_, ?_, ?_, ?_, ?_, ?_, ?_⟩; all_goals (try simp only [leT, leH, leO, ADf.leL, imgs, idsT, idsH, List.filterMap_cons, List.filterMap_nil, List.flatMap_nil, Nat.lt_irrefl, Nat.not_lt_zero, vks, Nat.reduceEqDiff, Nat.reduceAdd, Nat.reduceMul, Nat.reduceSub, Nat.reduceLeDiff, reduceCtorEq, ↓reduceIte, ↓reduceDIte, Int.reduceToNat, Int.reduceLE, Int.reduceLT, Int.reduceEq, Int.reduceNeg, ty3, ti3, ty22, ti22, ty28, ti28, ty30, ti30, ty38, ti38, aI, aB, aLed, cLed, aInts, peH, peS1, peS2, peS3, peS4, c86, p87, p88, isL_e, ldOf_e, eInt, gInt, rInt, rInts, mInt, mInts, eInts, gInts, setI, List.map_nil, List.length_nil, tabC_len]))
                  all_goals first | rfl | (simp [upd]; done) | exact tbH_le rfl | exact ⟨tbH_le rfl, by rw [hf]⟩ | exact ⟨by decide, tbH_ids (by decide)⟩
                · have st := stay fun h => by omega
                  repeat' (first | refine sym_seq ?_ | refine sym_block ?_ | refine sym_skip ?_ | refine sym_label ?_ | refine sym_exit ?_ | refine sym_ret ?_ | refine thenK_n ?_ | refine thenK_x ?_ | refine thenK_r ?_ | refine blockK_n ?_ | refine blockK_r ?_ | refine blockK_hit ?_ | refine blockK_miss (by decide) ?_ | refine sym_scope ?_ | refine scopeK_n ?_ | refine scopeK_x ?_ | refine scopeK_r ?_ | (refine sym_reg env fun Q hQ => ?_; simp only [vks, Nat.reduceEqDiff, Nat.reduceAdd, Nat.reduceMul, Nat.reduceSub, Nat.reduceLeDiff, reduceCtorEq, ↓reduceIte, ↓reduceDIte, Int.reduceToNat, Int.reduceLE, Int.reduceLT, Int.reduceEq, Int.reduceNeg, ty3, ti3, ty22, ti22, ty28, ti28, ty30, ti30, ty38, ti38, aI, aB, aLed, cLed, aInts, peH, peS1, peS2, peS3, peS4, c86, p87, p88, isL_e, ldOf_e, eInt, gInt, rInt, rInts, mInt, mInts, eInts, gInts, setI, List.map_nil, List.length_nil, tabC_len, u1, u2, u3, v3, k1, k2, r2, c1, c2, c3, hp]; (try simp only [ite_and]); (repeat' (first | with_reducible assumption | refine And.intro ?_ ?_ | intro hp)); all_goals (first | (refine hQ _ ?_; clear hQ; clear Q) | omega | assumption | (with_reducible rfl) | (refine drawB_of ?_; kernel_rfl) | skip)) | (refine sym_cd (by simp only [vks, Nat.reduceEqDiff, Nat.reduceAdd, Nat.reduceMul, Nat.reduceSub, Nat.reduceLeDiff, reduceCtorEq, ↓reduceIte, ↓reduceDIte, Int.reduceToNat, Int.reduceLE, Int.reduceLT, Int.reduceEq, Int.reduceNeg, ty3, ti3, ty22, ti22, ty28, ti28, ty30, ti30, ty38, ti38, aI, aB, aLed, cLed, aInts, peH, peS1, peS2, peS3, peS4, c86, p87, p88, isL_e, ldOf_e, eInt, gInt, rInt, rInts, mInt, mInts, eInts, gInts, setI, List.map_nil, List.length_nil, tabC_len, u1, u2, u3, v3, k1, k2, r2, c1, c2, c3, hp]; rfl) (fun h => ?_) (fun h => ?_) <;> (try simp only [decide_eq_true_eq, decide_eq_false_iff_not, Bool.not_eq_true', Bool.not_eq_false', Bool.and_eq_true, Bool.or_eq_false_iff, Bool.and_eq_false_iff, Bool.or_eq_true, not_true_eq_false, not_false_eq_true, reduceCtorEq] at h)))
                  refine ⟨⟨n + 1, by omega⟩, by show A + 1 - (n + 1) < A + 1 - n; omega, ?_⟩
                  (refine Le.ok some [] ⟨?_, ?_, ?_, ?_, ?_, ?_, ?_, ?_, ?_, ?_, ?_⟩; all_goals (try simp only [leT, leH, leO, ADf.leL, imgs, idsT, idsH, List.filterMap_cons, List.filterMap_nil, List.flatMap_nil, Nat.lt_irrefl, Nat.not_lt_zero, vks, Nat.reduceEqDiff, Nat.reduceAdd, Nat.reduceMul, Nat.reduceSub, Nat.reduceLeDiff, reduceCtorEq, ↓reduceIte, ↓reduceDIte, Int.reduceToNat, Int.reduceLE, Int.reduceLT, Int.reduceEq, Int.reduceNeg, ty3, ti3, ty22, ti22, ty28, ti28, ty30, ti30, ty38, ti38, aI, aB, aLed, cLed, aInts, peH, peS1, peS2, peS3, peS4, c86, p87, p88, isL_e, ldOf_e, eInt, gInt, rInt, rInts, mInt, mInts, eInts, gInts, setI, List.map_nil, List.length_nil, tabC_len]))
                  all_goals first | rfl | (simp [upd]; done) | exact ⟨tbH_le rfl, by rw [st]⟩ | exact ⟨tbH_le rfl, by rw [hf, st]⟩ | exact ⟨by decide, tbH_ids (by decide)⟩
            · have st := stay fun h => by omega
              repeat' (first | refine sym_seq ?_ | refine sym_block ?_ | refine sym_skip ?_ | refine sym_label ?_ | refine sym_exit ?_ | refine sym_ret ?_ | refine thenK_n ?_ | refine thenK_x ?_ | refine thenK_r ?_ | refine blockK_n ?_ | refine blockK_r ?_ | refine blockK_hit ?_ | refine blockK_miss (by decide) ?_ | refine sym_scope ?_ | refine scopeK_n ?_ | refine scopeK_x ?_ | refine scopeK_r ?_ | (refine sym_reg env fun Q hQ => ?_; simp only [vks, Nat.reduceEqDiff, Nat.reduceAdd, Nat.reduceMul, Nat.reduceSub, Nat.reduceLeDiff, reduceCtorEq, ↓reduceIte, ↓reduceDIte, Int.reduceToNat, Int.reduceLE, Int.reduceLT, Int.reduceEq, Int.reduceNeg, ty3, ti3, ty22, ti22, ty28, ti28, ty30, ti30, ty38, ti38, aI, aB, aLed, cLed, aInts, peH, peS1, peS2, peS3, peS4, c86, p87, p88, isL_e, ldOf_e, eInt, gInt, rInt, rInts, mInt, mInts, eInts, gInts, setI, List.map_nil, List.length_nil, tabC_len, u1, u2, u3, v3, k1, k2, r2, c1, hp]; (try simp only [ite_and]); (repeat' (first | with_reducible assumption | refine And.intro ?_ ?_ | intro hp)); all_goals (first | (refine hQ _ ?_; clear hQ; clear Q) | omega | assumption | (with_reducible rfl) | (refine drawB_of ?_; kernel_rfl) | skip)) | (refine sym_cd (by simp only [vks, Nat.reduceEqDiff, Nat.reduceAdd, Nat.reduceMul, Nat.reduceSub, Nat.reduceLeDiff, reduceCtorEq, ↓reduceIte, ↓reduceDIte, Int.reduceToNat, Int.reduceLE, Int.reduceLT, Int.reduceEq, Int.reduceNeg, ty3, ti3, ty22, ti22, ty28, ti28, ty30, ti30, ty38, ti38, aI, aB, aLed, cLed, aInts, peH, peS1, peS2, peS3, peS4, c86, p87, p88, isL_e, ldOf_e, eInt, gInt, rInt, rInts, mInt, mInts, eInts, gInts, setI, List.map_nil, List.length_nil, tabC_len, u1, u2, u3, v3, k1, k2, r2, c1, hp]; rfl) (fun h => ?_) (fun h => ?_) <;> (try simp only [decide_eq_true_eq, decide_eq_false_iff_not, Bool.not_eq_true', Bool.not_eq_false', Bool.and_eq_true, Bool.or_eq_false_iff, Bool.and_eq_false_iff, Bool.or_eq_true, not_true_eq_false, not_false_eq_true, reduceCtorEq] at h)))
              refine ⟨⟨n + 1, by omega⟩, by show A + 1 - (n + 1) < A + 1 - n; omega, ?_⟩
              (refine Le.ok some [] ⟨?_, ?_, ?_, ?_, ?_, ?_, ?_, ?_, ?_, ?_, ?_⟩; all_goals (try simp only [leT, leH, leO, ADf.leL, imgs, idsT, idsH, List.filterMap_cons, List.filterMap_nil, List.flatMap_nil, Nat.lt_irrefl, Nat.not_lt_zero, vks, Nat.reduceEqDiff, Nat.reduceAdd, Nat.reduceMul, Nat.reduceSub, Nat.reduceLeDiff, reduceCtorEq, ↓reduceIte, ↓reduceDIte, Int.reduceToNat, Int.reduceLE, Int.reduceLT, Int.reduceEq, Int.reduceNeg, ty3, ti3, ty22, ti22, ty28, ti28, ty30, ti30, ty38, ti38, aI, aB, aLed, cLed, aInts, peH, peS1, peS2, peS3, peS4, c86, p87, p88, isL_e, ldOf_e, eInt, gInt, rInt, rInts, mInt, mInts, eInts, gInts, setI, List.map_nil, List.length_nil, tabC_len]))
              all_goals first | rfl | (simp [upd]; done) | exact ⟨tbH_le rfl, by rw [st]⟩ | exact ⟨tbH_le rfl, by rw [hf, st]⟩ | exact ⟨by decide, tbH_ids (by decide)⟩
          · have he : rowR (mixF p f n) A = rowR (needN (ps.drop m)) A := by rw [mix_end (by omega)]; exact rowR_congr fun a _ => (nm a).symm
            have u1 : IntKind.wrap .i64 ((m : Int) - 1) = (m : Int) - 1 := wrap64 (by omega) (by omega)
            repeat' (first | refine sym_seq ?_ | refine sym_block ?_ | refine sym_skip ?_ | refine sym_label ?_ | refine sym_exit ?_ | refine sym_ret ?_ | refine thenK_n ?_ | refine thenK_x ?_ | refine thenK_r ?_ | refine blockK_n ?_ | refine blockK_r ?_ | refine blockK_hit ?_ | refine blockK_miss (by decide) ?_ | refine sym_scope ?_ | refine scopeK_n ?_ | refine scopeK_x ?_ | refine scopeK_r ?_ | (refine sym_reg env fun Q hQ => ?_; simp only [vks, Nat.reduceEqDiff, Nat.reduceAdd, Nat.reduceMul, Nat.reduceSub, Nat.reduceLeDiff, reduceCtorEq, ↓reduceIte, ↓reduceDIte, Int.reduceToNat, Int.reduceLE, Int.reduceLT, Int.reduceEq, Int.reduceNeg, ty3, ti3, ty22, ti22, ty28, ti28, ty30, ti30, ty38, ti38, aI, aB, aLed, cLed, aInts, peH, peS1, peS2, peS3, peS4, c86, p87, p88, isL_e, ldOf_e, eInt, gInt, rInt, rInts, mInt, mInts, eInts, gInts, setI, List.map_nil, List.length_nil, tabC_len, he, u1]; (try simp only [ite_and]); (repeat' (first | with_reducible assumption | refine And.intro ?_ ?_ | intro hp)); all_goals (first | (refine hQ _ ?_; clear hQ; clear Q) | omega | assumption | (with_reducible rfl) | (refine drawB_of ?_; kernel_rfl) | skip)) | (refine sym_cd (by simp only [vks, Nat.reduceEqDiff, Nat.reduceAdd, Nat.reduceMul, Nat.reduceSub, Nat.reduceLeDiff, reduceCtorEq, ↓reduceIte, ↓reduceDIte, Int.reduceToNat, Int.reduceLE, Int.reduceLT, Int.reduceEq, Int.reduceNeg, ty3, ti3, ty22, ti22, ty28, ti28, ty30, ti30, ty38, ti38, aI, aB, aLed, cLed, aInts, peH, peS1, peS2, peS3, peS4, c86, p87, p88, isL_e, ldOf_e, eInt, gInt, rInt, rInts, mInt, mInts, eInts, gInts, setI, List.map_nil, List.length_nil, tabC_len, he, u1]; rfl) (fun h => ?_) (fun h => ?_) <;> (try simp only [decide_eq_true_eq, decide_eq_false_iff_not, Bool.not_eq_true', Bool.not_eq_false', Bool.and_eq_true, Bool.or_eq_false_iff, Bool.and_eq_false_iff, Bool.or_eq_true, not_true_eq_false, not_false_eq_true, reduceCtorEq] at h)))
            refine ⟨⟨m, by omega⟩, by show m < m + 1; omega, ?_⟩
            (refine Le.ok some [2] ⟨?_, ?_, ?_, ?_, ?_, ?_, ?_, ?_, ?_, ?_, ?_⟩; all_goals (try simp only [leT, leH, leO, ADf.leL, imgs, idsT, idsH, List.filterMap_cons, List.filterMap_nil, List.flatMap_nil, Nat.lt_irrefl, Nat.not_lt_zero, vks, Nat.reduceEqDiff, Nat.reduceAdd, Nat.reduceMul, Nat.reduceSub, Nat.reduceLeDiff, reduceCtorEq, ↓reduceIte, ↓reduceDIte, Int.reduceToNat, Int.reduceLE, Int.reduceLT, Int.reduceEq, Int.reduceNeg, ty3, ti3, ty22, ti22, ty28, ti28, ty30, ti30, ty38, ti38, aI, aB, aLed, cLed, aInts, peH, peS1, peS2, peS3, peS4, c86, p87, p88, isL_e, ldOf_e, eInt, gInt, rInt, rInts, mInt, mInts, eInts, gInts, setI, List.map_nil, List.length_nil, tabC_len]))
            all_goals first | rfl | (simp [upd]; done) | exact tbF_le rfl | exact tbG_ids | exact ⟨by decide, tbG_ids⟩
      · have : i = 0 := by omega
        subst this
        have h00 : 0 ≤ needN ps A := need_one hge hps.one hps.l.1 A
        repeat' (first | refine sym_seq ?_ | refine sym_block ?_ | refine sym_skip ?_ | refine sym_label ?_ | refine sym_exit ?_ | refine sym_ret ?_ | refine thenK_n ?_ | refine thenK_x ?_ | refine thenK_r ?_ | refine blockK_n ?_ | refine blockK_r ?_ | refine blockK_hit ?_ | refine blockK_miss (by decide) ?_ | refine sym_scope ?_ | refine scopeK_n ?_ | refine scopeK_x ?_ | refine scopeK_r ?_ | (refine sym_reg env fun Q hQ => ?_; simp only [vks, Nat.reduceEqDiff, Nat.reduceAdd, Nat.reduceMul, Nat.reduceSub, Nat.reduceLeDiff, reduceCtorEq, ↓reduceIte, ↓reduceDIte, Int.reduceToNat, Int.reduceLE, Int.reduceLT, Int.reduceEq, Int.reduceNeg, ty3, ti3, ty22, ti22, ty28, ti28, ty30, ti30, ty38, ti38, aI, aB, aLed, cLed, aInts, peH, peS1, peS2, peS3, peS4, c86, p87, p88, isL_e, ldOf_e, eInt, gInt, rInt, rInts, mInt, mInts, eInts, gInts, setI, List.map_nil, List.length_nil, tabC_len]; (try simp only [ite_and]); (repeat' (first | with_reducible assumption | refine And.intro ?_ ?_ | intro hp)); all_goals (first | (refine hQ _ ?_; clear hQ; clear Q) | omega | assumption | (with_reducible rfl) | (refine drawB_of ?_; kernel_rfl) | skip)) | (refine sym_cd (by simp only [vks, Nat.reduceEqDiff, Nat.reduceAdd, Nat.reduceMul, Nat.reduceSub, Nat.reduceLeDiff, reduceCtorEq, ↓reduceIte, ↓reduceDIte, Int.reduceToNat, Int.reduceLE, Int.reduceLT, Int.reduceEq, Int.reduceNeg, ty3, ti3, ty22, ti22, ty28, ti28, ty30, ti30, ty38, ti38, aI, aB, aLed, cLed, aInts, peH, peS1, peS2, peS3, peS4, c86, p87, p88, isL_e, ldOf_e, eInt, gInt, rInt, rInts, mInt, mInts, eInts, gInts, setI, List.map_nil, List.length_nil, tabC_len]; rfl) (fun h => ?_) (fun h => ?_) <;> (try simp only [decide_eq_true_eq, decide_eq_false_iff_not, Bool.not_eq_true', Bool.not_eq_false', Bool.and_eq_true, Bool.or_eq_false_iff, Bool.and_eq_false_iff, Bool.or_eq_true, not_true_eq_false, not_false_eq_true, reduceCtorEq] at h)))
        refine sym_loop (fun i : { i : Nat // i ≤ ps.length } => peS3 l c ps A i.1) (fun i => ps.length - i.1) ⟨0, Nat.zero_le _⟩ ?_ fun ⟨i, hi⟩ => ?_
        · (refine Le.ok (fun j => if j = 2 then none else some j) [] ⟨?_, ?_, ?_, ?_, ?_, ?_, ?_, ?_, ?_, ?_, ?_⟩; all_goals (try simp only [leT, leH, leO, ADf.leL, imgs, idsT, idsH, List.filterMap_cons, List.filterMap_nil, List.flatMap_nil, Nat.lt_irrefl, Nat.not_lt_zero, vks, Nat.reduceEqDiff, Nat.reduceAdd, Nat.reduceMul, Nat.reduceSub, Nat.reduceLeDiff, reduceCtorEq, ↓reduceIte, ↓reduceDIte, Int.reduceToNat, Int.reduceLE, Int.reduceLT, Int.reduceEq, Int.reduceNeg, ty3, ti3, ty22, ti22, ty28, ti28, ty30, ti30, ty38, ti38, aI, aB, aLed, cLed, aInts, peH, peS1, peS2, peS3, peS4, c86, p87, p88, isL_e, ldOf_e, eInt, gInt, rInt, rInts, mInt, mInts, eInts, gInts, setI, List.map_nil, List.length_nil, tabC_len]))
          all_goals first | rfl | (simp [upd]; done) | exact tbG_le | exact ⟨tbG_le, rfl⟩ | exact tbG_ids | exact ⟨by decide, tbG_ids⟩ | exact ⟨rfl, rfl⟩
        · repeat' (first | refine sym_seq ?_ | refine sym_block ?_ | refine sym_skip ?_ | refine sym_label ?_ | refine sym_exit ?_ | refine sym_ret ?_ | refine thenK_n ?_ | refine thenK_x ?_ | refine thenK_r ?_ | refine blockK_n ?_ | refine blockK_r ?_ | refine blockK_hit ?_ | refine blockK_miss (by decide) ?_ | refine sym_scope ?_ | refine scopeK_n ?_ | refine scopeK_x ?_ | refine scopeK_r ?_)
          (refine sym_reg env fun Q hQ => ?_; simp only [vks, Nat.reduceEqDiff, Nat.reduceAdd, Nat.reduceMul, Nat.reduceSub, Nat.reduceLeDiff, reduceCtorEq, ↓reduceIte, ↓reduceDIte, Int.reduceToNat, Int.reduceLE, Int.reduceLT, Int.reduceEq, Int.reduceNeg, ty3, ti3, ty22, ti22, ty28, ti28, ty30, ti30, ty38, ti38, aI, aB, aLed, cLed, aInts, peH, peS1, peS2, peS3, peS4, c86, p87, p88, isL_e, ldOf_e, eInt, gInt, rInt, rInts, mInt, mInts, eInts, gInts, setI, List.map_nil, List.length_nil, tabC_len]; (try simp only [ite_and]); (repeat' (first | with_reducible assumption | refine And.intro ?_ ?_ | intro hp)); all_goals (first | (refine hQ _ ?_; clear hQ; clear Q) | omega | assumption | (with_reducible rfl) | (refine drawB_of ?_; kernel_rfl) | skip))
          repeat' (first | refine sym_seq ?_ | refine sym_block ?_ | refine sym_skip ?_ | refine sym_label ?_ | refine sym_exit ?_ | refine sym_ret ?_ | refine thenK_n ?_ | refine thenK_x ?_ | refine thenK_r ?_ | refine blockK_n ?_ | refine blockK_r ?_ | refine blockK_hit ?_ | refine blockK_miss (by decide) ?_ | refine sym_scope ?_ | refine scopeK_n ?_ | refine scopeK_x ?_ | refine scopeK_r ?_)
          (refine sym_cd (by simp only [vks, Nat.reduceEqDiff, Nat.reduceAdd, Nat.reduceMul, Nat.reduceSub, Nat.reduceLeDiff, reduceCtorEq, ↓reduceIte, ↓reduceDIte, Int.reduceToNat, Int.reduceLE, Int.reduceLT, Int.reduceEq, Int.reduceNeg, ty3, ti3, ty22, ti22, ty28, ti28, ty30, ti30, ty38, ti38, aI, aB, aLed, cLed, aInts, peH, peS1, peS2, peS3, peS4, c86, p87, p88, isL_e, ldOf_e, eInt, gInt, rInt, rInts, mInt, mInts, eInts, gInts, setI, List.map_nil, List.length_nil, tabC_len]; rfl) (fun h => ?_) (fun h => ?_) <;> (try simp only [decide_eq_true_eq, decide_eq_false_iff_not, Bool.not_eq_true', Bool.not_eq_false', Bool.and_eq_true, Bool.or_eq_false_iff, Bool.and_eq_false_iff, Bool.or_eq_true, not_true_eq_false, not_false_eq_true, reduceCtorEq] at h))
          · have lt1 : i < ps.length := by omega
            obtain ⟨p1, p2, p3⟩ := b3 i lt1
            obtain ⟨p, hp⟩ : ∃ p : Nat, ps.getD i 0 = (p : Int) := ⟨_, p1⟩
            rw [hp, Int.toNat_natCast] at p2 p3
            generalize hf : needN (ps.drop (i + 1)) = f at *
            obtain ⟨q1, q2⟩ := pc_inv hge h00 i hi
            have nm := need_drop lt1 (pcA ps A i)
            rw [hp, Int.toNat_natCast, hf] at nm
            have fl := nd (i + 1)
            rw [hf] at fl
            have hM : pcM ps A i = countN p f (pcA ps A i) := by unfold pcM; rw [hp, Int.toNat_natCast, hf]
            have hN : pcA ps A (i + 1) = pcA ps A i - countN p f (pcA ps A i) * p := by rw [pcA, hp, Int.toNat_natCast, hf]
            have hS := pcL_succ ps A i
            rw [hM] at hS
            have hLn := pcL_len ps A i
            generalize hq : pcA ps A i = a at *
            rw [nm] at q1
            have hsp := countN_spec p2 q1
            unfold hitN at hsp
            simp only [Bool.and_eq_true, decide_eq_true_eq] at hsp
            repeat' (first | refine sym_seq ?_ | refine sym_block ?_ | refine sym_skip ?_ | refine sym_label ?_ | refine sym_exit ?_ | refine sym_ret ?_ | refine thenK_n ?_ | refine thenK_x ?_ | refine thenK_r ?_ | refine blockK_n ?_ | refine blockK_r ?_ | refine blockK_hit ?_ | refine blockK_miss (by decide) ?_ | refine sym_scope ?_ | refine scopeK_n ?_ | refine scopeK_x ?_ | refine scopeK_r ?_ | (refine sym_reg env fun Q hQ => ?_; simp only [vks, Nat.reduceEqDiff, Nat.reduceAdd, Nat.reduceMul, Nat.reduceSub, Nat.reduceLeDiff, reduceCtorEq, ↓reduceIte, ↓reduceDIte, Int.reduceToNat, Int.reduceLE, Int.reduceLT, Int.reduceEq, Int.reduceNeg, ty3, ti3, ty22, ti22, ty28, ti28, ty30, ti30, ty38, ti38, aI, aB, aLed, cLed, aInts, peH, peS1, peS2, peS3, peS4, c86, p87, p88, isL_e, ldOf_e, eInt, gInt, rInt, rInts, mInt, mInts, eInts, gInts, setI, List.map_nil, List.length_nil, tabC_len]; (try simp only [ite_and]); (repeat' (first | with_reducible assumption | refine And.intro ?_ ?_ | intro hp)); all_goals (first | (refine hQ _ ?_; clear hQ; clear Q) | omega | assumption | (with_reducible rfl) | (refine drawB_of ?_; kernel_rfl) | skip)) | (refine sym_cd (by simp only [vks, Nat.reduceEqDiff, Nat.reduceAdd, Nat.reduceMul, Nat.reduceSub, Nat.reduceLeDiff, reduceCtorEq, ↓reduceIte, ↓reduceDIte, Int.reduceToNat, Int.reduceLE, Int.reduceLT, Int.reduceEq, Int.reduceNeg, ty3, ti3, ty22, ti22, ty28, ti28, ty30, ti30, ty38, ti38, aI, aB, aLed, cLed, aInts, peH, peS1, peS2, peS3, peS4, c86, p87, p88, isL_e, ldOf_e, eInt, gInt, rInt, rInts, mInt, mInts, eInts, gInts, setI, List.map_nil, List.length_nil, tabC_len]; rfl) (fun h => ?_) (fun h => ?_) <;> (try simp only [decide_eq_true_eq, decide_eq_false_iff_not, Bool.not_eq_true', Bool.not_eq_false', Bool.and_eq_true, Bool.or_eq_false_iff, Bool.and_eq_false_iff, Bool.or_eq_true, not_true_eq_false, not_false_eq_true, reduceCtorEq] at h)))
            refine sym_loop (fun m : { m : Nat // m ≤ countN p f a ∧ ∀ j, j < m → hitN p f a j = false } => peS4 l c ps A i m.1) (fun m => countN p f a - m.1) ⟨0, Nat.zero_le _, fun j h => absurd h (Nat.not_lt_zero _)⟩ ?_ fun ⟨m, hm, hno⟩ => ?_
            · (refine Le.ok some [] ⟨?_, ?_, ?_, ?_, ?_, ?_, ?_, ?_, ?_, ?_, ?_⟩; all_goals (try simp only [leT, leH, leO, ADf.leL, imgs, idsT, idsH, List.filterMap_cons, List.filterMap_nil, List.flatMap_nil, Nat.lt_irrefl, Nat.not_lt_zero, vks, Nat.reduceEqDiff, Nat.reduceAdd, Nat.reduceMul, Nat.reduceSub, Nat.reduceLeDiff, reduceCtorEq, ↓reduceIte, ↓reduceDIte, Int.reduceToNat, Int.reduceLE, Int.reduceLT, Int.reduceEq, Int.reduceNeg, ty3, ti3, ty22, ti22, ty28, ti28, ty30, ti30, ty38, ti38, aI, aB, aLed, cLed, aInts, peH, peS1, peS2, peS3, peS4, c86, p87, p88, isL_e, ldOf_e, eInt, gInt, rInt, rInts, mInt, mInts, eInts, gInts, setI, List.map_nil, List.length_nil, tabC_len]))
              all_goals first | rfl | (simp [upd, hq]; done) | exact tbG_le | exact ⟨tbG_le, rfl⟩ | exact tbG_ids | exact ⟨by decide, tbG_ids⟩ | exact ⟨rfl, rfl⟩
            · have hmp : m * p ≤ countN p f a * p := Nat.mul_le_mul_right p hm
              have hmm : m ≤ m * p := Nat.le_mul_of_pos_right m p2
              have u1 : IntKind.wrap .i64 ((m : Int) * (p : Int)) = ((m * p : Nat) : Int) := by rw [← Int.natCast_mul, wrap64 (by omega) (by omega)]
              have u2 : IntKind.wrap .i64 ((a : Int) - ((m * p : Nat) : Int)) = ((a - m * p : Nat) : Int) := by rw [wrap64 (by omega) (by omega)]; omega
              have u3 : IntKind.wrap .i64 ((i : Int) + 1) = ((i + 1 : Nat) : Int) := by rw [wrap64 (by omega) (by omega)]; rfl
              have v1 : List.take 1 (List.drop ((i + 1) * 1) (tabC (tbG ps A 0) (ps.length + 1))) = [.sl ((rowR f A).map eInt)] := by rw [tabC_rd (by omega), tbG, if_neg (by omega), hf]
              have v2 : List.take 1 (List.drop (i * 1) (tabC (tbG ps A 0) (ps.length + 1))) = [.sl ((rowR (needN (ps.drop i)) A).map eInt)] := by rw [tabC_rd (by omega), tbG, if_neg (by omega)]
              have r1 := rowR_len f A
              have r2 := rowR_len (needN (ps.drop i)) A
              have k1 : (rowR f A).getD (a - m * p) 0 = f (a - m * p) := rowR_get (by omega)
              have k2 : (rowR (needN (ps.drop i)) A).getD a 0 = gN p f a := by rw [rowR_get (by omega), nm]
              have g1 := fl (a - m * p)
              have u4 : IntKind.wrap .i64 (f (a - m * p) + (m : Int)) = f (a - m * p) + (m : Int) := wrap64 (by omega) (by omega)
              have u5 : IntKind.wrap .i64 ((m : Int) + 1) = ((m + 1 : Nat) : Int) := by rw [wrap64 (by omega) (by omega)]; rfl
              have cap : (i + 1) * 8 ≤ 140737488355328 ∧ i + 1 ≤ maxLen := by omega
              have la : a ≤ A := q2
              unfold peS4
              rw [hq, hp]
              cases hh : hitN p f a m
              · have hlt : m < countN p f a := by
                  rcases Nat.lt_or_eq_of_le hm with h | h
                  · exact h
                  · have := countN_spec p2 q1; rw [← h, hh] at this; cases this
                have hn : ¬ (0 ≤ f (a - m * p) ∧ f (a - m * p) + (m : Int) = gN p f a) := fun h => by
                  have : hitN p f a m = true := by unfold hitN; simp only [Bool.and_eq_true, decide_eq_true_eq]; exact ⟨⟨by omega, h.1⟩, h.2⟩
                  rw [hh] at this; cases this
                by_cases c1 : 0 ≤ f (a - m * p)
                · have c2 : ¬ f (a - m * p) + (m : Int) = gN p f a := fun h => hn ⟨c1, h⟩
                  repeat' (first | refine sym_seq ?_ | refine sym_block ?_ | refine sym_skip ?_ | refine sym_label ?_ | refine sym_exit ?_ | refine sym_ret ?_ | refine thenK_n ?_ | refine thenK_x ?_ | refine thenK_r ?_ | refine blockK_n ?_ | refine blockK_r ?_ | refine blockK_hit ?_ | refine blockK_miss (by decide) ?_ | refine sym_scope ?_ | refine scopeK_n ?_ | refine scopeK_x ?_ | refine scopeK_r ?_ | (refine sym_reg env fun Q hQ => ?_; simp only [vks, Nat.reduceEqDiff, Nat.reduceAdd, Nat.reduceMul, Nat.reduceSub, Nat.reduceLeDiff, reduceCtorEq, ↓reduceIte, ↓reduceDIte, Int.reduceToNat, Int.reduceLE, Int.reduceLT, Int.reduceEq, Int.reduceNeg, ty3, ti3, ty22, ti22, ty28, ti28, ty30, ti30, ty38, ti38, aI, aB, aLed, cLed, aInts, peH, peS1, peS2, peS3, peS4, c86, p87, p88, isL_e, ldOf_e, eInt, gInt, rInt, rInts, mInt, mInts, eInts, gInts, setI, List.map_nil, List.length_nil, tabC_len, u1, u2, u3, u4, u5, v1, v2, k1, k2, r1, r2, c1, c2]; (try simp only [ite_and]); (repeat' (first | with_reducible assumption | refine And.intro ?_ ?_ | intro hp)); all_goals (first | (refine hQ _ ?_; clear hQ; clear Q) | omega | assumption | (with_reducible rfl) | (refine drawB_of ?_; kernel_rfl) | skip)) | (refine sym_cd (by simp only [vks, Nat.reduceEqDiff, Nat.reduceAdd, Nat.reduceMul, Nat.reduceSub, Nat.reduceLeDiff, reduceCtorEq, ↓reduceIte, ↓reduceDIte, Int.reduceToNat, Int.reduceLE, Int.reduceLT, Int.reduceEq, Int.reduceNeg, ty3, ti3, ty22, ti22, ty28, ti28, ty30, ti30, ty38, ti38, aI, aB, aLed, cLed, aInts, peH, peS1, peS2, peS3, peS4, c86, p87, p88, isL_e, ldOf_e, eInt, gInt, rInt, rInts, mInt, mInts, eInts, gInts, setI, List.map_nil, List.length_nil, tabC_len, u1, u2, u3, u4, u5, v1, v2, k1, k2, r1, r2, c1, c2]; rfl) (fun h => ?_) (fun h => ?_) <;> (try simp only [decide_eq_true_eq, decide_eq_false_iff_not, Bool.not_eq_true', Bool.not_eq_false', Bool.and_eq_true, Bool.or_eq_false_iff, Bool.and_eq_false_iff, Bool.or_eq_true, not_true_eq_false, not_false_eq_true, reduceCtorEq] at h)))
                  refine ⟨⟨m + 1, hlt, fun j hj => ?_⟩, by show countN p f a - (m + 1) < countN p f a - m; omega, ?_⟩
                  · rcases Nat.lt_or_eq_of_le (Nat.le_of_lt_succ hj) with h1 | h1
                    · exact hno j h1
                    · rw [h1]; exact hh
                  · (refine Le.ok some [] ⟨?_, ?_, ?_, ?_, ?_, ?_, ?_, ?_, ?_, ?_, ?_⟩; all_goals (try simp only [leT, leH, leO, ADf.leL, imgs, idsT, idsH, List.filterMap_cons, List.filterMap_nil, List.flatMap_nil, Nat.lt_irrefl, Nat.not_lt_zero, vks, Nat.reduceEqDiff, Nat.reduceAdd, Nat.reduceMul, Nat.reduceSub, Nat.reduceLeDiff, reduceCtorEq, ↓reduceIte, ↓reduceDIte, Int.reduceToNat, Int.reduceLE, Int.reduceLT, Int.reduceEq, Int.reduceNeg, ty3, ti3, ty22, ti22, ty28, ti28, ty30, ti30, ty38, ti38, aI, aB, aLed, cLed, aInts, peH, peS1, peS2, peS3, peS4, c86, p87, p88, isL_e, ldOf_e, eInt, gInt, rInt, rInts, mInt, mInts, eInts, gInts, setI, List.map_nil, List.length_nil, tabC_len]))
                    all_goals first | rfl | (simp [upd, hq]; done) | exact tbG_le | exact ⟨tbG_le, rfl⟩ | exact tbG_ids | exact ⟨by decide, tbG_ids⟩ | exact ⟨hq.symm ▸ rfl, hp.symm ▸ rfl⟩ | (simp [upd, hq, hp]; done)
                · repeat' (first | refine sym_seq ?_ | refine sym_block ?_ | refine sym_skip ?_ | refine sym_label ?_ | refine sym_exit ?_ | refine sym_ret ?_ | refine thenK_n ?_ | refine thenK_x ?_ | refine thenK_r ?_ | refine blockK_n ?_ | refine blockK_r ?_ | refine blockK_hit ?_ | refine blockK_miss (by decide) ?_ | refine sym_scope ?_ | refine scopeK_n ?_ | refine scopeK_x ?_ | refine scopeK_r ?_ | (refine sym_reg env fun Q hQ => ?_; simp only [vks, Nat.reduceEqDiff, Nat.reduceAdd, Nat.reduceMul, Nat.reduceSub, Nat.reduceLeDiff, reduceCtorEq, ↓reduceIte, ↓reduceDIte, Int.reduceToNat, Int.reduceLE, Int.reduceLT, Int.reduceEq, Int.reduceNeg, ty3, ti3, ty22, ti22, ty28, ti28, ty30, ti30, ty38, ti38, aI, aB, aLed, cLed, aInts, peH, peS1, peS2, peS3, peS4, c86, p87, p88, isL_e, ldOf_e, eInt, gInt, rInt, rInts, mInt, mInts, eInts, gInts, setI, List.map_nil, List.length_nil, tabC_len, u1, u2, u3, u4, u5, v1, v2, k1, k2, r1, r2, c1]; (try simp only [ite_and]); (repeat' (first | with_reducible assumption | refine And.intro ?_ ?_ | intro hp)); all_goals (first | (refine hQ _ ?_; clear hQ; clear Q) | omega | assumption | (with_reducible rfl) | (refine drawB_of ?_; kernel_rfl) | skip)) | (refine sym_cd (by simp only [vks, Nat.reduceEqDiff, Nat.reduceAdd, Nat.reduceMul, Nat.reduceSub, Nat.reduceLeDiff, reduceCtorEq, ↓reduceIte, ↓reduceDIte, Int.reduceToNat, Int.reduceLE, Int.reduceLT, Int.reduceEq, Int.reduceNeg, ty3, ti3, ty22, ti22, ty28, ti28, ty30, ti30, ty38, ti38, aI, aB, aLed, cLed, aInts, peH, peS1, peS2, peS3, peS4, c86, p87, p88, isL_e, ldOf_e, eInt, gInt, rInt, rInts, mInt, mInts, eInts, gInts, setI, List.map_nil, List.length_nil, tabC_len, u1, u2, u3, u4, u5, v1, v2, k1, k2, r1, r2, c1]; rfl) (fun h => ?_) (fun h => ?_) <;> (try simp only [decide_eq_true_eq, decide_eq_false_iff_not, Bool.not_eq_true', Bool.not_eq_false', Bool.and_eq_true, Bool.or_eq_false_iff, Bool.and_eq_false_iff, Bool.or_eq_true, not_true_eq_false, not_false_eq_true, reduceCtorEq] at h)))
                  refine ⟨⟨m + 1, hlt, fun j hj => ?_⟩, by show countN p f a - (m + 1) < countN p f a - m; omega, ?_⟩
                  · rcases Nat.lt_or_eq_of_le (Nat.le_of_lt_succ hj) with h1 | h1
                    · exact hno j h1
                    · rw [h1]; exact hh
                  · (refine Le.ok some [] ⟨?_, ?_, ?_, ?_, ?_, ?_, ?_, ?_, ?_, ?_, ?_⟩; all_goals (try simp only [leT, leH, leO, ADf.leL, imgs, idsT, idsH, List.filterMap_cons, List.filterMap_nil, List.flatMap_nil, Nat.lt_irrefl, Nat.not_lt_zero, vks, Nat.reduceEqDiff, Nat.reduceAdd, Nat.reduceMul, Nat.reduceSub, Nat.reduceLeDiff, reduceCtorEq, ↓reduceIte, ↓reduceDIte, Int.reduceToNat, Int.reduceLE, Int.reduceLT, Int.reduceEq, Int.reduceNeg, ty3, ti3, ty22, ti22, ty28, ti28, ty30, ti30, ty38, ti38, aI, aB, aLed, cLed, aInts, peH, peS1, peS2, peS3, peS4, c86, p87, p88, isL_e, ldOf_e, eInt, gInt, rInt, rInts, mInt, mInts, eInts, gInts, setI, List.map_nil, List.length_nil, tabC_len]))
                    all_goals first | rfl | (simp [upd, hq]; done) | exact tbG_le | exact ⟨tbG_le, rfl⟩ | exact tbG_ids | exact ⟨by decide, tbG_ids⟩ | exact ⟨hq.symm ▸ rfl, hp.symm ▸ rfl⟩ | (simp [upd, hq, hp]; done)
              · have hc := countN_hit p2 hh hno
                have hh' := hh
                unfold hitN at hh'
                simp only [Bool.and_eq_true, decide_eq_true_eq] at hh'
                have c1 := hh'.1.2
                have c2 := hh'.2
                have ap : (pcL ps A i).map eInt ++ [[.v (.int .i64 (m : Int))]] = (pcL ps A (i + 1)).map eInt := by rw [hS, hc, List.map_append]; rfl
                rw [hc] at hN
                have u6 : IntKind.wrap .i64 (gN p f a) = gN p f a := by rw [← c2]; exact u4
                repeat' (first | refine sym_seq ?_ | refine sym_block ?_ | refine sym_skip ?_ | refine sym_label ?_ | refine sym_exit ?_ | refine sym_ret ?_ | refine thenK_n ?_ | refine thenK_x ?_ | refine thenK_r ?_ | refine blockK_n ?_ | refine blockK_r ?_ | refine blockK_hit ?_ | refine blockK_miss (by decide) ?_ | refine sym_scope ?_ | refine scopeK_n ?_ | refine scopeK_x ?_ | refine scopeK_r ?_ | (refine sym_reg env fun Q hQ => ?_; simp only [vks, Nat.reduceEqDiff, Nat.reduceAdd, Nat.reduceMul, Nat.reduceSub, Nat.reduceLeDiff, reduceCtorEq, ↓reduceIte, ↓reduceDIte, Int.reduceToNat, Int.reduceLE, Int.reduceLT, Int.reduceEq, Int.reduceNeg, ty3, ti3, ty22, ti22, ty28, ti28, ty30, ti30, ty38, ti38, aI, aB, aLed, cLed, aInts, peH, peS1, peS2, peS3, peS4, c86, p87, p88, isL_e, ldOf_e, eInt, gInt, rInt, rInts, mInt, mInts, eInts, gInts, setI, List.map_nil, List.length_nil, tabC_len, u1, u2, u3, u4, u5, u6, v1, v2, k1, k2, r1, r2, c1, c2, ap, hLn]; (try simp only [ite_and]); (repeat' (first | with_reducible assumption | refine And.intro ?_ ?_ | intro hp)); all_goals (first | (refine hQ _ ?_; clear hQ; clear Q) | omega | assumption | (with_reducible rfl) | (refine drawB_of ?_; kernel_rfl) | skip)) | (refine sym_cd (by simp only [vks, Nat.reduceEqDiff, Nat.reduceAdd, Nat.reduceMul, Nat.reduceSub, Nat.reduceLeDiff, reduceCtorEq, ↓reduceIte, ↓reduceDIte, Int.reduceToNat, Int.reduceLE, Int.reduceLT, Int.reduceEq, Int.reduceNeg, ty3, ti3, ty22, ti22, ty28, ti28, ty30, ti30, ty38, ti38, aI, aB, aLed, cLed, aInts, peH, peS1, peS2, peS3, peS4, c86, p87, p88, isL_e, ldOf_e, eInt, gInt, rInt, rInts, mInt, mInts, eInts, gInts, setI, List.map_nil, List.length_nil, tabC_len, u1, u2, u3, u4, u5, u6, v1, v2, k1, k2, r1, r2, c1, c2, ap, hLn]; rfl) (fun h => ?_) (fun h => ?_) <;> (try simp only [decide_eq_true_eq, decide_eq_false_iff_not, Bool.not_eq_true', Bool.not_eq_false', Bool.and_eq_true, Bool.or_eq_false_iff, Bool.and_eq_false_iff, Bool.or_eq_true, not_true_eq_false, not_false_eq_true, reduceCtorEq] at h)))
                refine ⟨⟨i + 1, lt1⟩, by show ps.length - (i + 1) < ps.length - i; omega, ?_⟩
                (refine Le.ok (fun j => if j = 2 then some 4 else some j) [] ⟨?_, ?_, ?_, ?_, ?_, ?_, ?_, ?_, ?_, ?_, ?_⟩; all_goals (try simp only [leT, leH, leO, ADf.leL, imgs, idsT, idsH, List.filterMap_cons, List.filterMap_nil, List.flatMap_nil, Nat.lt_irrefl, Nat.not_lt_zero, vks, Nat.reduceEqDiff, Nat.reduceAdd, Nat.reduceMul, Nat.reduceSub, Nat.reduceLeDiff, reduceCtorEq, ↓reduceIte, ↓reduceDIte, Int.reduceToNat, Int.reduceLE, Int.reduceLT, Int.reduceEq, Int.reduceNeg, ty3, ti3, ty22, ti22, ty28, ti28, ty30, ti30, ty38, ti38, aI, aB, aLed, cLed, aInts, peH, peS1, peS2, peS3, peS4, c86, p87, p88, isL_e, ldOf_e, eInt, gInt, rInt, rInts, mInt, mInts, eInts, gInts, setI, List.map_nil, List.length_nil, tabC_len]))
                all_goals first | rfl | (simp [upd, hN]; done) | exact tbG_le | exact ⟨tbG_le, rfl⟩ | exact tbG_ids | exact ⟨by decide, tbG_ids⟩ | exact ⟨rfl, rfl⟩ | (simp [upd, hN, u3]; done)
          · have : i = ps.length := by omega
            subst this
            repeat' (first | refine sym_seq ?_ | refine sym_block ?_ | refine sym_skip ?_ | refine sym_label ?_ | refine sym_exit ?_ | refine sym_ret ?_ | refine thenK_n ?_ | refine thenK_x ?_ | refine thenK_r ?_ | refine blockK_n ?_ | refine blockK_r ?_ | refine blockK_hit ?_ | refine blockK_miss (by decide) ?_ | refine sym_scope ?_ | refine scopeK_n ?_ | refine scopeK_x ?_ | refine scopeK_r ?_ | (refine sym_reg env fun Q hQ => ?_; simp only [vks, Nat.reduceEqDiff, Nat.reduceAdd, Nat.reduceMul, Nat.reduceSub, Nat.reduceLeDiff, reduceCtorEq, ↓reduceIte, ↓reduceDIte, Int.reduceToNat, Int.reduceLE, Int.reduceLT, Int.reduceEq, Int.reduceNeg, ty3, ti3, ty22, ti22, ty28, ti28, ty30, ti30, ty38, ti38, aI, aB, aLed, cLed, aInts, peH, peS1, peS2, peS3, peS4, c86, p87, p88, isL_e, ldOf_e, eInt, gInt, rInt, rInts, mInt, mInts, eInts, gInts, setI, List.map_nil, List.length_nil, tabC_len]; (try simp only [ite_and]); (repeat' (first | with_reducible assumption | refine And.intro ?_ ?_ | intro hp)); all_goals (first | (refine hQ _ ?_; clear hQ; clear Q) | omega | assumption | (with_reducible rfl) | (refine drawB_of ?_; kernel_rfl) | skip)) | (refine sym_cd (by simp only [vks, Nat.reduceEqDiff, Nat.reduceAdd, Nat.reduceMul, Nat.reduceSub, Nat.reduceLeDiff, reduceCtorEq, ↓reduceIte, ↓reduceDIte, Int.reduceToNat, Int.reduceLE, Int.reduceLT, Int.reduceEq, Int.reduceNeg, ty3, ti3, ty22, ti22, ty28, ti28, ty30, ti30, ty38, ti38, aI, aB, aLed, cLed, aInts, peH, peS1, peS2, peS3, peS4, c86, p87, p88, isL_e, ldOf_e, eInt, gInt, rInt, rInts, mInt, mInts, eInts, gInts, setI, List.map_nil, List.length_nil, tabC_len]; rfl) (fun h => ?_) (fun h => ?_) <;> (try simp only [decide_eq_true_eq, decide_eq_false_iff_not, Bool.not_eq_true', Bool.not_eq_false', Bool.and_eq_true, Bool.or_eq_false_iff, Bool.and_eq_false_iff, Bool.or_eq_true, not_true_eq_false, not_false_eq_true, reduceCtorEq] at h)))
            (simp only [retK, leaveA, resL, tupA, rd, wCells_some, wRow_some, Try.results28, rowEx3, vks, Nat.reduceEqDiff, Nat.reduceAdd, Nat.reduceMul, Nat.reduceSub, Nat.reduceLeDiff, reduceCtorEq, ↓reduceIte, ↓reduceDIte, Int.reduceToNat, Int.reduceLE, Int.reduceLT, Int.reduceEq, Int.reduceNeg, ty3, ti3, ty22, ti22, ty28, ti28, ty30, ti30, ty38, ti38, aI, aB, aLed, cLed, aInts, peH, peS1, peS2, peS3, peS4, c86, p87, p88, isL_e, ldOf_e, eInt, gInt, rInt, rInts, mInt, mInts, eInts, gInts, setI, List.map_nil, List.length_nil, tabC_len]; refine Fin.val rfl ?_; (try simp only [AV.le, AV.leL]))
            all_goals first | exact ⟨⟨_, _, rfl⟩, trivial, trivial⟩ | (simp [piL, aInts]; done)
  · rw [show aPieces l c n = _ from if_pos h0]
    repeat' (first | refine sym_seq ?_ | refine sym_block ?_ | refine sym_skip ?_ | refine sym_label ?_ | refine sym_exit ?_ | refine sym_ret ?_ | refine thenK_n ?_ | refine thenK_x ?_ | refine thenK_r ?_ | refine blockK_n ?_ | refine blockK_r ?_ | refine blockK_hit ?_ | refine blockK_miss (by decide) ?_ | refine sym_scope ?_ | refine scopeK_n ?_ | refine scopeK_x ?_ | refine scopeK_r ?_ | (refine sym_reg env fun Q hQ => ?_; simp only [vks, Nat.reduceEqDiff, Nat.reduceAdd, Nat.reduceMul, Nat.reduceSub, Nat.reduceLeDiff, reduceCtorEq, ↓reduceIte, ↓reduceDIte, Int.reduceToNat, Int.reduceLE, Int.reduceLT, Int.reduceEq, Int.reduceNeg, ty3, ti3, ty22, ti22, ty28, ti28, ty30, ti30, ty38, ti38, aI, aB, aLed, cLed, aInts, peH, peS1, peS2, peS3, peS4, c86, p87, p88, isL_e, ldOf_e, eInt, gInt, rInt, rInts, mInt, mInts, eInts, gInts, setI, List.map_nil, List.length_nil, tabC_len, h0]; (try simp only [ite_and]); (repeat' (first | with_reducible assumption | refine And.intro ?_ ?_ | intro hp)); all_goals (first | (refine hQ _ ?_; clear hQ; clear Q) | omega | assumption | (with_reducible rfl) | (refine drawB_of ?_; kernel_rfl) | skip)) | (refine sym_cd (by simp only [vks, Nat.reduceEqDiff, Nat.reduceAdd, Nat.reduceMul, Nat.reduceSub, Nat.reduceLeDiff, reduceCtorEq, ↓reduceIte, ↓reduceDIte, Int.reduceToNat, Int.reduceLE, Int.reduceLT, Int.reduceEq, Int.reduceNeg, ty3, ti3, ty22, ti22, ty28, ti28, ty30, ti30, ty38, ti38, aI, aB, aLed, cLed, aInts, peH, peS1, peS2, peS3, peS4, c86, p87, p88, isL_e, ldOf_e, eInt, gInt, rInt, rInts, mInt, mInts, eInts, gInts, setI, List.map_nil, List.length_nil, tabC_len, h0]; rfl) (fun h => ?_) (fun h => ?_) <;> (try simp only [decide_eq_true_eq, decide_eq_false_iff_not, Bool.not_eq_true', Bool.not_eq_false', Bool.and_eq_true, Bool.or_eq_false_iff, Bool.and_eq_false_iff, Bool.or_eq_true, not_true_eq_false, not_false_eq_true, reduceCtorEq] at h)))
    (simp only [retK, leaveA, resL, tupA, rd, wCells_some, wRow_some, Try.results28, vks, Nat.reduceEqDiff, Nat.reduceAdd, Nat.reduceMul, Nat.reduceSub, Nat.reduceLeDiff, reduceCtorEq, ↓reduceIte, ↓reduceDIte, Int.reduceToNat, Int.reduceLE, Int.reduceLT, Int.reduceEq, Int.reduceNeg, ty3, ti3, ty22, ti22, ty28, ti28, ty30, ti30, ty38, ti38, aI, aB, aLed, cLed, aInts, peH, peS1, peS2, peS3, peS4, c86, p87, p88, isL_e, ldOf_e, eInt, gInt, rInt, rInts, mInt, mInts, eInts, gInts, setI, List.map_nil, List.length_nil, tabC_len]; refine Fin.val rfl ?_; (try simp only [AV.le, AV.leL]))
    all_goals simp
def c28 : List AV → Prop × AV
  | [.agg [.sl cs, .sl rs, .sl ss, .sl es], .v (.int .i64 c), .v (.int .i64 n)] => (isL cs rs ss es ∧ Fit (ldOf cs rs ss es), aPieces (ldOf cs rs ss es) c n)
  | _ => (False, .junk)
theorem d28 {A : Frm → Prop} : EntryOK A Try.prog 28 (valE false c28) := valE_ok fun vs hv h => by
  clear hv
  unfold c28 at h ⊢
  split at h
  · refine ⟨by unfold aPieces; split <;> simp [AV.plain, AV.plainL, aI, aInts], fun h => absurd h (by decide), ?_⟩
    rw [← aLed_of h.1]; exact pieces_fn _ _ _ h.2
  · exact h.elim
end Go.Sym.B
namespace Go.Sym.B
open Go Go.Sym Go.Proofs Go.Sym.C
theorem part_fn (a b : Int) : FnV Try.prog 40 [aI a, aI b] (aSh ⟨a, b⟩) := by
  have env : Env (fun _ => True) Try.prog tyB (tab []) := mkEnv trivial
  refine Fn.of (A := fun _ => True) (n0 := 0) (D := noD) (Fn0 Try.func40 rfl (fun vs w => by kernel_rfl) (by kernel_rfl)) (by simp) (by simp [AV.ids, aI]) (fun i o h => by cases h) (fun _ _ _ _ => trivial) noD_ok ?_
  repeat' (first | refine sym_seq ?_ | refine sym_block ?_ | refine sym_skip ?_ | refine sym_label ?_ | refine sym_exit ?_ | refine sym_ret ?_ | refine thenK_n ?_ | refine thenK_x ?_ | refine thenK_r ?_ | refine blockK_n ?_ | refine blockK_r ?_ | refine blockK_hit ?_ | refine blockK_miss (by decide) ?_ | (refine sym_reg env fun Q hQ => ?_; simp only [vks, Nat.reduceEqDiff, Nat.reduceAdd, Nat.reduceMul, Nat.reduceSub, Nat.reduceLeDiff, reduceCtorEq, ↓reduceIte, ↓reduceDIte, Int.reduceToNat, Int.reduceLE, Int.reduceLT, Int.reduceEq, Int.reduceNeg, ty59, ti59, aI, aB, aSh]; (try simp only [ite_and]); (repeat' (first | with_reducible assumption | refine And.intro ?_ ?_ | intro hp)); all_goals (first | (refine hQ _ ?_; clear hQ; clear Q) | omega | assumption | (with_reducible rfl) | (refine drawB_of ?_; kernel_rfl) | skip)) | (refine sym_cd (by simp only [vks, Nat.reduceEqDiff, Nat.reduceAdd, Nat.reduceMul, Nat.reduceSub, Nat.reduceLeDiff, reduceCtorEq, ↓reduceIte, ↓reduceDIte, Int.reduceToNat, Int.reduceLE, Int.reduceLT, Int.reduceEq, Int.reduceNeg, ty59, ti59, aI, aB, aSh]; rfl) (fun h => ?_) (fun h => ?_) <;> (try simp only [decide_eq_true_eq, decide_eq_false_iff_not, Bool.not_eq_true', Bool.not_eq_false', Bool.and_eq_true, Bool.or_eq_false_iff, Bool.and_eq_false_iff, Bool.or_eq_true, not_true_eq_false, not_false_eq_true, reduceCtorEq] at h)))
  (simp only [retK, leaveA, resL, tupA, rd, wCells_some, wRow_some, Try.results40, vks, Nat.reduceEqDiff, Nat.reduceAdd, Nat.reduceMul, Nat.reduceSub, Nat.reduceLeDiff, reduceCtorEq, ↓reduceIte, ↓reduceDIte, Int.reduceToNat, Int.reduceLE, Int.reduceLT, Int.reduceEq, Int.reduceNeg, ty59, ti59, aI, aB, aSh]; refine Fin.val rfl ?_; (try simp only [AV.le, AV.leL]))
  all_goals simp
def s40 : List AV → Prop × AV
  | [.v (.int .i64 a), .v (.int .i64 b)] => (True, .agg [.v (.int .i64 a), .v (.int .i64 b)])
  | _ => (False, .junk)
theorem e40 {A : Frm → Prop} : EntryOK A Try.prog 40 (valE true s40) := valE_ok fun vs _ h => by
  unfold s40 at h ⊢
  split at h
  · exact ⟨by simp [AV.plain, AV.plainL], fun _ => by simp [AV.flat, AV.flatL], part_fn _ _⟩
  · exact h.elim
def ledW (got : Int) : Led := { coins := [[1, 5, 10], [1, 2]], rates := [[⟨1, 1⟩, ⟨3, 2⟩], [⟨1, 1⟩, ⟨2, 1⟩]], start := [100, 10], entries := [⟨0, 1, 1, 0, 20, 0⟩, ⟨0, 3, 1, 0, 15, got⟩, ⟨1, 2, 0, 0, 30, 0⟩, ⟨1, 4, 1, 0, 14, 0⟩] }
theorem ledger_fn (g : Int) : FnV Try.prog 76 [aI g] (aLed (ledW g)) := by
  have env : Env (fun _ => True) Try.prog tyB (tab [(40, valE true s40)]) := mkEnv ⟨e40, trivial⟩
  refine Fn.of (A := fun _ => True) (n0 := 0) (D := noD) (Fn0 Try.func76 rfl (fun vs w => by kernel_rfl) (by kernel_rfl)) (by simp) (by simp [AV.ids, aI]) (fun i o h => by cases h) (fun _ _ _ _ => trivial) noD_ok ?_
  have q1 : (4 : Nat) ≤ maxLen := by decide
  repeat' (first | refine sym_seq ?_ | refine sym_block ?_ | refine sym_skip ?_ | refine sym_label ?_ | refine sym_exit ?_ | refine sym_ret ?_ | refine thenK_n ?_ | refine thenK_x ?_ | refine thenK_r ?_ | refine blockK_n ?_ | refine blockK_r ?_ | refine blockK_hit ?_ | refine blockK_miss (by decide) ?_ | (refine sym_reg env fun Q hQ => ?_; simp only [vks, Nat.reduceEqDiff, Nat.reduceAdd, Nat.reduceMul, Nat.reduceSub, Nat.reduceLeDiff, reduceCtorEq, ↓reduceIte, ↓reduceDIte, Int.reduceToNat, Int.reduceLE, Int.reduceLT, Int.reduceEq, Int.reduceNeg, ty3, ti3, ty22, ti22, ty28, ti28, ty35, ti35, ty36, ti36, ty38, ti38, ty48, ti48, ty55, ti55, ty59, ti59, aI, aB, aSh, aLed, cLed, ledW, s40, eInts, eShs, eInt, eSh, eEnt, List.map_cons, List.map_nil]; (try simp only [ite_and]); (repeat' (first | with_reducible assumption | refine And.intro ?_ ?_ | intro hp)); all_goals (first | (refine hQ _ ?_; clear hQ; clear Q) | omega | assumption | (with_reducible rfl) | (refine drawB_of ?_; kernel_rfl) | skip)) | (refine sym_cd (by simp only [vks, Nat.reduceEqDiff, Nat.reduceAdd, Nat.reduceMul, Nat.reduceSub, Nat.reduceLeDiff, reduceCtorEq, ↓reduceIte, ↓reduceDIte, Int.reduceToNat, Int.reduceLE, Int.reduceLT, Int.reduceEq, Int.reduceNeg, ty3, ti3, ty22, ti22, ty28, ti28, ty35, ti35, ty36, ti36, ty38, ti38, ty48, ti48, ty55, ti55, ty59, ti59, aI, aB, aSh, aLed, cLed, ledW, s40, eInts, eShs, eInt, eSh, eEnt, List.map_cons, List.map_nil]; rfl) (fun h => ?_) (fun h => ?_) <;> (try simp only [decide_eq_true_eq, decide_eq_false_iff_not, Bool.not_eq_true', Bool.not_eq_false', Bool.and_eq_true, Bool.or_eq_false_iff, Bool.and_eq_false_iff, Bool.or_eq_true, not_true_eq_false, not_false_eq_true, reduceCtorEq] at h)))
  (simp only [retK, leaveA, resL, tupA, rd, wCells_some, wRow_some, Try.results76, vks, Nat.reduceEqDiff, Nat.reduceAdd, Nat.reduceMul, Nat.reduceSub, Nat.reduceLeDiff, reduceCtorEq, ↓reduceIte, ↓reduceDIte, Int.reduceToNat, Int.reduceLE, Int.reduceLT, Int.reduceEq, Int.reduceNeg, ty3, ti3, ty22, ti22, ty28, ti28, ty35, ti35, ty36, ti36, ty38, ti38, ty48, ti48, ty55, ti55, ty59, ti59, aI, aB, aSh, aLed, cLed, ledW, s40, eInts, eShs, eInt, eSh, eEnt, List.map_cons, List.map_nil]; refine Fin.val rfl ?_; (try simp only [AV.le, AV.leL]))
  all_goals first | rfl | exact ⟨⟨_, _, rfl⟩, ⟨_, _, rfl⟩, ⟨_, _, rfl⟩, ⟨_, _, rfl⟩, trivial⟩ | exact ⟨⟨_, _, rfl⟩, ⟨_, _, rfl⟩, ⟨_, _, rfl⟩, ⟨_, _, rfl⟩⟩
def c76 : List AV → Prop × AV
  | [.v (.int .i64 g)] => (True, aLed (ledW g))
  | _ => (False, .junk)
theorem d76 {A : Frm → Prop} : EntryOK A Try.prog 76 (valE false c76) := valE_ok fun vs _ h => by
  unfold c76 at h ⊢
  split at h
  · exact ⟨by simp [AV.plain, AV.plainL, aLed, cLed], fun h => absurd h (by decide), ledger_fn _⟩
  · exact h.elim
end Go.Sym.B
namespace Go.Sym.B
open Go Go.Sym Go.Proofs Go.Sym.C
def c39 : List AV → Prop × AV
  | [.agg [.sl cs, .sl rs, .sl ss, .sl es]] => (isL cs rs ss es ∧ Fit (ldOf cs rs ss es), aBal (ldOf cs rs ss es))
  | _ => (False, .junk)
theorem d39 {A : Frm → Prop} : EntryOK A Try.prog 39 (valE true c39) := valE_ok fun vs hv h => by
  clear hv
  unfold c39 at h ⊢
  split at h
  · refine ⟨by unfold aBal; split <;> simp [AV.plain, AV.plainL, aI, cAcc, z12], fun _ => by unfold aBal; split <;> simp [AV.flat, AV.flatL, aI, cAcc, z12], ?_⟩
    rw [← aLed_of h.1]; exact bal_fn _ h.2
  · exact h.elim
def s36 : List AV → Prop × AV
  | [.sl xs, .sl ys] => (xs = (xs.map dInts).map eInts ∧ ys = (ys.map dInts).map eInts ∧ xs.length ≤ maxLen ∧ ∀ p ∈ xs.map dInts, p.length ≤ maxLen, aB (decide (xs.map dInts = ys.map dInts)))
  | _ => (False, .junk)
theorem d36 {A : Frm → Prop} : EntryOK A Try.prog 36 (valE true s36) := valE_ok fun vs hv h => by
  clear hv
  unfold s36 at h ⊢
  split at h
  · rename_i xs ys
    refine ⟨trivial, fun _ => trivial, ?_⟩
    have := eqRows_fn (xs.map dInts) (ys.map dInts) (by simpa using h.2.2.1) h.2.2.2
    rwa [aIntss, ← h.1, aIntss, ← h.2.1] at this
  · exact h.elim
theorem fitW (g : Int) : Fit (ledW g) := ⟨by simp [ledW], fun p hp => by simp [ledW] at hp; rcases hp with rfl | rfl <;> simp, by simp [ledW], fun p hp => by simp [ledW] at hp; rcases hp with rfl | rfl <;> simp, by simp [ledW], by simp [ledW]⟩
theorem x1 : aBal (ledW 22) = .tup [.agg [.v (.int .i64 30), .v (.int .i64 1), .v (.int .i64 30), .v (.int .i64 1), .v (.int .i64 15), .v (.int .i64 2), .v (.int .i64 1), .v (.int .i64 2), .v (.int .i64 (-2)), .v (.int .i64 1), .v (.int .i64 120), .v (.int .i64 1)], .v (.int .i64 0)] := by kernel_rfl
theorem x2 : aSwap (ledW 22) 0 1 0 15 = .tup [.v (.int .i64 22), .agg [.v (.int .i64 1), .v (.int .i64 2)], .v (.int .i64 0)] := by kernel_rfl
theorem x3 : aPieces (ledW 22) 0 28 = .tup [aInts [3, 1, 2], .v (.int .i64 0)] := by kernel_rfl
theorem x4 : aWrong (ledW 23) = .tup [aIntss [[0, 1]], .v (.int .i64 0)] := by kernel_rfl
theorem x5 : aSplit 7 [2, 0, 1] = .tup [aInts [5, 0, 2], .v (.int .i64 0)] := by kernel_rfl
theorem dIntV (n : Int) : dInt [.v (.int .i64 n)] = n := rfl
theorem dIntsV (l : List (List DV)) : dInts [.sl l] = l.map dInt := rfl
set_option maxRecDepth 100000 in
set_option maxHeartbeats 4000000 in
theorem balanced_fn : FnV Try.prog 19 [] (aB true) := by
  have env : Env (fun _ => True) Try.prog tyB (tab [(76, valE false c76), (39, valE true c39), (48, valE true c48), (28, valE false c28), (32, valE false c32), (24, valE false c24), (40, valE true s40), (26, valE true s26), (36, valE true s36)]) := mkEnv ⟨d76, d39, d48, d28, d32, d24, e40, e26, d36, trivial⟩
  refine Fn.of (A := fun _ => True) (n0 := 0) (D := noD) (Fn0 Try.func19 rfl (fun vs w => by kernel_rfl) (by kernel_rfl)) (by simp) (by simp [AV.ids]) (fun i o h => by cases h) (fun _ _ _ _ => trivial) noD_ok ?_
  have f1 := fitW 22
  have q1 : 3 ≤ maxLen := by decide
  have q2 : 1 ≤ maxLen := by decide
  have q3 : 2 ≤ maxLen := by decide
  have f2 := fitW 23
  repeat' (first | refine sym_seq ?_ | refine sym_block ?_ | refine sym_skip ?_ | refine sym_label ?_ | refine sym_exit ?_ | refine sym_ret ?_ | refine thenK_n ?_ | refine thenK_x ?_ | refine thenK_r ?_ | refine blockK_n ?_ | refine blockK_r ?_ | refine blockK_hit ?_ | refine blockK_miss (by decide) ?_)
  (refine sym_reg env fun Q hQ => ?_; simp only [vks, Nat.reduceEqDiff, Nat.reduceAdd, Nat.reduceMul, Nat.reduceSub, Nat.reduceLeDiff, reduceCtorEq, ↓reduceIte, ↓reduceDIte, Int.reduceToNat, Int.reduceLE, Int.reduceLT, Int.reduceEq, Int.reduceNeg, ty3, ti3, ty22, ti22, ty28, ti28, ty30, ti30, ty59, ti59, ty61, ti61, dIntV, dIntsV, aI, aB, aInts, aIntss, aLed, cLed, c39, c48, c28, c32, c24, c76, s40, s26, s36, x1, x2, x3, x4, x5, isL_e, ldOf_e, mInts, mInt, eInt, eInts, List.map_cons, List.map_nil]; (try simp only [ite_and]); (repeat' (first | with_reducible assumption | refine And.intro ?_ ?_ | intro hp)); all_goals (first | (refine hQ _ ?_; clear hQ; clear Q) | omega | assumption | (with_reducible rfl) | (refine drawB_of ?_; kernel_rfl) | skip))
  repeat' (first | refine sym_seq ?_ | refine sym_block ?_ | refine sym_skip ?_ | refine sym_label ?_ | refine sym_exit ?_ | refine sym_ret ?_ | refine thenK_n ?_ | refine thenK_x ?_ | refine thenK_r ?_ | refine blockK_n ?_ | refine blockK_r ?_ | refine blockK_hit ?_ | refine blockK_miss (by decide) ?_)
  (refine sym_reg env fun Q hQ => ?_; simp only [vks, Nat.reduceEqDiff, Nat.reduceAdd, Nat.reduceMul, Nat.reduceSub, Nat.reduceLeDiff, reduceCtorEq, ↓reduceIte, ↓reduceDIte, Int.reduceToNat, Int.reduceLE, Int.reduceLT, Int.reduceEq, Int.reduceNeg, ty3, ti3, ty22, ti22, ty28, ti28, ty30, ti30, ty59, ti59, ty61, ti61, dIntV, dIntsV, aI, aB, aInts, aIntss, aLed, cLed, c39, c48, c28, c32, c24, c76, s40, s26, s36, x1, x2, x3, x4, x5, isL_e, ldOf_e, mInts, mInt, eInt, eInts, List.map_cons, List.map_nil]; (try simp only [ite_and]); (repeat' (first | with_reducible assumption | refine And.intro ?_ ?_ | intro hp)); all_goals (first | (refine hQ _ ?_; clear hQ; clear Q) | omega | assumption | (with_reducible rfl) | (refine drawB_of ?_; kernel_rfl) | skip))
  repeat' (first | refine sym_seq ?_ | refine sym_block ?_ | refine sym_skip ?_ | refine sym_label ?_ | refine sym_exit ?_ | refine sym_ret ?_ | refine thenK_n ?_ | refine thenK_x ?_ | refine thenK_r ?_ | refine blockK_n ?_ | refine blockK_r ?_ | refine blockK_hit ?_ | refine blockK_miss (by decide) ?_)
  (refine sym_reg env fun Q hQ => ?_; simp only [vks, Nat.reduceEqDiff, Nat.reduceAdd, Nat.reduceMul, Nat.reduceSub, Nat.reduceLeDiff, reduceCtorEq, ↓reduceIte, ↓reduceDIte, Int.reduceToNat, Int.reduceLE, Int.reduceLT, Int.reduceEq, Int.reduceNeg, ty3, ti3, ty22, ti22, ty28, ti28, ty30, ti30, ty59, ti59, ty61, ti61, dIntV, dIntsV, aI, aB, aInts, aIntss, aLed, cLed, c39, c48, c28, c32, c24, c76, s40, s26, s36, x1, x2, x3, x4, x5, isL_e, ldOf_e, mInts, mInt, eInt, eInts, List.map_cons, List.map_nil]; (try simp only [ite_and]); (repeat' (first | with_reducible assumption | refine And.intro ?_ ?_ | intro hp)); all_goals (first | (refine hQ _ ?_; clear hQ; clear Q) | omega | assumption | (with_reducible rfl) | (refine drawB_of ?_; kernel_rfl) | skip))
  repeat' (first | refine sym_seq ?_ | refine sym_block ?_ | refine sym_skip ?_ | refine sym_label ?_ | refine sym_exit ?_ | refine sym_ret ?_ | refine thenK_n ?_ | refine thenK_x ?_ | refine thenK_r ?_ | refine blockK_n ?_ | refine blockK_r ?_ | refine blockK_hit ?_ | refine blockK_miss (by decide) ?_)
  (refine sym_reg env fun Q hQ => ?_; simp only [vks, Nat.reduceEqDiff, Nat.reduceAdd, Nat.reduceMul, Nat.reduceSub, Nat.reduceLeDiff, reduceCtorEq, ↓reduceIte, ↓reduceDIte, Int.reduceToNat, Int.reduceLE, Int.reduceLT, Int.reduceEq, Int.reduceNeg, ty3, ti3, ty22, ti22, ty28, ti28, ty30, ti30, ty59, ti59, ty61, ti61, dIntV, dIntsV, aI, aB, aInts, aIntss, aLed, cLed, c39, c48, c28, c32, c24, c76, s40, s26, s36, x1, x2, x3, x4, x5, isL_e, ldOf_e, mInts, mInt, eInt, eInts, List.map_cons, List.map_nil]; (try simp only [ite_and]); (repeat' (first | with_reducible assumption | refine And.intro ?_ ?_ | intro hp)); all_goals (first | (refine hQ _ ?_; clear hQ; clear Q) | omega | assumption | (with_reducible rfl) | (refine drawB_of ?_; kernel_rfl) | skip))
  repeat' (first | refine sym_seq ?_ | refine sym_block ?_ | refine sym_skip ?_ | refine sym_label ?_ | refine sym_exit ?_ | refine sym_ret ?_ | refine thenK_n ?_ | refine thenK_x ?_ | refine thenK_r ?_ | refine blockK_n ?_ | refine blockK_r ?_ | refine blockK_hit ?_ | refine blockK_miss (by decide) ?_)
  (refine sym_reg env fun Q hQ => ?_; simp only [vks, Nat.reduceEqDiff, Nat.reduceAdd, Nat.reduceMul, Nat.reduceSub, Nat.reduceLeDiff, reduceCtorEq, ↓reduceIte, ↓reduceDIte, Int.reduceToNat, Int.reduceLE, Int.reduceLT, Int.reduceEq, Int.reduceNeg, ty3, ti3, ty22, ti22, ty28, ti28, ty30, ti30, ty59, ti59, ty61, ti61, dIntV, dIntsV, aI, aB, aInts, aIntss, aLed, cLed, c39, c48, c28, c32, c24, c76, s40, s26, s36, x1, x2, x3, x4, x5, isL_e, ldOf_e, mInts, mInt, eInt, eInts, List.map_cons, List.map_nil]; (try simp only [ite_and]); (repeat' (first | with_reducible assumption | refine And.intro ?_ ?_ | intro hp)); all_goals (first | (refine hQ _ ?_; clear hQ; clear Q) | omega | assumption | (with_reducible rfl) | (refine drawB_of ?_; kernel_rfl) | skip))
  repeat' (first | refine sym_seq ?_ | refine sym_block ?_ | refine sym_skip ?_ | refine sym_label ?_ | refine sym_exit ?_ | refine sym_ret ?_ | refine thenK_n ?_ | refine thenK_x ?_ | refine thenK_r ?_ | refine blockK_n ?_ | refine blockK_r ?_ | refine blockK_hit ?_ | refine blockK_miss (by decide) ?_)
  (refine sym_reg env fun Q hQ => ?_; simp only [vks, Nat.reduceEqDiff, Nat.reduceAdd, Nat.reduceMul, Nat.reduceSub, Nat.reduceLeDiff, reduceCtorEq, ↓reduceIte, ↓reduceDIte, Int.reduceToNat, Int.reduceLE, Int.reduceLT, Int.reduceEq, Int.reduceNeg, ty3, ti3, ty22, ti22, ty28, ti28, ty30, ti30, ty59, ti59, ty61, ti61, dIntV, dIntsV, aI, aB, aInts, aIntss, aLed, cLed, c39, c48, c28, c32, c24, c76, s40, s26, s36, x1, x2, x3, x4, x5, isL_e, ldOf_e, mInts, mInt, eInt, eInts, List.map_cons, List.map_nil]; (try simp only [ite_and]); (repeat' (first | with_reducible assumption | refine And.intro ?_ ?_ | intro hp)); all_goals (first | (refine hQ _ ?_; clear hQ; clear Q) | omega | assumption | (with_reducible rfl) | (refine drawB_of ?_; kernel_rfl) | skip))
  repeat' (first | refine sym_seq ?_ | refine sym_block ?_ | refine sym_skip ?_ | refine sym_label ?_ | refine sym_exit ?_ | refine sym_ret ?_ | refine thenK_n ?_ | refine thenK_x ?_ | refine thenK_r ?_ | refine blockK_n ?_ | refine blockK_r ?_ | refine blockK_hit ?_ | refine blockK_miss (by decide) ?_)
  refine sym_le (S' := { t := asg [(2, aI 0), (5, aI 0), (7, aI 0), (9, aI 0), (11, aI 0), (3, aI 22), (4, .ptr 1 0), (1, .ptr 0 0), (6, aInts [3, 1, 2]), (8, aIntss [[0, 1]]), (10, aInts [5, 0, 2])], h := hasg [(0, .cells [.v (.int .i64 30), .v (.int .i64 1), .v (.int .i64 30), .v (.int .i64 1), .v (.int .i64 15), .v (.int .i64 2), .v (.int .i64 1), .v (.int .i64 2), .v (.int .i64 (-2)), .v (.int .i64 1), .v (.int .i64 120), .v (.int .i64 1)]), (1, .cells [aI 1, aI 2])], n := 2 }) ?_ ?_
  · (refine Le.ok some [] ⟨?_, ?_, ?_, ?_, ?_, ?_, ?_, ?_, ?_, ?_, ?_⟩; all_goals (try simp only [leT, leH, leO, ADf.leL, imgs, idsT, idsH, List.filterMap_cons, List.filterMap_nil, List.flatMap_nil, Nat.lt_irrefl, Nat.not_lt_zero, vks, Nat.reduceEqDiff, Nat.reduceAdd, Nat.reduceMul, Nat.reduceSub, Nat.reduceLeDiff, reduceCtorEq, ↓reduceIte, ↓reduceDIte, Int.reduceToNat, Int.reduceLE, Int.reduceLT, Int.reduceEq, Int.reduceNeg, ty3, ti3, ty22, ti22, ty28, ti28, ty30, ti30, ty59, ti59, ty61, ti61, dIntV, dIntsV, aI, aB, aInts, aIntss, aLed, cLed, c39, c48, c28, c32, c24, c76, s40, s26, s36, x1, x2, x3, x4, x5, isL_e, ldOf_e, mInts, mInt, eInt, eInts, List.map_cons, List.map_nil]))
    all_goals first | rfl | (simp; done)
  (refine sym_reg env fun Q hQ => ?_; simp only [vks, Nat.reduceEqDiff, Nat.reduceAdd, Nat.reduceMul, Nat.reduceSub, Nat.reduceLeDiff, reduceCtorEq, ↓reduceIte, ↓reduceDIte, Int.reduceToNat, Int.reduceLE, Int.reduceLT, Int.reduceEq, Int.reduceNeg, ty3, ti3, ty22, ti22, ty28, ti28, ty30, ti30, ty59, ti59, ty61, ti61, dIntV, dIntsV, aI, aB, aInts, aIntss, aLed, cLed, c39, c48, c28, c32, c24, c76, s40, s26, s36, x1, x2, x3, x4, x5, isL_e, ldOf_e, mInts, mInt, eInt, eInts, List.map_cons, List.map_nil]; (try simp only [ite_and]); (repeat' (first | with_reducible assumption | refine And.intro ?_ ?_ | intro hp)); all_goals (first | (refine hQ _ ?_; clear hQ; clear Q) | omega | assumption | (with_reducible rfl) | (refine drawB_of ?_; kernel_rfl) | skip))
  repeat' (first | refine sym_seq ?_ | refine sym_block ?_ | refine sym_skip ?_ | refine sym_label ?_ | refine sym_exit ?_ | refine sym_ret ?_ | refine thenK_n ?_ | refine thenK_x ?_ | refine thenK_r ?_ | refine blockK_n ?_ | refine blockK_r ?_ | refine blockK_hit ?_ | refine blockK_miss (by decide) ?_)
  (simp only [retK, leaveA, resL, tupA, rd, wCells_some, wRow_some, Try.results19, vks, Nat.reduceEqDiff, Nat.reduceAdd, Nat.reduceMul, Nat.reduceSub, Nat.reduceLeDiff, reduceCtorEq, ↓reduceIte, ↓reduceDIte, Int.reduceToNat, Int.reduceLE, Int.reduceLT, Int.reduceEq, Int.reduceNeg, ty3, ti3, ty22, ti22, ty28, ti28, ty30, ti30, ty59, ti59, ty61, ti61, dIntV, dIntsV, aI, aB, aInts, aIntss, aLed, cLed, c39, c48, c28, c32, c24, c76, s40, s26, s36, x1, x2, x3, x4, x5, isL_e, ldOf_e, mInts, mInt, eInt, eInts, List.map_cons, List.map_nil]; refine Fin.val rfl ?_; (try simp only [AV.le, AV.leL]))
  all_goals simp
def c19 : List AV → Prop × AV
  | [] => (True, .v (.bool true))
  | _ => (False, .junk)
theorem d19 {A : Frm → Prop} : EntryOK A Try.prog 19 (valE true c19) := valE_ok fun vs hv h => by
  clear hv
  unfold c19 at h ⊢
  split at h
  · exact ⟨trivial, fun _ => trivial, balanced_fn⟩
  · exact h.elim
end Go.Sym.B
namespace Go.Sym.B
open Go Go.Sym Go.Proofs Go.Sym.C
def ltR (r : Int → Int) (x y : Int) : Prop := r y < r x ∨ (r y = r x ∧ x < y)
theorem ltR_trans {r : Int → Int} {x y z : Int} (h : ltR r x y) (h' : ltR r y z) : ltR r x z := by
  unfold ltR at *; omega
theorem swap_get {l : List Int} {j : Nat} (h : j + 1 < l.length) (i : Nat) : (swapL l j).getD i 0 = if i = j then l.getD (j + 1) 0 else if i = j + 1 then l.getD j 0 else l.getD i 0 := by
  unfold swapL
  by_cases h1 : i = j
  · subst h1; rw [if_pos rfl]; simp [List.getD_eq_getElem?_getD, List.getElem?_set, show i < l.length by omega]
  · rw [if_neg h1]
    by_cases h2 : i = j + 1
    · subst h2; rw [if_pos rfl]; simp [List.getD_eq_getElem?_getD, List.getElem?_set, h]
    · rw [if_neg h2]; simp [List.getD_eq_getElem?_getD, List.getElem?_set, show ¬ j = i by omega, show ¬ j + 1 = i by omega]
theorem bub_len {c : Int → Int → Int} : ∀ (j : Nat) (l : List Int), (bub c l j).length = l.length
  | 0, l => rfl
  | j + 1, l => by
    rw [bub]
    split
    · rw [bub_len j, swapL_len]
    · rfl
theorem bub_sorted {r : Int → Int} {c : Int → Int → Int} (hc : ∀ x y, c x y = r y - r x) {k : Nat} : ∀ (j : Nat) (l : List Int), j ≤ k → k < l.length →
    (∀ a b, a < b → b ≤ k → a ≠ j → b ≠ j → ltR r (l.getD a 0) (l.getD b 0)) → (∀ b, j < b → b ≤ k → ltR r (l.getD j 0) (l.getD b 0)) → (∀ a, a ≤ k → a ≠ j → l.getD a 0 < l.getD j 0) →
    ∀ a b, a < b → b ≤ k → ltR r ((bub c l j).getD a 0) ((bub c l j).getD b 0)
  | 0, l, _, _, h1, h2, _, a, b, hab, hb => by
    rw [bub]
    by_cases ha : a = 0
    · subst ha; exact h2 b hab hb
    · exact h1 a b hab hb ha (by omega)
  | j + 1, l, hj, hk, h1, h2, h3, a, b, hab, hb => by
    rw [bub]
    have hl : j + 1 < l.length := by omega
    split
    · rename_i hlt
      rw [hc] at hlt
      refine bub_sorted hc j (swapL l j) (by omega) (by rw [swapL_len]; exact hk) ?_ ?_ ?_ a b hab hb
      · intro a b hab hb ha hbj
        rw [swap_get hl, swap_get hl, if_neg ha, if_neg hbj]
        by_cases h4 : a = j + 1
        · rw [if_pos h4, if_neg (by omega)]; exact h1 j b (by omega) hb (by omega) (by omega)
        · rw [if_neg h4]
          by_cases h5 : b = j + 1
          · rw [if_pos h5]; exact h1 a j (by omega) (by omega) h4 (by omega)
          · rw [if_neg h5]; exact h1 a b hab hb h4 h5
      · intro b hjb hb
        rw [swap_get hl, swap_get hl, if_pos rfl, if_neg (by omega)]
        by_cases h5 : b = j + 1
        · rw [if_pos h5]; left; omega
        · rw [if_neg h5]; exact h2 b (by omega) hb
      · intro a ha haj
        rw [swap_get hl, swap_get hl, if_pos rfl, if_neg haj]
        by_cases h4 : a = j + 1
        · rw [if_pos h4]; exact h3 j (by omega) (by omega)
        · rw [if_neg h4]; exact h3 a ha h4
    · rename_i hlt
      rw [hc] at hlt
      by_cases h4 : a = j + 1
      · subst h4; exact h2 b hab hb
      · by_cases h5 : b = j + 1
        · subst h5
          have h6 : ltR r (l.getD j 0) (l.getD (j + 1) 0) := by
            have := h3 j (by omega) (by omega)
            unfold ltR; omega
          by_cases h7 : a = j
          · subst h7; exact h6
          · exact ltR_trans (h1 a j (by omega) (by omega) h4 (by omega)) h6
        · exact h1 a b hab hb h4 h5
theorem bub_keep {c : Int → Int → Int} : ∀ (j : Nat) (l : List Int), j < l.length → ∀ i, j < i → (bub c l j).getD i 0 = l.getD i 0
  | 0, l, _, i, _ => rfl
  | j + 1, l, hj, i, hi => by
    rw [bub]
    split
    · rw [bub_keep j _ (by rw [swapL_len]; omega) i (by omega), swap_get hj, if_neg (by omega), if_neg (by omega)]
    · rfl
theorem bub_P {c : Int → Int → Int} {P : Int → Prop} : ∀ (j : Nat) (l : List Int), j < l.length → (∀ a, a ≤ j → P (l.getD a 0)) → ∀ a, a ≤ j → P ((bub c l j).getD a 0)
  | 0, l, _, h, a, ha => h a ha
  | j + 1, l, hj, h, a, ha => by
    rw [bub]
    split
    · have h1 : ∀ a, a ≤ j + 1 → P ((swapL l j).getD a 0) := fun a ha => by
        rw [swap_get hj]
        split
        · exact h _ (by omega)
        · split
          · exact h _ (by omega)
          · exact h _ ha
      by_cases h2 : a = j + 1
      · subst h2; rw [bub_keep j _ (by rw [swapL_len]; omega) _ (by omega)]; exact h1 _ (by omega)
      · exact bub_P j _ (by rw [swapL_len]; omega) (fun a ha => h1 a (by omega)) a (by omega)
    · exact h a ha
def Has (l : List Int) (x : Int) : Prop := ∃ i, i < l.length ∧ l.getD i 0 = x
theorem swap_has {l : List Int} {j : Nat} (h : j + 1 < l.length) {x : Int} : Has l x → Has (swapL l j) x := fun ⟨i, hi, he⟩ => by
  by_cases h1 : i = j
  · subst h1; exact ⟨i + 1, by rw [swapL_len]; omega, by rw [swap_get h, if_neg (by omega), if_pos rfl]; exact he⟩
  · by_cases h2 : i = j + 1
    · subst h2; exact ⟨j, by rw [swapL_len]; omega, by rw [swap_get h, if_pos rfl]; exact he⟩
    · exact ⟨i, by rw [swapL_len]; omega, by rw [swap_get h, if_neg h1, if_neg h2]; exact he⟩
theorem bub_has {c : Int → Int → Int} {x : Int} : ∀ (j : Nat) (l : List Int), j < l.length → Has l x → Has (bub c l j) x
  | 0, l, _, h => h
  | j + 1, l, hj, h => by
    rw [bub]
    split
    · exact bub_has j _ (by rw [swapL_len]; omega) (swap_has hj h)
    · exact h
theorem ord_get {n i : Nat} (h : i < n) : (ordK n).getD i 0 = i := by simp [ordK, List.getD_eq_getElem?_getD, h]
structure SoK (r : Int → Int) (n k : Nat) (l : List Int) : Prop where
  len : l.length = n
  so : ∀ a b, a < b → b ≤ k → ltR r (l.getD a 0) (l.getD b 0)
  keep : ∀ i, k < i → i < n → l.getD i 0 = i
  lo : ∀ a, a ≤ k → 0 ≤ l.getD a 0 ∧ l.getD a 0 ≤ k
  has : ∀ i : Nat, i < n → Has l i
theorem isort_so {r : Int → Int} {c : Int → Int → Int} (hc : ∀ x y, c x y = r y - r x) {n : Nat} : ∀ k, k < n → SoK r n k (isortK c (ordK n) k)
  | 0, h => ⟨ordK_len n, fun a b h1 h2 => by omega, fun i _ hi => ord_get hi, fun a ha => by
      obtain rfl : a = 0 := by omega
      rw [isortK, ord_get h]; omega, fun i hi => ⟨i, by rw [isortK, ordK_len]; exact hi, ord_get hi⟩⟩
  | k + 1, h => by
    have ih := isort_so (n := n) hc k (by omega)
    have hl : k + 1 < (isortK c (ordK n) k).length := by rw [ih.len]; exact h
    have hv : (isortK c (ordK n) k).getD (k + 1) 0 = ((k + 1 : Nat) : Int) := ih.keep (k + 1) (by omega) h
    refine ⟨by rw [isortK, bub_len, ih.len], ?_, ?_, ?_, ?_⟩
    · rw [isortK]
      refine bub_sorted hc (k + 1) _ (Nat.le_refl _) hl ?_ ?_ ?_
      · intro a b hab hb _ hb'; exact ih.so a b hab (by omega)
      · intro b h1 h2; omega
      · intro a ha ha'; have := (ih.lo a (by omega)).2; rw [hv]; omega
    · intro i hi hn; rw [isortK, bub_keep (k + 1) _ hl i hi]; exact ih.keep i (by omega) hn
    · intro a ha
      rw [isortK]
      refine bub_P (P := fun x => 0 ≤ x ∧ x ≤ ((k + 1 : Nat) : Int)) (k + 1) _ hl (fun a ha => ?_) a ha
      by_cases h1 : a = k + 1
      · subst h1; rw [hv]; omega
      · have := ih.lo a (by omega); omega
    · intro i hi; rw [isortK]; exact bub_has (k + 1) _ hl (ih.has i hi)
end Go.Sym.B
namespace Go.Sym.B
open Go Go.Sym Go.Proofs Go.Sym.C
def bgH (x : Int) : List (Nat × AObj) := [(0, .cells [.v (.int .u64 x)])]
def xsh (s : Int) (k : Nat) : Int := IntKind.u64.wrap (BitVec.ofInt IntKind.u64.bits s ^^^ BitVec.ofInt IntKind.u64.bits (s.fdiv (2 ^ min k IntKind.u64.bits))).toNat
def nxS (x : Int) : Int := IntKind.u64.wrap (IntKind.u64.wrap (x * 2862933555777941757) + 3037000493)
def nxV (x : Int) : Int := xsh (IntKind.u64.wrap (xsh (nxS x) 31 * 10723151780598845931)) 30
theorem next_fn (x : Int) : Fn noB Try.prog 77 [.ptr 0 0] (hasg (bgH x)) (.v (.int .u64 (nxV x))) (hasg (bgH (nxS x))) 0 := by
  have env : Env (fun _ => True) Try.prog tyB (tab []) := mkEnv trivial
  refine Fn.of (A := fun _ => True) (n0 := 1) (D := noD) (Fn0 Try.func77 rfl (fun vs w => by kernel_rfl) (by kernel_rfl)) (by simp) (by simp [AV.ids]) ?_ (fun _ _ _ _ => trivial) noD_ok ?_
  · intro i o hi
    have h := hasg_mem hi
    simp [bgH] at h
    rcases h with ⟨rfl, rfl⟩; simp [AObj.ids, AV.ids, AV.idsL]
  repeat' (first | refine sym_seq ?_ | refine sym_block ?_ | refine sym_skip ?_ | refine sym_label ?_ | refine sym_exit ?_ | refine sym_ret ?_ | refine thenK_n ?_ | refine thenK_x ?_ | refine thenK_r ?_ | refine blockK_n ?_ | refine blockK_r ?_ | refine blockK_hit ?_ | refine blockK_miss (by decide) ?_ | (refine sym_reg env fun Q hQ => ?_; simp only [vks, Nat.reduceEqDiff, Nat.reduceAdd, Nat.reduceMul, Nat.reduceSub, Nat.reduceLeDiff, reduceCtorEq, ↓reduceIte, ↓reduceDIte, Int.reduceToNat, Int.reduceLE, Int.reduceLT, Int.reduceEq, Int.reduceNeg, ty95, ti95, ty97, ti97, aI, aB, bgH]; (try simp only [ite_and]); (repeat' (first | with_reducible assumption | refine And.intro ?_ ?_ | intro hp)); all_goals (first | (refine hQ _ ?_; clear hQ; clear Q) | omega | assumption | (with_reducible rfl) | (refine drawB_of ?_; kernel_rfl) | skip)) | (refine sym_cd (by simp only [vks, Nat.reduceEqDiff, Nat.reduceAdd, Nat.reduceMul, Nat.reduceSub, Nat.reduceLeDiff, reduceCtorEq, ↓reduceIte, ↓reduceDIte, Int.reduceToNat, Int.reduceLE, Int.reduceLT, Int.reduceEq, Int.reduceNeg, ty95, ti95, ty97, ti97, aI, aB, bgH]; rfl) (fun h => ?_) (fun h => ?_) <;> (try simp only [decide_eq_true_eq, decide_eq_false_iff_not, Bool.not_eq_true', Bool.not_eq_false', Bool.and_eq_true, Bool.or_eq_false_iff, Bool.and_eq_false_iff, Bool.or_eq_true, not_true_eq_false, not_false_eq_true, reduceCtorEq] at h)))
  (simp only [retK, leaveA, resL, tupA, rd, wCells_some, wRow_some, Try.results77, vks, Nat.reduceEqDiff, Nat.reduceAdd, Nat.reduceMul, Nat.reduceSub, Nat.reduceLeDiff, reduceCtorEq, ↓reduceIte, ↓reduceDIte, Int.reduceToNat, Int.reduceLE, Int.reduceLT, Int.reduceEq, Int.reduceNeg, ty95, ti95, ty97, ti97, aI, aB, bgH]; refine Fin.ok some [] ?_ ?_ ?_ ?_ ?_ rfl; all_goals (try simp only [leT, leH, leO, ADf.leL, imgs, idsT, idsH, List.filterMap_cons, List.filterMap_nil, List.flatMap_nil, Nat.lt_irrefl, Nat.not_lt_zero, vks, Nat.reduceEqDiff, Nat.reduceAdd, Nat.reduceMul, Nat.reduceSub, Nat.reduceLeDiff, reduceCtorEq, ↓reduceIte, ↓reduceDIte, Int.reduceToNat, Int.reduceLE, Int.reduceLT, Int.reduceEq, Int.reduceNeg, ty95, ti95, ty97, ti97, aI, aB, bgH]))
  all_goals rfl
def p77 (S : St) : List AV → Option Pk
  | [.ptr i 0] => match S.h i with
    | some (.cells [.v (.int .u64 x)]) => some { hs := [i], ar := [.ptr 0 0], L0 := [.cells [.v (.int .u64 x)]], v := .v (.int .u64 (nxV x)), L1 := [some (.cells [.v (.int .u64 (nxS x))])] }
    | _ => none
  | _ => none
theorem e77 {A : Frm → Prop} : EntryOK A Try.prog 77 (fnE p77) := fnE_ok fun S bs q h hp => by
  unfold p77 at h
  split at h
  · split at h
    · cases h; exact next_fn _
    · cases h
  · cases h
def upV0 (x m : Int) : Int := if m < 1 then 0 else IntKind.i64.wrap (((nxV x).fdiv (2 ^ min 13 IntKind.u64.bits)).tmod (IntKind.u64.wrap (IntKind.i64.wrap (m + 1))))
def upS0 (x m : Int) : Int := if m < 1 then x else nxS x
theorem up_ex : ∃ f : Int → Int → Int × Int, ∀ x m, f x m = (upV0 x m, upS0 x m) := ⟨fun x m => (upV0 x m, upS0 x m), fun _ _ => rfl⟩
noncomputable def upV (x m : Int) : Int := (Classical.choose up_ex x m).1
noncomputable def upS (x m : Int) : Int := (Classical.choose up_ex x m).2
theorem upV_eq (x m : Int) : upV x m = upV0 x m := by unfold upV; rw [Classical.choose_spec up_ex]
theorem upS_eq (x m : Int) : upS x m = upS0 x m := by unfold upS; rw [Classical.choose_spec up_ex]
theorem wrapU2 {n : Int} (h0 : 0 ≤ n) (h1 : n < 18446744073709551616) : IntKind.u64.wrap n = n := by
  unfold IntKind.wrap
  simp only [IntKind.bits, IntKind.signed]
  simp
  omega
theorem wrapU_nn (n : Int) : 0 ≤ IntKind.u64.wrap n := by
  unfold IntKind.wrap
  simp only [IntKind.bits, IntKind.signed]
  simp
  omega
theorem upV_bd {x m : Int} (h : m < 9223372036854775807) : 0 ≤ upV x m ∧ (upV x m ≤ m ∨ upV x m = 0) := by
  rw [upV_eq]
  unfold upV0
  split
  · exact ⟨Int.le_refl _, .inr rfl⟩
  · have h1 : IntKind.i64.wrap (m + 1) = m + 1 := wrap64 (by omega) (by omega)
    have h2 : IntKind.u64.wrap (m + 1) = m + 1 := wrapU2 (by omega) (by omega)
    rw [h1, h2]
    have h3 : 0 ≤ (nxV x).fdiv (2 ^ min 13 IntKind.u64.bits) := Int.fdiv_nonneg (by unfold nxV xsh; exact wrapU_nn _) (by decide)
    rw [Int.tmod_eq_emod_of_nonneg h3]
    have h4 := Int.emod_nonneg ((nxV x).fdiv (2 ^ min 13 IntKind.u64.bits)) (show m + 1 ≠ 0 by omega)
    have h5 := Int.emod_lt_of_pos ((nxV x).fdiv (2 ^ min 13 IntKind.u64.bits)) (show 0 < m + 1 by omega)
    rw [wrap64 (by omega) (by omega)]
    omega
theorem up_fn (x m : Int) (h : m < 9223372036854775807) : Fn noB Try.prog 22 [.ptr 0 0, aI m] (hasg (bgH x)) (aI (upV x m)) (hasg (bgH (upS x m))) 0 := by
  have env : Env (fun _ => True) Try.prog tyB (tab [(77, fnE p77)]) := mkEnv ⟨e77, trivial⟩
  refine Fn.of (A := fun _ => True) (n0 := 1) (D := noD) (Fn0 Try.func22 rfl (fun vs w => by kernel_rfl) (by kernel_rfl)) (by simp) (by simp [AV.ids, AV.idsL, aI]) ?_ (fun _ _ _ _ => trivial) noD_ok ?_
  · intro i o hi
    have h := hasg_mem hi
    simp [bgH] at h
    rcases h with ⟨rfl, rfl⟩; simp [AObj.ids, AV.ids, AV.idsL]
  rw [upV_eq, upS_eq]
  by_cases c1 : m < 1
  · rw [show upV0 x m = 0 from if_pos c1, show upS0 x m = x from if_pos c1]
    repeat' (first | refine sym_seq ?_ | refine sym_block ?_ | refine sym_skip ?_ | refine sym_label ?_ | refine sym_exit ?_ | refine sym_ret ?_ | refine thenK_n ?_ | refine thenK_x ?_ | refine thenK_r ?_ | refine blockK_n ?_ | refine blockK_r ?_ | refine blockK_hit ?_ | refine blockK_miss (by decide) ?_ | (refine sym_reg env fun Q hQ => ?_; simp only [vks, Nat.reduceEqDiff, Nat.reduceAdd, Nat.reduceMul, Nat.reduceSub, Nat.reduceLeDiff, reduceCtorEq, ↓reduceIte, ↓reduceDIte, Int.reduceToNat, Int.reduceLE, Int.reduceLT, Int.reduceEq, Int.reduceNeg, ty3, ti3, ty95, ti95, aI, aB, bgH, p77, c1]; (try simp only [ite_and]); (repeat' (first | with_reducible assumption | refine And.intro ?_ ?_ | intro hp)); all_goals (first | (refine hQ _ ?_; clear hQ; clear Q) | omega | assumption | (with_reducible rfl) | (refine drawB_of ?_; kernel_rfl) | skip)) | (refine sym_cd (by simp only [vks, Nat.reduceEqDiff, Nat.reduceAdd, Nat.reduceMul, Nat.reduceSub, Nat.reduceLeDiff, reduceCtorEq, ↓reduceIte, ↓reduceDIte, Int.reduceToNat, Int.reduceLE, Int.reduceLT, Int.reduceEq, Int.reduceNeg, ty3, ti3, ty95, ti95, aI, aB, bgH, p77, c1]; rfl) (fun h => ?_) (fun h => ?_) <;> (try simp only [decide_eq_true_eq, decide_eq_false_iff_not, Bool.not_eq_true', Bool.not_eq_false', Bool.and_eq_true, Bool.or_eq_false_iff, Bool.and_eq_false_iff, Bool.or_eq_true, not_true_eq_false, not_false_eq_true, reduceCtorEq] at h)))
    (simp only [retK, leaveA, resL, tupA, rd, wCells_some, wRow_some, Try.results22, vks, Nat.reduceEqDiff, Nat.reduceAdd, Nat.reduceMul, Nat.reduceSub, Nat.reduceLeDiff, reduceCtorEq, ↓reduceIte, ↓reduceDIte, Int.reduceToNat, Int.reduceLE, Int.reduceLT, Int.reduceEq, Int.reduceNeg, ty3, ti3, ty95, ti95, aI, aB, bgH, p77]; refine Fin.ok some [] ?_ ?_ ?_ ?_ ?_ rfl; all_goals (try simp only [leT, leH, leO, ADf.leL, imgs, idsT, idsH, List.filterMap_cons, List.filterMap_nil, List.flatMap_nil, Nat.lt_irrefl, Nat.not_lt_zero, vks, Nat.reduceEqDiff, Nat.reduceAdd, Nat.reduceMul, Nat.reduceSub, Nat.reduceLeDiff, reduceCtorEq, ↓reduceIte, ↓reduceDIte, Int.reduceToNat, Int.reduceLE, Int.reduceLT, Int.reduceEq, Int.reduceNeg, ty3, ti3, ty95, ti95, aI, aB, bgH, p77]))
    all_goals simp
  · rw [show upV0 x m = _ from if_neg c1, show upS0 x m = _ from if_neg c1]
    have h1 : IntKind.i64.wrap (m + 1) = m + 1 := wrap64 (by omega) (by omega)
    have h2 : IntKind.u64.wrap (m + 1) = m + 1 := wrapU2 (by omega) (by omega)
    have h0 : ¬ m + 1 = 0 := by omega
    repeat' (first | refine sym_seq ?_ | refine sym_block ?_ | refine sym_skip ?_ | refine sym_label ?_ | refine sym_exit ?_ | refine sym_ret ?_ | refine thenK_n ?_ | refine thenK_x ?_ | refine thenK_r ?_ | refine blockK_n ?_ | refine blockK_r ?_ | refine blockK_hit ?_ | refine blockK_miss (by decide) ?_ | (refine sym_reg env fun Q hQ => ?_; simp only [vks, Nat.reduceEqDiff, Nat.reduceAdd, Nat.reduceMul, Nat.reduceSub, Nat.reduceLeDiff, reduceCtorEq, ↓reduceIte, ↓reduceDIte, Int.reduceToNat, Int.reduceLE, Int.reduceLT, Int.reduceEq, Int.reduceNeg, ty3, ti3, ty95, ti95, aI, aB, bgH, p77, c1, h1, h2, h0]; (try simp only [ite_and]); (repeat' (first | with_reducible assumption | refine And.intro ?_ ?_ | intro hp)); all_goals (first | (refine hQ _ ?_; clear hQ; clear Q) | omega | assumption | (with_reducible rfl) | (refine drawB_of ?_; kernel_rfl) | skip)) | (refine sym_cd (by simp only [vks, Nat.reduceEqDiff, Nat.reduceAdd, Nat.reduceMul, Nat.reduceSub, Nat.reduceLeDiff, reduceCtorEq, ↓reduceIte, ↓reduceDIte, Int.reduceToNat, Int.reduceLE, Int.reduceLT, Int.reduceEq, Int.reduceNeg, ty3, ti3, ty95, ti95, aI, aB, bgH, p77, c1, h1, h2, h0]; rfl) (fun h => ?_) (fun h => ?_) <;> (try simp only [decide_eq_true_eq, decide_eq_false_iff_not, Bool.not_eq_true', Bool.not_eq_false', Bool.and_eq_true, Bool.or_eq_false_iff, Bool.and_eq_false_iff, Bool.or_eq_true, not_true_eq_false, not_false_eq_true, reduceCtorEq] at h)))
    (simp only [retK, leaveA, resL, tupA, rd, wCells_some, wRow_some, Try.results22, vks, Nat.reduceEqDiff, Nat.reduceAdd, Nat.reduceMul, Nat.reduceSub, Nat.reduceLeDiff, reduceCtorEq, ↓reduceIte, ↓reduceDIte, Int.reduceToNat, Int.reduceLE, Int.reduceLT, Int.reduceEq, Int.reduceNeg, ty3, ti3, ty95, ti95, aI, aB, bgH, p77]; refine Fin.ok some [] ?_ ?_ ?_ ?_ ?_ rfl; all_goals (try simp only [leT, leH, leO, ADf.leL, imgs, idsT, idsH, List.filterMap_cons, List.filterMap_nil, List.flatMap_nil, Nat.lt_irrefl, Nat.not_lt_zero, vks, Nat.reduceEqDiff, Nat.reduceAdd, Nat.reduceMul, Nat.reduceSub, Nat.reduceLeDiff, reduceCtorEq, ↓reduceIte, ↓reduceDIte, Int.reduceToNat, Int.reduceLE, Int.reduceLT, Int.reduceEq, Int.reduceNeg, ty3, ti3, ty95, ti95, aI, aB, bgH, p77]))
    all_goals (first | rfl | rw [h1, h2])
noncomputable def p22 (S : St) : List AV → Option Pk
  | [.ptr i 0, .v (.int .i64 m)] => match S.h i with
    | some (.cells [.v (.int .u64 x)]) => some { pre := m < 9223372036854775807, hs := [i], ar := [.ptr 0 0, .v (.int .i64 m)], L0 := [.cells [.v (.int .u64 x)]], v := .v (.int .i64 (upV x m)), L1 := [some (.cells [.v (.int .u64 (upS x m))])] }
    | _ => none
  | _ => none
theorem e22 {A : Frm → Prop} : EntryOK A Try.prog 22 (fnE p22) := fnE_ok fun S bs q h hp => by
  unfold p22 at h
  split at h
  · split at h
    · cases h; exact up_fn _ _ hp
    · cases h
  · cases h
theorem from_fn (x a b : Int) (h : -100000 ≤ a ∧ a ≤ 100000 ∧ -100000 ≤ b ∧ b ≤ 100000) : Fn noB Try.prog 21 [.ptr 0 0, aI a, aI b] (hasg (bgH x)) (aI (a + upV x (b - a))) (hasg (bgH (upS x (b - a)))) 0 := by
  have env : Env (fun _ => True) Try.prog tyB (tab [(22, fnE p22)]) := mkEnv ⟨e22, trivial⟩
  refine Fn.of (A := fun _ => True) (n0 := 1) (D := noD) (Fn0 Try.func21 rfl (fun vs w => by kernel_rfl) (by kernel_rfl)) (by simp) (by simp [AV.ids, AV.idsL, aI]) ?_ (fun _ _ _ _ => trivial) noD_ok ?_
  · intro i o hi
    have h := hasg_mem hi
    simp [bgH] at h
    rcases h with ⟨rfl, rfl⟩; simp [AObj.ids, AV.ids, AV.idsL]
  have b1 := upV_bd (x := x) (m := b - a) (by omega)
  have h1 : IntKind.i64.wrap (b - a) = b - a := wrap64 (by omega) (by omega)
  have h2 : IntKind.i64.wrap (a + upV x (b - a)) = a + upV x (b - a) := wrap64 (by omega) (by omega)
  have h3 : b - a < 9223372036854775807 := by omega
  repeat' (first | refine sym_seq ?_ | refine sym_block ?_ | refine sym_skip ?_ | refine sym_label ?_ | refine sym_exit ?_ | refine sym_ret ?_ | refine thenK_n ?_ | refine thenK_x ?_ | refine thenK_r ?_ | refine blockK_n ?_ | refine blockK_r ?_ | refine blockK_hit ?_ | refine blockK_miss (by decide) ?_ | (refine sym_reg env fun Q hQ => ?_; simp only [vks, Nat.reduceEqDiff, Nat.reduceAdd, Nat.reduceMul, Nat.reduceSub, Nat.reduceLeDiff, reduceCtorEq, ↓reduceIte, ↓reduceDIte, Int.reduceToNat, Int.reduceLE, Int.reduceLT, Int.reduceEq, Int.reduceNeg, ty3, ti3, aI, aB, bgH, p22, h1, h2]; (try simp only [ite_and]); (repeat' (first | with_reducible assumption | refine And.intro ?_ ?_ | intro hp)); all_goals (first | (refine hQ _ ?_; clear hQ; clear Q) | omega | assumption | (with_reducible rfl) | (refine drawB_of ?_; kernel_rfl) | skip)) | (refine sym_cd (by simp only [vks, Nat.reduceEqDiff, Nat.reduceAdd, Nat.reduceMul, Nat.reduceSub, Nat.reduceLeDiff, reduceCtorEq, ↓reduceIte, ↓reduceDIte, Int.reduceToNat, Int.reduceLE, Int.reduceLT, Int.reduceEq, Int.reduceNeg, ty3, ti3, aI, aB, bgH, p22, h1, h2]; rfl) (fun h => ?_) (fun h => ?_) <;> (try simp only [decide_eq_true_eq, decide_eq_false_iff_not, Bool.not_eq_true', Bool.not_eq_false', Bool.and_eq_true, Bool.or_eq_false_iff, Bool.and_eq_false_iff, Bool.or_eq_true, not_true_eq_false, not_false_eq_true, reduceCtorEq] at h)))
  (simp only [retK, leaveA, resL, tupA, rd, wCells_some, wRow_some, Try.results21, vks, Nat.reduceEqDiff, Nat.reduceAdd, Nat.reduceMul, Nat.reduceSub, Nat.reduceLeDiff, reduceCtorEq, ↓reduceIte, ↓reduceDIte, Int.reduceToNat, Int.reduceLE, Int.reduceLT, Int.reduceEq, Int.reduceNeg, ty3, ti3, aI, aB, bgH, p22]; refine Fin.ok some [] ?_ ?_ ?_ ?_ ?_ rfl; all_goals (try simp only [leT, leH, leO, ADf.leL, imgs, idsT, idsH, List.filterMap_cons, List.filterMap_nil, List.flatMap_nil, Nat.lt_irrefl, Nat.not_lt_zero, vks, Nat.reduceEqDiff, Nat.reduceAdd, Nat.reduceMul, Nat.reduceSub, Nat.reduceLeDiff, reduceCtorEq, ↓reduceIte, ↓reduceDIte, Int.reduceToNat, Int.reduceLE, Int.reduceLT, Int.reduceEq, Int.reduceNeg, ty3, ti3, aI, aB, bgH, p22]))
  all_goals rfl
noncomputable def p21 (S : St) : List AV → Option Pk
  | [.ptr i 0, .v (.int .i64 a), .v (.int .i64 b)] => match S.h i with
    | some (.cells [.v (.int .u64 x)]) => some { pre := -100000 ≤ a ∧ a ≤ 100000 ∧ -100000 ≤ b ∧ b ≤ 100000, hs := [i], ar := [.ptr 0 0, .v (.int .i64 a), .v (.int .i64 b)], L0 := [.cells [.v (.int .u64 x)]], v := .v (.int .i64 (a + upV x (b - a))), L1 := [some (.cells [.v (.int .u64 (upS x (b - a)))])] }
    | _ => none
  | _ => none
theorem e21 {A : Frm → Prop} : EntryOK A Try.prog 21 (fnE p21) := fnE_ok fun S bs q h hp => by
  unfold p21 at h
  split at h
  · split at h
    · cases h; exact from_fn _ _ _ hp
    · cases h
  · cases h
def nbK (l : List Int) : Nat → Int
  | 0 => 11400714819323198485
  | k + 1 => xsh (IntKind.u64.wrap (IntKind.u64.wrap (nbK l k + IntKind.u64.wrap (l.getD k 0)) * 13787848793156543929)) 29
def nbS (l : List Int) : Int := nbK l l.length
def nbI (l : List Int) (k : Nat) : St := { t := asg [(0, aInts l), (3, .ptr 0 0), (4, aI k)], h := hasg (bgH (nbK l k)), n := 1 }
theorem bag_fn (l : List Int) (hl : l.length ≤ maxLen) : Fn noB Try.prog 20 [aInts l] noH (.ptr 0 0) (hasg (bgH (nbS l))) 0 := by
  have env : Env (fun _ => True) Try.prog tyB (tab []) := mkEnv trivial
  refine Fn.of (A := fun _ => True) (n0 := 0) (D := noD) (Fn0 Try.func20 rfl (fun vs w => by kernel_rfl) (by kernel_rfl)) (by simp) (by simp [AV.ids, AV.idsL, aInts]) (fun i o h => by cases h) (fun _ _ _ _ => trivial) noD_ok ?_
  repeat' (first | refine sym_seq ?_ | refine sym_block ?_ | refine sym_skip ?_ | refine sym_label ?_ | refine sym_exit ?_ | refine sym_ret ?_ | refine thenK_n ?_ | refine thenK_x ?_ | refine thenK_r ?_ | refine blockK_n ?_ | refine blockK_r ?_ | refine blockK_hit ?_ | refine blockK_miss (by decide) ?_ | (refine sym_reg env fun Q hQ => ?_; simp only [vks, Nat.reduceEqDiff, Nat.reduceAdd, Nat.reduceMul, Nat.reduceSub, Nat.reduceLeDiff, reduceCtorEq, ↓reduceIte, ↓reduceDIte, Int.reduceToNat, Int.reduceLE, Int.reduceLT, Int.reduceEq, Int.reduceNeg, ty3, ti3, ty22, ti22, ty95, ti95, ty97, ti97, aI, aB, bgH, nbI, aInts, gInt, eInt]; (try simp only [ite_and]); (repeat' (first | with_reducible assumption | refine And.intro ?_ ?_ | intro hp)); all_goals (first | (refine hQ _ ?_; clear hQ; clear Q) | omega | assumption | (with_reducible rfl) | (refine drawB_of ?_; kernel_rfl) | skip)) | (refine sym_cd (by simp only [vks, Nat.reduceEqDiff, Nat.reduceAdd, Nat.reduceMul, Nat.reduceSub, Nat.reduceLeDiff, reduceCtorEq, ↓reduceIte, ↓reduceDIte, Int.reduceToNat, Int.reduceLE, Int.reduceLT, Int.reduceEq, Int.reduceNeg, ty3, ti3, ty22, ti22, ty95, ti95, ty97, ti97, aI, aB, bgH, nbI, aInts, gInt, eInt]; rfl) (fun h => ?_) (fun h => ?_) <;> (try simp only [decide_eq_true_eq, decide_eq_false_iff_not, Bool.not_eq_true', Bool.not_eq_false', Bool.and_eq_true, Bool.or_eq_false_iff, Bool.and_eq_false_iff, Bool.or_eq_true, not_true_eq_false, not_false_eq_true, reduceCtorEq] at h)))
  refine sym_loop (fun k : { k : Nat // k ≤ l.length } => nbI l k.1) (fun k => l.length - k.1) ⟨0, Nat.zero_le _⟩ ?_ fun ⟨k, hk⟩ => ?_
  · (refine Le.ok some [] ⟨?_, ?_, ?_, ?_, ?_, ?_, ?_, ?_, ?_, ?_, ?_⟩; all_goals (try simp only [leT, leH, leO, ADf.leL, imgs, idsT, idsH, List.filterMap_cons, List.filterMap_nil, List.flatMap_nil, Nat.lt_irrefl, Nat.not_lt_zero, vks, Nat.reduceEqDiff, Nat.reduceAdd, Nat.reduceMul, Nat.reduceSub, Nat.reduceLeDiff, reduceCtorEq, ↓reduceIte, ↓reduceDIte, Int.reduceToNat, Int.reduceLE, Int.reduceLT, Int.reduceEq, Int.reduceNeg, ty3, ti3, ty22, ti22, ty95, ti95, ty97, ti97, aI, aB, bgH, nbI, aInts, gInt, eInt]))
    all_goals first | rfl | simp
  · repeat' (first | refine sym_seq ?_ | refine sym_block ?_ | refine sym_skip ?_ | refine sym_label ?_ | refine sym_exit ?_ | refine sym_ret ?_ | refine thenK_n ?_ | refine thenK_x ?_ | refine thenK_r ?_ | refine blockK_n ?_ | refine blockK_r ?_ | refine blockK_hit ?_ | refine blockK_miss (by decide) ?_)
    (refine sym_reg env fun Q hQ => ?_; simp only [vks, Nat.reduceEqDiff, Nat.reduceAdd, Nat.reduceMul, Nat.reduceSub, Nat.reduceLeDiff, reduceCtorEq, ↓reduceIte, ↓reduceDIte, Int.reduceToNat, Int.reduceLE, Int.reduceLT, Int.reduceEq, Int.reduceNeg, ty3, ti3, ty22, ti22, ty95, ti95, ty97, ti97, aI, aB, bgH, nbI, aInts, gInt, eInt]; (try simp only [ite_and]); (repeat' (first | with_reducible assumption | refine And.intro ?_ ?_ | intro hp)); all_goals (first | (refine hQ _ ?_; clear hQ; clear Q) | omega | assumption | (with_reducible rfl) | (refine drawB_of ?_; kernel_rfl) | skip))
    repeat' (first | refine sym_seq ?_ | refine sym_block ?_ | refine sym_skip ?_ | refine sym_label ?_ | refine sym_exit ?_ | refine sym_ret ?_ | refine thenK_n ?_ | refine thenK_x ?_ | refine thenK_r ?_ | refine blockK_n ?_ | refine blockK_r ?_ | refine blockK_hit ?_ | refine blockK_miss (by decide) ?_)
    (refine sym_cd (by simp only [vks, Nat.reduceEqDiff, Nat.reduceAdd, Nat.reduceMul, Nat.reduceSub, Nat.reduceLeDiff, reduceCtorEq, ↓reduceIte, ↓reduceDIte, Int.reduceToNat, Int.reduceLE, Int.reduceLT, Int.reduceEq, Int.reduceNeg, ty3, ti3, ty22, ti22, ty95, ti95, ty97, ti97, aI, aB, bgH, nbI, aInts, gInt, eInt]; rfl) (fun h => ?_) (fun h => ?_) <;> (try simp only [decide_eq_true_eq, decide_eq_false_iff_not, Bool.not_eq_true', Bool.not_eq_false', Bool.and_eq_true, Bool.or_eq_false_iff, Bool.and_eq_false_iff, Bool.or_eq_true, not_true_eq_false, not_false_eq_true, reduceCtorEq] at h))
    · have hlt : k < l.length := by omega
      have e9 := wrap_succ hlt hl
      repeat' (first | refine sym_seq ?_ | refine sym_block ?_ | refine sym_skip ?_ | refine sym_label ?_ | refine sym_exit ?_ | refine sym_ret ?_ | refine thenK_n ?_ | refine thenK_x ?_ | refine thenK_r ?_ | refine blockK_n ?_ | refine blockK_r ?_ | refine blockK_hit ?_ | refine blockK_miss (by decide) ?_ | (refine sym_reg env fun Q hQ => ?_; simp only [vks, Nat.reduceEqDiff, Nat.reduceAdd, Nat.reduceMul, Nat.reduceSub, Nat.reduceLeDiff, reduceCtorEq, ↓reduceIte, ↓reduceDIte, Int.reduceToNat, Int.reduceLE, Int.reduceLT, Int.reduceEq, Int.reduceNeg, ty3, ti3, ty22, ti22, ty95, ti95, ty97, ti97, aI, aB, bgH, nbI, aInts, gInt, eInt, e9]; (try simp only [ite_and]); (repeat' (first | with_reducible assumption | refine And.intro ?_ ?_ | intro hp)); all_goals (first | (refine hQ _ ?_; clear hQ; clear Q) | omega | assumption | (with_reducible rfl) | (refine drawB_of ?_; kernel_rfl) | skip)) | (refine sym_cd (by simp only [vks, Nat.reduceEqDiff, Nat.reduceAdd, Nat.reduceMul, Nat.reduceSub, Nat.reduceLeDiff, reduceCtorEq, ↓reduceIte, ↓reduceDIte, Int.reduceToNat, Int.reduceLE, Int.reduceLT, Int.reduceEq, Int.reduceNeg, ty3, ti3, ty22, ti22, ty95, ti95, ty97, ti97, aI, aB, bgH, nbI, aInts, gInt, eInt, e9]; rfl) (fun h => ?_) (fun h => ?_) <;> (try simp only [decide_eq_true_eq, decide_eq_false_iff_not, Bool.not_eq_true', Bool.not_eq_false', Bool.and_eq_true, Bool.or_eq_false_iff, Bool.and_eq_false_iff, Bool.or_eq_true, not_true_eq_false, not_false_eq_true, reduceCtorEq] at h)))
      refine ⟨⟨k + 1, hlt⟩, by show l.length - (k + 1) < l.length - k; omega, ?_⟩
      (refine Le.ok some [] ⟨?_, ?_, ?_, ?_, ?_, ?_, ?_, ?_, ?_, ?_, ?_⟩; all_goals (try simp only [leT, leH, leO, ADf.leL, imgs, idsT, idsH, List.filterMap_cons, List.filterMap_nil, List.flatMap_nil, Nat.lt_irrefl, Nat.not_lt_zero, vks, Nat.reduceEqDiff, Nat.reduceAdd, Nat.reduceMul, Nat.reduceSub, Nat.reduceLeDiff, reduceCtorEq, ↓reduceIte, ↓reduceDIte, Int.reduceToNat, Int.reduceLE, Int.reduceLT, Int.reduceEq, Int.reduceNeg, ty3, ti3, ty22, ti22, ty95, ti95, ty97, ti97, aI, aB, bgH, nbI, aInts, gInt, eInt]))
      all_goals first | rfl | (simp [e9]; done)
    · have hkn : k = l.length := by omega
      subst hkn
      repeat' (first | refine sym_seq ?_ | refine sym_block ?_ | refine sym_skip ?_ | refine sym_label ?_ | refine sym_exit ?_ | refine sym_ret ?_ | refine thenK_n ?_ | refine thenK_x ?_ | refine thenK_r ?_ | refine blockK_n ?_ | refine blockK_r ?_ | refine blockK_hit ?_ | refine blockK_miss (by decide) ?_ | (refine sym_reg env fun Q hQ => ?_; simp only [vks, Nat.reduceEqDiff, Nat.reduceAdd, Nat.reduceMul, Nat.reduceSub, Nat.reduceLeDiff, reduceCtorEq, ↓reduceIte, ↓reduceDIte, Int.reduceToNat, Int.reduceLE, Int.reduceLT, Int.reduceEq, Int.reduceNeg, ty3, ti3, ty22, ti22, ty95, ti95, ty97, ti97, aI, aB, bgH, nbI, aInts, gInt, eInt]; (try simp only [ite_and]); (repeat' (first | with_reducible assumption | refine And.intro ?_ ?_ | intro hp)); all_goals (first | (refine hQ _ ?_; clear hQ; clear Q) | omega | assumption | (with_reducible rfl) | (refine drawB_of ?_; kernel_rfl) | skip)) | (refine sym_cd (by simp only [vks, Nat.reduceEqDiff, Nat.reduceAdd, Nat.reduceMul, Nat.reduceSub, Nat.reduceLeDiff, reduceCtorEq, ↓reduceIte, ↓reduceDIte, Int.reduceToNat, Int.reduceLE, Int.reduceLT, Int.reduceEq, Int.reduceNeg, ty3, ti3, ty22, ti22, ty95, ti95, ty97, ti97, aI, aB, bgH, nbI, aInts, gInt, eInt]; rfl) (fun h => ?_) (fun h => ?_) <;> (try simp only [decide_eq_true_eq, decide_eq_false_iff_not, Bool.not_eq_true', Bool.not_eq_false', Bool.and_eq_true, Bool.or_eq_false_iff, Bool.and_eq_false_iff, Bool.or_eq_true, not_true_eq_false, not_false_eq_true, reduceCtorEq] at h)))
      (simp only [retK, leaveA, resL, tupA, rd, wCells_some, wRow_some, Try.results20, vks, Nat.reduceEqDiff, Nat.reduceAdd, Nat.reduceMul, Nat.reduceSub, Nat.reduceLeDiff, reduceCtorEq, ↓reduceIte, ↓reduceDIte, Int.reduceToNat, Int.reduceLE, Int.reduceLT, Int.reduceEq, Int.reduceNeg, ty3, ti3, ty22, ti22, ty95, ti95, ty97, ti97, aI, aB, bgH, nbI, aInts, gInt, eInt]; refine Fin.ok some [] ?_ ?_ ?_ ?_ ?_ rfl; all_goals (try simp only [leT, leH, leO, ADf.leL, imgs, idsT, idsH, List.filterMap_cons, List.filterMap_nil, List.flatMap_nil, Nat.lt_irrefl, Nat.not_lt_zero, vks, Nat.reduceEqDiff, Nat.reduceAdd, Nat.reduceMul, Nat.reduceSub, Nat.reduceLeDiff, reduceCtorEq, ↓reduceIte, ↓reduceDIte, Int.reduceToNat, Int.reduceLE, Int.reduceLT, Int.reduceEq, Int.reduceNeg, ty3, ti3, ty22, ti22, ty95, ti95, ty97, ti97, aI, aB, bgH, nbI, aInts, gInt, eInt]))
      all_goals rfl
def p20 (_ : St) : List AV → Option Pk
  | [.sl xs] => some { pre := xs = (xs.map dInt).map eInt ∧ xs.length ≤ maxLen, ar := [.sl xs], v := .ptr 0 0, L1 := [some (.cells [.v (.int .u64 (nbS (xs.map dInt)))])] }
  | _ => none
theorem e20 {A : Frm → Prop} : EntryOK A Try.prog 20 (fnE p20) := fnE_ok fun S bs q h hp => by
  unfold p20 at h
  split at h <;> cases h
  have := bag_fn (List.map dInt _) (by rw [List.length_map]; exact hp.2)
  simp only [aInts, ← hp.1] at this
  exact this
end Go.Sym.B
namespace Go.Sym.B
open Go Go.Sym Go.Proofs Go.Sym.C
def manyS (l : List Int) (k : Nat) : St := { t := asg [(0, aInts l), (3, aI (sumK (fun i => l.getD i 0) k)), (4, aI k)], h := hasg [], n := 0 }
def s83 : List AV → Prop × AV
  | [.sl xs] => (xs = (xs.map dInt).map eInt ∧ xs.length ≤ 10000 ∧ (∀ x ∈ xs.map dInt, 0 ≤ x ∧ x ≤ 1000000), aI (pSum (xs.map dInt)))
  | _ => (False, .junk)
end Go.Sym.B
namespace Go.Sym.B
open Go Go.Sym Go.Proofs Go.Sym.C
noncomputable def dlS (m b : Int) : Nat → Int × List Int
  | 0 => (b, [])
  | k + 1 => (upS (dlS m b k).1 m, (dlS m b k).2 ++ [upV (dlS m b k).1 m])
theorem dlS_len (m b : Int) : ∀ k, (dlS m b k).2.length = k
  | 0 => rfl
  | k + 1 => by rw [dlS, List.length_append, dlS_len m b k]; rfl
theorem dlS_bd {m b : Int} (h0 : 0 ≤ m) (h1 : m < 9223372036854775807) : ∀ k, ∀ x ∈ (dlS m b k).2, 0 ≤ x ∧ x ≤ m
  | 0, x, hx => by simp [dlS] at hx
  | k + 1, x, hx => by
    rw [dlS] at hx
    rcases List.mem_append.1 hx with hx | hx
    · exact dlS_bd h0 h1 k x hx
    · obtain rfl := List.mem_singleton.1 hx
      have := upV_bd (x := (dlS m b k).1) h1; omega
end Go.Sym.B
namespace Go.Sym.B
open Go Go.Sym Go.Proofs Go.Sym.C
theorem sumK_set {l : List Int} {j : Nat} (hj : j < l.length) {v : Int} : ∀ k, k ≤ l.length → sumK (fun i => (l.set j v).getD i 0) k = sumK (fun i => l.getD i 0) k + (if j < k then v - l.getD j 0 else 0)
  | 0, _ => by simp [sumK]
  | k + 1, hk => by
    rw [sumK, sumK, sumK_set hj k (by omega)]
    by_cases h : j = k
    · subst h
      simp only [List.getD_eq_getElem?_getD, List.getElem?_set_self hj, Nat.lt_irrefl, if_false, Nat.lt_succ_self, if_true, Option.getD_some]
      omega
    · simp only [List.getD_eq_getElem?_getD, List.getElem?_set_ne h]
      split <;> split <;> omega
theorem pSum_set {l : List Int} {j : Nat} (hj : j < l.length) {v : Int} : pSum (l.set j v) = pSum l + v - l.getD j 0 := by
  unfold pSum
  rw [List.length_set, sumK_set hj _ (Nat.le_refl _), if_pos hj]; omega
def chosen (ord : List Int) (L i : Nat) : Bool := (List.range L).any fun j => decide ((ord.getD j 0).toNat = i)
theorem chosen_iff {ord : List Int} {L i : Nat} : chosen ord L i = true ↔ ∃ j, j < L ∧ (ord.getD j 0).toNat = i := by
  simp [chosen]
theorem split_get {a : Int} {ps : List Int} (h : SpOk a ps) {n : Nat} (hn : n = ps.length) (hso : SoK (fun x => restQ a ps (pSum ps) x) n (n - 1) (sortedQ a ps)) : ∀ L, L ≤ n → ∀ i, i < n → (incF (quotK a ps n) (sortedQ a ps) L).getD i 0 = quotQ a ps i + (if chosen (sortedQ a ps) L i then 1 else 0)
  | 0, _, i, hi => by simp [incF, quotK, chosen, List.getD_eq_getElem?_getD, hi]
  | L + 1, hL, i, hi => by
    have hlo := hso.lo L (by omega)
    have hj : ((sortedQ a ps).getD L 0).toNat < (incF (quotK a ps n) (sortedQ a ps) L).length := by rw [incF_len, quotK_len]; omega
    have ih := split_get h hn hso L (by omega)
    rw [incF]
    by_cases he : ((sortedQ a ps).getD L 0).toNat = i
    · have hc : chosen (sortedQ a ps) (L + 1) i = true := chosen_iff.2 ⟨L, by omega, he⟩
      have hc' : chosen (sortedQ a ps) L i = false := by
        cases hq : chosen (sortedQ a ps) L i
        · rfl
        · obtain ⟨j, hjL, hje⟩ := chosen_iff.1 hq
          have h5 := hso.so j L hjL (by omega)
          have h6 := hso.lo j (by omega)
          have h7 : (sortedQ a ps).getD j 0 = (sortedQ a ps).getD L 0 := by omega
          rw [h7] at h5
          unfold ltR at h5; omega
      have := ih i hi
      rw [hc'] at this
      rw [he, hc]
      rw [he] at hj
      rw [List.getD_eq_getElem?_getD, List.getElem?_set_self hj, Option.getD_some, this]
      simp
    · have hc : chosen (sortedQ a ps) (L + 1) i = chosen (sortedQ a ps) L i := by
        rw [Bool.eq_iff_iff, chosen_iff, chosen_iff]
        constructor
        · rintro ⟨j, hjL, hje⟩
          rcases Nat.lt_or_eq_of_le (Nat.le_of_lt_succ hjL) with h1 | h1
          · exact ⟨j, h1, hje⟩
          · subst h1; exact absurd hje he
        · rintro ⟨j, hjL, hje⟩; exact ⟨j, by omega, hje⟩
      rw [hc, ← ih i hi, List.getD_eq_getElem?_getD, List.getElem?_set_ne he, ← List.getD_eq_getElem?_getD]
theorem inc_sum {out ord : List Int} {n : Nat} (ho : out.length = n) (hb : ∀ j, j < n → (ord.getD j 0).toNat < n) : ∀ L, L ≤ n → pSum (incF out ord L) = pSum out + L
  | 0, _ => by simp [incF]
  | L + 1, hL => by
    rw [incF, pSum_set (by rw [incF_len, ho]; exact hb L (by omega)), inc_sum ho hb L (by omega)]; omega
structure SplitIs (a : Int) (ps l : List Int) : Prop where
  len : l.length = ps.length
  sum : pSum l = a
  lo : ∀ i, i < ps.length → 0 ≤ l.getD i 0 ∧ l.getD i 0 ≤ 999
  near : ∀ i, i < ps.length → a * ps.getD i 0 - pSum ps < l.getD i 0 * pSum ps ∧ l.getD i 0 * pSum ps < a * ps.getD i 0 + pSum ps
  same : ∀ i k, i < ps.length → k < i → ps.getD k 0 = ps.getD i 0 → l.getD i 0 ≤ l.getD k 0 ∧ l.getD k 0 ≤ l.getD i 0 + 1
theorem part_le {ps : List Int} (h : ∀ p ∈ ps, 0 ≤ p ∧ p ≤ 9) {i : Nat} (hi : i < ps.length) : ∀ k, i < k → k ≤ ps.length → ps.getD i 0 ≤ sumK (fun i => ps.getD i 0) k
  | 0, h0, _ => absurd h0 (Nat.not_lt_zero _)
  | k + 1, hk, hl => by
    rw [sumK]
    have h1 := (h _ (gMem (d := 0) (show k < ps.length by omega))).1
    have h2 := (sumK_bd (f := fun i => ps.getD i 0) (c := 9) (k := k) fun j hj => h _ (gMem (by omega))).1
    by_cases he : i = k
    · subst he; omega
    · have := part_le h hi k (by omega) (by omega); omega
def sumG (r : Int → Int) (l : List Int) : Int := sumK (fun i => r (l.getD i 0)) l.length
theorem sumG_setK {r : Int → Int} {l : List Int} {j : Nat} (hj : j < l.length) {v : Int} : ∀ k, k ≤ l.length → sumK (fun i => r ((l.set j v).getD i 0)) k = sumK (fun i => r (l.getD i 0)) k + (if j < k then r v - r (l.getD j 0) else 0)
  | 0, _ => by simp [sumK]
  | k + 1, hk => by
    rw [sumK, sumK, sumG_setK hj k (by omega)]
    by_cases h : j = k
    · subst h
      simp only [List.getD_eq_getElem?_getD, List.getElem?_set_self hj, Nat.lt_irrefl, if_false, Nat.lt_succ_self, if_true, Option.getD_some]
      omega
    · simp only [List.getD_eq_getElem?_getD, List.getElem?_set_ne h]
      split <;> split <;> omega
theorem sumG_set {r : Int → Int} {l : List Int} {j : Nat} (hj : j < l.length) {v : Int} : sumG r (l.set j v) = sumG r l + (r v - r (l.getD j 0)) := by
  unfold sumG
  rw [List.length_set, sumG_setK hj _ (Nat.le_refl _), if_pos hj]
theorem sumG_swap {r : Int → Int} {l : List Int} {j : Nat} (hj : j + 1 < l.length) : sumG r (swapL l j) = sumG r l := by
  unfold swapL
  rw [sumG_set (by rw [List.length_set]; omega), sumG_set hj]
  have : (l.set (j + 1) (l.getD j 0)).getD j 0 = l.getD j 0 := by simp only [List.getD_eq_getElem?_getD, List.getElem?_set_ne (show j + 1 ≠ j by omega)]
  rw [this]; omega
theorem sumG_bub {r : Int → Int} {c : Int → Int → Int} : ∀ (j : Nat) (l : List Int), j < l.length → sumG r (bub c l j) = sumG r l
  | 0, l, _ => rfl
  | j + 1, l, hj => by
    rw [bub]
    split
    · rw [sumG_bub j _ (by rw [swapL_len]; omega), sumG_swap hj]
    · rfl
theorem sumG_isort {r : Int → Int} {c : Int → Int → Int} {l : List Int} : ∀ k, k < l.length → sumG r (isortK c l k) = sumG r l ∧ (isortK c l k).length = l.length
  | 0, _ => ⟨rfl, rfl⟩
  | k + 1, hk => by
    obtain ⟨h1, h2⟩ := sumG_isort (r := r) (c := c) (l := l) k (by omega)
    rw [isortK, sumG_bub _ _ (by omega), bub_len]
    exact ⟨h1, h2⟩
theorem sumK_tail {f : Nat → Int} {j : Nat} : ∀ n, j ≤ n → (∀ i, j ≤ i → i < n → f i = 0) → sumK f n = sumK f j
  | 0, hj, _ => by rw [show j = 0 by omega]
  | n + 1, hj, h => by
    rcases Nat.lt_or_eq_of_le hj with h1 | h1
    · rw [sumK, sumK_tail n (by omega) (fun i h2 h3 => h i h2 (by omega)), h n (by omega) (by omega)]; omega
    · rw [h1]
theorem rests_chosen {a : Int} {ps : List Int} (h : SpOk a ps) (hso : SoK (fun x => restQ a ps (pSum ps) x) ps.length (ps.length - 1) (sortedQ a ps)) {L : Nat} (hL : (L : Int) = leftK a ps ps.length) {j : Nat} (hj : j < L) : 0 < restQ a ps (pSum ps) ((sortedQ a ps).getD j 0) := by
  have hl := h.l
  obtain ⟨l1, l2⟩ := left_bd h
  have hin : ∀ j, j < ps.length → 0 ≤ (sortedQ a ps).getD j 0 ∧ ((sortedQ a ps).getD j 0).toNat < ps.length := fun j hj => by
    have := hso.lo j (by omega); omega
  have hb : ∀ j, j < ps.length → 0 ≤ restQ a ps (pSum ps) ((sortedQ a ps).getD j 0) ∧ restQ a ps (pSum ps) ((sortedQ a ps).getD j 0) ≤ pSum ps - 1 := fun j hj => by
    obtain ⟨_, _, h3, h4⟩ := dv_bd h.d (hin j hj).2
    omega
  rcases Int.lt_or_le 0 (restQ a ps (pSum ps) ((sortedQ a ps).getD j 0)) with hc | hc
  · exact hc
  · have hz : ∀ i, j ≤ i → i < ps.length → restQ a ps (pSum ps) ((sortedQ a ps).getD i 0) = 0 := fun i h1 h2 => by
      rcases Nat.lt_or_eq_of_le h1 with h3 | h3
      · have h5 := hso.so j i h3 (by omega)
        have h6 := hb i h2
        unfold ltR at h5
        simp only [] at h5
        omega
      · have := hb i h2; subst h3; omega
    have e1 : sumG (fun x => restQ a ps (pSum ps) x) (sortedQ a ps) = sumK (fun i => restQ a ps (pSum ps) i) ps.length := by
      have h1 := (sumG_isort (r := fun x => restQ a ps (pSum ps) x) (c := cmpQ a ps (pSum ps)) (l := ordK ps.length) (ps.length - 1) (by rw [ordK_len]; omega)).1
      rw [show isortK (cmpQ a ps (pSum ps)) (ordK ps.length) (ps.length - 1) = sortedQ a ps by rw [sortedQ, isort, ordK_len]] at h1
      rw [h1]
      unfold sumG
      rw [ordK_len]
      exact sumK_congr fun i hi => by rw [ord_get hi]
    have e2 : sumG (fun x => restQ a ps (pSum ps) x) (sortedQ a ps) = sumK (fun i => restQ a ps (pSum ps) ((sortedQ a ps).getD i 0)) j := by
      unfold sumG
      rw [hso.len]
      exact sumK_tail ps.length (by omega) hz
    have e3 := (sumK_bd (f := fun i => restQ a ps (pSum ps) ((sortedQ a ps).getD i 0)) (c := pSum ps - 1) (k := j) fun i hi => hb i (by omega)).2
    have e4 : a * pSum ps = pSum ps * sumK (quotQ a ps) ps.length + sumK (fun i => restQ a ps (pSum ps) i) ps.length := by
      rw [← sumK_mul (quotQ a ps), ← sumK_add, show a * pSum ps = sumK (fun i => a * ps.getD i 0) ps.length from (sumK_mul _ _ _).symm]
      exact sumK_congr fun i hi => (quot_bd h hi).1
    have e5 : pSum ps * (L : Int) = sumK (fun i => restQ a ps (pSum ps) i) ps.length := by
      rw [hL]; unfold leftK; rw [Int.mul_sub, Int.mul_comm (pSum ps) a]; omega
    have hs := h.d.s
    have e6 : (j : Int) * (pSum ps - 1) ≤ (j : Int) * pSum ps := Int.mul_le_mul_of_nonneg_left (by omega) (by omega)
    have e7 : (j : Int) * pSum ps < (L : Int) * pSum ps := Int.mul_lt_mul_of_pos_right (by omega) hs.1
    rw [Int.mul_comm] at e5
    omega
theorem split_is {a : Int} {ps : List Int} (h : SpOk a ps) : SplitIs a ps (splitL a ps) := by
  have hl := h.l
  have hso := isort_so (r := fun x => restQ a ps (pSum ps) x) (c := cmpQ a ps (pSum ps)) (fun _ _ => rfl) (ps.length - 1) (show ps.length - 1 < ps.length by omega)
  rw [show isortK (cmpQ a ps (pSum ps)) (ordK ps.length) (ps.length - 1) = sortedQ a ps by rw [sortedQ, isort, ordK_len]] at hso
  obtain ⟨l1, l2⟩ := left_bd h
  obtain ⟨L, hL⟩ : ∃ L : Nat, (L : Int) = leftK a ps ps.length := ⟨_, Int.toNat_of_nonneg l1⟩
  have hLt : (leftK a ps ps.length).toNat = L := by omega
  have get : ∀ i, i < ps.length → (splitL a ps).getD i 0 = quotQ a ps i + (if chosen (sortedQ a ps) L i then 1 else 0) := fun i hi => by
    rw [splitL, hLt]; exact split_get h rfl hso L (by omega) i hi
  have hin : ∀ j, j < ps.length → 0 ≤ (sortedQ a ps).getD j 0 ∧ ((sortedQ a ps).getD j 0).toNat < ps.length := fun j hj => by
    have := hso.lo j (by omega); omega
  have near : ∀ i, i < ps.length → a * ps.getD i 0 - pSum ps < (splitL a ps).getD i 0 * pSum ps ∧ (splitL a ps).getD i 0 * pSum ps < a * ps.getD i 0 + pSum ps := fun i hi => by
    obtain ⟨h1, h2, h3⟩ := quot_bd h hi
    obtain ⟨d1, d2, d3, d4⟩ := dv_bd h.d (i := (i : Int)) (by rw [Int.toNat_natCast]; exact hi)
    have hs := h.d.s
    rw [get i hi]
    cases hc : chosen (sortedQ a ps) L i
    · simp only [Bool.false_eq_true, if_false, Int.add_zero]
      rw [h1, Int.mul_comm (quotQ a ps i)]; omega
    · obtain ⟨j, hj, hje⟩ := chosen_iff.1 hc
      have hr := rests_chosen h hso hL hj
      have : (sortedQ a ps).getD j 0 = (i : Int) := by have := hin j (by omega); omega
      rw [this] at hr
      simp only [if_true]
      rw [h1, Int.add_mul, Int.mul_comm (quotQ a ps i)]; omega
  refine ⟨by rw [splitL, incF_len, quotK_len], ?_, ?_, near, ?_⟩
  · rw [splitL, hLt, inc_sum (n := ps.length) (quotK_len _ _ _) (fun j hj => (hin j hj).2) L (by omega)]
    have : pSum (quotK a ps ps.length) = sumK (quotQ a ps) ps.length := by
      unfold pSum
      rw [quotK_len]
      exact sumK_congr fun i hi => by simp [quotK, List.getD_eq_getElem?_getD, hi]
    rw [this, hL, leftK]; omega
  · intro i hi
    obtain ⟨h1, h2, h3⟩ := quot_bd h hi
    have hg := get i hi
    refine ⟨by rw [hg]; split <;> omega, ?_⟩
    have hn := (near i hi).2
    have hs := h.d.s
    have hle := part_le h.d.p hi ps.length hi (Nat.le_refl _)
    have ha := h.d.a
    have : a * ps.getD i 0 ≤ a * pSum ps := Int.mul_le_mul_of_nonneg_left hle ha.1
    have h4 : (splitL a ps).getD i 0 * pSum ps < (a + 1) * pSum ps := by rw [Int.add_mul]; omega
    have := Int.lt_of_mul_lt_mul_right h4 (by omega)
    omega
  · intro i k hi hki he
    have hk : k < ps.length := by omega
    rw [get i hi, get k hk]
    have hq : quotQ a ps k = quotQ a ps i := by unfold quotQ; rw [he]
    have hr : restQ a ps (pSum ps) k = restQ a ps (pSum ps) i := by unfold restQ; rw [Int.toNat_natCast, Int.toNat_natCast, he]
    rw [hq]
    have : chosen (sortedQ a ps) L i = true → chosen (sortedQ a ps) L k = true := fun hc => by
      obtain ⟨j, hj, hje⟩ := chosen_iff.1 hc
      obtain ⟨j', hj', hje'⟩ := hso.has k hk
      rw [hso.len] at hj'
      refine chosen_iff.2 ⟨j', ?_, by omega⟩
      rcases Nat.lt_or_ge j' L with h1 | h1
      · exact h1
      · have h5 := hso.so j j' (by omega) (by omega)
        have h6 : (sortedQ a ps).getD j 0 = (i : Int) := by have := hin j (by omega); omega
        rw [h6, hje'] at h5
        unfold ltR at h5
        simp only [] at h5
        omega
    cases h1 : chosen (sortedQ a ps) L i <;> cases h2 : chosen (sortedQ a ps) L k
    · simp; omega
    · simp; omega
    · have := this h1
      rw [h2] at this; cases this
    · simp; omega
end Go.Sym.B
namespace Go.Sym.B
open Go Go.Sym Go.Proofs Go.Sym.C
theorem sum30_fn (l : List Int) (hl : l.length ≤ 10000) (hb : ∀ x ∈ l, 0 ≤ x ∧ x ≤ 1000000) : FnV Try.prog 30 [aInts l] (aI (pSum l)) := by
  have env : Env (fun _ => True) Try.prog tyB (tab []) := mkEnv trivial
  refine Fn.of (A := fun _ => True) (n0 := 0) (D := noD) (Fn0 Try.func30 rfl (fun vs w => by kernel_rfl) (by kernel_rfl)) (by simp) (by simp [AV.ids, AV.idsL, aInts]) (fun i o h => by cases h) (fun _ _ _ _ => trivial) noD_ok ?_
  have big : (100000 : Nat) ≤ maxLen := by decide
  repeat' (first | refine sym_seq ?_ | refine sym_block ?_ | refine sym_skip ?_ | refine sym_label ?_ | refine sym_exit ?_ | refine sym_ret ?_ | refine thenK_n ?_ | refine thenK_x ?_ | refine thenK_r ?_ | refine blockK_n ?_ | refine blockK_r ?_ | refine blockK_hit ?_ | refine blockK_miss (by decide) ?_ | (refine sym_reg env fun Q hQ => ?_; simp only [vks, Nat.reduceEqDiff, Nat.reduceAdd, Nat.reduceMul, Nat.reduceSub, Nat.reduceLeDiff, reduceCtorEq, ↓reduceIte, ↓reduceDIte, Int.reduceToNat, Int.reduceLE, Int.reduceLT, Int.reduceEq, Int.reduceNeg, ty3, ti3, ty22, ti22, aI, aB, manyS, aInts, gInt, eInt]; (try simp only [ite_and]); (repeat' (first | with_reducible assumption | refine And.intro ?_ ?_ | intro hp)); all_goals (first | (refine hQ _ ?_; clear hQ; clear Q) | omega | assumption | (with_reducible rfl) | (refine drawB_of ?_; kernel_rfl) | skip)) | (refine sym_cd (by simp only [vks, Nat.reduceEqDiff, Nat.reduceAdd, Nat.reduceMul, Nat.reduceSub, Nat.reduceLeDiff, reduceCtorEq, ↓reduceIte, ↓reduceDIte, Int.reduceToNat, Int.reduceLE, Int.reduceLT, Int.reduceEq, Int.reduceNeg, ty3, ti3, ty22, ti22, aI, aB, manyS, aInts, gInt, eInt]; rfl) (fun h => ?_) (fun h => ?_) <;> (try simp only [decide_eq_true_eq, decide_eq_false_iff_not, Bool.not_eq_true', Bool.not_eq_false', Bool.and_eq_true, Bool.or_eq_false_iff, Bool.and_eq_false_iff, Bool.or_eq_true, not_true_eq_false, not_false_eq_true, reduceCtorEq] at h)))
  refine sym_loop (fun k : { k : Nat // k ≤ l.length } => manyS l k.1) (fun k => l.length - k.1) ⟨0, Nat.zero_le _⟩ ?_ fun ⟨k, hk⟩ => ?_
  · (refine Le.ok some [] ⟨?_, ?_, ?_, ?_, ?_, ?_, ?_, ?_, ?_, ?_, ?_⟩; all_goals (try simp only [leT, leH, leO, ADf.leL, imgs, idsT, idsH, List.filterMap_cons, List.filterMap_nil, List.flatMap_nil, Nat.lt_irrefl, Nat.not_lt_zero, vks, Nat.reduceEqDiff, Nat.reduceAdd, Nat.reduceMul, Nat.reduceSub, Nat.reduceLeDiff, reduceCtorEq, ↓reduceIte, ↓reduceDIte, Int.reduceToNat, Int.reduceLE, Int.reduceLT, Int.reduceEq, Int.reduceNeg, ty3, ti3, ty22, ti22, aI, aB, manyS, aInts, gInt, eInt]))
    all_goals first | rfl | simp [sumK]
  · repeat' (first | refine sym_seq ?_ | refine sym_block ?_ | refine sym_skip ?_ | refine sym_label ?_ | refine sym_exit ?_ | refine sym_ret ?_ | refine thenK_n ?_ | refine thenK_x ?_ | refine thenK_r ?_ | refine blockK_n ?_ | refine blockK_r ?_ | refine blockK_hit ?_ | refine blockK_miss (by decide) ?_)
    (refine sym_reg env fun Q hQ => ?_; simp only [vks, Nat.reduceEqDiff, Nat.reduceAdd, Nat.reduceMul, Nat.reduceSub, Nat.reduceLeDiff, reduceCtorEq, ↓reduceIte, ↓reduceDIte, Int.reduceToNat, Int.reduceLE, Int.reduceLT, Int.reduceEq, Int.reduceNeg, ty3, ti3, ty22, ti22, aI, aB, manyS, aInts, gInt, eInt]; (try simp only [ite_and]); (repeat' (first | with_reducible assumption | refine And.intro ?_ ?_ | intro hp)); all_goals (first | (refine hQ _ ?_; clear hQ; clear Q) | omega | assumption | (with_reducible rfl) | (refine drawB_of ?_; kernel_rfl) | skip))
    repeat' (first | refine sym_seq ?_ | refine sym_block ?_ | refine sym_skip ?_ | refine sym_label ?_ | refine sym_exit ?_ | refine sym_ret ?_ | refine thenK_n ?_ | refine thenK_x ?_ | refine thenK_r ?_ | refine blockK_n ?_ | refine blockK_r ?_ | refine blockK_hit ?_ | refine blockK_miss (by decide) ?_)
    (refine sym_cd (by simp only [vks, Nat.reduceEqDiff, Nat.reduceAdd, Nat.reduceMul, Nat.reduceSub, Nat.reduceLeDiff, reduceCtorEq, ↓reduceIte, ↓reduceDIte, Int.reduceToNat, Int.reduceLE, Int.reduceLT, Int.reduceEq, Int.reduceNeg, ty3, ti3, ty22, ti22, aI, aB, manyS, aInts, gInt, eInt]; rfl) (fun h => ?_) (fun h => ?_) <;> (try simp only [decide_eq_true_eq, decide_eq_false_iff_not, Bool.not_eq_true', Bool.not_eq_false', Bool.and_eq_true, Bool.or_eq_false_iff, Bool.and_eq_false_iff, Bool.or_eq_true, not_true_eq_false, not_false_eq_true, reduceCtorEq] at h))
    · have hlt : k < l.length := by omega
      have e9 := wrap_succ hlt (show l.length ≤ maxLen by omega)
      have s1 := sumK_bd (f := fun i => l.getD i 0) (c := 1000000) (k := k) fun i hi => hb _ (gMem (by omega))
      have s2 := hb _ (gMem (d := 0) hlt)
      have e8 : IntKind.wrap .i64 (sumK (fun i => l.getD i 0) k + l.getD k 0) = sumK (fun i => l.getD i 0) (k + 1) := wrap64 (by omega) (by omega)
      repeat' (first | refine sym_seq ?_ | refine sym_block ?_ | refine sym_skip ?_ | refine sym_label ?_ | refine sym_exit ?_ | refine sym_ret ?_ | refine thenK_n ?_ | refine thenK_x ?_ | refine thenK_r ?_ | refine blockK_n ?_ | refine blockK_r ?_ | refine blockK_hit ?_ | refine blockK_miss (by decide) ?_ | (refine sym_reg env fun Q hQ => ?_; simp only [vks, Nat.reduceEqDiff, Nat.reduceAdd, Nat.reduceMul, Nat.reduceSub, Nat.reduceLeDiff, reduceCtorEq, ↓reduceIte, ↓reduceDIte, Int.reduceToNat, Int.reduceLE, Int.reduceLT, Int.reduceEq, Int.reduceNeg, ty3, ti3, ty22, ti22, aI, aB, manyS, aInts, gInt, eInt, e8, e9]; (try simp only [ite_and]); (repeat' (first | with_reducible assumption | refine And.intro ?_ ?_ | intro hp)); all_goals (first | (refine hQ _ ?_; clear hQ; clear Q) | omega | assumption | (with_reducible rfl) | (refine drawB_of ?_; kernel_rfl) | skip)) | (refine sym_cd (by simp only [vks, Nat.reduceEqDiff, Nat.reduceAdd, Nat.reduceMul, Nat.reduceSub, Nat.reduceLeDiff, reduceCtorEq, ↓reduceIte, ↓reduceDIte, Int.reduceToNat, Int.reduceLE, Int.reduceLT, Int.reduceEq, Int.reduceNeg, ty3, ti3, ty22, ti22, aI, aB, manyS, aInts, gInt, eInt, e8, e9]; rfl) (fun h => ?_) (fun h => ?_) <;> (try simp only [decide_eq_true_eq, decide_eq_false_iff_not, Bool.not_eq_true', Bool.not_eq_false', Bool.and_eq_true, Bool.or_eq_false_iff, Bool.and_eq_false_iff, Bool.or_eq_true, not_true_eq_false, not_false_eq_true, reduceCtorEq] at h)))
      refine ⟨⟨k + 1, hlt⟩, by show l.length - (k + 1) < l.length - k; omega, ?_⟩
      (refine Le.ok some [] ⟨?_, ?_, ?_, ?_, ?_, ?_, ?_, ?_, ?_, ?_, ?_⟩; all_goals (try simp only [leT, leH, leO, ADf.leL, imgs, idsT, idsH, List.filterMap_cons, List.filterMap_nil, List.flatMap_nil, Nat.lt_irrefl, Nat.not_lt_zero, vks, Nat.reduceEqDiff, Nat.reduceAdd, Nat.reduceMul, Nat.reduceSub, Nat.reduceLeDiff, reduceCtorEq, ↓reduceIte, ↓reduceDIte, Int.reduceToNat, Int.reduceLE, Int.reduceLT, Int.reduceEq, Int.reduceNeg, ty3, ti3, ty22, ti22, aI, aB, manyS, aInts, gInt, eInt]))
      all_goals first | rfl | (simp [e9]; done)
    · have hkn : k = l.length := by omega
      subst hkn
      repeat' (first | refine sym_seq ?_ | refine sym_block ?_ | refine sym_skip ?_ | refine sym_label ?_ | refine sym_exit ?_ | refine sym_ret ?_ | refine thenK_n ?_ | refine thenK_x ?_ | refine thenK_r ?_ | refine blockK_n ?_ | refine blockK_r ?_ | refine blockK_hit ?_ | refine blockK_miss (by decide) ?_ | (refine sym_reg env fun Q hQ => ?_; simp only [vks, Nat.reduceEqDiff, Nat.reduceAdd, Nat.reduceMul, Nat.reduceSub, Nat.reduceLeDiff, reduceCtorEq, ↓reduceIte, ↓reduceDIte, Int.reduceToNat, Int.reduceLE, Int.reduceLT, Int.reduceEq, Int.reduceNeg, ty3, ti3, ty22, ti22, aI, aB, manyS, aInts, gInt, eInt]; (try simp only [ite_and]); (repeat' (first | with_reducible assumption | refine And.intro ?_ ?_ | intro hp)); all_goals (first | (refine hQ _ ?_; clear hQ; clear Q) | omega | assumption | (with_reducible rfl) | (refine drawB_of ?_; kernel_rfl) | skip)) | (refine sym_cd (by simp only [vks, Nat.reduceEqDiff, Nat.reduceAdd, Nat.reduceMul, Nat.reduceSub, Nat.reduceLeDiff, reduceCtorEq, ↓reduceIte, ↓reduceDIte, Int.reduceToNat, Int.reduceLE, Int.reduceLT, Int.reduceEq, Int.reduceNeg, ty3, ti3, ty22, ti22, aI, aB, manyS, aInts, gInt, eInt]; rfl) (fun h => ?_) (fun h => ?_) <;> (try simp only [decide_eq_true_eq, decide_eq_false_iff_not, Bool.not_eq_true', Bool.not_eq_false', Bool.and_eq_true, Bool.or_eq_false_iff, Bool.and_eq_false_iff, Bool.or_eq_true, not_true_eq_false, not_false_eq_true, reduceCtorEq] at h)))
      (simp only [retK, leaveA, resL, tupA, rd, wCells_some, wRow_some, Try.results30, vks, Nat.reduceEqDiff, Nat.reduceAdd, Nat.reduceMul, Nat.reduceSub, Nat.reduceLeDiff, reduceCtorEq, ↓reduceIte, ↓reduceDIte, Int.reduceToNat, Int.reduceLE, Int.reduceLT, Int.reduceEq, Int.reduceNeg, ty3, ti3, ty22, ti22, aI, aB, manyS, aInts, gInt, eInt]; refine Fin.val rfl ?_; (try simp only [AV.le, AV.leL]))
      all_goals first | rfl | (simp [pSum]; done)
theorem e30 {A : Frm → Prop} : EntryOK A Try.prog 30 (valE true s83) := valE_ok fun vs hv h => by
  clear hv
  unfold s83 at h ⊢
  split at h
  · refine ⟨trivial, fun _ => trivial, ?_⟩
    have := sum30_fn (List.map dInt _) (by rw [List.length_map]; exact h.2.1) h.2.2
    simp only [aInts, ← h.1] at this
    exact this
  · exact h.elim
theorem counted6 {ps : List Int} (h : 1 ≤ ps.length ∧ ps.length ≤ 6) : countedE ps.length 1 6 = 0 := by unfold countedE; rw [if_neg (by omega), if_neg (by omega)]
theorem parts0 {ps : List Int} (h : ∀ p ∈ ps, 0 ≤ p ∧ p ≤ 9) : firstE (errs ps.length (partE ps)) = 0 := by
  have hall : ∀ E : List Int, (∀ e ∈ E, e = 0) → firstE E = 0 := fun E => by
    induction E with
    | nil => intro _; rfl
    | cons e E ih => intro h; rw [firstE, if_pos (h e List.mem_cons_self)]; exact ih fun x hx => h x (List.mem_cons_of_mem _ hx)
  refine hall _ fun e he => ?_
  obtain ⟨j, hj, rfl⟩ := List.mem_map.1 he
  have := h _ (gMem (d := 0) (List.mem_range.1 hj))
  unfold partE
  rw [inB_iff.2 this]; rfl
theorem split_mem {a : Int} {ps l : List Int} (h : SplitIs a ps l) : ∀ x ∈ l, 0 ≤ x ∧ x ≤ 1000000 := fun x hx => by
  obtain ⟨j, hj, rfl⟩ := List.getElem_of_mem hx
  have h1 := h.len
  have := h.lo j (by omega)
  simp [List.getD_eq_getElem?_getD, hj] at this
  omega
noncomputable def ct1 (b : Int) (V k : Nat) : St := { t := asg [(2, aB false), (3, .ptr 0 0), (4, .row 1), (5, aI ((V : Int) - (k : Int)))], h := hasg [(0, .cells [.v (.int .u64 (dlS 9 b k).1)]), (1, .row 3 1 ((dlS 9 b k).2.map eInt))], n := 2 }
def ct2 (a : Int) (ps l : List Int) (i : Nat) : St := { t := asg [(2, aB false), (4, aInts ps), (6, aI a), (7, aInts l), (9, aI (pSum ps)), (10, aI i)], h := hasg [], n := 0 }
def ct3 (a : Int) (ps l : List Int) (i k : Nat) : St := { t := asg [(2, aB false), (4, aInts ps), (6, aI a), (7, aInts l), (9, aI (pSum ps)), (10, aI i), (11, aI k)], h := hasg [], n := 0 }
set_option maxRecDepth 100000 in
set_option maxHeartbeats 4000000 in
theorem split6_fn (ns : List Int) (h2 : ns.length ≤ maxLen) : FnV Try.prog 6 [aInts ns] (aB true) := by
  have env : Env (fun _ => True) Try.prog tyB (tab [(19, valE true c19), (20, fnE p20), (21, fnE p21), (22, fnE p22), (24, valE false c24), (30, valE true s83)]) := mkEnv ⟨d19, e20, e21, e22, d24, e30, trivial⟩
  refine Fn.of (A := fun _ => True) (n0 := 0) (D := noD) (Fn0 Try.func6 rfl (fun vs w => by kernel_rfl) (by kernel_rfl)) (by simp) (by simp [AV.ids, AV.idsL, aInts, aI]) (fun i o h => by cases h) (fun _ _ _ _ => trivial) noD_ok ?_
  have big : (100000 : Nat) ≤ maxLen := by decide
  have hu := upV_bd (x := nbS ns) (m := 6 - 1) (by decide)
  obtain ⟨V, hV⟩ : ∃ V : Nat, 1 + upV (nbS ns) (6 - 1) = (V : Int) := ⟨(1 + upV (nbS ns) (6 - 1)).toNat, by omega⟩
  have hV6 : V ≤ 6 := by omega
  have hV1 : 1 ≤ V := by omega
  generalize hb : upS (nbS ns) (6 - 1) = b
  repeat' (first | refine sym_seq ?_ | refine sym_block ?_ | refine sym_skip ?_ | refine sym_label ?_ | refine sym_exit ?_ | refine sym_ret ?_ | refine thenK_n ?_ | refine thenK_x ?_ | refine thenK_r ?_ | refine blockK_n ?_ | refine blockK_r ?_ | refine blockK_hit ?_ | refine blockK_miss (by decide) ?_ | (refine sym_reg env fun Q hQ => ?_; simp only [vks, Nat.reduceEqDiff, Nat.reduceAdd, Nat.reduceMul, Nat.reduceSub, Nat.reduceLeDiff, reduceCtorEq, ↓reduceIte, ↓reduceDIte, Int.reduceToNat, Int.reduceLE, Int.reduceLT, Int.reduceEq, Int.reduceNeg, ty3, ti3, ty22, ti22, ty30, ti30, aI, aB, bgH, ct1, ct2, ct3, aInts, c19, p20, p21, p22, c24, s83, gInt, eInt, mInt, rInt, decide_true, decide_false, List.map_nil, List.length_nil, hV, hb]; (try simp only [ite_and]); (repeat' (first | with_reducible assumption | refine And.intro ?_ ?_ | intro hp)); all_goals (first | (refine hQ _ ?_; clear hQ; clear Q) | omega | assumption | (with_reducible rfl) | (refine drawB_of ?_; kernel_rfl) | skip)) | (refine sym_cd (by simp only [vks, Nat.reduceEqDiff, Nat.reduceAdd, Nat.reduceMul, Nat.reduceSub, Nat.reduceLeDiff, reduceCtorEq, ↓reduceIte, ↓reduceDIte, Int.reduceToNat, Int.reduceLE, Int.reduceLT, Int.reduceEq, Int.reduceNeg, ty3, ti3, ty22, ti22, ty30, ti30, aI, aB, bgH, ct1, ct2, ct3, aInts, c19, p20, p21, p22, c24, s83, gInt, eInt, mInt, rInt, decide_true, decide_false, List.map_nil, List.length_nil, hV, hb]; rfl) (fun h => ?_) (fun h => ?_) <;> (try simp only [decide_eq_true_eq, decide_eq_false_iff_not, Bool.not_eq_true', Bool.not_eq_false', Bool.and_eq_true, Bool.or_eq_false_iff, Bool.and_eq_false_iff, Bool.or_eq_true, not_true_eq_false, not_false_eq_true, reduceCtorEq] at h)))
  refine sym_loop (fun k : { k : Nat // k ≤ V } => ct1 b V k.1) (fun k => V - k.1) ⟨0, Nat.zero_le _⟩ ?_ fun ⟨k, hk⟩ => ?_
  · (refine Le.ok (fun j => if j = 0 then some 0 else none) [] ⟨?_, ?_, ?_, ?_, ?_, ?_, ?_, ?_, ?_, ?_, ?_⟩; all_goals (try simp only [leT, leH, leO, ADf.leL, imgs, idsT, idsH, List.filterMap_cons, List.filterMap_nil, List.flatMap_nil, Nat.lt_irrefl, Nat.not_lt_zero, vks, Nat.reduceEqDiff, Nat.reduceAdd, Nat.reduceMul, Nat.reduceSub, Nat.reduceLeDiff, reduceCtorEq, ↓reduceIte, ↓reduceDIte, Int.reduceToNat, Int.reduceLE, Int.reduceLT, Int.reduceEq, Int.reduceNeg, ty3, ti3, ty22, ti22, ty30, ti30, aI, aB, bgH, ct1, ct2, ct3, aInts, c19, p20, p21, p22, c24, s83, gInt, eInt, mInt, rInt, decide_true, decide_false, List.map_nil, List.length_nil]))
    all_goals first | rfl | (simp [dlS, hb, hV]; done)
  · repeat' (first | refine sym_seq ?_ | refine sym_block ?_ | refine sym_skip ?_ | refine sym_label ?_ | refine sym_exit ?_ | refine sym_ret ?_ | refine thenK_n ?_ | refine thenK_x ?_ | refine thenK_r ?_ | refine blockK_n ?_ | refine blockK_r ?_ | refine blockK_hit ?_ | refine blockK_miss (by decide) ?_)
    (refine sym_reg env fun Q hQ => ?_; simp only [vks, Nat.reduceEqDiff, Nat.reduceAdd, Nat.reduceMul, Nat.reduceSub, Nat.reduceLeDiff, reduceCtorEq, ↓reduceIte, ↓reduceDIte, Int.reduceToNat, Int.reduceLE, Int.reduceLT, Int.reduceEq, Int.reduceNeg, ty3, ti3, ty22, ti22, ty30, ti30, aI, aB, bgH, ct1, ct2, ct3, aInts, c19, p20, p21, p22, c24, s83, gInt, eInt, mInt, rInt, decide_true, decide_false, List.map_nil, List.length_nil]; (try simp only [ite_and]); (repeat' (first | with_reducible assumption | refine And.intro ?_ ?_ | intro hp)); all_goals (first | (refine hQ _ ?_; clear hQ; clear Q) | omega | assumption | (with_reducible rfl) | (refine drawB_of ?_; kernel_rfl) | skip))
    repeat' (first | refine sym_seq ?_ | refine sym_block ?_ | refine sym_skip ?_ | refine sym_label ?_ | refine sym_exit ?_ | refine sym_ret ?_ | refine thenK_n ?_ | refine thenK_x ?_ | refine thenK_r ?_ | refine blockK_n ?_ | refine blockK_r ?_ | refine blockK_hit ?_ | refine blockK_miss (by decide) ?_)
    (refine sym_cd (by simp only [vks, Nat.reduceEqDiff, Nat.reduceAdd, Nat.reduceMul, Nat.reduceSub, Nat.reduceLeDiff, reduceCtorEq, ↓reduceIte, ↓reduceDIte, Int.reduceToNat, Int.reduceLE, Int.reduceLT, Int.reduceEq, Int.reduceNeg, ty3, ti3, ty22, ti22, ty30, ti30, aI, aB, bgH, ct1, ct2, ct3, aInts, c19, p20, p21, p22, c24, s83, gInt, eInt, mInt, rInt, decide_true, decide_false, List.map_nil, List.length_nil]; rfl) (fun h => ?_) (fun h => ?_) <;> (try simp only [decide_eq_true_eq, decide_eq_false_iff_not, Bool.not_eq_true', Bool.not_eq_false', Bool.and_eq_true, Bool.or_eq_false_iff, Bool.and_eq_false_iff, Bool.or_eq_true, not_true_eq_false, not_false_eq_true, reduceCtorEq] at h))
    · have hlt : k < V := by omega
      have e7 : IntKind.wrap .i64 ((V : Int) - (k : Int) - 1) = (V : Int) - ((k + 1 : Nat) : Int) := by rw [wrap64 (by omega) (by omega)]; omega
      have r3 := dlS_len 9 b k
      have m1 : (k + 1) * 8 ≤ 140737488355328 ∧ k + 1 ≤ maxLen := by omega
      have r1 : (dlS 9 b k).2.map eInt ++ [[.v (.int .i64 (upV (dlS 9 b k).1 9))]] = (dlS 9 b (k + 1)).2.map eInt := by rw [dlS, List.map_append]; rfl
      repeat' (first | refine sym_seq ?_ | refine sym_block ?_ | refine sym_skip ?_ | refine sym_label ?_ | refine sym_exit ?_ | refine sym_ret ?_ | refine thenK_n ?_ | refine thenK_x ?_ | refine thenK_r ?_ | refine blockK_n ?_ | refine blockK_r ?_ | refine blockK_hit ?_ | refine blockK_miss (by decide) ?_ | (refine sym_reg env fun Q hQ => ?_; simp only [vks, Nat.reduceEqDiff, Nat.reduceAdd, Nat.reduceMul, Nat.reduceSub, Nat.reduceLeDiff, reduceCtorEq, ↓reduceIte, ↓reduceDIte, Int.reduceToNat, Int.reduceLE, Int.reduceLT, Int.reduceEq, Int.reduceNeg, ty3, ti3, ty22, ti22, ty30, ti30, aI, aB, bgH, ct1, ct2, ct3, aInts, c19, p20, p21, p22, c24, s83, gInt, eInt, mInt, rInt, decide_true, decide_false, List.map_nil, List.length_nil, e7, r1, r3]; (try simp only [ite_and]); (repeat' (first | with_reducible assumption | refine And.intro ?_ ?_ | intro hp)); all_goals (first | (refine hQ _ ?_; clear hQ; clear Q) | omega | assumption | (with_reducible rfl) | (refine drawB_of ?_; kernel_rfl) | skip)) | (refine sym_cd (by simp only [vks, Nat.reduceEqDiff, Nat.reduceAdd, Nat.reduceMul, Nat.reduceSub, Nat.reduceLeDiff, reduceCtorEq, ↓reduceIte, ↓reduceDIte, Int.reduceToNat, Int.reduceLE, Int.reduceLT, Int.reduceEq, Int.reduceNeg, ty3, ti3, ty22, ti22, ty30, ti30, aI, aB, bgH, ct1, ct2, ct3, aInts, c19, p20, p21, p22, c24, s83, gInt, eInt, mInt, rInt, decide_true, decide_false, List.map_nil, List.length_nil, e7, r1, r3]; rfl) (fun h => ?_) (fun h => ?_) <;> (try simp only [decide_eq_true_eq, decide_eq_false_iff_not, Bool.not_eq_true', Bool.not_eq_false', Bool.and_eq_true, Bool.or_eq_false_iff, Bool.and_eq_false_iff, Bool.or_eq_true, not_true_eq_false, not_false_eq_true, reduceCtorEq] at h)))
      refine ⟨⟨k + 1, hlt⟩, by show V - (k + 1) < V - k; omega, ?_⟩
      (refine Le.ok (fun j => if j = 1 then some 3 else some j) [] ⟨?_, ?_, ?_, ?_, ?_, ?_, ?_, ?_, ?_, ?_, ?_⟩; all_goals (try simp only [leT, leH, leO, ADf.leL, imgs, idsT, idsH, List.filterMap_cons, List.filterMap_nil, List.flatMap_nil, Nat.lt_irrefl, Nat.not_lt_zero, vks, Nat.reduceEqDiff, Nat.reduceAdd, Nat.reduceMul, Nat.reduceSub, Nat.reduceLeDiff, reduceCtorEq, ↓reduceIte, ↓reduceDIte, Int.reduceToNat, Int.reduceLE, Int.reduceLT, Int.reduceEq, Int.reduceNeg, ty3, ti3, ty22, ti22, ty30, ti30, aI, aB, bgH, ct1, ct2, ct3, aInts, c19, p20, p21, p22, c24, s83, gInt, eInt, mInt, rInt, decide_true, decide_false, List.map_nil, List.length_nil]))
      all_goals first | rfl | (simp [dlS]; done)
    · have hkn : k = V := by omega
      subst hkn
      have hl := dlS_len 9 b k
      have hbd := dlS_bd (b := b) (m := 9) (by decide) (by decide) k
      generalize hps : (dlS 9 b k).2 = ps at *
      have hpm2 : ∀ p ∈ ps, 0 ≤ p ∧ p ≤ 1000000 := fun p hp => by have := hbd p hp; omega
      have hl2 : ps.length ≤ 10000 := by omega
      have hl3 : ps.length ≤ maxLen := by omega
      generalize hgb : (dlS 9 b k).1 = gb at *
      have ha := upV_bd (x := gb) (m := 999) (by decide)
      obtain ⟨a, haa⟩ : ∃ a, upV gb 999 = a := ⟨_, rfl⟩
      rw [haa] at ha
      have hra : 0 ≤ a ∧ a ≤ 999 := by omega
      have hl6 : 1 ≤ ps.length ∧ ps.length ≤ 6 := by omega
      have hsb := sumK_bd (f := fun i => ps.getD i 0) (c := 9) (k := ps.length) fun i hi => hbd _ (gMem hi)
      have hsp : 0 ≤ pSum ps ∧ pSum ps ≤ 1000 := ⟨hsb.1, Int.le_trans hsb.2 (by omega)⟩
      have hc0 : countedE ps.length 1 6 = 0 := counted6 hl6
      have hf0 : firstE (errs ps.length (partE ps)) = 0 := parts0 hbd
      have hin : inB a 0 999 = true := inB_iff.2 hra
      repeat' (first | refine sym_seq ?_ | refine sym_block ?_ | refine sym_skip ?_ | refine sym_label ?_ | refine sym_exit ?_ | refine sym_ret ?_ | refine thenK_n ?_ | refine thenK_x ?_ | refine thenK_r ?_ | refine blockK_n ?_ | refine blockK_r ?_ | refine blockK_hit ?_ | refine blockK_miss (by decide) ?_)
      refine sym_le (S' := { t := asg [(2, aB false), (3, .ptr 0 0), (4, aInts ps)], h := hasg [(0, .cells [.v (.int .u64 gb)])], n := 1 }) ?_ ?_
      · (refine Le.ok some [1] ⟨?_, ?_, ?_, ?_, ?_, ?_, ?_, ?_, ?_, ?_, ?_⟩; all_goals (try simp only [leT, leH, leO, ADf.leL, imgs, idsT, idsH, List.filterMap_cons, List.filterMap_nil, List.flatMap_nil, Nat.lt_irrefl, Nat.not_lt_zero, vks, Nat.reduceEqDiff, Nat.reduceAdd, Nat.reduceMul, Nat.reduceSub, Nat.reduceLeDiff, reduceCtorEq, ↓reduceIte, ↓reduceDIte, Int.reduceToNat, Int.reduceLE, Int.reduceLT, Int.reduceEq, Int.reduceNeg, ty3, ti3, ty22, ti22, ty30, ti30, aI, aB, bgH, ct1, ct2, ct3, aInts, c19, p20, p21, p22, c24, s83, gInt, eInt, mInt, rInt, decide_true, decide_false, List.map_nil, List.length_nil]))
        all_goals first | rfl | (simp; done) | exact ⟨_, _, rfl⟩
      by_cases c2 : pSum ps = 0
      · have h3 : splitE a ps = 11 := by unfold splitE; rw [if_neg (by rw [hc0]; simp), if_neg (by rw [hf0]; simp), if_neg (by rw [hin]; simp), if_pos c2]
        have hs : aSplit a ps = .tup [.sl [], .v (.int .i64 11)] := by unfold aSplit; rw [if_pos (by rw [h3]; decide), h3]; rfl
        repeat' (first | refine sym_seq ?_ | refine sym_block ?_ | refine sym_skip ?_ | refine sym_label ?_ | refine sym_exit ?_ | refine sym_ret ?_ | refine thenK_n ?_ | refine thenK_x ?_ | refine thenK_r ?_ | refine blockK_n ?_ | refine blockK_r ?_ | refine blockK_hit ?_ | refine blockK_miss (by decide) ?_ | (refine sym_reg env fun Q hQ => ?_; simp only [vks, Nat.reduceEqDiff, Nat.reduceAdd, Nat.reduceMul, Nat.reduceSub, Nat.reduceLeDiff, reduceCtorEq, ↓reduceIte, ↓reduceDIte, Int.reduceToNat, Int.reduceLE, Int.reduceLT, Int.reduceEq, Int.reduceNeg, ty3, ti3, ty22, ti22, ty30, ti30, aI, aB, bgH, ct1, ct2, ct3, aInts, c19, p20, p21, p22, c24, s83, gInt, eInt, mInt, rInt, decide_true, decide_false, List.map_nil, List.length_nil, haa, hs, c2]; (try simp only [ite_and]); (repeat' (first | with_reducible assumption | refine And.intro ?_ ?_ | intro hp)); all_goals (first | (refine hQ _ ?_; clear hQ; clear Q) | omega | assumption | (with_reducible rfl) | (refine drawB_of ?_; kernel_rfl) | skip)) | (refine sym_cd (by simp only [vks, Nat.reduceEqDiff, Nat.reduceAdd, Nat.reduceMul, Nat.reduceSub, Nat.reduceLeDiff, reduceCtorEq, ↓reduceIte, ↓reduceDIte, Int.reduceToNat, Int.reduceLE, Int.reduceLT, Int.reduceEq, Int.reduceNeg, ty3, ti3, ty22, ti22, ty30, ti30, aI, aB, bgH, ct1, ct2, ct3, aInts, c19, p20, p21, p22, c24, s83, gInt, eInt, mInt, rInt, decide_true, decide_false, List.map_nil, List.length_nil, haa, hs, c2]; rfl) (fun h => ?_) (fun h => ?_) <;> (try simp only [decide_eq_true_eq, decide_eq_false_iff_not, Bool.not_eq_true', Bool.not_eq_false', Bool.and_eq_true, Bool.or_eq_false_iff, Bool.and_eq_false_iff, Bool.or_eq_true, not_true_eq_false, not_false_eq_true, reduceCtorEq] at h)))
        all_goals (simp only [retK, leaveA, resL, tupA, rd, wCells_some, wRow_some, Try.results6, vks, Nat.reduceEqDiff, Nat.reduceAdd, Nat.reduceMul, Nat.reduceSub, Nat.reduceLeDiff, reduceCtorEq, ↓reduceIte, ↓reduceDIte, Int.reduceToNat, Int.reduceLE, Int.reduceLT, Int.reduceEq, Int.reduceNeg, ty3, ti3, ty22, ti22, ty30, ti30, aI, aB, bgH, ct1, ct2, ct3, aInts, c19, p20, p21, p22, c24, s83, gInt, eInt, mInt, rInt, decide_true, decide_false, List.map_nil, List.length_nil]; refine Fin.val rfl ?_; (try simp only [AV.le, AV.leL]))
        all_goals first | (simp; done) | (exfalso; omega) | (simp at *; done)
      · have h3 : splitE a ps = 0 := by unfold splitE; rw [if_neg (by rw [hc0]; simp), if_neg (by rw [hf0]; simp), if_neg (by rw [hin]; simp), if_neg c2]
        have hs : aSplit a ps = .tup [.sl ((splitL a ps).map eInt), .v (.int .i64 0)] := by unfold aSplit; rw [if_neg (by rw [h3]; decide)]; rfl
        have hok : SpOk a ps := ⟨hl6, hra, hbd, by have := hsp.1; omega, hsp.2⟩
        have hsi := split_is hok
        have s1 := hsi.len
        have s2 := hsi.sum
        have s3 : (splitL a ps).length ≤ 10000 := by rw [s1]; exact hl2
        have s4 := split_mem hsi
        generalize hl' : splitL a ps = l at *
        repeat' (first | refine sym_seq ?_ | refine sym_block ?_ | refine sym_skip ?_ | refine sym_label ?_ | refine sym_exit ?_ | refine sym_ret ?_ | refine thenK_n ?_ | refine thenK_x ?_ | refine thenK_r ?_ | refine blockK_n ?_ | refine blockK_r ?_ | refine blockK_hit ?_ | refine blockK_miss (by decide) ?_ | (refine sym_reg env fun Q hQ => ?_; simp only [vks, Nat.reduceEqDiff, Nat.reduceAdd, Nat.reduceMul, Nat.reduceSub, Nat.reduceLeDiff, reduceCtorEq, ↓reduceIte, ↓reduceDIte, Int.reduceToNat, Int.reduceLE, Int.reduceLT, Int.reduceEq, Int.reduceNeg, ty3, ti3, ty22, ti22, ty30, ti30, aI, aB, bgH, ct1, ct2, ct3, aInts, c19, p20, p21, p22, c24, s83, gInt, eInt, mInt, rInt, decide_true, decide_false, List.map_nil, List.length_nil, haa, hs, c2, s1, s2]; (try simp only [ite_and]); (repeat' (first | with_reducible assumption | refine And.intro ?_ ?_ | intro hp)); all_goals (first | (refine hQ _ ?_; clear hQ; clear Q) | omega | assumption | (with_reducible rfl) | (refine drawB_of ?_; kernel_rfl) | skip)) | (refine sym_cd (by simp only [vks, Nat.reduceEqDiff, Nat.reduceAdd, Nat.reduceMul, Nat.reduceSub, Nat.reduceLeDiff, reduceCtorEq, ↓reduceIte, ↓reduceDIte, Int.reduceToNat, Int.reduceLE, Int.reduceLT, Int.reduceEq, Int.reduceNeg, ty3, ti3, ty22, ti22, ty30, ti30, aI, aB, bgH, ct1, ct2, ct3, aInts, c19, p20, p21, p22, c24, s83, gInt, eInt, mInt, rInt, decide_true, decide_false, List.map_nil, List.length_nil, haa, hs, c2, s1, s2]; rfl) (fun h => ?_) (fun h => ?_) <;> (try simp only [decide_eq_true_eq, decide_eq_false_iff_not, Bool.not_eq_true', Bool.not_eq_false', Bool.and_eq_true, Bool.or_eq_false_iff, Bool.and_eq_false_iff, Bool.or_eq_true, not_true_eq_false, not_false_eq_true, reduceCtorEq] at h)))
        refine sym_loop (fun i : { i : Nat // i ≤ ps.length } => ct2 a ps l i.1) (fun i => ps.length - i.1) ⟨0, Nat.zero_le _⟩ ?_ fun ⟨i, hi⟩ => ?_
        · (refine Le.ok some [] ⟨?_, ?_, ?_, ?_, ?_, ?_, ?_, ?_, ?_, ?_, ?_⟩; all_goals (try simp only [leT, leH, leO, ADf.leL, imgs, idsT, idsH, List.filterMap_cons, List.filterMap_nil, List.flatMap_nil, Nat.lt_irrefl, Nat.not_lt_zero, vks, Nat.reduceEqDiff, Nat.reduceAdd, Nat.reduceMul, Nat.reduceSub, Nat.reduceLeDiff, reduceCtorEq, ↓reduceIte, ↓reduceDIte, Int.reduceToNat, Int.reduceLE, Int.reduceLT, Int.reduceEq, Int.reduceNeg, ty3, ti3, ty22, ti22, ty30, ti30, aI, aB, bgH, ct1, ct2, ct3, aInts, c19, p20, p21, p22, c24, s83, gInt, eInt, mInt, rInt, decide_true, decide_false, List.map_nil, List.length_nil]))
          all_goals first | rfl | (simp; done)
        · repeat' (first | refine sym_seq ?_ | refine sym_block ?_ | refine sym_skip ?_ | refine sym_label ?_ | refine sym_exit ?_ | refine sym_ret ?_ | refine thenK_n ?_ | refine thenK_x ?_ | refine thenK_r ?_ | refine blockK_n ?_ | refine blockK_r ?_ | refine blockK_hit ?_ | refine blockK_miss (by decide) ?_)
          (refine sym_reg env fun Q hQ => ?_; simp only [vks, Nat.reduceEqDiff, Nat.reduceAdd, Nat.reduceMul, Nat.reduceSub, Nat.reduceLeDiff, reduceCtorEq, ↓reduceIte, ↓reduceDIte, Int.reduceToNat, Int.reduceLE, Int.reduceLT, Int.reduceEq, Int.reduceNeg, ty3, ti3, ty22, ti22, ty30, ti30, aI, aB, bgH, ct1, ct2, ct3, aInts, c19, p20, p21, p22, c24, s83, gInt, eInt, mInt, rInt, decide_true, decide_false, List.map_nil, List.length_nil, s1]; (try simp only [ite_and]); (repeat' (first | with_reducible assumption | refine And.intro ?_ ?_ | intro hp)); all_goals (first | (refine hQ _ ?_; clear hQ; clear Q) | omega | assumption | (with_reducible rfl) | (refine drawB_of ?_; kernel_rfl) | skip))
          repeat' (first | refine sym_seq ?_ | refine sym_block ?_ | refine sym_skip ?_ | refine sym_label ?_ | refine sym_exit ?_ | refine sym_ret ?_ | refine thenK_n ?_ | refine thenK_x ?_ | refine thenK_r ?_ | refine blockK_n ?_ | refine blockK_r ?_ | refine blockK_hit ?_ | refine blockK_miss (by decide) ?_)
          (refine sym_cd (by simp only [vks, Nat.reduceEqDiff, Nat.reduceAdd, Nat.reduceMul, Nat.reduceSub, Nat.reduceLeDiff, reduceCtorEq, ↓reduceIte, ↓reduceDIte, Int.reduceToNat, Int.reduceLE, Int.reduceLT, Int.reduceEq, Int.reduceNeg, ty3, ti3, ty22, ti22, ty30, ti30, aI, aB, bgH, ct1, ct2, ct3, aInts, c19, p20, p21, p22, c24, s83, gInt, eInt, mInt, rInt, decide_true, decide_false, List.map_nil, List.length_nil, s1]; rfl) (fun h => ?_) (fun h => ?_) <;> (try simp only [decide_eq_true_eq, decide_eq_false_iff_not, Bool.not_eq_true', Bool.not_eq_false', Bool.and_eq_true, Bool.or_eq_false_iff, Bool.and_eq_false_iff, Bool.or_eq_true, not_true_eq_false, not_false_eq_true, reduceCtorEq] at h))
          · have hlt : i < ps.length := by omega
            have hlt2 : i < l.length := by omega
            obtain ⟨n1, n2⟩ := hsi.lo i hlt
            obtain ⟨n3, n4⟩ := hsi.near i hlt
            have hps9 := hbd _ (gMem (d := 0) hlt)
            have hsame := fun k hk => hsi.same i k hlt hk
            obtain ⟨v, hv⟩ : ∃ v, l.getD i 0 = v := ⟨_, rfl⟩
            obtain ⟨u, hu'⟩ : ∃ u, ps.getD i 0 = u := ⟨_, rfl⟩
            obtain ⟨S, hS⟩ : ∃ S, pSum ps = S := ⟨_, rfl⟩
            rw [hv] at n1 n2 n3 n4
            rw [hu'] at n3 n4 hps9
            rw [hS] at n3 n4 hsp
            have b1 : 0 ≤ v * S ∧ v * S ≤ 999 * 1000 := ⟨Int.mul_nonneg n1 hsp.1, Int.mul_le_mul n2 hsp.2 hsp.1 (by decide)⟩
            have b2 : 0 ≤ a * u ∧ a * u ≤ 999 * 9 := ⟨Int.mul_nonneg hra.1 hps9.1, Int.mul_le_mul hra.2 hps9.2 hps9.1 (by decide)⟩
            have wa : IntKind.wrap .i64 (v * S) = v * S := wrap64 (by omega) (by omega)
            have wb : IntKind.wrap .i64 (a * u) = a * u := wrap64 (by omega) (by omega)
            have wc : IntKind.wrap .i64 (a * u - S) = a * u - S := wrap64 (by omega) (by omega)
            have wd : IntKind.wrap .i64 (a * u + S) = a * u + S := wrap64 (by omega) (by omega)
            have e9 : IntKind.wrap .i64 ((i : Int) + 1) = ((i + 1 : Nat) : Int) := by rw [wrap64 (by omega) (by omega)]; rfl
            have c3 : ¬ v < 0 := by omega
            have c4 : ¬ 999 < v := by omega
            have c5 : ¬ v * S ≤ a * u - S := by omega
            have c6 : ¬ a * u + S ≤ v * S := by omega
            repeat' (first | refine sym_seq ?_ | refine sym_block ?_ | refine sym_skip ?_ | refine sym_label ?_ | refine sym_exit ?_ | refine sym_ret ?_ | refine thenK_n ?_ | refine thenK_x ?_ | refine thenK_r ?_ | refine blockK_n ?_ | refine blockK_r ?_ | refine blockK_hit ?_ | refine blockK_miss (by decide) ?_ | (refine sym_reg env fun Q hQ => ?_; simp only [vks, Nat.reduceEqDiff, Nat.reduceAdd, Nat.reduceMul, Nat.reduceSub, Nat.reduceLeDiff, reduceCtorEq, ↓reduceIte, ↓reduceDIte, Int.reduceToNat, Int.reduceLE, Int.reduceLT, Int.reduceEq, Int.reduceNeg, ty3, ti3, ty22, ti22, ty30, ti30, aI, aB, bgH, ct1, ct2, ct3, aInts, c19, p20, p21, p22, c24, s83, gInt, eInt, mInt, rInt, decide_true, decide_false, List.map_nil, List.length_nil, s1, hS, hv, hu', wa, wb, wc, wd, c3, c4, c5, c6]; (try simp only [ite_and]); (repeat' (first | with_reducible assumption | refine And.intro ?_ ?_ | intro hp)); all_goals (first | (refine hQ _ ?_; clear hQ; clear Q) | omega | assumption | (with_reducible rfl) | (refine drawB_of ?_; kernel_rfl) | skip)) | (refine sym_cd (by simp only [vks, Nat.reduceEqDiff, Nat.reduceAdd, Nat.reduceMul, Nat.reduceSub, Nat.reduceLeDiff, reduceCtorEq, ↓reduceIte, ↓reduceDIte, Int.reduceToNat, Int.reduceLE, Int.reduceLT, Int.reduceEq, Int.reduceNeg, ty3, ti3, ty22, ti22, ty30, ti30, aI, aB, bgH, ct1, ct2, ct3, aInts, c19, p20, p21, p22, c24, s83, gInt, eInt, mInt, rInt, decide_true, decide_false, List.map_nil, List.length_nil, s1, hS, hv, hu', wa, wb, wc, wd, c3, c4, c5, c6]; rfl) (fun h => ?_) (fun h => ?_) <;> (try simp only [decide_eq_true_eq, decide_eq_false_iff_not, Bool.not_eq_true', Bool.not_eq_false', Bool.and_eq_true, Bool.or_eq_false_iff, Bool.and_eq_false_iff, Bool.or_eq_true, not_true_eq_false, not_false_eq_true, reduceCtorEq] at h)))
            refine sym_loop (fun k : { k : Nat // k ≤ i } => ct3 a ps l i k.1) (fun k => i - k.1) ⟨0, Nat.zero_le _⟩ ?_ fun ⟨k, hk⟩ => ?_
            · (refine Le.ok some [] ⟨?_, ?_, ?_, ?_, ?_, ?_, ?_, ?_, ?_, ?_, ?_⟩; all_goals (try simp only [leT, leH, leO, ADf.leL, imgs, idsT, idsH, List.filterMap_cons, List.filterMap_nil, List.flatMap_nil, Nat.lt_irrefl, Nat.not_lt_zero, vks, Nat.reduceEqDiff, Nat.reduceAdd, Nat.reduceMul, Nat.reduceSub, Nat.reduceLeDiff, reduceCtorEq, ↓reduceIte, ↓reduceDIte, Int.reduceToNat, Int.reduceLE, Int.reduceLT, Int.reduceEq, Int.reduceNeg, ty3, ti3, ty22, ti22, ty30, ti30, aI, aB, bgH, ct1, ct2, ct3, aInts, c19, p20, p21, p22, c24, s83, gInt, eInt, mInt, rInt, decide_true, decide_false, List.map_nil, List.length_nil]))
              all_goals first | rfl | (simp [hS]; done)
            · repeat' (first | refine sym_seq ?_ | refine sym_block ?_ | refine sym_skip ?_ | refine sym_label ?_ | refine sym_exit ?_ | refine sym_ret ?_ | refine thenK_n ?_ | refine thenK_x ?_ | refine thenK_r ?_ | refine blockK_n ?_ | refine blockK_r ?_ | refine blockK_hit ?_ | refine blockK_miss (by decide) ?_)
              (refine sym_reg env fun Q hQ => ?_; simp only [vks, Nat.reduceEqDiff, Nat.reduceAdd, Nat.reduceMul, Nat.reduceSub, Nat.reduceLeDiff, reduceCtorEq, ↓reduceIte, ↓reduceDIte, Int.reduceToNat, Int.reduceLE, Int.reduceLT, Int.reduceEq, Int.reduceNeg, ty3, ti3, ty22, ti22, ty30, ti30, aI, aB, bgH, ct1, ct2, ct3, aInts, c19, p20, p21, p22, c24, s83, gInt, eInt, mInt, rInt, decide_true, decide_false, List.map_nil, List.length_nil]; (try simp only [ite_and]); (repeat' (first | with_reducible assumption | refine And.intro ?_ ?_ | intro hp)); all_goals (first | (refine hQ _ ?_; clear hQ; clear Q) | omega | assumption | (with_reducible rfl) | (refine drawB_of ?_; kernel_rfl) | skip))
              repeat' (first | refine sym_seq ?_ | refine sym_block ?_ | refine sym_skip ?_ | refine sym_label ?_ | refine sym_exit ?_ | refine sym_ret ?_ | refine thenK_n ?_ | refine thenK_x ?_ | refine thenK_r ?_ | refine blockK_n ?_ | refine blockK_r ?_ | refine blockK_hit ?_ | refine blockK_miss (by decide) ?_)
              (refine sym_cd (by simp only [vks, Nat.reduceEqDiff, Nat.reduceAdd, Nat.reduceMul, Nat.reduceSub, Nat.reduceLeDiff, reduceCtorEq, ↓reduceIte, ↓reduceDIte, Int.reduceToNat, Int.reduceLE, Int.reduceLT, Int.reduceEq, Int.reduceNeg, ty3, ti3, ty22, ti22, ty30, ti30, aI, aB, bgH, ct1, ct2, ct3, aInts, c19, p20, p21, p22, c24, s83, gInt, eInt, mInt, rInt, decide_true, decide_false, List.map_nil, List.length_nil]; rfl) (fun h => ?_) (fun h => ?_) <;> (try simp only [decide_eq_true_eq, decide_eq_false_iff_not, Bool.not_eq_true', Bool.not_eq_false', Bool.and_eq_true, Bool.or_eq_false_iff, Bool.and_eq_false_iff, Bool.or_eq_true, not_true_eq_false, not_false_eq_true, reduceCtorEq] at h))
              · have hki : k < i := by omega
                have e8 : IntKind.wrap .i64 ((k : Int) + 1) = ((k + 1 : Nat) : Int) := by rw [wrap64 (by omega) (by omega)]; rfl
                have hk1 : k < ps.length := by omega
                have hk2 : k < l.length := by omega
                by_cases c7 : ps.getD k 0 = u
                · obtain ⟨q1, q2⟩ := hsame k hki (c7.trans hu'.symm)
                  obtain ⟨y, hy⟩ : ∃ y, l.getD k 0 = y := ⟨_, rfl⟩
                  rw [hv, hy] at q1 q2
                  have wv : IntKind.wrap .i64 (v + 1) = v + 1 := wrap64 (by omega) (by omega)
                  have c8 : ¬ y < v := by omega
                  have c9 : ¬ v + 1 < y := by omega
                  repeat' (first | refine sym_seq ?_ | refine sym_block ?_ | refine sym_skip ?_ | refine sym_label ?_ | refine sym_exit ?_ | refine sym_ret ?_ | refine thenK_n ?_ | refine thenK_x ?_ | refine thenK_r ?_ | refine blockK_n ?_ | refine blockK_r ?_ | refine blockK_hit ?_ | refine blockK_miss (by decide) ?_ | (refine sym_reg env fun Q hQ => ?_; simp only [vks, Nat.reduceEqDiff, Nat.reduceAdd, Nat.reduceMul, Nat.reduceSub, Nat.reduceLeDiff, reduceCtorEq, ↓reduceIte, ↓reduceDIte, Int.reduceToNat, Int.reduceLE, Int.reduceLT, Int.reduceEq, Int.reduceNeg, ty3, ti3, ty22, ti22, ty30, ti30, aI, aB, bgH, ct1, ct2, ct3, aInts, c19, p20, p21, p22, c24, s83, gInt, eInt, mInt, rInt, decide_true, decide_false, List.map_nil, List.length_nil, s1, hv, hu', hy, c7, c8, c9, wv, e8]; (try simp only [ite_and]); (repeat' (first | with_reducible assumption | refine And.intro ?_ ?_ | intro hp)); all_goals (first | (refine hQ _ ?_; clear hQ; clear Q) | omega | assumption | (with_reducible rfl) | (refine drawB_of ?_; kernel_rfl) | skip)) | (refine sym_cd (by simp only [vks, Nat.reduceEqDiff, Nat.reduceAdd, Nat.reduceMul, Nat.reduceSub, Nat.reduceLeDiff, reduceCtorEq, ↓reduceIte, ↓reduceDIte, Int.reduceToNat, Int.reduceLE, Int.reduceLT, Int.reduceEq, Int.reduceNeg, ty3, ti3, ty22, ti22, ty30, ti30, aI, aB, bgH, ct1, ct2, ct3, aInts, c19, p20, p21, p22, c24, s83, gInt, eInt, mInt, rInt, decide_true, decide_false, List.map_nil, List.length_nil, s1, hv, hu', hy, c7, c8, c9, wv, e8]; rfl) (fun h => ?_) (fun h => ?_) <;> (try simp only [decide_eq_true_eq, decide_eq_false_iff_not, Bool.not_eq_true', Bool.not_eq_false', Bool.and_eq_true, Bool.or_eq_false_iff, Bool.and_eq_false_iff, Bool.or_eq_true, not_true_eq_false, not_false_eq_true, reduceCtorEq] at h)))
                  refine ⟨⟨k + 1, hki⟩, by show i - (k + 1) < i - k; omega, ?_⟩
                  (refine Le.ok some [] ⟨?_, ?_, ?_, ?_, ?_, ?_, ?_, ?_, ?_, ?_, ?_⟩; all_goals (try simp only [leT, leH, leO, ADf.leL, imgs, idsT, idsH, List.filterMap_cons, List.filterMap_nil, List.flatMap_nil, Nat.lt_irrefl, Nat.not_lt_zero, vks, Nat.reduceEqDiff, Nat.reduceAdd, Nat.reduceMul, Nat.reduceSub, Nat.reduceLeDiff, reduceCtorEq, ↓reduceIte, ↓reduceDIte, Int.reduceToNat, Int.reduceLE, Int.reduceLT, Int.reduceEq, Int.reduceNeg, ty3, ti3, ty22, ti22, ty30, ti30, aI, aB, bgH, ct1, ct2, ct3, aInts, c19, p20, p21, p22, c24, s83, gInt, eInt, mInt, rInt, decide_true, decide_false, List.map_nil, List.length_nil]))
                  all_goals first | rfl | (simp [e8]; done)
                · repeat' (first | refine sym_seq ?_ | refine sym_block ?_ | refine sym_skip ?_ | refine sym_label ?_ | refine sym_exit ?_ | refine sym_ret ?_ | refine thenK_n ?_ | refine thenK_x ?_ | refine thenK_r ?_ | refine blockK_n ?_ | refine blockK_r ?_ | refine blockK_hit ?_ | refine blockK_miss (by decide) ?_ | (refine sym_reg env fun Q hQ => ?_; simp only [vks, Nat.reduceEqDiff, Nat.reduceAdd, Nat.reduceMul, Nat.reduceSub, Nat.reduceLeDiff, reduceCtorEq, ↓reduceIte, ↓reduceDIte, Int.reduceToNat, Int.reduceLE, Int.reduceLT, Int.reduceEq, Int.reduceNeg, ty3, ti3, ty22, ti22, ty30, ti30, aI, aB, bgH, ct1, ct2, ct3, aInts, c19, p20, p21, p22, c24, s83, gInt, eInt, mInt, rInt, decide_true, decide_false, List.map_nil, List.length_nil, s1, hv, hu', c7, e8]; (try simp only [ite_and]); (repeat' (first | with_reducible assumption | refine And.intro ?_ ?_ | intro hp)); all_goals (first | (refine hQ _ ?_; clear hQ; clear Q) | omega | assumption | (with_reducible rfl) | (refine drawB_of ?_; kernel_rfl) | skip)) | (refine sym_cd (by simp only [vks, Nat.reduceEqDiff, Nat.reduceAdd, Nat.reduceMul, Nat.reduceSub, Nat.reduceLeDiff, reduceCtorEq, ↓reduceIte, ↓reduceDIte, Int.reduceToNat, Int.reduceLE, Int.reduceLT, Int.reduceEq, Int.reduceNeg, ty3, ti3, ty22, ti22, ty30, ti30, aI, aB, bgH, ct1, ct2, ct3, aInts, c19, p20, p21, p22, c24, s83, gInt, eInt, mInt, rInt, decide_true, decide_false, List.map_nil, List.length_nil, s1, hv, hu', c7, e8]; rfl) (fun h => ?_) (fun h => ?_) <;> (try simp only [decide_eq_true_eq, decide_eq_false_iff_not, Bool.not_eq_true', Bool.not_eq_false', Bool.and_eq_true, Bool.or_eq_false_iff, Bool.and_eq_false_iff, Bool.or_eq_true, not_true_eq_false, not_false_eq_true, reduceCtorEq] at h)))
                  refine ⟨⟨k + 1, hki⟩, by show i - (k + 1) < i - k; omega, ?_⟩
                  (refine Le.ok some [] ⟨?_, ?_, ?_, ?_, ?_, ?_, ?_, ?_, ?_, ?_, ?_⟩; all_goals (try simp only [leT, leH, leO, ADf.leL, imgs, idsT, idsH, List.filterMap_cons, List.filterMap_nil, List.flatMap_nil, Nat.lt_irrefl, Nat.not_lt_zero, vks, Nat.reduceEqDiff, Nat.reduceAdd, Nat.reduceMul, Nat.reduceSub, Nat.reduceLeDiff, reduceCtorEq, ↓reduceIte, ↓reduceDIte, Int.reduceToNat, Int.reduceLE, Int.reduceLT, Int.reduceEq, Int.reduceNeg, ty3, ti3, ty22, ti22, ty30, ti30, aI, aB, bgH, ct1, ct2, ct3, aInts, c19, p20, p21, p22, c24, s83, gInt, eInt, mInt, rInt, decide_true, decide_false, List.map_nil, List.length_nil]))
                  all_goals first | rfl | (simp [e8]; done)
              · have hki : k = i := by omega
                subst hki
                repeat' (first | refine sym_seq ?_ | refine sym_block ?_ | refine sym_skip ?_ | refine sym_label ?_ | refine sym_exit ?_ | refine sym_ret ?_ | refine thenK_n ?_ | refine thenK_x ?_ | refine thenK_r ?_ | refine blockK_n ?_ | refine blockK_r ?_ | refine blockK_hit ?_ | refine blockK_miss (by decide) ?_ | (refine sym_reg env fun Q hQ => ?_; simp only [vks, Nat.reduceEqDiff, Nat.reduceAdd, Nat.reduceMul, Nat.reduceSub, Nat.reduceLeDiff, reduceCtorEq, ↓reduceIte, ↓reduceDIte, Int.reduceToNat, Int.reduceLE, Int.reduceLT, Int.reduceEq, Int.reduceNeg, ty3, ti3, ty22, ti22, ty30, ti30, aI, aB, bgH, ct1, ct2, ct3, aInts, c19, p20, p21, p22, c24, s83, gInt, eInt, mInt, rInt, decide_true, decide_false, List.map_nil, List.length_nil, e9]; (try simp only [ite_and]); (repeat' (first | with_reducible assumption | refine And.intro ?_ ?_ | intro hp)); all_goals (first | (refine hQ _ ?_; clear hQ; clear Q) | omega | assumption | (with_reducible rfl) | (refine drawB_of ?_; kernel_rfl) | skip)) | (refine sym_cd (by simp only [vks, Nat.reduceEqDiff, Nat.reduceAdd, Nat.reduceMul, Nat.reduceSub, Nat.reduceLeDiff, reduceCtorEq, ↓reduceIte, ↓reduceDIte, Int.reduceToNat, Int.reduceLE, Int.reduceLT, Int.reduceEq, Int.reduceNeg, ty3, ti3, ty22, ti22, ty30, ti30, aI, aB, bgH, ct1, ct2, ct3, aInts, c19, p20, p21, p22, c24, s83, gInt, eInt, mInt, rInt, decide_true, decide_false, List.map_nil, List.length_nil, e9]; rfl) (fun h => ?_) (fun h => ?_) <;> (try simp only [decide_eq_true_eq, decide_eq_false_iff_not, Bool.not_eq_true', Bool.not_eq_false', Bool.and_eq_true, Bool.or_eq_false_iff, Bool.and_eq_false_iff, Bool.or_eq_true, not_true_eq_false, not_false_eq_true, reduceCtorEq] at h)))
                refine ⟨⟨k + 1, hlt⟩, by show ps.length - (k + 1) < ps.length - k; omega, ?_⟩
                (refine Le.ok some [] ⟨?_, ?_, ?_, ?_, ?_, ?_, ?_, ?_, ?_, ?_, ?_⟩; all_goals (try simp only [leT, leH, leO, ADf.leL, imgs, idsT, idsH, List.filterMap_cons, List.filterMap_nil, List.flatMap_nil, Nat.lt_irrefl, Nat.not_lt_zero, vks, Nat.reduceEqDiff, Nat.reduceAdd, Nat.reduceMul, Nat.reduceSub, Nat.reduceLeDiff, reduceCtorEq, ↓reduceIte, ↓reduceDIte, Int.reduceToNat, Int.reduceLE, Int.reduceLT, Int.reduceEq, Int.reduceNeg, ty3, ti3, ty22, ti22, ty30, ti30, aI, aB, bgH, ct1, ct2, ct3, aInts, c19, p20, p21, p22, c24, s83, gInt, eInt, mInt, rInt, decide_true, decide_false, List.map_nil, List.length_nil]))
                all_goals first | rfl | (simp [e9]; done)
          · have hil : i = ps.length := by omega
            subst hil
            repeat' (first | refine sym_seq ?_ | refine sym_block ?_ | refine sym_skip ?_ | refine sym_label ?_ | refine sym_exit ?_ | refine sym_ret ?_ | refine thenK_n ?_ | refine thenK_x ?_ | refine thenK_r ?_ | refine blockK_n ?_ | refine blockK_r ?_ | refine blockK_hit ?_ | refine blockK_miss (by decide) ?_ | (refine sym_reg env fun Q hQ => ?_; simp only [vks, Nat.reduceEqDiff, Nat.reduceAdd, Nat.reduceMul, Nat.reduceSub, Nat.reduceLeDiff, reduceCtorEq, ↓reduceIte, ↓reduceDIte, Int.reduceToNat, Int.reduceLE, Int.reduceLT, Int.reduceEq, Int.reduceNeg, ty3, ti3, ty22, ti22, ty30, ti30, aI, aB, bgH, ct1, ct2, ct3, aInts, c19, p20, p21, p22, c24, s83, gInt, eInt, mInt, rInt, decide_true, decide_false, List.map_nil, List.length_nil, s1]; (try simp only [ite_and]); (repeat' (first | with_reducible assumption | refine And.intro ?_ ?_ | intro hp)); all_goals (first | (refine hQ _ ?_; clear hQ; clear Q) | omega | assumption | (with_reducible rfl) | (refine drawB_of ?_; kernel_rfl) | skip)) | (refine sym_cd (by simp only [vks, Nat.reduceEqDiff, Nat.reduceAdd, Nat.reduceMul, Nat.reduceSub, Nat.reduceLeDiff, reduceCtorEq, ↓reduceIte, ↓reduceDIte, Int.reduceToNat, Int.reduceLE, Int.reduceLT, Int.reduceEq, Int.reduceNeg, ty3, ti3, ty22, ti22, ty30, ti30, aI, aB, bgH, ct1, ct2, ct3, aInts, c19, p20, p21, p22, c24, s83, gInt, eInt, mInt, rInt, decide_true, decide_false, List.map_nil, List.length_nil, s1]; rfl) (fun h => ?_) (fun h => ?_) <;> (try simp only [decide_eq_true_eq, decide_eq_false_iff_not, Bool.not_eq_true', Bool.not_eq_false', Bool.and_eq_true, Bool.or_eq_false_iff, Bool.and_eq_false_iff, Bool.or_eq_true, not_true_eq_false, not_false_eq_true, reduceCtorEq] at h)))
            (simp only [retK, leaveA, resL, tupA, rd, wCells_some, wRow_some, Try.results6, vks, Nat.reduceEqDiff, Nat.reduceAdd, Nat.reduceMul, Nat.reduceSub, Nat.reduceLeDiff, reduceCtorEq, ↓reduceIte, ↓reduceDIte, Int.reduceToNat, Int.reduceLE, Int.reduceLT, Int.reduceEq, Int.reduceNeg, ty3, ti3, ty22, ti22, ty30, ti30, aI, aB, bgH, ct1, ct2, ct3, aInts, c19, p20, p21, p22, c24, s83, gInt, eInt, mInt, rInt, decide_true, decide_false, List.map_nil, List.length_nil]; refine Fin.val rfl ?_; (try simp only [AV.le, AV.leL]))
            all_goals simp
end Go.Sym.B
