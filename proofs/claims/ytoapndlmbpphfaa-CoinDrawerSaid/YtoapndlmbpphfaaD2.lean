/- Walks and what they compute, joined: part 2. -/
import Derived.Test.YtoapndlmbpphfaaB2
import Derived.Test.YtoapndlmbpphfaaD1
set_option linter.all false
namespace Go.Sym.B
open Go Go.Sym Go.Proofs Go.Sym.C
set_option maxRecDepth 100000 in
set_option maxHeartbeats 40000000 in
theorem drawer_fn (ns : List Int) (h2 : ns.length ≤ maxLen) : FnV Try.prog 16 [aInts ns] (aB true) := by
  have env : Env (fun _ => True) Try.prog tyB (tab [(19, valE true c19), (20, fnE p20), (22, fnE p22), (23, fnE p23r), (27, fnE p27), (28, valE false c28), (30, valE true s83), (67, fnE p67), (69, valE false c69), (71, fnE p71), (72, valE true c72)]) := mkEnv ⟨d19, e20, e22, e23r, e27, d28, e30, e67, d69, e71, d72, trivial⟩
  refine Fn.of (A := fun _ => True) (n0 := 0) (D := noD) (Fn0 Try.func16 rfl (fun vs w => by kernel_rfl) (by kernel_rfl)) (by simp) (by simp [AV.ids, AV.idsL, aInts, aI]) (fun i o h => by cases h) (fun _ _ _ _ => trivial) noD_ok ?_
  have big : (100000 : Nat) ≤ maxLen := by decide
  have z1 : (1 : Int) ≤ 2 ∧ (2 : Int) ≤ 4 := by decide
  have z3 : (1 : Int) ≤ 1 ∧ (1 : Int) ≤ 4 := by decide
  have z2 : (0 : Int) ≤ 0 ∧ (0 : Int) ≤ 6 := by decide
  have hok := lg_ok (x := nbS ns) (w := 0) z1 z3 z2
  have hE := lg_e0 (nbS ns) 2 1 0
  obtain ⟨L, hL⟩ : ∃ L, lgL (nbS ns) 2 1 0 0 = L := ⟨_, rfl⟩
  obtain ⟨y, hy⟩ : ∃ y, lgS (nbS ns) 2 1 0 0 = y := ⟨_, rfl⟩
  rw [hL] at hok hE
  have hfit := hok.fit
  have hchk : checkE L = 0 := by rw [hok.check, entries0 hE]
  have hc := hok.c
  have wC : IntKind.wrap .i64 ((L.coins.length : Int) - 1) = (L.coins.length : Int) - 1 := wrap64 (by omega) (by omega)
  have u2 := upV_le (x := y) (m := (L.coins.length : Int) - 1) (by omega) (by omega)
  obtain ⟨c, hcc⟩ : ∃ c : Nat, upV y ((L.coins.length : Int) - 1) = (c : Int) := ⟨(upV y ((L.coins.length : Int) - 1)).toNat, by omega⟩
  obtain ⟨y2, hy2⟩ : ∃ z, upS y ((L.coins.length : Int) - 1) = z := ⟨_, rfl⟩
  rw [hcc] at u2
  have cl : c < L.coins.length := by omega
  obtain ⟨j, hj, hpc⟩ := hok.p _ (gMem (l := L.coins) (k := c) (d := []) cl)
  have hce := coinE_ok hpc hj
  obtain ⟨ps, hP⟩ : ∃ ps, L.coins.getD c [] = ps := ⟨_, rfl⟩
  rw [hP] at hpc hce
  have hps := coin_ok hce
  have hpl := hps.l
  have hge : ∀ p ∈ ps, 1 ≤ p := fun p hp => (hps.b p hp).1
  have hpz : PzOk ps := ⟨hpl.2, hps.b⟩
  obtain ⟨n, hn⟩ : ∃ n, ps.length = n := ⟨_, rfl⟩
  rw [hn] at hpl
  have n0 : (0 : Int) ≤ (n : Int) ∧ (n : Int) ≤ 4 := by omega
  have f4 : (0 : Int) ≤ 4 ∧ (4 : Int) ≤ 4 := by decide
  have f2 : (0 : Int) ≤ 2 ∧ (2 : Int) ≤ 4 := by decide
  have hdl := dlS_len 4 y2 n
  have hdb := dlS_bd (m := 4) (b := y2) (by decide) (by decide) n
  obtain ⟨d, hd⟩ : ∃ d, (dlS 4 y2 n).2 = d := ⟨_, rfl⟩
  obtain ⟨y3, hy3⟩ : ∃ d, (dlS 4 y2 n).1 = d := ⟨_, rfl⟩
  rw [hd] at hdl hdb
  have u4 := upV_le (x := y3) (m := 40) (by decide) (by decide)
  obtain ⟨A0, hA0⟩ : ∃ A, upV y3 40 = A := ⟨_, rfl⟩
  obtain ⟨y4, hy4⟩ : ∃ A, upS y3 40 = A := ⟨_, rfl⟩
  rw [hA0] at u4
  obtain ⟨y5, hy5⟩ : ∃ A, upS y4 (2 - 1) = A := ⟨_, rfl⟩
  have hd0 : ∀ x ∈ d, 0 ≤ x := fun x hx => (hdb x hx).1
  have hn2 : ((n : Nat) : Int).toNat = n := Int.toNat_natCast n
  have hx2l := dlS_len 2 y5 n
  have hx2b := dlS_bd (m := 2) (b := y5) (by decide) (by decide) n
  obtain ⟨x2, hx2⟩ : ∃ d, (dlS 2 y5 n).2 = d := ⟨_, rfl⟩
  obtain ⟨y6, hy6⟩ : ∃ d, (dlS 2 y5 n).1 = d := ⟨_, rfl⟩
  rw [hx2] at hx2l hx2b
  have x2b : ∀ v ∈ x2, 0 ≤ v ∧ v ≤ 4 := fun v hv => by have := hx2b v hv; omega
  have x2l : x2.length ≤ ps.length := by omega
  have hdot := dot_bd hpz.bd x2b
  have hy5' : upS y4 1 = y5 := hy5
  obtain ⟨A, hA⟩ : ∃ A : Nat, (if upV y4 1 < 1 then dotL ps x2 else A0) = (A : Int) := ⟨(if upV y4 1 < 1 then dotL ps x2 else A0).toNat, by split <;> omega⟩
  have hA9 : A ≤ 999 := by split at hA <;> omega
  obtain ⟨X, hX⟩ : ∃ X, (if upV y4 1 < 1 then y6 else y5) = X := ⟨_, rfl⟩
  have wN : IntKind.wrap .i64 ((n : Int) - 1) = (n : Int) - 1 := wrap64 (by omega) (by omega)
  have u7 := upV_le (x := X) (m := (n : Int) - 1) (by omega) (by omega)
  obtain ⟨k, hk⟩ : ∃ k : Nat, upV X ((n : Int) - 1) = (k : Int) := ⟨(upV X ((n : Int) - 1)).toNat, by omega⟩
  obtain ⟨X2, hX2⟩ : ∃ z, upS X ((n : Int) - 1) = z := ⟨_, rfl⟩
  rw [hk] at u7
  have kn : k < d.length := by omega
  obtain ⟨dk, hdk⟩ : ∃ v, d.getD k 0 = v := ⟨_, rfl⟩
  have gk : (d.map eInt).getD k [] = [.v (.int .i64 dk)] := by rw [gI0 kn, hdk]; rfl
  have hdkb := hdb _ (gMem (d := 0) kn)
  rw [hdk] at hdkb
  have wk : IntKind.wrap .i64 (dk + 1) = dk + 1 := wrap64 (by omega) (by omega)
  obtain ⟨ek, hek⟩ : ∃ v, min 4 (dk + 1) = v := ⟨_, rfl⟩
  have hekb : 0 ≤ ek ∧ ek ≤ 4 ∧ dk ≤ ek := by omega
  obtain ⟨e, he⟩ : ∃ e, d.set k ek = e := ⟨_, rfl⟩
  have hel : e.length = n := by rw [← he, List.length_set]; exact hdl
  have heb : ∀ v ∈ e, 0 ≤ v ∧ v ≤ 4 := fun v hv => by
    rw [← he] at hv
    rcases List.mem_or_eq_of_mem_set hv with hv | rfl
    · exact hdb v hv
    · omega
  have hde : ∀ i, i < ps.length → d.getD i 0 ≤ e.getD i 0 := fun i hi => by
    rw [← he]
    by_cases hik : k = i
    · subst hik; simp [List.getD_eq_getElem?_getD, kn] at hdk ⊢; omega
    · simp [List.getD_eq_getElem?_getD, List.getElem?_set, hik]
  have hA0' : (0 : Int) ≤ (A : Int) ∧ (A : Int) ≤ 999 := by omega
  have hcA : (0 : Int) ≤ (c : Int) ∧ (c : Int) ≤ (L.coins.length : Int) - 1 := by omega
  have hP' : L.coins.getD (c : Int).toNat [] = ps := hP
  have m0 : moneyE L c A [] = 0 := money0 hchk hcA (fun p hp => by simp at hp) hA0'
  have m1 : moneyE L c A [d] = 0 := money0 hchk hcA (fun p hp => by rw [List.mem_singleton.1 hp, hP', hdl, hn]; exact ⟨rfl, hdb⟩) hA0'
  have m2 : moneyE L c A [e] = 0 := money0 hchk hcA (fun p hp => by rw [List.mem_singleton.1 hp, hP', hel, hn]; exact ⟨rfl, heb⟩) hA0'
  obtain ⟨l, hl⟩ : ∃ l, piL ps A = l := ⟨_, rfl⟩
  have hpi : aPieces L c A = .tup [.sl (l.map eInt), .v (.int .i64 0)] := by
    unfold aPieces
    rw [if_neg (by rw [m0]; simp)]
    show AV.tup [aInts (piL (L.coins.getD c []) A), aI 0] = _
    rw [hP, hl]; rfl
  have hLe : LeastIs ps A l := hl ▸ least_is hge hps.one (by omega) A
  have hDr := draw_is (e := e) hLe hd0 (by omega) (by omega) hde
  have hll := hLe.len
  have hlb := hLe.bd
  rw [hn] at hll
  have l1 : l.length ≤ 10000 := by omega
  have l2 : ∀ v ∈ l, 0 ≤ v ∧ v ≤ 1000000 := fun v hv => by have := hlb v hv; omega
  have d20 : d.length ≤ 20 := by omega
  have d5 : d.length ≤ 100000 := by omega
  have e20 : e.length ≤ 20 := by omega
  have zn : ∀ n : Int, decide (n = n) = true := fun n => decide_eq_true rfl
  have he0 : ∀ x ∈ e, 0 ≤ x := fun x hx => (heb x hx).1
  cases ho : chs ps d A with
  | none =>
    have hc1 : aChg L c d A = .tup [.sl [], .v (.int .i64 11)] := by
      rw [aChg_o (o := none) m1 hd0 (by rw [hP']; exact ho)]; rfl
    have hc2 := aChg_o m2 he0 (rfl : chs (L.coins.getD (c : Int).toNat []) e A = _)
    obtain ⟨o2, ho2⟩ : ∃ o, chs (L.coins.getD (c : Int).toNat []) e A = o := ⟨_, rfl⟩
    rw [ho2] at hc2
    have hno : lessK l d n = false := by
      cases hb : lessK l d n with
      | false => rfl
      | true =>
        obtain ⟨x, h1, _⟩ := hDr.enough (by rw [hn]; exact lessK_iff.1 hb)
        rw [ho] at h1; cases h1
    by_cases hch : upV y4 1 < 1
    case' pos =>
      rw [if_pos hch] at hA hX
      have hch' : decide (upV y4 1 < 1) = true := decide_eq_true hch
      repeat' (first | refine zq0 ?_ | refine zq1 ?_ | refine zq2 ?_ | refine zq3 ?_ | refine zq4 ?_ | refine zq5 ?_ | refine thenK_n ?_ | refine thenK_x ?_ | refine thenK_r ?_ | refine blockK_n ?_ | refine blockK_r ?_ | refine blockK_hit ?_ | refine blockK_miss (by decide) ?_ | ((first | refine sym_reg env fun Q hQ => ?_ | refine sym_cz fun Q hQ => ?_); simp only [vkt, seval, tbN6_16, xbN6_1, dr0, dr1, dr2, p67, c72, c69, dlS_len, hL, hy, hcc, hy2, wC, hP, hn, hn2, hd, hy3, hA0, hy4, hy5', hch', hx2, hy6, hA, hX, wN, hk, hX2, gk, wk, hek, he, hpi, hc1, hc2, hdl, hel, hll, zn]; (try simp only [ite_and]); (repeat' (first | with_reducible assumption | refine And.intro ?_ ?_)); all_goals (first | (refine hQ _ ?_; clear hQ Q) | (refine hQ _ (fun h => ?_) (fun h => ?_) <;> clear hQ Q <;> (try simp only [vki, reduceCtorEq] at h)) | (refine drawB_of ?_; kernel_rfl) | omega | (with_reducible assumption) | (with_reducible rfl) | skip)))
    case' neg =>
      rw [if_neg hch] at hA hX
      have hch' : decide (upV y4 1 < 1) = false := decide_eq_false hch
      repeat' (first | refine zq0 ?_ | refine zq1 ?_ | refine zq2 ?_ | refine zq3 ?_ | refine zq4 ?_ | refine zq5 ?_ | refine thenK_n ?_ | refine thenK_x ?_ | refine thenK_r ?_ | refine blockK_n ?_ | refine blockK_r ?_ | refine blockK_hit ?_ | refine blockK_miss (by decide) ?_ | ((first | refine sym_reg env fun Q hQ => ?_ | refine sym_cz fun Q hQ => ?_); simp only [vkt, seval, tbN6_16, xbN6_1, dr0, dr1, dr2, p67, c72, c69, dlS_len, hL, hy, hcc, hy2, wC, hP, hn, hn2, hd, hy3, hA0, hy4, hy5', hch', hA, hX, wN, hk, hX2, gk, wk, hek, he, hpi, hc1, hc2, hdl, hel, hll, zn]; (try simp only [ite_and]); (repeat' (first | with_reducible assumption | refine And.intro ?_ ?_)); all_goals (first | (refine hQ _ ?_; clear hQ Q) | (refine hQ _ (fun h => ?_) (fun h => ?_) <;> clear hQ Q <;> (try simp only [vki, reduceCtorEq] at h)) | (refine drawB_of ?_; kernel_rfl) | omega | (with_reducible assumption) | (with_reducible rfl) | skip)))
    all_goals
      refine sym_loop (fun i : { i : Nat // i ≤ n } => dr1 L c A n d l [] 11 (oL o2) i.1) (fun i => n - i.1) ⟨0, Nat.zero_le _⟩ ?_ fun ⟨i, hi⟩ => ?_
      · (refine Le.ok (fun j => if j = 0 then some 1 else none) [] ?_; constructor; all_goals (try simp only [vle, vkt, seval, tbN6_16, xbN6_1, dr0, dr1, dr2, p67, c72, c69, dlS_len]))
        all_goals first | rfl | (simp [lessK]; done) | (refine ⟨?_, ?_⟩ <;> simp [lessK]; done)
      · repeat' (first | refine zq0 ?_ | refine zq1 ?_ | refine zq2 ?_ | refine zq3 ?_ | refine zq4 ?_ | refine zq5 ?_ | refine thenK_n ?_ | refine thenK_x ?_ | refine thenK_r ?_ | refine blockK_n ?_ | refine blockK_r ?_ | refine blockK_hit ?_ | refine blockK_miss (by decide) ?_)
        (refine sym_reg env fun Q hQ => ?_; simp only [vkt, seval, tbN6_16, xbN6_1, dr0, dr1, dr2, p67, c72, c69, dlS_len]; (try simp only [ite_and]); (repeat' (first | with_reducible assumption | refine And.intro ?_ ?_ | intro hp)); all_goals (first | (refine hQ _ ?_; clear hQ Q) | (refine drawB_of ?_; kernel_rfl) | omega | assumption | (with_reducible rfl) | skip))
        repeat' (first | refine zq0 ?_ | refine zq1 ?_ | refine zq2 ?_ | refine zq3 ?_ | refine zq4 ?_ | refine zq5 ?_ | refine thenK_n ?_ | refine thenK_x ?_ | refine thenK_r ?_ | refine blockK_n ?_ | refine blockK_r ?_ | refine blockK_hit ?_ | refine blockK_miss (by decide) ?_)
        (refine sym_cd (by simp only [vkt, seval, tbN6_16, xbN6_1, dr0, dr1, dr2, p67, c72, c69, dlS_len]; rfl) (fun h => ?_) (fun h => ?_) <;> (try simp only [vki, reduceCtorEq] at h))
        · have hlt : i < n := by omega
          have i1 : i < l.length := by omega
          have i2 : i < d.length := by omega
          obtain ⟨v, hv⟩ : ∃ v, l.getD i 0 = v := ⟨_, rfl⟩
          obtain ⟨u, hu⟩ : ∃ v, d.getD i 0 = v := ⟨_, rfl⟩
          have hvb := hlb v (hv ▸ gMem i1)
          have c3 : ¬ v < 0 := by omega
          have c4 : ¬ (A : Int) < v := by omega
          have e9 : IntKind.wrap .i64 ((i : Int) + 1) = ((i + 1 : Nat) : Int) := by rw [wrap64 (by omega) (by omega)]; rfl
          have hS := lessK_succ l d i
          rw [hv, hu] at hS
          cases hb : lessK l d i with
          | false =>
            rw [hb, Bool.false_and] at hS
            repeat' (first | refine zq0 ?_ | refine zq1 ?_ | refine zq2 ?_ | refine zq3 ?_ | refine zq4 ?_ | refine zq5 ?_ | refine thenK_n ?_ | refine thenK_x ?_ | refine thenK_r ?_ | refine blockK_n ?_ | refine blockK_r ?_ | refine blockK_hit ?_ | refine blockK_miss (by decide) ?_ | ((first | refine sym_reg env fun Q hQ => ?_ | refine sym_cz fun Q hQ => ?_); simp only [vkt, seval, tbN6_16, xbN6_1, dr0, dr1, dr2, p67, c72, c69, dlS_len, hll, hdl, hv, hu, c3, c4, e9, hb]; (try simp only [ite_and]); (repeat' (first | with_reducible assumption | refine And.intro ?_ ?_ | intro hp)); all_goals (first | (refine hQ _ ?_; clear hQ Q) | (refine hQ _ (fun h => ?_) (fun h => ?_) <;> clear hQ Q <;> (try simp only [vki, reduceCtorEq] at h)) | (refine drawB_of ?_; kernel_rfl) | omega | assumption | (with_reducible rfl) | skip)))
            refine ⟨⟨i + 1, hlt⟩, by show n - (i + 1) < n - i; omega, ?_⟩
            (refine Le.ok some [] ?_; constructor; all_goals (try simp only [vle, vkt, seval, tbN6_16, xbN6_1, dr0, dr1, dr2, p67, c72, c69, dlS_len]))
            all_goals first | rfl | (simp [hS]; done)
          | true =>
            rw [hb, Bool.true_and] at hS
            by_cases c7 : v ≤ u
            · rw [decide_eq_true c7] at hS
              repeat' (first | refine zq0 ?_ | refine zq1 ?_ | refine zq2 ?_ | refine zq3 ?_ | refine zq4 ?_ | refine zq5 ?_ | refine thenK_n ?_ | refine thenK_x ?_ | refine thenK_r ?_ | refine blockK_n ?_ | refine blockK_r ?_ | refine blockK_hit ?_ | refine blockK_miss (by decide) ?_ | ((first | refine sym_reg env fun Q hQ => ?_ | refine sym_cz fun Q hQ => ?_); simp only [vkt, seval, tbN6_16, xbN6_1, dr0, dr1, dr2, p67, c72, c69, dlS_len, hll, hdl, hv, hu, c3, c4, c7, e9, hb]; (try simp only [ite_and]); (repeat' (first | with_reducible assumption | refine And.intro ?_ ?_ | intro hp)); all_goals (first | (refine hQ _ ?_; clear hQ Q) | (refine hQ _ (fun h => ?_) (fun h => ?_) <;> clear hQ Q <;> (try simp only [vki, reduceCtorEq] at h)) | (refine drawB_of ?_; kernel_rfl) | omega | assumption | (with_reducible rfl) | skip)))
              refine ⟨⟨i + 1, hlt⟩, by show n - (i + 1) < n - i; omega, ?_⟩
              (refine Le.ok some [] ?_; constructor; all_goals (try simp only [vle, vkt, seval, tbN6_16, xbN6_1, dr0, dr1, dr2, p67, c72, c69, dlS_len]))
              all_goals first | rfl | (simp [hS]; done)
            · rw [decide_eq_false c7] at hS
              repeat' (first | refine zq0 ?_ | refine zq1 ?_ | refine zq2 ?_ | refine zq3 ?_ | refine zq4 ?_ | refine zq5 ?_ | refine thenK_n ?_ | refine thenK_x ?_ | refine thenK_r ?_ | refine blockK_n ?_ | refine blockK_r ?_ | refine blockK_hit ?_ | refine blockK_miss (by decide) ?_ | ((first | refine sym_reg env fun Q hQ => ?_ | refine sym_cz fun Q hQ => ?_); simp only [vkt, seval, tbN6_16, xbN6_1, dr0, dr1, dr2, p67, c72, c69, dlS_len, hll, hdl, hv, hu, c3, c4, c7, e9, hb]; (try simp only [ite_and]); (repeat' (first | with_reducible assumption | refine And.intro ?_ ?_ | intro hp)); all_goals (first | (refine hQ _ ?_; clear hQ Q) | (refine hQ _ (fun h => ?_) (fun h => ?_) <;> clear hQ Q <;> (try simp only [vki, reduceCtorEq] at h)) | (refine drawB_of ?_; kernel_rfl) | omega | assumption | (with_reducible rfl) | skip)))
              refine ⟨⟨i + 1, hlt⟩, by show n - (i + 1) < n - i; omega, ?_⟩
              (refine Le.ok some [] ?_; constructor; all_goals (try simp only [vle, vkt, seval, tbN6_16, xbN6_1, dr0, dr1, dr2, p67, c72, c69, dlS_len]))
              all_goals first | rfl | (simp [hS]; done)
        · have hin : i = n := by omega
          subst hin
          repeat' (first | refine zq0 ?_ | refine zq1 ?_ | refine zq2 ?_ | refine zq3 ?_ | refine zq4 ?_ | refine zq5 ?_ | refine thenK_n ?_ | refine thenK_x ?_ | refine thenK_r ?_ | refine blockK_n ?_ | refine blockK_r ?_ | refine blockK_hit ?_ | refine blockK_miss (by decide) ?_ | ((first | refine sym_reg env fun Q hQ => ?_ | refine sym_cz fun Q hQ => ?_); simp only [vkt, seval, tbN6_16, xbN6_1, dr0, dr1, dr2, p67, c72, c69, dlS_len, hno, hll]; (try simp only [ite_and]); (repeat' (first | with_reducible assumption | refine And.intro ?_ ?_ | intro hp)); all_goals (first | (refine hQ _ ?_; clear hQ Q) | (refine hQ _ (fun h => ?_) (fun h => ?_) <;> clear hQ Q <;> (try simp only [vki, reduceCtorEq] at h)) | (refine drawB_of ?_; kernel_rfl) | omega | assumption | (with_reducible rfl) | skip)))
          (simp only [vrt, Try.results16, vkt, seval, tbN6_16, xbN6_1, dr0, dr1, dr2, p67, c72, c69, dlS_len]; refine Fin.val rfl ?_; (try simp only [AV.le, AV.leL]))
          all_goals first | rfl | (simp; done)
  | some x =>
    obtain ⟨xl, xb, xd, xs, w, hw, ws⟩ := hDr.out x ho
    have wm := parts_mem he0 (chs_mem hw).1
    have wl := wm.1
    have hc1 : aChg L c d A = .tup [.sl (x.map eInt), .v (.int .i64 0)] := by
      rw [aChg_o (o := some x) m1 hd0 (by rw [hP']; exact ho)]; rfl
    have hc2 : aChg L c e A = .tup [.sl (w.map eInt), .v (.int .i64 0)] := by
      rw [aChg_o (o := some w) m2 he0 (by rw [hP']; exact hw)]; rfl
    rw [hn] at xl xb
    have xm : ∀ v ∈ x, 0 ≤ v ∧ v ≤ 4 := fun v hv => by
      obtain ⟨i, hi, rfl⟩ := List.mem_iff_getElem.1 hv
      have h1 := xb i (by omega)
      have h2 := hdb _ (gMem (l := d) (k := i) (d := 0) (by omega))
      rw [show x.getD i 0 = x[i] by simp [List.getD_eq_getElem?_getD, hi]] at h1
      omega
    have wmm : ∀ v ∈ w, 0 ≤ v ∧ v ≤ 4 := fun v hv => by
      obtain ⟨i, hi, rfl⟩ := List.mem_iff_getElem.1 hv
      have h1 := wm.2 i (by omega)
      have h2 := heb _ (gMem (l := e) (k := i) (d := 0) (by omega))
      rw [show w.getD i 0 = w[i] by simp [List.getD_eq_getElem?_getD, hi]] at h1
      omega
    have x1 : x.length ≤ 10000 := by omega
    have x2' : ∀ v ∈ x, 0 ≤ v ∧ v ≤ 1000000 := fun v hv => by have := xm v hv; omega
    have w1 : w.length ≤ 10000 := by omega
    have w2 : ∀ v ∈ w, 0 ≤ v ∧ v ≤ 1000000 := fun v hv => by have := wmm v hv; omega
    have sl := sum_pSum l
    have sx := sum_pSum x
    have sw := sum_pSum w
    obtain ⟨sl', hsl⟩ : ∃ v, pSum l = v := ⟨_, rfl⟩
    obtain ⟨sx', hsx⟩ : ∃ v, pSum x = v := ⟨_, rfl⟩
    obtain ⟨sw', hsw⟩ : ∃ v, pSum w = v := ⟨_, rfl⟩
    rw [hsl] at sl
    rw [hsx] at sx
    rw [hsw] at sw
    have k1 : ¬ sx' < sl' := by omega
    have k2 : ¬ sx' < sw' := by omega
    have hen : lessK l d n = true → sx' = sl' := fun h => by
      obtain ⟨z, h1, h2⟩ := hDr.enough (by rw [hn]; exact lessK_iff.1 h)
      rw [ho] at h1
      cases h1
      omega
    by_cases hch : upV y4 1 < 1
    case' pos =>
      rw [if_pos hch] at hA hX
      have hch' : decide (upV y4 1 < 1) = true := decide_eq_true hch
      repeat' (first | refine zq0 ?_ | refine zq1 ?_ | refine zq2 ?_ | refine zq3 ?_ | refine zq4 ?_ | refine zq5 ?_ | refine thenK_n ?_ | refine thenK_x ?_ | refine thenK_r ?_ | refine blockK_n ?_ | refine blockK_r ?_ | refine blockK_hit ?_ | refine blockK_miss (by decide) ?_ | ((first | refine sym_reg env fun Q hQ => ?_ | refine sym_cz fun Q hQ => ?_); simp only [vkt, seval, tbN6_16, xbN6_1, dr0, dr1, dr2, p67, c72, c69, dlS_len, hL, hy, hcc, hy2, wC, hP, hn, hn2, hd, hy3, hA0, hy4, hy5', hch', hx2, hy6, hA, hX, wN, hk, hX2, gk, wk, hek, he, hpi, hc1, hc2, hdl, hel, hll, zn]; (try simp only [ite_and]); (repeat' (first | with_reducible assumption | refine And.intro ?_ ?_)); all_goals (first | (refine hQ _ ?_; clear hQ Q) | (refine hQ _ (fun h => ?_) (fun h => ?_) <;> clear hQ Q <;> (try simp only [vki, reduceCtorEq] at h)) | (refine drawB_of ?_; kernel_rfl) | omega | (with_reducible assumption) | (with_reducible rfl) | skip)))
    case' neg =>
      rw [if_neg hch] at hA hX
      have hch' : decide (upV y4 1 < 1) = false := decide_eq_false hch
      repeat' (first | refine zq0 ?_ | refine zq1 ?_ | refine zq2 ?_ | refine zq3 ?_ | refine zq4 ?_ | refine zq5 ?_ | refine thenK_n ?_ | refine thenK_x ?_ | refine thenK_r ?_ | refine blockK_n ?_ | refine blockK_r ?_ | refine blockK_hit ?_ | refine blockK_miss (by decide) ?_ | ((first | refine sym_reg env fun Q hQ => ?_ | refine sym_cz fun Q hQ => ?_); simp only [vkt, seval, tbN6_16, xbN6_1, dr0, dr1, dr2, p67, c72, c69, dlS_len, hL, hy, hcc, hy2, wC, hP, hn, hn2, hd, hy3, hA0, hy4, hy5', hch', hA, hX, wN, hk, hX2, gk, wk, hek, he, hpi, hc1, hc2, hdl, hel, hll, zn]; (try simp only [ite_and]); (repeat' (first | with_reducible assumption | refine And.intro ?_ ?_)); all_goals (first | (refine hQ _ ?_; clear hQ Q) | (refine hQ _ (fun h => ?_) (fun h => ?_) <;> clear hQ Q <;> (try simp only [vki, reduceCtorEq] at h)) | (refine drawB_of ?_; kernel_rfl) | omega | (with_reducible assumption) | (with_reducible rfl) | skip)))
    all_goals
      refine sym_loop (fun i : { i : Nat // i ≤ n } => dr1 L c A n d l x 0 w i.1) (fun i => n - i.1) ⟨0, Nat.zero_le _⟩ ?_ fun ⟨i, hi⟩ => ?_
      · (refine Le.ok (fun j => if j = 0 then some 1 else none) [] ?_; constructor; all_goals (try simp only [vle, vkt, seval, tbN6_16, xbN6_1, dr0, dr1, dr2, p67, c72, c69, dlS_len]))
        all_goals first | rfl | (simp [lessK]; done) | (refine ⟨?_, ?_⟩ <;> simp [lessK]; done)
      · repeat' (first | refine zq0 ?_ | refine zq1 ?_ | refine zq2 ?_ | refine zq3 ?_ | refine zq4 ?_ | refine zq5 ?_ | refine thenK_n ?_ | refine thenK_x ?_ | refine thenK_r ?_ | refine blockK_n ?_ | refine blockK_r ?_ | refine blockK_hit ?_ | refine blockK_miss (by decide) ?_)
        (refine sym_reg env fun Q hQ => ?_; simp only [vkt, seval, tbN6_16, xbN6_1, dr0, dr1, dr2, p67, c72, c69, dlS_len]; (try simp only [ite_and]); (repeat' (first | with_reducible assumption | refine And.intro ?_ ?_ | intro hp)); all_goals (first | (refine hQ _ ?_; clear hQ Q) | (refine drawB_of ?_; kernel_rfl) | omega | assumption | (with_reducible rfl) | skip))
        repeat' (first | refine zq0 ?_ | refine zq1 ?_ | refine zq2 ?_ | refine zq3 ?_ | refine zq4 ?_ | refine zq5 ?_ | refine thenK_n ?_ | refine thenK_x ?_ | refine thenK_r ?_ | refine blockK_n ?_ | refine blockK_r ?_ | refine blockK_hit ?_ | refine blockK_miss (by decide) ?_)
        (refine sym_cd (by simp only [vkt, seval, tbN6_16, xbN6_1, dr0, dr1, dr2, p67, c72, c69, dlS_len]; rfl) (fun h => ?_) (fun h => ?_) <;> (try simp only [vki, reduceCtorEq] at h))
        · have hlt : i < n := by omega
          have i1 : i < l.length := by omega
          have i2 : i < d.length := by omega
          obtain ⟨v, hv⟩ : ∃ v, l.getD i 0 = v := ⟨_, rfl⟩
          obtain ⟨u, hu⟩ : ∃ v, d.getD i 0 = v := ⟨_, rfl⟩
          have hvb := hlb v (hv ▸ gMem i1)
          have c3 : ¬ v < 0 := by omega
          have c4 : ¬ (A : Int) < v := by omega
          have e9 : IntKind.wrap .i64 ((i : Int) + 1) = ((i + 1 : Nat) : Int) := by rw [wrap64 (by omega) (by omega)]; rfl
          have hS := lessK_succ l d i
          rw [hv, hu] at hS
          cases hb : lessK l d i with
          | false =>
            rw [hb, Bool.false_and] at hS
            repeat' (first | refine zq0 ?_ | refine zq1 ?_ | refine zq2 ?_ | refine zq3 ?_ | refine zq4 ?_ | refine zq5 ?_ | refine thenK_n ?_ | refine thenK_x ?_ | refine thenK_r ?_ | refine blockK_n ?_ | refine blockK_r ?_ | refine blockK_hit ?_ | refine blockK_miss (by decide) ?_ | ((first | refine sym_reg env fun Q hQ => ?_ | refine sym_cz fun Q hQ => ?_); simp only [vkt, seval, tbN6_16, xbN6_1, dr0, dr1, dr2, p67, c72, c69, dlS_len, hll, hdl, hv, hu, c3, c4, e9, hb]; (try simp only [ite_and]); (repeat' (first | with_reducible assumption | refine And.intro ?_ ?_ | intro hp)); all_goals (first | (refine hQ _ ?_; clear hQ Q) | (refine hQ _ (fun h => ?_) (fun h => ?_) <;> clear hQ Q <;> (try simp only [vki, reduceCtorEq] at h)) | (refine drawB_of ?_; kernel_rfl) | omega | assumption | (with_reducible rfl) | skip)))
            refine ⟨⟨i + 1, hlt⟩, by show n - (i + 1) < n - i; omega, ?_⟩
            (refine Le.ok some [] ?_; constructor; all_goals (try simp only [vle, vkt, seval, tbN6_16, xbN6_1, dr0, dr1, dr2, p67, c72, c69, dlS_len]))
            all_goals first | rfl | (simp [hS]; done)
          | true =>
            rw [hb, Bool.true_and] at hS
            by_cases c7 : v ≤ u
            · rw [decide_eq_true c7] at hS
              repeat' (first | refine zq0 ?_ | refine zq1 ?_ | refine zq2 ?_ | refine zq3 ?_ | refine zq4 ?_ | refine zq5 ?_ | refine thenK_n ?_ | refine thenK_x ?_ | refine thenK_r ?_ | refine blockK_n ?_ | refine blockK_r ?_ | refine blockK_hit ?_ | refine blockK_miss (by decide) ?_ | ((first | refine sym_reg env fun Q hQ => ?_ | refine sym_cz fun Q hQ => ?_); simp only [vkt, seval, tbN6_16, xbN6_1, dr0, dr1, dr2, p67, c72, c69, dlS_len, hll, hdl, hv, hu, c3, c4, c7, e9, hb]; (try simp only [ite_and]); (repeat' (first | with_reducible assumption | refine And.intro ?_ ?_ | intro hp)); all_goals (first | (refine hQ _ ?_; clear hQ Q) | (refine hQ _ (fun h => ?_) (fun h => ?_) <;> clear hQ Q <;> (try simp only [vki, reduceCtorEq] at h)) | (refine drawB_of ?_; kernel_rfl) | omega | assumption | (with_reducible rfl) | skip)))
              refine ⟨⟨i + 1, hlt⟩, by show n - (i + 1) < n - i; omega, ?_⟩
              (refine Le.ok some [] ?_; constructor; all_goals (try simp only [vle, vkt, seval, tbN6_16, xbN6_1, dr0, dr1, dr2, p67, c72, c69, dlS_len]))
              all_goals first | rfl | (simp [hS]; done)
            · rw [decide_eq_false c7] at hS
              repeat' (first | refine zq0 ?_ | refine zq1 ?_ | refine zq2 ?_ | refine zq3 ?_ | refine zq4 ?_ | refine zq5 ?_ | refine thenK_n ?_ | refine thenK_x ?_ | refine thenK_r ?_ | refine blockK_n ?_ | refine blockK_r ?_ | refine blockK_hit ?_ | refine blockK_miss (by decide) ?_ | ((first | refine sym_reg env fun Q hQ => ?_ | refine sym_cz fun Q hQ => ?_); simp only [vkt, seval, tbN6_16, xbN6_1, dr0, dr1, dr2, p67, c72, c69, dlS_len, hll, hdl, hv, hu, c3, c4, c7, e9, hb]; (try simp only [ite_and]); (repeat' (first | with_reducible assumption | refine And.intro ?_ ?_ | intro hp)); all_goals (first | (refine hQ _ ?_; clear hQ Q) | (refine hQ _ (fun h => ?_) (fun h => ?_) <;> clear hQ Q <;> (try simp only [vki, reduceCtorEq] at h)) | (refine drawB_of ?_; kernel_rfl) | omega | assumption | (with_reducible rfl) | skip)))
              refine ⟨⟨i + 1, hlt⟩, by show n - (i + 1) < n - i; omega, ?_⟩
              (refine Le.ok some [] ?_; constructor; all_goals (try simp only [vle, vkt, seval, tbN6_16, xbN6_1, dr0, dr1, dr2, p67, c72, c69, dlS_len]))
              all_goals first | rfl | (simp [hS]; done)
        · have hin : i = n := by omega
          subst hin
          cases hb : lessK l d i
          case' true =>
            have hq := hen hb
            have hq' : decide (sx' = sl') = true := decide_eq_true hq
            repeat' (first | refine zq0 ?_ | refine zq1 ?_ | refine zq2 ?_ | refine zq3 ?_ | refine zq4 ?_ | refine zq5 ?_ | refine thenK_n ?_ | refine thenK_x ?_ | refine thenK_r ?_ | refine blockK_n ?_ | refine blockK_r ?_ | refine blockK_hit ?_ | refine blockK_miss (by decide) ?_ | ((first | refine sym_reg env fun Q hQ => ?_ | refine sym_cz fun Q hQ => ?_); simp only [vkt, seval, tbN6_16, xbN6_1, dr0, dr1, dr2, p67, c72, c69, dlS_len, hb, hsl, hsx, hsw, hq', k1, k2, xl, hll, zn, decide_true, Bool.not_true]; (try simp only [ite_and]); (repeat' (first | with_reducible assumption | refine And.intro ?_ ?_ | intro hp)); all_goals (first | (refine hQ _ ?_; clear hQ Q) | (refine hQ _ (fun h => ?_) (fun h => ?_) <;> clear hQ Q <;> (try simp only [vki, reduceCtorEq] at h)) | (refine drawB_of ?_; kernel_rfl) | omega | assumption | (with_reducible rfl) | skip)))
          case' false =>
            repeat' (first | refine zq0 ?_ | refine zq1 ?_ | refine zq2 ?_ | refine zq3 ?_ | refine zq4 ?_ | refine zq5 ?_ | refine thenK_n ?_ | refine thenK_x ?_ | refine thenK_r ?_ | refine blockK_n ?_ | refine blockK_r ?_ | refine blockK_hit ?_ | refine blockK_miss (by decide) ?_ | ((first | refine sym_reg env fun Q hQ => ?_ | refine sym_cz fun Q hQ => ?_); simp only [vkt, seval, tbN6_16, xbN6_1, dr0, dr1, dr2, p67, c72, c69, dlS_len, hb, hsl, hsx, hsw, k1, k2, xl, hll, zn, decide_true, Bool.not_true]; (try simp only [ite_and]); (repeat' (first | with_reducible assumption | refine And.intro ?_ ?_ | intro hp)); all_goals (first | (refine hQ _ ?_; clear hQ Q) | (refine hQ _ (fun h => ?_) (fun h => ?_) <;> clear hQ Q <;> (try simp only [vki, reduceCtorEq] at h)) | (refine drawB_of ?_; kernel_rfl) | omega | assumption | (with_reducible rfl) | skip)))
          all_goals
            refine sym_loop (fun j : { j : Nat // j ≤ i } => dr2 L c A i ps d x j.1) (fun j => i - j.1) ⟨0, Nat.zero_le _⟩ ?_ fun ⟨j, hj⟩ => ?_
            · (refine Le.ok some [] ?_; constructor; all_goals (try simp only [vle, vkt, seval, tbN6_16, xbN6_1, dr0, dr1, dr2, p67, c72, c69, dlS_len]))
              all_goals first | rfl | (simp [dotL]; done)
            · repeat' (first | refine zq0 ?_ | refine zq1 ?_ | refine zq2 ?_ | refine zq3 ?_ | refine zq4 ?_ | refine zq5 ?_ | refine thenK_n ?_ | refine thenK_x ?_ | refine thenK_r ?_ | refine blockK_n ?_ | refine blockK_r ?_ | refine blockK_hit ?_ | refine blockK_miss (by decide) ?_)
              (refine sym_reg env fun Q hQ => ?_; simp only [vkt, seval, tbN6_16, xbN6_1, dr0, dr1, dr2, p67, c72, c69, dlS_len]; (try simp only [ite_and]); (repeat' (first | with_reducible assumption | refine And.intro ?_ ?_ | intro hp)); all_goals (first | (refine hQ _ ?_; clear hQ Q) | (refine drawB_of ?_; kernel_rfl) | omega | assumption | (with_reducible rfl) | skip))
              repeat' (first | refine zq0 ?_ | refine zq1 ?_ | refine zq2 ?_ | refine zq3 ?_ | refine zq4 ?_ | refine zq5 ?_ | refine thenK_n ?_ | refine thenK_x ?_ | refine thenK_r ?_ | refine blockK_n ?_ | refine blockK_r ?_ | refine blockK_hit ?_ | refine blockK_miss (by decide) ?_)
              (refine sym_cd (by simp only [vkt, seval, tbN6_16, xbN6_1, dr0, dr1, dr2, p67, c72, c69, dlS_len]; rfl) (fun h => ?_) (fun h => ?_) <;> (try simp only [vki, reduceCtorEq] at h))
              · have hlt : j < i := by omega
                have i1 : j < x.length := by omega
                have i2 : j < d.length := by omega
                have i3 : j < ps.length := by omega
                obtain ⟨v, hv⟩ : ∃ v, x.getD j 0 = v := ⟨_, rfl⟩
                obtain ⟨u, hu⟩ : ∃ v, d.getD j 0 = v := ⟨_, rfl⟩
                obtain ⟨p, hp⟩ : ∃ v, ps.getD j 0 = v := ⟨_, rfl⟩
                have hvb := xb j hlt
                rw [hv, hu] at hvb
                have hvm := xm v (hv ▸ gMem i1)
                have hpb := hps.b p (hp ▸ gMem i3)
                have c3 : ¬ v < 0 := by omega
                have c4 : ¬ u < v := by omega
                have e9 : IntKind.wrap .i64 ((j : Int) + 1) = ((j + 1 : Nat) : Int) := by rw [wrap64 (by omega) (by omega)]; rfl
                have b3 := mulPu (A := 4) (B := 50) hvm (show 0 ≤ p ∧ p ≤ 50 by omega)
                have b4 := dot_bd (ps := ps.take j) (p := x.take j) (fun n hn => hps.b n (List.mem_of_mem_take hn)) fun n hn => xm n (List.mem_of_mem_take hn)
                rw [dot_comm, List.length_take] at b4
                have e2 : IntKind.wrap .i64 (v * p) = v * p := wrap64 (by omega) (by omega)
                have e3 : IntKind.wrap .i64 (dotL (x.take j) (ps.take j) + v * p) = dotL (x.take j) (ps.take j) + v * p := wrap64 (by omega) (by omega)
                have e4 := dot_snoc i1 i3
                rw [hv, hp] at e4
                repeat' (first | refine zq0 ?_ | refine zq1 ?_ | refine zq2 ?_ | refine zq3 ?_ | refine zq4 ?_ | refine zq5 ?_ | refine thenK_n ?_ | refine thenK_x ?_ | refine thenK_r ?_ | refine blockK_n ?_ | refine blockK_r ?_ | refine blockK_hit ?_ | refine blockK_miss (by decide) ?_ | ((first | refine sym_reg env fun Q hQ => ?_ | refine sym_cz fun Q hQ => ?_); simp only [vkt, seval, tbN6_16, xbN6_1, dr0, dr1, dr2, p67, c72, c69, dlS_len, hP, hv, hu, hp, c3, c4, e2, e3, e9, xl, hdl, hn]; (try simp only [ite_and]); (repeat' (first | with_reducible assumption | refine And.intro ?_ ?_ | intro hp)); all_goals (first | (refine hQ _ ?_; clear hQ Q) | (refine hQ _ (fun h => ?_) (fun h => ?_) <;> clear hQ Q <;> (try simp only [vki, reduceCtorEq] at h)) | (refine drawB_of ?_; kernel_rfl) | omega | assumption | (with_reducible rfl) | skip)))
                refine ⟨⟨j + 1, hlt⟩, by show i - (j + 1) < i - j; omega, ?_⟩
                (refine Le.ok some [] ?_; constructor; all_goals (try simp only [vle, vkt, seval, tbN6_16, xbN6_1, dr0, dr1, dr2, p67, c72, c69, dlS_len]))
                all_goals first | rfl | (simp [e4]; done) | (rw [e4]; rfl)
              · have hji : j = i := by omega
                subst hji
                have e6 : dotL (x.take j) (ps.take j) = (A : Int) := by rw [List.take_of_length_le (by omega), List.take_of_length_le (by omega), dot_comm]; exact xd
                repeat' (first | refine zq0 ?_ | refine zq1 ?_ | refine zq2 ?_ | refine zq3 ?_ | refine zq4 ?_ | refine zq5 ?_ | refine thenK_n ?_ | refine thenK_x ?_ | refine thenK_r ?_ | refine blockK_n ?_ | refine blockK_r ?_ | refine blockK_hit ?_ | refine blockK_miss (by decide) ?_ | ((first | refine sym_reg env fun Q hQ => ?_ | refine sym_cz fun Q hQ => ?_); simp only [vkt, seval, tbN6_16, xbN6_1, dr0, dr1, dr2, p67, c72, c69, dlS_len, e6, zn]; (try simp only [ite_and]); (repeat' (first | with_reducible assumption | refine And.intro ?_ ?_ | intro hp)); all_goals (first | (refine hQ _ ?_; clear hQ Q) | (refine hQ _ (fun h => ?_) (fun h => ?_) <;> clear hQ Q <;> (try simp only [vki, reduceCtorEq] at h)) | (refine drawB_of ?_; kernel_rfl) | omega | assumption | (with_reducible rfl) | skip)))
                (simp only [vrt, Try.results16, vkt, seval, tbN6_16, xbN6_1, dr0, dr1, dr2, p67, c72, c69, dlS_len]; refine Fin.val rfl ?_; (try simp only [AV.le, AV.leL]))
                all_goals first | rfl | (simp; done)
end Go.Sym.B
