/- Walks and what they compute, joined: part 2. -/
import Derived.Test.YtoapndlmbpphfaaB2
import Derived.Test.YtoapndlmbpphfaaE1
set_option linter.all false
namespace Go.Sym.B
open Go Go.Sym Go.Proofs Go.Sym.C
theorem _root_.Go.Sym.gk {a b : Prop} (x : a) (y : b) : a ∧ b := ⟨x, y⟩
def _root_.Go.Sym.pq := @blockK_miss
def _root_.Go.Sym.pz := @blockK_hit
def _root_.Go.Sym.pj := @blockK_n
def _root_.Go.Sym.pk := @blockK_r
def _root_.Go.Sym.pw := @thenK_x
def _root_.Go.Sym.pv := @thenK_r
def _root_.Go.Sym.gq := @thenK_n
def _root_.Go.Sym.gx := @drawB_of
def _root_.Go.Sym.gz := @sym_reg
def _root_.Go.Sym.gj := @sym_cz
set_option maxHeartbeats 4000000 in
theorem pay_fn (l : Led) (c : Int) (hand d : List Int) (price : Int) (hl : Fit l) (hh : hand.length ≤ 20) (hd : d.length ≤ 20) : FnV Try.prog 73 [aLed l, aI c, aInts hand, aInts d, aI price] (aPay l c hand d price) := by
  have env : Env (fun F => F.r = none) Try.prog tyB (tab [(86, valE true c86), (88, fnE p88x), (125, valE true c125), (126, fnE p126), (130, fnE p130), (131, valE true c131), (132, valE true c132)]) := mkEnv ⟨d86, e88x, d125, e126, e130, d131, d132, trivial⟩
  refine Fn.of (A := fun F => F.r = none) (n0 := 0) (D := noD) (Fn0 Try.func73 rfl (fun vs w => by kernel_rfl) (by kernel_rfl)) (by simp) (by simp [AV.ids, AV.idsL, aI, aLed, cLed, aInts]) (fun i o h => by cases h) (fun _ _ _ h => h) noD_ok ?_
  have hml : (20 : Nat) ≤ maxLen := by decide
  have q0 : ∀ p ∈ [hand, d], p.length ≤ maxLen := fun p hp => by
    simp at hp
    rcases hp with rfl | rfl <;> omega
  have q1 : (2 : Nat) ≤ maxLen := by omega
  have dI1 : dInts [.sl (hand.map eInt)] = hand := mInt hand
  have dI2 : dInts [.sl (d.map eInt)] = d := mInt d
  by_cases h0 : moneyE l c price [hand, d] = 0
  · rw [show aPay l c hand d price = _ from if_neg (by rw [h0]; simp)]
    obtain ⟨hV, ⟨g1, g2⟩, hds, hn0, hn1⟩ := money_ok h0
    obtain ⟨hhl, hhb⟩ := hds hand (by simp)
    obtain ⟨hdl, hdb⟩ := hds d (by simp)
    obtain ⟨ps, hP⟩ : ∃ x, l.coins.getD c.toNat [] = x := ⟨_, rfl⟩
    have hps : PsOk ps := hP ▸ coin_ok (hV.cs _ g2)
    rw [hP] at hdl hhl ⊢
    have hl1 := hps.l
    have hd0 : 0 < d.length := by omega
    have hd4 : d.length ≤ 4 := by omega
    have hh0 : 0 < hand.length := by omega
    have hh4 : hand.length ≤ 4 := by omega
    have hml4 : 4 ≤ maxLen := by omega
    have hpd := pad_ok hd4 hdb
    have hph := pad_ok hh4 hhb
    have hpc : PzOk ps := ⟨hl1.2, hps.b⟩
    obtain ⟨P, hPp⟩ : ∃ x, pad hand = x := ⟨_, rfl⟩
    rw [hPp] at hph ⊢
    obtain ⟨m, hm⟩ : ∃ m, fewL ps (pad d) = m := ⟨_, rfl⟩
    have hk := fwK_nd ps (pad d) (partsL (pad d)).length
    have hN : fwK ps (pad d) (partsL (pad d)).length = m := by rw [fwK, List.take_length]; exact hm
    have hfw := fw_pu (ps := ps) hpd (partsL (pad d)).length
    rw [hN] at hk hfw
    have hmk := mok_enc hk.1
    have hPl := hph.len
    have tP : (P.map aI).take 4 = P.map aI := List.take_of_length_le (by simp [hPl])
    simp only [pyP, hm]
    repeat' (first | refine zq0 ?_ | refine zq1 ?_ | refine zq2 ?_ | refine zq3 ?_ | refine zq4 ?_ | refine zq5 ?_ | refine gq ?_ | refine pw ?_ | refine pv ?_ | refine pj ?_ | refine pk ?_ | refine pz ?_ | refine pq (by decide) ?_ | ((first | refine gz env fun Q hQ => ?_ | refine gj fun Q hQ => ?_); simp only [vkt, seval, tbN7_73, xbN7_1, aDe, puL, pyL, pyC, c125, p126, p130, c131, c132, p88x, mAD, rStart, py_lent, vav_enc, vok_enc, tov2, mget_enc, MapKept.IsKey, List.length_map, dcell.eq_1, dcell.eq_2, hl, q0, q1, dI1, dI2, h0, g1, g2, hP, hd0, hd4, hh0, hh4, hml4, hpd, hph, hpc, hm, hmk, hPp, hPl, tP]; (try simp only [ite_and]); (repeat' (first | with_reducible assumption | refine And.intro ?_ ?_ | intro hp)); all_goals (first | (refine hQ _ ?_; clear hQ Q) | (refine hQ _ (fun h => ?_) (fun h => ?_) <;> clear hQ Q <;> (try simp only [vki, reduceCtorEq] at h)) | omega | assumption | with_reducible rfl | (apply drawS_of; (case hs => (try simp only [vdt, List.map_cons, List.map_nil, List.append_nil, List.nil_append, List.isEmpty_nil, List.flatMap_nil, vk9, vk14, puL, dcell_ids, List.map_append]); rfl); kernel_rfl) | skip)))
    refine sym_le (S' := { t := asg (pyL hand d), h := hasg (pyC ps price m none ++ [(7, .cells (P.map aI))]), n := 8, j := 0, d := [], m := 0 }) ?_ ?_
    · show Le _ { t := asg [(2, aInts hand), (3, aInts d), (9, .ptr 0 0), (14, .ptr 1 0), (15, .ptr 3 0), (16, .ptr 4 0), (17, .ptr 5 0), (18, .ptr 6 0), (44, .clo 145 [.ptr 7 0])], h := hasg [(0, .cells [aI price]), (1, .cells [.sl (ps.map eInt)]), (2, .map (encM m)), (3, .cells [.mp 2]), (4, .cells [.clo 128 []]), (5, .cells [aI 0, aI 0, aI 0, aI 0, aI 0, aI 0, aI 0, aI 0]), (6, .cells [aB false]), (7, .cells (P.map aI))], n := 8, j := 0, d := [], m := 0 }
      (refine Le.ok (fun j => if j = 0 then some 1 else some (j + 2)) [] ?_; constructor; all_goals (try simp only [vle, vkt, seval, tbN7_73, xbN7_1, aDe, puL, pyL, pyC, c125, p126, p130, c131, c132, p88x, mAD, rStart, py_lent, vav_enc, vok_enc, tov2, mget_enc, MapKept.IsKey, List.length_map, dcell.eq_1, dcell.eq_2]))
      all_goals first | rfl | (simp; done)
    rw [← py_lent P]
    refine sym_rangeL (L := pyL hand d) (hs := [7]) (n := 8) (nl := 0) (hc := fun j => pyC ps price m (pyK ps P price m j)) (Lp := [.cells (P.map aI)]) (jj := fun _ => 0) (d := []) (ys := ptY P) (hl := fun _ => [.cells (P.map aI)]) (ans := fun _ => true) (ex := .ret) (caps := [.ptr 7 0]) (caps0 := [.ptr 0 0]) (N := (partsL P).length) (R := (partsL P).length) (A' := fun _ => True) (fun F h => h) (fun _ _ => trivial) rfl (parts_it P hph) all_yes (.inl rfl) ?_ ?_ ?_ rfl (by simp) ?_ (by simp) ?_ (fun j hj => ?_) ?_ (fun j hj => ?_) (fun _ => ?_) (fun _ h => by cases h)
    · simp [AV.leL, AV.le]
    · simp [AV.nocbL, AV.nocb]
    · simp [lentP, AObj.nocb, pu_nocb, AObj.ids, pu_ids, AObj.ren, pu_ren, AObj.le, pu_le]
    · simp [pyC, hasg]
    · simp [idsT, pyL, AV.ids, AV.idsL, aInts]
    · refine ⟨?_, rfl, ?_, ?_, rfl, ?_⟩
      · simp [idsH, pyC, AObj.ids, AV.ids, AV.idsL, pu_ids, dcell_ids, aI, aB]
      · simp [lentQ, AObj.nocb, pu_nocb, AObj.ids, pu_ids]
      · simp [argQ, ptY, aPu, AV.nocb, pu_nocb, AV.ids, pu_ids]
      · simp [keysIn, keyIn, py_lent, pyC, pyL, idsTL, AV.ids, AV.idsL, ADf.ids, List.range_zero, aInts]
    · simp [idsH, pyC, AObj.ids, AV.ids, AV.idsL, pu_ids, dcell_ids, aI, aB]
    · have env : Env (fun _ : Frm => True) Try.prog tyB (tab [(86, valE true c86), (88, fnE p88x), (125, valE true c125), (126, fnE p126), (130, fnE p130), (131, valE true c131), (132, valE true c132)]) := mkEnv ⟨d86, e88x, d125, e126, e130, d131, d132, trivial⟩
      obtain ⟨x, hx⟩ : ∃ x, (partsL P).getD j [] = x := ⟨_, rfl⟩
      have hxm : x ∈ partsL P := hx ▸ gMem hj
      have hxo := parts_ok hph hxm
      have hxl := hxo.len
      have tx : (x.map aI).take 4 = x.map aI := List.take_of_length_le (by simp [hxl])
      have hS := pyK_succ (ps := ps) (price := price) (G := m) hj
      rw [hx] at hS
      have hok := pyK_ok (ps := ps) (price := price) hph hfw ((partsL P).take j) none (fun y hy => parts_ok hph (List.mem_of_mem_take hy)) (fun q hq => by cases hq)
      have hst : ∀ o, rStart (pyL hand d) [45] [7] 8 0 (ptY P j) (pyC ps price m o) [.cells (P.map aI)] = { t := asg [(45, .agg (x.map aI)), (2, aInts hand), (3, aInts d), (9, .ptr 0 0), (14, .ptr 1 0), (15, .ptr 3 0), (16, .ptr 4 0), (17, .ptr 5 0), (18, .ptr 6 0), (44, .clo 145 [.ptr 7 0])], h := hasg [(8, .mark), (0, .cells [aI price]), (1, .cells [.sl (ps.map eInt)]), (2, .map (encM m)), (3, .cells [.mp 2]), (4, .cells [.clo 128 []]), (5, .cells (dcell o)), (6, .cells [aB o.isSome]), (7, .cells (P.map aI))], n := 9, m := 9 } := fun o => by
        simp only [rStart, py_lent, ptY, hx, aPu, List.map_cons, List.map_nil, AV.ren, pu_ren, List.zip_cons_cons, List.zip_nil_right, pyC, pyL, putsL, List.cons_append, List.nil_append]
        rfl
      show Sym _ _ _ (rStart (pyL hand d) [45] [7] 8 0 (ptY P j) (pyC ps price m (pyK ps P price m j)) [.cells (P.map aI)]) _
      rw [hst]
      change ∀ q, pyK ps P price m j = some q → _ at hok
      generalize pyK ps P price m j = o at *
      obtain ⟨n, hn⟩ : ∃ n, dotL ps x - price = n := ⟨_, rfl⟩
      have hdb2 := dot_bd hpc.bd hxo.bd
      have wn : IntKind.wrap .i64 (dotL ps x - price) = n := by rw [← hn]; exact wrap64 (by omega) (by omega)
      unfold pyStep at hS
      rw [hn] at hS
      cases hg : fwGet m n with
      | none =>
        rw [hg] at hS
        simp only at hS
        repeat' (first | refine zq0 ?_ | refine zq1 ?_ | refine zq2 ?_ | refine zq3 ?_ | refine zq4 ?_ | refine zq5 ?_ | refine gq ?_ | refine pw ?_ | refine pv ?_ | refine pj ?_ | refine pk ?_ | refine pz ?_ | refine pq (by decide) ?_ | ((first | refine gz env fun Q hQ => ?_ | refine gj fun Q hQ => ?_); simp only [vkt, seval, tbN7_73, xbN7_1, aDe, puL, pyL, pyC, c125, p126, p130, c131, c132, p88x, mAD, rStart, py_lent, vav_enc, vok_enc, tov2, mget_enc, MapKept.IsKey, List.length_map, dcell.eq_1, dcell.eq_2, hPl, hxl, tx, hxo, hpc, wn, hg, hmk]; (try simp only [ite_and]); (repeat' (first | with_reducible assumption | refine And.intro ?_ ?_ | intro hp)); all_goals (first | (refine hQ _ ?_; clear hQ Q) | (refine hQ _ (fun h => ?_) (fun h => ?_) <;> clear hQ Q <;> (try simp only [vki, reduceCtorEq] at h)) | omega | assumption | with_reducible rfl | (apply drawS_of; (case hs => (try simp only [vdt, List.map_cons, List.map_nil, List.append_nil, List.nil_append, List.isEmpty_nil, List.flatMap_nil, vk9, vk14, puL, dcell_ids, List.map_append]); rfl); kernel_rfl) | skip)))
        refine ⟨rfl, rfl, some, _, RFin.ok some [] ?_⟩
        constructor
        all_goals (try simp only [vle, lentR, rensL, callRen, vkt, seval, tbN7_73, xbN7_1, aDe, puL, pyL, pyC, c125, p126, p130, c131, c132, p88x, mAD, rStart, py_lent, vav_enc, vok_enc, tov2, mget_enc, MapKept.IsKey, List.length_map, dcell.eq_1, dcell.eq_2])
        all_goals first | rfl | (rw [hS]; exact ⟨dcell_le _ _ _, rfl⟩) | (rw [hS]; done) | (simp [hS]; done)
      | some y =>
        rw [hg] at hS
        simp only at hS
        have hyo := fwGet_pu hg hfw
        have hyl := hyo.len
        have ty : (y.map aI).take 4 = y.map aI := List.take_of_length_le (by simp [hyl])
        have txy := de_o hxl hyl
        have dxy : dDe ((x ++ y).map aI) = (x, y) := dDe_e hxl
        have lxy : (x ++ y).length = 8 := by simp [hxl, hyl]
        have bl1 := bl_len hxl
        have bl2 := bl_put (y := y) hxl
        simp only [z4] at bl1 bl2
        cases ho : o with
        | none =>
          rw [ho] at hS
          simp only at hS
          have hoS : o.isSome = false := by rw [ho]; rfl
          repeat' (first | refine zq0 ?_ | refine zq1 ?_ | refine zq2 ?_ | refine zq3 ?_ | refine zq4 ?_ | refine zq5 ?_ | refine gq ?_ | refine pw ?_ | refine pv ?_ | refine pj ?_ | refine pk ?_ | refine pz ?_ | refine pq (by decide) ?_ | ((first | refine gz env fun Q hQ => ?_ | refine gj fun Q hQ => ?_); simp only [vkt, seval, tbN7_73, xbN7_1, aDe, puL, pyL, pyC, c125, p126, p130, c131, c132, p88x, mAD, rStart, py_lent, vav_enc, vok_enc, tov2, mget_enc, MapKept.IsKey, List.length_map, dcell.eq_1, dcell.eq_2, hPl, hxl, tx, hxo, hpc, wn, hg, hmk, hyo, hyl, ty, txy, dxy, lxy, bl1, bl2, Option.isSome_none]; (try simp only [ite_and]); (repeat' (first | with_reducible assumption | refine And.intro ?_ ?_ | intro hp)); all_goals (first | (refine hQ _ ?_; clear hQ Q) | (refine hQ _ (fun h => ?_) (fun h => ?_) <;> clear hQ Q <;> (try simp only [vki, reduceCtorEq] at h)) | omega | assumption | with_reducible rfl | (apply drawS_of; (case hs => (try simp only [vdt, List.map_cons, List.map_nil, List.append_nil, List.nil_append, List.isEmpty_nil, List.flatMap_nil, vk9, vk14, puL, dcell_ids, List.map_append]); rfl); kernel_rfl) | skip)))
          refine ⟨rfl, rfl, some, _, RFin.ok some [] ?_⟩
          constructor
          all_goals (try simp only [vle, lentR, rensL, callRen, vkt, seval, tbN7_73, xbN7_1, aDe, puL, pyL, pyC, c125, p126, p130, c131, c132, p88x, mAD, rStart, py_lent, vav_enc, vok_enc, tov2, mget_enc, MapKept.IsKey, List.length_map, dcell.eq_1, dcell.eq_2])
          all_goals first | rfl | (rw [hS]; exact ⟨pu_le _ _ _, rfl⟩) | (rw [hS]; exact pu_le _ _ _) | (rw [hS]; done) | (simp [hS]; done)
        | some b =>
          rw [ho] at hS
          simp only at hS
          obtain ⟨hb1, hb2⟩ := hok b ho
          have lb : (b.1 ++ b.2).length = 8 := by simp [hb1.len, hb2.len]
          have tb := de_o hb1.len hb2.len
          have db : dDe ((b.1 ++ b.2).map aI) = b := dDe_e hb1.len
          obtain ⟨z, hz⟩ : ∃ z, btr cntD b (x, y) = z := ⟨_, rfl⟩
          have hzo : PuOk z.1 ∧ PuOk z.2 := by rw [← hz]; unfold btr; split <;> first | exact ⟨hxo, hyo⟩ | exact ⟨hb1, hb2⟩
          have lz : (z.1 ++ z.2).length = 8 := by simp [hzo.1.len, hzo.2.len]
          have tz := de_o hzo.1.len hzo.2.len
          have d8 : (((b.1 ++ b.2).map aI).drop 8) = [] := List.drop_of_length_le (by simp [hb1.len, hb2.len])
          rw [hz] at hS
          repeat' (first | refine zq0 ?_ | refine zq1 ?_ | refine zq2 ?_ | refine zq3 ?_ | refine zq4 ?_ | refine zq5 ?_ | refine gq ?_ | refine pw ?_ | refine pv ?_ | refine pj ?_ | refine pk ?_ | refine pz ?_ | refine pq (by decide) ?_ | ((first | refine gz env fun Q hQ => ?_ | refine gj fun Q hQ => ?_); simp only [vkt, seval, tbN7_73, xbN7_1, aDe, puL, pyL, pyC, c125, p126, p130, c131, c132, p88x, mAD, rStart, py_lent, vav_enc, vok_enc, tov2, mget_enc, MapKept.IsKey, List.length_map, dcell.eq_1, dcell.eq_2, hPl, hxl, tx, hxo, hpc, wn, hg, hmk, hyo, hyl, ty, txy, dxy, lxy, bl1, bl2, hb1, hb2, tb, db, lb, hz, lz, tz, d8, Option.isSome_some]; (try simp only [ite_and]); (repeat' (first | with_reducible assumption | refine And.intro ?_ ?_ | intro hp)); all_goals (first | (refine hQ _ ?_; clear hQ Q) | (refine hQ _ (fun h => ?_) (fun h => ?_) <;> clear hQ Q <;> (try simp only [vki, reduceCtorEq] at h)) | omega | assumption | with_reducible rfl | (apply drawS_of; (case hs => (try simp only [vdt, List.map_cons, List.map_nil, List.append_nil, List.nil_append, List.isEmpty_nil, List.flatMap_nil, vk9, vk14, puL, dcell_ids, List.map_append]); rfl); kernel_rfl) | skip)))
          refine ⟨rfl, rfl, some, _, RFin.ok some [] ?_⟩
          constructor
          all_goals (try simp only [vle, lentR, rensL, callRen, vkt, seval, tbN7_73, xbN7_1, aDe, puL, pyL, pyC, c125, p126, p130, c131, c132, p88x, mAD, rStart, py_lent, vav_enc, vok_enc, tov2, mget_enc, MapKept.IsKey, List.length_map, dcell.eq_1, dcell.eq_2])
          all_goals first | rfl | (rw [hS]; exact ⟨pu_le _ _ _, rfl⟩) | (rw [hS]; exact pu_le _ _ _) | (rw [hS]; done) | (simp [hS]; done)
    · have hN2 : pyK ps P price m (partsL P).length = (partsL P).foldl (pyStep ps price m) none := by rw [pyK, List.take_length]
      have hokE := pyK_ok (ps := ps) (price := price) hph hfw (partsL P) none (fun y hy => parts_ok hph hy) (fun q hq => by cases hq)
      rw [py_lent]
      simp only [pyC, hN2]
      generalize (partsL P).foldl (pyStep ps price m) none = o at *
      cases o with
      | none =>
        repeat' (first | refine zq0 ?_ | refine zq1 ?_ | refine zq2 ?_ | refine zq3 ?_ | refine zq4 ?_ | refine zq5 ?_ | refine gq ?_ | refine pw ?_ | refine pv ?_ | refine pj ?_ | refine pk ?_ | refine pz ?_ | refine pq (by decide) ?_ | ((first | refine gz env fun Q hQ => ?_ | refine gj fun Q hQ => ?_); simp only [vkt, seval, tbN7_73, xbN7_1, aDe, puL, pyL, pyC, c125, p126, p130, c131, c132, p88x, mAD, rStart, py_lent, vav_enc, vok_enc, tov2, mget_enc, MapKept.IsKey, List.length_map, dcell.eq_1, dcell.eq_2, Option.isSome_none]; (try simp only [ite_and]); (repeat' (first | with_reducible assumption | refine And.intro ?_ ?_ | intro hp)); all_goals (first | (refine hQ _ ?_; clear hQ Q) | (refine hQ _ (fun h => ?_) (fun h => ?_) <;> clear hQ Q <;> (try simp only [vki, reduceCtorEq] at h)) | omega | assumption | with_reducible rfl | (apply drawS_of; (case hs => (try simp only [vdt, List.map_cons, List.map_nil, List.append_nil, List.nil_append, List.isEmpty_nil, List.flatMap_nil, vk9, vk14, puL, dcell_ids, List.map_append]); rfl); kernel_rfl) | skip)))
        show retK tyB noD Try.f73 (fun S rv => Fin S rv (.tup [.sl [], .sl [], aI 11]) 0 noH 0) Exit.ret _
        (simp only [vrt, Try.results73, vkt, seval, tbN7_73, xbN7_1, aDe, puL, pyL, pyC, c125, p126, p130, c131, c132, p88x, mAD, rStart, py_lent, vav_enc, vok_enc, tov2, mget_enc, MapKept.IsKey, List.length_map, dcell.eq_1, dcell.eq_2]; refine Fin.val rfl ?_; (try simp only [AV.le, AV.leL]))
        all_goals first | rfl | (simp; done)
      | some q =>
        obtain ⟨hq1, hq2⟩ := hokE q rfl
        have lq : (q.1 ++ q.2).length = 8 := by simp [hq1.len, hq2.len]
        have hq1l := hq1.len
        have hq2l := hq2.len
        have hh4' : (hand.length : Int) ≤ 4 := by omega
        have hd4' : (d.length : Int) ≤ 4 := by omega
        have hh5 : hand.length ≤ 100000 := by omega
        have hd5 : d.length ≤ 100000 := by omega
        have tq1 : ((q.1 ++ q.2).map aI).take hand.length = (q.1.take hand.length).map aI := by rw [List.map_append, List.take_append_of_le_length (by simp; omega), List.map_take]
        have tq2 : (((q.1 ++ q.2).map aI).drop 4).take d.length = (q.2.take d.length).map aI := by rw [List.map_append, List.drop_left' (by simp [hq1l]), List.map_take]
        repeat' (first | refine zq0 ?_ | refine zq1 ?_ | refine zq2 ?_ | refine zq3 ?_ | refine zq4 ?_ | refine zq5 ?_ | refine gq ?_ | refine pw ?_ | refine pv ?_ | refine pj ?_ | refine pk ?_ | refine pz ?_ | refine pq (by decide) ?_ | ((first | refine gz env fun Q hQ => ?_ | refine gj fun Q hQ => ?_); simp only [vkt, seval, tbN7_73, xbN7_1, aDe, puL, pyL, pyC, c125, p126, p130, c131, c132, p88x, mAD, rStart, py_lent, vav_enc, vok_enc, tov2, mget_enc, MapKept.IsKey, List.length_map, dcell.eq_1, dcell.eq_2, hh0, hh4, hh4', hh5, hd0, hd4, hd4', hd5, hml4, lq, tq1, tq2, Option.isSome_some]; (try simp only [ite_and]); (repeat' (first | with_reducible assumption | refine And.intro ?_ ?_ | intro hp)); all_goals (first | (refine hQ _ ?_; clear hQ Q) | (refine hQ _ (fun h => ?_) (fun h => ?_) <;> clear hQ Q <;> (try simp only [vki, reduceCtorEq] at h)) | omega | assumption | with_reducible rfl | (apply drawS_of; (case hs => (try simp only [vdt, List.map_cons, List.map_nil, List.append_nil, List.nil_append, List.isEmpty_nil, List.flatMap_nil, vk9, vk14, puL, dcell_ids, List.map_append]); rfl); kernel_rfl) | skip)))
        all_goals first | exact flat_dv ‹_› ‹_› | exact ⟨_, _, rfl, by simp [hq1l, hq2l]; omega, by rw [tq1]; exact dvp_aI _, (one_dv _).symm⟩ | exact ⟨_, _, rfl, by simp [hq1l, hq2l]; omega, by rw [tq2]; exact dvp_aI _, (one_dv _).symm⟩ | (simp [hq1l, hq2l]; omega) | skip
        show retK tyB noD Try.f73 (fun S rv => Fin S rv (.tup [aInts (q.1.take hand.length), aInts (q.2.take d.length), aI 0]) 0 noH 0) Exit.ret _
        (simp only [vrt, Try.results73, vkt, seval, tbN7_73, xbN7_1, aDe, puL, pyL, pyC, c125, p126, p130, c131, c132, p88x, mAD, rStart, py_lent, vav_enc, vok_enc, tov2, mget_enc, MapKept.IsKey, List.length_map, dcell.eq_1, dcell.eq_2]; refine Fin.val rfl ?_; (try simp only [AV.le, AV.leL]))
        all_goals first | rfl | (simp; done) | exact ⟨⟨_, _, rfl⟩, ⟨_, _, rfl⟩, trivial, trivial⟩ | (simp [upd]; done)
  · rw [show aPay l c hand d price = _ from if_pos h0]
    have hne : decide (moneyE l c price [hand, d] = 0) = false := decide_eq_false h0
    repeat' (first | refine zq0 ?_ | refine zq1 ?_ | refine zq2 ?_ | refine zq3 ?_ | refine zq4 ?_ | refine zq5 ?_ | refine gq ?_ | refine pw ?_ | refine pv ?_ | refine pj ?_ | refine pk ?_ | refine pz ?_ | refine pq (by decide) ?_ | ((first | refine gz env fun Q hQ => ?_ | refine gj fun Q hQ => ?_); simp only [vkt, seval, tbN7_73, xbN7_1, aDe, puL, pyL, pyC, c125, p126, p130, c131, c132, p88x, mAD, rStart, py_lent, vav_enc, vok_enc, tov2, mget_enc, MapKept.IsKey, List.length_map, dcell.eq_1, dcell.eq_2, hl, q0, q1, dI1, dI2, hne]; (try simp only [ite_and]); (repeat' (first | with_reducible assumption | refine And.intro ?_ ?_ | intro hp)); all_goals (first | (refine hQ _ ?_; clear hQ Q) | (refine hQ _ (fun h => ?_) (fun h => ?_) <;> clear hQ Q <;> (try simp only [vki, reduceCtorEq] at h)) | omega | assumption | with_reducible rfl | (apply drawS_of; (case hs => (try simp only [vdt, List.map_cons, List.map_nil, List.append_nil, List.nil_append, List.isEmpty_nil, List.flatMap_nil, vk9, vk14, puL, dcell_ids, List.map_append]); rfl); kernel_rfl) | skip)))
    (simp only [vrt, Try.results73, vkt, seval, tbN7_73, xbN7_1, aDe, puL, pyL, pyC, c125, p126, p130, c131, c132, p88x, mAD, rStart, py_lent, vav_enc, vok_enc, tov2, mget_enc, MapKept.IsKey, List.length_map, dcell.eq_1, dcell.eq_2]; refine Fin.val rfl ?_; (try simp only [AV.le, AV.leL]))
    all_goals first | rfl | (simp; done)
end Go.Sym.B
namespace Go.Sym.B
open Go Go.Sym Go.Proofs Go.Sym.C
def paK (rs : List (List Int)) : Nat → List (List Int)
  | 0 => []
  | n + 1 => paK rs n ++ rs.map ((n : Int) :: ·)
theorem paK_eq (rs : List (List Int)) : ∀ n, paK rs n = (List.range n).flatMap fun (n : Nat) => rs.map ((n : Int) :: ·)
  | 0 => rfl
  | n + 1 => by rw [paK, paK_eq rs n, List.range_succ, List.flatMap_append]; simp
theorem paK_len (rs : List (List Int)) : ∀ n, (paK rs n).length = n * rs.length
  | 0 => by simp [paK]
  | n + 1 => by rw [paK, List.length_append, paK_len rs n, List.length_map, Nat.succ_mul]
def s75 (ps : List Int) : List AV → Prop × AV
  | [.sl xs] => (xs = ps.map eInt, aIntss (partsL ps))
  | _ => (False, .junk)
theorem parts_env {ps : List Int} (h : FnV Try.prog 75 [aInts ps] (aIntss (partsL ps))) {A : Frm → Prop} : EntryOK A Try.prog 75 (valE false (s75 ps)) := valE_ok fun vs hv h1 => by
  clear hv
  unfold s75 at h1 ⊢
  split at h1
  · refine ⟨trivial, fun h => absurd h (by decide), ?_⟩
    have h2 : _ = _ := h1
    rw [h2]; exact h
  · exact h1.elim
def pa1 (l : List Int) (rs X : List (List Int)) (n : Nat) : St := { t := asg [(0, aInts l), (3, .row 0), (4, aIntss rs), (5, aI n)], h := hasg [(0, .row 22 1 (X.map eInts))], n := 1 }
def pa2 (l : List Int) (rs X : List (List Int)) (n k : Nat) : St := { t := asg [(0, aInts l), (3, .row 0), (4, aIntss rs), (5, aI n), (6, aI k)], h := hasg [(0, .row 22 1 ((X ++ (rs.take k).map ((n : Int) :: ·)).map eInts))], n := 1 }
def tbN8_75 := gk @ty3 (gk @ty22 (gk @ty28 (gk @ti3.eq_1 (gk @ti22.eq_1 @ti28.eq_1))))
def xbN8_1 := gk @aI.eq_1 (gk @aB.eq_1 (gk @aInts.eq_1 (gk @aIntss.eq_1 (gk @gInt (gk @gInts (gk @eInt.eq_1 (gk @eInts.eq_1 (gk @slT (gk @slD (gk @rInt (@rInts)))))))))))
set_option maxHeartbeats 4000000 in
theorem parts_step (p : Int) (ps : List Int) (hl : ps.length ≤ 3) (hp : 0 ≤ p ∧ p ≤ 4) (hps : ∀ n ∈ ps, 0 ≤ n ∧ n ≤ 4) (hr : FnV Try.prog 75 [aInts ps] (aIntss (partsL ps))) : FnV Try.prog 75 [aInts (p :: ps)] (aIntss (partsL (p :: ps))) := by
  have env : Env (fun _ => True) Try.prog tyB (tab [(75, valE false (s75 ps))]) := mkEnv ⟨parts_env hr, trivial⟩
  refine Fn.of (A := fun _ => True) (n0 := 0) (D := noD) (Fn0 Try.func75 rfl (fun vs w => by kernel_rfl) (by kernel_rfl)) (by simp) (by simp [AV.ids, AV.idsL, aInts, aI]) (fun i o h => by cases h) (fun _ _ _ _ => trivial) noD_ok ?_
  obtain ⟨q, hq⟩ : ∃ q : Nat, p = (q : Int) := ⟨p.toNat, by omega⟩
  have hq4 : q ≤ 4 := by omega
  have hM : ∀ r ∈ partsL ps, r.length = ps.length := fun r hr => (parts_mem (fun n hn => (hps n hn).1) hr).1
  have hR : (partsL ps).length ≤ 125 := Nat.le_trans (parts_le fun n hn => (hps n hn).2) (Nat.pow_le_pow_right (by decide) hl)
  have hLN : partsL (p :: ps) = paK (partsL ps) (q + 1) := by rw [partsL, paK_eq, hq, Int.toNat_natCast]
  rw [hLN]
  obtain ⟨rs, hrs⟩ : ∃ rs, partsL ps = rs := ⟨_, rfl⟩
  rw [hrs] at hR hM ⊢
  obtain ⟨l, hL⟩ : ∃ l, l = p :: ps := ⟨_, rfl⟩
  rw [← hL]
  have l0 : 0 < l.length := by rw [hL]; simp
  have l0' : ¬ (l.length : Int) = 0 := by omega
  have g0 : l.getD 0 0 = (q : Int) := by rw [hL, ← hq]; rfl
  have dp : l.drop 1 = ps := by rw [hL]; rfl
  have l1 : 1 ≤ l.length := l0
  clear hL
  have big : (100000000 : Nat) ≤ maxLen := by decide
  have hX : ∀ n, n ≤ q + 1 → (paK rs n).length ≤ 625 := fun n hn => by
    rw [paK_len]
    exact Nat.le_trans (Nat.mul_le_mul (show n ≤ 5 by omega) hR) (by decide)
  repeat' (first | refine zq0 ?_ | refine zq1 ?_ | refine zq2 ?_ | refine zq3 ?_ | refine zq4 ?_ | refine zq5 ?_ | refine gq ?_ | refine pw ?_ | refine pv ?_ | refine pj ?_ | refine pk ?_ | refine pz ?_ | refine pq (by decide) ?_ | ((first | refine gz env fun Q hQ => ?_ | refine gj fun Q hQ => ?_); simp only [vkt, seval, tbN8_75, xbN8_1, pa1, pa2, s75, List.take_length, List.cons_append, List.nil_append, l0', dp, hrs]; (try simp only [ite_and]); (repeat' (first | with_reducible assumption | refine And.intro ?_ ?_ | intro hp)); all_goals (first | (refine hQ _ ?_; clear hQ Q) | (refine hQ _ (fun h => ?_) (fun h => ?_) <;> clear hQ Q <;> (try simp only [vki, reduceCtorEq] at h)) | omega | assumption | with_reducible rfl | (refine gx ?_; kernel_rfl) | skip)))
  refine sym_loop (fun n : { n : Nat // n ≤ q + 1 } => pa1 l rs (paK rs n.1) n.1) (fun n => q + 1 - n.1) ⟨0, Nat.zero_le _⟩ ?_ fun ⟨n, hn⟩ => ?_
  · (refine Le.ok (fun _ => none) [] ?_; constructor; all_goals (try simp only [vle, vkt, seval, tbN8_75, xbN8_1, pa1, pa2, s75, List.take_length, List.cons_append, List.nil_append]))
    all_goals first | rfl | (simp [paK]; done)
  · repeat' (first | refine zq0 ?_ | refine zq1 ?_ | refine zq2 ?_ | refine zq3 ?_ | refine zq4 ?_ | refine zq5 ?_ | refine gq ?_ | refine pw ?_ | refine pv ?_ | refine pj ?_ | refine pk ?_ | refine pz ?_ | refine pq (by decide) ?_)
    (refine gz env fun Q hQ => ?_; simp only [vkt, seval, tbN8_75, xbN8_1, pa1, pa2, s75, List.take_length, List.cons_append, List.nil_append, g0]; (try simp only [ite_and]); (repeat' (first | with_reducible assumption | refine And.intro ?_ ?_ | intro hp)); all_goals (first | (refine hQ _ ?_; clear hQ Q) | omega | assumption | with_reducible rfl | (refine gx ?_; kernel_rfl) | skip))
    repeat' (first | refine zq0 ?_ | refine zq1 ?_ | refine zq2 ?_ | refine zq3 ?_ | refine zq4 ?_ | refine zq5 ?_ | refine gq ?_ | refine pw ?_ | refine pv ?_ | refine pj ?_ | refine pk ?_ | refine pz ?_ | refine pq (by decide) ?_)
    (refine sym_cd (by simp only [vkt, seval, tbN8_75, xbN8_1, pa1, pa2, s75, List.take_length, List.cons_append, List.nil_append, g0]; rfl) (fun h => ?_) (fun h => ?_) <;> (try simp only [vki, reduceCtorEq] at h))
    · have hlt : n < q + 1 := by omega
      have e9 : IntKind.wrap .i64 ((n : Int) + 1) = ((n + 1 : Nat) : Int) := by rw [wrap64 (by omega) (by omega)]; rfl
      have hAcc : paK rs (n + 1) = paK rs n ++ rs.map ((n : Int) :: ·) := rfl
      have hX := hX n hn
      generalize hXe : paK rs n = X at *
      repeat' (first | refine zq0 ?_ | refine zq1 ?_ | refine zq2 ?_ | refine zq3 ?_ | refine zq4 ?_ | refine zq5 ?_ | refine gq ?_ | refine pw ?_ | refine pv ?_ | refine pj ?_ | refine pk ?_ | refine pz ?_ | refine pq (by decide) ?_ | ((first | refine gz env fun Q hQ => ?_ | refine gj fun Q hQ => ?_); simp only [vkt, seval, tbN8_75, xbN8_1, pa1, pa2, s75, List.take_length, List.cons_append, List.nil_append, g0]; (try simp only [ite_and]); (repeat' (first | with_reducible assumption | refine And.intro ?_ ?_ | intro hp)); all_goals (first | (refine hQ _ ?_; clear hQ Q) | (refine hQ _ (fun h => ?_) (fun h => ?_) <;> clear hQ Q <;> (try simp only [vki, reduceCtorEq] at h)) | omega | assumption | with_reducible rfl | (refine gx ?_; kernel_rfl) | skip)))
      refine sym_loop (fun k : { k : Nat // k ≤ rs.length } => pa2 l rs X n k.1) (fun k => rs.length - k.1) ⟨0, Nat.zero_le _⟩ ?_ fun ⟨k, hk2⟩ => ?_
      · (refine Le.ok some [] ?_; constructor; all_goals (try simp only [vle, vkt, seval, tbN8_75, xbN8_1, pa1, pa2, s75, List.take_length, List.cons_append, List.nil_append]))
        all_goals first | rfl | (simp; done)
      · repeat' (first | refine zq0 ?_ | refine zq1 ?_ | refine zq2 ?_ | refine zq3 ?_ | refine zq4 ?_ | refine zq5 ?_ | refine gq ?_ | refine pw ?_ | refine pv ?_ | refine pj ?_ | refine pk ?_ | refine pz ?_ | refine pq (by decide) ?_)
        (refine gz env fun Q hQ => ?_; simp only [vkt, seval, tbN8_75, xbN8_1, pa1, pa2, s75, List.take_length, List.cons_append, List.nil_append]; (try simp only [ite_and]); (repeat' (first | with_reducible assumption | refine And.intro ?_ ?_ | intro hp)); all_goals (first | (refine hQ _ ?_; clear hQ Q) | omega | assumption | with_reducible rfl | (refine gx ?_; kernel_rfl) | skip))
        repeat' (first | refine zq0 ?_ | refine zq1 ?_ | refine zq2 ?_ | refine zq3 ?_ | refine zq4 ?_ | refine zq5 ?_ | refine gq ?_ | refine pw ?_ | refine pv ?_ | refine pj ?_ | refine pk ?_ | refine pz ?_ | refine pq (by decide) ?_)
        (refine sym_cd (by simp only [vkt, seval, tbN8_75, xbN8_1, pa1, pa2, s75, List.take_length, List.cons_append, List.nil_append]; rfl) (fun h => ?_) (fun h => ?_) <;> (try simp only [vki, reduceCtorEq] at h))
        · have hkl : k < rs.length := by omega
          have e8 : IntKind.wrap .i64 ((k : Int) + 1) = ((k + 1 : Nat) : Int) := by rw [wrap64 (by omega) (by omega)]; rfl
          have hr := hM _ (gMem (d := []) hkl)
          have hT : (rs.take (k + 1)).map ((n : Int) :: ·) = (rs.take k).map ((n : Int) :: ·) ++ [(n : Int) :: rs.getD k []] := by
            rw [List.take_succ_eq_append_getElem hkl, List.map_append]; simp [List.getD_eq_getElem?_getD, hkl]
          have hY : (X ++ (rs.take k).map ((n : Int) :: ·)).length ≤ 750 := by
            rw [List.length_append, List.length_map, List.length_take]; omega
          obtain ⟨r, hre⟩ : ∃ r, rs.getD k [] = r := ⟨_, rfl⟩
          rw [hre] at hr hT
          obtain ⟨Y, hYe⟩ : ∃ Y, X ++ (rs.take k).map ((n : Int) :: ·) = Y := ⟨_, rfl⟩
          rw [hYe] at hY
          have m1 : (Y.length + 1) * 24 ≤ 140737488355328 ∧ Y.length + 1 ≤ maxLen := by omega
          have m2 : (1 + r.length) * 8 ≤ 140737488355328 ∧ 1 + r.length ≤ maxLen ∧ r.length ≤ maxLen := by omega
          have e4 : Y.map eInts ++ [[.sl ([.v (.int .i64 (n : Int))] :: r.map eInt)]] = (X ++ (rs.take (k + 1)).map ((n : Int) :: ·)).map eInts := by
            rw [hT, ← List.append_assoc, hYe, List.map_append]; rfl
          repeat' (first | refine zq0 ?_ | refine zq1 ?_ | refine zq2 ?_ | refine zq3 ?_ | refine zq4 ?_ | refine zq5 ?_ | refine gq ?_ | refine pw ?_ | refine pv ?_ | refine pj ?_ | refine pk ?_ | refine pz ?_ | refine pq (by decide) ?_ | ((first | refine gz env fun Q hQ => ?_ | refine gj fun Q hQ => ?_); simp only [vkt, seval, tbN8_75, xbN8_1, pa1, pa2, s75, List.take_length, List.cons_append, List.nil_append, hre, hYe, e4, e8]; (try simp only [ite_and]); (repeat' (first | with_reducible assumption | refine And.intro ?_ ?_ | intro hp)); all_goals (first | (refine hQ _ ?_; clear hQ Q) | (refine hQ _ (fun h => ?_) (fun h => ?_) <;> clear hQ Q <;> (try simp only [vki, reduceCtorEq] at h)) | omega | assumption | with_reducible rfl | (refine gx ?_; kernel_rfl) | skip)))
          refine ⟨⟨k + 1, hkl⟩, by show rs.length - (k + 1) < rs.length - k; omega, ?_⟩
          (refine Le.ok (fun j => if j = 0 then some 4 else some j) [] ?_; constructor; all_goals (try simp only [vle, vkt, seval, tbN8_75, xbN8_1, pa1, pa2, s75, List.take_length, List.cons_append, List.nil_append]))
          all_goals first | rfl | (simp; done)
        · have hkn : k = rs.length := by omega
          subst hkn
          repeat' (first | refine zq0 ?_ | refine zq1 ?_ | refine zq2 ?_ | refine zq3 ?_ | refine zq4 ?_ | refine zq5 ?_ | refine gq ?_ | refine pw ?_ | refine pv ?_ | refine pj ?_ | refine pk ?_ | refine pz ?_ | refine pq (by decide) ?_ | ((first | refine gz env fun Q hQ => ?_ | refine gj fun Q hQ => ?_); simp only [vkt, seval, tbN8_75, xbN8_1, pa1, pa2, s75, List.take_length, List.cons_append, List.nil_append, e9, List.take_length, ← hAcc]; (try simp only [ite_and]); (repeat' (first | with_reducible assumption | refine And.intro ?_ ?_ | intro hp)); all_goals (first | (refine hQ _ ?_; clear hQ Q) | (refine hQ _ (fun h => ?_) (fun h => ?_) <;> clear hQ Q <;> (try simp only [vki, reduceCtorEq] at h)) | omega | assumption | with_reducible rfl | (refine gx ?_; kernel_rfl) | skip)))
          refine ⟨⟨n + 1, hlt⟩, by show q + 1 - (n + 1) < q + 1 - n; omega, ?_⟩
          (refine Le.ok some [] ?_; constructor; all_goals (try simp only [vle, vkt, seval, tbN8_75, xbN8_1, pa1, pa2, s75, List.take_length, List.cons_append, List.nil_append]))
          all_goals first | rfl | (simp [hAcc]; done)
    · have hnn : n = q + 1 := by omega
      subst hnn
      repeat' (first | refine zq0 ?_ | refine zq1 ?_ | refine zq2 ?_ | refine zq3 ?_ | refine zq4 ?_ | refine zq5 ?_ | refine gq ?_ | refine pw ?_ | refine pv ?_ | refine pj ?_ | refine pk ?_ | refine pz ?_ | refine pq (by decide) ?_ | ((first | refine gz env fun Q hQ => ?_ | refine gj fun Q hQ => ?_); simp only [vkt, seval, tbN8_75, xbN8_1, pa1, pa2, s75, List.take_length, List.cons_append, List.nil_append]; (try simp only [ite_and]); (repeat' (first | with_reducible assumption | refine And.intro ?_ ?_ | intro hp)); all_goals (first | (refine hQ _ ?_; clear hQ Q) | (refine hQ _ (fun h => ?_) (fun h => ?_) <;> clear hQ Q <;> (try simp only [vki, reduceCtorEq] at h)) | omega | assumption | with_reducible rfl | (refine gx ?_; kernel_rfl) | skip)))
      (simp only [vrt, Try.results75, vkt, seval, tbN8_75, xbN8_1, pa1, pa2, s75, List.take_length, List.cons_append, List.nil_append]; refine Fin.val rfl ?_; (try simp only [AV.le, AV.leL]))
      all_goals first | exact ⟨_, _, rfl⟩
def xbN8_2 := gk @aI.eq_1 (gk @aB.eq_1 (gk @aInts.eq_1 (gk @aIntss.eq_1 (gk @eInts.eq_1 (gk @eInt.eq_1 (@rInts))))))
theorem parts_nil : FnV Try.prog 75 [aInts []] (aIntss (partsL [])) := by
  have env : Env (fun _ => True) Try.prog tyB (tab []) := mkEnv trivial
  refine Fn.of (A := fun _ => True) (n0 := 0) (D := noD) (Fn0 Try.func75 rfl (fun vs w => by kernel_rfl) (by kernel_rfl)) (by simp) (by simp [AV.ids, AV.idsL, aInts, aI]) (fun i o h => by cases h) (fun _ _ _ _ => trivial) noD_ok ?_
  have q1 : (1 : Nat) ≤ maxLen := by decide
  have zz : decide (((0 : Nat) : Int) = 0) = true := rfl
  rw [show partsL [] = [[]] from rfl]
  repeat' (first | refine zq0 ?_ | refine zq1 ?_ | refine zq2 ?_ | refine zq3 ?_ | refine zq4 ?_ | refine zq5 ?_ | refine gq ?_ | refine pw ?_ | refine pv ?_ | refine pj ?_ | refine pk ?_ | refine pz ?_ | refine pq (by decide) ?_ | ((first | refine gz env fun Q hQ => ?_ | refine gj fun Q hQ => ?_); simp only [vkt, seval, tbN8_75, xbN8_2, List.map_nil, List.length_nil, zz]; (try simp only [ite_and]); (repeat' (first | with_reducible assumption | refine And.intro ?_ ?_ | intro hp)); all_goals (first | (refine hQ _ ?_; clear hQ Q) | (refine hQ _ (fun h => ?_) (fun h => ?_) <;> clear hQ Q <;> (try simp only [vki, reduceCtorEq] at h)) | omega | assumption | with_reducible rfl | (refine gx ?_; kernel_rfl) | skip)))
  (simp only [vrt, Try.results75, vkt, seval, tbN8_75, xbN8_2, List.map_nil, List.length_nil]; refine Fin.val rfl ?_; (try simp only [AV.le, AV.leL]))
  all_goals first | exact ⟨_, _, rfl⟩
theorem parts75_fn : ∀ (ps : List Int), ps.length ≤ 4 → (∀ p ∈ ps, 0 ≤ p ∧ p ≤ 4) → FnV Try.prog 75 [aInts ps] (aIntss (partsL ps))
  | [], _, _ => parts_nil
  | p :: ps, hl, hp => parts_step p ps (by simpa using hl) (hp p List.mem_cons_self) (fun n hn => hp n (List.mem_cons_of_mem _ hn)) (parts75_fn ps (by simp at hl; omega) fun q hq => hp q (List.mem_cons_of_mem _ hq))
def c75 : List AV → Prop × AV
  | [.sl xs] => (xs = (xs.map dInt).map eInt ∧ xs.length ≤ 4 ∧ (∀ p ∈ xs.map dInt, 0 ≤ p ∧ p ≤ 4), aIntss (partsL (xs.map dInt)))
  | _ => (False, .junk)
theorem d75 {A : Frm → Prop} : EntryOK A Try.prog 75 (valE false c75) := valE_ok fun vs hv h => by
  clear hv
  unfold c75 at h ⊢
  split at h
  · rename_i xs
    obtain ⟨h1, h2, h3⟩ := h
    refine ⟨trivial, fun h => absurd h (by decide), ?_⟩
    have := parts75_fn (xs.map dInt) (by rw [List.length_map]; exact h2) h3
    rw [aInts, ← h1] at this
    exact this
  · exact h.elim
end Go.Sym.B
namespace Go.Sym.B
open Go Go.Sym Go.Proofs Go.Sym.C
def payV : Option DL → AV
  | none => .tup [.sl [], .sl [], aI 11]
  | some q => .tup [aInts q.1, aInts q.2, aI 0]
def plF : Option DL → List Int
  | none => []
  | some q => q.1
def blF : Option DL → List Int
  | none => []
  | some q => q.2
def eF : Option DL → Int
  | none => 11
  | some _ => 0
theorem payV_eq (o : Option DL) : payV o = .tup [.sl ((plF o).map eInt), .sl ((blF o).map eInt), .v (.int .i64 (eF o))] := by cases o <;> rfl
theorem aPay_of {l : Led} {c : Int} {h d : List Int} {n : Int} (h0 : moneyE l c n [h, d] = 0) (hh : ∀ x ∈ h, 0 ≤ x) (hd : ∀ x ∈ d, 0 ≤ x) {o : Option DL} (ho : payL (l.coins.getD c.toNat []) h d n = o) : aPay l c h d n = payV o := by
  unfold aPay
  rw [if_neg (by rw [h0]; simp), pyP, pay_is hh hd]
  subst ho
  cases payL (l.coins.getD c.toNat []) h d n <;> rfl
def c73 : List AV → Prop × AV
  | [.agg [.sl cs, .sl rs, .sl ss, .sl es], .v (.int .i64 c), .sl hs, .sl ds, .v (.int .i64 n)] => (isL cs rs ss es ∧ Fit (ldOf cs rs ss es) ∧ hs = (hs.map dInt).map eInt ∧ ds = (ds.map dInt).map eInt ∧ (hs.map dInt).length ≤ 20 ∧ (ds.map dInt).length ≤ 20, aPay (ldOf cs rs ss es) c (hs.map dInt) (ds.map dInt) n)
  | _ => (False, .junk)
theorem d73 {A : Frm → Prop} : EntryOK A Try.prog 73 (valE false c73) := valE_ok fun vs hv h => by
  clear hv
  unfold c73 at h ⊢
  split at h
  · obtain ⟨h1, h2, h3, h4, h5, h6⟩ := h
    refine ⟨by unfold aPay; split; · simp [AV.plain, AV.plainL, aI]
               · split <;> simp [AV.plain, AV.plainL, aI, aInts], fun h => absurd h (by decide), ?_⟩
    rename_i cs rs ss es c hs ds n
    have := pay_fn (ldOf cs rs ss es) c (hs.map dInt) (ds.map dInt) n h2 h5 h6
    rw [← aLed_of h1]
    simp only [aInts, ← h3, ← h4] at this
    exact this
  · exact h.elim
def lst : Option DL → Int
  | none => -1
  | some q => cntD q
def pdRow (ps d : List Int) (price : Int) (o : Option DL) (x : List Int) (k : Nat) : Option DL := (((partsL d).take k).map fun y => (x, y)).foldl (pkG cntD (pySel ps price)) o
def pdAll (ps h d : List Int) (price : Int) (i : Nat) : Option DL := ((partsL h).take i).foldl (fun o x => pdRow ps d price o x (partsL d).length) none
theorem pdRow_succ {ps d : List Int} {price : Int} {o : Option DL} {x : List Int} {k : Nat} (hk : k < (partsL d).length) : pdRow ps d price o x (k + 1) = pkG cntD (pySel ps price) (pdRow ps d price o x k) (x, (partsL d).getD k []) := by
  unfold pdRow
  rw [List.take_succ_eq_append_getElem hk, List.map_append, List.foldl_append]
  simp [List.getD_eq_getElem?_getD, hk]
theorem pdAll_succ {ps h d : List Int} {price : Int} {i : Nat} (hi : i < (partsL h).length) : pdAll ps h d price (i + 1) = pdRow ps d price (pdAll ps h d price i) ((partsL h).getD i []) (partsL d).length := by
  unfold pdAll
  rw [List.take_succ_eq_append_getElem hi, List.foldl_append]
  simp [List.getD_eq_getElem?_getD, hi]
theorem pdAll_end (ps h d : List Int) (price : Int) : pdAll ps h d price (partsL h).length = payL ps h d price := by
  unfold pdAll payL pkL prs pdRow
  rw [foldl_flat, List.take_length, List.take_length]
theorem pd_nn {ps : List Int} {price : Int} : ∀ (l : List DL) (o : Option DL), (∀ q ∈ l, 0 ≤ cntD q ∧ cntD q ≤ 32) → (∀ q, o = some q → 0 ≤ cntD q ∧ cntD q ≤ 32) → ∀ q, l.foldl (pkG cntD (pySel ps price)) o = some q → 0 ≤ cntD q ∧ cntD q ≤ 32
  | [], o, _, ho, q, h => ho q h
  | a :: l, o, hl, ho, q, h => by
    rw [List.foldl_cons] at h
    refine pd_nn l _ (fun y hy => hl y (List.mem_cons_of_mem _ hy)) (fun r hr => ?_) q h
    have ha := hl a List.mem_cons_self
    unfold pkG at hr
    split at hr
    · split at hr
      · rename_i b
        cases hr
        have hb := ho b rfl
        unfold btr
        split <;> assumption
      · cases hr; exact ha
    · exact ho r hr
theorem zeros_in {d : List Int} (hd : ∀ n ∈ d, 0 ≤ n) : List.replicate d.length 0 ∈ partsL d := parts_in (by simp) fun i hi => by
  have := hd _ (gMem (d := 0) hi)
  have e : (List.replicate d.length (0 : Int)).getD i 0 = 0 := by simp [List.getD_eq_getElem?_getD, hi]
  rw [e]; omega
def pd1 (L : Led) (n : Nat) (hand d : List Int) (price : Int) (pl bl : List Int) (E : Int) (o : Option DL) (i : Nat) : St := { t := asg [(2, aB false), (4, .ptr 0 0), (5, aI n), (6, aInts hand), (7, aInts d), (8, aI price), (9, aInts pl), (10, aInts bl), (11, aI E), (14, aI (lst o)), (15, aIntss (partsL hand)), (16, aIntss (partsL d)), (17, aI i)], h := hasg [(0, .cells (cLed L))], n := 1 }
def pd2 (L : Led) (n : Nat) (hand d : List Int) (price : Int) (pl bl : List Int) (E : Int) (o : Option DL) (i k : Nat) : St := { t := asg [(2, aB false), (4, .ptr 0 0), (5, aI n), (6, aInts hand), (7, aInts d), (8, aI price), (9, aInts pl), (10, aInts bl), (11, aI E), (14, aI (lst o)), (15, aIntss (partsL hand)), (16, aIntss (partsL d)), (17, aI i), (18, aI k)], h := hasg [(0, .cells (cLed L))], n := 1 }
def pd3 (L : Led) (n : Nat) (hand d : List Int) (price : Int) (pl bl : List Int) (least : Int) (i : Nat) : St := { t := asg [(2, aB false), (4, .ptr 0 0), (5, aI n), (6, aInts hand), (7, aInts d), (8, aI price), (9, aInts pl), (10, aInts bl), (14, aI least), (20, aI i)], h := hasg [(0, .cells (cLed L))], n := 1 }
def tbN9_18 := gk @ty3 (gk @ty22 (gk @ty28 (gk @ty30 (gk @ty38 (gk @ti3.eq_1 (gk @ti22.eq_1 (gk @ti28.eq_1 (gk @ti30.eq_1 @ti38.eq_1))))))))
def xbN9_1 := gk @aI.eq_1 (gk @aB.eq_1 (gk @aLed.eq_1 (gk @cLed.eq_1 (gk @bgH.eq_1 (gk @aInts.eq_1 (gk @aIntss.eq_1 (gk @mInt (gk @mInts (gk @eInt.eq_1 (gk @gInt (gk @gInts (gk @eInts.eq_1 (gk @c19.eq_1 (gk @c19.eq_2 (gk @p20.eq_1 (gk @p20.eq_2 (gk @p22.eq_1 (gk @p22.eq_2 (gk @p27.eq_1 (gk @p27.eq_2 (gk @s83.eq_1 (gk @s83.eq_2 (gk @isL_e (@ldOf_e))))))))))))))))))))))))
set_option maxHeartbeats 40000000 in
theorem paidL_fn (ns : List Int) (h2 : ns.length ≤ maxLen) : FnV Try.prog 18 [aInts ns] (aB true) := by
  have env : Env (fun _ => True) Try.prog tyB (tab [(19, valE true c19), (20, fnE p20), (22, fnE p22), (27, fnE p27), (30, valE true s83), (67, fnE p67), (69, valE false c69), (72, valE true c72), (73, valE false c73), (75, valE false c75)]) := mkEnv ⟨d19, e20, e22, e27, e30, e67, d69, d72, d73, d75, trivial⟩
  refine Fn.of (A := fun _ => True) (n0 := 0) (D := noD) (Fn0 Try.func18 rfl (fun vs w => by kernel_rfl) (by kernel_rfl)) (by simp) (by simp [AV.ids, AV.idsL, aInts, aI]) (fun i o h => by cases h) (fun _ _ _ _ => trivial) noD_ok ?_
  have big : (100000 : Nat) ≤ maxLen := by decide
  have z1 : (1 : Int) ≤ 1 ∧ (1 : Int) ≤ 4 := by decide
  have z2 : (0 : Int) ≤ 0 ∧ (0 : Int) ≤ 6 := by decide
  have hok := lg_ok (x := nbS ns) (w := 0) z1 z1 z2
  have hE := lg_e0 (nbS ns) 1 1 0
  have hC1 := lg1_one (nbS ns) 1 0 0
  obtain ⟨L, hL⟩ : ∃ L, lgL (nbS ns) 1 1 0 0 = L := ⟨_, rfl⟩
  obtain ⟨y, hy⟩ : ∃ y, lgS (nbS ns) 1 1 0 0 = y := ⟨_, rfl⟩
  rw [hL] at hok hE hC1
  have hfit := hok.fit
  have hchk : checkE L = 0 := by rw [hok.check, entries0 hE]
  obtain ⟨j, hj, hpc⟩ := hok.p _ (gMem (l := L.coins) (k := 0) (d := []) (by omega))
  have hce := coinE_ok hpc hj
  obtain ⟨ps, hP⟩ : ∃ ps, L.coins.getD 0 [] = ps := ⟨_, rfl⟩
  rw [hP] at hpc hce
  have hps := coin_ok hce
  have hpl := hps.l
  have hpz : PzOk ps := ⟨hpl.2, hps.b⟩
  obtain ⟨n, hn⟩ : ∃ n, ps.length = n := ⟨_, rfl⟩
  rw [hn] at hpl
  have hn2 : ((n : Nat) : Int).toNat = n := Int.toNat_natCast n
  have c10 : 0 < L.coins.length := by omega
  have hh3 := dlS_bd (m := 3) (b := y) (by decide) (by decide) n
  have hhl := dlS_len 3 y n
  obtain ⟨hand, hhd⟩ : ∃ d, (dlS 3 y n).2 = d := ⟨_, rfl⟩
  obtain ⟨y1, hy1⟩ : ∃ d, (dlS 3 y n).1 = d := ⟨_, rfl⟩
  rw [hhd] at hh3 hhl
  have hd3 := dlS_bd (m := 3) (b := y1) (by decide) (by decide) n
  have hdl := dlS_len 3 y1 n
  obtain ⟨d, hdd⟩ : ∃ d, (dlS 3 y1 n).2 = d := ⟨_, rfl⟩
  obtain ⟨y2, hy2⟩ : ∃ d, (dlS 3 y1 n).1 = d := ⟨_, rfl⟩
  rw [hdd] at hd3 hdl
  have u4 := upV_le (x := y2) (m := 25) (by decide) (by decide)
  obtain ⟨price, hpr⟩ : ∃ A, upV y2 25 = A := ⟨_, rfl⟩
  rw [hpr] at u4
  have hhb : ∀ v ∈ hand, 0 ≤ v ∧ v ≤ 4 := fun v hv => by have := hh3 v hv; omega
  have hdb : ∀ v ∈ d, 0 ≤ v ∧ v ≤ 4 := fun v hv => by have := hd3 v hv; omega
  have hh0 : ∀ x ∈ hand, 0 ≤ x := fun x hx => (hhb x hx).1
  have hd0 : ∀ x ∈ d, 0 ≤ x := fun x hx => (hdb x hx).1
  have hhl4 : hand.length ≤ 4 := by omega
  have hdl4 : d.length ≤ 4 := by omega
  have hP' : L.coins.getD (0 : Int).toNat [] = ps := hP
  have hcA : (0 : Int) ≤ 0 ∧ (0 : Int) ≤ (L.coins.length : Int) - 1 := by omega
  have hp9 : 0 ≤ price ∧ price ≤ 999 := by omega
  have m1 : moneyE L 0 price [hand, d] = 0 := money0 hchk hcA (fun p hp => by
    simp at hp
    rw [hP', hn]
    rcases hp with rfl | rfl
    · exact ⟨hhl, hhb⟩
    · exact ⟨hdl, hdb⟩) hp9
  have m2 : moneyE L 0 price [hand] = 0 := money0 hchk hcA (fun p hp => by rw [List.mem_singleton.1 hp, hP', hhl, hn]; exact ⟨rfl, hhb⟩) hp9
  have h20 : hand.length ≤ 20 := by omega
  have d20 : d.length ≤ 20 := by omega
  have hmA := fun x hx => part_bd hhb hhl4 (x := x) hx
  have hmB := fun x hx => part_bd hdb hdl4 (x := x) hx
  have lenA : (partsL hand).length ≤ 625 := Nat.le_trans (parts_le fun n hn => (hhb n hn).2) (Nat.le_trans (Nat.pow_le_pow_right (by decide) hhl4) (by decide))
  have lenB : (partsL d).length ≤ 625 := Nat.le_trans (parts_le fun n hn => (hdb n hn).2) (Nat.le_trans (Nat.pow_le_pow_right (by decide) hdl4) (by decide))
  have hend := pdAll_end ps hand d price
  have zn : ∀ n : Int, decide (n = n) = true := fun n => decide_eq_true rfl
  have w00 : IntKind.wrap .i64 0 = 0 := rfl
  have wP : IntKind.wrap .i64 price = price := wrap64 (by omega) (by omega)
  obtain ⟨pl, hpl2⟩ : ∃ w, plF (payL ps hand d price) = w := ⟨_, rfl⟩
  obtain ⟨bl, hbl2⟩ : ∃ w, blF (payL ps hand d price) = w := ⟨_, rfl⟩
  obtain ⟨E, hE2⟩ : ∃ w, eF (payL ps hand d price) = w := ⟨_, rfl⟩
  have hc1 : aPay L 0 hand d price = .tup [.sl (pl.map eInt), .sl (bl.map eInt), .v (.int .i64 E)] := by
    rw [aPay_of (o := payL ps hand d price) m1 hh0 hd0 (by rw [hP']), payV_eq, hpl2, hbl2, hE2]
  have hc2 := aChg_o (o := chs ps hand price) m2 hh0 (by rw [hP'])
  obtain ⟨w, hw⟩ : ∃ w, oL (chs ps hand price) = w := ⟨_, rfl⟩
  obtain ⟨E2, hF2⟩ : ∃ w, oE (chs ps hand price) = w := ⟨_, rfl⟩
  have hEE : (E = 0 ∧ (E2 = 0 ∨ E2 = 11)) ∨ (E = 11 ∧ E2 = 11) := by
    rw [← hE2, ← hF2]
    cases ho : payL ps hand d price with
    | none =>
      refine .inr ⟨rfl, ?_⟩
      cases hx : chs ps hand price with
      | none => rfl
      | some x =>
        have := pay_none ho x (chs_mem hx).1 _ (zeros_in hd0)
        rw [(chs_mem hx).2.1, dot_zeros] at this
        omega
    | some q =>
      refine .inl ⟨rfl, ?_⟩
      cases chs ps hand price with
      | none => exact .inr rfl
      | some x => exact .inl rfl
  rw [hw, hF2] at hc2
  iterate 7
    repeat' (first | refine zq0 ?_ | refine zq1 ?_ | refine zq2 ?_ | refine zq3 ?_ | refine zq4 ?_ | refine zq5 ?_ | refine gq ?_ | refine pw ?_ | refine pv ?_ | refine pj ?_ | refine pk ?_ | refine pz ?_ | refine pq (by decide) ?_)
    (refine gz env fun Q hQ => ?_; simp only [vkt, seval, tbN9_18, xbN9_1, pd1, pd2, pd3, p67, c69, c72, c73, c75, dlS_len, hL, hy, hP, hn, hn2, hhd, hy1, hdd, hy2, hpr, hc1, hc2, hhl, hdl]; (try simp only [ite_and]); (repeat' (first | with_reducible assumption | refine And.intro ?_ ?_ | intro hp)); all_goals (first | (refine hQ _ ?_; clear hQ Q) | (refine gx ?_; kernel_rfl) | omega | assumption | with_reducible rfl | skip))
  repeat' (first | refine zq0 ?_ | refine zq1 ?_ | refine zq2 ?_ | refine zq3 ?_ | refine zq4 ?_ | refine zq5 ?_ | refine gq ?_ | refine pw ?_ | refine pv ?_ | refine pj ?_ | refine pk ?_ | refine pz ?_ | refine pq (by decide) ?_)
  refine Sym.mono (K := fun e S1 => e = .normal ∧ Le S1 { t := asg [(2, aB false), (4, .ptr 0 0), (5, aI n), (6, aInts hand), (7, aInts d), (8, aI price), (9, aInts pl), (10, aInts bl), (11, aI E), (67, aB false)], h := hasg [(0, .cells (cLed L))], n := 1 }) ?_ ?_
  · rcases hEE with ⟨rfl, rfl | rfl⟩ | ⟨rfl, rfl⟩
    all_goals
      (refine gz env fun Q hQ => ?_; simp only [vkt, seval, tbN9_18, xbN9_1, pd1, pd2, pd3, p67, c69, c72, c73, c75, dlS_len, zn, decide_true, Bool.not_true]; (try simp only [ite_and]); (repeat' (first | with_reducible assumption | refine And.intro ?_ ?_ | intro hp)); all_goals (first | (refine hQ _ ?_; clear hQ Q) | (refine gx ?_; kernel_rfl) | omega | assumption | with_reducible rfl | skip))
      refine ⟨rfl, ?_⟩
      (refine Le.ok (fun j => if j = 0 then some 1 else none) [] ?_; constructor; all_goals (try simp only [vle, vkt, seval, tbN9_18, xbN9_1, pd1, pd2, pd3, p67, c69, c72, c73, c75, dlS_len]))
      all_goals first | rfl | (simp; done)
  rintro e S1 ⟨rfl, hle⟩
  refine (sym_le hle ?_ : Sym _ _ _ S1 _)
  repeat' (first | refine zq0 ?_ | refine zq1 ?_ | refine zq2 ?_ | refine zq3 ?_ | refine zq4 ?_ | refine zq5 ?_ | refine gq ?_ | refine pw ?_ | refine pv ?_ | refine pj ?_ | refine pk ?_ | refine pz ?_ | refine pq (by decide) ?_ | ((first | refine gz env fun Q hQ => ?_ | refine gj fun Q hQ => ?_); simp only [vkt, seval, tbN9_18, xbN9_1, pd1, pd2, pd3, p67, c69, c72, c73, c75, dlS_len]; (try simp only [ite_and]); (repeat' (first | with_reducible assumption | refine And.intro ?_ ?_)); all_goals (first | (refine hQ _ ?_; clear hQ Q) | (refine hQ _ (fun h => ?_) (fun h => ?_) <;> clear hQ Q <;> (try simp only [vki, reduceCtorEq] at h)) | (refine gx ?_; kernel_rfl) | omega | with_reducible assumption | with_reducible rfl | skip)))
  refine sym_loop (fun i : { i : Nat // i ≤ (partsL hand).length } => pd1 L n hand d price pl bl E (pdAll ps hand d price i.1) i.1) (fun i => (partsL hand).length - i.1) ⟨0, Nat.zero_le _⟩ ?_ fun ⟨i, hi⟩ => ?_
  · (refine Le.ok some [] ?_; constructor; all_goals (try simp only [vle, vkt, seval, tbN9_18, xbN9_1, pd1, pd2, pd3, p67, c69, c72, c73, c75, dlS_len]))
    all_goals first | rfl | (simp [pdAll, lst]; done)
  · repeat' (first | refine zq0 ?_ | refine zq1 ?_ | refine zq2 ?_ | refine zq3 ?_ | refine zq4 ?_ | refine zq5 ?_ | refine gq ?_ | refine pw ?_ | refine pv ?_ | refine pj ?_ | refine pk ?_ | refine pz ?_ | refine pq (by decide) ?_)
    (refine gz env fun Q hQ => ?_; simp only [vkt, seval, tbN9_18, xbN9_1, pd1, pd2, pd3, p67, c69, c72, c73, c75, dlS_len]; (try simp only [ite_and]); (repeat' (first | with_reducible assumption | refine And.intro ?_ ?_ | intro hp)); all_goals (first | (refine hQ _ ?_; clear hQ Q) | (refine gx ?_; kernel_rfl) | omega | assumption | with_reducible rfl | skip))
    repeat' (first | refine zq0 ?_ | refine zq1 ?_ | refine zq2 ?_ | refine zq3 ?_ | refine zq4 ?_ | refine zq5 ?_ | refine gq ?_ | refine pw ?_ | refine pv ?_ | refine pj ?_ | refine pk ?_ | refine pz ?_ | refine pq (by decide) ?_)
    (refine sym_cd (by simp only [vkt, seval, tbN9_18, xbN9_1, pd1, pd2, pd3, p67, c69, c72, c73, c75, dlS_len]; rfl) (fun h => ?_) (fun h => ?_) <;> (try simp only [vki, reduceCtorEq] at h))
    · have hlt : i < (partsL hand).length := by omega
      obtain ⟨x, hx⟩ : ∃ x, (partsL hand).getD i [] = x := ⟨_, rfl⟩
      have hxm : x ∈ partsL hand := hx ▸ gMem hlt
      obtain ⟨xl, xb, xs0, xs1⟩ := hmA x hxm
      have sx := sum_pSum x
      have hAS := pdAll_succ (ps := ps) (d := d) (price := price) hlt
      rw [hx] at hAS
      obtain ⟨oi, hoi⟩ : ∃ o, pdAll ps hand d price i = o := ⟨_, rfl⟩
      have hbi : ∀ q, oi = some q → 0 ≤ cntD q ∧ cntD q ≤ 32 := fun q hq => by
        rw [← hoi] at hq
        unfold pdAll pdRow at hq
        rw [List.take_length, ← foldl_flat] at hq
        refine pd_nn _ none (fun r hr => ?_) (fun q hq => by cases hq) q hq
        obtain ⟨u, hu, hr⟩ := List.mem_flatMap.1 hr
        obtain ⟨v, hv, rfl⟩ := List.mem_map.1 hr
        have h1 := hmA u (List.mem_of_mem_take hu)
        have h2 := hmB v hv
        show 0 ≤ u.sum + v.sum ∧ u.sum + v.sum ≤ 32
        omega
      have e9 : IntKind.wrap .i64 ((i : Int) + 1) = ((i + 1 : Nat) : Int) := by rw [wrap64 (by omega) (by omega)]; rfl
      rw [hoi] at hAS
      repeat' (first | refine zq0 ?_ | refine zq1 ?_ | refine zq2 ?_ | refine zq3 ?_ | refine zq4 ?_ | refine zq5 ?_ | refine gq ?_ | refine pw ?_ | refine pv ?_ | refine pj ?_ | refine pk ?_ | refine pz ?_ | refine pq (by decide) ?_ | ((first | refine gz env fun Q hQ => ?_ | refine gj fun Q hQ => ?_); simp only [vkt, seval, tbN9_18, xbN9_1, pd1, pd2, pd3, p67, c69, c72, c73, c75, dlS_len, hoi]; (try simp only [ite_and]); (repeat' (first | with_reducible assumption | refine And.intro ?_ ?_ | intro hp)); all_goals (first | (refine hQ _ ?_; clear hQ Q) | (refine hQ _ (fun h => ?_) (fun h => ?_) <;> clear hQ Q <;> (try simp only [vki, reduceCtorEq] at h)) | (refine gx ?_; kernel_rfl) | omega | assumption | with_reducible rfl | skip)))
      refine sym_loop (fun k : { k : Nat // k ≤ (partsL d).length } => pd2 L n hand d price pl bl E (pdRow ps d price oi x k.1) i k.1) (fun k => (partsL d).length - k.1) ⟨0, Nat.zero_le _⟩ ?_ fun ⟨k, hk⟩ => ?_
      · (refine Le.ok some [] ?_; constructor; all_goals (try simp only [vle, vkt, seval, tbN9_18, xbN9_1, pd1, pd2, pd3, p67, c69, c72, c73, c75, dlS_len]))
        all_goals first | rfl | (simp [pdRow, hoi]; done)
      · repeat' (first | refine zq0 ?_ | refine zq1 ?_ | refine zq2 ?_ | refine zq3 ?_ | refine zq4 ?_ | refine zq5 ?_ | refine gq ?_ | refine pw ?_ | refine pv ?_ | refine pj ?_ | refine pk ?_ | refine pz ?_ | refine pq (by decide) ?_)
        (refine gz env fun Q hQ => ?_; simp only [vkt, seval, tbN9_18, xbN9_1, pd1, pd2, pd3, p67, c69, c72, c73, c75, dlS_len]; (try simp only [ite_and]); (repeat' (first | with_reducible assumption | refine And.intro ?_ ?_ | intro hp)); all_goals (first | (refine hQ _ ?_; clear hQ Q) | (refine gx ?_; kernel_rfl) | omega | assumption | with_reducible rfl | skip))
        repeat' (first | refine zq0 ?_ | refine zq1 ?_ | refine zq2 ?_ | refine zq3 ?_ | refine zq4 ?_ | refine zq5 ?_ | refine gq ?_ | refine pw ?_ | refine pv ?_ | refine pj ?_ | refine pk ?_ | refine pz ?_ | refine pq (by decide) ?_)
        (refine sym_cd (by simp only [vkt, seval, tbN9_18, xbN9_1, pd1, pd2, pd3, p67, c69, c72, c73, c75, dlS_len]; rfl) (fun h => ?_) (fun h => ?_) <;> (try simp only [vki, reduceCtorEq] at h))
        · have hkl : k < (partsL d).length := by omega
          obtain ⟨y, hy⟩ : ∃ x, (partsL d).getD k [] = x := ⟨_, rfl⟩
          have hym : y ∈ partsL d := hy ▸ gMem hkl
          obtain ⟨yl, yb, ys0, ys1⟩ := hmB y hym
          have sy := sum_pSum y
          have hRS := pdRow_succ (ps := ps) (price := price) (o := oi) (x := x) hkl
          rw [hy] at hRS
          obtain ⟨ok, hok2⟩ : ∃ o, pdRow ps d price oi x k = o := ⟨_, rfl⟩
          have hbk : ∀ q, ok = some q → 0 ≤ cntD q ∧ cntD q ≤ 32 := fun q hq => by
            rw [← hok2] at hq
            refine pd_nn _ oi (fun r hr => ?_) hbi q hq
            obtain ⟨v, hv, rfl⟩ := List.mem_map.1 hr
            have h2 := hmB v (List.mem_of_mem_take hv)
            show 0 ≤ x.sum + v.sum ∧ x.sum + v.sum ≤ 32
            omega
          rw [hok2] at hRS
          have e8 : IntKind.wrap .i64 ((k : Int) + 1) = ((k + 1 : Nat) : Int) := by rw [wrap64 (by omega) (by omega)]; rfl
          obtain ⟨px, hpx⟩ : ∃ v, pSum x = v := ⟨_, rfl⟩
          obtain ⟨py, hpy⟩ : ∃ v, pSum y = v := ⟨_, rfl⟩
          obtain ⟨vx, hvx⟩ : ∃ v, dotL ps x = v := ⟨_, rfl⟩
          obtain ⟨vy, hvy⟩ : ∃ v, dotL ps y = v := ⟨_, rfl⟩
          have bx := dot_bd hpz.bd xb
          have by' := dot_bd hpz.bd yb
          rw [hvx] at bx
          rw [hvy] at by'
          rw [hpx] at sx
          rw [hpy] at sy
          have wS : IntKind.wrap .i64 (px + py) = px + py := wrap64 (by omega) (by omega)
          have wD : IntKind.wrap .i64 (vx - vy) = vx - vy := wrap64 (by omega) (by omega)
          have x1 : x.length ≤ 10000 := by omega
          have x2 : ∀ v ∈ x, 0 ≤ v ∧ v ≤ 1000000 := fun v hv => by have := xb v hv; omega
          have y1' : y.length ≤ 10000 := by omega
          have y2' : ∀ v ∈ y, 0 ≤ v ∧ v ≤ 1000000 := fun v hv => by have := yb v hv; omega
          have xl2 : x.length ≤ ps.length := by omega
          have yl2 : y.length ≤ ps.length := by omega
          have hcnt : cntD (x, y) = px + py := by show x.sum + y.sum = _; omega
          have hsel : pySel ps price (x, y) = decide (vx - vy = price) := by show decide (dotL ps x - dotL ps y = price) = _; rw [hvx, hvy]
          unfold pkG at hRS
          rw [hsel] at hRS
          clear hmA hmB lenA lenB hend hbi m1 m2 hok hfit hce hps hhb hdb hh3 hd3 hsel
          by_cases c1 : vx - vy = price
          case' pos =>
            rw [decide_eq_true c1, if_pos rfl] at hRS
            cases ok
            case' none =>
              have lo : lst (pdRow ps d price oi x (k + 1)) = px + py := by rw [hRS]; exact hcnt
              repeat' (first | refine zq0 ?_ | refine zq1 ?_ | refine zq2 ?_ | refine zq3 ?_ | refine zq4 ?_ | refine zq5 ?_ | refine gq ?_ | refine pw ?_ | refine pv ?_ | refine pj ?_ | refine pk ?_ | refine pz ?_ | refine pq (by decide) ?_ | ((first | refine gz env fun Q hQ => ?_ | refine gj fun Q hQ => ?_); simp only [vkt, seval, tbN9_18, xbN9_1, pd1, pd2, pd3, p67, c69, c72, c73, c75, dlS_len, hP, hx, hy, hpx, hpy, hvx, hvy, wS, wD, wP, c1, zn, decide_true, Bool.not_true, e8, hok2, lst.eq_1]; (try simp only [ite_and]); (repeat' (first | with_reducible assumption | refine And.intro ?_ ?_ | intro hp)); all_goals (first | (refine hQ _ ?_; clear hQ Q) | (refine hQ _ (fun h => ?_) (fun h => ?_) <;> clear hQ Q <;> (try simp only [vki, reduceCtorEq] at h)) | (refine gx ?_; kernel_rfl) | omega | assumption | with_reducible rfl | skip)))
            case' some b =>
              obtain ⟨b0, b1⟩ := hbk b rfl
              have c2 : ¬ cntD b < 0 := by omega
              have lo : lst (pdRow ps d price oi x (k + 1)) = if px + py < cntD b then px + py else cntD b := by
                rw [hRS, ← hcnt]
                show cntD (btr cntD b (x, y)) = _
                unfold btr
                split <;> rfl
              by_cases c3 : px + py < cntD b
              case' pos => rw [if_pos c3] at lo
              case' neg => rw [if_neg c3] at lo
              all_goals repeat' (first | refine zq0 ?_ | refine zq1 ?_ | refine zq2 ?_ | refine zq3 ?_ | refine zq4 ?_ | refine zq5 ?_ | refine gq ?_ | refine pw ?_ | refine pv ?_ | refine pj ?_ | refine pk ?_ | refine pz ?_ | refine pq (by decide) ?_ | ((first | refine gz env fun Q hQ => ?_ | refine gj fun Q hQ => ?_); simp only [vkt, seval, tbN9_18, xbN9_1, pd1, pd2, pd3, p67, c69, c72, c73, c75, dlS_len, hP, hx, hy, hpx, hpy, hvx, hvy, wS, wD, wP, c1, c2, c3, zn, decide_true, Bool.not_true, e8, hok2, lst.eq_2]; (try simp only [ite_and]); (repeat' (first | with_reducible assumption | refine And.intro ?_ ?_ | intro hp)); all_goals (first | (refine hQ _ ?_; clear hQ Q) | (refine hQ _ (fun h => ?_) (fun h => ?_) <;> clear hQ Q <;> (try simp only [vki, reduceCtorEq] at h)) | (refine gx ?_; kernel_rfl) | omega | assumption | with_reducible rfl | skip)))
          case' neg =>
            rw [decide_eq_false c1, if_neg (by simp)] at hRS
            have lo : lst (pdRow ps d price oi x (k + 1)) = lst ok := by rw [hRS]
            repeat' (first | refine zq0 ?_ | refine zq1 ?_ | refine zq2 ?_ | refine zq3 ?_ | refine zq4 ?_ | refine zq5 ?_ | refine gq ?_ | refine pw ?_ | refine pv ?_ | refine pj ?_ | refine pk ?_ | refine pz ?_ | refine pq (by decide) ?_ | ((first | refine gz env fun Q hQ => ?_ | refine gj fun Q hQ => ?_); simp only [vkt, seval, tbN9_18, xbN9_1, pd1, pd2, pd3, p67, c69, c72, c73, c75, dlS_len, hP, hx, hy, hpx, hpy, hvx, hvy, wS, wD, c1, e8, hok2]; (try simp only [ite_and]); (repeat' (first | with_reducible assumption | refine And.intro ?_ ?_ | intro hp)); all_goals (first | (refine hQ _ ?_; clear hQ Q) | (refine hQ _ (fun h => ?_) (fun h => ?_) <;> clear hQ Q <;> (try simp only [vki, reduceCtorEq] at h)) | (refine gx ?_; kernel_rfl) | omega | assumption | with_reducible rfl | skip)))
          all_goals
            refine ⟨⟨k + 1, hkl⟩, by dsimp only; omega, ?_⟩
            (refine Le.ok some [] ?_; constructor; all_goals (try simp only [vle, vkt, seval, tbN9_18, xbN9_1, pd1, pd2, pd3, p67, c69, c72, c73, c75, dlS_len]))
            all_goals first | rfl | (simp [lo]; done) | (rw [lo]; done)
        · have hkn : k = (partsL d).length := by omega
          subst hkn
          repeat' (first | refine zq0 ?_ | refine zq1 ?_ | refine zq2 ?_ | refine zq3 ?_ | refine zq4 ?_ | refine zq5 ?_ | refine gq ?_ | refine pw ?_ | refine pv ?_ | refine pj ?_ | refine pk ?_ | refine pz ?_ | refine pq (by decide) ?_ | ((first | refine gz env fun Q hQ => ?_ | refine gj fun Q hQ => ?_); simp only [vkt, seval, tbN9_18, xbN9_1, pd1, pd2, pd3, p67, c69, c72, c73, c75, dlS_len, e9]; (try simp only [ite_and]); (repeat' (first | with_reducible assumption | refine And.intro ?_ ?_ | intro hp)); all_goals (first | (refine hQ _ ?_; clear hQ Q) | (refine hQ _ (fun h => ?_) (fun h => ?_) <;> clear hQ Q <;> (try simp only [vki, reduceCtorEq] at h)) | (refine gx ?_; kernel_rfl) | omega | assumption | with_reducible rfl | skip)))
          refine ⟨⟨i + 1, hlt⟩, by dsimp only; omega, ?_⟩
          (refine Le.ok some [] ?_; constructor; all_goals (try simp only [vle, vkt, seval, tbN9_18, xbN9_1, pd1, pd2, pd3, p67, c69, c72, c73, c75, dlS_len]))
          all_goals first | rfl | (simp [hAS]; done)
    · have hin : i = (partsL hand).length := by omega
      subst hin
      cases ho : payL ps hand d price with
      | none =>
        rw [ho] at hend hpl2 hbl2 hE2
        obtain rfl : [] = pl := hpl2
        obtain rfl : [] = bl := hbl2
        obtain rfl : (11 : Int) = E := hE2
        repeat' (first | refine zq0 ?_ | refine zq1 ?_ | refine zq2 ?_ | refine zq3 ?_ | refine zq4 ?_ | refine zq5 ?_ | refine gq ?_ | refine pw ?_ | refine pv ?_ | refine pj ?_ | refine pk ?_ | refine pz ?_ | refine pq (by decide) ?_ | ((first | refine gz env fun Q hQ => ?_ | refine gj fun Q hQ => ?_); simp only [vkt, seval, tbN9_18, xbN9_1, pd1, pd2, pd3, p67, c69, c72, c73, c75, dlS_len, hend, lst.eq_1, w00, zn, decide_true, Bool.not_true]; (try simp only [ite_and]); (repeat' (first | with_reducible assumption | refine And.intro ?_ ?_ | intro hp)); all_goals (first | (refine hQ _ ?_; clear hQ Q) | (refine hQ _ (fun h => ?_) (fun h => ?_) <;> clear hQ Q <;> (try simp only [vki, reduceCtorEq] at h)) | (refine gx ?_; kernel_rfl) | omega | assumption | with_reducible rfl | skip)))
        (simp only [vrt, Try.results18, vkt, seval, tbN9_18, xbN9_1, pd1, pd2, pd3, p67, c69, c72, c73, c75, dlS_len]; refine Fin.val rfl ?_; (try simp only [AV.le, AV.leL]))
        all_goals first | rfl | (simp; done)
      | some q =>
        obtain ⟨a, b⟩ := q
        obtain ⟨qa, qb, qd, _⟩ := pay_mem ho
        simp only at qa qb qd
        obtain ⟨aq, ab, as0, as1⟩ := hmA a qa
        obtain ⟨bq, bb, bs0, bs1⟩ := hmB b qb
        have pa := (parts_mem hh0 qa).2
        have pb := (parts_mem hd0 qb).2
        have al2 : a.length = n := by omega
        have bl2 : b.length = n := by omega
        have a1 : a.length ≤ 10000 := by omega
        have a2 : ∀ v ∈ a, 0 ≤ v ∧ v ≤ 1000000 := fun v hv => by have := ab v hv; omega
        have b1 : b.length ≤ 10000 := by omega
        have b2 : ∀ v ∈ b, 0 ≤ v ∧ v ≤ 1000000 := fun v hv => by have := bb v hv; omega
        have a3 : a.length ≤ ps.length := by omega
        have b3 : b.length ≤ ps.length := by omega
        have sa := sum_pSum a
        have sb := sum_pSum b
        obtain ⟨va, hva⟩ : ∃ v, dotL ps a = v := ⟨_, rfl⟩
        obtain ⟨vb, hvb⟩ : ∃ v, dotL ps b = v := ⟨_, rfl⟩
        obtain ⟨ka, hka⟩ : ∃ v, pSum a = v := ⟨_, rfl⟩
        obtain ⟨kb, hkb⟩ : ∃ v, pSum b = v := ⟨_, rfl⟩
        rw [hva, hvb] at qd
        rw [hka] at sa
        rw [hkb] at sb
        have hcn : cntD (a, b) = ka + kb := by show a.sum + b.sum = _; omega
        obtain ⟨m, hm⟩ : ∃ m, ka + kb = m := ⟨_, rfl⟩
        have hlm : lst (some (a, b)) = m := by rw [← hm]; exact hcn
        have m0 : ¬ m < 0 := by omega
        have wM : IntKind.wrap .i64 m = m := wrap64 (by omega) (by omega)
        rw [ho] at hend hpl2 hbl2 hE2
        obtain rfl : a = pl := hpl2
        obtain rfl : b = bl := hbl2
        obtain rfl : (0 : Int) = E := hE2
        repeat' (first | refine zq0 ?_ | refine zq1 ?_ | refine zq2 ?_ | refine zq3 ?_ | refine zq4 ?_ | refine zq5 ?_ | refine gq ?_ | refine pw ?_ | refine pv ?_ | refine pj ?_ | refine pk ?_ | refine pz ?_ | refine pq (by decide) ?_ | ((first | refine gz env fun Q hQ => ?_ | refine gj fun Q hQ => ?_); simp only [vkt, seval, tbN9_18, xbN9_1, pd1, pd2, pd3, p67, c69, c72, c73, c75, dlS_len, hend, hlm, m0, al2, bl2, zn, decide_true, Bool.not_true]; (try simp only [ite_and]); (repeat' (first | with_reducible assumption | refine And.intro ?_ ?_ | intro hp)); all_goals (first | (refine hQ _ ?_; clear hQ Q) | (refine hQ _ (fun h => ?_) (fun h => ?_) <;> clear hQ Q <;> (try simp only [vki, reduceCtorEq] at h)) | (refine gx ?_; kernel_rfl) | omega | assumption | with_reducible rfl | skip)))
        refine sym_loop (fun i : { i : Nat // i ≤ n } => pd3 L n hand d price a b m i.1) (fun i => n - i.1) ⟨0, Nat.zero_le _⟩ ?_ fun ⟨i, hi⟩ => ?_
        · (refine Le.ok some [] ?_; constructor; all_goals (try simp only [vle, vkt, seval, tbN9_18, xbN9_1, pd1, pd2, pd3, p67, c69, c72, c73, c75, dlS_len]))
          all_goals first | rfl | (simp; done)
        · repeat' (first | refine zq0 ?_ | refine zq1 ?_ | refine zq2 ?_ | refine zq3 ?_ | refine zq4 ?_ | refine zq5 ?_ | refine gq ?_ | refine pw ?_ | refine pv ?_ | refine pj ?_ | refine pk ?_ | refine pz ?_ | refine pq (by decide) ?_)
          (refine gz env fun Q hQ => ?_; simp only [vkt, seval, tbN9_18, xbN9_1, pd1, pd2, pd3, p67, c69, c72, c73, c75, dlS_len]; (try simp only [ite_and]); (repeat' (first | with_reducible assumption | refine And.intro ?_ ?_ | intro hp)); all_goals (first | (refine hQ _ ?_; clear hQ Q) | (refine gx ?_; kernel_rfl) | omega | assumption | with_reducible rfl | skip))
          repeat' (first | refine zq0 ?_ | refine zq1 ?_ | refine zq2 ?_ | refine zq3 ?_ | refine zq4 ?_ | refine zq5 ?_ | refine gq ?_ | refine pw ?_ | refine pv ?_ | refine pj ?_ | refine pk ?_ | refine pz ?_ | refine pq (by decide) ?_)
          (refine sym_cd (by simp only [vkt, seval, tbN9_18, xbN9_1, pd1, pd2, pd3, p67, c69, c72, c73, c75, dlS_len]; rfl) (fun h => ?_) (fun h => ?_) <;> (try simp only [vki, reduceCtorEq] at h))
          · have hlt : i < n := by omega
            have i1 : i < a.length := by omega
            have i2 : i < b.length := by omega
            have i3 : i < hand.length := by omega
            have i4 : i < d.length := by omega
            obtain ⟨v, hv⟩ : ∃ v, a.getD i 0 = v := ⟨_, rfl⟩
            obtain ⟨u, hu⟩ : ∃ v, hand.getD i 0 = v := ⟨_, rfl⟩
            obtain ⟨v', hv'⟩ : ∃ v, b.getD i 0 = v := ⟨_, rfl⟩
            obtain ⟨u', hu'⟩ : ∃ v, d.getD i 0 = v := ⟨_, rfl⟩
            have k1 := pa i i3
            have k2 := pb i i4
            rw [hv, hu] at k1
            rw [hv', hu'] at k2
            have c1 : ¬ v < 0 := by omega
            have c2 : ¬ u < v := by omega
            have c3 : ¬ v' < 0 := by omega
            have c4 : ¬ u' < v' := by omega
            have e9 : IntKind.wrap .i64 ((i : Int) + 1) = ((i + 1 : Nat) : Int) := by rw [wrap64 (by omega) (by omega)]; rfl
            repeat' (first | refine zq0 ?_ | refine zq1 ?_ | refine zq2 ?_ | refine zq3 ?_ | refine zq4 ?_ | refine zq5 ?_ | refine gq ?_ | refine pw ?_ | refine pv ?_ | refine pj ?_ | refine pk ?_ | refine pz ?_ | refine pq (by decide) ?_ | ((first | refine gz env fun Q hQ => ?_ | refine gj fun Q hQ => ?_); simp only [vkt, seval, tbN9_18, xbN9_1, pd1, pd2, pd3, p67, c69, c72, c73, c75, dlS_len, hv, hu, hv', hu', c1, c2, c3, c4, e9, al2, bl2, hhl, hdl]; (try simp only [ite_and]); (repeat' (first | with_reducible assumption | refine And.intro ?_ ?_ | intro hp)); all_goals (first | (refine hQ _ ?_; clear hQ Q) | (refine hQ _ (fun h => ?_) (fun h => ?_) <;> clear hQ Q <;> (try simp only [vki, reduceCtorEq] at h)) | (refine gx ?_; kernel_rfl) | omega | assumption | with_reducible rfl | skip)))
            refine ⟨⟨i + 1, hlt⟩, by dsimp only; omega, ?_⟩
            (refine Le.ok some [] ?_; constructor; all_goals (try simp only [vle, vkt, seval, tbN9_18, xbN9_1, pd1, pd2, pd3, p67, c69, c72, c73, c75, dlS_len]))
            all_goals first | rfl | (simp; done)
          · have hin : i = n := by omega
            subst hin
            repeat' (first | refine zq0 ?_ | refine zq1 ?_ | refine zq2 ?_ | refine zq3 ?_ | refine zq4 ?_ | refine zq5 ?_ | refine gq ?_ | refine pw ?_ | refine pv ?_ | refine pj ?_ | refine pk ?_ | refine pz ?_ | refine pq (by decide) ?_ | ((first | refine gz env fun Q hQ => ?_ | refine gj fun Q hQ => ?_); simp only [vkt, seval, tbN9_18, xbN9_1, pd1, pd2, pd3, p67, c69, c72, c73, c75, dlS_len, hP, hva, hvb, hka, hkb, hm, qd, wP, wM, zn, decide_true, Bool.not_true]; (try simp only [ite_and]); (repeat' (first | with_reducible assumption | refine And.intro ?_ ?_ | intro hp)); all_goals (first | (refine hQ _ ?_; clear hQ Q) | (refine hQ _ (fun h => ?_) (fun h => ?_) <;> clear hQ Q <;> (try simp only [vki, reduceCtorEq] at h)) | (refine gx ?_; kernel_rfl) | omega | assumption | with_reducible rfl | skip)))
            (simp only [vrt, Try.results18, vkt, seval, tbN9_18, xbN9_1, pd1, pd2, pd3, p67, c69, c72, c73, c75, dlS_len]; refine Fin.val rfl ?_; (try simp only [AV.le, AV.leL]))
            all_goals first | rfl | (simp; done)
end Go.Sym.B
