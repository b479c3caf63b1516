/-
  Contracts: the reference's Root and Small of small numbers, divisor, size, Norm.
  Contracts: the reference's Most, Area, Box, Sides; Box.
  Contracts: the reference's Sides.
-/
import Derived.Test.YtabhcfenjelkcaaGreatCtD
import Derived.Test.YtabhcfenjelkcaaGreatPlB
section
set_option linter.unusedVariables false
set_option linter.unusedSimpArgs false
set_option maxRecDepth 4000
namespace Go.Proofs.Gh.Tryz
open Go Go.Proofs Go.Proofs.Gh

theorem cmpI_le {a b : Int} : cmpI a b ≤ 0 ↔ a ≤ b := by unfold cmpI; split <;> (try split) <;> omega
theorem sq_le {a b : Int} (ha : 0 ≤ a) (hb : 0 ≤ b) : a * a ≤ b * b ↔ a ≤ b := by
  constructor
  · intro h
    apply Classical.byContradiction
    intro hn
    have := sq_lt hb (show b < a by omega)
    have e : (b + 1) * (b + 1) = b * b + 2 * b + 1 := by rw [Int.add_mul, Int.mul_add, Int.one_mul, Int.mul_one]; omega
    omega
  · intro h
    exact Int.mul_le_mul h h ha hb

theorem k_rRoot (s : Nat) (h0 : 0 < s) (hs : s ≤ 10000) : PureC Tryz.prog 278 [pZ ((s * s : Nat) : Int)] (.tup [pZ s, pB true]) := by
  have hxs : ((s * s : Nat) : Int) = (s : Int) * s := Int.natCast_mul ..
  have hx1 : s * s ≤ 100000000 := Nat.mul_le_mul hs hs
  have hx0 : 0 < s * s := Nat.mul_pos h0 h0
  generalize hx : s * s = x at *
  have hl : (iD (x : Int)).length = 1 := by unfold iD; rw [digs_small (by omega) (by omega)]; rfl
  have hk : ((iD (x : Int)).length : Int) / 2 + 1 = 1 := by omega
  have hof : PureC Tryz.prog 236 [pB false, pL (List.replicate (((iD (x : Int)).length : Int) / 2 + 1).toNat 0 ++ [1])] (pZ 1000000000) := by
    rw [hk]
    exact k_rnormal false [0, 1] (by simp) (.cons (by omega) (by omega) (.cons (by omega) (by omega) .nil))
  refine PureC.of Tryz.func278 rfl Tryz.ntmps278 (vs := [.cell 2 29, .tmp 3]) rfl (Nat.le_of_ble_eq_true rfl) rfl fun cx _ _ => ?_
  refine AWP.seq ?_
  refine AWP.region ?_
  refine OPS.a rfl (st_box rfl rfl) ?_
  refine OPS.a rfl (st_alloc ze29) ?_
  refine OPS.p rfl (st_assign rfl) ?_
  refine OPS.nil ?_
  refine AWP.seq ?_
  refine AWP.seq ?_
  refine AWP.region ?_
  refine OPS.p rfl (by exact st_field_p off29_0 rfl) ?_
  refine OPS.p rfl (by exact st_load_vs sc4 rfl rfl rfl) ?_
  refine OPS.nil ?_
  refine AWP.cond_f rfl ((decide_eq_false (by omega))) ?_
  refine AWP.skip ?_
  refine AWP.seq ?_
  refine AWP.region ?_
  refine OPS.p rfl ((st_build (L := []) zf29 pl_29 trivial rfl rfl).val (show _ = pZ 0 from congrArg PV.agg eI_zero.symm)) ?_
  refine OPS.a rfl (st_alloc ze29) ?_
  refine OPS.s (by exact st_store_v sz29 rfl rfl rfl rfl rfl rfl) ?_
  refine OPS.nil ?_
  refine AWP.seq ?_
  refine AWP.region ?_
  refine OPS.p rfl (by exact st_field_p off29_1 rfl) ?_
  refine OPS.p rfl (by exact st_load_vs sc22 rfl rfl rfl) ?_
  refine OPS.p rfl (st_len un22 rfl rfl) ?_
  refine OPS.p rfl (by exact st_quo_i rfl rfl (by omega) (by omega) (by omega)) ?_
  refine OPS.p rfl (by exact st_add_i rfl rfl (by omega) (by omega)) ?_
  refine OPS.a rfl (st_make_I ei22 rfl rfl (by omega) (by (simp; omega)) (by omega)) ?_
  refine OPS.a rfl (Stp.frz (st_buildS (L := [(0, (.const (.int .i64 1)), _)]) ei22 rfl ⟨rfl, trivial⟩ rfl rfl) rfl) ?_
  refine OPS.a rfl (by exact Stp.frz (st_append_I (v := [_]) ei22 un22 rfl rfl rfl rfl rfl (by (simp; done)) rfl (by (simp; omega)) (by (simp; omega))) rfl) ?_
  refine OPS.p rfl (st_call (L := [((.const (.bool false)), _), ((.tmp 21), _)]) false pl236 ⟨rfl, rfl, trivial⟩ rfl (hof) rfl) ?_
  refine OPS.a rfl (st_alloc ze29) ?_
  refine OPS.s (by exact st_store_v sz29 rfl rfl rfl rfl rfl rfl) ?_
  refine OPS.nil ?_
  refine AWP.seq ?_
  refine AWP.region ?_
  refine OPS.p rfl (st_call (L := [((.const (.int .i64 1)), _)]) false pl139 ⟨rfl, trivial⟩ rfl (k_rOf 1 (by omega) (by omega)) rfl) ?_
  refine OPS.a rfl (st_alloc ze29) ?_
  refine OPS.s (by exact st_store_v sz29 rfl rfl rfl rfl rfl rfl) ?_
  refine OPS.nil ?_
  refine AWP.seq ?_
  refine AWP.region ?_
  refine OPS.p rfl (st_call (L := [((.const (.int .i64 2)), _)]) false pl139 ⟨rfl, trivial⟩ rfl (k_rOf 2 (by omega) (by omega)) rfl) ?_
  refine OPS.a rfl (st_alloc ze29) ?_
  refine OPS.s (by exact st_store_v sz29 rfl rfl rfl rfl rfl rfl) ?_
  refine OPS.nil ?_
  refine AWP.seq ?_
  refine AWP.block ?_
  refine AWP.loopR (σ := Int × Int) (fun (zz : Int × Int) => ⟨[(1, .ptr 0 0), (2, .ptr 1 0), (4, .ptr 2 0), (5, .ptr 3 0), (6, .ptr 4 0), (7, .ptr 5 0)], [(0, .var [pB (decide ((x : Int) < 0)), pL (iD x)]), (1, .var [pB false, .cell (.sl 0 [])]), (2, .var [pB (decide (zz.1 < 0)), pL (iD zz.1)]), (3, .var [pB (decide (zz.2 < 0)), pL (iD zz.2)]), (4, .var [pB (decide ((1 : Int) < 0)), pL (iD 1)]), (5, .var [pB (decide ((2 : Int) < 0)), pL (iD 2)])], 6⟩) (fun (zz : Int × Int) => 0 ≤ zz.1 ∧ zz.1 ≤ s ∧ s < zz.2 ∧ zz.2 ≤ 1000000000) (fun (zz : Int × Int) => (zz.2 - zz.1).toNat) (0, 1000000000) (Ren.r (Ren.mk' (ρ := [(0, 0), (1, 1), (2, 2), (6, 3), (7, 4), (8, 5)]) rfl ⟨(by rfl), (by rfl), (by rfl), (by rfl), (by rfl), (by rfl), trivial⟩ ⟨(by rfl), (by rfl), (by rfl), (by rfl), (by rfl), (by rfl), trivial⟩)) (by exact ⟨by omega, by omega, by omega, by omega⟩) ?_
  rintro ⟨lo, hi⟩ hinv
  have hinv : 0 ≤ lo ∧ lo ≤ s ∧ s < hi ∧ hi ≤ 1000000000 := hinv
  obtain ⟨h1, h2, h3, h4⟩ := hinv
  show AWP _ _ _ _ _ _ _ ⟨[(1, .ptr 0 0), (2, .ptr 1 0), (4, .ptr 2 0), (5, .ptr 3 0), (6, .ptr 4 0), (7, .ptr 5 0)], [(0, .var [pB (decide ((x : Int) < 0)), pL (iD x)]), (1, .var [pB false, .cell (.sl 0 [])]), (2, .var [pB (decide (lo < 0)), pL (iD lo)]), (3, .var [pB (decide (hi < 0)), pL (iD hi)]), (4, .var [pB (decide ((1 : Int) < 0)), pL (iD 1)]), (5, .var [pB (decide ((2 : Int) < 0)), pL (iD 2)])], 6⟩
  refine AWP.seq ?_
  refine AWP.seq ?_
  refine AWP.drw mixed ?_
  refine DRW.p rfl (by exact st_load_va ag29 rfl rfl rfl rfl) ?_
  refine DRW.p rfl (by exact st_load_va ag29 rfl rfl rfl rfl) ?_
  refine DRW.p rfl (st_call (L := [((.tmp 25), _), ((.tmp 26), _)]) false pl138 ⟨rfl, rfl, trivial⟩ rfl (k_rAdd lo 1 (Sml.fit (by show _ < _; omega)) (Sml.fit (by show _ < _; omega))) rfl) ?_
  refine DRW.p rfl (by exact st_load_va ag29 rfl rfl rfl rfl) ?_
  refine DRW.p rfl (st_call (L := [((.tmp 27), _), ((.tmp 28), _)]) false pl132 ⟨rfl, rfl, trivial⟩ rfl (k_rCompare (lo + 1) hi (Sml.fit (by show _ < _; omega)) (Sml.fit (by show _ < _; omega))) rfl) ?_
  refine DRW.p rfl (st_lss rfl rfl) ?_
  refine DRW.nil (by kernel_rfl) ?_
  refine AWP.condD rfl (fun hc7 => ?_) (fun hc7 => ?_)
  · have hlt := cmpI_neg.1 hc7
    have hm0 : 0 ≤ (lo + hi) / 2 * ((lo + hi) / 2) := Int.mul_nonneg (by omega) (by omega)
    have hm1 : (lo + hi) / 2 * ((lo + hi) / 2) ≤ 999999999 * 999999999 := Int.mul_le_mul (by omega) (by omega) (by omega) (by omega)
    have hsq := sq_le (a := (lo + hi) / 2) (b := s) (by omega) (by omega)
    refine AWP.skip ?_
    refine AWP.block ?_
    refine AWP.seq ?_
    refine AWP.drw mixed ?_
    refine DRW.p rfl (by exact st_load_va ag29 rfl rfl rfl rfl) ?_
    refine DRW.p rfl (by exact st_load_va ag29 rfl rfl rfl rfl) ?_
    refine DRW.p rfl (st_call (L := [((.tmp 32), _), ((.tmp 33), _)]) false pl138 ⟨rfl, rfl, trivial⟩ rfl (k_rAdd lo hi (Sml.fit (by show _ < _; omega)) (Sml.fit (by show _ < _; omega))) rfl) ?_
    refine DRW.p rfl (by exact st_load_va ag29 rfl rfl rfl rfl) ?_
    refine DRW.p rfl (st_call (L := [((.tmp 34), _), ((.tmp 35), _)]) false pl238 ⟨rfl, rfl, trivial⟩ rfl (k_rDiv (lo + hi) 2 (by show _ < _; omega) (by show _ < _; omega)) rfl) ?_
    refine DRW.p rfl (st_move rfl) ?_
    refine DRW.p rfl (st_extract rfl rfl) ?_
    refine DRW.p rfl (st_extract rfl rfl) ?_
    refine DRW.a rfl (st_alloc ze29) ?_
    refine DRW.a rfl (st_alloc ze29) ?_
    refine DRW.s (by exact st_store_v sz29 rfl rfl rfl rfl rfl rfl) ?_
    refine DRW.s (by exact st_store_v sz29 rfl rfl rfl rfl rfl rfl) ?_
    refine DRW.nil (by kernel_rfl) ?_
    refine AWP.seq ?_
    refine AWP.drw mixed ?_
    refine DRW.p rfl (by exact st_load_va ag29 rfl rfl rfl rfl) ?_
    refine DRW.p rfl (by exact st_load_va ag29 rfl rfl rfl rfl) ?_
    refine DRW.p rfl (st_call (L := [((.tmp 39), _), ((.tmp 40), _)]) false pl133 ⟨rfl, rfl, trivial⟩ rfl (k_rMul ((lo + hi) / 2) ((lo + hi) / 2) (Sml.fit (by show _ < _; omega)) (Sml.fit (by show _ < _; omega))) rfl) ?_
    refine DRW.p rfl (by exact st_load_va ag29 rfl rfl rfl rfl) ?_
    refine DRW.p rfl (st_call (L := [((.tmp 41), _), ((.tmp 42), _)]) false pl132 ⟨rfl, rfl, trivial⟩ rfl (k_rCompare ((lo + hi) / 2 * ((lo + hi) / 2)) x (Sml.fit (by show _ < _; omega)) (Sml.fit (by show _ < _; omega))) rfl) ?_
    refine DRW.p rfl (st_leq rfl rfl) ?_
    refine DRW.nil (by kernel_rfl) ?_
    refine AWP.condD rfl (fun hc9 => ?_) (fun hc9 => ?_)
    · refine AWP.region ?_
      refine OPS.p rfl (by exact st_load_va ag29 rfl rfl rfl rfl) ?_
      refine OPS.s (by exact st_store_v sz29 rfl rfl rfl rfl rfl rfl) ?_
      refine OPS.nil ?_
      refine ⟨((lo + hi) / 2, hi), (Ren.r (Ren.mk' (ρ := [(0, 0), (1, 1), (2, 2), (3, 3), (4, 4), (5, 5)]) rfl ⟨(by rfl), (by rfl), (by rfl), (by rfl), (by rfl), (by rfl), trivial⟩ ⟨(by rfl), (by rfl), (by rfl), (by rfl), (by rfl), (by rfl), trivial⟩)), ?_, ?_⟩
      · try dsimp only
        have := cmpI_le.1 hc9
        rw [hxs, hsq] at this
        exact ⟨by omega, this, h3, h4⟩
      · try dsimp only
        omega
    · refine AWP.region ?_
      refine OPS.p rfl (by exact st_load_va ag29 rfl rfl rfl rfl) ?_
      refine OPS.s (by exact st_store_v sz29 rfl rfl rfl rfl rfl rfl) ?_
      refine OPS.nil ?_
      refine ⟨(lo, (lo + hi) / 2), (Ren.r (Ren.mk' (ρ := [(0, 0), (1, 1), (2, 2), (3, 3), (4, 4), (5, 5)]) rfl ⟨(by rfl), (by rfl), (by rfl), (by rfl), (by rfl), (by rfl), trivial⟩ ⟨(by rfl), (by rfl), (by rfl), (by rfl), (by rfl), (by rfl), trivial⟩)), ?_, ?_⟩
      · try dsimp only
        have := mt cmpI_le.2 hc9
        rw [hxs, hsq] at this
        exact ⟨h1, h2, by omega, by omega⟩
      · try dsimp only
        omega
  · have hle := mt cmpI_neg.2 hc7
    have hlo : lo = s := by omega
    subst hlo
    have hms : (s : Int) * s ≤ 100000000 := by omega
    refine AWP.exit ?_
    refine AWP.seq ?_
    refine AWP.drw mixed ?_
    refine DRW.p rfl (by exact st_load_va ag29 rfl rfl rfl rfl) ?_
    refine DRW.p rfl (by exact st_load_va ag29 rfl rfl rfl rfl) ?_
    refine DRW.p rfl (by exact st_load_va ag29 rfl rfl rfl rfl) ?_
    refine DRW.p rfl (st_call (L := [((.tmp 48), _), ((.tmp 49), _)]) false pl133 ⟨rfl, rfl, trivial⟩ rfl (k_rMul s s (Sml.fit (by show _ < _; omega)) (Sml.fit (by show _ < _; omega))) rfl) ?_
    refine DRW.p rfl (by exact st_load_va ag29 rfl rfl rfl rfl) ?_
    refine DRW.p rfl (st_call (L := [((.tmp 50), _), ((.tmp 51), _)]) false pl132 ⟨rfl, rfl, trivial⟩ rfl (k_rCompare ((s : Int) * s) x (Sml.fit (by show _ < _; have : 0 ≤ (s : Int) * s := Int.mul_nonneg (by omega) (by omega); omega)) (Sml.fit (by show _ < _; omega))) rfl) ?_
    refine DRW.p rfl (st_eql rfl rfl) ?_
    refine DRW.s (by exact st_store_v sz29 rfl rfl rfl rfl rfl rfl) ?_
    refine DRW.p rfl (st_assign rfl) ?_
    refine DRW.nil (by kernel_rfl) ?_
    refine AWP.ret ?_
    refine Ret.mk2 rfl rfl (congrArg pB (decide_eq_true ?_))
    unfold cmpI
    rw [if_neg (by omega), if_pos hxs.symm]

theorem k_rSmall (x : Nat) (h0 : 0 < x) (hx : x ≤ 100000000) : PureC Tryz.prog 213 [pZ x] (.tup [pI x, pB true]) := by
  have hl : iD (x : Int) = [(x : Int)] := digs_small (by omega) (by omega)
  have q1 : cmpI x 9223372036854775807 = -1 := by unfold cmpI; rw [if_pos (by omega)]
  have q2 : cmpI x (-9223372036854775808) = 1 := by unfold cmpI; rw [if_neg (by omega), if_neg (by omega)]
  have f1 : Fit x := Sml.fit (by show _ < _; omega)
  have f2 : Fit (9223372036854775807 : Int).natAbs := Nat.le_trans (digs_i64 (by omega)) (by omega)
  have f3 : Fit (-9223372036854775808 : Int).natAbs := Nat.le_trans (digs_i64 (by omega)) (by omega)
  have c1 := k_rOf 9223372036854775807 (by omega) (by omega)
  have c2 := k_rOf (-9223372036854775808) (by omega) (by omega)
  have c3 := k_rCompare x 9223372036854775807 f1 f2
  have c4 := k_rCompare x (-9223372036854775808) f1 f3
  rw [q1] at c3
  rw [q2] at c4
  show PureC Tryz.prog 213 [.agg [.bool (decide ((x : Int) < 0)), .sl (iD (x : Int)).length (fIs (iD (x : Int)))]] _
  rw [show pZ (x : Int) = .agg [.bool (decide ((x : Int) < 0)), .sl (iD (x : Int)).length (fIs (iD (x : Int)))] from rfl] at c3 c4
  rw [hl] at c3 c4 ⊢
  refine PureC.of Tryz.func213 rfl Tryz.ntmps213 (vs := [.tmp 2, .tmp 3]) rfl (Nat.le_of_ble_eq_true rfl) rfl fun cx _ _ => ?_
  refine AWP.seq ?_
  refine AWP.region ?_
  refine OPS.a rfl (st_box rfl rfl) ?_
  refine OPS.p rfl (st_assign rfl) ?_
  refine OPS.p rfl (st_assign rfl) ?_
  refine OPS.nil ?_
  refine AWP.seq ?_
  refine AWP.seq ?_
  refine AWP.drw mixed ?_
  refine DRW.p rfl (by exact st_load_va ag29 rfl rfl rfl rfl) ?_
  refine DRW.p rfl (st_call (L := [((.const (.int .i64 9223372036854775807)), _)]) false pl139 ⟨rfl, trivial⟩ rfl (c1) rfl) ?_
  refine DRW.p rfl (st_call (L := [((.tmp 6), _), ((.tmp 7), _)]) false pl132 ⟨rfl, rfl, trivial⟩ rfl (c3) rfl) ?_
  refine DRW.p rfl (st_gtr rfl rfl) ?_
  refine DRW.p rfl (st_move rfl) ?_
  refine DRW.pG rfl rfl rfl ((decide_eq_false (by omega))) (by exact st_load_va ag29 rfl rfl rfl rfl) ?_
  refine DRW.pG rfl rfl rfl ((decide_eq_false (by omega))) (st_call (L := [((.const (.int .i64 (-9223372036854775808))), _)]) false pl139 ⟨rfl, trivial⟩ rfl (c2) rfl) ?_
  refine DRW.pG rfl rfl rfl ((decide_eq_false (by omega))) (st_call (L := [((.tmp 11), _), ((.tmp 12), _)]) false pl132 ⟨rfl, rfl, trivial⟩ rfl (c4) rfl) ?_
  refine DRW.pG rfl rfl rfl ((decide_eq_false (by omega))) (st_lss rfl rfl) ?_
  refine DRW.p rfl (st_pickF rfl ((decide_eq_false (by omega))) rfl) ?_
  refine DRW.nil (by kernel_rfl) ?_
  refine AWP.cond_f rfl ((decide_eq_false (by omega))) ?_
  refine AWP.skip ?_
  refine AWP.seq ?_
  refine AWP.region ?_
  refine OPS.p rfl (st_assign rfl) ?_
  refine OPS.nil ?_
  refine AWP.seq ?_
  refine AWP.seq ?_
  refine AWP.region ?_
  refine OPS.p rfl (by exact st_field_p off29_1 rfl) ?_
  refine OPS.p rfl (by exact st_load_vs sc22 rfl rfl rfl) ?_
  refine OPS.p rfl (st_len un22 rfl rfl) ?_
  refine OPS.p rfl (by exact st_sub rfl rfl) ?_
  refine OPS.p rfl (st_assign rfl) ?_
  refine OPS.nil ?_
  refine AWP.block ?_
  refine AWP.loopR (σ := Int × Int) (fun (zz : Int × Int) => ⟨[(1, .ptr 0 0), (4, pI zz.2), (5, pI zz.1)], [(0, .var [pB (decide ((x : Int) < 0)), pL [(x : Int)]])], 1⟩) (fun (zz : Int × Int) => (zz.1 = 0 ∧ zz.2 = 0) ∨ (zz.1 = -1 ∧ zz.2 = x)) (fun (zz : Int × Int) => (zz.1 + 1).toNat) (0, 0) (Sub.r (Sub.mk' ⟨(by rfl), (by rfl), (by rfl), trivial⟩ ⟨(by rfl), trivial⟩ (by exact Nat.le_refl _))) (by exact .inl ⟨rfl, rfl⟩) ?_
  rintro ⟨i, v⟩ hinv
  have hinv : (i = 0 ∧ v = 0) ∨ (i = -1 ∧ v = x) := hinv
  obtain hiv := hinv
  show AWP _ _ _ _ _ _ _ ⟨[(1, .ptr 0 0), (4, pI v), (5, pI i)], [(0, .var [pB (decide ((x : Int) < 0)), pL [(x : Int)]])], 1⟩
  refine AWP.seq ?_
  refine AWP.seq ?_
  refine AWP.region ?_
  refine OPS.p rfl (st_move rfl) ?_
  refine OPS.p rfl (st_geq rfl rfl) ?_
  refine OPS.nil ?_
  refine AWP.condD rfl (fun hc5 => ?_) (fun hc5 => ?_)
  · have hi : i = 0 := by omega
    have hv : v = 0 := by omega
    subst hi hv
    refine AWP.skip ?_
    refine AWP.seq ?_
    refine AWP.block ?_
    refine AWP.seq ?_
    refine AWP.region ?_
    refine OPS.p rfl (by exact st_field_p off29_0 rfl) ?_
    refine OPS.p rfl (by exact st_load_vs sc4 rfl rfl rfl) ?_
    refine OPS.nil ?_
    refine AWP.cond_f rfl ((decide_eq_false (by omega))) ?_
    refine AWP.region ?_
    refine OPS.p rfl (st_move rfl) ?_
    refine OPS.p rfl (by exact st_mul_i rfl rfl (by omega) (by omega)) ?_
    refine OPS.p rfl (by exact st_field_p off29_1 rfl) ?_
    refine OPS.p rfl (by exact st_load_vs sc22 rfl rfl rfl) ?_
    refine OPS.p rfl (st_move rfl) ?_
    refine OPS.p rfl (by exact st_index_I es22 rfl rfl (by omega) (by assumption) (by rfl)) ?_
    refine OPS.p rfl (by exact st_load_I sc3 rfl (by omega) (by assumption)) ?_
    refine OPS.p rfl (st_add_i (l := x) rfl rfl (by omega) (by omega)) ?_
    refine OPS.p rfl (st_assign rfl) ?_
    refine OPS.nil ?_
    refine AWP.region ?_
    refine OPS.p rfl (st_move rfl) ?_
    refine OPS.p rfl (by exact st_sub_i rfl rfl (by omega) (by omega)) ?_
    refine OPS.p rfl (st_assign rfl) ?_
    refine OPS.nil ?_
    rw [show (0 * 1000000000 + (x : Int)) = x by omega]
    refine ⟨(-1, x), (Ren.r (Ren.mk' (ρ := [(0, 0)]) rfl ⟨(by rfl), (by rfl), (by rfl), trivial⟩ ⟨(by rfl), trivial⟩)), ?_, ?_⟩
    · try dsimp only
      exact .inr ⟨rfl, rfl⟩
    · try dsimp only
      omega
  · refine AWP.exit ?_
    refine AWP.seq ?_
    refine AWP.region ?_
    refine OPS.p rfl (st_move rfl) ?_
    refine OPS.p rfl (st_assign rfl) ?_
    refine OPS.p rfl (st_assign rfl) ?_
    refine OPS.nil ?_
    refine AWP.ret ?_
    exact Ret.mk2 rfl (by rw [show v = x by omega]) rfl

theorem k_rdivisor (a b : Int) (ha : 0 ≤ a ∧ a ≤ 4611686018427387904) (hb : 0 ≤ b ∧ b ≤ 4611686018427387904) : PureC Tryz.prog 279 [pI a, pI b] (pI (Int.gcd a b)) := by
  refine PureC.of Tryz.func279 rfl Tryz.ntmps279 (vs := [.tmp 4]) rfl (Nat.le_of_ble_eq_true rfl) rfl fun cx _ _ => ?_
  refine AWP.seq ?_
  refine AWP.region ?_
  refine OPS.p rfl (st_assign rfl) ?_
  refine OPS.nil ?_
  refine AWP.seq ?_
  refine AWP.block ?_
  refine AWP.loopR (σ := Int × Int) (fun (zz : Int × Int) => ⟨[(0, pI zz.1), (1, pI zz.2)], [], 0⟩) (fun (zz : Int × Int) => (0 ≤ zz.1 ∧ zz.1 ≤ 4611686018427387904) ∧ (0 ≤ zz.2 ∧ zz.2 ≤ 4611686018427387904) ∧ Int.gcd zz.1 zz.2 = Int.gcd a b) (fun (zz : Int × Int) => zz.2.natAbs) (a, b) (Sub.r (Sub.mk' ⟨(by rfl), (by rfl), trivial⟩ trivial (by exact Nat.le_refl _))) (by exact ⟨ha, hb, rfl⟩) ?_
  rintro ⟨a', b'⟩ hinv
  have hinv : (0 ≤ a' ∧ a' ≤ 4611686018427387904) ∧ (0 ≤ b' ∧ b' ≤ 4611686018427387904) ∧ Int.gcd a' b' = Int.gcd a b := hinv
  obtain ⟨h1, h2, h3⟩ := hinv
  show AWP _ _ _ _ _ _ _ ⟨[(0, pI a'), (1, pI b')], [], 0⟩
  refine AWP.seq ?_
  refine AWP.seq ?_
  refine AWP.region ?_
  refine OPS.p rfl (st_move rfl) ?_
  refine OPS.p rfl (st_neq rfl rfl) ?_
  refine OPS.nil ?_
  refine AWP.condD rfl (fun hc1 => ?_) (fun hc1 => ?_)
  · refine AWP.skip ?_
    refine AWP.block ?_
    refine AWP.seq ?_
    refine AWP.region ?_
    refine OPS.p rfl (st_move rfl) ?_
    refine OPS.p rfl (st_move rfl) ?_
    refine OPS.p rfl (st_rem_n rfl rfl (by omega) (by omega)) ?_
    refine OPS.p rfl (st_assign rfl) ?_
    refine OPS.nil ?_
    refine AWP.seq ?_
    refine AWP.region ?_
    refine OPS.p rfl (st_move rfl) ?_
    refine OPS.p rfl (st_assign rfl) ?_
    refine OPS.nil ?_
    refine AWP.region ?_
    refine OPS.p rfl (st_move rfl) ?_
    refine OPS.p rfl (st_assign rfl) ?_
    refine OPS.nil ?_
    have hlt : a' % b' < b' := Int.emod_lt_of_pos _ (by omega)
    have hge : 0 ≤ a' % b' := Int.emod_nonneg _ (by omega)
    refine ⟨(b', a' % b'), (Sub.r (Sub.mk' ⟨(by rfl), (by rfl), trivial⟩ trivial (by exact Nat.le_refl _))), ?_, ?_⟩
    · try dsimp only
      exact ⟨h2, ⟨by omega, by omega⟩, by rw [← h3]; exact gcd_emod a' b'⟩
    · try dsimp only
      omega
  · have hb0 : b' = 0 := by simpa using hc1
    subst hb0
    refine AWP.exit ?_
    refine AWP.seq ?_
    refine AWP.region ?_
    refine OPS.p rfl (st_move rfl) ?_
    refine OPS.p rfl (st_assign rfl) ?_
    refine OPS.nil ?_
    refine AWP.ret ?_
    exact Ret.mk rfl (by rw [show ((Int.gcd a b : Nat) : Int) = a' by rw [← h3, Int.gcd_zero_right]; omega])

theorem k_rsize (a : Int) (ha : a.natAbs ≤ 4611686018427387904) : PureC Tryz.prog 280 [pI a] (pI a.natAbs) := by
  refine PureC.of Tryz.func280 rfl Tryz.ntmps280 (vs := [.tmp 2]) rfl (Nat.le_of_ble_eq_true rfl) rfl fun cx _ _ => ?_
  refine AWP.seq ?_
  refine AWP.region ?_
  refine OPS.p rfl (st_assign rfl) ?_
  refine OPS.nil ?_
  refine AWP.seq ?_
  refine AWP.region ?_
  refine OPS.p rfl (st_move rfl) ?_
  refine OPS.p rfl (st_move rfl) ?_
  refine OPS.p rfl (by exact st_neg_i rfl (by omega) (by omega)) ?_
  refine OPS.p rfl (st_max rfl rfl) ?_
  refine OPS.p rfl (st_assign rfl) ?_
  refine OPS.nil ?_
  refine AWP.ret ?_
  exact Ret.mk rfl (congrArg pI (by omega))

theorem k_rNorm (a b : Pt) (s : Nat) (ha : Sp a) (hb : Sp b) (hs : (b.1 - a.1) * (b.1 - a.1) + (b.2 - a.2) * (b.2 - a.2) = s * s) (hs0 : 0 < s) (hs1 : s ≤ 10000) : PureC Tryz.prog 247 [pP a, pP b] (.tup [pD (nrm (b.1 - a.1) (b.2 - a.2) s), pB true]) := by
  obtain ⟨a1, a2, a3, a4⟩ := ha
  obtain ⟨b1, b2, b3, b4⟩ := hb
  have h1 := mb (a := b.1 - a.1) (b := b.1 - a.1) (M := 200000) (by omega) (by omega)
  have h2 := mb (a := b.2 - a.2) (b := b.2 - a.2) (M := 200000) (by omega) (by omega)
  have hss : (((s * s : Nat) : Int)) = (s : Int) * s := Int.natCast_mul ..
  have hroot := k_rRoot s hs0 hs1
  have hsm := k_rSmall s hs0 (by omega)
  have hg0 : Int.gcd (Int.gcd (b.1 - a.1) (b.2 - a.2)) s ≠ 0 := fun h => by have := (Int.gcd_eq_zero_iff.1 h).2; omega
  have hgs : Int.gcd (Int.gcd (b.1 - a.1) (b.2 - a.2)) s ≤ s := Int.gcd_le_natAbs_right _ (by omega)
  have hgl : Int.gcd (b.1 - a.1) (b.2 - a.2) ≤ 400000 := by
    by_cases hz : b.1 - a.1 = 0
    · rw [hz, Int.gcd_zero_left]; omega
    · have := gcd_le (q := b.2 - a.2) hz; omega
  have t1 := @tdiv_in (b.2 - a.2) (Int.gcd (Int.gcd (b.1 - a.1) (b.2 - a.2)) s)
  have t2 := @tdiv_in (-(b.1 - a.1)) (Int.gcd (Int.gcd (b.1 - a.1) (b.2 - a.2)) s)
  have t3 := @tdiv_in s (Int.gcd (Int.gcd (b.1 - a.1) (b.2 - a.2)) s)
  have d1 := k_rdivisor ((b.1 - a.1).natAbs : Int) ((b.2 - a.2).natAbs : Int) (by omega) (by omega)
  have e1 : Int.gcd ((b.1 - a.1).natAbs : Int) ((b.2 - a.2).natAbs : Int) = Int.gcd (b.1 - a.1) (b.2 - a.2) := by simp [Int.gcd]
  rw [e1] at d1
  refine PureC.of Tryz.func247 rfl Tryz.ntmps247 (vs := [.cell 4 81, .tmp 5]) rfl (Nat.le_of_ble_eq_true rfl) rfl fun cx _ _ => ?_
  refine AWP.seq ?_
  refine AWP.region ?_
  refine OPS.a rfl (st_box rfl rfl) ?_
  refine OPS.a rfl (st_box rfl rfl) ?_
  refine OPS.a rfl (st_alloc ze81) ?_
  refine OPS.p rfl (st_assign rfl) ?_
  refine OPS.nil ?_
  refine AWP.seq ?_
  refine AWP.region ?_
  refine OPS.p rfl (by exact st_field_p off148_0 rfl) ?_
  refine OPS.p rfl (by exact st_load_vs sc3 rfl rfl rfl) ?_
  refine OPS.p rfl (by exact st_field_p off148_0 rfl) ?_
  refine OPS.p rfl (by exact st_load_vs sc3 rfl rfl rfl) ?_
  refine OPS.p rfl (by exact st_sub_i rfl rfl (by omega) (by omega)) ?_
  refine OPS.p rfl (st_assign rfl) ?_
  refine OPS.nil ?_
  refine AWP.seq ?_
  refine AWP.region ?_
  refine OPS.p rfl (by exact st_field_p off148_1 rfl) ?_
  refine OPS.p rfl (by exact st_load_vs sc3 rfl rfl rfl) ?_
  refine OPS.p rfl (by exact st_field_p off148_1 rfl) ?_
  refine OPS.p rfl (by exact st_load_vs sc3 rfl rfl rfl) ?_
  refine OPS.p rfl (by exact st_sub_i rfl rfl (by omega) (by omega)) ?_
  refine OPS.p rfl (st_assign rfl) ?_
  refine OPS.nil ?_
  refine AWP.seq ?_
  refine AWP.region ?_
  refine OPS.p rfl (st_move rfl) ?_
  refine OPS.p rfl (st_move rfl) ?_
  refine OPS.p rfl (by exact st_mul_i rfl rfl (by omega) (by omega)) ?_
  refine OPS.p rfl (st_move rfl) ?_
  refine OPS.p rfl (st_move rfl) ?_
  refine OPS.p rfl (by exact st_mul_i rfl rfl (by omega) (by omega)) ?_
  refine OPS.p rfl (by exact st_add_i rfl rfl (by omega) (by omega)) ?_
  refine OPS.p rfl ((st_call (L := [((.tmp 30), _)]) false pl139 ⟨rfl, trivial⟩ rfl (k_rOf _ (by omega) (by omega)) rfl).val (show _ = pZ ((s * s : Nat) : Int) by rw [hs, hss])) ?_
  refine OPS.p rfl (st_call (L := [((.tmp 31), _)]) false pl278 ⟨rfl, trivial⟩ rfl (hroot) rfl) ?_
  refine OPS.p rfl (st_move rfl) ?_
  refine OPS.p rfl (st_extract rfl rfl) ?_
  refine OPS.p rfl (st_extract rfl rfl) ?_
  refine OPS.a rfl (st_alloc ze29) ?_
  refine OPS.s (by exact st_store_v sz29 rfl rfl rfl rfl rfl rfl) ?_
  refine OPS.p rfl (st_assign rfl) ?_
  refine OPS.nil ?_
  refine AWP.seq ?_
  refine AWP.region ?_
  refine OPS.p rfl (by exact st_load_va ag29 rfl rfl rfl rfl) ?_
  refine OPS.p rfl (st_call (L := [((.tmp 36), _)]) false pl213 ⟨rfl, trivial⟩ rfl (hsm) rfl) ?_
  refine OPS.p rfl (st_move rfl) ?_
  refine OPS.p rfl (st_extract rfl rfl) ?_
  refine OPS.p rfl (st_extract rfl rfl) ?_
  refine OPS.p rfl (st_assign rfl) ?_
  refine OPS.p rfl (st_assign rfl) ?_
  refine OPS.nil ?_
  refine AWP.seq ?_
  refine AWP.seq ?_
  refine AWP.region ?_
  refine OPS.p rfl (st_move rfl) ?_
  refine OPS.p rfl (by exact st_not rfl) ?_
  refine OPS.p rfl (st_move rfl) ?_
  refine OPS.pG rfl rfl rfl (rfl) (st_move rfl) ?_
  refine OPS.pG rfl rfl rfl (rfl) (st_eql rfl rfl) ?_
  refine OPS.p rfl (st_pickF rfl (rfl) rfl) ?_
  refine OPS.nil ?_
  refine AWP.condD rfl (fun hc5 => ?_) (fun hc5 => ?_)
  · omega
  · refine AWP.skip ?_
    refine AWP.seq ?_
    refine AWP.region ?_
    refine OPS.p rfl (st_move rfl) ?_
    refine OPS.p rfl (st_call (L := [((.tmp 47), _)]) false pl280 ⟨rfl, trivial⟩ rfl (k_rsize (b.1 - a.1) (by omega)) rfl) ?_
    refine OPS.p rfl (st_move rfl) ?_
    refine OPS.p rfl (st_call (L := [((.tmp 49), _)]) false pl280 ⟨rfl, trivial⟩ rfl (k_rsize (b.2 - a.2) (by omega)) rfl) ?_
    refine OPS.p rfl (st_call (L := [((.tmp 48), _), ((.tmp 50), _)]) false pl279 ⟨rfl, rfl, trivial⟩ rfl (d1) rfl) ?_
    refine OPS.p rfl (st_move rfl) ?_
    refine OPS.p rfl (st_call (L := [((.tmp 51), _), ((.tmp 52), _)]) false pl279 ⟨rfl, rfl, trivial⟩ rfl (k_rdivisor (Int.gcd (b.1 - a.1) (b.2 - a.2)) s (by omega) (by omega)) rfl) ?_
    refine OPS.p rfl (st_assign rfl) ?_
    refine OPS.nil ?_
    refine AWP.seq ?_
    refine AWP.drw mixed ?_
    refine DRW.p rfl (st_move rfl) ?_
    refine DRW.p rfl (st_move rfl) ?_
    refine DRW.p rfl ((st_quo rfl rfl (by omega)).val (congrArg pI (w64 (by omega) (by omega)))) ?_
    refine DRW.p rfl (st_move rfl) ?_
    refine DRW.p rfl (by exact st_neg_i rfl (by omega) (by omega)) ?_
    refine DRW.p rfl (st_move rfl) ?_
    refine DRW.p rfl ((st_quo rfl rfl (by omega)).val (congrArg pI (w64 (by omega) (by omega)))) ?_
    refine DRW.p rfl (st_move rfl) ?_
    refine DRW.p rfl (st_move rfl) ?_
    refine DRW.p rfl ((st_quo rfl rfl (by omega)).val (congrArg pI (w64 (by omega) (by omega)))) ?_
    refine DRW.p rfl (st_build (L := [(0, (.tmp 56), _), (1, (.tmp 60), _), (2, (.tmp 63), _)]) zf81 pl_81 ⟨rfl, rfl, rfl, trivial⟩ rfl rfl) ?_
    refine DRW.s (by exact st_store_v sz81 rfl rfl rfl rfl rfl rfl) ?_
    refine DRW.p rfl (st_assign rfl) ?_
    refine DRW.nil (by kernel_rfl) ?_
    refine AWP.ret ?_
    exact Ret.mk2 rfl rfl rfl
end Go.Proofs.Gh.Tryz
end
section
set_option linter.unusedVariables false
set_option linter.unusedSimpArgs false
set_option maxRecDepth 4000
namespace Go.Proofs.Gh.Tryz
open Go Go.Proofs Go.Proofs.Gh

theorem maxTo_dot (l : List Pt) (d : Dr) (i : Nat) : dot d (maxTo l d (i + 1)) = max (dot d (maxTo l d i)) (dot d (l.getD i default)) := by
  rw [maxTo]
  split <;> omega
theorem maxTo_bd {l : List Pt} {d : Dr} (h0 : 0 < l.length) (hp : ∀ p ∈ l, Sp p) (hd : Sd d) {i : Nat} (hi : i ≤ l.length) : -20000000000 ≤ dot d (maxTo l d i) ∧ dot d (maxTo l d i) ≤ 20000000000 := by
  obtain ⟨a1, a2, a3, a4⟩ := hd
  obtain ⟨b1, b2, b3, b4⟩ := hp _ (maxTo_mem (d := d) h0 hi)
  generalize maxTo l d i = p at *
  have h1 := mb (a := d.1) (b := p.1) (M := 100000) (by omega) (by omega)
  have h2 := mb (a := d.2.1) (b := p.2) (M := 100000) (by omega) (by omega)
  unfold dot
  omega

theorem k_rMost (l : List Pt) (d : Dr) (h0 : 0 < l.length) (hl : l.length ≤ 1000) (hp : ∀ p ∈ l, Sp p) (hd : Sd d) : PureC Tryz.prog 249 [pPs l, pD d] (pI (most l d)) := by
  obtain ⟨a1, a2, a3, a4⟩ := id hd
  obtain ⟨b1, b2, b3, b4⟩ := hp _ (getD_mem h0)
  have g1 := mb (a := d.1) (b := (l.getD 0 default).1) (M := 100000) (by omega) (by omega)
  have g2 := mb (a := d.2.1) (b := (l.getD 0 default).2) (M := 100000) (by omega) (by omega)
  refine PureC.of Tryz.func249 rfl Tryz.ntmps249 (vs := [.tmp 4]) rfl (Nat.le_of_ble_eq_true rfl) rfl fun cx _ _ => ?_
  refine AWP.seq ?_
  refine AWP.region ?_
  refine OPS.a rfl (st_box rfl rfl) ?_
  refine OPS.p rfl (st_assign rfl) ?_
  refine OPS.nil ?_
  refine AWP.seq ?_
  refine AWP.drw mixed ?_
  refine DRW.p rfl (by exact st_field_p off81_0 rfl) ?_
  refine DRW.p rfl (by exact st_load_vs sc3 rfl rfl rfl) ?_
  refine DRW.p rfl (st_move rfl) ?_
  refine DRW.p rfl (by exact st_index_R es66 rfl rfl (fun _ => rfl) rfl (by omega) (by omega) (by rfl)) ?_
  refine DRW.p rfl (by exact st_field_f off148_0 rfl) ?_
  refine DRW.p rfl (st_load_RFn (i := 0) sc3 rfl (fun _ => rfl) rfl h0 rfl) ?_
  refine DRW.p rfl (by exact st_mul_i rfl rfl (by omega) (by omega)) ?_
  refine DRW.p rfl (by exact st_field_p off81_1 rfl) ?_
  refine DRW.p rfl (by exact st_load_vs sc3 rfl rfl rfl) ?_
  refine DRW.p rfl (st_move rfl) ?_
  refine DRW.p rfl (by exact st_index_R es66 rfl rfl (fun _ => rfl) rfl (by omega) (by omega) (by rfl)) ?_
  refine DRW.p rfl (by exact st_field_f off148_1 rfl) ?_
  refine DRW.p rfl (st_load_RFn (i := 0) sc3 rfl (fun _ => rfl) rfl h0 rfl) ?_
  refine DRW.p rfl (by exact st_mul_i rfl rfl (by omega) (by omega)) ?_
  refine DRW.p rfl (by exact st_add_i rfl rfl (by omega) (by omega)) ?_
  refine DRW.p rfl (st_assign rfl) ?_
  refine DRW.nil (by kernel_rfl) ?_
  refine AWP.seq ?_
  refine AWP.seq ?_
  refine AWP.region ?_
  refine OPS.p rfl (st_assign rfl) ?_
  refine OPS.nil ?_
  refine AWP.block ?_
  refine AWP.loopR (σ := Nat × Int) (fun (zz : Nat × Int) => ⟨[(0, pPs l), (3, .ptr 0 0), (5, pI zz.2), (6, pI zz.1)], [(0, .var [pI d.1, pI d.2.1, pI d.2.2])], 1⟩) (fun (zz : Nat × Int) => zz.1 ≤ l.length ∧ zz.2 = dot d (maxTo l d zz.1)) (fun (zz : Nat × Int) => l.length - zz.1) (0, dot d (l.getD 0 default)) (Sub.r (Sub.mk' ⟨(by rfl), (by rfl), (by rfl), (by rfl), trivial⟩ ⟨(by rfl), trivial⟩ (by exact Nat.le_refl _))) (by exact ⟨by omega, rfl⟩) ?_
  rintro ⟨i, v⟩ hinv
  have hinv : i ≤ l.length ∧ v = dot d (maxTo l d i) := hinv
  obtain ⟨h1, h2⟩ := hinv
  show AWP _ _ _ _ _ _ _ ⟨[(0, pPs l), (3, .ptr 0 0), (5, pI v), (6, pI i)], [(0, .var [pI d.1, pI d.2.1, pI d.2.2])], 1⟩
  refine AWP.seq ?_
  refine AWP.seq ?_
  refine AWP.region ?_
  refine OPS.p rfl (st_move rfl) ?_
  refine OPS.p rfl (st_move rfl) ?_
  refine OPS.p rfl (st_len un66 rfl rfl) ?_
  refine OPS.p rfl (st_lss rfl rfl) ?_
  refine OPS.nil ?_
  refine AWP.condD rfl (fun hc3 => ?_) (fun hc3 => ?_)
  · have hi : i < l.length := by omega
    obtain ⟨c1, c2, c3, c4⟩ := hp _ (getD_mem hi)
    have e1 := mb (a := d.1) (b := (l.getD i default).1) (M := 100000) (by omega) (by omega)
    have e2 := mb (a := d.2.1) (b := (l.getD i default).2) (M := 100000) (by omega) (by omega)
    refine AWP.skip ?_
    refine AWP.seq ?_
    refine AWP.block ?_
    refine AWP.drw mixed ?_
    refine DRW.p rfl (st_move rfl) ?_
    refine DRW.p rfl (by exact st_field_p off81_0 rfl) ?_
    refine DRW.p rfl (by exact st_load_vs sc3 rfl rfl rfl) ?_
    refine DRW.p rfl (st_move rfl) ?_
    refine DRW.p rfl (st_move rfl) ?_
    refine DRW.p rfl (by exact st_index_R es66 rfl rfl (fun _ => rfl) rfl (by omega) (by omega) (by rfl)) ?_
    refine DRW.p rfl (by exact st_field_f off148_0 rfl) ?_
    refine DRW.p rfl (by exact st_load_RFn sc3 rfl (fun _ => rfl) rfl (by omega) rfl) ?_
    refine DRW.p rfl (by exact st_mul_i rfl rfl (by omega) (by omega)) ?_
    refine DRW.p rfl (by exact st_field_p off81_1 rfl) ?_
    refine DRW.p rfl (by exact st_load_vs sc3 rfl rfl rfl) ?_
    refine DRW.p rfl (st_move rfl) ?_
    refine DRW.p rfl (st_move rfl) ?_
    refine DRW.p rfl (by exact st_index_R es66 rfl rfl (fun _ => rfl) rfl (by omega) (by omega) (by rfl)) ?_
    refine DRW.p rfl (by exact st_field_f off148_1 rfl) ?_
    refine DRW.p rfl (by exact st_load_RFn sc3 rfl (fun _ => rfl) rfl (by omega) rfl) ?_
    refine DRW.p rfl (by exact st_mul_i rfl rfl (by omega) (by omega)) ?_
    refine DRW.p rfl (by exact st_add_i rfl rfl (by omega) (by omega)) ?_
    refine DRW.p rfl (st_max rfl rfl) ?_
    refine DRW.p rfl (st_assign rfl) ?_
    refine DRW.nil (by kernel_rfl) ?_
    refine AWP.region ?_
    refine OPS.p rfl (st_move rfl) ?_
    refine OPS.p rfl (by exact st_add_i rfl rfl (by omega) (by omega)) ?_
    refine OPS.p rfl (st_assign rfl) ?_
    refine OPS.nil ?_
    refine ⟨(i + 1, max v (d.1 * (l.getD i default).1 + d.2.1 * (l.getD i default).2)), (Sub.r (Sub.mk' ⟨(by rfl), (by rfl), (by rfl), (by rfl), trivial⟩ ⟨(by rfl), trivial⟩ (by exact Nat.le_refl _))), ?_, ?_⟩
    · try dsimp only
      refine ⟨by omega, ?_⟩
      rw [maxTo_dot, ← h2]
      rfl
    · try dsimp only
      omega
  · refine AWP.exit ?_
    refine AWP.seq ?_
    refine AWP.region ?_
    refine OPS.p rfl (st_move rfl) ?_
    refine OPS.p rfl (st_assign rfl) ?_
    refine OPS.nil ?_
    refine AWP.ret ?_
    have hi : i = l.length := by omega
    exact Ret.mk rfl (congrArg pI (by rw [h2, hi, most]))

def areaR (l : List Pt) : Nat → Int
  | 0 => 0
  | i + 1 => areaR l i + (l.getD i default).1 * (nxt l i).2 - (l.getD i default).2 * (nxt l i).1
theorem areaR_part {l : List Pt} : ∀ {i : Nat}, i < l.length → areaFrom l i = areaR l i - ((l.getD 0 default).1 * ((l.getD i default).2 - (l.getD 0 default).2) - (l.getD 0 default).2 * ((l.getD i default).1 - (l.getD 0 default).1))
  | 0, h => by
    simp only [areaR, areaFrom, List.range_zero, List.map_nil, List.sum_nil]
    grind
  | i + 1, h => by
    have ih := areaR_part (l := l) (i := i) (by omega)
    rw [areaFrom_succ, ih, areaR]
    unfold nxt
    rw [if_pos h]
    unfold cross
    grind
theorem areaR_eq {l : List Pt} (h : 0 < l.length) : areaFrom l l.length = areaR l l.length := by
  obtain ⟨k, hk⟩ : ∃ k, l.length = k + 1 := ⟨l.length - 1, by omega⟩
  have ih := areaR_part (l := l) (i := k) (by omega)
  rw [hk, areaFrom_succ, ih, areaR]
  unfold nxt
  rw [if_neg (by omega)]
  unfold cross
  grind
theorem areaR_bd {l : List Pt} (hp : ∀ p ∈ l, Sp p) : ∀ {i : Nat}, i ≤ l.length → -20000000000 * (i : Int) ≤ areaR l i ∧ areaR l i ≤ 20000000000 * (i : Int)
  | 0, _ => by simp [areaR]
  | i + 1, hi => by
    have ih := areaR_bd hp (i := i) (by omega)
    obtain ⟨c1, c2, c3, c4⟩ := hp _ (getD_mem (show i < l.length by omega))
    obtain ⟨d1, d2, d3, d4⟩ := hp _ (nxt_mem (show i < l.length by omega))
    have e1 := mb (a := (l.getD i default).1) (b := (nxt l i).2) (M := 100000) (by omega) (by omega)
    have e2 := mb (a := (l.getD i default).2) (b := (nxt l i).1) (M := 100000) (by omega) (by omega)
    rw [areaR]
    omega

-- left out here: k_rArea

def boxLo (l : List Pt) : Nat → Pt
  | 0 => l.getD 0 default
  | i + 1 => (min (boxLo l i).1 (l.getD i default).1, min (boxLo l i).2 (l.getD i default).2)
def boxHi (l : List Pt) : Nat → Pt
  | 0 => l.getD 0 default
  | i + 1 => (max (boxHi l i).1 (l.getD i default).1, max (boxHi l i).2 (l.getD i default).2)
-- left out here: k_Box
-- left out here: k_rBox
end Go.Proofs.Gh.Tryz
end
section
set_option linter.unusedVariables false
set_option linter.unusedSimpArgs false
set_option maxRecDepth 4000
namespace Go.Proofs.Gh.Tryz
open Go Go.Proofs Go.Proofs.Gh

abbrev pDs (l : List Dr) : PV := .cell (.sl l.length (fR eD l))
theorem fam_lsO {l : List Pt} (h : Fam l) {i : Nat} (hi : i < l.length) : lsO l i ≤ 100 := by
  obtain ⟨b, hb, x, y, _, _, _, _, rfl⟩ := h
  rw [List.length_map] at hi
  have := (base_of hb).sd i hi
  unfold okSide at this
  simp only [Bool.and_eq_true, decide_eq_true_eq] at this
  obtain ⟨⟨⟨⟨⟨q1, q2⟩, q3⟩, _⟩, _⟩, _⟩ := this
  rw [lsO_map x y hi]
  exact q3
theorem fam_rside {l : List Pt} (h : Fam l) {i : Nat} (hi : i < l.length) : PureC Tryz.prog 247 [pP (l.getD i default), pP (nxt l i)] (.tup [pD (dirA l i), pB true]) :=
  k_rNorm _ _ (lsO l i) (fam_Sp h _ (getD_mem hi)) (fam_Sp h _ (nxt_mem hi)) ((fam_good h).side i hi).1 ((fam_good h).side i hi).2.1 (Nat.le_trans (fam_lsO h hi) (by omega))
theorem any_map_fst (a b : List Pt) (ds : List Dr) (d : Dr) : ((ds.foldl (addE a b) []).any fun e => decide (e.1 = d)) = ds.any fun x => decide (x = d) := by
  rw [Bool.eq_iff_iff, List.any_eq_true, List.any_eq_true]
  have h := foldl_addE a b ds []
  simp only [List.map_nil] at h
  rw [h]
  constructor
  · rintro ⟨e, he, hd⟩
    obtain ⟨x, hx, rfl⟩ := List.mem_map.1 he
    exact ⟨x, mem_dedup.1 hx, hd⟩
  · rintro ⟨x, hx, hd⟩
    exact ⟨mkE a b x, List.mem_map.2 ⟨x, mem_dedup.2 hx, rfl⟩, hd⟩
theorem all_ne {l : List Dr} {d : Dr} : (l.all fun x => decide (x ≠ d)) = !(l.any fun x => decide (x = d)) := by
  rw [Bool.eq_iff_iff]
  simp

theorem k_rSides (a b : List Pt) (ha : Fam a) (hb : Fam b) : PureC Tryz.prog 158 [pPs a, pPs b] (pEs (sidesL a b)) := by
  have la := fam_len ha
  have lb := fam_len hb
  have sa := fam_Sp ha
  have sb := fam_Sp hb
  have da : (dirsOf a).length = a.length := by simp [dirsOf]
  have db : (dirsOf b).length = b.length := by simp [dirsOf]
  refine PureC.of Tryz.func158 rfl Tryz.ntmps158 (vs := [.tmp 4]) rfl (Nat.le_of_ble_eq_true rfl) rfl fun cx _ _ => ?_
  refine AWP.seq ?_
  refine AWP.region ?_
  refine OPS.p rfl (st_assign rfl) ?_
  refine OPS.nil ?_
  refine AWP.seq ?_
  refine AWP.region ?_
  refine OPS.p rfl (st_assign rfl) ?_
  refine OPS.nil ?_
  refine AWP.seq ?_
  refine AWP.seq ?_
  refine AWP.region ?_
  refine OPS.p rfl (st_assign rfl) ?_
  refine OPS.nil ?_
  refine AWP.block ?_
  refine AWP.adopt 5 81 3 rfl ?_
  refine AWP.loopR (σ := Nat × List Dr) (fun (zz : Nat × List Dr) => ⟨[(0, pPs a), (1, pPs b), (5, .own 0 zz.2.length), (6, pI zz.1)], [(0, .arr 81 3 zz.2.length (fR eD zz.2))], 1⟩) (fun (zz : Nat × List Dr) => zz.1 ≤ a.length ∧ zz.2 = (dirsOf a).take zz.1) (fun (zz : Nat × List Dr) => a.length - zz.1) (0, []) (Sub.r (Sub.mk' ⟨(by rfl), (by rfl), (by rfl), (by rfl), trivial⟩ ⟨(by rfl), trivial⟩ (by exact Nat.le_refl _))) (by exact ⟨by omega, rfl⟩) ?_
  rintro ⟨i, o⟩ hinv
  have hinv : i ≤ a.length ∧ o = (dirsOf a).take i := hinv
  obtain ⟨h1, h2⟩ := hinv
  show AWP _ _ _ _ _ _ _ ⟨[(0, pPs a), (1, pPs b), (5, .own 0 o.length), (6, pI i)], [(0, .arr 81 3 o.length (fR eD o))], 1⟩
  have hol : o.length = i := by rw [h2, List.length_take]; omega
  refine AWP.seq ?_
  refine AWP.seq ?_
  refine AWP.region ?_
  refine OPS.p rfl (st_move rfl) ?_
  refine OPS.p rfl (st_move rfl) ?_
  refine OPS.p rfl (st_len un66 rfl rfl) ?_
  refine OPS.p rfl (st_lss rfl rfl) ?_
  refine OPS.nil ?_
  refine AWP.condD rfl (fun hc3 => ?_) (fun hc3 => ?_)
  · have hi : i < a.length := by omega
    have hn := fam_rside ha hi
    have e0 : (dirsOf a)[i]'(by omega) = dirA a i := by simp [dirsOf]
    have ht : (dirsOf a).take (i + 1) = (dirsOf a).take i ++ [dirA a i] := by rw [List.take_succ_eq_append_getElem (by omega), e0]
    generalize dirA a i = d at *
    refine AWP.skip ?_
    refine AWP.seq ?_
    refine AWP.block ?_
    refine AWP.seq ?_
    refine AWP.drw mixed ?_
    refine DRW.p rfl (st_move rfl) ?_
    refine DRW.p rfl (st_move rfl) ?_
    refine DRW.p rfl (by exact st_index_R es66 rfl rfl (fun _ => rfl) rfl (by omega) (by omega) (by rfl)) ?_
    refine DRW.p rfl (by exact st_load_Rn ag148 rfl (fun _ => rfl) rfl (by omega)) ?_
    refine DRW.p rfl (st_move rfl) ?_
    refine DRW.p rfl (st_move rfl) ?_
    refine DRW.p rfl (st_call (L := [((.tmp 27), _), ((.tmp 28), _)]) false pl187 ⟨rfl, rfl, trivial⟩ rfl (k_Next a i hi (by omega)) rfl) ?_
    refine DRW.p rfl (st_call (L := [((.tmp 26), _), ((.tmp 29), _)]) false pl247 ⟨rfl, rfl, trivial⟩ rfl (hn) rfl) ?_
    refine DRW.p rfl (st_move rfl) ?_
    refine DRW.p rfl (st_extract rfl rfl) ?_
    refine DRW.p rfl (st_extract rfl rfl) ?_
    refine DRW.a rfl (st_alloc ze81) ?_
    refine DRW.s (by exact st_store_v sz81 rfl rfl rfl rfl rfl rfl) ?_
    refine DRW.p rfl (st_assign rfl) ?_
    refine DRW.nil (by kernel_rfl) ?_
    refine AWP.region ?_
    refine OPS.p rfl (st_move rfl) ?_
    refine OPS.p rfl (by exact st_load_va ag81 rfl rfl rfl rfl) ?_
    refine OPS.a rfl (Stp.frz (st_buildS (L := [(0, (.tmp 34), _)]) ei200 rfl ⟨rfl, trivial⟩ rfl rfl) rfl) ?_
    refine OPS.a rfl (st_append_R (v := [d]) ei200 un200 rfl rfl rfl rfl (fun _ => rfl) rfl rfl (by simp only [List.length_singleton]; omega) (by simp only [List.length_singleton]; omega)) ?_
    refine OPS.p rfl (st_assign rfl) ?_
    refine OPS.nil ?_
    refine AWP.region ?_
    refine OPS.p rfl (st_move rfl) ?_
    refine OPS.p rfl (by exact st_add_i rfl rfl (by omega) (by omega)) ?_
    refine OPS.p rfl (st_assign rfl) ?_
    refine OPS.nil ?_
    refine ⟨(i + 1, o ++ [d]), (Ren.r (Ren.mk' (ρ := [(3, 0)]) rfl ⟨(by rfl), (by rfl), (by rfl), (by rfl), trivial⟩ ⟨(by rfl), trivial⟩)), ?_, ?_⟩
    · try dsimp only
      exact ⟨by omega, by rw [ht, h2]⟩
    · try dsimp only
      omega
  · refine AWP.exit ?_
    refine AWP.seq ?_
    refine AWP.seq ?_
    refine AWP.region ?_
    refine OPS.p rfl (st_assign rfl) ?_
    refine OPS.nil ?_
    refine AWP.block ?_
    have hia : i = a.length := by omega
    have h2' : o = dirsOf a := by rw [h2, hia, ← da, List.take_length]
    refine AWP.loopR (σ := Nat × List Dr) (fun (zz : Nat × List Dr) => ⟨[(0, pPs a), (1, pPs b), (5, .own 0 zz.2.length), (9, pI zz.1)], [(0, .arr 81 3 zz.2.length (fR eD zz.2))], 1⟩) (fun (zz : Nat × List Dr) => zz.1 ≤ b.length ∧ zz.2 = dirsOf a ++ ((dirsOf b).take zz.1).map turn) (fun (zz : Nat × List Dr) => b.length - zz.1) (0, o) (Sub.r (Sub.mk' ⟨(by rfl), (by rfl), (by rfl), (by rfl), trivial⟩ ⟨(by rfl), trivial⟩ (by exact Nat.le_refl _))) (by exact ⟨by omega, by rw [h2']; simp⟩) ?_
    rintro ⟨i, o⟩ hinv
    have hinv : i ≤ b.length ∧ o = dirsOf a ++ ((dirsOf b).take i).map turn := hinv
    obtain ⟨k1, k2⟩ := hinv
    show AWP _ _ _ _ _ _ _ ⟨[(0, pPs a), (1, pPs b), (5, .own 0 o.length), (9, pI i)], [(0, .arr 81 3 o.length (fR eD o))], 1⟩
    have hol' : o.length = a.length + i := by rw [k2, List.length_append, List.length_map, List.length_take]; omega
    refine AWP.seq ?_
    refine AWP.seq ?_
    refine AWP.region ?_
    refine OPS.p rfl (st_move rfl) ?_
    refine OPS.p rfl (st_move rfl) ?_
    refine OPS.p rfl (st_len un66 rfl rfl) ?_
    refine OPS.p rfl (st_lss rfl rfl) ?_
    refine OPS.nil ?_
    refine AWP.condD rfl (fun hc8 => ?_) (fun hc8 => ?_)
    · have hi : i < b.length := by omega
      have hn := fam_rside hb hi
      have hd := (fam_dir hb hi).1
      have hsm := dir_small hd
      have e0 : (dirsOf b)[i]'(by omega) = dirA b i := by simp [dirsOf]
      have ht : ((dirsOf b).take (i + 1)).map turn = ((dirsOf b).take i).map turn ++ [turn (dirA b i)] := by rw [List.take_succ_eq_append_getElem (by omega), e0, List.map_append]; rfl
      generalize dirA b i = d at *
      refine AWP.skip ?_
      refine AWP.seq ?_
      refine AWP.block ?_
      refine AWP.seq ?_
      refine AWP.drw mixed ?_
      refine DRW.p rfl (st_move rfl) ?_
      refine DRW.p rfl (st_move rfl) ?_
      refine DRW.p rfl (by exact st_index_R es66 rfl rfl (fun _ => rfl) rfl (by omega) (by omega) (by rfl)) ?_
      refine DRW.p rfl (by exact st_load_Rn ag148 rfl (fun _ => rfl) rfl (by omega)) ?_
      refine DRW.p rfl (st_move rfl) ?_
      refine DRW.p rfl (st_move rfl) ?_
      refine DRW.p rfl (st_call (L := [((.tmp 48), _), ((.tmp 49), _)]) false pl187 ⟨rfl, rfl, trivial⟩ rfl (k_Next b i hi (by omega)) rfl) ?_
      refine DRW.p rfl (st_call (L := [((.tmp 47), _), ((.tmp 50), _)]) false pl247 ⟨rfl, rfl, trivial⟩ rfl (hn) rfl) ?_
      refine DRW.p rfl (st_move rfl) ?_
      refine DRW.p rfl (st_extract rfl rfl) ?_
      refine DRW.p rfl (st_extract rfl rfl) ?_
      refine DRW.a rfl (st_alloc ze81) ?_
      refine DRW.s (by exact st_store_v sz81 rfl rfl rfl rfl rfl rfl) ?_
      refine DRW.p rfl (st_assign rfl) ?_
      refine DRW.nil (by kernel_rfl) ?_
      refine AWP.region ?_
      refine OPS.p rfl (st_move rfl) ?_
      refine OPS.p rfl (by exact st_load_va ag81 rfl rfl rfl rfl) ?_
      refine OPS.p rfl (st_call (L := [((.tmp 55), _)]) false pl248 ⟨rfl, trivial⟩ rfl (k_Turn d (by omega) (by omega)) rfl) ?_
      refine OPS.a rfl (Stp.frz (st_buildS (L := [(0, (.tmp 56), _)]) ei200 rfl ⟨rfl, trivial⟩ rfl rfl) rfl) ?_
      refine OPS.a rfl (st_append_R (v := [turn d]) ei200 un200 rfl rfl rfl rfl (fun _ => rfl) rfl rfl (by simp only [List.length_singleton]; omega) (by simp only [List.length_singleton]; omega)) ?_
      refine OPS.p rfl (st_assign rfl) ?_
      refine OPS.nil ?_
      refine AWP.region ?_
      refine OPS.p rfl (st_move rfl) ?_
      refine OPS.p rfl (by exact st_add_i rfl rfl (by omega) (by omega)) ?_
      refine OPS.p rfl (st_assign rfl) ?_
      refine OPS.nil ?_
      refine ⟨(i + 1, o ++ [turn d]), (Ren.r (Ren.mk' (ρ := [(3, 0)]) rfl ⟨(by rfl), (by rfl), (by rfl), (by rfl), trivial⟩ ⟨(by rfl), trivial⟩)), ?_, ?_⟩
      · try dsimp only
        exact ⟨by omega, by rw [ht, k2, List.append_assoc]⟩
      · try dsimp only
        omega
    · refine AWP.exit ?_
      refine AWP.seq ?_
      have hib : i = b.length := by omega
      have hds : o = dirsAB a b := by rw [k2, hib, ← db, List.take_length, dirsAB]
      have hod : ∀ d ∈ o, d ∈ dirs12 := fun d hd => dirsAB_mem ha hb (hds ▸ hd)
      refine AWP.freeze 0 [5] rfl ⟨rfl, trivial⟩ ?_
      refine AWP.region ?_
      refine OPS.p rfl (st_assign rfl) ?_
      refine OPS.nil ?_
      refine AWP.seq ?_
      refine AWP.seq ?_
      refine AWP.region ?_
      refine OPS.p rfl (st_assign rfl) ?_
      refine OPS.nil ?_
      refine AWP.block ?_
      refine AWP.adopt 12 83 4 rfl ?_
      rw [show sidesL a b = o.foldl (addE a b) [] by rw [hds]; rfl]
      clear hds k2
      generalize hw : o.length = n at *
      refine AWP.loopR (σ := Nat × List Ed) (fun (zz : Nat × List Ed) => ⟨[(0, pPs a), (1, pPs b), (5, .cell (.sl n (fR eD o))), (12, .own 1 zz.2.length), (13, pI zz.1)], [(1, .arr 83 4 zz.2.length (fR eE zz.2))], 2⟩) (fun (zz : Nat × List Ed) => zz.1 ≤ n ∧ zz.2.length ≤ zz.1 ∧ zz.2 = (o.take zz.1).foldl (addE a b) []) (fun (zz : Nat × List Ed) => n - zz.1) (0, []) (Sub.r (Sub.mk' ⟨(by rfl), (by rfl), (by rfl), (by rfl), (by rfl), trivial⟩ ⟨(by rfl), trivial⟩ (by exact Nat.le_refl _))) (by exact ⟨by omega, by simp, rfl⟩) ?_
      rintro ⟨j, u⟩ hinv
      have hinv : j ≤ n ∧ u.length ≤ j ∧ u = (o.take j).foldl (addE a b) [] := hinv
      obtain ⟨g1, g2, g3⟩ := hinv
      show AWP _ _ _ _ _ _ _ ⟨[(0, pPs a), (1, pPs b), (5, .cell (.sl n (fR eD o))), (12, .own 1 u.length), (13, pI j)], [(1, .arr 83 4 u.length (fR eE u))], 2⟩
      refine AWP.seq ?_
      refine AWP.seq ?_
      refine AWP.region ?_
      refine OPS.p rfl (st_move rfl) ?_
      refine OPS.p rfl (st_move rfl) ?_
      refine OPS.p rfl (st_len un200 rfl rfl) ?_
      refine OPS.p rfl (st_lss rfl rfl) ?_
      refine OPS.nil ?_
      refine AWP.condD rfl (fun hc14 => ?_) (fun hc14 => ?_)
      · have hj : j < o.length := by omega
        have hd := hod _ (getD_mem hj)
        have hf := take_fold (addE a b) [] (l := o) (i := j) hj (show _ = o.getD j default by rw [List.getD_eq_getElem?_getD, List.getElem?_eq_getElem hj]; rfl)
        have hS := dir_Sd hd
        have hT := dir_Sd (turn_mem hd)
        have b1 := most_bd ha hd
        have b2 := most_bd hb (turn_mem hd)
        have hsm := dir_small hd
        refine AWP.skip ?_
        refine AWP.seq ?_
        refine AWP.block ?_
        refine AWP.seq ?_
        refine AWP.region ?_
        refine OPS.p rfl (st_assign rfl) ?_
        refine OPS.nil ?_
        refine AWP.seq ?_
        refine AWP.seq ?_
        refine AWP.region ?_
        refine OPS.p rfl (st_assign rfl) ?_
        refine OPS.nil ?_
        refine AWP.block ?_
        refine AWP.loopR (σ := Nat × Bool) (fun (zz : Nat × Bool) => ⟨[(0, pPs a), (1, pPs b), (5, .cell (.sl n (fR eD o))), (12, .own 1 u.length), (13, pI j), (14, pB zz.2), (15, pI zz.1)], [(1, .arr 83 4 u.length (fR eE u))], 2⟩) (fun (zz : Nat × Bool) => zz.1 ≤ j ∧ zz.2 = (o.take zz.1).all fun x => decide (x ≠ o.getD j default)) (fun (zz : Nat × Bool) => j - zz.1) (0, true) (Sub.r (Sub.mk' ⟨(by rfl), (by rfl), (by rfl), (by rfl), (by rfl), (by rfl), (by rfl), trivial⟩ ⟨(by rfl), trivial⟩ (by exact Nat.le_refl _))) (by exact ⟨by omega, rfl⟩) ?_
        rintro ⟨k, w⟩ hinv
        have hinv : k ≤ j ∧ w = (o.take k).all fun x => decide (x ≠ o.getD j default) := hinv
        obtain ⟨q1, q2⟩ := hinv
        show AWP _ _ _ _ _ _ _ ⟨[(0, pPs a), (1, pPs b), (5, .cell (.sl n (fR eD o))), (12, .own 1 u.length), (13, pI j), (14, pB w), (15, pI k)], [(1, .arr 83 4 u.length (fR eE u))], 2⟩
        refine AWP.seq ?_
        refine AWP.seq ?_
        refine AWP.region ?_
        refine OPS.p rfl (st_move rfl) ?_
        refine OPS.p rfl (st_move rfl) ?_
        refine OPS.p rfl (st_lss rfl rfl) ?_
        refine OPS.nil ?_
        refine AWP.condD rfl (fun hc18 => ?_) (fun hc18 => ?_)
        · have hk : k < j := by omega
          have hk' : k < o.length := by omega
          have hst := all_take (fun x => decide (x ≠ o.getD j default)) hk'
          refine AWP.skip ?_
          refine AWP.seq ?_
          refine AWP.block ?_
          refine AWP.drw mixed ?_
          refine DRW.p rfl (st_move rfl) ?_
          refine DRW.p rfl (st_move rfl) ?_
          refine DRW.splitB (g := 71) rfl (fun eg20_1 g20_1 => ?_) (fun eg20_1 g20_1 => ?_)
          · refine DRW.pG rfl rfl rfl eg20_1 (st_move rfl) ?_
            refine DRW.pG rfl rfl rfl eg20_1 (st_move rfl) ?_
            refine DRW.pG rfl rfl rfl eg20_1 (by exact st_index_R es200 rfl rfl (fun _ => rfl) rfl (by omega) (by omega) (by omega)) ?_
            refine DRW.pG rfl rfl rfl eg20_1 (by exact st_load_Rn ag81 rfl (fun _ => rfl) rfl (by omega)) ?_
            refine DRW.pG rfl rfl rfl eg20_1 (st_move rfl) ?_
            refine DRW.pG rfl rfl rfl eg20_1 (st_move rfl) ?_
            refine DRW.pG rfl rfl rfl eg20_1 (by exact st_index_R es200 rfl rfl (fun _ => rfl) rfl (by omega) (by omega) (by omega)) ?_
            refine DRW.pG rfl rfl rfl eg20_1 (by exact st_load_Rn ag81 rfl (fun _ => rfl) rfl (by omega)) ?_
            refine DRW.pG rfl rfl rfl eg20_1 (st_neq_D ns81 eg81 eq81 rfl rfl) ?_
            refine DRW.p rfl (st_pickT rfl eg20_1 rfl) ?_
            refine DRW.p rfl (st_assign rfl) ?_
            refine DRW.nil (by kernel_rfl) ?_
            refine AWP.region ?_
            refine OPS.p rfl (st_move rfl) ?_
            refine OPS.p rfl (by exact st_add_i rfl rfl (by omega) (by omega)) ?_
            refine OPS.p rfl (st_assign rfl) ?_
            refine OPS.nil ?_
            refine ⟨(k + 1, decide (o.getD k default ≠ o.getD j default)), (Sub.r (Sub.mk' ⟨(by rfl), (by rfl), (by rfl), (by rfl), (by rfl), (by rfl), (by rfl), trivial⟩ ⟨(by rfl), trivial⟩ (by exact Nat.le_refl _))), ?_, ?_⟩
            · try dsimp only
              refine ⟨by omega, ?_⟩
              rw [hst, ← q2, eg20_1]
              rfl
            · try dsimp only
              omega
          · refine DRW.nO rfl rfl rfl eg20_1 ?_
            refine DRW.nO rfl rfl rfl eg20_1 ?_
            refine DRW.nO rfl rfl rfl eg20_1 ?_
            refine DRW.nO rfl rfl rfl eg20_1 ?_
            refine DRW.nO rfl rfl rfl eg20_1 ?_
            refine DRW.nO rfl rfl rfl eg20_1 ?_
            refine DRW.nO rfl rfl rfl eg20_1 ?_
            refine DRW.nO rfl rfl rfl eg20_1 ?_
            refine DRW.nO rfl rfl rfl eg20_1 ?_
            refine DRW.p rfl (st_pickF rfl eg20_1 rfl) ?_
            refine DRW.p rfl (st_assign rfl) ?_
            refine DRW.nil (by kernel_rfl) ?_
            refine AWP.region ?_
            refine OPS.p rfl (st_move rfl) ?_
            refine OPS.p rfl (by exact st_add_i rfl rfl (by omega) (by omega)) ?_
            refine OPS.p rfl (st_assign rfl) ?_
            refine OPS.nil ?_
            refine ⟨(k + 1, false), (Sub.r (Sub.mk' ⟨(by rfl), (by rfl), (by rfl), (by rfl), (by rfl), (by rfl), (by rfl), trivial⟩ ⟨(by rfl), trivial⟩ (by exact Nat.le_refl _))), ?_, ?_⟩
            · try dsimp only
              refine ⟨by omega, ?_⟩
              rw [hst, ← q2, eg20_1]
              rfl
            · try dsimp only
              omega
        · have hk : k = j := by omega
          rw [hk, all_ne, ← any_map_fst a b, ← g3] at q2
          refine AWP.exit ?_
          refine AWP.seq ?_
          refine AWP.region ?_
          refine OPS.p rfl (st_move rfl) ?_
          refine OPS.nil ?_
          refine AWP.cond rfl (fun hc21 => ?_) (fun hc21 => ?_)
          · refine AWP.drw mixed ?_
            refine DRW.p rfl (st_move rfl) ?_
            refine DRW.p rfl (st_move rfl) ?_
            refine DRW.p rfl (st_move rfl) ?_
            refine DRW.p rfl (by exact st_index_R es200 rfl rfl (fun _ => rfl) rfl (by omega) (by omega) (by omega)) ?_
            refine DRW.p rfl (by exact st_load_Rn ag81 rfl (fun _ => rfl) rfl (by omega)) ?_
            refine DRW.p rfl (st_move rfl) ?_
            refine DRW.p rfl (st_move rfl) ?_
            refine DRW.p rfl (st_move rfl) ?_
            refine DRW.p rfl (by exact st_index_R es200 rfl rfl (fun _ => rfl) rfl (by omega) (by omega) (by omega)) ?_
            refine DRW.p rfl (by exact st_load_Rn ag81 rfl (fun _ => rfl) rfl (by omega)) ?_
            refine DRW.p rfl (st_call (L := [((.tmp 88), _), ((.tmp 92), _)]) false pl249 ⟨rfl, rfl, trivial⟩ rfl (k_rMost a (o.getD j default) (by omega) (by omega) sa hS) rfl) ?_
            refine DRW.p rfl (st_move rfl) ?_
            refine DRW.p rfl (st_move rfl) ?_
            refine DRW.p rfl (st_move rfl) ?_
            refine DRW.p rfl (by exact st_index_R es200 rfl rfl (fun _ => rfl) rfl (by omega) (by omega) (by omega)) ?_
            refine DRW.p rfl (by exact st_load_Rn ag81 rfl (fun _ => rfl) rfl (by omega)) ?_
            refine DRW.p rfl (st_call (L := [((.tmp 98), _)]) false pl248 ⟨rfl, trivial⟩ rfl (k_Turn (o.getD j default) (by omega) (by omega)) rfl) ?_
            refine DRW.p rfl (st_call (L := [((.tmp 94), _), ((.tmp 99), _)]) false pl249 ⟨rfl, rfl, trivial⟩ rfl (k_rMost b (turn (o.getD j default)) (by omega) (by omega) sb hT) rfl) ?_
            refine DRW.p rfl (by exact st_add_i rfl rfl (by omega) (by omega)) ?_
            refine DRW.p rfl (st_build (L := [(0, (.tmp 87), _), (1, (.tmp 101), _)]) zf83 pl_83 ⟨rfl, rfl, trivial⟩ rfl rfl) ?_
            refine DRW.a rfl (Stp.frz (st_buildS (L := [(0, (.tmp 102), _)]) ei68 rfl ⟨rfl, trivial⟩ rfl rfl) rfl) ?_
            refine DRW.a rfl (st_append_R (v := [mkE a b (o.getD j default)]) ei68 un68 rfl rfl rfl rfl (fun _ => rfl) rfl rfl (by simp only [List.length_singleton]; omega) (by simp only [List.length_singleton]; omega)) ?_
            refine DRW.p rfl (st_assign rfl) ?_
            refine DRW.nil (by kernel_rfl) ?_
            refine AWP.region ?_
            refine OPS.p rfl (st_move rfl) ?_
            refine OPS.p rfl (by exact st_add_i rfl rfl (by omega) (by omega)) ?_
            refine OPS.p rfl (st_assign rfl) ?_
            refine OPS.nil ?_
            refine ⟨(j + 1, u ++ [mkE a b (o.getD j default)]), (Ren.r (Ren.mk' (ρ := [(3, 1)]) rfl ⟨(by rfl), (by rfl), (by rfl), (by rfl), (by rfl), trivial⟩ ⟨(by rfl), trivial⟩)), ?_, ?_⟩
            · try dsimp only
              refine ⟨by omega, by rw [List.length_append, List.length_singleton]; omega, ?_⟩
              rw [hf, ← g3, addE_new (by rw [hc21] at q2; simpa using q2.symm)]
            · try dsimp only
              omega
          · refine AWP.skip ?_
            refine AWP.region ?_
            refine OPS.p rfl (st_move rfl) ?_
            refine OPS.p rfl (by exact st_add_i rfl rfl (by omega) (by omega)) ?_
            refine OPS.p rfl (st_assign rfl) ?_
            refine OPS.nil ?_
            refine ⟨(j + 1, u), (Sub.r (Sub.mk' ⟨(by rfl), (by rfl), (by rfl), (by rfl), (by rfl), trivial⟩ ⟨(by rfl), trivial⟩ (by exact Nat.le_refl _))), ?_, ?_⟩
            · try dsimp only
              refine ⟨by omega, by omega, ?_⟩
              rw [hf, ← g3, addE_old (by rw [hc21] at q2; simpa using q2.symm)]
            · try dsimp only
              omega
      · refine AWP.exit ?_
        refine AWP.seq ?_
        refine AWP.region ?_
        refine OPS.p rfl (st_move rfl) ?_
        refine OPS.p rfl (st_assign rfl) ?_
        refine OPS.nil ?_
        have hj : j = o.length := by omega
        refine AWP.freeze 1 [4] rfl ⟨rfl, trivial⟩ ?_
        refine AWP.ret ?_
        exact Ret.mk rfl (by rw [g3, hj, List.take_length])
end Go.Proofs.Gh.Tryz
end
