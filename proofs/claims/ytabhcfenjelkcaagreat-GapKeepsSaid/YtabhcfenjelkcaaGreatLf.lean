/-
  The law GapKeeps: every call returns true.
-/
import Derived.Test.YtabhcfenjelkcaaGreatCtG
section
set_option linter.unusedVariables false
set_option linter.unusedSimpArgs false
set_option maxRecDepth 4000
namespace Go.Proofs.Gh.Tryz
open Go Go.Proofs Go.Proofs.Gh

theorem l_GapKeeps (l m x : List Int) (hl : ∀ n ∈ l, -9223372036854775808 ≤ n ∧ n ≤ 9223372036854775807) (hm : ∀ n ∈ m, -9223372036854775808 ≤ n ∧ n ≤ 9223372036854775807) (hx : ∀ n ∈ x, -9223372036854775808 ≤ n ∧ n ≤ 9223372036854775807) : PureC Tryz.prog 10 [pL l, pL m, pL x] (pB true) := by
  have c1 := k_Shape l hl
  have c2 := k_Shape m hm
  have x0 := k_At x 0 96 (by omega) hx
  have x1 := k_At x 1 96 (by omega) hx
  have x2 := k_At x 2 96 (by omega) hx
  have x3 := k_At x 3 96 (by omega) hx
  have x4 := k_At x 4 96 (by omega) hx
  have x5 := k_At x 5 96 (by omega) hx
  have b0 := at_lt x 0 (m := 96) (by omega)
  have b1 := at_lt x 1 (m := 96) (by omega)
  have b2 := at_lt x 2 (m := 96) (by omega)
  have b3 := at_lt x 3 (m := 96) (by omega)
  have b4 := at_lt x 4 (m := 96) (by omega)
  have b5 := at_lt x 5 (m := 96) (by omega)
  generalize at' x 0 96 = y0 at *
  generalize at' x 1 96 = y1 at *
  generalize at' x 2 96 = y2 at *
  generalize at' x 3 96 = y3 at *
  generalize at' x 4 96 = y4 at *
  generalize at' x 5 96 = y5 at *
  have v1 := k_Vec y0 y1 (by omega) (by omega)
  have v2 := k_Vec y2 y3 (by omega) (by omega)
  have v3 := k_Vec y4 y5 (by omega) (by omega)
  have q1 := vec24 y0 y1
  have q2 := vec24 y2 y3
  have q3 := vec24 y4 y5
  generalize vec y0 y1 = r at *
  generalize vec y2 y3 = v at *
  generalize vec y4 y5 = w at *
  have fa := shape_fam l
  have fb := shape_fam m
  generalize shape l = a at *
  generalize shape m = b at *
  have hlen := sides_len fa fb
  have hSE : ∀ e ∈ sidesL a b, SE e := fun e he => ⟨dir_small (side_dir fa fb he), atE_bd fa fb he⟩
  have sl1 := (fam_pair fa fb).len
  have sl2 := (sum_mem fa fb).1
  have sS : ∀ p ∈ sumL a b, Sp p := fun p hp => by have := sum_bd fa fb p hp; unfold Sp; omega
  have hin := (has_sum fa fb r).2
  have s1 := k_Sides a b fa fb
  have s2 := k_Sum a b fa fb
  generalize sidesL a b = es at *
  generalize sumL a b = s at *
  have hhas := k_Has s r (by omega) sS (qb_mono q1.1 (by omega) (by omega)) (qb_mono q1.2 (by omega) (by omega))
  have hfree := free_ok es r v w (by omega) hSE q1 q2 q3
  have hfc := firstI_cases (freeP r v w) es
  generalize firstI (freeP r v w) es = k at *
  have Q1 := q1.mono (N' := 100000) (D' := 4000) (by omega) (by omega)
  have hmeet := k_Meet es r (by omega) hSE Q1
  have hrv : QV (24 * 3 + 24 * 3) (3 * 3) (plusV r v) := ⟨qb_add q1.1 q2.1, qb_add q1.2 q2.2⟩
  have hplus : PureC Tryz.prog 65 [pV r, pV v] (pV (plusV r v)) := k_Plus r v (b_rqAdd _ _ _ _ q1.1 q2.1 rfl rfl rfl rfl rfl rfl rfl rfl) (b_rqAdd _ _ _ _ q1.2 q2.2 rfl rfl rfl rfl rfl rfl rfl rfl)
  have hbest := k_Best es r (plusV r v) (by omega) hSE Q1 (hrv.mono (by omega) (by omega))
  have hnone := @grI_none (fun e => gapQ e (plusV r v)) (gapP r) es
  have hgr := (@grI_has (fun e => gapQ e (plusV r v)) (gapP r) es es.length).1
  have hgb := grI_bd (fun e => gapQ e (plusV r v)) (gapP r) es es.length
  generalize grI (fun e => gapQ e (plusV r v)) (gapP r) es es.length = B at *
  have hin2 : (!es.any (gapP r)) = true → hasQ s r = true := fun h => hin fun e he => by
    have h1 := any_false h e he
    have h2 := (gapP_iff (hSE e he).1.2.2.2.2.1 r).2
    apply Classical.byContradiction
    intro hn
    rw [h2 (by grind)] at h1
    cases h1
  have hkb : -1 ≤ k ∧ k < es.length := by
    rcases hfc with h | ⟨i, h1, h2, _⟩ <;> omega
  refine PureC.of Tryz.func10 rfl Tryz.ntmps10 (vs := [.tmp 6]) rfl (Nat.le_of_ble_eq_true rfl) rfl fun cx _ _ => ?_
  refine AWP.seq ?_
  refine AWP.region ?_
  refine OPS.p rfl (st_assign rfl) ?_
  refine OPS.nil ?_
  refine AWP.seq ?_
  refine AWP.region ?_
  refine OPS.p rfl (st_move rfl) ?_
  refine OPS.p rfl (st_call (L := [((.tmp 19), _)]) false pl59 ⟨rfl, trivial⟩ rfl (c1) rfl) ?_
  refine OPS.p rfl (st_assign rfl) ?_
  refine OPS.nil ?_
  refine AWP.seq ?_
  refine AWP.region ?_
  refine OPS.p rfl (st_move rfl) ?_
  refine OPS.p rfl (st_call (L := [((.tmp 21), _)]) false pl59 ⟨rfl, trivial⟩ rfl (c2) rfl) ?_
  refine OPS.p rfl (st_assign rfl) ?_
  refine OPS.nil ?_
  refine AWP.seq ?_
  refine AWP.region ?_
  refine OPS.p rfl (st_move rfl) ?_
  refine OPS.p rfl (st_move rfl) ?_
  refine OPS.p rfl (st_call (L := [((.tmp 23), _), ((.tmp 24), _)]) false pl60 ⟨rfl, rfl, trivial⟩ rfl (s1) rfl) ?_
  refine OPS.p rfl (st_assign rfl) ?_
  refine OPS.nil ?_
  refine AWP.seq ?_
  refine AWP.region ?_
  refine OPS.p rfl (st_move rfl) ?_
  refine OPS.p rfl (st_move rfl) ?_
  refine OPS.p rfl (st_call (L := [((.tmp 26), _), ((.tmp 27), _)]) false pl61 ⟨rfl, rfl, trivial⟩ rfl (s2) rfl) ?_
  refine OPS.p rfl (st_assign rfl) ?_
  refine OPS.nil ?_
  refine AWP.seq ?_
  refine AWP.region ?_
  refine OPS.p rfl (st_move rfl) ?_
  refine OPS.p rfl (st_call (L := [((.tmp 29), _), ((.const (.int .i64 0)), _), ((.const (.int .i64 96)), _)]) false pl63 ⟨rfl, rfl, rfl, trivial⟩ rfl (x0) rfl) ?_
  refine OPS.p rfl (st_move rfl) ?_
  refine OPS.p rfl (st_call (L := [((.tmp 31), _), ((.const (.int .i64 1)), _), ((.const (.int .i64 96)), _)]) false pl63 ⟨rfl, rfl, rfl, trivial⟩ rfl (x1) rfl) ?_
  refine OPS.p rfl (st_call (L := [((.tmp 30), _), ((.tmp 32), _)]) false pl62 ⟨rfl, rfl, trivial⟩ rfl (v1) rfl) ?_
  refine OPS.a rfl (st_alloc ze72) ?_
  refine OPS.s (by exact st_store_v sz72 rfl rfl rfl rfl rfl rfl) ?_
  refine OPS.nil ?_
  refine AWP.seq ?_
  refine AWP.region ?_
  refine OPS.p rfl (st_move rfl) ?_
  refine OPS.p rfl (st_call (L := [((.tmp 34), _), ((.const (.int .i64 2)), _), ((.const (.int .i64 96)), _)]) false pl63 ⟨rfl, rfl, rfl, trivial⟩ rfl (x2) rfl) ?_
  refine OPS.p rfl (st_move rfl) ?_
  refine OPS.p rfl (st_call (L := [((.tmp 36), _), ((.const (.int .i64 3)), _), ((.const (.int .i64 96)), _)]) false pl63 ⟨rfl, rfl, rfl, trivial⟩ rfl (x3) rfl) ?_
  refine OPS.p rfl (st_call (L := [((.tmp 35), _), ((.tmp 37), _)]) false pl62 ⟨rfl, rfl, trivial⟩ rfl (v2) rfl) ?_
  refine OPS.a rfl (st_alloc ze72) ?_
  refine OPS.s (by exact st_store_v sz72 rfl rfl rfl rfl rfl rfl) ?_
  refine OPS.nil ?_
  refine AWP.seq ?_
  refine AWP.region ?_
  refine OPS.p rfl (st_move rfl) ?_
  refine OPS.p rfl (st_call (L := [((.tmp 39), _), ((.const (.int .i64 4)), _), ((.const (.int .i64 96)), _)]) false pl63 ⟨rfl, rfl, rfl, trivial⟩ rfl (x4) rfl) ?_
  refine OPS.p rfl (st_move rfl) ?_
  refine OPS.p rfl (st_call (L := [((.tmp 41), _), ((.const (.int .i64 5)), _), ((.const (.int .i64 96)), _)]) false pl63 ⟨rfl, rfl, rfl, trivial⟩ rfl (x5) rfl) ?_
  refine OPS.p rfl (st_call (L := [((.tmp 40), _), ((.tmp 42), _)]) false pl62 ⟨rfl, rfl, trivial⟩ rfl (v3) rfl) ?_
  refine OPS.a rfl (st_alloc ze72) ?_
  refine OPS.s (by exact st_store_v sz72 rfl rfl rfl rfl rfl rfl) ?_
  refine OPS.nil ?_
  refine AWP.seq ?_
  refine AWP.region ?_
  refine OPS.p rfl (st_move rfl) ?_
  refine OPS.p rfl (by exact st_load_va ag72 rfl rfl rfl rfl) ?_
  refine OPS.p rfl (by exact st_load_va ag72 rfl rfl rfl rfl) ?_
  refine OPS.p rfl (by exact st_load_va ag72 rfl rfl rfl rfl) ?_
  refine OPS.p rfl (st_call (L := [((.tmp 44), _), ((.tmp 45), _), ((.tmp 46), _), ((.tmp 47), _)]) false pl64 ⟨rfl, rfl, rfl, rfl, trivial⟩ rfl (hfree) rfl) ?_
  refine OPS.p rfl (st_assign rfl) ?_
  refine OPS.nil ?_
  refine AWP.seq ?_
  refine AWP.seq ?_
  refine AWP.region ?_
  refine OPS.p rfl (st_move rfl) ?_
  refine OPS.p rfl (st_move rfl) ?_
  refine OPS.p rfl (st_len un68 rfl rfl) ?_
  refine OPS.p rfl (st_geq rfl rfl) ?_
  refine OPS.p rfl (st_move rfl) ?_
  refine OPS.pG rfl rfl rfl ((decide_eq_false (by omega))) (st_move rfl) ?_
  refine OPS.pG rfl rfl rfl ((decide_eq_false (by omega))) (st_lss rfl rfl) ?_
  refine OPS.p rfl (st_pickF rfl ((decide_eq_false (by omega))) rfl) ?_
  refine OPS.p rfl (st_move rfl) ?_
  refine OPS.pG rfl rfl rfl ((decide_eq_false (by omega))) (st_move rfl) ?_
  refine OPS.pG rfl rfl rfl ((decide_eq_false (by omega))) (st_len un66 rfl rfl) ?_
  refine OPS.pG rfl rfl rfl ((decide_eq_false (by omega))) (st_lss rfl rfl) ?_
  refine OPS.p rfl (st_pickF rfl ((decide_eq_false (by omega))) rfl) ?_
  refine OPS.nil ?_
  refine AWP.cond_f rfl ((decide_eq_false (by omega))) ?_
  refine AWP.skip ?_
  refine AWP.seq ?_
  refine AWP.seq ?_
  refine AWP.region ?_
  refine OPS.p rfl (st_assign rfl) ?_
  refine OPS.nil ?_
  refine AWP.block ?_
  refine AWP.loopR (σ := Nat) (fun (zz : Nat) => ⟨[(9, pEs es), (10, pPs s), (11, .ptr 0 0), (12, .ptr 1 0), (13, .ptr 2 0), (14, pI k), (15, pI zz)], [(0, .var ((eV r).map .cell)), (1, .var ((eV v).map .cell)), (2, .var ((eV w).map .cell))], 3⟩) (fun (zz : Nat) => zz ≤ 5 ∧ True) (fun (zz : Nat) => 5 - zz) (0) (Sub.r (Sub.mk' ⟨(by rfl), (by rfl), (by rfl), (by rfl), (by rfl), (by rfl), (by rfl), trivial⟩ ⟨(by rfl), (by rfl), (by rfl), trivial⟩ (by exact Nat.le_refl _))) (by exact ⟨Nat.zero_le _, trivial⟩) ?_
  rintro i hinv
  have hinv : i ≤ 5 ∧ True := hinv
  obtain ⟨k0, _⟩ := hinv
  show AWP _ _ _ _ _ _ _ ⟨[(9, pEs es), (10, pPs s), (11, .ptr 0 0), (12, .ptr 1 0), (13, .ptr 2 0), (14, pI k), (15, pI i)], [(0, .var ((eV r).map .cell)), (1, .var ((eV v).map .cell)), (2, .var ((eV w).map .cell))], 3⟩
  refine AWP.seq ?_
  refine AWP.seq ?_
  refine AWP.region ?_
  refine OPS.p rfl (st_move rfl) ?_
  refine OPS.p rfl (st_leq rfl rfl) ?_
  refine OPS.p rfl (st_move rfl) ?_
  refine OPS.split (g := 64) rfl (fun eg12_2 g12_2 => ?_) (fun eg12_2 g12_2 => ?_)
  · refine OPS.pG rfl rfl rfl eg12_2 (st_move rfl) ?_
    refine OPS.pG rfl rfl rfl eg12_2 (st_geq rfl rfl) ?_
    refine OPS.p rfl (st_pickT rfl eg12_2 rfl) ?_
    refine OPS.nil ?_
    refine AWP.condD rfl (fun hc12 => ?_) (fun hc12 => ?_)
    · obtain ⟨j, hj1, rfl, hj2⟩ : ∃ j : Nat, j < es.length ∧ k = j ∧ freeP r v w (es.getD j default) = true := by
        rcases hfc with h | ⟨i, h1, h2, h3⟩
        · omega
        · exact ⟨i, h1, h2, h3⟩
      have hi4 : i ≤ 4 := by omega
      have hqt := quarter hi4
      have hsq : QB 4 4 (Rat.divInt i 4) := qb_of (q := 4) (by omega) (by omega) (by omega)
      have hof := k_qOf (i : Int) 4 (by unfold Sml; omega) (by unfold Sml; omega)
      have hap := fun e => gap_along e r v w (Rat.divInt i 4)
      have hst := stays_law (s := Rat.divInt i 4) (show staysQ (trimQ [gapQ (es.getD j default) r, rateQ (es.getD j default).1 v, rateQ (es.getD j default).1 w * Rat.divInt 1 2]) = true from hj2) hqt.1 hqt.2
      rw [← hap] at hst
      generalize Rat.divInt i 4 = t at *
      have hhq : QB 1 2 (Rat.divInt 1 2) := qb_of (q := 2) (by decide) (by omega) (by omega)
      have t1 : PureC Tryz.prog 66 [pQ t, pV v] (pV (timesV t v)) := k_Times t v (b_rqMul _ _ _ _ hsq q2.1 rfl rfl rfl rfl rfl rfl) (b_rqMul _ _ _ _ hsq q2.2 rfl rfl rfl rfl rfl rfl)
      have t1q : QV (4 * 24) (4 * 3) (timesV t v) := ⟨qb_mul hsq q2.1, qb_mul hsq q2.2⟩
      have hs2 := qb_mul (qb_mul hsq hsq) hhq
      have t2 : PureC Tryz.prog 66 [pQ (t * t * Rat.divInt 1 2), pV w] (pV (timesV (t * t * Rat.divInt 1 2) w)) := k_Times _ w (b_rqMul _ _ _ _ hs2 q3.1 rfl rfl rfl rfl rfl rfl) (b_rqMul _ _ _ _ hs2 q3.2 rfl rfl rfl rfl rfl rfl)
      have t2q : QV (4 * 4 * 1 * 24) (4 * 4 * 2 * 3) (timesV (t * t * Rat.divInt 1 2) w) := ⟨qb_mul hs2 q3.1, qb_mul hs2 q3.2⟩
      have t3 := k_Plus (timesV t v) (timesV (t * t * Rat.divInt 1 2) w) (b_rqAdd _ _ _ _ t1q.1 t2q.1 rfl rfl rfl rfl rfl rfl rfl rfl) (b_rqAdd _ _ _ _ t1q.2 t2q.2 rfl rfl rfl rfl rfl rfl rfl rfl)
      have t3q : QV (4 * 24 * (4 * 4 * 2 * 3) + 4 * 4 * 1 * 24 * (4 * 3)) (4 * 3 * (4 * 4 * 2 * 3)) (plusV (timesV t v) (timesV (t * t * Rat.divInt 1 2) w)) := ⟨qb_add t1q.1 t2q.1, qb_add t1q.2 t2q.2⟩
      have t4 := k_Plus r _ (b_rqAdd _ _ _ _ q1.1 t3q.1 rfl rfl rfl rfl rfl rfl rfl rfl) (b_rqAdd _ _ _ _ q1.2 t3q.2 rfl rfl rfl rfl rfl rfl rfl rfl)
      have t4q : QV 100000 4000 (plusV r (plusV (timesV t v) (timesV (t * t * Rat.divInt 1 2) w))) := ⟨qb_mono (qb_add q1.1 t3q.1) (by omega) (by omega), qb_mono (qb_add q1.2 t3q.2) (by omega) (by omega)⟩
      have hmem := getD_mem (l := es) hj1
      have hm2 : PureC Tryz.prog 68 [pEs es, pV (plusV r (plusV (timesV t v) (timesV (t * t * Rat.divInt 1 2) w)))] (pB false) := by
        have := k_Meet es _ (by omega) hSE t4q
        rwa [show (!es.any (gapP (plusV r (plusV (timesV t v) (timesV (t * t * Rat.divInt 1 2) w))))) = false by
          rw [List.any_eq_true.2 ⟨_, hmem, decide_eq_true (sign_ge.2 hst)⟩]; rfl] at this
      refine AWP.skip ?_
      refine AWP.seq ?_
      refine AWP.block ?_
      refine AWP.seq ?_
      refine AWP.region ?_
      refine OPS.p rfl (st_move rfl) ?_
      refine OPS.p rfl (st_call (L := [((.tmp 70), _), ((.const (.int .i64 4)), _)]) false pl57 ⟨rfl, rfl, trivial⟩ rfl (hof) rfl) ?_
      refine OPS.a rfl (st_alloc ze31) ?_
      refine OPS.s (by exact st_store_v sz31 rfl rfl rfl rfl rfl rfl) ?_
      refine OPS.nil ?_
      refine AWP.seq ?_
      refine AWP.drw mixed ?_
      refine DRW.p rfl (by exact st_load_va ag72 rfl rfl rfl rfl) ?_
      refine DRW.p rfl (by exact st_load_va ag31 rfl rfl rfl rfl) ?_
      refine DRW.p rfl (by exact st_load_va ag72 rfl rfl rfl rfl) ?_
      refine DRW.p rfl (st_call (L := [((.tmp 73), _), ((.tmp 74), _)]) false pl66 ⟨rfl, rfl, trivial⟩ rfl (t1) rfl) ?_
      refine DRW.p rfl (by exact st_load_va ag31 rfl rfl rfl rfl) ?_
      refine DRW.p rfl (by exact st_load_va ag31 rfl rfl rfl rfl) ?_
      refine DRW.p rfl (st_call (L := [((.tmp 76), _), ((.tmp 77), _)]) false pl67 ⟨rfl, rfl, trivial⟩ rfl (b_qMul _ _ _ _ hsq hsq rfl rfl rfl rfl) rfl) ?_
      refine DRW.p rfl (st_call (L := [((.const (.int .i64 1)), _), ((.const (.int .i64 2)), _)]) false pl57 ⟨rfl, rfl, trivial⟩ rfl (k_qOf 1 2 (by unfold Sml; omega) (by unfold Sml; omega)) rfl) ?_
      refine DRW.p rfl (st_call (L := [((.tmp 78), _), ((.tmp 79), _)]) false pl67 ⟨rfl, rfl, trivial⟩ rfl (b_qMul _ _ _ _ (qb_mul hsq hsq) hhq rfl rfl rfl rfl) rfl) ?_
      refine DRW.p rfl (by exact st_load_va ag72 rfl rfl rfl rfl) ?_
      refine DRW.p rfl (st_call (L := [((.tmp 80), _), ((.tmp 81), _)]) false pl66 ⟨rfl, rfl, trivial⟩ rfl (t2) rfl) ?_
      refine DRW.p rfl (st_call (L := [((.tmp 75), _), ((.tmp 82), _)]) false pl65 ⟨rfl, rfl, trivial⟩ rfl (t3) rfl) ?_
      refine DRW.p rfl (st_call (L := [((.tmp 72), _), ((.tmp 83), _)]) false pl65 ⟨rfl, rfl, trivial⟩ rfl (t4) rfl) ?_
      refine DRW.a rfl (st_alloc ze72) ?_
      refine DRW.s (by exact st_store_v sz72 rfl rfl rfl rfl rfl rfl) ?_
      refine DRW.nil (by kernel_rfl) ?_
      refine AWP.seq ?_
      refine AWP.drw mixed ?_
      refine DRW.p rfl (st_move rfl) ?_
      refine DRW.p rfl (by exact st_load_va ag72 rfl rfl rfl rfl) ?_
      refine DRW.p rfl (st_call (L := [((.tmp 85), _), ((.tmp 86), _)]) false pl68 ⟨rfl, rfl, trivial⟩ rfl (hm2) rfl) ?_
      refine DRW.p rfl (st_move rfl) ?_
      refine DRW.pG rfl rfl rfl (rfl) (st_move rfl) ?_
      refine DRW.pG rfl rfl rfl (rfl) (st_move rfl) ?_
      refine DRW.pG rfl rfl rfl (rfl) (by exact st_index_R es68 rfl rfl (fun _ => rfl) rfl (by omega) (by omega) (by rfl)) ?_
      refine DRW.pG rfl rfl rfl (rfl) (by exact st_load_Rn ag83 rfl (fun _ => rfl) rfl (by omega)) ?_
      refine DRW.pG rfl rfl rfl (rfl) (by exact st_load_va ag72 rfl rfl rfl rfl) ?_
      refine DRW.pG rfl rfl rfl (rfl) (st_call (L := [((.tmp 92), _), ((.tmp 93), _)]) false pl70 ⟨rfl, rfl, trivial⟩ rfl (k_Gap _ _ (hSE _ hmem) t4q) rfl) ?_
      refine DRW.pG rfl rfl rfl (rfl) (st_call (L := [((.tmp 94), _)]) false pl69 ⟨rfl, trivial⟩ rfl (k_qSign _) rfl) ?_
      refine DRW.pG rfl rfl rfl (rfl) (st_lss rfl rfl) ?_
      refine DRW.p rfl (st_pickF rfl (rfl) rfl) ?_
      refine DRW.nil (by kernel_rfl) ?_
      refine AWP.cond_f rfl ((decide_eq_false (by have := sign_ge.2 hst; omega))) ?_
      refine AWP.skip ?_
      refine AWP.region ?_
      refine OPS.p rfl (st_move rfl) ?_
      refine OPS.p rfl (by exact st_add_i rfl rfl (by omega) (by omega)) ?_
      refine OPS.p rfl (st_assign rfl) ?_
      refine OPS.nil ?_
      refine ⟨(i + 1), (Ren.r (Ren.mk' (ρ := [(0, 0), (1, 1), (2, 2)]) rfl ⟨(by rfl), (by rfl), (by rfl), (by rfl), (by rfl), (by rfl), (by rfl), trivial⟩ ⟨(by rfl), (by rfl), (by rfl), trivial⟩)), ?_, ?_⟩
      · try dsimp only
        exact ⟨by omega, trivial⟩
      · try dsimp only
        omega
    · refine AWP.exit ?_
      refine AWP.seq ?_
      refine AWP.seq ?_
      refine AWP.drw mixed ?_
      refine DRW.p rfl (st_move rfl) ?_
      refine DRW.p rfl (by exact st_load_va ag72 rfl rfl rfl rfl) ?_
      refine DRW.p rfl (st_call (L := [((.tmp 98), _), ((.tmp 99), _)]) false pl68 ⟨rfl, rfl, trivial⟩ rfl (hmeet) rfl) ?_
      refine DRW.p rfl (st_move rfl) ?_
      refine DRW.p rfl (by exact st_load_va ag72 rfl rfl rfl rfl) ?_
      refine DRW.p rfl (by exact st_load_va ag72 rfl rfl rfl rfl) ?_
      refine DRW.p rfl (by exact st_load_va ag72 rfl rfl rfl rfl) ?_
      refine DRW.p rfl (st_call (L := [((.tmp 103), _), ((.tmp 104), _)]) false pl65 ⟨rfl, rfl, trivial⟩ rfl (hplus) rfl) ?_
      refine DRW.p rfl (st_call (L := [((.tmp 101), _), ((.tmp 102), _), ((.tmp 105), _)]) false pl71 ⟨rfl, rfl, rfl, trivial⟩ rfl (hbest) rfl) ?_
      refine DRW.p rfl (st_eql rfl rfl) ?_
      refine DRW.p rfl (st_neq_b rfl rfl un4) ?_
      refine DRW.p rfl (st_move rfl) ?_
      refine DRW.pG rfl rfl rfl (hnone) (st_move rfl) ?_
      refine DRW.pG rfl rfl rfl (hnone) (by exact st_load_va ag72 rfl rfl rfl rfl) ?_
      refine DRW.pG rfl rfl rfl (hnone) (st_call (L := [((.tmp 110), _), ((.tmp 111), _)]) false pl68 ⟨rfl, rfl, trivial⟩ rfl (hmeet) rfl) ?_
      refine DRW.pG rfl rfl rfl (hnone) (st_move rfl) ?_
      refine DRW.splitB (g := 113) rfl (fun eg18_15 g18_15 => ?_) (fun eg18_15 g18_15 => ?_)
      · have hh := hin2 g18_15
        refine DRW.pG rfl rfl rfl eg18_15 (st_move rfl) ?_
        refine DRW.pG rfl rfl rfl eg18_15 (by exact st_load_va ag72 rfl rfl rfl rfl) ?_
        refine DRW.pG rfl rfl rfl eg18_15 (st_call (L := [((.tmp 114), _), ((.tmp 115), _)]) false pl72 ⟨rfl, rfl, trivial⟩ rfl (hhas) rfl) ?_
        refine DRW.pG rfl rfl rfl eg18_15 (by exact st_not rfl) ?_
        refine DRW.pG rfl rfl rfl (hnone) (st_pickT rfl eg18_15 rfl) ?_
        refine DRW.p rfl (st_pickF rfl (hnone) rfl) ?_
        refine DRW.nil (by kernel_rfl) ?_
        refine AWP.cond_f rfl ((by (rw [hh]; rfl))) ?_
        refine AWP.skip ?_
        refine AWP.seq ?_
        refine AWP.drw mixed ?_
        refine DRW.p rfl (st_move rfl) ?_
        refine DRW.p rfl (by exact st_load_va ag72 rfl rfl rfl rfl) ?_
        refine DRW.p rfl (by exact st_load_va ag72 rfl rfl rfl rfl) ?_
        refine DRW.p rfl (by exact st_load_va ag72 rfl rfl rfl rfl) ?_
        refine DRW.p rfl (st_call (L := [((.tmp 122), _), ((.tmp 123), _)]) false pl65 ⟨rfl, rfl, trivial⟩ rfl (hplus) rfl) ?_
        refine DRW.p rfl (st_call (L := [((.tmp 120), _), ((.tmp 121), _), ((.tmp 124), _)]) false pl71 ⟨rfl, rfl, rfl, trivial⟩ rfl (hbest) rfl) ?_
        refine DRW.p rfl (st_assign rfl) ?_
        refine DRW.nil (by kernel_rfl) ?_
        refine AWP.seq ?_
        refine AWP.drw mixed ?_
        refine DRW.p rfl (st_move rfl) ?_
        refine DRW.p rfl (st_lss rfl rfl) ?_
        refine DRW.p rfl (st_move rfl) ?_
        refine DRW.split (g := 128) rfl (fun eg21_2 g21_2 => ?_) (fun eg21_2 g21_2 => ?_)
        · refine DRW.nO rfl rfl rfl eg21_2 ?_
          refine DRW.nO rfl rfl rfl eg21_2 ?_
          refine DRW.nO rfl rfl rfl eg21_2 ?_
          refine DRW.nO rfl rfl rfl eg21_2 ?_
          refine DRW.nO rfl rfl rfl eg21_2 ?_
          refine DRW.nT rfl rfl rfl ?_
          refine DRW.nT rfl rfl rfl ?_
          refine DRW.nT rfl rfl rfl ?_
          refine DRW.nT rfl rfl rfl ?_
          refine DRW.nT rfl rfl rfl ?_
          refine DRW.nT rfl rfl rfl ?_
          refine DRW.nT rfl rfl rfl ?_
          refine DRW.nT rfl rfl rfl ?_
          refine DRW.nO rfl rfl rfl eg21_2 ?_
          refine DRW.p rfl (st_pickT rfl eg21_2 rfl) ?_
          refine DRW.p rfl (st_move rfl) ?_
          refine DRW.pG rfl rfl rfl (rfl) (st_call (L := []) false pl58 trivial rfl (k_lives13) rfl) ?_
          refine DRW.p rfl (st_pickT rfl (rfl) rfl) ?_
          refine DRW.p rfl (st_assign rfl) ?_
          refine DRW.nil (by kernel_rfl) ?_
          refine AWP.ret ?_
          exact Ret.mk rfl rfl
        · obtain ⟨z, rfl⟩ : ∃ z : Nat, B = (z : Int) := ⟨B.toNat, by omega⟩
          have hz : z < es.length := by omega
          have hze := getD_mem (l := es) hz
          have hgz := hgr (by omega)
          rw [Int.toNat_natCast] at hgz
          refine DRW.pG rfl rfl rfl eg21_2 (st_move rfl) ?_
          refine DRW.pG rfl rfl rfl eg21_2 (st_move rfl) ?_
          refine DRW.pG rfl rfl rfl eg21_2 (st_len un68 rfl rfl) ?_
          refine DRW.pG rfl rfl rfl eg21_2 (st_lss rfl rfl) ?_
          refine DRW.pG rfl rfl rfl eg21_2 (st_move rfl) ?_
          refine DRW.pG rfl rfl rfl ((decide_eq_true (by omega))) (st_move rfl) ?_
          refine DRW.pG rfl rfl rfl ((decide_eq_true (by omega))) (st_move rfl) ?_
          refine DRW.pG rfl rfl rfl ((decide_eq_true (by omega))) (by exact st_index_R es68 rfl rfl (fun _ => rfl) rfl (by omega) (by omega) (by rfl)) ?_
          refine DRW.pG rfl rfl rfl ((decide_eq_true (by omega))) (by exact st_load_Rn ag83 rfl (fun _ => rfl) rfl (by omega)) ?_
          refine DRW.pG rfl rfl rfl ((decide_eq_true (by omega))) (by exact st_load_va ag72 rfl rfl rfl rfl) ?_
          refine DRW.pG rfl rfl rfl ((decide_eq_true (by omega))) (st_call (L := [((.tmp 137), _), ((.tmp 138), _)]) false pl70 ⟨rfl, rfl, trivial⟩ rfl (k_Gap _ _ (hSE _ hze) Q1) rfl) ?_
          refine DRW.pG rfl rfl rfl ((decide_eq_true (by omega))) (st_call (L := [((.tmp 139), _)]) false pl69 ⟨rfl, trivial⟩ rfl (k_qSign _) rfl) ?_
          refine DRW.pG rfl rfl rfl ((decide_eq_true (by omega))) (st_geq rfl rfl) ?_
          refine DRW.pG rfl rfl rfl eg21_2 (st_pickT rfl ((decide_eq_true (by omega))) rfl) ?_
          refine DRW.p rfl (st_pickF rfl eg21_2 rfl) ?_
          refine DRW.p rfl (st_move rfl) ?_
          refine DRW.pG rfl rfl rfl (hgz) (st_call (L := []) false pl58 trivial rfl (k_lives13) rfl) ?_
          refine DRW.p rfl (st_pickT rfl (hgz) rfl) ?_
          refine DRW.p rfl (st_assign rfl) ?_
          refine DRW.nil (by kernel_rfl) ?_
          refine AWP.ret ?_
          exact Ret.mk rfl rfl
      · refine DRW.nO rfl rfl rfl eg18_15 ?_
        refine DRW.nO rfl rfl rfl eg18_15 ?_
        refine DRW.nO rfl rfl rfl eg18_15 ?_
        refine DRW.nO rfl rfl rfl eg18_15 ?_
        refine DRW.pG rfl rfl rfl (hnone) (st_pickF rfl eg18_15 rfl) ?_
        refine DRW.p rfl (st_pickF rfl (hnone) rfl) ?_
        refine DRW.nil (by kernel_rfl) ?_
        refine AWP.cond_f rfl ((by rfl)) ?_
        refine AWP.skip ?_
        refine AWP.seq ?_
        refine AWP.drw mixed ?_
        refine DRW.p rfl (st_move rfl) ?_
        refine DRW.p rfl (by exact st_load_va ag72 rfl rfl rfl rfl) ?_
        refine DRW.p rfl (by exact st_load_va ag72 rfl rfl rfl rfl) ?_
        refine DRW.p rfl (by exact st_load_va ag72 rfl rfl rfl rfl) ?_
        refine DRW.p rfl (st_call (L := [((.tmp 122), _), ((.tmp 123), _)]) false pl65 ⟨rfl, rfl, trivial⟩ rfl (hplus) rfl) ?_
        refine DRW.p rfl (st_call (L := [((.tmp 120), _), ((.tmp 121), _), ((.tmp 124), _)]) false pl71 ⟨rfl, rfl, rfl, trivial⟩ rfl (hbest) rfl) ?_
        refine DRW.p rfl (st_assign rfl) ?_
        refine DRW.nil (by kernel_rfl) ?_
        refine AWP.seq ?_
        refine AWP.drw mixed ?_
        refine DRW.p rfl (st_move rfl) ?_
        refine DRW.p rfl (st_lss rfl rfl) ?_
        refine DRW.p rfl (st_move rfl) ?_
        refine DRW.split (g := 128) rfl (fun eg21_2 g21_2 => ?_) (fun eg21_2 g21_2 => ?_)
        · refine DRW.nO rfl rfl rfl eg21_2 ?_
          refine DRW.nO rfl rfl rfl eg21_2 ?_
          refine DRW.nO rfl rfl rfl eg21_2 ?_
          refine DRW.nO rfl rfl rfl eg21_2 ?_
          refine DRW.nO rfl rfl rfl eg21_2 ?_
          refine DRW.nT rfl rfl rfl ?_
          refine DRW.nT rfl rfl rfl ?_
          refine DRW.nT rfl rfl rfl ?_
          refine DRW.nT rfl rfl rfl ?_
          refine DRW.nT rfl rfl rfl ?_
          refine DRW.nT rfl rfl rfl ?_
          refine DRW.nT rfl rfl rfl ?_
          refine DRW.nT rfl rfl rfl ?_
          refine DRW.nO rfl rfl rfl eg21_2 ?_
          refine DRW.p rfl (st_pickT rfl eg21_2 rfl) ?_
          refine DRW.p rfl (st_move rfl) ?_
          refine DRW.pG rfl rfl rfl (rfl) (st_call (L := []) false pl58 trivial rfl (k_lives13) rfl) ?_
          refine DRW.p rfl (st_pickT rfl (rfl) rfl) ?_
          refine DRW.p rfl (st_assign rfl) ?_
          refine DRW.nil (by kernel_rfl) ?_
          refine AWP.ret ?_
          exact Ret.mk rfl rfl
        · obtain ⟨z, rfl⟩ : ∃ z : Nat, B = (z : Int) := ⟨B.toNat, by omega⟩
          have hz : z < es.length := by omega
          have hze := getD_mem (l := es) hz
          have hgz := hgr (by omega)
          rw [Int.toNat_natCast] at hgz
          refine DRW.pG rfl rfl rfl eg21_2 (st_move rfl) ?_
          refine DRW.pG rfl rfl rfl eg21_2 (st_move rfl) ?_
          refine DRW.pG rfl rfl rfl eg21_2 (st_len un68 rfl rfl) ?_
          refine DRW.pG rfl rfl rfl eg21_2 (st_lss rfl rfl) ?_
          refine DRW.pG rfl rfl rfl eg21_2 (st_move rfl) ?_
          refine DRW.pG rfl rfl rfl ((decide_eq_true (by omega))) (st_move rfl) ?_
          refine DRW.pG rfl rfl rfl ((decide_eq_true (by omega))) (st_move rfl) ?_
          refine DRW.pG rfl rfl rfl ((decide_eq_true (by omega))) (by exact st_index_R es68 rfl rfl (fun _ => rfl) rfl (by omega) (by omega) (by rfl)) ?_
          refine DRW.pG rfl rfl rfl ((decide_eq_true (by omega))) (by exact st_load_Rn ag83 rfl (fun _ => rfl) rfl (by omega)) ?_
          refine DRW.pG rfl rfl rfl ((decide_eq_true (by omega))) (by exact st_load_va ag72 rfl rfl rfl rfl) ?_
          refine DRW.pG rfl rfl rfl ((decide_eq_true (by omega))) (st_call (L := [((.tmp 137), _), ((.tmp 138), _)]) false pl70 ⟨rfl, rfl, trivial⟩ rfl (k_Gap _ _ (hSE _ hze) Q1) rfl) ?_
          refine DRW.pG rfl rfl rfl ((decide_eq_true (by omega))) (st_call (L := [((.tmp 139), _)]) false pl69 ⟨rfl, trivial⟩ rfl (k_qSign _) rfl) ?_
          refine DRW.pG rfl rfl rfl ((decide_eq_true (by omega))) (st_geq rfl rfl) ?_
          refine DRW.pG rfl rfl rfl eg21_2 (st_pickT rfl ((decide_eq_true (by omega))) rfl) ?_
          refine DRW.p rfl (st_pickF rfl eg21_2 rfl) ?_
          refine DRW.p rfl (st_move rfl) ?_
          refine DRW.pG rfl rfl rfl (hgz) (st_call (L := []) false pl58 trivial rfl (k_lives13) rfl) ?_
          refine DRW.p rfl (st_pickT rfl (hgz) rfl) ?_
          refine DRW.p rfl (st_assign rfl) ?_
          refine DRW.nil (by kernel_rfl) ?_
          refine AWP.ret ?_
          exact Ret.mk rfl rfl
  · refine OPS.nO rfl rfl rfl eg12_2 ?_
    refine OPS.nO rfl rfl rfl eg12_2 ?_
    refine OPS.p rfl (st_pickF rfl eg12_2 rfl) ?_
    refine OPS.nil ?_
    refine AWP.cond_f rfl (rfl) ?_
    refine AWP.exit ?_
    refine AWP.seq ?_
    refine AWP.seq ?_
    refine AWP.drw mixed ?_
    refine DRW.p rfl (st_move rfl) ?_
    refine DRW.p rfl (by exact st_load_va ag72 rfl rfl rfl rfl) ?_
    refine DRW.p rfl (st_call (L := [((.tmp 98), _), ((.tmp 99), _)]) false pl68 ⟨rfl, rfl, trivial⟩ rfl (hmeet) rfl) ?_
    refine DRW.p rfl (st_move rfl) ?_
    refine DRW.p rfl (by exact st_load_va ag72 rfl rfl rfl rfl) ?_
    refine DRW.p rfl (by exact st_load_va ag72 rfl rfl rfl rfl) ?_
    refine DRW.p rfl (by exact st_load_va ag72 rfl rfl rfl rfl) ?_
    refine DRW.p rfl (st_call (L := [((.tmp 103), _), ((.tmp 104), _)]) false pl65 ⟨rfl, rfl, trivial⟩ rfl (hplus) rfl) ?_
    refine DRW.p rfl (st_call (L := [((.tmp 101), _), ((.tmp 102), _), ((.tmp 105), _)]) false pl71 ⟨rfl, rfl, rfl, trivial⟩ rfl (hbest) rfl) ?_
    refine DRW.p rfl (st_eql rfl rfl) ?_
    refine DRW.p rfl (st_neq_b rfl rfl un4) ?_
    refine DRW.p rfl (st_move rfl) ?_
    refine DRW.pG rfl rfl rfl (hnone) (st_move rfl) ?_
    refine DRW.pG rfl rfl rfl (hnone) (by exact st_load_va ag72 rfl rfl rfl rfl) ?_
    refine DRW.pG rfl rfl rfl (hnone) (st_call (L := [((.tmp 110), _), ((.tmp 111), _)]) false pl68 ⟨rfl, rfl, trivial⟩ rfl (hmeet) rfl) ?_
    refine DRW.pG rfl rfl rfl (hnone) (st_move rfl) ?_
    refine DRW.splitB (g := 113) rfl (fun eg18_15 g18_15 => ?_) (fun eg18_15 g18_15 => ?_)
    · have hh := hin2 g18_15
      refine DRW.pG rfl rfl rfl eg18_15 (st_move rfl) ?_
      refine DRW.pG rfl rfl rfl eg18_15 (by exact st_load_va ag72 rfl rfl rfl rfl) ?_
      refine DRW.pG rfl rfl rfl eg18_15 (st_call (L := [((.tmp 114), _), ((.tmp 115), _)]) false pl72 ⟨rfl, rfl, trivial⟩ rfl (hhas) rfl) ?_
      refine DRW.pG rfl rfl rfl eg18_15 (by exact st_not rfl) ?_
      refine DRW.pG rfl rfl rfl (hnone) (st_pickT rfl eg18_15 rfl) ?_
      refine DRW.p rfl (st_pickF rfl (hnone) rfl) ?_
      refine DRW.nil (by kernel_rfl) ?_
      refine AWP.cond_f rfl ((by (rw [hh]; rfl))) ?_
      refine AWP.skip ?_
      refine AWP.seq ?_
      refine AWP.drw mixed ?_
      refine DRW.p rfl (st_move rfl) ?_
      refine DRW.p rfl (by exact st_load_va ag72 rfl rfl rfl rfl) ?_
      refine DRW.p rfl (by exact st_load_va ag72 rfl rfl rfl rfl) ?_
      refine DRW.p rfl (by exact st_load_va ag72 rfl rfl rfl rfl) ?_
      refine DRW.p rfl (st_call (L := [((.tmp 122), _), ((.tmp 123), _)]) false pl65 ⟨rfl, rfl, trivial⟩ rfl (hplus) rfl) ?_
      refine DRW.p rfl (st_call (L := [((.tmp 120), _), ((.tmp 121), _), ((.tmp 124), _)]) false pl71 ⟨rfl, rfl, rfl, trivial⟩ rfl (hbest) rfl) ?_
      refine DRW.p rfl (st_assign rfl) ?_
      refine DRW.nil (by kernel_rfl) ?_
      refine AWP.seq ?_
      refine AWP.drw mixed ?_
      refine DRW.p rfl (st_move rfl) ?_
      refine DRW.p rfl (st_lss rfl rfl) ?_
      refine DRW.p rfl (st_move rfl) ?_
      refine DRW.split (g := 128) rfl (fun eg21_2 g21_2 => ?_) (fun eg21_2 g21_2 => ?_)
      · refine DRW.nO rfl rfl rfl eg21_2 ?_
        refine DRW.nO rfl rfl rfl eg21_2 ?_
        refine DRW.nO rfl rfl rfl eg21_2 ?_
        refine DRW.nO rfl rfl rfl eg21_2 ?_
        refine DRW.nO rfl rfl rfl eg21_2 ?_
        refine DRW.nT rfl rfl rfl ?_
        refine DRW.nT rfl rfl rfl ?_
        refine DRW.nT rfl rfl rfl ?_
        refine DRW.nT rfl rfl rfl ?_
        refine DRW.nT rfl rfl rfl ?_
        refine DRW.nT rfl rfl rfl ?_
        refine DRW.nT rfl rfl rfl ?_
        refine DRW.nT rfl rfl rfl ?_
        refine DRW.nO rfl rfl rfl eg21_2 ?_
        refine DRW.p rfl (st_pickT rfl eg21_2 rfl) ?_
        refine DRW.p rfl (st_move rfl) ?_
        refine DRW.pG rfl rfl rfl (rfl) (st_call (L := []) false pl58 trivial rfl (k_lives13) rfl) ?_
        refine DRW.p rfl (st_pickT rfl (rfl) rfl) ?_
        refine DRW.p rfl (st_assign rfl) ?_
        refine DRW.nil (by kernel_rfl) ?_
        refine AWP.ret ?_
        exact Ret.mk rfl rfl
      · obtain ⟨z, rfl⟩ : ∃ z : Nat, B = (z : Int) := ⟨B.toNat, by omega⟩
        have hz : z < es.length := by omega
        have hze := getD_mem (l := es) hz
        have hgz := hgr (by omega)
        rw [Int.toNat_natCast] at hgz
        refine DRW.pG rfl rfl rfl eg21_2 (st_move rfl) ?_
        refine DRW.pG rfl rfl rfl eg21_2 (st_move rfl) ?_
        refine DRW.pG rfl rfl rfl eg21_2 (st_len un68 rfl rfl) ?_
        refine DRW.pG rfl rfl rfl eg21_2 (st_lss rfl rfl) ?_
        refine DRW.pG rfl rfl rfl eg21_2 (st_move rfl) ?_
        refine DRW.pG rfl rfl rfl ((decide_eq_true (by omega))) (st_move rfl) ?_
        refine DRW.pG rfl rfl rfl ((decide_eq_true (by omega))) (st_move rfl) ?_
        refine DRW.pG rfl rfl rfl ((decide_eq_true (by omega))) (by exact st_index_R es68 rfl rfl (fun _ => rfl) rfl (by omega) (by omega) (by rfl)) ?_
        refine DRW.pG rfl rfl rfl ((decide_eq_true (by omega))) (by exact st_load_Rn ag83 rfl (fun _ => rfl) rfl (by omega)) ?_
        refine DRW.pG rfl rfl rfl ((decide_eq_true (by omega))) (by exact st_load_va ag72 rfl rfl rfl rfl) ?_
        refine DRW.pG rfl rfl rfl ((decide_eq_true (by omega))) (st_call (L := [((.tmp 137), _), ((.tmp 138), _)]) false pl70 ⟨rfl, rfl, trivial⟩ rfl (k_Gap _ _ (hSE _ hze) Q1) rfl) ?_
        refine DRW.pG rfl rfl rfl ((decide_eq_true (by omega))) (st_call (L := [((.tmp 139), _)]) false pl69 ⟨rfl, trivial⟩ rfl (k_qSign _) rfl) ?_
        refine DRW.pG rfl rfl rfl ((decide_eq_true (by omega))) (st_geq rfl rfl) ?_
        refine DRW.pG rfl rfl rfl eg21_2 (st_pickT rfl ((decide_eq_true (by omega))) rfl) ?_
        refine DRW.p rfl (st_pickF rfl eg21_2 rfl) ?_
        refine DRW.p rfl (st_move rfl) ?_
        refine DRW.pG rfl rfl rfl (hgz) (st_call (L := []) false pl58 trivial rfl (k_lives13) rfl) ?_
        refine DRW.p rfl (st_pickT rfl (hgz) rfl) ?_
        refine DRW.p rfl (st_assign rfl) ?_
        refine DRW.nil (by kernel_rfl) ?_
        refine AWP.ret ?_
        exact Ret.mk rfl rfl
    · refine DRW.nO rfl rfl rfl eg18_15 ?_
      refine DRW.nO rfl rfl rfl eg18_15 ?_
      refine DRW.nO rfl rfl rfl eg18_15 ?_
      refine DRW.nO rfl rfl rfl eg18_15 ?_
      refine DRW.pG rfl rfl rfl (hnone) (st_pickF rfl eg18_15 rfl) ?_
      refine DRW.p rfl (st_pickF rfl (hnone) rfl) ?_
      refine DRW.nil (by kernel_rfl) ?_
      refine AWP.cond_f rfl ((by rfl)) ?_
      refine AWP.skip ?_
      refine AWP.seq ?_
      refine AWP.drw mixed ?_
      refine DRW.p rfl (st_move rfl) ?_
      refine DRW.p rfl (by exact st_load_va ag72 rfl rfl rfl rfl) ?_
      refine DRW.p rfl (by exact st_load_va ag72 rfl rfl rfl rfl) ?_
      refine DRW.p rfl (by exact st_load_va ag72 rfl rfl rfl rfl) ?_
      refine DRW.p rfl (st_call (L := [((.tmp 122), _), ((.tmp 123), _)]) false pl65 ⟨rfl, rfl, trivial⟩ rfl (hplus) rfl) ?_
      refine DRW.p rfl (st_call (L := [((.tmp 120), _), ((.tmp 121), _), ((.tmp 124), _)]) false pl71 ⟨rfl, rfl, rfl, trivial⟩ rfl (hbest) rfl) ?_
      refine DRW.p rfl (st_assign rfl) ?_
      refine DRW.nil (by kernel_rfl) ?_
      refine AWP.seq ?_
      refine AWP.drw mixed ?_
      refine DRW.p rfl (st_move rfl) ?_
      refine DRW.p rfl (st_lss rfl rfl) ?_
      refine DRW.p rfl (st_move rfl) ?_
      refine DRW.split (g := 128) rfl (fun eg21_2 g21_2 => ?_) (fun eg21_2 g21_2 => ?_)
      · refine DRW.nO rfl rfl rfl eg21_2 ?_
        refine DRW.nO rfl rfl rfl eg21_2 ?_
        refine DRW.nO rfl rfl rfl eg21_2 ?_
        refine DRW.nO rfl rfl rfl eg21_2 ?_
        refine DRW.nO rfl rfl rfl eg21_2 ?_
        refine DRW.nT rfl rfl rfl ?_
        refine DRW.nT rfl rfl rfl ?_
        refine DRW.nT rfl rfl rfl ?_
        refine DRW.nT rfl rfl rfl ?_
        refine DRW.nT rfl rfl rfl ?_
        refine DRW.nT rfl rfl rfl ?_
        refine DRW.nT rfl rfl rfl ?_
        refine DRW.nT rfl rfl rfl ?_
        refine DRW.nO rfl rfl rfl eg21_2 ?_
        refine DRW.p rfl (st_pickT rfl eg21_2 rfl) ?_
        refine DRW.p rfl (st_move rfl) ?_
        refine DRW.pG rfl rfl rfl (rfl) (st_call (L := []) false pl58 trivial rfl (k_lives13) rfl) ?_
        refine DRW.p rfl (st_pickT rfl (rfl) rfl) ?_
        refine DRW.p rfl (st_assign rfl) ?_
        refine DRW.nil (by kernel_rfl) ?_
        refine AWP.ret ?_
        exact Ret.mk rfl rfl
      · obtain ⟨z, rfl⟩ : ∃ z : Nat, B = (z : Int) := ⟨B.toNat, by omega⟩
        have hz : z < es.length := by omega
        have hze := getD_mem (l := es) hz
        have hgz := hgr (by omega)
        rw [Int.toNat_natCast] at hgz
        refine DRW.pG rfl rfl rfl eg21_2 (st_move rfl) ?_
        refine DRW.pG rfl rfl rfl eg21_2 (st_move rfl) ?_
        refine DRW.pG rfl rfl rfl eg21_2 (st_len un68 rfl rfl) ?_
        refine DRW.pG rfl rfl rfl eg21_2 (st_lss rfl rfl) ?_
        refine DRW.pG rfl rfl rfl eg21_2 (st_move rfl) ?_
        refine DRW.pG rfl rfl rfl ((decide_eq_true (by omega))) (st_move rfl) ?_
        refine DRW.pG rfl rfl rfl ((decide_eq_true (by omega))) (st_move rfl) ?_
        refine DRW.pG rfl rfl rfl ((decide_eq_true (by omega))) (by exact st_index_R es68 rfl rfl (fun _ => rfl) rfl (by omega) (by omega) (by rfl)) ?_
        refine DRW.pG rfl rfl rfl ((decide_eq_true (by omega))) (by exact st_load_Rn ag83 rfl (fun _ => rfl) rfl (by omega)) ?_
        refine DRW.pG rfl rfl rfl ((decide_eq_true (by omega))) (by exact st_load_va ag72 rfl rfl rfl rfl) ?_
        refine DRW.pG rfl rfl rfl ((decide_eq_true (by omega))) (st_call (L := [((.tmp 137), _), ((.tmp 138), _)]) false pl70 ⟨rfl, rfl, trivial⟩ rfl (k_Gap _ _ (hSE _ hze) Q1) rfl) ?_
        refine DRW.pG rfl rfl rfl ((decide_eq_true (by omega))) (st_call (L := [((.tmp 139), _)]) false pl69 ⟨rfl, trivial⟩ rfl (k_qSign _) rfl) ?_
        refine DRW.pG rfl rfl rfl ((decide_eq_true (by omega))) (st_geq rfl rfl) ?_
        refine DRW.pG rfl rfl rfl eg21_2 (st_pickT rfl ((decide_eq_true (by omega))) rfl) ?_
        refine DRW.p rfl (st_pickF rfl eg21_2 rfl) ?_
        refine DRW.p rfl (st_move rfl) ?_
        refine DRW.pG rfl rfl rfl (hgz) (st_call (L := []) false pl58 trivial rfl (k_lives13) rfl) ?_
        refine DRW.p rfl (st_pickT rfl (hgz) rfl) ?_
        refine DRW.p rfl (st_assign rfl) ?_
        refine DRW.nil (by kernel_rfl) ?_
        refine AWP.ret ?_
        exact Ret.mk rfl rfl
end Go.Proofs.Gh.Tryz
end
