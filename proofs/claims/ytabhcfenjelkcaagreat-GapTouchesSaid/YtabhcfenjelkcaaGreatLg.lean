/-
  Plain laws of touching.
  The law GapTouches: every call returns true.
-/
import Derived.Test.YtabhcfenjelkcaaGreatCtH
section
set_option linter.unusedVariables false
set_option linter.unusedSimpArgs false
set_option maxRecDepth 4000
namespace Go.Proofs.Gh.Tryz
open Go Go.Proofs Go.Proofs.Gh

theorem divInt4 (n : Int) : Rat.divInt n 4 = (n : Rat) / 4 := by rw [Rat.divInt_eq_div]; rfl
theorem betw_one {x y : Int} (t : Nat) : qi x + Rat.divInt t 4 * (qi y + qi (-1) * qi x) = Rat.divInt (4 * x + t * (y - x)) 4 := by
  rw [divInt4, divInt4, qi_eq, qi_eq, qi_eq, Rat.intCast_add, Rat.intCast_mul, Rat.intCast_mul, Rat.intCast_sub, Rat.div_def, Rat.div_def]
  have h : (4 : Rat) * (4 : Rat)⁻¹ = 1 := by decide +kernel
  have e : ((4 : Int) : Rat) = 4 := rfl
  have e1 : ((-1 : Int) : Rat) = -1 := rfl
  rw [e, e1]
  generalize (x : Rat) = X
  generalize (y : Rat) = Y
  generalize ((t : Int) : Rat) = T
  generalize (4 : Rat)⁻¹ = Q at *
  grind
theorem betw_qv {p q : Pt} {t : Nat} (hp : -10100 ≤ p.1 ∧ p.1 ≤ 10100 ∧ -10100 ≤ p.2 ∧ p.2 ≤ 10100) (hq : -10100 ≤ q.1 ∧ q.1 ≤ 10100 ∧ -10100 ≤ q.2 ∧ q.2 ≤ 10100) (ht : t < 4) : QV 40400 4 (betw p q t) := by
  have e1 : (betw p q t).1 = Rat.divInt (4 * p.1 + t * (q.1 - p.1)) 4 := betw_one t
  have e2 : (betw p q t).2 = Rat.divInt (4 * p.2 + t * (q.2 - p.2)) 4 := betw_one t
  unfold QV
  rw [e1, e2]
  rcases (by omega : t = 0 ∨ t = 1 ∨ t = 2 ∨ t = 3) with rfl | rfl | rfl | rfl
  all_goals exact ⟨qb_of (q := 4) (by omega) (by omega) (by omega), qb_of (q := 4) (by omega) (by omega) (by omega)⟩
theorem dotQ_pt (d : Dr) (p : Pt) : dotQ d (ptV p) = ((dot d p : Int) : Rat) := by
  unfold dotQ ptV dot
  rw [qi_eq, qi_eq, qi_eq, qi_eq, Rat.intCast_add, Rat.intCast_mul, Rat.intCast_mul]
theorem dotQ_betw (d : Dr) (p q : Pt) (t : Nat) : dotQ d (betw p q t) = ((dot d p : Int) : Rat) + Rat.divInt t 4 * (((dot d q : Int) : Rat) - ((dot d p : Int) : Rat)) := by
  rw [← dotQ_pt, ← dotQ_pt]
  have e1 : qi (-1) = -1 := by rw [qi_eq]; rfl
  unfold betw minusV plusV timesV dotQ
  simp only [e1]
  grind
theorem fit_dot {p q : Pt} {e : Ed} (hf : fit2 p q e = true) : dot e.1 p = e.2 ∧ dot e.1 q = e.2 := by
  unfold fit2 at hf
  simp only [Bool.and_eq_true, decide_eq_true_eq] at hf
  obtain ⟨⟨⟨hc, h1⟩, h2⟩, h3⟩ := hf
  refine ⟨h3, ?_⟩
  generalize hC : (q.2 - p.2) * e.1.1 - (q.1 - p.1) * e.1.2.1 = c at *
  have q1 := sq_nonneg e.1.1
  have q2 := sq_nonneg e.1.2.1
  have hn : 0 < e.1.1 * e.1.1 + e.1.2.1 * e.1.2.1 := by
    rcases Int.lt_or_eq_of_le (show 0 ≤ e.1.1 * e.1.1 + e.1.2.1 * e.1.2.1 by omega) with h | h
    · exact h
    · exfalso
      have e1 : e.1.1 = 0 := by
        have : e.1.1 * e.1.1 = 0 := by omega
        rcases Int.mul_eq_zero.1 this with h | h <;> exact h
      have e2 : e.1.2.1 = 0 := by
        have : e.1.2.1 * e.1.2.1 = 0 := by omega
        rcases Int.mul_eq_zero.1 this with h | h <;> exact h
      rw [e1, e2] at hC
      omega
  generalize e.1.1 * e.1.1 + e.1.2.1 * e.1.2.1 = n at *
  have l : n * (dot e.1 q - dot e.1 p) = 0 := by
    unfold dot
    have l1 : n * (e.1.1 * q.1 + e.1.2.1 * q.2 - (e.1.1 * p.1 + e.1.2.1 * p.2)) = -(n * -(q.1 - p.1)) * e.1.1 + n * (q.2 - p.2) * e.1.2.1 := by grind
    rw [l1, h1, h2]
    grind
  rcases Int.mul_eq_zero.1 l with h | h <;> omega

/-- Where the vectors touch: no gap is positive; one is 0. -/
theorem touch_law {a b : List Pt} (ha : Fam a) (hb : Fam b) {j t : Nat} (hj : j < (sumL a b).length) (ht : t < 4) :
    (∀ e ∈ sidesL a b, dotQ e.1 (betw ((sumL a b).getD j default) (nxt (sumL a b) j) t) ≤ (e.2 : Rat)) ∧ ∃ e ∈ sidesL a b, dotQ e.1 (betw ((sumL a b).getD j default) (nxt (sumL a b) j) t) = (e.2 : Rat) := by
  have hq := quarter (i := t) (by omega)
  constructor
  · intro e he
    rw [dotQ_betw]
    have h1 : ((dot e.1 ((sumL a b).getD j default) : Int) : Rat) ≤ (e.2 : Rat) := Rat.intCast_le_intCast.2 (diffs_le ((sum_mem ha hb).2 _ (getD_mem hj)) he)
    have h2 : ((dot e.1 (nxt (sumL a b) j) : Int) : Rat) ≤ (e.2 : Rat) := Rat.intCast_le_intCast.2 (diffs_le (next_mem ha hb hj) he)
    generalize ((dot e.1 ((sumL a b).getD j default) : Int) : Rat) = P at *
    generalize ((dot e.1 (nxt (sumL a b) j) : Int) : Rat) = Q at *
    generalize (e.2 : Rat) = E at *
    generalize Rat.divInt t 4 = T at *
    have m1 := mul_nn hq.1 (show 0 ≤ E - Q by grind)
    have m2 := mul_nn (show 0 ≤ 1 - T by grind) (show 0 ≤ E - P by grind)
    grind
  · obtain ⟨e, he, hf⟩ := (fam_pair ha hb).fit j hj
    refine ⟨e, he, ?_⟩
    rw [dotQ_betw, (fit_dot hf).1, (fit_dot hf).2]
    grind
end Go.Proofs.Gh.Tryz
end
section
set_option linter.unusedVariables false
set_option linter.unusedSimpArgs false
set_option maxRecDepth 4000
namespace Go.Proofs.Gh.Tryz
open Go Go.Proofs Go.Proofs.Gh

theorem contact_law {es : List Ed} {r v : Rat × Rat} (hz : ∃ e ∈ es, zeroP r e = true) : (-1 ≤ contactI es r v ∧ contactI es r v < es.length) ∧ (decide (0 ≤ contactI es r v) != es.any (openP r v)) = true ∧ (0 ≤ contactI es r v → zeroP r (es.getD (contactI es r v).toNat default) = true) := by
  have hb := grI_bd (fun e => rateQ e.1 v) (zeroP r) es es.length
  obtain ⟨h1, h2⟩ := @grI_has (fun e => rateQ e.1 v) (zeroP r) es es.length
  have hlen : 0 < es.length := by
    obtain ⟨e, he, _⟩ := hz
    exact List.length_pos_of_mem he
  unfold contactI
  by_cases ho : es.any (openP r v) = true
  · rw [if_pos ho, ho]
    exact ⟨by omega, rfl, fun h => absurd h (by omega)⟩
  · rw [if_neg ho]
    have h0 : 0 ≤ grI (fun e => rateQ e.1 v) (zeroP r) es es.length := by
      apply Classical.byContradiction
      intro hc
      obtain ⟨e, he, hze⟩ := hz
      obtain ⟨k, hk, rfl⟩ := List.getElem_of_mem he
      have := h2 (by omega) k hk
      rw [List.getD_eq_getElem?_getD, List.getElem?_eq_getElem hk, Option.getD_some, hze] at this
      cases this
    refine ⟨by omega, ?_, h1⟩
    rw [decide_eq_true h0]
    cases h : es.any (openP r v) with
    | true => exact absurd h ho
    | false => rfl

theorem l_GapTouches (l m : List Int) (n k : Int) (x : List Int) (hl : ∀ n ∈ l, -9223372036854775808 ≤ n ∧ n ≤ 9223372036854775807) (hm : ∀ n ∈ m, -9223372036854775808 ≤ n ∧ n ≤ 9223372036854775807) (hn : -9223372036854775808 ≤ n ∧ n ≤ 9223372036854775807) (hk : -9223372036854775808 ≤ k ∧ k ≤ 9223372036854775807) (hx : ∀ n ∈ x, -9223372036854775808 ≤ n ∧ n ≤ 9223372036854775807) : PureC Tryz.prog 11 [pL l, pL m, pI n, pI k, pL x] (pB true) := by
  have c1 := k_Shape l hl
  have c2 := k_Shape m hm
  have x0 := k_At x 0 96 (by omega) hx
  have x1 := k_At x 1 96 (by omega) hx
  have b0 := at_lt x 0 (m := 96) (by omega)
  have b1 := at_lt x 1 (m := 96) (by omega)
  generalize at' x 0 96 = y0 at *
  generalize at' x 1 96 = y1 at *
  have v1 := k_Vec y0 y1 (by omega) (by omega)
  have q1 := vec24 y0 y1
  generalize vec y0 y1 = v at *
  have fa := shape_fam l
  have fb := shape_fam m
  generalize shape l = a at *
  generalize shape m = b at *
  have hlen := sides_len fa fb
  have hSE : ∀ e ∈ sidesL a b, SE e := fun e he => ⟨dir_small (side_dir fa fb he), atE_bd fa fb he⟩
  have sl1 := (fam_pair fa fb).len
  have sl2 := (sum_mem fa fb).1
  have sS : ∀ p ∈ sumL a b, Sp p := fun p hp => by have := sum_bd fa fb p hp; unfold Sp; omega
  have hjl : (n.tmod (sumL a b).length).natAbs < (sumL a b).length := by
    have h := Int.natAbs_tmod n (sumL a b).length
    rw [h, Int.natAbs_natCast]
    exact Nat.mod_lt _ (by omega)
  have ht4 : (k.tmod 4).natAbs < 4 := by
    have h := Int.natAbs_tmod k 4
    rw [h]
    exact Nat.mod_lt _ (by decide)
  have htl : (∀ e ∈ sidesL a b, dotQ e.1 (touchV (sumL a b) n k) ≤ (e.2 : Rat)) ∧ ∃ e ∈ sidesL a b, dotQ e.1 (touchV (sumL a b) n k) = (e.2 : Rat) := touch_law fa fb hjl ht4
  have hrq : QV 40400 4 (touchV (sumL a b) n k) := betw_qv (sum_bd fa fb _ (getD_mem hjl)) (sum_bd fa fb _ (nxt_mem hjl)) ht4
  have s1 := k_Sides a b fa fb
  have s2 := k_Sum a b fa fb
  have tt := k_Touch a b n k fa fb hn hk
  have hhas : PureC Tryz.prog 72 [pPs (sumL a b), pV (touchV (sumL a b) n k)] (pB true) := by
    have := k_Has (sumL a b) (touchV (sumL a b) n k) (by omega) sS (qb_mono hrq.1 (by omega) (by omega)) (qb_mono hrq.2 (by omega) (by omega))
    rwa [(has_sum fa fb _).2 htl.1] at this
  generalize touchV (sumL a b) n k = r at *
  generalize sidesL a b = es at *
  generalize sumL a b = s at *
  have Q1 := hrq.mono (N' := 100000) (D' := 4000) (by omega) (by omega)
  have Q2 := q1.mono (N' := 100000) (D' := 4000) (by omega) (by omega)
  have hH : ∀ e ∈ es, 1 ≤ e.1.2.2 := fun e he => (hSE e he).1.2.2.2.2.1
  have hng : ∀ e ∈ es, ¬ 0 < (gapQ e r).num.sign := fun e he => by
    have h1 := htl.1 e he
    have h2 := gap_sign (hH e he) r
    have h3 : (gapQ e r).num.sign ≤ 0 := by
      rw [sign_le]
      apply Classical.byContradiction
      intro hc
      have : ¬ gapQ e r < 0 := by grind
      rw [h2.1] at this
      have h4 : dotQ e.1 r = (e.2 : Rat) := by grind
      rw [h2.2.2 h4] at hc
      exact hc Rat.le_refl
    omega
  have hz : ∃ e ∈ es, zeroP r e = true := by
    obtain ⟨e, he, hd⟩ := htl.2
    exact ⟨e, he, decide_eq_true (sign_zero.2 ((gap_sign (hH e he) r).2.2 hd))⟩
  have hmeet : PureC Tryz.prog 68 [pEs es, pV r] (pB false) := by
    have := k_Meet es r (by omega) hSE Q1
    rwa [show (!es.any (gapP r)) = false by
      obtain ⟨e, he, hd⟩ := hz
      rw [List.any_eq_true.2 ⟨e, he, by unfold gapP; rw [of_decide_eq_true hd]; rfl⟩]; rfl] at this
  have hcon := k_Contact es r v (by omega) hSE Q1 Q2
  obtain ⟨hcb, hfin, hzc⟩ := @contact_law es r v hz
  generalize contactI es r v = C at *
  refine PureC.of Tryz.func11 rfl Tryz.ntmps11 (vs := [.tmp 10]) rfl (Nat.le_of_ble_eq_true rfl) rfl fun cx _ _ => ?_
  refine AWP.seq ?_
  refine AWP.region ?_
  refine OPS.p rfl (st_assign rfl) ?_
  refine OPS.nil ?_
  refine AWP.seq ?_
  refine AWP.region ?_
  refine OPS.p rfl (st_move rfl) ?_
  refine OPS.p rfl (st_call (L := [((.tmp 20), _)]) false pl59 ⟨rfl, trivial⟩ rfl (c1) rfl) ?_
  refine OPS.p rfl (st_assign rfl) ?_
  refine OPS.nil ?_
  refine AWP.seq ?_
  refine AWP.region ?_
  refine OPS.p rfl (st_move rfl) ?_
  refine OPS.p rfl (st_call (L := [((.tmp 22), _)]) false pl59 ⟨rfl, trivial⟩ rfl (c2) rfl) ?_
  refine OPS.p rfl (st_assign rfl) ?_
  refine OPS.nil ?_
  refine AWP.seq ?_
  refine AWP.region ?_
  refine OPS.p rfl (st_move rfl) ?_
  refine OPS.p rfl (st_move rfl) ?_
  refine OPS.p rfl (st_call (L := [((.tmp 24), _), ((.tmp 25), _)]) false pl60 ⟨rfl, rfl, trivial⟩ rfl (s1) rfl) ?_
  refine OPS.p rfl (st_assign rfl) ?_
  refine OPS.nil ?_
  refine AWP.seq ?_
  refine AWP.region ?_
  refine OPS.p rfl (st_move rfl) ?_
  refine OPS.p rfl (st_move rfl) ?_
  refine OPS.p rfl (st_move rfl) ?_
  refine OPS.p rfl (st_move rfl) ?_
  refine OPS.p rfl (st_call (L := [((.tmp 27), _), ((.tmp 28), _), ((.tmp 29), _), ((.tmp 30), _)]) false pl73 ⟨rfl, rfl, rfl, rfl, trivial⟩ rfl (tt) rfl) ?_
  refine OPS.a rfl (st_alloc ze72) ?_
  refine OPS.s (by exact st_store_v sz72 rfl rfl rfl rfl rfl rfl) ?_
  refine OPS.nil ?_
  refine AWP.seq ?_
  refine AWP.region ?_
  refine OPS.p rfl (st_move rfl) ?_
  refine OPS.p rfl (st_call (L := [((.tmp 32), _), ((.const (.int .i64 0)), _), ((.const (.int .i64 96)), _)]) false pl63 ⟨rfl, rfl, rfl, trivial⟩ rfl (x0) rfl) ?_
  refine OPS.p rfl (st_move rfl) ?_
  refine OPS.p rfl (st_call (L := [((.tmp 34), _), ((.const (.int .i64 1)), _), ((.const (.int .i64 96)), _)]) false pl63 ⟨rfl, rfl, rfl, trivial⟩ rfl (x1) rfl) ?_
  refine OPS.p rfl (st_call (L := [((.tmp 33), _), ((.tmp 35), _)]) false pl62 ⟨rfl, rfl, trivial⟩ rfl (v1) rfl) ?_
  refine OPS.a rfl (st_alloc ze72) ?_
  refine OPS.s (by exact st_store_v sz72 rfl rfl rfl rfl rfl rfl) ?_
  refine OPS.nil ?_
  refine AWP.seq ?_
  refine AWP.region ?_
  refine OPS.p rfl (st_move rfl) ?_
  refine OPS.p rfl (by exact st_load_va ag72 rfl rfl rfl rfl) ?_
  refine OPS.p rfl (by exact st_load_va ag72 rfl rfl rfl rfl) ?_
  refine OPS.p rfl (st_call (L := [((.tmp 37), _), ((.tmp 38), _), ((.tmp 39), _)]) false pl74 ⟨rfl, rfl, rfl, trivial⟩ rfl (hcon) rfl) ?_
  refine OPS.p rfl (st_assign rfl) ?_
  refine OPS.nil ?_
  refine AWP.seq ?_
  refine AWP.seq ?_
  refine AWP.drw mixed ?_
  refine DRW.p rfl (st_move rfl) ?_
  refine DRW.p rfl (st_move rfl) ?_
  refine DRW.p rfl (st_call (L := [((.tmp 41), _), ((.tmp 42), _)]) false pl61 ⟨rfl, rfl, trivial⟩ rfl (s2) rfl) ?_
  refine DRW.p rfl (by exact st_load_va ag72 rfl rfl rfl rfl) ?_
  refine DRW.p rfl (st_call (L := [((.tmp 43), _), ((.tmp 44), _)]) false pl72 ⟨rfl, rfl, trivial⟩ rfl (hhas) rfl) ?_
  refine DRW.p rfl (by exact st_not rfl) ?_
  refine DRW.p rfl (st_move rfl) ?_
  refine DRW.pG rfl rfl rfl (rfl) (st_move rfl) ?_
  refine DRW.pG rfl rfl rfl (rfl) (by exact st_load_va ag72 rfl rfl rfl rfl) ?_
  refine DRW.pG rfl rfl rfl (rfl) (st_call (L := [((.tmp 48), _), ((.tmp 49), _)]) false pl68 ⟨rfl, rfl, trivial⟩ rfl (hmeet) rfl) ?_
  refine DRW.p rfl (st_pickF rfl (rfl) rfl) ?_
  refine DRW.p rfl (st_move rfl) ?_
  refine DRW.pG rfl rfl rfl (rfl) (st_move rfl) ?_
  refine DRW.pG rfl rfl rfl (rfl) (st_move rfl) ?_
  refine DRW.pG rfl rfl rfl (rfl) (st_len un68 rfl rfl) ?_
  refine DRW.pG rfl rfl rfl (rfl) (st_geq rfl rfl) ?_
  refine DRW.p rfl (st_pickF rfl (rfl) rfl) ?_
  refine DRW.p rfl (st_move rfl) ?_
  refine DRW.pG rfl rfl rfl ((decide_eq_false (by omega))) (st_move rfl) ?_
  refine DRW.pG rfl rfl rfl ((decide_eq_false (by omega))) (st_lss rfl rfl) ?_
  refine DRW.p rfl (st_pickF rfl ((decide_eq_false (by omega))) rfl) ?_
  refine DRW.nil (by kernel_rfl) ?_
  refine AWP.cond_f rfl ((decide_eq_false (by omega))) ?_
  refine AWP.skip ?_
  refine AWP.seq ?_
  refine AWP.region ?_
  refine OPS.p rfl (st_assign rfl) ?_
  refine OPS.nil ?_
  refine AWP.seq ?_
  refine AWP.seq ?_
  refine AWP.region ?_
  refine OPS.p rfl (st_assign rfl) ?_
  refine OPS.nil ?_
  refine AWP.block ?_
  refine AWP.loopR (σ := Nat × Bool) (fun (zz : Nat × Bool) => ⟨[(13, pEs es), (14, .ptr 0 0), (15, .ptr 1 0), (16, pI C), (17, pB zz.2), (18, pI zz.1)], [(0, .var ((eV r).map .cell)), (1, .var ((eV v).map .cell))], 2⟩) (fun (zz : Nat × Bool) => zz.1 ≤ es.length ∧ zz.2 = (es.take zz.1).any (openP r v)) (fun (zz : Nat × Bool) => es.length - zz.1) (0, false) (Sub.r (Sub.mk' ⟨(by rfl), (by rfl), (by rfl), (by rfl), (by rfl), (by rfl), trivial⟩ ⟨(by rfl), (by rfl), trivial⟩ (by exact Nat.le_refl _))) (by exact ⟨Nat.zero_le _, by simp⟩) ?_
  rintro ⟨i, g⟩ hinv
  have hinv : i ≤ es.length ∧ g = (es.take i).any (openP r v) := hinv
  obtain ⟨k1, k2⟩ := hinv
  show AWP _ _ _ _ _ _ _ ⟨[(13, pEs es), (14, .ptr 0 0), (15, .ptr 1 0), (16, pI C), (17, pB g), (18, pI i)], [(0, .var ((eV r).map .cell)), (1, .var ((eV v).map .cell))], 2⟩
  refine AWP.seq ?_
  refine AWP.seq ?_
  refine AWP.region ?_
  refine OPS.p rfl (st_move rfl) ?_
  refine OPS.p rfl (st_move rfl) ?_
  refine OPS.p rfl (st_len un68 rfl rfl) ?_
  refine OPS.p rfl (st_lss rfl rfl) ?_
  refine OPS.nil ?_
  refine AWP.condD rfl (fun hc11 => ?_) (fun hc11 => ?_)
  · have hi : i < es.length := by omega
    have he := getD_mem hi
    have hno := hng _ he
    have hop : openP r v (es.getD i default) = (decide ((gapQ (es.getD i default) r).num.sign = 0) && decide (0 < (rateQ (es.getD i default).1 v).num.sign)) := by unfold openP; rw [decide_eq_false hno]; rfl
    refine AWP.skip ?_
    refine AWP.seq ?_
    refine AWP.block ?_
    refine AWP.seq ?_
    refine AWP.drw mixed ?_
    refine DRW.p rfl (st_move rfl) ?_
    refine DRW.p rfl (st_move rfl) ?_
    refine DRW.p rfl (by exact st_index_R es68 rfl rfl (fun _ => rfl) rfl (by omega) (by omega) (by rfl)) ?_
    refine DRW.p rfl (by exact st_load_Rn ag83 rfl (fun _ => rfl) rfl (by omega)) ?_
    refine DRW.p rfl (by exact st_load_va ag72 rfl rfl rfl rfl) ?_
    refine DRW.p rfl (st_call (L := [((.tmp 71), _), ((.tmp 72), _)]) false pl70 ⟨rfl, rfl, trivial⟩ rfl (k_Gap _ _ (hSE _ he) Q1) rfl) ?_
    refine DRW.p rfl (st_call (L := [((.tmp 73), _)]) false pl69 ⟨rfl, trivial⟩ rfl (k_qSign _) rfl) ?_
    refine DRW.p rfl (st_assign rfl) ?_
    refine DRW.nil (by kernel_rfl) ?_
    refine AWP.seq ?_
    refine AWP.seq ?_
    refine AWP.region ?_
    refine OPS.p rfl (st_move rfl) ?_
    refine OPS.p rfl (st_gtr rfl rfl) ?_
    refine OPS.nil ?_
    refine AWP.cond_f rfl ((decide_eq_false (by omega))) ?_
    refine AWP.skip ?_
    refine AWP.drw mixed ?_
    refine DRW.p rfl (st_move rfl) ?_
    refine DRW.p rfl (st_move rfl) ?_
    refine DRW.splitB (g := 78) rfl (fun eg16_1 g16_1 => ?_) (fun eg16_1 g16_1 => ?_)
    · refine DRW.nO rfl rfl rfl eg16_1 ?_
      refine DRW.nO rfl rfl rfl eg16_1 ?_
      refine DRW.nO rfl rfl rfl eg16_1 ?_
      refine DRW.nT rfl rfl rfl ?_
      refine DRW.nT rfl rfl rfl ?_
      refine DRW.nT rfl rfl rfl ?_
      refine DRW.nT rfl rfl rfl ?_
      refine DRW.nT rfl rfl rfl ?_
      refine DRW.nT rfl rfl rfl ?_
      refine DRW.nT rfl rfl rfl ?_
      refine DRW.nT rfl rfl rfl ?_
      refine DRW.nO rfl rfl rfl eg16_1 ?_
      refine DRW.p rfl (st_pickT rfl eg16_1 rfl) ?_
      refine DRW.p rfl (st_assign rfl) ?_
      refine DRW.nil (by kernel_rfl) ?_
      refine AWP.region ?_
      refine OPS.p rfl (st_move rfl) ?_
      refine OPS.p rfl (by exact st_add_i rfl rfl (by omega) (by omega)) ?_
      refine OPS.p rfl (st_assign rfl) ?_
      refine OPS.nil ?_
      refine ⟨(i + 1, true), (Sub.r (Sub.mk' ⟨(by rfl), (by rfl), (by rfl), (by rfl), (by rfl), (by rfl), trivial⟩ ⟨(by rfl), (by rfl), trivial⟩ (by exact Nat.le_refl _))), ?_, ?_⟩
      · try dsimp only
        refine ⟨by omega, ?_⟩
        rw [any_take _ hi, ← k2, g16_1]
        rfl
      · try dsimp only
        omega
    · refine DRW.pG rfl rfl rfl eg16_1 (st_move rfl) ?_
      refine DRW.pG rfl rfl rfl eg16_1 (st_eql rfl rfl) ?_
      refine DRW.pG rfl rfl rfl eg16_1 (st_move rfl) ?_
      refine DRW.split (g := 81) rfl (fun eg16_4 g16_4 => ?_) (fun eg16_4 g16_4 => ?_)
      · refine DRW.pG rfl rfl rfl eg16_4 (st_move rfl) ?_
        refine DRW.pG rfl rfl rfl eg16_4 (st_move rfl) ?_
        refine DRW.pG rfl rfl rfl eg16_4 (by exact st_index_R es68 rfl rfl (fun _ => rfl) rfl (by omega) (by omega) (by rfl)) ?_
        refine DRW.pG rfl rfl rfl eg16_4 (by exact st_load_Rn ag83 rfl (fun _ => rfl) rfl (by omega)) ?_
        refine DRW.pG rfl rfl rfl eg16_4 (by exact st_load_va ag72 rfl rfl rfl rfl) ?_
        refine DRW.pG rfl rfl rfl eg16_4 (st_call (L := [((.tmp 85), _), ((.tmp 86), _)]) false pl75 ⟨rfl, rfl, trivial⟩ rfl (k_rRate _ v (hSE _ he).1 q1) rfl) ?_
        refine DRW.pG rfl rfl rfl eg16_4 (st_call (L := [((.tmp 87), _)]) false pl69 ⟨rfl, trivial⟩ rfl (k_qSign _) rfl) ?_
        refine DRW.pG rfl rfl rfl eg16_4 (st_gtr rfl rfl) ?_
        refine DRW.pG rfl rfl rfl eg16_1 (st_pickT rfl eg16_4 rfl) ?_
        refine DRW.p rfl (st_pickF rfl eg16_1 rfl) ?_
        refine DRW.p rfl (st_assign rfl) ?_
        refine DRW.nil (by kernel_rfl) ?_
        refine AWP.region ?_
        refine OPS.p rfl (st_move rfl) ?_
        refine OPS.p rfl (by exact st_add_i rfl rfl (by omega) (by omega)) ?_
        refine OPS.p rfl (st_assign rfl) ?_
        refine OPS.nil ?_
        refine ⟨(i + 1, decide (0 < (rateQ (es.getD i default).1 v).num.sign)), (Sub.r (Sub.mk' ⟨(by rfl), (by rfl), (by rfl), (by rfl), (by rfl), (by rfl), trivial⟩ ⟨(by rfl), (by rfl), trivial⟩ (by exact Nat.le_refl _))), ?_, ?_⟩
        · try dsimp only
          refine ⟨by omega, ?_⟩
          rw [any_take _ hi, ← k2, g16_1, hop, decide_eq_true g16_4]
          rfl
        · try dsimp only
          omega
      · refine DRW.nO rfl rfl rfl eg16_4 ?_
        refine DRW.nO rfl rfl rfl eg16_4 ?_
        refine DRW.nO rfl rfl rfl eg16_4 ?_
        refine DRW.nO rfl rfl rfl eg16_4 ?_
        refine DRW.nO rfl rfl rfl eg16_4 ?_
        refine DRW.nO rfl rfl rfl eg16_4 ?_
        refine DRW.nO rfl rfl rfl eg16_4 ?_
        refine DRW.nO rfl rfl rfl eg16_4 ?_
        refine DRW.pG rfl rfl rfl eg16_1 (st_pickF rfl eg16_4 rfl) ?_
        refine DRW.p rfl (st_pickF rfl eg16_1 rfl) ?_
        refine DRW.p rfl (st_assign rfl) ?_
        refine DRW.nil (by kernel_rfl) ?_
        refine AWP.region ?_
        refine OPS.p rfl (st_move rfl) ?_
        refine OPS.p rfl (by exact st_add_i rfl rfl (by omega) (by omega)) ?_
        refine OPS.p rfl (st_assign rfl) ?_
        refine OPS.nil ?_
        refine ⟨(i + 1, false), (Sub.r (Sub.mk' ⟨(by rfl), (by rfl), (by rfl), (by rfl), (by rfl), (by rfl), trivial⟩ ⟨(by rfl), (by rfl), trivial⟩ (by exact Nat.le_refl _))), ?_, ?_⟩
        · try dsimp only
          refine ⟨by omega, ?_⟩
          rw [any_take _ hi, ← k2, g16_1, hop, decide_eq_false g16_4]
          rfl
        · try dsimp only
          omega
  · have hil : i = es.length := by omega
    rw [hil, List.take_length] at k2
    rw [← k2] at hfin
    refine AWP.exit ?_
    refine AWP.seq ?_
    refine AWP.seq ?_
    refine AWP.drw mixed ?_
    refine DRW.p rfl (st_move rfl) ?_
    refine DRW.p rfl (st_geq rfl rfl) ?_
    refine DRW.p rfl (st_move rfl) ?_
    refine DRW.split (g := 94) rfl (fun eg17_2 g17_2 => ?_) (fun eg17_2 g17_2 => ?_)
    · obtain ⟨z, rfl⟩ : ∃ z : Nat, C = (z : Int) := ⟨C.toNat, by omega⟩
      have hzl : z < es.length := by omega
      have hze := getD_mem (l := es) hzl
      have hz0 := hzc (by omega)
      rw [Int.toNat_natCast] at hz0
      refine DRW.pG rfl rfl rfl eg17_2 (st_move rfl) ?_
      refine DRW.pG rfl rfl rfl eg17_2 (st_move rfl) ?_
      refine DRW.pG rfl rfl rfl eg17_2 (by exact st_index_R es68 rfl rfl (fun _ => rfl) rfl (by omega) (by omega) (by rfl)) ?_
      refine DRW.pG rfl rfl rfl eg17_2 (by exact st_load_Rn ag83 rfl (fun _ => rfl) rfl (by omega)) ?_
      refine DRW.pG rfl rfl rfl eg17_2 (by exact st_load_va ag72 rfl rfl rfl rfl) ?_
      refine DRW.pG rfl rfl rfl eg17_2 (st_call (L := [((.tmp 98), _), ((.tmp 99), _)]) false pl70 ⟨rfl, rfl, trivial⟩ rfl (k_Gap _ _ (hSE _ hze) Q1) rfl) ?_
      refine DRW.pG rfl rfl rfl eg17_2 (st_call (L := [((.tmp 100), _)]) false pl69 ⟨rfl, trivial⟩ rfl (k_qSign _) rfl) ?_
      refine DRW.pG rfl rfl rfl eg17_2 (st_neq rfl rfl) ?_
      refine DRW.p rfl (st_pickT rfl eg17_2 rfl) ?_
      refine DRW.nil (by kernel_rfl) ?_
      refine AWP.cond_f rfl ((decide_eq_false (by have := of_decide_eq_true hz0; omega))) ?_
      refine AWP.skip ?_
      refine AWP.seq ?_
      refine AWP.region ?_
      refine OPS.p rfl (st_move rfl) ?_
      refine OPS.p rfl (st_geq rfl rfl) ?_
      refine OPS.p rfl (st_move rfl) ?_
      refine OPS.p rfl (st_neq_b rfl rfl un4) ?_
      refine OPS.p rfl (st_move rfl) ?_
      refine OPS.pG rfl rfl rfl (hfin) (st_call (L := []) false pl58 trivial rfl (k_lives13) rfl) ?_
      refine OPS.p rfl (st_pickT rfl (hfin) rfl) ?_
      refine OPS.p rfl (st_assign rfl) ?_
      refine OPS.nil ?_
      refine AWP.ret ?_
      exact Ret.mk rfl rfl
    · refine DRW.nO rfl rfl rfl eg17_2 ?_
      refine DRW.nO rfl rfl rfl eg17_2 ?_
      refine DRW.nO rfl rfl rfl eg17_2 ?_
      refine DRW.nO rfl rfl rfl eg17_2 ?_
      refine DRW.nO rfl rfl rfl eg17_2 ?_
      refine DRW.nO rfl rfl rfl eg17_2 ?_
      refine DRW.nO rfl rfl rfl eg17_2 ?_
      refine DRW.nO rfl rfl rfl eg17_2 ?_
      refine DRW.p rfl (st_pickF rfl eg17_2 rfl) ?_
      refine DRW.nil (by kernel_rfl) ?_
      refine AWP.cond_f rfl (rfl) ?_
      refine AWP.skip ?_
      refine AWP.seq ?_
      refine AWP.region ?_
      refine OPS.p rfl (st_move rfl) ?_
      refine OPS.p rfl (st_geq rfl rfl) ?_
      refine OPS.p rfl (st_move rfl) ?_
      refine OPS.p rfl (st_neq_b rfl rfl un4) ?_
      refine OPS.p rfl (st_move rfl) ?_
      refine OPS.pG rfl rfl rfl (hfin) (st_call (L := []) false pl58 trivial rfl (k_lives13) rfl) ?_
      refine OPS.p rfl (st_pickT rfl (hfin) rfl) ?_
      refine OPS.p rfl (st_assign rfl) ?_
      refine OPS.nil ?_
      refine AWP.ret ?_
      exact Ret.mk rfl rfl
end Go.Proofs.Gh.Tryz
end
