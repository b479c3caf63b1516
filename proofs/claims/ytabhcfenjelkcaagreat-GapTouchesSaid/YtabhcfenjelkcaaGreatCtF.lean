/-
  Contracts: the value of a polynomial.
  Contracts: quotients, rates and gaps.
  Contracts: polynomials of gaps.
  Contracts: gaps along a motion.
  Contracts: the edges that a motion stays free of, the greatest gap, contact.
-/
import Derived.Test.YtabhcfenjelkcaaGreatCtD
import Derived.Test.YtabhcfenjelkcaaGreatPlB
section
set_option linter.unusedVariables false
set_option linter.unusedSimpArgs false
set_option maxRecDepth 4000
namespace Go.Proofs.Gh.Tryz
open Go Go.Proofs Go.Proofs.Gh

/-- A polynomial. -/
abbrev pQs (p : List Rat) : PV := .cell (.sl p.length (fR eQ p))
abbrev vQ (a : Rat) : Blk := .var [pB (decide (a.num < 0)), pL (iD a.num), pB false, pL (qD a)]
def evalQ (p : List Rat) (x : Rat) : Rat :=
  match p with
  | [] => 0
  | a :: r => evalQ r x * x + a
theorem evalQ_drop {p : List Rat} {x : Rat} {i : Nat} (h : i < p.length) : evalQ (p.drop i) x = evalQ (p.drop (i + 1)) x * x + p.getD i default := by
  rw [List.drop_eq_getElem_cons h, evalQ]
  simp [List.getD_eq_getElem?_getD, h]

theorem k_Eval (p : List Rat) (x : Rat) (hl : p.length ≤ 1000) (hm : ∀ i, i < p.length → PureC Tryz.prog 67 [pQ (evalQ (p.drop (i + 1)) x), pQ x] (pQ (evalQ (p.drop (i + 1)) x * x)) ∧ PureC Tryz.prog 129 [pQ (evalQ (p.drop (i + 1)) x * x), pQ (p.getD i default)] (pQ (evalQ (p.drop i) x))) : PureC Tryz.prog 125 [pQs p, pQ x] (pQ (evalQ p x)) := by
  refine PureC.of Tryz.func125 rfl Tryz.ntmps125 (vs := [.cell 4 31]) rfl (Nat.le_of_ble_eq_true rfl) rfl fun cx _ _ => ?_
  refine AWP.seq ?_
  refine AWP.region ?_
  refine OPS.a rfl (st_box rfl rfl) ?_
  refine OPS.a rfl (st_alloc ze31) ?_
  refine OPS.nil ?_
  refine AWP.seq ?_
  refine AWP.region ?_
  refine OPS.a rfl (st_alloc ze31) ?_
  refine OPS.nil ?_
  refine AWP.seq ?_
  refine AWP.seq ?_
  refine AWP.region ?_
  refine OPS.p rfl (st_move rfl) ?_
  refine OPS.enterv (L := [((.tmp 8), _)]) (vs := [.tmp 2]) Tryz.func233 rfl Tryz.ntmps233 rfl pl233 rfl ⟨rfl, trivial⟩ (Nat.le_of_ble_eq_true rfl) rfl rfl fun cx1 _ _ => ?_
  refine AWP.seq ?_
  refine AWP.region ?_
  refine OPS.a rfl (st_box rfl rfl) ?_
  refine OPS.p rfl (st_assign rfl) ?_
  refine OPS.nil ?_
  refine AWP.seq ?_
  refine AWP.region ?_
  refine OPS.p rfl (st_makeFunc (L := [((.tmp 1), _)]) ⟨rfl, trivial⟩) ?_
  refine OPS.p rfl (st_assign rfl) ?_
  refine OPS.nil ?_
  refine AWP.ret ?_
  refine Back.some rfl ?_
  refine OPS.nil ?_
  refine AWP.block ?_
  refine AWP.rangeFunc (vs := []) Tryz.func274 rfl Tryz.ntmps274 rfl pl274 rfl (Nat.le_of_ble_eq_true rfl) rfl [(3, .ptr 0 0), (5, .ptr 2 0)] ⟨(by rfl), (by rfl), trivial⟩ fun AS0 BD0 hAS0 hBD0 cx2 _ _ => ?_
  refine AWP.seq ?_
  refine AWP.region ?_
  refine OPS.p rfl (by exact st_load_vs sc24 rfl rfl rfl) ?_
  refine OPS.p rfl (st_len un24 rfl rfl) ?_
  refine OPS.p rfl (by exact st_sub_i rfl rfl (by omega) (by omega)) ?_
  refine OPS.p rfl (st_assign rfl) ?_
  refine OPS.nil ?_
  refine AWP.block ?_
  have hz : vQ (evalQ (p.drop p.length) x) = .var [pB false, .cell (.sl 0 []), pB false, .cell (.sl 0 [])] := by
    rw [List.drop_length]
    exact congrArg (fun c => Blk.var (c.map PV.cell)) eQ_zero
  refine AWP.loopR (σ := Nat × Int) (fun (zz : Nat × Int) => ⟨[(0, .yield 4), (1, .ptr 3 0), (3, pI zz.2)], [(0, vQ x), (1, .var [pB false, .cell (.sl 0 []), pB false, .cell (.sl 0 [])]), (2, vQ (evalQ (p.drop zz.1) x)), (3, .var [pQs p]), (4, .loop .ready none #[10, 11] AS0 BD0 18 [(3, .ptr 0 0), (5, .ptr 2 0)])], 5⟩) (fun (zz : Nat × Int) => zz.1 ≤ p.length ∧ zz.2 = (zz.1 : Int) - 1) (fun (zz : Nat × Int) => zz.1) (p.length, (p.length : Int) - 1) (Sub.r (Sub.mk' ⟨rfl, rfl, rfl, trivial⟩ ⟨rfl, rfl, (by dsimp only; rw [hz]; rfl), rfl, rfl, trivial⟩ (Nat.le_refl _))) (by exact ⟨Nat.le_refl _, rfl⟩) ?_
  rintro ⟨j, i'⟩ hinv
  have hinv : j ≤ p.length ∧ i' = (j : Int) - 1 := hinv
  obtain ⟨h1, h2⟩ := hinv
  show AWP _ _ _ _ _ _ _ ⟨[(0, .yield 4), (1, .ptr 3 0), (3, pI i')], [(0, vQ x), (1, .var [pB false, .cell (.sl 0 []), pB false, .cell (.sl 0 [])]), (2, vQ (evalQ (p.drop j) x)), (3, .var [pQs p]), (4, .loop .ready none #[10, 11] AS0 BD0 18 [(3, .ptr 0 0), (5, .ptr 2 0)])], 5⟩
  refine AWP.seq ?_
  refine AWP.seq ?_
  refine AWP.region ?_
  refine OPS.p rfl (st_move rfl) ?_
  refine OPS.p rfl (st_geq rfl rfl) ?_
  refine OPS.nil ?_
  refine AWP.condD rfl (fun hc1 => ?_) (fun hc1 => ?_)
  · obtain ⟨i, rfl⟩ : ∃ i, j = i + 1 := ⟨j - 1, by omega⟩
    obtain rfl : i' = (i : Int) := by omega
    have hi := hm i (by omega)
    refine AWP.skip ?_
    refine AWP.seq ?_
    refine AWP.block ?_
    refine AWP.seq ?_
    refine AWP.region ?_
    refine OPS.p rfl (st_move rfl) ?_
    refine OPS.p rfl (st_move rfl) ?_
    refine OPS.p rfl (by exact st_load_vs sc24 rfl rfl rfl) ?_
    refine OPS.p rfl (st_move rfl) ?_
    refine OPS.p rfl (by exact st_index_R es24 rfl rfl (fun _ => rfl) rfl (by omega) (by omega) (by rfl)) ?_
    refine OPS.p rfl (by exact st_load_Rn ag31 rfl (fun _ => rfl) rfl (by omega)) ?_
    refine OPS.yield (L := [((.tmp 12), _), ((.tmp 16), _)]) hAS0 hBD0 rfl rfl ⟨rfl, rfl, trivial⟩ rfl rfl rfl rfl fun cx3 _ _ => ?_
    refine AWP.region ?_
    refine OPS.a rfl (st_alloc ze31) ?_
    refine OPS.s (by exact st_store_v sz31 rfl rfl rfl rfl rfl rfl) ?_
    refine OPS.nil ?_
    refine Beg.mk' rfl ?_
    refine AWP.block ?_
    refine AWP.drw mixed ?_
    refine DRW.p rfl (by exact st_load_va ag31 rfl rfl rfl rfl) ?_
    refine DRW.p rfl (by exact st_load_va ag31 rfl rfl rfl rfl) ?_
    refine DRW.p rfl (st_call (L := [((.tmp 12), _), ((.tmp 13), _)]) false pl67 ⟨rfl, rfl, trivial⟩ rfl (hi.1) rfl) ?_
    refine DRW.p rfl (by exact st_load_va ag31 rfl rfl rfl rfl) ?_
    refine DRW.p rfl (st_call (L := [((.tmp 14), _), ((.tmp 15), _)]) false pl129 ⟨rfl, rfl, trivial⟩ rfl (hi.2) rfl) ?_
    refine DRW.s (by exact st_store_v sz31 rfl rfl rfl rfl rfl rfl) ?_
    refine DRW.nil (by kernel_rfl) ?_
    refine Yd.mk' rfl ?_
    refine OPS.p rfl (by exact st_not rfl) ?_
    refine OPS.nil ?_
    refine AWP.cond_f rfl (rfl) ?_
    refine AWP.skip ?_
    refine AWP.region ?_
    refine OPS.p rfl (st_move rfl) ?_
    refine OPS.p rfl (by exact st_sub_i rfl rfl (by omega) (by omega)) ?_
    refine OPS.p rfl (st_assign rfl) ?_
    refine OPS.nil ?_
    refine ⟨(i, (i : Int) - 1), (Ren.r (Ren.mk' (ρ := [(0, 0), (1, 1), (2, 2), (3, 3), (4, 4)]) rfl ⟨(by rfl), (by rfl), (by rfl), trivial⟩ ⟨(by rfl), (by rfl), (by rfl), (by rfl), (by rfl), trivial⟩)), ?_, ?_⟩
    · try dsimp only
      exact ⟨by omega, by omega⟩
    · try dsimp only
      omega
  · obtain rfl : j = 0 := by omega
    refine AWP.exit ?_
    try dsimp only [cond, Nat.beq]
    refine After.none (st := .ready) rfl (by simp) rfl ?_
    refine AWP.seq ?_
    refine AWP.region ?_
    refine OPS.p rfl (by exact st_load_va ag31 rfl rfl rfl rfl) ?_
    refine OPS.s (by exact st_store_v sz31 rfl rfl rfl rfl rfl rfl) ?_
    refine OPS.nil ?_
    refine AWP.ret ?_
    exact Ret.mk rfl rfl
end Go.Proofs.Gh.Tryz
end
section
set_option linter.unusedVariables false
set_option linter.unusedSimpArgs false
set_option maxRecDepth 4000
namespace Go.Proofs.Gh.Tryz
open Go Go.Proofs Go.Proofs.Gh

theorem inv_low {b : Rat} (h : b ≠ 0) : ((b.den : Int) = b⁻¹.num ∧ b.num = b⁻¹.den) ∨ ((b.den : Int) = -b⁻¹.num ∧ b.num = -(b⁻¹.den : Int)) := by
  have hn : b.num ≠ 0 := fun e => h (Rat.num_eq_zero.1 e)
  rw [Rat.num_inv, Rat.den_inv, if_neg hn]
  rcases Int.lt_or_gt_of_ne hn with h | h
  · right
    rw [Int.sign_eq_neg_one_of_neg h]
    omega
  · left
    rw [Int.sign_eq_one_of_pos h]
    omega
theorem inv_qb {b : Rat} {M E : Nat} (h : QB M E b) (hE : 1 ≤ M) : QB E M b⁻¹ := by
  unfold QB
  rw [Rat.num_inv, Rat.den_inv]
  refine ⟨?_, ?_⟩
  · rw [Int.natAbs_mul]
    have : (b.num.sign).natAbs ≤ 1 := by
      rcases Int.lt_trichotomy b.num 0 with h | h | h
      · rw [Int.sign_eq_neg_one_of_neg h]; decide
      · rw [h]; decide
      · rw [Int.sign_eq_one_of_pos h]; decide
    have h2 := h.2
    calc (b.num.sign).natAbs * (b.den : Int).natAbs ≤ 1 * (b.den : Int).natAbs := Nat.mul_le_mul_right _ this
      _ ≤ E := by omega
  · split
    · exact hE
    · exact h.1
theorem qb_mono {a : Rat} {N D N' D' : Nat} (h : QB N D a) (h1 : N ≤ N') (h2 : D ≤ D') : QB N' D' a := ⟨Nat.le_trans h.1 h1, Nat.le_trans h.2 h2⟩
theorem qb_div {a b : Rat} {N D M E : Nat} (ha : QB N D a) (hb : QB M E b) (hM : 1 ≤ M) : QB (N * E) (D * M) (a / b) := by
  rw [Rat.div_def]
  exact qb_mul ha (inv_qb hb hM)

theorem k_qDiv (a b : Rat) (h1 : Sml a.num.natAbs) (h2 : Sml b.num.natAbs) (h3 : Sml a.den) (h4 : Sml b.den) : PureC Tryz.prog 126 [pQ a, pQ b] (pQ (a / b)) := by
  have hb0 := @num_nil b
  have hi := @inv_low b
  have hd := Rat.den_inv b
  have hn := Rat.num_inv b
  refine PureC.of Tryz.func126 rfl Tryz.ntmps126 (vs := [.cell 4 31]) rfl (Nat.le_of_ble_eq_true rfl) rfl fun cx _ _ => ?_
  refine AWP.seq ?_
  refine AWP.region ?_
  refine OPS.a rfl (st_box rfl rfl) ?_
  refine OPS.a rfl (st_box rfl rfl) ?_
  refine OPS.a rfl (st_alloc ze31) ?_
  refine OPS.nil ?_
  refine AWP.seq ?_
  refine AWP.seq ?_
  refine AWP.region ?_
  refine OPS.p rfl (by exact st_field_p off31_0 rfl) ?_
  refine OPS.p rfl (by exact st_field_p off29_1 rfl) ?_
  refine OPS.p rfl (by exact st_load_vs sc22 rfl rfl rfl) ?_
  refine OPS.p rfl (st_len un22 rfl rfl) ?_
  refine OPS.p rfl (st_eql rfl rfl) ?_
  refine OPS.nil ?_
  refine AWP.condD rfl (fun hc1 => ?_) (fun hc1 => ?_)
  · refine AWP.seq ?_
    refine AWP.region ?_
    refine OPS.p rfl (st_build (L := []) zf31 pl_31 trivial rfl rfl) ?_
    refine OPS.s (by exact st_store_v sz31 rfl rfl rfl rfl rfl rfl) ?_
    refine OPS.nil ?_
    refine AWP.ret ?_
    have : b = 0 := hb0.1 (by omega)
    subst this
    exact Ret.mk rfl (by rw [pQ, Rat.div_def, Rat.inv_zero, Rat.mul_zero, eQ_zero])
  · refine AWP.skip ?_
    refine AWP.seq ?_
    have hb : b ≠ 0 := fun e => hc1 (by have := hb0.2 e; omega)
    have hbn : b.num ≠ 0 := fun e => hb (Rat.num_eq_zero.1 e)
    rw [if_neg hbn] at hd
    have hns : b⁻¹.num.natAbs = b.den := by
      rw [hn, Int.natAbs_mul, Int.natAbs_sign_of_ne_zero hbn]
      omega
    refine AWP.drw mixed ?_
    refine DRW.p rfl (by exact st_load_va ag31 rfl rfl rfl rfl) ?_
    refine DRW.p rfl (by exact st_load_va ag31 rfl rfl rfl rfl) ?_
    refine DRW.p rfl (st_call (L := [((.tmp 12), _)]) false pl178 ⟨rfl, trivial⟩ rfl (k_Den b) rfl) ?_
    refine DRW.p rfl (by exact st_field_p off31_0 rfl) ?_
    refine DRW.p rfl (by exact st_load_va ag29 rfl rfl rfl rfl) ?_
    refine DRW.p rfl (st_call (L := [((.tmp 13), _), ((.tmp 15), _)]) false pl179 ⟨rfl, rfl, trivial⟩ rfl (k_lowest b⁻¹ b.den b.num (by have := hi hb; omega)) rfl) ?_
    refine DRW.p rfl (st_call (L := [((.tmp 11), _), ((.tmp 16), _)]) false pl67 ⟨rfl, rfl, trivial⟩ rfl (k_qMul a b⁻¹ h1 (by rw [hns]; exact h4) h3 (by rw [hd]; exact h2)) rfl) ?_
    refine DRW.s (by exact st_store_v sz31 rfl rfl rfl rfl rfl rfl) ?_
    refine DRW.nil (by kernel_rfl) ?_
    refine AWP.ret ?_
    exact Ret.mk rfl (congrArg pQ (Rat.div_def a b).symm)
theorem b_qDiv {a b : Rat} (N D M E : Nat) (ha : QB N D a) (hb : QB M E b) (h3 : Nat.ble N 999999999999999999 = true) (h4 : Nat.ble M 999999999999999999 = true) (h5 : Nat.ble D 999999999999999999 = true) (h6 : Nat.ble E 999999999999999999 = true) : PureC Tryz.prog 126 [pQ a, pQ b] (pQ (a / b)) := k_qDiv a b (sml ha.1 h3) (sml hb.1 h4) (sml ha.2 h5) (sml hb.2 h6)

/-! ### Rates and gaps -/
/-- A direction of the family. -/
def S5 (d : Dr) : Prop := -5 ≤ d.1 ∧ d.1 ≤ 5 ∧ -5 ≤ d.2.1 ∧ d.2.1 ≤ 5 ∧ 1 ≤ d.2.2 ∧ d.2.2 ≤ 5
def SE (e : Ed) : Prop := S5 e.1 ∧ -101000 ≤ e.2 ∧ e.2 ≤ 101000
def rateQ (d : Dr) (v : Rat × Rat) : Rat := (qi d.1 * v.1 + qi d.2.1 * v.2) / qi d.2.2
def gapQ (e : Ed) (v : Rat × Rat) : Rat := rateQ e.1 v - Rat.divInt e.2 e.1.2.2
def QV (N D : Nat) (v : Rat × Rat) : Prop := QB N D v.1 ∧ QB N D v.2
theorem QV.mono {v : Rat × Rat} {N D N' D' : Nat} (h : QV N D v) (h1 : N ≤ N') (h2 : D ≤ D') : QV N' D' v := ⟨qb_mono h.1 h1 h2, qb_mono h.2 h1 h2⟩
theorem qb5 {n : Int} (h : -5 ≤ n) (h' : n ≤ 5) : QB 5 1 (qi n) := qb_qi (by omega)
theorem dotQ_qb {d : Dr} {v : Rat × Rat} {N D : Nat} (hd : S5 d) (hv : QV N D v) : QB (5 * N * D + 5 * N * D) (D * D) (qi d.1 * v.1 + qi d.2.1 * v.2) := by
  obtain ⟨h1, h2, h3, h4, h5, h6⟩ := hd
  have := qb_add (qb_mul (qb5 h1 h2) hv.1) (qb_mul (qb5 h3 h4) hv.2)
  simpa [Nat.one_mul] using this
theorem rateQ_qb {d : Dr} {v : Rat × Rat} {N D : Nat} (hd : S5 d) (hv : QV N D v) : QB (10 * N * D) (5 * D * D) (rateQ d v) := by
  have h := qb_div (dotQ_qb hd hv) (qb5 (n := d.2.2) (by have := hd.2.2.2.2; omega) hd.2.2.2.2.2) (by omega)
  refine qb_mono h (by rw [Nat.mul_one, show 10 * N * D = 5 * N * D + 5 * N * D by rw [Nat.mul_assoc, Nat.mul_assoc]; omega]; exact Nat.le_refl _) (by rw [Nat.mul_comm (D * D) 5, ← Nat.mul_assoc]; exact Nat.le_refl _)
theorem at_qb {e : Ed} (h : SE e) : QB 101000 5 (Rat.divInt e.2 e.1.2.2) := by
  obtain ⟨⟨_, _, _, _, h5, h6⟩, h7, h8⟩ := h
  have := qb_of (p := e.2) (q := e.1.2.2.toNat) (N := 101000) (D := 5) (by omega) (by omega) (by omega)
  rwa [Int.toNat_of_nonneg (by omega)] at this
theorem gapQ_qb {e : Ed} {v : Rat × Rat} {N D : Nat} (h : SE e) (hv : QV N D v) : QB (10 * N * D * 5 + 101000 * (5 * D * D)) (5 * D * D * 5) (gapQ e v) := qb_sub (rateQ_qb h.1 hv) (at_qb h)

abbrev pV (v : Rat × Rat) : PV := .agg (eV v)
theorem k_rate (d : Dr) (v : Rat × Rat) (hd : S5 d) (hv : QV 100000 4000 v) : PureC Tryz.prog 183 [pD d, pV v] (pQ (rateQ d v)) := by
  have hs := hd
  obtain ⟨d1, d2, d3, d4, d5, d6⟩ := hd
  have hq1 := qb5 d1 d2
  have hq2 := qb5 d3 d4
  have hq3 := qb5 (n := d.2.2) (by omega) d6
  refine PureC.of Tryz.func183 rfl Tryz.ntmps183 (vs := [.cell 4 31]) rfl (Nat.le_of_ble_eq_true rfl) rfl fun cx _ _ => ?_
  refine AWP.seq ?_
  refine AWP.region ?_
  refine OPS.a rfl (st_box rfl rfl) ?_
  refine OPS.a rfl (st_box rfl rfl) ?_
  refine OPS.a rfl (st_alloc ze31) ?_
  refine OPS.nil ?_
  refine AWP.seq ?_
  refine AWP.drw mixed ?_
  refine DRW.p rfl (by exact st_field_p off81_0 rfl) ?_
  refine DRW.p rfl (by exact st_load_vs sc3 rfl rfl rfl) ?_
  refine DRW.p rfl (st_call (L := [((.tmp 6), _), ((.const (.int .i64 1)), _)]) false pl57 ⟨rfl, rfl, trivial⟩ rfl (k_qOf d.1 1 (by unfold Sml; omega) (by unfold Sml; omega)) rfl) ?_
  refine DRW.p rfl (by exact st_field_p off72_0 rfl) ?_
  refine DRW.p rfl (by exact st_load_va ag31 rfl rfl rfl rfl) ?_
  refine DRW.p rfl (st_call (L := [((.tmp 7), _), ((.tmp 9), _)]) false pl67 ⟨rfl, rfl, trivial⟩ rfl (b_qMul 5 1 100000 4000 hq1 hv.1 rfl rfl rfl rfl) rfl) ?_
  refine DRW.p rfl (by exact st_field_p off81_1 rfl) ?_
  refine DRW.p rfl (by exact st_load_vs sc3 rfl rfl rfl) ?_
  refine DRW.p rfl (st_call (L := [((.tmp 12), _), ((.const (.int .i64 1)), _)]) false pl57 ⟨rfl, rfl, trivial⟩ rfl (k_qOf d.2.1 1 (by unfold Sml; omega) (by unfold Sml; omega)) rfl) ?_
  refine DRW.p rfl (by exact st_field_p off72_1 rfl) ?_
  refine DRW.p rfl (by exact st_load_va ag31 rfl rfl rfl rfl) ?_
  refine DRW.p rfl (st_call (L := [((.tmp 13), _), ((.tmp 15), _)]) false pl67 ⟨rfl, rfl, trivial⟩ rfl (b_qMul 5 1 100000 4000 hq2 hv.2 rfl rfl rfl rfl) rfl) ?_
  refine DRW.p rfl (st_call (L := [((.tmp 10), _), ((.tmp 16), _)]) false pl129 ⟨rfl, rfl, trivial⟩ rfl (b_qAdd (5 * 100000) (1 * 4000) (5 * 100000) (1 * 4000) (qb_mul hq1 hv.1) (qb_mul hq2 hv.2) rfl rfl rfl rfl rfl rfl rfl rfl) rfl) ?_
  refine DRW.p rfl (by exact st_field_p off81_2 rfl) ?_
  refine DRW.p rfl (by exact st_load_vs sc3 rfl rfl rfl) ?_
  refine DRW.p rfl (st_call (L := [((.tmp 19), _), ((.const (.int .i64 1)), _)]) false pl57 ⟨rfl, rfl, trivial⟩ rfl (k_qOf d.2.2 1 (by unfold Sml; omega) (by unfold Sml; omega)) rfl) ?_
  refine DRW.p rfl (st_call (L := [((.tmp 17), _), ((.tmp 20), _)]) false pl126 ⟨rfl, rfl, trivial⟩ rfl (b_qDiv _ _ 5 1 (dotQ_qb hs hv) hq3 rfl rfl rfl rfl) rfl) ?_
  refine DRW.s (by exact st_store_v sz31 rfl rfl rfl rfl rfl rfl) ?_
  refine DRW.nil (by kernel_rfl) ?_
  refine AWP.ret ?_
  exact Ret.mk rfl rfl

theorem k_Gap (e : Ed) (v : Rat × Rat) (he : SE e) (hv : QV 100000 4000 v) : PureC Tryz.prog 70 [pE e, pV v] (pQ (gapQ e v)) := by
  have hb := he
  obtain ⟨⟨d1, d2, d3, d4, d5, d6⟩, a1, a2⟩ := he
  refine PureC.of Tryz.func70 rfl Tryz.ntmps70 (vs := [.cell 4 31]) rfl (Nat.le_of_ble_eq_true rfl) rfl fun cx _ _ => ?_
  refine AWP.seq ?_
  refine AWP.region ?_
  refine OPS.a rfl (st_box rfl rfl) ?_
  refine OPS.a rfl (st_box rfl rfl) ?_
  refine OPS.a rfl (st_alloc ze31) ?_
  refine OPS.nil ?_
  refine AWP.seq ?_
  refine AWP.drw mixed ?_
  refine DRW.p rfl (by exact st_field_p off83_0 rfl) ?_
  refine DRW.p rfl (by exact st_load_va ag81 rfl rfl rfl rfl) ?_
  refine DRW.p rfl (by exact st_load_va ag72 rfl rfl rfl rfl) ?_
  refine DRW.p rfl (st_call (L := [((.tmp 6), _), ((.tmp 7), _)]) false pl183 ⟨rfl, rfl, trivial⟩ rfl (k_rate e.1 v hb.1 hv) rfl) ?_
  refine DRW.p rfl (by exact st_field_p off83_1 rfl) ?_
  refine DRW.p rfl (by exact st_load_vs sc3 rfl rfl rfl) ?_
  refine DRW.p rfl (by exact st_field_p off83_0 rfl) ?_
  refine DRW.p rfl (by exact st_field_p off81_2 rfl) ?_
  refine DRW.p rfl (by exact st_load_vs sc3 rfl rfl rfl) ?_
  refine DRW.p rfl (st_call (L := [((.tmp 10), _), ((.tmp 13), _)]) false pl57 ⟨rfl, rfl, trivial⟩ rfl (k_qOf e.2 e.1.2.2 (by unfold Sml; omega) (by unfold Sml; omega)) rfl) ?_
  refine DRW.p rfl (st_call (L := [((.tmp 8), _), ((.tmp 14), _)]) false pl182 ⟨rfl, rfl, trivial⟩ rfl (b_qSub _ _ _ _ (rateQ_qb hb.1 hv) (at_qb hb) rfl rfl rfl rfl rfl rfl rfl rfl) rfl) ?_
  refine DRW.s (by exact st_store_v sz31 rfl rfl rfl rfl rfl rfl) ?_
  refine DRW.nil (by kernel_rfl) ?_
  refine AWP.ret ?_
  exact Ret.mk rfl rfl
end Go.Proofs.Gh.Tryz
end
section
set_option linter.unusedVariables false
set_option linter.unusedSimpArgs false
set_option maxRecDepth 4000
namespace Go.Proofs.Gh.Tryz
open Go Go.Proofs Go.Proofs.Gh

theorem fR_nil {l : List Rat} (h : fR eQ l = []) : l = [] := by
  cases l with
  | nil => rfl
  | cons a l => simp [fR, eQ] at h

theorem k_CloneQ (l : List Rat) (hl : l.length ≤ 1000) : PureC Tryz.prog 154 [pQs l] (pQs l) := by
  have hnil := @fR_nil l
  refine PureC.of Tryz.func154 rfl Tryz.ntmps154 (vs := [.tmp 2]) rfl (Nat.le_of_ble_eq_true rfl) rfl fun cx _ _ => ?_
  refine AWP.seq ?_
  refine AWP.region ?_
  refine OPS.p rfl (st_assign rfl) ?_
  refine OPS.nil ?_
  refine AWP.seq ?_
  refine AWP.seq ?_
  refine AWP.region ?_
  refine OPS.p rfl (st_move rfl) ?_
  refine OPS.nilq un24 rfl rfl (fun nb1 nh1 => ?_)
  refine OPS.nil ?_
  refine AWP.cond rfl (fun hc1 => ?_) (fun hc1 => ?_)
  · refine AWP.seq ?_
    refine AWP.region ?_
    refine OPS.p rfl (st_assign rfl) ?_
    refine OPS.nil ?_
    refine AWP.ret ?_
    have := hnil (nh1 hc1)
    subst this
    exact rfl
  · refine AWP.skip ?_
    refine AWP.seq ?_
    refine AWP.region ?_
    refine OPS.a rfl (st_buildS (L := []) ei24 rfl trivial rfl rfl) ?_
    refine OPS.p rfl (st_move rfl) ?_
    refine OPS.a rfl (Stp.frz (st_append_R (rows := []) (v := l) ei24 un24 rfl rfl rfl rfl (fun _ => rfl) rfl rfl (by simp; omega) (by simp; omega)) rfl) ?_
    refine OPS.p rfl (st_assign rfl) ?_
    refine OPS.nil ?_
    refine AWP.ret ?_
    exact Ret.mk rfl rfl

def trimN (l : List Rat) : Nat → Nat
  | 0 => 0
  | n + 1 => if l.getD n default = 0 then trimN l n else n + 1
def trimQ (l : List Rat) : List Rat := l.take (trimN l l.length)
theorem trimN_le (l : List Rat) : ∀ n, trimN l n ≤ n
  | 0 => Nat.le_refl _
  | n + 1 => by
    unfold trimN
    split
    · have := trimN_le l n; omega
    · exact Nat.le_refl _
theorem sign_zero {a : Rat} : a.num.sign = 0 ↔ a = 0 := by rw [Int.sign_eq_zero_iff_zero, Rat.num_eq_zero]

theorem k_Trim (l : List Rat) (hl : l.length ≤ 1000) : PureC Tryz.prog 155 [pQs l] (pQs (trimQ l)) := by
  refine PureC.of Tryz.func155 rfl Tryz.ntmps155 (vs := [.tmp 2]) rfl (Nat.le_of_ble_eq_true rfl) rfl fun cx _ _ => ?_
  refine AWP.seq ?_
  refine AWP.region ?_
  refine OPS.p rfl (st_assign rfl) ?_
  refine OPS.nil ?_
  refine AWP.seq ?_
  refine AWP.region ?_
  refine OPS.p rfl (st_move rfl) ?_
  refine OPS.p rfl (st_len un23 rfl rfl) ?_
  refine OPS.p rfl (st_assign rfl) ?_
  refine OPS.nil ?_
  refine AWP.seq ?_
  refine AWP.block ?_
  refine AWP.loopR (σ := Nat) (fun (zz : Nat) => ⟨[(0, pQs l), (3, pI zz)], [], 0⟩) (fun (zz : Nat) => zz ≤ l.length ∧ trimN l zz = trimN l l.length) (fun (zz : Nat) => zz) (l.length) (Sub.r (Sub.mk' ⟨(by rfl), (by rfl), trivial⟩ trivial (by exact Nat.le_refl _))) (by exact ⟨Nat.le_refl _, rfl⟩) ?_
  rintro n hinv
  have hinv : n ≤ l.length ∧ trimN l n = trimN l l.length := hinv
  obtain ⟨h1, h2⟩ := hinv
  show AWP _ _ _ _ _ _ _ ⟨[(0, pQs l), (3, pI n)], [], 0⟩
  refine AWP.seq ?_
  refine AWP.seq ?_
  refine AWP.region ?_
  refine OPS.p rfl (st_move rfl) ?_
  refine OPS.p rfl (st_gtr rfl rfl) ?_
  refine OPS.p rfl (st_move rfl) ?_
  refine OPS.split (g := 8) rfl (fun eg2_2 g2_2 => ?_) (fun eg2_2 g2_2 => ?_)
  · obtain ⟨k, rfl⟩ : ∃ k, n = k + 1 := ⟨n - 1, by omega⟩
    have hs := @sign_zero (l.getD k default)
    refine OPS.pG rfl rfl rfl eg2_2 (st_move rfl) ?_
    refine OPS.pG rfl rfl rfl eg2_2 (st_move rfl) ?_
    refine OPS.pG rfl rfl rfl eg2_2 (st_sub' (v := (k : Int)) rfl rfl (by rw [w64 (by omega) (by omega)]; omega)) ?_
    refine OPS.pG rfl rfl rfl eg2_2 (by exact st_index_R es23 rfl rfl (fun _ => rfl) rfl (by omega) (by omega) (by rfl)) ?_
    refine OPS.pG rfl rfl rfl eg2_2 (by exact st_load_Rn ag31 rfl (fun _ => rfl) rfl (by omega)) ?_
    refine OPS.pG rfl rfl rfl eg2_2 (st_call (L := [((.tmp 13), _)]) false pl69 ⟨rfl, trivial⟩ rfl (k_qSign (l.getD k default)) rfl) ?_
    refine OPS.pG rfl rfl rfl eg2_2 (st_eql rfl rfl) ?_
    refine OPS.p rfl (st_pickT rfl eg2_2 rfl) ?_
    refine OPS.nil ?_
    refine AWP.condD rfl (fun hc2 => ?_) (fun hc2 => ?_)
    · refine AWP.skip ?_
      refine AWP.block ?_
      refine AWP.region ?_
      refine OPS.p rfl (st_move rfl) ?_
      refine OPS.p rfl (st_sub' (v := (k : Int)) rfl rfl (by rw [w64 (by omega) (by omega)]; omega)) ?_
      refine OPS.p rfl (st_assign rfl) ?_
      refine OPS.nil ?_
      refine ⟨(k), (Sub.r (Sub.mk' ⟨(by rfl), (by rfl), trivial⟩ trivial (by exact Nat.le_refl _))), ?_, ?_⟩
      · try dsimp only
        refine ⟨by omega, ?_⟩
        rw [← h2, trimN, if_pos (hs.1 (by omega))]
      · try dsimp only
        omega
    · have hst : trimN l l.length = k + 1 := by
        rw [← h2, trimN, if_neg (fun e => hc2 (by rw [hs.2 e]))]
      generalize hn : k + 1 = n at *
      refine AWP.exit ?_
      refine AWP.seq ?_
      refine AWP.region ?_
      refine OPS.p rfl (st_move rfl) ?_
      refine OPS.p rfl (st_move rfl) ?_
      refine OPS.p rfl (st_slice_hR (n := n) (rows := l) es23 rfl rfl (fun _ => rfl) rfl h1) ?_
      refine OPS.p rfl (st_call (L := [((.tmp 21), _)]) false pl154 ⟨rfl, trivial⟩ rfl (k_CloneQ (l.take n) (by rw [List.length_take]; omega)) rfl) ?_
      refine OPS.p rfl (st_assign rfl) ?_
      refine OPS.nil ?_
      refine AWP.ret ?_
      exact Ret.mk rfl (by rw [trimQ, hst])
  · refine OPS.nO rfl rfl rfl eg2_2 ?_
    refine OPS.nO rfl rfl rfl eg2_2 ?_
    refine OPS.nO rfl rfl rfl eg2_2 ?_
    refine OPS.nO rfl rfl rfl eg2_2 ?_
    refine OPS.nO rfl rfl rfl eg2_2 ?_
    refine OPS.nO rfl rfl rfl eg2_2 ?_
    refine OPS.nO rfl rfl rfl eg2_2 ?_
    refine OPS.p rfl (st_pickF rfl eg2_2 rfl) ?_
    refine OPS.nil ?_
    refine AWP.cond_f rfl (rfl) ?_
    refine AWP.exit ?_
    refine AWP.seq ?_
    refine AWP.region ?_
    refine OPS.p rfl (st_move rfl) ?_
    refine OPS.p rfl (st_move rfl) ?_
    refine OPS.p rfl (st_slice_hR (n := n) (rows := l) es23 rfl rfl (fun _ => rfl) rfl h1) ?_
    refine OPS.p rfl (st_call (L := [((.tmp 21), _)]) false pl154 ⟨rfl, trivial⟩ rfl (k_CloneQ (l.take n) (by rw [List.length_take]; omega)) rfl) ?_
    refine OPS.p rfl (st_assign rfl) ?_
    refine OPS.nil ?_
    refine AWP.ret ?_
    obtain rfl : n = 0 := by omega
    exact Ret.mk rfl (by rw [trimQ, ← h2]; rfl)
end Go.Proofs.Gh.Tryz
end
section
set_option linter.unusedVariables false
set_option linter.unusedSimpArgs false
set_option maxRecDepth 4000
namespace Go.Proofs.Gh.Tryz
open Go Go.Proofs Go.Proofs.Gh

def alongL (e : Ed) (r v a : Rat × Rat) : List Rat := [gapQ e r, rateQ e.1 v, rateQ e.1 a * Rat.divInt 1 2]
theorem k_Along (e : Ed) (r v a : Rat × Rat) (he : SE e) (hr : QV 100000 4000 r) (hv : QV 100000 4000 v) (ha : QV 100000 4000 a) : PureC Tryz.prog 176 [pE e, pV r, pV v, pV a] (pQs (trimQ (alongL e r v a))) := by
  refine PureC.of Tryz.func176 rfl Tryz.ntmps176 (vs := [.tmp 8]) rfl (Nat.le_of_ble_eq_true rfl) rfl fun cx _ _ => ?_
  refine AWP.seq ?_
  refine AWP.region ?_
  refine OPS.a rfl (st_box rfl rfl) ?_
  refine OPS.a rfl (st_box rfl rfl) ?_
  refine OPS.a rfl (st_box rfl rfl) ?_
  refine OPS.a rfl (st_box rfl rfl) ?_
  refine OPS.p rfl (st_assign rfl) ?_
  refine OPS.nil ?_
  refine AWP.seq ?_
  refine AWP.drw mixed ?_
  refine DRW.p rfl (by exact st_load_va ag83 rfl rfl rfl rfl) ?_
  refine DRW.p rfl (by exact st_load_va ag72 rfl rfl rfl rfl) ?_
  refine DRW.p rfl (st_call (L := [((.tmp 9), _), ((.tmp 10), _)]) false pl70 ⟨rfl, rfl, trivial⟩ rfl (k_Gap e r he hr) rfl) ?_
  refine DRW.p rfl (by exact st_field_p off83_0 rfl) ?_
  refine DRW.p rfl (by exact st_load_va ag81 rfl rfl rfl rfl) ?_
  refine DRW.p rfl (by exact st_load_va ag72 rfl rfl rfl rfl) ?_
  refine DRW.p rfl (st_call (L := [((.tmp 13), _), ((.tmp 14), _)]) false pl183 ⟨rfl, rfl, trivial⟩ rfl (k_rate e.1 v he.1 hv) rfl) ?_
  refine DRW.p rfl (by exact st_field_p off83_0 rfl) ?_
  refine DRW.p rfl (by exact st_load_va ag81 rfl rfl rfl rfl) ?_
  refine DRW.p rfl (by exact st_load_va ag72 rfl rfl rfl rfl) ?_
  refine DRW.p rfl (st_call (L := [((.tmp 17), _), ((.tmp 18), _)]) false pl183 ⟨rfl, rfl, trivial⟩ rfl (k_rate e.1 a he.1 ha) rfl) ?_
  refine DRW.p rfl (st_call (L := [((.const (.int .i64 1)), _), ((.const (.int .i64 2)), _)]) false pl57 ⟨rfl, rfl, trivial⟩ rfl (k_qOf 1 2 (by unfold Sml; omega) (by unfold Sml; omega)) rfl) ?_
  refine DRW.p rfl (st_call (L := [((.tmp 19), _), ((.tmp 20), _)]) false pl67 ⟨rfl, rfl, trivial⟩ rfl (b_qMul _ _ 1 2 (rateQ_qb he.1 ha) (qb_of (q := 2) (by omega) (by omega) (by omega)) rfl rfl rfl rfl) rfl) ?_
  refine DRW.a rfl (Stp.frz (st_buildS (L := [(0, (.tmp 11), _), (1, (.tmp 15), _), (2, (.tmp 21), _)]) ei23 rfl ⟨rfl, rfl, rfl, trivial⟩ rfl rfl) rfl) ?_
  refine DRW.p rfl (st_call (L := [((.tmp 22), _)]) false pl155 ⟨rfl, trivial⟩ rfl (k_Trim [gapQ e r, rateQ e.1 v, rateQ e.1 a * Rat.divInt 1 2] (by simp)) rfl) ?_
  refine DRW.p rfl (st_assign rfl) ?_
  refine DRW.nil (by kernel_rfl) ?_
  refine AWP.ret ?_
  exact Ret.mk rfl rfl

def atQ (p : List Rat) : Rat := -p.getD 1 default / (p.getD 2 default * qi 2)
def staysQ (p : List Rat) : Bool :=
  if (evalQ p 0).num.sign < 0 then false else if (evalQ p (qi 1)).num.sign < 0 then false else
  if (p.length : Int) < 3 then true else if (p.getD 2 default).num.sign < 0 then true else
  if (atQ p).num.sign ≤ 0 then true else if 0 ≤ cmpQ (atQ p) (qi 1) then true else decide (0 ≤ (evalQ p (atQ p)).num.sign)
/-- Each step that the test takes comes to what it should. -/
structure StOK (p : List Rat) : Prop where
  len : p.length ≤ 3
  e0 : PureC Tryz.prog 125 [pQs p, pQ 0] (pQ (evalQ p 0))
  e1 : PureC Tryz.prog 125 [pQs p, pQ (qi 1)] (pQ (evalQ p (qi 1)))
  mul : ¬ p.length < 3 → PureC Tryz.prog 67 [pQ (p.getD 2 default), pQ (qi 2)] (pQ (p.getD 2 default * qi 2))
  div : ¬ p.length < 3 → PureC Tryz.prog 126 [pQ (-p.getD 1 default), pQ (p.getD 2 default * qi 2)] (pQ (atQ p))
  cmp : ¬ p.length < 3 → PureC Tryz.prog 128 [pQ (atQ p), pQ (qi 1)] (pI (cmpQ (atQ p) (qi 1)))
  ea : ¬ p.length < 3 → ¬ (p.getD 2 default).num.sign < 0 → ¬ (atQ p).num.sign ≤ 0 → PureC Tryz.prog 125 [pQs p, pQ (atQ p)] (pQ (evalQ p (atQ p)))

theorem k_Stays (p : List Rat) (h : StOK p) : PureC Tryz.prog 55 [pQs p] (pB (staysQ p)) := by
  have hlen := h.len
  have h0z : PureC Tryz.prog 125 [pQs p, .agg [.bool false, .sl 0 [], .bool false, .sl 0 []]] (pQ (evalQ p 0)) := by rw [← eQ_zero]; exact h.e0
  refine PureC.of Tryz.func55 rfl Tryz.ntmps55 (vs := [.tmp 2]) rfl (Nat.le_of_ble_eq_true rfl) rfl fun cx _ _ => ?_
  refine AWP.seq ?_
  refine AWP.region ?_
  refine OPS.p rfl (st_assign rfl) ?_
  refine OPS.nil ?_
  refine AWP.seq ?_
  refine AWP.region ?_
  refine OPS.p rfl (st_call (L := [((.const (.int .i64 1)), _), ((.const (.int .i64 1)), _)]) false pl57 ⟨rfl, rfl, trivial⟩ rfl (k_qOf 1 1 (by unfold Sml; omega) (by unfold Sml; omega)) rfl) ?_
  refine OPS.a rfl (st_alloc ze31) ?_
  refine OPS.s (by exact st_store_v sz31 rfl rfl rfl rfl rfl rfl) ?_
  refine OPS.nil ?_
  refine AWP.seq ?_
  refine AWP.seq ?_
  refine AWP.region ?_
  refine OPS.p rfl (st_move rfl) ?_
  refine OPS.p rfl (st_build (L := []) zf31 pl_31 trivial rfl rfl) ?_
  refine OPS.p rfl (st_call (L := [((.tmp 6), _), ((.tmp 7), _)]) false pl125 ⟨rfl, rfl, trivial⟩ rfl (h0z) rfl) ?_
  refine OPS.p rfl (st_call (L := [((.tmp 8), _)]) false pl69 ⟨rfl, trivial⟩ rfl (k_qSign (evalQ p 0)) rfl) ?_
  refine OPS.p rfl (st_lss rfl rfl) ?_
  refine OPS.p rfl (st_move rfl) ?_
  refine OPS.split (g := 11) rfl (fun eg2_5 g2_5 => ?_) (fun eg2_5 g2_5 => ?_)
  · refine OPS.nO rfl rfl rfl eg2_5 ?_
    refine OPS.nO rfl rfl rfl eg2_5 ?_
    refine OPS.nO rfl rfl rfl eg2_5 ?_
    refine OPS.nO rfl rfl rfl eg2_5 ?_
    refine OPS.nO rfl rfl rfl eg2_5 ?_
    refine OPS.p rfl (st_pickT rfl eg2_5 rfl) ?_
    refine OPS.nil ?_
    refine AWP.cond_t rfl (rfl) ?_
    refine AWP.seq ?_
    refine AWP.region ?_
    refine OPS.p rfl (st_assign rfl) ?_
    refine OPS.nil ?_
    refine AWP.ret ?_
    exact Ret.mk rfl (congrArg pB (by rw [staysQ, if_pos g2_5]))
  · refine OPS.pG rfl rfl rfl eg2_5 (st_move rfl) ?_
    refine OPS.pG rfl rfl rfl eg2_5 (by exact st_load_va ag31 rfl rfl rfl rfl) ?_
    refine OPS.pG rfl rfl rfl eg2_5 (st_call (L := [((.tmp 12), _), ((.tmp 13), _)]) false pl125 ⟨rfl, rfl, trivial⟩ rfl (h.e1) rfl) ?_
    refine OPS.pG rfl rfl rfl eg2_5 (st_call (L := [((.tmp 14), _)]) false pl69 ⟨rfl, trivial⟩ rfl (k_qSign (evalQ p (qi 1))) rfl) ?_
    refine OPS.pG rfl rfl rfl eg2_5 (st_lss rfl rfl) ?_
    refine OPS.p rfl (st_pickF rfl eg2_5 rfl) ?_
    refine OPS.nil ?_
    refine AWP.condD rfl (fun hc2 => ?_) (fun hc2 => ?_)
    · refine AWP.seq ?_
      refine AWP.region ?_
      refine OPS.p rfl (st_assign rfl) ?_
      refine OPS.nil ?_
      refine AWP.ret ?_
      exact Ret.mk rfl (congrArg pB (by rw [staysQ, if_neg g2_5, if_pos hc2]))
    · refine AWP.skip ?_
      refine AWP.seq ?_
      refine AWP.seq ?_
      refine AWP.region ?_
      refine OPS.p rfl (st_move rfl) ?_
      refine OPS.p rfl (st_len un24 rfl rfl) ?_
      refine OPS.p rfl (st_lss rfl rfl) ?_
      refine OPS.p rfl (st_move rfl) ?_
      refine OPS.split (g := 21) rfl (fun eg4_3 g4_3 => ?_) (fun eg4_3 g4_3 => ?_)
      · refine OPS.nO rfl rfl rfl eg4_3 ?_
        refine OPS.nO rfl rfl rfl eg4_3 ?_
        refine OPS.nO rfl rfl rfl eg4_3 ?_
        refine OPS.nO rfl rfl rfl eg4_3 ?_
        refine OPS.nO rfl rfl rfl eg4_3 ?_
        refine OPS.p rfl (st_pickT rfl eg4_3 rfl) ?_
        refine OPS.nil ?_
        refine AWP.cond_t rfl (rfl) ?_
        refine AWP.seq ?_
        refine AWP.region ?_
        refine OPS.p rfl (st_assign rfl) ?_
        refine OPS.nil ?_
        refine AWP.ret ?_
        exact Ret.mk rfl (congrArg pB (by rw [staysQ, if_neg g2_5, if_neg hc2, if_pos g4_3]))
      · refine OPS.pG rfl rfl rfl eg4_3 (st_move rfl) ?_
        refine OPS.pG rfl rfl rfl eg4_3 (by exact st_index_R es24 rfl rfl (fun _ => rfl) rfl (by omega) (by omega) (by rfl)) ?_
        refine OPS.pG rfl rfl rfl eg4_3 (by exact st_load_Rn ag31 rfl (fun _ => rfl) rfl (by (simp; omega))) ?_
        refine OPS.pG rfl rfl rfl eg4_3 (st_call (L := [((.tmp 24), _)]) false pl69 ⟨rfl, trivial⟩ rfl (k_qSign (p.getD 2 default)) rfl) ?_
        refine OPS.pG rfl rfl rfl eg4_3 (st_lss rfl rfl) ?_
        refine OPS.p rfl (st_pickF rfl eg4_3 rfl) ?_
        refine OPS.nil ?_
        refine AWP.condD rfl (fun hc4 => ?_) (fun hc4 => ?_)
        · refine AWP.seq ?_
          refine AWP.region ?_
          refine OPS.p rfl (st_assign rfl) ?_
          refine OPS.nil ?_
          refine AWP.ret ?_
          exact Ret.mk rfl (congrArg pB (by rw [staysQ, if_neg g2_5, if_neg hc2, if_neg g4_3, if_pos hc4]))
        · refine AWP.skip ?_
          refine AWP.seq ?_
          have hl3 : ¬ p.length < 3 := by omega
          refine AWP.drw mixed ?_
          refine DRW.p rfl (st_move rfl) ?_
          refine DRW.p rfl (by exact st_index_R es24 rfl rfl (fun _ => rfl) rfl (by omega) (by omega) (by rfl)) ?_
          refine DRW.p rfl (by exact st_load_Rn ag31 rfl (fun _ => rfl) rfl (by (simp; omega))) ?_
          refine DRW.p rfl (st_call (L := [((.tmp 30), _)]) false pl127 ⟨rfl, trivial⟩ rfl (k_qNeg (p.getD 1 default)) rfl) ?_
          refine DRW.p rfl (st_move rfl) ?_
          refine DRW.p rfl (by exact st_index_R es24 rfl rfl (fun _ => rfl) rfl (by omega) (by omega) (by rfl)) ?_
          refine DRW.p rfl (by exact st_load_Rn ag31 rfl (fun _ => rfl) rfl (by (simp; omega))) ?_
          refine DRW.p rfl (st_call (L := [((.const (.int .i64 2)), _), ((.const (.int .i64 1)), _)]) false pl57 ⟨rfl, rfl, trivial⟩ rfl (k_qOf 2 1 (by unfold Sml; omega) (by unfold Sml; omega)) rfl) ?_
          refine DRW.p rfl (st_call (L := [((.tmp 34), _), ((.tmp 35), _)]) false pl67 ⟨rfl, rfl, trivial⟩ rfl (h.mul hl3) rfl) ?_
          refine DRW.p rfl (st_call (L := [((.tmp 31), _), ((.tmp 36), _)]) false pl126 ⟨rfl, rfl, trivial⟩ rfl (h.div hl3) rfl) ?_
          refine DRW.a rfl (st_alloc ze31) ?_
          refine DRW.s (by exact st_store_v sz31 rfl rfl rfl rfl rfl rfl) ?_
          refine DRW.nil (by kernel_rfl) ?_
          refine AWP.seq ?_
          refine AWP.region ?_
          refine OPS.p rfl (by exact st_load_va ag31 rfl rfl rfl rfl) ?_
          refine OPS.p rfl (st_call (L := [((.tmp 38), _)]) false pl69 ⟨rfl, trivial⟩ rfl (k_qSign (atQ p)) rfl) ?_
          refine OPS.p rfl (st_leq rfl rfl) ?_
          refine OPS.p rfl (st_move rfl) ?_
          refine OPS.split (g := 41) rfl (fun eg7_3 g7_3 => ?_) (fun eg7_3 g7_3 => ?_)
          · refine OPS.nO rfl rfl rfl eg7_3 ?_
            refine OPS.nO rfl rfl rfl eg7_3 ?_
            refine OPS.nO rfl rfl rfl eg7_3 ?_
            refine OPS.nO rfl rfl rfl eg7_3 ?_
            refine OPS.p rfl (st_pickT rfl eg7_3 rfl) ?_
            refine OPS.p rfl (st_move rfl) ?_
            refine OPS.nO rfl rfl rfl (rfl) ?_
            refine OPS.nO rfl rfl rfl (rfl) ?_
            refine OPS.nO rfl rfl rfl (rfl) ?_
            refine OPS.nO rfl rfl rfl (rfl) ?_
            refine OPS.nO rfl rfl rfl (rfl) ?_
            refine OPS.p rfl (st_pickT rfl (rfl) rfl) ?_
            refine OPS.p rfl (st_assign rfl) ?_
            refine OPS.nil ?_
            refine AWP.ret ?_
            exact Ret.mk rfl (congrArg pB (by rw [staysQ, if_neg g2_5, if_neg hc2, if_neg g4_3, if_neg hc4, if_pos g7_3]))
          · refine OPS.pG rfl rfl rfl eg7_3 (by exact st_load_va ag31 rfl rfl rfl rfl) ?_
            refine OPS.pG rfl rfl rfl eg7_3 (by exact st_load_va ag31 rfl rfl rfl rfl) ?_
            refine OPS.pG rfl rfl rfl eg7_3 (st_call (L := [((.tmp 42), _), ((.tmp 43), _)]) false pl128 ⟨rfl, rfl, trivial⟩ rfl (h.cmp hl3) rfl) ?_
            refine OPS.pG rfl rfl rfl eg7_3 (st_geq rfl rfl) ?_
            refine OPS.p rfl (st_pickF rfl eg7_3 rfl) ?_
            refine OPS.p rfl (st_move rfl) ?_
            refine OPS.split (g := 47) rfl (fun eg7_9 g7_9 => ?_) (fun eg7_9 g7_9 => ?_)
            · refine OPS.nO rfl rfl rfl eg7_9 ?_
              refine OPS.nO rfl rfl rfl eg7_9 ?_
              refine OPS.nO rfl rfl rfl eg7_9 ?_
              refine OPS.nO rfl rfl rfl eg7_9 ?_
              refine OPS.nO rfl rfl rfl eg7_9 ?_
              refine OPS.p rfl (st_pickT rfl eg7_9 rfl) ?_
              refine OPS.p rfl (st_assign rfl) ?_
              refine OPS.nil ?_
              refine AWP.ret ?_
              exact Ret.mk rfl (congrArg pB (by rw [staysQ, if_neg g2_5, if_neg hc2, if_neg g4_3, if_neg hc4, if_neg g7_3, if_pos g7_9]))
            · refine OPS.pG rfl rfl rfl eg7_9 (st_move rfl) ?_
              refine OPS.pG rfl rfl rfl eg7_9 (by exact st_load_va ag31 rfl rfl rfl rfl) ?_
              refine OPS.pG rfl rfl rfl eg7_9 (st_call (L := [((.tmp 48), _), ((.tmp 49), _)]) false pl125 ⟨rfl, rfl, trivial⟩ rfl (h.ea hl3 hc4 g7_3) rfl) ?_
              refine OPS.pG rfl rfl rfl eg7_9 (st_call (L := [((.tmp 50), _)]) false pl69 ⟨rfl, trivial⟩ rfl (k_qSign (evalQ p (atQ p))) rfl) ?_
              refine OPS.pG rfl rfl rfl eg7_9 (st_geq rfl rfl) ?_
              refine OPS.p rfl (st_pickF rfl eg7_9 rfl) ?_
              refine OPS.p rfl (st_assign rfl) ?_
              refine OPS.nil ?_
              refine AWP.ret ?_
              exact Ret.mk rfl (congrArg pB (by rw [staysQ, if_neg g2_5, if_neg hc2, if_neg g4_3, if_neg hc4, if_neg g7_3, if_neg g7_9]))
end Go.Proofs.Gh.Tryz
end
section
set_option linter.unusedVariables false
set_option linter.unusedSimpArgs false
set_option maxRecDepth 4000
namespace Go.Proofs.Gh.Tryz
open Go Go.Proofs Go.Proofs.Gh

def freeP (r v a : Rat × Rat) (e : Ed) : Bool := staysQ (trimQ (alongL e r v a))
theorem k_Free1 (e : Ed) (r v a : Rat × Rat) (he : SE e) (hr : QV 100000 4000 r) (hv : QV 100000 4000 v) (ha : QV 100000 4000 a) (h : StOK (trimQ (alongL e r v a))) : PureC Tryz.prog 175 [pE e, .fptr (eV r), .fptr (eV v), .fptr (eV a)] (pB (freeP r v a e)) := by
  refine PureC.of Tryz.func175 rfl Tryz.ntmps175 (vs := [.tmp 5]) rfl (Nat.le_of_ble_eq_true rfl) rfl fun cx _ _ => ?_
  refine AWP.seq ?_
  refine AWP.region ?_
  refine OPS.a rfl (st_box rfl rfl) ?_
  refine OPS.p rfl (st_assign rfl) ?_
  refine OPS.nil ?_
  refine AWP.seq ?_
  refine AWP.region ?_
  refine OPS.p rfl (by exact st_load_va ag83 rfl rfl rfl rfl) ?_
  refine OPS.p rfl (by exact st_load_fa ag72 rfl (by exact Nat.le_refl _)) ?_
  refine OPS.p rfl (by exact st_load_fa ag72 rfl (by exact Nat.le_refl _)) ?_
  refine OPS.p rfl (by exact st_load_fa ag72 rfl (by exact Nat.le_refl _)) ?_
  refine OPS.p rfl (st_call (L := [((.tmp 6), _), ((.tmp 7), _), ((.tmp 8), _), ((.tmp 9), _)]) false pl176 ⟨rfl, rfl, rfl, rfl, trivial⟩ rfl (k_Along e r v a he hr hv ha) rfl) ?_
  refine OPS.p rfl (st_call (L := [((.tmp 10), _)]) false pl55 ⟨rfl, trivial⟩ rfl (k_Stays _ h) rfl) ?_
  refine OPS.p rfl (st_assign rfl) ?_
  refine OPS.nil ?_
  refine AWP.ret ?_
  exact Ret.mk rfl rfl
theorem k_Free (l : List Ed) (r v a : Rat × Rat) (hl : l.length ≤ 1000) (he : ∀ e ∈ l, SE e) (hr : QV 100000 4000 r) (hv : QV 100000 4000 v) (ha : QV 100000 4000 a) (h : ∀ e ∈ l, StOK (trimQ (alongL e r v a))) : PureC Tryz.prog 64 [pEs l, pV r, pV v, pV a] (pI (firstI (freeP r v a) l)) := by
  refine PureC.of Tryz.func64 rfl Tryz.ntmps64 (vs := [.tmp 8]) rfl (Nat.le_of_ble_eq_true rfl) rfl fun cx _ _ => ?_
  refine AWP.seq ?_
  refine AWP.region ?_
  refine OPS.a rfl (st_box rfl rfl) ?_
  refine OPS.a rfl (st_box rfl rfl) ?_
  refine OPS.a rfl (st_box rfl rfl) ?_
  refine OPS.p rfl (st_assign rfl) ?_
  refine OPS.nil ?_
  refine AWP.seq ?_
  refine AWP.region ?_
  refine OPS.p rfl (st_move rfl) ?_
  refine OPS.p rfl (st_makeFunc (L := [((.tmp 5), _), ((.tmp 6), _), ((.tmp 7), _)]) ⟨rfl, rfl, rfl, trivial⟩) ?_
  refine OPS.p rfl (st_call (L := [((.tmp 9), _), ((.tmp 10), _)]) false pl174 ⟨rfl, rfl, trivial⟩ rfl (k_IndexE l 175 [eV r, eV v, eV a] (freeP r v a) hl rfl (fun e hm => k_Free1 e r v a (he e hm) hr hv ha (h e hm))) rfl) ?_
  refine OPS.p rfl (st_assign rfl) ?_
  refine OPS.nil ?_
  refine AWP.ret ?_
  exact Ret.mk rfl rfl

def gapP (r : Rat × Rat) (e : Ed) : Bool := decide (0 ≤ (gapQ e r).num.sign)
theorem k_Meet1 (e : Ed) (r : Rat × Rat) (he : SE e) (hr : QV 100000 4000 r) : PureC Tryz.prog 180 [pE e, .fptr (eV r)] (pB (gapP r e)) := by
  refine PureC.of Tryz.func180 rfl Tryz.ntmps180 (vs := [.tmp 3]) rfl (Nat.le_of_ble_eq_true rfl) rfl fun cx _ _ => ?_
  refine AWP.seq ?_
  refine AWP.region ?_
  refine OPS.a rfl (st_box rfl rfl) ?_
  refine OPS.p rfl (st_assign rfl) ?_
  refine OPS.nil ?_
  refine AWP.seq ?_
  refine AWP.region ?_
  refine OPS.p rfl (by exact st_load_va ag83 rfl rfl rfl rfl) ?_
  refine OPS.p rfl (by exact st_load_fa ag72 rfl (by exact Nat.le_refl _)) ?_
  refine OPS.p rfl (st_call (L := [((.tmp 4), _), ((.tmp 5), _)]) false pl70 ⟨rfl, rfl, trivial⟩ rfl (k_Gap e r he hr) rfl) ?_
  refine OPS.p rfl (st_call (L := [((.tmp 6), _)]) false pl69 ⟨rfl, trivial⟩ rfl (k_qSign (gapQ e r)) rfl) ?_
  refine OPS.p rfl (st_geq rfl rfl) ?_
  refine OPS.p rfl (st_assign rfl) ?_
  refine OPS.nil ?_
  refine AWP.ret ?_
  exact Ret.mk rfl rfl
theorem k_Meet (l : List Ed) (r : Rat × Rat) (hl : l.length ≤ 1000) (he : ∀ e ∈ l, SE e) (hr : QV 100000 4000 r) : PureC Tryz.prog 68 [pEs l, pV r] (pB (!l.any (gapP r))) := by
  refine PureC.of Tryz.func68 rfl Tryz.ntmps68 (vs := [.tmp 4]) rfl (Nat.le_of_ble_eq_true rfl) rfl fun cx _ _ => ?_
  refine AWP.seq ?_
  refine AWP.region ?_
  refine OPS.a rfl (st_box rfl rfl) ?_
  refine OPS.p rfl (st_assign rfl) ?_
  refine OPS.nil ?_
  refine AWP.seq ?_
  refine AWP.region ?_
  refine OPS.p rfl (st_move rfl) ?_
  refine OPS.p rfl (st_makeFunc (L := [((.tmp 3), _)]) ⟨rfl, trivial⟩) ?_
  refine OPS.p rfl (st_call (L := [((.tmp 5), _), ((.tmp 6), _)]) false pl162 ⟨rfl, rfl, trivial⟩ rfl (k_ContainsE l 180 [eV r] (gapP r) hl rfl (fun e hm => k_Meet1 e r (he e hm) hr)) rfl) ?_
  refine OPS.p rfl (by exact st_not rfl) ?_
  refine OPS.p rfl (st_assign rfl) ?_
  refine OPS.nil ?_
  refine AWP.ret ?_
  exact Ret.mk rfl rfl

/-! ### The greatest -/
def grI (num : Ed → Rat) (has : Ed → Bool) (l : List Ed) : Nat → Int
  | 0 => -1
  | i + 1 => if has (l.getD i default) = true ∧ (grI num has l i < 0 ∨ 0 < cmpQ (num (l.getD i default)) (num (l.getD (grI num has l i).toNat default))) then i else grI num has l i
theorem grI_bd (num : Ed → Rat) (has : Ed → Bool) (l : List Ed) : ∀ i, -1 ≤ grI num has l i ∧ grI num has l i < i
  | 0 => by unfold grI; omega
  | i + 1 => by
    have := grI_bd num has l i
    unfold grI
    split <;> omega
theorem k_greatest (l : List Ed) (f : FuncId) (caps : List (List FV)) (num : Ed → Rat) (has : Ed → Bool) (hl : l.length ≤ 1000) (hf : plainFn Tryz.prog f = true) (hp : ∀ a ∈ l, PureC Tryz.prog f (pE a :: caps.map .fptr) (.tup [pQ (num a), pB (has a)]))
    (hc : ∀ a ∈ l, ∀ b ∈ l, PureC Tryz.prog 128 [pQ (num a), pQ (num b)] (pI (cmpQ (num a) (num b)))) : PureC Tryz.prog 184 [pEs l, .func f (caps.map .fptr)] (pI (grI num has l l.length)) := by
  have hz : vQ 0 = .var [pB false, .cell (.sl 0 []), pB false, .cell (.sl 0 [])] := congrArg (fun c => Blk.var (c.map PV.cell)) eQ_zero
  refine PureC.of Tryz.func184 rfl Tryz.ntmps184 (vs := [.tmp 4]) rfl (Nat.le_of_ble_eq_true rfl) rfl fun cx _ _ => ?_
  refine AWP.seq ?_
  refine AWP.region ?_
  refine OPS.p rfl (st_assign rfl) ?_
  refine OPS.nil ?_
  refine AWP.seq ?_
  refine AWP.region ?_
  refine OPS.p rfl (st_assign rfl) ?_
  refine OPS.nil ?_
  refine AWP.seq ?_
  refine AWP.region ?_
  refine OPS.a rfl (st_alloc ze31) ?_
  refine OPS.nil ?_
  refine AWP.seq ?_
  refine AWP.seq ?_
  refine AWP.region ?_
  refine OPS.p rfl (st_move rfl) ?_
  refine OPS.p rfl (st_len un68 rfl rfl) ?_
  refine OPS.p rfl (st_move rfl) ?_
  refine OPS.nil ?_
  refine AWP.block ?_
  refine AWP.loopR (σ := Nat × Int × Rat) (fun (zz : Nat × Int × Rat) => ⟨[(0, pEs l), (1, .func f (caps.map .fptr)), (5, pI zz.2.1), (6, .ptr 0 0), (11, pEs l), (12, pI l.length), (13, pI zz.1)], [(0, vQ zz.2.2)], 1⟩) (fun (zz : Nat × Int × Rat) => zz.1 ≤ l.length ∧ zz.2.1 = grI num has l zz.1 ∧ (0 ≤ zz.2.1 → zz.2.2 = num (l.getD zz.2.1.toNat default))) (fun (zz : Nat × Int × Rat) => l.length - zz.1) (0, -1, 0) (Sub.r (Sub.mk' ⟨rfl, rfl, rfl, rfl, rfl, rfl, rfl, trivial⟩ ⟨(by dsimp only; rw [hz]; rfl), trivial⟩ (Nat.le_refl _))) (by (dsimp only; exact ⟨Nat.zero_le _, rfl, fun h => absurd h (by omega)⟩)) ?_
  rintro ⟨i, b, m⟩ hinv
  have hinv : i ≤ l.length ∧ b = grI num has l i ∧ (0 ≤ b → m = num (l.getD b.toNat default)) := hinv
  obtain ⟨h1, h2, h3⟩ := hinv
  show AWP _ _ _ _ _ _ _ ⟨[(0, pEs l), (1, .func f (caps.map .fptr)), (5, pI b), (6, .ptr 0 0), (11, pEs l), (12, pI l.length), (13, pI i)], [(0, vQ m)], 1⟩
  refine AWP.seq ?_
  refine AWP.region ?_
  refine OPS.p rfl (st_lss rfl rfl) ?_
  refine OPS.nil ?_
  refine AWP.seq ?_
  refine AWP.condD rfl (fun hc4 => ?_) (fun hc4 => ?_)
  · have hi : i < l.length := by omega
    have hbd := grI_bd num has l i
    have hpi := hp _ (getD_mem hi)
    refine AWP.skip ?_
    refine AWP.seq ?_
    refine AWP.block ?_
    refine AWP.seq ?_
    refine AWP.region ?_
    refine OPS.p rfl (st_move rfl) ?_
    refine OPS.p rfl (by exact st_index_R es68 rfl rfl (fun _ => rfl) rfl (by omega) (by omega) (by rfl)) ?_
    refine OPS.p rfl (by exact st_load_Rn ag83 rfl (fun _ => rfl) rfl (by omega)) ?_
    refine OPS.a rfl (st_alloc ze83) ?_
    refine OPS.p rfl (st_assign rfl) ?_
    refine OPS.s (by exact st_store_v sz83 rfl rfl rfl rfl rfl rfl) ?_
    refine OPS.nil ?_
    refine AWP.seq ?_
    refine AWP.region ?_
    refine OPS.p rfl (st_move rfl) ?_
    refine OPS.p rfl (by exact st_load_va ag83 rfl rfl rfl rfl) ?_
    refine OPS.p rfl (st_callv (L := [((.tmp 20), _)]) false rfl hf ⟨rfl, trivial⟩ (lends_a caps) hpi rfl) ?_
    refine OPS.p rfl (st_move rfl) ?_
    refine OPS.p rfl (st_extract rfl rfl) ?_
    refine OPS.p rfl (st_extract rfl rfl) ?_
    refine OPS.a rfl (st_alloc ze31) ?_
    refine OPS.s (by exact st_store_v sz31 rfl rfl rfl rfl rfl rfl) ?_
    refine OPS.p rfl (st_assign rfl) ?_
    refine OPS.nil ?_
    refine AWP.seq ?_
    refine AWP.region ?_
    refine OPS.p rfl (st_move rfl) ?_
    refine OPS.p rfl (st_move rfl) ?_
    refine OPS.splitB (g := 25) rfl (fun eg7_1 g7_1 => ?_) (fun eg7_1 g7_1 => ?_)
    · refine OPS.pG rfl rfl rfl eg7_1 (st_move rfl) ?_
      refine OPS.pG rfl rfl rfl eg7_1 (st_lss rfl rfl) ?_
      refine OPS.pG rfl rfl rfl eg7_1 (st_move rfl) ?_
      refine OPS.split (g := 28) rfl (fun eg7_4 g7_4 => ?_) (fun eg7_4 g7_4 => ?_)
      · refine OPS.nO rfl rfl rfl eg7_4 ?_
        refine OPS.nO rfl rfl rfl eg7_4 ?_
        refine OPS.nO rfl rfl rfl eg7_4 ?_
        refine OPS.nO rfl rfl rfl eg7_4 ?_
        refine OPS.pG rfl rfl rfl eg7_1 (st_pickT rfl eg7_4 rfl) ?_
        refine OPS.p rfl (st_pickT rfl eg7_1 rfl) ?_
        refine OPS.nil ?_
        refine AWP.cond_t rfl (rfl) ?_
        refine AWP.drw mixed ?_
        refine DRW.p rfl (st_move rfl) ?_
        refine DRW.p rfl (by exact st_load_va ag31 rfl rfl rfl rfl) ?_
        refine DRW.p rfl (st_assign rfl) ?_
        refine DRW.s (by exact st_store_v sz31 rfl rfl rfl rfl rfl rfl) ?_
        refine DRW.nil (by kernel_rfl) ?_
        refine AWP.region ?_
        refine OPS.p rfl (by exact st_add_i rfl rfl (by omega) (by omega)) ?_
        refine OPS.p rfl (st_move rfl) ?_
        refine OPS.nil ?_
        refine ⟨(i + 1, (i : Int), num (l.getD i default)), (Ren.r (Ren.mk' (ρ := [(0, 0)]) rfl ⟨(by rfl), (by exact ren_fptr), (by rfl), (by rfl), (by rfl), (by rfl), (by rfl), trivial⟩ ⟨(by rfl), trivial⟩)), ?_, ?_⟩
        · try dsimp only
          refine ⟨by omega, ?_, fun _ => by rw [Int.toNat_natCast]⟩
          rw [grI, if_pos ⟨g7_1, .inl (by rw [← h2]; exact g7_4)⟩]
        · try dsimp only
          omega
      · obtain rfl := h3 (by omega)
        have hcm := hc _ (getD_mem hi) (l.getD b.toNat default) (getD_mem (by omega))
        refine OPS.pG rfl rfl rfl eg7_4 (by exact st_load_va ag31 rfl rfl rfl rfl) ?_
        refine OPS.pG rfl rfl rfl eg7_4 (by exact st_load_va ag31 rfl rfl rfl rfl) ?_
        refine OPS.pG rfl rfl rfl eg7_4 (st_call (L := [((.tmp 29), _), ((.tmp 30), _)]) false pl128 ⟨rfl, rfl, trivial⟩ rfl (hcm) rfl) ?_
        refine OPS.pG rfl rfl rfl eg7_4 (st_gtr rfl rfl) ?_
        refine OPS.pG rfl rfl rfl eg7_1 (st_pickF rfl eg7_4 rfl) ?_
        refine OPS.p rfl (st_pickT rfl eg7_1 rfl) ?_
        refine OPS.nil ?_
        refine AWP.condD rfl (fun hc7 => ?_) (fun hc7 => ?_)
        · refine AWP.drw mixed ?_
          refine DRW.p rfl (st_move rfl) ?_
          refine DRW.p rfl (by exact st_load_va ag31 rfl rfl rfl rfl) ?_
          refine DRW.p rfl (st_assign rfl) ?_
          refine DRW.s (by exact st_store_v sz31 rfl rfl rfl rfl rfl rfl) ?_
          refine DRW.nil (by kernel_rfl) ?_
          refine AWP.region ?_
          refine OPS.p rfl (by exact st_add_i rfl rfl (by omega) (by omega)) ?_
          refine OPS.p rfl (st_move rfl) ?_
          refine OPS.nil ?_
          refine ⟨(i + 1, (i : Int), num (l.getD i default)), (Ren.r (Ren.mk' (ρ := [(0, 0)]) rfl ⟨(by rfl), (by exact ren_fptr), (by rfl), (by rfl), (by rfl), (by rfl), (by rfl), trivial⟩ ⟨(by rfl), trivial⟩)), ?_, ?_⟩
          · try dsimp only
            refine ⟨by omega, ?_, fun _ => by rw [Int.toNat_natCast]⟩
            rw [grI, if_pos ⟨g7_1, .inr (by rw [← h2]; exact hc7)⟩]
          · try dsimp only
            omega
        · refine AWP.skip ?_
          refine AWP.region ?_
          refine OPS.p rfl (by exact st_add_i rfl rfl (by omega) (by omega)) ?_
          refine OPS.p rfl (st_move rfl) ?_
          refine OPS.nil ?_
          refine ⟨(i + 1, b, num (l.getD b.toNat default)), (Ren.r (Ren.mk' (ρ := [(0, 0)]) rfl ⟨(by rfl), (by exact ren_fptr), (by rfl), (by rfl), (by rfl), (by rfl), (by rfl), trivial⟩ ⟨(by rfl), trivial⟩)), ?_, ?_⟩
          · try dsimp only
            refine ⟨by omega, ?_, fun _ => rfl⟩
            rw [grI, ← h2, if_neg (fun h => h.2.elim g7_4 hc7)]
          · try dsimp only
            omega
    · refine OPS.nO rfl rfl rfl eg7_1 ?_
      refine OPS.nO rfl rfl rfl eg7_1 ?_
      refine OPS.nO rfl rfl rfl eg7_1 ?_
      refine OPS.nT rfl rfl rfl ?_
      refine OPS.nT rfl rfl rfl ?_
      refine OPS.nT rfl rfl rfl ?_
      refine OPS.nT rfl rfl rfl ?_
      refine OPS.nO rfl rfl rfl eg7_1 ?_
      refine OPS.p rfl (st_pickF rfl eg7_1 rfl) ?_
      refine OPS.nil ?_
      refine AWP.cond_f rfl (rfl) ?_
      refine AWP.skip ?_
      refine AWP.region ?_
      refine OPS.p rfl (by exact st_add_i rfl rfl (by omega) (by omega)) ?_
      refine OPS.p rfl (st_move rfl) ?_
      refine OPS.nil ?_
      refine ⟨(i + 1, b, m), (Ren.r (Ren.mk' (ρ := [(0, 0)]) rfl ⟨(by rfl), (by exact ren_fptr), (by rfl), (by rfl), (by rfl), (by rfl), (by rfl), trivial⟩ ⟨(by rfl), trivial⟩)), ?_, ?_⟩
      · try dsimp only
        refine ⟨by omega, ?_, h3⟩
        rw [grI, ← h2, if_neg (fun h => by have := h.1; rw [g7_1] at this; cases this)]
      · try dsimp only
        omega
  · have hil : i = l.length := by omega
    refine AWP.exit ?_
    refine AWP.seq ?_
    refine AWP.region ?_
    refine OPS.p rfl (st_move rfl) ?_
    refine OPS.p rfl (st_assign rfl) ?_
    refine OPS.nil ?_
    refine AWP.ret ?_
    exact Ret.mk rfl (by rw [h2, hil])
end Go.Proofs.Gh.Tryz
end
