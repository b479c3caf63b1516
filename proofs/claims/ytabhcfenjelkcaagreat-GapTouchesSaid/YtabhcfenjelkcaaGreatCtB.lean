/-
  Contracts: rational numbers.
  Contracts: rational numbers: Make, Of, Den, Neg, Sign.
  Contracts: rational numbers: Add, Sub, Mul, Compare.
  Contracts: the reference's integers: normal, Of, compared, Compare, digit.
  Contracts: the reference's integers: Compare, Neg, plus, minus, Add.
  Contracts: the reference's integers: minus, Add, Mul, tiny.
  Contracts: the reference's integers: Add, Mul.
  Contracts: the reference's integers: divided, Div, Gcd (at most two digits).
  Contracts: the reference's rational numbers.
-/
import Derived.Test.YtabhcfenjelkcaaGreatCtA
section
set_option linter.unusedVariables false
set_option linter.unusedSimpArgs false
set_option maxRecDepth 4000
namespace Go.Proofs.Gh.Tryz
open Go Go.Proofs Go.Proofs.Gh

/-- The digits of a denominator: none for 1. -/
def qD (a : Rat) : List Int := if a.den = 1 then [] else digs a.den
def eQ (a : Rat) : List FV := [.bool (decide (a.num < 0)), .sl (iD a.num).length (fIs (iD a.num)), .bool false, .sl (qD a).length (fIs (qD a))]
abbrev pQ (a : Rat) : PV := .agg (eQ a)
theorem eQ_zero : eQ 0 = [.bool false, .sl 0 [], .bool false, .sl 0 []] := by
  have : iD 0 = [] := by simp [iD, digs_zero]
  simp [eQ, qD, this, fIs]
theorem qD_nil {a : Rat} : (qD a).length = 0 ↔ a.den = 1 := by
  unfold qD
  split
  · simp [*]
  · have := @digs_len_zero a.den
    have := a.den_nz
    constructor <;> intro h <;> omega
theorem num_nil {a : Rat} : (iD a.num).length = 0 ↔ a = 0 := by rw [iD_nil, Rat.num_eq_zero]

theorem k_unit (x : Int) : PureC Tryz.prog 225 [pZ x] (pB (decide (x = 1))) := by
  have hv := iD_val x
  have h1 := @dval_one (iD x)
  have hx1 : x = 1 → (iD x).length = 1 := by rintro rfl; rw [show iD 1 = [1] from digs_small (n := 1) (by omega) (by omega)]; rfl
  refine PureC.of Tryz.func225 rfl Tryz.ntmps225 (vs := [.tmp 2]) rfl (Nat.le_of_ble_eq_true rfl) rfl fun cx _ _ => ?_
  refine AWP.seq ?_
  refine AWP.region ?_
  refine OPS.a rfl (st_box rfl rfl) ?_
  refine OPS.p rfl (st_assign rfl) ?_
  refine OPS.nil ?_
  refine AWP.seq ?_
  refine AWP.region ?_
  refine OPS.p rfl (by exact st_field_p off29_0 rfl) ?_
  refine OPS.p rfl (by exact st_load_vs sc4 rfl rfl rfl) ?_
  refine OPS.p rfl (by exact st_not_d rfl) ?_
  refine OPS.p rfl (st_move rfl) ?_
  refine OPS.split (g := 6) rfl (fun eg1_3 g1_3 => ?_) (fun eg1_3 g1_3 => ?_)
  · refine OPS.pG rfl rfl rfl eg1_3 (by exact st_field_p off29_1 rfl) ?_
    refine OPS.pG rfl rfl rfl eg1_3 (by exact st_load_vs sc22 rfl rfl rfl) ?_
    refine OPS.pG rfl rfl rfl eg1_3 (st_len un22 rfl rfl) ?_
    refine OPS.pG rfl rfl rfl eg1_3 (st_eql rfl rfl) ?_
    refine OPS.p rfl (st_pickT rfl eg1_3 rfl) ?_
    refine OPS.p rfl (st_move rfl) ?_
    refine OPS.split (g := 12) rfl (fun eg1_9 g1_9 => ?_) (fun eg1_9 g1_9 => ?_)
    · refine OPS.pG rfl rfl rfl eg1_9 (by exact st_field_p off29_1 rfl) ?_
      refine OPS.pG rfl rfl rfl eg1_9 (by exact st_load_vs sc22 rfl rfl rfl) ?_
      refine OPS.pG rfl rfl rfl eg1_9 (by exact st_index_I es22 rfl rfl (by omega) (by omega) (by rfl)) ?_
      refine OPS.pG rfl rfl rfl eg1_9 (by exact st_load_In sc3 rfl rfl (by (simp; omega))) ?_
      refine OPS.pG rfl rfl rfl eg1_9 (st_eql rfl rfl) ?_
      refine OPS.p rfl (st_pickT rfl eg1_9 rfl) ?_
      refine OPS.p rfl (st_assign rfl) ?_
      refine OPS.nil ?_
      refine AWP.ret ?_
      have := h1 (by omega)
      refine Ret.mk rfl (congrArg pB ?_)
      rw [decide_eq_decide]
      show (iD x).getD 0 0 = 1 ↔ _
      omega
    · refine OPS.nO rfl rfl rfl eg1_9 ?_
      refine OPS.nO rfl rfl rfl eg1_9 ?_
      refine OPS.nO rfl rfl rfl eg1_9 ?_
      refine OPS.nO rfl rfl rfl eg1_9 ?_
      refine OPS.nO rfl rfl rfl eg1_9 ?_
      refine OPS.p rfl (st_pickF rfl eg1_9 rfl) ?_
      refine OPS.p rfl (st_assign rfl) ?_
      refine OPS.nil ?_
      refine AWP.ret ?_
      exact Ret.mk rfl (congrArg pB (decide_eq_false (fun h => by have := hx1 h; omega)).symm)
  · refine OPS.nO rfl rfl rfl eg1_3 ?_
    refine OPS.nO rfl rfl rfl eg1_3 ?_
    refine OPS.nO rfl rfl rfl eg1_3 ?_
    refine OPS.nO rfl rfl rfl eg1_3 ?_
    refine OPS.p rfl (st_pickF rfl eg1_3 rfl) ?_
    refine OPS.p rfl (st_move rfl) ?_
    refine OPS.nO rfl rfl rfl (rfl) ?_
    refine OPS.nO rfl rfl rfl (rfl) ?_
    refine OPS.nO rfl rfl rfl (rfl) ?_
    refine OPS.nO rfl rfl rfl (rfl) ?_
    refine OPS.nO rfl rfl rfl (rfl) ?_
    refine OPS.p rfl (st_pickF rfl (rfl) rfl) ?_
    refine OPS.p rfl (st_assign rfl) ?_
    refine OPS.nil ?_
    refine AWP.ret ?_
    exact Ret.mk rfl (congrArg pB (decide_eq_false (by omega)).symm)

theorem k_one : PureC Tryz.prog 257 [] (pZ 1) := by
  refine PureC.of Tryz.func257 rfl Tryz.ntmps257 (vs := [.cell 0 29]) rfl (Nat.le_of_ble_eq_true rfl) rfl fun cx _ _ => ?_
  refine AWP.seq ?_
  refine AWP.region ?_
  refine OPS.a rfl (st_alloc ze29) ?_
  refine OPS.nil ?_
  refine AWP.seq ?_
  refine AWP.region ?_
  refine OPS.p rfl (st_call (L := [((.const (.int .i64 1)), _)]) false pl100 ⟨rfl, trivial⟩ rfl (k_Of 1 (by omega) (by omega)) rfl) ?_
  refine OPS.s (by exact st_store_v sz29 rfl rfl rfl rfl rfl rfl) ?_
  refine OPS.nil ?_
  refine AWP.ret ?_
  exact Ret.mk rfl rfl

theorem k_lowest (a : Rat) (p q : Int) (h : (q = a.den ∧ p = a.num) ∨ (q = -a.den ∧ p = -a.num)) : PureC Tryz.prog 179 [pZ p, pZ q] (pQ a) := by
  have hd := a.den_nz
  refine PureC.of Tryz.func179 rfl Tryz.ntmps179 (vs := [.cell 4 31]) rfl (Nat.le_of_ble_eq_true rfl) rfl fun cx _ _ => ?_
  refine AWP.seq ?_
  refine AWP.region ?_
  refine OPS.a rfl (st_box rfl rfl) ?_
  refine OPS.a rfl (st_box rfl rfl) ?_
  refine OPS.a rfl (st_alloc ze31) ?_
  refine OPS.nil ?_
  refine AWP.seq ?_
  refine AWP.mono (n := fun s' => ∃ zz : Unit, SubR (loOf cx) s' ((fun (zz : Unit) => ⟨[(2, .ptr 0 0), (3, .ptr 1 0), (4, .ptr 2 0)], [(0, .var [pB (decide (a.num < 0)), pL (iD a.num)]), (1, .var [pB (decide ((a.den : Int) < 0)), pL (iD a.den)]), (2, .var [pB false, .cell (.sl 0 []), pB false, .cell (.sl 0 [])])], 3⟩) zz) ∧ (fun (zz : Unit) => True) zz) ?_ ?_
  · refine AWP.seq ?_
    refine AWP.region ?_
    refine OPS.p rfl (by exact st_field_p off29_0 rfl) ?_
    refine OPS.p rfl (by exact st_load_vs sc4 rfl rfl rfl) ?_
    refine OPS.nil ?_
    refine AWP.condD rfl (fun hc1 => ?_) (fun hc1 => ?_)
    · refine AWP.drw mixed ?_
      refine DRW.p rfl (by exact st_load_va ag29 rfl rfl rfl rfl) ?_
      refine DRW.p rfl (st_call (L := [((.tmp 7), _)]) false pl234 ⟨rfl, trivial⟩ rfl (k_Neg p) rfl) ?_
      refine DRW.p rfl (by exact st_load_va ag29 rfl rfl rfl rfl) ?_
      refine DRW.p rfl (st_call (L := [((.tmp 9), _)]) false pl234 ⟨rfl, trivial⟩ rfl (k_Neg q) rfl) ?_
      refine DRW.s (by exact st_store_v sz29 rfl rfl rfl rfl rfl rfl) ?_
      refine DRW.s (by exact st_store_v sz29 rfl rfl rfl rfl rfl rfl) ?_
      refine DRW.nil (by kernel_rfl) ?_
      have e1 : -p = a.num := by omega
      have e2 : -q = a.den := by omega
      rw [e1, e2]
      refine ⟨(()), (Sub.r (Sub.mk' ⟨(by rfl), (by rfl), (by rfl), trivial⟩ ⟨(by rfl), (by rfl), (by rfl), trivial⟩ (by exact Nat.le_refl _))), ?_⟩
      exact True.intro
    · refine AWP.skip ?_
      have e1 : p = a.num := by omega
      have e2 : q = a.den := by omega
      rw [e1, e2]
      refine ⟨(()), (Sub.r (Sub.mk' ⟨(by rfl), (by rfl), (by rfl), trivial⟩ ⟨(by rfl), (by rfl), (by rfl), trivial⟩ (by exact Nat.le_refl _))), ?_⟩
      exact True.intro
  · rintro s' ⟨u, hsub, hinv⟩
    have hinv : True := hinv
    obtain _ := id hinv
    refine AWP.subR hsub ?_
    show AWP _ _ _ _ _ _ _ ⟨[(2, .ptr 0 0), (3, .ptr 1 0), (4, .ptr 2 0)], [(0, .var [pB (decide (a.num < 0)), pL (iD a.num)]), (1, .var [pB (decide ((a.den : Int) < 0)), pL (iD a.den)]), (2, .var [pB false, .cell (.sl 0 []), pB false, .cell (.sl 0 [])])], 3⟩
    refine AWP.seq ?_
    refine AWP.seq ?_
    refine AWP.region ?_
    refine OPS.p rfl (by exact st_load_va ag29 rfl rfl rfl rfl) ?_
    refine OPS.p rfl (st_call (L := [((.tmp 11), _)]) false pl225 ⟨rfl, trivial⟩ rfl (k_unit a.den) rfl) ?_
    refine OPS.nil ?_
    refine AWP.condD rfl (fun hc3 => ?_) (fun hc3 => ?_)
    · refine AWP.seq ?_
      refine AWP.region ?_
      refine OPS.p rfl (by exact st_load_va ag29 rfl rfl rfl rfl) ?_
      refine OPS.p rfl (st_build (L := [(0, (.tmp 13), _)]) zf31 pl_31 ⟨rfl, trivial⟩ rfl rfl) ?_
      refine OPS.s (by exact st_store_v sz31 rfl rfl rfl rfl rfl rfl) ?_
      refine OPS.nil ?_
      refine AWP.ret ?_
      refine Ret.mk rfl ?_
      have : qD a = [] := by unfold qD; rw [if_pos (by omega)]
      rw [pQ, eQ, this]
      rfl
    · refine AWP.skip ?_
      refine AWP.seq ?_
      refine AWP.region ?_
      refine OPS.p rfl (by exact st_load_va ag29 rfl rfl rfl rfl) ?_
      refine OPS.p rfl (by exact st_load_va ag29 rfl rfl rfl rfl) ?_
      refine OPS.p rfl (st_build (L := [(0, (.tmp 15), _), (1, (.tmp 16), _)]) zf31 pl_31 ⟨rfl, rfl, trivial⟩ rfl rfl) ?_
      refine OPS.s (by exact st_store_v sz31 rfl rfl rfl rfl rfl rfl) ?_
      refine OPS.nil ?_
      refine AWP.ret ?_
      refine Ret.mk rfl ?_
      have : qD a = digs a.den := by unfold qD; rw [if_neg (by omega)]
      rw [pQ, eQ, this]
      have e : decide ((a.den : Int) < 0) = false := decide_eq_false (by omega)
      rw [← e]
      rfl
end Go.Proofs.Gh.Tryz
end
section
set_option linter.unusedVariables false
set_option linter.unusedSimpArgs false
set_option maxRecDepth 4000
namespace Go.Proofs.Gh.Tryz
open Go Go.Proofs Go.Proofs.Gh

theorem make_law {p q : Int} (hq : q ≠ 0) : (q / (Int.gcd p q : Nat) = ((Rat.divInt p q).den : Int) ∧ p / (Int.gcd p q : Nat) = (Rat.divInt p q).num) ∨ (q / (Int.gcd p q : Nat) = -((Rat.divInt p q).den : Int) ∧ p / (Int.gcd p q : Nat) = -(Rat.divInt p q).num) := by
  rw [Rat.num_divInt, Rat.den_divInt, if_neg hq, Int.gcd_comm q p]
  have h1 : ((Int.gcd p q : Nat) : Int) ∣ p := Int.gcd_dvd_left ..
  have h2 : ((Int.gcd p q : Nat) : Int) ∣ q := Int.gcd_dvd_right ..
  by_cases h : 0 < q
  · left
    rw [Int.sign_eq_one_of_pos h, Int.one_mul]
    refine ⟨?_, rfl⟩
    rw [Int.natCast_ediv, show (q.natAbs : Int) = q by omega]
  · right
    rw [Int.sign_eq_neg_one_of_neg (by omega), Int.neg_one_mul, Int.neg_ediv_of_dvd h1, Int.natCast_ediv, show (q.natAbs : Int) = -q by omega, Int.neg_ediv_of_dvd h2]
    omega
theorem gcd_le {p q : Int} (hp : p ≠ 0) : Int.gcd p q ≤ p.natAbs := Nat.le_of_dvd (by omega) (Int.gcd_dvd_natAbs_left ..)

theorem k_Make (p q : Int) (hp : Sml p.natAbs) (hq : Sml q.natAbs) : PureC Tryz.prog 102 [pZ p, pZ q] (pQ (Rat.divInt p q)) := by
  have hp0 := @iD_nil p
  have hq0 := @iD_nil q
  refine PureC.of Tryz.func102 rfl Tryz.ntmps102 (vs := [.cell 4 31]) rfl (Nat.le_of_ble_eq_true rfl) rfl fun cx _ _ => ?_
  refine AWP.seq ?_
  refine AWP.region ?_
  refine OPS.a rfl (st_box rfl rfl) ?_
  refine OPS.a rfl (st_box rfl rfl) ?_
  refine OPS.a rfl (st_alloc ze31) ?_
  refine OPS.nil ?_
  refine AWP.seq ?_
  refine AWP.seq ?_
  refine AWP.region ?_
  refine OPS.p rfl (by exact st_field_p off29_1 rfl) ?_
  refine OPS.p rfl (by exact st_load_vs sc22 rfl rfl rfl) ?_
  refine OPS.p rfl (st_len un22 rfl rfl) ?_
  refine OPS.p rfl (st_eql rfl rfl) ?_
  refine OPS.p rfl (st_move rfl) ?_
  refine OPS.split (g := 10) rfl (fun eg1_4 g1_4 => ?_) (fun eg1_4 g1_4 => ?_)
  · refine OPS.nO rfl rfl rfl eg1_4 ?_
    refine OPS.nO rfl rfl rfl eg1_4 ?_
    refine OPS.nO rfl rfl rfl eg1_4 ?_
    refine OPS.nO rfl rfl rfl eg1_4 ?_
    refine OPS.p rfl (st_pickT rfl eg1_4 rfl) ?_
    refine OPS.nil ?_
    refine AWP.cond_t rfl (rfl) ?_
    refine AWP.seq ?_
    refine AWP.region ?_
    refine OPS.p rfl (st_build (L := []) zf31 pl_31 trivial rfl rfl) ?_
    refine OPS.s (by exact st_store_v sz31 rfl rfl rfl rfl rfl rfl) ?_
    refine OPS.nil ?_
    refine AWP.ret ?_
    have : q = 0 := hq0.1 (by omega)
    subst this
    exact Ret.mk rfl (by rw [pQ, Rat.divInt_zero, eQ_zero])
  · refine OPS.pG rfl rfl rfl eg1_4 (by exact st_field_p off29_1 rfl) ?_
    refine OPS.pG rfl rfl rfl eg1_4 (by exact st_load_vs sc22 rfl rfl rfl) ?_
    refine OPS.pG rfl rfl rfl eg1_4 (st_len un22 rfl rfl) ?_
    refine OPS.pG rfl rfl rfl eg1_4 (st_eql rfl rfl) ?_
    refine OPS.p rfl (st_pickF rfl eg1_4 rfl) ?_
    refine OPS.nil ?_
    refine AWP.condD rfl (fun hc1 => ?_) (fun hc1 => ?_)
    · refine AWP.seq ?_
      refine AWP.region ?_
      refine OPS.p rfl (st_build (L := []) zf31 pl_31 trivial rfl rfl) ?_
      refine OPS.s (by exact st_store_v sz31 rfl rfl rfl rfl rfl rfl) ?_
      refine OPS.nil ?_
      refine AWP.ret ?_
      have : p = 0 := hp0.1 (by omega)
      subst this
      exact Ret.mk rfl (by rw [pQ, Rat.zero_divInt, eQ_zero])
    · have hpz : p ≠ 0 := fun h => hc1 (by have := hp0.2 h; omega)
      have hqz : q ≠ 0 := fun h => g1_4 (by have := hq0.2 h; omega)
      have hml := make_law (p := p) (q := q) hqz
      have hgl := gcd_le (q := q) hpz
      have hg : Sml ((Int.gcd p q : Nat) : Int).natAbs := Sml.mono hp (by omega)
      generalize hG : ((Int.gcd p q : Nat) : Int) = g at hml hg
      refine AWP.skip ?_
      refine AWP.seq ?_
      refine AWP.seq ?_
      refine AWP.region ?_
      refine OPS.p rfl (by exact st_load_va ag29 rfl rfl rfl rfl) ?_
      refine OPS.p rfl (by exact st_load_va ag29 rfl rfl rfl rfl) ?_
      refine OPS.p rfl (st_call (L := [((.tmp 17), _), ((.tmp 18), _)]) false pl214 ⟨rfl, rfl, trivial⟩ rfl ((hG ▸ k_Gcd p q hp hq : PureC Tryz.prog 214 [pZ p, pZ q] (pZ g))) rfl) ?_
      refine OPS.a rfl (st_alloc ze29) ?_
      refine OPS.s (by exact st_store_v sz29 rfl rfl rfl rfl rfl rfl) ?_
      refine OPS.nil ?_
      refine AWP.seq ?_
      refine AWP.region ?_
      refine OPS.p rfl (by exact st_load_va ag29 rfl rfl rfl rfl) ?_
      refine OPS.p rfl (st_call (L := [((.tmp 20), _)]) false pl225 ⟨rfl, trivial⟩ rfl (k_unit g) rfl) ?_
      refine OPS.p rfl (by exact st_not_d rfl) ?_
      refine OPS.nil ?_
      refine AWP.mono (n := fun s' => ∃ zz : Int × Int, SubR (loOf cx) s' ((fun (zz : Int × Int) => ⟨[(2, .ptr 0 0), (3, .ptr 1 0), (4, .ptr 2 0)], [(0, .var [pB (decide (zz.1 < 0)), pL (iD zz.1)]), (1, .var [pB (decide (zz.2 < 0)), pL (iD zz.2)]), (2, .var [pB false, .cell (.sl 0 []), pB false, .cell (.sl 0 [])])], 4⟩) zz) ∧ (fun (zz : Int × Int) => zz.1 = p / g ∧ zz.2 = q / g) zz) ?_ ?_
      · refine AWP.condD rfl (fun hc4 => ?_) (fun hc4 => ?_)
        · refine AWP.seq ?_
          refine AWP.region ?_
          refine OPS.p rfl (by exact st_load_va ag29 rfl rfl rfl rfl) ?_
          refine OPS.p rfl (by exact st_load_va ag29 rfl rfl rfl rfl) ?_
          refine OPS.p rfl (st_call (L := [((.tmp 24), _), ((.tmp 25), _)]) false pl215 ⟨rfl, rfl, trivial⟩ rfl (k_Div p g hp hg) rfl) ?_
          refine OPS.p rfl (st_move rfl) ?_
          refine OPS.p rfl (st_extract rfl rfl) ?_
          refine OPS.p rfl (st_extract rfl rfl) ?_
          refine OPS.s (by exact st_store_v sz29 rfl rfl rfl rfl rfl rfl) ?_
          refine OPS.nil ?_
          refine AWP.region ?_
          refine OPS.p rfl (by exact st_load_va ag29 rfl rfl rfl rfl) ?_
          refine OPS.p rfl (by exact st_load_va ag29 rfl rfl rfl rfl) ?_
          refine OPS.p rfl (st_call (L := [((.tmp 30), _), ((.tmp 31), _)]) false pl215 ⟨rfl, rfl, trivial⟩ rfl (k_Div q g hq hg) rfl) ?_
          refine OPS.p rfl (st_move rfl) ?_
          refine OPS.p rfl (st_extract rfl rfl) ?_
          refine OPS.p rfl (st_extract rfl rfl) ?_
          refine OPS.s (by exact st_store_v sz29 rfl rfl rfl rfl rfl rfl) ?_
          refine OPS.nil ?_
          refine ⟨(p / g, q / g), (Sub.r (Sub.mk' ⟨(by rfl), (by rfl), (by rfl), trivial⟩ ⟨(by rfl), (by rfl), (by rfl), trivial⟩ (by exact Nat.le_refl _))), ?_⟩
          try dsimp only
          exact ⟨rfl, rfl⟩
        · refine AWP.skip ?_
          refine ⟨(p, q), (Sub.r (Sub.mk' ⟨(by rfl), (by rfl), (by rfl), trivial⟩ ⟨(by rfl), (by rfl), (by rfl), trivial⟩ (by exact Nat.le_refl _))), ?_⟩
          try dsimp only
          have : g = 1 := by simpa using hc4
          subst this
          simp
      · rintro s' ⟨⟨p', q'⟩, hsub, hinv⟩
        have hinv : p' = p / g ∧ q' = q / g := hinv
        obtain ⟨e1, e2⟩ := id hinv
        refine AWP.subR hsub ?_
        show AWP _ _ _ _ _ _ _ ⟨[(2, .ptr 0 0), (3, .ptr 1 0), (4, .ptr 2 0)], [(0, .var [pB (decide (p' < 0)), pL (iD p')]), (1, .var [pB (decide (q' < 0)), pL (iD q')]), (2, .var [pB false, .cell (.sl 0 []), pB false, .cell (.sl 0 [])])], 4⟩
        refine AWP.seq ?_
        refine AWP.region ?_
        refine OPS.p rfl (by exact st_load_va ag29 rfl rfl rfl rfl) ?_
        refine OPS.p rfl (by exact st_load_va ag29 rfl rfl rfl rfl) ?_
        refine OPS.p rfl (st_call (L := [((.tmp 35), _), ((.tmp 36), _)]) false pl179 ⟨rfl, rfl, trivial⟩ rfl (k_lowest (Rat.divInt p q) p' q' (by rw [e1, e2]; exact hml)) rfl) ?_
        refine OPS.s (by exact st_store_v sz31 rfl rfl rfl rfl rfl rfl) ?_
        refine OPS.nil ?_
        refine AWP.ret ?_
        exact Ret.mk rfl rfl

theorem k_qOf (p q : Int) (hp : Sml p.natAbs) (hq : Sml q.natAbs) : PureC Tryz.prog 57 [pI p, pI q] (pQ (Rat.divInt p q)) := by
  have hA : p.natAbs < 1000000000000000000 := hp
  have hB : q.natAbs < 1000000000000000000 := hq
  refine PureC.of Tryz.func57 rfl Tryz.ntmps57 (vs := [.cell 4 31]) rfl (Nat.le_of_ble_eq_true rfl) rfl fun cx _ _ => ?_
  refine AWP.seq ?_
  refine AWP.region ?_
  refine OPS.a rfl (st_alloc ze31) ?_
  refine OPS.nil ?_
  refine AWP.seq ?_
  refine AWP.region ?_
  refine OPS.p rfl (st_move rfl) ?_
  refine OPS.p rfl (st_call (L := [((.tmp 5), _)]) false pl100 ⟨rfl, trivial⟩ rfl (k_Of p (by omega) (by omega)) rfl) ?_
  refine OPS.p rfl (st_move rfl) ?_
  refine OPS.p rfl (st_call (L := [((.tmp 7), _)]) false pl100 ⟨rfl, trivial⟩ rfl (k_Of q (by omega) (by omega)) rfl) ?_
  refine OPS.p rfl (st_call (L := [((.tmp 6), _), ((.tmp 8), _)]) false pl102 ⟨rfl, rfl, trivial⟩ rfl (k_Make p q hp hq) rfl) ?_
  refine OPS.s (by exact st_store_v sz31 rfl rfl rfl rfl rfl rfl) ?_
  refine OPS.nil ?_
  refine AWP.ret ?_
  exact Ret.mk rfl rfl

theorem k_Den (a : Rat) : PureC Tryz.prog 178 [pQ a] (pZ a.den) := by
  have h0 := @qD_nil a
  refine PureC.of Tryz.func178 rfl Tryz.ntmps178 (vs := [.cell 2 29]) rfl (Nat.le_of_ble_eq_true rfl) rfl fun cx _ _ => ?_
  refine AWP.seq ?_
  refine AWP.region ?_
  refine OPS.a rfl (st_box rfl rfl) ?_
  refine OPS.a rfl (st_alloc ze29) ?_
  refine OPS.nil ?_
  refine AWP.seq ?_
  refine AWP.seq ?_
  refine AWP.region ?_
  refine OPS.p rfl (by exact st_field_p off31_1 rfl) ?_
  refine OPS.p rfl (by exact st_field_p off29_1 rfl) ?_
  refine OPS.p rfl (by exact st_load_vs sc22 rfl rfl rfl) ?_
  refine OPS.p rfl (st_len un22 rfl rfl) ?_
  refine OPS.p rfl (st_eql rfl rfl) ?_
  refine OPS.nil ?_
  refine AWP.condD rfl (fun hc1 => ?_) (fun hc1 => ?_)
  · refine AWP.seq ?_
    refine AWP.region ?_
    refine OPS.p rfl (st_call (L := []) false pl257 trivial rfl (k_one) rfl) ?_
    refine OPS.s (by exact st_store_v sz29 rfl rfl rfl rfl rfl rfl) ?_
    refine OPS.nil ?_
    refine AWP.ret ?_
    exact Ret.mk rfl (by rw [h0.1 (by omega)]; rfl)
  · refine AWP.skip ?_
    refine AWP.seq ?_
    refine AWP.region ?_
    refine OPS.p rfl (by exact st_field_p off31_1 rfl) ?_
    refine OPS.p rfl (by exact st_load_va ag29 rfl rfl rfl rfl) ?_
    refine OPS.s (by exact st_store_v sz29 rfl rfl rfl rfl rfl rfl) ?_
    refine OPS.nil ?_
    refine AWP.ret ?_
    refine Ret.mk rfl ?_
    have : qD a = digs a.den := by unfold qD; rw [if_neg (by omega)]
    have e : decide ((a.den : Int) < 0) = false := decide_eq_false (by omega)
    rw [this, pZ, eI, e]
    rfl

theorem k_qNeg (a : Rat) : PureC Tryz.prog 127 [pQ a] (pQ (-a)) := by
  have e1 : (-a).num = -a.num := Rat.neg_num a
  have e2 : (-a).den = a.den := rfl
  have e3 : qD (-a) = qD a := by unfold qD; rw [e2]
  refine PureC.of Tryz.func127 rfl Tryz.ntmps127 (vs := [.cell 2 31]) rfl (Nat.le_of_ble_eq_true rfl) rfl fun cx _ _ => ?_
  refine AWP.seq ?_
  refine AWP.region ?_
  refine OPS.a rfl (st_box rfl rfl) ?_
  refine OPS.a rfl (st_alloc ze31) ?_
  refine OPS.nil ?_
  refine AWP.seq ?_
  refine AWP.drw mixed ?_
  refine DRW.p rfl (by exact st_field_p off31_0 rfl) ?_
  refine DRW.p rfl (by exact st_load_va ag29 rfl rfl rfl rfl) ?_
  refine DRW.p rfl (st_call (L := [((.tmp 4), _)]) false pl234 ⟨rfl, trivial⟩ rfl (k_Neg a.num) rfl) ?_
  refine DRW.p rfl (by exact st_field_p off31_1 rfl) ?_
  refine DRW.p rfl (by exact st_load_va ag29 rfl rfl rfl rfl) ?_
  refine DRW.p rfl (st_build (L := [(0, (.tmp 5), _), (1, (.tmp 7), _)]) zf31 pl_31 ⟨rfl, rfl, trivial⟩ rfl rfl) ?_
  refine DRW.s (by exact st_store_v sz31 rfl rfl rfl rfl rfl rfl) ?_
  refine DRW.nil (by kernel_rfl) ?_
  refine AWP.ret ?_
  refine Ret.mk rfl ?_
  rw [pQ, eQ, e1, e3]

theorem k_qSign (a : Rat) : PureC Tryz.prog 69 [pQ a] (pI a.num.sign) := by
  refine PureC.of Tryz.func69 rfl Tryz.ntmps69 (vs := [.tmp 2]) rfl (Nat.le_of_ble_eq_true rfl) rfl fun cx _ _ => ?_
  refine AWP.seq ?_
  refine AWP.region ?_
  refine OPS.a rfl (st_box rfl rfl) ?_
  refine OPS.p rfl (st_assign rfl) ?_
  refine OPS.nil ?_
  refine AWP.seq ?_
  refine AWP.region ?_
  refine OPS.p rfl (by exact st_field_p off31_0 rfl) ?_
  refine OPS.p rfl (by exact st_load_va ag29 rfl rfl rfl rfl) ?_
  refine OPS.p rfl (st_call (L := [((.tmp 4), _)]) false pl181 ⟨rfl, trivial⟩ rfl (k_Sign a.num) rfl) ?_
  refine OPS.p rfl (st_assign rfl) ?_
  refine OPS.nil ?_
  refine AWP.ret ?_
  exact Ret.mk rfl rfl
end Go.Proofs.Gh.Tryz
end
section
set_option linter.unusedVariables false
set_option linter.unusedSimpArgs false
set_option maxRecDepth 4000
namespace Go.Proofs.Gh.Tryz
open Go Go.Proofs Go.Proofs.Gh

theorem q_int {a : Rat} (h : a.den = 1) : a = (a.num : Rat) := Rat.ext rfl h
theorem q_add {a b : Rat} : a + b = Rat.divInt (a.num * b.den + b.num * a.den) (a.den * b.den) := by
  have h := Rat.divInt_add_divInt a.num b.num (d₁ := a.den) (d₂ := b.den) (by have := a.den_nz; omega) (by have := b.den_nz; omega)
  rwa [Rat.num_divInt_den, Rat.num_divInt_den] at h
theorem eQ_int (n : Int) : eQ (n : Rat) = [.bool (decide (n < 0)), .sl (iD n).length (fIs (iD n)), .bool false, .sl 0 []] := by
  have : qD (n : Rat) = [] := by simp [qD]
  rw [eQ, this]
  rfl

theorem k_qAdd (a b : Rat) (h1 : Fit a.num.natAbs) (h2 : Fit b.num.natAbs) (h3 : Fit a.den) (h4 : Fit b.den) (h5 : Fit (a.num * b.den).natAbs) (h6 : Fit (b.num * a.den).natAbs) (h7 : Sml (a.num * b.den + b.num * a.den).natAbs) (h8 : Sml (a.den * b.den)) : PureC Tryz.prog 129 [pQ a, pQ b] (pQ (a + b)) := by
  have ha := @qD_nil a
  have hb := @qD_nil b
  have ha0 := @num_nil a
  have hb0 := @num_nil b
  refine PureC.of Tryz.func129 rfl Tryz.ntmps129 (vs := [.cell 4 31]) rfl (Nat.le_of_ble_eq_true rfl) rfl fun cx _ _ => ?_
  refine AWP.seq ?_
  refine AWP.region ?_
  refine OPS.a rfl (st_box rfl rfl) ?_
  refine OPS.a rfl (st_box rfl rfl) ?_
  refine OPS.a rfl (st_alloc ze31) ?_
  refine OPS.nil ?_
  refine AWP.seq ?_
  refine AWP.block ?_
  refine AWP.seq ?_
  refine AWP.region ?_
  refine OPS.p rfl (by exact st_field_p off31_1 rfl) ?_
  refine OPS.p rfl (by exact st_field_p off29_1 rfl) ?_
  refine OPS.p rfl (by exact st_load_vs sc22 rfl rfl rfl) ?_
  refine OPS.p rfl (st_len un22 rfl rfl) ?_
  refine OPS.p rfl (st_eql rfl rfl) ?_
  refine OPS.p rfl (st_move rfl) ?_
  refine OPS.split (g := 13) rfl (fun eg1_5 g1_5 => ?_) (fun eg1_5 g1_5 => ?_)
  · refine OPS.pG rfl rfl rfl eg1_5 (by exact st_field_p off31_1 rfl) ?_
    refine OPS.pG rfl rfl rfl eg1_5 (by exact st_field_p off29_1 rfl) ?_
    refine OPS.pG rfl rfl rfl eg1_5 (by exact st_load_vs sc22 rfl rfl rfl) ?_
    refine OPS.pG rfl rfl rfl eg1_5 (st_len un22 rfl rfl) ?_
    refine OPS.pG rfl rfl rfl eg1_5 (st_eql rfl rfl) ?_
    refine OPS.p rfl (st_pickT rfl eg1_5 rfl) ?_
    refine OPS.p rfl (st_assign rfl) ?_
    refine OPS.nil ?_
    refine AWP.condD rfl (fun hc1 => ?_) (fun hc1 => ?_)
    · refine AWP.seq ?_
      refine AWP.region ?_
      refine OPS.p rfl (by exact st_field_p off31_0 rfl) ?_
      refine OPS.p rfl (by exact st_load_va ag29 rfl rfl rfl rfl) ?_
      refine OPS.p rfl (by exact st_field_p off31_0 rfl) ?_
      refine OPS.p rfl (by exact st_load_va ag29 rfl rfl rfl rfl) ?_
      refine OPS.p rfl (st_call (L := [((.tmp 21), _), ((.tmp 23), _)]) false pl101 ⟨rfl, rfl, trivial⟩ rfl (k_Add a.num b.num h1 h2) rfl) ?_
      refine OPS.p rfl (st_build (L := [(0, (.tmp 24), _)]) zf31 pl_31 ⟨rfl, trivial⟩ rfl rfl) ?_
      refine OPS.s (by exact st_store_v sz31 rfl rfl rfl rfl rfl rfl) ?_
      refine OPS.nil ?_
      refine AWP.ret ?_
      refine Ret.mk rfl ?_
      have e : a + b = ((a.num + b.num : Int) : Rat) := by
        conv => lhs; rw [q_int (ha.1 (by omega)), q_int (hb.1 (by omega)), ← Rat.intCast_add]
      rw [pQ, e, eQ_int]
    · refine AWP.seq ?_
      refine AWP.region ?_
      refine OPS.p rfl (by exact st_field_p off31_0 rfl) ?_
      refine OPS.p rfl (by exact st_field_p off29_1 rfl) ?_
      refine OPS.p rfl (by exact st_load_vs sc22 rfl rfl rfl) ?_
      refine OPS.p rfl (st_len un22 rfl rfl) ?_
      refine OPS.p rfl (st_eql rfl rfl) ?_
      refine OPS.p rfl (st_assign rfl) ?_
      refine OPS.nil ?_
      refine AWP.condD rfl (fun hc3 => ?_) (fun hc3 => ?_)
      · refine AWP.seq ?_
        refine AWP.region ?_
        refine OPS.p rfl (by exact st_load_va ag31 rfl rfl rfl rfl) ?_
        refine OPS.s (by exact st_store_v sz31 rfl rfl rfl rfl rfl rfl) ?_
        refine OPS.nil ?_
        refine AWP.ret ?_
        refine Ret.mk rfl ?_
        rw [ha0.1 (by omega), Rat.zero_add]
        rfl
      · refine AWP.seq ?_
        refine AWP.region ?_
        refine OPS.p rfl (by exact st_field_p off31_0 rfl) ?_
        refine OPS.p rfl (by exact st_field_p off29_1 rfl) ?_
        refine OPS.p rfl (by exact st_load_vs sc22 rfl rfl rfl) ?_
        refine OPS.p rfl (st_len un22 rfl rfl) ?_
        refine OPS.p rfl (st_eql rfl rfl) ?_
        refine OPS.p rfl (st_assign rfl) ?_
        refine OPS.nil ?_
        refine AWP.condD rfl (fun hc5 => ?_) (fun hc5 => ?_)
        · refine AWP.seq ?_
          refine AWP.region ?_
          refine OPS.p rfl (by exact st_load_va ag31 rfl rfl rfl rfl) ?_
          refine OPS.s (by exact st_store_v sz31 rfl rfl rfl rfl rfl rfl) ?_
          refine OPS.nil ?_
          refine AWP.ret ?_
          refine Ret.mk rfl ?_
          rw [hb0.1 (by omega), Rat.add_zero]
          rfl
        · refine AWP.skip ?_
          refine AWP.seq ?_
          refine AWP.drw mixed ?_
          refine DRW.p rfl (by exact st_load_va ag31 rfl rfl rfl rfl) ?_
          refine DRW.p rfl (st_call (L := [((.tmp 40), _)]) false pl178 ⟨rfl, trivial⟩ rfl (k_Den a) rfl) ?_
          refine DRW.p rfl (by exact st_load_va ag31 rfl rfl rfl rfl) ?_
          refine DRW.p rfl (st_call (L := [((.tmp 42), _)]) false pl178 ⟨rfl, trivial⟩ rfl (k_Den b) rfl) ?_
          refine DRW.a rfl (st_alloc ze29) ?_
          refine DRW.a rfl (st_alloc ze29) ?_
          refine DRW.s (by exact st_store_v sz29 rfl rfl rfl rfl rfl rfl) ?_
          refine DRW.s (by exact st_store_v sz29 rfl rfl rfl rfl rfl rfl) ?_
          refine DRW.nil (by kernel_rfl) ?_
          refine AWP.seq ?_
          refine AWP.drw mixed ?_
          refine DRW.p rfl (by exact st_field_p off31_0 rfl) ?_
          refine DRW.p rfl (by exact st_load_va ag29 rfl rfl rfl rfl) ?_
          refine DRW.p rfl (by exact st_load_va ag29 rfl rfl rfl rfl) ?_
          refine DRW.p rfl (st_call (L := [((.tmp 45), _), ((.tmp 46), _)]) false pl177 ⟨rfl, rfl, trivial⟩ rfl (k_Mul a.num b.den h1 h4) rfl) ?_
          refine DRW.p rfl (by exact st_field_p off31_0 rfl) ?_
          refine DRW.p rfl (by exact st_load_va ag29 rfl rfl rfl rfl) ?_
          refine DRW.p rfl (by exact st_load_va ag29 rfl rfl rfl rfl) ?_
          refine DRW.p rfl (st_call (L := [((.tmp 49), _), ((.tmp 50), _)]) false pl177 ⟨rfl, rfl, trivial⟩ rfl (k_Mul b.num a.den h2 h3) rfl) ?_
          refine DRW.p rfl (st_call (L := [((.tmp 47), _), ((.tmp 51), _)]) false pl101 ⟨rfl, rfl, trivial⟩ rfl (k_Add (a.num * b.den) (b.num * a.den) h5 h6) rfl) ?_
          refine DRW.p rfl (by exact st_load_va ag29 rfl rfl rfl rfl) ?_
          refine DRW.p rfl (by exact st_load_va ag29 rfl rfl rfl rfl) ?_
          refine DRW.p rfl (st_call (L := [((.tmp 53), _), ((.tmp 54), _)]) false pl177 ⟨rfl, rfl, trivial⟩ rfl (k_Mul a.den b.den h3 h4) rfl) ?_
          refine DRW.p rfl (st_call (L := [((.tmp 52), _), ((.tmp 55), _)]) false pl102 ⟨rfl, rfl, trivial⟩ rfl (k_Make (a.num * b.den + b.num * a.den) (a.den * b.den) h7 (by rw [← Int.natCast_mul]; exact h8)) rfl) ?_
          refine DRW.s (by exact st_store_v sz31 rfl rfl rfl rfl rfl rfl) ?_
          refine DRW.nil (by kernel_rfl) ?_
          refine AWP.ret ?_
          exact Ret.mk rfl (by rw [q_add]; rfl)
  · refine OPS.nO rfl rfl rfl eg1_5 ?_
    refine OPS.nO rfl rfl rfl eg1_5 ?_
    refine OPS.nO rfl rfl rfl eg1_5 ?_
    refine OPS.nO rfl rfl rfl eg1_5 ?_
    refine OPS.nO rfl rfl rfl eg1_5 ?_
    refine OPS.p rfl (st_pickF rfl eg1_5 rfl) ?_
    refine OPS.p rfl (st_assign rfl) ?_
    refine OPS.nil ?_
    refine AWP.cond_f rfl (rfl) ?_
    refine AWP.seq ?_
    refine AWP.region ?_
    refine OPS.p rfl (by exact st_field_p off31_0 rfl) ?_
    refine OPS.p rfl (by exact st_field_p off29_1 rfl) ?_
    refine OPS.p rfl (by exact st_load_vs sc22 rfl rfl rfl) ?_
    refine OPS.p rfl (st_len un22 rfl rfl) ?_
    refine OPS.p rfl (st_eql rfl rfl) ?_
    refine OPS.p rfl (st_assign rfl) ?_
    refine OPS.nil ?_
    refine AWP.condD rfl (fun hc3 => ?_) (fun hc3 => ?_)
    · refine AWP.seq ?_
      refine AWP.region ?_
      refine OPS.p rfl (by exact st_load_va ag31 rfl rfl rfl rfl) ?_
      refine OPS.s (by exact st_store_v sz31 rfl rfl rfl rfl rfl rfl) ?_
      refine OPS.nil ?_
      refine AWP.ret ?_
      refine Ret.mk rfl ?_
      rw [ha0.1 (by omega), Rat.zero_add]
      rfl
    · refine AWP.seq ?_
      refine AWP.region ?_
      refine OPS.p rfl (by exact st_field_p off31_0 rfl) ?_
      refine OPS.p rfl (by exact st_field_p off29_1 rfl) ?_
      refine OPS.p rfl (by exact st_load_vs sc22 rfl rfl rfl) ?_
      refine OPS.p rfl (st_len un22 rfl rfl) ?_
      refine OPS.p rfl (st_eql rfl rfl) ?_
      refine OPS.p rfl (st_assign rfl) ?_
      refine OPS.nil ?_
      refine AWP.condD rfl (fun hc5 => ?_) (fun hc5 => ?_)
      · refine AWP.seq ?_
        refine AWP.region ?_
        refine OPS.p rfl (by exact st_load_va ag31 rfl rfl rfl rfl) ?_
        refine OPS.s (by exact st_store_v sz31 rfl rfl rfl rfl rfl rfl) ?_
        refine OPS.nil ?_
        refine AWP.ret ?_
        refine Ret.mk rfl ?_
        rw [hb0.1 (by omega), Rat.add_zero]
        rfl
      · refine AWP.skip ?_
        refine AWP.seq ?_
        refine AWP.drw mixed ?_
        refine DRW.p rfl (by exact st_load_va ag31 rfl rfl rfl rfl) ?_
        refine DRW.p rfl (st_call (L := [((.tmp 40), _)]) false pl178 ⟨rfl, trivial⟩ rfl (k_Den a) rfl) ?_
        refine DRW.p rfl (by exact st_load_va ag31 rfl rfl rfl rfl) ?_
        refine DRW.p rfl (st_call (L := [((.tmp 42), _)]) false pl178 ⟨rfl, trivial⟩ rfl (k_Den b) rfl) ?_
        refine DRW.a rfl (st_alloc ze29) ?_
        refine DRW.a rfl (st_alloc ze29) ?_
        refine DRW.s (by exact st_store_v sz29 rfl rfl rfl rfl rfl rfl) ?_
        refine DRW.s (by exact st_store_v sz29 rfl rfl rfl rfl rfl rfl) ?_
        refine DRW.nil (by kernel_rfl) ?_
        refine AWP.seq ?_
        refine AWP.drw mixed ?_
        refine DRW.p rfl (by exact st_field_p off31_0 rfl) ?_
        refine DRW.p rfl (by exact st_load_va ag29 rfl rfl rfl rfl) ?_
        refine DRW.p rfl (by exact st_load_va ag29 rfl rfl rfl rfl) ?_
        refine DRW.p rfl (st_call (L := [((.tmp 45), _), ((.tmp 46), _)]) false pl177 ⟨rfl, rfl, trivial⟩ rfl (k_Mul a.num b.den h1 h4) rfl) ?_
        refine DRW.p rfl (by exact st_field_p off31_0 rfl) ?_
        refine DRW.p rfl (by exact st_load_va ag29 rfl rfl rfl rfl) ?_
        refine DRW.p rfl (by exact st_load_va ag29 rfl rfl rfl rfl) ?_
        refine DRW.p rfl (st_call (L := [((.tmp 49), _), ((.tmp 50), _)]) false pl177 ⟨rfl, rfl, trivial⟩ rfl (k_Mul b.num a.den h2 h3) rfl) ?_
        refine DRW.p rfl (st_call (L := [((.tmp 47), _), ((.tmp 51), _)]) false pl101 ⟨rfl, rfl, trivial⟩ rfl (k_Add (a.num * b.den) (b.num * a.den) h5 h6) rfl) ?_
        refine DRW.p rfl (by exact st_load_va ag29 rfl rfl rfl rfl) ?_
        refine DRW.p rfl (by exact st_load_va ag29 rfl rfl rfl rfl) ?_
        refine DRW.p rfl (st_call (L := [((.tmp 53), _), ((.tmp 54), _)]) false pl177 ⟨rfl, rfl, trivial⟩ rfl (k_Mul a.den b.den h3 h4) rfl) ?_
        refine DRW.p rfl (st_call (L := [((.tmp 52), _), ((.tmp 55), _)]) false pl102 ⟨rfl, rfl, trivial⟩ rfl (k_Make (a.num * b.den + b.num * a.den) (a.den * b.den) h7 (by rw [← Int.natCast_mul]; exact h8)) rfl) ?_
        refine DRW.s (by exact st_store_v sz31 rfl rfl rfl rfl rfl rfl) ?_
        refine DRW.nil (by kernel_rfl) ?_
        refine AWP.ret ?_
        exact Ret.mk rfl (by rw [q_add]; rfl)

theorem k_qSub (a b : Rat) (h1 : Fit a.num.natAbs) (h2 : Fit b.num.natAbs) (h3 : Fit a.den) (h4 : Fit b.den) (h5 : Fit (a.num * b.den).natAbs) (h6 : Fit (b.num * a.den).natAbs) (h7 : Sml (a.num * b.den + -b.num * a.den).natAbs) (h8 : Sml (a.den * b.den)) : PureC Tryz.prog 182 [pQ a, pQ b] (pQ (a - b)) := by
  have e1 : (-b).num = -b.num := Rat.neg_num b
  have e2 : (-b).den = b.den := rfl
  refine PureC.of Tryz.func182 rfl Tryz.ntmps182 (vs := [.cell 4 31]) rfl (Nat.le_of_ble_eq_true rfl) rfl fun cx _ _ => ?_
  refine AWP.seq ?_
  refine AWP.region ?_
  refine OPS.a rfl (st_box rfl rfl) ?_
  refine OPS.a rfl (st_box rfl rfl) ?_
  refine OPS.a rfl (st_alloc ze31) ?_
  refine OPS.nil ?_
  refine AWP.seq ?_
  refine AWP.drw mixed ?_
  refine DRW.p rfl (by exact st_load_va ag31 rfl rfl rfl rfl) ?_
  refine DRW.p rfl (by exact st_load_va ag31 rfl rfl rfl rfl) ?_
  refine DRW.p rfl (st_call (L := [((.tmp 6), _)]) false pl127 ⟨rfl, trivial⟩ rfl (k_qNeg b) rfl) ?_
  refine DRW.p rfl (st_call (L := [((.tmp 5), _), ((.tmp 7), _)]) false pl129 ⟨rfl, rfl, trivial⟩ rfl (k_qAdd a (-b) h1 (by rw [e1, Int.natAbs_neg]; exact h2) h3 h4 h5 (by rw [e1, Int.neg_mul, Int.natAbs_neg]; exact h6) (by rw [e1]; exact h7) h8) rfl) ?_
  refine DRW.s (by exact st_store_v sz31 rfl rfl rfl rfl rfl rfl) ?_
  refine DRW.nil (by kernel_rfl) ?_
  refine AWP.ret ?_
  exact Ret.mk rfl (by rw [Rat.sub_eq_add_neg]; rfl)

theorem q_mul {a b : Rat} : (a * b).num = (Rat.divInt a.num b.den).num * (Rat.divInt b.num a.den).num ∧ (a * b).den = (Rat.divInt a.num b.den).den * (Rat.divInt b.num a.den).den := by
  have hb := b.den_nz
  have ha := a.den_nz
  rw [Rat.num_divInt, Rat.num_divInt, Rat.den_divInt, Rat.den_divInt, if_neg (by omega), if_neg (by omega), Int.sign_eq_one_of_pos (by omega), Int.sign_eq_one_of_pos (by omega), Int.one_mul, Int.one_mul]
  have e : a * b = Rat.mul a b := rfl
  rw [e]
  unfold Rat.mul
  simp only [Int.divExact_eq_ediv, Nat.divExact_eq_div]
  rw [Int.gcd_comm, Int.gcd_comm (a.den : Int)]
  refine ⟨rfl, ?_⟩
  rw [Nat.mul_comm]
  rfl

theorem make_le {n : Int} {d : Nat} (hn : Sml n.natAbs) (hd : Sml d) (h : d ≠ 0) : Sml (Rat.divInt n d).num.natAbs ∧ Sml (Rat.divInt n d).den := by
  rw [Rat.num_divInt, Rat.den_divInt, if_neg (by omega), Int.sign_eq_one_of_pos (by omega), Int.one_mul, Int.natAbs_ediv_of_dvd (Int.gcd_dvd_right ..)]
  exact ⟨hn.mono (Nat.div_le_self ..), hd.mono (Nat.div_le_self ..)⟩

theorem k_qMul (a b : Rat) (h1 : Sml a.num.natAbs) (h2 : Sml b.num.natAbs) (h3 : Sml a.den) (h4 : Sml b.den) : PureC Tryz.prog 67 [pQ a, pQ b] (pQ (a * b)) := by
  have ha := @qD_nil a
  have hb := @qD_nil b
  have ha0 := @num_nil a
  have hb0 := @num_nil b
  have hm := @q_mul a b
  have hx := make_le h1 h4 b.den_nz
  have hy := make_le h2 h3 a.den_nz
  refine PureC.of Tryz.func67 rfl Tryz.ntmps67 (vs := [.cell 4 31]) rfl (Nat.le_of_ble_eq_true rfl) rfl fun cx _ _ => ?_
  refine AWP.seq ?_
  refine AWP.region ?_
  refine OPS.a rfl (st_box rfl rfl) ?_
  refine OPS.a rfl (st_box rfl rfl) ?_
  refine OPS.a rfl (st_alloc ze31) ?_
  refine OPS.nil ?_
  refine AWP.seq ?_
  refine AWP.seq ?_
  refine AWP.region ?_
  refine OPS.p rfl (by exact st_field_p off31_0 rfl) ?_
  refine OPS.p rfl (by exact st_field_p off29_1 rfl) ?_
  refine OPS.p rfl (by exact st_load_vs sc22 rfl rfl rfl) ?_
  refine OPS.p rfl (st_len un22 rfl rfl) ?_
  refine OPS.p rfl (st_eql rfl rfl) ?_
  refine OPS.p rfl (st_move rfl) ?_
  refine OPS.split (g := 12) rfl (fun eg1_5 g1_5 => ?_) (fun eg1_5 g1_5 => ?_)
  · refine OPS.nO rfl rfl rfl eg1_5 ?_
    refine OPS.nO rfl rfl rfl eg1_5 ?_
    refine OPS.nO rfl rfl rfl eg1_5 ?_
    refine OPS.nO rfl rfl rfl eg1_5 ?_
    refine OPS.nO rfl rfl rfl eg1_5 ?_
    refine OPS.p rfl (st_pickT rfl eg1_5 rfl) ?_
    refine OPS.nil ?_
    refine AWP.cond_t rfl (rfl) ?_
    refine AWP.seq ?_
    refine AWP.region ?_
    refine OPS.p rfl (st_build (L := []) zf31 pl_31 trivial rfl rfl) ?_
    refine OPS.s (by exact st_store_v sz31 rfl rfl rfl rfl rfl rfl) ?_
    refine OPS.nil ?_
    refine AWP.ret ?_
    refine Ret.mk rfl ?_
    rw [pQ, ha0.1 (by omega), Rat.zero_mul, eQ_zero]
  · refine OPS.pG rfl rfl rfl eg1_5 (by exact st_field_p off31_0 rfl) ?_
    refine OPS.pG rfl rfl rfl eg1_5 (by exact st_field_p off29_1 rfl) ?_
    refine OPS.pG rfl rfl rfl eg1_5 (by exact st_load_vs sc22 rfl rfl rfl) ?_
    refine OPS.pG rfl rfl rfl eg1_5 (st_len un22 rfl rfl) ?_
    refine OPS.pG rfl rfl rfl eg1_5 (st_eql rfl rfl) ?_
    refine OPS.p rfl (st_pickF rfl eg1_5 rfl) ?_
    refine OPS.nil ?_
    refine AWP.condD rfl (fun hc1 => ?_) (fun hc1 => ?_)
    · refine AWP.seq ?_
      refine AWP.region ?_
      refine OPS.p rfl (st_build (L := []) zf31 pl_31 trivial rfl rfl) ?_
      refine OPS.s (by exact st_store_v sz31 rfl rfl rfl rfl rfl rfl) ?_
      refine OPS.nil ?_
      refine AWP.ret ?_
      refine Ret.mk rfl ?_
      rw [pQ, hb0.1 (by omega), Rat.mul_zero, eQ_zero]
    · refine AWP.skip ?_
      refine AWP.seq ?_
      refine AWP.seq ?_
      refine AWP.region ?_
      refine OPS.p rfl (by exact st_field_p off31_1 rfl) ?_
      refine OPS.p rfl (by exact st_field_p off29_1 rfl) ?_
      refine OPS.p rfl (by exact st_load_vs sc22 rfl rfl rfl) ?_
      refine OPS.p rfl (st_len un22 rfl rfl) ?_
      refine OPS.p rfl (st_eql rfl rfl) ?_
      refine OPS.p rfl (st_move rfl) ?_
      refine OPS.split (g := 25) rfl (fun eg3_5 g3_5 => ?_) (fun eg3_5 g3_5 => ?_)
      · refine OPS.pG rfl rfl rfl eg3_5 (by exact st_field_p off31_1 rfl) ?_
        refine OPS.pG rfl rfl rfl eg3_5 (by exact st_field_p off29_1 rfl) ?_
        refine OPS.pG rfl rfl rfl eg3_5 (by exact st_load_vs sc22 rfl rfl rfl) ?_
        refine OPS.pG rfl rfl rfl eg3_5 (st_len un22 rfl rfl) ?_
        refine OPS.pG rfl rfl rfl eg3_5 (st_eql rfl rfl) ?_
        refine OPS.p rfl (st_pickT rfl eg3_5 rfl) ?_
        refine OPS.nil ?_
        refine AWP.condD rfl (fun hc3 => ?_) (fun hc3 => ?_)
        · refine AWP.seq ?_
          refine AWP.region ?_
          refine OPS.p rfl (by exact st_field_p off31_0 rfl) ?_
          refine OPS.p rfl (by exact st_load_va ag29 rfl rfl rfl rfl) ?_
          refine OPS.p rfl (by exact st_field_p off31_0 rfl) ?_
          refine OPS.p rfl (by exact st_load_va ag29 rfl rfl rfl rfl) ?_
          refine OPS.p rfl (st_call (L := [((.tmp 33), _), ((.tmp 35), _)]) false pl177 ⟨rfl, rfl, trivial⟩ rfl (k_Mul a.num b.num h1.fit h2.fit) rfl) ?_
          refine OPS.p rfl (st_build (L := [(0, (.tmp 36), _)]) zf31 pl_31 ⟨rfl, trivial⟩ rfl rfl) ?_
          refine OPS.s (by exact st_store_v sz31 rfl rfl rfl rfl rfl rfl) ?_
          refine OPS.nil ?_
          refine AWP.ret ?_
          refine Ret.mk rfl ?_
          have e : a * b = ((a.num * b.num : Int) : Rat) := by
            conv => lhs; rw [q_int (ha.1 (by omega)), q_int (hb.1 (by omega)), ← Rat.intCast_mul]
          rw [pQ, e, eQ_int]
        · refine AWP.skip ?_
          refine AWP.seq ?_
          refine AWP.drw mixed ?_
          refine DRW.p rfl (by exact st_field_p off31_0 rfl) ?_
          refine DRW.p rfl (by exact st_load_va ag29 rfl rfl rfl rfl) ?_
          refine DRW.p rfl (by exact st_load_va ag31 rfl rfl rfl rfl) ?_
          refine DRW.p rfl (st_call (L := [((.tmp 40), _)]) false pl178 ⟨rfl, trivial⟩ rfl (k_Den b) rfl) ?_
          refine DRW.p rfl (st_call (L := [((.tmp 39), _), ((.tmp 41), _)]) false pl102 ⟨rfl, rfl, trivial⟩ rfl (k_Make a.num b.den h1 h4) rfl) ?_
          refine DRW.p rfl (by exact st_field_p off31_0 rfl) ?_
          refine DRW.p rfl (by exact st_load_va ag29 rfl rfl rfl rfl) ?_
          refine DRW.p rfl (by exact st_load_va ag31 rfl rfl rfl rfl) ?_
          refine DRW.p rfl (st_call (L := [((.tmp 45), _)]) false pl178 ⟨rfl, trivial⟩ rfl (k_Den a) rfl) ?_
          refine DRW.p rfl (st_call (L := [((.tmp 44), _), ((.tmp 46), _)]) false pl102 ⟨rfl, rfl, trivial⟩ rfl (k_Make b.num a.den h2 h3) rfl) ?_
          refine DRW.a rfl (st_alloc ze31) ?_
          refine DRW.a rfl (st_alloc ze31) ?_
          refine DRW.s (by exact st_store_v sz31 rfl rfl rfl rfl rfl rfl) ?_
          refine DRW.s (by exact st_store_v sz31 rfl rfl rfl rfl rfl rfl) ?_
          refine DRW.nil (by kernel_rfl) ?_
          refine AWP.seq ?_
          refine AWP.drw mixed ?_
          refine DRW.p rfl (by exact st_field_p off31_0 rfl) ?_
          refine DRW.p rfl (by exact st_load_va ag29 rfl rfl rfl rfl) ?_
          refine DRW.p rfl (by exact st_field_p off31_0 rfl) ?_
          refine DRW.p rfl (by exact st_load_va ag29 rfl rfl rfl rfl) ?_
          refine DRW.p rfl (st_call (L := [((.tmp 49), _), ((.tmp 51), _)]) false pl177 ⟨rfl, rfl, trivial⟩ rfl (k_Mul _ _ hx.1.fit hy.1.fit) rfl) ?_
          refine DRW.p rfl (by exact st_load_va ag31 rfl rfl rfl rfl) ?_
          refine DRW.p rfl (st_call (L := [((.tmp 53), _)]) false pl178 ⟨rfl, trivial⟩ rfl (k_Den _) rfl) ?_
          refine DRW.p rfl (by exact st_load_va ag31 rfl rfl rfl rfl) ?_
          refine DRW.p rfl (st_call (L := [((.tmp 55), _)]) false pl178 ⟨rfl, trivial⟩ rfl (k_Den _) rfl) ?_
          refine DRW.p rfl (st_call (L := [((.tmp 54), _), ((.tmp 56), _)]) false pl177 ⟨rfl, rfl, trivial⟩ rfl (k_Mul _ _ hx.2.fit hy.2.fit) rfl) ?_
          refine DRW.p rfl (st_call (L := [((.tmp 52), _), ((.tmp 57), _)]) false pl179 ⟨rfl, rfl, trivial⟩ rfl (k_lowest (a * b) _ _ (.inl ⟨by rw [hm.2]; simp, hm.1.symm⟩)) rfl) ?_
          refine DRW.s (by exact st_store_v sz31 rfl rfl rfl rfl rfl rfl) ?_
          refine DRW.nil (by kernel_rfl) ?_
          refine AWP.ret ?_
          exact Ret.mk rfl rfl
      · refine OPS.nO rfl rfl rfl eg3_5 ?_
        refine OPS.nO rfl rfl rfl eg3_5 ?_
        refine OPS.nO rfl rfl rfl eg3_5 ?_
        refine OPS.nO rfl rfl rfl eg3_5 ?_
        refine OPS.nO rfl rfl rfl eg3_5 ?_
        refine OPS.p rfl (st_pickF rfl eg3_5 rfl) ?_
        refine OPS.nil ?_
        refine AWP.cond_f rfl (rfl) ?_
        refine AWP.skip ?_
        refine AWP.seq ?_
        refine AWP.drw mixed ?_
        refine DRW.p rfl (by exact st_field_p off31_0 rfl) ?_
        refine DRW.p rfl (by exact st_load_va ag29 rfl rfl rfl rfl) ?_
        refine DRW.p rfl (by exact st_load_va ag31 rfl rfl rfl rfl) ?_
        refine DRW.p rfl (st_call (L := [((.tmp 40), _)]) false pl178 ⟨rfl, trivial⟩ rfl (k_Den b) rfl) ?_
        refine DRW.p rfl (st_call (L := [((.tmp 39), _), ((.tmp 41), _)]) false pl102 ⟨rfl, rfl, trivial⟩ rfl (k_Make a.num b.den h1 h4) rfl) ?_
        refine DRW.p rfl (by exact st_field_p off31_0 rfl) ?_
        refine DRW.p rfl (by exact st_load_va ag29 rfl rfl rfl rfl) ?_
        refine DRW.p rfl (by exact st_load_va ag31 rfl rfl rfl rfl) ?_
        refine DRW.p rfl (st_call (L := [((.tmp 45), _)]) false pl178 ⟨rfl, trivial⟩ rfl (k_Den a) rfl) ?_
        refine DRW.p rfl (st_call (L := [((.tmp 44), _), ((.tmp 46), _)]) false pl102 ⟨rfl, rfl, trivial⟩ rfl (k_Make b.num a.den h2 h3) rfl) ?_
        refine DRW.a rfl (st_alloc ze31) ?_
        refine DRW.a rfl (st_alloc ze31) ?_
        refine DRW.s (by exact st_store_v sz31 rfl rfl rfl rfl rfl rfl) ?_
        refine DRW.s (by exact st_store_v sz31 rfl rfl rfl rfl rfl rfl) ?_
        refine DRW.nil (by kernel_rfl) ?_
        refine AWP.seq ?_
        refine AWP.drw mixed ?_
        refine DRW.p rfl (by exact st_field_p off31_0 rfl) ?_
        refine DRW.p rfl (by exact st_load_va ag29 rfl rfl rfl rfl) ?_
        refine DRW.p rfl (by exact st_field_p off31_0 rfl) ?_
        refine DRW.p rfl (by exact st_load_va ag29 rfl rfl rfl rfl) ?_
        refine DRW.p rfl (st_call (L := [((.tmp 49), _), ((.tmp 51), _)]) false pl177 ⟨rfl, rfl, trivial⟩ rfl (k_Mul _ _ hx.1.fit hy.1.fit) rfl) ?_
        refine DRW.p rfl (by exact st_load_va ag31 rfl rfl rfl rfl) ?_
        refine DRW.p rfl (st_call (L := [((.tmp 53), _)]) false pl178 ⟨rfl, trivial⟩ rfl (k_Den _) rfl) ?_
        refine DRW.p rfl (by exact st_load_va ag31 rfl rfl rfl rfl) ?_
        refine DRW.p rfl (st_call (L := [((.tmp 55), _)]) false pl178 ⟨rfl, trivial⟩ rfl (k_Den _) rfl) ?_
        refine DRW.p rfl (st_call (L := [((.tmp 54), _), ((.tmp 56), _)]) false pl177 ⟨rfl, rfl, trivial⟩ rfl (k_Mul _ _ hx.2.fit hy.2.fit) rfl) ?_
        refine DRW.p rfl (st_call (L := [((.tmp 52), _), ((.tmp 57), _)]) false pl179 ⟨rfl, rfl, trivial⟩ rfl (k_lowest (a * b) _ _ (.inl ⟨by rw [hm.2]; simp, hm.1.symm⟩)) rfl) ?_
        refine DRW.s (by exact st_store_v sz31 rfl rfl rfl rfl rfl rfl) ?_
        refine DRW.nil (by kernel_rfl) ?_
        refine AWP.ret ?_
        exact Ret.mk rfl rfl

def cmpQ (a b : Rat) : Int := if a < b then -1 else if a = b then 0 else 1
theorem cmpQ_cross (a b : Rat) : cmpI (a.num * b.den) (b.num * a.den) = cmpQ a b := by
  unfold cmpI cmpQ
  have h1 := Rat.lt_iff a b
  have h2 : a = b ↔ a.num * b.den = b.num * a.den := by
    conv => lhs; rw [← Rat.num_divInt_den a, ← Rat.num_divInt_den b]
    exact Rat.divInt_eq_divInt_iff (by have := a.den_nz; omega) (by have := b.den_nz; omega)
  simp only [h1, h2]
theorem sign_mul_pos (n : Int) {d : Nat} (hd : d ≠ 0) : (n * d).sign = n.sign := by
  rw [Int.sign_mul, Int.sign_eq_one_of_pos (show (0 : Int) < d by omega), Int.mul_one]
theorem cmpQ_sign {a b : Rat} (h : a.num.sign ≠ b.num.sign ∨ a.num.sign = 0) : cmpI a.num.sign b.num.sign = cmpQ a b := by
  rw [← cmpQ_cross, ← sign_mul_pos a.num b.den_nz, ← sign_mul_pos b.num a.den_nz] at *
  generalize a.num * b.den = x at *
  generalize b.num * a.den = y at *
  unfold cmpI
  rcases Int.lt_trichotomy x 0 with hx | hx | hx <;> rcases Int.lt_trichotomy y 0 with hy | hy | hy
  all_goals
    first
      | rw [Int.sign_eq_neg_one_of_neg hx] at *
      | rw [hx, Int.sign_zero] at *
      | rw [Int.sign_eq_one_of_pos hx] at *
    first
      | rw [Int.sign_eq_neg_one_of_neg hy] at *
      | rw [hy, Int.sign_zero] at *
      | rw [Int.sign_eq_one_of_pos hy] at *
    try ((repeat' split) <;> omega)

theorem k_qCompare (a b : Rat) (h1 : Fit a.num.natAbs) (h2 : Fit b.num.natAbs) (h3 : Fit a.den) (h4 : Fit b.den) (h5 : Fit (a.num * b.den).natAbs) (h6 : Fit (b.num * a.den).natAbs) : PureC Tryz.prog 128 [pQ a, pQ b] (pI (cmpQ a b)) := by
  have hs : ∀ n : Int, -1 ≤ n.sign ∧ n.sign ≤ 1 := fun n => by
    rcases Int.lt_trichotomy n 0 with h | h | h
    · rw [Int.sign_eq_neg_one_of_neg h]; omega
    · rw [h]; simp
    · rw [Int.sign_eq_one_of_pos h]; omega
  have hsa := hs a.num
  have hsb := hs b.num
  refine PureC.of Tryz.func128 rfl Tryz.ntmps128 (vs := [.tmp 4]) rfl (Nat.le_of_ble_eq_true rfl) rfl fun cx _ _ => ?_
  refine AWP.seq ?_
  refine AWP.region ?_
  refine OPS.a rfl (st_box rfl rfl) ?_
  refine OPS.a rfl (st_box rfl rfl) ?_
  refine OPS.p rfl (st_assign rfl) ?_
  refine OPS.nil ?_
  refine AWP.seq ?_
  refine AWP.seq ?_
  refine AWP.drw mixed ?_
  refine DRW.p rfl (by exact st_load_va ag31 rfl rfl rfl rfl) ?_
  refine DRW.p rfl (st_call (L := [((.tmp 7), _)]) false pl69 ⟨rfl, trivial⟩ rfl (k_qSign a) rfl) ?_
  refine DRW.p rfl (by exact st_load_va ag31 rfl rfl rfl rfl) ?_
  refine DRW.p rfl (st_call (L := [((.tmp 9), _)]) false pl69 ⟨rfl, trivial⟩ rfl (k_qSign b) rfl) ?_
  refine DRW.p rfl (st_assign rfl) ?_
  refine DRW.p rfl (st_assign rfl) ?_
  refine DRW.nil (by kernel_rfl) ?_
  refine AWP.seq ?_
  refine AWP.region ?_
  refine OPS.p rfl (st_move rfl) ?_
  refine OPS.p rfl (st_move rfl) ?_
  refine OPS.p rfl (st_neq rfl rfl) ?_
  refine OPS.p rfl (st_move rfl) ?_
  refine OPS.split (g := 14) rfl (fun eg2_3 g2_3 => ?_) (fun eg2_3 g2_3 => ?_)
  · refine OPS.nO rfl rfl rfl eg2_3 ?_
    refine OPS.nO rfl rfl rfl eg2_3 ?_
    refine OPS.p rfl (st_pickT rfl eg2_3 rfl) ?_
    refine OPS.nil ?_
    refine AWP.cond_t rfl (rfl) ?_
    refine AWP.seq ?_
    refine AWP.region ?_
    refine OPS.p rfl (st_move rfl) ?_
    refine OPS.p rfl (st_call (L := [((.tmp 18), _)]) false pl100 ⟨rfl, trivial⟩ rfl (k_Of _ (by omega) (by omega)) rfl) ?_
    refine OPS.p rfl (st_move rfl) ?_
    refine OPS.p rfl (st_call (L := [((.tmp 20), _)]) false pl100 ⟨rfl, trivial⟩ rfl (k_Of _ (by omega) (by omega)) rfl) ?_
    refine OPS.p rfl (st_call (L := [((.tmp 19), _), ((.tmp 21), _)]) false pl103 ⟨rfl, rfl, trivial⟩ rfl (k_Compare _ _ (Sml.fit (by show _ < _; omega)) (Sml.fit (by show _ < _; omega))) rfl) ?_
    refine OPS.p rfl (st_assign rfl) ?_
    refine OPS.nil ?_
    refine AWP.ret ?_
    exact Ret.mk rfl (congrArg pI (cmpQ_sign (.inl g2_3)))
  · refine OPS.pG rfl rfl rfl eg2_3 (st_move rfl) ?_
    refine OPS.pG rfl rfl rfl eg2_3 (st_eql rfl rfl) ?_
    refine OPS.p rfl (st_pickF rfl eg2_3 rfl) ?_
    refine OPS.nil ?_
    refine AWP.condD rfl (fun hc2 => ?_) (fun hc2 => ?_)
    · refine AWP.seq ?_
      refine AWP.region ?_
      refine OPS.p rfl (st_move rfl) ?_
      refine OPS.p rfl (st_call (L := [((.tmp 18), _)]) false pl100 ⟨rfl, trivial⟩ rfl (k_Of _ (by omega) (by omega)) rfl) ?_
      refine OPS.p rfl (st_move rfl) ?_
      refine OPS.p rfl (st_call (L := [((.tmp 20), _)]) false pl100 ⟨rfl, trivial⟩ rfl (k_Of _ (by omega) (by omega)) rfl) ?_
      refine OPS.p rfl (st_call (L := [((.tmp 19), _), ((.tmp 21), _)]) false pl103 ⟨rfl, rfl, trivial⟩ rfl (k_Compare _ _ (Sml.fit (by show _ < _; omega)) (Sml.fit (by show _ < _; omega))) rfl) ?_
      refine OPS.p rfl (st_assign rfl) ?_
      refine OPS.nil ?_
      refine AWP.ret ?_
      exact Ret.mk rfl (congrArg pI (cmpQ_sign (.inr hc2)))
    · refine AWP.skip ?_
      refine AWP.seq ?_
      refine AWP.drw mixed ?_
      refine DRW.p rfl (by exact st_field_p off31_0 rfl) ?_
      refine DRW.p rfl (by exact st_load_va ag29 rfl rfl rfl rfl) ?_
      refine DRW.p rfl (by exact st_load_va ag31 rfl rfl rfl rfl) ?_
      refine DRW.p rfl (st_call (L := [((.tmp 25), _)]) false pl178 ⟨rfl, trivial⟩ rfl (k_Den b) rfl) ?_
      refine DRW.p rfl (st_call (L := [((.tmp 24), _), ((.tmp 26), _)]) false pl177 ⟨rfl, rfl, trivial⟩ rfl (k_Mul a.num b.den h1 h4) rfl) ?_
      refine DRW.p rfl (by exact st_field_p off31_0 rfl) ?_
      refine DRW.p rfl (by exact st_load_va ag29 rfl rfl rfl rfl) ?_
      refine DRW.p rfl (by exact st_load_va ag31 rfl rfl rfl rfl) ?_
      refine DRW.p rfl (st_call (L := [((.tmp 30), _)]) false pl178 ⟨rfl, trivial⟩ rfl (k_Den a) rfl) ?_
      refine DRW.p rfl (st_call (L := [((.tmp 29), _), ((.tmp 31), _)]) false pl177 ⟨rfl, rfl, trivial⟩ rfl (k_Mul b.num a.den h2 h3) rfl) ?_
      refine DRW.p rfl (st_call (L := [((.tmp 27), _), ((.tmp 32), _)]) false pl103 ⟨rfl, rfl, trivial⟩ rfl (k_Compare _ _ h5 h6) rfl) ?_
      refine DRW.p rfl (st_assign rfl) ?_
      refine DRW.nil (by kernel_rfl) ?_
      refine AWP.ret ?_
      exact Ret.mk rfl (congrArg pI (cmpQ_cross a b))
end Go.Proofs.Gh.Tryz
end
section
set_option linter.unusedVariables false
set_option linter.unusedSimpArgs false
set_option maxRecDepth 4000
namespace Go.Proofs.Gh.Tryz
open Go Go.Proofs Go.Proofs.Gh

theorem k_rnormal (neg : Bool) (l : List Int) (hl : l.length ≤ 2199023255552) (hd : Dig l) : PureC Tryz.prog 236 [pB neg, pL l] (pZ (sg neg (dval l))) := by
  refine PureC.of Tryz.func236 rfl Tryz.ntmps236 (vs := [.cell 4 29]) rfl (Nat.le_of_ble_eq_true rfl) rfl fun cx _ _ => ?_
  refine AWP.seq ?_
  refine AWP.region ?_
  refine OPS.a rfl (st_alloc ze29) ?_
  refine OPS.nil ?_
  refine AWP.seq ?_
  refine AWP.region ?_
  refine OPS.p rfl (st_move rfl) ?_
  refine OPS.p rfl (st_len un22 rfl rfl) ?_
  refine OPS.p rfl (st_assign rfl) ?_
  refine OPS.nil ?_
  refine AWP.seq ?_
  refine AWP.block ?_
  refine AWP.loopR (σ := Int) (fun (zz : Int) => ⟨[(0, pB neg), (1, pL l), (4, .ptr 0 0), (5, pI zz)], [(0, .var [pB false, .cell (.sl 0 [])])], 1⟩) (fun (zz : Int) => 0 ≤ zz ∧ zz ≤ l.length ∧ dval (l.take zz.toNat) = dval l) (fun (zz : Int) => zz.toNat) ((l.length : Int)) (Sub.r (Sub.mk' ⟨(by rfl), (by rfl), (by rfl), (by rfl), trivial⟩ ⟨(by rfl), trivial⟩ (by exact Nat.le_refl _))) (by exact ⟨by omega, by omega, by simp⟩) ?_
  rintro i hinv
  have hinv : 0 ≤ i ∧ i ≤ l.length ∧ dval (l.take i.toNat) = dval l := hinv
  obtain ⟨h1, h2, h3⟩ := hinv
  show AWP _ _ _ _ _ _ _ ⟨[(0, pB neg), (1, pL l), (4, .ptr 0 0), (5, pI i)], [(0, .var [pB false, .cell (.sl 0 [])])], 1⟩
  refine AWP.seq ?_
  refine AWP.seq ?_
  refine AWP.region ?_
  refine OPS.p rfl (st_move rfl) ?_
  refine OPS.p rfl (st_gtr rfl rfl) ?_
  refine OPS.p rfl (st_move rfl) ?_
  refine OPS.split (g := 10) rfl (fun eg2_2 g2_2 => ?_) (fun eg2_2 g2_2 => ?_)
  · refine OPS.pG rfl rfl rfl eg2_2 (st_move rfl) ?_
    refine OPS.pG rfl rfl rfl eg2_2 (st_move rfl) ?_
    refine OPS.pG rfl rfl rfl eg2_2 (by exact st_sub_i rfl rfl (by omega) (by omega)) ?_
    refine OPS.pG rfl rfl rfl eg2_2 ((st_max rfl rfl).val (show pI (max (i - 1) 0) = pI (i - 1) by rw [show max (i - 1) 0 = i - 1 by omega])) ?_
    refine OPS.pG rfl rfl rfl eg2_2 (by exact st_index_I es22 rfl rfl (by omega) (by omega) (by rfl)) ?_
    refine OPS.pG rfl rfl rfl eg2_2 (by exact st_load_I sc3 rfl (by omega) (by omega)) ?_
    refine OPS.pG rfl rfl rfl eg2_2 (st_eql rfl rfl) ?_
    refine OPS.p rfl (st_pickT rfl eg2_2 rfl) ?_
    refine OPS.nil ?_
    refine AWP.condD rfl (fun hc2 => ?_) (fun hc2 => ?_)
    · refine AWP.skip ?_
      refine AWP.block ?_
      refine AWP.region ?_
      refine OPS.p rfl (st_move rfl) ?_
      refine OPS.p rfl (by exact st_sub_i rfl rfl (by omega) (by omega)) ?_
      refine OPS.p rfl (st_assign rfl) ?_
      refine OPS.nil ?_
      refine ⟨(i - 1), (Sub.r (Sub.mk' ⟨(by rfl), (by rfl), (by rfl), (by rfl), trivial⟩ ⟨(by rfl), trivial⟩ (by exact Nat.le_refl _))), ?_, ?_⟩
      · try dsimp only
        refine ⟨by omega, by omega, ?_⟩
        rw [← h3, show i.toNat = (i - 1).toNat + 1 by omega, dval_take_zero (by omega) hc2]
      · try dsimp only
        omega
    · refine AWP.exit ?_
      refine AWP.seq ?_
      refine AWP.seq ?_
      refine AWP.region ?_
      refine OPS.p rfl (st_move rfl) ?_
      refine OPS.p rfl (st_eql rfl rfl) ?_
      refine OPS.nil ?_
      refine AWP.condD rfl (fun hc4 => ?_) (fun hc4 => ?_)
      · refine AWP.seq ?_
        refine AWP.region ?_
        refine OPS.p rfl (st_build (L := []) zf29 pl_29 trivial rfl rfl) ?_
        refine OPS.s (by exact st_store_v sz29 rfl rfl rfl rfl rfl rfl) ?_
        refine OPS.nil ?_
        refine AWP.ret ?_
        refine Ret.mk rfl ?_
        subst hc4
        have h4 : dval l = 0 := by rw [← h3]; rfl
        rw [pZ, h4, sg_zero, eI_zero]
      · refine AWP.skip ?_
        refine AWP.seq ?_
        refine AWP.region ?_
        refine OPS.p rfl (st_move rfl) ?_
        refine OPS.p rfl (st_move rfl) ?_
        refine OPS.p rfl (st_move rfl) ?_
        refine OPS.p rfl (st_slice_h es22 rfl rfl (by (simp [fIs_len]; done)) (by omega) (by omega)) ?_
        refine OPS.p rfl (st_build (L := [(0, (.tmp 24), _), (1, (.tmp 27), _)]) zf29 pl_29 ⟨rfl, rfl, trivial⟩ rfl rfl) ?_
        refine OPS.s (by exact st_store_v sz29 rfl rfl rfl rfl rfl rfl) ?_
        refine OPS.nil ?_
        refine AWP.ret ?_
        refine Ret.mk rfl ?_
        have hlt : (i - 1).toNat < l.length := by omega
        have hpos : dval l ≠ 0 := by
          rw [← h3, show i.toNat = (i - 1).toNat + 1 by omega, take_succ hlt, dval_append]
          have := dval_nonneg (hd.take (i - 1).toNat)
          have := hd.get (i - 1).toNat
          have hp : (0 : Int) < 1000000000 ^ (l.take (i - 1).toNat).length := Int.pow_pos (by decide)
          have : (0 : Int) < 1000000000 ^ (l.take (i - 1).toNat).length * dval [l.getD (i - 1).toNat 0] := Int.mul_pos hp (by simp only [dval]; omega)
          omega
        have hv := dval_nonneg hd
        rw [pZ, eI_sg (l := l.take i.toNat) (by omega) (by
          rw [← h3]
          refine digs_of (hd.take _) fun hne => ?_
          have e : i.toNat = (i - 1).toNat + 1 := by omega
          simp only [e] at hne ⊢
          rw [take_last hlt]
          exact hc2), List.length_take, show min i.toNat l.length = i.toNat by omega]
        simp [fIs, List.map_take]
  · refine OPS.nO rfl rfl rfl eg2_2 ?_
    refine OPS.nO rfl rfl rfl eg2_2 ?_
    refine OPS.nO rfl rfl rfl eg2_2 ?_
    refine OPS.nO rfl rfl rfl eg2_2 ?_
    refine OPS.nO rfl rfl rfl eg2_2 ?_
    refine OPS.nO rfl rfl rfl eg2_2 ?_
    refine OPS.nO rfl rfl rfl eg2_2 ?_
    refine OPS.p rfl (st_pickF rfl eg2_2 rfl) ?_
    refine OPS.nil ?_
    refine AWP.cond_f rfl (rfl) ?_
    refine AWP.exit ?_
    refine AWP.seq ?_
    refine AWP.seq ?_
    refine AWP.region ?_
    refine OPS.p rfl (st_move rfl) ?_
    refine OPS.p rfl (st_eql rfl rfl) ?_
    refine OPS.nil ?_
    refine AWP.condD rfl (fun hc4 => ?_) (fun hc4 => ?_)
    · refine AWP.seq ?_
      refine AWP.region ?_
      refine OPS.p rfl (st_build (L := []) zf29 pl_29 trivial rfl rfl) ?_
      refine OPS.s (by exact st_store_v sz29 rfl rfl rfl rfl rfl rfl) ?_
      refine OPS.nil ?_
      refine AWP.ret ?_
      refine Ret.mk rfl ?_
      have h0 : i = 0 := by omega
      subst h0
      have h4 : dval l = 0 := by rw [← h3]; rfl
      rw [pZ, h4, sg_zero, eI_zero]
    · refine AWP.skip ?_
      refine AWP.seq ?_
      refine AWP.region ?_
      refine OPS.p rfl (st_move rfl) ?_
      refine OPS.p rfl (st_move rfl) ?_
      refine OPS.p rfl (st_move rfl) ?_
      refine OPS.p rfl (st_slice_h es22 rfl rfl (by (simp [fIs_len]; done)) (by omega) (by omega)) ?_
      refine OPS.p rfl (st_build (L := [(0, (.tmp 24), _), (1, (.tmp 27), _)]) zf29 pl_29 ⟨rfl, rfl, trivial⟩ rfl rfl) ?_
      refine OPS.s (by exact st_store_v sz29 rfl rfl rfl rfl rfl rfl) ?_
      refine OPS.nil ?_
      refine AWP.ret ?_
      omega


theorem digs_i64 {n : Nat} (h : n ≤ 9223372036854775808) : (digs n).length ≤ 3 := by
  apply Nat.le_of_not_lt
  intro h3
  have := digs_big h3
  omega

theorem k_rOf (n0 : Int) (h : -9223372036854775808 ≤ n0) (h' : n0 ≤ 9223372036854775807) : PureC Tryz.prog 139 [pI n0] (pZ n0) := by
  have hl3 := digs_i64 (n := n0.natAbs) (by omega)
  have hdd := digs_dig n0.natAbs
  refine PureC.of Tryz.func139 rfl Tryz.ntmps139 (vs := [.cell 2 29]) rfl (Nat.le_of_ble_eq_true rfl) rfl fun cx _ _ => ?_
  refine AWP.seq ?_
  refine AWP.region ?_
  refine OPS.a rfl (st_alloc ze29) ?_
  refine OPS.nil ?_
  refine AWP.seq ?_
  refine AWP.region ?_
  refine OPS.p rfl (st_assign rfl) ?_
  refine OPS.nil ?_
  refine AWP.seq ?_
  refine AWP.region ?_
  refine OPS.p rfl (st_move rfl) ?_
  refine OPS.p rfl (st_lss rfl rfl) ?_
  refine OPS.p rfl (st_assign rfl) ?_
  refine OPS.nil ?_
  refine AWP.seq ?_
  refine AWP.block ?_
  refine AWP.adopt 3 3 1 rfl ?_
  refine AWP.loopR (σ := Int × List Int) (fun (zz : Int × List Int) => ⟨[(0, pI zz.1), (2, .ptr 0 0), (3, .own 1 zz.2.length), (4, pB (decide (n0 < 0)))], [(0, .var [pB false, .cell (.sl 0 [])]), (1, .arr 3 1 zz.2.length (fIs zz.2))], 2⟩) (fun (zz : Int × List Int) => zz.1.natAbs ≤ 9223372036854775808 ∧ zz.2 ++ digs zz.1.natAbs = digs n0.natAbs) (fun (zz : Int × List Int) => zz.1.natAbs) (n0, []) (Sub.r (Sub.mk' ⟨(by rfl), (by rfl), (by rfl), (by rfl), trivial⟩ ⟨(by rfl), (by rfl), trivial⟩ (by exact Nat.le_refl _))) (by exact ⟨by omega, rfl⟩) ?_
  rintro ⟨n, l⟩ hinv
  have hinv : n.natAbs ≤ 9223372036854775808 ∧ l ++ digs n.natAbs = digs n0.natAbs := hinv
  obtain ⟨h1, h2⟩ := hinv
  show AWP _ _ _ _ _ _ _ ⟨[(0, pI n), (2, .ptr 0 0), (3, .own 1 l.length), (4, pB (decide (n0 < 0)))], [(0, .var [pB false, .cell (.sl 0 [])]), (1, .arr 3 1 l.length (fIs l))], 2⟩
  have hll : l.length ≤ 3 := by
    have := congrArg List.length h2
    rw [List.length_append] at this
    omega
  refine AWP.seq ?_
  refine AWP.seq ?_
  refine AWP.region ?_
  refine OPS.p rfl (st_move rfl) ?_
  refine OPS.p rfl (st_neq rfl rfl) ?_
  refine OPS.nil ?_
  refine AWP.condD rfl (fun hc3 => ?_) (fun hc3 => ?_)
  · have hm : (n.tmod 1000000000).natAbs = n.natAbs % 1000000000 := by rw [Int.natAbs_tmod]; rfl
    have hq : (n.tdiv 1000000000).natAbs = n.natAbs / 1000000000 := by rw [Int.natAbs_tdiv]; rfl
    refine AWP.skip ?_
    refine AWP.block ?_
    refine AWP.seq ?_
    refine AWP.region ?_
    refine OPS.p rfl (st_move rfl) ?_
    refine OPS.p rfl (st_rem rfl rfl (by omega)) ?_
    refine OPS.p rfl (st_assign rfl) ?_
    refine OPS.nil ?_
    refine AWP.seq ?_
    refine AWP.mono (n := fun s' => ∃ zz : Int, SubR (loOf cx) s' ((fun (zz : Int) => ⟨[(0, pI n), (2, .ptr 0 0), (3, .own 1 l.length), (4, pB (decide (n0 < 0))), (5, pI zz)], [(0, .var [pB false, .cell (.sl 0 [])]), (1, .arr 3 1 l.length (fIs l))], 2⟩) zz) ∧ (fun (zz : Int) => zz = (n.natAbs % 1000000000 : Nat)) zz) ?_ ?_
    · refine AWP.seq ?_
      refine AWP.region ?_
      refine OPS.p rfl (st_move rfl) ?_
      refine OPS.p rfl (st_lss rfl rfl) ?_
      refine OPS.nil ?_
      refine AWP.condD rfl (fun hc5 => ?_) (fun hc5 => ?_)
      · refine AWP.region ?_
        refine OPS.p rfl (st_move rfl) ?_
        refine OPS.p rfl (by exact st_neg_i rfl (by omega) (by omega)) ?_
        refine OPS.p rfl (st_assign rfl) ?_
        refine OPS.nil ?_
        refine ⟨(-(n.tmod 1000000000)), (Sub.r (Sub.mk' ⟨(by rfl), (by rfl), (by rfl), (by rfl), (by rfl), trivial⟩ ⟨(by rfl), (by rfl), trivial⟩ (by exact Nat.le_refl _))), ?_⟩
        try dsimp only
        omega
      · refine AWP.skip ?_
        refine ⟨(n.tmod 1000000000), (Sub.r (Sub.mk' ⟨(by rfl), (by rfl), (by rfl), (by rfl), (by rfl), trivial⟩ ⟨(by rfl), (by rfl), trivial⟩ (by exact Nat.le_refl _))), ?_⟩
        try dsimp only
        omega
    · rintro s' ⟨k, hsub, hinv⟩
      have hinv : k = (n.natAbs % 1000000000 : Nat) := hinv
      obtain hk := id hinv
      refine AWP.subR hsub ?_
      show AWP _ _ _ _ _ _ _ ⟨[(0, pI n), (2, .ptr 0 0), (3, .own 1 l.length), (4, pB (decide (n0 < 0))), (5, pI k)], [(0, .var [pB false, .cell (.sl 0 [])]), (1, .arr 3 1 l.length (fIs l))], 2⟩
      refine AWP.seq ?_
      refine AWP.region ?_
      refine OPS.p rfl (st_move rfl) ?_
      refine OPS.p rfl (st_move rfl) ?_
      refine OPS.a rfl (Stp.frz (st_buildS (L := [(0, (.tmp 17), _)]) ei22 rfl ⟨rfl, trivial⟩ rfl rfl) rfl) ?_
      refine OPS.a rfl (by exact st_append_I (v := [_]) ei22 un22 rfl rfl rfl rfl rfl (by rfl) rfl (by (simp; omega)) (by (simp; omega))) ?_
      refine OPS.p rfl (st_assign rfl) ?_
      refine OPS.nil ?_
      refine AWP.region ?_
      refine OPS.p rfl (st_move rfl) ?_
      refine OPS.p rfl ((st_quo rfl rfl (by omega)).val (congrArg pI (w64 (by omega) (by omega)))) ?_
      refine OPS.p rfl (st_assign rfl) ?_
      refine OPS.nil ?_
      refine ⟨(n.tdiv 1000000000, l ++ [k]), (Ren.r (Ren.mk' (ρ := [(0, 0), (3, 1)]) rfl ⟨(by rfl), (by rfl), (by rfl), (by rfl), trivial⟩ ⟨(by rfl), (by rfl), trivial⟩)), ?_, ?_⟩
      · try dsimp only
        refine ⟨by omega, ?_⟩
        rw [hq, hk, List.append_assoc, List.singleton_append, ← digs_pos (by omega), h2]
      · try dsimp only
        omega
  · refine AWP.exit ?_
    refine AWP.seq ?_
    have hn : n = 0 := by omega
    subst hn
    rw [show (0 : Int).natAbs = 0 from rfl, digs_zero, List.append_nil] at h2
    refine AWP.freeze 1 [3] rfl ⟨rfl, trivial⟩ ?_
    refine AWP.region ?_
    refine OPS.p rfl (st_move rfl) ?_
    refine OPS.p rfl (st_move rfl) ?_
    refine OPS.p rfl (st_call (L := [((.tmp 22), _), ((.tmp 23), _)]) false pl236 ⟨rfl, rfl, trivial⟩ rfl (k_rnormal _ l (by omega) (by rw [h2]; exact hdd)) rfl) ?_
    refine OPS.s (by exact st_store_v sz29 rfl rfl rfl rfl rfl rfl) ?_
    refine OPS.nil ?_
    refine AWP.ret ?_
    refine Ret.mk rfl (congrArg pZ ?_)
    rw [h2, dval_digs]
    simp only [sg, decide_eq_true_eq]
    split <;> omega

theorem k_digit (l : List Int) (i : Nat) (hl : l.length ≤ 2199023255552) : PureC Tryz.prog 277 [pL l, pI i] (pI (l.getD i 0)) := by
  refine PureC.of Tryz.func277 rfl Tryz.ntmps277 (vs := [.tmp 4]) rfl (Nat.le_of_ble_eq_true rfl) rfl fun cx _ _ => ?_
  refine AWP.seq ?_
  refine AWP.region ?_
  refine OPS.p rfl (st_assign rfl) ?_
  refine OPS.nil ?_
  refine AWP.seq ?_
  refine AWP.seq ?_
  refine AWP.region ?_
  refine OPS.p rfl (st_move rfl) ?_
  refine OPS.p rfl (st_move rfl) ?_
  refine OPS.p rfl (st_len un22 rfl rfl) ?_
  refine OPS.p rfl (st_lss rfl rfl) ?_
  refine OPS.nil ?_
  refine AWP.condD rfl (fun hc1 => ?_) (fun hc1 => ?_)
  · refine AWP.seq ?_
    refine AWP.region ?_
    refine OPS.p rfl (st_move rfl) ?_
    refine OPS.p rfl (st_move rfl) ?_
    refine OPS.p rfl (by exact st_index_I es22 rfl rfl (by omega) (by omega) (by rfl)) ?_
    refine OPS.p rfl (by exact st_load_In sc3 rfl rfl (by omega)) ?_
    refine OPS.p rfl (st_assign rfl) ?_
    refine OPS.nil ?_
    refine AWP.ret ?_
    exact Ret.mk rfl rfl
  · refine AWP.skip ?_
    refine AWP.seq ?_
    refine AWP.region ?_
    refine OPS.p rfl (st_assign rfl) ?_
    refine OPS.nil ?_
    refine AWP.ret ?_
    exact Ret.mk rfl (by rw [getD_over (by omega)])

theorem k_compared (a b : Nat) (ha : Fit a) (hb : Fit b) : PureC Tryz.prog 235 [pL (digs a), pL (digs b)] (pI (cmpI a b)) := by
  have hda := digs_dig a
  have hdb := digs_dig b
  have hva := dval_digs a
  have hvb := dval_digs b
  have hla : (digs a).length ≤ 1099511627776 := ha
  have hlb : (digs b).length ≤ 1099511627776 := hb
  have hlt1 := @digs_lt_of_len a b
  have hlt2 := @digs_lt_of_len b a
  generalize digs a = l at *
  generalize digs b = m at *
  refine PureC.of Tryz.func235 rfl Tryz.ntmps235 (vs := [.tmp 4]) rfl (Nat.le_of_ble_eq_true rfl) rfl fun cx _ _ => ?_
  refine AWP.seq ?_
  refine AWP.region ?_
  refine OPS.p rfl (st_assign rfl) ?_
  refine OPS.nil ?_
  refine AWP.seq ?_
  refine AWP.seq ?_
  refine AWP.region ?_
  refine OPS.p rfl (st_move rfl) ?_
  refine OPS.p rfl (st_len un22 rfl rfl) ?_
  refine OPS.p rfl (st_move rfl) ?_
  refine OPS.p rfl (st_len un22 rfl rfl) ?_
  refine OPS.p rfl (st_lss rfl rfl) ?_
  refine OPS.nil ?_
  refine AWP.condD rfl (fun hc1 => ?_) (fun hc1 => ?_)
  · refine AWP.seq ?_
    refine AWP.region ?_
    refine OPS.p rfl (st_assign rfl) ?_
    refine OPS.nil ?_
    refine AWP.ret ?_
    refine Ret.mk rfl (congrArg pI ?_)
    unfold cmpI
    rw [if_pos (by have := hlt1 (by omega); omega)]
  · refine AWP.skip ?_
    refine AWP.seq ?_
    refine AWP.seq ?_
    refine AWP.region ?_
    refine OPS.p rfl (st_move rfl) ?_
    refine OPS.p rfl (st_len un22 rfl rfl) ?_
    refine OPS.p rfl (st_move rfl) ?_
    refine OPS.p rfl (st_len un22 rfl rfl) ?_
    refine OPS.p rfl (st_gtr rfl rfl) ?_
    refine OPS.nil ?_
    refine AWP.condD rfl (fun hc3 => ?_) (fun hc3 => ?_)
    · refine AWP.seq ?_
      refine AWP.region ?_
      refine OPS.p rfl (st_assign rfl) ?_
      refine OPS.nil ?_
      refine AWP.ret ?_
      refine Ret.mk rfl (congrArg pI ?_)
      unfold cmpI
      rw [if_neg (by have := hlt2 (by omega); omega), if_neg (by have := hlt2 (by omega); omega)]
    · refine AWP.skip ?_
      refine AWP.seq ?_
      refine AWP.seq ?_
      refine AWP.region ?_
      refine OPS.p rfl (st_move rfl) ?_
      refine OPS.p rfl (st_len un22 rfl rfl) ?_
      refine OPS.p rfl (by exact st_sub_i rfl rfl (by omega) (by omega)) ?_
      refine OPS.p rfl (st_assign rfl) ?_
      refine OPS.nil ?_
      refine AWP.block ?_
      refine AWP.loopR (σ := Int) (fun (zz : Int) => ⟨[(0, pL l), (1, pL m), (5, pI zz)], [], 0⟩) (fun (zz : Int) => -1 ≤ zz ∧ zz < l.length ∧ l.drop (zz + 1).toNat = m.drop (zz + 1).toNat) (fun (zz : Int) => (zz + 1).toNat) ((l.length : Int) - 1) (Sub.r (Sub.mk' ⟨(by rfl), (by rfl), (by rfl), trivial⟩ trivial (by exact Nat.le_refl _))) (by exact ⟨by omega, by omega, by rw [List.drop_of_length_le (by omega), List.drop_of_length_le (by omega)]⟩) ?_
      rintro i hinv
      have hinv : -1 ≤ i ∧ i < l.length ∧ l.drop (i + 1).toNat = m.drop (i + 1).toNat := hinv
      obtain ⟨h1, h2, h3⟩ := hinv
      show AWP _ _ _ _ _ _ _ ⟨[(0, pL l), (1, pL m), (5, pI i)], [], 0⟩
      refine AWP.seq ?_
      refine AWP.seq ?_
      refine AWP.region ?_
      refine OPS.p rfl (st_move rfl) ?_
      refine OPS.p rfl (st_geq rfl rfl) ?_
      refine OPS.nil ?_
      refine AWP.condD rfl (fun hc6 => ?_) (fun hc6 => ?_)
      · have hi : i.toNat < l.length := by omega
        have hi' : i.toNat < m.length := by omega
        have hd : l.drop (i.toNat + 1) = m.drop (i.toNat + 1) := by rw [show i.toNat + 1 = (i + 1).toNat by omega]; exact h3
        refine AWP.skip ?_
        refine AWP.seq ?_
        refine AWP.block ?_
        refine AWP.seq ?_
        refine AWP.seq ?_
        refine AWP.drw mixed ?_
        refine DRW.p rfl (st_move rfl) ?_
        refine DRW.p rfl (st_move rfl) ?_
        refine DRW.p rfl (by exact st_index_I es22 rfl rfl (by omega) (by omega) (by rfl)) ?_
        refine DRW.p rfl (by exact st_load_I sc3 rfl (by omega) (by omega)) ?_
        refine DRW.p rfl (st_move rfl) ?_
        refine DRW.p rfl (st_move rfl) ?_
        refine DRW.p rfl (by exact st_index_I es22 rfl rfl (by omega) (by omega) (by rfl)) ?_
        refine DRW.p rfl (by exact st_load_I sc3 rfl (by omega) (by omega)) ?_
        refine DRW.p rfl (st_lss rfl rfl) ?_
        refine DRW.nil (by kernel_rfl) ?_
        refine AWP.condD rfl (fun hc8 => ?_) (fun hc8 => ?_)
        · refine AWP.seq ?_
          refine AWP.region ?_
          refine OPS.p rfl (st_assign rfl) ?_
          refine OPS.nil ?_
          refine AWP.ret ?_
          refine Ret.mk rfl (congrArg pI ?_)
          have := dval_lt hda hdb (by omega) hi hd hc8
          unfold cmpI
          rw [if_pos (by omega)]
        · refine AWP.skip ?_
          refine AWP.seq ?_
          refine AWP.drw mixed ?_
          refine DRW.p rfl (st_move rfl) ?_
          refine DRW.p rfl (st_move rfl) ?_
          refine DRW.p rfl (by exact st_index_I es22 rfl rfl (by omega) (by omega) (by rfl)) ?_
          refine DRW.p rfl (by exact st_load_I sc3 rfl (by omega) (by omega)) ?_
          refine DRW.p rfl (st_move rfl) ?_
          refine DRW.p rfl (st_move rfl) ?_
          refine DRW.p rfl (by exact st_index_I es22 rfl rfl (by omega) (by omega) (by rfl)) ?_
          refine DRW.p rfl (by exact st_load_I sc3 rfl (by omega) (by omega)) ?_
          refine DRW.p rfl (st_gtr rfl rfl) ?_
          refine DRW.nil (by kernel_rfl) ?_
          refine AWP.condD rfl (fun hc10 => ?_) (fun hc10 => ?_)
          · refine AWP.seq ?_
            refine AWP.region ?_
            refine OPS.p rfl (st_assign rfl) ?_
            refine OPS.nil ?_
            refine AWP.ret ?_
            refine Ret.mk rfl (congrArg pI ?_)
            have := dval_lt hdb hda (by omega) hi' hd.symm hc10
            unfold cmpI
            rw [if_neg (by omega), if_neg (by omega)]
          · refine AWP.skip ?_
            refine AWP.region ?_
            refine OPS.p rfl (st_move rfl) ?_
            refine OPS.p rfl (by exact st_sub_i rfl rfl (by omega) (by omega)) ?_
            refine OPS.p rfl (st_assign rfl) ?_
            refine OPS.nil ?_
            refine ⟨(i - 1), (Sub.r (Sub.mk' ⟨(by rfl), (by rfl), (by rfl), trivial⟩ trivial (by exact Nat.le_refl _))), ?_, ?_⟩
            · try dsimp only
              refine ⟨by omega, by omega, ?_⟩
              have e : l.getD i.toNat 0 = m.getD i.toNat 0 := by omega
              rw [show (i - 1 + 1).toNat = i.toNat by omega, drop_cons hi, drop_cons hi', e, show i.toNat + 1 = (i + 1).toNat by omega, h3]
            · try dsimp only
              omega
      · refine AWP.exit ?_
        refine AWP.seq ?_
        refine AWP.region ?_
        refine OPS.p rfl (st_assign rfl) ?_
        refine OPS.nil ?_
        refine AWP.ret ?_
        refine Ret.mk rfl (congrArg pI ?_)
        have : i = -1 := by omega
        subst this
        have : l = m := by simpa using h3
        subst this
        unfold cmpI
        rw [if_neg (by omega), if_pos (by omega)]


end Go.Proofs.Gh.Tryz
end
section
set_option linter.unusedVariables false
set_option linter.unusedSimpArgs false
set_option maxRecDepth 4000
namespace Go.Proofs.Gh.Tryz
open Go Go.Proofs Go.Proofs.Gh

theorem k_rCompare (x y : Int) (hx : Fit x.natAbs) (hy : Fit y.natAbs) : PureC Tryz.prog 132 [pZ x, pZ y] (pI (cmpI x y)) := by
  refine PureC.of Tryz.func132 rfl Tryz.ntmps132 (vs := [.tmp 4]) rfl (Nat.le_of_ble_eq_true rfl) rfl fun cx _ _ => ?_
  refine AWP.seq ?_
  refine AWP.region ?_
  refine OPS.a rfl (st_box rfl rfl) ?_
  refine OPS.a rfl (st_box rfl rfl) ?_
  refine OPS.p rfl (st_assign rfl) ?_
  refine OPS.nil ?_
  refine AWP.seq ?_
  refine AWP.seq ?_
  refine AWP.region ?_
  refine OPS.p rfl (by exact st_field_p off29_0 rfl) ?_
  refine OPS.p rfl (by exact st_load_vs sc4 rfl rfl rfl) ?_
  refine OPS.p rfl (by exact st_field_p off29_0 rfl) ?_
  refine OPS.p rfl (by exact st_load_vs sc4 rfl rfl rfl) ?_
  refine OPS.p rfl (st_neq_b rfl rfl un4) ?_
  refine OPS.nil ?_
  refine AWP.cond rfl (fun hc1 => ?_) (fun hc1 => ?_)
  · have h : ¬ (x < 0 ↔ y < 0) := by simpa using hc1
    refine AWP.seq ?_
    refine AWP.seq ?_
    refine AWP.region ?_
    refine OPS.p rfl (by exact st_field_p off29_0 rfl) ?_
    refine OPS.p rfl (by exact st_load_vs sc4 rfl rfl rfl) ?_
    refine OPS.nil ?_
    refine AWP.condD rfl (fun hc2 => ?_) (fun hc2 => ?_)
    · refine AWP.seq ?_
      refine AWP.region ?_
      refine OPS.p rfl (st_assign rfl) ?_
      refine OPS.nil ?_
      refine AWP.ret ?_
      refine Ret.mk rfl (congrArg pI ?_)
      unfold cmpI
      (repeat' split) <;> omega
    · refine AWP.skip ?_
      refine AWP.seq ?_
      refine AWP.region ?_
      refine OPS.p rfl (st_assign rfl) ?_
      refine OPS.nil ?_
      refine AWP.ret ?_
      refine Ret.mk rfl (congrArg pI ?_)
      unfold cmpI
      (repeat' split) <;> omega
  · have h : (x < 0 ↔ y < 0) := by simpa using hc1
    refine AWP.skip ?_
    refine AWP.seq ?_
    refine AWP.seq ?_
    refine AWP.region ?_
    refine OPS.p rfl (by exact st_field_p off29_0 rfl) ?_
    refine OPS.p rfl (by exact st_load_vs sc4 rfl rfl rfl) ?_
    refine OPS.nil ?_
    refine AWP.condD rfl (fun hc5 => ?_) (fun hc5 => ?_)
    · refine AWP.seq ?_
      refine AWP.region ?_
      refine OPS.p rfl (by exact st_field_p off29_1 rfl) ?_
      refine OPS.p rfl (by exact st_load_vs sc22 rfl rfl rfl) ?_
      refine OPS.p rfl (by exact st_field_p off29_1 rfl) ?_
      refine OPS.p rfl (by exact st_load_vs sc22 rfl rfl rfl) ?_
      refine OPS.p rfl (st_call (L := [((.tmp 15), _), ((.tmp 17), _)]) false pl235 ⟨rfl, rfl, trivial⟩ rfl (k_compared y.natAbs x.natAbs hy hx) rfl) ?_
      refine OPS.p rfl (st_assign rfl) ?_
      refine OPS.nil ?_
      refine AWP.ret ?_
      refine Ret.mk rfl (congrArg pI ?_)
      unfold cmpI
      (repeat' split) <;> omega
    · refine AWP.skip ?_
      refine AWP.seq ?_
      refine AWP.region ?_
      refine OPS.p rfl (by exact st_field_p off29_1 rfl) ?_
      refine OPS.p rfl (by exact st_load_vs sc22 rfl rfl rfl) ?_
      refine OPS.p rfl (by exact st_field_p off29_1 rfl) ?_
      refine OPS.p rfl (by exact st_load_vs sc22 rfl rfl rfl) ?_
      refine OPS.p rfl (st_call (L := [((.tmp 20), _), ((.tmp 22), _)]) false pl235 ⟨rfl, rfl, trivial⟩ rfl (k_compared x.natAbs y.natAbs hx hy) rfl) ?_
      refine OPS.p rfl (st_assign rfl) ?_
      refine OPS.nil ?_
      refine AWP.ret ?_
      refine Ret.mk rfl (congrArg pI ?_)
      unfold cmpI
      (repeat' split) <;> omega

theorem k_rNeg (x : Int) (hx : Fit x.natAbs) : PureC Tryz.prog 135 [pZ x] (pZ (-x)) := by
  have h := hx.len
  refine PureC.of Tryz.func135 rfl Tryz.ntmps135 (vs := [.cell 2 29]) rfl (Nat.le_of_ble_eq_true rfl) rfl fun cx _ _ => ?_
  refine AWP.seq ?_
  refine AWP.region ?_
  refine OPS.a rfl (st_box rfl rfl) ?_
  refine OPS.a rfl (st_alloc ze29) ?_
  refine OPS.nil ?_
  refine AWP.seq ?_
  refine AWP.region ?_
  refine OPS.p rfl (by exact st_field_p off29_0 rfl) ?_
  refine OPS.p rfl (by exact st_load_vs sc4 rfl rfl rfl) ?_
  refine OPS.p rfl (by exact st_not_d rfl) ?_
  refine OPS.p rfl (by exact st_field_p off29_1 rfl) ?_
  refine OPS.p rfl (by exact st_load_vs sc22 rfl rfl rfl) ?_
  refine OPS.p rfl (st_call (L := [((.tmp 5), _), ((.tmp 7), _)]) false pl236 ⟨rfl, rfl, trivial⟩ rfl (k_rnormal _ (iD x) (by omega) (iD_dig x)) rfl) ?_
  refine OPS.s (by exact st_store_v sz29 rfl rfl rfl rfl rfl rfl) ?_
  refine OPS.nil ?_
  refine AWP.ret ?_
  refine Ret.mk rfl (congrArg pZ ?_)
  rw [iD_val]
  simp only [sg, decide_eq_true_eq]
  split <;> omega

def rplusL (a b : List Int) (c : Int) : List Int :=
  if h : a = [] ∧ b = [] then (if c = 0 then [] else [c])
  else ((a.headD 0 + b.headD 0 + c) % 1000000000) :: rplusL a.tail b.tail ((a.headD 0 + b.headD 0 + c) / 1000000000)
termination_by a.length + b.length
decreasing_by
  simp only [List.length_tail]
  have : a.length ≠ 0 ∨ b.length ≠ 0 := by
    apply Classical.byContradiction
    intro hn
    apply h
    exact ⟨List.eq_nil_of_length_eq_zero (by omega), List.eq_nil_of_length_eq_zero (by omega)⟩
  omega
theorem dval_ht (l : List Int) : dval l = l.headD 0 + 1000000000 * dval l.tail := by cases l <;> simp [dval]
theorem _root_.Go.Proofs.Gh.Dig.tl {l : List Int} (h : Dig l) : Dig l.tail := by
  cases l with
  | nil => exact h
  | cons d l => exact h.tail
theorem _root_.Go.Proofs.Gh.Dig.hd {l : List Int} (h : Dig l) : 0 ≤ l.headD 0 ∧ l.headD 0 < 1000000000 := by
  cases l with
  | nil => simp
  | cons d l => exact h.head
theorem rplusL_law : ∀ (n : Nat) {a b : List Int} {c : Int}, a.length + b.length = n → Dig a → Dig b → 0 ≤ c → c ≤ 1 → dval (rplusL a b c) = dval a + dval b + c ∧ Dig (rplusL a b c) ∧ (rplusL a b c).length ≤ max a.length b.length + 1 := by
  intro n
  induction n using Nat.strongRecOn with
  | ind n ih =>
    intro a b c hn ha hb h0 h1
    rw [rplusL]
    split
    · rename_i h
      rw [h.1, h.2]
      split
      · rename_i hc; subst hc; exact ⟨by simp [dval], .nil, by simp⟩
      · exact ⟨by simp [dval], .cons h0 (by omega) .nil, by simp⟩
    · rename_i h
      have hne : a.length ≠ 0 ∨ b.length ≠ 0 := by
        apply Classical.byContradiction
        intro hn
        apply h
        exact ⟨List.eq_nil_of_length_eq_zero (by omega), List.eq_nil_of_length_eq_zero (by omega)⟩
      have hha := ha.hd
      have hhb := hb.hd
      have ha1 := List.length_tail (l := a)
      have hb1 := List.length_tail (l := b)
      obtain ⟨q1, q2, q3⟩ := ih (a.tail.length + b.tail.length) (by omega) (a := a.tail) (b := b.tail) (c := (a.headD 0 + b.headD 0 + c) / 1000000000) rfl ha.tl hb.tl (by omega) (by omega)
      refine ⟨?_, .cons (by omega) (by omega) q2, ?_⟩
      · rw [dval, q1, dval_ht a, dval_ht b]
        omega
      · rw [List.length_cons]
        omega

theorem k_rplus (a b : List Int) (ha : Dig a) (hb : Dig b) (hla : a.length ≤ 1099511627777) (hlb : b.length ≤ 1099511627777) : PureC Tryz.prog 240 [pL a, pL b] (pL (rplusL a b 0)) := by
  have hlen := (rplusL_law _ rfl ha hb (c := 0) (by omega) (by omega)).2.2
  refine PureC.of Tryz.func240 rfl Tryz.ntmps240 (vs := [.tmp 4]) rfl (Nat.le_of_ble_eq_true rfl) rfl fun cx _ _ => ?_
  refine AWP.seq ?_
  refine AWP.region ?_
  refine OPS.p rfl (st_assign rfl) ?_
  refine OPS.nil ?_
  refine AWP.seq ?_
  refine AWP.region ?_
  refine OPS.p rfl (st_assign rfl) ?_
  refine OPS.nil ?_
  refine AWP.seq ?_
  refine AWP.region ?_
  refine OPS.p rfl (st_assign rfl) ?_
  refine OPS.nil ?_
  refine AWP.seq ?_
  refine AWP.seq ?_
  refine AWP.region ?_
  refine OPS.p rfl (st_assign rfl) ?_
  refine OPS.nil ?_
  refine AWP.block ?_
  refine AWP.adopt 5 3 1 rfl ?_
  refine AWP.loopR (σ := Nat × Int × List Int) (fun (zz : Nat × Int × List Int) => ⟨[(0, pL a), (1, pL b), (5, .own 0 zz.2.2.length), (6, pI zz.2.1), (7, pI zz.1)], [(0, .arr 3 1 zz.2.2.length (fIs zz.2.2))], 1⟩) (fun (zz : Nat × Int × List Int) => 0 ≤ zz.2.1 ∧ zz.2.1 ≤ 1 ∧ zz.1 = zz.2.2.length ∧ zz.2.2 ++ rplusL (a.drop zz.1) (b.drop zz.1) zz.2.1 = rplusL a b 0) (fun (zz : Nat × Int × List Int) => 2 * (max a.length b.length + 1 - zz.1) + zz.2.1.toNat) (0, 0, []) (Sub.r (Sub.mk' ⟨(by rfl), (by rfl), (by rfl), (by rfl), (by rfl), trivial⟩ ⟨(by rfl), trivial⟩ (by exact Nat.le_refl _))) (by (dsimp only; exact ⟨by omega, by omega, rfl, by simp⟩)) ?_
  rintro ⟨i, c, l⟩ hinv
  have hinv : 0 ≤ c ∧ c ≤ 1 ∧ i = l.length ∧ l ++ rplusL (a.drop i) (b.drop i) c = rplusL a b 0 := hinv
  obtain ⟨h1, h2, h3, h4⟩ := hinv
  show AWP _ _ _ _ _ _ _ ⟨[(0, pL a), (1, pL b), (5, .own 0 l.length), (6, pI c), (7, pI i)], [(0, .arr 3 1 l.length (fIs l))], 1⟩
  have hda := (ha.drop i).hd
  have hdb := (hb.drop i).hd
  have hll : l.length ≤ (rplusL a b 0).length := by rw [← h4, List.length_append]; omega
  rw [getD_headD] at hda hdb
  refine AWP.seq ?_
  refine AWP.mono (n := fun s' => ∃ zz : Unit, SubR (loOf cx) s' ((fun (zz : Unit) => ⟨[(0, pL a), (1, pL b), (5, .own 0 l.length), (6, pI c), (7, pI i)], [(0, .arr 3 1 l.length (fIs l))], 1⟩) zz) ∧ (fun (zz : Unit) => i < a.length ∨ i < b.length ∨ 0 < c) zz) ?_ ?_
  · refine AWP.seq ?_
    refine AWP.region ?_
    refine OPS.p rfl (st_move rfl) ?_
    refine OPS.p rfl (st_move rfl) ?_
    refine OPS.p rfl (st_len un22 rfl rfl) ?_
    refine OPS.p rfl (st_lss rfl rfl) ?_
    refine OPS.p rfl (st_move rfl) ?_
    refine OPS.split (g := 13) rfl (fun eg4_4 g4_4 => ?_) (fun eg4_4 g4_4 => ?_)
    · refine OPS.nO rfl rfl rfl eg4_4 ?_
      refine OPS.nO rfl rfl rfl eg4_4 ?_
      refine OPS.nO rfl rfl rfl eg4_4 ?_
      refine OPS.nO rfl rfl rfl eg4_4 ?_
      refine OPS.p rfl (st_pickT rfl eg4_4 rfl) ?_
      refine OPS.p rfl (st_move rfl) ?_
      refine OPS.nO rfl rfl rfl (rfl) ?_
      refine OPS.nO rfl rfl rfl (rfl) ?_
      refine OPS.p rfl (st_pickT rfl (rfl) rfl) ?_
      refine OPS.nil ?_
      refine AWP.cond_t rfl (rfl) ?_
      refine AWP.skip ?_
      refine ⟨(()), (Sub.r (Sub.mk' ⟨(by rfl), (by rfl), (by rfl), (by rfl), (by rfl), trivial⟩ ⟨(by rfl), trivial⟩ (by exact Nat.le_refl _))), ?_⟩
      try dsimp only
      omega
    · refine OPS.pG rfl rfl rfl eg4_4 (st_move rfl) ?_
      refine OPS.pG rfl rfl rfl eg4_4 (st_move rfl) ?_
      refine OPS.pG rfl rfl rfl eg4_4 (st_len un22 rfl rfl) ?_
      refine OPS.pG rfl rfl rfl eg4_4 (st_lss rfl rfl) ?_
      refine OPS.p rfl (st_pickF rfl eg4_4 rfl) ?_
      refine OPS.p rfl (st_move rfl) ?_
      refine OPS.split (g := 19) rfl (fun eg4_10 g4_10 => ?_) (fun eg4_10 g4_10 => ?_)
      · refine OPS.nO rfl rfl rfl eg4_10 ?_
        refine OPS.nO rfl rfl rfl eg4_10 ?_
        refine OPS.p rfl (st_pickT rfl eg4_10 rfl) ?_
        refine OPS.nil ?_
        refine AWP.cond_t rfl (rfl) ?_
        refine AWP.skip ?_
        refine ⟨(()), (Sub.r (Sub.mk' ⟨(by rfl), (by rfl), (by rfl), (by rfl), (by rfl), trivial⟩ ⟨(by rfl), trivial⟩ (by exact Nat.le_refl _))), ?_⟩
        try dsimp only
        omega
      · refine OPS.pG rfl rfl rfl eg4_10 (st_move rfl) ?_
        refine OPS.pG rfl rfl rfl eg4_10 (st_gtr rfl rfl) ?_
        refine OPS.p rfl (st_pickF rfl eg4_10 rfl) ?_
        refine OPS.nil ?_
        refine AWP.condD rfl (fun hc4 => ?_) (fun hc4 => ?_)
        · refine AWP.skip ?_
          refine ⟨(()), (Sub.r (Sub.mk' ⟨(by rfl), (by rfl), (by rfl), (by rfl), (by rfl), trivial⟩ ⟨(by rfl), trivial⟩ (by exact Nat.le_refl _))), ?_⟩
          try dsimp only
          omega
        · refine AWP.exit ?_
          refine AWP.seq ?_
          refine AWP.freeze 0 [5] rfl ⟨rfl, trivial⟩ ?_
          refine AWP.region ?_
          refine OPS.p rfl (st_move rfl) ?_
          refine OPS.p rfl (st_assign rfl) ?_
          refine OPS.nil ?_
          refine AWP.ret ?_
          have hc0 : c = 0 := by omega
          have e : rplusL (a.drop i) (b.drop i) c = [] := by
            rw [List.drop_of_length_le (by omega), List.drop_of_length_le (by omega), rplusL, hc0]
            simp
          rw [e, List.append_nil] at h4
          exact Ret.mk rfl (by rw [h4])
  · rintro s' ⟨u, hsub, hinv⟩
    have hinv : i < a.length ∨ i < b.length ∨ 0 < c := hinv
    obtain hgo := id hinv
    refine AWP.subR hsub ?_
    show AWP _ _ _ _ _ _ _ ⟨[(0, pL a), (1, pL b), (5, .own 0 l.length), (6, pI c), (7, pI i)], [(0, .arr 3 1 l.length (fIs l))], 1⟩
    have hst : rplusL (a.drop i) (b.drop i) c = (a.getD i 0 + b.getD i 0 + c) % 1000000000 :: rplusL (a.drop (i + 1)) (b.drop (i + 1)) ((a.getD i 0 + b.getD i 0 + c) / 1000000000) := by
      rw [rplusL]
      split
      · rename_i hh
        have e1 : a.length ≤ i := List.drop_eq_nil_iff.1 hh.1
        have e2 : b.length ≤ i := List.drop_eq_nil_iff.1 hh.2
        have hc : c = 1 := by omega
        rw [getD_over e1, getD_over e2, List.drop_of_length_le (by omega), List.drop_of_length_le (by omega), hc]
        rw [rplusL]
        simp
      · rw [getD_headD, getD_headD, List.tail_drop, List.tail_drop]
    rw [hst] at h4
    refine AWP.seq ?_
    refine AWP.block ?_
    refine AWP.seq ?_
    refine AWP.region ?_
    refine OPS.p rfl (st_move rfl) ?_
    refine OPS.p rfl (st_move rfl) ?_
    refine OPS.p rfl (st_call (L := [((.tmp 25), _), ((.tmp 26), _)]) false pl277 ⟨rfl, rfl, trivial⟩ rfl (k_digit a i (by omega)) rfl) ?_
    refine OPS.p rfl (st_move rfl) ?_
    refine OPS.p rfl (st_move rfl) ?_
    refine OPS.p rfl (st_call (L := [((.tmp 28), _), ((.tmp 29), _)]) false pl277 ⟨rfl, rfl, trivial⟩ rfl (k_digit b i (by omega)) rfl) ?_
    refine OPS.p rfl (by exact st_add_i rfl rfl (by omega) (by omega)) ?_
    refine OPS.p rfl (st_move rfl) ?_
    refine OPS.p rfl (by exact st_add_i rfl rfl (by omega) (by omega)) ?_
    refine OPS.p rfl (st_assign rfl) ?_
    refine OPS.nil ?_
    refine AWP.seq ?_
    refine AWP.region ?_
    refine OPS.p rfl (st_move rfl) ?_
    refine OPS.p rfl (st_move rfl) ?_
    refine OPS.p rfl (by exact st_rem_i rfl rfl (by omega) (by omega)) ?_
    refine OPS.a rfl (Stp.frz (st_buildS (L := [(0, (.tmp 36), _)]) ei22 rfl ⟨rfl, trivial⟩ rfl rfl) rfl) ?_
    refine OPS.a rfl (by exact st_append_I (v := [_]) ei22 un22 rfl rfl rfl rfl rfl (by rfl) rfl (by (simp; omega)) (by (simp; omega))) ?_
    refine OPS.p rfl (st_assign rfl) ?_
    refine OPS.nil ?_
    refine AWP.region ?_
    refine OPS.p rfl (st_move rfl) ?_
    refine OPS.p rfl (by exact st_quo_i rfl rfl (by omega) (by omega) (by omega)) ?_
    refine OPS.p rfl (st_assign rfl) ?_
    refine OPS.nil ?_
    refine AWP.region ?_
    refine OPS.p rfl (st_move rfl) ?_
    refine OPS.p rfl (by exact st_add_i rfl rfl (by omega) (by omega)) ?_
    refine OPS.p rfl (st_assign rfl) ?_
    refine OPS.nil ?_
    refine ⟨(i + 1, (a.getD i 0 + b.getD i 0 + c) / 1000000000, l ++ [(a.getD i 0 + b.getD i 0 + c) % 1000000000]), (Ren.r (Ren.mk' (ρ := [(2, 0)]) rfl ⟨(by rfl), (by rfl), (by rfl), (by rfl), (by rfl), trivial⟩ ⟨(by rfl), trivial⟩)), ?_, ?_⟩
    · try dsimp only
      exact ⟨by omega, by omega, by rw [List.length_append, h3]; rfl, by rw [List.append_assoc, List.singleton_append, h4]⟩
    · try dsimp only
      by_cases hi : i < a.length ∨ i < b.length
      · omega
      · have e1 := getD_over (l := a) (i := i) (by omega)
        have e2 := getD_over (l := b) (i := i) (by omega)
        omega
end Go.Proofs.Gh.Tryz
end
section
set_option linter.unusedVariables false
set_option linter.unusedSimpArgs false
set_option maxRecDepth 4000
namespace Go.Proofs.Gh.Tryz
open Go Go.Proofs Go.Proofs.Gh

theorem k_rminus (a b : List Int) (ha : Dig a) (hb : Dig b) (hla : a.length ≤ 1099511627777) (hlb : b.length ≤ 1099511627777) : PureC Tryz.prog 241 [pL a, pL b] (pL (minusL a b 0)) := by
  have hlen := minusL_len a b 0
  refine PureC.of Tryz.func241 rfl Tryz.ntmps241 (vs := [.tmp 4]) rfl (Nat.le_of_ble_eq_true rfl) rfl fun cx _ _ => ?_
  refine AWP.seq ?_
  refine AWP.region ?_
  refine OPS.p rfl (st_assign rfl) ?_
  refine OPS.nil ?_
  refine AWP.seq ?_
  refine AWP.region ?_
  refine OPS.p rfl (st_assign rfl) ?_
  refine OPS.nil ?_
  refine AWP.seq ?_
  refine AWP.region ?_
  refine OPS.p rfl (st_assign rfl) ?_
  refine OPS.nil ?_
  refine AWP.seq ?_
  refine AWP.seq ?_
  refine AWP.region ?_
  refine OPS.p rfl (st_assign rfl) ?_
  refine OPS.nil ?_
  refine AWP.block ?_
  refine AWP.adopt 5 3 1 rfl ?_
  refine AWP.loopR (σ := Nat × Int × List Int) (fun (zz : Nat × Int × List Int) => ⟨[(0, pL a), (1, pL b), (5, .own 0 zz.2.2.length), (6, pI zz.2.1), (7, pI zz.1)], [(0, .arr 3 1 zz.2.2.length (fIs zz.2.2))], 1⟩) (fun (zz : Nat × Int × List Int) => 0 ≤ zz.2.1 ∧ zz.2.1 ≤ 1 ∧ zz.1 = zz.2.2.length ∧ zz.2.2 ++ minusL (a.drop zz.1) (b.drop zz.1) zz.2.1 = minusL a b 0) (fun (zz : Nat × Int × List Int) => a.length - zz.1) (0, 0, []) (Sub.r (Sub.mk' ⟨(by rfl), (by rfl), (by rfl), (by rfl), (by rfl), trivial⟩ ⟨(by rfl), trivial⟩ (by exact Nat.le_refl _))) (by (dsimp only; exact ⟨by omega, by omega, rfl, by simp⟩)) ?_
  rintro ⟨i, c, l⟩ hinv
  have hinv : 0 ≤ c ∧ c ≤ 1 ∧ i = l.length ∧ l ++ minusL (a.drop i) (b.drop i) c = minusL a b 0 := hinv
  obtain ⟨h1, h2, h3, h4⟩ := hinv
  show AWP _ _ _ _ _ _ _ ⟨[(0, pL a), (1, pL b), (5, .own 0 l.length), (6, pI c), (7, pI i)], [(0, .arr 3 1 l.length (fIs l))], 1⟩
  have hda := ha.get i
  have hdb := hb.get i
  have hll : l.length ≤ (minusL a b 0).length := by rw [← h4, List.length_append]; omega
  refine AWP.seq ?_
  refine AWP.seq ?_
  refine AWP.region ?_
  refine OPS.p rfl (st_move rfl) ?_
  refine OPS.p rfl (st_move rfl) ?_
  refine OPS.p rfl (st_len un22 rfl rfl) ?_
  refine OPS.p rfl (st_lss rfl rfl) ?_
  refine OPS.nil ?_
  refine AWP.condD rfl (fun hc4 => ?_) (fun hc4 => ?_)
  · have hi : i < a.length := by omega
    refine AWP.skip ?_
    refine AWP.seq ?_
    refine AWP.block ?_
    refine AWP.seq ?_
    refine AWP.drw mixed ?_
    refine DRW.p rfl (st_move rfl) ?_
    refine DRW.p rfl (st_move rfl) ?_
    refine DRW.p rfl (by exact st_index_I es22 rfl rfl (by omega) (by omega) (by rfl)) ?_
    refine DRW.p rfl (by exact st_load_In sc3 rfl rfl (by omega)) ?_
    refine DRW.p rfl (st_move rfl) ?_
    refine DRW.p rfl (st_move rfl) ?_
    refine DRW.p rfl (st_call (L := [((.tmp 19), _), ((.tmp 20), _)]) false pl277 ⟨rfl, rfl, trivial⟩ rfl (k_digit b i (by omega)) rfl) ?_
    refine DRW.p rfl (by exact st_sub_i rfl rfl (by omega) (by omega)) ?_
    refine DRW.p rfl (st_move rfl) ?_
    refine DRW.p rfl (by exact st_sub_i rfl rfl (by omega) (by omega)) ?_
    refine DRW.p rfl (st_assign rfl) ?_
    refine DRW.nil (by kernel_rfl) ?_
    refine AWP.seq ?_
    refine AWP.region ?_
    refine OPS.p rfl (st_assign rfl) ?_
    refine OPS.nil ?_
    refine AWP.seq ?_
    refine AWP.mono (n := fun s' => ∃ zz : Int × Int, SubR (loOf cx) s' ((fun (zz : Int × Int) => ⟨[(0, pL a), (1, pL b), (5, .own 0 l.length), (6, pI zz.2), (7, pI i), (8, pI zz.1)], [(0, .arr 3 1 l.length (fIs l))], 1⟩) zz) ∧ (fun (zz : Int × Int) => 0 ≤ zz.2 ∧ zz.2 ≤ 1 ∧ minusL (a.drop i) (b.drop i) c = zz.1 :: minusL (a.drop (i + 1)) (b.drop (i + 1)) zz.2) zz) ?_ ?_
    · refine AWP.seq ?_
      refine AWP.region ?_
      refine OPS.p rfl (st_move rfl) ?_
      refine OPS.p rfl (st_lss rfl rfl) ?_
      refine OPS.nil ?_
      refine AWP.condD rfl (fun hc8 => ?_) (fun hc8 => ?_)
      · refine AWP.seq ?_
        refine AWP.region ?_
        refine OPS.p rfl (st_move rfl) ?_
        refine OPS.p rfl (by exact st_add_i rfl rfl (by omega) (by omega)) ?_
        refine OPS.p rfl (st_assign rfl) ?_
        refine OPS.nil ?_
        refine AWP.region ?_
        refine OPS.p rfl (st_assign rfl) ?_
        refine OPS.nil ?_
        refine ⟨(a.getD i 0 - b.getD i 0 - c + 1000000000, 1), (Sub.r (Sub.mk' ⟨(by rfl), (by rfl), (by rfl), (by rfl), (by rfl), (by rfl), trivial⟩ ⟨(by rfl), trivial⟩ (by exact Nat.le_refl _))), ?_⟩
        try dsimp only
        refine ⟨by omega, by omega, ?_⟩
        rw [drop_cons hi, minusL, getD_headD, List.tail_drop, if_pos (by omega)]
        congr 1
        omega
      · refine AWP.skip ?_
        refine ⟨(a.getD i 0 - b.getD i 0 - c, 0), (Sub.r (Sub.mk' ⟨(by rfl), (by rfl), (by rfl), (by rfl), (by rfl), (by rfl), trivial⟩ ⟨(by rfl), trivial⟩ (by exact Nat.le_refl _))), ?_⟩
        try dsimp only
        refine ⟨by omega, by omega, ?_⟩
        rw [drop_cons hi, minusL, getD_headD, List.tail_drop, if_neg (by omega)]
        congr 1
        omega
    · rintro s' ⟨⟨v, c'⟩, hsub, hinv⟩
      have hinv : 0 ≤ c' ∧ c' ≤ 1 ∧ minusL (a.drop i) (b.drop i) c = v :: minusL (a.drop (i + 1)) (b.drop (i + 1)) c' := hinv
      obtain ⟨k1, k2, k3⟩ := id hinv
      refine AWP.subR hsub ?_
      show AWP _ _ _ _ _ _ _ ⟨[(0, pL a), (1, pL b), (5, .own 0 l.length), (6, pI c'), (7, pI i), (8, pI v)], [(0, .arr 3 1 l.length (fIs l))], 1⟩
      refine AWP.region ?_
      refine OPS.p rfl (st_move rfl) ?_
      refine OPS.p rfl (st_move rfl) ?_
      refine OPS.a rfl (Stp.frz (st_buildS (L := [(0, (.tmp 30), _)]) ei22 rfl ⟨rfl, trivial⟩ rfl rfl) rfl) ?_
      refine OPS.a rfl (by exact st_append_I (v := [_]) ei22 un22 rfl rfl rfl rfl rfl (by rfl) rfl (by (simp; omega)) (by (simp; omega))) ?_
      refine OPS.p rfl (st_assign rfl) ?_
      refine OPS.nil ?_
      refine AWP.region ?_
      refine OPS.p rfl (st_move rfl) ?_
      refine OPS.p rfl (by exact st_add_i rfl rfl (by omega) (by omega)) ?_
      refine OPS.p rfl (st_assign rfl) ?_
      refine OPS.nil ?_
      refine ⟨(i + 1, c', l ++ [v]), (Ren.r (Ren.mk' (ρ := [(2, 0)]) rfl ⟨(by rfl), (by rfl), (by rfl), (by rfl), (by rfl), trivial⟩ ⟨(by rfl), trivial⟩)), ?_, ?_⟩
      · try dsimp only
        exact ⟨by omega, by omega, by rw [List.length_append, h3]; rfl, by rw [List.append_assoc, List.singleton_append, ← k3, h4]⟩
      · try dsimp only
        omega
  · refine AWP.exit ?_
    refine AWP.seq ?_
    refine AWP.freeze 0 [5] rfl ⟨rfl, trivial⟩ ?_
    refine AWP.region ?_
    refine OPS.p rfl (st_move rfl) ?_
    refine OPS.p rfl (st_assign rfl) ?_
    refine OPS.nil ?_
    refine AWP.ret ?_
    have e : minusL (a.drop i) (b.drop i) c = [] := by
      rw [List.drop_of_length_le (by omega), minusL]
    rw [e, List.append_nil] at h4
    exact Ret.mk rfl (by rw [h4])

theorem k_tiny (n : Nat) (hn : Sml n) : PureC Tryz.prog 275 [pL (digs n)] (pI n) := by
  have hl := hn.len
  have hv := dval_digs n
  have hd := digs_dig n
  generalize digs n = l at *
  have h0 := hd.get 0
  have h1 := hd.get 1
  have e : l.getD 1 0 * 1000000000 + l.getD 0 0 = n := by
    rw [← hv]
    match l, hl with
    | [], _ => rfl
    | [a], _ => simp [dval]
    | [a, b], _ => simp [dval]; omega
  refine PureC.of Tryz.func275 rfl Tryz.ntmps275 (vs := [.tmp 2]) rfl (Nat.le_of_ble_eq_true rfl) rfl fun cx _ _ => ?_
  refine AWP.seq ?_
  refine AWP.region ?_
  refine OPS.p rfl (st_assign rfl) ?_
  refine OPS.nil ?_
  refine AWP.seq ?_
  refine AWP.region ?_
  refine OPS.p rfl (st_move rfl) ?_
  refine OPS.p rfl (st_call (L := [((.tmp 3), _), ((.const (.int .i64 1)), _)]) false pl277 ⟨rfl, rfl, trivial⟩ rfl (k_digit l 1 (by omega)) rfl) ?_
  refine OPS.p rfl (by exact st_mul_i rfl rfl (by omega) (by omega)) ?_
  refine OPS.p rfl (st_move rfl) ?_
  refine OPS.p rfl (st_call (L := [((.tmp 6), _), ((.const (.int .i64 0)), _)]) false pl277 ⟨rfl, rfl, trivial⟩ rfl (k_digit l 0 (by omega)) rfl) ?_
  refine OPS.p rfl (by exact st_add_i rfl rfl (by omega) (by omega)) ?_
  refine OPS.p rfl (st_assign rfl) ?_
  refine OPS.nil ?_
  refine AWP.ret ?_
  exact Ret.mk rfl (congrArg pI e)
end Go.Proofs.Gh.Tryz
end
section
set_option linter.unusedVariables false
set_option linter.unusedSimpArgs false
set_option maxRecDepth 4000
namespace Go.Proofs.Gh.Tryz
open Go Go.Proofs Go.Proofs.Gh

theorem k_rAdd (x y : Int) (hx : Fit x.natAbs) (hy : Fit y.natAbs) : PureC Tryz.prog 138 [pZ x, pZ y] (pZ (x + y)) := by
  have hlx := hx.len
  have hly := hy.len
  have hp := rplusL_law _ rfl (iD_dig x) (iD_dig y) (c := 0) (by omega) (by omega)
  rw [iD_val, iD_val, Int.add_zero] at hp
  refine PureC.of Tryz.func138 rfl Tryz.ntmps138 (vs := [.cell 4 29]) rfl (Nat.le_of_ble_eq_true rfl) rfl fun cx _ _ => ?_
  refine AWP.seq ?_
  refine AWP.region ?_
  refine OPS.a rfl (st_box rfl rfl) ?_
  refine OPS.a rfl (st_box rfl rfl) ?_
  refine OPS.a rfl (st_alloc ze29) ?_
  refine OPS.nil ?_
  refine AWP.seq ?_
  refine AWP.seq ?_
  refine AWP.region ?_
  refine OPS.p rfl (by exact st_field_p off29_0 rfl) ?_
  refine OPS.p rfl (by exact st_load_vs sc4 rfl rfl rfl) ?_
  refine OPS.p rfl (by exact st_field_p off29_0 rfl) ?_
  refine OPS.p rfl (by exact st_load_vs sc4 rfl rfl rfl) ?_
  refine OPS.p rfl (st_eql_b rfl rfl un4) ?_
  refine OPS.nil ?_
  refine AWP.cond rfl (fun hc1 => ?_) (fun hc1 => ?_)
  · refine AWP.seq ?_
    refine AWP.drw mixed ?_
    refine DRW.p rfl (by exact st_field_p off29_0 rfl) ?_
    refine DRW.p rfl (by exact st_load_vs sc4 rfl rfl rfl) ?_
    refine DRW.p rfl (by exact st_field_p off29_1 rfl) ?_
    refine DRW.p rfl (by exact st_load_vs sc22 rfl rfl rfl) ?_
    refine DRW.p rfl (by exact st_field_p off29_1 rfl) ?_
    refine DRW.p rfl (by exact st_load_vs sc22 rfl rfl rfl) ?_
    refine DRW.p rfl (st_call (L := [((.tmp 13), _), ((.tmp 15), _)]) false pl240 ⟨rfl, rfl, trivial⟩ rfl (k_rplus (iD x) (iD y) (iD_dig x) (iD_dig y) (by omega) (by omega)) rfl) ?_
    refine DRW.p rfl (st_call (L := [((.tmp 11), _), ((.tmp 16), _)]) false pl236 ⟨rfl, rfl, trivial⟩ rfl (k_rnormal _ _ (by omega) hp.2.1) rfl) ?_
    refine DRW.s (by exact st_store_v sz29 rfl rfl rfl rfl rfl rfl) ?_
    refine DRW.nil (by kernel_rfl) ?_
    refine AWP.ret ?_
    refine Ret.mk rfl (congrArg pZ ?_)
    rw [hp.1]
    have h : (x < 0 ↔ y < 0) := by simpa using hc1
    by_cases h0 : x < 0
    · have := h.1 h0; simp [sg, h0]; omega
    · have : ¬ y < 0 := fun h1 => h0 (h.2 h1)
      simp [sg, h0]; omega
  · refine AWP.skip ?_
    refine AWP.seq ?_
    refine AWP.seq ?_
    refine AWP.region ?_
    refine OPS.p rfl (by exact st_field_p off29_1 rfl) ?_
    refine OPS.p rfl (by exact st_load_vs sc22 rfl rfl rfl) ?_
    refine OPS.p rfl (by exact st_field_p off29_1 rfl) ?_
    refine OPS.p rfl (by exact st_load_vs sc22 rfl rfl rfl) ?_
    refine OPS.p rfl (st_call (L := [((.tmp 19), _), ((.tmp 21), _)]) false pl235 ⟨rfl, rfl, trivial⟩ rfl (k_compared x.natAbs y.natAbs hx hy) rfl) ?_
    refine OPS.p rfl (st_lss rfl rfl) ?_
    refine OPS.nil ?_
    refine AWP.condD rfl (fun hc3 => ?_) (fun hc3 => ?_)
    · have hlt : x.natAbs < y.natAbs := by have := cmpI_neg.1 hc3; omega
      have hm := minusL_nat (Nat.le_of_lt hlt)
      refine AWP.seq ?_
      refine AWP.drw mixed ?_
      refine DRW.p rfl (by exact st_field_p off29_0 rfl) ?_
      refine DRW.p rfl (by exact st_load_vs sc4 rfl rfl rfl) ?_
      refine DRW.p rfl (by exact st_field_p off29_1 rfl) ?_
      refine DRW.p rfl (by exact st_load_vs sc22 rfl rfl rfl) ?_
      refine DRW.p rfl (by exact st_field_p off29_1 rfl) ?_
      refine DRW.p rfl (by exact st_load_vs sc22 rfl rfl rfl) ?_
      refine DRW.p rfl (st_call (L := [((.tmp 27), _), ((.tmp 29), _)]) false pl241 ⟨rfl, rfl, trivial⟩ rfl (k_rminus (digs y.natAbs) (digs x.natAbs) (iD_dig y) (iD_dig x) (Nat.le_trans hly (by omega)) (Nat.le_trans hlx (by omega))) rfl) ?_
      refine DRW.p rfl (st_call (L := [((.tmp 25), _), ((.tmp 30), _)]) false pl236 ⟨rfl, rfl, trivial⟩ rfl (k_rnormal _ _ (by rw [minusL_len]; exact Nat.le_trans hly (by omega)) hm.2) rfl) ?_
      refine DRW.s (by exact st_store_v sz29 rfl rfl rfl rfl rfl rfl) ?_
      refine DRW.nil (by kernel_rfl) ?_
      refine AWP.ret ?_
      refine Ret.mk rfl (congrArg pZ ?_)
      rw [hm.1]
      have h : ¬ (x < 0 ↔ y < 0) := by simpa using hc1
      by_cases h0 : y < 0
      · have : ¬ x < 0 := fun h1 => h ⟨fun _ => h0, fun _ => h1⟩
        simp [sg, h0]; omega
      · simp [sg, h0]
        have : x < 0 := by
          apply Classical.byContradiction
          intro h1
          exact h ⟨fun h2 => absurd h2 h1, fun h2 => absurd h2 h0⟩
        omega
    · have hlt : y.natAbs ≤ x.natAbs := by
        have := mt cmpI_neg.2 hc3
        omega
      have hm := minusL_nat hlt
      refine AWP.skip ?_
      refine AWP.seq ?_
      refine AWP.drw mixed ?_
      refine DRW.p rfl (by exact st_field_p off29_0 rfl) ?_
      refine DRW.p rfl (by exact st_load_vs sc4 rfl rfl rfl) ?_
      refine DRW.p rfl (by exact st_field_p off29_1 rfl) ?_
      refine DRW.p rfl (by exact st_load_vs sc22 rfl rfl rfl) ?_
      refine DRW.p rfl (by exact st_field_p off29_1 rfl) ?_
      refine DRW.p rfl (by exact st_load_vs sc22 rfl rfl rfl) ?_
      refine DRW.p rfl (st_call (L := [((.tmp 35), _), ((.tmp 37), _)]) false pl241 ⟨rfl, rfl, trivial⟩ rfl (k_rminus (digs x.natAbs) (digs y.natAbs) (iD_dig x) (iD_dig y) (Nat.le_trans hlx (by omega)) (Nat.le_trans hly (by omega))) rfl) ?_
      refine DRW.p rfl (st_call (L := [((.tmp 33), _), ((.tmp 38), _)]) false pl236 ⟨rfl, rfl, trivial⟩ rfl (k_rnormal _ _ (by rw [minusL_len]; exact Nat.le_trans hlx (by omega)) hm.2) rfl) ?_
      refine DRW.s (by exact st_store_v sz29 rfl rfl rfl rfl rfl rfl) ?_
      refine DRW.nil (by kernel_rfl) ?_
      refine AWP.ret ?_
      refine Ret.mk rfl (congrArg pZ ?_)
      rw [hm.1]
      have h : ¬ (x < 0 ↔ y < 0) := by simpa using hc1
      by_cases h0 : x < 0
      · have : ¬ y < 0 := fun h1 => h ⟨fun _ => h1, fun _ => h0⟩
        simp [sg, h0]; omega
      · simp [sg, h0]
        have : y < 0 := by
          apply Classical.byContradiction
          intro h1
          exact h ⟨fun h2 => absurd h2 h0, fun h2 => absurd h2 h1⟩
        omega

theorem k_rMul (x y : Int) (hx : Fit x.natAbs) (hy : Fit y.natAbs) : PureC Tryz.prog 133 [pZ x, pZ y] (pZ (x * y)) := by
  have hla := hx.len
  have hlb := hy.len
  have ha := iD_dig x
  have hb := iD_dig y
  have hva := iD_val x
  have hvb := iD_val y
  have hs := @sg_mul x y
  rw [← hva, ← hvb] at hs
  show PureC Tryz.prog 133 [.agg [.bool (decide (x < 0)), .sl (iD x).length (fIs (iD x))], .agg [.bool (decide (y < 0)), .sl (iD y).length (fIs (iD y))]] (pZ (x * y))
  generalize iD x = a at *
  generalize iD y = b at *
  refine PureC.of Tryz.func133 rfl Tryz.ntmps133 (vs := [.cell 4 29]) rfl (Nat.le_of_ble_eq_true rfl) rfl fun cx _ _ => ?_
  refine AWP.seq ?_
  refine AWP.region ?_
  refine OPS.a rfl (st_box rfl rfl) ?_
  refine OPS.a rfl (st_box rfl rfl) ?_
  refine OPS.a rfl (st_alloc ze29) ?_
  refine OPS.nil ?_
  refine AWP.seq ?_
  refine AWP.region ?_
  refine OPS.p rfl (by exact st_field_p off29_1 rfl) ?_
  refine OPS.p rfl (by exact st_load_vs sc22 rfl rfl rfl) ?_
  refine OPS.p rfl (st_len un22 rfl rfl) ?_
  refine OPS.p rfl (by exact st_field_p off29_1 rfl) ?_
  refine OPS.p rfl (by exact st_load_vs sc22 rfl rfl rfl) ?_
  refine OPS.p rfl (st_len un22 rfl rfl) ?_
  refine OPS.p rfl (by exact st_add_i rfl rfl (by omega) (by omega)) ?_
  refine OPS.a rfl (st_make_I ei22 rfl rfl (by omega) (by (simp; omega)) (by omega)) ?_
  refine OPS.p rfl (st_assign rfl) ?_
  refine OPS.nil ?_
  refine AWP.seq ?_
  refine AWP.seq ?_
  refine AWP.region ?_
  refine OPS.p rfl (st_assign rfl) ?_
  refine OPS.nil ?_
  refine AWP.block ?_
  refine AWP.loopR (σ := Nat × List Int) (fun (zz : Nat × List Int) => ⟨[(2, .ptr 0 0), (3, .ptr 1 0), (4, .ptr 2 0), (5, .own 3 (a.length + b.length)), (6, pI zz.1)], [(0, .var [pB (decide (x < 0)), pL a]), (1, .var [pB (decide (y < 0)), pL b]), (2, .var [pB false, .cell (.sl 0 [])]), (3, .arr 3 1 (a.length + b.length) (fIs zz.2))], 4⟩) (fun (zz : Nat × List Int) => zz.1 ≤ a.length ∧ zz.2.length = a.length + b.length ∧ Dig zz.2 ∧ (∀ j, zz.1 + b.length ≤ j → zz.2.getD j 0 = 0) ∧ dval zz.2 = dval (a.take zz.1) * dval b) (fun (zz : Nat × List Int) => a.length - zz.1) (0, List.replicate (a.length + b.length) 0) (Sub.r (Sub.mk' ⟨(by rfl), (by rfl), (by rfl), (by rfl), (by rfl), trivial⟩ ⟨(by rfl), (by rfl), (by rfl), (by rfl), trivial⟩ (by exact Nat.le_refl _))) (by exact ⟨by omega, by simp, Dig.replicate _, fun j _ => by simp [List.getD_eq_getElem?_getD, List.getElem?_replicate]; split <;> rfl, by rw [dval_replicate]; simp [dval]⟩) ?_
  rintro ⟨i, o⟩ hinv
  have hinv : i ≤ a.length ∧ o.length = a.length + b.length ∧ Dig o ∧ (∀ j, i + b.length ≤ j → o.getD j 0 = 0) ∧ dval o = dval (a.take i) * dval b := hinv
  obtain ⟨h1, h2, h3, h4, h5⟩ := hinv
  show AWP _ _ _ _ _ _ _ ⟨[(2, .ptr 0 0), (3, .ptr 1 0), (4, .ptr 2 0), (5, .own 3 (a.length + b.length)), (6, pI i)], [(0, .var [pB (decide (x < 0)), pL a]), (1, .var [pB (decide (y < 0)), pL b]), (2, .var [pB false, .cell (.sl 0 [])]), (3, .arr 3 1 (a.length + b.length) (fIs o))], 4⟩
  refine AWP.seq ?_
  refine AWP.seq ?_
  refine AWP.region ?_
  refine OPS.p rfl (st_move rfl) ?_
  refine OPS.p rfl (by exact st_field_p off29_1 rfl) ?_
  refine OPS.p rfl (by exact st_load_vs sc22 rfl rfl rfl) ?_
  refine OPS.p rfl (st_len un22 rfl rfl) ?_
  refine OPS.p rfl (st_lss rfl rfl) ?_
  refine OPS.nil ?_
  refine AWP.condD rfl (fun hc3 => ?_) (fun hc3 => ?_)
  · have hi : i < a.length := by omega
    have hd := ha.get i
    have hrow := mul_row hi h2 h3 hb ha h4 h5
    refine AWP.skip ?_
    refine AWP.seq ?_
    refine AWP.block ?_
    refine AWP.seq ?_
    refine AWP.region ?_
    refine OPS.p rfl (st_assign rfl) ?_
    refine OPS.nil ?_
    refine AWP.seq ?_
    refine AWP.seq ?_
    refine AWP.region ?_
    refine OPS.p rfl (st_assign rfl) ?_
    refine OPS.nil ?_
    refine AWP.block ?_
    refine AWP.loopR (σ := Nat × Int × List Int) (fun (zz : Nat × Int × List Int) => ⟨[(2, .ptr 0 0), (3, .ptr 1 0), (4, .ptr 2 0), (5, .own 3 (a.length + b.length)), (6, pI i), (7, pI zz.2.1), (8, pI zz.1)], [(0, .var [pB (decide (x < 0)), pL a]), (1, .var [pB (decide (y < 0)), pL b]), (2, .var [pB false, .cell (.sl 0 [])]), (3, .arr 3 1 (a.length + b.length) (fIs zz.2.2))], 4⟩) (fun (zz : Nat × Int × List Int) => zz.1 ≤ b.length ∧ zz.2.2.length = a.length + b.length ∧ (0 ≤ zz.2.1 ∧ zz.2.1 < 1000000000) ∧ Dig zz.2.2 ∧ zz.2.2.take (i + zz.1) ++ rowL (zz.2.2.drop (i + zz.1)) (b.drop zz.1) (a.getD i 0) zz.2.1 = o.take i ++ rowL (o.drop i) b (a.getD i 0) 0) (fun (zz : Nat × Int × List Int) => b.length - zz.1) (0, 0, o) (Sub.r (Sub.mk' ⟨(by rfl), (by rfl), (by rfl), (by rfl), (by rfl), (by rfl), (by rfl), trivial⟩ ⟨(by rfl), (by rfl), (by rfl), (by rfl), trivial⟩ (by exact Nat.le_refl _))) (by (dsimp only; exact ⟨by omega, h2, by omega, h3, by simp⟩)) ?_
    rintro ⟨k, c, q⟩ hinv
    have hinv : k ≤ b.length ∧ q.length = a.length + b.length ∧ (0 ≤ c ∧ c < 1000000000) ∧ Dig q ∧ q.take (i + k) ++ rowL (q.drop (i + k)) (b.drop k) (a.getD i 0) c = o.take i ++ rowL (o.drop i) b (a.getD i 0) 0 := hinv
    obtain ⟨k1, k2, k3, k4, k5⟩ := hinv
    show AWP _ _ _ _ _ _ _ ⟨[(2, .ptr 0 0), (3, .ptr 1 0), (4, .ptr 2 0), (5, .own 3 (a.length + b.length)), (6, pI i), (7, pI c), (8, pI k)], [(0, .var [pB (decide (x < 0)), pL a]), (1, .var [pB (decide (y < 0)), pL b]), (2, .var [pB false, .cell (.sl 0 [])]), (3, .arr 3 1 (a.length + b.length) (fIs q))], 4⟩
    refine AWP.seq ?_
    refine AWP.seq ?_
    refine AWP.region ?_
    refine OPS.p rfl (st_move rfl) ?_
    refine OPS.p rfl (by exact st_field_p off29_1 rfl) ?_
    refine OPS.p rfl (by exact st_load_vs sc22 rfl rfl rfl) ?_
    refine OPS.p rfl (st_len un22 rfl rfl) ?_
    refine OPS.p rfl (st_lss rfl rfl) ?_
    refine OPS.nil ?_
    refine AWP.condD rfl (fun hc7 => ?_) (fun hc7 => ?_)
    · have hk : k < b.length := by omega
      have hik : i + k < q.length := by omega
      have he := hb.get k
      have hu := k4.get (i + k)
      have hst := row_step hu hd he k3
      have hmd := mul_digit hd he
      have hmod : (q.getD (i + k) 0 + a.getD i 0 * b.getD k 0 + c) % 1000000000 = q.getD (i + k) 0 + a.getD i 0 * b.getD k 0 + c - (q.getD (i + k) 0 + a.getD i 0 * b.getD k 0 + c) / 1000000000 * 1000000000 := by omega
      refine AWP.skip ?_
      refine AWP.seq ?_
      refine AWP.block ?_
      refine AWP.seq ?_
      refine AWP.drw mixed ?_
      refine DRW.p rfl (st_move rfl) ?_
      refine DRW.p rfl (st_move rfl) ?_
      refine DRW.p rfl (st_move rfl) ?_
      refine DRW.p rfl (by exact st_add_i rfl rfl (by omega) (by omega)) ?_
      refine DRW.p rfl (by exact st_index_a es22 rfl rfl rfl (by omega) (by omega)) ?_
      refine DRW.p rfl (st_load_oIn (i := i + k) sc3 rfl rfl rfl hik) ?_
      refine DRW.p rfl (by exact st_field_p off29_1 rfl) ?_
      refine DRW.p rfl (by exact st_load_vs sc22 rfl rfl rfl) ?_
      refine DRW.p rfl (st_move rfl) ?_
      refine DRW.p rfl (by exact st_index_I es22 rfl rfl (by omega) (by omega) (by rfl)) ?_
      refine DRW.p rfl (by exact st_load_In sc3 rfl rfl (by omega)) ?_
      refine DRW.p rfl (by exact st_field_p off29_1 rfl) ?_
      refine DRW.p rfl (by exact st_load_vs sc22 rfl rfl rfl) ?_
      refine DRW.p rfl (st_move rfl) ?_
      refine DRW.p rfl (by exact st_index_I es22 rfl rfl (by omega) (by omega) (by rfl)) ?_
      refine DRW.p rfl (by exact st_load_In sc3 rfl rfl (by omega)) ?_
      refine DRW.p rfl (st_mul_i rfl rfl (by omega) (by omega)) ?_
      refine DRW.p rfl (by exact st_add_i rfl rfl (by omega) (by omega)) ?_
      refine DRW.p rfl (st_move rfl) ?_
      refine DRW.p rfl (by exact st_add_i rfl rfl (by omega) (by omega)) ?_
      refine DRW.p rfl (st_assign rfl) ?_
      refine DRW.nil (by kernel_rfl) ?_
      refine AWP.seq ?_
      refine AWP.region ?_
      refine OPS.p rfl (st_move rfl) ?_
      refine OPS.p rfl (st_move rfl) ?_
      refine OPS.p rfl (st_move rfl) ?_
      refine OPS.p rfl (by exact st_add_i rfl rfl (by omega) (by omega)) ?_
      refine OPS.p rfl (st_move rfl) ?_
      refine OPS.p rfl (by exact st_rem_i rfl rfl (by omega) (by omega)) ?_
      refine OPS.p rfl (by exact st_index_a es22 rfl rfl rfl (by omega) (by omega)) ?_
      refine OPS.s (st_store_oIn (i := i + k) sz3 rfl rfl rfl rfl hik) ?_
      refine OPS.nil ?_
      refine AWP.region ?_
      refine OPS.p rfl (st_move rfl) ?_
      refine OPS.p rfl (by exact st_quo_i rfl rfl (by omega) (by omega) (by omega)) ?_
      refine OPS.p rfl (st_assign rfl) ?_
      refine OPS.nil ?_
      refine AWP.region ?_
      refine OPS.p rfl (st_move rfl) ?_
      refine OPS.p rfl (by exact st_add_i rfl rfl (by omega) (by omega)) ?_
      refine OPS.p rfl (st_assign rfl) ?_
      refine OPS.nil ?_
      refine ⟨(k + 1, (q.getD (i + k) 0 + a.getD i 0 * b.getD k 0 + c) / 1000000000, q.set (i + k) ((q.getD (i + k) 0 + a.getD i 0 * b.getD k 0 + c) % 1000000000)), (Sub.r (Sub.mk' ⟨(by rfl), (by rfl), (by rfl), (by rfl), (by rfl), (by rfl), (by rfl), trivial⟩ ⟨(by rfl), (by rfl), (by rfl), (by rfl), trivial⟩ (by exact Nat.le_refl _))), ?_, ?_⟩
      · try dsimp only
        rw [hmod]
        refine ⟨by omega, by simp [k2], ⟨hst.1, hst.2.1⟩, ?_, ?_⟩
        · intro d' hd'
          rcases List.mem_or_eq_of_mem_set hd' with h | h
          · exact k4 d' h
          · subst h; exact ⟨hst.2.2.1, hst.2.2.2⟩
        · rw [← Nat.add_assoc, set_take hik, List.drop_set_of_lt (by omega), List.append_assoc, List.singleton_append]
          rw [drop_cons hik, drop_cons hk, rowL] at k5
          exact k5
      · try dsimp only
        omega
    · refine AWP.exit ?_
      refine AWP.region ?_
      refine OPS.p rfl (st_move rfl) ?_
      refine OPS.p rfl (st_move rfl) ?_
      refine OPS.p rfl (by exact st_field_p off29_1 rfl) ?_
      refine OPS.p rfl (by exact st_load_vs sc22 rfl rfl rfl) ?_
      refine OPS.p rfl (st_len un22 rfl rfl) ?_
      refine OPS.p rfl (by exact st_add_i rfl rfl (by omega) (by omega)) ?_
      refine OPS.p rfl (st_move rfl) ?_
      refine OPS.p rfl (by exact st_index_a es22 rfl rfl rfl (by omega) (by omega)) ?_
      refine OPS.s (st_store_oIn (i := i + b.length) sz3 rfl rfl rfl rfl (by omega)) ?_
      refine OPS.nil ?_
      refine AWP.region ?_
      refine OPS.p rfl (st_move rfl) ?_
      refine OPS.p rfl (by exact st_add_i rfl rfl (by omega) (by omega)) ?_
      refine OPS.p rfl (st_assign rfl) ?_
      refine OPS.nil ?_
      have hkb : k = b.length := by omega
      subst hkb
      have hfin : q.set (i + b.length) c = o.take i ++ rowL (o.drop i) b (a.getD i 0) 0 := by
        have hik : i + b.length < q.length := by omega
        rw [← k5, List.drop_length, drop_cons hik, rowL]
        conv => lhs; rw [← List.take_append_drop (i + b.length) (q.set (i + b.length) c), set_drop hik, List.take_set_of_le (by omega)]
      refine ⟨(i + 1, q.set (i + b.length) c), (Sub.r (Sub.mk' ⟨(by rfl), (by rfl), (by rfl), (by rfl), (by rfl), trivial⟩ ⟨(by rfl), (by rfl), (by rfl), (by rfl), trivial⟩ (by exact Nat.le_refl _))), ?_, ?_⟩
      · try dsimp only
        rw [hfin]
        exact ⟨by omega, hrow.1, hrow.2.1, fun j hj => hrow.2.2.1 j hj, hrow.2.2.2⟩
      · try dsimp only
        omega
  · refine AWP.exit ?_
    refine AWP.seq ?_
    have hia : i = a.length := by omega
    subst hia
    rw [List.take_length] at h5
    refine AWP.freeze 3 [5] rfl ⟨rfl, trivial⟩ ?_
    refine AWP.region ?_
    refine OPS.p rfl (by exact st_field_p off29_0 rfl) ?_
    refine OPS.p rfl (by exact st_load_vs sc4 rfl rfl rfl) ?_
    refine OPS.p rfl (by exact st_field_p off29_0 rfl) ?_
    refine OPS.p rfl (by exact st_load_vs sc4 rfl rfl rfl) ?_
    refine OPS.p rfl (st_neq_b rfl rfl un4) ?_
    refine OPS.p rfl (st_move rfl) ?_
    refine OPS.p rfl (st_call (L := [((.tmp 73), _), ((.tmp 74), _)]) false pl236 ⟨rfl, rfl, trivial⟩ rfl ((by rw [← h2]; exact k_rnormal _ o (by omega) h3)) rfl) ?_
    refine OPS.s (by exact st_store_v sz29 rfl rfl rfl rfl rfl rfl) ?_
    refine OPS.nil ?_
    refine AWP.ret ?_
    refine Ret.mk rfl (congrArg pZ ?_)
    rw [h5, hs]
end Go.Proofs.Gh.Tryz
end
section
set_option linter.unusedVariables false
set_option linter.unusedSimpArgs false
set_option maxRecDepth 4000
namespace Go.Proofs.Gh.Tryz
open Go Go.Proofs Go.Proofs.Gh

theorem k_divided (a b : Nat) (ha : Sml a) (hb : Sml b) (h0 : b ≠ 0) : PureC Tryz.prog 276 [pL (digs a), pL (digs b)] (.tup [pL (digs (a / b)), pL (digs (a % b))]) := by
  have hA : a < 1000000000000000000 := ha
  have hB : b < 1000000000000000000 := hb
  have hla := ha.len
  have hlb := hb.len
  have hq0 : 0 ≤ (a : Int) / b := Int.ediv_nonneg (by omega) (by omega)
  have hq1 : (a : Int) / b ≤ a := Int.ediv_le_self _ (by omega)
  have hr0 : 0 ≤ (a : Int) % b := Int.emod_nonneg _ (by omega)
  have hr1 : (a : Int) % b < b := Int.emod_lt_of_pos _ (by omega)
  refine PureC.of Tryz.func276 rfl Tryz.ntmps276 (vs := [.tmp 4, .tmp 5]) rfl (Nat.le_of_ble_eq_true rfl) rfl fun cx _ _ => ?_
  refine AWP.seq ?_
  refine AWP.region ?_
  refine OPS.p rfl (st_assign rfl) ?_
  refine OPS.p rfl (st_assign rfl) ?_
  refine OPS.nil ?_
  refine AWP.seq ?_
  refine AWP.seq ?_
  refine AWP.region ?_
  refine OPS.p rfl (st_move rfl) ?_
  refine OPS.p rfl (st_len un22 rfl rfl) ?_
  refine OPS.p rfl (st_leq rfl rfl) ?_
  refine OPS.p rfl (st_move rfl) ?_
  refine OPS.pG rfl rfl rfl ((decide_eq_true (by omega))) (st_move rfl) ?_
  refine OPS.pG rfl rfl rfl ((decide_eq_true (by omega))) (st_len un22 rfl rfl) ?_
  refine OPS.pG rfl rfl rfl ((decide_eq_true (by omega))) (st_leq rfl rfl) ?_
  refine OPS.p rfl (st_pickT rfl ((decide_eq_true (by omega))) rfl) ?_
  refine OPS.nil ?_
  refine AWP.cond_t rfl ((decide_eq_true (by omega))) ?_
  refine AWP.seq ?_
  refine AWP.region ?_
  refine OPS.p rfl (st_move rfl) ?_
  refine OPS.p rfl (st_call (L := [((.tmp 24), _)]) false pl275 ⟨rfl, trivial⟩ rfl (k_tiny a ha) rfl) ?_
  refine OPS.p rfl (st_move rfl) ?_
  refine OPS.p rfl (st_call (L := [((.tmp 26), _)]) false pl275 ⟨rfl, trivial⟩ rfl (k_tiny b hb) rfl) ?_
  refine OPS.p rfl (by exact st_quo_i rfl rfl (by omega) (by omega) (by omega)) ?_
  refine OPS.p rfl (st_call (L := [((.tmp 28), _)]) false pl139 ⟨rfl, trivial⟩ rfl (k_rOf ((a : Int) / b) (by omega) (by omega)) rfl) ?_
  refine OPS.a rfl (st_alloc ze29) ?_
  refine OPS.s (by exact st_store_v sz29 rfl rfl rfl rfl rfl rfl) ?_
  refine OPS.nil ?_
  refine AWP.seq ?_
  refine AWP.region ?_
  refine OPS.p rfl (st_move rfl) ?_
  refine OPS.p rfl (st_call (L := [((.tmp 30), _)]) false pl275 ⟨rfl, trivial⟩ rfl (k_tiny a ha) rfl) ?_
  refine OPS.p rfl (st_move rfl) ?_
  refine OPS.p rfl (st_call (L := [((.tmp 32), _)]) false pl275 ⟨rfl, trivial⟩ rfl (k_tiny b hb) rfl) ?_
  refine OPS.p rfl (by exact st_rem_i rfl rfl (by omega) (by omega)) ?_
  refine OPS.p rfl (st_call (L := [((.tmp 34), _)]) false pl139 ⟨rfl, trivial⟩ rfl (k_rOf ((a : Int) % b) (by omega) (by omega)) rfl) ?_
  refine OPS.a rfl (st_alloc ze29) ?_
  refine OPS.s (by exact st_store_v sz29 rfl rfl rfl rfl rfl rfl) ?_
  refine OPS.nil ?_
  refine AWP.seq ?_
  refine AWP.drw mixed ?_
  refine DRW.p rfl (by exact st_field_p off29_1 rfl) ?_
  refine DRW.p rfl (by exact st_load_vs sc22 rfl rfl rfl) ?_
  refine DRW.p rfl (by exact st_field_p off29_1 rfl) ?_
  refine DRW.p rfl (by exact st_load_vs sc22 rfl rfl rfl) ?_
  refine DRW.p rfl (st_assign rfl) ?_
  refine DRW.p rfl (st_assign rfl) ?_
  refine DRW.nil (by kernel_rfl) ?_
  refine AWP.ret ?_
  exact Ret.mk2 rfl rfl rfl

theorem sg_add (b : Bool) (m n : Int) : sg b m + sg b n = sg b (m + n) := by cases b <;> simp [sg]; omega
theorem sg_natAbs (b : Bool) (n : Int) : (sg b n).natAbs = n.natAbs := by cases b <;> simp [sg]

theorem k_rDiv (x y : Int) (hx : Sml x.natAbs) (hy : Sml y.natAbs) : PureC Tryz.prog 238 [pZ x, pZ y] (.tup [pZ (x / y), pZ (if y = 0 then 0 else x % y)]) := by
  have hy0 := @iD_nil y
  have hdl := @div_law x y
  have hA : x.natAbs < 1000000000000000000 := hx
  have hB : y.natAbs < 1000000000000000000 := hy
  rw [show (x.natAbs : Int) / y.natAbs = ((x.natAbs / y.natAbs : Nat) : Int) from rfl, show (x.natAbs : Int) % y.natAbs = ((x.natAbs % y.natAbs : Nat) : Int) from rfl] at hdl
  have hkd := k_divided x.natAbs y.natAbs hx hy
  have hq1 := Nat.div_le_self x.natAbs y.natAbs
  have hr0 : y ≠ 0 → x.natAbs % y.natAbs < y.natAbs := fun h => Nat.mod_lt _ (by omega)
  generalize x.natAbs / y.natAbs = q0 at *
  generalize x.natAbs % y.natAbs = r0 at *
  have hlr := @iD_nil (r0 : Int)
  refine PureC.of Tryz.func238 rfl Tryz.ntmps238 (vs := [.cell 4 29, .cell 5 29]) rfl (Nat.le_of_ble_eq_true rfl) rfl fun cx _ _ => ?_
  refine AWP.seq ?_
  refine AWP.region ?_
  refine OPS.a rfl (st_box rfl rfl) ?_
  refine OPS.a rfl (st_box rfl rfl) ?_
  refine OPS.a rfl (st_alloc ze29) ?_
  refine OPS.a rfl (st_alloc ze29) ?_
  refine OPS.nil ?_
  refine AWP.seq ?_
  refine AWP.seq ?_
  refine AWP.region ?_
  refine OPS.p rfl (by exact st_field_p off29_1 rfl) ?_
  refine OPS.p rfl (by exact st_load_vs sc22 rfl rfl rfl) ?_
  refine OPS.p rfl (st_len un22 rfl rfl) ?_
  refine OPS.p rfl (st_eql rfl rfl) ?_
  refine OPS.nil ?_
  refine AWP.condD rfl (fun hc1 => ?_) (fun hc1 => ?_)
  · refine AWP.seq ?_
    refine AWP.region ?_
    refine OPS.p rfl (st_build (L := []) zf29 pl_29 trivial rfl rfl) ?_
    refine OPS.p rfl (st_build (L := []) zf29 pl_29 trivial rfl rfl) ?_
    refine OPS.s (by exact st_store_v sz29 rfl rfl rfl rfl rfl rfl) ?_
    refine OPS.s (by exact st_store_v sz29 rfl rfl rfl rfl rfl rfl) ?_
    refine OPS.nil ?_
    refine AWP.ret ?_
    have h0 : y = 0 := hy0.1 (by omega)
    subst h0
    exact Ret.mk2 rfl (by rw [pZ, Int.ediv_zero, eI_zero]) (by rw [pZ, if_pos rfl, eI_zero])
  · have hyz : y ≠ 0 := fun h => hc1 (by have := hy0.2 h; omega)
    have hrr := hr0 hyz
    have hdl := hdl hyz
    have hq2 : Sml q0 := Sml.mono hx hq1
    have hr2 : Sml r0 := Sml.mono hy (by omega)
    have hk1 : PureC Tryz.prog 236 [pB (decide (x < 0) != decide (y < 0)), pL (digs q0)] (pZ (sg (decide (x < 0) != decide (y < 0)) q0)) := by
      have := k_rnormal (decide (x < 0) != decide (y < 0)) (digs q0) (Nat.le_trans hq2.len (by omega)) (digs_dig q0)
      rwa [dval_digs] at this
    have hk2 : PureC Tryz.prog 236 [pB false, pL (digs r0)] (pZ r0) := by
      have := k_rnormal false (digs r0) (Nat.le_trans hr2.len (by omega)) (digs_dig r0)
      rwa [dval_digs] at this
    have hk3 : PureC Tryz.prog 236 [pB (decide (x < 0) != decide (y < 0)), pL [1]] (pZ (sg (decide (x < 0) != decide (y < 0)) 1)) := k_rnormal _ [1] (by simp) (.cons (by omega) (by omega) .nil)
    have hk4 : PureC Tryz.prog 236 [pB false, pL (minusL (digs y.natAbs) (digs r0) 0)] (pZ (y.natAbs - r0)) := by
      have hm := minusL_nat (a := y.natAbs) (b := r0) (by omega)
      have := k_rnormal false (minusL (digs y.natAbs) (digs r0) 0) (by rw [minusL_len]; exact Nat.le_trans hy.len (by omega)) hm.2
      rwa [hm.1] at this
    generalize hbb : (decide (x < 0) != decide (y < 0)) = bb at *
    refine AWP.skip ?_
    refine AWP.seq ?_
    refine AWP.region ?_
    refine OPS.p rfl (by exact st_field_p off29_1 rfl) ?_
    refine OPS.p rfl (by exact st_load_vs sc22 rfl rfl rfl) ?_
    refine OPS.p rfl (by exact st_field_p off29_1 rfl) ?_
    refine OPS.p rfl (by exact st_load_vs sc22 rfl rfl rfl) ?_
    refine OPS.p rfl (st_call (L := [((.tmp 18), _), ((.tmp 20), _)]) false pl276 ⟨rfl, rfl, trivial⟩ rfl (hkd (by omega)) rfl) ?_
    refine OPS.p rfl (st_move rfl) ?_
    refine OPS.p rfl (st_extract rfl rfl) ?_
    refine OPS.p rfl (st_extract rfl rfl) ?_
    refine OPS.p rfl (st_assign rfl) ?_
    refine OPS.p rfl (st_assign rfl) ?_
    refine OPS.nil ?_
    refine AWP.seq ?_
    refine AWP.region ?_
    refine OPS.p rfl (by exact st_field_p off29_0 rfl) ?_
    refine OPS.p rfl (by exact st_load_vs sc4 rfl rfl rfl) ?_
    refine OPS.p rfl (by exact st_field_p off29_0 rfl) ?_
    refine OPS.p rfl (by exact st_load_vs sc4 rfl rfl rfl) ?_
    refine OPS.p rfl ((st_neq_b rfl rfl un4).val (congrArg pB hbb)) ?_
    refine OPS.p rfl (st_move rfl) ?_
    refine OPS.p rfl (st_call (L := [((.tmp 28), _), ((.tmp 29), _)]) false pl236 ⟨rfl, rfl, trivial⟩ rfl (hk1) rfl) ?_
    refine OPS.a rfl (st_alloc ze29) ?_
    refine OPS.s (by exact st_store_v sz29 rfl rfl rfl rfl rfl rfl) ?_
    refine OPS.nil ?_
    refine AWP.seq ?_
    refine AWP.region ?_
    refine OPS.p rfl (st_move rfl) ?_
    refine OPS.p rfl (st_call (L := [((.const (.bool false)), _), ((.tmp 31), _)]) false pl236 ⟨rfl, rfl, trivial⟩ rfl (hk2) rfl) ?_
    refine OPS.a rfl (st_alloc ze29) ?_
    refine OPS.s (by exact st_store_v sz29 rfl rfl rfl rfl rfl rfl) ?_
    refine OPS.nil ?_
    refine AWP.seq ?_
    refine AWP.mono (n := fun s' => ∃ zz : Int × Int, SubR (loOf cx) s' ((fun (zz : Int × Int) => ⟨[(4, .ptr 2 0), (5, .ptr 3 0), (8, .ptr 4 0), (9, .ptr 5 0)], [(2, .var [pB false, .cell (.sl 0 [])]), (3, .var [pB false, .cell (.sl 0 [])]), (4, .var [pB (decide (zz.1 < 0)), pL (iD zz.1)]), (5, .var [pB (decide (zz.2 < 0)), pL (iD zz.2)])], 7⟩) zz) ∧ (fun (zz : Int × Int) => zz.1 = x / y ∧ zz.2 = x % y) zz) ?_ ?_
    · refine AWP.seq ?_
      refine AWP.region ?_
      refine OPS.p rfl (by exact st_field_p off29_0 rfl) ?_
      refine OPS.p rfl (by exact st_load_vs sc4 rfl rfl rfl) ?_
      refine OPS.p rfl (st_move rfl) ?_
      refine OPS.split (g := 35) rfl (fun eg6_2 g6_2 => ?_) (fun eg6_2 g6_2 => ?_)
      · refine OPS.pG rfl rfl rfl eg6_2 (by exact st_field_p off29_1 rfl) ?_
        refine OPS.pG rfl rfl rfl eg6_2 (by exact st_load_vs sc22 rfl rfl rfl) ?_
        refine OPS.pG rfl rfl rfl eg6_2 (st_len un22 rfl rfl) ?_
        refine OPS.pG rfl rfl rfl eg6_2 (st_gtr rfl rfl) ?_
        refine OPS.p rfl (st_pickT rfl eg6_2 rfl) ?_
        refine OPS.nil ?_
        refine AWP.condD rfl (fun hc6 => ?_) (fun hc6 => ?_)
        · refine AWP.seq ?_
          refine AWP.drw mixed ?_
          refine DRW.p rfl (by exact st_load_va ag29 rfl rfl rfl rfl) ?_
          refine DRW.p rfl (by exact st_field_p off29_0 rfl) ?_
          refine DRW.p rfl (by exact st_load_vs sc4 rfl rfl rfl) ?_
          refine DRW.p rfl (by exact st_field_p off29_0 rfl) ?_
          refine DRW.p rfl (by exact st_load_vs sc4 rfl rfl rfl) ?_
          refine DRW.p rfl ((st_neq_b rfl rfl un4).val (congrArg pB hbb)) ?_
          refine DRW.a rfl (Stp.frz (st_buildS (L := [(0, (.const (.int .i64 1)), _)]) ei22 rfl ⟨rfl, trivial⟩ rfl rfl) rfl) ?_
          refine DRW.p rfl (st_call (L := [((.tmp 46), _), ((.tmp 47), _)]) false pl236 ⟨rfl, rfl, trivial⟩ rfl (hk3) rfl) ?_
          refine DRW.p rfl (st_call (L := [((.tmp 41), _), ((.tmp 48), _)]) false pl138 ⟨rfl, rfl, trivial⟩ rfl (k_rAdd (sg bb q0) (sg bb 1) (by rw [sg_natAbs]; exact hq2.fit) (by rw [sg_natAbs]; exact Sml.fit (by show _ < _; omega))) rfl) ?_
          refine DRW.s (by exact st_store_v sz29 rfl rfl rfl rfl rfl rfl) ?_
          refine DRW.nil (by kernel_rfl) ?_
          refine AWP.region ?_
          refine OPS.p rfl (by exact st_field_p off29_1 rfl) ?_
          refine OPS.p rfl (by exact st_load_vs sc22 rfl rfl rfl) ?_
          refine OPS.p rfl (by exact st_field_p off29_1 rfl) ?_
          refine OPS.p rfl (by exact st_load_vs sc22 rfl rfl rfl) ?_
          refine OPS.p rfl (st_call (L := [((.tmp 51), _), ((.tmp 53), _)]) false pl241 ⟨rfl, rfl, trivial⟩ rfl (k_rminus (digs y.natAbs) (digs r0) (digs_dig _) (digs_dig _) (Nat.le_trans hy.len (by omega)) (Nat.le_trans hr2.len (by omega))) rfl) ?_
          refine OPS.p rfl (st_call (L := [((.const (.bool false)), _), ((.tmp 54), _)]) false pl236 ⟨rfl, rfl, trivial⟩ rfl (hk4) rfl) ?_
          refine OPS.s (by exact st_store_v sz29 rfl rfl rfl rfl rfl rfl) ?_
          refine OPS.nil ?_
          refine ⟨(sg bb q0 + sg bb 1, y.natAbs - r0), (Sub.r (Sub.mk' ⟨(by rfl), (by rfl), (by rfl), (by rfl), trivial⟩ ⟨(by rfl), (by rfl), (by rfl), (by rfl), trivial⟩ (by exact Nat.le_refl _))), ?_⟩
          try dsimp only
          rw [if_pos ⟨g6_2, by omega⟩] at hdl
          exact ⟨by rw [sg_add]; exact hdl.1, hdl.2⟩
        · refine AWP.skip ?_
          refine ⟨(sg bb q0, r0), (Sub.r (Sub.mk' ⟨(by rfl), (by rfl), (by rfl), (by rfl), trivial⟩ ⟨(by rfl), (by rfl), (by rfl), (by rfl), trivial⟩ (by omega))), ?_⟩
          try dsimp only
          rw [if_neg (by omega)] at hdl
          exact ⟨hdl.1, hdl.2⟩
      · refine OPS.nO rfl rfl rfl eg6_2 ?_
        refine OPS.nO rfl rfl rfl eg6_2 ?_
        refine OPS.nO rfl rfl rfl eg6_2 ?_
        refine OPS.nO rfl rfl rfl eg6_2 ?_
        refine OPS.p rfl (st_pickF rfl eg6_2 rfl) ?_
        refine OPS.nil ?_
        refine AWP.cond_f rfl (rfl) ?_
        refine AWP.skip ?_
        refine ⟨(sg bb q0, r0), (Sub.r (Sub.mk' ⟨(by rfl), (by rfl), (by rfl), (by rfl), trivial⟩ ⟨(by rfl), (by rfl), (by rfl), (by rfl), trivial⟩ (by omega))), ?_⟩
        try dsimp only
        rw [if_neg (by omega)] at hdl
        exact ⟨hdl.1, hdl.2⟩
    · rintro s' ⟨⟨q, r⟩, hsub, hinv⟩
      have hinv : q = x / y ∧ r = x % y := hinv
      obtain ⟨h2, h3⟩ := id hinv
      refine AWP.subR hsub ?_
      show AWP _ _ _ _ _ _ _ ⟨[(4, .ptr 2 0), (5, .ptr 3 0), (8, .ptr 4 0), (9, .ptr 5 0)], [(2, .var [pB false, .cell (.sl 0 [])]), (3, .var [pB false, .cell (.sl 0 [])]), (4, .var [pB (decide (q < 0)), pL (iD q)]), (5, .var [pB (decide (r < 0)), pL (iD r)])], 7⟩
      refine AWP.seq ?_
      refine AWP.drw mixed ?_
      refine DRW.p rfl (by exact st_load_va ag29 rfl rfl rfl rfl) ?_
      refine DRW.p rfl (by exact st_load_va ag29 rfl rfl rfl rfl) ?_
      refine DRW.s (by exact st_store_v sz29 rfl rfl rfl rfl rfl rfl) ?_
      refine DRW.s (by exact st_store_v sz29 rfl rfl rfl rfl rfl rfl) ?_
      refine DRW.nil (by kernel_rfl) ?_
      refine AWP.ret ?_
      refine Ret.mk2 rfl ?_ ?_
      · rw [h2]; rfl
      · rw [if_neg hyz, ← h3]; rfl

theorem k_rGcd (x y : Int) (hx : Sml x.natAbs) (hy : Sml y.natAbs) : PureC Tryz.prog 237 [pZ x, pZ y] (pZ (Int.gcd x y)) := by
  have hA : x.natAbs < 1000000000000000000 := hx
  have hB : y.natAbs < 1000000000000000000 := hy
  have hk : ∀ z : Int, Sml z.natAbs → PureC Tryz.prog 236 [pB false, pL (iD z)] (pZ z.natAbs) := fun z hz => by
    have := k_rnormal false (iD z) (Nat.le_trans hz.len (by omega)) (iD_dig z)
    rwa [iD_val] at this
  have hlx : (iD (x.natAbs : Int)).length ≤ 2 := hx.len
  have hly : (iD (y.natAbs : Int)).length ≤ 2 := hy.len
  refine PureC.of Tryz.func237 rfl Tryz.ntmps237 (vs := [.cell 4 29]) rfl (Nat.le_of_ble_eq_true rfl) rfl fun cx _ _ => ?_
  refine AWP.seq ?_
  refine AWP.region ?_
  refine OPS.a rfl (st_box rfl rfl) ?_
  refine OPS.a rfl (st_box rfl rfl) ?_
  refine OPS.a rfl (st_alloc ze29) ?_
  refine OPS.nil ?_
  refine AWP.seq ?_
  refine AWP.region ?_
  refine OPS.p rfl (by exact st_field_p off29_1 rfl) ?_
  refine OPS.p rfl (by exact st_load_vs sc22 rfl rfl rfl) ?_
  refine OPS.p rfl (st_call (L := [((.const (.bool false)), _), ((.tmp 13), _)]) false pl236 ⟨rfl, rfl, trivial⟩ rfl (hk x hx) rfl) ?_
  refine OPS.a rfl (st_alloc ze29) ?_
  refine OPS.s (by exact st_store_v sz29 rfl rfl rfl rfl rfl rfl) ?_
  refine OPS.nil ?_
  refine AWP.seq ?_
  refine AWP.region ?_
  refine OPS.p rfl (by exact st_field_p off29_1 rfl) ?_
  refine OPS.p rfl (by exact st_load_vs sc22 rfl rfl rfl) ?_
  refine OPS.p rfl (st_call (L := [((.const (.bool false)), _), ((.tmp 16), _)]) false pl236 ⟨rfl, rfl, trivial⟩ rfl (hk y hy) rfl) ?_
  refine OPS.a rfl (st_alloc ze29) ?_
  refine OPS.s (by exact st_store_v sz29 rfl rfl rfl rfl rfl rfl) ?_
  refine OPS.nil ?_
  refine AWP.seq ?_
  refine AWP.block ?_
  refine AWP.loopR (σ := Unit) (fun (zz : Unit) => ⟨[(4, .ptr 2 0), (5, .ptr 3 0), (6, .ptr 4 0)], [(2, .var [pB false, .cell (.sl 0 [])]), (3, .var [pB (decide ((x.natAbs : Int) < 0)), pL (iD x.natAbs)]), (4, .var [pB (decide ((y.natAbs : Int) < 0)), pL (iD y.natAbs)])], 5⟩) (fun (zz : Unit) => True) (fun (zz : Unit) => 0) (()) (Sub.r (Sub.mk' ⟨(by rfl), (by rfl), (by rfl), trivial⟩ ⟨(by rfl), (by rfl), (by rfl), trivial⟩ (by exact Nat.le_refl _))) (by exact trivial) ?_
  rintro u hinv
  have hinv : True := hinv
  obtain _ := hinv
  show AWP _ _ _ _ _ _ _ ⟨[(4, .ptr 2 0), (5, .ptr 3 0), (6, .ptr 4 0)], [(2, .var [pB false, .cell (.sl 0 [])]), (3, .var [pB (decide ((x.natAbs : Int) < 0)), pL (iD x.natAbs)]), (4, .var [pB (decide ((y.natAbs : Int) < 0)), pL (iD y.natAbs)])], 5⟩
  refine AWP.seq ?_
  refine AWP.seq ?_
  refine AWP.region ?_
  refine OPS.p rfl (by exact st_field_p off29_1 rfl) ?_
  refine OPS.p rfl (by exact st_load_vs sc22 rfl rfl rfl) ?_
  refine OPS.p rfl (st_len un22 rfl rfl) ?_
  refine OPS.p rfl (st_gtr rfl rfl) ?_
  refine OPS.nil ?_
  refine AWP.condD rfl (fun hc3 => ?_) (fun hc3 => ?_)
  · refine AWP.skip ?_
    refine AWP.block ?_
    refine AWP.seq ?_
    refine AWP.seq ?_
    refine AWP.region ?_
    refine OPS.p rfl (by exact st_field_p off29_1 rfl) ?_
    refine OPS.p rfl (by exact st_load_vs sc22 rfl rfl rfl) ?_
    refine OPS.p rfl (st_len un22 rfl rfl) ?_
    refine OPS.p rfl (st_leq rfl rfl) ?_
    refine OPS.p rfl (st_move rfl) ?_
    refine OPS.pG rfl rfl rfl ((decide_eq_true (by omega))) (by exact st_field_p off29_1 rfl) ?_
    refine OPS.pG rfl rfl rfl ((decide_eq_true (by omega))) (by exact st_load_vs sc22 rfl rfl rfl) ?_
    refine OPS.pG rfl rfl rfl ((decide_eq_true (by omega))) (st_len un22 rfl rfl) ?_
    refine OPS.pG rfl rfl rfl ((decide_eq_true (by omega))) (st_leq rfl rfl) ?_
    refine OPS.p rfl (st_pickT rfl ((decide_eq_true (by omega))) rfl) ?_
    refine OPS.nil ?_
    refine AWP.cond_t rfl ((decide_eq_true (by omega))) ?_
    refine AWP.seq ?_
    refine AWP.region ?_
    refine OPS.p rfl (by exact st_field_p off29_1 rfl) ?_
    refine OPS.p rfl (by exact st_load_vs sc22 rfl rfl rfl) ?_
    refine OPS.p rfl (st_call (L := [((.tmp 33), _)]) false pl275 ⟨rfl, trivial⟩ rfl (k_tiny x.natAbs hx) rfl) ?_
    refine OPS.p rfl (st_assign rfl) ?_
    refine OPS.nil ?_
    refine AWP.seq ?_
    refine AWP.region ?_
    refine OPS.p rfl (by exact st_field_p off29_1 rfl) ?_
    refine OPS.p rfl (by exact st_load_vs sc22 rfl rfl rfl) ?_
    refine OPS.p rfl (st_call (L := [((.tmp 36), _)]) false pl275 ⟨rfl, trivial⟩ rfl (k_tiny y.natAbs hy) rfl) ?_
    refine OPS.p rfl (st_assign rfl) ?_
    refine OPS.nil ?_
    refine AWP.seq ?_
    refine AWP.block ?_
    refine AWP.loopR (σ := Int × Int) (fun (zz : Int × Int) => ⟨[(4, .ptr 2 0), (7, pI zz.1), (8, pI zz.2)], [(2, .var [pB false, .cell (.sl 0 [])])], 5⟩) (fun (zz : Int × Int) => 0 ≤ zz.1 ∧ zz.1 < 1000000000000000000 ∧ 0 ≤ zz.2 ∧ zz.2 < 1000000000000000000 ∧ Int.gcd zz.1 zz.2 = Int.gcd x y) (fun (zz : Int × Int) => zz.2.toNat) (x.natAbs, y.natAbs) (Sub.r (Sub.mk' ⟨(by rfl), (by rfl), (by rfl), trivial⟩ ⟨(by rfl), trivial⟩ (by exact Nat.le_refl _))) (by exact ⟨by omega, by omega, by omega, by omega, by simp [Int.gcd]⟩) ?_
    rintro ⟨m, n⟩ hinv
    have hinv : 0 ≤ m ∧ m < 1000000000000000000 ∧ 0 ≤ n ∧ n < 1000000000000000000 ∧ Int.gcd m n = Int.gcd x y := hinv
    obtain ⟨h1, h2, h3, h4, h5⟩ := hinv
    show AWP _ _ _ _ _ _ _ ⟨[(4, .ptr 2 0), (7, pI m), (8, pI n)], [(2, .var [pB false, .cell (.sl 0 [])])], 5⟩
    refine AWP.seq ?_
    refine AWP.seq ?_
    refine AWP.region ?_
    refine OPS.p rfl (st_move rfl) ?_
    refine OPS.p rfl (st_gtr rfl rfl) ?_
    refine OPS.nil ?_
    refine AWP.condD rfl (fun hc7 => ?_) (fun hc7 => ?_)
    · refine AWP.skip ?_
      refine AWP.block ?_
      refine AWP.seq ?_
      refine AWP.region ?_
      refine OPS.p rfl (st_move rfl) ?_
      refine OPS.p rfl (st_move rfl) ?_
      refine OPS.p rfl (by exact st_rem_i rfl rfl (by omega) (by omega)) ?_
      refine OPS.p rfl (st_assign rfl) ?_
      refine OPS.nil ?_
      refine AWP.seq ?_
      refine AWP.region ?_
      refine OPS.p rfl (st_move rfl) ?_
      refine OPS.p rfl (st_assign rfl) ?_
      refine OPS.nil ?_
      refine AWP.region ?_
      refine OPS.p rfl (st_move rfl) ?_
      refine OPS.p rfl (st_assign rfl) ?_
      refine OPS.nil ?_
      have hr0 : 0 ≤ m % n := Int.emod_nonneg _ (by omega)
      have hr1 : m % n < n := Int.emod_lt_of_pos _ (by omega)
      refine ⟨(n, m % n), (Sub.r (Sub.mk' ⟨(by rfl), (by rfl), (by rfl), trivial⟩ ⟨(by rfl), trivial⟩ (by exact Nat.le_refl _))), ?_, ?_⟩
      · try dsimp only
        exact ⟨h3, h4, hr0, by omega, by rw [gcd_emod, h5]⟩
      · try dsimp only
        omega
    · refine AWP.exit ?_
      refine AWP.seq ?_
      have hn : n = 0 := by omega
      subst hn
      rw [Int.gcd_zero_right] at h5
      refine AWP.region ?_
      refine OPS.p rfl (st_move rfl) ?_
      refine OPS.p rfl (st_call (L := [((.tmp 45), _)]) false pl139 ⟨rfl, trivial⟩ rfl (k_rOf m (by omega) (by omega)) rfl) ?_
      refine OPS.s (by exact st_store_v sz29 rfl rfl rfl rfl rfl rfl) ?_
      refine OPS.nil ?_
      refine AWP.ret ?_
      refine Ret.mk rfl (congrArg pZ ?_)
      omega
  · have hy0 : y = 0 := by
      have := @iD_nil (y.natAbs : Int)
      omega
    refine AWP.exit ?_
    refine AWP.seq ?_
    refine AWP.region ?_
    refine OPS.p rfl (by exact st_load_va ag29 rfl rfl rfl rfl) ?_
    refine OPS.s (by exact st_store_v sz29 rfl rfl rfl rfl rfl rfl) ?_
    refine OPS.nil ?_
    refine AWP.ret ?_
    refine Ret.mk rfl ?_
    subst hy0
    rw [Int.gcd_zero_right]
    rfl
end Go.Proofs.Gh.Tryz
end
section
set_option linter.unusedVariables false
set_option linter.unusedSimpArgs false
set_option maxRecDepth 4000
namespace Go.Proofs.Gh.Tryz
open Go Go.Proofs Go.Proofs.Gh

theorem k_r1 (x : Int) : PureC Tryz.prog 239 [pZ x] (pB (decide (x = 1))) := by
  have hv := iD_val x
  have h1 := @dval_one (iD x)
  have hx1 : x = 1 → (iD x).length = 1 := by rintro rfl; rw [show iD 1 = [1] from digs_small (n := 1) (by omega) (by omega)]; rfl
  refine PureC.of Tryz.func239 rfl Tryz.ntmps239 (vs := [.tmp 2]) rfl (Nat.le_of_ble_eq_true rfl) rfl fun cx _ _ => ?_
  refine AWP.seq ?_
  refine AWP.region ?_
  refine OPS.a rfl (st_box rfl rfl) ?_
  refine OPS.p rfl (st_assign rfl) ?_
  refine OPS.nil ?_
  refine AWP.seq ?_
  refine AWP.seq ?_
  refine AWP.region ?_
  refine OPS.p rfl (by exact st_field_p off29_0 rfl) ?_
  refine OPS.p rfl (by exact st_load_vs sc4 rfl rfl rfl) ?_
  refine OPS.p rfl (st_move rfl) ?_
  refine OPS.split (g := 5) rfl (fun eg1_2 g1_2 => ?_) (fun eg1_2 g1_2 => ?_)
  · refine OPS.nO rfl rfl rfl eg1_2 ?_
    refine OPS.nO rfl rfl rfl eg1_2 ?_
    refine OPS.nO rfl rfl rfl eg1_2 ?_
    refine OPS.nO rfl rfl rfl eg1_2 ?_
    refine OPS.p rfl (st_pickT rfl eg1_2 rfl) ?_
    refine OPS.nil ?_
    refine AWP.cond_t rfl (rfl) ?_
    refine AWP.seq ?_
    refine AWP.region ?_
    refine OPS.p rfl (st_assign rfl) ?_
    refine OPS.nil ?_
    refine AWP.ret ?_
    exact Ret.mk rfl (congrArg pB (decide_eq_false (by omega)).symm)
  · refine OPS.pG rfl rfl rfl eg1_2 (by exact st_field_p off29_1 rfl) ?_
    refine OPS.pG rfl rfl rfl eg1_2 (by exact st_load_vs sc22 rfl rfl rfl) ?_
    refine OPS.pG rfl rfl rfl eg1_2 (st_len un22 rfl rfl) ?_
    refine OPS.pG rfl rfl rfl eg1_2 (st_neq rfl rfl) ?_
    refine OPS.p rfl (st_pickF rfl eg1_2 rfl) ?_
    refine OPS.nil ?_
    refine AWP.condD rfl (fun hc1 => ?_) (fun hc1 => ?_)
    · refine AWP.seq ?_
      refine AWP.region ?_
      refine OPS.p rfl (st_assign rfl) ?_
      refine OPS.nil ?_
      refine AWP.ret ?_
      exact Ret.mk rfl (congrArg pB (decide_eq_false (fun h => by have := hx1 h; omega)).symm)
    · refine AWP.skip ?_
      refine AWP.seq ?_
      refine AWP.region ?_
      refine OPS.p rfl (by exact st_field_p off29_1 rfl) ?_
      refine OPS.p rfl (by exact st_load_vs sc22 rfl rfl rfl) ?_
      refine OPS.p rfl (by exact st_index_I es22 rfl rfl (by omega) (by omega) (by rfl)) ?_
      refine OPS.p rfl (by exact st_load_In sc3 rfl rfl (by (simp; omega))) ?_
      refine OPS.p rfl (st_eql rfl rfl) ?_
      refine OPS.p rfl (st_assign rfl) ?_
      refine OPS.nil ?_
      refine AWP.ret ?_
      have := h1 (by omega)
      refine Ret.mk rfl (congrArg pB ?_)
      rw [decide_eq_decide]
      show (iD x).getD 0 0 = 1 ↔ _
      omega

theorem k_rDen (a : Rat) : PureC Tryz.prog 134 [pQ a] (pZ a.den) := by
  have h0 := @qD_nil a
  refine PureC.of Tryz.func134 rfl Tryz.ntmps134 (vs := [.cell 2 29]) rfl (Nat.le_of_ble_eq_true rfl) rfl fun cx _ _ => ?_
  refine AWP.seq ?_
  refine AWP.region ?_
  refine OPS.a rfl (st_box rfl rfl) ?_
  refine OPS.a rfl (st_alloc ze29) ?_
  refine OPS.nil ?_
  refine AWP.seq ?_
  refine AWP.seq ?_
  refine AWP.region ?_
  refine OPS.p rfl (by exact st_field_p off31_1 rfl) ?_
  refine OPS.p rfl (by exact st_field_p off29_1 rfl) ?_
  refine OPS.p rfl (by exact st_load_vs sc22 rfl rfl rfl) ?_
  refine OPS.p rfl (st_len un22 rfl rfl) ?_
  refine OPS.p rfl (st_eql rfl rfl) ?_
  refine OPS.nil ?_
  refine AWP.condD rfl (fun hc1 => ?_) (fun hc1 => ?_)
  · refine AWP.seq ?_
    refine AWP.region ?_
    refine OPS.p rfl (st_call (L := [((.const (.int .i64 1)), _)]) false pl139 ⟨rfl, trivial⟩ rfl (k_rOf 1 (by omega) (by omega)) rfl) ?_
    refine OPS.s (by exact st_store_v sz29 rfl rfl rfl rfl rfl rfl) ?_
    refine OPS.nil ?_
    refine AWP.ret ?_
    exact Ret.mk rfl (by rw [h0.1 (by omega)]; rfl)
  · refine AWP.skip ?_
    refine AWP.seq ?_
    refine AWP.region ?_
    refine OPS.p rfl (by exact st_field_p off31_1 rfl) ?_
    refine OPS.p rfl (by exact st_load_va ag29 rfl rfl rfl rfl) ?_
    refine OPS.s (by exact st_store_v sz29 rfl rfl rfl rfl rfl rfl) ?_
    refine OPS.nil ?_
    refine AWP.ret ?_
    refine Ret.mk rfl ?_
    have : qD a = digs a.den := by unfold qD; rw [if_neg (by omega)]
    have e : decide ((a.den : Int) < 0) = false := decide_eq_false (by omega)
    rw [this, pZ, eI, e]
    rfl

theorem k_rMake (p q : Int) (hp : Sml p.natAbs) (hq : Sml q.natAbs) : PureC Tryz.prog 137 [pZ p, pZ q] (pQ (Rat.divInt p q)) := by
  have hp0 := @iD_nil p
  have hq0 := @iD_nil q
  refine PureC.of Tryz.func137 rfl Tryz.ntmps137 (vs := [.cell 4 31]) rfl (Nat.le_of_ble_eq_true rfl) rfl fun cx _ _ => ?_
  refine AWP.seq ?_
  refine AWP.region ?_
  refine OPS.a rfl (st_box rfl rfl) ?_
  refine OPS.a rfl (st_box rfl rfl) ?_
  refine OPS.a rfl (st_alloc ze31) ?_
  refine OPS.nil ?_
  refine AWP.seq ?_
  refine AWP.seq ?_
  refine AWP.region ?_
  refine OPS.p rfl (by exact st_field_p off29_1 rfl) ?_
  refine OPS.p rfl (by exact st_load_vs sc22 rfl rfl rfl) ?_
  refine OPS.p rfl (st_len un22 rfl rfl) ?_
  refine OPS.p rfl (st_eql rfl rfl) ?_
  refine OPS.p rfl (st_move rfl) ?_
  refine OPS.split (g := 14) rfl (fun eg1_4 g1_4 => ?_) (fun eg1_4 g1_4 => ?_)
  · refine OPS.nO rfl rfl rfl eg1_4 ?_
    refine OPS.nO rfl rfl rfl eg1_4 ?_
    refine OPS.nO rfl rfl rfl eg1_4 ?_
    refine OPS.nO rfl rfl rfl eg1_4 ?_
    refine OPS.p rfl (st_pickT rfl eg1_4 rfl) ?_
    refine OPS.nil ?_
    refine AWP.cond_t rfl (rfl) ?_
    refine AWP.seq ?_
    refine AWP.region ?_
    refine OPS.p rfl (st_build (L := []) zf31 pl_31 trivial rfl rfl) ?_
    refine OPS.s (by exact st_store_v sz31 rfl rfl rfl rfl rfl rfl) ?_
    refine OPS.nil ?_
    refine AWP.ret ?_
    have : q = 0 := hq0.1 (by omega)
    subst this
    exact Ret.mk rfl (by rw [pQ, Rat.divInt_zero, eQ_zero])
  · refine OPS.pG rfl rfl rfl eg1_4 (by exact st_field_p off29_1 rfl) ?_
    refine OPS.pG rfl rfl rfl eg1_4 (by exact st_load_vs sc22 rfl rfl rfl) ?_
    refine OPS.pG rfl rfl rfl eg1_4 (st_len un22 rfl rfl) ?_
    refine OPS.pG rfl rfl rfl eg1_4 (st_eql rfl rfl) ?_
    refine OPS.p rfl (st_pickF rfl eg1_4 rfl) ?_
    refine OPS.nil ?_
    refine AWP.condD rfl (fun hc1 => ?_) (fun hc1 => ?_)
    · refine AWP.seq ?_
      refine AWP.region ?_
      refine OPS.p rfl (st_build (L := []) zf31 pl_31 trivial rfl rfl) ?_
      refine OPS.s (by exact st_store_v sz31 rfl rfl rfl rfl rfl rfl) ?_
      refine OPS.nil ?_
      refine AWP.ret ?_
      have : p = 0 := hp0.1 (by omega)
      subst this
      exact Ret.mk rfl (by rw [pQ, Rat.zero_divInt, eQ_zero])
    · have hpz : p ≠ 0 := fun h => hc1 (by have := hp0.2 h; omega)
      have hqz : q ≠ 0 := fun h => g1_4 (by have := hq0.2 h; omega)
      have hml := make_law (p := p) (q := q) hqz
      have hgl := gcd_le (q := q) hpz
      have hg : Sml ((Int.gcd p q : Nat) : Int).natAbs := Sml.mono hp (by omega)
      have hsn : Sml (p / (Int.gcd p q : Nat)).natAbs ∧ Sml (q / (Int.gcd p q : Nat)).natAbs := by
        rw [Int.natAbs_ediv_of_dvd (Int.gcd_dvd_left ..), Int.natAbs_ediv_of_dvd (Int.gcd_dvd_right ..)]
        exact ⟨hp.mono (Nat.div_le_self ..), hq.mono (Nat.div_le_self ..)⟩
      generalize hG : ((Int.gcd p q : Nat) : Int) = g at hml hg hsn
      generalize hR : Rat.divInt p q = a at *
      have hdn := a.den_nz
      refine AWP.skip ?_
      refine AWP.seq ?_
      refine AWP.region ?_
      refine OPS.p rfl (by exact st_load_va ag29 rfl rfl rfl rfl) ?_
      refine OPS.p rfl (by exact st_load_va ag29 rfl rfl rfl rfl) ?_
      refine OPS.p rfl (st_call (L := [((.tmp 21), _), ((.tmp 22), _)]) false pl237 ⟨rfl, rfl, trivial⟩ rfl ((hG ▸ k_rGcd p q hp hq : PureC Tryz.prog 237 [pZ p, pZ q] (pZ g))) rfl) ?_
      refine OPS.a rfl (st_alloc ze29) ?_
      refine OPS.s (by exact st_store_v sz29 rfl rfl rfl rfl rfl rfl) ?_
      refine OPS.nil ?_
      refine AWP.seq ?_
      refine AWP.region ?_
      refine OPS.p rfl (by exact st_load_va ag29 rfl rfl rfl rfl) ?_
      refine OPS.p rfl (by exact st_load_va ag29 rfl rfl rfl rfl) ?_
      refine OPS.p rfl (st_call (L := [((.tmp 25), _), ((.tmp 26), _)]) false pl238 ⟨rfl, rfl, trivial⟩ rfl (k_rDiv p g hp hg) rfl) ?_
      refine OPS.p rfl (st_move rfl) ?_
      refine OPS.p rfl (st_extract rfl rfl) ?_
      refine OPS.p rfl (st_extract rfl rfl) ?_
      refine OPS.a rfl (st_alloc ze29) ?_
      refine OPS.a rfl (st_alloc ze29) ?_
      refine OPS.s (by exact st_store_v sz29 rfl rfl rfl rfl rfl rfl) ?_
      refine OPS.s (by exact st_store_v sz29 rfl rfl rfl rfl rfl rfl) ?_
      refine OPS.nil ?_
      refine AWP.seq ?_
      refine AWP.region ?_
      refine OPS.p rfl (by exact st_load_va ag29 rfl rfl rfl rfl) ?_
      refine OPS.p rfl (by exact st_load_va ag29 rfl rfl rfl rfl) ?_
      refine OPS.p rfl (st_call (L := [((.tmp 31), _), ((.tmp 32), _)]) false pl238 ⟨rfl, rfl, trivial⟩ rfl (k_rDiv q g hq hg) rfl) ?_
      refine OPS.p rfl (st_move rfl) ?_
      refine OPS.p rfl (st_extract rfl rfl) ?_
      refine OPS.p rfl (st_extract rfl rfl) ?_
      refine OPS.a rfl (st_alloc ze29) ?_
      refine OPS.a rfl (st_alloc ze29) ?_
      refine OPS.s (by exact st_store_v sz29 rfl rfl rfl rfl rfl rfl) ?_
      refine OPS.s (by exact st_store_v sz29 rfl rfl rfl rfl rfl rfl) ?_
      refine OPS.nil ?_
      refine AWP.seq ?_
      refine AWP.mono (n := fun s' => ∃ zz : Unit, SubR (loOf cx) s' ((fun (zz : Unit) => ⟨[(4, .ptr 2 0), (6, .ptr 4 0), (8, .ptr 6 0)], [(2, .var [pB false, .cell (.sl 0 []), pB false, .cell (.sl 0 [])]), (4, .var [pB (decide (a.num < 0)), pL (iD a.num)]), (6, .var [pB (decide ((a.den : Int) < 0)), pL (iD a.den)])], 8⟩) zz) ∧ (fun (zz : Unit) => True) zz) ?_ ?_
      · refine AWP.seq ?_
        refine AWP.region ?_
        refine OPS.p rfl (by exact st_field_p off29_0 rfl) ?_
        refine OPS.p rfl (by exact st_load_vs sc4 rfl rfl rfl) ?_
        refine OPS.nil ?_
        refine AWP.condD rfl (fun hc6 => ?_) (fun hc6 => ?_)
        · refine AWP.seq ?_
          refine AWP.region ?_
          refine OPS.p rfl (by exact st_load_va ag29 rfl rfl rfl rfl) ?_
          refine OPS.p rfl (st_call (L := [((.tmp 38), _)]) false pl135 ⟨rfl, trivial⟩ rfl (k_rNeg (p / g) hsn.1.fit) rfl) ?_
          refine OPS.s (by exact st_store_v sz29 rfl rfl rfl rfl rfl rfl) ?_
          refine OPS.nil ?_
          refine AWP.region ?_
          refine OPS.p rfl (by exact st_load_va ag29 rfl rfl rfl rfl) ?_
          refine OPS.p rfl (st_call (L := [((.tmp 40), _)]) false pl135 ⟨rfl, trivial⟩ rfl (k_rNeg (q / g) hsn.2.fit) rfl) ?_
          refine OPS.s (by exact st_store_v sz29 rfl rfl rfl rfl rfl rfl) ?_
          refine OPS.nil ?_
          have e1 : -(p / g) = a.num := by omega
          have e2 : -(q / g) = a.den := by omega
          rw [e1, e2]
          refine ⟨(()), (Sub.r (Sub.mk' ⟨(by rfl), (by rfl), (by rfl), trivial⟩ ⟨(by rfl), (by rfl), (by rfl), trivial⟩ (by exact Nat.le_refl _))), ?_⟩
          exact True.intro
        · refine AWP.skip ?_
          have e1 : p / g = a.num := by omega
          have e2 : q / g = a.den := by omega
          rw [e1, e2]
          refine ⟨(()), (Sub.r (Sub.mk' ⟨(by rfl), (by rfl), (by rfl), trivial⟩ ⟨(by rfl), (by rfl), (by rfl), trivial⟩ (by exact Nat.le_refl _))), ?_⟩
          exact True.intro
      · rintro s' ⟨u, hsub, hinv⟩
        have hinv : True := hinv
        obtain _ := id hinv
        refine AWP.subR hsub ?_
        show AWP _ _ _ _ _ _ _ ⟨[(4, .ptr 2 0), (6, .ptr 4 0), (8, .ptr 6 0)], [(2, .var [pB false, .cell (.sl 0 []), pB false, .cell (.sl 0 [])]), (4, .var [pB (decide (a.num < 0)), pL (iD a.num)]), (6, .var [pB (decide ((a.den : Int) < 0)), pL (iD a.den)])], 8⟩
        refine AWP.seq ?_
        refine AWP.seq ?_
        refine AWP.region ?_
        refine OPS.p rfl (by exact st_load_va ag29 rfl rfl rfl rfl) ?_
        refine OPS.p rfl (st_call (L := [((.tmp 42), _)]) false pl239 ⟨rfl, trivial⟩ rfl (k_r1 a.den) rfl) ?_
        refine OPS.nil ?_
        refine AWP.condD rfl (fun hc9 => ?_) (fun hc9 => ?_)
        · refine AWP.seq ?_
          refine AWP.region ?_
          refine OPS.p rfl (by exact st_load_va ag29 rfl rfl rfl rfl) ?_
          refine OPS.p rfl (st_build (L := [(0, (.tmp 44), _)]) zf31 pl_31 ⟨rfl, trivial⟩ rfl rfl) ?_
          refine OPS.s (by exact st_store_v sz31 rfl rfl rfl rfl rfl rfl) ?_
          refine OPS.nil ?_
          refine AWP.ret ?_
          refine Ret.mk rfl ?_
          have : qD a = [] := by unfold qD; rw [if_pos (by omega)]
          rw [pQ, eQ, this]
          rfl
        · refine AWP.skip ?_
          refine AWP.seq ?_
          refine AWP.region ?_
          refine OPS.p rfl (by exact st_load_va ag29 rfl rfl rfl rfl) ?_
          refine OPS.p rfl (by exact st_load_va ag29 rfl rfl rfl rfl) ?_
          refine OPS.p rfl (st_build (L := [(0, (.tmp 46), _), (1, (.tmp 47), _)]) zf31 pl_31 ⟨rfl, rfl, trivial⟩ rfl rfl) ?_
          refine OPS.s (by exact st_store_v sz31 rfl rfl rfl rfl rfl rfl) ?_
          refine OPS.nil ?_
          refine AWP.ret ?_
          refine Ret.mk rfl ?_
          have : qD a = digs a.den := by unfold qD; rw [if_neg (by omega)]
          rw [pQ, eQ, this]
          have e : decide ((a.den : Int) < 0) = false := decide_eq_false (by omega)
          rw [← e]
          rfl

theorem k_rqOf (p q : Int) (hp : Sml p.natAbs) (hq : Sml q.natAbs) : PureC Tryz.prog 38 [pI p, pI q] (pQ (Rat.divInt p q)) := by
  have hA : p.natAbs < 1000000000000000000 := hp
  have hB : q.natAbs < 1000000000000000000 := hq
  refine PureC.of Tryz.func38 rfl Tryz.ntmps38 (vs := [.cell 4 31]) rfl (Nat.le_of_ble_eq_true rfl) rfl fun cx _ _ => ?_
  refine AWP.seq ?_
  refine AWP.region ?_
  refine OPS.a rfl (st_alloc ze31) ?_
  refine OPS.nil ?_
  refine AWP.seq ?_
  refine AWP.region ?_
  refine OPS.p rfl (st_move rfl) ?_
  refine OPS.p rfl (st_call (L := [((.tmp 5), _)]) false pl139 ⟨rfl, trivial⟩ rfl (k_rOf p (by omega) (by omega)) rfl) ?_
  refine OPS.p rfl (st_move rfl) ?_
  refine OPS.p rfl (st_call (L := [((.tmp 7), _)]) false pl139 ⟨rfl, trivial⟩ rfl (k_rOf q (by omega) (by omega)) rfl) ?_
  refine OPS.p rfl (st_call (L := [((.tmp 6), _), ((.tmp 8), _)]) false pl137 ⟨rfl, rfl, trivial⟩ rfl (k_rMake p q hp hq) rfl) ?_
  refine OPS.s (by exact st_store_v sz31 rfl rfl rfl rfl rfl rfl) ?_
  refine OPS.nil ?_
  refine AWP.ret ?_
  exact Ret.mk rfl rfl

theorem k_rqAdd (a b : Rat) (h1 : Fit a.num.natAbs) (h2 : Fit b.num.natAbs) (h3 : Fit a.den) (h4 : Fit b.den) (h5 : Fit (a.num * b.den).natAbs) (h6 : Fit (b.num * a.den).natAbs) (h7 : Sml (a.num * b.den + b.num * a.den).natAbs) (h8 : Sml (a.den * b.den)) : PureC Tryz.prog 37 [pQ a, pQ b] (pQ (a + b)) := by
  refine PureC.of Tryz.func37 rfl Tryz.ntmps37 (vs := [.cell 4 31]) rfl (Nat.le_of_ble_eq_true rfl) rfl fun cx _ _ => ?_
  refine AWP.seq ?_
  refine AWP.region ?_
  refine OPS.a rfl (st_box rfl rfl) ?_
  refine OPS.a rfl (st_box rfl rfl) ?_
  refine OPS.a rfl (st_alloc ze31) ?_
  refine OPS.nil ?_
  refine AWP.seq ?_
  refine AWP.drw mixed ?_
  refine DRW.p rfl (by exact st_field_p off31_0 rfl) ?_
  refine DRW.p rfl (by exact st_load_va ag29 rfl rfl rfl rfl) ?_
  refine DRW.p rfl (by exact st_load_va ag31 rfl rfl rfl rfl) ?_
  refine DRW.p rfl (st_call (L := [((.tmp 9), _)]) false pl134 ⟨rfl, trivial⟩ rfl (k_rDen b) rfl) ?_
  refine DRW.p rfl (st_call (L := [((.tmp 8), _), ((.tmp 10), _)]) false pl133 ⟨rfl, rfl, trivial⟩ rfl (k_rMul a.num b.den h1 h4) rfl) ?_
  refine DRW.a rfl (st_alloc ze29) ?_
  refine DRW.s (by exact st_store_v sz29 rfl rfl rfl rfl rfl rfl) ?_
  refine DRW.nil (by kernel_rfl) ?_
  refine AWP.seq ?_
  refine AWP.drw mixed ?_
  refine DRW.p rfl (by exact st_field_p off31_0 rfl) ?_
  refine DRW.p rfl (by exact st_load_va ag29 rfl rfl rfl rfl) ?_
  refine DRW.p rfl (by exact st_load_va ag31 rfl rfl rfl rfl) ?_
  refine DRW.p rfl (st_call (L := [((.tmp 14), _)]) false pl134 ⟨rfl, trivial⟩ rfl (k_rDen a) rfl) ?_
  refine DRW.p rfl (st_call (L := [((.tmp 13), _), ((.tmp 15), _)]) false pl133 ⟨rfl, rfl, trivial⟩ rfl (k_rMul b.num a.den h2 h3) rfl) ?_
  refine DRW.a rfl (st_alloc ze29) ?_
  refine DRW.s (by exact st_store_v sz29 rfl rfl rfl rfl rfl rfl) ?_
  refine DRW.nil (by kernel_rfl) ?_
  refine AWP.seq ?_
  refine AWP.drw mixed ?_
  refine DRW.p rfl (by exact st_load_va ag29 rfl rfl rfl rfl) ?_
  refine DRW.p rfl (by exact st_load_va ag29 rfl rfl rfl rfl) ?_
  refine DRW.p rfl (st_call (L := [((.tmp 17), _), ((.tmp 18), _)]) false pl138 ⟨rfl, rfl, trivial⟩ rfl (k_rAdd (a.num * b.den) (b.num * a.den) h5 h6) rfl) ?_
  refine DRW.p rfl (by exact st_load_va ag31 rfl rfl rfl rfl) ?_
  refine DRW.p rfl (st_call (L := [((.tmp 20), _)]) false pl134 ⟨rfl, trivial⟩ rfl (k_rDen a) rfl) ?_
  refine DRW.p rfl (by exact st_load_va ag31 rfl rfl rfl rfl) ?_
  refine DRW.p rfl (st_call (L := [((.tmp 22), _)]) false pl134 ⟨rfl, trivial⟩ rfl (k_rDen b) rfl) ?_
  refine DRW.p rfl (st_call (L := [((.tmp 21), _), ((.tmp 23), _)]) false pl133 ⟨rfl, rfl, trivial⟩ rfl (k_rMul a.den b.den h3 h4) rfl) ?_
  refine DRW.p rfl (st_call (L := [((.tmp 19), _), ((.tmp 24), _)]) false pl137 ⟨rfl, rfl, trivial⟩ rfl (k_rMake (a.num * b.den + b.num * a.den) (a.den * b.den) h7 (by rw [← Int.natCast_mul]; exact h8)) rfl) ?_
  refine DRW.s (by exact st_store_v sz31 rfl rfl rfl rfl rfl rfl) ?_
  refine DRW.nil (by kernel_rfl) ?_
  refine AWP.ret ?_
  exact Ret.mk rfl (by rw [q_add]; rfl)

theorem q_mul' {a b : Rat} : a * b = Rat.divInt (a.num * b.num) (a.den * b.den) := by
  have h := Rat.divInt_mul_divInt a.num b.num (d₁ := a.den) (d₂ := b.den)
  rwa [Rat.num_divInt_den, Rat.num_divInt_den] at h

theorem k_rqMul (a b : Rat) (h1 : Fit a.num.natAbs) (h2 : Fit b.num.natAbs) (h3 : Fit a.den) (h4 : Fit b.den) (h5 : Sml (a.num * b.num).natAbs) (h6 : Sml (a.den * b.den)) : PureC Tryz.prog 149 [pQ a, pQ b] (pQ (a * b)) := by
  refine PureC.of Tryz.func149 rfl Tryz.ntmps149 (vs := [.cell 4 31]) rfl (Nat.le_of_ble_eq_true rfl) rfl fun cx _ _ => ?_
  refine AWP.seq ?_
  refine AWP.region ?_
  refine OPS.a rfl (st_box rfl rfl) ?_
  refine OPS.a rfl (st_box rfl rfl) ?_
  refine OPS.a rfl (st_alloc ze31) ?_
  refine OPS.nil ?_
  refine AWP.seq ?_
  refine AWP.drw mixed ?_
  refine DRW.p rfl (by exact st_field_p off31_0 rfl) ?_
  refine DRW.p rfl (by exact st_load_va ag29 rfl rfl rfl rfl) ?_
  refine DRW.p rfl (by exact st_field_p off31_0 rfl) ?_
  refine DRW.p rfl (by exact st_load_va ag29 rfl rfl rfl rfl) ?_
  refine DRW.p rfl (st_call (L := [((.tmp 6), _), ((.tmp 8), _)]) false pl133 ⟨rfl, rfl, trivial⟩ rfl (k_rMul a.num b.num h1 h2) rfl) ?_
  refine DRW.p rfl (by exact st_load_va ag31 rfl rfl rfl rfl) ?_
  refine DRW.p rfl (st_call (L := [((.tmp 10), _)]) false pl134 ⟨rfl, trivial⟩ rfl (k_rDen a) rfl) ?_
  refine DRW.p rfl (by exact st_load_va ag31 rfl rfl rfl rfl) ?_
  refine DRW.p rfl (st_call (L := [((.tmp 12), _)]) false pl134 ⟨rfl, trivial⟩ rfl (k_rDen b) rfl) ?_
  refine DRW.p rfl (st_call (L := [((.tmp 11), _), ((.tmp 13), _)]) false pl133 ⟨rfl, rfl, trivial⟩ rfl (k_rMul a.den b.den h3 h4) rfl) ?_
  refine DRW.p rfl (st_call (L := [((.tmp 9), _), ((.tmp 14), _)]) false pl137 ⟨rfl, rfl, trivial⟩ rfl (k_rMake (a.num * b.num) (a.den * b.den) h5 (by rw [← Int.natCast_mul]; exact h6)) rfl) ?_
  refine DRW.s (by exact st_store_v sz31 rfl rfl rfl rfl rfl rfl) ?_
  refine DRW.nil (by kernel_rfl) ?_
  refine AWP.ret ?_
  exact Ret.mk rfl (by rw [q_mul']; rfl)

theorem k_rqCompare (a b : Rat) (h1 : Fit a.num.natAbs) (h2 : Fit b.num.natAbs) (h3 : Fit a.den) (h4 : Fit b.den) (h5 : Fit (a.num * b.den).natAbs) (h6 : Fit (b.num * a.den).natAbs) : PureC Tryz.prog 34 [pQ a, pQ b] (pI (cmpQ a b)) := by
  refine PureC.of Tryz.func34 rfl Tryz.ntmps34 (vs := [.tmp 4]) rfl (Nat.le_of_ble_eq_true rfl) rfl fun cx _ _ => ?_
  refine AWP.seq ?_
  refine AWP.region ?_
  refine OPS.a rfl (st_box rfl rfl) ?_
  refine OPS.a rfl (st_box rfl rfl) ?_
  refine OPS.p rfl (st_assign rfl) ?_
  refine OPS.nil ?_
  refine AWP.seq ?_
  refine AWP.drw mixed ?_
  refine DRW.p rfl (by exact st_field_p off31_0 rfl) ?_
  refine DRW.p rfl (by exact st_load_va ag29 rfl rfl rfl rfl) ?_
  refine DRW.p rfl (by exact st_load_va ag31 rfl rfl rfl rfl) ?_
  refine DRW.p rfl (st_call (L := [((.tmp 7), _)]) false pl134 ⟨rfl, trivial⟩ rfl (k_rDen b) rfl) ?_
  refine DRW.p rfl (st_call (L := [((.tmp 6), _), ((.tmp 8), _)]) false pl133 ⟨rfl, rfl, trivial⟩ rfl (k_rMul a.num b.den h1 h4) rfl) ?_
  refine DRW.p rfl (by exact st_field_p off31_0 rfl) ?_
  refine DRW.p rfl (by exact st_load_va ag29 rfl rfl rfl rfl) ?_
  refine DRW.p rfl (by exact st_load_va ag31 rfl rfl rfl rfl) ?_
  refine DRW.p rfl (st_call (L := [((.tmp 12), _)]) false pl134 ⟨rfl, trivial⟩ rfl (k_rDen a) rfl) ?_
  refine DRW.p rfl (st_call (L := [((.tmp 11), _), ((.tmp 13), _)]) false pl133 ⟨rfl, rfl, trivial⟩ rfl (k_rMul b.num a.den h2 h3) rfl) ?_
  refine DRW.p rfl (st_call (L := [((.tmp 9), _), ((.tmp 14), _)]) false pl132 ⟨rfl, rfl, trivial⟩ rfl (k_rCompare _ _ h5 h6) rfl) ?_
  refine DRW.p rfl (st_assign rfl) ?_
  refine DRW.nil (by kernel_rfl) ?_
  refine AWP.ret ?_
  exact Ret.mk rfl (congrArg pI (cmpQ_cross a b))
end Go.Proofs.Gh.Tryz
end
