/-
  Contracts: the reference's sum of two shapes.
  Contracts: the reference's rates and touching vectors.
-/
import Derived.Test.YtabhcfenjelkcaaGreatCtG
import Derived.Test.YtabhcfenjelkcaaGreatPlC
section
set_option linter.unusedVariables false
set_option linter.unusedSimpArgs false
set_option maxRecDepth 4000
namespace Go.Proofs.Gh.Tryz
open Go Go.Proofs Go.Proofs.Gh

theorem k_rLeft (a b c : Pt) (ha : Sp a) (hb : Sp b) (hc : Sp c) : PureC Tryz.prog 258 [pP a, pP b, pP c] (pI (cross a b c)) := by
  obtain ⟨a1, a2, a3, a4⟩ := ha
  obtain ⟨b1, b2, b3, b4⟩ := hb
  obtain ⟨c1, c2, c3, c4⟩ := hc
  have h1 := mb (a := b.1 - a.1) (b := c.2 - a.2) (M := 200000) (by omega) (by omega)
  have h2 := mb (a := b.2 - a.2) (b := c.1 - a.1) (M := 200000) (by omega) (by omega)
  refine PureC.of Tryz.func258 rfl Tryz.ntmps258 (vs := [.tmp 6]) rfl (Nat.le_of_ble_eq_true rfl) rfl fun cx _ _ => ?_
  refine AWP.seq ?_
  refine AWP.region ?_
  refine OPS.a rfl (st_box rfl rfl) ?_
  refine OPS.a rfl (st_box rfl rfl) ?_
  refine OPS.a rfl (st_box rfl rfl) ?_
  refine OPS.p rfl (st_assign rfl) ?_
  refine OPS.nil ?_
  refine AWP.seq ?_
  refine AWP.region ?_
  refine OPS.p rfl (by exact st_field_p off148_0 rfl) ?_
  refine OPS.p rfl (by exact st_load_vs sc3 rfl rfl rfl) ?_
  refine OPS.p rfl (by exact st_field_p off148_0 rfl) ?_
  refine OPS.p rfl (by exact st_load_vs sc3 rfl rfl rfl) ?_
  refine OPS.p rfl (by exact st_sub_i rfl rfl (by omega) (by omega)) ?_
  refine OPS.p rfl (by exact st_field_p off148_1 rfl) ?_
  refine OPS.p rfl (by exact st_load_vs sc3 rfl rfl rfl) ?_
  refine OPS.p rfl (by exact st_field_p off148_1 rfl) ?_
  refine OPS.p rfl (by exact st_load_vs sc3 rfl rfl rfl) ?_
  refine OPS.p rfl (by exact st_sub_i rfl rfl (by omega) (by omega)) ?_
  refine OPS.p rfl (by exact st_mul_i rfl rfl (by omega) (by omega)) ?_
  refine OPS.p rfl (by exact st_field_p off148_1 rfl) ?_
  refine OPS.p rfl (by exact st_load_vs sc3 rfl rfl rfl) ?_
  refine OPS.p rfl (by exact st_field_p off148_1 rfl) ?_
  refine OPS.p rfl (by exact st_load_vs sc3 rfl rfl rfl) ?_
  refine OPS.p rfl (by exact st_sub_i rfl rfl (by omega) (by omega)) ?_
  refine OPS.p rfl (by exact st_field_p off148_0 rfl) ?_
  refine OPS.p rfl (by exact st_load_vs sc3 rfl rfl rfl) ?_
  refine OPS.p rfl (by exact st_field_p off148_0 rfl) ?_
  refine OPS.p rfl (by exact st_load_vs sc3 rfl rfl rfl) ?_
  refine OPS.p rfl (by exact st_sub_i rfl rfl (by omega) (by omega)) ?_
  refine OPS.p rfl (by exact st_mul_i rfl rfl (by omega) (by omega)) ?_
  refine OPS.p rfl (by exact st_sub_i rfl rfl (by omega) (by omega)) ?_
  refine OPS.p rfl (st_assign rfl) ?_
  refine OPS.nil ?_
  refine AWP.ret ?_
  exact Ret.mk rfl rfl

def okq (q p x : Pt) : Bool := decide (0 < cross q p x) || (decide (cross q p x = 0) && decide (far q x ≤ far q p))
theorem goodI_ok (all : List Pt) (q p : Pt) : goodI all q p = (decide (p ≠ q) && all.all (okq q p)) := rfl
theorem all_take_false {α : Type} {p : α → Bool} {l : List α} {m : Nat} {b : Bool} (h : (b && (l.take m).all p) = false) : (b && l.all p) = false := by
  cases b with
  | false => rfl
  | true =>
    rw [Bool.true_and] at h ⊢
    cases hl : l.all p with
    | false => rfl
    | true =>
      rw [← h]
      symm
      rw [List.all_eq_true] at hl ⊢
      exact fun x hx => hl x (List.mem_of_mem_take hx)
theorem far_sq (q x : Pt) : far q x = (x.1 - q.1) * (x.1 - q.1) + (x.2 - q.2) * (x.2 - q.2) := by unfold far; grind

theorem k_rSum (a b : List Pt) (ha : Fam a) (hb : Fam b) : PureC Tryz.prog 186 [pPs a, pPs b] (pPs (sumL a b)) := by
  have la := fam_len ha
  have lb := fam_len hb
  have sa := fam_sp ha
  have sb := fam_sp hb
  have hdl := diffs_len a b
  have hdb := diffs_bd ha hb
  have hsl := (fam_conv ha hb).len
  have hs3 := (fam_pair ha hb).len
  have hsm := (sum_mem ha hb).2
  have hfn := fun j hj y hy hg => good_uniq ha hb (j := j) hj (y := y) hy hg
  have hgn := fun j hj => good_next ha hb (j := j) hj
  have hnm := fun j hj => next_mem ha hb (j := j) hj
  have hfst := sum_first ha hb
  have hll : a.length * b.length ≤ 25 ∧ 0 < a.length * b.length := ⟨Nat.mul_le_mul la.2 lb.2, Nat.mul_pos (by omega) (by omega)⟩
  generalize hs : sumL a b = s at *
  refine PureC.of Tryz.func186 rfl Tryz.ntmps186 (vs := [.tmp 4]) rfl (Nat.le_of_ble_eq_true rfl) rfl fun cx _ _ => ?_
  refine AWP.seq ?_
  refine AWP.region ?_
  refine OPS.p rfl (st_assign rfl) ?_
  refine OPS.nil ?_
  refine AWP.seq ?_
  refine AWP.region ?_
  refine OPS.p rfl (st_assign rfl) ?_
  refine OPS.nil ?_
  refine AWP.seq ?_
  refine AWP.seq ?_
  refine AWP.region ?_
  refine OPS.p rfl (st_assign rfl) ?_
  refine OPS.nil ?_
  refine AWP.block ?_
  refine AWP.adopt 5 148 2 rfl ?_
  refine AWP.loopR (σ := Nat × List Pt) (fun (zz : Nat × List Pt) => ⟨[(0, pPs a), (1, pPs b), (5, .own 0 zz.2.length), (6, pI zz.1)], [(0, .arr 148 2 zz.2.length (fR eP zz.2))], 1⟩) (fun (zz : Nat × List Pt) => zz.1 ≤ a.length ∧ zz.2.length ≤ 5 * zz.1 ∧ zz.2 = diffs (a.take zz.1) b) (fun (zz : Nat × List Pt) => a.length - zz.1) (0, []) (Sub.r (Sub.mk' ⟨(by rfl), (by rfl), (by rfl), (by rfl), trivial⟩ ⟨(by rfl), trivial⟩ (by exact Nat.le_refl _))) (by exact ⟨by omega, by simp, rfl⟩) ?_
  rintro ⟨i, o⟩ hinv
  have hinv : i ≤ a.length ∧ o.length ≤ 5 * i ∧ o = diffs (a.take i) b := hinv
  obtain ⟨h1, h2, h3⟩ := hinv
  show AWP _ _ _ _ _ _ _ ⟨[(0, pPs a), (1, pPs b), (5, .own 0 o.length), (6, pI i)], [(0, .arr 148 2 o.length (fR eP o))], 1⟩
  refine AWP.seq ?_
  refine AWP.seq ?_
  refine AWP.region ?_
  refine OPS.p rfl (st_move rfl) ?_
  refine OPS.p rfl (st_move rfl) ?_
  refine OPS.p rfl (st_len un66 rfl rfl) ?_
  refine OPS.p rfl (st_lss rfl rfl) ?_
  refine OPS.nil ?_
  refine AWP.condD rfl (fun hc3 => ?_) (fun hc3 => ?_)
  · have hi : i < a.length := by omega
    have hsi := sa _ (getD_mem hi)
    refine AWP.skip ?_
    refine AWP.seq ?_
    refine AWP.block ?_
    refine AWP.seq ?_
    refine AWP.region ?_
    refine OPS.p rfl (st_assign rfl) ?_
    refine OPS.nil ?_
    refine AWP.block ?_
    refine AWP.loopR (σ := Nat × List Pt) (fun (zz : Nat × List Pt) => ⟨[(0, pPs a), (1, pPs b), (5, .own 0 zz.2.length), (6, pI i), (7, pI zz.1)], [(0, .arr 148 2 zz.2.length (fR eP zz.2))], 1⟩) (fun (zz : Nat × List Pt) => zz.1 ≤ b.length ∧ zz.2.length ≤ 5 * i + zz.1 ∧ zz.2 = diffs (a.take i) b ++ (b.take zz.1).map fun q => ((a.getD i default).1 - q.1, (a.getD i default).2 - q.2)) (fun (zz : Nat × List Pt) => b.length - zz.1) (0, o) (Sub.r (Sub.mk' ⟨(by rfl), (by rfl), (by rfl), (by rfl), (by rfl), trivial⟩ ⟨(by rfl), trivial⟩ (by exact Nat.le_refl _))) (by exact ⟨by omega, by show o.length ≤ 5 * i + 0; omega, by simp [h3]⟩) ?_
    rintro ⟨k, u⟩ hinv
    have hinv : k ≤ b.length ∧ u.length ≤ 5 * i + k ∧ u = diffs (a.take i) b ++ (b.take k).map fun q => ((a.getD i default).1 - q.1, (a.getD i default).2 - q.2) := hinv
    obtain ⟨k1, k2, k3⟩ := hinv
    show AWP _ _ _ _ _ _ _ ⟨[(0, pPs a), (1, pPs b), (5, .own 0 u.length), (6, pI i), (7, pI k)], [(0, .arr 148 2 u.length (fR eP u))], 1⟩
    refine AWP.seq ?_
    refine AWP.seq ?_
    refine AWP.region ?_
    refine OPS.p rfl (st_move rfl) ?_
    refine OPS.p rfl (st_move rfl) ?_
    refine OPS.p rfl (st_len un66 rfl rfl) ?_
    refine OPS.p rfl (st_lss rfl rfl) ?_
    refine OPS.nil ?_
    refine AWP.condD rfl (fun hc6 => ?_) (fun hc6 => ?_)
    · have hk : k < b.length := by omega
      have hsk := sb _ (getD_mem hk)
      refine AWP.skip ?_
      refine AWP.seq ?_
      refine AWP.block ?_
      refine AWP.drw mixed ?_
      refine DRW.p rfl (st_move rfl) ?_
      refine DRW.p rfl (st_move rfl) ?_
      refine DRW.p rfl (st_move rfl) ?_
      refine DRW.p rfl (by exact st_index_R es66 rfl rfl (fun _ => rfl) rfl (by omega) (by omega) (by rfl)) ?_
      refine DRW.p rfl (by exact st_field_f off148_0 rfl) ?_
      refine DRW.p rfl (by exact st_load_RFn sc3 rfl (fun _ => rfl) rfl (by omega) rfl) ?_
      refine DRW.p rfl (st_move rfl) ?_
      refine DRW.p rfl (st_move rfl) ?_
      refine DRW.p rfl (by exact st_index_R es66 rfl rfl (fun _ => rfl) rfl (by omega) (by omega) (by rfl)) ?_
      refine DRW.p rfl (by exact st_field_f off148_0 rfl) ?_
      refine DRW.p rfl (by exact st_load_RFn sc3 rfl (fun _ => rfl) rfl (by omega) rfl) ?_
      refine DRW.p rfl (by exact st_sub_i rfl rfl (by omega) (by omega)) ?_
      refine DRW.p rfl (st_move rfl) ?_
      refine DRW.p rfl (st_move rfl) ?_
      refine DRW.p rfl (by exact st_index_R es66 rfl rfl (fun _ => rfl) rfl (by omega) (by omega) (by rfl)) ?_
      refine DRW.p rfl (by exact st_field_f off148_1 rfl) ?_
      refine DRW.p rfl (by exact st_load_RFn sc3 rfl (fun _ => rfl) rfl (by omega) rfl) ?_
      refine DRW.p rfl (st_move rfl) ?_
      refine DRW.p rfl (st_move rfl) ?_
      refine DRW.p rfl (by exact st_index_R es66 rfl rfl (fun _ => rfl) rfl (by omega) (by omega) (by rfl)) ?_
      refine DRW.p rfl (by exact st_field_f off148_1 rfl) ?_
      refine DRW.p rfl (by exact st_load_RFn sc3 rfl (fun _ => rfl) rfl (by omega) rfl) ?_
      refine DRW.p rfl (by exact st_sub_i rfl rfl (by omega) (by omega)) ?_
      refine DRW.p rfl (st_build (L := [(0, (.tmp 43), _), (1, (.tmp 54), _)]) zf148 pl_148 ⟨rfl, rfl, trivial⟩ rfl rfl) ?_
      refine DRW.a rfl (Stp.frz (st_buildS (L := [(0, (.tmp 55), _)]) ei66 rfl ⟨rfl, trivial⟩ rfl rfl) rfl) ?_
      refine DRW.a rfl (st_append_R (v := [((a.getD i default).1 - (b.getD k default).1, (a.getD i default).2 - (b.getD k default).2)]) ei66 un66 rfl rfl rfl rfl (fun _ => rfl) rfl rfl (by simp only [List.length_singleton]; omega) (by simp only [List.length_singleton]; omega)) ?_
      refine DRW.p rfl (st_assign rfl) ?_
      refine DRW.nil (by kernel_rfl) ?_
      refine AWP.region ?_
      refine OPS.p rfl (st_move rfl) ?_
      refine OPS.p rfl (by exact st_add_i rfl rfl (by omega) (by omega)) ?_
      refine OPS.p rfl (st_assign rfl) ?_
      refine OPS.nil ?_
      refine ⟨(k + 1, u ++ [((a.getD i default).1 - (b.getD k default).1, (a.getD i default).2 - (b.getD k default).2)]), (Ren.r (Ren.mk' (ρ := [(2, 0)]) rfl ⟨(by rfl), (by rfl), (by rfl), (by rfl), (by rfl), trivial⟩ ⟨(by rfl), trivial⟩)), ?_, ?_⟩
      · try dsimp only
        refine ⟨by omega, by rw [List.length_append, List.length_singleton]; omega, ?_⟩
        rw [map_take _ hk, ← List.append_assoc, ← k3]
      · try dsimp only
        omega
    · have hkb : k = b.length := by omega
      refine AWP.exit ?_
      refine AWP.region ?_
      refine OPS.p rfl (st_move rfl) ?_
      refine OPS.p rfl (by exact st_add_i rfl rfl (by omega) (by omega)) ?_
      refine OPS.p rfl (st_assign rfl) ?_
      refine OPS.nil ?_
      refine ⟨(i + 1, u), (Ren.r (Ren.mk' (ρ := [(0, 0)]) rfl ⟨(by rfl), (by rfl), (by rfl), (by rfl), trivial⟩ ⟨(by rfl), trivial⟩)), ?_, ?_⟩
      · try dsimp only
        refine ⟨by omega, by show u.length ≤ 5 * (i + 1); omega, ?_⟩
        rw [diffs_take hi, k3, hkb, List.take_length]
      · try dsimp only
        omega
  · refine AWP.exit ?_
    refine AWP.seq ?_
    have hia : i = a.length := by omega
    have ho : o = diffs a b := by rw [h3, hia, List.take_length]
    refine AWP.freeze 0 [5] rfl ⟨rfl, trivial⟩ ?_
    rw [← ho] at hdl hdb hsm hfn hgn hnm hfst
    have hSo : ∀ p ∈ o, Sp p := fun p hp => by have := hdb p hp; unfold Sp; omega
    refine AWP.region ?_
    refine OPS.p rfl (st_move rfl) ?_
    refine OPS.p rfl (by exact st_index_R es66 rfl rfl (fun _ => rfl) rfl (by omega) (by omega) (by rfl)) ?_
    refine OPS.p rfl (by exact st_load_Rn ag148 rfl (fun _ => rfl) rfl (by (simp; omega))) ?_
    refine OPS.a rfl (st_alloc ze148) ?_
    refine OPS.s (by exact st_store_v sz148 rfl rfl rfl rfl rfl rfl) ?_
    refine OPS.nil ?_
    refine AWP.seq ?_
    refine AWP.seq ?_
    refine AWP.region ?_
    refine OPS.p rfl (st_assign rfl) ?_
    refine OPS.nil ?_
    refine AWP.block ?_
    refine AWP.loopR (σ := Nat × Pt) (fun (zz : Nat × Pt) => ⟨[(5, pPs o), (8, .ptr 1 0), (9, pI zz.1)], [(1, .var [pI zz.2.1, pI zz.2.2])], 2⟩) (fun (zz : Nat × Pt) => zz.1 ≤ o.length ∧ zz.2 = minTo o zz.1) (fun (zz : Nat × Pt) => o.length - zz.1) (0, minTo o 0) (Sub.r (Sub.mk' ⟨(by rfl), (by rfl), (by rfl), trivial⟩ ⟨(by rfl), trivial⟩ (by exact Nat.le_refl _))) (by exact ⟨by omega, rfl⟩) ?_
    rintro ⟨i, f⟩ hinv
    have hinv : i ≤ o.length ∧ f = minTo o i := hinv
    obtain ⟨g1, g2⟩ := hinv
    show AWP _ _ _ _ _ _ _ ⟨[(5, pPs o), (8, .ptr 1 0), (9, pI i)], [(1, .var [pI f.1, pI f.2])], 2⟩
    refine AWP.seq ?_
    refine AWP.seq ?_
    refine AWP.region ?_
    refine OPS.p rfl (st_move rfl) ?_
    refine OPS.p rfl (st_move rfl) ?_
    refine OPS.p rfl (st_len un66 rfl rfl) ?_
    refine OPS.p rfl (st_lss rfl rfl) ?_
    refine OPS.nil ?_
    refine AWP.condD rfl (fun hc11 => ?_) (fun hc11 => ?_)
    · have hi : i < o.length := by omega
      refine AWP.skip ?_
      refine AWP.seq ?_
      refine AWP.block ?_
      refine AWP.seq ?_
      refine AWP.drw mixed ?_
      refine DRW.p rfl (st_move rfl) ?_
      refine DRW.p rfl (st_move rfl) ?_
      refine DRW.p rfl (by exact st_index_R es66 rfl rfl (fun _ => rfl) rfl (by omega) (by omega) (by rfl)) ?_
      refine DRW.p rfl (by exact st_field_f off148_1 rfl) ?_
      refine DRW.p rfl (by exact st_load_RFn sc3 rfl (fun _ => rfl) rfl (by omega) rfl) ?_
      refine DRW.p rfl (by exact st_field_p off148_1 rfl) ?_
      refine DRW.p rfl (by exact st_load_vs sc3 rfl rfl rfl) ?_
      refine DRW.p rfl (st_lss rfl rfl) ?_
      refine DRW.p rfl (st_move rfl) ?_
      refine DRW.split (g := 75) rfl (fun eg13_8 g13_8 => ?_) (fun eg13_8 g13_8 => ?_)
      · refine DRW.nO rfl rfl rfl eg13_8 ?_
        refine DRW.nO rfl rfl rfl eg13_8 ?_
        refine DRW.nO rfl rfl rfl eg13_8 ?_
        refine DRW.nO rfl rfl rfl eg13_8 ?_
        refine DRW.nO rfl rfl rfl eg13_8 ?_
        refine DRW.nO rfl rfl rfl eg13_8 ?_
        refine DRW.nO rfl rfl rfl eg13_8 ?_
        refine DRW.nO rfl rfl rfl eg13_8 ?_
        refine DRW.nO rfl rfl rfl eg13_8 ?_
        refine DRW.nT rfl rfl rfl ?_
        refine DRW.nT rfl rfl rfl ?_
        refine DRW.nT rfl rfl rfl ?_
        refine DRW.nT rfl rfl rfl ?_
        refine DRW.nT rfl rfl rfl ?_
        refine DRW.nT rfl rfl rfl ?_
        refine DRW.nT rfl rfl rfl ?_
        refine DRW.nT rfl rfl rfl ?_
        refine DRW.nO rfl rfl rfl eg13_8 ?_
        refine DRW.p rfl (st_pickT rfl eg13_8 rfl) ?_
        refine DRW.nil (by kernel_rfl) ?_
        refine AWP.cond_t rfl (rfl) ?_
        refine AWP.region ?_
        refine OPS.p rfl (st_move rfl) ?_
        refine OPS.p rfl (st_move rfl) ?_
        refine OPS.p rfl (by exact st_index_R es66 rfl rfl (fun _ => rfl) rfl (by omega) (by omega) (by rfl)) ?_
        refine OPS.p rfl (by exact st_load_Rn ag148 rfl (fun _ => rfl) rfl (by omega)) ?_
        refine OPS.s (by exact st_store_v sz148 rfl rfl rfl rfl rfl rfl) ?_
        refine OPS.nil ?_
        refine AWP.region ?_
        refine OPS.p rfl (st_move rfl) ?_
        refine OPS.p rfl (by exact st_add_i rfl rfl (by omega) (by omega)) ?_
        refine OPS.p rfl (st_assign rfl) ?_
        refine OPS.nil ?_
        refine ⟨(i + 1, o.getD i default), (Ren.r (Ren.mk' (ρ := [(1, 1)]) rfl ⟨(by rfl), (by rfl), (by rfl), trivial⟩ ⟨(by rfl), trivial⟩)), ?_, ?_⟩
        · try dsimp only
          refine ⟨by omega, ?_⟩
          rw [minTo, ← g2, if_pos (by unfold lower; rw [decide_eq_true g13_8]; rfl)]
        · try dsimp only
          omega
      · refine DRW.pG rfl rfl rfl eg13_8 (st_move rfl) ?_
        refine DRW.pG rfl rfl rfl eg13_8 (st_move rfl) ?_
        refine DRW.pG rfl rfl rfl eg13_8 (by exact st_index_R es66 rfl rfl (fun _ => rfl) rfl (by omega) (by omega) (by rfl)) ?_
        refine DRW.pG rfl rfl rfl eg13_8 (by exact st_field_f off148_1 rfl) ?_
        refine DRW.pG rfl rfl rfl eg13_8 (by exact st_load_RFn sc3 rfl (fun _ => rfl) rfl (by omega) rfl) ?_
        refine DRW.pG rfl rfl rfl eg13_8 (by exact st_field_p off148_1 rfl) ?_
        refine DRW.pG rfl rfl rfl eg13_8 (by exact st_load_vs sc3 rfl rfl rfl) ?_
        refine DRW.pG rfl rfl rfl eg13_8 (st_eql rfl rfl) ?_
        refine DRW.pG rfl rfl rfl eg13_8 (st_move rfl) ?_
        refine DRW.split (g := 84) rfl (fun eg13_17 g13_17 => ?_) (fun eg13_17 g13_17 => ?_)
        · refine DRW.pG rfl rfl rfl eg13_17 (st_move rfl) ?_
          refine DRW.pG rfl rfl rfl eg13_17 (st_move rfl) ?_
          refine DRW.pG rfl rfl rfl eg13_17 (by exact st_index_R es66 rfl rfl (fun _ => rfl) rfl (by omega) (by omega) (by rfl)) ?_
          refine DRW.pG rfl rfl rfl eg13_17 (by exact st_field_f off148_0 rfl) ?_
          refine DRW.pG rfl rfl rfl eg13_17 (by exact st_load_RFn sc3 rfl (fun _ => rfl) rfl (by omega) rfl) ?_
          refine DRW.pG rfl rfl rfl eg13_17 (by exact st_field_p off148_0 rfl) ?_
          refine DRW.pG rfl rfl rfl eg13_17 (by exact st_load_vs sc3 rfl rfl rfl) ?_
          refine DRW.pG rfl rfl rfl eg13_17 (st_lss rfl rfl) ?_
          refine DRW.pG rfl rfl rfl eg13_8 (st_pickT rfl eg13_17 rfl) ?_
          refine DRW.p rfl (st_pickF rfl eg13_8 rfl) ?_
          refine DRW.nil (by kernel_rfl) ?_
          refine AWP.condD rfl (fun hc13 => ?_) (fun hc13 => ?_)
          · refine AWP.region ?_
            refine OPS.p rfl (st_move rfl) ?_
            refine OPS.p rfl (st_move rfl) ?_
            refine OPS.p rfl (by exact st_index_R es66 rfl rfl (fun _ => rfl) rfl (by omega) (by omega) (by rfl)) ?_
            refine OPS.p rfl (by exact st_load_Rn ag148 rfl (fun _ => rfl) rfl (by omega)) ?_
            refine OPS.s (by exact st_store_v sz148 rfl rfl rfl rfl rfl rfl) ?_
            refine OPS.nil ?_
            refine AWP.region ?_
            refine OPS.p rfl (st_move rfl) ?_
            refine OPS.p rfl (by exact st_add_i rfl rfl (by omega) (by omega)) ?_
            refine OPS.p rfl (st_assign rfl) ?_
            refine OPS.nil ?_
            refine ⟨(i + 1, o.getD i default), (Ren.r (Ren.mk' (ρ := [(1, 1)]) rfl ⟨(by rfl), (by rfl), (by rfl), trivial⟩ ⟨(by rfl), trivial⟩)), ?_, ?_⟩
            · try dsimp only
              refine ⟨by omega, ?_⟩
              rw [minTo, ← g2, if_pos (by unfold lower; rw [decide_eq_true g13_17, decide_eq_true hc13]; simp)]
            · try dsimp only
              omega
          · refine AWP.skip ?_
            refine AWP.region ?_
            refine OPS.p rfl (st_move rfl) ?_
            refine OPS.p rfl (by exact st_add_i rfl rfl (by omega) (by omega)) ?_
            refine OPS.p rfl (st_assign rfl) ?_
            refine OPS.nil ?_
            refine ⟨(i + 1, f), (Ren.r (Ren.mk' (ρ := [(1, 1)]) rfl ⟨(by rfl), (by rfl), (by rfl), trivial⟩ ⟨(by rfl), trivial⟩)), ?_, ?_⟩
            · try dsimp only
              refine ⟨by omega, ?_⟩
              rw [minTo, ← g2, if_neg (by unfold lower; rw [decide_eq_false g13_8, decide_eq_true g13_17, decide_eq_false hc13]; simp)]
            · try dsimp only
              omega
        · refine DRW.nO rfl rfl rfl eg13_17 ?_
          refine DRW.nO rfl rfl rfl eg13_17 ?_
          refine DRW.nO rfl rfl rfl eg13_17 ?_
          refine DRW.nO rfl rfl rfl eg13_17 ?_
          refine DRW.nO rfl rfl rfl eg13_17 ?_
          refine DRW.nO rfl rfl rfl eg13_17 ?_
          refine DRW.nO rfl rfl rfl eg13_17 ?_
          refine DRW.nO rfl rfl rfl eg13_17 ?_
          refine DRW.pG rfl rfl rfl eg13_8 (st_pickF rfl eg13_17 rfl) ?_
          refine DRW.p rfl (st_pickF rfl eg13_8 rfl) ?_
          refine DRW.nil (by kernel_rfl) ?_
          refine AWP.cond_f rfl (rfl) ?_
          refine AWP.skip ?_
          refine AWP.region ?_
          refine OPS.p rfl (st_move rfl) ?_
          refine OPS.p rfl (by exact st_add_i rfl rfl (by omega) (by omega)) ?_
          refine OPS.p rfl (st_assign rfl) ?_
          refine OPS.nil ?_
          refine ⟨(i + 1, f), (Ren.r (Ren.mk' (ρ := [(1, 1)]) rfl ⟨(by rfl), (by rfl), (by rfl), trivial⟩ ⟨(by rfl), trivial⟩)), ?_, ?_⟩
          · try dsimp only
            refine ⟨by omega, ?_⟩
            rw [minTo, ← g2, if_neg (by unfold lower; rw [decide_eq_false g13_8, decide_eq_false g13_17]; simp)]
          · try dsimp only
            omega
    · refine AWP.exit ?_
      refine AWP.seq ?_
      obtain rfl : i = o.length := by omega
      rw [← g2] at hfst
      refine AWP.region ?_
      refine OPS.p rfl (by exact st_load_va ag148 rfl rfl rfl rfl) ?_
      refine OPS.a rfl (st_buildS (L := [(0, (.tmp 99), _)]) ei66 rfl ⟨rfl, trivial⟩ rfl rfl) ?_
      refine OPS.p rfl (st_assign rfl) ?_
      refine OPS.nil ?_
      refine AWP.seq ?_
      refine AWP.block ?_
      have hs1 : [f] = s.take 1 := by
        rw [← hfst.1]
        cases s with
        | nil => simp at hs3
        | cons p r => rfl
      refine AWP.loopR (σ := Nat × List Pt) (fun (zz : Nat × List Pt) => ⟨[(5, pPs o), (8, .ptr 1 0), (10, .own 2 zz.2.length)], [(1, .var [pI f.1, pI f.2]), (2, .arr 148 2 zz.2.length (fR eP zz.2))], 3⟩) (fun (zz : Nat × List Pt) => zz.1 < s.length ∧ zz.2 = s.take (zz.1 + 1)) (fun (zz : Nat × List Pt) => s.length - zz.1) (0, [f]) (Sub.r (Sub.mk' ⟨(by rfl), (by rfl), (by rfl), trivial⟩ ⟨(by rfl), (by rfl), trivial⟩ (by exact Nat.le_refl _))) (by exact ⟨by omega, hs1⟩) ?_
      rintro ⟨k, w⟩ hinv
      have hinv : k < s.length ∧ w = s.take (k + 1) := hinv
      obtain ⟨w1, w2⟩ := hinv
      show AWP _ _ _ _ _ _ _ ⟨[(5, pPs o), (8, .ptr 1 0), (10, .own 2 w.length)], [(1, .var [pI f.1, pI f.2]), (2, .arr 148 2 w.length (fR eP w))], 3⟩
      have hwl : w.length = k + 1 := by rw [w2, List.length_take]; omega
      have hq : w.getD k default = s.getD k default := by
        rw [w2, List.getD_eq_getElem?_getD, List.getD_eq_getElem?_getD, List.getElem?_take_of_lt (by omega)]
      refine AWP.seq ?_
      refine AWP.seq ?_
      refine AWP.region ?_
      refine OPS.p rfl (st_move rfl) ?_
      refine OPS.p rfl (st_len un66 rfl rfl) ?_
      refine OPS.p rfl (st_move rfl) ?_
      refine OPS.p rfl (st_len un66 rfl rfl) ?_
      refine OPS.p rfl (st_leq rfl rfl) ?_
      refine OPS.nil ?_
      refine AWP.cond_t rfl ((decide_eq_true (by omega))) ?_
      refine AWP.skip ?_
      refine AWP.block ?_
      refine AWP.seq ?_
      refine AWP.region ?_
      refine OPS.p rfl (st_move rfl) ?_
      refine OPS.p rfl (st_move rfl) ?_
      refine OPS.p rfl (st_len un66 rfl rfl) ?_
      refine OPS.p rfl (st_sub' (v := (k : Int)) rfl rfl (by rw [w64 (by omega) (by omega)]; omega)) ?_
      refine OPS.p rfl (by exact st_index_a es66 rfl rfl rfl (by omega) (by omega)) ?_
      refine OPS.p rfl (st_load_oRn (i := k) ag148 rfl rfl (fun _ => rfl) rfl (by omega)) ?_
      refine OPS.a rfl (st_alloc ze148) ?_
      refine OPS.s (by exact st_store_v sz148 rfl rfl rfl rfl rfl rfl) ?_
      refine OPS.nil ?_
      refine AWP.seq ?_
      refine AWP.seq ?_
      refine AWP.region ?_
      refine OPS.p rfl (st_assign rfl) ?_
      refine OPS.nil ?_
      refine AWP.block ?_
      generalize w.getD k default = q at *
      have hqs : Sp q := by rw [hq]; exact hSo _ (hsm _ (getD_mem w1))
      have hqs' := hqs
      unfold Sp at hqs'
      have hfk := hfn k w1
      have hgk := hgn k w1
      rw [← hq] at hfk hgk
      refine AWP.loopR (σ := Nat) (fun (zz : Nat) => ⟨[(5, pPs o), (8, .ptr 1 0), (10, .own 2 w.length), (11, .ptr 3 0), (12, pI zz)], [(1, .var [pI f.1, pI f.2]), (2, .arr 148 2 w.length (fR eP w)), (3, .var [pI q.1, pI q.2])], 4⟩) (fun (zz : Nat) => zz ≤ o.length ∧ ∀ m, m < zz → goodI o q (o.getD m default) = false) (fun (zz : Nat) => o.length - zz) (0) (Sub.r (Sub.mk' ⟨(by rfl), (by rfl), (by rfl), (by rfl), (by rfl), trivial⟩ ⟨(by rfl), (by rfl), (by rfl), trivial⟩ (by exact Nat.le_refl _))) (by exact ⟨by omega, fun m hm => absurd hm (by omega)⟩) ?_
      rintro i hinv
      have hinv : i ≤ o.length ∧ ∀ m, m < i → goodI o q (o.getD m default) = false := hinv
      obtain ⟨i1, i2⟩ := hinv
      show AWP _ _ _ _ _ _ _ ⟨[(5, pPs o), (8, .ptr 1 0), (10, .own 2 w.length), (11, .ptr 3 0), (12, pI i)], [(1, .var [pI f.1, pI f.2]), (2, .arr 148 2 w.length (fR eP w)), (3, .var [pI q.1, pI q.2])], 4⟩
      refine AWP.seq ?_
      refine AWP.seq ?_
      refine AWP.region ?_
      refine OPS.p rfl (st_move rfl) ?_
      refine OPS.p rfl (st_move rfl) ?_
      refine OPS.p rfl (st_len un66 rfl rfl) ?_
      refine OPS.p rfl (st_lss rfl rfl) ?_
      refine OPS.nil ?_
      refine AWP.condD rfl (fun hc19 => ?_) (fun hc19 => ?_)
      · have hi : i < o.length := by omega
        have hp := hSo _ (getD_mem hi)
        have hp' := hp
        unfold Sp at hp'
        refine AWP.skip ?_
        refine AWP.seq ?_
        refine AWP.block ?_
        refine AWP.seq ?_
        refine AWP.drw mixed ?_
        refine DRW.p rfl (st_move rfl) ?_
        refine DRW.p rfl (st_move rfl) ?_
        refine DRW.p rfl (by exact st_index_R es66 rfl rfl (fun _ => rfl) rfl (by omega) (by omega) (by rfl)) ?_
        refine DRW.p rfl (by exact st_load_Rn ag148 rfl (fun _ => rfl) rfl (by omega)) ?_
        refine DRW.p rfl (by exact st_load_va ag148 rfl rfl rfl rfl) ?_
        refine DRW.p rfl (st_neq_P ns148 eg148 eq148 rfl rfl) ?_
        refine DRW.p rfl (st_assign rfl) ?_
        refine DRW.nil (by kernel_rfl) ?_
        refine AWP.seq ?_
        refine AWP.mono (n := fun s' => ∃ zz : Bool, SubR (loOf cx) s' ((fun (zz : Bool) => ⟨[(5, pPs o), (8, .ptr 1 0), (10, .own 2 w.length), (11, .ptr 3 0), (12, pI i), (13, pB zz)], [(1, .var [pI f.1, pI f.2]), (2, .arr 148 2 w.length (fR eP w)), (3, .var [pI q.1, pI q.2])], 4⟩) zz) ∧ (fun (zz : Bool) => zz = goodI o q (o.getD i default) ∧ True) zz) ?_ ?_
        · refine AWP.seq ?_
          refine AWP.region ?_
          refine OPS.p rfl (st_assign rfl) ?_
          refine OPS.nil ?_
          refine AWP.block ?_
          refine AWP.loopR (σ := Bool × Nat) (fun (zz : Bool × Nat) => ⟨[(5, pPs o), (8, .ptr 1 0), (10, .own 2 w.length), (11, .ptr 3 0), (12, pI i), (13, pB zz.1), (14, pI zz.2)], [(1, .var [pI f.1, pI f.2]), (2, .arr 148 2 w.length (fR eP w)), (3, .var [pI q.1, pI q.2])], 4⟩) (fun (zz : Bool × Nat) => zz.2 ≤ o.length ∧ zz.1 = (decide (o.getD i default ≠ q) && (o.take zz.2).all (okq q (o.getD i default)))) (fun (zz : Bool × Nat) => o.length - zz.2) (decide (o.getD i default ≠ q), 0) (Sub.r (Sub.mk' ⟨(by rfl), (by rfl), (by rfl), (by rfl), (by rfl), (by rfl), (by rfl), trivial⟩ ⟨(by rfl), (by rfl), (by rfl), trivial⟩ (by exact Nat.le_refl _))) (by exact ⟨by omega, by simp⟩) ?_
          rintro ⟨g, m⟩ hinv
          have hinv : m ≤ o.length ∧ g = (decide (o.getD i default ≠ q) && (o.take m).all (okq q (o.getD i default))) := hinv
          obtain ⟨n1, n2⟩ := hinv
          show AWP _ _ _ _ _ _ _ ⟨[(5, pPs o), (8, .ptr 1 0), (10, .own 2 w.length), (11, .ptr 3 0), (12, pI i), (13, pB g), (14, pI m)], [(1, .var [pI f.1, pI f.2]), (2, .arr 148 2 w.length (fR eP w)), (3, .var [pI q.1, pI q.2])], 4⟩
          refine AWP.seq ?_
          refine AWP.seq ?_
          refine AWP.region ?_
          refine OPS.p rfl (st_move rfl) ?_
          refine OPS.p rfl (st_move rfl) ?_
          refine OPS.p rfl (st_len un66 rfl rfl) ?_
          refine OPS.p rfl (st_lss rfl rfl) ?_
          refine OPS.p rfl (st_move rfl) ?_
          refine OPS.split (g := 128) rfl (fun eg23_4 g23_4 => ?_) (fun eg23_4 g23_4 => ?_)
          · refine OPS.pG rfl rfl rfl eg23_4 (st_move rfl) ?_
            refine OPS.p rfl (st_pickT rfl eg23_4 rfl) ?_
            refine OPS.nil ?_
            refine AWP.cond rfl (fun hc23 => ?_) (fun hc23 => ?_)
            · have hm : m < o.length := by omega
              have hx := hSo _ (getD_mem hm)
              have hx' := hx
              unfold Sp at hx'
              have nextg : ∀ v, okq q (o.getD i default) (o.getD m default) = v → v = (decide (o.getD i default ≠ q) && (o.take (m + 1)).all (okq q (o.getD i default))) := fun v hv => by
                rw [all_take _ hm, ← Bool.and_assoc, ← n2, hc23, Bool.true_and, hv]
              have m1 := mb (a := (o.getD m default).1 - q.1) (b := (o.getD m default).1 - q.1) (M := 200000) (by omega) (by omega)
              have m2 := mb (a := (o.getD m default).2 - q.2) (b := (o.getD m default).2 - q.2) (M := 200000) (by omega) (by omega)
              have m3 := mb (a := (o.getD i default).1 - q.1) (b := (o.getD i default).1 - q.1) (M := 200000) (by omega) (by omega)
              have m4 := mb (a := (o.getD i default).2 - q.2) (b := (o.getD i default).2 - q.2) (M := 200000) (by omega) (by omega)
              refine AWP.skip ?_
              refine AWP.seq ?_
              refine AWP.block ?_
              refine AWP.seq ?_
              refine AWP.drw mixed ?_
              refine DRW.p rfl (by exact st_load_va ag148 rfl rfl rfl rfl) ?_
              refine DRW.p rfl (st_move rfl) ?_
              refine DRW.p rfl (st_move rfl) ?_
              refine DRW.p rfl (by exact st_index_R es66 rfl rfl (fun _ => rfl) rfl (by omega) (by omega) (by rfl)) ?_
              refine DRW.p rfl (by exact st_load_Rn ag148 rfl (fun _ => rfl) rfl (by omega)) ?_
              refine DRW.p rfl (st_move rfl) ?_
              refine DRW.p rfl (st_move rfl) ?_
              refine DRW.p rfl (by exact st_index_R es66 rfl rfl (fun _ => rfl) rfl (by omega) (by omega) (by rfl)) ?_
              refine DRW.p rfl (by exact st_load_Rn ag148 rfl (fun _ => rfl) rfl (by omega)) ?_
              refine DRW.p rfl (st_call (L := [((.tmp 133), _), ((.tmp 137), _), ((.tmp 141), _)]) false pl258 ⟨rfl, rfl, rfl, trivial⟩ rfl (k_rLeft q (o.getD i default) (o.getD m default) hqs hp hx) rfl) ?_
              refine DRW.p rfl (st_assign rfl) ?_
              refine DRW.nil (by kernel_rfl) ?_
              refine AWP.seq ?_
              refine AWP.drw mixed ?_
              refine DRW.p rfl (st_move rfl) ?_
              refine DRW.p rfl (st_move rfl) ?_
              refine DRW.p rfl (by exact st_index_R es66 rfl rfl (fun _ => rfl) rfl (by omega) (by omega) (by rfl)) ?_
              refine DRW.p rfl (by exact st_field_f off148_0 rfl) ?_
              refine DRW.p rfl (by exact st_load_RFn sc3 rfl (fun _ => rfl) rfl (by omega) rfl) ?_
              refine DRW.p rfl (by exact st_field_p off148_0 rfl) ?_
              refine DRW.p rfl (by exact st_load_vs sc3 rfl rfl rfl) ?_
              refine DRW.p rfl (by exact st_sub_i rfl rfl (by omega) (by omega)) ?_
              refine DRW.p rfl (st_assign rfl) ?_
              refine DRW.nil (by kernel_rfl) ?_
              refine AWP.seq ?_
              refine AWP.drw mixed ?_
              refine DRW.p rfl (st_move rfl) ?_
              refine DRW.p rfl (st_move rfl) ?_
              refine DRW.p rfl (by exact st_index_R es66 rfl rfl (fun _ => rfl) rfl (by omega) (by omega) (by rfl)) ?_
              refine DRW.p rfl (by exact st_field_f off148_1 rfl) ?_
              refine DRW.p rfl (by exact st_load_RFn sc3 rfl (fun _ => rfl) rfl (by omega) rfl) ?_
              refine DRW.p rfl (by exact st_field_p off148_1 rfl) ?_
              refine DRW.p rfl (by exact st_load_vs sc3 rfl rfl rfl) ?_
              refine DRW.p rfl (by exact st_sub_i rfl rfl (by omega) (by omega)) ?_
              refine DRW.p rfl (st_assign rfl) ?_
              refine DRW.nil (by kernel_rfl) ?_
              refine AWP.seq ?_
              refine AWP.drw mixed ?_
              refine DRW.p rfl (st_move rfl) ?_
              refine DRW.p rfl (st_move rfl) ?_
              refine DRW.p rfl (by exact st_index_R es66 rfl rfl (fun _ => rfl) rfl (by omega) (by omega) (by rfl)) ?_
              refine DRW.p rfl (by exact st_field_f off148_0 rfl) ?_
              refine DRW.p rfl (by exact st_load_RFn sc3 rfl (fun _ => rfl) rfl (by omega) rfl) ?_
              refine DRW.p rfl (by exact st_field_p off148_0 rfl) ?_
              refine DRW.p rfl (by exact st_load_vs sc3 rfl rfl rfl) ?_
              refine DRW.p rfl (by exact st_sub_i rfl rfl (by omega) (by omega)) ?_
              refine DRW.p rfl (st_assign rfl) ?_
              refine DRW.nil (by kernel_rfl) ?_
              refine AWP.seq ?_
              refine AWP.drw mixed ?_
              refine DRW.p rfl (st_move rfl) ?_
              refine DRW.p rfl (st_move rfl) ?_
              refine DRW.p rfl (by exact st_index_R es66 rfl rfl (fun _ => rfl) rfl (by omega) (by omega) (by rfl)) ?_
              refine DRW.p rfl (by exact st_field_f off148_1 rfl) ?_
              refine DRW.p rfl (by exact st_load_RFn sc3 rfl (fun _ => rfl) rfl (by omega) rfl) ?_
              refine DRW.p rfl (by exact st_field_p off148_1 rfl) ?_
              refine DRW.p rfl (by exact st_load_vs sc3 rfl rfl rfl) ?_
              refine DRW.p rfl (by exact st_sub_i rfl rfl (by omega) (by omega)) ?_
              refine DRW.p rfl (st_assign rfl) ?_
              refine DRW.nil (by kernel_rfl) ?_
              refine AWP.region ?_
              refine OPS.p rfl (st_move rfl) ?_
              refine OPS.p rfl (st_gtr rfl rfl) ?_
              refine OPS.p rfl (st_move rfl) ?_
              refine OPS.split (g := 177) rfl (fun eg30_2 g30_2 => ?_) (fun eg30_2 g30_2 => ?_)
              · refine OPS.nO rfl rfl rfl eg30_2 ?_
                refine OPS.nO rfl rfl rfl eg30_2 ?_
                refine OPS.nO rfl rfl rfl eg30_2 ?_
                refine OPS.nT rfl rfl rfl ?_
                refine OPS.nT rfl rfl rfl ?_
                refine OPS.nT rfl rfl rfl ?_
                refine OPS.nT rfl rfl rfl ?_
                refine OPS.nT rfl rfl rfl ?_
                refine OPS.nT rfl rfl rfl ?_
                refine OPS.nT rfl rfl rfl ?_
                refine OPS.nT rfl rfl rfl ?_
                refine OPS.nT rfl rfl rfl ?_
                refine OPS.nT rfl rfl rfl ?_
                refine OPS.nT rfl rfl rfl ?_
                refine OPS.nT rfl rfl rfl ?_
                refine OPS.nT rfl rfl rfl ?_
                refine OPS.nT rfl rfl rfl ?_
                refine OPS.nT rfl rfl rfl ?_
                refine OPS.nO rfl rfl rfl eg30_2 ?_
                refine OPS.p rfl (st_pickT rfl eg30_2 rfl) ?_
                refine OPS.p rfl (st_assign rfl) ?_
                refine OPS.nil ?_
                refine AWP.region ?_
                refine OPS.p rfl (st_move rfl) ?_
                refine OPS.p rfl (by exact st_add_i rfl rfl (by omega) (by omega)) ?_
                refine OPS.p rfl (st_assign rfl) ?_
                refine OPS.nil ?_
                refine ⟨(true, m + 1), (Sub.r (Sub.mk' ⟨(by rfl), (by rfl), (by rfl), (by rfl), (by rfl), (by rfl), (by rfl), trivial⟩ ⟨(by rfl), (by rfl), (by rfl), trivial⟩ (by exact Nat.le_refl _))), ?_, ?_⟩
                · try dsimp only
                  exact ⟨by omega, nextg true (by unfold okq; rw [decide_eq_true g30_2]; rfl)⟩
                · try dsimp only
                  omega
              · refine OPS.pG rfl rfl rfl eg30_2 (st_move rfl) ?_
                refine OPS.pG rfl rfl rfl eg30_2 (st_eql rfl rfl) ?_
                refine OPS.pG rfl rfl rfl eg30_2 (st_move rfl) ?_
                refine OPS.split (g := 180) rfl (fun eg30_5 g30_5 => ?_) (fun eg30_5 g30_5 => ?_)
                · refine OPS.pG rfl rfl rfl eg30_5 (st_move rfl) ?_
                  refine OPS.pG rfl rfl rfl eg30_5 (st_move rfl) ?_
                  refine OPS.pG rfl rfl rfl eg30_5 (by exact st_mul_i rfl rfl (by omega) (by omega)) ?_
                  refine OPS.pG rfl rfl rfl eg30_5 (st_move rfl) ?_
                  refine OPS.pG rfl rfl rfl eg30_5 (st_move rfl) ?_
                  refine OPS.pG rfl rfl rfl eg30_5 (by exact st_mul_i rfl rfl (by omega) (by omega)) ?_
                  refine OPS.pG rfl rfl rfl eg30_5 (by exact st_add_i rfl rfl (by omega) (by omega)) ?_
                  refine OPS.pG rfl rfl rfl eg30_5 (st_move rfl) ?_
                  refine OPS.pG rfl rfl rfl eg30_5 (st_move rfl) ?_
                  refine OPS.pG rfl rfl rfl eg30_5 (by exact st_mul_i rfl rfl (by omega) (by omega)) ?_
                  refine OPS.pG rfl rfl rfl eg30_5 (st_move rfl) ?_
                  refine OPS.pG rfl rfl rfl eg30_5 (st_move rfl) ?_
                  refine OPS.pG rfl rfl rfl eg30_5 (by exact st_mul_i rfl rfl (by omega) (by omega)) ?_
                  refine OPS.pG rfl rfl rfl eg30_5 (by exact st_add_i rfl rfl (by omega) (by omega)) ?_
                  refine OPS.pG rfl rfl rfl eg30_5 (st_leq rfl rfl) ?_
                  refine OPS.pG rfl rfl rfl eg30_2 (st_pickT rfl eg30_5 rfl) ?_
                  refine OPS.p rfl (st_pickF rfl eg30_2 rfl) ?_
                  refine OPS.p rfl (st_assign rfl) ?_
                  refine OPS.nil ?_
                  refine AWP.region ?_
                  refine OPS.p rfl (st_move rfl) ?_
                  refine OPS.p rfl (by exact st_add_i rfl rfl (by omega) (by omega)) ?_
                  refine OPS.p rfl (st_assign rfl) ?_
                  refine OPS.nil ?_
                  refine ⟨(decide (((o.getD m default).1 - q.1) * ((o.getD m default).1 - q.1) + ((o.getD m default).2 - q.2) * ((o.getD m default).2 - q.2) ≤ ((o.getD i default).1 - q.1) * ((o.getD i default).1 - q.1) + ((o.getD i default).2 - q.2) * ((o.getD i default).2 - q.2)), m + 1), (Sub.r (Sub.mk' ⟨(by rfl), (by rfl), (by rfl), (by rfl), (by rfl), (by rfl), (by rfl), trivial⟩ ⟨(by rfl), (by rfl), (by rfl), trivial⟩ (by exact Nat.le_refl _))), ?_, ?_⟩
                  · try dsimp only
                    exact ⟨by omega, nextg _ (by unfold okq; rw [decide_eq_false g30_2, decide_eq_true g30_5, far_sq, far_sq]; rfl)⟩
                  · try dsimp only
                    omega
                · refine OPS.nO rfl rfl rfl eg30_5 ?_
                  refine OPS.nO rfl rfl rfl eg30_5 ?_
                  refine OPS.nO rfl rfl rfl eg30_5 ?_
                  refine OPS.nO rfl rfl rfl eg30_5 ?_
                  refine OPS.nO rfl rfl rfl eg30_5 ?_
                  refine OPS.nO rfl rfl rfl eg30_5 ?_
                  refine OPS.nO rfl rfl rfl eg30_5 ?_
                  refine OPS.nO rfl rfl rfl eg30_5 ?_
                  refine OPS.nO rfl rfl rfl eg30_5 ?_
                  refine OPS.nO rfl rfl rfl eg30_5 ?_
                  refine OPS.nO rfl rfl rfl eg30_5 ?_
                  refine OPS.nO rfl rfl rfl eg30_5 ?_
                  refine OPS.nO rfl rfl rfl eg30_5 ?_
                  refine OPS.nO rfl rfl rfl eg30_5 ?_
                  refine OPS.nO rfl rfl rfl eg30_5 ?_
                  refine OPS.pG rfl rfl rfl eg30_2 (st_pickF rfl eg30_5 rfl) ?_
                  refine OPS.p rfl (st_pickF rfl eg30_2 rfl) ?_
                  refine OPS.p rfl (st_assign rfl) ?_
                  refine OPS.nil ?_
                  refine AWP.region ?_
                  refine OPS.p rfl (st_move rfl) ?_
                  refine OPS.p rfl (by exact st_add_i rfl rfl (by omega) (by omega)) ?_
                  refine OPS.p rfl (st_assign rfl) ?_
                  refine OPS.nil ?_
                  refine ⟨(false, m + 1), (Sub.r (Sub.mk' ⟨(by rfl), (by rfl), (by rfl), (by rfl), (by rfl), (by rfl), (by rfl), trivial⟩ ⟨(by rfl), (by rfl), (by rfl), trivial⟩ (by exact Nat.le_refl _))), ?_, ?_⟩
                  · try dsimp only
                    exact ⟨by omega, nextg false (by unfold okq; rw [decide_eq_false g30_2, decide_eq_false g30_5]; rfl)⟩
                  · try dsimp only
                    omega
            · refine AWP.exit ?_
              refine ⟨(g), (Sub.r (Sub.mk' ⟨(by rfl), (by rfl), (by rfl), (by rfl), (by rfl), (by rfl), trivial⟩ ⟨(by rfl), (by rfl), (by rfl), trivial⟩ (by exact Nat.le_refl _))), ?_⟩
              try dsimp only
              refine ⟨?_, trivial⟩
              rw [goodI_ok, hc23]
              exact (all_take_false (by rw [← n2]; exact hc23)).symm
          · refine OPS.nO rfl rfl rfl eg23_4 ?_
            refine OPS.p rfl (st_pickF rfl eg23_4 rfl) ?_
            refine OPS.nil ?_
            refine AWP.cond_f rfl (rfl) ?_
            refine AWP.exit ?_
            refine ⟨(g), (Sub.r (Sub.mk' ⟨(by rfl), (by rfl), (by rfl), (by rfl), (by rfl), (by rfl), trivial⟩ ⟨(by rfl), (by rfl), (by rfl), trivial⟩ (by exact Nat.le_refl _))), ?_⟩
            try dsimp only
            refine ⟨?_, trivial⟩
            rw [goodI_ok, n2, List.take_of_length_le (by omega)]
        · rintro s' ⟨g, hsub, hinv⟩
          have hinv : g = goodI o q (o.getD i default) ∧ True := hinv
          obtain ⟨hg, _⟩ := id hinv
          refine AWP.subR hsub ?_
          show AWP _ _ _ _ _ _ _ ⟨[(5, pPs o), (8, .ptr 1 0), (10, .own 2 w.length), (11, .ptr 3 0), (12, pI i), (13, pB g)], [(1, .var [pI f.1, pI f.2]), (2, .arr 148 2 w.length (fR eP w)), (3, .var [pI q.1, pI q.2])], 4⟩
          refine AWP.seq ?_
          refine AWP.region ?_
          refine OPS.p rfl (st_move rfl) ?_
          refine OPS.nil ?_
          refine AWP.cond rfl (fun hc31 => ?_) (fun hc31 => ?_)
          · have hpn := hfk _ (getD_mem hi) (hg.symm.trans hc31)
            refine AWP.seq ?_
            refine AWP.region ?_
            refine OPS.p rfl (st_move rfl) ?_
            refine OPS.p rfl (st_move rfl) ?_
            refine OPS.p rfl (by exact st_index_R es66 rfl rfl (fun _ => rfl) rfl (by omega) (by omega) (by rfl)) ?_
            refine OPS.p rfl (by exact st_load_Rn ag148 rfl (fun _ => rfl) rfl (by omega)) ?_
            refine OPS.s (by exact st_store_v sz148 rfl rfl rfl rfl rfl rfl) ?_
            refine OPS.nil ?_
            refine AWP.exit ?_
            refine AWP.seq ?_
            refine AWP.seq ?_
            refine AWP.region ?_
            refine OPS.p rfl (by exact st_load_va ag148 rfl rfl rfl rfl) ?_
            refine OPS.p rfl (by exact st_load_va ag148 rfl rfl rfl rfl) ?_
            refine OPS.p rfl (st_eql_P ns148 eg148 eq148 rfl rfl) ?_
            refine OPS.nil ?_
            refine AWP.condD rfl (fun hc33 => ?_) (fun hc33 => ?_)
            · refine AWP.seq ?_
              have hkl : k + 1 = s.length := by
                apply Classical.byContradiction
                intro hc
                have := hfst.2 (k + 1) (by omega) (by omega)
                have hn : nxt s k = s.getD (k + 1) default := by unfold nxt; rw [if_pos (by omega)]
                rw [← hn, ← hpn] at this
                exact this hc33
              refine AWP.freeze 2 [10] rfl ⟨rfl, trivial⟩ ?_
              refine AWP.region ?_
              refine OPS.p rfl (st_move rfl) ?_
              refine OPS.p rfl (st_assign rfl) ?_
              refine OPS.nil ?_
              refine AWP.ret ?_
              exact Ret.mk rfl (by rw [w2, hkl, List.take_length])
            · have hkl : k + 1 < s.length := by
                apply Classical.byContradiction
                intro hc
                have hn : nxt s k = s.getD 0 default := by unfold nxt; rw [if_neg (by omega)]
                rw [hn, hfst.1] at hpn
                exact hc33 hpn
              refine AWP.skip ?_
              refine AWP.region ?_
              refine OPS.p rfl (st_move rfl) ?_
              refine OPS.p rfl (by exact st_load_va ag148 rfl rfl rfl rfl) ?_
              refine OPS.a rfl (Stp.frz (st_buildS (L := [(0, (.tmp 208), _)]) ei66 rfl ⟨rfl, trivial⟩ rfl rfl) rfl) ?_
              refine OPS.a rfl (st_append_R (v := [o.getD i default]) ei66 un66 rfl rfl rfl rfl (fun _ => rfl) rfl rfl (by simp only [List.length_singleton]; omega) (by simp only [List.length_singleton]; omega)) ?_
              refine OPS.p rfl (st_assign rfl) ?_
              refine OPS.nil ?_
              refine ⟨(k + 1, w ++ [o.getD i default]), (Ren.r (Ren.mk' (ρ := [(1, 1), (5, 2)]) rfl ⟨(by rfl), (by rfl), (by rfl), trivial⟩ ⟨(by rfl), (by rfl), trivial⟩)), ?_, ?_⟩
              · try dsimp only
                refine ⟨hkl, ?_⟩
                have hn : nxt s k = s.getD (k + 1) default := by unfold nxt; rw [if_pos hkl]
                rw [hpn, hn, w2, List.take_succ_eq_append_getElem hkl, List.getD_eq_getElem?_getD, List.getElem?_eq_getElem hkl]
                rfl
              · try dsimp only
                omega
          · refine AWP.skip ?_
            refine AWP.region ?_
            refine OPS.p rfl (st_move rfl) ?_
            refine OPS.p rfl (by exact st_add_i rfl rfl (by omega) (by omega)) ?_
            refine OPS.p rfl (st_assign rfl) ?_
            refine OPS.nil ?_
            refine ⟨(i + 1), (Sub.r (Sub.mk' ⟨(by rfl), (by rfl), (by rfl), (by rfl), (by rfl), trivial⟩ ⟨(by rfl), (by rfl), (by rfl), trivial⟩ (by exact Nat.le_refl _))), ?_, ?_⟩
            · try dsimp only
              refine ⟨by omega, fun m hm => ?_⟩
              by_cases hmi : m = i
              · rw [hmi, ← hg, hc31]
              · exact i2 m (by omega)
            · try dsimp only
              omega
      · exfalso
        obtain ⟨m, hm, he⟩ := List.getElem_of_mem (hnm k w1)
        have := i2 m (by omega)
        rw [List.getD_eq_getElem?_getD, List.getElem?_eq_getElem hm, Option.getD_some, he, hgk] at this
        cases this
end Go.Proofs.Gh.Tryz
end
section
set_option linter.unusedVariables false
set_option linter.unusedSimpArgs false
set_option maxRecDepth 4000
namespace Go.Proofs.Gh.Tryz
open Go Go.Proofs Go.Proofs.Gh

theorem q_div {a b : Rat} : a / b = Rat.divInt (a.num * b.den) (a.den * b.num) := by
  rw [Rat.div_def, Rat.inv_def]
  have h := Rat.divInt_mul_divInt a.num b.den (d₁ := a.den) (d₂ := b.num)
  rwa [Rat.num_divInt_den] at h
theorem k_rqDiv (a b : Rat) (h1 : Fit a.num.natAbs) (h2 : Fit b.num.natAbs) (h3 : Fit a.den) (h4 : Fit b.den) (h5 : Sml (a.num * b.den).natAbs) (h6 : Sml ((a.den : Int) * b.num).natAbs) : PureC Tryz.prog 130 [pQ a, pQ b] (pQ (a / b)) := by
  refine PureC.of Tryz.func130 rfl Tryz.ntmps130 (vs := [.cell 4 31]) rfl (Nat.le_of_ble_eq_true rfl) rfl fun cx _ _ => ?_
  refine AWP.seq ?_
  refine AWP.region ?_
  refine OPS.a rfl (st_box rfl rfl) ?_
  refine OPS.a rfl (st_box rfl rfl) ?_
  refine OPS.a rfl (st_alloc ze31) ?_
  refine OPS.nil ?_
  refine AWP.seq ?_
  refine AWP.drw mixed ?_
  refine DRW.p rfl (by exact st_field_p off31_0 rfl) ?_
  refine DRW.p rfl (by exact st_load_va ag29 rfl rfl rfl rfl) ?_
  refine DRW.p rfl (by exact st_load_va ag31 rfl rfl rfl rfl) ?_
  refine DRW.p rfl (st_call (L := [((.tmp 7), _)]) false pl134 ⟨rfl, trivial⟩ rfl (k_rDen b) rfl) ?_
  refine DRW.p rfl (st_call (L := [((.tmp 6), _), ((.tmp 8), _)]) false pl133 ⟨rfl, rfl, trivial⟩ rfl (k_rMul a.num b.den h1 h4) rfl) ?_
  refine DRW.p rfl (by exact st_load_va ag31 rfl rfl rfl rfl) ?_
  refine DRW.p rfl (st_call (L := [((.tmp 10), _)]) false pl134 ⟨rfl, trivial⟩ rfl (k_rDen a) rfl) ?_
  refine DRW.p rfl (by exact st_field_p off31_0 rfl) ?_
  refine DRW.p rfl (by exact st_load_va ag29 rfl rfl rfl rfl) ?_
  refine DRW.p rfl (st_call (L := [((.tmp 11), _), ((.tmp 13), _)]) false pl133 ⟨rfl, rfl, trivial⟩ rfl (k_rMul a.den b.num h3 h2) rfl) ?_
  refine DRW.p rfl (st_call (L := [((.tmp 9), _), ((.tmp 14), _)]) false pl137 ⟨rfl, rfl, trivial⟩ rfl (k_rMake (a.num * b.den) (a.den * b.num) h5 h6) rfl) ?_
  refine DRW.s (by exact st_store_v sz31 rfl rfl rfl rfl rfl rfl) ?_
  refine DRW.nil (by kernel_rfl) ?_
  refine AWP.ret ?_
  exact Ret.mk rfl (by rw [q_div]; rfl)
theorem b_rqDiv {a b : Rat} (N D M E : Nat) (ha : QB N D a) (hb : QB M E b) (h1 : Nat.ble (N * E) 999999999999999999 = true) (h2 : Nat.ble (D * M) 999999999999999999 = true) (h3 : Nat.ble N 999999999999999999 = true) (h4 : Nat.ble M 999999999999999999 = true) (h5 : Nat.ble D 999999999999999999 = true) (h6 : Nat.ble E 999999999999999999 = true) : PureC Tryz.prog 130 [pQ a, pQ b] (pQ (a / b)) :=
  k_rqDiv a b (ft ha.1 h3) (ft hb.1 h4) (ft ha.2 h5) (ft hb.2 h6) (sml (by rw [Int.natAbs_mul]; exact Nat.mul_le_mul ha.1 hb.2) h1) (sml (by rw [Int.natAbs_mul]; exact Nat.mul_le_mul ha.2 hb.1) h2)
theorem k_rRate (e : Ed) (v : Rat × Rat) (he : S5 e.1) (hv : QV 24 3 v) : PureC Tryz.prog 75 [pE e, pV v] (pQ (rateQ e.1 v)) := by
  have hq3 := qb5 (n := e.1.2.2) (by have := he.2.2.2.2; omega) he.2.2.2.2.2
  have hd := dotQ_qb he hv
  have hsd : Sd e.1 := by unfold Sd; unfold S5 at he; omega
  have hH : Sml e.1.2.2.natAbs := by unfold Sml; unfold S5 at he; omega
  refine PureC.of Tryz.func75 rfl Tryz.ntmps75 (vs := [.cell 4 31]) rfl (Nat.le_of_ble_eq_true rfl) rfl fun cx _ _ => ?_
  refine AWP.seq ?_
  refine AWP.region ?_
  refine OPS.a rfl (st_box rfl rfl) ?_
  refine OPS.a rfl (st_box rfl rfl) ?_
  refine OPS.a rfl (st_alloc ze31) ?_
  refine OPS.nil ?_
  refine AWP.seq ?_
  refine AWP.drw mixed ?_
  refine DRW.p rfl (by exact st_field_p off83_0 rfl) ?_
  refine DRW.p rfl (by exact st_load_va ag81 rfl rfl rfl rfl) ?_
  refine DRW.p rfl (by exact st_load_va ag72 rfl rfl rfl rfl) ?_
  refine DRW.p rfl (st_call (L := [((.tmp 6), _), ((.tmp 7), _)]) false pl191 ⟨rfl, rfl, trivial⟩ rfl (k_Dot e.1 v hsd (qb_mono hv.1 (by omega) (by omega)) (qb_mono hv.2 (by omega) (by omega))) rfl) ?_
  refine DRW.p rfl (by exact st_field_p off83_0 rfl) ?_
  refine DRW.p rfl (by exact st_field_p off81_2 rfl) ?_
  refine DRW.p rfl (by exact st_load_vs sc3 rfl rfl rfl) ?_
  refine DRW.p rfl (st_call (L := [((.tmp 11), _), ((.const (.int .i64 1)), _)]) false pl38 ⟨rfl, rfl, trivial⟩ rfl (k_rqOf e.1.2.2 1 hH (by unfold Sml; omega)) rfl) ?_
  refine DRW.p rfl (st_call (L := [((.tmp 8), _), ((.tmp 12), _)]) false pl130 ⟨rfl, rfl, trivial⟩ rfl (b_rqDiv (a := dotQ e.1 v) (b := qi e.1.2.2) _ _ 5 1 hd hq3 rfl rfl rfl rfl rfl rfl) rfl) ?_
  refine DRW.s (by exact st_store_v sz31 rfl rfl rfl rfl rfl rfl) ?_
  refine DRW.nil (by kernel_rfl) ?_
  refine AWP.ret ?_
  exact Ret.mk rfl rfl
def minusV (v w : Rat × Rat) : Rat × Rat := plusV v (timesV (qi (-1)) w)
theorem k_Minus (v w : Rat × Rat) (h1 : PureC Tryz.prog 66 [pQ (qi (-1)), pV w] (pV (timesV (qi (-1)) w))) (h2 : PureC Tryz.prog 65 [pV v, pV (timesV (qi (-1)) w)] (pV (minusV v w))) : PureC Tryz.prog 188 [pV v, pV w] (pV (minusV v w)) := by
  refine PureC.of Tryz.func188 rfl Tryz.ntmps188 (vs := [.cell 4 72]) rfl (Nat.le_of_ble_eq_true rfl) rfl fun cx _ _ => ?_
  refine AWP.seq ?_
  refine AWP.region ?_
  refine OPS.a rfl (st_box rfl rfl) ?_
  refine OPS.a rfl (st_box rfl rfl) ?_
  refine OPS.a rfl (st_alloc ze72) ?_
  refine OPS.nil ?_
  refine AWP.seq ?_
  refine AWP.drw mixed ?_
  refine DRW.p rfl (by exact st_load_va ag72 rfl rfl rfl rfl) ?_
  refine DRW.p rfl (st_call (L := [((.const (.int .i64 (-1))), _), ((.const (.int .i64 1)), _)]) false pl38 ⟨rfl, rfl, trivial⟩ rfl (k_rqOf (-1) 1 (by unfold Sml; decide) (by unfold Sml; omega)) rfl) ?_
  refine DRW.p rfl (by exact st_load_va ag72 rfl rfl rfl rfl) ?_
  refine DRW.p rfl (st_call (L := [((.tmp 6), _), ((.tmp 7), _)]) false pl66 ⟨rfl, rfl, trivial⟩ rfl (h1) rfl) ?_
  refine DRW.p rfl (st_call (L := [((.tmp 5), _), ((.tmp 8), _)]) false pl65 ⟨rfl, rfl, trivial⟩ rfl (h2) rfl) ?_
  refine DRW.s (by exact st_store_v sz72 rfl rfl rfl rfl rfl rfl) ?_
  refine DRW.nil (by kernel_rfl) ?_
  refine AWP.ret ?_
  exact Ret.mk rfl rfl
def ptV (p : Pt) : Rat × Rat := (qi p.1, qi p.2)
def betw (p q : Pt) (t : Nat) : Rat × Rat := plusV (ptV p) (timesV (Rat.divInt t 4) (minusV (ptV q) (ptV p)))
def touchV (s : List Pt) (n k : Int) : Rat × Rat := betw (s.getD (n.tmod s.length).natAbs default) (nxt s (n.tmod s.length).natAbs) (k.tmod 4).natAbs
theorem k_Touch (a b : List Pt) (n k : Int) (ha : Fam a) (hb : Fam b) (hn : -9223372036854775808 ≤ n ∧ n ≤ 9223372036854775807) (hk : -9223372036854775808 ≤ k ∧ k ≤ 9223372036854775807) : PureC Tryz.prog 73 [pPs a, pPs b, pI n, pI k] (pV (touchV (sumL a b) n k)) := by
  have hs := k_rSum a b ha hb
  have hs3 := (fam_pair ha hb).len
  have hsl := (sum_mem ha hb).1
  have hsb := sum_bd ha hb
  unfold touchV
  generalize sumL a b = s at *
  have hlt : (n.tmod s.length).natAbs < s.length := by
    have h := Int.natAbs_tmod n s.length
    rw [h, Int.natAbs_natCast]
    exact Nat.mod_lt _ (by omega)
  have h4 : (k.tmod 4).natAbs < 4 := by
    have h := Int.natAbs_tmod k 4
    rw [h]
    exact Nat.mod_lt _ (by decide)
  have hp := hsb _ (getD_mem hlt)
  have hq := hsb _ (nxt_mem hlt)
  generalize hN : n.tmod s.length = n' at *
  generalize hK : k.tmod 4 = k' at *
  have qp1 : QB 10100 1 (qi (s.getD n'.natAbs default).1) := qb_qi (by omega)
  have qp2 : QB 10100 1 (qi (s.getD n'.natAbs default).2) := qb_qi (by omega)
  have qq1 : QB 10100 1 (qi (nxt s n'.natAbs).1) := qb_qi (by omega)
  have qq2 : QB 10100 1 (qi (nxt s n'.natAbs).2) := qb_qi (by omega)
  have qm : QB 1 1 (qi (-1)) := qb_qi (by decide)
  have qt : QB 4 4 (Rat.divInt k'.natAbs 4) := qb_of (q := 4) (by omega) (by omega) (by omega)
  have t1 := k_Times (qi (-1)) (ptV (s.getD n'.natAbs default)) (b_rqMul _ _ _ _ qm qp1 rfl rfl rfl rfl rfl rfl) (b_rqMul _ _ _ _ qm qp2 rfl rfl rfl rfl rfl rfl)
  have t2 : PureC Tryz.prog 65 [pV (ptV (nxt s n'.natAbs)), pV (timesV (qi (-1)) (ptV (s.getD n'.natAbs default)))] (pV (minusV (ptV (nxt s n'.natAbs)) (ptV (s.getD n'.natAbs default)))) := k_Plus _ _ (b_rqAdd _ _ _ _ qq1 (qb_mul qm qp1) rfl rfl rfl rfl rfl rfl rfl rfl) (b_rqAdd _ _ _ _ qq2 (qb_mul qm qp2) rfl rfl rfl rfl rfl rfl rfl rfl)
  have m1 := qb_add qq1 (qb_mul qm qp1)
  have m2 := qb_add qq2 (qb_mul qm qp2)
  have t3 := k_Times (Rat.divInt k'.natAbs 4) (minusV (ptV (nxt s n'.natAbs)) (ptV (s.getD n'.natAbs default))) (b_rqMul _ _ _ _ qt m1 rfl rfl rfl rfl rfl rfl) (b_rqMul _ _ _ _ qt m2 rfl rfl rfl rfl rfl rfl)
  have t4 : PureC Tryz.prog 65 [pV (ptV (s.getD n'.natAbs default)), pV (timesV (Rat.divInt k'.natAbs 4) (minusV (ptV (nxt s n'.natAbs)) (ptV (s.getD n'.natAbs default))))] (pV (betw (s.getD n'.natAbs default) (nxt s n'.natAbs) k'.natAbs)) := k_Plus _ _ (b_rqAdd _ _ _ _ qp1 (qb_mul qt m1) rfl rfl rfl rfl rfl rfl rfl rfl) (b_rqAdd _ _ _ _ qp2 (qb_mul qt m2) rfl rfl rfl rfl rfl rfl rfl rfl)
  have hn1 : -(s.length : Int) < n' ∧ n' < s.length := by omega
  have hk1 : -4 < k' ∧ k' < 4 := by omega
  refine PureC.of Tryz.func73 rfl Tryz.ntmps73 (vs := [.cell 8 72]) rfl (Nat.le_of_ble_eq_true rfl) rfl fun cx _ _ => ?_
  refine AWP.seq ?_
  refine AWP.region ?_
  refine OPS.a rfl (st_alloc ze72) ?_
  refine OPS.nil ?_
  refine AWP.seq ?_
  refine AWP.region ?_
  refine OPS.p rfl (st_move rfl) ?_
  refine OPS.p rfl (st_move rfl) ?_
  refine OPS.p rfl (st_call (L := [((.tmp 15), _), ((.tmp 16), _)]) false pl186 ⟨rfl, rfl, trivial⟩ rfl (hs) rfl) ?_
  refine OPS.p rfl (st_assign rfl) ?_
  refine OPS.nil ?_
  refine AWP.seq ?_
  refine AWP.region ?_
  refine OPS.p rfl (st_assign rfl) ?_
  refine OPS.nil ?_
  refine AWP.seq ?_
  refine AWP.seq ?_
  refine AWP.region ?_
  refine OPS.p rfl (st_move rfl) ?_
  refine OPS.p rfl (st_len un66 rfl rfl) ?_
  refine OPS.p rfl (st_gtr rfl rfl) ?_
  refine OPS.nil ?_
  refine AWP.cond_t rfl ((decide_eq_true (by omega))) ?_
  refine AWP.seq ?_
  refine AWP.region ?_
  refine OPS.p rfl (st_move rfl) ?_
  refine OPS.p rfl (st_move rfl) ?_
  refine OPS.p rfl (st_len un66 rfl rfl) ?_
  refine OPS.p rfl (Stp.val (st_rem rfl rfl (by omega)) (congrArg (fun z => PV.cell (.int .i64 z)) hN)) ?_
  refine OPS.p rfl (st_assign rfl) ?_
  refine OPS.nil ?_
  refine AWP.seq ?_
  refine AWP.region ?_
  refine OPS.p rfl (st_move rfl) ?_
  refine OPS.p rfl (st_lss rfl rfl) ?_
  refine OPS.nil ?_
  refine AWP.mono (n := fun s' => ∃ zz : Int, SubR (loOf cx) s' ((fun (zz : Int) => ⟨[(3, pI k), (8, .ptr 0 0), (9, pPs s), (10, pI zz)], [(0, .var [pB false, .cell (.sl 0 []), pB false, .cell (.sl 0 []), pB false, .cell (.sl 0 []), pB false, .cell (.sl 0 [])])], 1⟩) zz) ∧ (fun (zz : Int) => zz = (n'.natAbs : Int) ∧ True) zz) ?_ ?_
  · refine AWP.condD rfl (fun hc5 => ?_) (fun hc5 => ?_)
    · refine AWP.region ?_
      refine OPS.p rfl (st_move rfl) ?_
      refine OPS.p rfl (by exact st_neg_i rfl (by omega) (by omega)) ?_
      refine OPS.p rfl (st_assign rfl) ?_
      refine OPS.nil ?_
      refine ⟨(-n'), (Sub.r (Sub.mk' ⟨(by rfl), (by rfl), (by rfl), (by rfl), trivial⟩ ⟨(by rfl), trivial⟩ (by exact Nat.le_refl _))), ?_⟩
      try dsimp only
      exact ⟨by omega, trivial⟩
    · refine AWP.skip ?_
      refine ⟨(n'), (Sub.r (Sub.mk' ⟨(by rfl), (by rfl), (by rfl), (by rfl), trivial⟩ ⟨(by rfl), trivial⟩ (by exact Nat.le_refl _))), ?_⟩
      try dsimp only
      exact ⟨by omega, trivial⟩
  · rintro s' ⟨j, hsub, hinv⟩
    have hinv : j = (n'.natAbs : Int) ∧ True := hinv
    obtain ⟨j1, _⟩ := id hinv
    refine AWP.subR hsub ?_
    show AWP _ _ _ _ _ _ _ ⟨[(3, pI k), (8, .ptr 0 0), (9, pPs s), (10, pI j)], [(0, .var [pB false, .cell (.sl 0 []), pB false, .cell (.sl 0 []), pB false, .cell (.sl 0 []), pB false, .cell (.sl 0 [])])], 1⟩
    subst j1
    refine AWP.seq ?_
    refine AWP.drw mixed ?_
    refine DRW.p rfl (st_move rfl) ?_
    refine DRW.p rfl (st_move rfl) ?_
    refine DRW.p rfl (by exact st_index_R es66 rfl rfl (fun _ => rfl) rfl (by omega) (by omega) (by rfl)) ?_
    refine DRW.p rfl (by exact st_field_f off148_0 rfl) ?_
    refine DRW.p rfl (by exact st_load_RFn sc3 rfl (fun _ => rfl) rfl (by omega) rfl) ?_
    refine DRW.p rfl (st_call (L := [((.tmp 33), _), ((.const (.int .i64 1)), _)]) false pl38 ⟨rfl, rfl, trivial⟩ rfl (k_rqOf _ 1 (by unfold Sml; omega) (by unfold Sml; omega)) rfl) ?_
    refine DRW.p rfl (st_move rfl) ?_
    refine DRW.p rfl (st_move rfl) ?_
    refine DRW.p rfl (by exact st_index_R es66 rfl rfl (fun _ => rfl) rfl (by omega) (by omega) (by rfl)) ?_
    refine DRW.p rfl (by exact st_field_f off148_1 rfl) ?_
    refine DRW.p rfl (by exact st_load_RFn sc3 rfl (fun _ => rfl) rfl (by omega) rfl) ?_
    refine DRW.p rfl (st_call (L := [((.tmp 39), _), ((.const (.int .i64 1)), _)]) false pl38 ⟨rfl, rfl, trivial⟩ rfl (k_rqOf _ 1 (by unfold Sml; omega) (by unfold Sml; omega)) rfl) ?_
    refine DRW.p rfl (st_build (L := [(0, (.tmp 34), _), (1, (.tmp 40), _)]) zf72 pl_72 ⟨rfl, rfl, trivial⟩ rfl rfl) ?_
    refine DRW.a rfl (st_alloc ze72) ?_
    refine DRW.s (by exact st_store_v sz72 rfl rfl rfl rfl rfl rfl) ?_
    refine DRW.nil (by kernel_rfl) ?_
    refine AWP.seq ?_
    refine AWP.region ?_
    refine OPS.p rfl (st_move rfl) ?_
    refine OPS.p rfl (st_move rfl) ?_
    refine OPS.p rfl (st_call (L := [((.tmp 42), _), ((.tmp 43), _)]) false pl187 ⟨rfl, rfl, trivial⟩ rfl (k_Next s n'.natAbs hlt (by omega)) rfl) ?_
    refine OPS.a rfl (st_alloc ze148) ?_
    refine OPS.s (by exact st_store_v sz148 rfl rfl rfl rfl rfl rfl) ?_
    refine OPS.nil ?_
    refine AWP.seq ?_
    refine AWP.drw mixed ?_
    refine DRW.p rfl (by exact st_field_p off148_0 rfl) ?_
    refine DRW.p rfl (by exact st_load_vs sc3 rfl rfl rfl) ?_
    refine DRW.p rfl (st_call (L := [((.tmp 46), _), ((.const (.int .i64 1)), _)]) false pl38 ⟨rfl, rfl, trivial⟩ rfl (k_rqOf _ 1 (by unfold Sml; omega) (by unfold Sml; omega)) rfl) ?_
    refine DRW.p rfl (by exact st_field_p off148_1 rfl) ?_
    refine DRW.p rfl (by exact st_load_vs sc3 rfl rfl rfl) ?_
    refine DRW.p rfl (st_call (L := [((.tmp 49), _), ((.const (.int .i64 1)), _)]) false pl38 ⟨rfl, rfl, trivial⟩ rfl (k_rqOf _ 1 (by unfold Sml; omega) (by unfold Sml; omega)) rfl) ?_
    refine DRW.p rfl (st_build (L := [(0, (.tmp 47), _), (1, (.tmp 50), _)]) zf72 pl_72 ⟨rfl, rfl, trivial⟩ rfl rfl) ?_
    refine DRW.a rfl (st_alloc ze72) ?_
    refine DRW.s (by exact st_store_v sz72 rfl rfl rfl rfl rfl rfl) ?_
    refine DRW.nil (by kernel_rfl) ?_
    refine AWP.seq ?_
    refine AWP.region ?_
    refine OPS.p rfl (st_move rfl) ?_
    refine OPS.p rfl (Stp.val (st_rem rfl rfl (by omega)) (congrArg (fun z => PV.cell (.int .i64 z)) hK)) ?_
    refine OPS.p rfl (st_assign rfl) ?_
    refine OPS.nil ?_
    refine AWP.seq ?_
    refine AWP.seq ?_
    refine AWP.region ?_
    refine OPS.p rfl (st_move rfl) ?_
    refine OPS.p rfl (st_lss rfl rfl) ?_
    refine OPS.nil ?_
    refine AWP.mono (n := fun s' => ∃ zz : Int, SubR (loOf cx) s' ((fun (zz : Int) => ⟨[(8, .ptr 0 0), (11, .ptr 1 0), (13, .ptr 3 0), (14, pI zz)], [(0, .var [pB false, .cell (.sl 0 []), pB false, .cell (.sl 0 []), pB false, .cell (.sl 0 []), pB false, .cell (.sl 0 [])]), (1, .var ((eV (ptV (s.getD n'.natAbs default))).map .cell)), (3, .var ((eV (ptV (nxt s n'.natAbs))).map .cell))], 4⟩) zz) ∧ (fun (zz : Int) => zz = (k'.natAbs : Int) ∧ True) zz) ?_ ?_
    · refine AWP.condD rfl (fun hc11 => ?_) (fun hc11 => ?_)
      · refine AWP.region ?_
        refine OPS.p rfl (st_move rfl) ?_
        refine OPS.p rfl (by exact st_neg_i rfl (by omega) (by omega)) ?_
        refine OPS.p rfl (st_assign rfl) ?_
        refine OPS.nil ?_
        refine ⟨(-k'), (Sub.r (Sub.mk' ⟨(by rfl), (by rfl), (by rfl), (by rfl), trivial⟩ ⟨(by rfl), (by rfl), (by rfl), trivial⟩ (by exact Nat.le_refl _))), ?_⟩
        try dsimp only
        exact ⟨by omega, trivial⟩
      · refine AWP.skip ?_
        refine ⟨(k'), (Sub.r (Sub.mk' ⟨(by rfl), (by rfl), (by rfl), (by rfl), trivial⟩ ⟨(by rfl), (by rfl), (by rfl), trivial⟩ (by exact Nat.le_refl _))), ?_⟩
        try dsimp only
        exact ⟨by omega, trivial⟩
    · rintro s' ⟨j, hsub, hinv⟩
      have hinv : j = (k'.natAbs : Int) ∧ True := hinv
      obtain ⟨j1, _⟩ := id hinv
      refine AWP.subR hsub ?_
      show AWP _ _ _ _ _ _ _ ⟨[(8, .ptr 0 0), (11, .ptr 1 0), (13, .ptr 3 0), (14, pI j)], [(0, .var [pB false, .cell (.sl 0 []), pB false, .cell (.sl 0 []), pB false, .cell (.sl 0 []), pB false, .cell (.sl 0 [])]), (1, .var ((eV (ptV (s.getD n'.natAbs default))).map .cell)), (3, .var ((eV (ptV (nxt s n'.natAbs))).map .cell))], 4⟩
      subst j1
      refine AWP.seq ?_
      refine AWP.drw mixed ?_
      refine DRW.p rfl (by exact st_load_va ag72 rfl rfl rfl rfl) ?_
      refine DRW.p rfl (st_move rfl) ?_
      refine DRW.p rfl (st_call (L := [((.tmp 59), _), ((.const (.int .i64 4)), _)]) false pl38 ⟨rfl, rfl, trivial⟩ rfl (k_rqOf (k'.natAbs : Int) 4 (by unfold Sml; omega) (by unfold Sml; omega)) rfl) ?_
      refine DRW.p rfl (by exact st_load_va ag72 rfl rfl rfl rfl) ?_
      refine DRW.p rfl (by exact st_load_va ag72 rfl rfl rfl rfl) ?_
      refine DRW.p rfl (st_call (L := [((.tmp 61), _), ((.tmp 62), _)]) false pl188 ⟨rfl, rfl, trivial⟩ rfl (k_Minus _ _ t1 t2) rfl) ?_
      refine DRW.p rfl (st_call (L := [((.tmp 60), _), ((.tmp 63), _)]) false pl66 ⟨rfl, rfl, trivial⟩ rfl (t3) rfl) ?_
      refine DRW.p rfl (st_call (L := [((.tmp 58), _), ((.tmp 64), _)]) false pl65 ⟨rfl, rfl, trivial⟩ rfl (t4) rfl) ?_
      refine DRW.s (by exact st_store_v sz72 rfl rfl rfl rfl rfl rfl) ?_
      refine DRW.nil (by kernel_rfl) ?_
      refine AWP.ret ?_
      exact Ret.mk rfl rfl
end Go.Proofs.Gh.Tryz
end
