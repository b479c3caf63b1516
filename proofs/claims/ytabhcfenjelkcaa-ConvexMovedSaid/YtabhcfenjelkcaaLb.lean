/-
  The law ConvexMoved: every call returns true.
-/
import Derived.Test.YtabhcfenjelkcaaCtD
import Derived.Test.YtabhcfenjelkcaaPlB
section
set_option linter.unusedVariables false
set_option linter.unusedSimpArgs false
set_option maxRecDepth 4000
namespace Go.Proofs.Gh.Try
open Go Go.Proofs Go.Proofs.Gh

theorem l_ConvexMoved (l m : List Int) (x y u v : Int) (hl : ∀ n ∈ l, -9223372036854775808 ≤ n ∧ n ≤ 9223372036854775807) (hm : ∀ n ∈ m, -9223372036854775808 ≤ n ∧ n ≤ 9223372036854775807) (hx : -9223372036854775808 ≤ x ∧ x ≤ 9223372036854775807) (hy : -9223372036854775808 ≤ y ∧ y ≤ 9223372036854775807) (hu : -9223372036854775808 ≤ u ∧ u ≤ 9223372036854775807) (hv : -9223372036854775808 ≤ v ∧ v ≤ 9223372036854775807) : PureC Try.prog 4 [pL l, pL m, pI x, pI y, pI u, pI v] (pB true) := by
  have c1 := k_Shape l hl
  have c2 := k_Shape m hm
  have d1 := k_Around x 2000 (by omega) hx.1 hx.2
  have d2 := k_Around y 2000 (by omega) hy.1 hy.2
  have d3 := k_Around u 2000 (by omega) hu.1 hu.2
  have d4 := k_Around v 2000 (by omega) hv.1 hv.2
  have r1 := around_lt x (m := 2000) (by omega)
  have r2 := around_lt y (m := 2000) (by omega)
  have r3 := around_lt u (m := 2000) (by omega)
  have r4 := around_lt v (m := 2000) (by omega)
  generalize around x 2000 = x' at *
  generalize around y 2000 = y' at *
  generalize around u 2000 = u' at *
  generalize around v 2000 = v' at *
  have fa := shape_fam l
  have fb := shape_fam m
  have fc := shape_moved l (x := x' - 1000) (y := y' - 1000) (by omega) (by omega)
  have fd := shape_moved m (x := u' - 1000) (y := v' - 1000) (by omega) (by omega)
  generalize shape l = a at *
  generalize shape m = b at *
  have la := fam_len fa
  have lb := fam_len fb
  have m1 := k_Move a (x' - 1000) (y' - 1000) (by omega) (fam_Sp fa) (by omega) (by omega)
  have m2 := k_Move b (u' - 1000) (v' - 1000) (by omega) (fam_Sp fb) (by omega) (by omega)
  have hlen := sides_len fa fb
  have hdr : ∀ e ∈ sidesL a b, e.1 ∈ dirs12 := fun e he => side_dir fa fb he
  have hat : ∀ e ∈ sidesL a b, -101000 ≤ e.2 ∧ e.2 ≤ 101000 := fun e he => atE_bd fa fb he
  have hmv := sidesL_map (x' - 1000) (y' - 1000) (u' - 1000) (v' - 1000) (a := a) (b := b) (by omega) (by omega)
  have har := areaFrom_map (x' - 1000) (y' - 1000) (l := a) (Nat.le_refl a.length)
  have e1 := k_Area a (by omega) (fam_Sp fa)
  have e2 := k_Area _ (by rw [List.length_map]; omega) (fam_Sp fc)
  rw [List.length_map, har] at e2
  have v1 := k_Valid _ _ (fam_good fc)
  have v2 := k_Valid _ _ (fam_good fd)
  have s1 := k_Sides a b fa fb
  have s2 := k_Sides _ _ fc fd
  rw [hmv] at s2
  generalize a.map (moved (x' - 1000) (y' - 1000)) = c at *
  generalize b.map (moved (u' - 1000) (v' - 1000)) = d at *
  generalize areaFrom a a.length = A at *
  generalize sidesL a b = old at *
  generalize hnow : (old.map fun e => (e.1, e.2 + (e.1.1 * (x' - 1000 - (u' - 1000)) + e.1.2.1 * (y' - 1000 - (v' - 1000))))) = now at *
  have hnl : now.length = old.length := by rw [← hnow, List.length_map]
  have hne : ∀ i, i < old.length → now.getD i default = ((old.getD i default).1, (old.getD i default).2 + ((old.getD i default).1.1 * (x' - 1000 - (u' - 1000)) + (old.getD i default).1.2.1 * (y' - 1000 - (v' - 1000)))) := fun i hi => by rw [← hnow, getD_map _ hi]
  clear hnow
  refine PureC.of Try.func4 rfl Try.ntmps4 (vs := [.tmp 12]) rfl (Nat.le_of_ble_eq_true rfl) rfl fun cx _ => ?_
  refine AWP.seq ?_
  refine AWP.region ?_
  refine OPS.p rfl (st_assign rfl) ?_
  refine OPS.nil ?_
  refine AWP.seq ?_
  refine AWP.region ?_
  refine OPS.p rfl (st_move rfl) ?_
  refine OPS.p rfl (st_call (L := [((.tmp 25), _)]) false pl8 ⟨rfl, trivial⟩ rfl (c1) rfl) ?_
  refine OPS.p rfl (st_assign rfl) ?_
  refine OPS.nil ?_
  refine AWP.seq ?_
  refine AWP.region ?_
  refine OPS.p rfl (st_move rfl) ?_
  refine OPS.p rfl (st_call (L := [((.tmp 27), _)]) false pl8 ⟨rfl, trivial⟩ rfl (c2) rfl) ?_
  refine OPS.p rfl (st_assign rfl) ?_
  refine OPS.nil ?_
  refine AWP.seq ?_
  refine AWP.region ?_
  refine OPS.p rfl (st_move rfl) ?_
  refine OPS.p rfl (st_call (L := [((.tmp 29), _), ((.const (.int .i64 2000)), _)]) false pl18 ⟨rfl, rfl, trivial⟩ rfl (d1) rfl) ?_
  refine OPS.p rfl (by exact st_sub_i rfl rfl (by omega) (by omega)) ?_
  refine OPS.p rfl (st_assign rfl) ?_
  refine OPS.nil ?_
  refine AWP.seq ?_
  refine AWP.region ?_
  refine OPS.p rfl (st_move rfl) ?_
  refine OPS.p rfl (st_call (L := [((.tmp 32), _), ((.const (.int .i64 2000)), _)]) false pl18 ⟨rfl, rfl, trivial⟩ rfl (d2) rfl) ?_
  refine OPS.p rfl (by exact st_sub_i rfl rfl (by omega) (by omega)) ?_
  refine OPS.p rfl (st_assign rfl) ?_
  refine OPS.nil ?_
  refine AWP.seq ?_
  refine AWP.region ?_
  refine OPS.p rfl (st_move rfl) ?_
  refine OPS.p rfl (st_call (L := [((.tmp 35), _), ((.const (.int .i64 2000)), _)]) false pl18 ⟨rfl, rfl, trivial⟩ rfl (d3) rfl) ?_
  refine OPS.p rfl (by exact st_sub_i rfl rfl (by omega) (by omega)) ?_
  refine OPS.p rfl (st_assign rfl) ?_
  refine OPS.nil ?_
  refine AWP.seq ?_
  refine AWP.region ?_
  refine OPS.p rfl (st_move rfl) ?_
  refine OPS.p rfl (st_call (L := [((.tmp 38), _), ((.const (.int .i64 2000)), _)]) false pl18 ⟨rfl, rfl, trivial⟩ rfl (d4) rfl) ?_
  refine OPS.p rfl (by exact st_sub_i rfl rfl (by omega) (by omega)) ?_
  refine OPS.p rfl (st_assign rfl) ?_
  refine OPS.nil ?_
  refine AWP.seq ?_
  refine AWP.region ?_
  refine OPS.p rfl (st_move rfl) ?_
  refine OPS.p rfl (st_move rfl) ?_
  refine OPS.p rfl (st_move rfl) ?_
  refine OPS.p rfl (st_call (L := [((.tmp 41), _), ((.tmp 42), _), ((.tmp 43), _)]) false pl19 ⟨rfl, rfl, rfl, trivial⟩ rfl (m1) rfl) ?_
  refine OPS.p rfl (st_assign rfl) ?_
  refine OPS.nil ?_
  refine AWP.seq ?_
  refine AWP.region ?_
  refine OPS.p rfl (st_move rfl) ?_
  refine OPS.p rfl (st_move rfl) ?_
  refine OPS.p rfl (st_move rfl) ?_
  refine OPS.p rfl (st_call (L := [((.tmp 45), _), ((.tmp 46), _), ((.tmp 47), _)]) false pl19 ⟨rfl, rfl, rfl, trivial⟩ rfl (m2) rfl) ?_
  refine OPS.p rfl (st_assign rfl) ?_
  refine OPS.nil ?_
  refine AWP.seq ?_
  refine AWP.region ?_
  refine OPS.p rfl (st_move rfl) ?_
  refine OPS.p rfl (st_move rfl) ?_
  refine OPS.p rfl (st_call (L := [((.tmp 49), _), ((.tmp 50), _)]) false pl9 ⟨rfl, rfl, trivial⟩ rfl (s1) rfl) ?_
  refine OPS.p rfl (st_assign rfl) ?_
  refine OPS.nil ?_
  refine AWP.seq ?_
  refine AWP.region ?_
  refine OPS.p rfl (st_move rfl) ?_
  refine OPS.p rfl (st_move rfl) ?_
  refine OPS.p rfl (st_call (L := [((.tmp 52), _), ((.tmp 53), _)]) false pl9 ⟨rfl, rfl, trivial⟩ rfl (s2) rfl) ?_
  refine OPS.p rfl (st_assign rfl) ?_
  refine OPS.nil ?_
  refine AWP.seq ?_
  refine AWP.seq ?_
  refine AWP.region ?_
  refine OPS.p rfl (st_move rfl) ?_
  refine OPS.p rfl (st_len un25 rfl rfl) ?_
  refine OPS.p rfl (st_lss rfl rfl) ?_
  refine OPS.p rfl (st_move rfl) ?_
  refine OPS.pG rfl rfl rfl ((decide_eq_false (by omega))) (st_move rfl) ?_
  refine OPS.pG rfl rfl rfl ((decide_eq_false (by omega))) (st_len un25 rfl rfl) ?_
  refine OPS.pG rfl rfl rfl ((decide_eq_false (by omega))) (st_move rfl) ?_
  refine OPS.pG rfl rfl rfl ((decide_eq_false (by omega))) (st_len un25 rfl rfl) ?_
  refine OPS.pG rfl rfl rfl ((decide_eq_false (by omega))) (st_neq rfl rfl) ?_
  refine OPS.p rfl (st_pickF rfl ((decide_eq_false (by omega))) rfl) ?_
  refine OPS.p rfl (st_move rfl) ?_
  refine OPS.pG rfl rfl rfl ((decide_eq_false (by omega))) (st_move rfl) ?_
  refine OPS.pG rfl rfl rfl ((decide_eq_false (by omega))) (st_call (L := [((.tmp 66), _)]) false pl20 ⟨rfl, trivial⟩ rfl (e1) rfl) ?_
  refine OPS.pG rfl rfl rfl ((decide_eq_false (by omega))) (st_move rfl) ?_
  refine OPS.pG rfl rfl rfl ((decide_eq_false (by omega))) (st_call (L := [((.tmp 68), _)]) false pl20 ⟨rfl, trivial⟩ rfl (e2) rfl) ?_
  refine OPS.pG rfl rfl rfl ((decide_eq_false (by omega))) (st_neq rfl rfl) ?_
  refine OPS.p rfl (st_pickF rfl ((decide_eq_false (by omega))) rfl) ?_
  refine OPS.p rfl (st_move rfl) ?_
  refine OPS.pG rfl rfl rfl ((decide_eq_false (by omega))) (st_move rfl) ?_
  refine OPS.pG rfl rfl rfl ((decide_eq_false (by omega))) (st_call (L := [((.tmp 73), _)]) false pl21 ⟨rfl, trivial⟩ rfl (v1) rfl) ?_
  refine OPS.pG rfl rfl rfl ((decide_eq_false (by omega))) (by exact st_not rfl) ?_
  refine OPS.p rfl (st_pickF rfl ((decide_eq_false (by omega))) rfl) ?_
  refine OPS.p rfl (st_move rfl) ?_
  refine OPS.pG rfl rfl rfl (rfl) (st_move rfl) ?_
  refine OPS.pG rfl rfl rfl (rfl) (st_call (L := [((.tmp 78), _)]) false pl21 ⟨rfl, trivial⟩ rfl (v2) rfl) ?_
  refine OPS.pG rfl rfl rfl (rfl) (by exact st_not rfl) ?_
  refine OPS.p rfl (st_pickF rfl (rfl) rfl) ?_
  refine OPS.nil ?_
  refine AWP.cond_f rfl (rfl) ?_
  refine AWP.skip ?_
  refine AWP.seq ?_
  refine AWP.seq ?_
  refine AWP.region ?_
  refine OPS.p rfl (st_assign rfl) ?_
  refine OPS.nil ?_
  refine AWP.block ?_
  refine AWP.loopR (σ := Nat) (fun (zz : Nat) => ⟨[(15, pI (x' - 1000)), (16, pI (y' - 1000)), (17, pI (u' - 1000)), (18, pI (v' - 1000)), (21, pEs old), (22, pEs now), (23, pI zz)], [], 0⟩) (fun (zz : Nat) => zz ≤ old.length) (fun (zz : Nat) => old.length - zz) (0) (Sub.r (Sub.mk' ⟨(by rfl), (by rfl), (by rfl), (by rfl), (by rfl), (by rfl), (by rfl), trivial⟩ trivial (by exact Nat.le_refl _))) (by exact Nat.zero_le _) ?_
  rintro i hinv
  have hinv : i ≤ old.length := hinv
  obtain h1 := hinv
  show AWP _ _ _ _ _ _ _ ⟨[(15, pI (x' - 1000)), (16, pI (y' - 1000)), (17, pI (u' - 1000)), (18, pI (v' - 1000)), (21, pEs old), (22, pEs now), (23, pI i)], [], 0⟩
  refine AWP.seq ?_
  refine AWP.seq ?_
  refine AWP.region ?_
  refine OPS.p rfl (st_move rfl) ?_
  refine OPS.p rfl (st_move rfl) ?_
  refine OPS.p rfl (st_len un25 rfl rfl) ?_
  refine OPS.p rfl (st_lss rfl rfl) ?_
  refine OPS.nil ?_
  refine AWP.condD rfl (fun hc14 => ?_) (fun hc14 => ?_)
  · have hi : i < old.length := by omega
    have hi' : i < now.length := by omega
    have he := dir_small (hdr _ (getD_mem hi))
    have ha := hat _ (getD_mem hi)
    have hn := hne i hi
    have p1 := mb5 (a := (old.getD i default).1.1) (b := x' - 1000 - (u' - 1000)) (M := 2000) (by omega) (by omega)
    have p2 := mb5 (a := (old.getD i default).1.2.1) (b := y' - 1000 - (v' - 1000)) (M := 2000) (by omega) (by omega)
    refine AWP.skip ?_
    refine AWP.seq ?_
    refine AWP.block ?_
    refine AWP.seq ?_
    refine AWP.region ?_
    refine OPS.p rfl (st_move rfl) ?_
    refine OPS.p rfl (st_move rfl) ?_
    refine OPS.p rfl (by exact st_index_R es25 rfl rfl (fun _ => rfl) rfl (by omega) (by omega) (by rfl)) ?_
    refine OPS.p rfl (by exact st_field_f off40_0 rfl) ?_
    refine OPS.p rfl (by exact st_load_RAn ag38 rfl (fun _ => rfl) rfl (by omega) rfl rfl) ?_
    refine OPS.a rfl (st_alloc ze38) ?_
    refine OPS.s (by exact st_store_v sz38 rfl rfl rfl rfl rfl rfl) ?_
    refine OPS.nil ?_
    refine AWP.seq ?_
    refine AWP.drw mixed ?_
    refine DRW.p rfl (st_move rfl) ?_
    refine DRW.p rfl (st_move rfl) ?_
    refine DRW.p rfl (by exact st_index_R es25 rfl rfl (fun _ => rfl) rfl (by omega) (by omega) (by rfl)) ?_
    refine DRW.p rfl (by exact st_field_f off40_0 rfl) ?_
    refine DRW.p rfl (by exact st_load_RAn ag38 rfl (fun _ => rfl) rfl (by omega) rfl rfl) ?_
    refine DRW.p rfl (by exact st_load_va ag38 rfl rfl rfl rfl) ?_
    refine DRW.p rfl (st_neq_D ns38 eg38 eq38 rfl rfl) ?_
    refine DRW.p rfl (st_move rfl) ?_
    refine DRW.pG rfl rfl rfl ((decide_eq_false (fun h => h (by rw [hn])))) (st_move rfl) ?_
    refine DRW.pG rfl rfl rfl ((decide_eq_false (fun h => h (by rw [hn])))) (st_move rfl) ?_
    refine DRW.pG rfl rfl rfl ((decide_eq_false (fun h => h (by rw [hn])))) (by exact st_index_R es25 rfl rfl (fun _ => rfl) rfl (by omega) (by omega) (by rfl)) ?_
    refine DRW.pG rfl rfl rfl ((decide_eq_false (fun h => h (by rw [hn])))) (by exact st_field_f off40_1 rfl) ?_
    refine DRW.pG rfl rfl rfl ((decide_eq_false (fun h => h (by rw [hn])))) (by exact st_load_RFn sc3 rfl (fun _ => rfl) rfl (by omega) rfl) ?_
    refine DRW.pG rfl rfl rfl ((decide_eq_false (fun h => h (by rw [hn])))) (st_move rfl) ?_
    refine DRW.pG rfl rfl rfl ((decide_eq_false (fun h => h (by rw [hn])))) (st_move rfl) ?_
    refine DRW.pG rfl rfl rfl ((decide_eq_false (fun h => h (by rw [hn])))) (by exact st_index_R es25 rfl rfl (fun _ => rfl) rfl (by omega) (by omega) (by rfl)) ?_
    refine DRW.pG rfl rfl rfl ((decide_eq_false (fun h => h (by rw [hn])))) (by exact st_field_f off40_1 rfl) ?_
    refine DRW.pG rfl rfl rfl ((decide_eq_false (fun h => h (by rw [hn])))) (by exact st_load_RFn sc3 rfl (fun _ => rfl) rfl (by omega) rfl) ?_
    refine DRW.pG rfl rfl rfl ((decide_eq_false (fun h => h (by rw [hn])))) (by exact st_field_p off38_0 rfl) ?_
    refine DRW.pG rfl rfl rfl ((decide_eq_false (fun h => h (by rw [hn])))) (by exact st_load_vs sc3 rfl rfl rfl) ?_
    refine DRW.pG rfl rfl rfl ((decide_eq_false (fun h => h (by rw [hn])))) (st_move rfl) ?_
    refine DRW.pG rfl rfl rfl ((decide_eq_false (fun h => h (by rw [hn])))) (st_move rfl) ?_
    refine DRW.pG rfl rfl rfl ((decide_eq_false (fun h => h (by rw [hn])))) (by exact st_sub_i rfl rfl (by omega) (by omega)) ?_
    refine DRW.pG rfl rfl rfl ((decide_eq_false (fun h => h (by rw [hn])))) (by exact st_mul_i rfl rfl (by omega) (by omega)) ?_
    refine DRW.pG rfl rfl rfl ((decide_eq_false (fun h => h (by rw [hn])))) (by exact st_add_i rfl rfl (by omega) (by omega)) ?_
    refine DRW.pG rfl rfl rfl ((decide_eq_false (fun h => h (by rw [hn])))) (by exact st_field_p off38_1 rfl) ?_
    refine DRW.pG rfl rfl rfl ((decide_eq_false (fun h => h (by rw [hn])))) (by exact st_load_vs sc3 rfl rfl rfl) ?_
    refine DRW.pG rfl rfl rfl ((decide_eq_false (fun h => h (by rw [hn])))) (st_move rfl) ?_
    refine DRW.pG rfl rfl rfl ((decide_eq_false (fun h => h (by rw [hn])))) (st_move rfl) ?_
    refine DRW.pG rfl rfl rfl ((decide_eq_false (fun h => h (by rw [hn])))) (by exact st_sub_i rfl rfl (by omega) (by omega)) ?_
    refine DRW.pG rfl rfl rfl ((decide_eq_false (fun h => h (by rw [hn])))) (by exact st_mul_i rfl rfl (by omega) (by omega)) ?_
    refine DRW.pG rfl rfl rfl ((decide_eq_false (fun h => h (by rw [hn])))) (by exact st_add_i rfl rfl (by omega) (by omega)) ?_
    refine DRW.pG rfl rfl rfl ((decide_eq_false (fun h => h (by rw [hn])))) (st_neq rfl rfl) ?_
    refine DRW.p rfl (st_pickF rfl ((decide_eq_false (fun h => h (by rw [hn])))) rfl) ?_
    refine DRW.nil (by kernel_rfl) ?_
    refine AWP.cond_f rfl ((decide_eq_false (fun h => h (by rw [hn]; simp only; omega)))) ?_
    refine AWP.skip ?_
    refine AWP.region ?_
    refine OPS.p rfl (st_move rfl) ?_
    refine OPS.p rfl (by exact st_add_i rfl rfl (by omega) (by omega)) ?_
    refine OPS.p rfl (st_assign rfl) ?_
    refine OPS.nil ?_
    refine ⟨(i + 1), (Ren.r (Ren.mk' (ρ := []) rfl ⟨(by rfl), (by rfl), (by rfl), (by rfl), (by rfl), (by rfl), (by rfl), trivial⟩ trivial)), ?_, ?_⟩
    · try dsimp only
      omega
    · try dsimp only
      omega
  · refine AWP.exit ?_
    refine AWP.seq ?_
    refine AWP.region ?_
    refine OPS.p rfl (st_call (L := []) false pl17 trivial rfl (k_lives12) rfl) ?_
    refine OPS.p rfl (st_assign rfl) ?_
    refine OPS.nil ?_
    refine AWP.ret ?_
    exact Ret.mk rfl rfl
end Go.Proofs.Gh.Try
end
