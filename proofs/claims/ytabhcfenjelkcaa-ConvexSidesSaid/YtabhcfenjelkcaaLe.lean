/-
  The law ConvexSides: every call returns true.
-/
import Derived.Test.YtabhcfenjelkcaaCtE
section
set_option linter.unusedVariables false
set_option linter.unusedSimpArgs false
set_option maxRecDepth 4000
namespace Go.Proofs.Gh.Try
open Go Go.Proofs Go.Proofs.Gh

theorem l_ConvexSides (l m : List Int) (hl : ∀ n ∈ l, -9223372036854775808 ≤ n ∧ n ≤ 9223372036854775807) (hm : ∀ n ∈ m, -9223372036854775808 ≤ n ∧ n ≤ 9223372036854775807) : PureC Try.prog 7 [pL l, pL m] (pB true) := by
  have c1 := k_Shape l hl
  have c2 := k_Shape m hm
  have fa := shape_fam l
  have fb := shape_fam m
  generalize shape l = a at *
  generalize shape m = b at *
  have la := fam_len fa
  have lb := fam_len fb
  have sA := fam_Sp fa
  have sB := fam_Sp fb
  have hlen := sides_len fa fb
  have hdr : ∀ e ∈ sidesL a b, e.1 ∈ dirs12 := fun e he => side_dir fa fb he
  have s1 := k_Sides a b fa fb
  have s2 := k_rSides a b fa fb
  have a1 := k_Area a (by omega) sA
  have a2 := k_rArea a (by omega) sA
  rw [← areaR_eq (by omega)] at a2
  have x1 := k_Box b (by omega) (by omega)
  have x2 := k_rBox b (by omega) (by omega)
  generalize sidesL a b = s at *
  generalize areaFrom a a.length = A at *
  generalize boxLo b b.length = lo at *
  generalize boxHi b b.length = hi at *
  refine PureC.of Try.func7 rfl Try.ntmps7 (vs := [.tmp 4]) rfl (Nat.le_of_ble_eq_true rfl) rfl fun cx _ => ?_
  refine AWP.seq ?_
  refine AWP.region ?_
  refine OPS.p rfl (st_assign rfl) ?_
  refine OPS.nil ?_
  refine AWP.seq ?_
  refine AWP.region ?_
  refine OPS.p rfl (st_move rfl) ?_
  refine OPS.p rfl (st_call (L := [((.tmp 13), _)]) false pl8 ⟨rfl, trivial⟩ rfl (c1) rfl) ?_
  refine OPS.p rfl (st_assign rfl) ?_
  refine OPS.nil ?_
  refine AWP.seq ?_
  refine AWP.region ?_
  refine OPS.p rfl (st_move rfl) ?_
  refine OPS.p rfl (st_call (L := [((.tmp 15), _)]) false pl8 ⟨rfl, trivial⟩ rfl (c2) rfl) ?_
  refine OPS.p rfl (st_assign rfl) ?_
  refine OPS.nil ?_
  refine AWP.seq ?_
  refine AWP.region ?_
  refine OPS.p rfl (st_move rfl) ?_
  refine OPS.p rfl (st_move rfl) ?_
  refine OPS.p rfl (st_call (L := [((.tmp 17), _), ((.tmp 18), _)]) false pl9 ⟨rfl, rfl, trivial⟩ rfl (s1) rfl) ?_
  refine OPS.p rfl (st_assign rfl) ?_
  refine OPS.nil ?_
  refine AWP.seq ?_
  refine AWP.seq ?_
  refine AWP.region ?_
  refine OPS.p rfl (st_move rfl) ?_
  refine OPS.p rfl (st_move rfl) ?_
  refine OPS.p rfl (st_move rfl) ?_
  refine OPS.p rfl (st_call (L := [((.tmp 21), _), ((.tmp 22), _)]) false pl29 ⟨rfl, rfl, trivial⟩ rfl (s2) rfl) ?_
  refine OPS.p rfl (st_call (L := [((.tmp 20), _), ((.tmp 23), _)]) false pl28 ⟨rfl, rfl, trivial⟩ rfl (k_SameEdges s s (by omega) (by omega)) rfl) ?_
  refine OPS.p rfl (by exact st_not_d rfl) ?_
  refine OPS.p rfl (st_move rfl) ?_
  refine OPS.pG rfl rfl rfl ((decide_eq_false (by simp))) (st_move rfl) ?_
  refine OPS.pG rfl rfl rfl ((decide_eq_false (by simp))) (st_call (L := [((.tmp 27), _)]) false pl20 ⟨rfl, trivial⟩ rfl (a1) rfl) ?_
  refine OPS.pG rfl rfl rfl ((decide_eq_false (by simp))) (st_move rfl) ?_
  refine OPS.pG rfl rfl rfl ((decide_eq_false (by simp))) (st_call (L := [((.tmp 29), _)]) false pl30 ⟨rfl, trivial⟩ rfl (a2) rfl) ?_
  refine OPS.pG rfl rfl rfl ((decide_eq_false (by simp))) (st_neq rfl rfl) ?_
  refine OPS.p rfl (st_pickF rfl ((decide_eq_false (by simp))) rfl) ?_
  refine OPS.nil ?_
  refine AWP.cond_f rfl ((decide_eq_false (by simp))) ?_
  refine AWP.skip ?_
  refine AWP.seq ?_
  refine AWP.region ?_
  refine OPS.p rfl (st_move rfl) ?_
  refine OPS.p rfl (st_call (L := [((.tmp 34), _)]) false pl31 ⟨rfl, trivial⟩ rfl (x1) rfl) ?_
  refine OPS.p rfl (st_move rfl) ?_
  refine OPS.p rfl (st_extract rfl rfl) ?_
  refine OPS.p rfl (st_extract rfl rfl) ?_
  refine OPS.a rfl (st_alloc ze55) ?_
  refine OPS.a rfl (st_alloc ze55) ?_
  refine OPS.s (by exact st_store_v sz55 rfl rfl rfl rfl rfl rfl) ?_
  refine OPS.s (by exact st_store_v sz55 rfl rfl rfl rfl rfl rfl) ?_
  refine OPS.nil ?_
  refine AWP.seq ?_
  refine AWP.region ?_
  refine OPS.p rfl (st_move rfl) ?_
  refine OPS.p rfl (st_call (L := [((.tmp 39), _)]) false pl32 ⟨rfl, trivial⟩ rfl (x2) rfl) ?_
  refine OPS.p rfl (st_move rfl) ?_
  refine OPS.p rfl (st_extract rfl rfl) ?_
  refine OPS.p rfl (st_extract rfl rfl) ?_
  refine OPS.a rfl (st_alloc ze55) ?_
  refine OPS.a rfl (st_alloc ze55) ?_
  refine OPS.s (by exact st_store_v sz55 rfl rfl rfl rfl rfl rfl) ?_
  refine OPS.s (by exact st_store_v sz55 rfl rfl rfl rfl rfl rfl) ?_
  refine OPS.nil ?_
  refine AWP.seq ?_
  refine AWP.seq ?_
  refine AWP.region ?_
  refine OPS.p rfl (st_assign rfl) ?_
  refine OPS.nil ?_
  refine AWP.block ?_
  refine AWP.loopR (σ := Nat) (fun (zz : Nat) => ⟨[(5, pPs a), (6, pPs b), (7, pEs s), (8, .ptr 0 0), (9, .ptr 1 0), (10, .ptr 2 0), (11, .ptr 3 0), (12, pI zz)], [(0, .var [pI lo.1, pI lo.2]), (1, .var [pI hi.1, pI hi.2]), (2, .var [pI lo.1, pI lo.2]), (3, .var [pI hi.1, pI hi.2])], 4⟩) (fun (zz : Nat) => zz ≤ s.length) (fun (zz : Nat) => s.length - zz) (0) (Sub.r (Sub.mk' ⟨(by rfl), (by rfl), (by rfl), (by rfl), (by rfl), (by rfl), (by rfl), (by rfl), trivial⟩ ⟨(by rfl), (by rfl), (by rfl), (by rfl), trivial⟩ (by exact Nat.le_refl _))) (by exact Nat.zero_le _) ?_
  rintro i hinv
  have hinv : i ≤ s.length := hinv
  obtain h1 := hinv
  show AWP _ _ _ _ _ _ _ ⟨[(5, pPs a), (6, pPs b), (7, pEs s), (8, .ptr 0 0), (9, .ptr 1 0), (10, .ptr 2 0), (11, .ptr 3 0), (12, pI i)], [(0, .var [pI lo.1, pI lo.2]), (1, .var [pI hi.1, pI hi.2]), (2, .var [pI lo.1, pI lo.2]), (3, .var [pI hi.1, pI hi.2])], 4⟩
  refine AWP.seq ?_
  refine AWP.seq ?_
  refine AWP.region ?_
  refine OPS.p rfl (st_move rfl) ?_
  refine OPS.p rfl (st_move rfl) ?_
  refine OPS.p rfl (st_len un25 rfl rfl) ?_
  refine OPS.p rfl (st_lss rfl rfl) ?_
  refine OPS.nil ?_
  refine AWP.condD rfl (fun hc9 => ?_) (fun hc9 => ?_)
  · have hi' : i < s.length := by omega
    have hd := hdr _ (getD_mem hi')
    have hS := dir_Sd hd
    refine AWP.skip ?_
    refine AWP.seq ?_
    refine AWP.block ?_
    refine AWP.seq ?_
    refine AWP.drw mixed ?_
    refine DRW.p rfl (st_move rfl) ?_
    refine DRW.p rfl (st_move rfl) ?_
    refine DRW.p rfl (st_move rfl) ?_
    refine DRW.p rfl (by exact st_index_R es25 rfl rfl (fun _ => rfl) rfl (by omega) (by omega) (by rfl)) ?_
    refine DRW.p rfl (by exact st_field_f off40_0 rfl) ?_
    refine DRW.p rfl (by exact st_load_RAn ag38 rfl (fun _ => rfl) rfl (by omega) rfl rfl) ?_
    refine DRW.p rfl (st_call (L := [((.tmp 49), _), ((.tmp 54), _)]) false pl23 ⟨rfl, rfl, trivial⟩ rfl (k_Most a (s.getD i default).1 (by omega) (by omega) sA hS) rfl) ?_
    refine DRW.p rfl (st_move rfl) ?_
    refine DRW.p rfl (st_move rfl) ?_
    refine DRW.p rfl (st_move rfl) ?_
    refine DRW.p rfl (by exact st_index_R es25 rfl rfl (fun _ => rfl) rfl (by omega) (by omega) (by rfl)) ?_
    refine DRW.p rfl (by exact st_field_f off40_0 rfl) ?_
    refine DRW.p rfl (by exact st_load_RAn ag38 rfl (fun _ => rfl) rfl (by omega) rfl rfl) ?_
    refine DRW.p rfl (st_call (L := [((.tmp 56), _), ((.tmp 61), _)]) false pl33 ⟨rfl, rfl, trivial⟩ rfl (k_rMost a (s.getD i default).1 (by omega) (by omega) sA hS) rfl) ?_
    refine DRW.p rfl (st_neq rfl rfl) ?_
    refine DRW.p rfl (st_move rfl) ?_
    refine DRW.pG rfl rfl rfl ((decide_eq_false (by simp))) (st_move rfl) ?_
    refine DRW.pG rfl rfl rfl ((decide_eq_false (by simp))) (st_move rfl) ?_
    refine DRW.pG rfl rfl rfl ((decide_eq_false (by simp))) (st_move rfl) ?_
    refine DRW.pG rfl rfl rfl ((decide_eq_false (by simp))) (by exact st_index_R es25 rfl rfl (fun _ => rfl) rfl (by omega) (by omega) (by rfl)) ?_
    refine DRW.pG rfl rfl rfl ((decide_eq_false (by simp))) (by exact st_field_f off40_0 rfl) ?_
    refine DRW.pG rfl rfl rfl ((decide_eq_false (by simp))) (by exact st_load_RAn ag38 rfl (fun _ => rfl) rfl (by omega) rfl rfl) ?_
    refine DRW.pG rfl rfl rfl ((decide_eq_false (by simp))) (st_call (L := [((.tmp 65), _), ((.tmp 70), _)]) false pl23 ⟨rfl, rfl, trivial⟩ rfl (k_Most b (s.getD i default).1 (by omega) (by omega) sB hS) rfl) ?_
    refine DRW.pG rfl rfl rfl ((decide_eq_false (by simp))) (st_move rfl) ?_
    refine DRW.pG rfl rfl rfl ((decide_eq_false (by simp))) (st_move rfl) ?_
    refine DRW.pG rfl rfl rfl ((decide_eq_false (by simp))) (st_move rfl) ?_
    refine DRW.pG rfl rfl rfl ((decide_eq_false (by simp))) (by exact st_index_R es25 rfl rfl (fun _ => rfl) rfl (by omega) (by omega) (by rfl)) ?_
    refine DRW.pG rfl rfl rfl ((decide_eq_false (by simp))) (by exact st_field_f off40_0 rfl) ?_
    refine DRW.pG rfl rfl rfl ((decide_eq_false (by simp))) (by exact st_load_RAn ag38 rfl (fun _ => rfl) rfl (by omega) rfl rfl) ?_
    refine DRW.pG rfl rfl rfl ((decide_eq_false (by simp))) (st_call (L := [((.tmp 72), _), ((.tmp 77), _)]) false pl33 ⟨rfl, rfl, trivial⟩ rfl (k_rMost b (s.getD i default).1 (by omega) (by omega) sB hS) rfl) ?_
    refine DRW.pG rfl rfl rfl ((decide_eq_false (by simp))) (st_neq rfl rfl) ?_
    refine DRW.p rfl (st_pickF rfl ((decide_eq_false (by simp))) rfl) ?_
    refine DRW.nil (by kernel_rfl) ?_
    refine AWP.cond_f rfl ((decide_eq_false (by simp))) ?_
    refine AWP.skip ?_
    refine AWP.region ?_
    refine OPS.p rfl (st_move rfl) ?_
    refine OPS.p rfl (by exact st_add_i rfl rfl (by omega) (by omega)) ?_
    refine OPS.p rfl (st_assign rfl) ?_
    refine OPS.nil ?_
    refine ⟨(i + 1), (Sub.r (Sub.mk' ⟨(by rfl), (by rfl), (by rfl), (by rfl), (by rfl), (by rfl), (by rfl), (by rfl), trivial⟩ ⟨(by rfl), (by rfl), (by rfl), (by rfl), trivial⟩ (by exact Nat.le_refl _))), ?_, ?_⟩
    · try dsimp only
      omega
    · try dsimp only
      omega
  · refine AWP.exit ?_
    refine AWP.seq ?_
    refine AWP.region ?_
    refine OPS.p rfl (by exact st_load_va ag55 rfl rfl rfl rfl) ?_
    refine OPS.p rfl (by exact st_load_va ag55 rfl rfl rfl rfl) ?_
    refine OPS.p rfl (st_eql_P ns55 eg55 eq55 rfl rfl) ?_
    refine OPS.p rfl (st_move rfl) ?_
    refine OPS.pG rfl rfl rfl ((decide_eq_true rfl)) (by exact st_load_va ag55 rfl rfl rfl rfl) ?_
    refine OPS.pG rfl rfl rfl ((decide_eq_true rfl)) (by exact st_load_va ag55 rfl rfl rfl rfl) ?_
    refine OPS.pG rfl rfl rfl ((decide_eq_true rfl)) (st_eql_P ns55 eg55 eq55 rfl rfl) ?_
    refine OPS.p rfl (st_pickT rfl ((decide_eq_true rfl)) rfl) ?_
    refine OPS.p rfl (st_move rfl) ?_
    refine OPS.pG rfl rfl rfl ((decide_eq_true rfl)) (st_call (L := []) false pl17 trivial rfl (k_lives12) rfl) ?_
    refine OPS.p rfl (st_pickT rfl ((decide_eq_true rfl)) rfl) ?_
    refine OPS.p rfl (st_assign rfl) ?_
    refine OPS.nil ?_
    refine AWP.ret ?_
    exact Ret.mk rfl rfl
end Go.Proofs.Gh.Try
end
