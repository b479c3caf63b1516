/-
  The law ConvexTurned: every call returns true.
-/
import Derived.Test.YtabhcfenjelkcaaCtD
import Derived.Test.YtabhcfenjelkcaaPlB
section
set_option linter.unusedVariables false
set_option linter.unusedSimpArgs false
set_option maxRecDepth 4000
namespace Go.Proofs.Gh.Try
open Go Go.Proofs Go.Proofs.Gh

theorem l_ConvexTurned (l m : List Int) (hl : ∀ n ∈ l, -9223372036854775808 ≤ n ∧ n ≤ 9223372036854775807) (hm : ∀ n ∈ m, -9223372036854775808 ≤ n ∧ n ≤ 9223372036854775807) : PureC Try.prog 5 [pL l, pL m] (pB true) := by
  have c1 := k_Shape l hl
  have c2 := k_Shape m hm
  have fa := shape_fam l
  have fb := shape_fam m
  generalize shape l = a at *
  generalize shape m = b at *
  have hlen := sides_len fa fb
  have hfd : ∀ e ∈ sidesL a b, ((sidesL b a).any fun f => decide (f = (turn e.1, e.2))) = true := fun e he => found he
  have hdr : ∀ e ∈ sidesL a b, e.1 ∈ dirs12 := fun e he => side_dir fa fb he
  have c3 := k_Sides a b fa fb
  have c4 := k_Sides b a fb fa
  generalize sidesL a b = x at *
  generalize sidesL b a = y at *
  refine PureC.of Try.func5 rfl Try.ntmps5 (vs := [.tmp 4]) rfl (Nat.le_of_ble_eq_true rfl) rfl fun cx _ => ?_
  refine AWP.seq ?_
  refine AWP.region ?_
  refine OPS.p rfl (st_assign rfl) ?_
  refine OPS.nil ?_
  refine AWP.seq ?_
  refine AWP.region ?_
  refine OPS.p rfl (st_move rfl) ?_
  refine OPS.p rfl (st_call (L := [((.tmp 12), _)]) false pl8 ⟨rfl, trivial⟩ rfl (c1) rfl) ?_
  refine OPS.p rfl (st_assign rfl) ?_
  refine OPS.nil ?_
  refine AWP.seq ?_
  refine AWP.region ?_
  refine OPS.p rfl (st_move rfl) ?_
  refine OPS.p rfl (st_call (L := [((.tmp 14), _)]) false pl8 ⟨rfl, trivial⟩ rfl (c2) rfl) ?_
  refine OPS.p rfl (st_assign rfl) ?_
  refine OPS.nil ?_
  refine AWP.seq ?_
  refine AWP.region ?_
  refine OPS.p rfl (st_move rfl) ?_
  refine OPS.p rfl (st_move rfl) ?_
  refine OPS.p rfl (st_call (L := [((.tmp 16), _), ((.tmp 17), _)]) false pl9 ⟨rfl, rfl, trivial⟩ rfl (c3) rfl) ?_
  refine OPS.p rfl (st_assign rfl) ?_
  refine OPS.nil ?_
  refine AWP.seq ?_
  refine AWP.region ?_
  refine OPS.p rfl (st_move rfl) ?_
  refine OPS.p rfl (st_move rfl) ?_
  refine OPS.p rfl (st_call (L := [((.tmp 19), _), ((.tmp 20), _)]) false pl9 ⟨rfl, rfl, trivial⟩ rfl (c4) rfl) ?_
  refine OPS.p rfl (st_assign rfl) ?_
  refine OPS.nil ?_
  refine AWP.seq ?_
  refine AWP.seq ?_
  refine AWP.region ?_
  refine OPS.p rfl (st_move rfl) ?_
  refine OPS.p rfl (st_len un25 rfl rfl) ?_
  refine OPS.p rfl (st_move rfl) ?_
  refine OPS.p rfl (st_len un25 rfl rfl) ?_
  refine OPS.p rfl (st_neq rfl rfl) ?_
  refine OPS.p rfl (st_move rfl) ?_
  refine OPS.pG rfl rfl rfl ((decide_eq_false (by omega))) (st_move rfl) ?_
  refine OPS.pG rfl rfl rfl ((decide_eq_false (by omega))) (st_len un25 rfl rfl) ?_
  refine OPS.pG rfl rfl rfl ((decide_eq_false (by omega))) (st_lss rfl rfl) ?_
  refine OPS.p rfl (st_pickF rfl ((decide_eq_false (by omega))) rfl) ?_
  refine OPS.nil ?_
  refine AWP.cond_f rfl ((decide_eq_false (by omega))) ?_
  refine AWP.skip ?_
  refine AWP.seq ?_
  refine AWP.seq ?_
  refine AWP.region ?_
  refine OPS.p rfl (st_assign rfl) ?_
  refine OPS.nil ?_
  refine AWP.block ?_
  refine AWP.loopR (σ := Nat) (fun (zz : Nat) => ⟨[(7, pEs x), (8, pEs y), (9, pI zz)], [], 0⟩) (fun (zz : Nat) => zz ≤ x.length) (fun (zz : Nat) => x.length - zz) (0) (Sub.r (Sub.mk' ⟨(by rfl), (by rfl), (by rfl), trivial⟩ trivial (by exact Nat.le_refl _))) (by exact Nat.zero_le _) ?_
  rintro i hinv
  have hinv : i ≤ x.length := hinv
  obtain h1 := hinv
  show AWP _ _ _ _ _ _ _ ⟨[(7, pEs x), (8, pEs y), (9, pI i)], [], 0⟩
  refine AWP.seq ?_
  refine AWP.seq ?_
  refine AWP.region ?_
  refine OPS.p rfl (st_move rfl) ?_
  refine OPS.p rfl (st_move rfl) ?_
  refine OPS.p rfl (st_len un25 rfl rfl) ?_
  refine OPS.p rfl (st_lss rfl rfl) ?_
  refine OPS.nil ?_
  refine AWP.condD rfl (fun hc8 => ?_) (fun hc8 => ?_)
  · have hi : i < x.length := by omega
    have he := hfd _ (getD_mem hi)
    have hd := dir_small (hdr _ (getD_mem hi))
    refine AWP.skip ?_
    refine AWP.seq ?_
    refine AWP.block ?_
    refine AWP.seq ?_
    refine AWP.region ?_
    refine OPS.p rfl (st_assign rfl) ?_
    refine OPS.nil ?_
    refine AWP.seq ?_
    refine AWP.seq ?_
    refine AWP.region ?_
    refine OPS.p rfl (st_assign rfl) ?_
    refine OPS.nil ?_
    refine AWP.block ?_
    refine AWP.loopR (σ := Nat × Bool) (fun (zz : Nat × Bool) => ⟨[(7, pEs x), (8, pEs y), (9, pI i), (10, pB zz.2), (11, pI zz.1)], [], 0⟩) (fun (zz : Nat × Bool) => zz.1 ≤ y.length ∧ zz.2 = (y.take zz.1).any fun f => decide (f = (turn (x.getD i default).1, (x.getD i default).2))) (fun (zz : Nat × Bool) => y.length - zz.1) (0, false) (Sub.r (Sub.mk' ⟨(by rfl), (by rfl), (by rfl), (by rfl), (by rfl), trivial⟩ trivial (by exact Nat.le_refl _))) (by exact ⟨Nat.zero_le _, rfl⟩) ?_
    rintro ⟨k, w⟩ hinv
    have hinv : k ≤ y.length ∧ w = (y.take k).any fun f => decide (f = (turn (x.getD i default).1, (x.getD i default).2)) := hinv
    obtain ⟨k1, k2⟩ := hinv
    show AWP _ _ _ _ _ _ _ ⟨[(7, pEs x), (8, pEs y), (9, pI i), (10, pB w), (11, pI k)], [], 0⟩
    refine AWP.seq ?_
    refine AWP.seq ?_
    refine AWP.region ?_
    refine OPS.p rfl (st_move rfl) ?_
    refine OPS.p rfl (st_move rfl) ?_
    refine OPS.p rfl (st_len un25 rfl rfl) ?_
    refine OPS.p rfl (st_lss rfl rfl) ?_
    refine OPS.nil ?_
    refine AWP.condD rfl (fun hc12 => ?_) (fun hc12 => ?_)
    · have hk : k < y.length := by omega
      have hs := any_take (fun f => decide (f = (turn (x.getD i default).1, (x.getD i default).2))) hk
      refine AWP.skip ?_
      refine AWP.seq ?_
      refine AWP.block ?_
      refine AWP.drw mixed ?_
      refine DRW.p rfl (st_move rfl) ?_
      refine DRW.p rfl (st_move rfl) ?_
      refine DRW.splitB (g := 45) rfl (fun eg14_1 g14_1 => ?_) (fun eg14_1 g14_1 => ?_)
      · refine DRW.nO rfl rfl rfl eg14_1 ?_
        refine DRW.nO rfl rfl rfl eg14_1 ?_
        refine DRW.nO rfl rfl rfl eg14_1 ?_
        refine DRW.nO rfl rfl rfl eg14_1 ?_
        refine DRW.nO rfl rfl rfl eg14_1 ?_
        refine DRW.nO rfl rfl rfl eg14_1 ?_
        refine DRW.nO rfl rfl rfl eg14_1 ?_
        refine DRW.nO rfl rfl rfl eg14_1 ?_
        refine DRW.nO rfl rfl rfl eg14_1 ?_
        refine DRW.nO rfl rfl rfl eg14_1 ?_
        refine DRW.nO rfl rfl rfl eg14_1 ?_
        refine DRW.nO rfl rfl rfl eg14_1 ?_
        refine DRW.nO rfl rfl rfl eg14_1 ?_
        refine DRW.nO rfl rfl rfl eg14_1 ?_
        refine DRW.nO rfl rfl rfl eg14_1 ?_
        refine DRW.nO rfl rfl rfl eg14_1 ?_
        refine DRW.nO rfl rfl rfl eg14_1 ?_
        refine DRW.p rfl (st_pickT rfl eg14_1 rfl) ?_
        refine DRW.p rfl (st_assign rfl) ?_
        refine DRW.nil (by kernel_rfl) ?_
        refine AWP.region ?_
        refine OPS.p rfl (st_move rfl) ?_
        refine OPS.p rfl (by exact st_add_i rfl rfl (by omega) (by omega)) ?_
        refine OPS.p rfl (st_assign rfl) ?_
        refine OPS.nil ?_
        refine ⟨(k + 1, true), (Sub.r (Sub.mk' ⟨(by rfl), (by rfl), (by rfl), (by rfl), (by rfl), trivial⟩ trivial (by exact Nat.le_refl _))), ?_, ?_⟩
        · try dsimp only
          refine ⟨by omega, ?_⟩
          rw [hs, ← k2, eg14_1]
          rfl
        · try dsimp only
          omega
      · refine DRW.pG rfl rfl rfl eg14_1 (st_move rfl) ?_
        refine DRW.pG rfl rfl rfl eg14_1 (st_move rfl) ?_
        refine DRW.pG rfl rfl rfl eg14_1 (by exact st_index_R es25 rfl rfl (fun _ => rfl) rfl (by omega) (by omega) (by rfl)) ?_
        refine DRW.pG rfl rfl rfl eg14_1 (by exact st_load_Rn ag40 rfl (fun _ => rfl) rfl (by omega)) ?_
        refine DRW.pG rfl rfl rfl eg14_1 (st_move rfl) ?_
        refine DRW.pG rfl rfl rfl eg14_1 (st_move rfl) ?_
        refine DRW.pG rfl rfl rfl eg14_1 (by exact st_index_R es25 rfl rfl (fun _ => rfl) rfl (by omega) (by omega) (by rfl)) ?_
        refine DRW.pG rfl rfl rfl eg14_1 (by exact st_field_f off40_0 rfl) ?_
        refine DRW.pG rfl rfl rfl eg14_1 (by exact st_load_RAn ag38 rfl (fun _ => rfl) rfl (by omega) rfl rfl) ?_
        refine DRW.pG rfl rfl rfl eg14_1 (st_call (L := [((.tmp 54), _)]) false pl22 ⟨rfl, trivial⟩ rfl (k_Turn (x.getD i default).1 (by omega) (by omega)) rfl) ?_
        refine DRW.pG rfl rfl rfl eg14_1 (st_move rfl) ?_
        refine DRW.pG rfl rfl rfl eg14_1 (st_move rfl) ?_
        refine DRW.pG rfl rfl rfl eg14_1 (by exact st_index_R es25 rfl rfl (fun _ => rfl) rfl (by omega) (by omega) (by rfl)) ?_
        refine DRW.pG rfl rfl rfl eg14_1 (by exact st_field_f off40_1 rfl) ?_
        refine DRW.pG rfl rfl rfl eg14_1 (by exact st_load_RFn sc3 rfl (fun _ => rfl) rfl (by omega) rfl) ?_
        refine DRW.pG rfl rfl rfl eg14_1 (st_build (L := [(0, (.tmp 55), _), (1, (.tmp 60), _)]) zf40 pl_40 ⟨rfl, rfl, trivial⟩ rfl rfl) ?_
        refine DRW.pG rfl rfl rfl eg14_1 (st_eql_E ns40 eg40 eq40 rfl rfl) ?_
        refine DRW.p rfl (st_pickF rfl eg14_1 rfl) ?_
        refine DRW.p rfl (st_assign rfl) ?_
        refine DRW.nil (by kernel_rfl) ?_
        refine AWP.region ?_
        refine OPS.p rfl (st_move rfl) ?_
        refine OPS.p rfl (by exact st_add_i rfl rfl (by omega) (by omega)) ?_
        refine OPS.p rfl (st_assign rfl) ?_
        refine OPS.nil ?_
        refine ⟨(k + 1, decide (y.getD k default = (turn (x.getD i default).1, (x.getD i default).2))), (Sub.r (Sub.mk' ⟨(by rfl), (by rfl), (by rfl), (by rfl), (by rfl), trivial⟩ trivial (by exact Nat.le_refl _))), ?_, ?_⟩
        · try dsimp only
          refine ⟨by omega, ?_⟩
          rw [hs, ← k2, eg14_1]
          rfl
        · try dsimp only
          omega
    · have hk : k = y.length := by omega
      rw [hk, List.take_length, he] at k2
      refine AWP.exit ?_
      refine AWP.seq ?_
      refine AWP.region ?_
      refine OPS.p rfl (st_move rfl) ?_
      refine OPS.p rfl (by exact st_not rfl) ?_
      refine OPS.nil ?_
      refine AWP.cond_f rfl ((by rw [k2]; rfl)) ?_
      refine AWP.skip ?_
      refine AWP.region ?_
      refine OPS.p rfl (st_move rfl) ?_
      refine OPS.p rfl (by exact st_add_i rfl rfl (by omega) (by omega)) ?_
      refine OPS.p rfl (st_assign rfl) ?_
      refine OPS.nil ?_
      refine ⟨(i + 1), (Sub.r (Sub.mk' ⟨(by rfl), (by rfl), (by rfl), trivial⟩ trivial (by exact Nat.le_refl _))), ?_, ?_⟩
      · try dsimp only
        omega
      · try dsimp only
        omega
  · refine AWP.exit ?_
    refine AWP.seq ?_
    refine AWP.region ?_
    refine OPS.p rfl (st_call (L := []) false pl17 trivial rfl (k_lives12) rfl) ?_
    refine OPS.p rfl (st_assign rfl) ?_
    refine OPS.nil ?_
    refine AWP.ret ?_
    exact Ret.mk rfl rfl
end Go.Proofs.Gh.Try
end
