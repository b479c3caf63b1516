/-
  The law ConvexSupports: every call returns true.
-/
import Derived.Test.YtabhcfenjelkcaaCtD
import Derived.Test.YtabhcfenjelkcaaPlB
section
set_option linter.unusedVariables false
set_option linter.unusedSimpArgs false
set_option maxRecDepth 4000
namespace Go.Proofs.Gh.Try
open Go Go.Proofs Go.Proofs.Gh

theorem dot_bd {d : Dr} {p : Pt} (hd : d ∈ dirs12) (hp : -5050 ≤ p.1 ∧ p.1 ≤ 5050 ∧ -5050 ≤ p.2 ∧ p.2 ≤ 5050) : (-25250 ≤ d.1 * p.1 ∧ d.1 * p.1 ≤ 25250) ∧ -25250 ≤ d.2.1 * p.2 ∧ d.2.1 * p.2 ≤ 25250 := by
  have h := dir_small hd
  exact ⟨mb5 (M := 5050) (by omega) (by omega), mb5 (M := 5050) (by omega) (by omega)⟩

theorem l_ConvexSupports (l m : List Int) (x y : Int) (hl : ∀ n ∈ l, -9223372036854775808 ≤ n ∧ n ≤ 9223372036854775807) (hm : ∀ n ∈ m, -9223372036854775808 ≤ n ∧ n ≤ 9223372036854775807) (hx : -9223372036854775808 ≤ x ∧ x ≤ 9223372036854775807) (hy : -9223372036854775808 ≤ y ∧ y ≤ 9223372036854775807) : PureC Try.prog 6 [pL l, pL m, pI x, pI y] (pB true) := by
  have c1 := k_Shape l hl
  have c2 := k_Shape m hm
  have c3 := k_Vec x y hx hy
  have fa := shape_fam l
  have fb := shape_fam m
  have qv := vec_qb x y
  have qV := vec_QB x y
  generalize shape l = a at *
  generalize shape m = b at *
  generalize vec x y = v at *
  have la := fam_len fa
  have sa := fam_sp fa
  have sA := fam_Sp fa
  have hlen := sides_len fb fa
  have hdr : ∀ e ∈ sidesL b a, e.1 ∈ dirs12 := fun e he => side_dir fb fa he
  have s1 := k_Sides b a fb fa
  have hh := k_Has a v (by omega) sA qV.1 qV.2
  generalize sidesL b a = s at *
  refine PureC.of Try.func6 rfl Try.ntmps6 (vs := [.tmp 8]) rfl (Nat.le_of_ble_eq_true rfl) rfl fun cx _ => ?_
  refine AWP.seq ?_
  refine AWP.region ?_
  refine OPS.p rfl (st_assign rfl) ?_
  refine OPS.nil ?_
  refine AWP.seq ?_
  refine AWP.region ?_
  refine OPS.p rfl (st_move rfl) ?_
  refine OPS.p rfl (st_call (L := [((.tmp 20), _)]) false pl8 ⟨rfl, trivial⟩ rfl (c1) rfl) ?_
  refine OPS.p rfl (st_assign rfl) ?_
  refine OPS.nil ?_
  refine AWP.seq ?_
  refine AWP.region ?_
  refine OPS.p rfl (st_move rfl) ?_
  refine OPS.p rfl (st_call (L := [((.tmp 22), _)]) false pl8 ⟨rfl, trivial⟩ rfl (c2) rfl) ?_
  refine OPS.p rfl (st_move rfl) ?_
  refine OPS.p rfl (st_call (L := [((.tmp 23), _), ((.tmp 24), _)]) false pl9 ⟨rfl, rfl, trivial⟩ rfl (s1) rfl) ?_
  refine OPS.p rfl (st_assign rfl) ?_
  refine OPS.nil ?_
  refine AWP.seq ?_
  refine AWP.region ?_
  refine OPS.p rfl (st_move rfl) ?_
  refine OPS.p rfl (st_move rfl) ?_
  refine OPS.p rfl (st_call (L := [((.tmp 26), _), ((.tmp 27), _)]) false pl11 ⟨rfl, rfl, trivial⟩ rfl (c3) rfl) ?_
  refine OPS.a rfl (st_alloc ze33) ?_
  refine OPS.s (by exact st_store_v sz33 rfl rfl rfl rfl rfl rfl) ?_
  refine OPS.nil ?_
  refine AWP.seq ?_
  refine AWP.seq ?_
  refine AWP.region ?_
  refine OPS.p rfl (st_assign rfl) ?_
  refine OPS.nil ?_
  refine AWP.block ?_
  refine AWP.loopR (σ := Nat) (fun (zz : Nat) => ⟨[(9, pPs a), (10, pEs s), (11, .ptr 0 0), (12, pI zz)], [(0, .var ((eV v).map .cell))], 1⟩) (fun (zz : Nat) => zz ≤ s.length) (fun (zz : Nat) => s.length - zz) (0) (Sub.r (Sub.mk' ⟨(by rfl), (by rfl), (by rfl), (by rfl), trivial⟩ ⟨(by rfl), trivial⟩ (by exact Nat.le_refl _))) (by exact Nat.zero_le _) ?_
  rintro i hinv
  have hinv : i ≤ s.length := hinv
  obtain h1 := hinv
  show AWP _ _ _ _ _ _ _ ⟨[(9, pPs a), (10, pEs s), (11, .ptr 0 0), (12, pI i)], [(0, .var ((eV v).map .cell))], 1⟩
  refine AWP.seq ?_
  refine AWP.seq ?_
  refine AWP.region ?_
  refine OPS.p rfl (st_move rfl) ?_
  refine OPS.p rfl (st_move rfl) ?_
  refine OPS.p rfl (st_len un25 rfl rfl) ?_
  refine OPS.p rfl (st_lss rfl rfl) ?_
  refine OPS.nil ?_
  refine AWP.condD rfl (fun hc5 => ?_) (fun hc5 => ?_)
  · have hi : i < s.length := by omega
    have hn := hdr _ (getD_mem hi)
    refine AWP.skip ?_
    refine AWP.seq ?_
    refine AWP.block ?_
    refine AWP.seq ?_
    refine AWP.region ?_
    refine OPS.p rfl (st_move rfl) ?_
    refine OPS.p rfl (st_move rfl) ?_
    refine OPS.p rfl (by exact st_index_R es25 rfl rfl (fun _ => rfl) rfl (by omega) (by omega) (by rfl)) ?_
    refine OPS.p rfl (by exact st_field_f off40_0 rfl) ?_
    refine OPS.p rfl (by exact st_load_RAn ag38 rfl (fun _ => rfl) rfl (by omega) rfl rfl) ?_
    refine OPS.a rfl (st_alloc ze38) ?_
    refine OPS.s (by exact st_store_v sz38 rfl rfl rfl rfl rfl rfl) ?_
    refine OPS.nil ?_
    refine AWP.seq ?_
    generalize s.getD i default = e at *
    obtain ⟨N, t⟩ := e
    simp only at hn
    have hSd := dir_Sd hn
    have hsm := dir_small hn
    have hmb := most_bd fa hn
    have hmt := most_met (show 0 < a.length by omega) N
    have hmost := k_Most a N (by omega) (by omega) sA hSd
    have hle : ∀ p ∈ a, dot N p ≤ most a N := fun p hp => dot_le_most hp N
    have hhd : hasQ a v = true → dotQ N v ≤ (most a N : Int) := fun h => has_dot fa h hn
    generalize most a N = M at *
    refine AWP.region ?_
    refine OPS.p rfl (st_move rfl) ?_
    refine OPS.p rfl (by exact st_load_va ag38 rfl rfl rfl rfl) ?_
    refine OPS.p rfl (st_call (L := [((.tmp 40), _), ((.tmp 41), _)]) false pl23 ⟨rfl, rfl, trivial⟩ rfl (hmost) rfl) ?_
    refine OPS.p rfl (st_assign rfl) ?_
    refine OPS.nil ?_
    refine AWP.seq ?_
    refine AWP.region ?_
    refine OPS.p rfl (st_assign rfl) ?_
    refine OPS.nil ?_
    refine AWP.seq ?_
    refine AWP.seq ?_
    refine AWP.region ?_
    refine OPS.p rfl (st_assign rfl) ?_
    refine OPS.nil ?_
    refine AWP.block ?_
    refine AWP.loopR (σ := Nat × Bool) (fun (zz : Nat × Bool) => ⟨[(9, pPs a), (10, pEs s), (11, .ptr 0 0), (12, pI i), (13, .ptr 1 0), (14, pI M), (15, pB zz.2), (16, pI zz.1)], [(0, .var ((eV v).map .cell)), (1, .var [pI N.1, pI N.2.1, pI N.2.2])], 2⟩) (fun (zz : Nat × Bool) => zz.1 ≤ a.length ∧ zz.2 = (a.take zz.1).any fun p => decide (dot N p = M)) (fun (zz : Nat × Bool) => a.length - zz.1) (0, false) (Sub.r (Sub.mk' ⟨(by rfl), (by rfl), (by rfl), (by rfl), (by rfl), (by rfl), (by rfl), (by rfl), trivial⟩ ⟨(by rfl), (by rfl), trivial⟩ (by exact Nat.le_refl _))) (by exact ⟨Nat.zero_le _, rfl⟩) ?_
    rintro ⟨k, w⟩ hinv
    have hinv : k ≤ a.length ∧ w = (a.take k).any fun p => decide (dot N p = M) := hinv
    obtain ⟨k1, k2⟩ := hinv
    show AWP _ _ _ _ _ _ _ ⟨[(9, pPs a), (10, pEs s), (11, .ptr 0 0), (12, pI i), (13, .ptr 1 0), (14, pI M), (15, pB w), (16, pI k)], [(0, .var ((eV v).map .cell)), (1, .var [pI N.1, pI N.2.1, pI N.2.2])], 2⟩
    refine AWP.seq ?_
    refine AWP.seq ?_
    refine AWP.region ?_
    refine OPS.p rfl (st_move rfl) ?_
    refine OPS.p rfl (st_move rfl) ?_
    refine OPS.p rfl (st_len un23 rfl rfl) ?_
    refine OPS.p rfl (st_lss rfl rfl) ?_
    refine OPS.nil ?_
    refine AWP.condD rfl (fun hc11 => ?_) (fun hc11 => ?_)
    · have hk : k < a.length := by omega
      have hs := any_take (fun p => decide (dot N p = M)) hk
      have hd := dot_bd hn (sa _ (getD_mem hk))
      have hl1 := hle _ (getD_mem hk)
      unfold dot at hl1
      refine AWP.skip ?_
      refine AWP.seq ?_
      refine AWP.block ?_
      refine AWP.seq ?_
      refine AWP.drw mixed ?_
      refine DRW.p rfl (st_move rfl) ?_
      refine DRW.p rfl (st_move rfl) ?_
      refine DRW.splitB (g := 50) rfl (fun eg13_1 g13_1 => ?_) (fun eg13_1 g13_1 => ?_)
      · refine DRW.nO rfl rfl rfl eg13_1 ?_
        refine DRW.nO rfl rfl rfl eg13_1 ?_
        refine DRW.nO rfl rfl rfl eg13_1 ?_
        refine DRW.nO rfl rfl rfl eg13_1 ?_
        refine DRW.nO rfl rfl rfl eg13_1 ?_
        refine DRW.nO rfl rfl rfl eg13_1 ?_
        refine DRW.nO rfl rfl rfl eg13_1 ?_
        refine DRW.nO rfl rfl rfl eg13_1 ?_
        refine DRW.nO rfl rfl rfl eg13_1 ?_
        refine DRW.nO rfl rfl rfl eg13_1 ?_
        refine DRW.nO rfl rfl rfl eg13_1 ?_
        refine DRW.nO rfl rfl rfl eg13_1 ?_
        refine DRW.nO rfl rfl rfl eg13_1 ?_
        refine DRW.nO rfl rfl rfl eg13_1 ?_
        refine DRW.nO rfl rfl rfl eg13_1 ?_
        refine DRW.nO rfl rfl rfl eg13_1 ?_
        refine DRW.nO rfl rfl rfl eg13_1 ?_
        refine DRW.nO rfl rfl rfl eg13_1 ?_
        refine DRW.nO rfl rfl rfl eg13_1 ?_
        refine DRW.p rfl (st_pickT rfl eg13_1 rfl) ?_
        refine DRW.p rfl (st_assign rfl) ?_
        refine DRW.nil (by kernel_rfl) ?_
        refine AWP.seq ?_
        refine AWP.drw mixed ?_
        refine DRW.p rfl (by exact st_field_p off38_0 rfl) ?_
        refine DRW.p rfl (by exact st_load_vs sc3 rfl rfl rfl) ?_
        refine DRW.p rfl (st_move rfl) ?_
        refine DRW.p rfl (st_move rfl) ?_
        refine DRW.p rfl (by exact st_index_R es23 rfl rfl (fun _ => rfl) rfl (by omega) (by omega) (by rfl)) ?_
        refine DRW.p rfl (by exact st_field_f off55_0 rfl) ?_
        refine DRW.p rfl (by exact st_load_RFn sc3 rfl (fun _ => rfl) rfl (by omega) rfl) ?_
        refine DRW.p rfl (by exact st_mul_i rfl rfl (by omega) (by omega)) ?_
        refine DRW.p rfl (by exact st_field_p off38_1 rfl) ?_
        refine DRW.p rfl (by exact st_load_vs sc3 rfl rfl rfl) ?_
        refine DRW.p rfl (st_move rfl) ?_
        refine DRW.p rfl (st_move rfl) ?_
        refine DRW.p rfl (by exact st_index_R es23 rfl rfl (fun _ => rfl) rfl (by omega) (by omega) (by rfl)) ?_
        refine DRW.p rfl (by exact st_field_f off55_1 rfl) ?_
        refine DRW.p rfl (by exact st_load_RFn sc3 rfl (fun _ => rfl) rfl (by omega) rfl) ?_
        refine DRW.p rfl (by exact st_mul_i rfl rfl (by omega) (by omega)) ?_
        refine DRW.p rfl (by exact st_add_i rfl rfl (by omega) (by omega)) ?_
        refine DRW.p rfl (st_move rfl) ?_
        refine DRW.p rfl (st_gtr rfl rfl) ?_
        refine DRW.nil (by kernel_rfl) ?_
        refine AWP.cond_f rfl ((decide_eq_false (by omega))) ?_
        refine AWP.skip ?_
        refine AWP.region ?_
        refine OPS.p rfl (st_move rfl) ?_
        refine OPS.p rfl (by exact st_add_i rfl rfl (by omega) (by omega)) ?_
        refine OPS.p rfl (st_assign rfl) ?_
        refine OPS.nil ?_
        refine ⟨(k + 1, true), (Sub.r (Sub.mk' ⟨(by rfl), (by rfl), (by rfl), (by rfl), (by rfl), (by rfl), (by rfl), (by rfl), trivial⟩ ⟨(by rfl), (by rfl), trivial⟩ (by exact Nat.le_refl _))), ?_, ?_⟩
        · try dsimp only
          refine ⟨by omega, ?_⟩
          rw [hs, ← k2, eg13_1]
          rfl
        · try dsimp only
          omega
      · refine DRW.pG rfl rfl rfl eg13_1 (by exact st_field_p off38_0 rfl) ?_
        refine DRW.pG rfl rfl rfl eg13_1 (by exact st_load_vs sc3 rfl rfl rfl) ?_
        refine DRW.pG rfl rfl rfl eg13_1 (st_move rfl) ?_
        refine DRW.pG rfl rfl rfl eg13_1 (st_move rfl) ?_
        refine DRW.pG rfl rfl rfl eg13_1 (by exact st_index_R es23 rfl rfl (fun _ => rfl) rfl (by omega) (by omega) (by rfl)) ?_
        refine DRW.pG rfl rfl rfl eg13_1 (by exact st_field_f off55_0 rfl) ?_
        refine DRW.pG rfl rfl rfl eg13_1 (by exact st_load_RFn sc3 rfl (fun _ => rfl) rfl (by omega) rfl) ?_
        refine DRW.pG rfl rfl rfl eg13_1 (by exact st_mul_i rfl rfl (by omega) (by omega)) ?_
        refine DRW.pG rfl rfl rfl eg13_1 (by exact st_field_p off38_1 rfl) ?_
        refine DRW.pG rfl rfl rfl eg13_1 (by exact st_load_vs sc3 rfl rfl rfl) ?_
        refine DRW.pG rfl rfl rfl eg13_1 (st_move rfl) ?_
        refine DRW.pG rfl rfl rfl eg13_1 (st_move rfl) ?_
        refine DRW.pG rfl rfl rfl eg13_1 (by exact st_index_R es23 rfl rfl (fun _ => rfl) rfl (by omega) (by omega) (by rfl)) ?_
        refine DRW.pG rfl rfl rfl eg13_1 (by exact st_field_f off55_1 rfl) ?_
        refine DRW.pG rfl rfl rfl eg13_1 (by exact st_load_RFn sc3 rfl (fun _ => rfl) rfl (by omega) rfl) ?_
        refine DRW.pG rfl rfl rfl eg13_1 (by exact st_mul_i rfl rfl (by omega) (by omega)) ?_
        refine DRW.pG rfl rfl rfl eg13_1 (by exact st_add_i rfl rfl (by omega) (by omega)) ?_
        refine DRW.pG rfl rfl rfl eg13_1 (st_move rfl) ?_
        refine DRW.pG rfl rfl rfl eg13_1 (st_eql rfl rfl) ?_
        refine DRW.p rfl (st_pickF rfl eg13_1 rfl) ?_
        refine DRW.p rfl (st_assign rfl) ?_
        refine DRW.nil (by kernel_rfl) ?_
        refine AWP.seq ?_
        refine AWP.drw mixed ?_
        refine DRW.p rfl (by exact st_field_p off38_0 rfl) ?_
        refine DRW.p rfl (by exact st_load_vs sc3 rfl rfl rfl) ?_
        refine DRW.p rfl (st_move rfl) ?_
        refine DRW.p rfl (st_move rfl) ?_
        refine DRW.p rfl (by exact st_index_R es23 rfl rfl (fun _ => rfl) rfl (by omega) (by omega) (by rfl)) ?_
        refine DRW.p rfl (by exact st_field_f off55_0 rfl) ?_
        refine DRW.p rfl (by exact st_load_RFn sc3 rfl (fun _ => rfl) rfl (by omega) rfl) ?_
        refine DRW.p rfl (by exact st_mul_i rfl rfl (by omega) (by omega)) ?_
        refine DRW.p rfl (by exact st_field_p off38_1 rfl) ?_
        refine DRW.p rfl (by exact st_load_vs sc3 rfl rfl rfl) ?_
        refine DRW.p rfl (st_move rfl) ?_
        refine DRW.p rfl (st_move rfl) ?_
        refine DRW.p rfl (by exact st_index_R es23 rfl rfl (fun _ => rfl) rfl (by omega) (by omega) (by rfl)) ?_
        refine DRW.p rfl (by exact st_field_f off55_1 rfl) ?_
        refine DRW.p rfl (by exact st_load_RFn sc3 rfl (fun _ => rfl) rfl (by omega) rfl) ?_
        refine DRW.p rfl (by exact st_mul_i rfl rfl (by omega) (by omega)) ?_
        refine DRW.p rfl (by exact st_add_i rfl rfl (by omega) (by omega)) ?_
        refine DRW.p rfl (st_move rfl) ?_
        refine DRW.p rfl (st_gtr rfl rfl) ?_
        refine DRW.nil (by kernel_rfl) ?_
        refine AWP.cond_f rfl ((decide_eq_false (by omega))) ?_
        refine AWP.skip ?_
        refine AWP.region ?_
        refine OPS.p rfl (st_move rfl) ?_
        refine OPS.p rfl (by exact st_add_i rfl rfl (by omega) (by omega)) ?_
        refine OPS.p rfl (st_assign rfl) ?_
        refine OPS.nil ?_
        refine ⟨(k + 1, decide (N.1 * (a.getD k default).1 + N.2.1 * (a.getD k default).2 = M)), (Sub.r (Sub.mk' ⟨(by rfl), (by rfl), (by rfl), (by rfl), (by rfl), (by rfl), (by rfl), (by rfl), trivial⟩ ⟨(by rfl), (by rfl), trivial⟩ (by exact Nat.le_refl _))), ?_, ?_⟩
        · try dsimp only
          refine ⟨by omega, ?_⟩
          rw [hs, ← k2, eg13_1]
          rfl
        · try dsimp only
          omega
    · have hk : k = a.length := by omega
      rw [hk, List.take_length, hmt] at k2
      refine AWP.exit ?_
      refine AWP.seq ?_
      refine AWP.region ?_
      refine OPS.p rfl (st_move rfl) ?_
      refine OPS.p rfl (by exact st_not rfl) ?_
      refine OPS.p rfl (st_move rfl) ?_
      refine OPS.pG rfl rfl rfl ((by rw [k2]; rfl)) (st_move rfl) ?_
      refine OPS.pG rfl rfl rfl ((by rw [k2]; rfl)) (by exact st_load_va ag33 rfl rfl rfl rfl) ?_
      refine OPS.pG rfl rfl rfl ((by rw [k2]; rfl)) (st_call (L := [((.tmp 93), _), ((.tmp 94), _)]) false pl16 ⟨rfl, rfl, trivial⟩ rfl (hh) rfl) ?_
      refine OPS.pG rfl rfl rfl ((by rw [k2]; rfl)) (st_move rfl) ?_
      refine OPS.splitB (g := 96) rfl (fun eg16_6 g16_6 => ?_) (fun eg16_6 g16_6 => ?_)
      · refine OPS.pG rfl rfl rfl eg16_6 (by exact st_load_va ag38 rfl rfl rfl rfl) ?_
        refine OPS.pG rfl rfl rfl eg16_6 (by exact st_load_va ag33 rfl rfl rfl rfl) ?_
        refine OPS.pG rfl rfl rfl eg16_6 (st_call (L := [((.tmp 97), _), ((.tmp 98), _)]) false pl13 ⟨rfl, rfl, trivial⟩ rfl (k_Dot N v hSd qV.1 qV.2) rfl) ?_
        refine OPS.pG rfl rfl rfl eg16_6 (st_move rfl) ?_
        refine OPS.pG rfl rfl rfl eg16_6 (st_call (L := [((.tmp 100), _), ((.const (.int .i64 1)), _)]) false pl25 ⟨rfl, rfl, trivial⟩ rfl (k_rqOf M 1 (show _ < _ by omega) (show _ < _ by omega)) rfl) ?_
        refine OPS.pG rfl rfl rfl eg16_6 (st_call (L := [((.tmp 99), _), ((.tmp 101), _)]) false pl24 ⟨rfl, rfl, trivial⟩ rfl (b_rqCompare _ _ _ _ (qb_add (qb_mul (qb_qi (n := N.1) (N := 5) (by omega)) qv.1) (qb_mul (qb_qi (n := N.2.1) (N := 5) (by omega)) qv.2)) (qb_qi (n := M) (N := 50500) (by omega)) rfl rfl rfl rfl rfl rfl) rfl) ?_
        refine OPS.pG rfl rfl rfl eg16_6 (st_gtr rfl rfl) ?_
        refine OPS.pG rfl rfl rfl ((by rw [k2]; rfl)) (st_pickT rfl eg16_6 rfl) ?_
        refine OPS.p rfl (st_pickF rfl ((by rw [k2]; rfl)) rfl) ?_
        refine OPS.nil ?_
        refine AWP.cond_f rfl ((decide_eq_false (by rw [cmpQ_gt, show Rat.divInt M 1 = qi M from rfl, qi_eq]; exact Rat.not_lt.2 (hhd eg16_6)))) ?_
        refine AWP.skip ?_
        refine AWP.region ?_
        refine OPS.p rfl (st_move rfl) ?_
        refine OPS.p rfl (by exact st_add_i rfl rfl (by omega) (by omega)) ?_
        refine OPS.p rfl (st_assign rfl) ?_
        refine OPS.nil ?_
        refine ⟨(i + 1), (Ren.r (Ren.mk' (ρ := [(0, 0)]) rfl ⟨(by rfl), (by rfl), (by rfl), (by rfl), trivial⟩ ⟨(by rfl), trivial⟩)), ?_, ?_⟩
        · try dsimp only
          omega
        · try dsimp only
          omega
      · refine OPS.nO rfl rfl rfl eg16_6 ?_
        refine OPS.nO rfl rfl rfl eg16_6 ?_
        refine OPS.nO rfl rfl rfl eg16_6 ?_
        refine OPS.nO rfl rfl rfl eg16_6 ?_
        refine OPS.nO rfl rfl rfl eg16_6 ?_
        refine OPS.nO rfl rfl rfl eg16_6 ?_
        refine OPS.nO rfl rfl rfl eg16_6 ?_
        refine OPS.pG rfl rfl rfl ((by rw [k2]; rfl)) (st_pickF rfl eg16_6 rfl) ?_
        refine OPS.p rfl (st_pickF rfl ((by rw [k2]; rfl)) rfl) ?_
        refine OPS.nil ?_
        refine AWP.cond_f rfl (rfl) ?_
        refine AWP.skip ?_
        refine AWP.region ?_
        refine OPS.p rfl (st_move rfl) ?_
        refine OPS.p rfl (by exact st_add_i rfl rfl (by omega) (by omega)) ?_
        refine OPS.p rfl (st_assign rfl) ?_
        refine OPS.nil ?_
        refine ⟨(i + 1), (Ren.r (Ren.mk' (ρ := [(0, 0)]) rfl ⟨(by rfl), (by rfl), (by rfl), (by rfl), trivial⟩ ⟨(by rfl), trivial⟩)), ?_, ?_⟩
        · try dsimp only
          omega
        · try dsimp only
          omega
  · refine AWP.exit ?_
    refine AWP.seq ?_
    refine AWP.seq ?_
    refine AWP.region ?_
    refine OPS.p rfl (st_assign rfl) ?_
    refine OPS.nil ?_
    refine AWP.block ?_
    refine AWP.loopR (σ := Nat) (fun (zz : Nat) => ⟨[(9, pPs a), (10, pEs s), (17, pI zz)], [], 0⟩) (fun (zz : Nat) => zz ≤ a.length) (fun (zz : Nat) => a.length - zz) (0) (Ren.r (Ren.mk' (ρ := []) rfl ⟨(by rfl), (by rfl), (by rfl), trivial⟩ trivial)) (by exact Nat.zero_le _) ?_
    rintro i hinv
    have hinv : i ≤ a.length := hinv
    obtain g1 := hinv
    show AWP _ _ _ _ _ _ _ ⟨[(9, pPs a), (10, pEs s), (17, pI i)], [], 0⟩
    refine AWP.seq ?_
    refine AWP.seq ?_
    refine AWP.region ?_
    refine OPS.p rfl (st_move rfl) ?_
    refine OPS.p rfl (st_move rfl) ?_
    refine OPS.p rfl (st_len un23 rfl rfl) ?_
    refine OPS.p rfl (st_lss rfl rfl) ?_
    refine OPS.nil ?_
    refine AWP.condD rfl (fun hc19 => ?_) (fun hc19 => ?_)
    · have hi : i < a.length := by omega
      have hd := fam_dir fa hi
      have hn := fam_side fa hi
      generalize dirA a i = N at *
      have hSd := dir_Sd hd.1
      have hb := dot_bd hd.1 (sa _ (getD_mem hi))
      have hmost := k_Most a N (by omega) (by omega) sA hSd
      rw [hd.2] at hmost
      unfold dot at hmost
      refine AWP.skip ?_
      refine AWP.seq ?_
      refine AWP.block ?_
      refine AWP.seq ?_
      refine AWP.drw mixed ?_
      refine DRW.p rfl (st_move rfl) ?_
      refine DRW.p rfl (st_move rfl) ?_
      refine DRW.p rfl (by exact st_index_R es23 rfl rfl (fun _ => rfl) rfl (by omega) (by omega) (by rfl)) ?_
      refine DRW.p rfl (by exact st_load_Rn ag55 rfl (fun _ => rfl) rfl (by omega)) ?_
      refine DRW.p rfl (st_move rfl) ?_
      refine DRW.p rfl (st_move rfl) ?_
      refine DRW.p rfl (st_call (L := [((.tmp 117), _), ((.tmp 118), _)]) false pl27 ⟨rfl, rfl, trivial⟩ rfl (k_Next a i hi (by omega)) rfl) ?_
      refine DRW.p rfl (st_call (L := [((.tmp 116), _), ((.tmp 119), _)]) false pl26 ⟨rfl, rfl, trivial⟩ rfl (hn) rfl) ?_
      refine DRW.p rfl (st_move rfl) ?_
      refine DRW.p rfl (st_extract rfl rfl) ?_
      refine DRW.p rfl (st_extract rfl rfl) ?_
      refine DRW.a rfl (st_alloc ze38) ?_
      refine DRW.s (by exact st_store_v sz38 rfl rfl rfl rfl rfl rfl) ?_
      refine DRW.p rfl (st_assign rfl) ?_
      refine DRW.nil (by kernel_rfl) ?_
      refine AWP.seq ?_
      refine AWP.drw mixed ?_
      refine DRW.p rfl (st_move rfl) ?_
      refine DRW.p rfl (by exact st_not rfl) ?_
      refine DRW.p rfl (st_move rfl) ?_
      refine DRW.pG rfl rfl rfl (rfl) (st_move rfl) ?_
      refine DRW.pG rfl rfl rfl (rfl) (by exact st_load_va ag38 rfl rfl rfl rfl) ?_
      refine DRW.pG rfl rfl rfl (rfl) (st_call (L := [((.tmp 126), _), ((.tmp 127), _)]) false pl23 ⟨rfl, rfl, trivial⟩ rfl (hmost) rfl) ?_
      refine DRW.pG rfl rfl rfl (rfl) (by exact st_field_p off38_0 rfl) ?_
      refine DRW.pG rfl rfl rfl (rfl) (by exact st_load_vs sc3 rfl rfl rfl) ?_
      refine DRW.pG rfl rfl rfl (rfl) (st_move rfl) ?_
      refine DRW.pG rfl rfl rfl (rfl) (st_move rfl) ?_
      refine DRW.pG rfl rfl rfl (rfl) (by exact st_index_R es23 rfl rfl (fun _ => rfl) rfl (by omega) (by omega) (by rfl)) ?_
      refine DRW.pG rfl rfl rfl (rfl) (by exact st_field_f off55_0 rfl) ?_
      refine DRW.pG rfl rfl rfl (rfl) (by exact st_load_RFn sc3 rfl (fun _ => rfl) rfl (by omega) rfl) ?_
      refine DRW.pG rfl rfl rfl (rfl) (by exact st_mul_i rfl rfl (by omega) (by omega)) ?_
      refine DRW.pG rfl rfl rfl (rfl) (by exact st_field_p off38_1 rfl) ?_
      refine DRW.pG rfl rfl rfl (rfl) (by exact st_load_vs sc3 rfl rfl rfl) ?_
      refine DRW.pG rfl rfl rfl (rfl) (st_move rfl) ?_
      refine DRW.pG rfl rfl rfl (rfl) (st_move rfl) ?_
      refine DRW.pG rfl rfl rfl (rfl) (by exact st_index_R es23 rfl rfl (fun _ => rfl) rfl (by omega) (by omega) (by rfl)) ?_
      refine DRW.pG rfl rfl rfl (rfl) (by exact st_field_f off55_1 rfl) ?_
      refine DRW.pG rfl rfl rfl (rfl) (by exact st_load_RFn sc3 rfl (fun _ => rfl) rfl (by omega) rfl) ?_
      refine DRW.pG rfl rfl rfl (rfl) (by exact st_mul_i rfl rfl (by omega) (by omega)) ?_
      refine DRW.pG rfl rfl rfl (rfl) (by exact st_add_i rfl rfl (by omega) (by omega)) ?_
      refine DRW.pG rfl rfl rfl (rfl) (st_neq rfl rfl) ?_
      refine DRW.p rfl (st_pickF rfl (rfl) rfl) ?_
      refine DRW.nil (by kernel_rfl) ?_
      refine AWP.cond_f rfl ((decide_eq_false (by simp))) ?_
      refine AWP.skip ?_
      refine AWP.region ?_
      refine OPS.p rfl (st_move rfl) ?_
      refine OPS.p rfl (by exact st_add_i rfl rfl (by omega) (by omega)) ?_
      refine OPS.p rfl (st_assign rfl) ?_
      refine OPS.nil ?_
      refine ⟨(i + 1), (Ren.r (Ren.mk' (ρ := []) rfl ⟨(by rfl), (by rfl), (by rfl), trivial⟩ trivial)), ?_, ?_⟩
      · try dsimp only
        omega
      · try dsimp only
        omega
    · refine AWP.exit ?_
      refine AWP.seq ?_
      refine AWP.region ?_
      refine OPS.p rfl (st_move rfl) ?_
      refine OPS.p rfl (st_len un25 rfl rfl) ?_
      refine OPS.p rfl (st_gtr rfl rfl) ?_
      refine OPS.p rfl (st_move rfl) ?_
      refine OPS.pG rfl rfl rfl ((decide_eq_true (by omega))) (st_call (L := []) false pl17 trivial rfl (k_lives12) rfl) ?_
      refine OPS.p rfl (st_pickT rfl ((decide_eq_true (by omega))) rfl) ?_
      refine OPS.p rfl (st_assign rfl) ?_
      refine OPS.nil ?_
      refine AWP.ret ?_
      exact Ret.mk rfl rfl
end Go.Proofs.Gh.Try
end
