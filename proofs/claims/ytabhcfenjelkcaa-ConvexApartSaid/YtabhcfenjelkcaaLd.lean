/-
  The law ConvexApart: every call returns true.
-/
import Derived.Test.YtabhcfenjelkcaaCtD
import Derived.Test.YtabhcfenjelkcaaPlB
section
set_option linter.unusedVariables false
set_option linter.unusedSimpArgs false
set_option maxRecDepth 4000
namespace Go.Proofs.Gh.Try
open Go Go.Proofs Go.Proofs.Gh

theorem l_ConvexApart (l m x : List Int) (p q : Int) (hl : ∀ n ∈ l, -9223372036854775808 ≤ n ∧ n ≤ 9223372036854775807) (hm : ∀ n ∈ m, -9223372036854775808 ≤ n ∧ n ≤ 9223372036854775807) (hx : ∀ n ∈ x, -9223372036854775808 ≤ n ∧ n ≤ 9223372036854775807) (hp : -9223372036854775808 ≤ p ∧ p ≤ 9223372036854775807) (hq : -9223372036854775808 ≤ q ∧ q ≤ 9223372036854775807) : PureC Try.prog 3 [pL l, pL m, pL x, pI p, pI q] (pB true) := by
  have c1 := k_Shape l hl
  have c2 := k_Shape m hm
  have c3 := k_Vec p q hp hq
  have fa := shape_fam l
  have fb := shape_fam m
  have qp := vec_qb p q
  generalize shape l = a at *
  generalize shape m = b at *
  generalize vec p q = point at *
  have la := fam_len fa
  have lb := fam_len fb
  have sA := fam_Sp fa
  have sB := fam_Sp fb
  have hlen := sides_len fa fb
  have hdr : ∀ e ∈ sidesL a b, e.1 ∈ dirs12 := fun e he => side_dir fa fb he
  have hat : ∀ e ∈ sidesL a b, -101000 ≤ e.2 ∧ e.2 ≤ 101000 := fun e he => atE_bd fa fb he
  have sl1 := (fam_pair fa fb).len
  have sl2 := (sum_mem fa fb).1
  have sS : ∀ p ∈ sumL a b, Sp p := fun p hp => by have := sum_bd fa fb p hp; unfold Sp; omega
  have hin := has_in fa fb
  have hap : ∀ r, hasQ a point = true → hasQ b (point.1 - r.1, point.2 - r.2) = true → inQ (sidesL a b) r = true := fun r h1 h2 => inQ_iff.2 fun e he => apart fa fb h1 h2 he
  have s1 := k_Sides a b fa fb
  have s2 := k_Sum a b fa fb
  have h1 := k_Has a point (by omega) sA (qp.1.mono (by omega) (by omega)) (qp.2.mono (by omega) (by omega))
  generalize sidesL a b = es at *
  generalize sumL a b = s at *
  refine PureC.of Try.func3 rfl Try.ntmps3 (vs := [.tmp 10]) rfl (Nat.le_of_ble_eq_true rfl) rfl fun cx _ => ?_
  refine AWP.seq ?_
  refine AWP.region ?_
  refine OPS.p rfl (st_assign rfl) ?_
  refine OPS.nil ?_
  refine AWP.seq ?_
  refine AWP.region ?_
  refine OPS.p rfl (st_move rfl) ?_
  refine OPS.p rfl (st_call (L := [((.tmp 21), _)]) false pl8 ⟨rfl, trivial⟩ rfl (c1) rfl) ?_
  refine OPS.p rfl (st_assign rfl) ?_
  refine OPS.nil ?_
  refine AWP.seq ?_
  refine AWP.region ?_
  refine OPS.p rfl (st_move rfl) ?_
  refine OPS.p rfl (st_call (L := [((.tmp 23), _)]) false pl8 ⟨rfl, trivial⟩ rfl (c2) rfl) ?_
  refine OPS.p rfl (st_assign rfl) ?_
  refine OPS.nil ?_
  refine AWP.seq ?_
  refine AWP.region ?_
  refine OPS.p rfl (st_move rfl) ?_
  refine OPS.p rfl (st_move rfl) ?_
  refine OPS.p rfl (st_call (L := [((.tmp 25), _), ((.tmp 26), _)]) false pl9 ⟨rfl, rfl, trivial⟩ rfl (s1) rfl) ?_
  refine OPS.p rfl (st_assign rfl) ?_
  refine OPS.nil ?_
  refine AWP.seq ?_
  refine AWP.region ?_
  refine OPS.p rfl (st_move rfl) ?_
  refine OPS.p rfl (st_move rfl) ?_
  refine OPS.p rfl (st_call (L := [((.tmp 28), _), ((.tmp 29), _)]) false pl10 ⟨rfl, rfl, trivial⟩ rfl (s2) rfl) ?_
  refine OPS.p rfl (st_assign rfl) ?_
  refine OPS.nil ?_
  refine AWP.seq ?_
  refine AWP.seq ?_
  refine AWP.region ?_
  refine OPS.p rfl (st_move rfl) ?_
  refine OPS.p rfl (st_len un25 rfl rfl) ?_
  refine OPS.p rfl (st_lss rfl rfl) ?_
  refine OPS.p rfl (st_move rfl) ?_
  refine OPS.pG rfl rfl rfl ((decide_eq_false (by omega))) (st_move rfl) ?_
  refine OPS.pG rfl rfl rfl ((decide_eq_false (by omega))) (st_len un23 rfl rfl) ?_
  refine OPS.pG rfl rfl rfl ((decide_eq_false (by omega))) (st_lss rfl rfl) ?_
  refine OPS.p rfl (st_pickF rfl ((decide_eq_false (by omega))) rfl) ?_
  refine OPS.nil ?_
  refine AWP.cond_f rfl ((decide_eq_false (by omega))) ?_
  refine AWP.skip ?_
  refine AWP.seq ?_
  refine AWP.region ?_
  refine OPS.p rfl (st_move rfl) ?_
  refine OPS.p rfl (st_move rfl) ?_
  refine OPS.p rfl (st_call (L := [((.tmp 39), _), ((.tmp 40), _)]) false pl11 ⟨rfl, rfl, trivial⟩ rfl (c3) rfl) ?_
  refine OPS.a rfl (st_alloc ze33) ?_
  refine OPS.s (by exact st_store_v sz33 rfl rfl rfl rfl rfl rfl) ?_
  refine OPS.nil ?_
  refine AWP.seq ?_
  refine AWP.seq ?_
  refine AWP.region ?_
  refine OPS.p rfl (st_assign rfl) ?_
  refine OPS.nil ?_
  refine AWP.block ?_
  refine AWP.loopR (σ := Nat) (fun (zz : Nat) => ⟨[(2, pL x), (11, pPs a), (12, pPs b), (13, pEs es), (14, pPs s), (15, .ptr 0 0), (16, pI zz)], [(0, .var ((eV point).map .cell))], 1⟩) (fun (zz : Nat) => zz ≤ 21) (fun (zz : Nat) => 21 - zz) (0) (Sub.r (Sub.mk' ⟨(by rfl), (by rfl), (by rfl), (by rfl), (by rfl), (by rfl), (by rfl), trivial⟩ ⟨(by rfl), trivial⟩ (by exact Nat.le_refl _))) (by exact Nat.zero_le _) ?_
  rintro i hinv
  have hinv : i ≤ 21 := hinv
  obtain k0 := hinv
  show AWP _ _ _ _ _ _ _ ⟨[(2, pL x), (11, pPs a), (12, pPs b), (13, pEs es), (14, pPs s), (15, .ptr 0 0), (16, pI i)], [(0, .var ((eV point).map .cell))], 1⟩
  refine AWP.seq ?_
  refine AWP.seq ?_
  refine AWP.region ?_
  refine OPS.p rfl (st_move rfl) ?_
  refine OPS.p rfl (by exact st_add_i rfl rfl (by omega) (by omega)) ?_
  refine OPS.p rfl (st_move rfl) ?_
  refine OPS.p rfl (st_len un22 rfl rfl) ?_
  refine OPS.p rfl (st_lss rfl rfl) ?_
  refine OPS.p rfl (st_move rfl) ?_
  refine OPS.split (g := 47) rfl (fun eg9_5 g9_5 => ?_) (fun eg9_5 g9_5 => ?_)
  · refine OPS.pG rfl rfl rfl eg9_5 (st_move rfl) ?_
    refine OPS.pG rfl rfl rfl eg9_5 (st_lss rfl rfl) ?_
    refine OPS.p rfl (st_pickT rfl eg9_5 rfl) ?_
    refine OPS.nil ?_
    refine AWP.condD rfl (fun hc9 => ?_) (fun hc9 => ?_)
    · have hi : i + 1 < x.length := by omega
      have x1 := hx (x.getD i 0) (getD_mem (show i < x.length by omega))
      have x2 := hx (x.getD (i + 1) 0) (getD_mem (show i + 1 < x.length by omega))
      have c4 := k_Vec (x.getD i 0) (x.getD (i + 1) 0) x1 x2
      have qr := vec_qb (x.getD i 0) (x.getD (i + 1) 0)
      generalize vec (x.getD i 0) (x.getD (i + 1) 0) = r at *
      refine AWP.skip ?_
      refine AWP.seq ?_
      refine AWP.block ?_
      refine AWP.seq ?_
      refine AWP.drw mixed ?_
      refine DRW.p rfl (st_move rfl) ?_
      refine DRW.p rfl (st_move rfl) ?_
      refine DRW.p rfl (by exact st_index_I es22 rfl rfl (by omega) (by omega) (by rfl)) ?_
      refine DRW.p rfl (by exact st_load_In sc3 rfl rfl (by omega)) ?_
      refine DRW.p rfl (st_move rfl) ?_
      refine DRW.p rfl (st_move rfl) ?_
      refine DRW.p rfl (by exact st_add_i rfl rfl (by omega) (by omega)) ?_
      refine DRW.p rfl (by exact st_index_I es22 rfl rfl (by omega) (by omega) (by rfl)) ?_
      refine DRW.p rfl (by exact st_load_In sc3 rfl rfl (by omega)) ?_
      refine DRW.p rfl (st_call (L := [((.tmp 56), _), ((.tmp 61), _)]) false pl11 ⟨rfl, rfl, trivial⟩ rfl (c4) rfl) ?_
      refine DRW.a rfl (st_alloc ze33) ?_
      refine DRW.s (by exact st_store_v sz33 rfl rfl rfl rfl rfl rfl) ?_
      refine DRW.nil (by kernel_rfl) ?_
      refine AWP.seq ?_
      refine AWP.region ?_
      refine OPS.p rfl (st_assign rfl) ?_
      refine OPS.nil ?_
      refine AWP.seq ?_
      refine AWP.seq ?_
      refine AWP.region ?_
      refine OPS.p rfl (st_assign rfl) ?_
      refine OPS.nil ?_
      refine AWP.block ?_
      refine AWP.loopR (σ := Nat × Bool) (fun (zz : Nat × Bool) => ⟨[(2, pL x), (11, pPs a), (12, pPs b), (13, pEs es), (14, pPs s), (15, .ptr 0 0), (16, pI i), (17, .ptr 1 0), (18, pB zz.2), (19, pI zz.1)], [(0, .var ((eV point).map .cell)), (1, .var ((eV r).map .cell))], 2⟩) (fun (zz : Nat × Bool) => zz.1 ≤ es.length ∧ zz.2 = inQ (es.take zz.1) r) (fun (zz : Nat × Bool) => es.length - zz.1) (0, true) (Sub.r (Sub.mk' ⟨(by rfl), (by rfl), (by rfl), (by rfl), (by rfl), (by rfl), (by rfl), (by rfl), (by rfl), (by rfl), trivial⟩ ⟨(by rfl), (by rfl), trivial⟩ (by exact Nat.le_refl _))) (by exact ⟨Nat.zero_le _, rfl⟩) ?_
      rintro ⟨k, w⟩ hinv
      have hinv : k ≤ es.length ∧ w = inQ (es.take k) r := hinv
      obtain ⟨k1, k2⟩ := hinv
      show AWP _ _ _ _ _ _ _ ⟨[(2, pL x), (11, pPs a), (12, pPs b), (13, pEs es), (14, pPs s), (15, .ptr 0 0), (16, pI i), (17, .ptr 1 0), (18, pB w), (19, pI k)], [(0, .var ((eV point).map .cell)), (1, .var ((eV r).map .cell))], 2⟩
      refine AWP.seq ?_
      refine AWP.seq ?_
      refine AWP.region ?_
      refine OPS.p rfl (st_move rfl) ?_
      refine OPS.p rfl (st_move rfl) ?_
      refine OPS.p rfl (st_len un25 rfl rfl) ?_
      refine OPS.p rfl (st_lss rfl rfl) ?_
      refine OPS.nil ?_
      refine AWP.condD rfl (fun hc14 => ?_) (fun hc14 => ?_)
      · have hk : k < es.length := by omega
        have hn := hdr _ (getD_mem hk)
        have ht := hat _ (getD_mem hk)
        have hsm := dir_small hn
        have hst := all_take (fun e => decide (cmpQ (dotQ e.1 r) (qi e.2) ≤ 0)) hk
        refine AWP.skip ?_
        refine AWP.seq ?_
        refine AWP.block ?_
        refine AWP.drw mixed ?_
        refine DRW.p rfl (st_move rfl) ?_
        refine DRW.p rfl (st_move rfl) ?_
        refine DRW.splitB (g := 70) rfl (fun eg16_1 g16_1 => ?_) (fun eg16_1 g16_1 => ?_)
        · refine DRW.pG rfl rfl rfl eg16_1 (st_move rfl) ?_
          refine DRW.pG rfl rfl rfl eg16_1 (st_move rfl) ?_
          refine DRW.pG rfl rfl rfl eg16_1 (by exact st_index_R es25 rfl rfl (fun _ => rfl) rfl (by omega) (by omega) (by rfl)) ?_
          refine DRW.pG rfl rfl rfl eg16_1 (by exact st_field_f off40_0 rfl) ?_
          refine DRW.pG rfl rfl rfl eg16_1 (by exact st_load_RAn ag38 rfl (fun _ => rfl) rfl (by omega) rfl rfl) ?_
          refine DRW.pG rfl rfl rfl eg16_1 (by exact st_load_va ag33 rfl rfl rfl rfl) ?_
          refine DRW.pG rfl rfl rfl eg16_1 (st_call (L := [((.tmp 75), _), ((.tmp 76), _)]) false pl13 ⟨rfl, rfl, trivial⟩ rfl (k_Dot (es.getD k default).1 r (dir_Sd hn) (qr.1.mono (by omega) (by omega)) (qr.2.mono (by omega) (by omega))) rfl) ?_
          refine DRW.pG rfl rfl rfl eg16_1 (st_move rfl) ?_
          refine DRW.pG rfl rfl rfl eg16_1 (st_move rfl) ?_
          refine DRW.pG rfl rfl rfl eg16_1 (by exact st_index_R es25 rfl rfl (fun _ => rfl) rfl (by omega) (by omega) (by rfl)) ?_
          refine DRW.pG rfl rfl rfl eg16_1 (by exact st_field_f off40_1 rfl) ?_
          refine DRW.pG rfl rfl rfl eg16_1 (by exact st_load_RFn sc3 rfl (fun _ => rfl) rfl (by omega) rfl) ?_
          refine DRW.pG rfl rfl rfl eg16_1 (st_call (L := [((.tmp 82), _), ((.const (.int .i64 1)), _)]) false pl14 ⟨rfl, rfl, trivial⟩ rfl (k_qOf (es.getD k default).2 1 (show _ < _ by omega) (show _ < _ by omega)) rfl) ?_
          refine DRW.pG rfl rfl rfl eg16_1 (st_call (L := [((.tmp 77), _), ((.tmp 83), _)]) false pl12 ⟨rfl, rfl, trivial⟩ rfl (b_qCompare _ _ _ _ (qb_add (qb_mul (qb_qi (n := (es.getD k default).1.1) (N := 5) (by omega)) qr.1) (qb_mul (qb_qi (n := (es.getD k default).1.2.1) (N := 5) (by omega)) qr.2)) (qb_qi (n := (es.getD k default).2) (N := 101000) (by omega)) rfl rfl rfl rfl rfl rfl) rfl) ?_
          refine DRW.pG rfl rfl rfl eg16_1 (st_leq rfl rfl) ?_
          refine DRW.p rfl (st_pickT rfl eg16_1 rfl) ?_
          refine DRW.p rfl (st_assign rfl) ?_
          refine DRW.nil (by kernel_rfl) ?_
          refine AWP.region ?_
          refine OPS.p rfl (st_move rfl) ?_
          refine OPS.p rfl (by exact st_add_i rfl rfl (by omega) (by omega)) ?_
          refine OPS.p rfl (st_assign rfl) ?_
          refine OPS.nil ?_
          refine ⟨(k + 1, decide (cmpQ (dotQ (es.getD k default).1 r) (qi (es.getD k default).2) ≤ 0)), (Sub.r (Sub.mk' ⟨(by rfl), (by rfl), (by rfl), (by rfl), (by rfl), (by rfl), (by rfl), (by rfl), (by rfl), (by rfl), trivial⟩ ⟨(by rfl), (by rfl), trivial⟩ (by exact Nat.le_refl _))), ?_, ?_⟩
          · try dsimp only
            refine ⟨by omega, ?_⟩
            rw [inQ, hst, ← inQ, ← k2, eg16_1]
            rfl
          · try dsimp only
            omega
        · refine DRW.nO rfl rfl rfl eg16_1 ?_
          refine DRW.nO rfl rfl rfl eg16_1 ?_
          refine DRW.nO rfl rfl rfl eg16_1 ?_
          refine DRW.nO rfl rfl rfl eg16_1 ?_
          refine DRW.nO rfl rfl rfl eg16_1 ?_
          refine DRW.nO rfl rfl rfl eg16_1 ?_
          refine DRW.nO rfl rfl rfl eg16_1 ?_
          refine DRW.nO rfl rfl rfl eg16_1 ?_
          refine DRW.nO rfl rfl rfl eg16_1 ?_
          refine DRW.nO rfl rfl rfl eg16_1 ?_
          refine DRW.nO rfl rfl rfl eg16_1 ?_
          refine DRW.nO rfl rfl rfl eg16_1 ?_
          refine DRW.nO rfl rfl rfl eg16_1 ?_
          refine DRW.nO rfl rfl rfl eg16_1 ?_
          refine DRW.nO rfl rfl rfl eg16_1 ?_
          refine DRW.p rfl (st_pickF rfl eg16_1 rfl) ?_
          refine DRW.p rfl (st_assign rfl) ?_
          refine DRW.nil (by kernel_rfl) ?_
          refine AWP.region ?_
          refine OPS.p rfl (st_move rfl) ?_
          refine OPS.p rfl (by exact st_add_i rfl rfl (by omega) (by omega)) ?_
          refine OPS.p rfl (st_assign rfl) ?_
          refine OPS.nil ?_
          refine ⟨(k + 1, false), (Sub.r (Sub.mk' ⟨(by rfl), (by rfl), (by rfl), (by rfl), (by rfl), (by rfl), (by rfl), (by rfl), (by rfl), (by rfl), trivial⟩ ⟨(by rfl), (by rfl), trivial⟩ (by exact Nat.le_refl _))), ?_, ?_⟩
          · try dsimp only
            refine ⟨by omega, ?_⟩
            rw [inQ, hst, ← inQ, ← k2, eg16_1]
            rfl
          · try dsimp only
            omega
      · have hk : k = es.length := by omega
        rw [hk, List.take_length] at k2
        have qm := qb_sub qp.1 qr.1
        have qn := qb_sub qp.2 qr.2
        refine AWP.exit ?_
        refine AWP.seq ?_
        refine AWP.drw mixed ?_
        refine DRW.p rfl (by exact st_field_p off33_0 rfl) ?_
        refine DRW.p rfl (by exact st_load_va ag31 rfl rfl rfl rfl) ?_
        refine DRW.p rfl (by exact st_field_p off33_0 rfl) ?_
        refine DRW.p rfl (by exact st_load_va ag31 rfl rfl rfl rfl) ?_
        refine DRW.p rfl (st_call (L := [((.tmp 88), _), ((.tmp 90), _)]) false pl15 ⟨rfl, rfl, trivial⟩ rfl (b_qSub _ _ _ _ qp.1 qr.1 rfl rfl rfl rfl rfl rfl rfl rfl) rfl) ?_
        refine DRW.p rfl (by exact st_field_p off33_1 rfl) ?_
        refine DRW.p rfl (by exact st_load_va ag31 rfl rfl rfl rfl) ?_
        refine DRW.p rfl (by exact st_field_p off33_1 rfl) ?_
        refine DRW.p rfl (by exact st_load_va ag31 rfl rfl rfl rfl) ?_
        refine DRW.p rfl (st_call (L := [((.tmp 93), _), ((.tmp 95), _)]) false pl15 ⟨rfl, rfl, trivial⟩ rfl (b_qSub _ _ _ _ qp.2 qr.2 rfl rfl rfl rfl rfl rfl rfl rfl) rfl) ?_
        refine DRW.p rfl (st_build (L := [(0, (.tmp 91), _), (1, (.tmp 96), _)]) zf33 pl_33 ⟨rfl, rfl, trivial⟩ rfl rfl) ?_
        refine DRW.a rfl (st_alloc ze33) ?_
        refine DRW.s (by exact st_store_v sz33 rfl rfl rfl rfl rfl rfl) ?_
        refine DRW.nil (by kernel_rfl) ?_
        refine AWP.seq ?_
        refine AWP.region ?_
        refine OPS.p rfl (st_move rfl) ?_
        refine OPS.p rfl (by exact st_load_va ag33 rfl rfl rfl rfl) ?_
        refine OPS.p rfl (st_call (L := [((.tmp 98), _), ((.tmp 99), _)]) false pl16 ⟨rfl, rfl, trivial⟩ rfl (h1) rfl) ?_
        refine OPS.p rfl (st_move rfl) ?_
        refine OPS.splitB (g := 101) rfl (fun eg18_3 g18_3 => ?_) (fun eg18_3 g18_3 => ?_)
        · refine OPS.pG rfl rfl rfl eg18_3 (st_move rfl) ?_
          refine OPS.pG rfl rfl rfl eg18_3 (by exact st_load_va ag33 rfl rfl rfl rfl) ?_
          refine OPS.pG rfl rfl rfl eg18_3 (st_call (L := [((.tmp 102), _), ((.tmp 103), _)]) false pl16 ⟨rfl, rfl, trivial⟩ rfl (k_Has b (point.1 - r.1, point.2 - r.2) (by omega) sB (qm.mono (by omega) (by omega)) (qn.mono (by omega) (by omega))) rfl) ?_
          refine OPS.p rfl (st_pickT rfl eg18_3 rfl) ?_
          refine OPS.p rfl (st_move rfl) ?_
          refine OPS.splitB (g := 106) rfl (fun eg18_8 g18_8 => ?_) (fun eg18_8 g18_8 => ?_)
          · refine OPS.pG rfl rfl rfl eg18_8 (st_move rfl) ?_
            refine OPS.pG rfl rfl rfl eg18_8 (by exact st_not rfl) ?_
            refine OPS.p rfl (st_pickT rfl eg18_8 rfl) ?_
            refine OPS.p rfl (st_move rfl) ?_
            refine OPS.pG rfl rfl rfl ((by rw [k2, hap r eg18_3 eg18_8]; rfl)) (st_move rfl) ?_
            refine OPS.pG rfl rfl rfl ((by rw [k2, hap r eg18_3 eg18_8]; rfl)) (by exact st_load_va ag33 rfl rfl rfl rfl) ?_
            refine OPS.pG rfl rfl rfl ((by rw [k2, hap r eg18_3 eg18_8]; rfl)) (st_call (L := [((.tmp 111), _), ((.tmp 112), _)]) false pl16 ⟨rfl, rfl, trivial⟩ rfl (k_Has s r (by omega) sS (qr.1.mono (by omega) (by omega)) (qr.2.mono (by omega) (by omega))) rfl) ?_
            refine OPS.pG rfl rfl rfl ((by rw [k2, hap r eg18_3 eg18_8]; rfl)) (st_move rfl) ?_
            refine OPS.pG rfl rfl rfl ((by rw [k2, hap r eg18_3 eg18_8]; rfl)) (st_neq_b rfl rfl un4) ?_
            refine OPS.p rfl (st_pickF rfl ((by rw [k2, hap r eg18_3 eg18_8]; rfl)) rfl) ?_
            refine OPS.nil ?_
            refine AWP.cond_f rfl ((by rw [hin r, ← k2]; cases w <;> rfl)) ?_
            refine AWP.skip ?_
            refine AWP.region ?_
            refine OPS.p rfl (st_move rfl) ?_
            refine OPS.p rfl (by exact st_add_i rfl rfl (by omega) (by omega)) ?_
            refine OPS.p rfl (st_assign rfl) ?_
            refine OPS.nil ?_
            refine ⟨(i + 2), (Ren.r (Ren.mk' (ρ := [(0, 0)]) rfl ⟨(by rfl), (by rfl), (by rfl), (by rfl), (by rfl), (by rfl), (by rfl), trivial⟩ ⟨(by rfl), trivial⟩)), ?_, ?_⟩
            · try dsimp only
              omega
            · try dsimp only
              omega
          · refine OPS.nO rfl rfl rfl eg18_8 ?_
            refine OPS.nO rfl rfl rfl eg18_8 ?_
            refine OPS.p rfl (st_pickF rfl eg18_8 rfl) ?_
            refine OPS.p rfl (st_move rfl) ?_
            refine OPS.pG rfl rfl rfl (rfl) (st_move rfl) ?_
            refine OPS.pG rfl rfl rfl (rfl) (by exact st_load_va ag33 rfl rfl rfl rfl) ?_
            refine OPS.pG rfl rfl rfl (rfl) (st_call (L := [((.tmp 111), _), ((.tmp 112), _)]) false pl16 ⟨rfl, rfl, trivial⟩ rfl (k_Has s r (by omega) sS (qr.1.mono (by omega) (by omega)) (qr.2.mono (by omega) (by omega))) rfl) ?_
            refine OPS.pG rfl rfl rfl (rfl) (st_move rfl) ?_
            refine OPS.pG rfl rfl rfl (rfl) (st_neq_b rfl rfl un4) ?_
            refine OPS.p rfl (st_pickF rfl (rfl) rfl) ?_
            refine OPS.nil ?_
            refine AWP.cond_f rfl ((by rw [hin r, ← k2]; cases w <;> rfl)) ?_
            refine AWP.skip ?_
            refine AWP.region ?_
            refine OPS.p rfl (st_move rfl) ?_
            refine OPS.p rfl (by exact st_add_i rfl rfl (by omega) (by omega)) ?_
            refine OPS.p rfl (st_assign rfl) ?_
            refine OPS.nil ?_
            refine ⟨(i + 2), (Ren.r (Ren.mk' (ρ := [(0, 0)]) rfl ⟨(by rfl), (by rfl), (by rfl), (by rfl), (by rfl), (by rfl), (by rfl), trivial⟩ ⟨(by rfl), trivial⟩)), ?_, ?_⟩
            · try dsimp only
              omega
            · try dsimp only
              omega
        · refine OPS.nO rfl rfl rfl eg18_3 ?_
          refine OPS.nO rfl rfl rfl eg18_3 ?_
          refine OPS.nO rfl rfl rfl eg18_3 ?_
          refine OPS.p rfl (st_pickF rfl eg18_3 rfl) ?_
          refine OPS.p rfl (st_move rfl) ?_
          refine OPS.nO rfl rfl rfl (rfl) ?_
          refine OPS.nO rfl rfl rfl (rfl) ?_
          refine OPS.p rfl (st_pickF rfl (rfl) rfl) ?_
          refine OPS.p rfl (st_move rfl) ?_
          refine OPS.pG rfl rfl rfl (rfl) (st_move rfl) ?_
          refine OPS.pG rfl rfl rfl (rfl) (by exact st_load_va ag33 rfl rfl rfl rfl) ?_
          refine OPS.pG rfl rfl rfl (rfl) (st_call (L := [((.tmp 111), _), ((.tmp 112), _)]) false pl16 ⟨rfl, rfl, trivial⟩ rfl (k_Has s r (by omega) sS (qr.1.mono (by omega) (by omega)) (qr.2.mono (by omega) (by omega))) rfl) ?_
          refine OPS.pG rfl rfl rfl (rfl) (st_move rfl) ?_
          refine OPS.pG rfl rfl rfl (rfl) (st_neq_b rfl rfl un4) ?_
          refine OPS.p rfl (st_pickF rfl (rfl) rfl) ?_
          refine OPS.nil ?_
          refine AWP.cond_f rfl ((by rw [hin r, ← k2]; cases w <;> rfl)) ?_
          refine AWP.skip ?_
          refine AWP.region ?_
          refine OPS.p rfl (st_move rfl) ?_
          refine OPS.p rfl (by exact st_add_i rfl rfl (by omega) (by omega)) ?_
          refine OPS.p rfl (st_assign rfl) ?_
          refine OPS.nil ?_
          refine ⟨(i + 2), (Ren.r (Ren.mk' (ρ := [(0, 0)]) rfl ⟨(by rfl), (by rfl), (by rfl), (by rfl), (by rfl), (by rfl), (by rfl), trivial⟩ ⟨(by rfl), trivial⟩)), ?_, ?_⟩
          · try dsimp only
            omega
          · try dsimp only
            omega
    · refine AWP.exit ?_
      refine AWP.seq ?_
      refine AWP.region ?_
      refine OPS.p rfl (st_call (L := []) false pl17 trivial rfl (k_lives12) rfl) ?_
      refine OPS.p rfl (st_assign rfl) ?_
      refine OPS.nil ?_
      refine AWP.ret ?_
      exact Ret.mk rfl rfl
  · refine OPS.nO rfl rfl rfl eg9_5 ?_
    refine OPS.nO rfl rfl rfl eg9_5 ?_
    refine OPS.p rfl (st_pickF rfl eg9_5 rfl) ?_
    refine OPS.nil ?_
    refine AWP.cond_f rfl (rfl) ?_
    refine AWP.exit ?_
    refine AWP.seq ?_
    refine AWP.region ?_
    refine OPS.p rfl (st_call (L := []) false pl17 trivial rfl (k_lives12) rfl) ?_
    refine OPS.p rfl (st_assign rfl) ?_
    refine OPS.nil ?_
    refine AWP.ret ?_
    exact Ret.mk rfl rfl
end Go.Proofs.Gh.Try
end
