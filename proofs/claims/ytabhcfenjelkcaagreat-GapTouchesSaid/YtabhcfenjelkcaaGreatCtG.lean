/-
  Contracts: the best edge, contact.
  Contracts: the reference's vectors; equal numbers.
  Plain: what the test on a polynomial of the second degree says; its steps fit.
  Contracts: the section's examples.
  Plain laws of gaps.
-/
import Derived.Test.YtabhcfenjelkcaaGreatCtF
import Derived.Test.YtabhcfenjelkcaaGreatCtD
import Derived.Test.YtabhcfenjelkcaaGreatCtE
section
set_option linter.unusedVariables false
set_option linter.unusedSimpArgs false
set_option maxRecDepth 4000
namespace Go.Proofs.Gh.Tryz
open Go Go.Proofs Go.Proofs.Gh

theorem fit_of {n N : Nat} (h : n ≤ N) (h' : Nat.ble N 999999999999999999999999999 = true) : Fit n := by
  rw [Nat.ble_eq] at h'
  have := @digs_big n
  unfold Fit
  omega
theorem k_Best1 (e : Ed) (r s : Rat × Rat) (he : SE e) (hr : QV 100000 4000 r) (hs : QV 100000 4000 s) : PureC Tryz.prog 185 [pE e, .fptr (eV s), .fptr (eV r)] (.tup [pQ (gapQ e s), pB (gapP r e)]) := by
  refine PureC.of Tryz.func185 rfl Tryz.ntmps185 (vs := [.cell 4 31, .tmp 5]) rfl (Nat.le_of_ble_eq_true rfl) rfl fun cx _ _ => ?_
  refine AWP.seq ?_
  refine AWP.region ?_
  refine OPS.a rfl (st_box rfl rfl) ?_
  refine OPS.a rfl (st_alloc ze31) ?_
  refine OPS.p rfl (st_assign rfl) ?_
  refine OPS.nil ?_
  refine AWP.seq ?_
  refine AWP.drw mixed ?_
  refine DRW.p rfl (by exact st_load_va ag83 rfl rfl rfl rfl) ?_
  refine DRW.p rfl (by exact st_load_fa ag72 rfl (by exact Nat.le_refl _)) ?_
  refine DRW.p rfl (st_call (L := [((.tmp 6), _), ((.tmp 7), _)]) false pl70 ⟨rfl, rfl, trivial⟩ rfl (k_Gap e s he hs) rfl) ?_
  refine DRW.p rfl (by exact st_load_va ag83 rfl rfl rfl rfl) ?_
  refine DRW.p rfl (by exact st_load_fa ag72 rfl (by exact Nat.le_refl _)) ?_
  refine DRW.p rfl (st_call (L := [((.tmp 9), _), ((.tmp 10), _)]) false pl70 ⟨rfl, rfl, trivial⟩ rfl (k_Gap e r he hr) rfl) ?_
  refine DRW.p rfl (st_call (L := [((.tmp 11), _)]) false pl69 ⟨rfl, trivial⟩ rfl (k_qSign (gapQ e r)) rfl) ?_
  refine DRW.p rfl (st_geq rfl rfl) ?_
  refine DRW.s (by exact st_store_v sz31 rfl rfl rfl rfl rfl rfl) ?_
  refine DRW.p rfl (st_assign rfl) ?_
  refine DRW.nil (by kernel_rfl) ?_
  refine AWP.ret ?_
  exact Ret.mk rfl rfl
theorem b_gaps {e e' : Ed} {v : Rat × Rat} (he : SE e) (he' : SE e') (hv : QV 100000 4000 v) : PureC Tryz.prog 128 [pQ (gapQ e v), pQ (gapQ e' v)] (pI (cmpQ (gapQ e v) (gapQ e' v))) := by
  have h1 := qb_mono (gapQ_qb he hv) (N' := 8200000000000) (D' := 400000000) (Nat.le_of_ble_eq_true rfl) (Nat.le_of_ble_eq_true rfl)
  have h2 := qb_mono (gapQ_qb he' hv) (N' := 8200000000000) (D' := 400000000) (Nat.le_of_ble_eq_true rfl) (Nat.le_of_ble_eq_true rfl)
  have hc := qb_cross h1 h2
  exact k_qCompare _ _ (ft h1.1 rfl) (ft h2.1 rfl) (ft h1.2 rfl) (ft h2.2 rfl) (fit_of hc.1 rfl) (fit_of hc.2.1 rfl)
theorem k_Best (l : List Ed) (r s : Rat × Rat) (hl : l.length ≤ 1000) (he : ∀ e ∈ l, SE e) (hr : QV 100000 4000 r) (hs : QV 100000 4000 s) : PureC Tryz.prog 71 [pEs l, pV r, pV s] (pI (grI (fun e => gapQ e s) (gapP r) l l.length)) := by
  refine PureC.of Tryz.func71 rfl Tryz.ntmps71 (vs := [.tmp 6]) rfl (Nat.le_of_ble_eq_true rfl) rfl fun cx _ _ => ?_
  refine AWP.seq ?_
  refine AWP.region ?_
  refine OPS.a rfl (st_box rfl rfl) ?_
  refine OPS.a rfl (st_box rfl rfl) ?_
  refine OPS.p rfl (st_assign rfl) ?_
  refine OPS.nil ?_
  refine AWP.seq ?_
  refine AWP.region ?_
  refine OPS.p rfl (st_move rfl) ?_
  refine OPS.p rfl (st_makeFunc (L := [((.tmp 5), _), ((.tmp 4), _)]) ⟨rfl, rfl, trivial⟩) ?_
  refine OPS.p rfl (st_call (L := [((.tmp 7), _), ((.tmp 8), _)]) false pl184 ⟨rfl, rfl, trivial⟩ rfl (k_greatest l 185 [eV s, eV r] (fun e => gapQ e s) (gapP r) hl rfl (fun e hm => k_Best1 e r s (he e hm) hr hs) (fun a ha b hb => b_gaps (he a ha) (he b hb) hs)) rfl) ?_
  refine OPS.p rfl (st_assign rfl) ?_
  refine OPS.nil ?_
  refine AWP.ret ?_
  exact Ret.mk rfl rfl

def openP (r v : Rat × Rat) (e : Ed) : Bool := decide (0 < (gapQ e r).num.sign) || (decide ((gapQ e r).num.sign = 0) && decide (0 < (rateQ e.1 v).num.sign))
def zeroP (r : Rat × Rat) (e : Ed) : Bool := decide ((gapQ e r).num.sign = 0)
theorem k_Contact1 (e : Ed) (r v : Rat × Rat) (he : SE e) (hr : QV 100000 4000 r) (hv : QV 100000 4000 v) : PureC Tryz.prog 189 [pE e, .fptr (eV r), .fptr (eV v)] (pB (openP r v e)) := by
  refine PureC.of Tryz.func189 rfl Tryz.ntmps189 (vs := [.tmp 4]) rfl (Nat.le_of_ble_eq_true rfl) rfl fun cx _ _ => ?_
  refine AWP.seq ?_
  refine AWP.region ?_
  refine OPS.a rfl (st_box rfl rfl) ?_
  refine OPS.p rfl (st_assign rfl) ?_
  refine OPS.nil ?_
  refine AWP.seq ?_
  refine AWP.region ?_
  refine OPS.p rfl (by exact st_load_va ag83 rfl rfl rfl rfl) ?_
  refine OPS.p rfl (by exact st_load_fa ag72 rfl (by exact Nat.le_refl _)) ?_
  refine OPS.p rfl (st_call (L := [((.tmp 6), _), ((.tmp 7), _)]) false pl70 ⟨rfl, rfl, trivial⟩ rfl (k_Gap e r he hr) rfl) ?_
  refine OPS.p rfl (st_call (L := [((.tmp 8), _)]) false pl69 ⟨rfl, trivial⟩ rfl (k_qSign (gapQ e r)) rfl) ?_
  refine OPS.p rfl (st_assign rfl) ?_
  refine OPS.nil ?_
  refine AWP.seq ?_
  refine AWP.region ?_
  refine OPS.p rfl (st_move rfl) ?_
  refine OPS.p rfl (st_gtr rfl rfl) ?_
  refine OPS.p rfl (st_move rfl) ?_
  refine OPS.split (g := 12) rfl (fun eg2_2 g2_2 => ?_) (fun eg2_2 g2_2 => ?_)
  · refine OPS.nO rfl rfl rfl eg2_2 ?_
    refine OPS.nO rfl rfl rfl eg2_2 ?_
    refine OPS.nO rfl rfl rfl eg2_2 ?_
    refine OPS.nT rfl rfl rfl ?_
    refine OPS.nT rfl rfl rfl ?_
    refine OPS.nT rfl rfl rfl ?_
    refine OPS.nT rfl rfl rfl ?_
    refine OPS.nT rfl rfl rfl ?_
    refine OPS.nT rfl rfl rfl ?_
    refine OPS.nO rfl rfl rfl eg2_2 ?_
    refine OPS.p rfl (st_pickT rfl eg2_2 rfl) ?_
    refine OPS.p rfl (st_assign rfl) ?_
    refine OPS.nil ?_
    refine AWP.ret ?_
    exact Ret.mk rfl (congrArg pB (by rw [openP, decide_eq_true g2_2]; rfl))
  · refine OPS.pG rfl rfl rfl eg2_2 (st_move rfl) ?_
    refine OPS.pG rfl rfl rfl eg2_2 (st_eql rfl rfl) ?_
    refine OPS.pG rfl rfl rfl eg2_2 (st_move rfl) ?_
    refine OPS.split (g := 15) rfl (fun eg2_5 g2_5 => ?_) (fun eg2_5 g2_5 => ?_)
    · refine OPS.pG rfl rfl rfl eg2_5 (by exact st_field_p off83_0 rfl) ?_
      refine OPS.pG rfl rfl rfl eg2_5 (by exact st_load_va ag81 rfl rfl rfl rfl) ?_
      refine OPS.pG rfl rfl rfl eg2_5 (by exact st_load_fa ag72 rfl (by exact Nat.le_refl _)) ?_
      refine OPS.pG rfl rfl rfl eg2_5 (st_call (L := [((.tmp 17), _), ((.tmp 18), _)]) false pl183 ⟨rfl, rfl, trivial⟩ rfl (k_rate e.1 v he.1 hv) rfl) ?_
      refine OPS.pG rfl rfl rfl eg2_5 (st_call (L := [((.tmp 19), _)]) false pl69 ⟨rfl, trivial⟩ rfl (k_qSign (rateQ e.1 v)) rfl) ?_
      refine OPS.pG rfl rfl rfl eg2_5 (st_gtr rfl rfl) ?_
      refine OPS.pG rfl rfl rfl eg2_2 (st_pickT rfl eg2_5 rfl) ?_
      refine OPS.p rfl (st_pickF rfl eg2_2 rfl) ?_
      refine OPS.p rfl (st_assign rfl) ?_
      refine OPS.nil ?_
      refine AWP.ret ?_
      exact Ret.mk rfl (congrArg pB (by rw [openP, decide_eq_false g2_2, decide_eq_true g2_5]; rfl))
    · refine OPS.nO rfl rfl rfl eg2_5 ?_
      refine OPS.nO rfl rfl rfl eg2_5 ?_
      refine OPS.nO rfl rfl rfl eg2_5 ?_
      refine OPS.nO rfl rfl rfl eg2_5 ?_
      refine OPS.nO rfl rfl rfl eg2_5 ?_
      refine OPS.nO rfl rfl rfl eg2_5 ?_
      refine OPS.pG rfl rfl rfl eg2_2 (st_pickF rfl eg2_5 rfl) ?_
      refine OPS.p rfl (st_pickF rfl eg2_2 rfl) ?_
      refine OPS.p rfl (st_assign rfl) ?_
      refine OPS.nil ?_
      refine AWP.ret ?_
      exact Ret.mk rfl (congrArg pB (by rw [openP, decide_eq_false g2_2, decide_eq_false g2_5]; rfl))
theorem k_Contact2 (e : Ed) (r v : Rat × Rat) (he : SE e) (hr : QV 100000 4000 r) (hv : QV 100000 4000 v) : PureC Tryz.prog 190 [pE e, .fptr (eV v), .fptr (eV r)] (.tup [pQ (rateQ e.1 v), pB (zeroP r e)]) := by
  refine PureC.of Tryz.func190 rfl Tryz.ntmps190 (vs := [.cell 4 31, .tmp 5]) rfl (Nat.le_of_ble_eq_true rfl) rfl fun cx _ _ => ?_
  refine AWP.seq ?_
  refine AWP.region ?_
  refine OPS.a rfl (st_box rfl rfl) ?_
  refine OPS.a rfl (st_alloc ze31) ?_
  refine OPS.p rfl (st_assign rfl) ?_
  refine OPS.nil ?_
  refine AWP.seq ?_
  refine AWP.drw mixed ?_
  refine DRW.p rfl (by exact st_field_p off83_0 rfl) ?_
  refine DRW.p rfl (by exact st_load_va ag81 rfl rfl rfl rfl) ?_
  refine DRW.p rfl (by exact st_load_fa ag72 rfl (by exact Nat.le_refl _)) ?_
  refine DRW.p rfl (st_call (L := [((.tmp 7), _), ((.tmp 8), _)]) false pl183 ⟨rfl, rfl, trivial⟩ rfl (k_rate e.1 v he.1 hv) rfl) ?_
  refine DRW.p rfl (by exact st_load_va ag83 rfl rfl rfl rfl) ?_
  refine DRW.p rfl (by exact st_load_fa ag72 rfl (by exact Nat.le_refl _)) ?_
  refine DRW.p rfl (st_call (L := [((.tmp 10), _), ((.tmp 11), _)]) false pl70 ⟨rfl, rfl, trivial⟩ rfl (k_Gap e r he hr) rfl) ?_
  refine DRW.p rfl (st_call (L := [((.tmp 12), _)]) false pl69 ⟨rfl, trivial⟩ rfl (k_qSign (gapQ e r)) rfl) ?_
  refine DRW.p rfl (st_eql rfl rfl) ?_
  refine DRW.s (by exact st_store_v sz31 rfl rfl rfl rfl rfl rfl) ?_
  refine DRW.p rfl (st_assign rfl) ?_
  refine DRW.nil (by kernel_rfl) ?_
  refine AWP.ret ?_
  exact Ret.mk rfl rfl
theorem b_rates {e e' : Ed} {v : Rat × Rat} (he : SE e) (he' : SE e') (hv : QV 100000 4000 v) : PureC Tryz.prog 128 [pQ (rateQ e.1 v), pQ (rateQ e'.1 v)] (pI (cmpQ (rateQ e.1 v) (rateQ e'.1 v))) :=
  b_qCompare _ _ _ _ (rateQ_qb he.1 hv) (rateQ_qb he'.1 hv) rfl rfl rfl rfl rfl rfl
def contactI (l : List Ed) (r v : Rat × Rat) : Int := if l.any (openP r v) = true then -1 else grI (fun e => rateQ e.1 v) (zeroP r) l l.length
theorem k_Contact (l : List Ed) (r v : Rat × Rat) (hl : l.length ≤ 1000) (he : ∀ e ∈ l, SE e) (hr : QV 100000 4000 r) (hv : QV 100000 4000 v) : PureC Tryz.prog 74 [pEs l, pV r, pV v] (pI (contactI l r v)) := by
  refine PureC.of Tryz.func74 rfl Tryz.ntmps74 (vs := [.tmp 6]) rfl (Nat.le_of_ble_eq_true rfl) rfl fun cx _ _ => ?_
  refine AWP.seq ?_
  refine AWP.region ?_
  refine OPS.a rfl (st_box rfl rfl) ?_
  refine OPS.a rfl (st_box rfl rfl) ?_
  refine OPS.p rfl (st_assign rfl) ?_
  refine OPS.nil ?_
  refine AWP.seq ?_
  refine AWP.region ?_
  refine OPS.p rfl (st_makeFunc (L := [((.tmp 4), _), ((.tmp 5), _)]) ⟨rfl, rfl, trivial⟩) ?_
  refine OPS.p rfl (st_assign rfl) ?_
  refine OPS.nil ?_
  refine AWP.seq ?_
  refine AWP.seq ?_
  refine AWP.region ?_
  refine OPS.p rfl (st_move rfl) ?_
  refine OPS.p rfl (st_move rfl) ?_
  refine OPS.p rfl (st_call (L := [((.tmp 9), _), ((.tmp 10), _)]) false pl162 ⟨rfl, rfl, trivial⟩ rfl (k_ContainsE l 189 [eV r, eV v] (openP r v) hl rfl (fun e hm => k_Contact1 e r v (he e hm) hr hv)) rfl) ?_
  refine OPS.nil ?_
  refine AWP.cond rfl (fun hc2 => ?_) (fun hc2 => ?_)
  · refine AWP.seq ?_
    refine AWP.region ?_
    refine OPS.p rfl (st_assign rfl) ?_
    refine OPS.nil ?_
    refine AWP.ret ?_
    exact Ret.mk rfl (congrArg pI (by rw [contactI, if_pos hc2]))
  · refine AWP.skip ?_
    refine AWP.seq ?_
    refine AWP.region ?_
    refine OPS.p rfl (st_move rfl) ?_
    refine OPS.p rfl (st_makeFunc (L := [((.tmp 5), _), ((.tmp 4), _)]) ⟨rfl, rfl, trivial⟩) ?_
    refine OPS.p rfl (st_call (L := [((.tmp 12), _), ((.tmp 13), _)]) false pl184 ⟨rfl, rfl, trivial⟩ rfl (k_greatest l 190 [eV v, eV r] (fun e => rateQ e.1 v) (zeroP r) hl rfl (fun e hm => k_Contact2 e r v (he e hm) hr hv) (fun a ha b hb => b_rates (he a ha) (he b hb) hv)) rfl) ?_
    refine OPS.p rfl (st_assign rfl) ?_
    refine OPS.nil ?_
    refine AWP.ret ?_
    exact Ret.mk rfl (congrArg pI (by rw [contactI, if_neg (by rw [hc2]; simp)]))
end Go.Proofs.Gh.Tryz
end
section
set_option linter.unusedVariables false
set_option linter.unusedSimpArgs false
set_option maxRecDepth 4000
namespace Go.Proofs.Gh.Tryz
open Go Go.Proofs Go.Proofs.Gh

def plusV (v w : Rat × Rat) : Rat × Rat := (v.1 + w.1, v.2 + w.2)
def timesV (k : Rat) (v : Rat × Rat) : Rat × Rat := (k * v.1, k * v.2)
theorem k_Plus (v w : Rat × Rat) (h1 : PureC Tryz.prog 37 [pQ v.1, pQ w.1] (pQ (v.1 + w.1))) (h2 : PureC Tryz.prog 37 [pQ v.2, pQ w.2] (pQ (v.2 + w.2))) : PureC Tryz.prog 65 [pV v, pV w] (pV (plusV v w)) := by
  refine PureC.of Tryz.func65 rfl Tryz.ntmps65 (vs := [.cell 4 72]) rfl (Nat.le_of_ble_eq_true rfl) rfl fun cx _ _ => ?_
  refine AWP.seq ?_
  refine AWP.region ?_
  refine OPS.a rfl (st_box rfl rfl) ?_
  refine OPS.a rfl (st_box rfl rfl) ?_
  refine OPS.a rfl (st_alloc ze72) ?_
  refine OPS.nil ?_
  refine AWP.seq ?_
  refine AWP.drw mixed ?_
  refine DRW.p rfl (by exact st_field_p off72_0 rfl) ?_
  refine DRW.p rfl (by exact st_load_va ag31 rfl rfl rfl rfl) ?_
  refine DRW.p rfl (by exact st_field_p off72_0 rfl) ?_
  refine DRW.p rfl (by exact st_load_va ag31 rfl rfl rfl rfl) ?_
  refine DRW.p rfl (st_call (L := [((.tmp 6), _), ((.tmp 8), _)]) false pl37 ⟨rfl, rfl, trivial⟩ rfl (h1) rfl) ?_
  refine DRW.p rfl (by exact st_field_p off72_1 rfl) ?_
  refine DRW.p rfl (by exact st_load_va ag31 rfl rfl rfl rfl) ?_
  refine DRW.p rfl (by exact st_field_p off72_1 rfl) ?_
  refine DRW.p rfl (by exact st_load_va ag31 rfl rfl rfl rfl) ?_
  refine DRW.p rfl (st_call (L := [((.tmp 11), _), ((.tmp 13), _)]) false pl37 ⟨rfl, rfl, trivial⟩ rfl (h2) rfl) ?_
  refine DRW.p rfl (st_build (L := [(0, (.tmp 9), _), (1, (.tmp 14), _)]) zf72 pl_72 ⟨rfl, rfl, trivial⟩ rfl rfl) ?_
  refine DRW.s (by exact st_store_v sz72 rfl rfl rfl rfl rfl rfl) ?_
  refine DRW.nil (by kernel_rfl) ?_
  refine AWP.ret ?_
  exact Ret.mk rfl rfl
theorem k_Times (k : Rat) (v : Rat × Rat) (h1 : PureC Tryz.prog 149 [pQ k, pQ v.1] (pQ (k * v.1))) (h2 : PureC Tryz.prog 149 [pQ k, pQ v.2] (pQ (k * v.2))) : PureC Tryz.prog 66 [pQ k, pV v] (pV (timesV k v)) := by
  refine PureC.of Tryz.func66 rfl Tryz.ntmps66 (vs := [.cell 4 72]) rfl (Nat.le_of_ble_eq_true rfl) rfl fun cx _ _ => ?_
  refine AWP.seq ?_
  refine AWP.region ?_
  refine OPS.a rfl (st_box rfl rfl) ?_
  refine OPS.a rfl (st_box rfl rfl) ?_
  refine OPS.a rfl (st_alloc ze72) ?_
  refine OPS.nil ?_
  refine AWP.seq ?_
  refine AWP.drw mixed ?_
  refine DRW.p rfl (by exact st_load_va ag31 rfl rfl rfl rfl) ?_
  refine DRW.p rfl (by exact st_field_p off72_0 rfl) ?_
  refine DRW.p rfl (by exact st_load_va ag31 rfl rfl rfl rfl) ?_
  refine DRW.p rfl (st_call (L := [((.tmp 5), _), ((.tmp 7), _)]) false pl149 ⟨rfl, rfl, trivial⟩ rfl (h1) rfl) ?_
  refine DRW.p rfl (by exact st_load_va ag31 rfl rfl rfl rfl) ?_
  refine DRW.p rfl (by exact st_field_p off72_1 rfl) ?_
  refine DRW.p rfl (by exact st_load_va ag31 rfl rfl rfl rfl) ?_
  refine DRW.p rfl (st_call (L := [((.tmp 9), _), ((.tmp 11), _)]) false pl149 ⟨rfl, rfl, trivial⟩ rfl (h2) rfl) ?_
  refine DRW.p rfl (st_build (L := [(0, (.tmp 8), _), (1, (.tmp 12), _)]) zf72 pl_72 ⟨rfl, rfl, trivial⟩ rfl rfl) ?_
  refine DRW.s (by exact st_store_v sz72 rfl rfl rfl rfl rfl rfl) ?_
  refine DRW.nil (by kernel_rfl) ?_
  refine AWP.ret ?_
  exact Ret.mk rfl rfl
theorem k_lvec (x y : Int) (hx : Sml x.natAbs) (hy : Sml y.natAbs) : PureC Tryz.prog 159 [pI x, pI y] (pV (qi x, qi y)) := by
  refine PureC.of Tryz.func159 rfl Tryz.ntmps159 (vs := [.cell 4 72]) rfl (Nat.le_of_ble_eq_true rfl) rfl fun cx _ _ => ?_
  refine AWP.seq ?_
  refine AWP.region ?_
  refine OPS.a rfl (st_alloc ze72) ?_
  refine OPS.nil ?_
  refine AWP.seq ?_
  refine AWP.region ?_
  refine OPS.p rfl (st_move rfl) ?_
  refine OPS.p rfl (st_call (L := [((.tmp 5), _), ((.const (.int .i64 1)), _)]) false pl38 ⟨rfl, rfl, trivial⟩ rfl (k_rqOf x 1 hx (by unfold Sml; omega)) rfl) ?_
  refine OPS.p rfl (st_move rfl) ?_
  refine OPS.p rfl (st_call (L := [((.tmp 7), _), ((.const (.int .i64 1)), _)]) false pl38 ⟨rfl, rfl, trivial⟩ rfl (k_rqOf y 1 hy (by unfold Sml; omega)) rfl) ?_
  refine OPS.p rfl (st_build (L := [(0, (.tmp 6), _), (1, (.tmp 8), _)]) zf72 pl_72 ⟨rfl, rfl, trivial⟩ rfl rfl) ?_
  refine OPS.s (by exact st_store_v sz72 rfl rfl rfl rfl rfl rfl) ?_
  refine OPS.nil ?_
  refine AWP.ret ?_
  exact Ret.mk rfl rfl

theorem k_rSame (s t : Bool) (l m : List Int) (hl : l.length ≤ 1099511627776) (hm : m.length ≤ 1099511627776) : PureC Tryz.prog 95 [.agg [.bool s, .sl l.length (fIs l)], .agg [.bool t, .sl m.length (fIs m)]] (pB (decide (s = t ∧ l = m))) := by
  refine PureC.of Tryz.func95 rfl Tryz.ntmps95 (vs := [.tmp 4]) rfl (Nat.le_of_ble_eq_true rfl) rfl fun cx _ _ => ?_
  refine AWP.seq ?_
  refine AWP.region ?_
  refine OPS.a rfl (st_box rfl rfl) ?_
  refine OPS.a rfl (st_box rfl rfl) ?_
  refine OPS.p rfl (st_assign rfl) ?_
  refine OPS.nil ?_
  refine AWP.seq ?_
  refine AWP.seq ?_
  refine AWP.region ?_
  refine OPS.p rfl (by exact st_field_p off29_0 rfl) ?_
  refine OPS.p rfl (by exact st_load_vs sc4 rfl rfl rfl) ?_
  refine OPS.p rfl (by exact st_field_p off29_0 rfl) ?_
  refine OPS.p rfl (by exact st_load_vs sc4 rfl rfl rfl) ?_
  refine OPS.p rfl (st_neq_b rfl rfl un4) ?_
  refine OPS.p rfl (st_move rfl) ?_
  refine OPS.splitB (g := 11) rfl (fun eg1_5 g1_5 => ?_) (fun eg1_5 g1_5 => ?_)
  · refine OPS.nO rfl rfl rfl eg1_5 ?_
    refine OPS.nO rfl rfl rfl eg1_5 ?_
    refine OPS.nO rfl rfl rfl eg1_5 ?_
    refine OPS.nO rfl rfl rfl eg1_5 ?_
    refine OPS.nO rfl rfl rfl eg1_5 ?_
    refine OPS.nO rfl rfl rfl eg1_5 ?_
    refine OPS.nO rfl rfl rfl eg1_5 ?_
    refine OPS.p rfl (st_pickT rfl eg1_5 rfl) ?_
    refine OPS.nil ?_
    refine AWP.cond_t rfl (rfl) ?_
    refine AWP.seq ?_
    refine AWP.region ?_
    refine OPS.p rfl (st_assign rfl) ?_
    refine OPS.nil ?_
    refine AWP.ret ?_
    exact Ret.mk rfl (congrArg pB (decide_eq_false (fun h => by rw [h.1] at g1_5; simp at g1_5)).symm)
  · refine OPS.pG rfl rfl rfl eg1_5 (by exact st_field_p off29_1 rfl) ?_
    refine OPS.pG rfl rfl rfl eg1_5 (by exact st_load_vs sc22 rfl rfl rfl) ?_
    refine OPS.pG rfl rfl rfl eg1_5 (st_len un22 rfl rfl) ?_
    refine OPS.pG rfl rfl rfl eg1_5 (by exact st_field_p off29_1 rfl) ?_
    refine OPS.pG rfl rfl rfl eg1_5 (by exact st_load_vs sc22 rfl rfl rfl) ?_
    refine OPS.pG rfl rfl rfl eg1_5 (st_len un22 rfl rfl) ?_
    refine OPS.pG rfl rfl rfl eg1_5 (st_neq rfl rfl) ?_
    refine OPS.p rfl (st_pickF rfl eg1_5 rfl) ?_
    refine OPS.nil ?_
    refine AWP.condD rfl (fun hc1 => ?_) (fun hc1 => ?_)
    · refine AWP.seq ?_
      refine AWP.region ?_
      refine OPS.p rfl (st_assign rfl) ?_
      refine OPS.nil ?_
      refine AWP.ret ?_
      exact Ret.mk rfl (congrArg pB (decide_eq_false (fun h => hc1 (by rw [h.2]))).symm)
    · refine AWP.skip ?_
      refine AWP.seq ?_
      refine AWP.seq ?_
      refine AWP.region ?_
      refine OPS.p rfl (st_assign rfl) ?_
      refine OPS.nil ?_
      refine AWP.block ?_
      have hst : s = t := by simpa using g1_5
      have hlm : l.length = m.length := by omega
      refine AWP.loopR (σ := Nat) (fun (zz : Nat) => ⟨[(2, .ptr 0 0), (3, .ptr 1 0), (5, pI zz)], [(0, .var [pB s, pL l]), (1, .var [pB t, pL m])], 2⟩) (fun (zz : Nat) => zz ≤ l.length ∧ ∀ k, k < zz → l.getD k 0 = m.getD k 0) (fun (zz : Nat) => l.length - zz) (0) (Sub.r (Sub.mk' ⟨(by rfl), (by rfl), (by rfl), trivial⟩ ⟨(by rfl), (by rfl), trivial⟩ (by exact Nat.le_refl _))) (by exact ⟨by omega, fun k hk => absurd hk (by omega)⟩) ?_
      rintro i hinv
      have hinv : i ≤ l.length ∧ ∀ k, k < i → l.getD k 0 = m.getD k 0 := hinv
      obtain ⟨k1, k2⟩ := hinv
      show AWP _ _ _ _ _ _ _ ⟨[(2, .ptr 0 0), (3, .ptr 1 0), (5, pI i)], [(0, .var [pB s, pL l]), (1, .var [pB t, pL m])], 2⟩
      refine AWP.seq ?_
      refine AWP.seq ?_
      refine AWP.region ?_
      refine OPS.p rfl (st_move rfl) ?_
      refine OPS.p rfl (by exact st_field_p off29_1 rfl) ?_
      refine OPS.p rfl (by exact st_load_vs sc22 rfl rfl rfl) ?_
      refine OPS.p rfl (st_len un22 rfl rfl) ?_
      refine OPS.p rfl (st_lss rfl rfl) ?_
      refine OPS.nil ?_
      refine AWP.condD rfl (fun hc4 => ?_) (fun hc4 => ?_)
      · have hi : i < l.length := by omega
        have him : i < m.length := by omega
        refine AWP.skip ?_
        refine AWP.seq ?_
        refine AWP.block ?_
        refine AWP.seq ?_
        refine AWP.drw mixed ?_
        refine DRW.p rfl (by exact st_field_p off29_1 rfl) ?_
        refine DRW.p rfl (by exact st_load_vs sc22 rfl rfl rfl) ?_
        refine DRW.p rfl (st_move rfl) ?_
        refine DRW.p rfl (by exact st_index_I es22 rfl rfl (by omega) (by omega) (by rfl)) ?_
        refine DRW.p rfl (by exact st_load_In sc3 rfl rfl (by omega)) ?_
        refine DRW.p rfl (by exact st_field_p off29_1 rfl) ?_
        refine DRW.p rfl (by exact st_load_vs sc22 rfl rfl rfl) ?_
        refine DRW.p rfl (st_move rfl) ?_
        refine DRW.p rfl (by exact st_index_I es22 rfl rfl (by omega) (by omega) (by rfl)) ?_
        refine DRW.p rfl (by exact st_load_In sc3 rfl rfl (by omega)) ?_
        refine DRW.p rfl (st_neq rfl rfl) ?_
        refine DRW.nil (by kernel_rfl) ?_
        refine AWP.condD rfl (fun hc6 => ?_) (fun hc6 => ?_)
        · refine AWP.seq ?_
          refine AWP.region ?_
          refine OPS.p rfl (st_assign rfl) ?_
          refine OPS.nil ?_
          refine AWP.ret ?_
          exact Ret.mk rfl (congrArg pB (decide_eq_false (fun h => hc6 (by rw [h.2]))).symm)
        · have heq : l.getD i 0 = m.getD i 0 := Classical.byContradiction hc6
          refine AWP.skip ?_
          refine AWP.region ?_
          refine OPS.p rfl (st_move rfl) ?_
          refine OPS.p rfl (by exact st_add_i rfl rfl (by omega) (by omega)) ?_
          refine OPS.p rfl (st_assign rfl) ?_
          refine OPS.nil ?_
          refine ⟨(i + 1), (Sub.r (Sub.mk' ⟨(by rfl), (by rfl), (by rfl), trivial⟩ ⟨(by rfl), (by rfl), trivial⟩ (by exact Nat.le_refl _))), ?_, ?_⟩
          · try dsimp only
            refine ⟨by omega, fun k hk => ?_⟩
            by_cases hki : k = i
            · subst hki
              exact heq
            · exact k2 k (by omega)
          · try dsimp only
            omega
      · refine AWP.exit ?_
        refine AWP.seq ?_
        refine AWP.region ?_
        refine OPS.p rfl (st_assign rfl) ?_
        refine OPS.nil ?_
        refine AWP.ret ?_
        exact Ret.mk rfl (congrArg pB (decide_eq_true ⟨hst, getD_ext hlm fun k hk => k2 k (by omega)⟩).symm)

theorem q_same {a b : Rat} : ((decide (a.num < 0)) = (decide (b.num < 0)) ∧ iD a.num = iD b.num) ∧ (false = false ∧ qD a = qD b) ↔ a = b := by
  constructor
  · rintro ⟨⟨h1, h2⟩, _, h3⟩
    have e1 : a.num.natAbs = b.num.natAbs := by
      have := congrArg dval h2
      rw [iD_val, iD_val] at this
      omega
    have hn : a.num = b.num := by
      rw [decide_eq_decide] at h1
      omega
    refine Rat.ext hn ?_
    have ha := @qD_nil a
    have hb := @qD_nil b
    rw [h3] at ha
    by_cases h : a.den = 1
    · rw [h]; exact (hb.1 (ha.2 h)).symm
    · have h' : b.den ≠ 1 := fun e => h (ha.1 (hb.2 e))
      have := congrArg dval h3
      rw [qD, qD, if_neg h, if_neg h', dval_digs, dval_digs] at this
      omega
  · rintro rfl
    exact ⟨⟨rfl, rfl⟩, rfl, rfl⟩
theorem k_rqSame (a b : Rat) (h1 : Fit a.num.natAbs) (h2 : Fit b.num.natAbs) (h3 : Fit a.den) (h4 : Fit b.den) : PureC Tryz.prog 29 [pQ a, pQ b] (pB (decide (a = b))) := by
  have hs := @q_same a b
  have q1 : (iD a.num).length ≤ 1099511627776 := h1
  have q2 : (iD b.num).length ≤ 1099511627776 := h2
  have q3 : (qD a).length ≤ 1099511627776 := by unfold qD; split; simp; exact h3
  have q4 : (qD b).length ≤ 1099511627776 := by unfold qD; split; simp; exact h4
  refine PureC.of Tryz.func29 rfl Tryz.ntmps29 (vs := [.tmp 4]) rfl (Nat.le_of_ble_eq_true rfl) rfl fun cx _ _ => ?_
  refine AWP.seq ?_
  refine AWP.region ?_
  refine OPS.a rfl (st_box rfl rfl) ?_
  refine OPS.a rfl (st_box rfl rfl) ?_
  refine OPS.p rfl (st_assign rfl) ?_
  refine OPS.nil ?_
  refine AWP.seq ?_
  refine AWP.region ?_
  refine OPS.p rfl (by exact st_field_p off31_0 rfl) ?_
  refine OPS.p rfl (by exact st_load_va ag29 rfl rfl rfl rfl) ?_
  refine OPS.p rfl (by exact st_field_p off31_0 rfl) ?_
  refine OPS.p rfl (by exact st_load_va ag29 rfl rfl rfl rfl) ?_
  refine OPS.p rfl (st_call (L := [((.tmp 6), _), ((.tmp 8), _)]) false pl95 ⟨rfl, rfl, trivial⟩ rfl (k_rSame _ _ (iD a.num) (iD b.num) q1 q2) rfl) ?_
  refine OPS.p rfl (st_move rfl) ?_
  refine OPS.split (g := 10) rfl (fun eg1_5 g1_5 => ?_) (fun eg1_5 g1_5 => ?_)
  · refine OPS.pG rfl rfl rfl eg1_5 (by exact st_field_p off31_1 rfl) ?_
    refine OPS.pG rfl rfl rfl eg1_5 (by exact st_load_va ag29 rfl rfl rfl rfl) ?_
    refine OPS.pG rfl rfl rfl eg1_5 (by exact st_field_p off31_1 rfl) ?_
    refine OPS.pG rfl rfl rfl eg1_5 (by exact st_load_va ag29 rfl rfl rfl rfl) ?_
    refine OPS.pG rfl rfl rfl eg1_5 (st_call (L := [((.tmp 12), _), ((.tmp 14), _)]) false pl95 ⟨rfl, rfl, trivial⟩ rfl (k_rSame _ _ (qD a) (qD b) q3 q4) rfl) ?_
    refine OPS.p rfl (st_pickT rfl eg1_5 rfl) ?_
    refine OPS.p rfl (st_assign rfl) ?_
    refine OPS.nil ?_
    refine AWP.ret ?_
    refine Ret.mk rfl (congrArg pB ?_)
    rw [decide_eq_decide, ← hs]
    exact ⟨fun h => ⟨g1_5, h⟩, fun h => h.2⟩
  · refine OPS.nO rfl rfl rfl eg1_5 ?_
    refine OPS.nO rfl rfl rfl eg1_5 ?_
    refine OPS.nO rfl rfl rfl eg1_5 ?_
    refine OPS.nO rfl rfl rfl eg1_5 ?_
    refine OPS.nO rfl rfl rfl eg1_5 ?_
    refine OPS.p rfl (st_pickF rfl eg1_5 rfl) ?_
    refine OPS.p rfl (st_assign rfl) ?_
    refine OPS.nil ?_
    refine AWP.ret ?_
    exact Ret.mk rfl (congrArg pB (decide_eq_false (fun h => g1_5 (hs.2 h).1)).symm)
end Go.Proofs.Gh.Tryz
end
section
set_option linter.unusedVariables false
set_option linter.unusedSimpArgs false
set_option maxRecDepth 4000
namespace Go.Proofs.Gh.Tryz
open Go Go.Proofs Go.Proofs.Gh

theorem trimQ3 (a b c : Rat) : trimQ [a, b, c] = if c = 0 then (if b = 0 then (if a = 0 then [] else [a]) else [a, b]) else [a, b, c] := by
  unfold trimQ
  simp only [List.length_cons, List.length_nil, trimN, List.getD_eq_getElem?_getD]
  simp
  split <;> (try split) <;> (try split) <;> simp
theorem evalQ_trim (a b c x : Rat) : evalQ (trimQ [a, b, c]) x = (c * x + b) * x + a := by
  rw [trimQ3]
  split
  · rename_i h; subst h
    split
    · rename_i h; subst h
      split
      · rename_i h; subst h; simp [evalQ] <;> grind
      · simp [evalQ] <;> grind
    · simp [evalQ] <;> grind
  · simp [evalQ] <;> grind

def MulOK (a b : Rat) : Prop := PureC Tryz.prog 67 [pQ a, pQ b] (pQ (a * b))
def AddOK (a b : Rat) : Prop := PureC Tryz.prog 129 [pQ a, pQ b] (pQ (a + b))
def EvOK (p : List Rat) (x : Rat) : Prop := ∀ i, i < p.length → MulOK (evalQ (p.drop (i + 1)) x) x ∧ PureC Tryz.prog 129 [pQ (evalQ (p.drop (i + 1)) x * x), pQ (p.getD i default)] (pQ (evalQ (p.drop i) x))
theorem evOK_nil (x : Rat) : EvOK [] x := fun i h => absurd h (by simp)
theorem evOK_cons {a : Rat} {r : List Rat} {x : Rat} (h : EvOK r x) (h1 : MulOK (evalQ r x) x) (h2 : AddOK (evalQ r x * x) a) : EvOK (a :: r) x := by
  intro i hi
  cases i with
  | zero => exact ⟨h1, h2⟩
  | succ i => exact h i (by simpa using hi)
theorem k_EvOK {p : List Rat} {x : Rat} (hl : p.length ≤ 1000) (h : EvOK p x) : PureC Tryz.prog 125 [pQs p, pQ x] (pQ (evalQ p x)) := k_Eval p x hl h

theorem qi2 : qi 2 = 2 := by unfold qi; rfl
theorem qi1 : qi 1 = 1 := by unfold qi; rfl
theorem at_half {b c : Rat} (h : c ≠ 0) : c * (-b / (c * qi 2)) = b * Rat.divInt (-1) 2 := by
  have : Rat.divInt (-1) 2 = -1 / 2 := by decide +kernel
  rw [this, qi2]
  grind
theorem qb0 : QB 0 1 0 := ⟨by decide, by decide⟩
theorem ev1_qb {c x : Rat} {N D : Nat} (hc : QB N D c) : QB N D (evalQ [c] x) := by
  have : evalQ [c] x = c := by simp [evalQ]; grind
  rw [this]; exact hc
/-- The steps at a number that is not large. -/
theorem evOK_small {a b c x : Rat} (ha : QB 4548600 225 a) (hb : QB 720 45 b) (hc : QB 720 90 c) (hx : QB 1 1 x) : EvOK (trimQ [a, b, c]) x := by
  have m0 : MulOK (evalQ [] x) x := b_qMul 0 1 1 1 qb0 hx rfl rfl rfl rfl
  have z0 : QB 0 1 (evalQ [] x * x) := qb_mul qb0 hx
  have ad : ∀ {y : Rat}, QB 4548600 225 y → AddOK (evalQ [] x * x) y := fun hy => b_qAdd _ _ _ _ z0 hy rfl rfl rfl rfl rfl rfl rfl rfl
  rw [trimQ3]
  split
  · split
    · split
      · exact evOK_nil x
      · exact evOK_cons (evOK_nil x) m0 (ad ha)
    · have e1 := ev1_qb (x := x) hb
      exact evOK_cons (evOK_cons (evOK_nil x) m0 (ad (qb_mono hb (by omega) (by omega)))) (b_qMul _ _ _ _ e1 hx rfl rfl rfl rfl) (b_qAdd _ _ _ _ (qb_mul e1 hx) ha rfl rfl rfl rfl rfl rfl rfl rfl)
  · have e1 := ev1_qb (x := x) hc
    have e2 : QB (720 * 1 * 45 + 720 * (90 * 1)) (90 * 1 * 45) (evalQ [b, c] x) := qb_add (qb_mul e1 hx) hb
    exact evOK_cons (evOK_cons (evOK_cons (evOK_nil x) m0 (ad (qb_mono hc (by omega) (by omega)))) (b_qMul _ _ _ _ e1 hx rfl rfl rfl rfl) (b_qAdd _ _ _ _ (qb_mul e1 hx) hb rfl rfl rfl rfl rfl rfl rfl rfl)) (b_qMul _ _ _ _ e2 hx rfl rfl rfl rfl) (b_qAdd _ _ _ _ (qb_mul e2 hx) ha rfl rfl rfl rfl rfl rfl rfl rfl)
theorem stOK_of {a b c : Rat} (ha : QB 4548600 225 a) (hb : QB 720 45 b) (hc : QB 720 90 c) : StOK (trimQ [a, b, c]) := by
  have hlen : (trimQ [a, b, c]).length ≤ 3 := by unfold trimQ; rw [List.length_take]; simp; omega
  have h0 := evOK_small ha hb hc (qb_mono qb0 (Nat.zero_le 1) (Nat.le_refl _))
  have h1 := evOK_small ha hb hc (qb_qi (n := 1) (N := 1) (by decide))
  have key : ∀ {Q : List Rat → Prop}, (c ≠ 0 → Q [a, b, c]) → ¬ (trimQ [a, b, c]).length < 3 → Q (trimQ [a, b, c]) := by
    intro Q hQ hl
    by_cases hc0 : c = 0
    · exfalso
      rw [trimQ3, if_pos hc0] at hl
      split at hl
      · split at hl <;> simp at hl
      · simp at hl
    · rw [trimQ3, if_neg hc0]; exact hQ hc0
  have hq2 : QB 2 1 (qi 2) := qb_qi (by decide)
  have hd : QB (720 * 2) (90 * 1) (c * qi 2) := qb_mul hc hq2
  have hat : QB (720 * (90 * 1)) (45 * (720 * 2)) (-b / (c * qi 2)) := qb_div (qb_neg hb) hd (by omega)
  refine ⟨hlen, k_EvOK (by omega) h0, k_EvOK (by omega) h1, ?_, ?_, ?_, ?_⟩
  · exact key (Q := fun p => PureC Tryz.prog 67 [pQ (p.getD 2 default), pQ (qi 2)] (pQ (p.getD 2 default * qi 2))) fun _ => b_qMul _ _ _ _ hc hq2 rfl rfl rfl rfl
  · exact key (Q := fun p => PureC Tryz.prog 126 [pQ (-p.getD 1 default), pQ (p.getD 2 default * qi 2)] (pQ (atQ p))) fun _ => b_qDiv _ _ _ _ (qb_neg hb) hd rfl rfl rfl rfl
  · exact key (Q := fun p => PureC Tryz.prog 128 [pQ (atQ p), pQ (qi 1)] (pI (cmpQ (atQ p) (qi 1)))) fun _ => b_qCompare _ _ 1 1 hat (qb_qi (by decide)) rfl rfl rfl rfl rfl rfl
  · intro hl _ _
    refine key (Q := fun p => PureC Tryz.prog 125 [pQs p, pQ (atQ p)] (pQ (evalQ p (atQ p)))) (fun hc0 => ?_) hl
    refine k_EvOK (by simp) ?_
    show EvOK [a, b, c] (-b / (c * qi 2))
    generalize hX : -b / (c * qi 2) = X at hat
    have hxc : c * X = b * Rat.divInt (-1) 2 := by rw [← hX]; exact at_half hc0
    have e1 := ev1_qb (x := X) hc
    have e1' : evalQ [c] X = c := by simp [evalQ]; grind
    have p1 : QB (720 * 1) (45 * 2) (evalQ [c] X * X) := by rw [e1', hxc]; exact qb_mul hb (qb_of (q := 2) (by decide) (by omega) (by omega))
    have e2' : evalQ [b, c] X = b * Rat.divInt 1 2 := by
      show evalQ [c] X * X + b = _
      rw [e1', hxc]
      have e : Rat.divInt (-1) 2 = -1 / 2 := by decide +kernel
      have e' : Rat.divInt 1 2 = 1 / 2 := by decide +kernel
      rw [e, e']
      grind
    have e2 : QB (720 * 1) (45 * 2) (evalQ [b, c] X) := by rw [e2']; exact qb_mul hb (qb_of (q := 2) (by decide) (by omega) (by omega))
    refine evOK_cons (evOK_cons (evOK_cons (evOK_nil X) ?_ ?_) ?_ ?_) ?_ ?_
    · exact b_qMul 0 1 _ _ qb0 hat rfl rfl rfl rfl
    · exact b_qAdd _ _ _ _ (qb_mul qb0 hat) hc rfl rfl rfl rfl rfl rfl rfl rfl
    · exact b_qMul _ _ _ _ e1 hat rfl rfl rfl rfl
    · exact b_qAdd _ _ _ _ p1 hb rfl rfl rfl rfl rfl rfl rfl rfl
    · exact b_qMul _ _ _ _ e2 hat rfl rfl rfl rfl
    · exact b_qAdd _ _ _ _ (qb_mul e2 hat) ha rfl rfl rfl rfl rfl rfl rfl rfl

/-! ### What the test says -/
theorem sign_lt {a : Rat} : a.num.sign < 0 ↔ a < 0 := by
  rw [Int.sign_neg_iff, ← Int.not_le, Rat.num_nonneg, Rat.not_le]
theorem sign_le {a : Rat} : a.num.sign ≤ 0 ↔ a ≤ 0 := by
  have := @sign_lt a
  have h0 := @sign_zero a
  constructor
  · intro h
    rcases Int.lt_or_eq_of_le h with h | h
    · exact Rat.le_of_lt (this.1 h)
    · rw [h0.1 h]; exact Rat.le_refl
  · intro h
    by_cases ha : a = 0
    · rw [h0.2 ha]; omega
    · have : a < 0 := by grind
      have := sign_lt.2 this
      omega
theorem sign_ge {a : Rat} : 0 ≤ a.num.sign ↔ 0 ≤ a := by
  rw [← Int.not_lt, sign_lt, Rat.not_lt]
theorem cmpQ_ge {a b : Rat} : 0 ≤ cmpQ a b ↔ b ≤ a := by
  unfold cmpQ
  split
  · rename_i h; constructor
    · intro h'; omega
    · intro h'; exact absurd h (Rat.not_lt.2 h')
  · rename_i h
    split <;> exact ⟨fun _ => Rat.not_lt.1 h, fun _ => by omega⟩
theorem mul_nn {a b : Rat} (ha : 0 ≤ a) (hb : 0 ≤ b) : 0 ≤ a * b := Rat.mul_nonneg ha hb
theorem stays_law {a b c : Rat} (h : staysQ (trimQ [a, b, c]) = true) {s : Rat} (h0 : 0 ≤ s) (h1 : s ≤ 1) : 0 ≤ (c * s + b) * s + a := by
  unfold staysQ at h
  split at h
  · cases h
  rename_i n0
  split at h
  · cases h
  rename_i n1
  rw [sign_lt, Rat.not_lt, evalQ_trim] at n0 n1
  rw [qi1] at n1
  have hs1 : 0 ≤ 1 - s := by grind
  have hp := mul_nn h0 hs1
  have hlow : c ≤ 0 → 0 ≤ (c * s + b) * s + a := fun hc => by
    have q1 := mul_nn hs1 (show 0 ≤ a by grind)
    have q2 := mul_nn h0 (show 0 ≤ c + b + a by grind)
    have q3 := mul_nn (show 0 ≤ -c by grind) hp
    grind
  by_cases hc : c ≤ 0
  · exact hlow hc
  have hc0 : c ≠ 0 := by grind
  have hcp : 0 ≤ c := by grind
  rw [trimQ3, if_neg hc0] at h
  rw [if_neg (by simp), if_neg (by show ¬ c.num.sign < 0; rw [sign_lt]; grind)] at h
  have hat : atQ [a, b, c] = -b / (c * 2) := by rw [← qi2]; rfl
  have hm : (-b / (c * 2)) * (c * 2) = -b := by grind
  rw [hat] at h
  generalize -b / (c * 2) = X at h hm
  split at h
  · rename_i hX
    rw [sign_le] at hX
    have q := mul_nn (show 0 ≤ -X by grind) (show 0 ≤ c * 2 by grind)
    have hb : 0 ≤ b := by grind
    have q1 := mul_nn hcp (mul_nn h0 h0)
    have q2 := mul_nn hb h0
    grind
  split at h
  · rename_i hX
    rw [cmpQ_ge, qi1] at hX
    have q := mul_nn (show 0 ≤ X - 1 by grind) (show 0 ≤ c * 2 by grind)
    have q1 := mul_nn hs1 (show 0 ≤ -b - c * 2 by grind)
    have q2 := mul_nn hcp (mul_nn hs1 hs1)
    grind
  · have hX := of_decide_eq_true h
    rw [sign_ge] at hX
    have e : evalQ [a, b, c] X = (c * X + b) * X + a := by simp [evalQ]; grind
    rw [e] at hX
    have q1 := mul_nn hcp (show 0 ≤ (s - X) * (s - X) by
      rcases Rat.le_total (a := s) (b := X) with h | h
      · have := mul_nn (show 0 ≤ X - s by grind) (show 0 ≤ X - s by grind); grind
      · have := mul_nn (show 0 ≤ s - X by grind) (show 0 ≤ s - X by grind); grind)
    have e2 : b = -(X * (c * 2)) := by grind
    have e3 : (c * s + b) * s + a = ((c * X + b) * X + a) + c * ((s - X) * (s - X)) := by rw [e2]; grind
    rw [e3]
    grind
end Go.Proofs.Gh.Tryz
end
section
set_option linter.unusedVariables false
set_option linter.unusedSimpArgs false
set_option maxRecDepth 4000
namespace Go.Proofs.Gh.Tryz
open Go Go.Proofs Go.Proofs.Gh

theorem along_ok {e : Ed} {r v a : Rat × Rat} (he : SE e) (hr : QV 24 3 r) (hv : QV 24 3 v) (ha : QV 24 3 a) : StOK (trimQ (alongL e r v a)) :=
  stOK_of (qb_mono (gapQ_qb he hr) (by omega) (by omega)) (qb_mono (rateQ_qb he.1 hv) (by omega) (by omega)) (qb_mono (qb_mul (rateQ_qb he.1 ha) (qb_of (N := 1) (D := 2) (q := 2) (by decide) (by omega) (by omega))) (by omega) (by omega))
theorem free_ok (l : List Ed) (r v a : Rat × Rat) (hl : l.length ≤ 1000) (he : ∀ e ∈ l, SE e) (hr : QV 24 3 r) (hv : QV 24 3 v) (ha : QV 24 3 a) : PureC Tryz.prog 64 [pEs l, pV r, pV v, pV a] (pI (firstI (freeP r v a) l)) :=
  k_Free l r v a hl he (hr.mono (by omega) (by omega)) (hv.mono (by omega) (by omega)) (ha.mono (by omega) (by omega)) fun e hm => along_ok (he e hm) hr hv ha

def exQ : List Ed := [((0, -1, 1), 2), ((1, 0, 1), 2), ((0, 1, 1), 2), ((-1, 0, 1), 2)]
theorem exQ_eq : sidesL exA exA = exQ := by decide +kernel
theorem exQ_SE : ∀ e ∈ exQ, SE e := by
  have : (exQ.all fun e => decide (-5 ≤ e.1.1 ∧ e.1.1 ≤ 5 ∧ -5 ≤ e.1.2.1 ∧ e.1.2.1 ≤ 5 ∧ 1 ≤ e.1.2.2 ∧ e.1.2.2 ≤ 5) && decide (-101000 ≤ e.2 ∧ e.2 ≤ 101000)) = true := by decide +kernel
  intro e he
  have := List.all_eq_true.1 this e he
  rw [Bool.and_eq_true] at this
  exact ⟨by unfold S5; exact of_decide_eq_true this.1, of_decide_eq_true this.2⟩
theorem ivec_qv {x y : Int} (hx : x.natAbs ≤ 24) (hy : y.natAbs ≤ 24) : QV 24 3 (qi x, qi y) := ⟨qb_mono (qb_qi hx) (Nat.le_refl _) (by omega), qb_mono (qb_qi hy) (Nat.le_refl _) (by omega)⟩
theorem ivec_QV {x y : Int} (hx : x.natAbs ≤ 24) (hy : y.natAbs ≤ 24) : QV 100000 4000 (qi x, qi y) := (ivec_qv hx hy).mono (by omega) (by omega)

theorem k_lives13 : PureC Tryz.prog 58 [] (pB true) := by
  have s0 : PureC Tryz.prog 158 [pPs exA, pPs exA] (pEs exQ) := exQ_eq ▸ k_rSides exA exA exA_fam exA_fam
  have lv : ∀ x y : Int, x.natAbs ≤ 24 → y.natAbs ≤ 24 → PureC Tryz.prog 159 [pI x, pI y] (pV (qi x, qi y)) := fun x y hx hy => k_lvec x y (by unfold Sml; omega) (by unfold Sml; omega)
  have g1 : gapQ ((0, 1, 1), 2) (qi 1, qi 5) = Rat.divInt 3 1 := by decide +kernel
  have g2 : PureC Tryz.prog 70 [pE ((0, 1, 1), 2), pV (qi 1, qi 5)] (pQ (Rat.divInt 3 1)) := g1 ▸ k_Gap _ _ (exQ_SE _ (by decide)) (ivec_QV (by decide) (by decide))
  have q3 : QB 3 1 (Rat.divInt 3 1) := qb_of (q := 1) (by decide) (by omega) (by omega)
  have m1 : PureC Tryz.prog 68 [pEs exQ, pV (qi 1, qi 1)] (pB true) := by
    have := k_Meet exQ (qi 1, qi 1) (by decide) exQ_SE (ivec_QV (by decide) (by decide))
    rwa [show (!exQ.any (gapP (qi 1, qi 1))) = true by decide +kernel] at this
  have m2 : PureC Tryz.prog 68 [pEs exQ, pV (qi 2, qi 0)] (pB false) := by
    have := k_Meet exQ (qi 2, qi 0) (by decide) exQ_SE (ivec_QV (by decide) (by decide))
    rwa [show (!exQ.any (gapP (qi 2, qi 0))) = false by decide +kernel] at this
  have f1 : PureC Tryz.prog 64 [pEs exQ, pV (qi 0, qi 3), pV (qi 0, qi (-2)), pV (qi 0, qi 0)] (pI (-1)) := by
    have := free_ok exQ (qi 0, qi 3) (qi 0, qi (-2)) (qi 0, qi 0) (by decide) exQ_SE (ivec_qv (by decide) (by decide)) (ivec_qv (by decide) (by decide)) (ivec_qv (by decide) (by decide))
    rwa [show firstI (freeP (qi 0, qi 3) (qi 0, qi (-2)) (qi 0, qi 0)) exQ = -1 by decide +kernel] at this
  have f2 : PureC Tryz.prog 64 [pEs exQ, pV (qi 0, qi 3), pV (qi 5, qi (-2)), pV (qi 0, qi 0)] (pI (-1)) := by
    have := free_ok exQ (qi 0, qi 3) (qi 5, qi (-2)) (qi 0, qi 0) (by decide) exQ_SE (ivec_qv (by decide) (by decide)) (ivec_qv (by decide) (by decide)) (ivec_qv (by decide) (by decide))
    rwa [show firstI (freeP (qi 0, qi 3) (qi 5, qi (-2)) (qi 0, qi 0)) exQ = -1 by decide +kernel] at this
  have f3 : PureC Tryz.prog 64 [pEs exQ, pV (qi 0, qi 3), pV (qi 0, qi (-1)), pV (qi 0, qi 0)] (pI 2) := by
    have := free_ok exQ (qi 0, qi 3) (qi 0, qi (-1)) (qi 0, qi 0) (by decide) exQ_SE (ivec_qv (by decide) (by decide)) (ivec_qv (by decide) (by decide)) (ivec_qv (by decide) (by decide))
    rwa [show firstI (freeP (qi 0, qi 3) (qi 0, qi (-1)) (qi 0, qi 0)) exQ = 2 by decide +kernel] at this
  have b1 : PureC Tryz.prog 71 [pEs exQ, pV (qi 0, qi 3), pV (qi 5, qi 1)] (pI 2) := by
    have := k_Best exQ (qi 0, qi 3) (qi 5, qi 1) (by decide) exQ_SE (ivec_QV (by decide) (by decide)) (ivec_QV (by decide) (by decide))
    rwa [show grI (fun e => gapQ e (qi 5, qi 1)) (gapP (qi 0, qi 3)) exQ exQ.length = 2 by decide +kernel] at this
  have ct : ∀ x y u v : Int, x.natAbs ≤ 24 → y.natAbs ≤ 24 → u.natAbs ≤ 24 → v.natAbs ≤ 24 → PureC Tryz.prog 74 [pEs exQ, pV (qi x, qi y), pV (qi u, qi v)] (pI (contactI exQ (qi x, qi y) (qi u, qi v))) :=
    fun x y u v hx hy hu hv => k_Contact exQ _ _ (by decide) exQ_SE (ivec_QV hx hy) (ivec_QV hu hv)
  have c1 : PureC Tryz.prog 74 [pEs exQ, pV (qi 1, qi 2), pV (qi 1, qi 0)] (pI 2) := by
    have := ct 1 2 1 0 (by decide) (by decide) (by decide) (by decide)
    rwa [show contactI exQ (qi 1, qi 2) (qi 1, qi 0) = 2 by decide +kernel] at this
  have c2 : PureC Tryz.prog 74 [pEs exQ, pV (qi 1, qi 2), pV (qi 1, qi (-1))] (pI 2) := by
    have := ct 1 2 1 (-1) (by decide) (by decide) (by decide) (by decide)
    rwa [show contactI exQ (qi 1, qi 2) (qi 1, qi (-1)) = 2 by decide +kernel] at this
  have c3 : PureC Tryz.prog 74 [pEs exQ, pV (qi 1, qi 2), pV (qi 0, qi 1)] (pI (-1)) := by
    have := ct 1 2 0 1 (by decide) (by decide) (by decide) (by decide)
    rwa [show contactI exQ (qi 1, qi 2) (qi 0, qi 1) = -1 by decide +kernel] at this
  have c4 : PureC Tryz.prog 74 [pEs exQ, pV (qi 2, qi 2), pV (qi (-1), qi (-2))] (pI 1) := by
    have := ct 2 2 (-1) (-2) (by decide) (by decide) (by decide) (by decide)
    rwa [show contactI exQ (qi 2, qi 2) (qi (-1), qi (-2)) = 1 by decide +kernel] at this
  have sm : PureC Tryz.prog 29 [pQ (Rat.divInt 3 1), pQ (Rat.divInt 3 1)] (pB true) := by
    have := k_rqSame (Rat.divInt 3 1) (Rat.divInt 3 1) (ft q3.1 rfl) (ft q3.1 rfl) (ft q3.2 rfl) (ft q3.2 rfl)
    rwa [decide_eq_true rfl] at this
  refine PureC.of Tryz.func58 rfl Tryz.ntmps58 (vs := [.tmp 0]) rfl (Nat.le_of_ble_eq_true rfl) rfl fun cx _ _ => ?_
  refine AWP.seq ?_
  refine AWP.region ?_
  refine OPS.p rfl (st_assign rfl) ?_
  refine OPS.nil ?_
  refine AWP.seq ?_
  refine AWP.region ?_
  refine OPS.p rfl (st_build (L := []) zf148 pl_148 trivial rfl rfl) ?_
  refine OPS.p rfl (st_build (L := [(0, (.const (.int .i64 2)), _)]) zf148 pl_148 ⟨rfl, trivial⟩ rfl rfl) ?_
  refine OPS.p rfl (st_build (L := [(0, (.const (.int .i64 2)), _), (1, (.const (.int .i64 2)), _)]) zf148 pl_148 ⟨rfl, rfl, trivial⟩ rfl rfl) ?_
  refine OPS.p rfl (st_build (L := [(1, (.const (.int .i64 2)), _)]) zf148 pl_148 ⟨rfl, trivial⟩ rfl rfl) ?_
  refine OPS.a rfl (Stp.frz (st_buildS (L := [(0, (.tmp 7), _), (1, (.tmp 8), _), (2, (.tmp 9), _), (3, (.tmp 10), _)]) ei66 rfl ⟨rfl, rfl, rfl, rfl, trivial⟩ rfl rfl) rfl) ?_
  refine OPS.p rfl (st_assign rfl) ?_
  refine OPS.nil ?_
  refine AWP.seq ?_
  refine AWP.region ?_
  refine OPS.p rfl (st_move rfl) ?_
  refine OPS.p rfl (st_move rfl) ?_
  refine OPS.p rfl (st_call (L := [((.tmp 12), _), ((.tmp 13), _)]) false pl158 ⟨rfl, rfl, trivial⟩ rfl (s0) rfl) ?_
  refine OPS.p rfl (st_assign rfl) ?_
  refine OPS.nil ?_
  refine AWP.seq ?_
  refine AWP.region ?_
  refine OPS.p rfl (st_call (L := [((.const (.int .i64 0)), _), ((.const (.int .i64 0)), _)]) false pl159 ⟨rfl, rfl, trivial⟩ rfl (lv 0 0 (by decide) (by decide)) rfl) ?_
  refine OPS.a rfl (st_alloc ze72) ?_
  refine OPS.s (by exact st_store_v sz72 rfl rfl rfl rfl rfl rfl) ?_
  refine OPS.nil ?_
  refine AWP.seq ?_
  refine AWP.drw mixed ?_
  refine DRW.p rfl (st_move rfl) ?_
  refine DRW.p rfl (st_index_R es68 rfl rfl (fun _ => rfl) rfl (by decide) (by decide) rfl) ?_
  refine DRW.p rfl (st_load_Rn (i := 2) ag83 rfl (fun _ => rfl) rfl (by decide)) ?_
  refine DRW.p rfl (st_call (L := [((.const (.int .i64 1)), _), ((.const (.int .i64 5)), _)]) false pl159 ⟨rfl, rfl, trivial⟩ rfl (lv 1 5 (by decide) (by decide)) rfl) ?_
  refine DRW.p rfl (st_call (L := [((.tmp 18), _), ((.tmp 19), _)]) false pl70 ⟨rfl, rfl, trivial⟩ rfl (g2) rfl) ?_
  refine DRW.p rfl (st_call (L := [((.const (.int .i64 3)), _), ((.const (.int .i64 1)), _)]) false pl38 ⟨rfl, rfl, trivial⟩ rfl (k_rqOf 3 1 (by unfold Sml; omega) (by unfold Sml; omega)) rfl) ?_
  refine DRW.p rfl (st_call (L := [((.tmp 20), _), ((.tmp 21), _)]) false pl29 ⟨rfl, rfl, trivial⟩ rfl (sm) rfl) ?_
  refine DRW.p rfl (st_move rfl) ?_
  refine DRW.pG rfl rfl rfl (rfl) (st_move rfl) ?_
  refine DRW.pG rfl rfl rfl (rfl) (st_call (L := [((.const (.int .i64 1)), _), ((.const (.int .i64 1)), _)]) false pl159 ⟨rfl, rfl, trivial⟩ rfl (lv 1 1 (by decide) (by decide)) rfl) ?_
  refine DRW.pG rfl rfl rfl (rfl) (st_call (L := [((.tmp 24), _), ((.tmp 25), _)]) false pl68 ⟨rfl, rfl, trivial⟩ rfl (m1) rfl) ?_
  refine DRW.p rfl (st_pickT rfl (rfl) rfl) ?_
  refine DRW.p rfl (st_move rfl) ?_
  refine DRW.pG rfl rfl rfl (rfl) (st_move rfl) ?_
  refine DRW.pG rfl rfl rfl (rfl) (st_call (L := [((.const (.int .i64 2)), _), ((.const (.int .i64 0)), _)]) false pl159 ⟨rfl, rfl, trivial⟩ rfl (lv 2 0 (by decide) (by decide)) rfl) ?_
  refine DRW.pG rfl rfl rfl (rfl) (st_call (L := [((.tmp 29), _), ((.tmp 30), _)]) false pl68 ⟨rfl, rfl, trivial⟩ rfl (m2) rfl) ?_
  refine DRW.pG rfl rfl rfl (rfl) (by exact st_not rfl) ?_
  refine DRW.p rfl (st_pickT rfl (rfl) rfl) ?_
  refine DRW.p rfl (st_assign rfl) ?_
  refine DRW.nil (by kernel_rfl) ?_
  refine AWP.seq ?_
  refine AWP.drw mixed ?_
  refine DRW.p rfl (st_move rfl) ?_
  refine DRW.p rfl (st_call (L := [((.const (.int .i64 0)), _), ((.const (.int .i64 3)), _)]) false pl159 ⟨rfl, rfl, trivial⟩ rfl (lv 0 3 (by decide) (by decide)) rfl) ?_
  refine DRW.p rfl (st_call (L := [((.const (.int .i64 0)), _), ((.const (.int .i64 (-2))), _)]) false pl159 ⟨rfl, rfl, trivial⟩ rfl (lv 0 (-2) (by decide) (by decide)) rfl) ?_
  refine DRW.p rfl (by exact st_load_va ag72 rfl rfl rfl rfl) ?_
  refine DRW.p rfl (st_call (L := [((.tmp 34), _), ((.tmp 35), _), ((.tmp 36), _), ((.tmp 37), _)]) false pl64 ⟨rfl, rfl, rfl, rfl, trivial⟩ rfl (f1) rfl) ?_
  refine DRW.p rfl (st_eql rfl rfl) ?_
  refine DRW.p rfl (st_move rfl) ?_
  refine DRW.pG rfl rfl rfl ((decide_eq_true rfl)) (st_move rfl) ?_
  refine DRW.pG rfl rfl rfl ((decide_eq_true rfl)) (st_call (L := [((.const (.int .i64 0)), _), ((.const (.int .i64 3)), _)]) false pl159 ⟨rfl, rfl, trivial⟩ rfl (lv 0 3 (by decide) (by decide)) rfl) ?_
  refine DRW.pG rfl rfl rfl ((decide_eq_true rfl)) (st_call (L := [((.const (.int .i64 5)), _), ((.const (.int .i64 (-2))), _)]) false pl159 ⟨rfl, rfl, trivial⟩ rfl (lv 5 (-2) (by decide) (by decide)) rfl) ?_
  refine DRW.pG rfl rfl rfl ((decide_eq_true rfl)) (by exact st_load_va ag72 rfl rfl rfl rfl) ?_
  refine DRW.pG rfl rfl rfl ((decide_eq_true rfl)) (st_call (L := [((.tmp 41), _), ((.tmp 42), _), ((.tmp 43), _), ((.tmp 44), _)]) false pl64 ⟨rfl, rfl, rfl, rfl, trivial⟩ rfl (f2) rfl) ?_
  refine DRW.pG rfl rfl rfl ((decide_eq_true rfl)) (st_eql rfl rfl) ?_
  refine DRW.p rfl (st_pickT rfl ((decide_eq_true rfl)) rfl) ?_
  refine DRW.p rfl (st_move rfl) ?_
  refine DRW.pG rfl rfl rfl ((decide_eq_true rfl)) (st_move rfl) ?_
  refine DRW.pG rfl rfl rfl ((decide_eq_true rfl)) (st_call (L := [((.const (.int .i64 0)), _), ((.const (.int .i64 3)), _)]) false pl159 ⟨rfl, rfl, trivial⟩ rfl (lv 0 3 (by decide) (by decide)) rfl) ?_
  refine DRW.pG rfl rfl rfl ((decide_eq_true rfl)) (st_call (L := [((.const (.int .i64 5)), _), ((.const (.int .i64 1)), _)]) false pl159 ⟨rfl, rfl, trivial⟩ rfl (lv 5 1 (by decide) (by decide)) rfl) ?_
  refine DRW.pG rfl rfl rfl ((decide_eq_true rfl)) (st_call (L := [((.tmp 49), _), ((.tmp 50), _), ((.tmp 51), _)]) false pl71 ⟨rfl, rfl, rfl, trivial⟩ rfl (b1) rfl) ?_
  refine DRW.pG rfl rfl rfl ((decide_eq_true rfl)) (st_eql rfl rfl) ?_
  refine DRW.p rfl (st_pickT rfl ((decide_eq_true rfl)) rfl) ?_
  refine DRW.p rfl (st_assign rfl) ?_
  refine DRW.nil (by kernel_rfl) ?_
  refine AWP.seq ?_
  refine AWP.region ?_
  refine OPS.p rfl (st_move rfl) ?_
  refine OPS.p rfl (st_call (L := [((.const (.int .i64 1)), _), ((.const (.int .i64 2)), _)]) false pl159 ⟨rfl, rfl, trivial⟩ rfl (lv 1 2 (by decide) (by decide)) rfl) ?_
  refine OPS.p rfl (st_call (L := [((.const (.int .i64 1)), _), ((.const (.int .i64 0)), _)]) false pl159 ⟨rfl, rfl, trivial⟩ rfl (lv 1 0 (by decide) (by decide)) rfl) ?_
  refine OPS.p rfl (st_call (L := [((.tmp 55), _), ((.tmp 56), _), ((.tmp 57), _)]) false pl74 ⟨rfl, rfl, rfl, trivial⟩ rfl (c1) rfl) ?_
  refine OPS.p rfl (st_eql rfl rfl) ?_
  refine OPS.p rfl (st_move rfl) ?_
  refine OPS.pG rfl rfl rfl ((decide_eq_true rfl)) (st_move rfl) ?_
  refine OPS.pG rfl rfl rfl ((decide_eq_true rfl)) (st_call (L := [((.const (.int .i64 1)), _), ((.const (.int .i64 2)), _)]) false pl159 ⟨rfl, rfl, trivial⟩ rfl (lv 1 2 (by decide) (by decide)) rfl) ?_
  refine OPS.pG rfl rfl rfl ((decide_eq_true rfl)) (st_call (L := [((.const (.int .i64 1)), _), ((.const (.int .i64 (-1))), _)]) false pl159 ⟨rfl, rfl, trivial⟩ rfl (lv 1 (-1) (by decide) (by decide)) rfl) ?_
  refine OPS.pG rfl rfl rfl ((decide_eq_true rfl)) (st_call (L := [((.tmp 61), _), ((.tmp 62), _), ((.tmp 63), _)]) false pl74 ⟨rfl, rfl, rfl, trivial⟩ rfl (c2) rfl) ?_
  refine OPS.pG rfl rfl rfl ((decide_eq_true rfl)) (st_eql rfl rfl) ?_
  refine OPS.p rfl (st_pickT rfl ((decide_eq_true rfl)) rfl) ?_
  refine OPS.p rfl (st_move rfl) ?_
  refine OPS.pG rfl rfl rfl ((decide_eq_true rfl)) (st_move rfl) ?_
  refine OPS.pG rfl rfl rfl ((decide_eq_true rfl)) (st_call (L := [((.const (.int .i64 1)), _), ((.const (.int .i64 2)), _)]) false pl159 ⟨rfl, rfl, trivial⟩ rfl (lv 1 2 (by decide) (by decide)) rfl) ?_
  refine OPS.pG rfl rfl rfl ((decide_eq_true rfl)) (st_call (L := [((.const (.int .i64 0)), _), ((.const (.int .i64 1)), _)]) false pl159 ⟨rfl, rfl, trivial⟩ rfl (lv 0 1 (by decide) (by decide)) rfl) ?_
  refine OPS.pG rfl rfl rfl ((decide_eq_true rfl)) (st_call (L := [((.tmp 68), _), ((.tmp 69), _), ((.tmp 70), _)]) false pl74 ⟨rfl, rfl, rfl, trivial⟩ rfl (c3) rfl) ?_
  refine OPS.pG rfl rfl rfl ((decide_eq_true rfl)) (st_eql rfl rfl) ?_
  refine OPS.p rfl (st_pickT rfl ((decide_eq_true rfl)) rfl) ?_
  refine OPS.p rfl (st_assign rfl) ?_
  refine OPS.nil ?_
  refine AWP.seq ?_
  refine AWP.drw mixed ?_
  refine DRW.p rfl (st_move rfl) ?_
  refine DRW.p rfl (st_move rfl) ?_
  refine DRW.pG rfl rfl rfl (rfl) (st_move rfl) ?_
  refine DRW.p rfl (st_pickT rfl (rfl) rfl) ?_
  refine DRW.p rfl (st_move rfl) ?_
  refine DRW.pG rfl rfl rfl ((decide_eq_true rfl)) (st_move rfl) ?_
  refine DRW.p rfl (st_pickT rfl ((decide_eq_true rfl)) rfl) ?_
  refine DRW.p rfl (st_move rfl) ?_
  refine DRW.pG rfl rfl rfl ((decide_eq_true rfl)) (st_move rfl) ?_
  refine DRW.pG rfl rfl rfl ((decide_eq_true rfl)) (st_call (L := [((.const (.int .i64 2)), _), ((.const (.int .i64 2)), _)]) false pl159 ⟨rfl, rfl, trivial⟩ rfl (lv 2 2 (by decide) (by decide)) rfl) ?_
  refine DRW.pG rfl rfl rfl ((decide_eq_true rfl)) (st_call (L := [((.const (.int .i64 (-1))), _), ((.const (.int .i64 (-2))), _)]) false pl159 ⟨rfl, rfl, trivial⟩ rfl (lv (-1) (-2) (by decide) (by decide)) rfl) ?_
  refine DRW.pG rfl rfl rfl ((decide_eq_true rfl)) (st_call (L := [((.tmp 82), _), ((.tmp 83), _), ((.tmp 84), _)]) false pl74 ⟨rfl, rfl, rfl, trivial⟩ rfl (c4) rfl) ?_
  refine DRW.pG rfl rfl rfl ((decide_eq_true rfl)) (st_eql rfl rfl) ?_
  refine DRW.p rfl (st_pickT rfl ((decide_eq_true rfl)) rfl) ?_
  refine DRW.p rfl (st_move rfl) ?_
  refine DRW.pG rfl rfl rfl ((decide_eq_true rfl)) (st_move rfl) ?_
  refine DRW.pG rfl rfl rfl ((decide_eq_true rfl)) (st_call (L := [((.const (.int .i64 0)), _), ((.const (.int .i64 3)), _)]) false pl159 ⟨rfl, rfl, trivial⟩ rfl (lv 0 3 (by decide) (by decide)) rfl) ?_
  refine DRW.pG rfl rfl rfl ((decide_eq_true rfl)) (st_call (L := [((.const (.int .i64 0)), _), ((.const (.int .i64 (-1))), _)]) false pl159 ⟨rfl, rfl, trivial⟩ rfl (lv 0 (-1) (by decide) (by decide)) rfl) ?_
  refine DRW.pG rfl rfl rfl ((decide_eq_true rfl)) (by exact st_load_va ag72 rfl rfl rfl rfl) ?_
  refine DRW.pG rfl rfl rfl ((decide_eq_true rfl)) (st_call (L := [((.tmp 89), _), ((.tmp 90), _), ((.tmp 91), _), ((.tmp 92), _)]) false pl64 ⟨rfl, rfl, rfl, rfl, trivial⟩ rfl (f3) rfl) ?_
  refine DRW.pG rfl rfl rfl ((decide_eq_true rfl)) (st_eql rfl rfl) ?_
  refine DRW.p rfl (st_pickT rfl ((decide_eq_true rfl)) rfl) ?_
  refine DRW.p rfl (st_assign rfl) ?_
  refine DRW.nil (by kernel_rfl) ?_
  refine AWP.ret ?_
  exact Ret.mk rfl rfl
end Go.Proofs.Gh.Tryz
end
section
set_option linter.unusedVariables false
set_option linter.unusedSimpArgs false
set_option maxRecDepth 4000
namespace Go.Proofs.Gh.Tryz
open Go Go.Proofs Go.Proofs.Gh

theorem half_qb24 (a : Int) (h : 0 ≤ a ∧ a < 96) : QB 24 3 (half a) := by
  unfold half
  have h1 : 2 + a / 48 % 2 = ((2 + a / 48 % 2).toNat : Int) := by omega
  rw [h1]
  exact qb_of (by omega) (by omega) (by omega)
theorem vec24 (x y : Int) : QV 24 3 (vec x y) := ⟨half_qb24 _ (around_lt x (by omega)), half_qb24 _ (around_lt y (by omega))⟩

theorem rate_plus (d : Dr) (v w : Rat × Rat) : rateQ d (plusV v w) = rateQ d v + rateQ d w := by
  unfold rateQ plusV
  rw [Rat.div_def, Rat.div_def, Rat.div_def]
  grind
theorem rate_times (d : Dr) (k : Rat) (v : Rat × Rat) : rateQ d (timesV k v) = k * rateQ d v := by
  unfold rateQ timesV
  rw [Rat.div_def, Rat.div_def]
  grind
theorem gap_plus (e : Ed) (v w : Rat × Rat) : gapQ e (plusV v w) = gapQ e v + rateQ e.1 w := by
  unfold gapQ
  rw [rate_plus]
  grind
theorem gap_along (e : Ed) (r v w : Rat × Rat) (s : Rat) : gapQ e (plusV r (plusV (timesV s v) (timesV (s * s * Rat.divInt 1 2) w))) = ((rateQ e.1 w * Rat.divInt 1 2) * s + rateQ e.1 v) * s + gapQ e r := by
  rw [gap_plus, rate_plus, rate_times, rate_times]
  grind
/-- The gap times the length of the direction. -/
theorem gap_dot {e : Ed} (h : 1 ≤ e.1.2.2) (r : Rat × Rat) : gapQ e r * qi e.1.2.2 = dotQ e.1 r - (e.2 : Rat) := by
  have h0 : qi e.1.2.2 ≠ 0 := by
    rw [qi_eq]
    intro hz
    have := Rat.intCast_inj.1 (show ((e.1.2.2 : Int) : Rat) = ((0 : Int) : Rat) by simpa using hz)
    omega
  unfold gapQ rateQ
  rw [Rat.divInt_eq_div, ← qi_eq e.1.2.2, show qi e.1.1 * r.1 + qi e.1.2.1 * r.2 = dotQ e.1 r from rfl]
  generalize dotQ e.1 r = x at *
  generalize (e.2 : Rat) = y at *
  generalize qi e.1.2.2 = z at *
  grind
theorem qi_pos {n : Int} (h : 1 ≤ n) : 0 < qi n := by
  rw [qi_eq]
  have : ((0 : Int) : Rat) < (n : Rat) := Rat.intCast_lt_intCast.2 (by omega)
  simpa using this
theorem gap_sign {e : Ed} (h : 1 ≤ e.1.2.2) (r : Rat × Rat) : (gapQ e r < 0 ↔ dotQ e.1 r < (e.2 : Rat)) ∧ (gapQ e r = 0 ↔ dotQ e.1 r = (e.2 : Rat)) := by
  have h1 := gap_dot h r
  have h2 := qi_pos h
  generalize gapQ e r = g at *
  generalize qi e.1.2.2 = z at *
  generalize dotQ e.1 r = x at *
  generalize (e.2 : Rat) = y at *
  have key : ∀ a : Rat, 0 < a → 0 < a * z := fun a ha => Rat.mul_pos ha h2
  constructor
  · constructor
    · intro hg
      have := key (-g) (by grind)
      grind
    · intro hx
      apply Classical.byContradiction
      intro hg
      have := mul_nn (show 0 ≤ g by grind) (show 0 ≤ z by grind)
      grind
  · constructor
    · intro hg; subst hg; grind
    · intro hx
      have h0 : g * z = 0 := by grind
      rcases Rat.mul_eq_zero.1 h0 with h | h
      · exact h
      · grind
theorem gapP_iff {e : Ed} (h : 1 ≤ e.1.2.2) (r : Rat × Rat) : gapP r e = true ↔ (e.2 : Rat) ≤ dotQ e.1 r := by
  unfold gapP
  rw [decide_eq_true_eq, sign_ge, ← Rat.not_lt, (gap_sign h r).1, Rat.not_lt]

theorem firstI_cases {α : Type} [Inhabited α] (p : α → Bool) (l : List α) : firstI p l = -1 ∨ ∃ i : Nat, i < l.length ∧ firstI p l = i ∧ p (l.getD i default) = true := by
  unfold firstI
  cases h : l.findIdx? p with
  | none => exact .inl rfl
  | some i =>
    obtain ⟨hi, hp, _⟩ := List.findIdx?_eq_some_iff_getElem.1 h
    exact .inr ⟨i, hi, rfl, by rw [List.getD_eq_getElem?_getD, List.getElem?_eq_getElem hi]; exact hp⟩
theorem grI_has {num : Ed → Rat} {has : Ed → Bool} {l : List Ed} : ∀ (n : Nat), (0 ≤ grI num has l n → has (l.getD (grI num has l n).toNat default) = true) ∧ (grI num has l n = -1 → ∀ k, k < n → has (l.getD k default) = false)
  | 0 => ⟨fun h => absurd h (by unfold grI; omega), fun _ k hk => absurd hk (by omega)⟩
  | n + 1 => by
    obtain ⟨h1, h2⟩ := grI_has n
    have hb := grI_bd num has l n
    unfold grI
    split
    · rename_i h
      exact ⟨fun _ => by rw [Int.toNat_natCast]; exact h.1, fun h' => absurd h' (by omega)⟩
    · rename_i h
      refine ⟨h1, fun h' k hk => ?_⟩
      by_cases hkn : k = n
      · subst hkn
        cases hh : has (l.getD k default) with
        | false => rfl
        | true => exact absurd ⟨hh, .inl (by omega)⟩ h
      · exact h2 h' k (by omega)
theorem grI_none {num : Ed → Rat} {has : Ed → Bool} {l : List Ed} : ((!l.any has) != decide (grI num has l l.length = -1)) = false := by
  have hb := grI_bd num has l l.length
  obtain ⟨h1, h2⟩ := @grI_has num has l l.length
  by_cases h : grI num has l l.length = -1
  · have : l.any has = false := by
      rw [List.any_eq_false]
      intro x hx
      obtain ⟨k, hk, rfl⟩ := List.getElem_of_mem hx
      have := h2 h k hk
      rw [List.getD_eq_getElem?_getD, List.getElem?_eq_getElem hk] at this
      intro hc
      rw [show has ((some l[k]).getD default) = has l[k] from rfl, hc] at this
      cases this
    rw [this, h]
    rfl
  · have hm := getD_mem (l := l) (show (grI num has l l.length).toNat < l.length by omega)
    have : l.any has = true := List.any_eq_true.2 ⟨_, hm, h1 (by omega)⟩
    rw [this, decide_eq_false h]
    rfl
theorem quarter {i : Nat} (h : i ≤ 4) : 0 ≤ Rat.divInt i 4 ∧ Rat.divInt i 4 ≤ 1 := by
  rcases (by omega : i = 0 ∨ i = 1 ∨ i = 2 ∨ i = 3 ∨ i = 4) with rfl | rfl | rfl | rfl | rfl <;> decide +kernel
theorem any_false {α : Type} {p : α → Bool} {l : List α} (h : (!l.any p) = true) : ∀ e ∈ l, p e = false := fun e he => by
  have h' : l.any p = false := by cases hh : l.any p <;> simp_all
  have := List.any_eq_false.1 h' e he
  simpa using this
end Go.Proofs.Gh.Tryz
end
