/-
  Contracts: SameEdges, SamePoints; slices.IndexFunc, ContainsFunc over edges.
  Contracts: Sides.
  Contracts: Sum.
  Contracts: the examples of the section (lives).
-/
import Derived.Test.YtabhcfenjelkcaaGreatPlA
import Derived.Test.YtabhcfenjelkcaaGreatGhD
import Derived.Test.YtabhcfenjelkcaaGreatPlB
section
set_option linter.unusedVariables false
set_option linter.unusedSimpArgs false
set_option maxRecDepth 4000
namespace Go.Proofs.Gh.Tryz
open Go Go.Proofs Go.Proofs.Gh

theorem getD_ext {α : Type} [Inhabited α] {l m : List α} (h : l.length = m.length) (he : ∀ i, i < l.length → l.getD i default = m.getD i default) : l = m := by
  refine List.ext_getElem h fun i h1 h2 => ?_
  have := he i h1
  rwa [List.getD_eq_getElem?_getD, List.getD_eq_getElem?_getD, List.getElem?_eq_getElem h1, List.getElem?_eq_getElem h2] at this

-- left out here: k_SameEdges

-- left out here: k_SamePoints

/-- The first index with a property, or -1. -/
def firstI {α : Type} (p : α → Bool) (l : List α) : Int := match l.findIdx? p with
  | some k => k
  | none => -1
theorem firstI_at {α : Type} [Inhabited α] {p : α → Bool} {l : List α} {i : Nat} (hi : i < l.length) (h : p (l.getD i default) = true) (hb : ∀ k, k < i → p (l.getD k default) = false) : firstI p l = i := by
  have : l.findIdx? p = some i := by
    rw [List.findIdx?_eq_some_iff_getElem]
    refine ⟨hi, ?_, fun j hj => ?_⟩
    · rwa [List.getD_eq_getElem?_getD, List.getElem?_eq_getElem hi] at h
    · have := hb j hj
      rw [List.getD_eq_getElem?_getD, List.getElem?_eq_getElem (by omega)] at this
      simpa using this
  unfold firstI
  rw [this]
theorem firstI_none {α : Type} [Inhabited α] {p : α → Bool} {l : List α} (hb : ∀ k, k < l.length → p (l.getD k default) = false) : firstI p l = -1 := by
  have : l.findIdx? p = none := by
    rw [List.findIdx?_eq_none_iff]
    intro x hx
    obtain ⟨k, hk, rfl⟩ := List.getElem_of_mem hx
    have := hb k hk
    rwa [List.getD_eq_getElem?_getD, List.getElem?_eq_getElem hk] at this
  unfold firstI
  rw [this]
theorem firstI_any {α : Type} {p : α → Bool} {l : List α} : decide (0 ≤ firstI p l) = l.any p := by
  unfold firstI
  cases h : l.findIdx? p with
  | none =>
    rw [List.findIdx?_eq_none_iff] at h
    have : l.any p = false := by
      rw [List.any_eq_false]
      intro x hx
      rw [h x hx]
      simp
    rw [this]
    rfl
  | some k =>
    rw [List.findIdx?_eq_some_iff_getElem] at h
    obtain ⟨hk, hp, _⟩ := h
    have : l.any p = true := List.any_eq_true.2 ⟨_, List.getElem_mem hk, hp⟩
    rw [this]
    simp

theorem lends_f {all : Bool} {rd : List (Nat × Blk)} : ∀ (cs : List (List FV)), lends all rd (cs.map .fptr) = some (cs.map .fptr)
  | [] => rfl
  | c :: cs => by
    simp only [List.map_cons, lends, lend, lend0, lends_f cs]
theorem lends_a {all : Bool} {rd : List (Nat × Blk)} {c : List FV} (cs : List (List FV)) : lends all rd ([.agg c] ++ cs.map .fptr) = some (.agg c :: cs.map .fptr) := by
  simp only [List.cons_append, List.nil_append, lends, lend, lend0, lends_f cs]

theorem lends_fn {all : Bool} {rd : List (Nat × Blk)} {c : FV} {f : FuncId} (cs : List (List FV)) : lends all rd [.cell c, .func f (cs.map .fptr)] = some [.cell c, .func f (cs.map .fptr)] := by
  have h : ∀ cs : List (List FV), lend0s all rd (cs.map .fptr) = some (cs.map .fptr) := by
    intro cs
    induction cs with
    | nil => rfl
    | cons c cs ih => simp only [List.map_cons, lend0s, lend0, ih]
  simp only [lends, lend, lend0, h, Option.map_some]

theorem k_IndexE (l : List Ed) (f : FuncId) (caps : List (List FV)) (p : Ed → Bool) (hl : l.length ≤ 1000) (hf : plainFn Tryz.prog f = true) (hp : ∀ a ∈ l, PureC Tryz.prog f (pE a :: caps.map .fptr) (pB (p a))) : PureC Tryz.prog 174 [pEs l, .func f (caps.map .fptr)] (pI (firstI p l)) := by
  refine PureC.of Tryz.func174 rfl Tryz.ntmps174 (vs := [.tmp 4]) rfl (Nat.le_of_ble_eq_true rfl) rfl fun cx _ _ => ?_
  refine AWP.seq ?_
  refine AWP.region ?_
  refine OPS.p rfl (st_assign rfl) ?_
  refine OPS.nil ?_
  refine AWP.seq ?_
  refine AWP.seq ?_
  refine AWP.region ?_
  refine OPS.p rfl (st_move rfl) ?_
  refine OPS.p rfl (st_len un68 rfl rfl) ?_
  refine OPS.p rfl (st_move rfl) ?_
  refine OPS.nil ?_
  refine AWP.block ?_
  refine AWP.loopR (σ := Nat) (fun (zz : Nat) => ⟨[(0, pEs l), (1, (.func f (caps.map .fptr))), (7, pI l.length), (8, pI zz)], [], 0⟩) (fun (zz : Nat) => zz ≤ l.length ∧ ∀ k, k < zz → p (l.getD k default) = false) (fun (zz : Nat) => l.length - zz) (0) (Sub.r (Sub.mk' ⟨(by rfl), (by rfl), (by rfl), (by rfl), trivial⟩ trivial (by exact Nat.le_refl _))) (by exact ⟨Nat.zero_le _, fun k hk => absurd hk (by omega)⟩) ?_
  rintro i hinv
  have hinv : i ≤ l.length ∧ ∀ k, k < i → p (l.getD k default) = false := hinv
  obtain ⟨h1, h2⟩ := hinv
  show AWP _ _ _ _ _ _ _ ⟨[(0, pEs l), (1, (.func f (caps.map .fptr))), (7, pI l.length), (8, pI i)], [], 0⟩
  refine AWP.seq ?_
  refine AWP.region ?_
  refine OPS.p rfl (st_lss rfl rfl) ?_
  refine OPS.nil ?_
  refine AWP.seq ?_
  refine AWP.condD rfl (fun hc2 => ?_) (fun hc2 => ?_)
  · have hi : i < l.length := by omega
    refine AWP.skip ?_
    refine AWP.seq ?_
    refine AWP.block ?_
    refine AWP.seq ?_
    refine AWP.region ?_
    refine OPS.p rfl (st_move rfl) ?_
    refine OPS.p rfl (st_assign rfl) ?_
    refine OPS.nil ?_
    refine AWP.seq ?_
    refine AWP.region ?_
    refine OPS.p rfl (st_move rfl) ?_
    refine OPS.p rfl (st_move rfl) ?_
    refine OPS.p rfl (st_move rfl) ?_
    refine OPS.p rfl (by exact st_index_R es68 rfl rfl (fun _ => rfl) rfl (by omega) (by omega) (by rfl)) ?_
    refine OPS.p rfl (by exact st_load_Rn ag83 rfl (fun _ => rfl) rfl (by omega)) ?_
    refine OPS.p rfl (st_callv (L := [((.tmp 15), _)]) false rfl hf ⟨rfl, trivial⟩ (lends_a caps) (hp _ (getD_mem hi)) rfl) ?_
    refine OPS.nil ?_
    refine AWP.cond rfl (fun hc4 => ?_) (fun hc4 => ?_)
    · refine AWP.seq ?_
      refine AWP.region ?_
      refine OPS.p rfl (st_move rfl) ?_
      refine OPS.p rfl (st_assign rfl) ?_
      refine OPS.nil ?_
      refine AWP.ret ?_
      exact Ret.mk rfl (congrArg pI (firstI_at hi hc4 h2).symm)
    · refine AWP.skip ?_
      refine AWP.region ?_
      refine OPS.p rfl (by exact st_add_i rfl rfl (by omega) (by omega)) ?_
      refine OPS.p rfl (st_move rfl) ?_
      refine OPS.nil ?_
      refine ⟨(i + 1), (Sub.r (Sub.mk' ⟨(by rfl), (by rfl), (by rfl), (by rfl), trivial⟩ trivial (by exact Nat.le_refl _))), ?_, ?_⟩
      · try dsimp only
        refine ⟨by omega, fun k hk => ?_⟩
        by_cases hki : k = i
        · subst hki
          exact hc4
        · exact h2 k (by omega)
      · try dsimp only
        omega
  · refine AWP.exit ?_
    refine AWP.seq ?_
    refine AWP.region ?_
    refine OPS.p rfl (st_assign rfl) ?_
    refine OPS.nil ?_
    refine AWP.ret ?_
    exact Ret.mk rfl (congrArg pI (firstI_none fun k hk => h2 k (by omega)).symm)

theorem k_ContainsE (l : List Ed) (f : FuncId) (caps : List (List FV)) (p : Ed → Bool) (hl : l.length ≤ 1000) (hf : plainFn Tryz.prog f = true) (hp : ∀ a ∈ l, PureC Tryz.prog f (pE a :: caps.map .fptr) (pB (p a))) : PureC Tryz.prog 162 [pEs l, .func f (caps.map .fptr)] (pB (l.any p)) := by
  refine PureC.of Tryz.func162 rfl Tryz.ntmps162 (vs := [.tmp 4]) rfl (Nat.le_of_ble_eq_true rfl) rfl fun cx _ _ => ?_
  refine AWP.seq ?_
  refine AWP.region ?_
  refine OPS.p rfl (st_assign rfl) ?_
  refine OPS.nil ?_
  refine AWP.seq ?_
  refine AWP.region ?_
  refine OPS.p rfl (st_move rfl) ?_
  refine OPS.p rfl (st_move rfl) ?_
  refine OPS.p rfl (st_call (L := [((.tmp 5), _), ((.tmp 6), _)]) false pl174 ⟨rfl, rfl, trivial⟩ (lends_fn caps) (k_IndexE l f caps p hl hf hp) rfl) ?_
  refine OPS.p rfl (st_geq rfl rfl) ?_
  refine OPS.p rfl (st_assign rfl) ?_
  refine OPS.nil ?_
  refine AWP.ret ?_
  exact Ret.mk rfl (congrArg pB firstI_any)

theorem k_Sides11 (e : Ed) (d : Dr) : PureC Tryz.prog 163 [pE e, .fptr (eD d)] (pB (decide (e.1 = d))) := by
  refine PureC.of Tryz.func163 rfl Tryz.ntmps163 (vs := [.tmp 3]) rfl (Nat.le_of_ble_eq_true rfl) rfl fun cx _ _ => ?_
  refine AWP.seq ?_
  refine AWP.region ?_
  refine OPS.a rfl (st_box rfl rfl) ?_
  refine OPS.p rfl (st_assign rfl) ?_
  refine OPS.nil ?_
  refine AWP.seq ?_
  refine AWP.region ?_
  refine OPS.p rfl (by exact st_field_p off83_0 rfl) ?_
  refine OPS.p rfl (by exact st_load_va ag81 rfl rfl rfl rfl) ?_
  refine OPS.p rfl (by exact st_load_fa ag81 rfl (by exact Nat.le_refl _)) ?_
  refine OPS.p rfl (st_eql_D ns81 eg81 eq81 rfl rfl) ?_
  refine OPS.p rfl (st_assign rfl) ?_
  refine OPS.nil ?_
  refine AWP.ret ?_
  exact Ret.mk rfl rfl
end Go.Proofs.Gh.Tryz
end
section
set_option linter.unusedVariables false
set_option linter.unusedSimpArgs false
set_option maxRecDepth 4000
namespace Go.Proofs.Gh.Tryz
open Go Go.Proofs Go.Proofs.Gh

theorem take_fold {α β : Type} (f : β → α → β) (z : β) {l : List α} {i : Nat} {d : α} (h : i < l.length) (hd : l[i]'h = d) : (l.take (i + 1)).foldl f z = f ((l.take i).foldl f z) d := by
  rw [List.take_succ_eq_append_getElem h, List.foldl_append, hd]
  rfl
theorem addE_old {a b : List Pt} {out : List Ed} {d : Dr} (h : (out.any fun e => decide (e.1 = d)) = true) : addE a b out d = out := by
  unfold addE
  rw [if_pos h]
theorem addE_new {a b : List Pt} {out : List Ed} {d : Dr} (h : (out.any fun e => decide (e.1 = d)) = false) : addE a b out d = out ++ [mkE a b d] := by
  unfold addE
  rw [h]
  rfl
theorem fam_side {l : List Pt} (h : Fam l) {i : Nat} (hi : i < l.length) : PureC Tryz.prog 166 [pP (l.getD i default), pP (nxt l i)] (.tup [pD (dirA l i), pB true]) := k_side (fam_good h) hi

theorem k_Sides (a b : List Pt) (ha : Fam a) (hb : Fam b) : PureC Tryz.prog 60 [pPs a, pPs b] (pEs (sidesL a b)) := by
  have la := fam_len ha
  have lb := fam_len hb
  have sa := fam_Sp ha
  have sb := fam_Sp hb
  have da : (dirsOf a).length = a.length := by simp [dirsOf]
  have db : ((dirsOf b).map turn).length = b.length := by simp [dirsOf]
  refine PureC.of Tryz.func60 rfl Tryz.ntmps60 (vs := [.tmp 4]) rfl (Nat.le_of_ble_eq_true rfl) rfl fun cx _ _ => ?_
  refine AWP.seq ?_
  refine AWP.region ?_
  refine OPS.a rfl (st_box rfl rfl) ?_
  refine OPS.a rfl (st_box rfl rfl) ?_
  refine OPS.p rfl (st_assign rfl) ?_
  refine OPS.nil ?_
  refine AWP.seq ?_
  refine AWP.region ?_
  refine OPS.a rfl (st_alloc ze68) ?_
  refine OPS.nil ?_
  refine AWP.seq ?_
  refine AWP.region ?_
  refine OPS.p rfl (st_makeFunc (L := [((.tmp 5), _), ((.tmp 2), _), ((.tmp 3), _)]) ⟨rfl, rfl, rfl, trivial⟩) ?_
  refine OPS.p rfl (st_assign rfl) ?_
  refine OPS.nil ?_
  refine AWP.seq ?_
  refine AWP.seq ?_
  refine AWP.region ?_
  refine OPS.p rfl (by exact st_load_vs sc66 rfl rfl rfl) ?_
  refine OPS.p rfl (st_len un66 rfl rfl) ?_
  refine OPS.p rfl (st_move rfl) ?_
  refine OPS.nil ?_
  refine AWP.block ?_
  refine AWP.adoptV 2 83 4 rfl ?_
  refine AWP.loopR (σ := Nat × List Ed) (fun (zz : Nat × List Ed) => ⟨[(2, .ptr 0 0), (3, .ptr 1 0), (5, .ptr 2 0), (6, .func 161 [.ptr 2 0, .ptr 0 0, .ptr 1 0]), (15, pI a.length), (16, pI zz.1)], [(0, .var [pPs a]), (1, .var [pPs b]), (2, .var [.own 3 zz.2.length]), (3, .arr 83 4 zz.2.length (fR eE zz.2))], 4⟩) (fun (zz : Nat × List Ed) => zz.1 ≤ a.length ∧ zz.2.length ≤ zz.1 ∧ zz.2 = ((dirsOf a).take zz.1).foldl (addE a b) []) (fun (zz : Nat × List Ed) => a.length - zz.1) (0, []) (Sub.r (Sub.mk' ⟨(by rfl), (by rfl), (by rfl), (by rfl), (by rfl), (by rfl), trivial⟩ ⟨(by rfl), (by rfl), (by rfl), (by rfl), trivial⟩ (by exact Nat.le_refl _))) (by exact ⟨by omega, by simp, rfl⟩) ?_
  rintro ⟨i, o⟩ hinv
  have hinv : i ≤ a.length ∧ o.length ≤ i ∧ o = ((dirsOf a).take i).foldl (addE a b) [] := hinv
  obtain ⟨h1, h2, h3⟩ := hinv
  show AWP _ _ _ _ _ _ _ ⟨[(2, .ptr 0 0), (3, .ptr 1 0), (5, .ptr 2 0), (6, .func 161 [.ptr 2 0, .ptr 0 0, .ptr 1 0]), (15, pI a.length), (16, pI i)], [(0, .var [pPs a]), (1, .var [pPs b]), (2, .var [.own 3 o.length]), (3, .arr 83 4 o.length (fR eE o))], 4⟩
  refine AWP.seq ?_
  refine AWP.region ?_
  refine OPS.p rfl (st_lss rfl rfl) ?_
  refine OPS.nil ?_
  refine AWP.seq ?_
  refine AWP.condD rfl (fun hc4 => ?_) (fun hc4 => ?_)
  · have hi : i < a.length := by omega
    have hd := (fam_dir ha hi).1
    have hS := dir_Sd hd
    have hT := dir_Sd (turn_mem hd)
    have b1 := most_bd ha hd
    have b2 := most_bd hb (turn_mem hd)
    have hsm := dir_small hd
    have e0 : (dirsOf a)[i]'(by omega) = dirA a i := by simp [dirsOf]
    have hf := take_fold (addE a b) [] (l := dirsOf a) (i := i) (by omega) e0
    generalize hgd : dirA a i = d at *
    refine AWP.skip ?_
    refine AWP.seq ?_
    refine AWP.block ?_
    refine AWP.seq ?_
    refine AWP.region ?_
    refine OPS.p rfl (st_move rfl) ?_
    refine OPS.p rfl (st_assign rfl) ?_
    refine OPS.nil ?_
    refine AWP.seq ?_
    refine AWP.drw mixed ?_
    refine DRW.p rfl (by exact st_load_vs sc66 rfl rfl rfl) ?_
    refine DRW.p rfl (st_move rfl) ?_
    refine DRW.p rfl (by exact st_index_R es66 rfl rfl (fun _ => rfl) rfl (by omega) (by omega) (by rfl)) ?_
    refine DRW.p rfl (by exact st_load_Rn ag148 rfl (fun _ => rfl) rfl (by omega)) ?_
    refine DRW.p rfl (by exact st_load_vs sc66 rfl rfl rfl) ?_
    refine DRW.p rfl (st_move rfl) ?_
    refine DRW.p rfl (st_call (L := [((.tmp 24), _), ((.tmp 25), _)]) false pl167 ⟨rfl, rfl, trivial⟩ rfl (k_next a i hi (by omega)) rfl) ?_
    refine DRW.p rfl (st_call (L := [((.tmp 23), _), ((.tmp 26), _)]) false pl166 ⟨rfl, rfl, trivial⟩ rfl ((hgd ▸ fam_side ha hi : PureC Tryz.prog 166 [pP (a.getD i default), pP (nxt a i)] (.tup [pD d, pB true]))) rfl) ?_
    refine DRW.p rfl (st_move rfl) ?_
    refine DRW.p rfl (st_extract rfl rfl) ?_
    refine DRW.p rfl (st_extract rfl rfl) ?_
    refine DRW.a rfl (st_alloc ze81) ?_
    refine DRW.s (by exact st_store_v sz81 rfl rfl rfl rfl rfl rfl) ?_
    refine DRW.p rfl (st_assign rfl) ?_
    refine DRW.nil (by kernel_rfl) ?_
    refine AWP.region ?_
    refine OPS.p rfl (st_move rfl) ?_
    refine OPS.p rfl (by exact st_load_va ag81 rfl rfl rfl rfl) ?_
    refine OPS.enterv (L := [((.tmp 31), _)]) (vs := []) Tryz.func161 rfl Tryz.ntmps161 rfl pl161 rfl ⟨rfl, trivial⟩ (Nat.le_of_ble_eq_true rfl) rfl rfl fun cx1 _ _ => ?_
    refine AWP.seq ?_
    refine AWP.region ?_
    refine OPS.a rfl (st_box rfl rfl) ?_
    refine OPS.nil ?_
    refine AWP.seq ?_
    refine AWP.region ?_
    refine OPS.p rfl (by exact st_load_vs sc68 rfl rfl rfl) ?_
    refine OPS.p rfl (st_makeFunc (L := [((.tmp 4), _)]) ⟨rfl, trivial⟩) ?_
    refine OPS.p rfl (st_call (L := [((.tmp 5), _), ((.tmp 6), _)]) true pl162 ⟨rfl, rfl, trivial⟩ rfl (k_ContainsE o 163 [eD d] (fun e => decide (e.1 = d)) (by omega) pl163 (fun e _ => k_Sides11 e d)) rfl) ?_
    refine OPS.p rfl (by exact st_not rfl) ?_
    refine OPS.nil ?_
    refine AWP.cond rfl (fun hc1 => ?_) (fun hc1 => ?_)
    · refine AWP.drw mixed ?_
      refine DRW.p rfl (by exact st_load_vs sc68 rfl rfl rfl) ?_
      refine DRW.p rfl (by exact st_load_va ag81 rfl rfl rfl rfl) ?_
      refine DRW.p rfl (by exact st_load_vs sc66 rfl rfl rfl) ?_
      refine DRW.p rfl (by exact st_load_va ag81 rfl rfl rfl rfl) ?_
      refine DRW.p rfl (st_call (L := [((.tmp 11), _), ((.tmp 12), _)]) false pl164 ⟨rfl, rfl, trivial⟩ rfl (k_Most a d (by omega) (by omega) sa hS) rfl) ?_
      refine DRW.p rfl (by exact st_load_vs sc66 rfl rfl rfl) ?_
      refine DRW.p rfl (by exact st_load_va ag81 rfl rfl rfl rfl) ?_
      refine DRW.p rfl (st_call (L := [((.tmp 15), _)]) false pl165 ⟨rfl, trivial⟩ rfl (k_turned d (by omega) (by omega)) rfl) ?_
      refine DRW.p rfl (st_call (L := [((.tmp 14), _), ((.tmp 16), _)]) false pl164 ⟨rfl, rfl, trivial⟩ rfl (k_Most b (turn d) (by omega) (by omega) sb hT) rfl) ?_
      refine DRW.p rfl (by exact st_add_i rfl rfl (by omega) (by omega)) ?_
      refine DRW.p rfl (st_build (L := [(0, (.tmp 10), _), (1, (.tmp 18), _)]) zf83 pl_83 ⟨rfl, rfl, trivial⟩ rfl rfl) ?_
      refine DRW.a rfl (Stp.frz (st_buildS (L := [(0, (.tmp 19), _)]) ei68 rfl ⟨rfl, trivial⟩ rfl rfl) rfl) ?_
      refine DRW.a rfl (st_append_R (v := [mkE a b d]) ei68 un68 rfl rfl rfl rfl (fun _ => rfl) rfl rfl (by simp only [List.length_singleton]; omega) (by simp only [List.length_singleton]; omega)) ?_
      refine DRW.s (by exact st_store_v sz68 rfl rfl rfl rfl rfl rfl) ?_
      refine DRW.nil (by kernel_rfl) ?_
      refine Back.some rfl ?_
      refine OPS.nil ?_
      refine AWP.region ?_
      refine OPS.p rfl (by exact st_add_i rfl rfl (by omega) (by omega)) ?_
      refine OPS.p rfl (st_move rfl) ?_
      refine OPS.nil ?_
      refine ⟨(i + 1, o ++ [mkE a b d]), (Ren.r (Ren.mk' (ρ := [(0, 0), (1, 1), (2, 2), (7, 3)]) rfl ⟨(by rfl), (by rfl), (by rfl), (by rfl), (by rfl), (by rfl), trivial⟩ ⟨(by rfl), (by rfl), (by rfl), (by rfl), trivial⟩)), ?_, ?_⟩
      · try dsimp only
        refine ⟨by omega, by rw [List.length_append, List.length_singleton]; omega, ?_⟩
        rw [hf, ← h3, addE_new (by simpa using hc1)]
      · try dsimp only
        omega
    · refine AWP.skip ?_
      refine Back.some rfl ?_
      refine OPS.nil ?_
      refine AWP.region ?_
      refine OPS.p rfl (by exact st_add_i rfl rfl (by omega) (by omega)) ?_
      refine OPS.p rfl (st_move rfl) ?_
      refine OPS.nil ?_
      refine ⟨(i + 1, o), (Ren.r (Ren.mk' (ρ := [(0, 0), (1, 1), (2, 2), (3, 3)]) rfl ⟨(by rfl), (by rfl), (by rfl), (by rfl), (by rfl), (by rfl), trivial⟩ ⟨(by rfl), (by rfl), (by rfl), (by rfl), trivial⟩)), ?_, ?_⟩
      · try dsimp only
        refine ⟨by omega, by omega, ?_⟩
        rw [hf, ← h3, addE_old (by simpa using hc1)]
      · try dsimp only
        omega
  · refine AWP.exit ?_
    refine AWP.seq ?_
    refine AWP.seq ?_
    refine AWP.region ?_
    refine OPS.p rfl (by exact st_load_vs sc66 rfl rfl rfl) ?_
    refine OPS.p rfl (st_len un66 rfl rfl) ?_
    refine OPS.p rfl (st_move rfl) ?_
    refine OPS.nil ?_
    refine AWP.block ?_
    have hia : i = a.length := by omega
    have h3' : o = (dirsOf a).foldl (addE a b) [] := by rw [h3, hia, ← da, List.take_length]
    refine AWP.loopR (σ := Nat × List Ed) (fun (zz : Nat × List Ed) => ⟨[(2, .ptr 0 0), (3, .ptr 1 0), (5, .ptr 2 0), (6, .func 161 [.ptr 2 0, .ptr 0 0, .ptr 1 0]), (35, pI b.length), (36, pI zz.1)], [(0, .var [pPs a]), (1, .var [pPs b]), (2, .var [.own 3 zz.2.length]), (3, .arr 83 4 zz.2.length (fR eE zz.2))], 4⟩) (fun (zz : Nat × List Ed) => zz.1 ≤ b.length ∧ zz.2.length ≤ 5 + zz.1 ∧ zz.2 = (((dirsOf b).map turn).take zz.1).foldl (addE a b) ((dirsOf a).foldl (addE a b) [])) (fun (zz : Nat × List Ed) => b.length - zz.1) (0, o) (Sub.r (Sub.mk' ⟨(by rfl), (by rfl), (by rfl), (by rfl), (by rfl), (by rfl), trivial⟩ ⟨(by rfl), (by rfl), (by rfl), (by rfl), trivial⟩ (by exact Nat.le_refl _))) (by exact ⟨by omega, by show o.length ≤ 5 + 0; omega, h3'⟩) ?_
    rintro ⟨i, o⟩ hinv
    have hinv : i ≤ b.length ∧ o.length ≤ 5 + i ∧ o = (((dirsOf b).map turn).take i).foldl (addE a b) ((dirsOf a).foldl (addE a b) []) := hinv
    obtain ⟨k1, k2, k3⟩ := hinv
    show AWP _ _ _ _ _ _ _ ⟨[(2, .ptr 0 0), (3, .ptr 1 0), (5, .ptr 2 0), (6, .func 161 [.ptr 2 0, .ptr 0 0, .ptr 1 0]), (35, pI b.length), (36, pI i)], [(0, .var [pPs a]), (1, .var [pPs b]), (2, .var [.own 3 o.length]), (3, .arr 83 4 o.length (fR eE o))], 4⟩
    refine AWP.seq ?_
    refine AWP.region ?_
    refine OPS.p rfl (st_lss rfl rfl) ?_
    refine OPS.nil ?_
    refine AWP.seq ?_
    refine AWP.condD rfl (fun hc10 => ?_) (fun hc10 => ?_)
    · have hi : i < b.length := by omega
      have hd := (fam_dir hb hi).1
      have hsm := dir_small hd
      have e0 : ((dirsOf b).map turn)[i]'(by omega) = turn (dirA b i) := by simp [dirsOf]
      have hf := take_fold (addE a b) ((dirsOf a).foldl (addE a b) []) (l := (dirsOf b).map turn) (i := i) (by omega) e0
      have hn := fam_side hb hi
      generalize dirA b i = c at *
      have hS := dir_Sd (turn_mem hd)
      have hT := dir_Sd (turn_mem (turn_mem hd))
      have b1 := most_bd ha (turn_mem hd)
      have b2 := most_bd hb (turn_mem (turn_mem hd))
      have hsm' := dir_small (turn_mem hd)
      have hct := k_turned c (by omega) (by omega)
      generalize turn c = d at *
      refine AWP.skip ?_
      refine AWP.seq ?_
      refine AWP.block ?_
      refine AWP.seq ?_
      refine AWP.region ?_
      refine OPS.p rfl (st_move rfl) ?_
      refine OPS.p rfl (st_assign rfl) ?_
      refine OPS.nil ?_
      refine AWP.seq ?_
      refine AWP.drw mixed ?_
      refine DRW.p rfl (by exact st_load_vs sc66 rfl rfl rfl) ?_
      refine DRW.p rfl (st_move rfl) ?_
      refine DRW.p rfl (by exact st_index_R es66 rfl rfl (fun _ => rfl) rfl (by omega) (by omega) (by rfl)) ?_
      refine DRW.p rfl (by exact st_load_Rn ag148 rfl (fun _ => rfl) rfl (by omega)) ?_
      refine DRW.p rfl (by exact st_load_vs sc66 rfl rfl rfl) ?_
      refine DRW.p rfl (st_move rfl) ?_
      refine DRW.p rfl (st_call (L := [((.tmp 44), _), ((.tmp 45), _)]) false pl167 ⟨rfl, rfl, trivial⟩ rfl (k_next b i hi (by omega)) rfl) ?_
      refine DRW.p rfl (st_call (L := [((.tmp 43), _), ((.tmp 46), _)]) false pl166 ⟨rfl, rfl, trivial⟩ rfl (hn) rfl) ?_
      refine DRW.p rfl (st_move rfl) ?_
      refine DRW.p rfl (st_extract rfl rfl) ?_
      refine DRW.p rfl (st_extract rfl rfl) ?_
      refine DRW.a rfl (st_alloc ze81) ?_
      refine DRW.s (by exact st_store_v sz81 rfl rfl rfl rfl rfl rfl) ?_
      refine DRW.p rfl (st_assign rfl) ?_
      refine DRW.nil (by kernel_rfl) ?_
      refine AWP.region ?_
      refine OPS.p rfl (st_move rfl) ?_
      refine OPS.p rfl (by exact st_load_va ag81 rfl rfl rfl rfl) ?_
      refine OPS.p rfl (st_call (L := [((.tmp 51), _)]) false pl165 ⟨rfl, trivial⟩ rfl (hct) rfl) ?_
      refine OPS.enterv (L := [((.tmp 52), _)]) (vs := []) Tryz.func161 rfl Tryz.ntmps161 rfl pl161 rfl ⟨rfl, trivial⟩ (Nat.le_of_ble_eq_true rfl) rfl rfl fun cx2 _ _ => ?_
      refine AWP.seq ?_
      refine AWP.region ?_
      refine OPS.a rfl (st_box rfl rfl) ?_
      refine OPS.nil ?_
      refine AWP.seq ?_
      refine AWP.region ?_
      refine OPS.p rfl (by exact st_load_vs sc68 rfl rfl rfl) ?_
      refine OPS.p rfl (st_makeFunc (L := [((.tmp 4), _)]) ⟨rfl, trivial⟩) ?_
      refine OPS.p rfl (st_call (L := [((.tmp 5), _), ((.tmp 6), _)]) true pl162 ⟨rfl, rfl, trivial⟩ rfl (k_ContainsE o 163 [eD d] (fun e => decide (e.1 = d)) (by omega) pl163 (fun e _ => k_Sides11 e d)) rfl) ?_
      refine OPS.p rfl (by exact st_not rfl) ?_
      refine OPS.nil ?_
      refine AWP.cond rfl (fun hc1 => ?_) (fun hc1 => ?_)
      · refine AWP.drw mixed ?_
        refine DRW.p rfl (by exact st_load_vs sc68 rfl rfl rfl) ?_
        refine DRW.p rfl (by exact st_load_va ag81 rfl rfl rfl rfl) ?_
        refine DRW.p rfl (by exact st_load_vs sc66 rfl rfl rfl) ?_
        refine DRW.p rfl (by exact st_load_va ag81 rfl rfl rfl rfl) ?_
        refine DRW.p rfl (st_call (L := [((.tmp 11), _), ((.tmp 12), _)]) false pl164 ⟨rfl, rfl, trivial⟩ rfl (k_Most a d (by omega) (by omega) sa hS) rfl) ?_
        refine DRW.p rfl (by exact st_load_vs sc66 rfl rfl rfl) ?_
        refine DRW.p rfl (by exact st_load_va ag81 rfl rfl rfl rfl) ?_
        refine DRW.p rfl (st_call (L := [((.tmp 15), _)]) false pl165 ⟨rfl, trivial⟩ rfl (k_turned d (by omega) (by omega)) rfl) ?_
        refine DRW.p rfl (st_call (L := [((.tmp 14), _), ((.tmp 16), _)]) false pl164 ⟨rfl, rfl, trivial⟩ rfl (k_Most b (turn d) (by omega) (by omega) sb hT) rfl) ?_
        refine DRW.p rfl (by exact st_add_i rfl rfl (by omega) (by omega)) ?_
        refine DRW.p rfl (st_build (L := [(0, (.tmp 10), _), (1, (.tmp 18), _)]) zf83 pl_83 ⟨rfl, rfl, trivial⟩ rfl rfl) ?_
        refine DRW.a rfl (Stp.frz (st_buildS (L := [(0, (.tmp 19), _)]) ei68 rfl ⟨rfl, trivial⟩ rfl rfl) rfl) ?_
        refine DRW.a rfl (st_append_R (v := [mkE a b d]) ei68 un68 rfl rfl rfl rfl (fun _ => rfl) rfl rfl (by simp only [List.length_singleton]; omega) (by simp only [List.length_singleton]; omega)) ?_
        refine DRW.s (by exact st_store_v sz68 rfl rfl rfl rfl rfl rfl) ?_
        refine DRW.nil (by kernel_rfl) ?_
        refine Back.some rfl ?_
        refine OPS.nil ?_
        refine AWP.region ?_
        refine OPS.p rfl (by exact st_add_i rfl rfl (by omega) (by omega)) ?_
        refine OPS.p rfl (st_move rfl) ?_
        refine OPS.nil ?_
        refine ⟨(i + 1, o ++ [mkE a b d]), (Ren.r (Ren.mk' (ρ := [(0, 0), (1, 1), (2, 2), (7, 3)]) rfl ⟨(by rfl), (by rfl), (by rfl), (by rfl), (by rfl), (by rfl), trivial⟩ ⟨(by rfl), (by rfl), (by rfl), (by rfl), trivial⟩)), ?_, ?_⟩
        · try dsimp only
          refine ⟨by omega, by rw [List.length_append, List.length_singleton]; omega, ?_⟩
          rw [hf, ← k3, addE_new (by simpa using hc1)]
        · try dsimp only
          omega
      · refine AWP.skip ?_
        refine Back.some rfl ?_
        refine OPS.nil ?_
        refine AWP.region ?_
        refine OPS.p rfl (by exact st_add_i rfl rfl (by omega) (by omega)) ?_
        refine OPS.p rfl (st_move rfl) ?_
        refine OPS.nil ?_
        refine ⟨(i + 1, o), (Ren.r (Ren.mk' (ρ := [(0, 0), (1, 1), (2, 2), (3, 3)]) rfl ⟨(by rfl), (by rfl), (by rfl), (by rfl), (by rfl), (by rfl), trivial⟩ ⟨(by rfl), (by rfl), (by rfl), (by rfl), trivial⟩)), ?_, ?_⟩
        · try dsimp only
          refine ⟨by omega, by omega, ?_⟩
          rw [hf, ← k3, addE_old (by simpa using hc1)]
        · try dsimp only
          omega
    · refine AWP.exit ?_
      refine AWP.seq ?_
      refine AWP.region ?_
      refine OPS.p rfl (by exact st_load_vs sc68 rfl rfl rfl) ?_
      refine OPS.p rfl (st_assign rfl) ?_
      refine OPS.nil ?_
      have hib : i = b.length := by omega
      have hend : o = sidesL a b := by rw [k3, hib, ← db, List.take_length, sidesL, dirsAB, List.foldl_append]
      refine AWP.freeze 3 [4] rfl ⟨rfl, trivial⟩ ?_
      refine AWP.ret ?_
      exact Ret.mk rfl (by rw [hend])
end Go.Proofs.Gh.Tryz
end
section
set_option linter.unusedVariables false
set_option linter.unusedSimpArgs false
set_option maxRecDepth 4000
namespace Go.Proofs.Gh.Tryz
open Go Go.Proofs Go.Proofs.Gh

theorem k_far (p q : Pt) (hp : Sp p) (hq : Sp q) : PureC Tryz.prog 173 [pP p, pP q] (pI (far p q)) := by
  obtain ⟨a1, a2, a3, a4⟩ := hp
  obtain ⟨b1, b2, b3, b4⟩ := hq
  have h1 := mb (a := p.1 - q.1) (b := p.1 - q.1) (M := 200000) (by omega) (by omega)
  have h2 := mb (a := p.2 - q.2) (b := p.2 - q.2) (M := 200000) (by omega) (by omega)
  refine PureC.of Tryz.func173 rfl Tryz.ntmps173 (vs := [.tmp 4]) rfl (Nat.le_of_ble_eq_true rfl) rfl fun cx _ _ => ?_
  refine AWP.seq ?_
  refine AWP.region ?_
  refine OPS.a rfl (st_box rfl rfl) ?_
  refine OPS.a rfl (st_box rfl rfl) ?_
  refine OPS.p rfl (st_assign rfl) ?_
  refine OPS.nil ?_
  refine AWP.seq ?_
  refine AWP.region ?_
  refine OPS.p rfl (by exact st_field_p off148_0 rfl) ?_
  refine OPS.p rfl (by exact st_load_vs sc3 rfl rfl rfl) ?_
  refine OPS.p rfl (by exact st_field_p off148_0 rfl) ?_
  refine OPS.p rfl (by exact st_load_vs sc3 rfl rfl rfl) ?_
  refine OPS.p rfl (by exact st_sub_i rfl rfl (by omega) (by omega)) ?_
  refine OPS.p rfl (by exact st_field_p off148_0 rfl) ?_
  refine OPS.p rfl (by exact st_load_vs sc3 rfl rfl rfl) ?_
  refine OPS.p rfl (by exact st_field_p off148_0 rfl) ?_
  refine OPS.p rfl (by exact st_load_vs sc3 rfl rfl rfl) ?_
  refine OPS.p rfl (by exact st_sub_i rfl rfl (by omega) (by omega)) ?_
  refine OPS.p rfl (by exact st_mul_i rfl rfl (by omega) (by omega)) ?_
  refine OPS.p rfl (by exact st_field_p off148_1 rfl) ?_
  refine OPS.p rfl (by exact st_load_vs sc3 rfl rfl rfl) ?_
  refine OPS.p rfl (by exact st_field_p off148_1 rfl) ?_
  refine OPS.p rfl (by exact st_load_vs sc3 rfl rfl rfl) ?_
  refine OPS.p rfl (by exact st_sub_i rfl rfl (by omega) (by omega)) ?_
  refine OPS.p rfl (by exact st_field_p off148_1 rfl) ?_
  refine OPS.p rfl (by exact st_load_vs sc3 rfl rfl rfl) ?_
  refine OPS.p rfl (by exact st_field_p off148_1 rfl) ?_
  refine OPS.p rfl (by exact st_load_vs sc3 rfl rfl rfl) ?_
  refine OPS.p rfl (by exact st_sub_i rfl rfl (by omega) (by omega)) ?_
  refine OPS.p rfl (by exact st_mul_i rfl rfl (by omega) (by omega)) ?_
  refine OPS.p rfl (by exact st_add_i rfl rfl (by omega) (by omega)) ?_
  refine OPS.p rfl (st_assign rfl) ?_
  refine OPS.nil ?_
  refine AWP.ret ?_
  exact Ret.mk rfl rfl

def or2 (a b : Int) : Int := if a ≠ 0 then a else b
theorem k_or (a b : Int) : PureC Tryz.prog 170 [pL [a, b]] (pI (or2 a b)) := by
  refine PureC.of Tryz.func170 rfl Tryz.ntmps170 (vs := [.tmp 2]) rfl (Nat.le_of_ble_eq_true rfl) rfl fun cx _ _ => ?_
  refine AWP.seq ?_
  refine AWP.region ?_
  refine OPS.p rfl (st_assign rfl) ?_
  refine OPS.nil ?_
  refine AWP.seq ?_
  refine AWP.region ?_
  refine OPS.p rfl (st_assign rfl) ?_
  refine OPS.nil ?_
  refine AWP.seq ?_
  refine AWP.seq ?_
  refine AWP.region ?_
  refine OPS.p rfl (st_move rfl) ?_
  refine OPS.p rfl (st_len un22 rfl rfl) ?_
  refine OPS.p rfl (st_move rfl) ?_
  refine OPS.nil ?_
  refine AWP.block ?_
  refine AWP.loopR (σ := Nat) (fun (zz : Nat) => ⟨[(0, pL [a, b]), (3, pI 0), (6, pL [a, b]), (7, pI (2 : Nat)), (8, pI zz)], [], 0⟩) (fun (zz : Nat) => zz ≤ 2 ∧ (1 ≤ zz → a = 0) ∧ (2 ≤ zz → b = 0)) (fun (zz : Nat) => 2 - zz) (0) (Sub.r (Sub.mk' ⟨(by rfl), (by rfl), (by rfl), (by rfl), (by rfl), trivial⟩ trivial (by exact Nat.le_refl _))) (by exact ⟨by omega, fun h => absurd h (by omega), fun h => absurd h (by omega)⟩) ?_
  rintro i hinv
  have hinv : i ≤ 2 ∧ (1 ≤ i → a = 0) ∧ (2 ≤ i → b = 0) := hinv
  obtain ⟨h1, h2, h3⟩ := hinv
  show AWP _ _ _ _ _ _ _ ⟨[(0, pL [a, b]), (3, pI 0), (6, pL [a, b]), (7, pI (2 : Nat)), (8, pI i)], [], 0⟩
  refine AWP.seq ?_
  refine AWP.region ?_
  refine OPS.p rfl (st_lss rfl rfl) ?_
  refine OPS.nil ?_
  refine AWP.seq ?_
  refine AWP.condD rfl (fun hc3 => ?_) (fun hc3 => ?_)
  · have hi : i < [a, b].length := by simp; omega
    have hi2 : i < 2 := by omega
    refine AWP.skip ?_
    refine AWP.seq ?_
    refine AWP.block ?_
    refine AWP.seq ?_
    refine AWP.region ?_
    refine OPS.p rfl (by exact st_index_I es22 rfl rfl (by omega) (by omega) (by rfl)) ?_
    refine OPS.p rfl (by exact st_load_In sc3 rfl rfl (by omega)) ?_
    refine OPS.p rfl (st_assign rfl) ?_
    refine OPS.nil ?_
    refine AWP.seq ?_
    refine AWP.region ?_
    refine OPS.p rfl (st_move rfl) ?_
    refine OPS.p rfl (st_move rfl) ?_
    refine OPS.p rfl (st_neq rfl rfl) ?_
    refine OPS.nil ?_
    refine AWP.condD rfl (fun hc5 => ?_) (fun hc5 => ?_)
    · refine AWP.seq ?_
      refine AWP.region ?_
      refine OPS.p rfl (st_move rfl) ?_
      refine OPS.p rfl (st_assign rfl) ?_
      refine OPS.nil ?_
      refine AWP.ret ?_
      have : i = 0 ∨ i = 1 := by omega
      rcases this with rfl | rfl
      · exact Ret.mk rfl (congrArg pI (by show a = _; unfold or2; rw [if_pos (show a ≠ 0 from hc5)]))
      · exact Ret.mk rfl (congrArg pI (by show b = _; unfold or2; rw [if_neg (by have := h2 (by omega); omega)]))
    · refine AWP.skip ?_
      refine AWP.region ?_
      refine OPS.p rfl (by exact st_add_i rfl rfl (by omega) (by omega)) ?_
      refine OPS.p rfl (st_move rfl) ?_
      refine OPS.nil ?_
      refine ⟨(i + 1), (Sub.r (Sub.mk' ⟨(by rfl), (by rfl), (by rfl), (by rfl), (by rfl), trivial⟩ trivial (by exact Nat.le_refl _))), ?_, ?_⟩
      · try dsimp only
        have h0 : [a, b].getD i 0 = 0 := Classical.byContradiction hc5
        have : i = 0 ∨ i = 1 := by omega
        rcases this with rfl | rfl
        · exact ⟨by omega, fun _ => h0, fun h => absurd h (by omega)⟩
        · exact ⟨by omega, fun _ => h2 (by omega), fun _ => h0⟩
      · try dsimp only
        omega
  · refine AWP.exit ?_
    refine AWP.seq ?_
    refine AWP.region ?_
    refine OPS.p rfl (st_move rfl) ?_
    refine OPS.p rfl (st_assign rfl) ?_
    refine OPS.nil ?_
    refine AWP.ret ?_
    have q1 := h2 (by omega)
    have q2 := h3 (by omega)
    exact Ret.mk rfl (congrArg pI (by unfold or2; rw [if_neg (by omega), q2]))

def lexI (p q : Pt) : Int := or2 (cmpI p.2 q.2) (cmpI p.1 q.1)
theorem lexI_neg {p q : Pt} : lexI p q < 0 ↔ lower p q = true := by
  unfold lexI or2 lower cmpI
  simp only [Bool.or_eq_true, Bool.and_eq_true, decide_eq_true_eq]
  split <;> split <;> (try split) <;> (try split) <;> omega
theorem k_Sum1 (p q : Pt) : PureC Tryz.prog 169 [pP p, pP q] (pI (lexI p q)) := by
  refine PureC.of Tryz.func169 rfl Tryz.ntmps169 (vs := [.tmp 4]) rfl (Nat.le_of_ble_eq_true rfl) rfl fun cx _ _ => ?_
  refine AWP.seq ?_
  refine AWP.region ?_
  refine OPS.a rfl (st_box rfl rfl) ?_
  refine OPS.a rfl (st_box rfl rfl) ?_
  refine OPS.p rfl (st_assign rfl) ?_
  refine OPS.nil ?_
  refine AWP.seq ?_
  refine AWP.drw mixed ?_
  refine DRW.p rfl (by exact st_field_p off148_1 rfl) ?_
  refine DRW.p rfl (by exact st_load_vs sc3 rfl rfl rfl) ?_
  refine DRW.p rfl (by exact st_field_p off148_1 rfl) ?_
  refine DRW.p rfl (by exact st_load_vs sc3 rfl rfl rfl) ?_
  refine DRW.p rfl (st_call (L := [((.tmp 6), _), ((.tmp 8), _)]) false pl171 ⟨rfl, rfl, trivial⟩ rfl (k_cmp _ _) rfl) ?_
  refine DRW.p rfl (by exact st_field_p off148_0 rfl) ?_
  refine DRW.p rfl (by exact st_load_vs sc3 rfl rfl rfl) ?_
  refine DRW.p rfl (by exact st_field_p off148_0 rfl) ?_
  refine DRW.p rfl (by exact st_load_vs sc3 rfl rfl rfl) ?_
  refine DRW.p rfl (st_call (L := [((.tmp 11), _), ((.tmp 13), _)]) false pl171 ⟨rfl, rfl, trivial⟩ rfl (k_cmp _ _) rfl) ?_
  refine DRW.a rfl (Stp.frz (st_buildS (L := [(0, (.tmp 9), _), (1, (.tmp 14), _)]) ei22 rfl ⟨rfl, rfl, trivial⟩ rfl rfl) rfl) ?_
  refine DRW.p rfl (st_call (L := [((.tmp 15), _)]) false pl170 ⟨rfl, trivial⟩ rfl (k_or (cmpI p.2 q.2) (cmpI p.1 q.1)) rfl) ?_
  refine DRW.p rfl (st_assign rfl) ?_
  refine DRW.nil (by kernel_rfl) ?_
  refine AWP.ret ?_
  exact Ret.mk rfl rfl

theorem k_MinP (l : List Pt) (h0 : 0 < l.length) (hl : l.length ≤ 1000) : PureC Tryz.prog 168 [pPs l, .func 169 []] (pP (minTo l l.length)) := by
  refine PureC.of Tryz.func168 rfl Tryz.ntmps168 (vs := [.cell 4 148]) rfl (Nat.le_of_ble_eq_true rfl) rfl fun cx _ _ => ?_
  refine AWP.seq ?_
  refine AWP.region ?_
  refine OPS.a rfl (st_alloc ze148) ?_
  refine OPS.nil ?_
  refine AWP.seq ?_
  refine AWP.seq ?_
  refine AWP.region ?_
  refine OPS.p rfl (st_move rfl) ?_
  refine OPS.p rfl (st_len un66 rfl rfl) ?_
  refine OPS.p rfl (st_lss rfl rfl) ?_
  refine OPS.nil ?_
  refine AWP.cond_f rfl ((decide_eq_false (by omega))) ?_
  refine AWP.skip ?_
  refine AWP.seq ?_
  refine AWP.region ?_
  refine OPS.p rfl (st_move rfl) ?_
  refine OPS.p rfl (by exact st_index_R es66 rfl rfl (fun _ => rfl) rfl (by omega) (by omega) (by rfl)) ?_
  refine OPS.p rfl (by exact st_load_Rn ag148 rfl (fun _ => rfl) rfl (by omega)) ?_
  refine OPS.a rfl (st_alloc ze148) ?_
  refine OPS.s (by exact st_store_v sz148 rfl rfl rfl rfl rfl rfl) ?_
  refine OPS.nil ?_
  refine AWP.seq ?_
  refine AWP.seq ?_
  refine AWP.region ?_
  refine OPS.p rfl (st_assign rfl) ?_
  refine OPS.nil ?_
  refine AWP.block ?_
  refine AWP.loopR (σ := Nat × Pt) (fun (zz : Nat × Pt) => ⟨[(0, pPs l), (1, .func 169 []), (4, .ptr 0 0), (5, .ptr 1 0), (6, pI zz.1)], [(0, .var [pI 0, pI 0]), (1, .var [pI zz.2.1, pI zz.2.2])], 2⟩) (fun (zz : Nat × Pt) => 1 ≤ zz.1 ∧ zz.1 ≤ l.length ∧ zz.2 = minTo l zz.1) (fun (zz : Nat × Pt) => l.length - zz.1) (1, l.getD 0 default) (Sub.r (Sub.mk' ⟨(by rfl), (by rfl), (by rfl), (by rfl), (by rfl), trivial⟩ ⟨(by rfl), (by rfl), trivial⟩ (by exact Nat.le_refl _))) (by exact ⟨by omega, by omega, by simp [minTo]⟩) ?_
  rintro ⟨i, m⟩ hinv
  have hinv : 1 ≤ i ∧ i ≤ l.length ∧ m = minTo l i := hinv
  obtain ⟨h1, h2, h3⟩ := hinv
  show AWP _ _ _ _ _ _ _ ⟨[(0, pPs l), (1, .func 169 []), (4, .ptr 0 0), (5, .ptr 1 0), (6, pI i)], [(0, .var [pI 0, pI 0]), (1, .var [pI m.1, pI m.2])], 2⟩
  refine AWP.seq ?_
  refine AWP.seq ?_
  refine AWP.region ?_
  refine OPS.p rfl (st_move rfl) ?_
  refine OPS.p rfl (st_move rfl) ?_
  refine OPS.p rfl (st_len un66 rfl rfl) ?_
  refine OPS.p rfl (st_lss rfl rfl) ?_
  refine OPS.nil ?_
  refine AWP.condD rfl (fun hc5 => ?_) (fun hc5 => ?_)
  · have hi : i < l.length := by omega
    refine AWP.skip ?_
    refine AWP.seq ?_
    refine AWP.block ?_
    refine AWP.seq ?_
    refine AWP.drw mixed ?_
    refine DRW.p rfl (st_move rfl) ?_
    refine DRW.p rfl (st_move rfl) ?_
    refine DRW.p rfl (st_move rfl) ?_
    refine DRW.p rfl (by exact st_index_R es66 rfl rfl (fun _ => rfl) rfl (by omega) (by omega) (by rfl)) ?_
    refine DRW.p rfl (by exact st_load_Rn ag148 rfl (fun _ => rfl) rfl (by omega)) ?_
    refine DRW.p rfl (by exact st_load_va ag148 rfl rfl rfl rfl) ?_
    refine DRW.p rfl (st_callv (L := [((.tmp 24), _), ((.tmp 25), _)]) false rfl pl169 ⟨rfl, rfl, trivial⟩ rfl (k_Sum1 (l.getD i default) m) rfl) ?_
    refine DRW.p rfl (st_lss rfl rfl) ?_
    refine DRW.nil (by kernel_rfl) ?_
    refine AWP.condD rfl (fun hc7 => ?_) (fun hc7 => ?_)
    · refine AWP.region ?_
      refine OPS.p rfl (st_move rfl) ?_
      refine OPS.p rfl (st_move rfl) ?_
      refine OPS.p rfl (by exact st_index_R es66 rfl rfl (fun _ => rfl) rfl (by omega) (by omega) (by rfl)) ?_
      refine OPS.p rfl (by exact st_load_Rn ag148 rfl (fun _ => rfl) rfl (by omega)) ?_
      refine OPS.s (by exact st_store_v sz148 rfl rfl rfl rfl rfl rfl) ?_
      refine OPS.nil ?_
      refine AWP.region ?_
      refine OPS.p rfl (st_move rfl) ?_
      refine OPS.p rfl (by exact st_add_i rfl rfl (by omega) (by omega)) ?_
      refine OPS.p rfl (st_assign rfl) ?_
      refine OPS.nil ?_
      refine ⟨(i + 1, l.getD i default), (Sub.r (Sub.mk' ⟨(by rfl), (by rfl), (by rfl), (by rfl), (by rfl), trivial⟩ ⟨(by rfl), (by rfl), trivial⟩ (by exact Nat.le_refl _))), ?_, ?_⟩
      · try dsimp only
        refine ⟨by omega, by omega, ?_⟩
        rw [minTo, ← h3, if_pos (lexI_neg.1 hc7)]
      · try dsimp only
        omega
    · refine AWP.skip ?_
      refine AWP.region ?_
      refine OPS.p rfl (st_move rfl) ?_
      refine OPS.p rfl (by exact st_add_i rfl rfl (by omega) (by omega)) ?_
      refine OPS.p rfl (st_assign rfl) ?_
      refine OPS.nil ?_
      refine ⟨(i + 1, m), (Sub.r (Sub.mk' ⟨(by rfl), (by rfl), (by rfl), (by rfl), (by rfl), trivial⟩ ⟨(by rfl), (by rfl), trivial⟩ (by exact Nat.le_refl _))), ?_, ?_⟩
      · try dsimp only
        refine ⟨by omega, by omega, ?_⟩
        rw [minTo, ← h3, if_neg (fun h => hc7 (lexI_neg.2 h))]
      · try dsimp only
        omega
  · refine AWP.exit ?_
    refine AWP.seq ?_
    have hi : i = l.length := by omega
    subst hi
    refine AWP.region ?_
    refine OPS.p rfl (by exact st_load_va ag148 rfl rfl rfl rfl) ?_
    refine OPS.s (by exact st_store_v sz148 rfl rfl rfl rfl rfl rfl) ?_
    refine OPS.nil ?_
    refine AWP.ret ?_
    refine Ret.mk rfl ?_
    rw [← h3]
    rfl

theorem diffs_take {a b : List Pt} {i : Nat} (h : i < a.length) : diffs (a.take (i + 1)) b = diffs (a.take i) b ++ b.map fun q => ((a.getD i default).1 - q.1, (a.getD i default).2 - q.2) := by
  unfold diffs
  rw [List.take_succ_eq_append_getElem h, List.flatMap_append, List.getD_eq_getElem?_getD, List.getElem?_eq_getElem h]
  simp
theorem map_take {α β : Type} [Inhabited α] (f : α → β) {l : List α} {i : Nat} (h : i < l.length) : (l.take (i + 1)).map f = (l.take i).map f ++ [f (l.getD i default)] := by
  rw [List.take_succ_eq_append_getElem h, List.map_append, List.getD_eq_getElem?_getD, List.getElem?_eq_getElem h]
  rfl
theorem bestTo_mem {l : List Pt} {last : Pt} (hs : ∀ p ∈ l, Sp p) (hl : Sp last) : ∀ {i : Nat}, i ≤ l.length → Sp (bestTo l last i)
  | 0, _ => hl
  | i + 1, hi => by
    unfold bestTo
    split
    · exact hs _ (getD_mem (by omega))
    · exact bestTo_mem hs hl (by omega)
theorem bestTo_new {l : List Pt} {last m : Pt} {i : Nat} (hm : m = bestTo l last i) (h : better last m (l.getD i default) = true) : l.getD i default = bestTo l last (i + 1) := by
  rw [bestTo, ← hm, if_pos h]
theorem bestTo_old {l : List Pt} {last m : Pt} {i : Nat} (hm : m = bestTo l last i) (h : better last m (l.getD i default) = false) : m = bestTo l last (i + 1) := by
  rw [bestTo, ← hm, h, if_neg (by simp)]

theorem k_Sum (a b : List Pt) (ha : Fam a) (hb : Fam b) : PureC Tryz.prog 61 [pPs a, pPs b] (pPs (sumL a b)) := by
  have la := fam_len ha
  have lb := fam_len hb
  have sa := fam_sp ha
  have sb := fam_sp hb
  have hrun := (fam_pair ha hb).run
  have hdl := diffs_len a b
  have hdb := diffs_bd ha hb
  have hsl := (sum_mem ha hb).1
  have hsb := sum_bd ha hb
  have hll : a.length * b.length ≤ 25 ∧ 0 < a.length * b.length := ⟨Nat.mul_le_mul la.2 lb.2, Nat.mul_pos (by omega) (by omega)⟩
  generalize hs : sumL a b = s at *
  refine PureC.of Tryz.func61 rfl Tryz.ntmps61 (vs := [.tmp 4]) rfl (Nat.le_of_ble_eq_true rfl) rfl fun cx _ _ => ?_
  refine AWP.seq ?_
  refine AWP.region ?_
  refine OPS.p rfl (st_assign rfl) ?_
  refine OPS.nil ?_
  refine AWP.seq ?_
  refine AWP.region ?_
  refine OPS.p rfl (st_assign rfl) ?_
  refine OPS.nil ?_
  refine AWP.seq ?_
  refine AWP.seq ?_
  refine AWP.region ?_
  refine OPS.p rfl (st_move rfl) ?_
  refine OPS.p rfl (st_len un66 rfl rfl) ?_
  refine OPS.p rfl (st_move rfl) ?_
  refine OPS.nil ?_
  refine AWP.block ?_
  refine AWP.adopt 5 148 2 rfl ?_
  refine AWP.loopR (σ := Nat × List Pt) (fun (zz : Nat × List Pt) => ⟨[(0, pPs a), (1, pPs b), (5, .own 0 zz.2.length), (16, pPs a), (17, pI a.length), (18, pI zz.1)], [(0, .arr 148 2 zz.2.length (fR eP zz.2))], 1⟩) (fun (zz : Nat × List Pt) => zz.1 ≤ a.length ∧ zz.2.length ≤ 5 * zz.1 ∧ zz.2 = diffs (a.take zz.1) b) (fun (zz : Nat × List Pt) => a.length - zz.1) (0, []) (Sub.r (Sub.mk' ⟨(by rfl), (by rfl), (by rfl), (by rfl), (by rfl), (by rfl), trivial⟩ ⟨(by rfl), trivial⟩ (by exact Nat.le_refl _))) (by exact ⟨by omega, by simp, rfl⟩) ?_
  rintro ⟨i, o⟩ hinv
  have hinv : i ≤ a.length ∧ o.length ≤ 5 * i ∧ o = diffs (a.take i) b := hinv
  obtain ⟨h1, h2, h3⟩ := hinv
  show AWP _ _ _ _ _ _ _ ⟨[(0, pPs a), (1, pPs b), (5, .own 0 o.length), (16, pPs a), (17, pI a.length), (18, pI i)], [(0, .arr 148 2 o.length (fR eP o))], 1⟩
  refine AWP.seq ?_
  refine AWP.region ?_
  refine OPS.p rfl (st_lss rfl rfl) ?_
  refine OPS.nil ?_
  refine AWP.seq ?_
  refine AWP.condD rfl (fun hc3 => ?_) (fun hc3 => ?_)
  · have hi : i < a.length := by omega
    have hsi := sa _ (getD_mem hi)
    refine AWP.skip ?_
    refine AWP.seq ?_
    refine AWP.block ?_
    refine AWP.seq ?_
    refine AWP.region ?_
    refine OPS.p rfl (by exact st_index_R es66 rfl rfl (fun _ => rfl) rfl (by omega) (by omega) (by rfl)) ?_
    refine OPS.p rfl (by exact st_load_Rn ag148 rfl (fun _ => rfl) rfl (by omega)) ?_
    refine OPS.a rfl (st_alloc ze148) ?_
    refine OPS.s (by exact st_store_v sz148 rfl rfl rfl rfl rfl rfl) ?_
    refine OPS.nil ?_
    refine AWP.seq ?_
    refine AWP.region ?_
    refine OPS.p rfl (st_move rfl) ?_
    refine OPS.p rfl (st_len un66 rfl rfl) ?_
    refine OPS.p rfl (st_move rfl) ?_
    refine OPS.nil ?_
    refine AWP.block ?_
    refine AWP.loopR (σ := Nat × List Pt) (fun (zz : Nat × List Pt) => ⟨[(0, pPs a), (1, pPs b), (5, .own 0 zz.2.length), (7, .ptr 1 0), (16, pPs a), (17, pI a.length), (18, pI i), (22, pPs b), (23, pI b.length), (24, pI zz.1)], [(0, .arr 148 2 zz.2.length (fR eP zz.2)), (1, .var [pI (a.getD i default).1, pI (a.getD i default).2])], 2⟩) (fun (zz : Nat × List Pt) => zz.1 ≤ b.length ∧ zz.2.length ≤ 5 * i + zz.1 ∧ zz.2 = diffs (a.take i) b ++ (b.take zz.1).map fun q => ((a.getD i default).1 - q.1, (a.getD i default).2 - q.2)) (fun (zz : Nat × List Pt) => b.length - zz.1) (0, o) (Sub.r (Sub.mk' ⟨(by rfl), (by rfl), (by rfl), (by rfl), (by rfl), (by rfl), (by rfl), (by rfl), (by rfl), (by rfl), trivial⟩ ⟨(by rfl), (by rfl), trivial⟩ (by exact Nat.le_refl _))) (by exact ⟨by omega, by show o.length ≤ 5 * i + 0; omega, by simp [h3]⟩) ?_
    rintro ⟨k, u⟩ hinv
    have hinv : k ≤ b.length ∧ u.length ≤ 5 * i + k ∧ u = diffs (a.take i) b ++ (b.take k).map fun q => ((a.getD i default).1 - q.1, (a.getD i default).2 - q.2) := hinv
    obtain ⟨k1, k2, k3⟩ := hinv
    show AWP _ _ _ _ _ _ _ ⟨[(0, pPs a), (1, pPs b), (5, .own 0 u.length), (7, .ptr 1 0), (16, pPs a), (17, pI a.length), (18, pI i), (22, pPs b), (23, pI b.length), (24, pI k)], [(0, .arr 148 2 u.length (fR eP u)), (1, .var [pI (a.getD i default).1, pI (a.getD i default).2])], 2⟩
    refine AWP.seq ?_
    refine AWP.region ?_
    refine OPS.p rfl (st_lss rfl rfl) ?_
    refine OPS.nil ?_
    refine AWP.seq ?_
    refine AWP.condD rfl (fun hc6 => ?_) (fun hc6 => ?_)
    · have hk : k < b.length := by omega
      have hsk := sb _ (getD_mem hk)
      refine AWP.skip ?_
      refine AWP.seq ?_
      refine AWP.block ?_
      refine AWP.seq ?_
      refine AWP.region ?_
      refine OPS.p rfl (by exact st_index_R es66 rfl rfl (fun _ => rfl) rfl (by omega) (by omega) (by rfl)) ?_
      refine OPS.p rfl (by exact st_load_Rn ag148 rfl (fun _ => rfl) rfl (by omega)) ?_
      refine OPS.a rfl (st_alloc ze148) ?_
      refine OPS.s (by exact st_store_v sz148 rfl rfl rfl rfl rfl rfl) ?_
      refine OPS.nil ?_
      refine AWP.region ?_
      refine OPS.p rfl (st_move rfl) ?_
      refine OPS.p rfl (by exact st_field_p off148_0 rfl) ?_
      refine OPS.p rfl (by exact st_load_vs sc3 rfl rfl rfl) ?_
      refine OPS.p rfl (by exact st_field_p off148_0 rfl) ?_
      refine OPS.p rfl (by exact st_load_vs sc3 rfl rfl rfl) ?_
      refine OPS.p rfl (by exact st_sub_i rfl rfl (by omega) (by omega)) ?_
      refine OPS.p rfl (by exact st_field_p off148_1 rfl) ?_
      refine OPS.p rfl (by exact st_load_vs sc3 rfl rfl rfl) ?_
      refine OPS.p rfl (by exact st_field_p off148_1 rfl) ?_
      refine OPS.p rfl (by exact st_load_vs sc3 rfl rfl rfl) ?_
      refine OPS.p rfl (by exact st_sub_i rfl rfl (by omega) (by omega)) ?_
      refine OPS.p rfl (st_build (L := [(0, (.tmp 33), _), (1, (.tmp 38), _)]) zf148 pl_148 ⟨rfl, rfl, trivial⟩ rfl rfl) ?_
      refine OPS.a rfl (Stp.frz (st_buildS (L := [(0, (.tmp 39), _)]) ei66 rfl ⟨rfl, trivial⟩ rfl rfl) rfl) ?_
      refine OPS.a rfl (st_append_R (v := [((a.getD i default).1 - (b.getD k default).1, (a.getD i default).2 - (b.getD k default).2)]) ei66 un66 rfl rfl rfl rfl (fun _ => rfl) rfl rfl (by simp only [List.length_singleton]; omega) (by simp only [List.length_singleton]; omega)) ?_
      refine OPS.p rfl (st_assign rfl) ?_
      refine OPS.nil ?_
      refine AWP.region ?_
      refine OPS.p rfl (by exact st_add_i rfl rfl (by omega) (by omega)) ?_
      refine OPS.p rfl (st_move rfl) ?_
      refine OPS.nil ?_
      refine ⟨(k + 1, u ++ [((a.getD i default).1 - (b.getD k default).1, (a.getD i default).2 - (b.getD k default).2)]), (Ren.r (Ren.mk' (ρ := [(4, 0), (1, 1)]) rfl ⟨(by rfl), (by rfl), (by rfl), (by rfl), (by rfl), (by rfl), (by rfl), (by rfl), (by rfl), (by rfl), trivial⟩ ⟨(by rfl), (by rfl), trivial⟩)), ?_, ?_⟩
      · try dsimp only
        refine ⟨by omega, by rw [List.length_append, List.length_singleton]; omega, ?_⟩
        rw [map_take _ hk, ← List.append_assoc, ← k3]
      · try dsimp only
        omega
    · have hkb : k = b.length := by omega
      refine AWP.exit ?_
      refine AWP.region ?_
      refine OPS.p rfl (by exact st_add_i rfl rfl (by omega) (by omega)) ?_
      refine OPS.p rfl (st_move rfl) ?_
      refine OPS.nil ?_
      refine ⟨(i + 1, u), (Ren.r (Ren.mk' (ρ := [(0, 0)]) rfl ⟨(by rfl), (by rfl), (by rfl), (by rfl), (by rfl), (by rfl), trivial⟩ ⟨(by rfl), trivial⟩)), ?_, ?_⟩
      · try dsimp only
        refine ⟨by omega, by show u.length ≤ 5 * (i + 1); omega, ?_⟩
        rw [diffs_take hi, k3, hkb, List.take_length]
      · try dsimp only
        omega
  · refine AWP.exit ?_
    refine AWP.seq ?_
    have hia : i = a.length := by omega
    have ho : o = diffs a b := by rw [h3, hia, List.take_length]
    refine AWP.freeze 0 [5] rfl ⟨rfl, trivial⟩ ?_
    rw [← ho] at hrun hdl hdb
    have hSo : ∀ p ∈ o, Sp p := fun p hp => by have := hdb p hp; unfold Sp; omega
    have hmin := hSo _ (minTo_mem (l := o) (by omega) (Nat.le_refl _))
    refine AWP.region ?_
    refine OPS.p rfl (st_move rfl) ?_
    refine OPS.p rfl (st_call (L := [((.tmp 44), _), ((.func 169), _)]) false pl168 ⟨rfl, rfl, trivial⟩ rfl (k_MinP o (by omega) (by omega)) rfl) ?_
    refine OPS.a rfl (st_alloc ze148) ?_
    refine OPS.s (by exact st_store_v sz148 rfl rfl rfl rfl rfl rfl) ?_
    refine OPS.nil ?_
    refine AWP.seq ?_
    refine AWP.region ?_
    refine OPS.p rfl (by exact st_load_va ag148 rfl rfl rfl rfl) ?_
    refine OPS.a rfl (st_buildS (L := [(0, (.tmp 46), _)]) ei66 rfl ⟨rfl, trivial⟩ rfl rfl) ?_
    refine OPS.p rfl (st_assign rfl) ?_
    refine OPS.nil ?_
    refine AWP.block ?_
    generalize minTo o o.length = first at *
    refine AWP.loopR (σ := List Pt × Nat) (fun (zz : List Pt × Nat) => ⟨[(5, pPs o), (10, .ptr 1 0), (11, .own 2 zz.1.length)], [(1, .var [pI first.1, pI first.2]), (2, .arr 148 2 zz.1.length (fR eP zz.1))], 3⟩) (fun (zz : List Pt × Nat) => 1 ≤ zz.1.length ∧ zz.1.length + zz.2 ≤ 13 ∧ (∀ p ∈ zz.1, Sp p) ∧ wrapF o first zz.2 zz.1 = some s) (fun (zz : List Pt × Nat) => zz.2) ([first], 12) (Sub.r (Sub.mk' ⟨(by rfl), (by rfl), (by rfl), trivial⟩ ⟨(by rfl), (by rfl), trivial⟩ (by exact Nat.le_refl _))) (by exact ⟨by simp, by simp, fun p hp => by rw [List.mem_singleton] at hp; rw [hp]; exact hmin, hrun⟩) ?_
    rintro ⟨w, f⟩ hinv
    have hinv : 1 ≤ w.length ∧ w.length + f ≤ 13 ∧ (∀ p ∈ w, Sp p) ∧ wrapF o first f w = some s := hinv
    obtain ⟨g1, g2, g3, g4⟩ := hinv
    show AWP _ _ _ _ _ _ _ ⟨[(5, pPs o), (10, .ptr 1 0), (11, .own 2 w.length)], [(1, .var [pI first.1, pI first.2]), (2, .arr 148 2 w.length (fR eP w))], 3⟩
    obtain ⟨g, rfl⟩ : ∃ g, f = g + 1 := by
      cases f with
      | zero => cases g4
      | succ g => exact ⟨g, rfl⟩
    rw [wrapF] at g4
    try simp only at g4
    have hlast := g3 _ (getD_mem (show w.length - 1 < w.length by omega))
    refine AWP.block ?_
    refine AWP.seq ?_
    refine AWP.region ?_
    refine OPS.p rfl (st_move rfl) ?_
    refine OPS.p rfl (st_move rfl) ?_
    refine OPS.p rfl (st_len un66 rfl rfl) ?_
    refine OPS.p rfl (by exact st_sub_i rfl rfl (by omega) (by omega)) ?_
    refine OPS.p rfl (by exact st_index_a es66 rfl rfl rfl (by omega) (by omega)) ?_
    refine OPS.p rfl (st_load_oRn (i := w.length - 1) ag148 rfl rfl (fun _ => rfl) (by omega) (by omega)) ?_
    refine OPS.a rfl (st_alloc ze148) ?_
    refine OPS.s (by exact st_store_v sz148 rfl rfl rfl rfl rfl rfl) ?_
    refine OPS.nil ?_
    refine AWP.seq ?_
    refine AWP.region ?_
    refine OPS.p rfl (by exact st_load_va ag148 rfl rfl rfl rfl) ?_
    refine OPS.a rfl (st_alloc ze148) ?_
    refine OPS.s (by exact st_store_v sz148 rfl rfl rfl rfl rfl rfl) ?_
    refine OPS.nil ?_
    refine AWP.seq ?_
    refine AWP.seq ?_
    refine AWP.region ?_
    refine OPS.p rfl (st_move rfl) ?_
    refine OPS.p rfl (st_len un66 rfl rfl) ?_
    refine OPS.p rfl (st_move rfl) ?_
    refine OPS.nil ?_
    refine AWP.block ?_
    generalize w.getD (w.length - 1) default = last at *
    refine AWP.loopR (σ := Nat × Pt) (fun (zz : Nat × Pt) => ⟨[(5, pPs o), (10, .ptr 1 0), (11, .own 2 w.length), (12, .ptr 3 0), (13, .ptr 4 0), (55, pPs o), (56, pI o.length), (57, pI zz.1)], [(1, .var [pI first.1, pI first.2]), (2, .arr 148 2 w.length (fR eP w)), (3, .var [pI last.1, pI last.2]), (4, .var [pI zz.2.1, pI zz.2.2])], 5⟩) (fun (zz : Nat × Pt) => zz.1 ≤ o.length ∧ zz.2 = bestTo o last zz.1) (fun (zz : Nat × Pt) => o.length - zz.1) (0, last) (Sub.r (Sub.mk' ⟨(by rfl), (by rfl), (by rfl), (by rfl), (by rfl), (by rfl), (by rfl), (by rfl), trivial⟩ ⟨(by rfl), (by rfl), (by rfl), (by rfl), trivial⟩ (by exact Nat.le_refl _))) (by exact ⟨by omega, rfl⟩) ?_
    rintro ⟨j, m⟩ hinv
    have hinv : j ≤ o.length ∧ m = bestTo o last j := hinv
    obtain ⟨q1, q2⟩ := hinv
    show AWP _ _ _ _ _ _ _ ⟨[(5, pPs o), (10, .ptr 1 0), (11, .own 2 w.length), (12, .ptr 3 0), (13, .ptr 4 0), (55, pPs o), (56, pI o.length), (57, pI j)], [(1, .var [pI first.1, pI first.2]), (2, .arr 148 2 w.length (fR eP w)), (3, .var [pI last.1, pI last.2]), (4, .var [pI m.1, pI m.2])], 5⟩
    refine AWP.seq ?_
    refine AWP.region ?_
    refine OPS.p rfl (st_lss rfl rfl) ?_
    refine OPS.nil ?_
    refine AWP.seq ?_
    refine AWP.condD rfl (fun hc16 => ?_) (fun hc16 => ?_)
    · have hj : j < o.length := by omega
      have hp := hSo _ (getD_mem hj)
      have hm := bestTo_mem hSo hlast q1
      rw [← q2] at hm
      refine AWP.skip ?_
      refine AWP.seq ?_
      refine AWP.block ?_
      refine AWP.seq ?_
      refine AWP.region ?_
      refine OPS.p rfl (by exact st_index_R es66 rfl rfl (fun _ => rfl) rfl (by omega) (by omega) (by rfl)) ?_
      refine OPS.p rfl (by exact st_load_Rn ag148 rfl (fun _ => rfl) rfl (by omega)) ?_
      refine OPS.a rfl (st_alloc ze148) ?_
      refine OPS.s (by exact st_store_v sz148 rfl rfl rfl rfl rfl rfl) ?_
      refine OPS.nil ?_
      refine AWP.seq ?_
      refine AWP.drw mixed ?_
      refine DRW.p rfl (by exact st_load_va ag148 rfl rfl rfl rfl) ?_
      refine DRW.p rfl (by exact st_load_va ag148 rfl rfl rfl rfl) ?_
      refine DRW.p rfl (st_eql_P ns148 eg148 eq148 rfl rfl) ?_
      refine DRW.p rfl (st_move rfl) ?_
      refine DRW.split (g := 64) rfl (fun eg18_3 g18_3 => ?_) (fun eg18_3 g18_3 => ?_)
      · refine DRW.nO rfl rfl rfl eg18_3 ?_
        refine DRW.nO rfl rfl rfl eg18_3 ?_
        refine DRW.nO rfl rfl rfl eg18_3 ?_
        refine DRW.nO rfl rfl rfl eg18_3 ?_
        refine DRW.nO rfl rfl rfl eg18_3 ?_
        refine DRW.p rfl (st_pickT rfl eg18_3 rfl) ?_
        refine DRW.p rfl (st_move rfl) ?_
        refine DRW.nO rfl rfl rfl (rfl) ?_
        refine DRW.nO rfl rfl rfl (rfl) ?_
        refine DRW.nO rfl rfl rfl (rfl) ?_
        refine DRW.nO rfl rfl rfl (rfl) ?_
        refine DRW.nO rfl rfl rfl (rfl) ?_
        refine DRW.nO rfl rfl rfl (rfl) ?_
        refine DRW.nT rfl rfl rfl ?_
        refine DRW.nT rfl rfl rfl ?_
        refine DRW.nT rfl rfl rfl ?_
        refine DRW.nT rfl rfl rfl ?_
        refine DRW.nT rfl rfl rfl ?_
        refine DRW.nT rfl rfl rfl ?_
        refine DRW.nT rfl rfl rfl ?_
        refine DRW.nO rfl rfl rfl (rfl) ?_
        refine DRW.p rfl (st_pickT rfl (rfl) rfl) ?_
        refine DRW.nil (by kernel_rfl) ?_
        refine AWP.cond_t rfl (rfl) ?_
        refine AWP.region ?_
        refine OPS.p rfl (by exact st_load_va ag148 rfl rfl rfl rfl) ?_
        refine OPS.s (by exact st_store_v sz148 rfl rfl rfl rfl rfl rfl) ?_
        refine OPS.nil ?_
        refine AWP.region ?_
        refine OPS.p rfl (by exact st_add_i rfl rfl (by omega) (by omega)) ?_
        refine OPS.p rfl (st_move rfl) ?_
        refine OPS.nil ?_
        refine ⟨(j + 1, o.getD j default), (Ren.r (Ren.mk' (ρ := [(1, 1), (2, 2), (3, 3), (4, 4)]) rfl ⟨(by rfl), (by rfl), (by rfl), (by rfl), (by rfl), (by rfl), (by rfl), (by rfl), trivial⟩ ⟨(by rfl), (by rfl), (by rfl), (by rfl), trivial⟩)), ?_, ?_⟩
        · try dsimp only
          exact ⟨by omega, bestTo_new q2 (by unfold better; rw [show decide (m = last) = true from eg18_3]; rfl)⟩
        · try dsimp only
          omega
      · refine DRW.pG rfl rfl rfl eg18_3 (by exact st_load_va ag148 rfl rfl rfl rfl) ?_
        refine DRW.pG rfl rfl rfl eg18_3 (by exact st_load_va ag148 rfl rfl rfl rfl) ?_
        refine DRW.pG rfl rfl rfl eg18_3 (by exact st_load_va ag148 rfl rfl rfl rfl) ?_
        refine DRW.pG rfl rfl rfl eg18_3 (st_call (L := [((.tmp 65), _), ((.tmp 66), _), ((.tmp 67), _)]) false pl172 ⟨rfl, rfl, rfl, trivial⟩ rfl (k_cross last m (o.getD j default) hlast hm hp) rfl) ?_
        refine DRW.pG rfl rfl rfl eg18_3 (st_lss rfl rfl) ?_
        refine DRW.p rfl (st_pickF rfl eg18_3 rfl) ?_
        refine DRW.p rfl (st_move rfl) ?_
        refine DRW.split (g := 71) rfl (fun eg18_10 g18_10 => ?_) (fun eg18_10 g18_10 => ?_)
        · refine DRW.nO rfl rfl rfl eg18_10 ?_
          refine DRW.nO rfl rfl rfl eg18_10 ?_
          refine DRW.nO rfl rfl rfl eg18_10 ?_
          refine DRW.nO rfl rfl rfl eg18_10 ?_
          refine DRW.nO rfl rfl rfl eg18_10 ?_
          refine DRW.nO rfl rfl rfl eg18_10 ?_
          refine DRW.nT rfl rfl rfl ?_
          refine DRW.nT rfl rfl rfl ?_
          refine DRW.nT rfl rfl rfl ?_
          refine DRW.nT rfl rfl rfl ?_
          refine DRW.nT rfl rfl rfl ?_
          refine DRW.nT rfl rfl rfl ?_
          refine DRW.nT rfl rfl rfl ?_
          refine DRW.nO rfl rfl rfl eg18_10 ?_
          refine DRW.p rfl (st_pickT rfl eg18_10 rfl) ?_
          refine DRW.nil (by kernel_rfl) ?_
          refine AWP.cond_t rfl (rfl) ?_
          refine AWP.region ?_
          refine OPS.p rfl (by exact st_load_va ag148 rfl rfl rfl rfl) ?_
          refine OPS.s (by exact st_store_v sz148 rfl rfl rfl rfl rfl rfl) ?_
          refine OPS.nil ?_
          refine AWP.region ?_
          refine OPS.p rfl (by exact st_add_i rfl rfl (by omega) (by omega)) ?_
          refine OPS.p rfl (st_move rfl) ?_
          refine OPS.nil ?_
          refine ⟨(j + 1, o.getD j default), (Ren.r (Ren.mk' (ρ := [(1, 1), (2, 2), (3, 3), (4, 4)]) rfl ⟨(by rfl), (by rfl), (by rfl), (by rfl), (by rfl), (by rfl), (by rfl), (by rfl), trivial⟩ ⟨(by rfl), (by rfl), (by rfl), (by rfl), trivial⟩)), ?_, ?_⟩
          · try dsimp only
            exact ⟨by omega, bestTo_new q2 (by unfold better; rw [eg18_10]; simp)⟩
          · try dsimp only
            omega
        · refine DRW.pG rfl rfl rfl eg18_10 (by exact st_load_va ag148 rfl rfl rfl rfl) ?_
          refine DRW.pG rfl rfl rfl eg18_10 (by exact st_load_va ag148 rfl rfl rfl rfl) ?_
          refine DRW.pG rfl rfl rfl eg18_10 (by exact st_load_va ag148 rfl rfl rfl rfl) ?_
          refine DRW.pG rfl rfl rfl eg18_10 (st_call (L := [((.tmp 72), _), ((.tmp 73), _), ((.tmp 74), _)]) false pl172 ⟨rfl, rfl, rfl, trivial⟩ rfl (k_cross last m (o.getD j default) hlast hm hp) rfl) ?_
          refine DRW.pG rfl rfl rfl eg18_10 (st_eql rfl rfl) ?_
          refine DRW.pG rfl rfl rfl eg18_10 (st_move rfl) ?_
          refine DRW.split (g := 77) rfl (fun eg18_16 g18_16 => ?_) (fun eg18_16 g18_16 => ?_)
          · refine DRW.pG rfl rfl rfl eg18_16 (by exact st_load_va ag148 rfl rfl rfl rfl) ?_
            refine DRW.pG rfl rfl rfl eg18_16 (by exact st_load_va ag148 rfl rfl rfl rfl) ?_
            refine DRW.pG rfl rfl rfl eg18_16 (st_call (L := [((.tmp 78), _), ((.tmp 79), _)]) false pl173 ⟨rfl, rfl, trivial⟩ rfl (k_far last (o.getD j default) hlast hp) rfl) ?_
            refine DRW.pG rfl rfl rfl eg18_16 (by exact st_load_va ag148 rfl rfl rfl rfl) ?_
            refine DRW.pG rfl rfl rfl eg18_16 (by exact st_load_va ag148 rfl rfl rfl rfl) ?_
            refine DRW.pG rfl rfl rfl eg18_16 (st_call (L := [((.tmp 81), _), ((.tmp 82), _)]) false pl173 ⟨rfl, rfl, trivial⟩ rfl (k_far last m hlast hm) rfl) ?_
            refine DRW.pG rfl rfl rfl eg18_16 (st_gtr rfl rfl) ?_
            refine DRW.pG rfl rfl rfl eg18_10 (st_pickT rfl eg18_16 rfl) ?_
            refine DRW.p rfl (st_pickF rfl eg18_10 rfl) ?_
            refine DRW.nil (by kernel_rfl) ?_
            refine AWP.condD rfl (fun hc18 => ?_) (fun hc18 => ?_)
            · refine AWP.region ?_
              refine OPS.p rfl (by exact st_load_va ag148 rfl rfl rfl rfl) ?_
              refine OPS.s (by exact st_store_v sz148 rfl rfl rfl rfl rfl rfl) ?_
              refine OPS.nil ?_
              refine AWP.region ?_
              refine OPS.p rfl (by exact st_add_i rfl rfl (by omega) (by omega)) ?_
              refine OPS.p rfl (st_move rfl) ?_
              refine OPS.nil ?_
              refine ⟨(j + 1, o.getD j default), (Ren.r (Ren.mk' (ρ := [(1, 1), (2, 2), (3, 3), (4, 4)]) rfl ⟨(by rfl), (by rfl), (by rfl), (by rfl), (by rfl), (by rfl), (by rfl), (by rfl), trivial⟩ ⟨(by rfl), (by rfl), (by rfl), (by rfl), trivial⟩)), ?_, ?_⟩
              · try dsimp only
                exact ⟨by omega, bestTo_new q2 (by unfold better; rw [eg18_16, decide_eq_true hc18]; simp)⟩
              · try dsimp only
                omega
            · refine AWP.skip ?_
              refine AWP.region ?_
              refine OPS.p rfl (by exact st_add_i rfl rfl (by omega) (by omega)) ?_
              refine OPS.p rfl (st_move rfl) ?_
              refine OPS.nil ?_
              refine ⟨(j + 1, m), (Ren.r (Ren.mk' (ρ := [(1, 1), (2, 2), (3, 3), (4, 4)]) rfl ⟨(by rfl), (by rfl), (by rfl), (by rfl), (by rfl), (by rfl), (by rfl), (by rfl), trivial⟩ ⟨(by rfl), (by rfl), (by rfl), (by rfl), trivial⟩)), ?_, ?_⟩
              · try dsimp only
                exact ⟨by omega, bestTo_old q2 (by unfold better; rw [show decide (m = last) = false from eg18_3, eg18_10, decide_eq_false hc18]; simp)⟩
              · try dsimp only
                omega
          · refine DRW.nO rfl rfl rfl eg18_16 ?_
            refine DRW.nO rfl rfl rfl eg18_16 ?_
            refine DRW.nO rfl rfl rfl eg18_16 ?_
            refine DRW.nO rfl rfl rfl eg18_16 ?_
            refine DRW.nO rfl rfl rfl eg18_16 ?_
            refine DRW.nO rfl rfl rfl eg18_16 ?_
            refine DRW.nO rfl rfl rfl eg18_16 ?_
            refine DRW.pG rfl rfl rfl eg18_10 (st_pickF rfl eg18_16 rfl) ?_
            refine DRW.p rfl (st_pickF rfl eg18_10 rfl) ?_
            refine DRW.nil (by kernel_rfl) ?_
            refine AWP.cond_f rfl (rfl) ?_
            refine AWP.skip ?_
            refine AWP.region ?_
            refine OPS.p rfl (by exact st_add_i rfl rfl (by omega) (by omega)) ?_
            refine OPS.p rfl (st_move rfl) ?_
            refine OPS.nil ?_
            refine ⟨(j + 1, m), (Ren.r (Ren.mk' (ρ := [(1, 1), (2, 2), (3, 3), (4, 4)]) rfl ⟨(by rfl), (by rfl), (by rfl), (by rfl), (by rfl), (by rfl), (by rfl), (by rfl), trivial⟩ ⟨(by rfl), (by rfl), (by rfl), (by rfl), trivial⟩)), ?_, ?_⟩
            · try dsimp only
              exact ⟨by omega, bestTo_old q2 (by unfold better; rw [show decide (m = last) = false from eg18_3, eg18_10, eg18_16]; simp)⟩
            · try dsimp only
              omega
    · refine AWP.exit ?_
      refine AWP.seq ?_
      refine AWP.seq ?_
      have hj : j = o.length := by omega
      rw [hj] at q2
      rw [← q2] at g4
      refine AWP.region ?_
      refine OPS.p rfl (by exact st_load_va ag148 rfl rfl rfl rfl) ?_
      refine OPS.p rfl (by exact st_load_va ag148 rfl rfl rfl rfl) ?_
      refine OPS.p rfl (st_eql_P ns148 eg148 eq148 rfl rfl) ?_
      refine OPS.nil ?_
      refine AWP.condD rfl (fun hc21 => ?_) (fun hc21 => ?_)
      · rw [if_pos hc21] at g4
        injection g4 with g4
        refine AWP.seq ?_
        refine AWP.region ?_
        refine OPS.p rfl (st_move rfl) ?_
        refine OPS.p rfl (st_assign rfl) ?_
        refine OPS.nil ?_
        refine AWP.freeze 2 [4] rfl ⟨rfl, trivial⟩ ?_
        refine AWP.ret ?_
        exact Ret.mk rfl (by rw [g4])
      · rw [if_neg hc21] at g4
        refine AWP.skip ?_
        refine AWP.region ?_
        refine OPS.p rfl (st_move rfl) ?_
        refine OPS.p rfl (by exact st_load_va ag148 rfl rfl rfl rfl) ?_
        refine OPS.a rfl (Stp.frz (st_buildS (L := [(0, (.tmp 94), _)]) ei66 rfl ⟨rfl, trivial⟩ rfl rfl) rfl) ?_
        refine OPS.a rfl (st_append_R (v := [m]) ei66 un66 rfl rfl rfl rfl (fun _ => rfl) rfl rfl (by simp only [List.length_singleton]; omega) (by simp only [List.length_singleton]; omega)) ?_
        refine OPS.p rfl (st_assign rfl) ?_
        refine OPS.nil ?_
        refine ⟨(w ++ [m], g), (Ren.r (Ren.mk' (ρ := [(1, 1), (6, 2)]) rfl ⟨(by rfl), (by rfl), (by rfl), trivial⟩ ⟨(by rfl), (by rfl), trivial⟩)), ?_, ?_⟩
        · try dsimp only
          refine ⟨by simp, by rw [List.length_append, List.length_singleton]; omega, fun p hp => ?_, g4⟩
          rcases List.mem_append.1 hp with hp | hp
          · exact g3 p hp
          · rw [List.mem_singleton] at hp
            rw [hp, q2]
            exact bestTo_mem hSo hlast (Nat.le_refl _)
        · try dsimp only
          omega
end Go.Proofs.Gh.Tryz
end
section
set_option linter.unusedVariables false
set_option linter.unusedSimpArgs false
set_option maxRecDepth 4000
namespace Go.Proofs.Gh.Tryz
open Go Go.Proofs Go.Proofs.Gh

-- left out here: k_Valid_short

def exA : List Pt := [(0, 0), (2, 0), (2, 2), (0, 2)]
def exB : List Pt := [(0, 0), (4, 0), (0, 3)]
def exSides : List Ed := [((0, -1, 1), 3), ((1, 0, 1), 2), ((0, 1, 1), 2), ((-1, 0, 1), 4), ((-3, -4, 5), 12)]
def exSum : List Pt := [(0, -3), (2, -3), (2, 2), (-4, 2), (-4, 0)]
theorem exA_fam : Fam exA := ⟨shapeK 0 1 2, shapeK_mem (by omega) (by omega), 0, 0, by omega, by omega, by omega, by omega, by decide⟩
theorem exB_fam : Fam exB := ⟨shapeK 3 1 1, shapeK_mem (by omega) (by omega), 0, 0, by omega, by omega, by omega, by omega, by decide⟩
theorem exSides_eq : sidesL exA exB = exSides := by decide +kernel
theorem exSum_eq : sumL exA exB = exSum := by decide +kernel
theorem exArea_eq : areaFrom exB exB.length = 12 := by decide +kernel
theorem exDir_eq : dirA exB 1 = (3, 4, 5) := by decide +kernel
theorem exHas_1 : hasQ exB (Rat.divInt 2 1, Rat.divInt 3 2) = true := by decide +kernel
theorem exHas_2 : hasQ exB (Rat.divInt 2 1, Rat.divInt 2 1) = false := by decide +kernel
theorem ex_half : QB 1000000 1000 (Rat.divInt 2 1) ∧ QB 1000000 1000 (Rat.divInt 3 2) := ⟨qb_of (q := 1) (by omega) (by omega) (by omega), qb_of (q := 2) (by omega) (by omega) (by omega)⟩

-- left out here: k_lives12
end Go.Proofs.Gh.Tryz
end
