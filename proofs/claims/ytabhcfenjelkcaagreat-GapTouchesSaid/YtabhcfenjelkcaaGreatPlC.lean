/-
  Plain laws: the sum's corners turn left; the reference's wrapping finds the same corners.
  Plain laws: from a corner of the sum, the next one alone has no difference to its right.
  Plain laws: the reference's wrapping finds the sum's corners.
-/
import Derived.Test.YtabhcfenjelkcaaGreatPlB
section
set_option linter.unusedVariables false
set_option linter.unusedSimpArgs false
namespace Go.Proofs.Gh.Tryz
open Go Go.Proofs Go.Proofs.Gh

/-- The place behind j, round the list. -/
def nxI (l : List Pt) (j : Nat) : Nat := if j + 1 < l.length then j + 1 else 0
theorem nxI_lt {l : List Pt} {j : Nat} (h : j < l.length) : nxI l j < l.length := by unfold nxI; split <;> omega
theorem nxt_nxI {l : List Pt} {j : Nat} : nxt l j = l.getD (nxI l j) default := by unfold nxt nxI; split <;> rfl
def okConv (a b : List Pt) : Bool :=
  match sumN (diffsN (a.map natP) (b.map natP)) with
  | none => false
  | some sn => let s := sn.map backP
    Nat.ble s.length (a.length * b.length) && ((List.range s.length).all fun j => decide (0 < cross (s.getD j default) (nxt s j) (nxt s (nxI s j))))
theorem conv_0 : (((bases.drop (9 * 0)).take 9).all fun a => bases.all fun b => okConv a b) = true := by decide +kernel
theorem conv_1 : (((bases.drop (9 * 1)).take 9).all fun a => bases.all fun b => okConv a b) = true := by decide +kernel
theorem conv_2 : (((bases.drop (9 * 2)).take 9).all fun a => bases.all fun b => okConv a b) = true := by decide +kernel
theorem conv_3 : (((bases.drop (9 * 3)).take 9).all fun a => bases.all fun b => okConv a b) = true := by decide +kernel
theorem conv_4 : (((bases.drop (9 * 4)).take 9).all fun a => bases.all fun b => okConv a b) = true := by decide +kernel
theorem conv_all {a b : List Pt} (ha : a ∈ bases) (hb : b ∈ bases) : okConv a b = true := by
  have key : ∀ i, (((bases.drop (9 * i)).take 9).all fun a => bases.all fun b => okConv a b) = true → a ∈ (bases.drop (9 * i)).take 9 → okConv a b = true := fun i h hm => List.all_eq_true.1 (List.all_eq_true.1 h a hm) b hb
  have hs : a ∈ (bases.drop (9 * 0)).take 9 ∨ a ∈ (bases.drop (9 * 1)).take 9 ∨ a ∈ (bases.drop (9 * 2)).take 9 ∨ a ∈ (bases.drop (9 * 3)).take 9 ∨ a ∈ (bases.drop (9 * 4)).take 9 := by
    obtain ⟨i, hi, rfl⟩ := List.getElem_of_mem ha
    have hl : bases.length = 45 := by decide
    have hm : ∀ k, 9 * k ≤ i → i < 9 * k + 9 → bases[i] ∈ (bases.drop (9 * k)).take 9 := fun k h1 h2 => by
      rw [List.mem_iff_getElem]
      exact ⟨i - 9 * k, by simp; omega, by simp [show 9 * k + (i - 9 * k) = i by omega]⟩
    have : i < 9 * 0 + 9 ∨ (9 * 1 ≤ i ∧ i < 9 * 1 + 9) ∨ (9 * 2 ≤ i ∧ i < 9 * 2 + 9) ∨ (9 * 3 ≤ i ∧ i < 9 * 3 + 9) ∨ (9 * 4 ≤ i ∧ i < 9 * 4 + 9) := by omega
    rcases this with h | h | h | h | h
    · exact .inl (hm 0 (by omega) h)
    · exact .inr (.inl (hm 1 h.1 h.2))
    · exact .inr (.inr (.inl (hm 2 h.1 h.2)))
    · exact .inr (.inr (.inr (.inl (hm 3 h.1 h.2))))
    · exact .inr (.inr (.inr (.inr (hm 4 h.1 h.2))))
  rcases hs with h | h | h | h | h
  · exact key 0 conv_0 h
  · exact key 1 conv_1 h
  · exact key 2 conv_2 h
  · exact key 3 conv_3 h
  · exact key 4 conv_4 h
end Go.Proofs.Gh.Tryz
end
section
set_option linter.unusedVariables false
set_option linter.unusedSimpArgs false
namespace Go.Proofs.Gh.Tryz
open Go Go.Proofs Go.Proofs.Gh

theorem seg_geo {a1 a2 u1 u2 b1 b2 w1 w2 : Int} (h1 : 0 ≤ a1 * w2 - a2 * w1) (h2 : 0 ≤ b1 * (w2 - u2) - b2 * (w1 - u1)) (h3 : u1 * w2 - u2 * w1 = 0) (h4 : 0 < a1 * u2 - a2 * u1) (h5 : 0 < u1 * b2 - u2 * b1) :
    w1 * w1 + w2 * w2 ≤ u1 * u1 + u2 * u2 ∧ (u1 * u1 + u2 * u2 ≤ w1 * w1 + w2 * w2 → w1 = u1 ∧ w2 = u2) := by
  have hn : 0 < u1 * u1 + u2 * u2 := by
    have q1 := sq_nonneg u1
    have q2 := sq_nonneg u2
    rcases Int.lt_or_eq_of_le (show 0 ≤ u1 * u1 + u2 * u2 by omega) with h | h
    · exact h
    · exfalso
      have e1 : u1 = 0 := by
        have : u1 * u1 = 0 := by omega
        rcases Int.mul_eq_zero.1 this with h | h <;> exact h
      have e2 : u2 = 0 := by
        have : u2 * u2 = 0 := by omega
        rcases Int.mul_eq_zero.1 this with h | h <;> exact h
      rw [e1, e2] at h4
      omega
  generalize hN : u1 * u1 + u2 * u2 = n at *
  obtain ⟨s, hs⟩ : ∃ s, s = u1 * w1 + u2 * w2 := ⟨_, rfl⟩
  obtain ⟨m, hm⟩ : ∃ m, m = w1 * w1 + w2 * w2 := ⟨_, rfl⟩
  have l1 : (a1 * w2 - a2 * w1) * n = (a1 * u2 - a2 * u1) * s := by rw [← hN, hs]; grind
  have l2 : (b1 * (w2 - u2) - b2 * (w1 - u1)) * n = (u1 * b2 - u2 * b1) * (n - s) := by rw [← hN, hs]; grind
  have l3 : m * n = s * s := by rw [← hN, hs, hm]; grind
  have s0 : 0 ≤ s := by
    apply Classical.byContradiction
    intro hc
    have q1 := Int.mul_nonneg h1 (Int.le_of_lt hn)
    have q2 := Int.mul_pos h4 (show 0 < -s by omega)
    have q3 : (a1 * u2 - a2 * u1) * -s = -((a1 * u2 - a2 * u1) * s) := by grind
    omega
  have s1 : s ≤ n := by
    apply Classical.byContradiction
    intro hc
    have q1 := Int.mul_nonneg h2 (Int.le_of_lt hn)
    have q2 := Int.mul_pos h5 (show 0 < s - n by omega)
    have q3 : (u1 * b2 - u2 * b1) * (s - n) = -((u1 * b2 - u2 * b1) * (n - s)) := by grind
    omega
  have hss : s * s ≤ n * n := Int.mul_le_mul s1 s1 s0 (by omega)
  rw [← hm]
  constructor
  · apply Classical.byContradiction
    intro hc
    have q := Int.mul_lt_mul_of_pos_right (show n < m by omega) hn
    omega
  · intro hle
    have hsn : s = n := by
      apply Classical.byContradiction
      intro hc
      have q1 : s * s ≤ s * n := Int.mul_le_mul_of_nonneg_left s1 s0
      have q2 : s * n < n * n := Int.mul_lt_mul_of_pos_right (show s < n by omega) hn
      have q3 := Int.mul_le_mul_of_nonneg_right hle (Int.le_of_lt hn)
      omega
    have hmn : m = n := by
      have q : m * n = n * n := by rw [l3, hsn]
      exact Int.eq_of_mul_eq_mul_right (by omega) q
    have e : (w1 - u1) * (w1 - u1) + (w2 - u2) * (w2 - u2) = 0 := by
      have : (w1 - u1) * (w1 - u1) + (w2 - u2) * (w2 - u2) = m - 2 * s + n := by rw [hm, hs, ← hN]; grind
      omega
    have q1 := sq_nonneg (w1 - u1)
    have q2 := sq_nonneg (w2 - u2)
    constructor
    · have : (w1 - u1) * (w1 - u1) = 0 := by omega
      rcases Int.mul_eq_zero.1 this with h | h <;> omega
    · have : (w2 - u2) * (w2 - u2) = 0 := by omega
      rcases Int.mul_eq_zero.1 this with h | h <;> omega
theorem seg_pts {p' p q q' x : Pt} (h1 : 0 ≤ cross p' p x) (h2 : 0 ≤ cross q q' x) (h3 : cross p q x = 0) (h4 : 0 < cross p' p q) (h5 : 0 < cross p q q') : far p x ≤ far p q ∧ (far p q ≤ far p x → x = q) := by
  have := seg_geo (a1 := p.1 - p'.1) (a2 := p.2 - p'.2) (u1 := q.1 - p.1) (u2 := q.2 - p.2) (b1 := q'.1 - q.1) (b2 := q'.2 - q.2) (w1 := x.1 - p.1) (w2 := x.2 - p.2)
    (by unfold cross at h1; grind) (by unfold cross at h2; grind) (by unfold cross at h3; grind) (by unfold cross at h4; grind) (by unfold cross at h5; grind)
  have e1 : far p x = (x.1 - p.1) * (x.1 - p.1) + (x.2 - p.2) * (x.2 - p.2) := by unfold far; grind
  have e2 : far p q = (q.1 - p.1) * (q.1 - p.1) + (q.2 - p.2) * (q.2 - p.2) := by unfold far; grind
  rw [e1, e2]
  exact ⟨this.1, fun h => Prod.ext (by have := (this.2 h).1; omega) (by have := (this.2 h).2; omega)⟩
theorem fit_cross {p q x : Pt} {e : Ed} (hf : fit2 p q e = true) (hx : dot e.1 x ≤ e.2) : 0 ≤ cross p q x := by
  unfold fit2 at hf
  simp only [Bool.and_eq_true, decide_eq_true_eq] at hf
  obtain ⟨⟨⟨hc, h1⟩, h2⟩, h3⟩ := hf
  generalize hC : (q.2 - p.2) * e.1.1 - (q.1 - p.1) * e.1.2.1 = c at *
  have q1 := sq_nonneg e.1.1
  have q2 := sq_nonneg e.1.2.1
  have hn : 0 < e.1.1 * e.1.1 + e.1.2.1 * e.1.2.1 := by
    rcases Int.lt_or_eq_of_le (show 0 ≤ e.1.1 * e.1.1 + e.1.2.1 * e.1.2.1 by omega) with h | h
    · exact h
    · exfalso
      have e1 : e.1.1 = 0 := by
        have : e.1.1 * e.1.1 = 0 := by omega
        rcases Int.mul_eq_zero.1 this with h | h <;> exact h
      have e2 : e.1.2.1 = 0 := by
        have : e.1.2.1 * e.1.2.1 = 0 := by omega
        rcases Int.mul_eq_zero.1 this with h | h <;> exact h
      rw [e1, e2] at hC
      omega
  generalize e.1.1 * e.1.1 + e.1.2.1 * e.1.2.1 = n at *
  have l : n * cross p q x = c * (e.2 - dot e.1 x) := by
    unfold cross
    rw [← h3]
    unfold dot
    have l1 : n * ((q.1 - p.1) * (x.2 - p.2) - (q.2 - p.2) * (x.1 - p.1)) = -(n * -(q.1 - p.1)) * (x.2 - p.2) - n * (q.2 - p.2) * (x.1 - p.1) := by grind
    rw [l1, h1, h2]
    grind
  apply Classical.byContradiction
  intro hneg
  have q3 := Int.mul_nonneg (Int.le_of_lt hc) (show 0 ≤ e.2 - dot e.1 x by omega)
  have q4 := Int.mul_pos hn (show 0 < -cross p q x by omega)
  have q5 : n * -cross p q x = -(n * cross p q x) := by grind
  omega
theorem diffs_le {a b : List Pt} {x : Pt} (hx : x ∈ diffs a b) {e : Ed} (he : e ∈ sidesL a b) : dot e.1 x ≤ e.2 := by
  unfold diffs at hx
  obtain ⟨p, hp, hx⟩ := List.mem_flatMap.1 hx
  obtain ⟨q, hq, rfl⟩ := List.mem_map.1 hx
  have h1 := dot_le_most hp e.1
  have h2 := dot_le_most hq (turn e.1)
  have h3 : e.2 = most a e.1 + most b (turn e.1) := (mem_sidesL.1 he).2
  rw [h3]
  have : dot e.1 (p.1 - q.1, p.2 - q.2) = dot e.1 p + dot (turn e.1) q := by simp only [dot, turn]; grind
  omega

/-! ### The sum's list -/
theorem wrapF_ne {l : List Pt} {first : Pt} : ∀ (f : Nat) {out s : List Pt}, 0 < out.length → out.getD 0 default = first → (∀ i, 0 < i → i < out.length → out.getD i default ≠ first) → wrapF l first f out = some s → s.getD 0 default = first ∧ ∀ i, 0 < i → i < s.length → s.getD i default ≠ first
  | 0, out, s, _, _, _, hs => by cases hs
  | f + 1, out, s, h0, hf, ho, hs => by
    unfold wrapF at hs
    simp only at hs
    split at hs
    · injection hs with hs
      subst hs
      exact ⟨hf, ho⟩
    · rename_i hb
      refine wrapF_ne f (by simp) ?_ (fun i hi hl => ?_) hs
      · rw [List.getD_eq_getElem?_getD, List.getElem?_append_left (by omega), ← List.getD_eq_getElem?_getD]; exact hf
      · rw [List.length_append, List.length_singleton] at hl
        by_cases hlt : i < out.length
        · rw [List.getD_eq_getElem?_getD, List.getElem?_append_left hlt, ← List.getD_eq_getElem?_getD]; exact ho i hi hlt
        · have : i = out.length := by omega
          subst this
          rw [List.getD_eq_getElem?_getD, List.getElem?_append_right (by omega)]
          simpa using hb
end Go.Proofs.Gh.Tryz
end
section
set_option linter.unusedVariables false
set_option linter.unusedSimpArgs false
namespace Go.Proofs.Gh.Tryz
open Go Go.Proofs Go.Proofs.Gh

theorem sumN_back {a b : List Pt} (ha : a ∈ bases) (hb : b ∈ bases) {sn : List NP} (hsn : sumN (diffsN (a.map natP) (b.map natP)) = some sn) : sn.map backP = sumL a b := by
  have e1 := sumN_eq hsn
  rw [diffsN_eq (fun p hp => (base_of ha).sp p hp) (fun p hp => (base_of hb).sp p hp)] at e1
  have hl := (base_of ha).len
  have hl' := (base_of hb).len
  have hpos : 0 < (diffs a b).length := by rw [diffs_len]; exact Nat.mul_pos (by omega) (by omega)
  rw [List.length_map, minTo_map 100 100 hpos (Nat.le_refl _)] at e1
  have e2 := wrapF_map 100 100 (l := diffs a b) (minTo (diffs a b) (diffs a b).length) 12 (out := [minTo (diffs a b) (diffs a b).length]) (by simp)
  simp only [List.map_cons, List.map_nil] at e2
  rw [e1] at e2
  obtain ⟨s, hs, he⟩ := Option.map_eq_some_iff.1 e2.symm
  have hsum : sumL a b = s := by unfold sumL sumOf; rw [hs]; rfl
  have : (sn.map backP).map (moved 100 100) = sn.map emb := by
    rw [List.map_map]
    refine List.map_congr_left fun p _ => ?_
    simp only [Function.comp, backP, moved, emb, Prod.mk.injEq]
    omega
  rw [← he] at this
  rw [hsum]
  exact map_inj' (fun p q h => moved_inj.1 h) this
/-- The sum's corners: not more than the differences; each turn is to the left. -/
structure ConvOK (a b : List Pt) : Prop where
  len : (sumL a b).length ≤ a.length * b.length
  turn : ∀ j, j < (sumL a b).length → 0 < cross ((sumL a b).getD j default) (nxt (sumL a b) j) (nxt (sumL a b) (nxI (sumL a b) j))
theorem base_conv {a b : List Pt} (ha : a ∈ bases) (hb : b ∈ bases) : ConvOK a b := by
  have h := conv_all ha hb
  unfold okConv at h
  split at h
  · cases h
  · rename_i sn hsn
    simp only [sumN_back ha hb hsn, Bool.and_eq_true, List.all_eq_true, List.mem_range, Nat.ble_eq, decide_eq_true_eq] at h
    exact ⟨h.1, h.2⟩
theorem nxI_map {l : List Pt} {f : Pt → Pt} {j : Nat} : nxI (l.map f) j = nxI l j := by unfold nxI; rw [List.length_map]
theorem fam_conv {a b : List Pt} (ha : Fam a) (hb : Fam b) : ConvOK a b := by
  obtain ⟨a0, ha0, x, y, _, _, _, _, rfl⟩ := ha
  obtain ⟨b0, hb0, u, v, _, _, _, _, rfl⟩ := hb
  have hp := base_conv ha0 hb0
  have hl := (base_of ha0).len
  have hl' := (base_of hb0).len
  have hs := sumL_map x y u v (a := a0) (b := b0) (by omega) (by omega)
  refine ⟨by rw [hs, List.length_map, List.length_map, List.length_map]; exact hp.len, fun j hj => ?_⟩
  rw [hs, List.length_map] at hj
  rw [hs, nxI_map, nxt_map _ _ hj, nxt_map _ _ (nxI_lt hj), getD_map _ hj, cross_map]
  exact hp.turn j hj

/-- From 'last', p has no point to its right, and no farther one behind it. -/
def goodI (all : List Pt) (last p : Pt) : Bool := decide (p ≠ last) && all.all fun q => decide (0 < cross last p q) || (decide (cross last p q = 0) && decide (far last q ≤ far last p))
theorem prev_of {l : List Pt} {j : Nat} (hj : j < l.length) : ∃ i, i < l.length ∧ nxI l i = j := by
  by_cases h : j = 0
  · exact ⟨l.length - 1, by omega, by unfold nxI; rw [if_neg (by omega)]; exact h.symm⟩
  · exact ⟨j - 1, by omega, by unfold nxI; rw [if_pos (by omega)]; omega⟩
theorem goodI_iff {all : List Pt} {last p : Pt} : goodI all last p = true ↔ p ≠ last ∧ ∀ q ∈ all, 0 < cross last p q ∨ (cross last p q = 0 ∧ far last q ≤ far last p) := by
  unfold goodI
  simp only [Bool.and_eq_true, decide_eq_true_eq, List.all_eq_true, Bool.or_eq_true]
section
variable {a b : List Pt} (ha : Fam a) (hb : Fam b) {j : Nat} (hj : j < (sumL a b).length)
include ha hb hj
theorem next_side {x : Pt} (hx : x ∈ diffs a b) : 0 ≤ cross ((sumL a b).getD j default) (nxt (sumL a b) j) x := by
  obtain ⟨e, he, hf⟩ := (fam_pair ha hb).fit j hj
  exact fit_cross hf (diffs_le hx he)
theorem next_seg {x : Pt} (hx : x ∈ diffs a b) (h0 : cross ((sumL a b).getD j default) (nxt (sumL a b) j) x = 0) :
    far ((sumL a b).getD j default) x ≤ far ((sumL a b).getD j default) (nxt (sumL a b) j) ∧ (far ((sumL a b).getD j default) (nxt (sumL a b) j) ≤ far ((sumL a b).getD j default) x → x = nxt (sumL a b) j) := by
  obtain ⟨i, hi, hij⟩ := prev_of hj
  have hc := fam_conv ha hb
  have t1 := hc.turn i hi
  have t2 := hc.turn j hj
  have s1 := next_side ha hb hi hx
  have s2 := next_side ha hb (nxI_lt hj) hx
  rw [nxt_nxI (j := i), hij] at t1 s1
  rw [← nxt_nxI (j := j)] at s2
  exact seg_pts s1 s2 h0 t1 t2
theorem next_ne : nxt (sumL a b) j ≠ (sumL a b).getD j default := fun h => by
  have := (fam_conv ha hb).turn j hj
  rw [h] at this
  unfold cross at this
  simp at this
theorem next_mem : nxt (sumL a b) j ∈ diffs a b := by
  rw [nxt_nxI]
  exact (sum_mem ha hb).2 _ (getD_mem (nxI_lt hj))
theorem good_next : goodI (diffs a b) ((sumL a b).getD j default) (nxt (sumL a b) j) = true := by
  rw [goodI_iff]
  refine ⟨next_ne ha hb hj, fun x hx => ?_⟩
  have h := next_side ha hb hj hx
  rcases Int.lt_or_eq_of_le h with h | h
  · exact .inl h
  · exact .inr ⟨h.symm, (next_seg ha hb hj hx h.symm).1⟩
theorem good_uniq {y : Pt} (hy : y ∈ diffs a b) (hg : goodI (diffs a b) ((sumL a b).getD j default) y = true) : y = nxt (sumL a b) j := by
  have h1 := (goodI_iff.1 hg).2 _ (next_mem ha hb hj)
  have h2 := next_side ha hb hj hy
  have hanti : cross ((sumL a b).getD j default) y (nxt (sumL a b) j) = -cross ((sumL a b).getD j default) (nxt (sumL a b) j) y := by unfold cross; grind
  rw [hanti] at h1
  have h0 : cross ((sumL a b).getD j default) (nxt (sumL a b) j) y = 0 := by omega
  exact (next_seg ha hb hj hy h0).2 (by rcases h1 with h1 | h1; omega; exact h1.2)
theorem find_next : (diffs a b).find? (goodI (diffs a b) ((sumL a b).getD j default)) = some (nxt (sumL a b) j) := by
  cases h : (diffs a b).find? (goodI (diffs a b) ((sumL a b).getD j default)) with
  | none =>
    have := List.find?_eq_none.1 h _ (next_mem ha hb hj)
    rw [good_next ha hb hj] at this
    simp at this
  | some y =>
    have h1 := List.find?_some h
    have h2 := List.mem_of_find?_eq_some h
    rw [good_uniq ha hb hj h2 h1]
end
theorem sum_first {a b : List Pt} (ha : Fam a) (hb : Fam b) : (sumL a b).getD 0 default = minTo (diffs a b) (diffs a b).length ∧ ∀ i, 0 < i → i < (sumL a b).length → (sumL a b).getD i default ≠ minTo (diffs a b) (diffs a b).length :=
  wrapF_ne 12 (by simp) rfl (fun i h1 h2 => by simp at h2; omega) (fam_pair ha hb).run
end Go.Proofs.Gh.Tryz
end
