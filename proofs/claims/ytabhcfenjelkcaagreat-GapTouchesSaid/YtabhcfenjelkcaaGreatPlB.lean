/-
  Plain laws: the sum's sides are the edges.
  Plain laws that the laws of layer 12 need.
-/
import Derived.Test.YtabhcfenjelkcaaGreatPlA
section
set_option linter.unusedVariables false
set_option linter.unusedSimpArgs false
namespace Go.Proofs.Gh.Tryz
open Go Go.Proofs Go.Proofs.Gh
theorem pairs_0 : (((bases.drop (9 * 0)).take 9).all fun a => bases.all fun b => okPair a b) = true := by decide +kernel
theorem pairs_1 : (((bases.drop (9 * 1)).take 9).all fun a => bases.all fun b => okPair a b) = true := by decide +kernel
theorem pairs_2 : (((bases.drop (9 * 2)).take 9).all fun a => bases.all fun b => okPair a b) = true := by decide +kernel
theorem pairs_3 : (((bases.drop (9 * 3)).take 9).all fun a => bases.all fun b => okPair a b) = true := by decide +kernel
theorem pairs_4 : (((bases.drop (9 * 4)).take 9).all fun a => bases.all fun b => okPair a b) = true := by decide +kernel
theorem pairs_all {a b : List Pt} (ha : a ∈ bases) (hb : b ∈ bases) : okPair a b = true := by
  have key : ∀ i, (((bases.drop (9 * i)).take 9).all fun a => bases.all fun b => okPair a b) = true → a ∈ (bases.drop (9 * i)).take 9 → okPair a b = true := fun i h hm => List.all_eq_true.1 (List.all_eq_true.1 h a hm) b hb
  have hs : a ∈ (bases.drop (9 * 0)).take 9 ∨ a ∈ (bases.drop (9 * 1)).take 9 ∨ a ∈ (bases.drop (9 * 2)).take 9 ∨ a ∈ (bases.drop (9 * 3)).take 9 ∨ a ∈ (bases.drop (9 * 4)).take 9 := by
    obtain ⟨i, hi, rfl⟩ := List.getElem_of_mem ha
    have hl : bases.length = 45 := by decide
    have hm : ∀ k, 9 * k ≤ i → i < 9 * k + 9 → bases[i] ∈ (bases.drop (9 * k)).take 9 := fun k h1 h2 => by
      rw [List.mem_iff_getElem]
      exact ⟨i - 9 * k, by simp; omega, by simp [show 9 * k + (i - 9 * k) = i by omega]⟩
    have : i < 9 * 0 + 9 ∨ (9 * 1 ≤ i ∧ i < 9 * 1 + 9) ∨ (9 * 2 ≤ i ∧ i < 9 * 2 + 9) ∨ (9 * 3 ≤ i ∧ i < 9 * 3 + 9) ∨ (9 * 4 ≤ i ∧ i < 9 * 4 + 9) := by omega
    rcases this with h | h | h | h | h
    · exact .inl (hm 0 (by omega) h)
    · exact .inr (.inl (hm 1 h.1 h.2))
    · exact .inr (.inr (.inl (hm 2 h.1 h.2)))
    · exact .inr (.inr (.inr (.inl (hm 3 h.1 h.2))))
    · exact .inr (.inr (.inr (.inr (hm 4 h.1 h.2))))
  rcases hs with h | h | h | h | h
  · exact key 0 pairs_0 h
  · exact key 1 pairs_1 h
  · exact key 2 pairs_2 h
  · exact key 3 pairs_3 h
  · exact key 4 pairs_4 h

theorem map_inj' {α β : Type} {f : α → β} (hf : ∀ a b, f a = f b → a = b) : ∀ {l m : List α}, l.map f = m.map f → l = m
  | [], [], _ => rfl
  | a :: l, b :: m, h => by
    simp only [List.map_cons, List.cons.injEq] at h
    rw [hf _ _ h.1, map_inj' hf h.2]
  | [], b :: m, h => by simp at h
  | a :: l, [], h => by simp at h

/-- What the check of a pair of the family's shapes tells. -/
structure PairOK (a b : List Pt) : Prop where
  run : wrapF (diffs a b) (minTo (diffs a b) (diffs a b).length) 12 [minTo (diffs a b) (diffs a b).length] = some (sumL a b)
  len : 3 ≤ (sumL a b).length
  fit : ∀ j, j < (sumL a b).length → ∃ e ∈ sidesL a b, fit2 ((sumL a b).getD j default) (nxt (sumL a b) j) e = true
  fit' : ∀ e ∈ sidesL a b, ∃ j, j < (sumL a b).length ∧ fit2 ((sumL a b).getD j default) (nxt (sumL a b) j) e = true
theorem base_pair {a b : List Pt} (ha : a ∈ bases) (hb : b ∈ bases) : PairOK a b := by
  have h := pairs_all ha hb
  unfold okPair at h
  split at h
  · cases h
  · rename_i sn hsn
    have e1 := sumN_eq hsn
    rw [diffsN_eq (fun p hp => (base_of ha).sp p hp) (fun p hp => (base_of hb).sp p hp)] at e1
    have hl := (base_of ha).len
    have hl' := (base_of hb).len
    have hpos : 0 < (diffs a b).length := by rw [diffs_len]; exact Nat.mul_pos (by omega) (by omega)
    rw [List.length_map, minTo_map 100 100 hpos (Nat.le_refl _)] at e1
    have e2 := wrapF_map 100 100 (l := diffs a b) (minTo (diffs a b) (diffs a b).length) 12 (out := [minTo (diffs a b) (diffs a b).length]) (by simp)
    simp only [List.map_cons, List.map_nil] at e2
    rw [e1] at e2
    obtain ⟨s, hs, he⟩ := Option.map_eq_some_iff.1 e2.symm
    have hsum : sumL a b = s := by unfold sumL sumOf; rw [hs]; rfl
    have hback : sn.map backP = s := by
      have : (sn.map backP).map (moved 100 100) = sn.map emb := by
        rw [List.map_map]
        refine List.map_congr_left fun p _ => ?_
        simp only [Function.comp, backP, moved, emb, Prod.mk.injEq]
        omega
      rw [← he] at this
      exact map_inj' (fun p q h => moved_inj.1 h) this
    simp only [hback, Bool.and_eq_true, List.all_eq_true, List.any_eq_true, List.mem_range, Nat.ble_eq] at h
    obtain ⟨⟨h1, h2⟩, h3⟩ := h
    refine ⟨by rw [hsum]; exact hs, by rw [hsum]; exact h1, fun j hj => ?_, fun e he => ?_⟩
    · rw [hsum] at hj ⊢
      obtain ⟨e, q1, q2⟩ := h2 j hj
      exact ⟨e, q1, q2⟩
    · rw [hsum]
      obtain ⟨j, q1, q2⟩ := h3 e he
      exact ⟨j, q1, q2⟩
theorem fit2_map (x y : Int) (p q : Pt) (e : Ed) : fit2 (moved x y p) (moved x y q) (e.1, e.2 + (e.1.1 * x + e.1.2.1 * y)) = fit2 p q e := by
  unfold fit2
  have e1 : (moved x y q).2 - (moved x y p).2 = q.2 - p.2 := by simp only [moved]; omega
  have e2 : (moved x y q).1 - (moved x y p).1 = q.1 - p.1 := by simp only [moved]; omega
  have e3 : (dot e.1 (moved x y p) = e.2 + (e.1.1 * x + e.1.2.1 * y)) ↔ dot e.1 p = e.2 := by rw [dot_map]; omega
  simp only [e1, e2, e3]
theorem fam_pair {a b : List Pt} (ha : Fam a) (hb : Fam b) : PairOK a b := by
  obtain ⟨a0, ha0, x, y, _, _, _, _, rfl⟩ := ha
  obtain ⟨b0, hb0, u, v, _, _, _, _, rfl⟩ := hb
  have hp := base_pair ha0 hb0
  have hl := (base_of ha0).len
  have hl' := (base_of hb0).len
  have hs := sumL_map x y u v (a := a0) (b := b0) (by omega) (by omega)
  have hd := sidesL_map x y u v (a := a0) (b := b0) (by omega) (by omega)
  have hpos : 0 < (diffs a0 b0).length := by rw [diffs_len]; exact Nat.mul_pos (by omega) (by omega)
  refine ⟨?_, by rw [hs, List.length_map]; exact hp.len, fun j hj => ?_, fun e he => ?_⟩
  · rw [diffs_map, List.length_map, minTo_map _ _ hpos (Nat.le_refl _), hs]
    have := wrapF_map (x - u) (y - v) (l := diffs a0 b0) (minTo (diffs a0 b0) (diffs a0 b0).length) 12 (out := [minTo (diffs a0 b0) (diffs a0 b0).length]) (by simp)
    simp only [List.map_cons, List.map_nil] at this
    rw [this, hp.run]
    rfl
  · rw [hs, List.length_map] at hj
    obtain ⟨e, q1, q2⟩ := hp.fit j hj
    rw [hs, hd, nxt_map _ _ hj, getD_map _ hj]
    exact ⟨_, List.mem_map.2 ⟨e, q1, rfl⟩, by rw [fit2_map]; exact q2⟩
  · rw [hd] at he
    obtain ⟨e0, q1, rfl⟩ := List.mem_map.1 he
    obtain ⟨j, q2, q3⟩ := hp.fit' e0 q1
    rw [hs, List.length_map]
    exact ⟨j, q2, by rw [nxt_map _ _ q2, getD_map _ q2, fit2_map]; exact q3⟩
theorem sum_mem {a b : List Pt} (ha : Fam a) (hb : Fam b) : (sumL a b).length ≤ 13 ∧ ∀ p ∈ sumL a b, p ∈ diffs a b := by
  have hl := fam_len ha
  have hl' := fam_len hb
  have hpos : 0 < (diffs a b).length := by rw [diffs_len]; exact Nat.mul_pos (by omega) (by omega)
  have hm := minTo_mem hpos (Nat.le_refl _)
  have := wrapF_mem (fun _ _ => trivial) 12 (by simp) (fun p hp => by rw [List.mem_singleton] at hp; rw [hp]; exact hm) (fam_pair ha hb).run
  rw [List.length_singleton] at this
  exact ⟨by omega, this.2.2⟩
theorem diffs_bd {a b : List Pt} (ha : Fam a) (hb : Fam b) : ∀ p ∈ diffs a b, -10100 ≤ p.1 ∧ p.1 ≤ 10100 ∧ -10100 ≤ p.2 ∧ p.2 ≤ 10100 := by
  intro p hp
  unfold diffs at hp
  obtain ⟨q, hq, hp⟩ := List.mem_flatMap.1 hp
  obtain ⟨r, hr, rfl⟩ := List.mem_map.1 hp
  have h1 := fam_sp ha q hq
  have h2 := fam_sp hb r hr
  simp only
  omega
theorem sum_bd {a b : List Pt} (ha : Fam a) (hb : Fam b) : ∀ p ∈ sumL a b, -10100 ≤ p.1 ∧ p.1 ≤ 10100 ∧ -10100 ≤ p.2 ∧ p.2 ≤ 10100 := fun p hp => diffs_bd ha hb p ((sum_mem ha hb).2 p hp)

theorem sq_nonneg (n : Int) : 0 ≤ n * n := by
  rcases Int.le_total 0 n with h | h
  · exact Int.mul_nonneg h h
  · exact Int.mul_nonneg_of_nonpos_of_nonpos h h
/-- The side's half plane is the edge's. -/
theorem fit_side {s : List Pt} {j : Nat} {e : Ed} {v : Rat × Rat} (h : fit2 (s.getD j default) (nxt s j) e = true) : side s v j = false ↔ dotQ e.1 v ≤ (e.2 : Rat) := by
  rw [side_false, dotQ_eq]
  unfold fit2 at h
  generalize nxt s j = q at *
  generalize s.getD j default = p at *
  obtain ⟨p1, p2⟩ := p
  obtain ⟨q1, q2⟩ := q
  obtain ⟨⟨n1, n2, n3⟩, t⟩ := e
  obtain ⟨v1, v2⟩ := v
  simp only [Bool.and_eq_true, decide_eq_true_eq, dot] at *
  obtain ⟨⟨⟨h1, h2⟩, h3⟩, h4⟩ := h
  have h4 : n1 * p1 + n2 * p2 = t := of_decide_eq_true h4
  have g1 : (0 : Rat) < (((q2 - p2) * n1 - (q1 - p1) * n2 : Int) : Rat) := Rat.intCast_lt_intCast.2 h1
  have g2 : (((n1 * n1 + n2 * n2) * (q2 - p2) : Int) : Rat) = (((q2 - p2) * n1 - (q1 - p1) * n2) * n1 : Int) := by rw [h2]
  have g3 : (((n1 * n1 + n2 * n2) * -(q1 - p1) : Int) : Rat) = (((q2 - p2) * n1 - (q1 - p1) * n2) * n2 : Int) := by rw [h3]
  have g4 : ((n1 * p1 + n2 * p2 : Int) : Rat) = (t : Int) := by rw [h4]
  have hn : (0 : Rat) < ((n1 * n1 + n2 * n2 : Int) : Rat) := by
    suffices hz : (0 : Int) < n1 * n1 + n2 * n2 from Rat.intCast_lt_intCast.2 hz
    have a1 := sq_nonneg n1
    have a2 := sq_nonneg n2
    by_cases z1 : n1 = 0
    · by_cases z2 : n2 = 0
      · subst z1 z2; simp at h1
      · have : n2 * n2 ≠ 0 := Int.mul_ne_zero z2 z2
        omega
    · have : n1 * n1 ≠ 0 := Int.mul_ne_zero z1 z1
      omega
  simp only [Rat.intCast_sub, Rat.intCast_mul, Rat.intCast_neg, Rat.intCast_add] at *
  generalize (p1 : Rat) = P1 at *
  generalize (p2 : Rat) = P2 at *
  generalize (q1 : Rat) = Q1 at *
  generalize (q2 : Rat) = Q2 at *
  generalize (n1 : Rat) = N1 at *
  generalize (n2 : Rat) = N2 at *
  generalize (t : Rat) = T at *
  have id1 : (N1 * N1 + N2 * N2) * ((Q2 - P2) * (v1 - P1) - (Q1 - P1) * (v2 - P2)) = ((Q2 - P2) * N1 - (Q1 - P1) * N2) * (N1 * v1 + N2 * v2 - T) := by grind
  constructor
  · intro h
    apply Rat.not_lt.1
    intro hc
    have := Rat.mul_pos g1 (show 0 < N1 * v1 + N2 * v2 - T by grind)
    rw [← id1] at this
    have h' := Rat.mul_nonneg (Rat.le_of_lt hn) (show 0 ≤ -((Q2 - P2) * (v1 - P1) - (Q1 - P1) * (v2 - P2)) by grind)
    grind
  · intro h
    apply Rat.not_lt.1
    intro hc
    have := Rat.mul_pos hn (show 0 < (Q2 - P2) * (v1 - P1) - (Q1 - P1) * (v2 - P2) by grind)
    rw [id1] at this
    have h' := Rat.mul_nonneg (Rat.le_of_lt g1) (show 0 ≤ -(N1 * v1 + N2 * v2 - T) by grind)
    grind
theorem has_sum {a b : List Pt} (ha : Fam a) (hb : Fam b) (v : Rat × Rat) : hasQ (sumL a b) v = true ↔ ∀ e ∈ sidesL a b, dotQ e.1 v ≤ (e.2 : Rat) := by
  have hp := fam_pair ha hb
  rw [hasQ_iff]
  constructor
  · intro h e he
    obtain ⟨j, hj, hf⟩ := hp.fit' e he
    exact (fit_side hf).1 (h j hj)
  · intro h j hj
    obtain ⟨e, he, hf⟩ := hp.fit j hj
    exact (fit_side hf).2 (h e he)
end Go.Proofs.Gh.Tryz
end
section
set_option linter.unusedVariables false
set_option linter.unusedSimpArgs false
namespace Go.Proofs.Gh.Tryz
open Go Go.Proofs Go.Proofs.Gh

theorem QB.mono {a : Rat} {N D M E : Nat} (h : QB N D a) (h1 : N ≤ M) (h2 : D ≤ E) : QB M E a := ⟨Nat.le_trans h.1 h1, Nat.le_trans h.2 h2⟩
theorem half_qb (a : Int) (h : 0 ≤ a ∧ a < 96) : QB 100 4 (half a) := by
  unfold half
  have h1 : 2 + a / 48 % 2 = ((2 + a / 48 % 2).toNat : Int) := by omega
  rw [h1]
  exact qb_of (by omega) (by omega) (by omega)
theorem vec_qb (x y : Int) : QB 100 4 (vec x y).1 ∧ QB 100 4 (vec x y).2 := ⟨half_qb _ (around_lt x (by omega)), half_qb _ (around_lt y (by omega))⟩
theorem vec_QB (x y : Int) : QB 1000000 1000 (vec x y).1 ∧ QB 1000000 1000 (vec x y).2 := ⟨(vec_qb x y).1.mono (by omega) (by omega), (vec_qb x y).2.mono (by omega) (by omega)⟩

theorem any_take {α : Type} [Inhabited α] (p : α → Bool) {l : List α} {i : Nat} (h : i < l.length) : (l.take (i + 1)).any p = ((l.take i).any p || p (l.getD i default)) := by
  rw [List.take_succ_eq_append_getElem h, List.any_append, List.getD_eq_getElem?_getD, List.getElem?_eq_getElem h]
  simp
theorem all_take {α : Type} [Inhabited α] (p : α → Bool) {l : List α} {i : Nat} (h : i < l.length) : (l.take (i + 1)).all p = ((l.take i).all p && p (l.getD i default)) := by
  rw [List.take_succ_eq_append_getElem h, List.all_append, List.getD_eq_getElem?_getD, List.getElem?_eq_getElem h]
  simp
theorem found {a b : List Pt} {e : Ed} (h : e ∈ sidesL a b) : ((sidesL b a).any fun f => decide (f = (turn e.1, e.2))) = true := by
  rw [List.any_eq_true]
  exact ⟨_, sides_turned h, by simp⟩

theorem areaFrom_map (x y : Int) {l : List Pt} : ∀ {i : Nat}, i ≤ l.length → areaFrom (l.map (moved x y)) i = areaFrom l i
  | 0, _ => rfl
  | i + 1, hi => by
    rw [areaFrom_succ, areaFrom_succ, areaFrom_map x y (by omega), nxt_map x y (by omega), getD_map _ (show i < l.length by omega), getD_map _ (show 0 < l.length by omega), cross_map]
theorem map_moved (x y u v : Int) (l : List Pt) : (l.map (moved x y)).map (moved u v) = l.map (moved (x + u) (y + v)) := by
  rw [List.map_map]
  refine List.map_congr_left fun p _ => ?_
  simp only [Function.comp, moved, Prod.mk.injEq]
  omega
theorem shape_moved (l : List Int) {x y : Int} (hx : -2000 ≤ x ∧ x ≤ 2000) (hy : -2000 ≤ y ∧ y ≤ 2000) : Fam ((shape l).map (moved x y)) := by
  obtain ⟨b, hb, u, v, h1, h2, h3, h4, he⟩ := shape_near l
  rw [he, map_moved]
  exact ⟨b, hb, _, _, by omega, by omega, by omega, by omega, rfl⟩

theorem most_met {l : List Pt} (h : 0 < l.length) (d : Dr) : (l.any fun p => decide (dot d p = most l d)) = true := by
  have hmem : ∀ i, i ≤ l.length → maxTo l d i ∈ l := by
    intro i
    induction i with
    | zero => intro _; exact getD_mem h
    | succ i ih =>
      intro hi
      unfold maxTo
      split
      · exact getD_mem (by omega)
      · exact ih (by omega)
  rw [List.any_eq_true]
  exact ⟨_, hmem l.length (Nat.le_refl _), by simp [most]⟩

theorem dotQ_sub (d : Dr) (p q : Rat × Rat) : dotQ d (p.1 - q.1, p.2 - q.2) = dotQ d p - dotQ d q := by
  rw [dotQ_eq, dotQ_eq, dotQ_eq]
  grind
theorem dotQ_turn (d : Dr) (p : Rat × Rat) : dotQ (turn d) p = -dotQ d p := by
  rw [dotQ_eq, dotQ_eq]
  simp only [turn, Rat.intCast_neg]
  grind
/-- What both shapes have in common is beyond no edge. -/
theorem apart {a b : List Pt} (ha : Fam a) (hb : Fam b) {p r : Rat × Rat} (h1 : hasQ a p = true) (h2 : hasQ b (p.1 - r.1, p.2 - r.2) = true) {e : Ed} (he : e ∈ sidesL a b) : dotQ e.1 r ≤ (e.2 : Rat) := by
  have hd := side_dir ha hb he
  have q1 := has_dot ha h1 hd
  have q2 := has_dot hb h2 (turn_mem hd)
  rw [dotQ_turn, dotQ_sub] at q2
  have h3 : e.2 = most a e.1 + most b (turn e.1) := (mem_sidesL.1 he).2
  rw [h3, Rat.intCast_add]
  grind
def inQ (s : List Ed) (r : Rat × Rat) : Bool := s.all fun e => decide (cmpQ (dotQ e.1 r) (qi e.2) ≤ 0)
theorem cmpQ_le {a b : Rat} : cmpQ a b ≤ 0 ↔ a ≤ b := by
  have := @cmpQ_gt a b
  rw [← Rat.not_lt, ← this]
  omega
theorem inQ_iff {s : List Ed} {r : Rat × Rat} : inQ s r = true ↔ ∀ e ∈ s, dotQ e.1 r ≤ (e.2 : Rat) := by
  unfold inQ
  rw [List.all_eq_true]
  constructor
  · intro h e he
    have := of_decide_eq_true (h e he)
    rwa [cmpQ_le, qi_eq] at this
  · intro h e he
    refine decide_eq_true ?_
    rw [cmpQ_le, qi_eq]
    exact h e he
theorem has_in {a b : List Pt} (ha : Fam a) (hb : Fam b) (r : Rat × Rat) : hasQ (sumL a b) r = inQ (sidesL a b) r := by
  rw [Bool.eq_iff_iff, has_sum ha hb, inQ_iff]
theorem atE_bd {a b : List Pt} (ha : Fam a) (hb : Fam b) {e : Ed} (he : e ∈ sidesL a b) : -101000 ≤ e.2 ∧ e.2 ≤ 101000 := by
  have hd := side_dir ha hb he
  have h3 : e.2 = most a e.1 + most b (turn e.1) := (mem_sidesL.1 he).2
  have h1 := most_bd ha hd
  have h2 := most_bd hb (turn_mem hd)
  omega
theorem mb5 {a b M : Int} (ha : -5 ≤ a ∧ a ≤ 5) (hb : -M ≤ b ∧ b ≤ M) : -(5 * M) ≤ a * b ∧ a * b ≤ 5 * M := by
  have : a = -5 ∨ a = -4 ∨ a = -3 ∨ a = -2 ∨ a = -1 ∨ a = 0 ∨ a = 1 ∨ a = 2 ∨ a = 3 ∨ a = 4 ∨ a = 5 := by omega
  rcases this with h | h | h | h | h | h | h | h | h | h | h <;> rw [h] <;> omega
end Go.Proofs.Gh.Tryz
end
