/-
  Plain laws: the family of shapes, its sides and directions.
  Plain laws: the edges of a pair of shapes.
  Plain laws: the sum of a pair of shapes.
-/
import Derived.Test.YtabhcfenjelkcaaGreatCtC
section
set_option linter.unusedVariables false
set_option linter.unusedSimpArgs false
namespace Go.Proofs.Gh.Tryz
open Go Go.Proofs Go.Proofs.Gh
/-! ### The corners of the family -/
def lsq (n : Int) : Nat := ((List.range 32).find? fun (s : Nat) => decide ((s : Int) * s = n)).getD 0
def lsO (l : List Pt) (i : Nat) : Nat := lsq (((nxt l i).1 - (l.getD i default).1) * ((nxt l i).1 - (l.getD i default).1) + ((nxt l i).2 - (l.getD i default).2) * ((nxt l i).2 - (l.getD i default).2))
/-- The outward direction of side i. -/
def dirA (l : List Pt) (i : Nat) : Dr := dirOf l (lsO l) i

def kinds : List (List Pt) := [[]]
def ks : List Int := [1, 2, 3]
def ms : List Int := [1, 2, 3, 4, 5, 6]
def bases : List (List Pt) := (ks.flatMap fun k => ms.map fun m => shapeK 0 k m) ++ ((ks.map fun k => shapeK 3 k 1) ++ ((ks.map fun k => shapeK 4 k 1) ++ ((ks.flatMap fun k => ms.map fun m => shapeK 5 k m) ++ (ks.map fun k => shapeK 6 k 1))))
theorem mem_ks {k : Int} (h : 1 ≤ k ∧ k ≤ 3) : k ∈ ks := by
  have : k = 1 ∨ k = 2 ∨ k = 3 := by omega
  rcases this with rfl | rfl | rfl <;> decide
theorem mem_ms {k : Int} (h : 1 ≤ k ∧ k ≤ 6) : k ∈ ms := by
  have : k = 1 ∨ k = 2 ∨ k = 3 ∨ k = 4 ∨ k = 5 ∨ k = 6 := by omega
  rcases this with rfl | rfl | rfl | rfl | rfl | rfl <;> decide
theorem shapeK_mem {t k m : Int} (hk : 1 ≤ k ∧ k ≤ 3) (hm : 1 ≤ m ∧ m ≤ 6) : shapeK t k m ∈ bases := by
  unfold bases
  simp only [List.mem_append, List.mem_flatMap, List.mem_map]
  by_cases h0 : t = 0 ∨ t = 1 ∨ t = 2
  · exact .inl ⟨k, mem_ks hk, m, mem_ms hm, by unfold shapeK; rw [if_pos h0, if_pos (.inl rfl)]⟩
  · by_cases h3 : t = 3
    · exact .inr (.inl ⟨k, mem_ks hk, by subst h3; rfl⟩)
    · by_cases h4 : t = 4
      · exact .inr (.inr (.inl ⟨k, mem_ks hk, by subst h4; rfl⟩))
      · by_cases h5 : t = 5
        · exact .inr (.inr (.inr (.inl ⟨k, mem_ks hk, m, mem_ms hm, by subst h5; rfl⟩)))
        · exact .inr (.inr (.inr (.inr ⟨k, mem_ks hk, by unfold shapeK; rw [if_neg h0, if_neg h3, if_neg h4, if_neg h5]; rfl⟩)))

/-- A shape of the family, moved. -/
def Fam (l : List Pt) : Prop := ∃ b ∈ bases, ∃ x y : Int, -5000 ≤ x ∧ x ≤ 5000 ∧ -5000 ≤ y ∧ y ≤ 5000 ∧ l = b.map (moved x y)
theorem shape_fam (l : List Int) : Fam (shape l) := by
  have b1 := at_lt l 1 (m := 3) (by omega)
  have b2 := at_lt l 2 (m := 6) (by omega)
  have b3 := at_lt l 3 (m := 5) (by omega)
  have b4 := at_lt l 4 (m := 5) (by omega)
  exact ⟨_, shapeK_mem (by omega) (by omega), _, _, by omega, by omega, by omega, by omega, rfl⟩
/-- So near the origin as Shape lays it. -/
theorem shape_near (l : List Int) : ∃ b ∈ bases, ∃ x y : Int, -2 ≤ x ∧ x ≤ 2 ∧ -2 ≤ y ∧ y ≤ 2 ∧ shape l = b.map (moved x y) := by
  have b1 := at_lt l 1 (m := 3) (by omega)
  have b2 := at_lt l 2 (m := 6) (by omega)
  have b3 := at_lt l 3 (m := 5) (by omega)
  have b4 := at_lt l 4 (m := 5) (by omega)
  exact ⟨_, shapeK_mem (by omega) (by omega), _, _, by omega, by omega, by omega, by omega, rfl⟩

def dirs12 : List Dr := [(0, -1, 1), (1, 0, 1), (0, 1, 1), (-1, 0, 1), (3, 4, 5), (-3, -4, 5), (3, -4, 5), (-3, 4, 5), (4, 3, 5), (-4, 3, 5), (4, -3, 5), (-4, -3, 5)]
/-- The direction N lies between the normals of the sides at the corner behind side i. -/
def fark (b : List Pt) (N : Dr) (i : Nat) : Bool :=
  let p := b.getD i default
  let v := nxt b i
  let q := nxt b (if i + 1 < b.length then i + 1 else 0)
  decide (0 < (v.2 - p.2) * -(q.1 - v.1) - -(v.1 - p.1) * (q.2 - v.2)) && decide (0 ≤ N.1 * -(q.1 - v.1) - N.2.1 * (q.2 - v.2)) && decide (0 ≤ (v.2 - p.2) * N.2.1 - -(v.1 - p.1) * N.1)
def okSide (b : List Pt) (i : Nat) : Bool :=
  let p := b.getD i default
  let q := nxt b i
  decide ((q.1 - p.1) * (q.1 - p.1) + (q.2 - p.2) * (q.2 - p.2) = lsO b i * lsO b i) && decide (0 < lsO b i) && decide (lsO b i ≤ 100) &&
    ((List.range b.length).all fun k => decide (k = i) || decide (k = (i + 1) % b.length) || decide (0 < cross p q (b.getD k default))) &&
    decide (dirA b i ∈ dirs12) && decide (most b (dirA b i) = dot (dirA b i) p)
def okBase (b : List Pt) : Bool :=
  decide (3 ≤ b.length) && decide (b.length ≤ 5) && (b.all fun p => decide (-50 ≤ p.1) && decide (p.1 ≤ 50) && decide (-50 ≤ p.2) && decide (p.2 ≤ 50)) && ((List.range b.length).all (okSide b)) && (dirs12.all fun N => (List.range b.length).any (fark b N))
theorem ok_bases : (bases.all okBase) = true := by decide +kernel
theorem dirs_turn : (dirs12.all fun d => decide (turn d ∈ dirs12)) = true := by decide +kernel
theorem turn_mem {d : Dr} (h : d ∈ dirs12) : turn d ∈ dirs12 := of_decide_eq_true (List.all_eq_true.1 dirs_turn d h)
theorem dirs_small : (dirs12.all fun d => decide (-5 ≤ d.1 ∧ d.1 ≤ 5 ∧ -5 ≤ d.2.1 ∧ d.2.1 ≤ 5 ∧ 1 ≤ d.2.2 ∧ d.2.2 ≤ 5)) = true := by decide +kernel
theorem dir_small {d : Dr} (h : d ∈ dirs12) : -5 ≤ d.1 ∧ d.1 ≤ 5 ∧ -5 ≤ d.2.1 ∧ d.2.1 ≤ 5 ∧ 1 ≤ d.2.2 ∧ d.2.2 ≤ 5 := of_decide_eq_true (List.all_eq_true.1 dirs_small d h)
theorem dir_Sd {d : Dr} (h : d ∈ dirs12) : Sd d := by have := dir_small h; unfold Sd; omega
theorem turn_turn (d : Dr) : turn (turn d) = d := by simp [turn]

/-! ### Moves -/
theorem getD_map {α β : Type} [Inhabited α] [Inhabited β] (f : α → β) {l : List α} {i : Nat} (h : i < l.length) : (l.map f).getD i default = f (l.getD i default) := by
  rw [List.getD_eq_getElem?_getD, List.getD_eq_getElem?_getD, List.getElem?_map, List.getElem?_eq_getElem h]
  rfl
theorem nxt_map {l : List Pt} (x y : Int) {i : Nat} (h : i < l.length) : nxt (l.map (moved x y)) i = moved x y (nxt l i) := by
  unfold nxt
  rw [List.length_map]
  split
  · exact getD_map _ (by omega)
  · exact getD_map _ (by omega)
theorem lsO_map {l : List Pt} (x y : Int) {i : Nat} (h : i < l.length) : lsO (l.map (moved x y)) i = lsO l i := by
  unfold lsO
  rw [nxt_map x y h, getD_map _ h]
  simp only [moved]
  congr 1
  grind
theorem dirA_map {l : List Pt} (x y : Int) {i : Nat} (h : i < l.length) : dirA (l.map (moved x y)) i = dirA l i := by
  unfold dirA dirOf
  rw [nxt_map x y h, getD_map _ h, lsO_map x y h]
  simp only [moved]
  congr 1 <;> omega
theorem cross_map (x y : Int) (a b c : Pt) : cross (moved x y a) (moved x y b) (moved x y c) = cross a b c := by
  simp only [cross, moved]
  grind
theorem dot_map (x y : Int) (d : Dr) (p : Pt) : dot d (moved x y p) = dot d p + (d.1 * x + d.2.1 * y) := by
  simp only [dot, moved]
  grind
theorem maxTo_map (x y : Int) (d : Dr) {l : List Pt} (h : 0 < l.length) : ∀ {i : Nat}, i ≤ l.length → maxTo (l.map (moved x y)) d i = moved x y (maxTo l d i)
  | 0, _ => getD_map _ h
  | i + 1, hi => by
    unfold maxTo
    rw [maxTo_map x y d h (by omega), getD_map _ (show i < l.length by omega), dot_map, dot_map]
    by_cases hc : dot d (maxTo l d i) < dot d (l.getD i default)
    · rw [if_pos hc, if_pos (by omega)]
    · rw [if_neg hc, if_neg (by omega)]
theorem most_map (x y : Int) (d : Dr) {l : List Pt} (h : 0 < l.length) : most (l.map (moved x y)) d = most l d + (d.1 * x + d.2.1 * y) := by
  unfold most
  rw [List.length_map, maxTo_map x y d h (Nat.le_refl _), dot_map]
theorem fark_map (x y : Int) (N : Dr) {l : List Pt} {i : Nat} (h : i < l.length) : fark (l.map (moved x y)) N i = fark l N i := by
  unfold fark
  have hj : (if i + 1 < l.length then i + 1 else 0) < l.length := by split <;> omega
  simp only [List.length_map]
  rw [nxt_map x y h, getD_map _ h, nxt_map x y hj]
  generalize nxt l (if i + 1 < l.length then i + 1 else 0) = q
  generalize nxt l i = v
  generalize l.getD i default = p
  have e1 : v.2 + y - (p.2 + y) = v.2 - p.2 := by omega
  have e2 : v.1 + x - (p.1 + x) = v.1 - p.1 := by omega
  have e3 : q.2 + y - (v.2 + y) = q.2 - v.2 := by omega
  have e4 : q.1 + x - (v.1 + x) = q.1 - v.1 := by omega
  simp only [moved, e1, e2, e3, e4]

theorem dot_le_maxTo (l : List Pt) (d : Dr) : ∀ (i k : Nat), k < i ∨ k = 0 → dot d (l.getD k default) ≤ dot d (maxTo l d i)
  | 0, k, h => by
    obtain rfl : k = 0 := by omega
    exact Int.le_refl _
  | i + 1, k, h => by
    have ih := dot_le_maxTo l d i k
    unfold maxTo
    by_cases hk : k = i
    · subst hk
      split <;> omega
    · have := ih (by omega)
      split <;> omega
theorem dot_le_most {l : List Pt} {p : Pt} (h : p ∈ l) (d : Dr) : dot d p ≤ most l d := by
  obtain ⟨k, hk, rfl⟩ := List.getElem_of_mem h
  have := dot_le_maxTo l d l.length k (.inl hk)
  rw [List.getD_eq_getElem?_getD, List.getElem?_eq_getElem hk] at this
  exact this

/-! ### What holds of the family -/
theorem base_ok {b : List Pt} (h : b ∈ bases) : okBase b = true := List.all_eq_true.1 ok_bases b h
structure Base (b : List Pt) : Prop where
  len : 3 ≤ b.length ∧ b.length ≤ 5
  sp : ∀ p ∈ b, -50 ≤ p.1 ∧ p.1 ≤ 50 ∧ -50 ≤ p.2 ∧ p.2 ≤ 50
  sd : ∀ i, i < b.length → okSide b i = true
  fk : ∀ N ∈ dirs12, ∃ i, i < b.length ∧ fark b N i = true
theorem base_of {b : List Pt} (h : b ∈ bases) : Base b := by
  have := base_ok h
  unfold okBase at this
  simp only [Bool.and_eq_true, decide_eq_true_eq, List.all_eq_true, List.any_eq_true, List.mem_range] at this
  obtain ⟨⟨⟨⟨h1, h2⟩, h3⟩, h4⟩, h5⟩ := this
  exact ⟨⟨h1, h2⟩, fun p hp => by have := h3 p hp; omega, h4, fun N hN => by obtain ⟨i, q1, q2⟩ := h5 N hN; exact ⟨i, q1, q2⟩⟩

theorem fam_len {l : List Pt} (h : Fam l) : 3 ≤ l.length ∧ l.length ≤ 5 := by
  obtain ⟨b, hb, x, y, _, _, _, _, rfl⟩ := h
  rw [List.length_map]
  exact (base_of hb).len
theorem fam_sp {l : List Pt} (h : Fam l) : ∀ p ∈ l, -5050 ≤ p.1 ∧ p.1 ≤ 5050 ∧ -5050 ≤ p.2 ∧ p.2 ≤ 5050 := by
  obtain ⟨b, hb, x, y, _, _, _, _, rfl⟩ := h
  intro p hp
  obtain ⟨q, hq, rfl⟩ := List.mem_map.1 hp
  have := (base_of hb).sp q hq
  simp only [moved]
  omega
theorem fam_Sp {l : List Pt} (h : Fam l) : ∀ p ∈ l, Sp p := fun p hp => by have := fam_sp h p hp; unfold Sp; omega
theorem fam_dir {l : List Pt} (h : Fam l) {i : Nat} (hi : i < l.length) : dirA l i ∈ dirs12 ∧ most l (dirA l i) = dot (dirA l i) (l.getD i default) := by
  obtain ⟨b, hb, x, y, _, _, _, _, rfl⟩ := h
  rw [List.length_map] at hi
  have hB := base_of hb
  have := hB.sd i hi
  unfold okSide at this
  simp only [Bool.and_eq_true, decide_eq_true_eq] at this
  rw [dirA_map x y hi, most_map x y _ (by have := hB.len; omega), getD_map _ hi, dot_map, this.2]
  exact ⟨this.1.2, rfl⟩
theorem fam_good {l : List Pt} (h : Fam l) : Good l (lsO l) := by
  have hsp := fam_Sp h
  obtain ⟨b, hb, x, y, _, _, _, _, rfl⟩ := h
  have hB := base_of hb
  have hl := hB.len
  refine ⟨by rw [List.length_map]; omega, hsp, fun i hi => ?_, fun i k hi hk h1 h2 => ?_⟩
  · rw [List.length_map] at hi
    have := hB.sd i hi
    unfold okSide at this
    simp only [Bool.and_eq_true, decide_eq_true_eq] at this
    obtain ⟨⟨⟨⟨⟨q1, q2⟩, q3⟩, _⟩, _⟩, _⟩ := this
    rw [nxt_map x y hi, getD_map _ hi, lsO_map x y hi]
    simp only [moved]
    refine ⟨?_, q2, by omega⟩
    rw [← q1]
    grind
  · rw [List.length_map] at hi hk h2
    have := hB.sd i hi
    unfold okSide at this
    simp only [Bool.and_eq_true, decide_eq_true_eq, List.all_eq_true, List.mem_range, Bool.or_eq_true] at this
    obtain ⟨⟨⟨_, q⟩, _⟩, _⟩ := this
    rw [nxt_map x y hi, getD_map _ hi, getD_map _ hk, cross_map]
    rcases q k hk with (q | q) | q
    · exact absurd q h1
    · exact absurd q h2
    · exact q
theorem fam_fark {l : List Pt} (h : Fam l) {N : Dr} (hN : N ∈ dirs12) : ∃ i, i < l.length ∧ fark l N i = true := by
  obtain ⟨b, hb, x, y, _, _, _, _, rfl⟩ := h
  obtain ⟨i, hi, hf⟩ := (base_of hb).fk N hN
  exact ⟨i, by rw [List.length_map]; exact hi, by rw [fark_map x y N hi]; exact hf⟩

/-! ### A point inside is beyond no line -/
theorem qi_eq (n : Int) : qi n = (n : Rat) := by
  unfold qi
  have := Rat.num_divInt_den (n : Rat)
  simpa using this
theorem cmpQ_lt {a b : Rat} : cmpQ a b < 0 ↔ a < b := by
  unfold cmpQ
  split
  · simp_all
  · split <;> simp_all
theorem cmpQ_gt {a b : Rat} : 0 < cmpQ a b ↔ b < a := by
  unfold cmpQ
  split
  · rename_i h
    constructor
    · intro h'; exact absurd h' (by decide)
    · intro h'; exact absurd h (Rat.not_lt.2 (Rat.le_of_lt h'))
  · rename_i h
    split
    · rename_i h2
      subst h2
      simp [Rat.lt_irrefl]
    · rename_i h2
      constructor
      · intro _
        have := Rat.not_lt.1 h
        exact Rat.lt_of_le_of_ne this (Ne.symm h2)
      · intro _; decide
theorem side_false {l : List Pt} {v : Rat × Rat} {i : Nat} : side l v i = false ↔ (((nxt l i).2 - (l.getD i default).2 : Int) : Rat) * (v.1 - ((l.getD i default).1 : Int)) ≤ (((nxt l i).1 - (l.getD i default).1 : Int) : Rat) * (v.2 - ((l.getD i default).2 : Int)) := by
  unfold side
  rw [decide_eq_false_iff_not, cmpQ_lt, Rat.not_lt]
  simp only [qi_eq]
theorem hasQ_iff {l : List Pt} {v : Rat × Rat} : hasQ l v = true ↔ ∀ i, i < l.length → side l v i = false := by
  unfold hasQ
  simp [List.all_eq_true, List.mem_range]
theorem nxt_next {l : List Pt} {i : Nat} : nxt l i = l.getD (if i + 1 < l.length then i + 1 else 0) default := by
  unfold nxt
  split <;> rfl
theorem nxt_mem' {l : List Pt} {i : Nat} (h : i < l.length) : nxt l i ∈ l := by
  rw [nxt_next]
  refine getD_mem ?_
  split <;> omega
theorem dotQ_eq (d : Dr) (v : Rat × Rat) : dotQ d v = (d.1 : Rat) * v.1 + (d.2.1 : Rat) * v.2 := by
  unfold dotQ
  rw [qi_eq, qi_eq]
theorem has_dot {l : List Pt} {v : Rat × Rat} (hl : Fam l) (h : hasQ l v = true) {N : Dr} (hN : N ∈ dirs12) : dotQ N v ≤ (most l N : Int) := by
  obtain ⟨i, hi, hf⟩ := fam_fark hl hN
  rw [hasQ_iff] at h
  have hj : (if i + 1 < l.length then i + 1 else 0) < l.length := by split <;> omega
  have s1 := side_false.1 (h i hi)
  have s2 := side_false.1 (h _ hj)
  rw [← nxt_next] at s2
  have hm := dot_le_most (nxt_mem' hi) N
  unfold fark at hf
  simp only [Bool.and_eq_true, decide_eq_true_eq] at hf
  obtain ⟨⟨f1, f2⟩, f3⟩ := hf
  generalize nxt l (if i + 1 < l.length then i + 1 else 0) = q at *
  generalize nxt l i = p at *
  generalize l.getD i default = o at *
  have hm' : ((dot N p : Int) : Rat) ≤ (most l N : Int) := Rat.intCast_le_intCast.2 hm
  refine Rat.le_trans ?_ hm'
  rw [dotQ_eq]
  unfold dot
  obtain ⟨v1, v2⟩ := v
  obtain ⟨p1, p2⟩ := p
  obtain ⟨q1, q2⟩ := q
  obtain ⟨o1, o2⟩ := o
  obtain ⟨n1, n2, n3⟩ := N
  simp only at *
  have g1 : (0 : Rat) < (((p2 - o2) * -(q1 - p1) - -(p1 - o1) * (q2 - p2) : Int) : Rat) := Rat.intCast_lt_intCast.2 f1
  have g2 : (0 : Rat) ≤ ((n1 * -(q1 - p1) - n2 * (q2 - p2) : Int) : Rat) := Rat.intCast_le_intCast.2 f2
  have g3 : (0 : Rat) ≤ (((p2 - o2) * n2 - -(p1 - o1) * n1 : Int) : Rat) := Rat.intCast_le_intCast.2 f3
  simp only [Rat.intCast_sub, Rat.intCast_mul, Rat.intCast_neg, Rat.intCast_add] at *
  generalize (p1 : Rat) = P1 at *
  generalize (p2 : Rat) = P2 at *
  generalize (q1 : Rat) = Q1 at *
  generalize (q2 : Rat) = Q2 at *
  generalize (o1 : Rat) = O1 at *
  generalize (o2 : Rat) = O2 at *
  generalize (n1 : Rat) = N1 at *
  generalize (n2 : Rat) = N2 at *
  have t1 : (P2 - O2) * (v1 - P1) - (P1 - O1) * (v2 - P2) ≤ 0 := by grind
  have t2 : (Q2 - P2) * (v1 - P1) - (Q1 - P1) * (v2 - P2) ≤ 0 := by grind
  have m1 := Rat.mul_nonneg g2 (show 0 ≤ -((P2 - O2) * (v1 - P1) - (P1 - O1) * (v2 - P2)) by grind)
  have m2 := Rat.mul_nonneg g3 (show 0 ≤ -((Q2 - P2) * (v1 - P1) - (Q1 - P1) * (v2 - P2)) by grind)
  have e : ((P2 - O2) * -(Q1 - P1) - -(P1 - O1) * (Q2 - P2)) * (N1 * v1 + N2 * v2 - (N1 * P1 + N2 * P2)) ≤ 0 := by grind
  apply Rat.not_lt.1
  intro hc
  have := Rat.mul_pos g1 (show 0 < N1 * v1 + N2 * v2 - (N1 * P1 + N2 * P2) by grind)
  exact absurd this (Rat.not_lt.2 e)
end Go.Proofs.Gh.Tryz
end
section
set_option linter.unusedVariables false
set_option linter.unusedSimpArgs false
namespace Go.Proofs.Gh.Tryz
open Go Go.Proofs Go.Proofs.Gh
/-! ### The edges of a pair -/
def atE (a b : List Pt) (d : Dr) : Int := most a d + most b (turn d)
def mkE (a b : List Pt) (d : Dr) : Ed := (d, atE a b d)
def addE (a b : List Pt) (out : List Ed) (d : Dr) : List Ed := if (out.any fun e => decide (e.1 = d)) = true then out else out ++ [mkE a b d]
def dirsOf (l : List Pt) : List Dr := (List.range l.length).map (dirA l)
def dirsAB (a b : List Pt) : List Dr := dirsOf a ++ (dirsOf b).map turn
def sidesL (a b : List Pt) : List Ed := (dirsAB a b).foldl (addE a b) []
def addD (out : List Dr) (d : Dr) : List Dr := if (out.any fun e => decide (e = d)) = true then out else out ++ [d]
def dedup (l : List Dr) : List Dr := l.foldl addD []

theorem addE_map (a b : List Pt) (out : List Dr) (d : Dr) : addE a b (out.map (mkE a b)) d = (addD out d).map (mkE a b) := by
  unfold addE addD
  have e : ((out.map (mkE a b)).any fun e => decide (e.1 = d)) = out.any fun e => decide (e = d) := by
    rw [List.any_map]
    rfl
  rw [e]
  split
  · rfl
  · rw [List.map_append]
    rfl
theorem foldl_addE (a b : List Pt) : ∀ (ds out : List Dr), ds.foldl (addE a b) (out.map (mkE a b)) = (ds.foldl addD out).map (mkE a b)
  | [], out => rfl
  | d :: ds, out => by
    simp only [List.foldl_cons]
    rw [addE_map, foldl_addE a b ds]
theorem sidesL_eq (a b : List Pt) : sidesL a b = (dedup (dirsAB a b)).map (mkE a b) := foldl_addE a b (dirsAB a b) []
theorem mem_addD {out : List Dr} {d e : Dr} : e ∈ addD out d ↔ e ∈ out ∨ e = d := by
  unfold addD
  split
  · rename_i h
    simp only [List.any_eq_true, decide_eq_true_eq] at h
    obtain ⟨x, hx, rfl⟩ := h
    constructor
    · exact .inl
    · rintro (h | rfl)
      · exact h
      · exact hx
  · simp
theorem mem_foldl_addD : ∀ {ds out : List Dr} {e : Dr}, e ∈ ds.foldl addD out ↔ e ∈ out ∨ e ∈ ds
  | [], out, e => by simp
  | d :: ds, out, e => by
    rw [List.foldl_cons, mem_foldl_addD, mem_addD, List.mem_cons, or_assoc]
theorem mem_dedup {ds : List Dr} {e : Dr} : e ∈ dedup ds ↔ e ∈ ds := by
  unfold dedup
  rw [mem_foldl_addD]
  simp
theorem mem_sidesL {a b : List Pt} {e : Ed} : e ∈ sidesL a b ↔ e.1 ∈ dirsAB a b ∧ e.2 = atE a b e.1 := by
  rw [sidesL_eq, List.mem_map]
  constructor
  · rintro ⟨d, hd, rfl⟩
    exact ⟨mem_dedup.1 hd, rfl⟩
  · rintro ⟨h1, h2⟩
    exact ⟨e.1, mem_dedup.2 h1, by unfold mkE; rw [← h2]⟩
theorem dirsOf_map (x y : Int) (l : List Pt) : dirsOf (l.map (moved x y)) = dirsOf l := by
  unfold dirsOf
  rw [List.length_map]
  refine List.map_congr_left fun i hi => ?_
  exact dirA_map x y (List.mem_range.1 hi)
theorem atE_map {a b : List Pt} (x y u v : Int) (ha : 0 < a.length) (hb : 0 < b.length) (d : Dr) : atE (a.map (moved x y)) (b.map (moved u v)) d = atE a b d + (d.1 * (x - u) + d.2.1 * (y - v)) := by
  unfold atE
  rw [most_map x y d ha, most_map u v _ hb]
  simp only [turn]
  grind
theorem sidesL_map {a b : List Pt} (x y u v : Int) (ha : 0 < a.length) (hb : 0 < b.length) : sidesL (a.map (moved x y)) (b.map (moved u v)) = (sidesL a b).map fun e => (e.1, e.2 + (e.1.1 * (x - u) + e.1.2.1 * (y - v))) := by
  rw [sidesL_eq, sidesL_eq, dirsAB, dirsOf_map, dirsOf_map, ← dirsAB, List.map_map]
  refine List.map_congr_left fun d _ => ?_
  simp only [Function.comp, mkE]
  rw [atE_map x y u v ha hb]

def dirLists : List (List Dr) := [dirsOf (shapeK 0 1 1), dirsOf (shapeK 3 1 1), dirsOf (shapeK 4 1 1), dirsOf (shapeK 5 1 1), dirsOf (shapeK 6 1 1)]
theorem dirs_bases : (bases.all fun b => decide (dirsOf b ∈ dirLists)) = true := by decide +kernel
theorem dirs_pairs : (dirLists.all fun p => dirLists.all fun q => decide (3 ≤ (dedup (p ++ q.map turn)).length) && decide ((dedup (p ++ q.map turn)).length ≤ 10) && decide ((dedup (p ++ q.map turn)).length = (dedup (q ++ p.map turn)).length)) = true := by decide +kernel
theorem fam_dirs {l : List Pt} (h : Fam l) : dirsOf l ∈ dirLists := by
  obtain ⟨b, hb, x, y, _, _, _, _, rfl⟩ := h
  rw [dirsOf_map]
  exact of_decide_eq_true (List.all_eq_true.1 dirs_bases b hb)
theorem sides_len {a b : List Pt} (ha : Fam a) (hb : Fam b) : 3 ≤ (sidesL a b).length ∧ (sidesL a b).length ≤ 10 ∧ (sidesL a b).length = (sidesL b a).length := by
  have := List.all_eq_true.1 (List.all_eq_true.1 dirs_pairs _ (fam_dirs ha)) _ (fam_dirs hb)
  simp only [Bool.and_eq_true, decide_eq_true_eq] at this
  rw [sidesL_eq, sidesL_eq, List.length_map, List.length_map]
  exact ⟨this.1.1, this.1.2, this.2⟩
theorem dirsAB_mem {a b : List Pt} (ha : Fam a) (hb : Fam b) {d : Dr} (h : d ∈ dirsAB a b) : d ∈ dirs12 := by
  unfold dirsAB dirsOf at h
  rw [List.mem_append, List.mem_map, List.mem_map] at h
  rcases h with ⟨i, hi, rfl⟩ | ⟨e, he, rfl⟩
  · exact (fam_dir ha (List.mem_range.1 hi)).1
  · obtain ⟨i, hi, rfl⟩ := List.mem_map.1 he
    exact turn_mem (fam_dir hb (List.mem_range.1 hi)).1
theorem side_dir {a b : List Pt} (ha : Fam a) (hb : Fam b) {e : Ed} (h : e ∈ sidesL a b) : e.1 ∈ dirs12 := dirsAB_mem ha hb (mem_sidesL.1 h).1
theorem sides_turned {a b : List Pt} {e : Ed} (h : e ∈ sidesL a b) : (turn e.1, e.2) ∈ sidesL b a := by
  obtain ⟨h1, h2⟩ := mem_sidesL.1 h
  rw [mem_sidesL]
  refine ⟨?_, by simp only [h2, atE, turn_turn]; omega⟩
  unfold dirsAB at h1 ⊢
  rw [List.mem_append] at h1 ⊢
  rcases h1 with h1 | h1
  · exact .inr (List.mem_map.2 ⟨_, h1, rfl⟩)
  · obtain ⟨d, hd, he⟩ := List.mem_map.1 h1
    refine .inl ?_
    rw [← he, turn_turn]
    exact hd
theorem most_bd {l : List Pt} (h : Fam l) {d : Dr} (hd : d ∈ dirs12) : -50500 ≤ most l d ∧ most l d ≤ 50500 := by
  have hlen := fam_len h
  have hmem : ∀ i, i ≤ l.length → maxTo l d i ∈ l := by
    intro i
    induction i with
    | zero => intro _; exact getD_mem (by omega)
    | succ i ih =>
      intro hi
      unfold maxTo
      split
      · exact getD_mem (by omega)
      · exact ih (by omega)
  have hp := fam_sp h _ (hmem l.length (Nat.le_refl _))
  have hs := dir_small hd
  unfold most dot
  generalize maxTo l d l.length = p at *
  have k1 : -25250 ≤ d.1 * p.1 ∧ d.1 * p.1 ≤ 25250 := by
    have : d.1 = -5 ∨ d.1 = -4 ∨ d.1 = -3 ∨ d.1 = -2 ∨ d.1 = -1 ∨ d.1 = 0 ∨ d.1 = 1 ∨ d.1 = 2 ∨ d.1 = 3 ∨ d.1 = 4 ∨ d.1 = 5 := by omega
    rcases this with h | h | h | h | h | h | h | h | h | h | h <;> rw [h] <;> omega
  have k2 : -25250 ≤ d.2.1 * p.2 ∧ d.2.1 * p.2 ≤ 25250 := by
    have : d.2.1 = -5 ∨ d.2.1 = -4 ∨ d.2.1 = -3 ∨ d.2.1 = -2 ∨ d.2.1 = -1 ∨ d.2.1 = 0 ∨ d.2.1 = 1 ∨ d.2.1 = 2 ∨ d.2.1 = 3 ∨ d.2.1 = 4 ∨ d.2.1 = 5 := by omega
    rcases this with h | h | h | h | h | h | h | h | h | h | h <;> rw [h] <;> omega
  omega
end Go.Proofs.Gh.Tryz
end
section
set_option linter.unusedVariables false
set_option linter.unusedSimpArgs false
namespace Go.Proofs.Gh.Tryz
open Go Go.Proofs Go.Proofs.Gh
/-! ### The sum of a pair -/
def far (p q : Pt) : Int := (p.1 - q.1) * (p.1 - q.1) + (p.2 - q.2) * (p.2 - q.2)
def diffs (a b : List Pt) : List Pt := a.flatMap fun p => b.map fun q => (p.1 - q.1, p.2 - q.2)
def lower (p q : Pt) : Bool := decide (p.2 < q.2) || (decide (p.2 = q.2) && decide (p.1 < q.1))
def minTo (l : List Pt) : Nat → Pt
  | 0 => l.getD 0 default
  | i + 1 => if lower (l.getD i default) (minTo l i) = true then l.getD i default else minTo l i
def better (last best p : Pt) : Bool := decide (best = last) || (decide (cross last best p < 0) || (decide (cross last best p = 0) && decide (far last best < far last p)))
def bestTo (l : List Pt) (last : Pt) : Nat → Pt
  | 0 => last
  | i + 1 => if better last (bestTo l last i) (l.getD i default) = true then l.getD i default else bestTo l last i
def wrapF (all : List Pt) (first : Pt) : Nat → List Pt → Option (List Pt)
  | 0, _ => none
  | f + 1, out =>
    let b := bestTo all (out.getD (out.length - 1) default) all.length
    if b = first then some out else wrapF all first f (out ++ [b])
def sumOf (all : List Pt) : List Pt := (wrapF all (minTo all all.length) 12 [minTo all all.length]).getD []
def sumL (a b : List Pt) : List Pt := sumOf (diffs a b)

theorem far_map (x y : Int) (p q : Pt) : far (moved x y p) (moved x y q) = far p q := by
  simp only [far, moved]
  grind
theorem lower_map (x y : Int) (p q : Pt) : lower (moved x y p) (moved x y q) = lower p q := by
  unfold lower
  have e1 : ((moved x y p).2 < (moved x y q).2) ↔ p.2 < q.2 := by simp only [moved]; omega
  have e2 : ((moved x y p).2 = (moved x y q).2) ↔ p.2 = q.2 := by simp only [moved]; omega
  have e3 : ((moved x y p).1 < (moved x y q).1) ↔ p.1 < q.1 := by simp only [moved]; omega
  simp only [e1, e2, e3]
theorem moved_inj {x y : Int} {p q : Pt} : moved x y p = moved x y q ↔ p = q := by
  obtain ⟨p1, p2⟩ := p
  obtain ⟨q1, q2⟩ := q
  simp only [moved, Prod.mk.injEq]
  omega
theorem better_map (x y : Int) (a b c : Pt) : better (moved x y a) (moved x y b) (moved x y c) = better a b c := by
  unfold better
  simp only [cross_map, far_map, moved_inj]
theorem minTo_map (x y : Int) {l : List Pt} (h : 0 < l.length) : ∀ {i : Nat}, i ≤ l.length → minTo (l.map (moved x y)) i = moved x y (minTo l i)
  | 0, _ => getD_map _ h
  | i + 1, hi => by
    unfold minTo
    rw [minTo_map x y h (by omega), getD_map _ (show i < l.length by omega), lower_map]
    split <;> rfl
theorem bestTo_map (x y : Int) (last : Pt) {l : List Pt} : ∀ {i : Nat}, i ≤ l.length → bestTo (l.map (moved x y)) (moved x y last) i = moved x y (bestTo l last i)
  | 0, _ => rfl
  | i + 1, hi => by
    unfold bestTo
    rw [bestTo_map x y last (by omega), getD_map _ (show i < l.length by omega), better_map]
    split <;> rfl
theorem wrapF_map (x y : Int) {l : List Pt} (first : Pt) : ∀ (f : Nat) {out : List Pt}, 0 < out.length → wrapF (l.map (moved x y)) (moved x y first) f (out.map (moved x y)) = (wrapF l first f out).map (List.map (moved x y))
  | 0, out, _ => rfl
  | f + 1, out, h => by
    unfold wrapF
    simp only [List.length_map]
    rw [getD_map _ (show out.length - 1 < out.length by omega), bestTo_map x y _ (Nat.le_refl _)]
    simp only [moved_inj]
    split
    · rfl
    · rw [← wrapF_map x y first f (by simp)]
      simp
theorem sumOf_map (x y : Int) {l : List Pt} (h : 0 < l.length) : sumOf (l.map (moved x y)) = (sumOf l).map (moved x y) := by
  unfold sumOf
  rw [List.length_map, minTo_map x y h (Nat.le_refl _)]
  have := wrapF_map x y (l := l) (minTo l l.length) 12 (out := [minTo l l.length]) (by simp)
  simp only [List.map_cons, List.map_nil] at this
  rw [this]
  cases wrapF l (minTo l l.length) 12 [minTo l l.length] <;> rfl
theorem diffs_map (x y u v : Int) (a b : List Pt) : diffs (a.map (moved x y)) (b.map (moved u v)) = (diffs a b).map (moved (x - u) (y - v)) := by
  unfold diffs
  rw [List.flatMap_map, List.map_flatMap]
  congr 1
  funext p
  rw [List.map_map, List.map_map]
  congr 1
  funext q
  simp only [Function.comp, moved, Prod.mk.injEq]
  omega
theorem diffs_len (a b : List Pt) : (diffs a b).length = a.length * b.length := by
  unfold diffs
  induction a with
  | nil => simp
  | cons p a ih =>
    rw [List.flatMap_cons, List.length_append, ih, List.length_map, List.length_cons, Nat.add_mul]
    omega
theorem sumL_map (x y u v : Int) {a b : List Pt} (ha : 0 < a.length) (hb : 0 < b.length) : sumL (a.map (moved x y)) (b.map (moved u v)) = (sumL a b).map (moved (x - u) (y - v)) := by
  unfold sumL
  rw [diffs_map, sumOf_map]
  rw [diffs_len]
  exact Nat.mul_pos ha hb

theorem wrapF_mem {l : List Pt} {first : Pt} (h : ∀ p, p ∈ l → True) : ∀ (f : Nat) {out s : List Pt}, 0 < out.length → (∀ p ∈ out, p ∈ l) → wrapF l first f out = some s → out.length ≤ s.length ∧ s.length ≤ out.length + f ∧ ∀ p ∈ s, p ∈ l
  | 0, out, s, _, _, hs => by cases hs
  | f + 1, out, s, h0, ho, hs => by
    unfold wrapF at hs
    simp only at hs
    split at hs
    · injection hs with hs
      subst hs
      exact ⟨Nat.le_refl _, by omega, ho⟩
    · have hb : ∀ i, i ≤ l.length → bestTo l (out.getD (out.length - 1) default) i ∈ l := by
        intro i
        induction i with
        | zero => intro _; exact ho _ (getD_mem (by omega))
        | succ i ih =>
          intro hi
          unfold bestTo
          split
          · exact getD_mem (by omega)
          · exact ih (by omega)
      have := wrapF_mem h f (by simp) (fun p hp => by
        rcases List.mem_append.1 hp with hp | hp
        · exact ho p hp
        · rw [List.mem_singleton] at hp
          subst hp
          exact hb _ (Nat.le_refl _)) hs
      rw [List.length_append, List.length_singleton] at this
      exact ⟨by omega, by omega, this.2.2⟩
theorem minTo_mem {l : List Pt} (h : 0 < l.length) : ∀ {i : Nat}, i ≤ l.length → minTo l i ∈ l
  | 0, _ => getD_mem h
  | i + 1, hi => by
    unfold minTo
    split
    · exact getD_mem (by omega)
    · exact minTo_mem h (by omega)

/-! ### The same over natural numbers, row by row -/
abbrev NP := Nat × Nat
def emb (p : NP) : Pt := ((p.1 : Int), (p.2 : Int))
def eqN (p q : NP) : Bool := Nat.beq p.1 q.1 && Nat.beq p.2 q.2
def betterN (a b c : NP) : Bool :=
  bif eqN b a then true else
  bif Nat.blt (b.1 * c.2 + b.2 * a.1 + a.2 * c.1) (b.2 * c.1 + b.1 * a.2 + a.1 * c.2) then true else
  bif Nat.beq (b.1 * c.2 + b.2 * a.1 + a.2 * c.1) (b.2 * c.1 + b.1 * a.2 + a.1 * c.2) then Nat.blt (b.1 * b.1 + b.2 * b.2 + 2 * (a.1 * c.1 + a.2 * c.2)) (c.1 * c.1 + c.2 * c.2 + 2 * (a.1 * b.1 + a.2 * b.2)) else false
def bestN (last : NP) : NP → List NP → NP
  | best, [] => best
  | best, p :: r => bestN last (bif betterN last best p then p else best) r
def lowN : NP → List NP → NP
  | m, [] => m
  | m, p :: r => lowN (bif Nat.blt p.2 m.2 then p else bif Nat.beq p.2 m.2 then (bif Nat.blt p.1 m.1 then p else m) else m) r
def wrapN (all : List NP) (first : NP) : Nat → NP → List NP → Option (List NP)
  | 0, _, _ => none
  | f + 1, last, acc => let b := bestN last last all; bif eqN b first then some (last :: acc).reverse else wrapN all first f b (last :: acc)

theorem eqN_iff {p q : NP} : eqN p q = decide (emb p = emb q) := by
  obtain ⟨p1, p2⟩ := p
  obtain ⟨q1, q2⟩ := q
  unfold eqN emb
  rw [Bool.eq_iff_iff]
  simp only [Bool.and_eq_true, Nat.beq_eq, decide_eq_true_eq, Prod.mk.injEq]
  omega
theorem betterN_eq (a b c : NP) : betterN a b c = better (emb a) (emb b) (emb c) := by
  unfold betterN better
  rw [eqN_iff]
  obtain ⟨a1, a2⟩ := a
  obtain ⟨b1, b2⟩ := b
  obtain ⟨c1, c2⟩ := c
  have e1 : Nat.blt (b1 * c2 + b2 * a1 + a2 * c1) (b2 * c1 + b1 * a2 + a1 * c2) = decide (cross (emb (a1, a2)) (emb (b1, b2)) (emb (c1, c2)) < 0) := by
    rw [Bool.eq_iff_iff, Nat.blt_eq, decide_eq_true_eq, ← Int.ofNat_lt]
    simp only [cross, emb, Int.natCast_add, Int.natCast_mul]
    constructor <;> intro h <;> grind
  have e2 : Nat.beq (b1 * c2 + b2 * a1 + a2 * c1) (b2 * c1 + b1 * a2 + a1 * c2) = decide (cross (emb (a1, a2)) (emb (b1, b2)) (emb (c1, c2)) = 0) := by
    rw [Bool.eq_iff_iff, Nat.beq_eq, decide_eq_true_eq, ← Int.ofNat_inj]
    simp only [cross, emb, Int.natCast_add, Int.natCast_mul]
    constructor <;> intro h <;> grind
  have e3 : Nat.blt (b1 * b1 + b2 * b2 + 2 * (a1 * c1 + a2 * c2)) (c1 * c1 + c2 * c2 + 2 * (a1 * b1 + a2 * b2)) = decide (far (emb (a1, a2)) (emb (b1, b2)) < far (emb (a1, a2)) (emb (c1, c2))) := by
    rw [Bool.eq_iff_iff, Nat.blt_eq, decide_eq_true_eq, ← Int.ofNat_lt]
    simp only [far, emb, Int.natCast_add, Int.natCast_mul]
    constructor <;> intro h <;> grind
  simp only
  rw [e1, e2, e3]
  cases decide (emb (b1, b2) = emb (a1, a2)) <;> cases decide (cross (emb (a1, a2)) (emb (b1, b2)) (emb (c1, c2)) < 0) <;> cases decide (cross (emb (a1, a2)) (emb (b1, b2)) (emb (c1, c2)) = 0) <;> rfl
theorem getD_drop {α : Type} [Inhabited α] {l r : List α} {p : α} {i : Nat} (h : l.drop i = p :: r) : i < l.length ∧ l.getD i default = p ∧ l.drop (i + 1) = r := by
  have hlt : i < l.length := by
    rcases Nat.lt_or_ge i l.length with h' | h'
    · exact h'
    · rw [List.drop_of_length_le h'] at h; cases h
  have := List.drop_eq_getElem_cons hlt
  rw [this] at h
  injection h with h1 h2
  exact ⟨hlt, by rw [List.getD_eq_getElem?_getD, List.getElem?_eq_getElem hlt]; exact h1, h2⟩
theorem drop_nil_len {α : Type} {l : List α} {i : Nat} (h : l.drop i = []) (hi : i ≤ l.length) : i = l.length := by
  rcases Nat.lt_or_ge i l.length with h' | h'
  · rw [List.drop_eq_getElem_cons h'] at h; cases h
  · omega
theorem bestN_eq (last : NP) (all : List NP) : ∀ (r : List NP) (i : Nat) (best : NP), i ≤ all.length → all.drop i = r → bestTo (all.map emb) (emb last) i = emb best → bestTo (all.map emb) (emb last) (all.map emb).length = emb (bestN last best r)
  | [], i, best, hi, hr, hb => by
    have := drop_nil_len hr hi
    rw [List.length_map, ← this]
    exact hb
  | p :: r, i, best, hi, hr, hb => by
    obtain ⟨h1, h2, h3⟩ := getD_drop hr
    refine bestN_eq last all r (i + 1) _ h1 h3 ?_
    unfold bestTo
    rw [hb, getD_map emb h1, h2, ← betterN_eq]
    cases betterN last best p <;> rfl
theorem lowN_eq (all : List NP) : ∀ (r : List NP) (i : Nat) (m : NP), i ≤ all.length → all.drop i = r → minTo (all.map emb) i = emb m → minTo (all.map emb) (all.map emb).length = emb (lowN m r)
  | [], i, m, hi, hr, hb => by
    have := drop_nil_len hr hi
    rw [List.length_map, ← this]
    exact hb
  | p :: r, i, m, hi, hr, hb => by
    obtain ⟨h1, h2, h3⟩ := getD_drop hr
    refine lowN_eq all r (i + 1) _ h1 h3 ?_
    unfold minTo
    rw [hb, getD_map emb h1, h2]
    obtain ⟨p1, p2⟩ := p
    obtain ⟨m1, m2⟩ := m
    have e1 : Nat.blt p2 m2 = decide ((emb (p1, p2)).2 < (emb (m1, m2)).2) := by
      rw [Bool.eq_iff_iff, Nat.blt_eq, decide_eq_true_eq]; simp only [emb]; omega
    have e2 : Nat.beq p2 m2 = decide ((emb (p1, p2)).2 = (emb (m1, m2)).2) := by
      rw [Bool.eq_iff_iff, Nat.beq_eq, decide_eq_true_eq]; simp only [emb]; omega
    have e3 : Nat.blt p1 m1 = decide ((emb (p1, p2)).1 < (emb (m1, m2)).1) := by
      rw [Bool.eq_iff_iff, Nat.blt_eq, decide_eq_true_eq]; simp only [emb]; omega
    unfold lower
    simp only
    rw [e1, e2, e3]
    cases decide ((emb (p1, p2)).2 < (emb (m1, m2)).2) <;> cases decide ((emb (p1, p2)).2 = (emb (m1, m2)).2) <;> cases decide ((emb (p1, p2)).1 < (emb (m1, m2)).1) <;> rfl
theorem wrapN_eq (all : List NP) (first : NP) : ∀ (f : Nat) (last : NP) (acc : List NP), wrapF (all.map emb) (emb first) f ((last :: acc).reverse.map emb) = (wrapN all first f last acc).map (List.map emb)
  | 0, last, acc => rfl
  | f + 1, last, acc => by
    unfold wrapF wrapN
    have hl : (((last :: acc).reverse.map emb).getD (((last :: acc).reverse.map emb).length - 1) default) = emb last := by
      rw [List.length_map, getD_map emb (by simp)]
      congr 1
      simp [List.getD_eq_getElem?_getD]
    simp only [hl]
    rw [bestN_eq last all all 0 last (Nat.zero_le _) rfl rfl, eqN_iff]
    by_cases h : emb (bestN last last all) = emb first
    · rw [if_pos h, decide_eq_true h]
      rfl
    · rw [if_neg h, decide_eq_false h]
      simp only [cond_false]
      rw [← wrapN_eq all first f]
      simp
def sumN (all : List NP) : Option (List NP) := match all with
  | [] => none
  | p :: r => let m := lowN p r; wrapN all m 12 m []
theorem sumN_eq {all s : List NP} (h : sumN all = some s) : wrapF (all.map emb) (minTo (all.map emb) (all.map emb).length) 12 [minTo (all.map emb) (all.map emb).length] = some (s.map emb) := by
  cases all with
  | nil => cases h
  | cons p r =>
    unfold sumN at h
    simp only at h
    have hm : minTo ((p :: r).map emb) ((p :: r).map emb).length = emb (lowN p r) := by
      refine lowN_eq (p :: r) r 1 p (by simp) rfl ?_
      unfold minTo minTo
      have : lower (((p :: r).map emb).getD 0 default) (((p :: r).map emb).getD 0 default) = false := by
        unfold lower
        simp
      rw [this]
      rfl
    rw [hm]
    have := wrapN_eq (p :: r) (lowN p r) 12 (lowN p r) []
    rw [h] at this
    exact this

/-- A corner, moved to where its coordinates are natural numbers. -/
def natP (p : Pt) : NP := ((p.1 + 50).toNat, (p.2 + 50).toNat)
def diffsN (a b : List NP) : List NP := a.flatMap fun p => b.map fun q => (p.1 + 100 - q.1, p.2 + 100 - q.2)
def Mid (p : Pt) : Prop := -50 ≤ p.1 ∧ p.1 ≤ 50 ∧ -50 ≤ p.2 ∧ p.2 ≤ 50
theorem flatMap_congr' {α β : Type} {l : List α} {f g : α → List β} (h : ∀ x ∈ l, f x = g x) : l.flatMap f = l.flatMap g := by
  rw [List.flatMap_def, List.flatMap_def, List.map_congr_left h]
theorem diffsN_eq {a b : List Pt} (ha : ∀ p ∈ a, Mid p) (hb : ∀ p ∈ b, Mid p) : (diffsN (a.map natP) (b.map natP)).map emb = (diffs a b).map (moved 100 100) := by
  unfold diffsN diffs
  rw [List.map_flatMap, List.map_flatMap, List.flatMap_map]
  refine flatMap_congr' fun p hp => ?_
  rw [List.map_map, List.map_map, List.map_map]
  refine List.map_congr_left fun q hq => ?_
  have h1 := ha p hp
  have h2 := hb q hq
  unfold Mid at h1 h2
  simp only [Function.comp, emb, natP, moved, Prod.mk.injEq]
  omega

/-- Side from p to q lies on the line of the edge e. -/
def fit2 (p q : Pt) (e : Ed) : Bool :=
  let c := (q.2 - p.2) * e.1.1 - (q.1 - p.1) * e.1.2.1
  decide (0 < c) && decide ((e.1.1 * e.1.1 + e.1.2.1 * e.1.2.1) * (q.2 - p.2) = c * e.1.1) && decide ((e.1.1 * e.1.1 + e.1.2.1 * e.1.2.1) * -(q.1 - p.1) = c * e.1.2.1) && decide (dot e.1 p = e.2)
def backP (p : NP) : Pt := ((p.1 : Int) - 100, (p.2 : Int) - 100)
def okPair (a b : List Pt) : Bool :=
  match sumN (diffsN (a.map natP) (b.map natP)) with
  | none => false
  | some sn =>
    let s := sn.map backP
    let es := sidesL a b
    Nat.ble 3 s.length &&
      ((List.range s.length).all fun j => es.any (fit2 (s.getD j default) (nxt s j))) && (es.all fun e => (List.range s.length).any fun j => fit2 (s.getD j default) (nxt s j) e)
end Go.Proofs.Gh.Tryz
end
