/-
  Digits to the base 10^9: plain laws, no program in sight.
  Contracts of the small functions on whole numbers.
  Contracts: digits of integers.
  Contracts: adding and subtracting digits.
  Contracts: integers: adding, signs, comparing.
  Contracts: integers: multiplying.
  Contracts: dividing numbers of at most two digits.
  Contracts: Div, Small.
  Contracts: Small, Root.
  Contracts: Root.
-/
import Derived.Test.YtabhcfenjelkcaaGreatGhC
import Derived.Test.YtabhcfenjelkcaaGreatGhD
import Derived.Test.YtabhcfenjelkcaaGreatTy
section
set_option linter.unusedVariables false
set_option linter.unusedSimpArgs false
namespace Go.Proofs.Gh

def dval : List Int → Int
  | [] => 0
  | d :: l => d + 1000000000 * dval l
def Dig (l : List Int) : Prop := ∀ d ∈ l, 0 ≤ d ∧ d < 1000000000
theorem Dig.nil : Dig [] := fun d h => by cases h
theorem Dig.cons {d : Int} {l : List Int} (h : 0 ≤ d) (h' : d < 1000000000) (hl : Dig l) : Dig (d :: l) := by
  intro e he
  rcases List.mem_cons.1 he with rfl | he
  · exact ⟨h, h'⟩
  · exact hl e he
theorem Dig.tail {d : Int} {l : List Int} (h : Dig (d :: l)) : Dig l := fun e he => h e (List.mem_cons_of_mem _ he)
theorem Dig.head {d : Int} {l : List Int} (h : Dig (d :: l)) : 0 ≤ d ∧ d < 1000000000 := h d (List.mem_cons_self ..)
theorem Dig.get {l : List Int} (h : Dig l) (i : Nat) : 0 ≤ l.getD i 0 ∧ l.getD i 0 < 1000000000 := by
  rw [List.getD_eq_getElem?_getD]
  cases hi : l[i]? with
  | none => simp
  | some d => exact h d (List.mem_of_getElem? hi)
theorem Dig.drop {l : List Int} (h : Dig l) (i : Nat) : Dig (l.drop i) := fun d hd => h d (List.mem_of_mem_drop hd)
theorem Dig.take {l : List Int} (h : Dig l) (i : Nat) : Dig (l.take i) := fun d hd => h d (List.mem_of_mem_take hd)
theorem Dig.append {l m : List Int} (h : Dig l) (h' : Dig m) : Dig (l ++ m) := fun d hd => by
  rcases List.mem_append.1 hd with hd | hd
  · exact h d hd
  · exact h' d hd
theorem dval_nonneg : ∀ {l : List Int}, Dig l → 0 ≤ dval l
  | [], _ => by simp [dval]
  | d :: l, h => by
    have := dval_nonneg h.tail
    have := h.head
    simp only [dval]
    omega

def digs (n : Nat) : List Int := if h : n = 0 then [] else ((n % 1000000000 : Nat) : Int) :: digs (n / 1000000000)
termination_by n
decreasing_by omega
theorem digs_zero : digs 0 = [] := by rw [digs]; simp
theorem digs_pos {n : Nat} (h : n ≠ 0) : digs n = ((n % 1000000000 : Nat) : Int) :: digs (n / 1000000000) := by
  conv => lhs; rw [digs]
  simp [h]
theorem digs_dig (n : Nat) : Dig (digs n) := by
  induction n using Nat.strongRecOn with
  | ind n ih =>
    by_cases h : n = 0
    · subst h; rw [digs_zero]; exact .nil
    · rw [digs_pos h]
      exact .cons (by omega) (by omega) (ih _ (by omega))
theorem dval_digs (n : Nat) : dval (digs n) = n := by
  induction n using Nat.strongRecOn with
  | ind n ih =>
    by_cases h : n = 0
    · subst h; rw [digs_zero]; rfl
    · rw [digs_pos h, dval, ih _ (by omega)]
      omega
theorem digs_nil {n : Nat} : digs n = [] ↔ n = 0 := by
  constructor
  · intro h
    have := dval_digs n
    rw [h] at this
    simp [dval] at this
    omega
  · rintro rfl; exact digs_zero
theorem digs_len_zero {n : Nat} : (digs n).length = 0 ↔ n = 0 := by rw [List.length_eq_zero_iff, digs_nil]
theorem digs_small {n : Nat} (h : 0 < n) (h' : n < 1000000000) : digs n = [(n : Int)] := by
  rw [digs_pos (by omega), Nat.mod_eq_of_lt h', Nat.div_eq_of_lt h', digs_zero]
theorem digs_len_mono : ∀ {a b : Nat}, a ≤ b → (digs a).length ≤ (digs b).length := by
  intro a
  induction a using Nat.strongRecOn with
  | ind a ih =>
    intro b hab
    by_cases h : a = 0
    · subst h; rw [digs_zero]; simp
    · rw [digs_pos h, digs_pos (show b ≠ 0 by omega)]
      have := ih (a / 1000000000) (by omega) (Nat.div_le_div_right (c := 1000000000) hab)
      simp only [List.length_cons]
      omega
theorem digs_lt_of_len {a b : Nat} (h : (digs a).length < (digs b).length) : a < b := by
  apply Nat.lt_of_not_le
  intro hba
  have := digs_len_mono hba
  omega
/-- Digits whose last one is not 0 are the digits of their number. -/
theorem digs_of : ∀ {l : List Int}, Dig l → (∀ h : l ≠ [], l.getLast h ≠ 0) → digs (dval l).toNat = l
  | [], _, _ => digs_zero
  | d :: l, h, hl => by
    have hd := h.head
    have hv := dval_nonneg h.tail
    have ih : digs (dval l).toNat = l := digs_of h.tail fun hne => by
      have := hl (by simp)
      rwa [List.getLast_cons hne] at this
    have hne : (dval (d :: l)).toNat ≠ 0 := by
      intro h0
      simp only [dval] at h0
      have hd0 : d = 0 := by omega
      have hl0 : dval l = 0 := by omega
      rw [hl0] at ih
      have : l = [] := by rw [← ih]; exact digs_zero
      subst this
      exact hl (by simp) (by simpa using hd0)
    rw [digs_pos hne]
    simp only [dval]
    rw [show ((d + 1000000000 * dval l).toNat % 1000000000 : Nat) = d.toNat by omega, show (d + 1000000000 * dval l).toNat / 1000000000 = (dval l).toNat by omega, ih]
    congr 1
    omega
theorem digs_last {n : Nat} (h : digs n ≠ []) : (digs n).getLast h ≠ 0 := by
  induction n using Nat.strongRecOn with
  | ind n ih =>
    have h0 : n ≠ 0 := fun h0 => h (digs_nil.2 h0)
    by_cases hq : digs (n / 1000000000) = []
    · have : n / 1000000000 = 0 := digs_nil.1 hq
      simp only [digs_pos h0, hq, List.getLast_singleton]
      omega
    · simp only [digs_pos h0]
      rw [List.getLast_cons hq]
      exact ih _ (by omega) hq

theorem dval_append (l m : List Int) : dval (l ++ m) = dval l + 1000000000 ^ l.length * dval m := by
  induction l with
  | nil => simp [dval]
  | cons d l ih =>
    simp only [List.cons_append, dval, ih, List.length_cons]
    rw [Int.pow_succ, Int.mul_add, ← Int.mul_assoc, Int.mul_comm (1000000000 ^ l.length) 1000000000, Int.add_assoc]
theorem drop_cons {l : List Int} {i : Nat} (h : i < l.length) : l.drop i = l.getD i 0 :: l.drop (i + 1) := by
  rw [List.drop_eq_getElem_cons h, List.getD_eq_getElem?_getD, List.getElem?_eq_getElem h]
  rfl
theorem take_succ {l : List Int} {i : Nat} (h : i < l.length) : l.take (i + 1) = l.take i ++ [l.getD i 0] := by
  rw [List.take_add_one, List.getElem?_eq_getElem h, List.getD_eq_getElem?_getD, List.getElem?_eq_getElem h]
  rfl
theorem take_last {l : List Int} {k : Nat} (h : k < l.length) (hne : l.take (k + 1) ≠ []) : (l.take (k + 1)).getLast hne = l.getD k 0 := by
  have := take_succ h
  simp only [this]
  simp
/-- Digits at the end that are 0. -/
theorem dval_take_zero {l : List Int} {i : Nat} (h : i < l.length) (h0 : l.getD i 0 = 0) : dval (l.take (i + 1)) = dval (l.take i) := by
  rw [take_succ h, h0, dval_append]
  simp [dval]

/-! ### Comparing -/
def cmpI (a b : Int) : Int := if a < b then -1 else if a = b then 0 else 1
theorem dval_lt : ∀ {l m : List Int}, Dig l → Dig m → l.length = m.length → ∀ {i : Nat}, i < l.length → l.drop (i + 1) = m.drop (i + 1) → l.getD i 0 < m.getD i 0 → dval l < dval m
  | [], m, _, _, _, i, hi, _, _ => absurd hi (by simp)
  | d :: l, [], _, _, h, _, _, _, _ => by simp at h
  | d :: l, e :: m, hl, hm, h, 0, _, h2, h3 => by
    have h2 : l = m := by simpa using h2
    have h3 : d < e := by simpa using h3
    subst h2
    simp only [dval]
    omega
  | d :: l, e :: m, hl, hm, h, i + 1, hi, h2, h3 => by
    have := dval_lt hl.tail hm.tail (by simpa using h) (i := i) (by simpa using hi) (by simpa using h2) (by simpa using h3)
    have := hl.head
    have := hm.head
    simp only [dval]
    omega

/-! ### Adding -/
def plusL : List Int → List Int → Int → List Int
  | [], _, c => [c]
  | d :: a, b, c => if 1000000000 ≤ d + c + b.headD 0 then (d + c + b.headD 0 - 1000000000) :: plusL a b.tail 1 else (d + c + b.headD 0) :: plusL a b.tail 0
theorem plusL_len : ∀ (a b : List Int) (c : Int), (plusL a b c).length = a.length + 1
  | [], b, c => rfl
  | d :: a, b, c => by
    unfold plusL
    split <;> simp [plusL_len a]
theorem plusL_val : ∀ {a b : List Int} {c : Int}, b.length ≤ a.length → dval (plusL a b c) = dval a + dval b + c
  | [], b, c, h => by
    have : b = [] := by simpa using h
    subst this
    simp [plusL, dval]
  | d :: a, b, c, h => by
    have hb : dval b = b.headD 0 + 1000000000 * dval b.tail := by cases b <;> simp [dval]
    have hl : b.tail.length ≤ a.length := by cases b with
      | nil => simp
      | cons e b => simpa using h
    unfold plusL
    split
    · simp only [dval]; rw [plusL_val hl, hb]; omega
    · simp only [dval]; rw [plusL_val hl, hb]; omega
theorem plusL_dig : ∀ {a b : List Int} {c : Int}, Dig a → Dig b → 0 ≤ c → c ≤ 1 → Dig (plusL a b c)
  | [], b, c, _, _, h0, h1 => by exact .cons h0 (by omega) .nil
  | d :: a, b, c, ha, hb, h0, h1 => by
    have hd := ha.head
    have he : 0 ≤ b.headD 0 ∧ b.headD 0 < 1000000000 := by cases b with
      | nil => simp
      | cons e b => exact hb.head
    have ht : Dig b.tail := by cases b with
      | nil => exact hb
      | cons e b => exact hb.tail
    unfold plusL
    split
    · exact .cons (by omega) (by omega) (plusL_dig ha.tail ht (by omega) (by omega))
    · exact .cons (by omega) (by omega) (plusL_dig ha.tail ht (by omega) (by omega))

/-! ### Subtracting -/
def minusL : List Int → List Int → Int → List Int
  | [], _, c => []
  | d :: a, b, c => if d - c - b.headD 0 < 0 then (d - c - b.headD 0 + 1000000000) :: minusL a b.tail 1 else (d - c - b.headD 0) :: minusL a b.tail 0
theorem minusL_len : ∀ (a b : List Int) (c : Int), (minusL a b c).length = a.length
  | [], b, c => rfl
  | d :: a, b, c => by
    unfold minusL
    split <;> simp [minusL_len a]
theorem minusL_val : ∀ {a b : List Int} {c : Int}, Dig a → Dig b → 0 ≤ c → c ≤ 1 → b.length ≤ a.length → dval b + c ≤ dval a → dval (minusL a b c) = dval a - dval b - c ∧ Dig (minusL a b c)
  | [], b, c, _, _, h0, h1, h, hle => by
    have : b = [] := by simpa using h
    subst this
    simp only [dval] at hle
    refine ⟨?_, Dig.nil⟩
    simp only [minusL, dval]
    omega
  | d :: a, b, c, ha, hb, h0, h1, h, hle => by
    have hd := ha.head
    have hbv : dval b = b.headD 0 + 1000000000 * dval b.tail := by cases b <;> simp [dval]
    have he : 0 ≤ b.headD 0 ∧ b.headD 0 < 1000000000 := by cases b with
      | nil => simp
      | cons e b => exact hb.head
    have ht : Dig b.tail := by cases b with
      | nil => exact hb
      | cons e b => exact hb.tail
    have hl : b.tail.length ≤ a.length := by cases b with
      | nil => simp
      | cons e b => simpa using h
    rw [hbv] at hle
    simp only [dval] at hle
    unfold minusL
    split
    · obtain ⟨h3, h4⟩ := minusL_val (c := 1) ha.tail ht (by omega) (by omega) hl (by omega)
      refine ⟨?_, .cons (by omega) (by omega) h4⟩
      simp only [dval]; rw [h3, hbv]; omega
    · obtain ⟨h3, h4⟩ := minusL_val (c := 0) ha.tail ht (by omega) (by omega) hl (by omega)
      refine ⟨?_, .cons (by omega) (by omega) h4⟩
      simp only [dval]; rw [h3, hbv]; omega

/-! ### Integers as the program keeps them -/
def iD (x : Int) : List Int := digs x.natAbs
def eI (x : Int) : List FV := [.bool (decide (x < 0)), .sl (iD x).length (fIs (iD x))]
/-- Not beyond what memory holds. -/
def Fit (n : Nat) : Prop := (digs n).length ≤ 1099511627776
theorem Fit.mono {a b : Nat} (h : Fit b) (hab : a ≤ b) : Fit a := Nat.le_trans (digs_len_mono hab) h
theorem Fit.len {x : Int} (h : Fit x.natAbs) : (iD x).length ≤ 1099511627776 := h
theorem iD_dig (x : Int) : Dig (iD x) := digs_dig _
theorem iD_val (x : Int) : dval (iD x) = x.natAbs := dval_digs _
theorem iD_nil {x : Int} : (iD x).length = 0 ↔ x = 0 := by unfold iD; rw [digs_len_zero]; omega
end Go.Proofs.Gh
end
section
set_option linter.unusedVariables false
set_option linter.unusedSimpArgs false
set_option maxRecDepth 4000
namespace Go.Proofs.Gh.Tryz
open Go Go.Proofs Go.Proofs.Gh

/-- An int. -/
abbrev pI (n : Int) : PV := .cell (.int .i64 n)
abbrev pB (b : Bool) : PV := .cell (.bool b)

theorem gcd_tmod (a b : Int) : Int.gcd b (a.tmod b) = Int.gcd a b := by
  have h : a.tmod b = a + -a.tdiv b * b := by have := Int.tmod_add_tdiv_mul a b; rw [Int.neg_mul]; omega
  rw [h, Int.gcd_add_mul_right_right, Int.gcd_comm]

theorem k_gcd (a b : Int) (ha : a.natAbs ≤ 4611686018427387904) (hb : b.natAbs ≤ 4611686018427387904) : PureC Tryz.prog 255 [pI a, pI b] (pI (Int.gcd a b)) := by
  refine PureC.of Tryz.func255 rfl Tryz.ntmps255 (vs := [.tmp 4]) rfl (Nat.le_of_ble_eq_true rfl) rfl fun cx _ _ => ?_
  refine AWP.seq ?_
  refine AWP.region ?_
  refine OPS.p rfl (st_assign rfl) ?_
  refine OPS.nil ?_
  refine AWP.seq ?_
  refine AWP.block ?_
  refine AWP.loopR (σ := Int × Int) (fun (zz : Int × Int) => ⟨[(0, pI zz.1), (1, pI zz.2)], [], 0⟩) (fun (zz : Int × Int) => zz.1.natAbs ≤ 4611686018427387904 ∧ zz.2.natAbs ≤ 4611686018427387904 ∧ Int.gcd zz.1 zz.2 = Int.gcd a b) (fun (zz : Int × Int) => zz.2.natAbs) (a, b) (Sub.r (Sub.mk' ⟨(by rfl), (by rfl), trivial⟩ trivial (by exact Nat.le_refl _))) (by exact ⟨ha, hb, rfl⟩) ?_
  rintro ⟨a', b'⟩ hinv
  have hinv : a'.natAbs ≤ 4611686018427387904 ∧ b'.natAbs ≤ 4611686018427387904 ∧ Int.gcd a' b' = Int.gcd a b := hinv
  obtain ⟨h1, h2, h3⟩ := hinv
  show AWP _ _ _ _ _ _ _ ⟨[(0, pI a'), (1, pI b')], [], 0⟩
  refine AWP.seq ?_
  refine AWP.seq ?_
  refine AWP.region ?_
  refine OPS.p rfl (st_move rfl) ?_
  refine OPS.p rfl (st_neq rfl rfl) ?_
  refine OPS.nil ?_
  refine AWP.condD rfl (fun hc1 => ?_) (fun hc1 => ?_)
  · refine AWP.skip ?_
    refine AWP.block ?_
    refine AWP.drw mixed ?_
    refine DRW.p rfl (st_move rfl) ?_
    refine DRW.p rfl (st_move rfl) ?_
    refine DRW.p rfl (st_move rfl) ?_
    refine DRW.p rfl (st_rem rfl rfl hc1) ?_
    refine DRW.p rfl (st_assign rfl) ?_
    refine DRW.p rfl (st_assign rfl) ?_
    refine DRW.nil (by kernel_rfl) ?_
    have hlt : (a'.tmod b').natAbs < b'.natAbs := by
      rw [Int.natAbs_tmod]
      exact Nat.mod_lt _ (by omega)
    refine ⟨(b', a'.tmod b'), (Sub.r (Sub.mk' ⟨(by rfl), (by rfl), trivial⟩ trivial (by exact Nat.le_refl _))), ?_, ?_⟩
    · try dsimp only
      exact ⟨h2, by omega, by rw [← h3]; exact gcd_tmod a' b'⟩
    · try dsimp only
      omega
  · have hb0 : b' = 0 := by simpa using hc1
    subst hb0
    refine AWP.exit ?_
    refine AWP.seq ?_
    refine AWP.region ?_
    refine OPS.p rfl (st_move rfl) ?_
    refine OPS.p rfl (st_move rfl) ?_
    refine OPS.p rfl (by exact st_neg_i rfl (by omega) (by omega)) ?_
    refine OPS.p rfl (st_max rfl rfl) ?_
    refine OPS.p rfl (st_assign rfl) ?_
    refine OPS.nil ?_
    refine AWP.ret ?_
    rw [show ((Int.gcd a b : Nat) : Int) = max a' (-a') by rw [← h3, Int.gcd_zero_right]; omega]
    rfl
end Go.Proofs.Gh.Tryz
end
section
set_option linter.unusedVariables false
set_option linter.unusedSimpArgs false
set_option maxRecDepth 4000
namespace Go.Proofs.Gh.Tryz
open Go Go.Proofs Go.Proofs.Gh

/-- Digits. -/
abbrev pL (l : List Int) : PV := .cell (.sl l.length (fIs l))
/-- An integer. -/
abbrev pZ (x : Int) : PV := .agg (eI x)

theorem k_isNaN (a : Int) : PureC Tryz.prog 256 [pI a] (pB false) := by
  refine PureC.of Tryz.func256 rfl Tryz.ntmps256 (vs := [.tmp 2]) rfl (Nat.le_of_ble_eq_true rfl) rfl fun cx _ _ => ?_
  refine AWP.seq ?_
  refine AWP.region ?_
  refine OPS.p rfl (st_assign rfl) ?_
  refine OPS.nil ?_
  refine AWP.seq ?_
  refine AWP.region ?_
  refine OPS.p rfl (st_move rfl) ?_
  refine OPS.p rfl (st_move rfl) ?_
  refine OPS.p rfl (st_neq rfl rfl) ?_
  refine OPS.p rfl (st_assign rfl) ?_
  refine OPS.nil ?_
  refine AWP.ret ?_
  refine Ret.mk rfl ?_
  simp

theorem k_cmp (a b : Int) : PureC Tryz.prog 171 [pI a, pI b] (pI (cmpI a b)) := by
  refine PureC.of Tryz.func171 rfl Tryz.ntmps171 (vs := [.tmp 4]) rfl (Nat.le_of_ble_eq_true rfl) rfl fun cx _ _ => ?_
  refine AWP.seq ?_
  refine AWP.region ?_
  refine OPS.p rfl (st_assign rfl) ?_
  refine OPS.nil ?_
  refine AWP.seq ?_
  refine AWP.region ?_
  refine OPS.p rfl (st_move rfl) ?_
  refine OPS.p rfl (st_call (L := [((.tmp 7), _)]) false pl256 ⟨rfl, trivial⟩ rfl (k_isNaN a) rfl) ?_
  refine OPS.p rfl (st_assign rfl) ?_
  refine OPS.nil ?_
  refine AWP.seq ?_
  refine AWP.region ?_
  refine OPS.p rfl (st_move rfl) ?_
  refine OPS.p rfl (st_call (L := [((.tmp 9), _)]) false pl256 ⟨rfl, trivial⟩ rfl (k_isNaN b) rfl) ?_
  refine OPS.p rfl (st_assign rfl) ?_
  refine OPS.nil ?_
  refine AWP.seq ?_
  refine AWP.seq ?_
  refine AWP.region ?_
  refine OPS.p rfl (st_move rfl) ?_
  refine OPS.nil ?_
  refine AWP.cond_f rfl (rfl) ?_
  refine AWP.skip ?_
  refine AWP.seq ?_
  refine AWP.seq ?_
  refine AWP.region ?_
  refine OPS.p rfl (st_move rfl) ?_
  refine OPS.nil ?_
  refine AWP.cond_f rfl (rfl) ?_
  refine AWP.skip ?_
  refine AWP.seq ?_
  refine AWP.seq ?_
  refine AWP.region ?_
  refine OPS.p rfl (st_move rfl) ?_
  refine OPS.p rfl (st_move rfl) ?_
  refine OPS.p rfl (st_lss rfl rfl) ?_
  refine OPS.nil ?_
  refine AWP.condD rfl (fun hc9 => ?_) (fun hc9 => ?_)
  · refine AWP.seq ?_
    refine AWP.region ?_
    refine OPS.p rfl (st_assign rfl) ?_
    refine OPS.nil ?_
    refine AWP.ret ?_
    refine Ret.mk rfl ?_
    simp [cmpI, hc9]
  · refine AWP.skip ?_
    refine AWP.seq ?_
    refine AWP.seq ?_
    refine AWP.region ?_
    refine OPS.p rfl (st_move rfl) ?_
    refine OPS.p rfl (st_move rfl) ?_
    refine OPS.p rfl (st_gtr rfl rfl) ?_
    refine OPS.nil ?_
    refine AWP.condD rfl (fun hc11 => ?_) (fun hc11 => ?_)
    · refine AWP.seq ?_
      refine AWP.region ?_
      refine OPS.p rfl (st_assign rfl) ?_
      refine OPS.nil ?_
      refine AWP.ret ?_
      refine Ret.mk rfl ?_
      simp only [cmpI]
      rw [if_neg hc9, if_neg (by omega)]
    · refine AWP.skip ?_
      refine AWP.seq ?_
      refine AWP.region ?_
      refine OPS.p rfl (st_assign rfl) ?_
      refine OPS.nil ?_
      refine AWP.ret ?_
      refine Ret.mk rfl ?_
      simp only [cmpI]
      rw [if_neg hc9, if_pos (by omega)]

theorem k_compare (a b : Nat) (ha : Fit a) (hb : Fit b) : PureC Tryz.prog 223 [pL (digs a), pL (digs b)] (pI (cmpI a b)) := by
  have hda := digs_dig a
  have hdb := digs_dig b
  have hva := dval_digs a
  have hvb := dval_digs b
  have hla : (digs a).length ≤ 1099511627776 := ha
  have hlb : (digs b).length ≤ 1099511627776 := hb
  have hlt1 := @digs_lt_of_len a b
  have hlt2 := @digs_lt_of_len b a
  generalize digs a = l at *
  generalize digs b = m at *
  refine PureC.of Tryz.func223 rfl Tryz.ntmps223 (vs := [.tmp 4]) rfl (Nat.le_of_ble_eq_true rfl) rfl fun cx _ _ => ?_
  refine AWP.seq ?_
  refine AWP.region ?_
  refine OPS.p rfl (st_assign rfl) ?_
  refine OPS.nil ?_
  refine AWP.seq ?_
  refine AWP.seq ?_
  refine AWP.region ?_
  refine OPS.p rfl (st_move rfl) ?_
  refine OPS.p rfl (st_len un22 rfl rfl) ?_
  refine OPS.p rfl (st_move rfl) ?_
  refine OPS.p rfl (st_len un22 rfl rfl) ?_
  refine OPS.p rfl (st_neq rfl rfl) ?_
  refine OPS.nil ?_
  refine AWP.condD rfl (fun hc1 => ?_) (fun hc1 => ?_)
  · refine AWP.seq ?_
    refine AWP.region ?_
    refine OPS.p rfl (st_move rfl) ?_
    refine OPS.p rfl (st_len un22 rfl rfl) ?_
    refine OPS.p rfl (st_move rfl) ?_
    refine OPS.p rfl (st_len un22 rfl rfl) ?_
    refine OPS.p rfl (st_call (L := [((.tmp 12), _), ((.tmp 14), _)]) false pl171 ⟨rfl, rfl, trivial⟩ rfl (k_cmp _ _) rfl) ?_
    refine OPS.p rfl (st_assign rfl) ?_
    refine OPS.nil ?_
    refine AWP.ret ?_
    refine Ret.mk rfl ?_
    simp only [cmpI]
    split
    · rename_i h; rw [if_pos (by have := hlt1 (by omega); omega)]
    · rw [if_neg (by omega), if_neg (by have := hlt2 (by omega); omega)]
  · refine AWP.skip ?_
    refine AWP.seq ?_
    refine AWP.seq ?_
    refine AWP.region ?_
    refine OPS.p rfl (st_move rfl) ?_
    refine OPS.p rfl (st_len un22 rfl rfl) ?_
    refine OPS.p rfl (by exact st_sub_i rfl rfl (by omega) (by omega)) ?_
    refine OPS.p rfl (st_assign rfl) ?_
    refine OPS.nil ?_
    refine AWP.block ?_
    refine AWP.loopR (σ := Int) (fun (zz : Int) => ⟨[(0, pL l), (1, pL m), (5, pI zz)], [], 0⟩) (fun (zz : Int) => -1 ≤ zz ∧ zz < l.length ∧ l.drop (zz + 1).toNat = m.drop (zz + 1).toNat) (fun (zz : Int) => (zz + 1).toNat) ((l.length : Int) - 1) (Sub.r (Sub.mk' ⟨(by rfl), (by rfl), (by rfl), trivial⟩ trivial (by exact Nat.le_refl _))) (by exact ⟨by omega, by omega, by rw [List.drop_of_length_le (by omega), List.drop_of_length_le (by omega)]⟩) ?_
    rintro i hinv
    have hinv : -1 ≤ i ∧ i < l.length ∧ l.drop (i + 1).toNat = m.drop (i + 1).toNat := hinv
    obtain ⟨h1, h2, h3⟩ := hinv
    show AWP _ _ _ _ _ _ _ ⟨[(0, pL l), (1, pL m), (5, pI i)], [], 0⟩
    refine AWP.seq ?_
    refine AWP.seq ?_
    refine AWP.region ?_
    refine OPS.p rfl (st_move rfl) ?_
    refine OPS.p rfl (st_geq rfl rfl) ?_
    refine OPS.nil ?_
    refine AWP.condD rfl (fun hc4 => ?_) (fun hc4 => ?_)
    · have hi : i.toNat < l.length := by omega
      have hi' : i.toNat < m.length := by omega
      refine AWP.skip ?_
      refine AWP.seq ?_
      refine AWP.block ?_
      refine AWP.seq ?_
      refine AWP.drw mixed ?_
      refine DRW.p rfl (st_move rfl) ?_
      refine DRW.p rfl (st_move rfl) ?_
      refine DRW.p rfl (by exact st_index_I es22 rfl rfl (by omega) (by omega) (by rfl)) ?_
      refine DRW.p rfl (by exact st_load_I sc3 rfl (by omega) (by omega)) ?_
      refine DRW.p rfl (st_move rfl) ?_
      refine DRW.p rfl (st_move rfl) ?_
      refine DRW.p rfl (by exact st_index_I es22 rfl rfl (by omega) (by omega) (by rfl)) ?_
      refine DRW.p rfl (by exact st_load_I sc3 rfl (by omega) (by omega)) ?_
      refine DRW.p rfl (st_neq rfl rfl) ?_
      refine DRW.nil (by kernel_rfl) ?_
      refine AWP.condD rfl (fun hc6 => ?_) (fun hc6 => ?_)
      · have hd : l.drop (i.toNat + 1) = m.drop (i.toNat + 1) := by rw [show i.toNat + 1 = (i + 1).toNat by omega]; exact h3
        refine AWP.seq ?_
        refine AWP.drw mixed ?_
        refine DRW.p rfl (st_move rfl) ?_
        refine DRW.p rfl (st_move rfl) ?_
        refine DRW.p rfl (by exact st_index_I es22 rfl rfl (by omega) (by omega) (by rfl)) ?_
        refine DRW.p rfl (by exact st_load_I sc3 rfl (by omega) (by omega)) ?_
        refine DRW.p rfl (st_move rfl) ?_
        refine DRW.p rfl (st_move rfl) ?_
        refine DRW.p rfl (by exact st_index_I es22 rfl rfl (by omega) (by omega) (by rfl)) ?_
        refine DRW.p rfl (by exact st_load_I sc3 rfl (by omega) (by omega)) ?_
        refine DRW.p rfl (st_call (L := [((.tmp 35), _), ((.tmp 39), _)]) false pl171 ⟨rfl, rfl, trivial⟩ rfl (k_cmp _ _) rfl) ?_
        refine DRW.p rfl (st_assign rfl) ?_
        refine DRW.nil (by kernel_rfl) ?_
        refine AWP.ret ?_
        refine Ret.mk rfl ?_
        simp only [cmpI]
        by_cases hlt : l.getD i.toNat 0 < m.getD i.toNat 0
        · have := dval_lt hda hdb (by omega) hi hd hlt
          rw [if_pos hlt, if_pos (by omega)]
        · have := dval_lt hdb hda (by omega) hi' hd.symm (by omega)
          rw [if_neg hlt, if_neg (by omega), if_neg (by omega), if_neg (by omega)]
      · refine AWP.skip ?_
        refine AWP.region ?_
        refine OPS.p rfl (st_move rfl) ?_
        refine OPS.p rfl (by exact st_sub_i rfl rfl (by omega) (by omega)) ?_
        refine OPS.p rfl (st_assign rfl) ?_
        refine OPS.nil ?_
        refine ⟨(i - 1), (Sub.r (Sub.mk' ⟨(by rfl), (by rfl), (by rfl), trivial⟩ trivial (by exact Nat.le_refl _))), ?_, ?_⟩
        · try dsimp only
          refine ⟨by omega, by omega, ?_⟩
          have e : l.getD i.toNat 0 = m.getD i.toNat 0 := by omega
          rw [show (i - 1 + 1).toNat = i.toNat by omega, drop_cons hi, drop_cons hi', e, show i.toNat + 1 = (i + 1).toNat by omega, h3]
        · try dsimp only
          omega
    · refine AWP.exit ?_
      refine AWP.seq ?_
      refine AWP.region ?_
      refine OPS.p rfl (st_assign rfl) ?_
      refine OPS.nil ?_
      refine AWP.ret ?_
      refine Ret.mk rfl ?_
      have : i = -1 := by omega
      subst this
      have : l = m := by simpa using h3
      subst this
      simp only [cmpI]
      rw [if_neg (by omega), if_pos (by omega)]

theorem digs_2 {n : Nat} (h : 1000000000 ≤ n) (h' : n < 1000000000000000000) : digs n = [((n % 1000000000 : Nat) : Int), ((n / 1000000000 : Nat) : Int)] := by
  rw [digs_pos (by omega), digs_small (by omega) (by omega)]
theorem digs_3 {n : Nat} (h : 1000000000000000000 ≤ n) (h' : n < 1000000000000000000000000000) : digs n = [((n % 1000000000 : Nat) : Int), ((n / 1000000000 % 1000000000 : Nat) : Int), ((n / 1000000000 / 1000000000 : Nat) : Int)] := by
  rw [digs_pos (by omega), digs_2 (by omega) (by omega)]
/-- The sign that a number's form keeps. -/
def sg (neg : Bool) (n : Int) : Int := if neg then -n else n
theorem sg_neg {neg : Bool} {n : Int} (h : 0 < n) : decide (sg neg n < 0) = neg := by cases neg <;> simp [sg] <;> omega
theorem sg_abs {neg : Bool} {n : Int} (h : 0 ≤ n) : (sg neg n).natAbs = n.toNat := by cases neg <;> simp [sg] <;> omega
theorem sg_zero (neg : Bool) : sg neg 0 = 0 := by cases neg <;> rfl
theorem eI_zero : eI 0 = [.bool false, .sl 0 []] := by simp [eI, iD, digs_zero, fIs]
theorem eI_sg {neg : Bool} {n : Int} (h : 0 < n) {l : List Int} (hl : digs n.toNat = l) : eI (sg neg n) = [.bool neg, .sl l.length (fIs l)] := by
  unfold eI iD
  rw [sg_neg h, sg_abs (by omega), hl]

theorem k_unsigned (neg : Bool) (n : Int) (h : 0 ≤ n) (h' : n ≤ 18446744073709551615) : PureC Tryz.prog 220 [pB neg, .cell (.int .u64 n)] (pZ (sg neg n)) := by
  refine PureC.of Tryz.func220 rfl Tryz.ntmps220 (vs := [.cell 4 29]) rfl (Nat.le_of_ble_eq_true rfl) rfl fun cx _ _ => ?_
  refine AWP.seq ?_
  refine AWP.region ?_
  refine OPS.a rfl (st_alloc ze29) ?_
  refine OPS.nil ?_
  refine AWP.seq ?_
  refine AWP.block ?_
  refine AWP.seq ?_
  refine AWP.region ?_
  refine OPS.p rfl (st_move rfl) ?_
  refine OPS.p rfl (st_eql rfl rfl) ?_
  refine OPS.p rfl (st_assign rfl) ?_
  refine OPS.nil ?_
  refine AWP.condD rfl (fun hc1 => ?_) (fun hc1 => ?_)
  · refine AWP.seq ?_
    refine AWP.region ?_
    refine OPS.p rfl (st_build (L := []) zf29 pl_29 trivial rfl rfl) ?_
    refine OPS.s (by exact st_store_v sz29 rfl rfl rfl rfl rfl rfl) ?_
    refine OPS.nil ?_
    refine AWP.ret ?_
    refine Ret.mk rfl ?_
    subst hc1
    rw [pZ, sg_zero, eI_zero]
  · refine AWP.seq ?_
    refine AWP.region ?_
    refine OPS.p rfl (st_move rfl) ?_
    refine OPS.p rfl (st_lss rfl rfl) ?_
    refine OPS.p rfl (st_assign rfl) ?_
    refine OPS.nil ?_
    refine AWP.condD rfl (fun hc3 => ?_) (fun hc3 => ?_)
    · refine AWP.seq ?_
      refine AWP.region ?_
      refine OPS.p rfl (st_move rfl) ?_
      refine OPS.p rfl (st_move rfl) ?_
      refine OPS.p rfl (by exact st_conv_i rfl us186 un3 (by omega) (by omega)) ?_
      refine OPS.a rfl (Stp.frz (st_buildS (L := [(0, (.tmp 14), _)]) ei22 rfl ⟨rfl, trivial⟩ rfl rfl) rfl) ?_
      refine OPS.p rfl (st_build (L := [(0, (.tmp 12), _), (1, (.tmp 15), _)]) zf29 pl_29 ⟨rfl, rfl, trivial⟩ rfl rfl) ?_
      refine OPS.s (by exact st_store_v sz29 rfl rfl rfl rfl rfl rfl) ?_
      refine OPS.nil ?_
      refine AWP.ret ?_
      refine Ret.mk rfl ?_
      rw [pZ, eI_sg (by omega) (digs_small (by omega) (by omega)), show ((n.toNat : Nat) : Int) = n by omega]
      rfl
    · refine AWP.seq ?_
      refine AWP.region ?_
      refine OPS.p rfl (st_move rfl) ?_
      refine OPS.p rfl (st_lss rfl rfl) ?_
      refine OPS.p rfl (st_assign rfl) ?_
      refine OPS.nil ?_
      refine AWP.condD rfl (fun hc5 => ?_) (fun hc5 => ?_)
      · refine AWP.seq ?_
        refine AWP.region ?_
        refine OPS.p rfl (st_move rfl) ?_
        refine OPS.p rfl (st_move rfl) ?_
        refine OPS.p rfl (by exact st_rem_n rfl rfl (by omega) (by omega)) ?_
        refine OPS.p rfl (by exact st_conv_i rfl us186 un3 (by omega) (by omega)) ?_
        refine OPS.p rfl (st_move rfl) ?_
        refine OPS.p rfl (by exact st_quo_u rfl rfl (by omega) (by omega) (by omega)) ?_
        refine OPS.p rfl (by exact st_conv_i rfl us186 un3 (by omega) (by omega)) ?_
        refine OPS.a rfl (Stp.frz (st_buildS (L := [(0, (.tmp 23), _), (1, (.tmp 26), _)]) ei22 rfl ⟨rfl, rfl, trivial⟩ rfl rfl) rfl) ?_
        refine OPS.p rfl (st_build (L := [(0, (.tmp 20), _), (1, (.tmp 27), _)]) zf29 pl_29 ⟨rfl, rfl, trivial⟩ rfl rfl) ?_
        refine OPS.s (by exact st_store_v sz29 rfl rfl rfl rfl rfl rfl) ?_
        refine OPS.nil ?_
        refine AWP.ret ?_
        refine Ret.mk rfl ?_
        rw [pZ, eI_sg (by omega) (digs_2 (by omega) (by omega)), show ((n.toNat % 1000000000 : Nat) : Int) = n % 1000000000 by omega, show ((n.toNat / 1000000000 : Nat) : Int) = n / 1000000000 by omega]
        rfl
      · refine AWP.skip ?_
        refine AWP.seq ?_
        refine AWP.region ?_
        refine OPS.p rfl (st_move rfl) ?_
        refine OPS.p rfl (st_move rfl) ?_
        refine OPS.p rfl (by exact st_rem_n rfl rfl (by omega) (by omega)) ?_
        refine OPS.p rfl (by exact st_conv_i rfl us186 un3 (by omega) (by omega)) ?_
        refine OPS.p rfl (st_move rfl) ?_
        refine OPS.p rfl (by exact st_quo_u rfl rfl (by omega) (by omega) (by omega)) ?_
        refine OPS.p rfl (by exact st_rem_n rfl rfl (by omega) (by omega)) ?_
        refine OPS.p rfl (by exact st_conv_i rfl us186 un3 (by omega) (by omega)) ?_
        refine OPS.p rfl (st_move rfl) ?_
        refine OPS.p rfl (by exact st_quo_u rfl rfl (by omega) (by omega) (by omega)) ?_
        refine OPS.p rfl (by exact st_quo_u rfl rfl (by omega) (by omega) (by omega)) ?_
        refine OPS.p rfl (by exact st_conv_i rfl us186 un3 (by omega) (by omega)) ?_
        refine OPS.a rfl (Stp.frz (st_buildS (L := [(0, (.tmp 32), _), (1, (.tmp 36), _), (2, (.tmp 40), _)]) ei22 rfl ⟨rfl, rfl, rfl, trivial⟩ rfl rfl) rfl) ?_
        refine OPS.p rfl (st_build (L := [(0, (.tmp 29), _), (1, (.tmp 41), _)]) zf29 pl_29 ⟨rfl, rfl, trivial⟩ rfl rfl) ?_
        refine OPS.s (by exact st_store_v sz29 rfl rfl rfl rfl rfl rfl) ?_
        refine OPS.nil ?_
        refine AWP.ret ?_
        refine Ret.mk rfl ?_
        rw [pZ, eI_sg (by omega) (digs_3 (by omega) (by omega)), show ((n.toNat % 1000000000 : Nat) : Int) = n % 1000000000 by omega, show ((n.toNat / 1000000000 % 1000000000 : Nat) : Int) = n / 1000000000 % 1000000000 by omega, show ((n.toNat / 1000000000 / 1000000000 : Nat) : Int) = n / 1000000000 / 1000000000 by omega]
        rfl

theorem k_Of (n : Int) (h : -9223372036854775808 ≤ n) (h' : n ≤ 9223372036854775807) : PureC Tryz.prog 100 [pI n] (pZ n) := by
  refine PureC.of Tryz.func100 rfl Tryz.ntmps100 (vs := [.cell 2 29]) rfl (Nat.le_of_ble_eq_true rfl) rfl fun cx _ _ => ?_
  refine AWP.seq ?_
  refine AWP.region ?_
  refine OPS.a rfl (st_alloc ze29) ?_
  refine OPS.nil ?_
  refine AWP.seq ?_
  refine AWP.region ?_
  refine OPS.p rfl (st_move rfl) ?_
  refine OPS.p rfl (st_conv rfl us3 un186) ?_
  refine OPS.p rfl (st_assign rfl) ?_
  refine OPS.nil ?_
  refine AWP.seq ?_
  refine AWP.seq ?_
  refine AWP.region ?_
  refine OPS.p rfl (st_move rfl) ?_
  refine OPS.p rfl (st_lss rfl rfl) ?_
  refine OPS.nil ?_
  refine AWP.condD rfl (fun hc2 => ?_) (fun hc2 => ?_)
  · refine AWP.region ?_
    refine OPS.p rfl (st_move rfl) ?_
    refine OPS.p rfl (by exact st_neg rfl) ?_
    refine OPS.p rfl (st_assign rfl) ?_
    refine OPS.nil ?_
    refine AWP.seq ?_
    refine AWP.region ?_
    refine OPS.p rfl (st_move rfl) ?_
    refine OPS.p rfl (st_lss rfl rfl) ?_
    refine OPS.p rfl (st_move rfl) ?_
    refine OPS.p rfl (st_call (L := [((.tmp 11), _), ((.tmp 12), _)]) false pl220 ⟨rfl, rfl, trivial⟩ rfl (k_unsigned _ _ (by simp only [IntKind.wrap_u64]; omega) (by simp only [IntKind.wrap_u64]; omega)) rfl) ?_
    refine OPS.s (by exact st_store_v sz29 rfl rfl rfl rfl rfl rfl) ?_
    refine OPS.nil ?_
    refine AWP.ret ?_
    refine Ret.mk rfl (congrArg pZ ?_)
    simp only [sg, IntKind.wrap_u64]
    simp [hc2]
    omega
  · refine AWP.skip ?_
    refine AWP.seq ?_
    refine AWP.region ?_
    refine OPS.p rfl (st_move rfl) ?_
    refine OPS.p rfl (st_lss rfl rfl) ?_
    refine OPS.p rfl (st_move rfl) ?_
    refine OPS.p rfl (st_call (L := [((.tmp 11), _), ((.tmp 12), _)]) false pl220 ⟨rfl, rfl, trivial⟩ rfl (k_unsigned _ _ (by simp only [IntKind.wrap_u64]; omega) (by simp only [IntKind.wrap_u64]; omega)) rfl) ?_
    refine OPS.s (by exact st_store_v sz29 rfl rfl rfl rfl rfl rfl) ?_
    refine OPS.nil ?_
    refine AWP.ret ?_
    refine Ret.mk rfl (congrArg pZ ?_)
    simp only [sg, IntKind.wrap_u64]
    simp [hc2]
    omega

theorem k_of (neg : Bool) (l : List Int) (hl : l.length ≤ 2199023255552) (hd : Dig l) : PureC Tryz.prog 221 [pB neg, pL l] (pZ (sg neg (dval l))) := by
  refine PureC.of Tryz.func221 rfl Tryz.ntmps221 (vs := [.cell 4 29]) rfl (Nat.le_of_ble_eq_true rfl) rfl fun cx _ _ => ?_
  refine AWP.seq ?_
  refine AWP.region ?_
  refine OPS.a rfl (st_alloc ze29) ?_
  refine OPS.nil ?_
  refine AWP.seq ?_
  refine AWP.region ?_
  refine OPS.p rfl (st_move rfl) ?_
  refine OPS.p rfl (st_len un22 rfl rfl) ?_
  refine OPS.p rfl (st_assign rfl) ?_
  refine OPS.nil ?_
  refine AWP.seq ?_
  refine AWP.block ?_
  refine AWP.loopR (σ := Int) (fun (zz : Int) => ⟨[(0, pB neg), (1, pL l), (4, .ptr 0 0), (5, pI zz)], [(0, .var [pB false, .cell (.sl 0 [])])], 1⟩) (fun (zz : Int) => 0 ≤ zz ∧ zz ≤ l.length ∧ dval (l.take zz.toNat) = dval l) (fun (zz : Int) => zz.toNat) ((l.length : Int)) (Sub.r (Sub.mk' ⟨(by rfl), (by rfl), (by rfl), (by rfl), trivial⟩ ⟨(by rfl), trivial⟩ (by exact Nat.le_refl _))) (by exact ⟨by omega, by omega, by simp⟩) ?_
  rintro i hinv
  have hinv : 0 ≤ i ∧ i ≤ l.length ∧ dval (l.take i.toNat) = dval l := hinv
  obtain ⟨h1, h2, h3⟩ := hinv
  show AWP _ _ _ _ _ _ _ ⟨[(0, pB neg), (1, pL l), (4, .ptr 0 0), (5, pI i)], [(0, .var [pB false, .cell (.sl 0 [])])], 1⟩
  refine AWP.seq ?_
  refine AWP.seq ?_
  refine AWP.region ?_
  refine OPS.p rfl (st_move rfl) ?_
  refine OPS.p rfl (st_gtr rfl rfl) ?_
  refine OPS.p rfl (st_move rfl) ?_
  refine OPS.split (g := 10) rfl (fun eg2_2 g2_2 => ?_) (fun eg2_2 g2_2 => ?_)
  · refine OPS.pG rfl rfl rfl eg2_2 (st_move rfl) ?_
    refine OPS.pG rfl rfl rfl eg2_2 (st_move rfl) ?_
    refine OPS.pG rfl rfl rfl eg2_2 (by exact st_sub_i rfl rfl (by omega) (by omega)) ?_
    refine OPS.pG rfl rfl rfl eg2_2 (by exact st_index_I es22 rfl rfl (by omega) (by omega) (by rfl)) ?_
    refine OPS.pG rfl rfl rfl eg2_2 (by exact st_load_I sc3 rfl (by omega) (by omega)) ?_
    refine OPS.pG rfl rfl rfl eg2_2 (st_eql rfl rfl) ?_
    refine OPS.p rfl (st_pickT rfl eg2_2 rfl) ?_
    refine OPS.nil ?_
    refine AWP.condD rfl (fun hc2 => ?_) (fun hc2 => ?_)
    · refine AWP.skip ?_
      refine AWP.block ?_
      refine AWP.region ?_
      refine OPS.p rfl (st_move rfl) ?_
      refine OPS.p rfl (by exact st_sub_i rfl rfl (by omega) (by omega)) ?_
      refine OPS.p rfl (st_assign rfl) ?_
      refine OPS.nil ?_
      refine ⟨(i - 1), (Sub.r (Sub.mk' ⟨(by rfl), (by rfl), (by rfl), (by rfl), trivial⟩ ⟨(by rfl), trivial⟩ (by exact Nat.le_refl _))), ?_, ?_⟩
      · try dsimp only
        refine ⟨by omega, by omega, ?_⟩
        rw [← h3, show i.toNat = (i - 1).toNat + 1 by omega, dval_take_zero (by omega) hc2]
      · try dsimp only
        omega
    · refine AWP.exit ?_
      refine AWP.seq ?_
      refine AWP.seq ?_
      refine AWP.region ?_
      refine OPS.p rfl (st_move rfl) ?_
      refine OPS.p rfl (st_eql rfl rfl) ?_
      refine OPS.nil ?_
      refine AWP.condD rfl (fun hc4 => ?_) (fun hc4 => ?_)
      · refine AWP.seq ?_
        refine AWP.region ?_
        refine OPS.p rfl (st_build (L := []) zf29 pl_29 trivial rfl rfl) ?_
        refine OPS.s (by exact st_store_v sz29 rfl rfl rfl rfl rfl rfl) ?_
        refine OPS.nil ?_
        refine AWP.ret ?_
        refine Ret.mk rfl ?_
        subst hc4
        have h4 : dval l = 0 := by rw [← h3]; rfl
        rw [pZ, h4, sg_zero, eI_zero]
      · refine AWP.skip ?_
        refine AWP.seq ?_
        refine AWP.region ?_
        refine OPS.p rfl (st_move rfl) ?_
        refine OPS.p rfl (st_move rfl) ?_
        refine OPS.p rfl (st_move rfl) ?_
        refine OPS.p rfl (st_move rfl) ?_
        refine OPS.p rfl (st_slice_hm es22 rfl rfl rfl (by (simp [fIs_len]; done)) (by omega) (by omega) (by omega)) ?_
        refine OPS.p rfl (st_build (L := [(0, (.tmp 23), _), (1, (.tmp 27), _)]) zf29 pl_29 ⟨rfl, rfl, trivial⟩ rfl rfl) ?_
        refine OPS.s (by exact st_store_v sz29 rfl rfl rfl rfl rfl rfl) ?_
        refine OPS.nil ?_
        refine AWP.ret ?_
        refine Ret.mk rfl ?_
        have hlt : (i - 1).toNat < l.length := by omega
        have hpos : dval l ≠ 0 := by
          rw [← h3, show i.toNat = (i - 1).toNat + 1 by omega, take_succ hlt, dval_append]
          have := dval_nonneg (hd.take (i - 1).toNat)
          have := hd.get (i - 1).toNat
          have hp : (0 : Int) < 1000000000 ^ (l.take (i - 1).toNat).length := Int.pow_pos (by decide)
          have : (0 : Int) < 1000000000 ^ (l.take (i - 1).toNat).length * dval [l.getD (i - 1).toNat 0] := Int.mul_pos hp (by simp only [dval]; omega)
          omega
        have hv := dval_nonneg hd
        rw [pZ, eI_sg (l := l.take i.toNat) (by omega) (by
          rw [← h3]
          refine digs_of (hd.take _) fun hne => ?_
          have e : i.toNat = (i - 1).toNat + 1 := by omega
          simp only [e] at hne ⊢
          rw [take_last hlt]
          exact hc2), List.length_take, show min i.toNat l.length = i.toNat by omega]
        simp [fIs, List.map_take]
  · refine OPS.nO rfl rfl rfl eg2_2 ?_
    refine OPS.nO rfl rfl rfl eg2_2 ?_
    refine OPS.nO rfl rfl rfl eg2_2 ?_
    refine OPS.nO rfl rfl rfl eg2_2 ?_
    refine OPS.nO rfl rfl rfl eg2_2 ?_
    refine OPS.nO rfl rfl rfl eg2_2 ?_
    refine OPS.p rfl (st_pickF rfl eg2_2 rfl) ?_
    refine OPS.nil ?_
    refine AWP.cond_f rfl (rfl) ?_
    refine AWP.exit ?_
    refine AWP.seq ?_
    refine AWP.seq ?_
    refine AWP.region ?_
    refine OPS.p rfl (st_move rfl) ?_
    refine OPS.p rfl (st_eql rfl rfl) ?_
    refine OPS.nil ?_
    refine AWP.condD rfl (fun hc4 => ?_) (fun hc4 => ?_)
    · refine AWP.seq ?_
      refine AWP.region ?_
      refine OPS.p rfl (st_build (L := []) zf29 pl_29 trivial rfl rfl) ?_
      refine OPS.s (by exact st_store_v sz29 rfl rfl rfl rfl rfl rfl) ?_
      refine OPS.nil ?_
      refine AWP.ret ?_
      refine Ret.mk rfl ?_
      have h0 : i = 0 := by omega
      subst h0
      have h4 : dval l = 0 := by rw [← h3]; rfl
      rw [pZ, h4, sg_zero, eI_zero]
    · refine AWP.skip ?_
      refine AWP.seq ?_
      refine AWP.region ?_
      refine OPS.p rfl (st_move rfl) ?_
      refine OPS.p rfl (st_move rfl) ?_
      refine OPS.p rfl (st_move rfl) ?_
      refine OPS.p rfl (st_move rfl) ?_
      refine OPS.p rfl (st_slice_hm es22 rfl rfl rfl (by (simp [fIs_len]; done)) (by omega) (by omega) (by omega)) ?_
      refine OPS.p rfl (st_build (L := [(0, (.tmp 23), _), (1, (.tmp 27), _)]) zf29 pl_29 ⟨rfl, rfl, trivial⟩ rfl rfl) ?_
      refine OPS.s (by exact st_store_v sz29 rfl rfl rfl rfl rfl rfl) ?_
      refine OPS.nil ?_
      refine AWP.ret ?_
      omega

theorem k_two (l : List Int) (hd : Dig l) (hl : l.length ≤ 2199023255552) : PureC Tryz.prog 268 [pL l] (.tup [pI (if l.length ≤ 2 then dval l else 0), pB (decide (l.length ≤ 2))]) := by
  have hg0 := hd.get 0
  have hg1 := hd.get 1
  refine PureC.of Tryz.func268 rfl Tryz.ntmps268 (vs := [.tmp 2, .tmp 3]) rfl (Nat.le_of_ble_eq_true rfl) rfl fun cx _ _ => ?_
  refine AWP.seq ?_
  refine AWP.region ?_
  refine OPS.p rfl (st_assign rfl) ?_
  refine OPS.p rfl (st_assign rfl) ?_
  refine OPS.nil ?_
  refine AWP.seq ?_
  refine AWP.seq ?_
  refine AWP.region ?_
  refine OPS.p rfl (st_move rfl) ?_
  refine OPS.p rfl (st_len un22 rfl rfl) ?_
  refine OPS.nil ?_
  refine AWP.block ?_
  refine AWP.seq ?_
  refine AWP.region ?_
  refine OPS.p rfl (st_eql rfl rfl) ?_
  refine OPS.p rfl (st_assign rfl) ?_
  refine OPS.nil ?_
  refine AWP.condD rfl (fun hc2 => ?_) (fun hc2 => ?_)
  · refine AWP.seq ?_
    refine AWP.region ?_
    refine OPS.p rfl (st_assign rfl) ?_
    refine OPS.p rfl (st_assign rfl) ?_
    refine OPS.nil ?_
    refine AWP.ret ?_
    have : l = [] := List.eq_nil_of_length_eq_zero (by omega)
    subst this
    rfl
  · refine AWP.seq ?_
    refine AWP.region ?_
    refine OPS.p rfl (st_eql rfl rfl) ?_
    refine OPS.p rfl (st_assign rfl) ?_
    refine OPS.nil ?_
    refine AWP.condD rfl (fun hc4 => ?_) (fun hc4 => ?_)
    · refine AWP.seq ?_
      refine AWP.region ?_
      refine OPS.p rfl (st_move rfl) ?_
      refine OPS.p rfl (by exact st_index_I es22 rfl rfl (by omega) (by omega) (by rfl)) ?_
      refine OPS.p rfl (by exact st_load_In sc3 rfl rfl (by (simp; omega))) ?_
      refine OPS.p rfl (st_assign rfl) ?_
      refine OPS.p rfl (st_assign rfl) ?_
      refine OPS.nil ?_
      refine AWP.ret ?_
      match l, hc4 with
      | [a], _ => exact Ret.mk2 rfl (by simp [dval]) (by simp)
    · refine AWP.seq ?_
      refine AWP.region ?_
      refine OPS.p rfl (st_eql rfl rfl) ?_
      refine OPS.p rfl (st_assign rfl) ?_
      refine OPS.nil ?_
      refine AWP.condD rfl (fun hc6 => ?_) (fun hc6 => ?_)
      · refine AWP.seq ?_
        refine AWP.drw mixed ?_
        refine DRW.p rfl (st_move rfl) ?_
        refine DRW.p rfl (by exact st_index_I es22 rfl rfl (by omega) (by omega) (by rfl)) ?_
        refine DRW.p rfl (by exact st_load_In sc3 rfl rfl (by (simp; omega))) ?_
        refine DRW.p rfl (st_mul_i rfl rfl (by simp only [Int.toNat_one]; omega) (by simp only [Int.toNat_one]; omega)) ?_
        refine DRW.p rfl (st_move rfl) ?_
        refine DRW.p rfl (by exact st_index_I es22 rfl rfl (by omega) (by omega) (by rfl)) ?_
        refine DRW.p rfl (by exact st_load_In sc3 rfl rfl (by (simp; omega))) ?_
        refine DRW.p rfl (st_add_i rfl rfl (by simp only [Int.toNat_zero, Int.toNat_one]; omega) (by simp only [Int.toNat_zero, Int.toNat_one]; omega)) ?_
        refine DRW.p rfl (st_assign rfl) ?_
        refine DRW.p rfl (st_assign rfl) ?_
        refine DRW.nil (by kernel_rfl) ?_
        refine AWP.ret ?_
        match l, hc6 with
        | [a, b], _ => exact Ret.mk2 rfl (by simp [dval]; omega) (by simp)
      · refine AWP.skip ?_
        refine AWP.seq ?_
        refine AWP.region ?_
        refine OPS.p rfl (st_assign rfl) ?_
        refine OPS.p rfl (st_assign rfl) ?_
        refine OPS.nil ?_
        refine AWP.ret ?_
        refine Ret.mk2 rfl ?_ ?_
        · rw [if_neg (by omega)]
        · rw [decide_eq_false (by omega)]
end Go.Proofs.Gh.Tryz
end
section
set_option linter.unusedVariables false
set_option linter.unusedSimpArgs false
set_option maxRecDepth 4000
namespace Go.Proofs.Gh.Tryz
open Go Go.Proofs Go.Proofs.Gh

theorem getD_headD {l : List Int} (i : Nat) : (l.drop i).headD 0 = l.getD i 0 := by
  rw [List.headD_eq_head?_getD, List.head?_drop, List.getD_eq_getElem?_getD]
theorem getD_over {l : List Int} {i : Nat} (h : l.length ≤ i) : l.getD i 0 = 0 := by simp [List.getD_eq_getElem?_getD, h]
/-- A further digit. -/
theorem set_take {o : List Int} {i : Nat} (h : i < o.length) (v : Int) : (o.set i v).take (i + 1) = o.take i ++ [v] := by
  rw [List.take_add_one, List.take_set_of_le (by omega)]
  simp [h]

theorem set_drop {o : List Int} {i : Nat} (h : i < o.length) (v : Int) : (o.set i v).drop i = v :: o.drop (i + 1) := by
  rw [List.drop_eq_getElem_cons (by simpa using h)]
  simp [List.drop_set_of_lt]

theorem k_plus (a b : List Int) (ha : Dig a) (hb : Dig b) (hla : a.length ≤ 2199023255552) (hlb : b.length ≤ 2199023255552) : PureC Tryz.prog 222 [pL a, pL b] (pL (if a.length < b.length then plusL b a 0 else plusL a b 0)) := by
  refine PureC.of Tryz.func222 rfl Tryz.ntmps222 (vs := [.tmp 4]) rfl (Nat.le_of_ble_eq_true rfl) rfl fun cx _ _ => ?_
  refine AWP.seq ?_
  refine AWP.region ?_
  refine OPS.p rfl (st_assign rfl) ?_
  refine OPS.nil ?_
  refine AWP.seq ?_
  refine AWP.seq ?_
  refine AWP.region ?_
  refine OPS.p rfl (st_move rfl) ?_
  refine OPS.p rfl (st_len un22 rfl rfl) ?_
  refine OPS.p rfl (st_move rfl) ?_
  refine OPS.p rfl (st_len un22 rfl rfl) ?_
  refine OPS.p rfl (st_lss rfl rfl) ?_
  refine OPS.nil ?_
  refine AWP.mono (n := fun s' => ∃ zz : List Int × List Int, SubR (loOf cx) s' ((fun (zz : List Int × List Int) => ⟨[(0, pL zz.1), (1, pL zz.2), (4, .nilS)], [], 0⟩) zz) ∧ (fun (zz : List Int × List Int) => Dig zz.1 ∧ Dig zz.2 ∧ zz.2.length ≤ zz.1.length ∧ zz.1.length ≤ 2199023255552 ∧ plusL zz.1 zz.2 0 = (if a.length < b.length then plusL b a 0 else plusL a b 0)) zz) ?_ ?_
  · refine AWP.condD rfl (fun hc1 => ?_) (fun hc1 => ?_)
    · refine AWP.region ?_
      refine OPS.p rfl (st_move rfl) ?_
      refine OPS.p rfl (st_move rfl) ?_
      refine OPS.p rfl (st_assign rfl) ?_
      refine OPS.p rfl (st_assign rfl) ?_
      refine OPS.nil ?_
      refine ⟨(b, a), (Sub.r (Sub.mk' ⟨(by rfl), (by rfl), (by rfl), trivial⟩ trivial (by exact Nat.le_refl _))), ?_⟩
      try dsimp only
      exact ⟨hb, ha, by omega, hlb, by rw [if_pos (by omega)]⟩
    · refine AWP.skip ?_
      refine ⟨(a, b), (Sub.r (Sub.mk' ⟨(by rfl), (by rfl), (by rfl), trivial⟩ trivial (by exact Nat.le_refl _))), ?_⟩
      try dsimp only
      exact ⟨ha, hb, by omega, hla, by rw [if_neg (by omega)]⟩
  · rintro s' ⟨⟨x, y⟩, hsub, hinv⟩
    have hinv : Dig x ∧ Dig y ∧ y.length ≤ x.length ∧ x.length ≤ 2199023255552 ∧ plusL x y 0 = (if a.length < b.length then plusL b a 0 else plusL a b 0) := hinv
    obtain ⟨hx, hy, hyx, hlx, hres⟩ := id hinv
    refine AWP.subR hsub ?_
    show AWP _ _ _ _ _ _ _ ⟨[(0, pL x), (1, pL y), (4, .nilS)], [], 0⟩
    refine AWP.seq ?_
    rw [← hres]
    refine AWP.region ?_
    refine OPS.p rfl (st_move rfl) ?_
    refine OPS.p rfl (st_len un22 rfl rfl) ?_
    refine OPS.p rfl (by exact st_add_i rfl rfl (by omega) (by omega)) ?_
    refine OPS.a rfl (st_make_I ei22 rfl rfl (by omega) (by (simp; omega)) (by omega)) ?_
    refine OPS.p rfl (st_assign rfl) ?_
    refine OPS.nil ?_
    refine AWP.seq ?_
    refine AWP.region ?_
    refine OPS.p rfl (st_assign rfl) ?_
    refine OPS.nil ?_
    refine AWP.seq ?_
    refine AWP.seq ?_
    refine AWP.region ?_
    refine OPS.p rfl (st_move rfl) ?_
    refine OPS.p rfl (st_len un22 rfl rfl) ?_
    refine OPS.p rfl (st_move rfl) ?_
    refine OPS.nil ?_
    refine AWP.block ?_
    refine AWP.loopR (σ := Nat × Int × List Int) (fun (zz : Nat × Int × List Int) => ⟨[(0, pL x), (1, pL y), (5, .own 0 (x.length + 1)), (6, pI zz.2.1), (21, pL x), (22, pI x.length), (23, pI zz.1)], [(0, .arr 3 1 (x.length + 1) (fIs zz.2.2))], 1⟩) (fun (zz : Nat × Int × List Int) => zz.1 ≤ x.length ∧ zz.2.2.length = x.length + 1 ∧ 0 ≤ zz.2.1 ∧ zz.2.1 ≤ 1 ∧ zz.2.2.take zz.1 ++ plusL (x.drop zz.1) (y.drop zz.1) zz.2.1 = plusL x y 0) (fun (zz : Nat × Int × List Int) => x.length - zz.1) (0, 0, List.replicate (x.length + 1) 0) (Sub.r (Sub.mk' ⟨(by rfl), (by rfl), (by rfl), (by rfl), (by rfl), (by rfl), (by rfl), trivial⟩ ⟨(by rfl), trivial⟩ (by exact Nat.le_refl _))) (by (dsimp only; exact ⟨by omega, by simp, by omega, by omega, by simp⟩)) ?_
    rintro ⟨i, c, o⟩ hinv
    have hinv : i ≤ x.length ∧ o.length = x.length + 1 ∧ 0 ≤ c ∧ c ≤ 1 ∧ o.take i ++ plusL (x.drop i) (y.drop i) c = plusL x y 0 := hinv
    obtain ⟨h1, h2, h3, h4, h5⟩ := hinv
    show AWP _ _ _ _ _ _ _ ⟨[(0, pL x), (1, pL y), (5, .own 0 (x.length + 1)), (6, pI c), (21, pL x), (22, pI x.length), (23, pI i)], [(0, .arr 3 1 (x.length + 1) (fIs o))], 1⟩
    refine AWP.seq ?_
    refine AWP.region ?_
    refine OPS.p rfl (st_lss rfl rfl) ?_
    refine OPS.nil ?_
    refine AWP.seq ?_
    refine AWP.condD rfl (fun hc6 => ?_) (fun hc6 => ?_)
    · have hi : i < x.length := by omega
      have hxi := hx.get i
      have hyi := hy.get i
      refine AWP.skip ?_
      refine AWP.seq ?_
      refine AWP.block ?_
      refine AWP.seq ?_
      refine AWP.region ?_
      refine OPS.p rfl (st_move rfl) ?_
      refine OPS.p rfl (by exact st_index_I es22 rfl rfl (by omega) (by omega) (by rfl)) ?_
      refine OPS.p rfl (by exact st_load_In sc3 rfl rfl (by omega)) ?_
      refine OPS.p rfl (st_assign rfl) ?_
      refine OPS.p rfl (st_assign rfl) ?_
      refine OPS.nil ?_
      refine AWP.seq ?_
      refine AWP.region ?_
      refine OPS.p rfl (st_move rfl) ?_
      refine OPS.p rfl (st_move rfl) ?_
      refine OPS.p rfl (by exact st_add_i rfl rfl (by omega) (by omega)) ?_
      refine OPS.p rfl (st_assign rfl) ?_
      refine OPS.nil ?_
      refine AWP.seq ?_
      refine AWP.seq ?_
      refine AWP.region ?_
      refine OPS.p rfl (st_move rfl) ?_
      refine OPS.p rfl (st_move rfl) ?_
      refine OPS.p rfl (st_len un22 rfl rfl) ?_
      refine OPS.p rfl (st_lss rfl rfl) ?_
      refine OPS.nil ?_
      refine AWP.mono (n := fun s' => ∃ zz : Int, SubR (loOf cx) s' ((fun (zz : Int) => ⟨[(0, pL x), (1, pL y), (5, .own 0 (x.length + 1)), (7, pI i), (9, pI zz), (21, pL x), (22, pI x.length), (23, pI i)], [(0, .arr 3 1 (x.length + 1) (fIs o))], 1⟩) zz) ∧ (fun (zz : Int) => zz = x.getD i 0 + c + (y.drop i).headD 0) zz) ?_ ?_
      · refine AWP.condD rfl (fun hc9 => ?_) (fun hc9 => ?_)
        · refine AWP.region ?_
          refine OPS.p rfl (st_move rfl) ?_
          refine OPS.p rfl (st_move rfl) ?_
          refine OPS.p rfl (st_move rfl) ?_
          refine OPS.p rfl (by exact st_index_I es22 rfl rfl (by omega) (by omega) (by rfl)) ?_
          refine OPS.p rfl (by exact st_load_In sc3 rfl rfl (by omega)) ?_
          refine OPS.p rfl (by exact st_add_i rfl rfl (by omega) (by omega)) ?_
          refine OPS.p rfl (st_assign rfl) ?_
          refine OPS.nil ?_
          refine ⟨(x.getD i 0 + c + y.getD i 0), (Sub.r (Sub.mk' ⟨(by rfl), (by rfl), (by rfl), (by rfl), (by rfl), (by rfl), (by rfl), (by rfl), trivial⟩ ⟨(by rfl), trivial⟩ (by exact Nat.le_refl _))), ?_⟩
          try dsimp only
          rw [getD_headD]
        · refine AWP.skip ?_
          refine ⟨(x.getD i 0 + c), (Sub.r (Sub.mk' ⟨(by rfl), (by rfl), (by rfl), (by rfl), (by rfl), (by rfl), (by rfl), (by rfl), trivial⟩ ⟨(by rfl), trivial⟩ (by exact Nat.le_refl _))), ?_⟩
          try dsimp only
          rw [getD_headD, getD_over (l := y) (i := i) (by omega)]; omega
      · rintro s' ⟨v, hsub, hinv⟩
        have hinv : v = x.getD i 0 + c + (y.drop i).headD 0 := hinv
        obtain hv := id hinv
        refine AWP.subR hsub ?_
        show AWP _ _ _ _ _ _ _ ⟨[(0, pL x), (1, pL y), (5, .own 0 (x.length + 1)), (7, pI i), (9, pI v), (21, pL x), (22, pI x.length), (23, pI i)], [(0, .arr 3 1 (x.length + 1) (fIs o))], 1⟩
        have hyd := getD_headD (l := y) i
        refine AWP.seq ?_
        refine AWP.region ?_
        refine OPS.p rfl (st_assign rfl) ?_
        refine OPS.nil ?_
        refine AWP.seq ?_
        refine AWP.seq ?_
        refine AWP.region ?_
        refine OPS.p rfl (st_move rfl) ?_
        refine OPS.p rfl (st_geq rfl rfl) ?_
        refine OPS.nil ?_
        refine AWP.mono (n := fun s' => ∃ zz : Int × Int, SubR (loOf cx) s' ((fun (zz : Int × Int) => ⟨[(0, pL x), (1, pL y), (5, .own 0 (x.length + 1)), (6, pI zz.2), (7, pI i), (9, pI zz.1), (21, pL x), (22, pI x.length), (23, pI i)], [(0, .arr 3 1 (x.length + 1) (fIs o))], 1⟩) zz) ∧ (fun (zz : Int × Int) => 0 ≤ zz.2 ∧ zz.2 ≤ 1 ∧ plusL (x.drop i) (y.drop i) c = zz.1 :: plusL (x.drop (i + 1)) (y.drop (i + 1)) zz.2) zz) ?_ ?_
        · refine AWP.condD rfl (fun hc12 => ?_) (fun hc12 => ?_)
          · refine AWP.region ?_
            refine OPS.p rfl (st_move rfl) ?_
            refine OPS.p rfl (by exact st_sub_i rfl rfl (by omega) (by omega)) ?_
            refine OPS.p rfl (st_assign rfl) ?_
            refine OPS.p rfl (st_assign rfl) ?_
            refine OPS.nil ?_
            refine ⟨(v - 1000000000, 1), (Sub.r (Sub.mk' ⟨(by rfl), (by rfl), (by rfl), (by rfl), (by rfl), (by rfl), (by rfl), (by rfl), (by rfl), trivial⟩ ⟨(by rfl), trivial⟩ (by exact Nat.le_refl _))), ?_⟩
            try dsimp only
            refine ⟨by omega, by omega, ?_⟩
            rw [drop_cons hi, plusL, if_pos (by omega), List.tail_drop, hinv]
          · refine AWP.skip ?_
            refine ⟨(v, 0), (Sub.r (Sub.mk' ⟨(by rfl), (by rfl), (by rfl), (by rfl), (by rfl), (by rfl), (by rfl), (by rfl), (by rfl), trivial⟩ ⟨(by rfl), trivial⟩ (by exact Nat.le_refl _))), ?_⟩
            try dsimp only
            refine ⟨by omega, by omega, ?_⟩
            rw [drop_cons hi, plusL, if_neg (by omega), List.tail_drop, hv]
        · rintro s' ⟨⟨w, c'⟩, hsub, hinv⟩
          have hinv : 0 ≤ c' ∧ c' ≤ 1 ∧ plusL (x.drop i) (y.drop i) c = w :: plusL (x.drop (i + 1)) (y.drop (i + 1)) c' := hinv
          obtain ⟨hc0, hc1, hpl⟩ := id hinv
          refine AWP.subR hsub ?_
          show AWP _ _ _ _ _ _ _ ⟨[(0, pL x), (1, pL y), (5, .own 0 (x.length + 1)), (6, pI c'), (7, pI i), (9, pI w), (21, pL x), (22, pI x.length), (23, pI i)], [(0, .arr 3 1 (x.length + 1) (fIs o))], 1⟩
          refine AWP.region ?_
          refine OPS.p rfl (st_move rfl) ?_
          refine OPS.p rfl (st_move rfl) ?_
          refine OPS.p rfl (st_move rfl) ?_
          refine OPS.p rfl (by exact st_index_a es22 rfl rfl rfl (by omega) (by omega)) ?_
          refine OPS.s (by exact st_store_oIn sz3 rfl rfl rfl rfl (by omega)) ?_
          refine OPS.nil ?_
          refine AWP.region ?_
          refine OPS.p rfl (by exact st_add_i rfl rfl (by omega) (by omega)) ?_
          refine OPS.p rfl (st_move rfl) ?_
          refine OPS.nil ?_
          refine ⟨(i + 1, c', o.set i w), (Sub.r (Sub.mk' ⟨(by rfl), (by rfl), (by rfl), (by rfl), (by rfl), (by rfl), (by rfl), trivial⟩ ⟨(by rfl), trivial⟩ (by exact Nat.le_refl _))), ?_, ?_⟩
          · try dsimp only
            refine ⟨by omega, by rw [List.length_set]; exact h2, hc0, hc1, ?_⟩
            rw [set_take (by omega), List.append_assoc, List.singleton_append, ← hpl, h5]
          · try dsimp only
            omega
    · refine AWP.exit ?_
      refine AWP.seq ?_
      refine AWP.region ?_
      refine OPS.p rfl (st_move rfl) ?_
      refine OPS.p rfl (st_move rfl) ?_
      refine OPS.p rfl (st_len un22 rfl rfl) ?_
      refine OPS.p rfl (st_move rfl) ?_
      refine OPS.p rfl (by exact st_index_a es22 rfl rfl rfl (by omega) (by omega)) ?_
      refine OPS.s (by exact st_store_oIn sz3 rfl rfl rfl rfl (by omega)) ?_
      refine OPS.nil ?_
      refine AWP.seq ?_
      have hi : i = x.length := by omega
      subst hi
      refine AWP.freeze 0 [5] rfl ⟨rfl, trivial⟩ ?_
      refine AWP.region ?_
      refine OPS.p rfl (st_move rfl) ?_
      refine OPS.p rfl (st_assign rfl) ?_
      refine OPS.nil ?_
      refine AWP.ret ?_
      refine Ret.mk rfl ?_
      have e : o.set x.length c = plusL x y 0 := by
        rw [← h5, List.drop_length, plusL, ← set_take (by omega), List.take_of_length_le (by simp; omega)]
      rw [e, pL, plusL_len]

/-- The rest from which a digit may have been borrowed. -/
def decL (c : Int) : List Int → List Int
  | [] => []
  | d :: l => (d - c) :: l
theorem decL_zero (l : List Int) : decL 0 l = l := by cases l <;> simp [decL]
theorem decL_len (c : Int) (l : List Int) : (decL c l).length = l.length := by cases l <;> rfl

theorem k_minus (a b : List Int) (ha : Dig a) (hb : Dig b) (hla : a.length ≤ 2199023255552) (hba : b.length ≤ a.length) (hle : dval b ≤ dval a) : PureC Tryz.prog 224 [pL a, pL b] (pL (minusL a b 0)) := by
  refine PureC.of Tryz.func224 rfl Tryz.ntmps224 (vs := [.tmp 4]) rfl (Nat.le_of_ble_eq_true rfl) rfl fun cx _ _ => ?_
  refine AWP.seq ?_
  refine AWP.region ?_
  refine OPS.p rfl (st_assign rfl) ?_
  refine OPS.nil ?_
  refine AWP.seq ?_
  refine AWP.region ?_
  refine OPS.p rfl (st_move rfl) ?_
  refine OPS.p rfl (st_len un22 rfl rfl) ?_
  refine OPS.a rfl (st_make_I ei22 rfl rfl (by omega) (by (simp; omega)) (by omega)) ?_
  refine OPS.p rfl (st_assign rfl) ?_
  refine OPS.nil ?_
  refine AWP.seq ?_
  refine AWP.region ?_
  refine OPS.p rfl (st_move rfl) ?_
  refine OPS.p rfl (st_move rfl) ?_
  refine OPS.w rfl (by exact st_copy_all es22 rfl rfl rfl (by simp [fIs]) (by simp [fIs, reps])) ?_
  refine OPS.nil ?_
  refine AWP.seq ?_
  refine AWP.seq ?_
  refine AWP.region ?_
  refine OPS.p rfl (st_move rfl) ?_
  refine OPS.p rfl (st_len un22 rfl rfl) ?_
  refine OPS.p rfl (st_move rfl) ?_
  refine OPS.nil ?_
  refine AWP.block ?_
  refine AWP.loopR (σ := Nat × Int × List Int) (fun (zz : Nat × Int × List Int) => ⟨[(0, pL a), (1, pL b), (5, .own 0 a.length), (14, pI a.length), (15, pI zz.1)], [(0, .arr 3 1 a.length (fIs zz.2.2))], 1⟩) (fun (zz : Nat × Int × List Int) => zz.1 ≤ a.length ∧ zz.2.2.length = a.length ∧ 0 ≤ zz.2.1 ∧ zz.2.1 ≤ 1 ∧ zz.2.2.drop zz.1 = decL zz.2.1 (a.drop zz.1) ∧ dval (b.drop zz.1) + zz.2.1 ≤ dval (a.drop zz.1) ∧ zz.2.2.take zz.1 ++ minusL (a.drop zz.1) (b.drop zz.1) zz.2.1 = minusL a b 0) (fun (zz : Nat × Int × List Int) => a.length - zz.1) (0, 0, a) (Sub.r (Sub.mk' ⟨(by rfl), (by rfl), (by rfl), (by rfl), (by rfl), trivial⟩ ⟨(by rfl), trivial⟩ (by exact Nat.le_refl _))) (by (dsimp only; exact ⟨by omega, rfl, by omega, by omega, by rw [decL_zero], by simpa using hle, by simp⟩)) ?_
  rintro ⟨i, c, o⟩ hinv
  have hinv : i ≤ a.length ∧ o.length = a.length ∧ 0 ≤ c ∧ c ≤ 1 ∧ o.drop i = decL c (a.drop i) ∧ dval (b.drop i) + c ≤ dval (a.drop i) ∧ o.take i ++ minusL (a.drop i) (b.drop i) c = minusL a b 0 := hinv
  obtain ⟨h1, h2, h3, h4, h5, h6, h7⟩ := hinv
  show AWP _ _ _ _ _ _ _ ⟨[(0, pL a), (1, pL b), (5, .own 0 a.length), (14, pI a.length), (15, pI i)], [(0, .arr 3 1 a.length (fIs o))], 1⟩
  refine AWP.seq ?_
  refine AWP.region ?_
  refine OPS.p rfl (st_lss rfl rfl) ?_
  refine OPS.nil ?_
  refine AWP.seq ?_
  refine AWP.condD rfl (fun hc4 => ?_) (fun hc4 => ?_)
  · have hi : i < a.length := by omega
    have hai := ha.get i
    have hbi := hb.get i
    have hda := ha.drop (i + 1)
    have hdb := hb.drop (i + 1)
    have hoi : o.getD i 0 = a.getD i 0 - c := by
      have := congrArg (fun l => l.headD 0) h5
      simp only [drop_cons hi, decL, getD_headD] at this
      simpa using this
    have hot : o.drop (i + 1) = a.drop (i + 1) := by
      have := congrArg List.tail h5
      simpa [drop_cons hi, decL] using this
    have hbd : dval (b.drop i) = b.getD i 0 + 1000000000 * dval (b.drop (i + 1)) := by
      by_cases hlt : i < b.length
      · rw [drop_cons hlt, dval]
      · rw [List.drop_of_length_le (by omega), List.drop_of_length_le (by omega), getD_over (by omega)]; rfl
    rw [hbd, drop_cons hi, dval] at h6
    rw [drop_cons hi, minusL, List.tail_drop, getD_headD] at h7
    refine AWP.skip ?_
    refine AWP.seq ?_
    refine AWP.block ?_
    refine AWP.seq ?_
    refine AWP.region ?_
    refine OPS.p rfl (st_move rfl) ?_
    refine OPS.p rfl (st_assign rfl) ?_
    refine OPS.nil ?_
    refine AWP.seq ?_
    refine AWP.seq ?_
    refine AWP.region ?_
    refine OPS.p rfl (st_move rfl) ?_
    refine OPS.p rfl (st_move rfl) ?_
    refine OPS.p rfl (st_len un22 rfl rfl) ?_
    refine OPS.p rfl (st_lss rfl rfl) ?_
    refine OPS.nil ?_
    refine AWP.mono (n := fun s' => ∃ zz : Int, SubR (loOf cx) s' ((fun (zz : Int) => ⟨[(0, pL a), (1, pL b), (5, .own 0 a.length), (6, pI i), (14, pI a.length), (15, pI i)], [(0, .arr 3 1 a.length (fIs (o.set i zz)))], 1⟩) zz) ∧ (fun (zz : Int) => zz = a.getD i 0 - c - b.getD i 0) zz) ?_ ?_
    · refine AWP.condD rfl (fun hc6 => ?_) (fun hc6 => ?_)
      · refine AWP.drw mixed ?_
        refine DRW.p rfl (st_move rfl) ?_
        refine DRW.p rfl (st_move rfl) ?_
        refine DRW.p rfl (by exact st_index_a es22 rfl rfl rfl (by omega) (by omega)) ?_
        refine DRW.p rfl (by exact st_load_oIn sc3 rfl rfl rfl (by omega)) ?_
        refine DRW.p rfl (st_move rfl) ?_
        refine DRW.p rfl (st_move rfl) ?_
        refine DRW.p rfl (by exact st_index_I es22 rfl rfl (by omega) (by omega) (by rfl)) ?_
        refine DRW.p rfl (by exact st_load_In sc3 rfl rfl (by omega)) ?_
        refine DRW.p rfl (by exact st_sub_i rfl rfl (by omega) (by omega)) ?_
        refine DRW.p rfl (by exact st_index_a es22 rfl rfl rfl (by omega) (by omega)) ?_
        refine DRW.s (by exact st_store_oIn sz3 rfl rfl rfl rfl (by omega)) ?_
        refine DRW.nil (by kernel_rfl) ?_
        refine ⟨(o.getD i 0 - b.getD i 0), (Sub.r (Sub.mk' ⟨(by rfl), (by rfl), (by rfl), (by rfl), (by rfl), (by rfl), trivial⟩ ⟨(by rfl), trivial⟩ (by exact Nat.le_refl _))), ?_⟩
        try dsimp only
        rw [hoi]
      · refine AWP.skip ?_
        refine ⟨(o.getD i 0), (Sub.r (Sub.mk' ⟨rfl, rfl, rfl, rfl, rfl, rfl, trivial⟩ ⟨by show some _ = some _; rw [List.getD_eq_getElem?_getD, List.getElem?_eq_getElem (by omega)]; simp, trivial⟩ (Nat.le_refl _))), ?_⟩
        try dsimp only
        rw [hoi, getD_over (l := b) (i := i) (by omega)]; omega
    · rintro s' ⟨v, hsub, hinv⟩
      have hinv : v = a.getD i 0 - c - b.getD i 0 := hinv
      obtain hv := id hinv
      refine AWP.subR hsub ?_
      show AWP _ _ _ _ _ _ _ ⟨[(0, pL a), (1, pL b), (5, .own 0 a.length), (6, pI i), (14, pI a.length), (15, pI i)], [(0, .arr 3 1 a.length (fIs (o.set i v)))], 1⟩
      have hg1 : (o.set i v).getD i 0 = v := by simp [List.getD_eq_getElem?_getD, show i < o.length by omega]
      refine AWP.seq ?_
      refine AWP.region ?_
      refine OPS.p rfl (st_move rfl) ?_
      refine OPS.p rfl (st_move rfl) ?_
      refine OPS.p rfl (by exact st_index_a es22 rfl rfl rfl (by omega) (by omega)) ?_
      refine OPS.p rfl ((st_load_oIn sc3 rfl rfl rfl (by rw [List.length_set]; omega)).val (congrArg pI hg1)) ?_
      refine OPS.p rfl (st_lss rfl rfl) ?_
      refine OPS.nil ?_
      refine AWP.condD rfl (fun hc8 => ?_) (fun hc8 => ?_)
      · have hi1 : i + 1 < a.length := by
          apply Nat.lt_of_not_le
          intro hge
          rw [List.drop_of_length_le hge] at h6
          have := dval_nonneg hdb
          simp only [dval] at h6
          omega
        have hai1 := ha.get (i + 1)
        have hg2 : ((o.set i v).set i (v + 1000000000)).getD (i + 1) 0 = a.getD (i + 1) 0 := by
          rw [List.set_set]
          have := congrArg (fun l => l.headD 0) hot
          simp only [getD_headD] at this
          rw [← this]
          simp [List.getD_eq_getElem?_getD]
        refine AWP.seq ?_
        refine AWP.region ?_
        refine OPS.p rfl (st_move rfl) ?_
        refine OPS.p rfl (st_move rfl) ?_
        refine OPS.p rfl (by exact st_index_a es22 rfl rfl rfl (by omega) (by omega)) ?_
        refine OPS.p rfl ((st_load_oIn sc3 rfl rfl rfl (by rw [List.length_set]; omega)).val (congrArg pI hg1)) ?_
        refine OPS.p rfl (by exact st_add_i rfl rfl (by omega) (by omega)) ?_
        refine OPS.p rfl (by exact st_index_a es22 rfl rfl rfl (by omega) (by omega)) ?_
        refine OPS.s (st_store_oIn sz3 rfl rfl rfl rfl (by rw [List.length_set]; omega)) ?_
        refine OPS.nil ?_
        refine AWP.region ?_
        refine OPS.p rfl (st_move rfl) ?_
        refine OPS.p rfl (st_move rfl) ?_
        refine OPS.p rfl (by exact st_add_i rfl rfl (by omega) (by omega)) ?_
        refine OPS.p rfl (by exact st_index_a es22 rfl rfl rfl (by omega) (by omega)) ?_
        refine OPS.p rfl ((st_load_oIn (i := i + 1) sc3 rfl rfl rfl (by rw [List.length_set, List.length_set]; omega)).val (congrArg pI hg2)) ?_
        refine OPS.p rfl (by exact st_sub_i rfl rfl (by omega) (by omega)) ?_
        refine OPS.p rfl (by exact st_index_a es22 rfl rfl rfl (by omega) (by omega)) ?_
        refine OPS.s (st_store_oIn (i := i + 1) sz3 rfl rfl rfl rfl (by rw [List.length_set, List.length_set]; omega)) ?_
        refine OPS.nil ?_
        refine AWP.region ?_
        refine OPS.p rfl (by exact st_add_i rfl rfl (by omega) (by omega)) ?_
        refine OPS.p rfl (st_move rfl) ?_
        refine OPS.nil ?_
        refine ⟨(i + 1, 1, ((o.set i v).set i (v + 1000000000)).set (i + 1) (a.getD (i + 1) 0 - 1)), (Sub.r (Sub.mk' ⟨(by rfl), (by rfl), (by rfl), (by rfl), (by rfl), trivial⟩ ⟨(by rfl), trivial⟩ (by exact Nat.le_refl _))), ?_, ?_⟩
        · try dsimp only
          rw [if_pos (by omega)] at h7
          rw [List.set_set]
          refine ⟨by omega, by simp [h2], by omega, by omega, ?_, by omega, ?_⟩
          · rw [set_drop (by simp; omega), drop_cons hi1, decL]
            congr 1
            have := congrArg List.tail hot
            rw [List.tail_drop, List.tail_drop] at this
            rw [← this, List.drop_set_of_lt (by omega)]
          · rw [List.take_set_of_le (by omega), set_take (by omega), List.append_assoc, List.singleton_append, hv, h7]
        · try dsimp only
          omega
      · refine AWP.skip ?_
        refine AWP.region ?_
        refine OPS.p rfl (by exact st_add_i rfl rfl (by omega) (by omega)) ?_
        refine OPS.p rfl (st_move rfl) ?_
        refine OPS.nil ?_
        refine ⟨(i + 1, 0, o.set i v), (Sub.r (Sub.mk' ⟨(by rfl), (by rfl), (by rfl), (by rfl), (by rfl), trivial⟩ ⟨(by rfl), trivial⟩ (by exact Nat.le_refl _))), ?_, ?_⟩
        · try dsimp only
          rw [if_neg (by omega)] at h7
          refine ⟨by omega, by simp [h2], by omega, by omega, ?_, by omega, ?_⟩
          · rw [decL_zero, ← hot, List.drop_set_of_lt (by omega)]
          · rw [set_take (by omega), List.append_assoc, List.singleton_append, hv, h7]
        · try dsimp only
          omega
  · refine AWP.exit ?_
    refine AWP.seq ?_
    have hi : i = a.length := by omega
    subst hi
    refine AWP.freeze 0 [5] rfl ⟨rfl, trivial⟩ ?_
    refine AWP.region ?_
    refine OPS.p rfl (st_move rfl) ?_
    refine OPS.p rfl (st_assign rfl) ?_
    refine OPS.nil ?_
    refine AWP.ret ?_
    refine Ret.mk rfl ?_
    have e : o = minusL a b 0 := by
      rw [← h7, List.drop_length, minusL, List.append_nil, List.take_of_length_le (by omega)]
    rw [e, pL, minusL_len]
end Go.Proofs.Gh.Tryz
end
section
set_option linter.unusedVariables false
set_option linter.unusedSimpArgs false
set_option maxRecDepth 4000
namespace Go.Proofs.Gh.Tryz
open Go Go.Proofs Go.Proofs.Gh

theorem plusL_if {a b : List Int} (ha : Dig a) (hb : Dig b) : dval (if a.length < b.length then plusL b a 0 else plusL a b 0) = dval a + dval b ∧ Dig (if a.length < b.length then plusL b a 0 else plusL a b 0) ∧ (if a.length < b.length then plusL b a 0 else plusL a b 0).length ≤ max a.length b.length + 1 := by
  split
  · exact ⟨by rw [plusL_val (by omega)]; omega, plusL_dig hb ha (by omega) (by omega), by rw [plusL_len]; omega⟩
  · exact ⟨by rw [plusL_val (by omega)]; omega, plusL_dig ha hb (by omega) (by omega), by rw [plusL_len]; omega⟩
theorem minusL_nat {a b : Nat} (h : b ≤ a) : dval (minusL (digs a) (digs b) 0) = (a : Int) - b ∧ Dig (minusL (digs a) (digs b) 0) := by
  obtain ⟨h1, h2⟩ := minusL_val (c := 0) (digs_dig a) (digs_dig b) (by omega) (by omega) (digs_len_mono h) (by rw [dval_digs, dval_digs]; omega)
  rw [dval_digs, dval_digs] at h1
  exact ⟨by omega, h2⟩
theorem cmpI_neg {a b : Int} : cmpI a b < 0 ↔ a < b := by unfold cmpI; split <;> (try split) <;> omega

theorem k_Add (x y : Int) (hx : Fit x.natAbs) (hy : Fit y.natAbs) : PureC Tryz.prog 101 [pZ x, pZ y] (pZ (x + y)) := by
  have hlx := hx.len
  have hly := hy.len
  have hp := plusL_if (iD_dig x) (iD_dig y)
  rw [iD_val, iD_val] at hp
  refine PureC.of Tryz.func101 rfl Tryz.ntmps101 (vs := [.cell 4 29]) rfl (Nat.le_of_ble_eq_true rfl) rfl fun cx _ _ => ?_
  refine AWP.seq ?_
  refine AWP.region ?_
  refine OPS.a rfl (st_box rfl rfl) ?_
  refine OPS.a rfl (st_box rfl rfl) ?_
  refine OPS.a rfl (st_alloc ze29) ?_
  refine OPS.nil ?_
  refine AWP.seq ?_
  refine AWP.block ?_
  refine AWP.seq ?_
  refine AWP.region ?_
  refine OPS.p rfl (by exact st_field_p off29_0 rfl) ?_
  refine OPS.p rfl (by exact st_load_vs sc4 rfl rfl rfl) ?_
  refine OPS.p rfl (by exact st_field_p off29_0 rfl) ?_
  refine OPS.p rfl (by exact st_load_vs sc4 rfl rfl rfl) ?_
  refine OPS.p rfl (st_eql_b rfl rfl un4) ?_
  refine OPS.p rfl (st_assign rfl) ?_
  refine OPS.nil ?_
  refine AWP.cond rfl (fun hc1 => ?_) (fun hc1 => ?_)
  · refine AWP.seq ?_
    refine AWP.drw mixed ?_
    refine DRW.p rfl (by exact st_field_p off29_0 rfl) ?_
    refine DRW.p rfl (by exact st_load_vs sc4 rfl rfl rfl) ?_
    refine DRW.p rfl (by exact st_field_p off29_1 rfl) ?_
    refine DRW.p rfl (by exact st_load_vs sc22 rfl rfl rfl) ?_
    refine DRW.p rfl (by exact st_field_p off29_1 rfl) ?_
    refine DRW.p rfl (by exact st_load_vs sc22 rfl rfl rfl) ?_
    refine DRW.p rfl (st_call (L := [((.tmp 14), _), ((.tmp 16), _)]) false pl222 ⟨rfl, rfl, trivial⟩ rfl (k_plus (iD x) (iD y) (iD_dig x) (iD_dig y) (by omega) (by omega)) rfl) ?_
    refine DRW.p rfl (st_call (L := [((.tmp 12), _), ((.tmp 17), _)]) false pl221 ⟨rfl, rfl, trivial⟩ rfl (k_of _ _ (by omega) hp.2.1) rfl) ?_
    refine DRW.s (by exact st_store_v sz29 rfl rfl rfl rfl rfl rfl) ?_
    refine DRW.nil (by kernel_rfl) ?_
    refine AWP.ret ?_
    refine Ret.mk rfl (congrArg pZ ?_)
    rw [hp.1]
    have h : (x < 0 ↔ y < 0) := by simpa using hc1
    by_cases h0 : x < 0
    · have := h.1 h0; simp [sg, h0]; omega
    · have : ¬ y < 0 := fun h1 => h0 (h.2 h1)
      simp [sg, h0]; omega
  · refine AWP.seq ?_
    refine AWP.region ?_
    refine OPS.p rfl (by exact st_field_p off29_1 rfl) ?_
    refine OPS.p rfl (by exact st_load_vs sc22 rfl rfl rfl) ?_
    refine OPS.p rfl (by exact st_field_p off29_1 rfl) ?_
    refine OPS.p rfl (by exact st_load_vs sc22 rfl rfl rfl) ?_
    refine OPS.p rfl (st_call (L := [((.tmp 21), _), ((.tmp 23), _)]) false pl223 ⟨rfl, rfl, trivial⟩ rfl (k_compare x.natAbs y.natAbs hx hy) rfl) ?_
    refine OPS.p rfl (st_lss rfl rfl) ?_
    refine OPS.p rfl (st_assign rfl) ?_
    refine OPS.nil ?_
    refine AWP.condD rfl (fun hc3 => ?_) (fun hc3 => ?_)
    · have hlt : x.natAbs < y.natAbs := by have := cmpI_neg.1 hc3; omega
      have hm := minusL_nat (Nat.le_of_lt hlt)
      refine AWP.seq ?_
      refine AWP.drw mixed ?_
      refine DRW.p rfl (by exact st_field_p off29_0 rfl) ?_
      refine DRW.p rfl (by exact st_load_vs sc4 rfl rfl rfl) ?_
      refine DRW.p rfl (by exact st_field_p off29_1 rfl) ?_
      refine DRW.p rfl (by exact st_load_vs sc22 rfl rfl rfl) ?_
      refine DRW.p rfl (by exact st_field_p off29_1 rfl) ?_
      refine DRW.p rfl (by exact st_load_vs sc22 rfl rfl rfl) ?_
      refine DRW.p rfl (st_call (L := [((.tmp 29), _), ((.tmp 31), _)]) false pl224 ⟨rfl, rfl, trivial⟩ rfl (k_minus (digs y.natAbs) (digs x.natAbs) (iD_dig y) (iD_dig x) (Nat.le_trans hly (by omega)) (digs_len_mono (by omega)) (by rw [dval_digs, dval_digs]; omega)) rfl) ?_
      refine DRW.p rfl (st_call (L := [((.tmp 27), _), ((.tmp 32), _)]) false pl221 ⟨rfl, rfl, trivial⟩ rfl (k_of _ _ (by rw [minusL_len]; exact Nat.le_trans hly (by omega)) hm.2) rfl) ?_
      refine DRW.s (by exact st_store_v sz29 rfl rfl rfl rfl rfl rfl) ?_
      refine DRW.nil (by kernel_rfl) ?_
      refine AWP.ret ?_
      refine Ret.mk rfl (congrArg pZ ?_)
      rw [hm.1]
      have h : ¬ (x < 0 ↔ y < 0) := by simpa using hc1
      by_cases h0 : y < 0
      · have : ¬ x < 0 := fun h1 => h ⟨fun _ => h0, fun _ => h1⟩
        simp [sg, h0]; omega
      · simp [sg, h0]
        have : x < 0 := by
          apply Classical.byContradiction
          intro h1
          exact h ⟨fun h2 => absurd h2 h1, fun h2 => absurd h2 h0⟩
        omega
    · have hlt : y.natAbs ≤ x.natAbs := by
        have := mt cmpI_neg.2 hc3
        omega
      have hm := minusL_nat hlt
      refine AWP.skip ?_
      refine AWP.seq ?_
      refine AWP.drw mixed ?_
      refine DRW.p rfl (by exact st_field_p off29_0 rfl) ?_
      refine DRW.p rfl (by exact st_load_vs sc4 rfl rfl rfl) ?_
      refine DRW.p rfl (by exact st_field_p off29_1 rfl) ?_
      refine DRW.p rfl (by exact st_load_vs sc22 rfl rfl rfl) ?_
      refine DRW.p rfl (by exact st_field_p off29_1 rfl) ?_
      refine DRW.p rfl (by exact st_load_vs sc22 rfl rfl rfl) ?_
      refine DRW.p rfl (st_call (L := [((.tmp 37), _), ((.tmp 39), _)]) false pl224 ⟨rfl, rfl, trivial⟩ rfl (k_minus (digs x.natAbs) (digs y.natAbs) (iD_dig x) (iD_dig y) (Nat.le_trans hlx (by omega)) (digs_len_mono (by omega)) (by rw [dval_digs, dval_digs]; omega)) rfl) ?_
      refine DRW.p rfl (st_call (L := [((.tmp 35), _), ((.tmp 40), _)]) false pl221 ⟨rfl, rfl, trivial⟩ rfl (k_of _ _ (by rw [minusL_len]; exact Nat.le_trans hlx (by omega)) hm.2) rfl) ?_
      refine DRW.s (by exact st_store_v sz29 rfl rfl rfl rfl rfl rfl) ?_
      refine DRW.nil (by kernel_rfl) ?_
      refine AWP.ret ?_
      refine Ret.mk rfl (congrArg pZ ?_)
      rw [hm.1]
      have h : ¬ (x < 0 ↔ y < 0) := by simpa using hc1
      by_cases h0 : x < 0
      · have : ¬ y < 0 := fun h1 => h ⟨fun _ => h1, fun _ => h0⟩
        simp [sg, h0]; omega
      · simp [sg, h0]
        have : y < 0 := by
          apply Classical.byContradiction
          intro h1
          exact h ⟨fun h2 => absurd h2 h0, fun h2 => absurd h2 h1⟩
        omega

theorem k_Neg (x : Int) : PureC Tryz.prog 234 [pZ x] (pZ (-x)) := by
  have hn : iD (-x) = iD x := by simp [iD]
  have h0 := @iD_nil x
  refine PureC.of Tryz.func234 rfl Tryz.ntmps234 (vs := [.cell 2 29]) rfl (Nat.le_of_ble_eq_true rfl) rfl fun cx _ _ => ?_
  refine AWP.seq ?_
  refine AWP.region ?_
  refine OPS.a rfl (st_box rfl rfl) ?_
  refine OPS.a rfl (st_alloc ze29) ?_
  refine OPS.nil ?_
  refine AWP.seq ?_
  refine AWP.region ?_
  refine OPS.p rfl (by exact st_field_p off29_0 rfl) ?_
  refine OPS.p rfl (by exact st_load_vs sc4 rfl rfl rfl) ?_
  refine OPS.p rfl (by exact st_not_d rfl) ?_
  refine OPS.p rfl (st_move rfl) ?_
  refine OPS.split (g := 6) rfl (fun eg1_3 g1_3 => ?_) (fun eg1_3 g1_3 => ?_)
  · refine OPS.pG rfl rfl rfl eg1_3 (by exact st_field_p off29_1 rfl) ?_
    refine OPS.pG rfl rfl rfl eg1_3 (by exact st_load_vs sc22 rfl rfl rfl) ?_
    refine OPS.pG rfl rfl rfl eg1_3 (st_len un22 rfl rfl) ?_
    refine OPS.pG rfl rfl rfl eg1_3 (st_gtr rfl rfl) ?_
    refine OPS.p rfl (st_pickT rfl eg1_3 rfl) ?_
    refine OPS.p rfl (by exact st_field_p off29_0 rfl) ?_
    refine OPS.s (by exact st_store_v sz4 rfl rfl rfl rfl rfl rfl) ?_
    refine OPS.nil ?_
    refine AWP.seq ?_
    refine AWP.region ?_
    refine OPS.p rfl (by exact st_load_va ag29 rfl rfl rfl rfl) ?_
    refine OPS.s (by exact st_store_v sz29 rfl rfl rfl rfl rfl rfl) ?_
    refine OPS.nil ?_
    refine AWP.ret ?_
    refine Ret.mk rfl ?_
    rw [pZ, eI, hn]
    congr 3
    rw [decide_eq_decide]
    omega
  · refine OPS.nO rfl rfl rfl eg1_3 ?_
    refine OPS.nO rfl rfl rfl eg1_3 ?_
    refine OPS.nO rfl rfl rfl eg1_3 ?_
    refine OPS.nO rfl rfl rfl eg1_3 ?_
    refine OPS.p rfl (st_pickF rfl eg1_3 rfl) ?_
    refine OPS.p rfl (by exact st_field_p off29_0 rfl) ?_
    refine OPS.s (by exact st_store_v sz4 rfl rfl rfl rfl rfl rfl) ?_
    refine OPS.nil ?_
    refine AWP.seq ?_
    refine AWP.region ?_
    refine OPS.p rfl (by exact st_load_va ag29 rfl rfl rfl rfl) ?_
    refine OPS.s (by exact st_store_v sz29 rfl rfl rfl rfl rfl rfl) ?_
    refine OPS.nil ?_
    refine AWP.ret ?_
    refine Ret.mk rfl ?_
    rw [pZ, eI, hn]
    congr 3
    exact (decide_eq_false (by omega)).symm

theorem k_Compare (x y : Int) (hx : Fit x.natAbs) (hy : Fit y.natAbs) : PureC Tryz.prog 103 [pZ x, pZ y] (pI (cmpI x y)) := by
  refine PureC.of Tryz.func103 rfl Tryz.ntmps103 (vs := [.tmp 4]) rfl (Nat.le_of_ble_eq_true rfl) rfl fun cx _ _ => ?_
  refine AWP.seq ?_
  refine AWP.region ?_
  refine OPS.a rfl (st_box rfl rfl) ?_
  refine OPS.a rfl (st_box rfl rfl) ?_
  refine OPS.p rfl (st_assign rfl) ?_
  refine OPS.nil ?_
  refine AWP.seq ?_
  refine AWP.block ?_
  refine AWP.seq ?_
  refine AWP.region ?_
  refine OPS.p rfl (by exact st_field_p off29_0 rfl) ?_
  refine OPS.p rfl (by exact st_load_vs sc4 rfl rfl rfl) ?_
  refine OPS.p rfl (by exact st_field_p off29_0 rfl) ?_
  refine OPS.p rfl (by exact st_load_vs sc4 rfl rfl rfl) ?_
  refine OPS.p rfl (st_neq_b rfl rfl un4) ?_
  refine OPS.p rfl (st_move rfl) ?_
  refine OPS.splitB (g := 11) rfl (fun eg1_5 g1_5 => ?_) (fun eg1_5 g1_5 => ?_)
  · have h : ¬ (x < 0 ↔ y < 0) := by simpa using g1_5
    refine OPS.pG rfl rfl rfl eg1_5 (by exact st_field_p off29_0 rfl) ?_
    refine OPS.pG rfl rfl rfl eg1_5 (by exact st_load_vs sc4 rfl rfl rfl) ?_
    refine OPS.p rfl (st_pickT rfl eg1_5 rfl) ?_
    refine OPS.p rfl (st_assign rfl) ?_
    refine OPS.nil ?_
    refine AWP.condD rfl (fun hc1 => ?_) (fun hc1 => ?_)
    · refine AWP.seq ?_
      refine AWP.region ?_
      refine OPS.p rfl (st_assign rfl) ?_
      refine OPS.nil ?_
      refine AWP.ret ?_
      refine Ret.mk rfl (congrArg pI ?_)
      unfold cmpI
      (repeat' split) <;> omega
    · refine AWP.seq ?_
      refine AWP.region ?_
      refine OPS.p rfl (by exact st_field_p off29_0 rfl) ?_
      refine OPS.p rfl (by exact st_load_vs sc4 rfl rfl rfl) ?_
      refine OPS.p rfl (by exact st_field_p off29_0 rfl) ?_
      refine OPS.p rfl (by exact st_load_vs sc4 rfl rfl rfl) ?_
      refine OPS.p rfl (st_neq_b rfl rfl un4) ?_
      refine OPS.p rfl (st_assign rfl) ?_
      refine OPS.nil ?_
      refine AWP.cond_t rfl (eg1_5) ?_
      refine AWP.seq ?_
      refine AWP.region ?_
      refine OPS.p rfl (st_assign rfl) ?_
      refine OPS.nil ?_
      refine AWP.ret ?_
      refine Ret.mk rfl (congrArg pI ?_)
      unfold cmpI
      (repeat' split) <;> omega
  · have h : (x < 0 ↔ y < 0) := by simpa using g1_5
    refine OPS.nO rfl rfl rfl eg1_5 ?_
    refine OPS.nO rfl rfl rfl eg1_5 ?_
    refine OPS.p rfl (st_pickF rfl eg1_5 rfl) ?_
    refine OPS.p rfl (st_assign rfl) ?_
    refine OPS.nil ?_
    refine AWP.cond_f rfl (rfl) ?_
    refine AWP.seq ?_
    refine AWP.region ?_
    refine OPS.p rfl (by exact st_field_p off29_0 rfl) ?_
    refine OPS.p rfl (by exact st_load_vs sc4 rfl rfl rfl) ?_
    refine OPS.p rfl (by exact st_field_p off29_0 rfl) ?_
    refine OPS.p rfl (by exact st_load_vs sc4 rfl rfl rfl) ?_
    refine OPS.p rfl (st_neq_b rfl rfl un4) ?_
    refine OPS.p rfl (st_assign rfl) ?_
    refine OPS.nil ?_
    refine AWP.cond_f rfl (eg1_5) ?_
    refine AWP.seq ?_
    refine AWP.region ?_
    refine OPS.p rfl (by exact st_field_p off29_0 rfl) ?_
    refine OPS.p rfl (by exact st_load_vs sc4 rfl rfl rfl) ?_
    refine OPS.p rfl (st_assign rfl) ?_
    refine OPS.nil ?_
    refine AWP.condD rfl (fun hc5 => ?_) (fun hc5 => ?_)
    · refine AWP.seq ?_
      refine AWP.region ?_
      refine OPS.p rfl (by exact st_field_p off29_1 rfl) ?_
      refine OPS.p rfl (by exact st_load_vs sc22 rfl rfl rfl) ?_
      refine OPS.p rfl (by exact st_field_p off29_1 rfl) ?_
      refine OPS.p rfl (by exact st_load_vs sc22 rfl rfl rfl) ?_
      refine OPS.p rfl (st_call (L := [((.tmp 25), _), ((.tmp 27), _)]) false pl223 ⟨rfl, rfl, trivial⟩ rfl (k_compare y.natAbs x.natAbs hy hx) rfl) ?_
      refine OPS.p rfl (st_assign rfl) ?_
      refine OPS.nil ?_
      refine AWP.ret ?_
      refine Ret.mk rfl (congrArg pI ?_)
      unfold cmpI
      (repeat' split) <;> omega
    · refine AWP.skip ?_
      refine AWP.seq ?_
      refine AWP.region ?_
      refine OPS.p rfl (by exact st_field_p off29_1 rfl) ?_
      refine OPS.p rfl (by exact st_load_vs sc22 rfl rfl rfl) ?_
      refine OPS.p rfl (by exact st_field_p off29_1 rfl) ?_
      refine OPS.p rfl (by exact st_load_vs sc22 rfl rfl rfl) ?_
      refine OPS.p rfl (st_call (L := [((.tmp 30), _), ((.tmp 32), _)]) false pl223 ⟨rfl, rfl, trivial⟩ rfl (k_compare x.natAbs y.natAbs hx hy) rfl) ?_
      refine OPS.p rfl (st_assign rfl) ?_
      refine OPS.nil ?_
      refine AWP.ret ?_
      refine Ret.mk rfl (congrArg pI ?_)
      unfold cmpI
      (repeat' split) <;> omega

theorem k_Sign (x : Int) : PureC Tryz.prog 181 [pZ x] (pI x.sign) := by
  have h0 := @iD_nil x
  refine PureC.of Tryz.func181 rfl Tryz.ntmps181 (vs := [.tmp 2]) rfl (Nat.le_of_ble_eq_true rfl) rfl fun cx _ _ => ?_
  refine AWP.seq ?_
  refine AWP.region ?_
  refine OPS.a rfl (st_box rfl rfl) ?_
  refine OPS.p rfl (st_assign rfl) ?_
  refine OPS.nil ?_
  refine AWP.seq ?_
  refine AWP.block ?_
  refine AWP.seq ?_
  refine AWP.region ?_
  refine OPS.p rfl (by exact st_field_p off29_0 rfl) ?_
  refine OPS.p rfl (by exact st_load_vs sc4 rfl rfl rfl) ?_
  refine OPS.p rfl (st_assign rfl) ?_
  refine OPS.nil ?_
  refine AWP.condD rfl (fun hc1 => ?_) (fun hc1 => ?_)
  · refine AWP.seq ?_
    refine AWP.region ?_
    refine OPS.p rfl (st_assign rfl) ?_
    refine OPS.nil ?_
    refine AWP.ret ?_
    refine Ret.mk rfl (congrArg pI ?_)
    rw [Int.sign_eq_neg_one_of_neg hc1]
  · refine AWP.seq ?_
    refine AWP.region ?_
    refine OPS.p rfl (by exact st_field_p off29_1 rfl) ?_
    refine OPS.p rfl (by exact st_load_vs sc22 rfl rfl rfl) ?_
    refine OPS.p rfl (st_len un22 rfl rfl) ?_
    refine OPS.p rfl (st_eql rfl rfl) ?_
    refine OPS.p rfl (st_assign rfl) ?_
    refine OPS.nil ?_
    refine AWP.condD rfl (fun hc3 => ?_) (fun hc3 => ?_)
    · refine AWP.seq ?_
      refine AWP.region ?_
      refine OPS.p rfl (st_assign rfl) ?_
      refine OPS.nil ?_
      refine AWP.ret ?_
      refine Ret.mk rfl (congrArg pI ?_)
      rw [h0.1 (by omega)]; rfl
    · refine AWP.skip ?_
      refine AWP.seq ?_
      refine AWP.region ?_
      refine OPS.p rfl (st_assign rfl) ?_
      refine OPS.nil ?_
      refine AWP.ret ?_
      refine Ret.mk rfl (congrArg pI ?_)
      rw [Int.sign_eq_one_of_pos (by omega)]
end Go.Proofs.Gh.Tryz
end
section
set_option linter.unusedVariables false
set_option linter.unusedSimpArgs false
set_option maxRecDepth 4000
namespace Go.Proofs.Gh.Tryz
open Go Go.Proofs Go.Proofs.Gh

/-- A row of the product, laid onto what is there. -/
def rowL : List Int → List Int → Int → Int → List Int
  | [], _, _, _ => []
  | _ :: o, [], _, c => c :: o
  | u :: o, e :: b, d, c => (u + d * e + c - (u + d * e + c) / 1000000000 * 1000000000) :: rowL o b d ((u + d * e + c) / 1000000000)
theorem rowL_len : ∀ (o b : List Int) (d c : Int), (rowL o b d c).length = o.length
  | [], _, _, _ => rfl
  | _ :: o, [], _, _ => rfl
  | u :: o, e :: b, d, c => by simp [rowL, rowL_len o b]
theorem rowL_val : ∀ {o b : List Int} {d c : Int}, b.length < o.length → o.getD b.length 0 = 0 → dval (rowL o b d c) = dval o + d * dval b + c
  | [], b, _, _, h, _ => absurd h (by simp)
  | u :: o, [], d, c, _, h0 => by
    have : u = 0 := by simpa using h0
    simp [rowL, dval, this]
    omega
  | u :: o, e :: b, d, c, h, h0 => by
    simp only [rowL, dval]
    rw [rowL_val (by simpa using h) (by simpa using h0), Int.mul_add d, Int.mul_left_comm d]
    omega
theorem mul_digit {d e : Int} (hd : 0 ≤ d ∧ d < 1000000000) (he : 0 ≤ e ∧ e < 1000000000) : 0 ≤ d * e ∧ d * e ≤ 999999998000000001 := by
  refine ⟨Int.mul_nonneg hd.1 he.1, ?_⟩
  have h1 : d * e ≤ 999999999 * e := Int.mul_le_mul_of_nonneg_right (by omega) he.1
  omega
theorem row_step {u d e c : Int} (hu : 0 ≤ u ∧ u < 1000000000) (hd : 0 ≤ d ∧ d < 1000000000) (he : 0 ≤ e ∧ e < 1000000000) (hc : 0 ≤ c ∧ c < 1000000000) : 0 ≤ (u + d * e + c) / 1000000000 ∧ (u + d * e + c) / 1000000000 < 1000000000 ∧ 0 ≤ u + d * e + c - (u + d * e + c) / 1000000000 * 1000000000 ∧ u + d * e + c - (u + d * e + c) / 1000000000 * 1000000000 < 1000000000 := by
  have := mul_digit hd he
  omega
theorem rowL_dig : ∀ {o b : List Int} {d c : Int}, Dig o → Dig b → 0 ≤ d ∧ d < 1000000000 → 0 ≤ c ∧ c < 1000000000 → Dig (rowL o b d c)
  | [], b, _, _, _, _, _, _ => .nil
  | u :: o, [], d, c, ho, _, hd, hc => .cons hc.1 hc.2 ho.tail
  | u :: o, e :: b, d, c, ho, hb, hd, hc => by
    have h := row_step ho.head hd hb.head hc
    exact .cons h.2.2.1 h.2.2.2 (rowL_dig ho.tail hb.tail hd ⟨h.1, h.2.1⟩)
theorem rowL_over : ∀ {o b : List Int} {d c : Int} {j : Nat}, b.length < j → (rowL o b d c).getD j 0 = o.getD j 0
  | [], _, _, _, _, _ => by simp [rowL]
  | u :: o, [], d, c, j + 1, _ => by simp [rowL]
  | u :: o, e :: b, d, c, j + 1, h => by
    simp only [rowL, List.getD_cons_succ]
    exact rowL_over (by simpa using h)
theorem dval_replicate (n : Nat) : dval (List.replicate n 0) = 0 := by
  induction n with
  | zero => rfl
  | succ n ih => simp [List.replicate_succ, dval, ih]
theorem Dig.replicate (n : Nat) : Dig (List.replicate n 0) := fun d hd => by
  have := List.eq_of_mem_replicate hd
  omega
theorem getD_take_append {l m : List Int} {i j : Nat} (hl : l.length = i) : (l ++ m).getD (i + j) 0 = m.getD j 0 := by
  rw [List.getD_eq_getElem?_getD, List.getElem?_append_right (by omega), List.getD_eq_getElem?_getD]
  congr 2
  omega
/-- One row more. -/
theorem mul_row {o a b : List Int} {i : Nat} (hi : i < a.length) (hlen : o.length = a.length + b.length) (ho : Dig o) (hb : Dig b) (ha : Dig a) (hz : ∀ j, i + b.length ≤ j → o.getD j 0 = 0) (hv : dval o = dval (a.take i) * dval b) :
    (o.take i ++ rowL (o.drop i) b (a.getD i 0) 0).length = a.length + b.length ∧ Dig (o.take i ++ rowL (o.drop i) b (a.getD i 0) 0) ∧ (∀ j, i + 1 + b.length ≤ j → (o.take i ++ rowL (o.drop i) b (a.getD i 0) 0).getD j 0 = 0) ∧ dval (o.take i ++ rowL (o.drop i) b (a.getD i 0) 0) = dval (a.take (i + 1)) * dval b := by
  have hti : (o.take i).length = i := by simp; omega
  refine ⟨by simp [rowL_len]; omega, (ho.take i).append (rowL_dig (ho.drop i) hb (ha.get i) (by omega)), fun j hj => ?_, ?_⟩
  · obtain ⟨k, rfl⟩ : ∃ k, j = i + k := ⟨j - i, by omega⟩
    rw [getD_take_append hti, rowL_over (by omega)]
    have := hz (i + k) (by omega)
    rw [List.getD_eq_getElem?_getD] at this ⊢
    rwa [List.getElem?_drop]
  · have h0 : (o.drop i).getD b.length 0 = 0 := by
      have := hz (i + b.length) (by omega)
      rw [List.getD_eq_getElem?_getD] at this ⊢
      rwa [List.getElem?_drop]
    have e : dval o = dval (o.take i) + 1000000000 ^ i * dval (o.drop i) := by
      conv => lhs; rw [← List.take_append_drop i o, dval_append, hti]
    have hta : (a.take i).length = i := by simp; omega
    rw [dval_append, hti, rowL_val (by simp; omega) h0, take_succ hi, dval_append, hta]
    simp only [dval, Int.mul_zero, Int.add_zero]
    rw [Int.mul_add, Int.add_mul, ← hv, e, Int.mul_assoc]
    omega
theorem sg_mul {x y : Int} : sg ((decide (x < 0)) != (decide (y < 0))) ((x.natAbs : Int) * y.natAbs) = x * y := by
  by_cases h1 : x < 0 <;> by_cases h2 : y < 0
  · rw [show (x.natAbs : Int) = -x by omega, show (y.natAbs : Int) = -y by omega]; simp [sg, h1, h2, Int.neg_mul, Int.mul_neg]
  · rw [show (x.natAbs : Int) = -x by omega, show (y.natAbs : Int) = y by omega]; simp [sg, h1, h2, Int.neg_mul, Int.mul_neg]
  · rw [show (x.natAbs : Int) = x by omega, show (y.natAbs : Int) = -y by omega]; simp [sg, h1, h2, Int.neg_mul, Int.mul_neg]
  · rw [show (x.natAbs : Int) = x by omega, show (y.natAbs : Int) = y by omega]; simp [sg, h1, h2, Int.neg_mul, Int.mul_neg]
theorem dval_one {l : List Int} (h : l.length = 1) : dval l = l.getD 0 0 := by
  match l, h with
  | [d], _ => simp [dval]

theorem k_Mul (x y : Int) (hx : Fit x.natAbs) (hy : Fit y.natAbs) : PureC Tryz.prog 177 [pZ x, pZ y] (pZ (x * y)) := by
  have hla := hx.len
  have hlb := hy.len
  have ha := iD_dig x
  have hb := iD_dig y
  have hva := iD_val x
  have hvb := iD_val y
  have hs := @sg_mul x y
  rw [← hva, ← hvb] at hs
  show PureC Tryz.prog 177 [.agg [.bool (decide (x < 0)), .sl (iD x).length (fIs (iD x))], .agg [.bool (decide (y < 0)), .sl (iD y).length (fIs (iD y))]] (pZ (x * y))
  generalize iD x = a at *
  generalize iD y = b at *
  have ha0 := ha.get 0
  have hb0 := hb.get 0
  have hab := mul_digit ha0 hb0
  refine PureC.of Tryz.func177 rfl Tryz.ntmps177 (vs := [.cell 4 29]) rfl (Nat.le_of_ble_eq_true rfl) rfl fun cx _ _ => ?_
  refine AWP.seq ?_
  refine AWP.region ?_
  refine OPS.a rfl (st_box rfl rfl) ?_
  refine OPS.a rfl (st_box rfl rfl) ?_
  refine OPS.a rfl (st_alloc ze29) ?_
  refine OPS.nil ?_
  refine AWP.seq ?_
  refine AWP.drw mixed ?_
  refine DRW.p rfl (by exact st_field_p off29_1 rfl) ?_
  refine DRW.p rfl (by exact st_load_vs sc22 rfl rfl rfl) ?_
  refine DRW.p rfl (by exact st_field_p off29_1 rfl) ?_
  refine DRW.p rfl (by exact st_load_vs sc22 rfl rfl rfl) ?_
  refine DRW.p rfl (st_assign rfl) ?_
  refine DRW.p rfl (st_assign rfl) ?_
  refine DRW.nil (by kernel_rfl) ?_
  refine AWP.seq ?_
  refine AWP.mono (n := fun s' => ∃ zz : Unit, SubR (loOf cx) s' ((fun (zz : Unit) => ⟨[(2, .ptr 0 0), (3, .ptr 1 0), (4, .ptr 2 0), (5, pL a), (6, pL b)], [(0, .var [pB (decide (x < 0)), pL a]), (1, .var [pB (decide (y < 0)), pL b]), (2, .var [pB false, .cell (.sl 0 [])])], 3⟩) zz) ∧ (fun (zz : Unit) => True) zz) ?_ ?_
  · refine AWP.seq ?_
    refine AWP.region ?_
    refine OPS.p rfl (st_move rfl) ?_
    refine OPS.p rfl (st_len un22 rfl rfl) ?_
    refine OPS.p rfl (st_eql rfl rfl) ?_
    refine OPS.p rfl (st_move rfl) ?_
    refine OPS.split (g := 21) rfl (fun eg2_3 g2_3 => ?_) (fun eg2_3 g2_3 => ?_)
    · refine OPS.pG rfl rfl rfl eg2_3 (st_move rfl) ?_
      refine OPS.pG rfl rfl rfl eg2_3 (st_len un22 rfl rfl) ?_
      refine OPS.pG rfl rfl rfl eg2_3 (st_eql rfl rfl) ?_
      refine OPS.p rfl (st_pickT rfl eg2_3 rfl) ?_
      refine OPS.nil ?_
      refine AWP.condD rfl (fun hc2 => ?_) (fun hc2 => ?_)
      · refine AWP.seq ?_
        refine AWP.drw mixed ?_
        refine DRW.p rfl (by exact st_field_p off29_0 rfl) ?_
        refine DRW.p rfl (by exact st_load_vs sc4 rfl rfl rfl) ?_
        refine DRW.p rfl (by exact st_field_p off29_0 rfl) ?_
        refine DRW.p rfl (by exact st_load_vs sc4 rfl rfl rfl) ?_
        refine DRW.p rfl (st_neq_b rfl rfl un4) ?_
        refine DRW.p rfl (st_move rfl) ?_
        refine DRW.p rfl (by exact st_index_I es22 rfl rfl (by omega) (by omega) (by rfl)) ?_
        refine DRW.p rfl (by exact st_load_In sc3 rfl rfl (by (simp; omega))) ?_
        refine DRW.p rfl (st_conv_u rfl us3 un186 ha0.1 (Int.le_trans (Int.le_of_lt ha0.2) (by decide))) ?_
        refine DRW.p rfl (st_move rfl) ?_
        refine DRW.p rfl (by exact st_index_I es22 rfl rfl (by omega) (by omega) (by rfl)) ?_
        refine DRW.p rfl (by exact st_load_In sc3 rfl rfl (by (simp; omega))) ?_
        refine DRW.p rfl (st_conv_u rfl us3 un186 hb0.1 (Int.le_trans (Int.le_of_lt hb0.2) (by decide))) ?_
        refine DRW.p rfl (st_mul_u rfl rfl hab.1 (Int.le_trans hab.2 (by decide))) ?_
        refine DRW.p rfl (st_call (L := [((.tmp 30), _), ((.tmp 39), _)]) false pl220 ⟨rfl, rfl, trivial⟩ rfl (k_unsigned _ _ hab.1 (Int.le_trans hab.2 (by decide))) rfl) ?_
        refine DRW.s (by exact st_store_v sz29 rfl rfl rfl rfl rfl rfl) ?_
        refine DRW.nil (by kernel_rfl) ?_
        refine AWP.ret ?_
        refine Ret.mk rfl (congrArg pZ ?_)
        rw [← hs, dval_one (by omega), dval_one (by omega)]
      · refine AWP.skip ?_
        refine ⟨(()), (Sub.r (Sub.mk' ⟨(by rfl), (by rfl), (by rfl), (by rfl), (by rfl), trivial⟩ ⟨(by rfl), (by rfl), (by rfl), trivial⟩ (by exact Nat.le_refl _))), ?_⟩
        exact True.intro
    · refine OPS.nO rfl rfl rfl eg2_3 ?_
      refine OPS.nO rfl rfl rfl eg2_3 ?_
      refine OPS.nO rfl rfl rfl eg2_3 ?_
      refine OPS.p rfl (st_pickF rfl eg2_3 rfl) ?_
      refine OPS.nil ?_
      refine AWP.cond_f rfl (rfl) ?_
      refine AWP.skip ?_
      refine ⟨(()), (Sub.r (Sub.mk' ⟨(by rfl), (by rfl), (by rfl), (by rfl), (by rfl), trivial⟩ ⟨(by rfl), (by rfl), (by rfl), trivial⟩ (by exact Nat.le_refl _))), ?_⟩
      exact True.intro
  · rintro s' ⟨u, hsub, hinv⟩
    have hinv : True := hinv
    obtain _ := id hinv
    refine AWP.subR hsub ?_
    show AWP _ _ _ _ _ _ _ ⟨[(2, .ptr 0 0), (3, .ptr 1 0), (4, .ptr 2 0), (5, pL a), (6, pL b)], [(0, .var [pB (decide (x < 0)), pL a]), (1, .var [pB (decide (y < 0)), pL b]), (2, .var [pB false, .cell (.sl 0 [])])], 3⟩
    refine AWP.seq ?_
    refine AWP.region ?_
    refine OPS.p rfl (st_move rfl) ?_
    refine OPS.p rfl (st_len un22 rfl rfl) ?_
    refine OPS.p rfl (st_move rfl) ?_
    refine OPS.p rfl (st_len un22 rfl rfl) ?_
    refine OPS.p rfl (by exact st_add_i rfl rfl (by omega) (by omega)) ?_
    refine OPS.a rfl (st_make_I ei22 rfl rfl (by omega) (by (simp; omega)) (by omega)) ?_
    refine OPS.p rfl (st_assign rfl) ?_
    refine OPS.nil ?_
    refine AWP.seq ?_
    refine AWP.seq ?_
    refine AWP.region ?_
    refine OPS.p rfl (st_move rfl) ?_
    refine OPS.p rfl (st_len un22 rfl rfl) ?_
    refine OPS.p rfl (st_move rfl) ?_
    refine OPS.nil ?_
    refine AWP.block ?_
    refine AWP.loopR (σ := Nat × List Int) (fun (zz : Nat × List Int) => ⟨[(2, .ptr 0 0), (3, .ptr 1 0), (4, .ptr 2 0), (6, pL b), (7, .own 3 (a.length + b.length)), (47, pL a), (48, pI a.length), (49, pI zz.1)], [(0, .var [pB (decide (x < 0)), pL a]), (1, .var [pB (decide (y < 0)), pL b]), (2, .var [pB false, .cell (.sl 0 [])]), (3, .arr 3 1 (a.length + b.length) (fIs zz.2))], 4⟩) (fun (zz : Nat × List Int) => zz.1 ≤ a.length ∧ zz.2.length = a.length + b.length ∧ Dig zz.2 ∧ (∀ j, zz.1 + b.length ≤ j → zz.2.getD j 0 = 0) ∧ dval zz.2 = dval (a.take zz.1) * dval b) (fun (zz : Nat × List Int) => a.length - zz.1) (0, List.replicate (a.length + b.length) 0) (Sub.r (Sub.mk' ⟨(by rfl), (by rfl), (by rfl), (by rfl), (by rfl), (by rfl), (by rfl), (by rfl), trivial⟩ ⟨(by rfl), (by rfl), (by rfl), (by rfl), trivial⟩ (by exact Nat.le_refl _))) (by exact ⟨by omega, by simp, Dig.replicate _, fun j _ => by simp [List.getD_eq_getElem?_getD, List.getElem?_replicate]; split <;> rfl, by rw [dval_replicate]; simp [dval]⟩) ?_
    rintro ⟨i, o⟩ hinv
    have hinv : i ≤ a.length ∧ o.length = a.length + b.length ∧ Dig o ∧ (∀ j, i + b.length ≤ j → o.getD j 0 = 0) ∧ dval o = dval (a.take i) * dval b := hinv
    obtain ⟨h1, h2, h3, h4, h5⟩ := hinv
    show AWP _ _ _ _ _ _ _ ⟨[(2, .ptr 0 0), (3, .ptr 1 0), (4, .ptr 2 0), (6, pL b), (7, .own 3 (a.length + b.length)), (47, pL a), (48, pI a.length), (49, pI i)], [(0, .var [pB (decide (x < 0)), pL a]), (1, .var [pB (decide (y < 0)), pL b]), (2, .var [pB false, .cell (.sl 0 [])]), (3, .arr 3 1 (a.length + b.length) (fIs o))], 4⟩
    refine AWP.seq ?_
    refine AWP.region ?_
    refine OPS.p rfl (st_lss rfl rfl) ?_
    refine OPS.nil ?_
    refine AWP.seq ?_
    refine AWP.condD rfl (fun hc6 => ?_) (fun hc6 => ?_)
    · have hi : i < a.length := by omega
      have hd := ha.get i
      have hrow := mul_row hi h2 h3 hb ha h4 h5
      refine AWP.skip ?_
      refine AWP.seq ?_
      refine AWP.block ?_
      refine AWP.seq ?_
      refine AWP.region ?_
      refine OPS.p rfl (st_move rfl) ?_
      refine OPS.p rfl (by exact st_index_I es22 rfl rfl (by omega) (by omega) (by rfl)) ?_
      refine OPS.p rfl (by exact st_load_In sc3 rfl rfl (by omega)) ?_
      refine OPS.p rfl (st_assign rfl) ?_
      refine OPS.p rfl (st_assign rfl) ?_
      refine OPS.nil ?_
      refine AWP.seq ?_
      refine AWP.region ?_
      refine OPS.p rfl (st_assign rfl) ?_
      refine OPS.nil ?_
      refine AWP.seq ?_
      refine AWP.seq ?_
      refine AWP.region ?_
      refine OPS.p rfl (st_move rfl) ?_
      refine OPS.p rfl (st_len un22 rfl rfl) ?_
      refine OPS.p rfl (st_move rfl) ?_
      refine OPS.nil ?_
      refine AWP.block ?_
      refine AWP.loopR (σ := Nat × Int × List Int) (fun (zz : Nat × Int × List Int) => ⟨[(2, .ptr 0 0), (3, .ptr 1 0), (4, .ptr 2 0), (6, pL b), (7, .own 3 (a.length + b.length)), (8, pI i), (9, pI (a.getD i 0)), (10, pI zz.2.1), (47, pL a), (48, pI a.length), (49, pI i), (54, pL b), (55, pI b.length), (56, pI zz.1)], [(0, .var [pB (decide (x < 0)), pL a]), (1, .var [pB (decide (y < 0)), pL b]), (2, .var [pB false, .cell (.sl 0 [])]), (3, .arr 3 1 (a.length + b.length) (fIs zz.2.2))], 4⟩) (fun (zz : Nat × Int × List Int) => zz.1 ≤ b.length ∧ zz.2.2.length = a.length + b.length ∧ (0 ≤ zz.2.1 ∧ zz.2.1 < 1000000000) ∧ Dig zz.2.2 ∧ zz.2.2.take (i + zz.1) ++ rowL (zz.2.2.drop (i + zz.1)) (b.drop zz.1) (a.getD i 0) zz.2.1 = o.take i ++ rowL (o.drop i) b (a.getD i 0) 0) (fun (zz : Nat × Int × List Int) => b.length - zz.1) (0, 0, o) (Sub.r (Sub.mk' ⟨(by rfl), (by rfl), (by rfl), (by rfl), (by rfl), (by rfl), (by rfl), (by rfl), (by rfl), (by rfl), (by rfl), (by rfl), (by rfl), (by rfl), trivial⟩ ⟨(by rfl), (by rfl), (by rfl), (by rfl), trivial⟩ (by exact Nat.le_refl _))) (by (dsimp only; exact ⟨by omega, h2, by omega, h3, by simp⟩)) ?_
      rintro ⟨k, c, q⟩ hinv
      have hinv : k ≤ b.length ∧ q.length = a.length + b.length ∧ (0 ≤ c ∧ c < 1000000000) ∧ Dig q ∧ q.take (i + k) ++ rowL (q.drop (i + k)) (b.drop k) (a.getD i 0) c = o.take i ++ rowL (o.drop i) b (a.getD i 0) 0 := hinv
      obtain ⟨k1, k2, k3, k4, k5⟩ := hinv
      show AWP _ _ _ _ _ _ _ ⟨[(2, .ptr 0 0), (3, .ptr 1 0), (4, .ptr 2 0), (6, pL b), (7, .own 3 (a.length + b.length)), (8, pI i), (9, pI (a.getD i 0)), (10, pI c), (47, pL a), (48, pI a.length), (49, pI i), (54, pL b), (55, pI b.length), (56, pI k)], [(0, .var [pB (decide (x < 0)), pL a]), (1, .var [pB (decide (y < 0)), pL b]), (2, .var [pB false, .cell (.sl 0 [])]), (3, .arr 3 1 (a.length + b.length) (fIs q))], 4⟩
      refine AWP.seq ?_
      refine AWP.region ?_
      refine OPS.p rfl (st_lss rfl rfl) ?_
      refine OPS.nil ?_
      refine AWP.seq ?_
      refine AWP.condD rfl (fun hc10 => ?_) (fun hc10 => ?_)
      · have hk : k < b.length := by omega
        have hik : i + k < q.length := by omega
        have he := hb.get k
        have hu := k4.get (i + k)
        have hst := row_step hu hd he k3
        have hmd := mul_digit hd he
        refine AWP.skip ?_
        refine AWP.seq ?_
        refine AWP.block ?_
        refine AWP.seq ?_
        refine AWP.region ?_
        refine OPS.p rfl (st_move rfl) ?_
        refine OPS.p rfl (by exact st_index_I es22 rfl rfl (by omega) (by omega) (by rfl)) ?_
        refine OPS.p rfl (by exact st_load_In sc3 rfl rfl (by omega)) ?_
        refine OPS.p rfl (st_assign rfl) ?_
        refine OPS.p rfl (st_assign rfl) ?_
        refine OPS.nil ?_
        refine AWP.seq ?_
        refine AWP.region ?_
        refine OPS.p rfl (st_move rfl) ?_
        refine OPS.p rfl (st_move rfl) ?_
        refine OPS.p rfl (st_move rfl) ?_
        refine OPS.p rfl (by exact st_add_i rfl rfl (by omega) (by omega)) ?_
        refine OPS.p rfl (by exact st_index_a es22 rfl rfl rfl (by omega) (by omega)) ?_
        refine OPS.p rfl (st_load_oIn (i := i + k) sc3 rfl rfl rfl hik) ?_
        refine OPS.p rfl (st_move rfl) ?_
        refine OPS.p rfl (st_move rfl) ?_
        refine OPS.p rfl (st_mul_i rfl rfl (by omega) (by omega)) ?_
        refine OPS.p rfl (by exact st_add_i rfl rfl (by omega) (by omega)) ?_
        refine OPS.p rfl (st_move rfl) ?_
        refine OPS.p rfl (by exact st_add_i rfl rfl (by omega) (by omega)) ?_
        refine OPS.p rfl (st_assign rfl) ?_
        refine OPS.nil ?_
        refine AWP.seq ?_
        refine AWP.region ?_
        refine OPS.p rfl (st_move rfl) ?_
        refine OPS.p rfl (by exact st_quo_i rfl rfl (by omega) (by omega) (by omega)) ?_
        refine OPS.p rfl (st_assign rfl) ?_
        refine OPS.nil ?_
        refine AWP.region ?_
        refine OPS.p rfl (st_move rfl) ?_
        refine OPS.p rfl (st_move rfl) ?_
        refine OPS.p rfl (st_move rfl) ?_
        refine OPS.p rfl (by exact st_add_i rfl rfl (by omega) (by omega)) ?_
        refine OPS.p rfl (st_move rfl) ?_
        refine OPS.p rfl (st_move rfl) ?_
        refine OPS.p rfl (by exact st_mul_i rfl rfl (by omega) (by omega)) ?_
        refine OPS.p rfl (by exact st_sub_i rfl rfl (by omega) (by omega)) ?_
        refine OPS.p rfl (by exact st_index_a es22 rfl rfl rfl (by omega) (by omega)) ?_
        refine OPS.s (st_store_oIn (i := i + k) sz3 rfl rfl rfl rfl hik) ?_
        refine OPS.nil ?_
        refine AWP.region ?_
        refine OPS.p rfl (by exact st_add_i rfl rfl (by omega) (by omega)) ?_
        refine OPS.p rfl (st_move rfl) ?_
        refine OPS.nil ?_
        refine ⟨(k + 1, (q.getD (i + k) 0 + a.getD i 0 * b.getD k 0 + c) / 1000000000, q.set (i + k) (q.getD (i + k) 0 + a.getD i 0 * b.getD k 0 + c - (q.getD (i + k) 0 + a.getD i 0 * b.getD k 0 + c) / 1000000000 * 1000000000)), (Sub.r (Sub.mk' ⟨(by rfl), (by rfl), (by rfl), (by rfl), (by rfl), (by rfl), (by rfl), (by rfl), (by rfl), (by rfl), (by rfl), (by rfl), (by rfl), (by rfl), trivial⟩ ⟨(by rfl), (by rfl), (by rfl), (by rfl), trivial⟩ (by exact Nat.le_refl _))), ?_, ?_⟩
        · try dsimp only
          refine ⟨by omega, by simp [k2], ⟨hst.1, hst.2.1⟩, ?_, ?_⟩
          · intro d' hd'
            rcases List.mem_or_eq_of_mem_set hd' with h | h
            · exact k4 d' h
            · subst h; exact ⟨hst.2.2.1, hst.2.2.2⟩
          · rw [← Nat.add_assoc, set_take hik, List.drop_set_of_lt (by omega), List.append_assoc, List.singleton_append]
            rw [drop_cons hik, drop_cons hk, rowL] at k5
            exact k5
        · try dsimp only
          omega
      · refine AWP.exit ?_
        refine AWP.region ?_
        refine OPS.p rfl (st_move rfl) ?_
        refine OPS.p rfl (st_move rfl) ?_
        refine OPS.p rfl (st_move rfl) ?_
        refine OPS.p rfl (st_len un22 rfl rfl) ?_
        refine OPS.p rfl (by exact st_add_i rfl rfl (by omega) (by omega)) ?_
        refine OPS.p rfl (st_move rfl) ?_
        refine OPS.p rfl (by exact st_index_a es22 rfl rfl rfl (by omega) (by omega)) ?_
        refine OPS.s (st_store_oIn (i := i + b.length) sz3 rfl rfl rfl rfl (by omega)) ?_
        refine OPS.nil ?_
        refine AWP.region ?_
        refine OPS.p rfl (by exact st_add_i rfl rfl (by omega) (by omega)) ?_
        refine OPS.p rfl (st_move rfl) ?_
        refine OPS.nil ?_
        have hkb : k = b.length := by omega
        subst hkb
        have hfin : q.set (i + b.length) c = o.take i ++ rowL (o.drop i) b (a.getD i 0) 0 := by
          have hik : i + b.length < q.length := by omega
          rw [← k5, List.drop_length, drop_cons hik, rowL]
          conv => lhs; rw [← List.take_append_drop (i + b.length) (q.set (i + b.length) c), set_drop hik, List.take_set_of_le (by omega)]
        refine ⟨(i + 1, q.set (i + b.length) c), (Sub.r (Sub.mk' ⟨(by rfl), (by rfl), (by rfl), (by rfl), (by rfl), (by rfl), (by rfl), (by rfl), trivial⟩ ⟨(by rfl), (by rfl), (by rfl), (by rfl), trivial⟩ (by exact Nat.le_refl _))), ?_, ?_⟩
        · try dsimp only
          rw [hfin]
          exact ⟨by omega, hrow.1, hrow.2.1, fun j hj => hrow.2.2.1 j hj, hrow.2.2.2⟩
        · try dsimp only
          omega
    · refine AWP.exit ?_
      refine AWP.seq ?_
      have hia : i = a.length := by omega
      subst hia
      rw [List.take_length] at h5
      refine AWP.freeze 3 [7] rfl ⟨rfl, trivial⟩ ?_
      refine AWP.region ?_
      refine OPS.p rfl (by exact st_field_p off29_0 rfl) ?_
      refine OPS.p rfl (by exact st_load_vs sc4 rfl rfl rfl) ?_
      refine OPS.p rfl (by exact st_field_p off29_0 rfl) ?_
      refine OPS.p rfl (by exact st_load_vs sc4 rfl rfl rfl) ?_
      refine OPS.p rfl (st_neq_b rfl rfl un4) ?_
      refine OPS.p rfl (st_move rfl) ?_
      refine OPS.p rfl (st_call (L := [((.tmp 97), _), ((.tmp 98), _)]) false pl221 ⟨rfl, rfl, trivial⟩ rfl ((by rw [← h2]; exact k_of _ o (by omega) h3)) rfl) ?_
      refine OPS.s (by exact st_store_v sz29 rfl rfl rfl rfl rfl rfl) ?_
      refine OPS.nil ?_
      refine AWP.ret ?_
      refine Ret.mk rfl (congrArg pZ ?_)
      rw [h5, hs]
end Go.Proofs.Gh.Tryz
end
section
set_option linter.unusedVariables false
set_option linter.unusedSimpArgs false
set_option maxRecDepth 4000
namespace Go.Proofs.Gh.Tryz
open Go Go.Proofs Go.Proofs.Gh

/-- What may be divided here. -/
def Sml (n : Nat) : Prop := n < 1000000000000000000
theorem Sml.mono {a b : Nat} (h : Sml b) (hab : a ≤ b) : Sml a := Nat.lt_of_le_of_lt hab h
theorem Sml.len {n : Nat} (h : Sml n) : (digs n).length ≤ 2 := by
  by_cases h0 : n = 0
  · subst h0; rw [digs_zero]; simp
  · by_cases h1 : n < 1000000000
    · rw [digs_small (by omega) h1]; simp
    · rw [digs_2 (by omega) h]; simp
theorem Sml.fit {n : Nat} (h : Sml n) : Fit n := Nat.le_trans h.len (by omega)
theorem k_two_n (n : Nat) (h : Sml n) : PureC Tryz.prog 268 [pL (digs n)] (.tup [pI n, pB true]) := by
  have := k_two (digs n) (digs_dig n) (Nat.le_trans h.len (by omega))
  rwa [if_pos h.len, dval_digs, decide_eq_true h.len] at this

theorem k_divide (a b : Nat) (ha : Sml a) (hb : Sml b) (h0 : b ≠ 0) : PureC Tryz.prog 269 [pL (digs a), pL (digs b)] (.tup [pZ ((a : Int) / b), pZ ((a : Int) % b)]) := by
  have hA : a < 1000000000000000000 := ha
  have hB : b < 1000000000000000000 := hb
  have hq0 : 0 ≤ (a : Int) / b := Int.ediv_nonneg (by omega) (by omega)
  have hq1 : (a : Int) / b ≤ a := Int.ediv_le_self _ (by omega)
  have hr0 : 0 ≤ (a : Int) % b := Int.emod_nonneg _ (by omega)
  have hr1 : (a : Int) % b < b := Int.emod_lt_of_pos _ (by omega)
  refine PureC.of Tryz.func269 rfl Tryz.ntmps269 (vs := [.cell 4 29, .cell 5 29]) rfl (Nat.le_of_ble_eq_true rfl) rfl fun cx _ _ => ?_
  refine AWP.seq ?_
  refine AWP.region ?_
  refine OPS.a rfl (st_alloc ze29) ?_
  refine OPS.a rfl (st_alloc ze29) ?_
  refine OPS.nil ?_
  refine AWP.seq ?_
  refine AWP.seq ?_
  refine AWP.region ?_
  refine OPS.p rfl (st_move rfl) ?_
  refine OPS.p rfl (st_call (L := [((.tmp 15), _)]) false pl268 ⟨rfl, trivial⟩ rfl (k_two_n a ha) rfl) ?_
  refine OPS.p rfl (st_move rfl) ?_
  refine OPS.p rfl (st_extract rfl rfl) ?_
  refine OPS.p rfl (st_extract rfl rfl) ?_
  refine OPS.p rfl (st_assign rfl) ?_
  refine OPS.p rfl (st_assign rfl) ?_
  refine OPS.nil ?_
  refine AWP.seq ?_
  refine AWP.region ?_
  refine OPS.p rfl (st_move rfl) ?_
  refine OPS.nil ?_
  refine AWP.cond_t rfl (rfl) ?_
  refine AWP.seq ?_
  refine AWP.region ?_
  refine OPS.p rfl (st_move rfl) ?_
  refine OPS.p rfl (st_call (L := [((.tmp 21), _)]) false pl268 ⟨rfl, trivial⟩ rfl (k_two_n b hb) rfl) ?_
  refine OPS.p rfl (st_move rfl) ?_
  refine OPS.p rfl (st_extract rfl rfl) ?_
  refine OPS.p rfl (st_extract rfl rfl) ?_
  refine OPS.p rfl (st_assign rfl) ?_
  refine OPS.p rfl (st_assign rfl) ?_
  refine OPS.nil ?_
  refine AWP.seq ?_
  refine AWP.region ?_
  refine OPS.p rfl (st_move rfl) ?_
  refine OPS.nil ?_
  refine AWP.cond_t rfl (rfl) ?_
  refine AWP.seq ?_
  refine AWP.drw mixed ?_
  refine DRW.p rfl (st_move rfl) ?_
  refine DRW.p rfl (st_move rfl) ?_
  refine DRW.p rfl (by exact st_quo_i rfl rfl (by omega) (by omega) (by omega)) ?_
  refine DRW.p rfl (by exact st_conv_u rfl us3 un186 (by omega) (by omega)) ?_
  refine DRW.p rfl (st_call (L := [((.const (.bool false)), _), ((.tmp 29), _)]) false pl220 ⟨rfl, rfl, trivial⟩ rfl (k_unsigned false ((a : Int) / b) hq0 (by omega)) rfl) ?_
  refine DRW.p rfl (st_move rfl) ?_
  refine DRW.p rfl (st_move rfl) ?_
  refine DRW.p rfl (by exact st_rem_i rfl rfl (by omega) (by omega)) ?_
  refine DRW.p rfl (by exact st_conv_u rfl us3 un186 (by omega) (by omega)) ?_
  refine DRW.p rfl (st_call (L := [((.const (.bool false)), _), ((.tmp 34), _)]) false pl220 ⟨rfl, rfl, trivial⟩ rfl (k_unsigned false ((a : Int) % b) hr0 (by omega)) rfl) ?_
  refine DRW.s (by exact st_store_v sz29 rfl rfl rfl rfl rfl rfl) ?_
  refine DRW.s (by exact st_store_v sz29 rfl rfl rfl rfl rfl rfl) ?_
  refine DRW.nil (by kernel_rfl) ?_
  refine AWP.ret ?_
  exact Ret.mk2 rfl rfl rfl

theorem gcd_emod (a b : Int) : Int.gcd b (a % b) = Int.gcd a b := by
  have h : a % b = a + -(a / b) * b := by have := Int.emod_add_mul_ediv a b; rw [Int.neg_mul, Int.mul_comm]; omega
  rw [h, Int.gcd_add_mul_right_right, Int.gcd_comm]

theorem k_Gcd (x y : Int) (hx : Sml x.natAbs) (hy : Sml y.natAbs) : PureC Tryz.prog 214 [pZ x, pZ y] (pZ (Int.gcd x y)) := by
  have hA : x.natAbs < 1000000000000000000 := hx
  have hB : y.natAbs < 1000000000000000000 := hy
  have hk : ∀ z : Int, Sml z.natAbs → PureC Tryz.prog 221 [pB false, pL (iD z)] (pZ z.natAbs) := fun z hz => by
    have := k_of false (iD z) (Nat.le_trans hz.len (by omega)) (iD_dig z)
    rwa [iD_val] at this
  have he : ∀ z : Int, iD (z.natAbs : Int) = iD z := fun z => by simp [iD]
  refine PureC.of Tryz.func214 rfl Tryz.ntmps214 (vs := [.cell 4 29]) rfl (Nat.le_of_ble_eq_true rfl) rfl fun cx _ _ => ?_
  refine AWP.seq ?_
  refine AWP.region ?_
  refine OPS.a rfl (st_box rfl rfl) ?_
  refine OPS.a rfl (st_box rfl rfl) ?_
  refine OPS.a rfl (st_alloc ze29) ?_
  refine OPS.nil ?_
  refine AWP.seq ?_
  refine AWP.drw mixed ?_
  refine DRW.p rfl (by exact st_field_p off29_1 rfl) ?_
  refine DRW.p rfl (by exact st_load_vs sc22 rfl rfl rfl) ?_
  refine DRW.p rfl (st_call (L := [((.const (.bool false)), _), ((.tmp 14), _)]) false pl221 ⟨rfl, rfl, trivial⟩ rfl (hk x hx) rfl) ?_
  refine DRW.p rfl (by exact st_field_p off29_1 rfl) ?_
  refine DRW.p rfl (by exact st_load_vs sc22 rfl rfl rfl) ?_
  refine DRW.p rfl (st_call (L := [((.const (.bool false)), _), ((.tmp 17), _)]) false pl221 ⟨rfl, rfl, trivial⟩ rfl (hk y hy) rfl) ?_
  refine DRW.a rfl (st_alloc ze29) ?_
  refine DRW.a rfl (st_alloc ze29) ?_
  refine DRW.s (by exact st_store_v sz29 rfl rfl rfl rfl rfl rfl) ?_
  refine DRW.s (by exact st_store_v sz29 rfl rfl rfl rfl rfl rfl) ?_
  refine DRW.nil (by kernel_rfl) ?_
  refine AWP.seq ?_
  refine AWP.block ?_
  refine AWP.loopR (σ := Unit) (fun (zz : Unit) => ⟨[(2, .ptr 0 0), (3, .ptr 1 0), (4, .ptr 2 0), (5, .ptr 3 0), (6, .ptr 4 0)], [(2, .var [pB false, .cell (.sl 0 [])]), (3, .var [pB (decide ((x.natAbs : Int) < 0)), pL (iD x.natAbs)]), (4, .var [pB (decide ((y.natAbs : Int) < 0)), pL (iD y.natAbs)])], 5⟩) (fun (zz : Unit) => True) (fun (zz : Unit) => 0) (()) (Sub.r (Sub.mk' ⟨(by rfl), (by rfl), (by rfl), (by rfl), (by rfl), trivial⟩ ⟨(by rfl), (by rfl), (by rfl), trivial⟩ (by exact Nat.le_refl _))) (by exact trivial) ?_
  rintro u hinv
  have hinv : True := hinv
  obtain _ := hinv
  show AWP _ _ _ _ _ _ _ ⟨[(2, .ptr 0 0), (3, .ptr 1 0), (4, .ptr 2 0), (5, .ptr 3 0), (6, .ptr 4 0)], [(2, .var [pB false, .cell (.sl 0 [])]), (3, .var [pB (decide ((x.natAbs : Int) < 0)), pL (iD x.natAbs)]), (4, .var [pB (decide ((y.natAbs : Int) < 0)), pL (iD y.natAbs)])], 5⟩
  refine AWP.seq ?_
  refine AWP.seq ?_
  refine AWP.region ?_
  refine OPS.p rfl (by exact st_field_p off29_1 rfl) ?_
  refine OPS.p rfl (by exact st_load_vs sc22 rfl rfl rfl) ?_
  refine OPS.p rfl (st_len un22 rfl rfl) ?_
  refine OPS.p rfl (st_gtr rfl rfl) ?_
  refine OPS.nil ?_
  refine AWP.condD rfl (fun hc2 => ?_) (fun hc2 => ?_)
  · refine AWP.skip ?_
    refine AWP.block ?_
    refine AWP.seq ?_
    refine AWP.region ?_
    refine OPS.p rfl (by exact st_field_p off29_1 rfl) ?_
    refine OPS.p rfl (by exact st_load_vs sc22 rfl rfl rfl) ?_
    refine OPS.p rfl (st_call (L := [((.tmp 25), _)]) false pl268 ⟨rfl, trivial⟩ rfl (k_two_n x.natAbs hx) rfl) ?_
    refine OPS.p rfl (st_move rfl) ?_
    refine OPS.p rfl (st_extract rfl rfl) ?_
    refine OPS.p rfl (st_extract rfl rfl) ?_
    refine OPS.p rfl (st_assign rfl) ?_
    refine OPS.p rfl (st_assign rfl) ?_
    refine OPS.nil ?_
    refine AWP.seq ?_
    refine AWP.region ?_
    refine OPS.p rfl (by exact st_field_p off29_1 rfl) ?_
    refine OPS.p rfl (by exact st_load_vs sc22 rfl rfl rfl) ?_
    refine OPS.p rfl (st_call (L := [((.tmp 31), _)]) false pl268 ⟨rfl, trivial⟩ rfl (k_two_n y.natAbs hy) rfl) ?_
    refine OPS.p rfl (st_move rfl) ?_
    refine OPS.p rfl (st_extract rfl rfl) ?_
    refine OPS.p rfl (st_extract rfl rfl) ?_
    refine OPS.p rfl (st_assign rfl) ?_
    refine OPS.p rfl (st_assign rfl) ?_
    refine OPS.nil ?_
    refine AWP.seq ?_
    refine AWP.seq ?_
    refine AWP.region ?_
    refine OPS.p rfl (st_move rfl) ?_
    refine OPS.p rfl (st_move rfl) ?_
    refine OPS.pG rfl rfl rfl (rfl) (st_move rfl) ?_
    refine OPS.p rfl (st_pickT rfl (rfl) rfl) ?_
    refine OPS.nil ?_
    refine AWP.cond_t rfl (rfl) ?_
    refine AWP.seq ?_
    refine AWP.block ?_
    refine AWP.loopR (σ := Int × Int) (fun (zz : Int × Int) => ⟨[(4, .ptr 2 0), (7, pI zz.1), (9, pI zz.2)], [(2, .var [pB false, .cell (.sl 0 [])])], 5⟩) (fun (zz : Int × Int) => 0 ≤ zz.1 ∧ zz.1 < 1000000000000000000 ∧ 0 ≤ zz.2 ∧ zz.2 < 1000000000000000000 ∧ Int.gcd zz.1 zz.2 = Int.gcd x y) (fun (zz : Int × Int) => zz.2.toNat) (x.natAbs, y.natAbs) (Sub.r (Sub.mk' ⟨(by rfl), (by rfl), (by rfl), trivial⟩ ⟨(by rfl), trivial⟩ (by exact Nat.le_refl _))) (by exact ⟨by omega, by omega, by omega, by omega, by simp [Int.gcd]⟩) ?_
    rintro ⟨m, n⟩ hinv
    have hinv : 0 ≤ m ∧ m < 1000000000000000000 ∧ 0 ≤ n ∧ n < 1000000000000000000 ∧ Int.gcd m n = Int.gcd x y := hinv
    obtain ⟨h1, h2, h3, h4, h5⟩ := hinv
    show AWP _ _ _ _ _ _ _ ⟨[(4, .ptr 2 0), (7, pI m), (9, pI n)], [(2, .var [pB false, .cell (.sl 0 [])])], 5⟩
    refine AWP.seq ?_
    refine AWP.seq ?_
    refine AWP.region ?_
    refine OPS.p rfl (st_move rfl) ?_
    refine OPS.p rfl (st_gtr rfl rfl) ?_
    refine OPS.nil ?_
    refine AWP.condD rfl (fun hc6 => ?_) (fun hc6 => ?_)
    · refine AWP.skip ?_
      refine AWP.block ?_
      refine AWP.drw mixed ?_
      refine DRW.p rfl (st_move rfl) ?_
      refine DRW.p rfl (st_move rfl) ?_
      refine DRW.p rfl (st_move rfl) ?_
      refine DRW.p rfl (by exact st_rem_i rfl rfl (by omega) (by omega)) ?_
      refine DRW.p rfl (st_assign rfl) ?_
      refine DRW.p rfl (st_assign rfl) ?_
      refine DRW.nil (by kernel_rfl) ?_
      have hr0 : 0 ≤ m % n := Int.emod_nonneg _ (by omega)
      have hr1 : m % n < n := Int.emod_lt_of_pos _ (by omega)
      refine ⟨(n, m % n), (Sub.r (Sub.mk' ⟨(by rfl), (by rfl), (by rfl), trivial⟩ ⟨(by rfl), trivial⟩ (by exact Nat.le_refl _))), ?_, ?_⟩
      · try dsimp only
        exact ⟨h3, h4, hr0, by omega, by rw [gcd_emod, h5]⟩
      · try dsimp only
        omega
    · refine AWP.exit ?_
      refine AWP.seq ?_
      have hn : n = 0 := by omega
      subst hn
      rw [Int.gcd_zero_right] at h5
      refine AWP.region ?_
      refine OPS.p rfl (st_move rfl) ?_
      refine OPS.p rfl (by exact st_conv_u rfl us3 un186 (by omega) (by omega)) ?_
      refine OPS.p rfl (st_call (L := [((.const (.bool false)), _), ((.tmp 46), _)]) false pl220 ⟨rfl, rfl, trivial⟩ rfl (k_unsigned false m h1 (by omega)) rfl) ?_
      refine OPS.s (by exact st_store_v sz29 rfl rfl rfl rfl rfl rfl) ?_
      refine OPS.nil ?_
      refine AWP.ret ?_
      refine Ret.mk rfl (congrArg pZ ?_)
      show m = _
      omega
  · have hy0 : y = 0 := by
      have := @iD_nil (y.natAbs : Int)
      omega
    refine AWP.exit ?_
    refine AWP.seq ?_
    refine AWP.region ?_
    refine OPS.p rfl (by exact st_load_va ag29 rfl rfl rfl rfl) ?_
    refine OPS.s (by exact st_store_v sz29 rfl rfl rfl rfl rfl rfl) ?_
    refine OPS.nil ?_
    refine AWP.ret ?_
    refine Ret.mk rfl ?_
    subst hy0
    rw [Int.gcd_zero_right]
    rfl
end Go.Proofs.Gh.Tryz
end
section
set_option linter.unusedVariables false
set_option linter.unusedSimpArgs false
set_option maxRecDepth 4000
namespace Go.Proofs.Gh.Tryz
open Go Go.Proofs Go.Proofs.Gh

theorem div_pos_law {x : Int} {b : Nat} (hb : 0 < b) : if x < 0 ∧ 0 < (x.natAbs : Int) % b then x / b = -((x.natAbs : Int) / b + 1) ∧ x % b = b - (x.natAbs : Int) % b else x / b = sg (decide (x < 0)) ((x.natAbs : Int) / b) ∧ x % b = (x.natAbs : Int) % b := by
  have hm := Int.emod_add_mul_ediv (x.natAbs : Int) b
  have hr0 : 0 ≤ (x.natAbs : Int) % b := Int.emod_nonneg _ (by omega)
  have hr1 : (x.natAbs : Int) % b < b := Int.emod_lt_of_pos _ (by omega)
  by_cases hx : x < 0
  · by_cases hr : 0 < (x.natAbs : Int) % b
    · rw [if_pos ⟨hx, hr⟩]
      have := (Int.ediv_emod_unique (a := x) (b := b) (r := b - (x.natAbs : Int) % b) (q := -((x.natAbs : Int) / b + 1)) (by omega)).2 ⟨by rw [Int.mul_neg, Int.mul_add, Int.mul_one]; omega, by omega, by omega⟩
      exact this
    · rw [if_neg (by omega)]
      have := (Int.ediv_emod_unique (a := x) (b := b) (r := (x.natAbs : Int) % b) (q := -((x.natAbs : Int) / b)) (by omega)).2 ⟨by rw [Int.mul_neg]; omega, by omega, by omega⟩
      simpa [sg, hx] using this
  · rw [if_neg (by omega)]
    have h : (x.natAbs : Int) = x := by omega
    rw [h]
    simp [sg, hx]
theorem sg_not (b : Bool) (n : Int) : sg (!b) n = -sg b n := by cases b <;> simp [sg]
theorem div_law {x y : Int} (hy : y ≠ 0) : if x < 0 ∧ 0 < (x.natAbs : Int) % y.natAbs then sg (decide (x < 0) != decide (y < 0)) ((x.natAbs : Int) / y.natAbs + 1) = x / y ∧ (y.natAbs : Int) - (x.natAbs : Int) % y.natAbs = x % y else sg (decide (x < 0) != decide (y < 0)) ((x.natAbs : Int) / y.natAbs) = x / y ∧ (x.natAbs : Int) % y.natAbs = x % y := by
  have h := div_pos_law (x := x) (b := y.natAbs) (by omega)
  by_cases hn : y < 0
  · have e : y = -(y.natAbs : Int) := by omega
    have e1 : x / y = -(x / (y.natAbs : Int)) := by conv => lhs; rw [e, Int.ediv_neg]
    have e2 : x % y = x % (y.natAbs : Int) := by conv => lhs; rw [e, Int.emod_neg]
    rw [e1, e2]
    simp only [hn, decide_true, Bool.bne_true, sg_not]
    split
    · rename_i hc
      rw [if_pos hc] at h
      rw [h.1, h.2]
      simp [sg, hc.1]
    · rename_i hc
      rw [if_neg hc] at h
      rw [h.1, h.2]
      exact ⟨rfl, rfl⟩
  · have e : y = (y.natAbs : Int) := by omega
    have e1 : x / y = (x / (y.natAbs : Int)) := by conv => lhs; rw [e]
    have e2 : x % y = x % (y.natAbs : Int) := by conv => lhs; rw [e]
    rw [e1, e2]
    simp only [hn, decide_false, Bool.bne_false]
    split
    · rename_i hc
      rw [if_pos hc] at h
      rw [h.1, h.2]
      simp [sg, hc.1]
    · rename_i hc
      rw [if_neg hc] at h
      rw [h.1, h.2]
      exact ⟨rfl, rfl⟩
theorem eI_nn {n : Int} (h : 0 ≤ n) (b : Bool) (hb : n ≠ 0 → b = b) : eI (sg b n) = [.bool (b && decide ((0 : Int) < (iD n).length)), .sl (iD n).length (fIs (iD n))] := by
  by_cases h0 : n = 0
  · subst h0
    rw [sg_zero, eI_zero]
    have : iD 0 = [] := by simp [iD, digs_zero]
    rw [this]
    simp [fIs]
  · have hl : 0 < (iD n).length := by have := @iD_nil n; omega
    have e : iD (sg b n) = iD n := by unfold iD; rw [sg_abs h]; congr 1; omega
    rw [eI, e, sg_neg (by omega), decide_eq_true (show (0 : Int) < (iD n).length by omega), Bool.and_true]

theorem k_Div (x y : Int) (hx : Sml x.natAbs) (hy : Sml y.natAbs) : PureC Tryz.prog 215 [pZ x, pZ y] (.tup [pZ (x / y), pZ (if y = 0 then 0 else x % y)]) := by
  have hy0 := @iD_nil y
  have hdl := @div_law x y
  have hA : x.natAbs < 1000000000000000000 := hx
  have hB : y.natAbs < 1000000000000000000 := hy
  generalize hq : (x.natAbs : Int) / y.natAbs = q0 at hdl
  generalize hr : (x.natAbs : Int) % y.natAbs = r0 at hdl
  have hq0 : 0 ≤ q0 := by rw [← hq]; exact Int.ediv_nonneg (by omega) (by omega)
  have hq1 : q0 ≤ x.natAbs := by rw [← hq]; exact Int.ediv_le_self _ (by omega)
  have hr0 : y ≠ 0 → 0 ≤ r0 ∧ r0 < y.natAbs := fun h => by rw [← hr]; exact ⟨Int.emod_nonneg _ (by omega), Int.emod_lt_of_pos _ (by omega)⟩
  have hlr := @iD_nil r0
  refine PureC.of Tryz.func215 rfl Tryz.ntmps215 (vs := [.cell 4 29, .cell 5 29]) rfl (Nat.le_of_ble_eq_true rfl) rfl fun cx _ _ => ?_
  refine AWP.seq ?_
  refine AWP.region ?_
  refine OPS.a rfl (st_box rfl rfl) ?_
  refine OPS.a rfl (st_box rfl rfl) ?_
  refine OPS.a rfl (st_alloc ze29) ?_
  refine OPS.a rfl (st_alloc ze29) ?_
  refine OPS.nil ?_
  refine AWP.seq ?_
  refine AWP.seq ?_
  refine AWP.region ?_
  refine OPS.p rfl (by exact st_field_p off29_1 rfl) ?_
  refine OPS.p rfl (by exact st_load_vs sc22 rfl rfl rfl) ?_
  refine OPS.p rfl (st_len un22 rfl rfl) ?_
  refine OPS.p rfl (st_eql rfl rfl) ?_
  refine OPS.nil ?_
  refine AWP.condD rfl (fun hc1 => ?_) (fun hc1 => ?_)
  · refine AWP.seq ?_
    refine AWP.region ?_
    refine OPS.p rfl (st_build (L := []) zf29 pl_29 trivial rfl rfl) ?_
    refine OPS.p rfl (st_build (L := []) zf29 pl_29 trivial rfl rfl) ?_
    refine OPS.s (by exact st_store_v sz29 rfl rfl rfl rfl rfl rfl) ?_
    refine OPS.s (by exact st_store_v sz29 rfl rfl rfl rfl rfl rfl) ?_
    refine OPS.nil ?_
    refine AWP.ret ?_
    have h0 : y = 0 := hy0.1 (by omega)
    subst h0
    exact Ret.mk2 rfl (by rw [pZ, Int.ediv_zero, eI_zero]) (by rw [pZ, if_pos rfl, eI_zero])
  · have hyz : y ≠ 0 := fun h => hc1 (by have := hy0.2 h; omega)
    have hrr := hr0 hyz
    have hdl := hdl hyz
    have hkd : PureC Tryz.prog 269 [pL (iD x), pL (iD y)] (.tup [pZ q0, pZ r0]) := by rw [← hq, ← hr]; exact k_divide x.natAbs y.natAbs hx hy (by omega)
    refine AWP.skip ?_
    refine AWP.seq ?_
    refine AWP.region ?_
    refine OPS.p rfl (by exact st_field_p off29_1 rfl) ?_
    refine OPS.p rfl (by exact st_load_vs sc22 rfl rfl rfl) ?_
    refine OPS.p rfl (by exact st_field_p off29_1 rfl) ?_
    refine OPS.p rfl (by exact st_load_vs sc22 rfl rfl rfl) ?_
    refine OPS.p rfl (st_call (L := [((.tmp 16), _), ((.tmp 18), _)]) false pl269 ⟨rfl, rfl, trivial⟩ rfl (hkd) rfl) ?_
    refine OPS.p rfl (st_move rfl) ?_
    refine OPS.p rfl (st_extract rfl rfl) ?_
    refine OPS.p rfl (st_extract rfl rfl) ?_
    refine OPS.a rfl (st_alloc ze29) ?_
    refine OPS.a rfl (st_alloc ze29) ?_
    refine OPS.s (by exact st_store_v sz29 rfl rfl rfl rfl rfl rfl) ?_
    refine OPS.s (by exact st_store_v sz29 rfl rfl rfl rfl rfl rfl) ?_
    refine OPS.nil ?_
    refine AWP.seq ?_
    refine AWP.mono (n := fun s' => ∃ zz : Int × Int, SubR (loOf cx) s' ((fun (zz : Int × Int) => ⟨[(2, .ptr 0 0), (3, .ptr 1 0), (4, .ptr 2 0), (5, .ptr 3 0), (6, .ptr 4 0), (7, .ptr 5 0)], [(0, .var [pB (decide (x < 0)), pL (iD x)]), (1, .var [pB (decide (y < 0)), pL (iD y)]), (2, .var [pB false, .cell (.sl 0 [])]), (3, .var [pB false, .cell (.sl 0 [])]), (4, .var [pB (decide (zz.1 < 0)), pL (iD zz.1)]), (5, .var [pB (decide (zz.2 < 0)), pL (iD zz.2)])], 8⟩) zz) ∧ (fun (zz : Int × Int) => 0 ≤ zz.1 ∧ sg (decide (x < 0) != decide (y < 0)) zz.1 = x / y ∧ zz.2 = x % y) zz) ?_ ?_
    · refine AWP.seq ?_
      refine AWP.region ?_
      refine OPS.p rfl (by exact st_field_p off29_0 rfl) ?_
      refine OPS.p rfl (by exact st_load_vs sc4 rfl rfl rfl) ?_
      refine OPS.p rfl (st_move rfl) ?_
      refine OPS.split (g := 24) rfl (fun eg4_2 g4_2 => ?_) (fun eg4_2 g4_2 => ?_)
      · refine OPS.pG rfl rfl rfl eg4_2 (by exact st_field_p off29_1 rfl) ?_
        refine OPS.pG rfl rfl rfl eg4_2 (by exact st_load_vs sc22 rfl rfl rfl) ?_
        refine OPS.pG rfl rfl rfl eg4_2 (st_len un22 rfl rfl) ?_
        refine OPS.pG rfl rfl rfl eg4_2 (st_gtr rfl rfl) ?_
        refine OPS.p rfl (st_pickT rfl eg4_2 rfl) ?_
        refine OPS.nil ?_
        refine AWP.condD rfl (fun hc4 => ?_) (fun hc4 => ?_)
        · refine AWP.seq ?_
          have hk4 : PureC Tryz.prog 221 [pB false, pL (if (iD q0).length < [(1 : Int)].length then plusL [1] (iD q0) 0 else plusL (iD q0) [1] 0)] (pZ (q0 + 1)) := by
            have hp := plusL_if (a := iD q0) (b := [1]) (iD_dig _) (.cons (by omega) (by omega) .nil)
            have hl0 := Sml.len (n := q0.natAbs) (Sml.mono hx (by omega))
            have hl1 : (iD q0).length ≤ 2 := hl0
            have := k_of false _ (Nat.le_trans hp.2.2 (by simp only [List.length_singleton]; omega)) hp.2.1
            rw [hp.1, iD_val] at this
            have e : sg false ((q0.natAbs : Int) + dval [1]) = q0 + 1 := by simp [sg, dval]; omega
            rw [e] at this
            exact this
          have hk5 : PureC Tryz.prog 221 [pB false, pL (minusL (iD y) (iD r0) 0)] (pZ (y.natAbs - r0)) := by
            have hm := minusL_nat (a := y.natAbs) (b := r0.natAbs) (by omega)
            have := k_of false (minusL (digs y.natAbs) (digs r0.natAbs) 0) (by rw [minusL_len]; exact Nat.le_trans hy.len (by omega)) hm.2
            rw [hm.1, show (r0.natAbs : Int) = r0 by omega] at this
            exact this
          refine AWP.region ?_
          refine OPS.p rfl (by exact st_field_p off29_1 rfl) ?_
          refine OPS.p rfl (by exact st_load_vs sc22 rfl rfl rfl) ?_
          refine OPS.a rfl (Stp.frz (st_buildS (L := [(0, (.const (.int .i64 1)), _)]) ei22 rfl ⟨rfl, trivial⟩ rfl rfl) rfl) ?_
          refine OPS.p rfl (st_call (L := [((.tmp 31), _), ((.tmp 32), _)]) false pl222 ⟨rfl, rfl, trivial⟩ rfl (k_plus (iD q0) [1] (iD_dig _) (.cons (by omega) (by omega) .nil) (Nat.le_trans (Sml.fit (Sml.mono hx (by omega))) (by omega)) (by simp)) rfl) ?_
          refine OPS.p rfl (st_call (L := [((.const (.bool false)), _), ((.tmp 33), _)]) false pl221 ⟨rfl, rfl, trivial⟩ rfl (hk4) rfl) ?_
          refine OPS.s (by exact st_store_v sz29 rfl rfl rfl rfl rfl rfl) ?_
          refine OPS.nil ?_
          refine AWP.region ?_
          refine OPS.p rfl (by exact st_field_p off29_1 rfl) ?_
          refine OPS.p rfl (by exact st_load_vs sc22 rfl rfl rfl) ?_
          refine OPS.p rfl (by exact st_field_p off29_1 rfl) ?_
          refine OPS.p rfl (by exact st_load_vs sc22 rfl rfl rfl) ?_
          refine OPS.p rfl (st_call (L := [((.tmp 36), _), ((.tmp 38), _)]) false pl224 ⟨rfl, rfl, trivial⟩ rfl (k_minus (digs y.natAbs) (digs r0.natAbs) (iD_dig y) (iD_dig r0) (Nat.le_trans hy.len (by omega)) (digs_len_mono (by omega)) (by rw [dval_digs, dval_digs]; omega)) rfl) ?_
          refine OPS.p rfl (st_call (L := [((.const (.bool false)), _), ((.tmp 39), _)]) false pl221 ⟨rfl, rfl, trivial⟩ rfl (hk5) rfl) ?_
          refine OPS.s (by exact st_store_v sz29 rfl rfl rfl rfl rfl rfl) ?_
          refine OPS.nil ?_
          refine ⟨(q0 + 1, y.natAbs - r0), (Sub.r (Sub.mk' ⟨(by rfl), (by rfl), (by rfl), (by rfl), (by rfl), (by rfl), trivial⟩ ⟨(by rfl), (by rfl), (by rfl), (by rfl), (by rfl), (by rfl), trivial⟩ (by omega))), ?_⟩
          try dsimp only
          rw [if_pos ⟨g4_2, by omega⟩] at hdl
          exact ⟨by omega, hdl.1, hdl.2⟩
        · refine AWP.skip ?_
          refine ⟨(q0, r0), (Sub.r (Sub.mk' ⟨(by rfl), (by rfl), (by rfl), (by rfl), (by rfl), (by rfl), trivial⟩ ⟨(by rfl), (by rfl), (by rfl), (by rfl), (by rfl), (by rfl), trivial⟩ (by omega))), ?_⟩
          try dsimp only
          rw [if_neg (by omega)] at hdl
          exact ⟨hq0, hdl.1, hdl.2⟩
      · refine OPS.nO rfl rfl rfl eg4_2 ?_
        refine OPS.nO rfl rfl rfl eg4_2 ?_
        refine OPS.nO rfl rfl rfl eg4_2 ?_
        refine OPS.nO rfl rfl rfl eg4_2 ?_
        refine OPS.p rfl (st_pickF rfl eg4_2 rfl) ?_
        refine OPS.nil ?_
        refine AWP.cond_f rfl (rfl) ?_
        refine AWP.skip ?_
        refine ⟨(q0, r0), (Sub.r (Sub.mk' ⟨(by rfl), (by rfl), (by rfl), (by rfl), (by rfl), (by rfl), trivial⟩ ⟨(by rfl), (by rfl), (by rfl), (by rfl), (by rfl), (by rfl), trivial⟩ (by omega))), ?_⟩
        try dsimp only
        rw [if_neg (by omega)] at hdl
        exact ⟨hq0, hdl.1, hdl.2⟩
    · rintro s' ⟨⟨q, r⟩, hsub, hinv⟩
      have hinv : 0 ≤ q ∧ sg (decide (x < 0) != decide (y < 0)) q = x / y ∧ r = x % y := hinv
      obtain ⟨h1, h2, h3⟩ := id hinv
      refine AWP.subR hsub ?_
      show AWP _ _ _ _ _ _ _ ⟨[(2, .ptr 0 0), (3, .ptr 1 0), (4, .ptr 2 0), (5, .ptr 3 0), (6, .ptr 4 0), (7, .ptr 5 0)], [(0, .var [pB (decide (x < 0)), pL (iD x)]), (1, .var [pB (decide (y < 0)), pL (iD y)]), (2, .var [pB false, .cell (.sl 0 [])]), (3, .var [pB false, .cell (.sl 0 [])]), (4, .var [pB (decide (q < 0)), pL (iD q)]), (5, .var [pB (decide (r < 0)), pL (iD r)])], 8⟩
      refine AWP.seq ?_
      refine AWP.region ?_
      refine OPS.p rfl (by exact st_field_p off29_0 rfl) ?_
      refine OPS.p rfl (by exact st_load_vs sc4 rfl rfl rfl) ?_
      refine OPS.p rfl (by exact st_field_p off29_0 rfl) ?_
      refine OPS.p rfl (by exact st_load_vs sc4 rfl rfl rfl) ?_
      refine OPS.p rfl (st_neq_b rfl rfl un4) ?_
      refine OPS.p rfl (st_move rfl) ?_
      refine OPS.splitB (g := 46) rfl (fun eg7_5 g7_5 => ?_) (fun eg7_5 g7_5 => ?_)
      · refine OPS.pG rfl rfl rfl eg7_5 (by exact st_field_p off29_1 rfl) ?_
        refine OPS.pG rfl rfl rfl eg7_5 (by exact st_load_vs sc22 rfl rfl rfl) ?_
        refine OPS.pG rfl rfl rfl eg7_5 (st_len un22 rfl rfl) ?_
        refine OPS.pG rfl rfl rfl eg7_5 (st_gtr rfl rfl) ?_
        refine OPS.p rfl (st_pickT rfl eg7_5 rfl) ?_
        refine OPS.p rfl (by exact st_field_p off29_0 rfl) ?_
        refine OPS.s (by exact st_store_v sz4 rfl rfl rfl rfl rfl rfl) ?_
        refine OPS.nil ?_
        refine AWP.seq ?_
        refine AWP.drw mixed ?_
        refine DRW.p rfl (by exact st_load_va ag29 rfl rfl rfl rfl) ?_
        refine DRW.p rfl (by exact st_load_va ag29 rfl rfl rfl rfl) ?_
        refine DRW.s (by exact st_store_v sz29 rfl rfl rfl rfl rfl rfl) ?_
        refine DRW.s (by exact st_store_v sz29 rfl rfl rfl rfl rfl rfl) ?_
        refine DRW.nil (by kernel_rfl) ?_
        refine AWP.ret ?_
        refine Ret.mk2 rfl ?_ ?_
        · rw [pZ, ← h2, eI_nn h1 _ fun _ => rfl, g7_5, Bool.true_and]
        · rw [if_neg hyz, ← h3]; rfl
      · refine OPS.nO rfl rfl rfl eg7_5 ?_
        refine OPS.nO rfl rfl rfl eg7_5 ?_
        refine OPS.nO rfl rfl rfl eg7_5 ?_
        refine OPS.nO rfl rfl rfl eg7_5 ?_
        refine OPS.p rfl (st_pickF rfl eg7_5 rfl) ?_
        refine OPS.p rfl (by exact st_field_p off29_0 rfl) ?_
        refine OPS.s (by exact st_store_v sz4 rfl rfl rfl rfl rfl rfl) ?_
        refine OPS.nil ?_
        refine AWP.seq ?_
        refine AWP.drw mixed ?_
        refine DRW.p rfl (by exact st_load_va ag29 rfl rfl rfl rfl) ?_
        refine DRW.p rfl (by exact st_load_va ag29 rfl rfl rfl rfl) ?_
        refine DRW.s (by exact st_store_v sz29 rfl rfl rfl rfl rfl rfl) ?_
        refine DRW.s (by exact st_store_v sz29 rfl rfl rfl rfl rfl rfl) ?_
        refine DRW.nil (by kernel_rfl) ?_
        refine AWP.ret ?_
        refine Ret.mk2 rfl ?_ ?_
        · rw [pZ, ← h2, eI_nn h1 _ fun _ => rfl, g7_5, Bool.false_and]
        · rw [if_neg hyz, ← h3]; rfl
end Go.Proofs.Gh.Tryz
end
section
set_option linter.unusedVariables false
set_option linter.unusedSimpArgs false
set_option maxRecDepth 4000
namespace Go.Proofs.Gh.Tryz
open Go Go.Proofs Go.Proofs.Gh

theorem dval_drop_le {l : List Int} (h : Dig l) (k : Nat) : dval (l.drop k) ≤ dval l := by
  induction k generalizing l with
  | zero => simp
  | succ k ih =>
    cases l with
    | nil => simp
    | cons d l =>
      have := ih h.tail
      have := dval_nonneg h.tail
      have := h.head
      simp only [List.drop_succ_cons, dval]
      omega
theorem digs_big {n : Nat} (h : 3 < (digs n).length) : 1000000000000000000000000000 ≤ n := by
  apply Nat.le_of_not_lt
  intro hlt
  have : (digs n).length ≤ 3 := by
    by_cases h0 : n = 0
    · subst h0; rw [digs_zero]; simp
    · by_cases h1 : n < 1000000000
      · rw [digs_small (by omega) h1]; simp
      · by_cases h2 : n < 1000000000000000000
        · rw [digs_2 (by omega) h2]; simp
        · rw [digs_3 (by omega) hlt]; simp
  omega
theorem dval_three {l : List Int} (h : l.length = 3) : dval l = l.getD 0 0 + 1000000000 * l.getD 1 0 + 1000000000000000000 * l.getD 2 0 := by
  match l, h with
  | [a, b, c], _ => simp [dval]; omega
theorem dval_le3 {l : List Int} (hd : Dig l) (h : l.length < 3) : dval l < 1000000000000000000 := by
  match l, h with
  | [], _ => simp [dval]
  | [a], _ => have := hd.head; simp [dval]; omega
  | [a, b], _ => have := hd.head; have := hd.tail.head; simp [dval]; omega

theorem k_Small (x : Int) (hx : Fit x.natAbs) : PureC Tryz.prog 254 [pZ x] (.tup [pI (if -9223372036854775808 ≤ x ∧ x ≤ 9223372036854775807 then x else 0), pB (decide (-9223372036854775808 ≤ x ∧ x ≤ 9223372036854775807))]) := by
  have hd := iD_dig x
  have hv := iD_val x
  have hb := @digs_big x.natAbs
  have hlx := hx.len
  change 3 < (iD x).length → _ at hb
  have h3 := @dval_three (iD x)
  have h2 := @dval_le3 (iD x) hd
  have h10 := hd.get 0
  have h11 := hd.get 1
  have h12 := hd.get 2
  show PureC Tryz.prog 254 [.agg [.bool (decide (x < 0)), .sl (iD x).length (fIs (iD x))]] _
  generalize iD x = l at *
  refine PureC.of Tryz.func254 rfl Tryz.ntmps254 (vs := [.tmp 2, .tmp 3]) rfl (Nat.le_of_ble_eq_true rfl) rfl fun cx _ _ => ?_
  refine AWP.seq ?_
  refine AWP.region ?_
  refine OPS.a rfl (st_box rfl rfl) ?_
  refine OPS.p rfl (st_assign rfl) ?_
  refine OPS.p rfl (st_assign rfl) ?_
  refine OPS.nil ?_
  refine AWP.seq ?_
  refine AWP.mono (n := fun s' => ∃ zz : Unit, SubR (loOf cx) s' ((fun (zz : Unit) => ⟨[(1, .ptr 0 0)], [(0, .var [pB (decide (x < 0)), pL l])], 1⟩) zz) ∧ (fun (zz : Unit) => dval l < 10000000000000000000) zz) ?_ ?_
  · refine AWP.seq ?_
    refine AWP.region ?_
    refine OPS.p rfl (by exact st_field_p off29_1 rfl) ?_
    refine OPS.p rfl (by exact st_load_vs sc22 rfl rfl rfl) ?_
    refine OPS.p rfl (st_len un22 rfl rfl) ?_
    refine OPS.p rfl (st_gtr rfl rfl) ?_
    refine OPS.p rfl (st_move rfl) ?_
    refine OPS.split (g := 10) rfl (fun eg1_4 g1_4 => ?_) (fun eg1_4 g1_4 => ?_)
    · refine OPS.nO rfl rfl rfl eg1_4 ?_
      refine OPS.nO rfl rfl rfl eg1_4 ?_
      refine OPS.nO rfl rfl rfl eg1_4 ?_
      refine OPS.nO rfl rfl rfl eg1_4 ?_
      refine OPS.nO rfl rfl rfl eg1_4 ?_
      refine OPS.nT rfl rfl rfl ?_
      refine OPS.nT rfl rfl rfl ?_
      refine OPS.nT rfl rfl rfl ?_
      refine OPS.nT rfl rfl rfl ?_
      refine OPS.nT rfl rfl rfl ?_
      refine OPS.nO rfl rfl rfl eg1_4 ?_
      refine OPS.p rfl (st_pickT rfl eg1_4 rfl) ?_
      refine OPS.nil ?_
      refine AWP.cond_t rfl (rfl) ?_
      refine AWP.seq ?_
      refine AWP.region ?_
      refine OPS.p rfl (st_assign rfl) ?_
      refine OPS.p rfl (st_assign rfl) ?_
      refine OPS.nil ?_
      refine AWP.ret ?_
      have := hb (by omega)
      exact Ret.mk2 rfl (by rw [if_neg (by omega)]) (by rw [decide_eq_false (by omega)])
    · refine OPS.pG rfl rfl rfl eg1_4 (by exact st_field_p off29_1 rfl) ?_
      refine OPS.pG rfl rfl rfl eg1_4 (by exact st_load_vs sc22 rfl rfl rfl) ?_
      refine OPS.pG rfl rfl rfl eg1_4 (st_len un22 rfl rfl) ?_
      refine OPS.pG rfl rfl rfl eg1_4 (st_eql rfl rfl) ?_
      refine OPS.pG rfl rfl rfl eg1_4 (st_move rfl) ?_
      refine OPS.split (g := 15) rfl (fun eg1_9 g1_9 => ?_) (fun eg1_9 g1_9 => ?_)
      · refine OPS.pG rfl rfl rfl eg1_9 (by exact st_field_p off29_1 rfl) ?_
        refine OPS.pG rfl rfl rfl eg1_9 (by exact st_load_vs sc22 rfl rfl rfl) ?_
        refine OPS.pG rfl rfl rfl eg1_9 (by exact st_index_I es22 rfl rfl (by omega) (by omega) (by rfl)) ?_
        refine OPS.pG rfl rfl rfl eg1_9 (by exact st_load_In sc3 rfl rfl (by (simp; omega))) ?_
        refine OPS.pG rfl rfl rfl eg1_9 (st_gtr rfl rfl) ?_
        refine OPS.pG rfl rfl rfl eg1_4 (st_pickT rfl eg1_9 rfl) ?_
        refine OPS.p rfl (st_pickF rfl eg1_4 rfl) ?_
        refine OPS.nil ?_
        refine AWP.condD rfl (fun hc1 => ?_) (fun hc1 => ?_)
        · refine AWP.seq ?_
          refine AWP.region ?_
          refine OPS.p rfl (st_assign rfl) ?_
          refine OPS.p rfl (st_assign rfl) ?_
          refine OPS.nil ?_
          refine AWP.ret ?_
          have := h3 (by omega)
          have hc1 : 9 < l.getD 2 0 := hc1
          exact Ret.mk2 rfl (by rw [if_neg (by omega)]) (by rw [decide_eq_false (by omega)])
        · refine AWP.skip ?_
          refine ⟨(()), (Sub.r (Sub.mk' ⟨(by rfl), trivial⟩ ⟨(by rfl), trivial⟩ (by exact Nat.le_refl _))), ?_⟩
          try dsimp only
          have := h3 (by omega)
          have hc1 : ¬ 9 < l.getD 2 0 := hc1
          omega
      · refine OPS.nO rfl rfl rfl eg1_9 ?_
        refine OPS.nO rfl rfl rfl eg1_9 ?_
        refine OPS.nO rfl rfl rfl eg1_9 ?_
        refine OPS.nO rfl rfl rfl eg1_9 ?_
        refine OPS.nO rfl rfl rfl eg1_9 ?_
        refine OPS.pG rfl rfl rfl eg1_4 (st_pickF rfl eg1_9 rfl) ?_
        refine OPS.p rfl (st_pickF rfl eg1_4 rfl) ?_
        refine OPS.nil ?_
        refine AWP.cond_f rfl (rfl) ?_
        refine AWP.skip ?_
        refine ⟨(()), (Sub.r (Sub.mk' ⟨(by rfl), trivial⟩ ⟨(by rfl), trivial⟩ (by exact Nat.le_refl _))), ?_⟩
        try dsimp only
        have := h2 (by omega)
        omega
  · rintro s' ⟨u, hsub, hinv⟩
    have hinv : dval l < 10000000000000000000 := hinv
    obtain hlt := id hinv
    refine AWP.subR hsub ?_
    show AWP _ _ _ _ _ _ _ ⟨[(1, .ptr 0 0)], [(0, .var [pB (decide (x < 0)), pL l])], 1⟩
    refine AWP.seq ?_
    refine AWP.region ?_
    refine OPS.p rfl (st_assign rfl) ?_
    refine OPS.nil ?_
    refine AWP.seq ?_
    refine AWP.seq ?_
    refine AWP.region ?_
    refine OPS.p rfl (by exact st_field_p off29_1 rfl) ?_
    refine OPS.p rfl (by exact st_load_vs sc22 rfl rfl rfl) ?_
    refine OPS.p rfl (st_len un22 rfl rfl) ?_
    refine OPS.p rfl (by exact st_sub_i rfl rfl (by omega) (by omega)) ?_
    refine OPS.p rfl (st_assign rfl) ?_
    refine OPS.nil ?_
    refine AWP.block ?_
    refine AWP.loopR (σ := Int × Int) (fun (zz : Int × Int) => ⟨[(1, .ptr 0 0), (4, .cell (.int .u64 zz.2)), (5, pI zz.1)], [(0, .var [pB (decide (x < 0)), pL l])], 1⟩) (fun (zz : Int × Int) => -1 ≤ zz.1 ∧ zz.1 < l.length ∧ zz.2 = dval (l.drop (zz.1 + 1).toNat)) (fun (zz : Int × Int) => (zz.1 + 1).toNat) ((l.length : Int) - 1, 0) (Sub.r (Sub.mk' ⟨(by rfl), (by rfl), (by rfl), trivial⟩ ⟨(by rfl), trivial⟩ (by exact Nat.le_refl _))) (by exact ⟨by omega, by omega, by rw [List.drop_of_length_le (by omega)]; rfl⟩) ?_
    rintro ⟨i, u⟩ hinv
    have hinv : -1 ≤ i ∧ i < l.length ∧ u = dval (l.drop (i + 1).toNat) := hinv
    obtain ⟨k1, k2, k3⟩ := hinv
    show AWP _ _ _ _ _ _ _ ⟨[(1, .ptr 0 0), (4, .cell (.int .u64 u)), (5, pI i)], [(0, .var [pB (decide (x < 0)), pL l])], 1⟩
    refine AWP.seq ?_
    refine AWP.seq ?_
    refine AWP.region ?_
    refine OPS.p rfl (st_move rfl) ?_
    refine OPS.p rfl (st_geq rfl rfl) ?_
    refine OPS.nil ?_
    refine AWP.condD rfl (fun hc5 => ?_) (fun hc5 => ?_)
    · have hi : i.toNat < l.length := by omega
      have hdi := hd.get i.toNat
      have hs : dval (l.drop i.toNat) = l.getD i.toNat 0 + 1000000000 * u := by
        rw [drop_cons hi, dval, k3, show i.toNat + 1 = (i + 1).toNat by omega]
      have hle := dval_drop_le hd i.toNat
      have hu0 : 0 ≤ u := by rw [k3]; exact dval_nonneg (hd.drop _)
      refine AWP.skip ?_
      refine AWP.seq ?_
      refine AWP.block ?_
      refine AWP.region ?_
      refine OPS.p rfl (st_move rfl) ?_
      refine OPS.p rfl (by exact st_mul_u rfl rfl (by omega) (by omega)) ?_
      refine OPS.p rfl (by exact st_field_p off29_1 rfl) ?_
      refine OPS.p rfl (by exact st_load_vs sc22 rfl rfl rfl) ?_
      refine OPS.p rfl (st_move rfl) ?_
      refine OPS.p rfl (by exact st_index_I es22 rfl rfl (by omega) (by omega) (by rfl)) ?_
      refine OPS.p rfl (by exact st_load_I sc3 rfl (by omega) (by omega)) ?_
      refine OPS.p rfl (by exact st_conv_u rfl us3 un186 (by omega) (by omega)) ?_
      refine OPS.p rfl (by exact st_add_u rfl rfl (by omega) (by omega)) ?_
      refine OPS.p rfl (st_assign rfl) ?_
      refine OPS.nil ?_
      refine AWP.region ?_
      refine OPS.p rfl (st_move rfl) ?_
      refine OPS.p rfl (by exact st_sub_i rfl rfl (by omega) (by omega)) ?_
      refine OPS.p rfl (st_assign rfl) ?_
      refine OPS.nil ?_
      refine ⟨(i - 1, u * 1000000000 + l.getD i.toNat 0), (Sub.r (Sub.mk' ⟨(by rfl), (by rfl), (by rfl), trivial⟩ ⟨(by rfl), trivial⟩ (by exact Nat.le_refl _))), ?_, ?_⟩
      · try dsimp only
        exact ⟨by omega, by omega, by rw [show (i - 1 + 1).toNat = i.toNat by omega]; omega⟩
      · try dsimp only
        omega
    · refine AWP.exit ?_
      refine AWP.seq ?_
      refine AWP.block ?_
      refine AWP.seq ?_
      have hu : u = x.natAbs := by
        rw [k3, ← hv, show (i + 1).toNat = 0 by omega]
        rfl
      refine AWP.region ?_
      refine OPS.p rfl (by exact st_field_p off29_0 rfl) ?_
      refine OPS.p rfl (by exact st_load_vs sc4 rfl rfl rfl) ?_
      refine OPS.p rfl (st_move rfl) ?_
      refine OPS.split (g := 43) rfl (fun eg8_2 g8_2 => ?_) (fun eg8_2 g8_2 => ?_)
      · refine OPS.pG rfl rfl rfl eg8_2 (st_move rfl) ?_
        refine OPS.pG rfl rfl rfl eg8_2 (st_leq rfl rfl) ?_
        refine OPS.p rfl (st_pickT rfl eg8_2 rfl) ?_
        refine OPS.p rfl (st_assign rfl) ?_
        refine OPS.nil ?_
        refine AWP.condD rfl (fun hc8 => ?_) (fun hc8 => ?_)
        · refine AWP.seq ?_
          refine AWP.region ?_
          refine OPS.p rfl (st_move rfl) ?_
          refine OPS.p rfl (by exact st_neg rfl) ?_
          refine OPS.p rfl (by exact st_conv rfl us186 un3) ?_
          refine OPS.p rfl (st_assign rfl) ?_
          refine OPS.p rfl (st_assign rfl) ?_
          refine OPS.nil ?_
          refine AWP.ret ?_
          refine Ret.mk2 rfl ?_ (by rw [decide_eq_true (by omega)])
          rw [if_pos (by omega)]
          refine congrArg pI ?_
          simp only [IntKind.wrap_u64, IntKind.wrap_i64]
          omega
        · refine AWP.seq ?_
          refine AWP.region ?_
          refine OPS.p rfl (by exact st_field_p off29_0 rfl) ?_
          refine OPS.p rfl (by exact st_load_vs sc4 rfl rfl rfl) ?_
          refine OPS.p rfl (by exact st_not_d rfl) ?_
          refine OPS.p rfl (st_move rfl) ?_
          refine OPS.nO rfl rfl rfl ((decide_eq_false (by omega))) ?_
          refine OPS.nO rfl rfl rfl ((decide_eq_false (by omega))) ?_
          refine OPS.p rfl (st_pickF rfl ((decide_eq_false (by omega))) rfl) ?_
          refine OPS.p rfl (st_assign rfl) ?_
          refine OPS.nil ?_
          refine AWP.cond_f rfl (rfl) ?_
          refine AWP.skip ?_
          refine AWP.seq ?_
          refine AWP.region ?_
          refine OPS.p rfl (st_assign rfl) ?_
          refine OPS.p rfl (st_assign rfl) ?_
          refine OPS.nil ?_
          refine AWP.ret ?_
          exact Ret.mk2 rfl (by rw [if_neg (by omega)]) (by rw [decide_eq_false (by omega)])
      · refine OPS.nO rfl rfl rfl eg8_2 ?_
        refine OPS.nO rfl rfl rfl eg8_2 ?_
        refine OPS.p rfl (st_pickF rfl eg8_2 rfl) ?_
        refine OPS.p rfl (st_assign rfl) ?_
        refine OPS.nil ?_
        refine AWP.cond_f rfl (rfl) ?_
        refine AWP.seq ?_
        refine AWP.region ?_
        refine OPS.p rfl (by exact st_field_p off29_0 rfl) ?_
        refine OPS.p rfl (by exact st_load_vs sc4 rfl rfl rfl) ?_
        refine OPS.p rfl (by exact st_not_d rfl) ?_
        refine OPS.p rfl (st_move rfl) ?_
        refine OPS.pG rfl rfl rfl ((decide_eq_true (by omega))) (st_move rfl) ?_
        refine OPS.pG rfl rfl rfl ((decide_eq_true (by omega))) (st_lss rfl rfl) ?_
        refine OPS.p rfl (st_pickT rfl ((decide_eq_true (by omega))) rfl) ?_
        refine OPS.p rfl (st_assign rfl) ?_
        refine OPS.nil ?_
        refine AWP.condD rfl (fun hc10 => ?_) (fun hc10 => ?_)
        · refine AWP.seq ?_
          refine AWP.region ?_
          refine OPS.p rfl (st_move rfl) ?_
          refine OPS.p rfl (by exact st_conv_i rfl us186 un3 (by omega) (by omega)) ?_
          refine OPS.p rfl (st_assign rfl) ?_
          refine OPS.p rfl (st_assign rfl) ?_
          refine OPS.nil ?_
          refine AWP.ret ?_
          refine Ret.mk2 rfl ?_ (by rw [decide_eq_true (by omega)])
          rw [if_pos (by omega)]
          refine congrArg pI ?_
          try simp only [IntKind.wrap_u64, IntKind.wrap_i64]
          omega
        · refine AWP.skip ?_
          refine AWP.seq ?_
          refine AWP.region ?_
          refine OPS.p rfl (st_assign rfl) ?_
          refine OPS.p rfl (st_assign rfl) ?_
          refine OPS.nil ?_
          refine AWP.ret ?_
          exact Ret.mk2 rfl (by rw [if_neg (by omega)]) (by rw [decide_eq_false (by omega)])
end Go.Proofs.Gh.Tryz
end
section
set_option linter.unusedVariables false
set_option linter.unusedSimpArgs false
set_option maxRecDepth 4000
namespace Go.Proofs.Gh.Tryz
open Go Go.Proofs Go.Proofs.Gh

theorem newton {x r s : Int} (hr : 0 < r) (h1 : s * s ≤ x) : s ≤ (r + x / r) / 2 := by
  have h2 : (2 * s - r) * r ≤ x := by
    have h3 : 0 ≤ (s - r) * (s - r) := by
      by_cases h : 0 ≤ s - r
      · exact Int.mul_nonneg h h
      · have := Int.mul_nonneg (show 0 ≤ -(s - r) by omega) (show 0 ≤ -(s - r) by omega)
        rwa [Int.neg_mul_neg] at this
    rw [Int.sub_mul] at h3 ⊢
    rw [Int.mul_sub, Int.mul_sub, Int.mul_comm r s] at h3
    rw [Int.mul_assoc]
    omega
  have := (Int.le_ediv_iff_mul_le hr).2 h2
  omega
theorem sq_lt {a b : Int} (ha : 0 ≤ a) (h : a < b) : (a + 1) * (a + 1) ≤ b * b := Int.mul_le_mul (by omega) (by omega) (by omega) (by omega)

theorem k_Root (x s : Nat) (hx : Sml x) (hs1 : (s : Int) * s ≤ x) (hs2 : (x : Int) < (s + 1) * (s + 1)) : PureC Tryz.prog 253 [pZ x] (.tup [pZ s, pB (decide ((s : Int) * s = x))]) := by
  have hA : x < 1000000000000000000 := hx
  have hl0 := @iD_nil (x : Int)
  have hl2 : (iD (x : Int)).length ≤ 2 := hx.len
  refine PureC.of Tryz.func253 rfl Tryz.ntmps253 (vs := [.cell 2 29, .tmp 3]) rfl (Nat.le_of_ble_eq_true rfl) rfl fun cx _ _ => ?_
  refine AWP.seq ?_
  refine AWP.region ?_
  refine OPS.a rfl (st_box rfl rfl) ?_
  refine OPS.a rfl (st_alloc ze29) ?_
  refine OPS.p rfl (st_assign rfl) ?_
  refine OPS.nil ?_
  refine AWP.seq ?_
  refine AWP.seq ?_
  refine AWP.region ?_
  refine OPS.p rfl (by exact st_field_p off29_0 rfl) ?_
  refine OPS.p rfl (by exact st_load_vs sc4 rfl rfl rfl) ?_
  refine OPS.p rfl (st_move rfl) ?_
  refine OPS.pG rfl rfl rfl ((decide_eq_false (by omega))) (by exact st_field_p off29_1 rfl) ?_
  refine OPS.pG rfl rfl rfl ((decide_eq_false (by omega))) (by exact st_load_vs sc22 rfl rfl rfl) ?_
  refine OPS.pG rfl rfl rfl ((decide_eq_false (by omega))) (st_len un22 rfl rfl) ?_
  refine OPS.pG rfl rfl rfl ((decide_eq_false (by omega))) (st_eql rfl rfl) ?_
  refine OPS.p rfl (st_pickF rfl ((decide_eq_false (by omega))) rfl) ?_
  refine OPS.nil ?_
  refine AWP.condD rfl (fun hc1 => ?_) (fun hc1 => ?_)
  · have hx0 : (x : Int) = 0 := hl0.1 (by omega)
    have hs0 : s = 0 := by
      apply Classical.byContradiction
      intro h
      have := Int.mul_le_mul (show (1 : Int) ≤ s by omega) (show (1 : Int) ≤ s by omega) (by omega) (by omega)
      omega
    refine AWP.seq ?_
    refine AWP.drw mixed ?_
    refine DRW.p rfl (st_build (L := []) zf29 pl_29 trivial rfl rfl) ?_
    refine DRW.p rfl (by exact st_field_p off29_0 rfl) ?_
    refine DRW.p rfl (by exact st_load_vs sc4 rfl rfl rfl) ?_
    refine DRW.p rfl (by exact st_not_d rfl) ?_
    refine DRW.s (by exact st_store_v sz29 rfl rfl rfl rfl rfl rfl) ?_
    refine DRW.p rfl (st_assign rfl) ?_
    refine DRW.nil (by kernel_rfl) ?_
    refine AWP.ret ?_
    exact Ret.mk2 rfl (by rw [hs0, pZ, show ((0 : Nat) : Int) = 0 from rfl, eI_zero]) (by rw [decide_eq_true (by omega), decide_eq_true (by rw [hs0, hx0]; rfl)])
  · have hx0 : 0 < (x : Int) := by
      apply Classical.byContradiction
      intro h
      exact hc1 (by have := hl0.2 (by omega); omega)
    have hs0 : 0 < s := by
      apply Classical.byContradiction
      intro h
      have : s = 0 := by omega
      subst this
      simp at hs2
      omega
    have hlen : 0 < (iD (x : Int)).length := by omega
    have hk : (((iD (x : Int)).length : Int) + 1) / 2 = 1 := by omega
    have hof : PureC Tryz.prog 221 [pB false, pL (List.replicate ((((iD (x : Int)).length : Int) + 1) / 2).toNat 0 ++ [1])] (pZ 1000000000) := by
      rw [hk]
      exact k_of false [0, 1] (by simp) (.cons (by omega) (by omega) (.cons (by omega) (by omega) .nil))
    have hs9 : (s : Int) ≤ 1000000000 := by
      apply Classical.byContradiction
      intro h
      have := sq_lt (a := 1000000000) (b := s) (by omega) (by omega)
      omega
    refine AWP.skip ?_
    refine AWP.seq ?_
    refine AWP.region ?_
    refine OPS.p rfl (by exact st_field_p off29_1 rfl) ?_
    refine OPS.p rfl (by exact st_load_vs sc22 rfl rfl rfl) ?_
    refine OPS.p rfl (st_len un22 rfl rfl) ?_
    refine OPS.p rfl (by exact st_add_i rfl rfl (by omega) (by omega)) ?_
    refine OPS.p rfl (by exact st_quo_i rfl rfl (by omega) (by omega) (by omega)) ?_
    refine OPS.a rfl (st_make_I ei22 rfl rfl (by omega) (by (simp; omega)) (by omega)) ?_
    refine OPS.a rfl (Stp.frz (st_buildS (L := [(0, (.const (.int .i64 1)), _)]) ei22 rfl ⟨rfl, trivial⟩ rfl rfl) rfl) ?_
    refine OPS.a rfl (by exact Stp.frz (st_append_I (v := [_]) ei22 un22 rfl rfl rfl rfl rfl (by (simp; done)) rfl (by (simp; omega)) (by (simp; omega))) rfl) ?_
    refine OPS.p rfl (st_call (L := [((.const (.bool false)), _), ((.tmp 28), _)]) false pl221 ⟨rfl, rfl, trivial⟩ rfl (hof) rfl) ?_
    refine OPS.a rfl (st_alloc ze29) ?_
    refine OPS.s (by exact st_store_v sz29 rfl rfl rfl rfl rfl rfl) ?_
    refine OPS.nil ?_
    refine AWP.seq ?_
    refine AWP.block ?_
    refine AWP.loopR (σ := Int) (fun (zz : Int) => ⟨[(1, .ptr 0 0), (2, .ptr 1 0), (4, .ptr 2 0)], [(0, .var [pB (decide ((x : Int) < 0)), pL (iD x)]), (1, .var [pB false, .cell (.sl 0 [])]), (2, .var [pB (decide (zz < 0)), pL (iD zz)])], 3⟩) (fun (zz : Int) => zz ≤ 1000000000 ∧ (s : Int) ≤ zz) (fun (zz : Int) => zz.toNat) (1000000000) (Ren.r (Ren.mk' (ρ := [(0, 0), (1, 1), (5, 2)]) rfl ⟨(by rfl), (by rfl), (by rfl), trivial⟩ ⟨(by rfl), (by rfl), (by rfl), trivial⟩)) (by exact ⟨by omega, hs9⟩) ?_
    rintro r hinv
    have hinv : r ≤ 1000000000 ∧ (s : Int) ≤ r := hinv
    obtain ⟨h1, h2⟩ := hinv
    show AWP _ _ _ _ _ _ _ ⟨[(1, .ptr 0 0), (2, .ptr 1 0), (4, .ptr 2 0)], [(0, .var [pB (decide ((x : Int) < 0)), pL (iD x)]), (1, .var [pB false, .cell (.sl 0 [])]), (2, .var [pB (decide (r < 0)), pL (iD r)])], 3⟩
    have hn := newton (x := x) (r := r) (s := s) (by omega) hs1
    have hd0 : 0 ≤ (x : Int) / r := Int.ediv_nonneg (by omega) (by omega)
    have hd1 : (x : Int) / r < r + 3 := by
      rw [Int.ediv_lt_iff_lt_mul (by omega)]
      have := Int.mul_le_mul (show (s : Int) + 1 ≤ r + 1 by omega) (show (s : Int) + 1 ≤ r + 1 by omega) (by omega) (by omega)
      have e : (r + 1) * (r + 1) = r * r + 2 * r + 1 := by rw [Int.add_mul, Int.mul_add, Int.one_mul, Int.mul_one]; omega
      rw [Int.add_mul]
      omega
    refine AWP.block ?_
    refine AWP.seq ?_
    refine AWP.region ?_
    refine OPS.p rfl (by exact st_load_va ag29 rfl rfl rfl rfl) ?_
    refine OPS.p rfl (by exact st_load_va ag29 rfl rfl rfl rfl) ?_
    refine OPS.p rfl (st_call (L := [((.tmp 31), _), ((.tmp 32), _)]) false pl215 ⟨rfl, rfl, trivial⟩ rfl (k_Div x r hx (by show _ < _; omega)) rfl) ?_
    refine OPS.p rfl (st_move rfl) ?_
    refine OPS.p rfl (st_extract rfl rfl) ?_
    refine OPS.p rfl (st_extract rfl rfl) ?_
    refine OPS.a rfl (st_alloc ze29) ?_
    refine OPS.a rfl (st_alloc ze29) ?_
    refine OPS.s (by exact st_store_v sz29 rfl rfl rfl rfl rfl rfl) ?_
    refine OPS.s (by exact st_store_v sz29 rfl rfl rfl rfl rfl rfl) ?_
    refine OPS.nil ?_
    refine AWP.seq ?_
    refine AWP.region ?_
    refine OPS.p rfl (by exact st_load_va ag29 rfl rfl rfl rfl) ?_
    refine OPS.p rfl (by exact st_load_va ag29 rfl rfl rfl rfl) ?_
    refine OPS.p rfl (st_call (L := [((.tmp 37), _), ((.tmp 38), _)]) false pl101 ⟨rfl, rfl, trivial⟩ rfl (k_Add r (x / r) (Sml.fit (by show _ < _; omega)) (Sml.fit (by show _ < _; omega))) rfl) ?_
    refine OPS.p rfl (st_call (L := [((.const (.int .i64 2)), _)]) false pl100 ⟨rfl, trivial⟩ rfl (k_Of 2 (by omega) (by omega)) rfl) ?_
    refine OPS.p rfl (st_call (L := [((.tmp 39), _), ((.tmp 40), _)]) false pl215 ⟨rfl, rfl, trivial⟩ rfl (k_Div (r + x / r) 2 (by show _ < _; omega) (by show _ < _; omega)) rfl) ?_
    refine OPS.p rfl (st_move rfl) ?_
    refine OPS.p rfl (st_extract rfl rfl) ?_
    refine OPS.p rfl (st_extract rfl rfl) ?_
    refine OPS.a rfl (st_alloc ze29) ?_
    refine OPS.a rfl (st_alloc ze29) ?_
    refine OPS.s (by exact st_store_v sz29 rfl rfl rfl rfl rfl rfl) ?_
    refine OPS.s (by exact st_store_v sz29 rfl rfl rfl rfl rfl rfl) ?_
    refine OPS.nil ?_
    refine AWP.seq ?_
    refine AWP.seq ?_
    refine AWP.region ?_
    refine OPS.p rfl (by exact st_load_va ag29 rfl rfl rfl rfl) ?_
    refine OPS.p rfl (by exact st_load_va ag29 rfl rfl rfl rfl) ?_
    refine OPS.p rfl (st_call (L := [((.tmp 44), _), ((.tmp 45), _)]) false pl103 ⟨rfl, rfl, trivial⟩ rfl (k_Compare ((r + x / r) / 2) r (Sml.fit (by show _ < _; omega)) (Sml.fit (by show _ < _; omega))) rfl) ?_
    refine OPS.p rfl (st_geq rfl rfl) ?_
    refine OPS.nil ?_
    refine AWP.condD rfl (fun hc6 => ?_) (fun hc6 => ?_)
    · have hle : r ≤ (r + x / r) / 2 := by
        have := mt cmpI_neg.2 (Int.not_lt.2 hc6)
        omega
      have hxr : r * r ≤ x := (Int.le_ediv_iff_mul_le (by omega)).1 (show r ≤ (x : Int) / r by omega)
      have hrs : r = s := by
        apply Classical.byContradiction
        intro h
        have := sq_lt (a := s) (b := r) (by omega) (by omega)
        omega
      refine AWP.exit ?_
      refine AWP.seq ?_
      refine AWP.drw mixed ?_
      refine DRW.p rfl (by exact st_load_va ag29 rfl rfl rfl rfl) ?_
      refine DRW.p rfl (by exact st_load_va ag29 rfl rfl rfl rfl) ?_
      refine DRW.p rfl (by exact st_load_va ag29 rfl rfl rfl rfl) ?_
      refine DRW.p rfl (st_call (L := [((.tmp 50), _), ((.tmp 51), _)]) false pl177 ⟨rfl, rfl, trivial⟩ rfl (k_Mul r r (Sml.fit (by show _ < _; omega)) (Sml.fit (by show _ < _; omega))) rfl) ?_
      refine DRW.p rfl (by exact st_load_va ag29 rfl rfl rfl rfl) ?_
      refine DRW.p rfl (st_call (L := [((.tmp 52), _), ((.tmp 53), _)]) false pl103 ⟨rfl, rfl, trivial⟩ rfl (k_Compare (r * r) x (Sml.fit (by show _ < _; have : 0 ≤ r * r := Int.mul_nonneg (by omega) (by omega); omega)) hx.fit) rfl) ?_
      refine DRW.p rfl (st_eql rfl rfl) ?_
      refine DRW.s (by exact st_store_v sz29 rfl rfl rfl rfl rfl rfl) ?_
      refine DRW.p rfl (st_assign rfl) ?_
      refine DRW.nil (by kernel_rfl) ?_
      refine AWP.ret ?_
      refine Ret.mk2 rfl (by rw [hrs]; rfl) (congrArg pB ?_)
      rw [decide_eq_decide, hrs]
      unfold cmpI
      constructor
      · intro h
        split at h
        · omega
        · split at h
          · assumption
          · omega
      · intro h
        rw [if_neg (by omega), if_pos h]
    · have hlt : (r + x / r) / 2 < r := cmpI_neg.1 (by omega)
      refine AWP.skip ?_
      refine AWP.region ?_
      refine OPS.p rfl (by exact st_load_va ag29 rfl rfl rfl rfl) ?_
      refine OPS.s (by exact st_store_v sz29 rfl rfl rfl rfl rfl rfl) ?_
      refine OPS.nil ?_
      refine ⟨((r + x / r) / 2), (Ren.r (Ren.mk' (ρ := [(0, 0), (1, 1), (2, 2)]) rfl ⟨(by rfl), (by rfl), (by rfl), trivial⟩ ⟨(by rfl), (by rfl), (by rfl), trivial⟩)), ?_, ?_⟩
      · try dsimp only
        exact ⟨by omega, hn⟩
      · try dsimp only
        omega
end Go.Proofs.Gh.Tryz
end
