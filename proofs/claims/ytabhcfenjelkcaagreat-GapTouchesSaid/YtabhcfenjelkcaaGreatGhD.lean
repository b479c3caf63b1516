/-
  GHOST, part 16: blocks under other names; what is no longer named is forgotten. No statement of the seat.
  GHOST, part 17: equality of structs of plain cells. No statement of the seat.
  GHOST, part 18: a call of a function value that is walked in line (it may write what it captured). No statement of the seat.
  GHOST, part 19: from a contract to what a law's row asks of the call. No statement of the seat.
  GHOST, part 20: a range over a function, the iterator walked in line. No statement of the seat.
-/
import Derived.Test.YtabhcfenjelkcaaGreatGhC
import Derived.Laws.StructEq
import Derived.WalkKit
import Derived.ProofKit
import Derived.OpenShut
import Derived.Laws.Cover3
section
set_option linter.unusedVariables false
set_option linter.unusedSimpArgs false
namespace Go.Proofs.Gh
open Go.RowKit

def ren0 (ρ : List (Nat × Nat)) : PV → Option PV
  | .own id n => (lk ρ id).map fun j => .own j n
  | .ptr id off => (lk ρ id).map fun j => .ptr j off
  | .cell c => some (.cell c)
  | .agg cs => some (.agg cs)
  | .nilS => some .nilS
  | .emp => some .emp
  | .fptr cs => some (.fptr cs)
  | .undef => some .undef
  | .func _ _ => none
  | .tup _ => none
  | .yield id => (lk ρ id).map fun j => .yield j
def ren0s (ρ : List (Nat × Nat)) : List PV → Option (List PV)
  | [] => some []
  | p :: l => match ren0 ρ p, ren0s ρ l with
    | some q, some m => some (q :: m)
    | _, _ => none
def renP (ρ : List (Nat × Nat)) : PV → Option PV
  | .func f caps => (ren0s ρ caps).map (.func f)
  | .tup vs => (ren0s ρ vs).map .tup
  | p => ren0 ρ p
def renFr (ρ : List (Nat × Nat)) : List (Nat × PV) → Option (List (Nat × PV))
  | [] => some []
  | (t, p) :: r => match renP ρ p, renFr ρ r with
    | some q, some l => some ((t, q) :: l)
    | _, _ => none
def renB (ρ : List (Nat × Nat)) : Blk → Option Blk
  | .var cells => (ren0s ρ cells).map .var
  | .dead => some .dead
  | .arr e sz n cells => some (.arr e sz n cells)
  | .fro n cells => some (.fro n cells)
  | .loop st pe ps as bd N fr => (renFr ρ fr).map (.loop st pe ps as bd N)
/-- Each new name once, below 'nx', and the old one's. -/
def rok (ρ : List (Nat × Nat)) (nx : Nat) : List (Nat × Nat) → Bool
  | [] => true
  | (i, j) :: r => (match bk ρ j with | some i' => Nat.beq i i' | none => false) && (match lk ρ i with | some j' => Nat.beq j j' | none => false) && Nat.blt j nx && rok ρ nx r
theorem bk_mem {ρ : List (Nat × Nat)} {i j : Nat} (h : bk ρ j = some i) : (i, j) ∈ ρ := by
  induction ρ with
  | nil => cases h
  | cons p r ih =>
    obtain ⟨a, b⟩ := p
    unfold bk at h
    cases hb : Nat.beq b j with
    | true =>
      rw [hb] at h
      simp only [cond_true] at h
      injection h with h
      rw [Nat.beq_eq] at hb
      subst h hb
      exact List.mem_cons_self ..
    | false => rw [hb] at h; exact List.mem_cons_of_mem _ (ih h)
theorem lk_in {ρ : List (Nat × Nat)} {i j : Nat} (h : lk ρ i = some j) : (i, j) ∈ ρ := by
  induction ρ with
  | nil => cases h
  | cons p r ih =>
    obtain ⟨a, b⟩ := p
    by_cases hb : a = i
    · subst hb
      rw [lk_cons_eq] at h
      injection h with h
      subst h
      exact List.mem_cons_self ..
    · rw [lk_cons_ne _ _ hb] at h
      exact List.mem_cons_of_mem _ (ih h)
theorem rok_get {ρ : List (Nat × Nat)} {nx : Nat} : ∀ {l : List (Nat × Nat)}, rok ρ nx l = true → ∀ {i j : Nat}, (i, j) ∈ l → bk ρ j = some i ∧ lk ρ i = some j ∧ j < nx
  | (a, b) :: r, h, i, j, hm => by
    simp only [rok, Bool.and_eq_true] at h
    obtain ⟨⟨⟨h1, h2⟩, h3⟩, h4⟩ := h
    rcases List.mem_cons.1 hm with he | hm
    · injection he with e1 e2
      subst e1 e2
      refine ⟨?_, ?_, by simpa [Nat.blt_eq] using h3⟩
      · cases hb : bk ρ j with
        | none => rw [hb] at h1; cases h1
        | some i' => rw [hb] at h1; rw [Nat.beq_eq] at h1; rw [h1]
      · cases hb : lk ρ i with
        | none => rw [hb] at h2; cases h2
        | some i' => rw [hb] at h2; rw [Nat.beq_eq] at h2; rw [h2]
    · exact rok_get h4 hm
theorem renG_eq {ρ : List (Nat × Nat)} {nx : Nat} {g : GMap} (h : rok ρ nx ρ = true) {i j : Nat} (hl : lk ρ i = some j) : renG ρ g j = g i := by
  have := (rok_get h (lk_in hl)).1
  unfold renG
  rw [this]
  rfl
theorem ren0_rep {ρ : List (Nat × Nat)} {nx : Nat} {F B : FMap} {g : GMap} (h : rok ρ nx ρ = true) {v : Value} {p q : PV} (hp : RepP F B g v p) (hr : ren0 ρ p = some q) : RepP F B (renG ρ g) v q := by
  cases hp with
  | undef v => injection hr with hr; subst hr; exact .undef _
  | cell hc => injection hr with hr; subst hr; exact .cell hc
  | agg vs cs hl hc => injection hr with hr; subst hr; exact .agg vs cs hl hc
  | nilS => injection hr with hr; subst hr; exact .nilS
  | emp A => injection hr with hr; subst hr; exact .emp A
  | own n hg A cap hv =>
    obtain ⟨j, hj, rfl⟩ := Option.map_eq_some_iff.1 hr
    exact .own n (by rw [renG_eq h hj]; exact hg) A cap hv
  | ptr off hg hb =>
    obtain ⟨j, hj, rfl⟩ := Option.map_eq_some_iff.1 hr
    exact .ptr off (by rw [renG_eq h hj]; exact hg) hb
  | fptr b o cs us hu hc => injection hr with hr; subst hr; exact .fptr b o cs us hu hc
  | func f vs caps hl hc => cases hr
  | tup vs ps hl hc => cases hr
  | yield b hg hv =>
    obtain ⟨j, hj, rfl⟩ := Option.map_eq_some_iff.1 hr
    exact .yield b (by rw [renG_eq h hj]; exact hg) hv
theorem ren0s_get {ρ : List (Nat × Nat)} : ∀ {l m : List PV}, ren0s ρ l = some m → l.length = m.length ∧ ∀ (j : Nat) (h : j < l.length) (h' : j < m.length), ren0 ρ (l[j]'h) = some (m[j]'h')
  | [], m, h => by injection h with h; subst h; exact ⟨rfl, fun j h => absurd h (by simp)⟩
  | p :: l, m, h => by
    unfold ren0s at h
    cases hp : ren0 ρ p with
    | none => rw [hp] at h; cases h
    | some q =>
      cases hl : ren0s ρ l with
      | none => rw [hp, hl] at h; cases h
      | some m' =>
        rw [hp, hl] at h
        injection h with h
        subst h
        obtain ⟨h1, h2⟩ := ren0s_get hl
        refine ⟨by simp [h1], fun j hj hj' => ?_⟩
        cases j with
        | zero => exact hp
        | succ j => exact h2 j (by simpa using hj) (by simpa using hj')
theorem renP_rep {ρ : List (Nat × Nat)} {nx : Nat} {F B : FMap} {g : GMap} (h : rok ρ nx ρ = true) {v : Value} {p q : PV} (hp : RepP F B g v p) (hr : renP ρ p = some q) : RepP F B (renG ρ g) v q := by
  cases hp with
  | func f vs caps hl hc =>
    obtain ⟨m, hm, rfl⟩ := Option.map_eq_some_iff.1 hr
    obtain ⟨h1, h2⟩ := ren0s_get hm
    exact .func f vs m (by omega) fun j hj => ren0_rep h (hc j (by omega)) (h2 j (by omega) hj)
  | tup vs ps hl hc =>
    obtain ⟨m, hm, rfl⟩ := Option.map_eq_some_iff.1 hr
    obtain ⟨h1, h2⟩ := ren0s_get hm
    exact .tup vs m (by omega) fun j hj => ren0_rep h (hc j (by omega)) (h2 j (by omega) hj)
  | undef v => exact ren0_rep h (.undef _) hr
  | cell hc => exact ren0_rep h (.cell hc) hr
  | agg vs cs hl hc => exact ren0_rep h (.agg vs cs hl hc) hr
  | nilS => exact ren0_rep h .nilS hr
  | emp A => exact ren0_rep h (.emp A) hr
  | own n hg A cap hv => exact ren0_rep h (.own n hg A cap hv) hr
  | ptr off hg hb => exact ren0_rep h (.ptr off hg hb) hr
  | fptr b o cs us hu hc => exact ren0_rep h (.fptr b o cs us hu hc) hr
  | yield b hg hv => exact ren0_rep h (.yield b hg hv) hr

theorem renFr_get {ρ : List (Nat × Nat)} : ∀ {l m : List (Nat × PV)}, renFr ρ l = some m → ∀ t q, lk m t = some q → ∃ p, lk l t = some p ∧ renP ρ p = some q
  | [], m, h, t, q, hq => by injection h with h; subst h; cases hq
  | (t0, p) :: l, m, h, t, q, hq => by
    unfold renFr at h
    cases hp : renP ρ p with
    | none => rw [hp] at h; cases h
    | some q0 =>
      cases hl : renFr ρ l with
      | none => rw [hp, hl] at h; cases h
      | some m' =>
        rw [hp, hl] at h
        injection h with h
        subst h
        by_cases he : t0 = t
        · subst he
          rw [lk_cons_eq] at hq ⊢
          injection hq with hq
          subst hq
          exact ⟨p, rfl, hp⟩
        · rw [lk_cons_ne _ _ he] at hq ⊢
          exact renFr_get hl t q hq

/-- The new state, told with the old names. -/
def RenFr (ρ : List (Nat × Nat)) (fr : Fr) : Fr → Prop
  | [] => True
  | (t, q) :: r => ((lk fr t).bind (renP ρ)) = some q ∧ RenFr ρ fr r
def RenH (ρ : List (Nat × Nat)) (H : Hp) : Hp → Prop
  | [] => True
  | (j, k) :: r => ((bk ρ j).bind fun i => (lk H i).bind (renB ρ)) = some k ∧ RenH ρ H r
theorem RenFr.get {ρ : List (Nat × Nat)} {fr : Fr} : ∀ {l : Fr} {t : Nat} {q : PV}, RenFr ρ fr l → lk l t = some q → ∃ p, lk fr t = some p ∧ renP ρ p = some q
  | (s, q0) :: r, t, q, h, hl => by
    by_cases he : s = t
    · subst he
      rw [lk_cons_eq] at hl
      injection hl with hl
      subst hl
      exact Option.bind_eq_some_iff.1 h.1
    · rw [lk_cons_ne _ _ he] at hl
      exact RenFr.get h.2 hl
theorem RenH.get {ρ : List (Nat × Nat)} {H : Hp} : ∀ {l : Hp} {j : Nat} {k : Blk}, RenH ρ H l → lk l j = some k → ∃ i k0, bk ρ j = some i ∧ lk H i = some k0 ∧ renB ρ k0 = some k
  | (s, q0) :: r, t, q, h, hl => by
    by_cases he : s = t
    · subst he
      rw [lk_cons_eq] at hl
      injection hl with hl
      subst hl
      obtain ⟨i, hi, h2⟩ := Option.bind_eq_some_iff.1 h.1
      obtain ⟨k, hk, h3⟩ := Option.bind_eq_some_iff.1 h2
      exact ⟨i, k, hi, hk, h3⟩
    · rw [lk_cons_ne _ _ he] at hl
      exact RenH.get h.2 hl

def Ren (ρ : List (Nat × Nat)) (s s' : St) : Prop := rok ρ s'.nx ρ = true ∧ RenFr ρ s.fr s'.fr ∧ RenH ρ s.H s'.H
theorem Ren.mk' {ρ : List (Nat × Nat)} {fr fr' : Fr} {H H' : Hp} {nx nx' : Nat} (h : rok ρ nx' ρ = true) (h1 : RenFr ρ fr fr') (h2 : RenH ρ H H') : Ren ρ ⟨fr, H, nx⟩ ⟨fr', H', nx'⟩ := ⟨h, h1, h2⟩

theorem renB_mut {ρ : List (Nat × Nat)} {k k' : Blk} (h : renB ρ k = some k') : k.mut = k'.mut := by
  cases k with
  | var cells => obtain ⟨m, hm, rfl⟩ := Option.map_eq_some_iff.1 h; rfl
  | dead => injection h with h; subst h; rfl
  | arr e sz n cells => injection h with h; subst h; rfl
  | fro n cells => injection h with h; subst h; rfl
  | loop st pe ps as bd N fr => obtain ⟨m, hm, rfl⟩ := Option.map_eq_some_iff.1 h; rfl
theorem SRep.ren {cx : Cx} {lo : Nat} [hlo : Lo cx lo] {N : Nat} {F : FMap} {g : GMap} {s s' : St} {a : Act} {w : World} {ρ : List (Nat × Nat)} (h : SRep cx N F g s a w) (hr : Ren ρ s s') (hfx : fixes lo ρ = true) : SRep cx N F (renG ρ g) s' a w := by
  obtain ⟨hok, hfr, hH⟩ := hr
  have hb : ∀ {i j : Nat} {v : Value}, bk ρ j = some i → renG ρ g j = some v → g i = some v := fun hi hv => by
    unfold renG at hv
    rw [hi] at hv
    exact hv
  have hb' : ∀ {i j : Nat} {v : Value}, bk ρ j = some i → g i = some v → renG ρ g j = some v := fun hi hv => by
    unfold renG
    rw [hi]
    exact hv
  refine ⟨h.defers, h.size, fun t q hq => ?_, ?_, hlo.ren _ _ hfx h.keep, h.keepW⟩
  · obtain ⟨p, h1, h2⟩ := hfr.get hq
    exact renP_rep hok (h.fr t p h1) h2
  · have hh := h.heap
    constructor
    · exact hh.agree
    · exact hh.agreeB
    · exact hh.below
    · exact hh.le
    · intro j v hv
      unfold renG at hv
      obtain ⟨i, hi, _⟩ := Option.bind_eq_some_iff.1 hv
      exact (rok_get hok (bk_mem hi)).2.2
    · intro j k hk
      obtain ⟨i, k0, h1, h2, h3⟩ := hH.get hk
      obtain ⟨v, h4, h5⟩ := hh.blk i k0 h2
      refine ⟨v, hb' h1 h4, ?_⟩
      cases k0 with
      | var cells =>
        obtain ⟨m, hm, rfl⟩ := Option.map_eq_some_iff.1 h3
        obtain ⟨b, c, e, q1, q2, q3, q4⟩ := h5
        obtain ⟨r1, r2⟩ := ren0s_get hm
        exact ⟨b, c, e, q1, q2, by omega, fun j hj => ren0_rep hok (q4 j (by omega)) (r2 j (by omega) hj)⟩
      | dead => injection h3 with h3; subst h3; trivial
      | arr e sz n cells => injection h3 with h3; subst h3; exact h5
      | fro n cells => injection h3 with h3; subst h3; exact h5
      | loop st pe ps as bd N' fr' =>
        obtain ⟨m, hm, rfl⟩ := Option.map_eq_some_iff.1 h3
        obtain ⟨b, fn, tmps, D, q1, q2, q3, q4⟩ := h5
        refine ⟨b, fn, tmps, D, q1, q2, q3, fun t q hq => ?_⟩
        obtain ⟨p, r1, r2⟩ := renFr_get hm t q hq
        exact renP_rep hok (q4 t p r1) r2
    · intro j k v b hk hm hv hbb
      obtain ⟨i, k0, h1, h2, h3⟩ := hH.get hk
      exact hh.own i k0 v b h2 (by rw [renB_mut h3]; exact hm) (hb h1 hv) hbb
    · intro i j k l v u b hk hl hm hm' hv hu hbb hbb'
      obtain ⟨i0, k0, h1, h2, h3⟩ := hH.get hk
      obtain ⟨j0, l0, q1, q2, q3⟩ := hH.get hl
      have := hh.inj i0 j0 k0 l0 v u b h2 q2 (by rw [renB_mut h3]; exact hm) (by rw [renB_mut q3]; exact hm') (hb h1 hv) (hb q1 hu) hbb hbb'
      subst this
      have e1 := (rok_get hok (bk_mem h1)).2.1
      have e2 := (rok_get hok (bk_mem q1)).2.1
      rw [e1] at e2
      injection e2

/-- The state is known as this one. -/
def SubR (lo : Nat) (s s' : St) : Prop := Sub s s' ∨ ∃ ρ, Ren ρ s s' ∧ fixes lo ρ = true
theorem Sub.r {lo : Nat} {s s' : St} (h : Sub s s') : SubR lo s s' := .inl h
theorem Ren.r {lo : Nat} {ρ : List (Nat × Nat)} {s s' : St} (h : Ren ρ s s') (hf : fixes lo ρ = true := by rfl) : SubR lo s s' := .inr ⟨ρ, h, hf⟩
theorem SRep.subR {cx : Cx} {lo : Nat} [Lo cx lo] {N : Nat} {F : FMap} {g : GMap} {s s' : St} {a : Act} {w : World} (h : SRep cx N F g s a w) (hs : SubR lo s s') : ∃ g', SRep cx N F g' s' a w := by
  rcases hs with hs | ⟨ρ, hs, hf⟩
  · exact ⟨g, h.sub hs⟩
  · exact ⟨_, h.ren hs hf⟩

section
variable {P : Program} {cx : Cx} {lo : Nat} [Lo cx lo] {N : Nat} {n : St → Prop} {x : Nat → St → Prop} {r : St → Prop} {s : St}
theorem AWP.subR {c : Code} {s' : St} (hs : SubR lo s s') (h : AWP P cx N c n x r s') : AWP P cx N c n x r s := fun F0 F g a w h0 hS => by
  obtain ⟨g', hS'⟩ := hS.subR hs
  exact h F0 F g' a w h0 hS'

/-- A loop whose states at the rounds' heads are 'S z', z with 'inv z'; μ goes down. -/
theorem AWP.loopR {c : Code} {σ : Type} (S : σ → St) (inv : σ → Prop) (μ : σ → Nat) (z : σ) (hs : SubR lo s (S z)) (hz : inv z) (round : ∀ z, inv z → AWP P cx N c (fun s' => ∃ z', SubR lo s' (S z') ∧ inv z' ∧ μ z' < μ z) x r (S z)) : AWP P cx N (.loop c) n x r s :=
  AWP.subR hs (AWP.loop (fun m s => ∃ z, m = μ z ∧ s = S z ∧ inv z) (μ z) ⟨z, rfl, rfl, hz⟩ fun m s ⟨z, hm, he, hi⟩ => by
    subst hm he
    intro F0 F g a w h0 hS
    refine Code.wpIn_mono ?_ (round z hi F0 F g a w h0 hS)
    intro e a w hp
    obtain ⟨F1, g1, s1, h1, h2, h3⟩ := hp
    cases e with
    | normal =>
      obtain ⟨z', hsub, hi', hlt⟩ := h3
      obtain ⟨g2, h4⟩ := h2.subR hsub
      exact ⟨F1, g2, S z', h1, h4, μ z', hlt, z', rfl, rfl, hi'⟩
    | exit i => exact ⟨F1, g1, s1, h1, h2, h3⟩
    | ret => exact ⟨F1, g1, s1, h1, h2, h3⟩
    | goto l => exact h3.elim
    | panic ch => exact h3.elim
    | outgrown => exact h3.elim)
end
end Go.Proofs.Gh
end
section
set_option linter.unusedVariables false
set_option linter.unusedSimpArgs false
namespace Go.Proofs.Gh
open Go.RowKit

/-- Field by field. -/
def eqFs (P : Program) (rec : TypeId → List FV → List FV → Option Bool) (cs ds : List FV) : List Field → Option Bool
  | [] => some true
  | f :: fs => if f.name = "_" then none else match tySz P f.type with
    | none => none
    | some k => if cs.length < f.offset + k ∨ ds.length < f.offset + k then none else match rec f.type ((cs.drop f.offset).take k) ((ds.drop f.offset).take k), eqFs P rec cs ds fs with
      | some a, some b => some (a && b)
      | _, _ => none
/-- Whether two values of a type are equal; 'none' where this part does not know it. -/
def eqT (P : Program) : Nat → TypeId → List FV → List FV → Option Bool
  | 0, _, _, _ => none
  | d + 1, t, cs, ds => match P.underlying t with
    | some (.int _) => match cs, ds with
      | [.int k a], [.int k' b] => if k = k' then some (a == b) else none
      | _, _ => none
    | some .bool => match cs, ds with
      | [.bool a], [.bool b] => some (a == b)
      | _, _ => none
    | some (.struct fs) => if P.stoodInHeld t then none else eqFs P (eqT P d) cs ds fs.toList
    | _ => none

/-- A value of a type from its cells. -/
def valOf (P : Program) (t : TypeId) (xs : Array Value) : Value := if isScal P t then xs.getD 0 Go.undef else .agg xs
def RepA (F : FMap) (xs : Array Value) (cs : List FV) : Prop := xs.size = cs.length ∧ ∀ (j : Nat) (h : j < cs.length), RepF F (xs.getD j Go.undef) (cs[j]'h)
theorem RepA.part {F : FMap} {xs : Array Value} {cs : List FV} (h : RepA F xs cs) {o k : Nat} (hk : o + k ≤ cs.length) : RepA F (xs.extract o (o + k)) ((cs.drop o).take k) := by
  have hl : ((cs.drop o).take k).length = k := by rw [List.length_take, List.length_drop]; omega
  refine ⟨by rw [hl, Array.size_extract, h.1]; omega, fun j hj => ?_⟩
  rw [hl] at hj
  have := h.2 (o + j) (by omega)
  have e1 : (xs.extract o (o + k)).getD j Go.undef = xs.getD (o + j) Go.undef := by
    have hx := h.1
    rw [Array.getD_eq_getD_getElem?, Array.getD_eq_getD_getElem?, Array.getElem?_extract]
    rw [if_pos (by omega)]
  rw [e1, List.getElem_take, List.getElem_drop]
  exact this

theorem run_isAgg_of {P : Program} {t : TypeId} {w : World} (h : (P.underlying t).isSome = true) : (isAgg t).run P w = .ok (!isScal P t) w := by
  unfold isScal isAgg
  cases hu : P.underlying t with
  | none => rw [hu] at h; cases h
  | some d => cases d <;> simp [run_underlying hu]
theorem run_part_of {P : Program} {F : FMap} {t : TypeId} {w : World} {xs : Array Value} {cs : List FV} {o k : Nat} (hu : (P.underlying t).isSome = true) (hk : tySz P t = some k) (h : RepA F xs cs) (hl : o + k ≤ cs.length) (hk0 : isScal P t = true → k = 1) : (part t xs o).run P w = .ok (valOf P t (xs.extract o (o + k))) w := by
  unfold part valOf
  simp only [Sem.run_bind, run_isAgg_of hu, Result.andThen_ok]
  cases hs : isScal P t with
  | true =>
    have := hk0 hs
    subst this
    have hx := h.1
    have hlt : o < xs.size := by omega
    simp [Array.getElem?_eq_getElem hlt, Array.getD_eq_getD_getElem?, Array.getElem?_extract, hlt]
    rw [if_pos (by omega)]
    rfl
  | false => simp [run_sizeOf hk]

theorem eqT_scal {P : Program} {d : Nat} {t : TypeId} {cs ds : List FV} {b : Bool} (h : eqT P d t cs ds = some b) : (P.underlying t).isSome = true ∧ (isScal P t = true → cs.length = 1 ∧ ds.length = 1) := by
  cases d with
  | zero => cases h
  | succ d =>
    unfold eqT at h
    unfold isScal
    split at h
    · rename_i hu
      rw [hu]
      split at h
      · exact ⟨rfl, fun _ => ⟨rfl, rfl⟩⟩
      · cases h
    · rename_i hu
      rw [hu]
      split at h
      · exact ⟨rfl, fun _ => ⟨rfl, rfl⟩⟩
      · cases h
    · rename_i hu
      rw [hu]
      exact ⟨rfl, fun hc => by cases hc⟩
    · cases h

theorem rep_int' {F : FMap} {v : Value} {k : IntKind} {n : Int} (h : RepF F v (.int k n)) : v = .int k n := by cases h; rfl
theorem rep_bool' {F : FMap} {v : Value} {b : Bool} (h : RepF F v (.bool b)) : v = .bool b := by cases h; rfl

theorem run_eqT {P : Program} {F : FMap} {w : World} : ∀ {d : Nat} {t : TypeId} {cs ds : List FV} {b : Bool} {xs ys : Array Value} {n : Nat}, eqT P d t cs ds = some b → RepA F xs cs → RepA F ys ds → d ≤ n → (Op.equalIn n t (valOf P t xs) (valOf P t ys)).run P w = .ok b w
  | 0, t, cs, ds, b, xs, ys, n, h, _, _, _ => by cases h
  | d + 1, t, cs, ds, b, xs, ys, n, h, hx, hy, hn => by
    obtain ⟨m, rfl⟩ : ∃ m, n = m + 1 := ⟨n - 1, by omega⟩
    have hd : d ≤ m := by omega
    unfold eqT at h
    split at h
    · rename_i k hu
      have hs : isScal P t = true := by unfold isScal; rw [hu]
      unfold valOf
      rw [if_pos hs, if_pos hs]
      split at h
      · rename_i k1 a k2 c
        split at h
        · rename_i hk
          subst hk
          injection h with h
          rw [rep_int' (hx.2 0 (by simp)), rep_int' (hy.2 0 (by simp)), run_equalIn_int _ _ _ _ _ _ _ hu, h]
        · cases h
      · cases h
    · rename_i hu
      have hs : isScal P t = true := by unfold isScal; rw [hu]
      unfold valOf
      rw [if_pos hs, if_pos hs]
      split at h
      · injection h with h
        rw [rep_bool' (hx.2 0 (by simp)), rep_bool' (hy.2 0 (by simp)), run_equalIn_bool' _ _ _ _ _ hu, h]
      · cases h
    · rename_i fs hu
      have hs : isScal P t = false := by unfold isScal; rw [hu]
      unfold valOf
      rw [hs]
      simp only [Bool.false_eq_true, if_false]
      split at h
      · cases h
      · rename_i hst
        have hfo : P.fieldsOf t = fs := by unfold Program.fieldsOf; rw [hu]
        rw [run_equalIn_agg _ _ _ _ _ (by rw [hfo]; exact hu) (by simpa using hst), hfo]
        generalize fs.toList = l at h
        clear hfo hst hu
        induction l generalizing b with
        | nil => injection h with h; subst h; rfl
        | cons f l ih =>
          unfold eqFs at h
          split at h
          · cases h
          · rename_i hname
            split at h
            · cases h
            · rename_i k hk
              split at h
              · cases h
              · rename_i hlen
                split at h
                · rename_i a c ha hc
                  injection h with h
                  subst h
                  have hlx : f.offset + k ≤ cs.length := by omega
                  have hly : f.offset + k ≤ ds.length := by omega
                  obtain ⟨q1, q2⟩ := eqT_scal ha
                  have hk0 : isScal P f.type = true → k = 1 := fun hh => by
                    have := (q2 hh).1
                    rw [List.length_take, List.length_drop] at this
                    omega
                  have r1 := run_part_of (w := w) q1 hk hx hlx hk0
                  have r2 := run_part_of (w := w) q1 hk hy hly hk0
                  have r3 := run_eqT (w := w) (n := m) ha (hx.part hlx) (hy.part hly) hd
                  have r4 := ih c hc
                  unfold Op.eqFields
                  rw [if_pos hname]
                  simp only [Sem.run_bind, r1, r2, r3, Result.andThen_ok]
                  cases a with
                  | true => simp [r4]
                  | false => simp
                · cases h
    · cases h

section
variable {P : Program} {cx : Cx} {d : Option Tmp} {ty : TypeId} {ps : String} {af : Array Edge} {gd : Option (Nat × Bool)} {nx : Nat}
theorem agg_inv {F B : FMap} {g : GMap} {v : Value} {cs : List FV} (h : RepP F B g v (.agg cs)) : ∃ xs, v = .agg xs ∧ RepA F xs cs := by
  cases h with
  | agg vs cs hl hr => exact ⟨vs, rfl, hl, hr⟩
theorem ok_eql_a {x y : Operand} {t t' : TypeId} {cs ds : List FV} {b : Bool} (hs : isScal P t = false) (hg : P.eqGuardType P.depth t = false) (h : eqT P 100 t cs ds = some b) : OpOK P cx ⟨d, .binOp .eql t x y t', ty, ps, af, gd⟩ [(x, .agg cs), (y, .agg ds)] nx ⟨.cell (.bool b), [], [], 0⟩ :=
  OpOK.pure fun F g H D a w _ hu _ => ⟨.bool b, by
    obtain ⟨xs, h1, hx⟩ := agg_inv hu.1
    obtain ⟨ys, h2, hy⟩ := agg_inv hu.2.1
    simp only at h1 h2
    have r := run_eqT (w := w) (n := 10000) h hx hy (by omega)
    unfold valOf at r
    rw [hs] at r
    simp only [Bool.false_eq_true, if_false] at r
    simp only [execOp, h1, h2, Sem.run_bind, run_eqGuard_agg _ _ _ _ _ _ _ hg, run_eql_struct, r, Result.andThen_ok, Sem.run_pure], .cell (.bool _)⟩
theorem ok_neq_a {x y : Operand} {t t' : TypeId} {cs ds : List FV} {b : Bool} (hs : isScal P t = false) (hg : P.eqGuardType P.depth t = false) (h : eqT P 100 t cs ds = some b) : OpOK P cx ⟨d, .binOp .neq t x y t', ty, ps, af, gd⟩ [(x, .agg cs), (y, .agg ds)] nx ⟨.cell (.bool (!b)), [], [], 0⟩ :=
  OpOK.pure fun F g H D a w _ hu _ => ⟨.bool (!b), by
    obtain ⟨xs, h1, hx⟩ := agg_inv hu.1
    obtain ⟨ys, h2, hy⟩ := agg_inv hu.2.1
    simp only at h1 h2
    have r := run_eqT (w := w) (n := 10000) h hx hy (by omega)
    unfold valOf at r
    rw [hs] at r
    simp only [Bool.false_eq_true, if_false] at r
    simp only [execOp, h1, h2, Sem.run_bind, run_eqGuard_agg _ _ _ _ _ _ _ hg, run_neq_struct, r, Result.andThen_ok, Sem.run_pure], .cell (.bool _)⟩
variable {fr : Fr} {H : Hp} {X Y : Operand} {T T' : TypeId}
theorem st_eql_a {cs ds : List FV} {b : Bool} (hs : isScal P T = false) (hg : P.eqGuardType P.depth T = false) (h : ev fr X = some (.agg cs)) (h1 : ev fr Y = some (.agg ds)) (he : eqT P 100 T cs ds = some b) : Stp P cx ⟨d, .binOp .eql T X Y T', ty, ps, af, gd⟩ fr H nx ⟨.cell (.bool b), [], [], 0⟩ := ⟨_, ok_eql_a hs hg he, by simp [Op.operands], ⟨h, h1, trivial⟩, trivial⟩
theorem st_neq_a {cs ds : List FV} {b : Bool} (hs : isScal P T = false) (hg : P.eqGuardType P.depth T = false) (h : ev fr X = some (.agg cs)) (h1 : ev fr Y = some (.agg ds)) (he : eqT P 100 T cs ds = some b) : Stp P cx ⟨d, .binOp .neq T X Y T', ty, ps, af, gd⟩ fr H nx ⟨.cell (.bool (!b)), [], [], 0⟩ := ⟨_, ok_neq_a hs hg he, by simp [Op.operands], ⟨h, h1, trivial⟩, trivial⟩
end
end Go.Proofs.Gh
end
section
set_option linter.unusedVariables false
set_option linter.unusedSimpArgs false
namespace Go.Proofs.Gh
open Go.RowKit

section
variable {P : Program} {cx : Cx} {N : Nat} {n : St → Prop} {x : Nat → St → Prop} {r : St → Prop} {ops : Array Oper} {rest : List Oper} {fr : Fr} {H : Hp} {nx : Nat}
variable {d : Option Tmp} {ty : TypeId} {ps : String} {af : Array Edge}

theorem HRep.inCx {F : FMap} {g : GMap} {H : Nat → Option Blk} {D : Nat → Prop} {w : World} (cx cx' : Cx) (hB : cx'.B = cx.B) (hb : cx'.base = cx.base) (hw : cx'.w0 = cx.w0) (h : HRep cx F g H D w) : HRep cx' F g H D w := by
  obtain ⟨h1, h2, h3, h4, h5, h6, h7, h8⟩ := h
  constructor
  · exact h1
  · rw [hB]; exact h2
  · rw [hb, hw]; exact h3
  · rw [hb]; exact h4
  · exact h5
  · intro i k hk
    obtain ⟨v, q1, q2⟩ := h6 i k hk
    refine ⟨v, q1, ?_⟩
    rw [hB, hb]
    exact q2
  · intro i k v b q1 q2 q3 q4
    obtain ⟨r1, r2, r3⟩ := h7 i k v b q1 q2 q3 q4
    rw [hb, hB]
    exact ⟨r1, r2, r3⟩
  · exact h8

/-- What the callee's end owes: the caller goes on there. -/
def Back (P : Program) (cx : Cx) (N : Nat) (ops : Array Oper) (rest : List Oper) (n : St → Prop) (x : Nat → St → Prop) (r : St → Prop) (d : Option Tmp) (fr : Fr) (vs : List ResultVar) : St → Prop := fun s' =>
  ∃ v, resOf s'.fr s'.H P vs = some v ∧ OPS P cx N ops rest n x r ⟨putf d v fr, s'.H, s'.nx⟩

theorem Back.none {vs : List ResultVar} {fr' : Fr} {H' : Hp} {nx' : Nat} {v : PV} (hv : resOf fr' H' P vs = Option.some v) (hk : OPS P cx N ops rest n x r ⟨fr, H', nx'⟩) : Back P cx N ops rest n x r Option.none fr vs ⟨fr', H', nx'⟩ := ⟨v, hv, hk⟩
theorem Back.some {t : Tmp} {vs : List ResultVar} {fr' : Fr} {H' : Hp} {nx' : Nat} {v : PV} (hv : resOf fr' H' P vs = Option.some v) (hk : OPS P cx N ops rest n x r ⟨(t, v) :: fr, H', nx'⟩) : Back P cx N ops rest n x r (Option.some t) fr vs ⟨fr', H', nx'⟩ := ⟨v, hv, hk⟩

/-- What a walk in line keeps of the one that it stands in. -/
theorem lo_inner {k m : Nat} [hlo : Lo cx k] (hk : k ≤ m) {g g' : GMap} (hd : ∀ i v, g i = some v → i < m) {ρ : List (Nat × Nat)} (hf : fixes m ρ = true) (h : g.le g' ∧ cx.K g') : g.le (renG ρ g') ∧ cx.K (renG ρ g') := by
  refine ⟨fun i v hv => ?_, hlo.ren ρ g' (fixes_le hf hk) h.2⟩
  unfold renG
  rw [fixes_get hf i (hd i v hv)]
  exact h.1 i v hv

/-- The context of a walk in line: from this world on, in a round or in none. -/
abbrev Cx.inner (cx : Cx) (g : GMap) (w : World) (rd : Option Nat) : Cx :=
  ⟨cx.B, cx.base, cx.w0, fun g' => g.le g' ∧ cx.K g', fun g1 g2 h12 h1 => ⟨h1.1.trans h12, cx.up _ _ h12 h1.2⟩, rd, w.heap.size, fun w' => KeepsD w w',
    fun w1 w2 h1 hs h2 => ⟨Nat.le_trans h1.size hs, fun b hb => h2 b (Array.getElem?_eq_some_iff.1 hb).1 (h1.at_ b hb)⟩⟩

theorem OPS.enterv {k : Nat} [hlo : Lo cx k] {X : Operand} {f : FuncId} {caps : List PV} {ts : Array TypeId} {L : List (Operand × PV)} {fn : Func} {c : Code} {N' : Nat} {vs : List ResultVar} (hfn : P.funcs[f]? = some fn) (hb : fn.body = some c) (hN : fn.ntmps = N') (hvs : fn.results.toList = vs) (hf : plainFn P f = true)
    (hx : ev fr X = some (.func f caps)) (hev : EvAll fr L) (hlen : (L.map (·.2) ++ caps).length ≤ N') (hd : dstOK N d = true) (hk : Nat.ble k nx = true)
    (h : ∀ cx' : Cx, Lo cx' nx → Out cx' → AWP P cx' N' c (Back P cx N ops rest n x r d fr vs) (fun _ _ => False) (Back P cx N ops rest n x r d fr vs) ⟨args0 0 (L.map (·.2) ++ caps), H, nx⟩) :
    OPS P cx N ops (⟨d, .call ⟨.value X, (L.map (·.1)).toArray, ts⟩, ty, ps, af, none⟩ :: rest) n x r ⟨fr, H, nx⟩ := by
  subst hN hvs
  rw [Nat.ble_eq] at hk
  intro F0 F g a w h0 hS
  unfold wpListIn
  rw [if_pos (by simp [Region.wanted])]
  have hv := ev_rep hS.fr hx
  generalize he : a.eval X = fv at hv
  cases hv with
  | func f vs caps hcl hcr =>
    have hrep := EvAll.rep hS.fr hev
    refine runs_call (f := f) (args := (L.map (·.1)).toArray.map a.eval ++ vs) (K := fun v w' => wpListIn (wideAt cx.rd) 0 P ops (Post cx N F0 n x r) rest (a.put d v) w') ?_ ?_ _ _ _ fun v w' h => h
    · simp [execOp, resolve, he, Deferred.ofValue, invoke, run_callFunc hf]
    · refine (callsIn_wide (n := 0)).1 (callsIn_of_wp_marks hfn hb trivial ?_)
      let cx' : Cx := cx.inner g w none
      generalize hargs : (L.map (·.1)).toArray.map a.eval ++ vs = margs
      have hsz : margs.size = (L.map (·.2) ++ caps).length := by rw [← hargs]; simp; omega
      have hS' : SRep cx' fn.ntmps F g ⟨args0 0 (L.map (·.2) ++ caps), H, nx⟩ { tmps := margs ++ Array.replicate (fn.ntmps - margs.size) Go.undef, defers := [] } w := by
        refine ⟨.nil cx' w (Nat.le_refl _) rfl, by simp; omega, fun t p ht => ?_, HRep.inCx cx cx' rfl rfl rfl hS.heap, ⟨GMap.le.refl g, hS.keep⟩, .refl w⟩
        obtain ⟨j, rfl, hj⟩ := args0_get ht
        obtain ⟨hlt, hp⟩ := List.getElem?_eq_some_iff.1 hj
        rw [Nat.zero_add]
        have hlt' : j < margs.size := by omega
        have e1 : (margs ++ Array.replicate (fn.ntmps - margs.size) Go.undef).getD j Go.undef = margs.getD j Go.undef := by
          simp [Array.getD_eq_getD_getElem?, Array.getElem?_append, hlt']
        show RepP F cx.B g ((margs ++ Array.replicate (fn.ntmps - margs.size) Go.undef).getD j Go.undef) p
        rw [e1, ← hargs, ← hp]
        by_cases hj' : j < L.length
        · have hr := repAll_get hrep j hj'
          simpa [Array.getD_eq_getD_getElem?, Array.getElem?_append, List.getElem_append, hj'] using hr
        · have hr := hcr (j - L.length) (by simp at hlt; omega)
          simpa [Array.getD_eq_getD_getElem?, Array.getElem?_append, List.getElem_append, hj'] using hr
      refine Code.wpIn_mono ?_ (h cx' ⟨fun ρ g' hfx hK => lo_inner hk hS.heap.dom hfx hK⟩ ⟨rfl⟩ F F g _ w (.refl _ _) hS')
      intro e a' w' hp
      obtain ⟨F', g', s', h1, h2, h3⟩ := hp
      have key : Back P cx N ops rest n x r d fr fn.results.toList s' → LeavesInM Fence.wide 0 P fn a'.tmps (fun e w' => ∃ v, e = .returned v ∧ wpListIn (wideAt cx.rd) 0 P ops (Post cx N F0 n x r) rest (a.put d v) w') a'.defers .returning w' := by
        rintro ⟨v, hv, hk⟩
        refine h2.leave fun w2 hS2 => ?_
        obtain ⟨mv, q1, q2⟩ := run_results hS2 hv
        refine ⟨mv, q1, mv, rfl, hk F0 F' g' _ w2 (h0.trans h1 (Nat.le_refl _)) ⟨hS.defers.kept (put_defers ..) hS2.keepW, by rw [put_size]; exact hS.size, ?_, HRep.inCx cx' cx rfl rfl rfl hS2.heap, hS2.keep.2, Cx.upK hS.keepW hS2.keepW⟩⟩
        exact put_rep (fun t p ht => (hS.fr t p ht).mono h1.1 hS2.keep.1) hS.size (dstOK_spec hd) q2 fun t => lk_putf t
      cases e with
      | normal => exact key h3
      | ret => exact key h3
      | exit i => exact h3.elim
      | goto l => exact h3.elim
      | panic ch => exact h3.elim
      | outgrown => exact h3.elim

/-- A variable's block, told another way. -/
theorem HRep.retell {F : FMap} {g : GMap} {H : Nat → Option Blk} {D : Nat → Prop} {w : World} (hH : HRep cx F g H D w) {id : Nat} {cells cells' : List PV} (hk : H id = some (.var cells)) (hl : cells'.length = cells.length)
    (hr : ∀ (v : Value) (j : Nat) (h : j < cells.length), RepP F cx.B g v (cells[j]'h) → RepP F cx.B g v (cells'[j]'(by omega))) : HRep cx F g (upd H [(id, .var cells')]) D w := by
  have hu : ∀ i, upd H [(id, .var cells')] i = if id = i then some (.var cells') else H i := fun i => by
    unfold upd
    by_cases h : id = i
    · subst h; rw [lk_cons_eq, if_pos rfl]; rfl
    · rw [lk_cons_ne _ _ h, if_neg h]; rfl
  have hmut : ∀ i k, upd H [(id, .var cells')] i = some k → ∃ k', H i = some k' ∧ k'.mut = k.mut := fun i k hk' => by
    rw [hu] at hk'
    split at hk'
    · rename_i h
      subst h
      injection hk' with hk'
      subst hk'
      exact ⟨_, hk, rfl⟩
    · exact ⟨k, hk', rfl⟩
  constructor
  · exact hH.agree
  · exact hH.agreeB
  · exact hH.below
  · exact hH.le
  · exact hH.dom
  · intro i k hk'
    rw [hu] at hk'
    split at hk'
    · rename_i h
      subst h
      injection hk' with hk'
      subst hk'
      obtain ⟨v, h1, b, c, e, q1, q2, q3, q4⟩ := hH.blk id _ hk
      exact ⟨v, h1, b, c, e, q1, q2, by omega, fun j hj => hr _ j (by omega) (q4 j (by omega))⟩
    · exact hH.blk i k hk'
  · intro i k v b hk' hm hv hb
    obtain ⟨k', h1, h2⟩ := hmut i k hk'
    exact hH.own i k' v b h1 (by rw [h2]; exact hm) hv hb
  · intro i j k l v u b hk' hl' hm hm' hv hu' hb hb'
    obtain ⟨k1, h1, h2⟩ := hmut i k hk'
    obtain ⟨k2, h3, h4⟩ := hmut j l hl'
    exact hH.inj i j k1 k2 v u b h1 h3 (by rw [h2]; exact hm) (by rw [h4]; exact hm') hv hu' hb hb'

/-- A variable that holds nil holds an own list without elements. -/
theorem AWP.adoptV {c : Code} (id e sz : Nat) (ht : lk H id = some (.var [.nilS])) (h : AWP P cx N c n x r ⟨fr, (id, .var [.own nx 0]) :: (nx, .arr e sz 0 []) :: H, nx + 1⟩) : AWP P cx N c n x r ⟨fr, H, nx⟩ := by
  intro F0 F g a w h0 hS
  obtain ⟨h1, h2⟩ := hS.adopt e sz
  have hlt : id < nx := by
    obtain ⟨v, hv, _⟩ := hS.heap.blk id _ ht
    exact hS.heap.dom id v hv
  have hk : lk ((nx, Blk.arr e sz 0 []) :: H) id = some (.var [.nilS]) := by rw [lk_cons_ne _ _ (by omega)]; exact ht
  refine h F0 F _ a w h0 ⟨h2.defers, h2.size, h2.fr, ?_, h2.keep, h2.keepW⟩
  have := h2.heap.retell hk (cells' := [.own nx 0]) rfl fun v j hj hr => by
    have : j = 0 := by simp at hj; omega
    subst this
    have hr : RepP F cx.B (g.set nx (.slice none 0 0)) v .nilS := hr
    show RepP F cx.B (g.set nx (.slice none 0 0)) v (.own nx 0)
    cases hr
    exact .own 0 (by simp [GMap.set]) none 0 rfl
  rw [upd_lk] at this
  exact this
end
end Go.Proofs.Gh
end
section
set_option linter.unusedVariables false
set_option linter.unusedSimpArgs false
namespace Go.Proofs.Gh
open Go.RowKit

/-- A slice of whole numbers that came in. -/
def IsRow (k : IntKind) (w : World) (a : Option Addr) (len cap : Nat) (zs : List Int) : Prop :=
  (a = none ∧ len = 0 ∧ cap = 0 ∧ zs = []) ∨
  ∃ x, a = some x ∧ len ≤ cap ∧ cap ≤ maxLen ∧ zs.length = cap ∧ (∀ i, i < zs.length → w.cell? (x.add i) = some (.int k (zs.getD i 0))) ∧ ∀ n ∈ zs, (Lit.int k n).wf = true

theorem cell_spot {w : World} {x : Addr} {v : Value} (h : w.cell? x = some v) : x.spot = none := by
  unfold World.cell? at h
  split at h
  · split at h
    · cases h
    · rename_i hs; simpa using hs
  · cases h

def fKs (k : IntKind) (l : List Int) : List FV := l.map fun n => .int k n
theorem fKs_len (k : IntKind) (l : List Int) : (fKs k l).length = l.length := by simp [fKs]

theorem isRow_rep {k : IntKind} {w : World} {a : Option Addr} {len cap : Nat} {zs : List Int} (h : IsRow k w a len cap zs) :
    RepF (allCells w) (.slice a len cap) (.sl (zs.take len).length (fKs k (zs.take len))) ∧ (zs.take len).length = len ∧ (∀ n ∈ zs.take len, (Lit.int k n).wf = true) ∧ len ≤ maxLen := by
  rcases h with ⟨rfl, rfl, rfl, rfl⟩ | ⟨x, rfl, h1, h2, h3, h4, h5⟩
  · exact ⟨.nil _ _ _ (Nat.le_refl _), rfl, fun n hn => absurd hn (by simp), by unfold maxLen; omega⟩
  · have hl : (zs.take len).length = len := by rw [List.length_take]; omega
    refine ⟨?_, hl, fun n hn => h5 n (List.mem_of_mem_take hn), by omega⟩
    rw [hl]
    by_cases h0 : len = 0
    · subst h0
      exact .nil _ _ _ h1
    · have hx := cell_spot (h4 0 (by omega))
      obtain ⟨b, o, s⟩ := x
      simp only [Addr.add, if_pos] at hx
      subst hx
      refine .sl b o len cap _ (fun j => .int k (zs.getD j 0)) h1 (fun j hj => ?_) fun j hj => ?_
      · rw [fKs_len, hl] at hj
        have := h4 j (by omega)
        rw [add_lit] at this
        exact this
      · rw [fKs_len, hl] at hj
        have : (fKs k (zs.take len))[j]'(by rw [fKs_len, hl]; exact hj) = .int k (zs.getD j 0) := by
          simp [fKs, List.getD_eq_getElem?_getD, List.getElem?_eq_getElem (show j < zs.length by omega)]
        rw [this]
        exact .int _ _

/-- The arguments, told one by one. -/
def RepArgs (w : World) : List Value → List PV → Prop
  | [], [] => True
  | v :: vs, p :: ps => RepP (allCells w) (allCells w) gnone v p ∧ RepArgs w vs ps
  | _, _ => False
theorem repArgs_get {w : World} : ∀ {vs : List Value} {ps : List PV}, RepArgs w vs ps → vs.length = ps.length ∧ ∀ (j : Nat) (h : j < ps.length), RepP (allCells w) (allCells w) gnone (vs.getD j Go.undef) (ps[j]'h)
  | [], [], _ => ⟨rfl, fun j h => absurd h (by simp)⟩
  | v :: vs, p :: ps, h => by
    obtain ⟨h1, h2⟩ := repArgs_get h.2
    refine ⟨by simp [h1], fun j hj => ?_⟩
    cases j with
    | zero => exact h.1
    | succ j => exact h2 j (by simpa using hj)
  | [], _ :: _, h => h.elim
  | _ :: _, [], h => h.elim

theorem law_calls {P : Program} {f : FuncId} {args : List PV} {b : Bool} (h : PureC P f args (.cell (.bool b))) (w : World) (vs : List Value) (hr : RepArgs w vs args) :
    Calls P f vs.toArray w fun e w' => e = .returned (.bool b) ∧ Below w.heap.size w w' := by
  obtain ⟨h1, h2⟩ := repArgs_get hr
  refine (h (allCells w) (allCells w) w vs.toArray (allCells_agree w) (allCells_agree w) (by simpa using h1) fun j hj => ?_).mono ?_
  · have := h2 j hj
    simpa [Array.getD_eq_getD_getElem?, List.getD_eq_getElem?_getD] using this
  · rintro e w' ⟨mv, F', rfl, q1, q2, q3, q4⟩
    rw [rep_bool q3]
    exact ⟨rfl, q4.os, q4.tape, q4.output, q4.size, fun k hk => q4.block k hk (by simp)⟩
end Go.Proofs.Gh
end
section
set_option linter.unusedVariables false
set_option linter.unusedSimpArgs false
namespace Go.Proofs.Gh
open Go.RowKit

section
variable {P : Program} {cx : Cx} {N : Nat} {n : St → Prop} {x : Nat → St → Prop} {r : St → Prop} {ops : Array Oper} {rest : List Oper} {fr : Fr} {H : Hp} {nx : Nat}
variable {d : Option Tmp} {ty : TypeId} {ps : String} {af : Array Edge}

/-- A loop's record and what may be written there. -/
theorem HRep.loop {F : FMap} {g : GMap} {H : Nat → Option Blk} {D : Nat → Prop} {w : World} (h : HRep cx F g H D w) {id l : Nat} {st : LoopState} {pe : Option Code} {pa : Array Tmp} {as bd : Code} {N' : Nat} {fr' : Fr} (hk : H id = some (.loop st pe pa as bd N' fr')) (hg : g id = some (.pointer (some ⟨l, 0, none⟩))) :
    ∃ fn tmps D', w.heap[l]? = some (.loop { state := st, pending := pe, fn := fn, tmps := tmps, params := pa, assign := as, body := bd, defers := D' }) ∧ tmps.size = N' ∧ (∀ t p, lk fr' t = some p → RepP F cx.B g (tmps.getD t Go.undef) p) ∧
      ∀ (o' : Obj) (k' : Blk), (∀ W : World, W.heap[l]? = some o' → BRep F cx.B g cx.base W (.pointer (some ⟨l, 0, none⟩)) k') → HRep cx F g (upd H [(id, k')]) D (w.putObj l o') := by
  obtain ⟨v, hv, b, fn, tmps, D', rfl, hh, hs, hr⟩ := h.blk id _ hk
  rw [hg] at hv
  injection hv with hv
  injection hv with hv
  injection hv with hv
  injection hv with hv
  subst hv
  have hlt := (Array.getElem?_eq_some_iff.1 hh).1
  have ho := h.own id _ _ l hk rfl hg rfl
  refine ⟨fn, tmps, D', hh, hs, hr, fun o' k' hB => ?_⟩
  refine h.next (some l) id k' _ (grownBy_putObj' w l o') (fun b e => by injection e with e; subst e; exact ho) (.refl _ _) (fun b o v hv => .inl hv) (.refl g) h.dom (by simp [upd_one]) hg (hB _ (World.putObj_heap_same hlt)) ?_ ?_
  · intro j k hj hk'
    rw [upd_one, if_neg hj] at hk'
    refine .inr ⟨hk', fun u b hm hu hb => ⟨fun e => ?_, (h.own j k u b hk' hm hu hb).2.1⟩⟩
    injection e with e
    subst e
    exact hj (h.inj j id k _ u _ l hk' hk hm rfl hu hg hb rfl)
  · intro hm b hb
    injection hb with hb
    subst hb
    refine ⟨ho.1, ho.2.1, ho.2.2, .inr fun j k u hj hk' hm' hu hb' => ?_⟩
    rw [upd_one, if_neg hj] at hk'
    exact hj (h.inj j id k _ u _ l hk' hk hm' rfl hu hg hb' rfl)

theorem keepsD_loop {w : World} {l : Nat} {rec : Loop} (h : w.heap[l]? = some (.loop rec)) (o : Obj) : KeepsD w (w.putObj l o) :=
  KeepsD.row (grownBy_putObj' w l o) fun r e => by injection e with e; subst e; exact ⟨_, h, by simp⟩

/-- Behind the iterator: what the pending jump leads to. -/
def After (P : Program) (nx : Nat) (n : St → Prop) (x : Nat → St → Prop) (r : St → Prop) (fr : Fr) (vs : List ResultVar) : St → Prop := fun s =>
  ∃ st pe pa as bd N' fr' v, lk s.H nx = some (.loop st pe pa as bd N' fr') ∧ st ≠ .busy ∧ resOf s.fr s.H P vs = some v ∧
    match pe with
    | none => n ⟨fr, (nx, .dead) :: s.H, s.nx⟩
    | some (.exit i) => x i ⟨fr, (nx, .dead) :: s.H, s.nx⟩
    | some .ret => r ⟨fr, (nx, .dead) :: s.H, s.nx⟩
    | _ => False
theorem After.none {vs : List ResultVar} {s : St} {st : LoopState} {pa : Array Tmp} {as bd : Code} {N' : Nat} {fr' : Fr} {v : PV} (h : lk s.H nx = some (.loop st .none pa as bd N' fr')) (hs : st ≠ .busy) (hv : resOf s.fr s.H P vs = some v) (hn : n ⟨fr, (nx, .dead) :: s.H, s.nx⟩) : After P nx n x r fr vs s := ⟨_, _, _, _, _, _, _, _, h, hs, hv, hn⟩
theorem After.exit {vs : List ResultVar} {s : St} {st : LoopState} {i : Nat} {pa : Array Tmp} {as bd : Code} {N' : Nat} {fr' : Fr} {v : PV} (h : lk s.H nx = some (.loop st (some (.exit i)) pa as bd N' fr')) (hs : st ≠ .busy) (hv : resOf s.fr s.H P vs = some v) (hn : x i ⟨fr, (nx, .dead) :: s.H, s.nx⟩) : After P nx n x r fr vs s := ⟨_, _, _, _, _, _, _, _, h, hs, hv, hn⟩
theorem After.ret {vs : List ResultVar} {s : St} {st : LoopState} {pa : Array Tmp} {as bd : Code} {N' : Nat} {fr' : Fr} {v : PV} (h : lk s.H nx = some (.loop st (some .ret) pa as bd N' fr')) (hs : st ≠ .busy) (hv : resOf s.fr s.H P vs = some v) (hn : r ⟨fr, (nx, .dead) :: s.H, s.nx⟩) : After P nx n x r fr vs s := ⟨_, _, _, _, _, _, _, _, h, hs, hv, hn⟩

theorem AWP.rangeFunc {k : Nat} [hlo : Lo cx k] [hout : Out cx] {X : Operand} {pa : Array Tmp} {as bd : Code} {f : FuncId} {caps : List PV} {fn : Func} {c : Code} {N' : Nat} {vs : List ResultVar} (hfn : P.funcs[f]? = some fn) (hb : fn.body = some c) (hN : fn.ntmps = N') (hvs : fn.results.toList = vs) (hf : plainFn P f = true)
    (hx : ev fr X = some (.func f caps)) (hlen : caps.length + 1 ≤ N') (hk : Nat.ble k nx = true) (fr0 : Fr) (hfr : AllLk fr fr0)
    (h : ∀ (as' bd' : Code), as' = as → bd' = bd → ∀ cx' : Cx, Lo cx' (nx + 1) → Out cx' → AWP P cx' N' c (After P nx n x r fr vs) (fun _ _ => False) (After P nx n x r fr vs) ⟨args0 0 (.yield nx :: caps), (nx, .loop .ready none pa as' bd' N fr0) :: H, nx + 1⟩) :
    AWP P cx N (.rangeFunc X pa as bd) n x r ⟨fr, H, nx⟩ := by
  subst hN hvs
  rw [Nat.ble_eq] at hk
  intro F0 F g a w h0 hS
  rw [hout.rd]
  refine wpIn_rangeFunc ?_
  intro fn0 _
  have hv := ev_rep hS.fr hx
  generalize he : a.eval X = fv at hv
  cases hv with
  | func f vs caps hcl hcr =>
    obtain ⟨rec, hrec⟩ : ∃ rec : Loop, rec = { state := .ready, pending := none, fn := fn0, tmps := a.tmps, params := pa, assign := as, body := bd, defers := w.heap.size } := ⟨_, rfl⟩
    obtain ⟨W1, hW1⟩ : ∃ W1, (w.alloc (.deferred (some []))).alloc (.loop rec) = W1 := ⟨_, rfl⟩
    have hsz1 : W1.heap.size = w.heap.size + 2 := by rw [← hW1]; simp
    have hKW : KeepsD w W1 := by rw [← hW1]; exact (KeepsD.alloc _ _).trans (KeepsD.alloc _ _)
    have hD1 : W1.heap[w.heap.size]? = some (.deferred (some [])) := by
      rw [← hW1]; exact (KeepsD.alloc _ _).at_ _ (World.alloc_heap_new w _)
    have hH0 : HRep cx F g (lk H) (· < nx) (w.alloc (.deferred (some []))) :=
      hS.heap.same (grownBy_new w _ none) (.refl _ _) (fun b o v hv => (grownBy_new w _ none).cell (hS.heap.agree b o v hv) (by simp)) fun _ hj => hj
    obtain ⟨hle, hH1⟩ := hH0.alloc (i := nx) (by simp) (.loop rec) (.loop .ready none pa as bd N fr0) (.pointer (some ⟨w.heap.size + 1, 0, none⟩)) (D' := (· < nx + 1)) (fun j hj => by rcases hj with hj | hj <;> (show j < nx + 1; omega)) (by simp [ownB]) (fun g' hg => by
      refine ⟨w.heap.size + 1, fn0, a.tmps, w.heap.size, rfl, ?_, hS.size, fun t p ht => (hS.fr t p (hfr.get t p ht)).mono (.refl F) hg⟩
      have := World.alloc_heap_new (w.alloc (.deferred (some []))) (.loop rec)
      rw [World.size_alloc] at this
      rw [this, hrec])
    rw [hW1] at hH1
    refine ⟨w.heap.size + 1, [{ target := .collected w.heap.size, args := #[] }], W1, { target := .fn (.func f) vs, args := #[.func (.yield (w.heap.size + 1)) #[] #[]] }, W1, f, #[.func (.yield (w.heap.size + 1)) #[] #[]] ++ vs, W1, ?_, ?_, fun _ _ => trivial, ?_, by simp, ?_⟩
    · rw [← hW1, hrec]; exact run_enterLoop_outer _ _ _ _ _
    · simp only [resolve, he]
      simp [go_sem]
    · simp [invoke, go_sem, run_callFunc hf]
    · refine callsIn_of_wp_marks hfn hb trivial ?_
      let g1 : GMap := g.set nx (.pointer (some ⟨w.heap.size + 1, 0, none⟩))
      let cx' : Cx := ⟨cx.B, cx.base, cx.w0, fun g' => g1.le g' ∧ cx.K g', fun g1 g2 h12 h1 => ⟨h1.1.trans h12, cx.up _ _ h12 h1.2⟩, none, W1.heap.size, fun w' => KeepsD W1 w',
        fun w1 w2 h1 hs h2 => ⟨Nat.le_trans h1.size hs, fun b hb => h2 b (Array.getElem?_eq_some_iff.1 hb).1 (h1.at_ b hb)⟩⟩
      have hg1 : g1 nx = some (.pointer (some ⟨w.heap.size + 1, 0, none⟩)) := by simp [g1, GMap.set]
      have hS' : SRep cx' fn.ntmps F g1 ⟨args0 0 (.yield nx :: caps), (nx, .loop .ready none pa as bd N fr0) :: H, nx + 1⟩ { tmps := #[Value.func (.yield (w.heap.size + 1)) #[] #[]] ++ vs ++ Array.replicate (fn.ntmps - (#[Value.func (.yield (w.heap.size + 1)) #[] #[]] ++ vs).size) Go.undef, defers := [] } W1 := by
        refine ⟨.nil cx' W1 (Nat.le_refl _) rfl, by simp; omega, fun t p ht => ?_, ?_, ⟨GMap.le.refl _, cx.up _ _ hle hS.keep⟩, .refl W1⟩
        · obtain ⟨j, rfl, hj⟩ := args0_get ht
          obtain ⟨hlt, hp⟩ := List.getElem?_eq_some_iff.1 hj
          rw [Nat.zero_add]
          show RepP F cx.B g1 _ p
          cases j with
          | zero =>
            simp at hp
            subst hp
            have : RepP F cx.B g1 (.func (.yield (w.heap.size + 1)) #[] #[]) (.yield nx) := .yield _ hg1 rfl
            simpa [Array.getD_eq_getD_getElem?, Array.getElem?_append] using this
          | succ j =>
            have hlt' : j < caps.length := by simpa using hlt
            have hlt2 : j < vs.size := by omega
            have := (hcr j hlt').mono (.refl F) hle
            simp only [List.getElem_cons_succ] at hp
            rw [hp] at this
            have e1 : (#[Value.func (.yield (w.heap.size + 1)) #[] #[]] ++ vs ++ Array.replicate (fn.ntmps - (#[Value.func (.yield (w.heap.size + 1)) #[] #[]] ++ vs).size) Go.undef).getD (j + 1) Go.undef = vs.getD j Go.undef := by
              simp [Array.getD_eq_getD_getElem?, Array.getElem?_append, hlt2, show j + 1 < 1 + vs.size by omega]
            rw [e1]
            exact this
        · have := HRep.inCx cx cx' rfl rfl rfl hH1
          rw [upd_lk] at this
          exact this
      have hlo' : Lo cx' (nx + 1) := ⟨fun ρ g' hfx hK => lo_inner (cx := cx) (k := k) (m := nx + 1) (Nat.le_succ_of_le hk) (g := g1) (fun i v hv => hS'.heap.dom i v hv) hfx hK⟩
      refine Code.wpIn_mono ?_ (h as bd rfl rfl cx' hlo' ⟨rfl⟩ F F g1 _ W1 (.refl _ _) hS')
      intro e a' w' hp
      obtain ⟨F', g', s', h1, h2, h3⟩ := hp
      have key : After P nx n x r fr fn.results.toList s' → LeavesInM Fence.wide 0 P fn a'.tmps (rangePost (wideAt none) 0 P (w.heap.size + 1) (Post cx N F0 n x r) { a with defers := [{ target := .collected w.heap.size, args := #[] }] ++ a.defers }) a'.defers .returning w' := by
        rintro ⟨st, pe, pa', as', bd', N'', fr', v, hl, hst, hv, hk2⟩
        refine h2.leave fun w2 hS2 => ?_
        obtain ⟨mv, q1, q2⟩ := run_results hS2 hv
        have hgl : g' nx = some (.pointer (some ⟨w.heap.size + 1, 0, none⟩)) := hS2.keep.1 _ _ hg1
        obtain ⟨fn2, tmps2, D2, hh, _, _, hwr⟩ := hS2.heap.loop (id := nx) hl hgl
        have hKD := keepsD_loop hh (.loop { state := .exhausted, pending := pe, fn := fn2, tmps := tmps2, params := pa', assign := as', body := bd', defers := D2 })
        have hKD2 : KeepsD W1 (w2.putObj (w.heap.size + 1) (.loop { state := .exhausted, pending := pe, fn := fn2, tmps := tmps2, params := pa', assign := as', body := bd', defers := D2 })) := KeepsD.trans hS2.keepW hKD
        have hfin : SRep cx N F' g' ⟨fr, (nx, .dead) :: s'.H, s'.nx⟩ { a with defers := [{ target := .collected w.heap.size, args := #[] }] ++ a.defers } (w2.putObj (w.heap.size + 1) (.loop { state := .exhausted, pending := pe, fn := fn2, tmps := tmps2, params := pa', assign := as', body := bd', defers := D2 })) := by
          refine ⟨?_, hS.size, fun t p ht => (hS.fr t p ht).mono h1.1 (hle.trans hS2.keep.1), ?_, hS2.keep.2, Cx.upK hS.keepW (hKW.trans hKD2)⟩
          · obtain ⟨m0, dl, d1, d2, d3⟩ := hS.defers
            refine ⟨Nat.le_trans m0 (Nat.le_trans hKW.size hKD2.size), w.heap.size :: dl, by simp [d1], List.nodup_cons.2 ⟨fun hm => ?_, d2⟩, fun D hD => ?_⟩
            · have := (Array.getElem?_eq_some_iff.1 (d3 _ hm).2.2).1
              omega
            · rcases List.mem_cons.1 hD with rfl | hD
              · exact ⟨m0, hS.heap.le, hKD2.at_ _ hD1⟩
              · exact ⟨(d3 D hD).1, (d3 D hD).2.1, hKD2.at_ _ (hKW.at_ _ (d3 D hD).2.2)⟩
          · have := HRep.inCx cx' cx rfl rfl rfl (hwr (.loop { state := .exhausted, pending := pe, fn := fn2, tmps := tmps2, params := pa', assign := as', body := bd', defers := D2 }) .dead fun _ _ => trivial)
            rw [upd_lk] at this
            exact this
        have hext := h0.trans h1 (Nat.le_refl _)
        refine ⟨mv, q1, pe, _, run_endLoop hh hst, ?_⟩
        match pe, hk2 with
        | none, hk2 => exact ⟨F', g', _, hext, hfin, hk2⟩
        | some (.exit i), hk2 => exact wpIn_exit ⟨F', g', _, hext, hfin, hk2⟩
        | some .ret, hk2 => exact wpIn_ret ⟨F', g', _, hext, hfin, hk2⟩
      cases e with
      | normal => exact key h3
      | ret => exact key h3
      | exit i => exact h3.elim
      | goto l => exact h3.elim
      | panic ch => exact h3.elim
      | outgrown => exact h3.elim

/-! ### A round -/
/-- The frame of a round: the parameters hold what was yielded. -/
def parF : List Tmp → List PV → Fr → Fr
  | t :: ts, p :: ps, fr => parF ts ps ((t, p) :: fr)
  | _, _, fr => fr
theorem parF_rep {F B : FMap} {g : GMap} : ∀ {ts : List Tmp} {us : List Value} {qs : List PV} {fr : Fr} {tmps : Array Value}, us.length = qs.length → ts.length = qs.length → (∀ t ∈ ts, t < tmps.size) → (∀ (j : Nat) (h : j < qs.length), RepP F B g (us.getD j Go.undef) (qs[j]'h)) →
    (∀ t p, lk fr t = some p → RepP F B g (tmps.getD t Go.undef) p) → ∀ t p, lk (parF ts qs fr) t = some p → RepP F B g (((ts.zip us).foldl (fun tmps (q : Tmp × Value) => tmps.setIfInBounds q.1 q.2) tmps).getD t Go.undef) p
  | [], [], [], fr, tmps, _, _, _, _, h, t, p, hp => h t p hp
  | t0 :: ts, u :: us, q :: qs, fr, tmps, h1, h2, h3, h4, h, t, p, hp => by
    refine parF_rep (ts := ts) (us := us) (qs := qs) (fr := (t0, q) :: fr) (tmps := tmps.setIfInBounds t0 u) (by simpa using h1) (by simpa using h2) (fun t ht => by simpa using h3 t (by simp [ht])) (fun j hj => h4 (j + 1) (by simpa using hj)) ?_ t p hp
    intro t' p' hp'
    by_cases he : t0 = t'
    · subst he
      rw [lk_cons_eq] at hp'
      injection hp' with hp'
      subst hp'
      have hlt := h3 t0 (by simp)
      have := h4 0 (by simp)
      simpa [Array.getD_eq_getD_getElem?, hlt] using this
    · rw [lk_cons_ne _ _ he] at hp'
      have := h t' p' hp'
      simpa [Array.getD_eq_getD_getElem?, Array.getElem?_setIfInBounds_ne he] using this
  | [], [], _ :: _, _, _, h1, _, _, _, _, _, _, _ => by simp at h1
  | [], _ :: _, [], _, _, h1, _, _, _, _, _, _, _ => by simp at h1
  | [], _ :: _, _ :: _, _, _, _, h2, _, _, _, _, _, _ => by simp at h2
  | _ :: _, [], [], _, _, _, h2, _, _, _, _, _, _ => by simp at h2
  | _ :: _, [], _ :: _, _, _, h1, _, _, _, _, _, _, _ => by simp at h1
  | _ :: _, _ :: _, [], _, _, h1, _, _, _, _, _, _, _ => by simp at h1
theorem foldl_size (l : List (Tmp × Value)) : ∀ (tmps : Array Value), (l.foldl (fun tmps (q : Tmp × Value) => tmps.setIfInBounds q.1 q.2) tmps).size = tmps.size := by
  induction l with
  | nil => intro t; rfl
  | cons q l ih => intro t; simp only [List.foldl_cons]; rw [ih]; simp

/-- In a round. -/
class InRound (cx : Cx) : Prop where
  rd : cx.rd.isSome = true

/-- What a round's end owes: the iterator goes on. -/
def Yd (P : Program) (cx : Cx) (N : Nat) (ops : Array Oper) (rest : List Oper) (n : St → Prop) (x : Nat → St → Prop) (r : St → Prop) (d : Option Tmp) (fr : Fr) (id : Nat) (b : Bool) (jump : Option Code) : St → Prop := fun s =>
  ∃ pa as bd N' fr', lk s.H id = some (.loop .busy none pa as bd N' fr') ∧
    OPS P cx N ops rest n x r ⟨putf d (.cell (.bool b)) fr, (id, .loop (bif b then .ready else .done) jump pa as bd N' fr') :: s.H, s.nx⟩
theorem Yd.mk' {id : Nat} {b : Bool} {jump : Option Code} {s : St} {pa : Array Tmp} {as bd : Code} {N' : Nat} {fr' : Fr} (h : lk s.H id = some (.loop .busy none pa as bd N' fr')) (hk : OPS P cx N ops rest n x r ⟨putf d (.cell (.bool b)) fr, (id, .loop (bif b then .ready else .done) jump pa as bd N' fr') :: s.H, s.nx⟩) : Yd P cx N ops rest n x r d fr id b jump s := ⟨_, _, _, _, _, h, hk⟩
/-- Behind the assignments: the round begins. -/
def Beg (P : Program) (cx' : Cx) (N' : Nat) (body : Code) (n : St → Prop) (x : Nat → St → Prop) (r : St → Prop) (id : Nat) : St → Prop := fun s =>
  ∃ pa as bd fr', lk s.H id = some (.loop .ready none pa as bd N' fr') ∧ AWP P cx' N' body n x r ⟨s.fr, (id, .loop .busy none pa as bd N' fr') :: s.H, s.nx⟩
theorem Beg.mk' {cx' : Cx} {N' : Nat} {body : Code} {id : Nat} {s : St} {pa : Array Tmp} {as bd : Code} {fr' : Fr} (h : lk s.H id = some (.loop .ready none pa as bd N' fr')) (hk : AWP P cx' N' body n x r ⟨s.fr, (id, .loop .busy none pa as bd N' fr') :: s.H, s.nx⟩) : Beg P cx' N' body n x r id s := ⟨_, _, _, _, h, hk⟩

theorem OPS.yield {k : Nat} [hlo : Lo cx k] {X : Operand} {id : Nat} {ts : Array TypeId} {L : List (Operand × PV)} {pa : Array Tmp} {as bd : Code} {N' : Nat} {fr' : Fr} {as0 bd0 : Code} (has : as = as0) (hbd : bd = bd0) (hx : ev fr X = some (.yield id)) (hH : lk H id = some (.loop .ready none pa as bd N' fr')) (hev : EvAll fr L) (hps : pa.toList.length = L.length) (hin : pa.toList.all (Nat.blt · N') = true) (hd : dstOK N d = true) (hk : Nat.ble k nx = true)
    (h : ∀ cx' : Cx, Lo cx' nx → InRound cx' → AWP P cx' N' as0 (Beg P cx' N' bd0 (Yd P cx N ops rest n x r d fr id true none) (fun i => Yd P cx N ops rest n x r d fr id false (some (.exit i))) (Yd P cx N ops rest n x r d fr id false (some .ret)) id) (fun _ _ => False) (fun _ => False) ⟨parF pa.toList (L.map (·.2)) fr', H, nx⟩) :
    OPS P cx N ops (⟨d, .call ⟨.value X, (L.map (·.1)).toArray, ts⟩, ty, ps, af, none⟩ :: rest) n x r ⟨fr, H, nx⟩ := by
  subst has hbd
  rw [Nat.ble_eq] at hk
  intro F0 F g a w h0 hS
  unfold wpListIn
  rw [if_pos (by simp [Region.wanted])]
  have hv := ev_rep hS.fr hx
  generalize he : a.eval X = fv at hv
  cases hv with
  | yield l hg hgv =>
    subst hgv
    obtain ⟨fn, tmps, D', hh, hts, htr, _⟩ := hS.heap.loop hH hg
    have hsz : (((L.map (·.1)).toArray).map a.eval).size = pa.size := by simpa using hps.symm
    have hrun : (execOp a.eval ⟨d, .call ⟨.value X, (L.map (·.1)).toArray, ts⟩, ty, ps, af, none⟩).run P w = .ok (.round l fn ((pa.zip ((L.map (·.1)).toArray.map a.eval)).foldl (fun tmps (t, a) => tmps.setIfInBounds t a) tmps) as bd) w := by
      have hy := run_yield (P := P) hh (args := (L.map (·.1)).toArray.map a.eval) hsz
      simp only [execOp, resolve, he, Deferred.ofValue, Sem.run_bind, Sem.run_pure, Result.andThen_ok, invoke, Array.append_empty]
      simpa using hy
    unfold Oper.wpIn
    rw [semAt_of hrun (by simp), hrun, Oper.uponIn_round]
    refine ⟨fun _ _ => trivial, by simp, roundIn_of_wpIn trivial ?_⟩
    let cx' : Cx := cx.inner g w (some l)
    have hfold : (pa.zip ((L.map (·.1)).toArray.map a.eval)).foldl (fun tmps (t, a) => tmps.setIfInBounds t a) tmps = ((pa.toList.zip (L.map fun u => a.eval u.1)).foldl (fun tmps (q : Tmp × Value) => tmps.setIfInBounds q.1 q.2) tmps) := by
      rw [← Array.foldl_toList]
      simp [Function.comp_def]
    rw [hfold]
    have hS' : SRep cx' N' F g ⟨parF pa.toList (L.map (·.2)) fr', H, nx⟩ { tmps := (pa.toList.zip (L.map fun u => a.eval u.1)).foldl (fun tmps (q : Tmp × Value) => tmps.setIfInBounds q.1 q.2) tmps, defers := [] } w := by
      refine ⟨.nil cx' w (Nat.le_refl _) rfl, by rw [foldl_size]; exact hts, ?_, HRep.inCx cx cx' rfl rfl rfl hS.heap, ⟨GMap.le.refl g, hS.keep⟩, .refl w⟩
      refine parF_rep (by simp) (by simpa using hps) (fun t ht => ?_) (fun j hj => ?_) htr
      · have := List.all_eq_true.1 hin t ht
        rw [Nat.blt_eq] at this
        exact hts ▸ this
      · have hj' : j < L.length := by simpa using hj
        have := repAll_get (EvAll.rep hS.fr hev) j hj'
        simpa [List.getD_eq_getElem?_getD, hj'] using this
    refine Code.wpIn_mono ?_ (h cx' ⟨fun ρ g' hfx hK => lo_inner hk hS.heap.dom hfx hK⟩ ⟨rfl⟩ F F g _ w (.refl _ _) hS')
    intro e a1 w1 hp
    obtain ⟨F1, g1, s1, e1, hS1, h3⟩ := hp
    cases e with
    | exit i => exact h3.elim
    | ret => exact h3.elim
    | goto l => exact h3.elim
    | panic ch => exact h3.elim
    | outgrown => exact h3.elim
    | normal =>
      obtain ⟨pa1, as1, bd1, fr1, hl1, hbody⟩ := h3
      have hg1 : g1 id = some (.pointer (some ⟨l, 0, none⟩)) := hS1.keep.1 _ _ hg
      obtain ⟨fn1, tmps1, D1, hh1, hts1, htr1, hwr1⟩ := hS1.heap.loop hl1 hg1
      refine ⟨_, run_beginRound hh1 rfl, ?_⟩
      have hKD1 := keepsD_loop hh1 (.loop { state := .busy, pending := none, fn := fn1, tmps := tmps1, params := pa1, assign := as1, body := bd1, defers := D1 })
      have hS2 : SRep cx' N' F1 g1 ⟨s1.fr, (id, .loop .busy none pa1 as1 bd1 N' fr1) :: s1.H, s1.nx⟩ a1 (w1.putObj l (.loop { state := .busy, pending := none, fn := fn1, tmps := tmps1, params := pa1, assign := as1, body := bd1, defers := D1 })) := by
        refine ⟨hS1.defers.kept rfl hKD1, hS1.size, hS1.fr, ?_, hS1.keep, Cx.upK hS1.keepW hKD1⟩
        have := hwr1 _ (.loop .busy none pa1 as1 bd1 N' fr1) fun W hW => ⟨l, fn1, tmps1, D1, rfl, hW, hts1, htr1⟩
        rw [upd_lk] at this
        exact this
      refine Code.wpIn_mono ?_ (hbody F F1 g1 a1 _ e1 hS2)
      intro e a3 w3 hp
      obtain ⟨F3, g3, s3, e3, hS3, h3⟩ := hp
      have key : ∀ (b : Bool) (jump : Option Code), jump.isNone = b → Yd P cx N ops rest n x r d fr id b jump s3 → ∃ v w', (Instr.endRound l jump).run P w3 = .ok v w' ∧ wpListIn (wideAt cx.rd) 0 P ops (Post cx N F0 n x r) rest (a.put d v) w' := by
        rintro b jump hbj ⟨pa3, as3, bd3, N3, fr3, hl3, hk3⟩
        have hg3 : g3 id = some (.pointer (some ⟨l, 0, none⟩)) := hS3.keep.1 _ _ hg
        obtain ⟨fn3, tmps3, D3, hh3, hts3, htr3, hwr3⟩ := hS3.heap.loop hl3 hg3
        refine ⟨_, _, run_endRound jump hh3, ?_⟩
        have hKD3 := keepsD_loop hh3 (.loop { state := if jump.isNone then .ready else .done, pending := jump, fn := fn3, tmps := tmps3, params := pa3, assign := as3, body := bd3, defers := D3 })
        have hst : (if jump.isNone then LoopState.ready else .done) = (bif b then .ready else .done) := by rw [hbj]; cases b <;> rfl
        rw [hbj]
        rw [hbj] at hKD3
        refine hk3 F0 F3 g3 _ _ (h0.trans e3 (Nat.le_refl _)) ⟨hS.defers.kept (put_defers ..) (KeepsD.trans hS3.keepW hKD3), by rw [put_size]; exact hS.size, ?_, ?_, hS3.keep.2, Cx.upK hS.keepW (KeepsD.trans hS3.keepW hKD3)⟩
        · exact put_rep (fun t p ht => (hS.fr t p ht).mono e3.1 hS3.keep.1) hS.size (dstOK_spec hd) (.cell (.bool b)) fun t => lk_putf t
        · have := HRep.inCx cx' cx rfl rfl rfl (hwr3 (.loop { state := if b = true then .ready else .done, pending := jump, fn := fn3, tmps := tmps3, params := pa3, assign := as3, body := bd3, defers := D3 }) (.loop (bif b then .ready else .done) jump pa3 as3 bd3 N3 fr3) fun W hW => ⟨l, fn3, tmps3, D3, rfl, by rw [hW]; cases b <;> rfl, hts3, htr3⟩)
          rw [upd_lk] at this
          exact this
      cases e with
      | normal => exact key true none rfl h3
      | exit i => exact key false (some (.exit i)) rfl h3
      | ret => exact key false (some .ret) rfl h3
      | goto l => exact h3.elim
      | panic ch => exact h3.elim
      | outgrown => exact h3.elim

/-- Whether a slice is nil: known of one with cells only. -/
theorem OPS.nilq {t : Tmp} {X : Operand} {T T' e : TypeId} {len : Nat} {cs : List FV} (hu : P.underlying T = some (.slice e)) (ht : Nat.blt t N = true) (hx : ev fr X = some (.cell (.sl len cs)))
    (hk : ∀ b : Bool, (b = true → cs = []) → OPS P cx N ops rest n x r ⟨(t, .cell (.bool b)) :: fr, H, nx⟩) : OPS P cx N ops (⟨some t, .binOp .eql T X (.const (.slice none 0 0)) T', ty, ps, af, none⟩ :: rest) n x r ⟨fr, H, nx⟩ := by
  intro F0 F g a w h0 hS
  have hv := ev_rep hS.fr hx
  obtain ⟨A, m, cap, hA, hnil⟩ : ∃ A m cap, a.eval X = .slice A m cap ∧ (A.isNone = true → cs = []) := by
    have hv := hv.cell_inv
    generalize a.eval X = v at hv
    cases hv with
    | nil A n cap h => exact ⟨A, _, cap, rfl, fun _ => rfl⟩
    | sl b o n cap cells us hn hu hr => exact ⟨_, _, cap, rfl, by simp⟩
  unfold wpListIn
  rw [if_pos (by simp [Region.wanted])]
  have hrun : (execOp a.eval ⟨some t, .binOp .eql T X (.const (.slice none 0 0)) T', ty, ps, af, none⟩).run P w = .ok (.value (.bool A.isNone)) w := by
    have he : a.eval (.const (.slice none 0 0)) = .slice none 0 0 := rfl
    simp only [execOp, hA, he, eqGuard_at_slice, Sem.run_bind, Sem.run_pure, Result.andThen_ok, binOp, run_equal_slice_nil w T e A m cap hu]
  refine runs_value (K := fun v w' => v = .bool A.isNone ∧ w' = w) hrun ⟨rfl, rfl⟩ _ _ _ ?_
  rintro v w' ⟨rfl, rfl⟩
  refine hk A.isNone hnil F0 F g _ w' h0 ⟨hS.defers.kept (put_defers ..) (.refl _), by rw [put_size]; exact hS.size, ?_, hS.heap, hS.keep, hS.keepW⟩
  exact put_rep hS.fr hS.size (fun t' ht' => by injection ht' with ht'; subst ht'; simpa [Nat.blt_eq] using ht) (.cell (.bool A.isNone)) fun t' => by
    by_cases h : t = t'
    · subst h; simp [lk_cons_eq]
    · simp [lk_cons_ne _ _ h, h]
end
/-- The first rows of a list. -/
theorem fR_take {α : Type} {enc : α → List FV} {K : Nat} (hK : ∀ a, (enc a).length = K) : ∀ (l : List α) (n : Nat), (fR enc l).take (n * K) = fR enc (l.take n)
  | [], n => by simp [fR]
  | a :: l, 0 => by simp [fR]
  | a :: l, n + 1 => by
    have e : (n + 1) * K = (enc a).length + n * K := by rw [hK]; rw [Nat.succ_mul]; omega
    have h1 : fR enc (a :: l) = enc a ++ fR enc l := by simp [fR]
    have h2 : fR enc ((a :: l).take (n + 1)) = enc a ++ fR enc (l.take n) := by simp [fR]
    rw [h1, h2, e, List.take_append, List.take_of_length_le (by omega), Nat.add_sub_cancel_left, fR_take hK l n]
section
variable {P : Program} {cx : Cx} {fr : Fr} {H : Hp} {nx : Nat} {d : Option Tmp} {ty : TypeId} {ps : String} {af : Array Edge} {gd : Option (Nat × Bool)} {X Z : Operand} {T : TypeId} {α : Type} {enc : α → List FV} {rows : List α}
theorem st_slice_hR {K n len : Nat} {k' : IntKind} (ht : elemSz P T = some K) (h : ev fr X = some (.cell (.sl len (fR enc rows)))) (h2 : ev fr Z = some (.cell (.int k' (n : Int)))) (hK : ∀ a, (enc a).length = K) (hl : len = rows.length) (h4 : n ≤ len) :
    Stp P cx ⟨d, .slice T X none (some Z) none, ty, ps, af, gd⟩ fr H nx ⟨.cell (.sl (rows.take n).length (fR enc (rows.take n))), [], [], 0⟩ := by
  refine (st_slice_h ht h h2 (by rw [fR_len hK, hl]) (by omega) (by omega)).val ?_
  rw [Int.toNat_natCast, fR_take hK, List.length_take, Nat.min_eq_left (by omega)]
end
/-- A function value that captured plain data keeps its name. -/
theorem ren_fptr {ρ : List (Nat × Nat)} {f : FuncId} {cs : List (List FV)} : (some (PV.func f (cs.map PV.fptr))).bind (renP ρ) = some (.func f (cs.map PV.fptr)) := by
  have h : ∀ cs : List (List FV), ren0s ρ (cs.map PV.fptr) = some (cs.map PV.fptr) := by
    intro cs
    induction cs with
    | nil => rfl
    | cons c cs ih => simp only [List.map_cons, ren0s, ren0, ih]
  simp only [Option.bind_some, renP, h, Option.map_some]
end Go.Proofs.Gh
end
