/-
  GHOST, part 1: abstract values and what they say of memory. Plain definitions and lemmas over the model; no statement of the seat.
  GHOST, part 2: how abstract memory follows the world. Plain lemmas over the model; no statement of the seat.
  GHOST, part 3: what single operations come to, those that compute and those that read. Plain lemmas over the model; no statement of the seat.
  GHOST, part 4: operations that read, make and write memory. Plain lemmas over the model; no statement of the seat.
  GHOST, part 5: stores into arrays, new variables, composite values, slices. Plain lemmas over the model; no statement of the seat.
  GHOST, part 6: slices that are made, appended to, cut and copied; freezing. Plain lemmas over the model; no statement of the seat.
-/
import Derived.Below
import Derived.Orders
import Derived.Tactics
import Derived.Laws.OwnMore
import Derived.Laws.MakeOwn
import Derived.Laws.Entries
import Derived.OwnWalkIn
import Derived.OrdersIn
import Derived.RangeFuncLeaves
import Derived.RangeFuncRecord
import Derived.Laws.Tables
import Derived.Laws.CopyRow
import Derived.Deep.Draws
import Derived.KernelRfl
import Derived.Maps.AppendAt
section
set_option linter.unusedVariables false
set_option linter.unusedSimpArgs false
namespace Go.Proofs.Gh
open Go.RowKit

/-- A frozen value of one cell: plain data that never changes. -/
inductive FV where
  | bool (b : Bool)
  | int (k : IntKind) (n : Int)
  | str (s : ByteArray)
  | sl (n : Nat) (cells : List FV)

/-- What a slot may hold. -/
inductive PV where
  | undef
  | cell (c : FV)
  | agg (cs : List FV)
  | nilS
  | emp
  | own (id n : Nat)
  | ptr (id off : Nat)
  | fptr (cs : List FV)
  | func (f : FuncId) (caps : List PV)
  | tup (vs : List PV)
  | yield (id : Nat)

/-- What a block of the call's own holds. -/
inductive Blk where
  | dead
  | var (cells : List PV)
  | arr (e sz n : Nat) (cells : List FV)
  | fro (n : Nat) (cells : List FV)
  /-- The record of a range over a function: its state, the pending jump, what a round does, what the frame holds. -/
  | loop (st : LoopState) (pe : Option Code) (ps : Array Tmp) (assign body : Code) (N : Nat) (fr : List (Nat × PV))

abbrev FMap := Nat → Nat → Option Value
abbrev GMap := Nat → Option Value

def FMap.le (F F' : FMap) : Prop := ∀ b o v, F b o = some v → F' b o = some v
theorem FMap.le.refl (F : FMap) : F.le F := fun _ _ _ h => h
theorem FMap.le.trans {F G H : FMap} (h : F.le G) (k : G.le H) : F.le H := fun b o v e => k b o v (h b o v e)
/-- More is frozen, and in blocks from 'n' on only. -/
def FMap.ext (n : Nat) (F F' : FMap) : Prop := F.le F' ∧ ∀ b o, b < n → F' b o = F b o
theorem FMap.ext.refl (n : Nat) (F : FMap) : FMap.ext n F F := ⟨.refl F, fun _ _ _ => rfl⟩
theorem FMap.ext.trans {n m : Nat} {F G H : FMap} (h : FMap.ext n F G) (k : FMap.ext m G H) (hm : n ≤ m) : FMap.ext n F H :=
  ⟨h.1.trans k.1, fun b o hb => (k.2 b o (by omega)).trans (h.2 b o hb)⟩
def GMap.le (g g' : GMap) : Prop := ∀ i v, g i = some v → g' i = some v
theorem GMap.le.refl (g : GMap) : g.le g := fun _ _ h => h
theorem GMap.le.trans {F G H : GMap} (h : F.le G) (k : G.le H) : F.le H := fun i v e => k i v (h i v e)

inductive RepF (F : FMap) : Value → FV → Prop where
  | bool (b) : RepF F (.bool b) (.bool b)
  | int (k n) : RepF F (.int k n) (.int k n)
  | str (s) : RepF F (.string s) (.str s)
  | nil (A n cap) (h : n ≤ cap) : RepF F (.slice A n cap) (.sl n [])
  | sl (b o n cap : Nat) (cells : List FV) (us : Nat → Value) (hn : n ≤ cap) (hu : ∀ j, j < cells.length → F b (o + j) = some (us j))
      (hr : ∀ (j : Nat) (h : j < cells.length), RepF F (us j) (cells[j]'h)) : RepF F (.slice (some ⟨b, o, none⟩) n cap) (.sl n cells)

theorem RepF.mono {F F' : FMap} (hF : F.le F') {v : Value} {c : FV} (h : RepF F v c) : RepF F' v c := by
  induction h with
  | bool b => exact .bool b
  | int k n => exact .int k n
  | str s => exact .str s
  | nil A n cap h => exact .nil A n cap h
  | sl b o n cap cells us hn hu hr ih => exact .sl b o n cap cells us hn (fun j hj => hF _ _ _ (hu j hj)) ih

theorem RepF.oneCell {F : FMap} {v : Value} {c : FV} (h : RepF F v c) : v.oneCell' = true := by cases h <;> rfl
theorem RepF.cells_eq {F : FMap} {v : Value} {c : FV} (h : RepF F v c) : v.cells = #[v] := by cases h <;> rfl

/-- The block of an address or a slice. -/
def ownB : Value → Option Nat
  | .pointer (some a) => some a.block
  | .slice (some a) _ _ => some a.block
  | _ => none

inductive RepP (F B : FMap) (g : GMap) : Value → PV → Prop where
  | undef (v) : RepP F B g v .undef
  | cell {v c} (h : RepF F v c) : RepP F B g v (.cell c)
  | agg (vs : Array Value) (cs : List FV) (hl : vs.size = cs.length) (h : ∀ (j : Nat) (h : j < cs.length), RepF F (vs.getD j Go.undef) (cs[j]'h)) : RepP F B g (.agg vs) (.agg cs)
  | nilS : RepP F B g (.slice none 0 0) .nilS
  | emp (A) : RepP F B g (.slice A 0 0) .emp
  | own {id v} (n : Nat) (hg : g id = some v) (A cap) (hv : v = .slice A n cap) : RepP F B g v (.own id n)
  | ptr {id v b} (off) (hg : g id = some v) (hb : ownB v = some b) : RepP F B g (.pointer (some ⟨b, off, none⟩)) (.ptr id off)
  | fptr (b o : Nat) (cs : List FV) (us : Nat → Value) (hu : ∀ j, j < cs.length → F b (o + j) = some (us j) ∨ B b (o + j) = some (us j))
      (hr : ∀ (j : Nat) (h : j < cs.length), RepF F (us j) (cs[j]'h)) : RepP F B g (.pointer (some ⟨b, o, none⟩)) (.fptr cs)
  | func (f : FuncId) (vs : Array Value) (caps : List PV) (hl : vs.size = caps.length) (h : ∀ (j : Nat) (h : j < caps.length), RepP F B g (vs.getD j Go.undef) (caps[j]'h)) : RepP F B g (.func (.func f) #[] vs) (.func f caps)
  | yield {id v} (b) (hg : g id = some v) (hv : v = .pointer (some ⟨b, 0, none⟩)) : RepP F B g (.func (.yield b) #[] #[]) (.yield id)
  | tup (vs : Array Value) (ps : List PV) (hl : vs.size = ps.length) (h : ∀ (j : Nat) (h : j < ps.length), RepP F B g (vs.getD j Go.undef) (ps[j]'h)) : RepP F B g (.tuple vs) (.tup ps)

theorem RepP.mono {F F' B : FMap} {g g' : GMap} (hF : F.le F') (hg : g.le g') {v : Value} {p : PV} (h : RepP F B g v p) : RepP F' B g' v p := by
  induction h with
  | undef v => exact .undef v
  | cell h => exact .cell (h.mono hF)
  | agg vs cs hl h => exact .agg vs cs hl fun j hj => (h j hj).mono hF
  | nilS => exact .nilS
  | emp A => exact .emp A
  | own n h A cap hv => exact .own n (hg _ _ h) A cap hv
  | ptr off h hb => exact .ptr off (hg _ _ h) hb
  | fptr b o cs us hu hr => exact .fptr b o cs us (fun j hj => (hu j hj).imp (hF _ _ _) id) fun j hj => (hr j hj).mono hF
  | func f vs caps hl h ih => exact .func f vs caps hl ih
  | tup vs ps hl h ih => exact .tup vs ps hl ih
  | yield b h hv => exact .yield b (hg _ _ h) hv

theorem RepP.cell_inv {F B : FMap} {g : GMap} {v : Value} {c : FV} (h : RepP F B g v (.cell c)) : RepF F v c := by
  generalize hp : PV.cell c = p at h
  cases h <;> first | (injection hp with hp; subst hp; assumption) | cases hp

theorem RepP.own_inv {F B : FMap} {g : GMap} {v : Value} {id n : Nat} (h : RepP F B g v (.own id n)) : ∃ A cap, g id = some v ∧ v = .slice A n cap := by
  generalize hp : PV.own id n = p at h
  cases h <;> first | (injection hp with h1 h2; subst h1 h2; exact ⟨_, _, by assumption, by assumption⟩) | cases hp

theorem RepP.monoB {F B B' : FMap} {g : GMap} (hB : B.le B') {v : Value} {p : PV} (h : RepP F B g v p) : RepP F B' g v p := by
  induction h with
  | undef v => exact .undef v
  | cell h => exact .cell h
  | agg vs cs hl h => exact .agg vs cs hl h
  | nilS => exact .nilS
  | emp A => exact .emp A
  | own n h A cap hv => exact .own n h A cap hv
  | ptr off h hb => exact .ptr off h hb
  | fptr b o cs us hu hr => exact .fptr b o cs us (fun j hj => (hu j hj).imp id (hB _ _ _)) hr
  | func f vs caps hl h ih => exact .func f vs caps hl ih
  | tup vs ps hl h ih => exact .tup vs ps hl ih
  | yield b h hv => exact .yield b h hv

/-- Look-up in a list of pairs; the first one counts. -/
def lk {β : Type} : List (Nat × β) → Nat → Option β
  | [], _ => none
  | (k, v) :: r, t => bif Nat.beq k t then some v else lk r t

theorem lk_append {β : Type} (l r : List (Nat × β)) (t : Nat) : lk (l ++ r) t = (match lk l t with | some v => some v | none => lk r t) := by
  induction l with
  | nil => rfl
  | cons p l ih =>
    obtain ⟨k, v⟩ := p
    simp only [List.cons_append, lk]
    cases h : Nat.beq k t <;> simp [ih]

theorem lk_cons_eq {β : Type} (k : Nat) (v : β) (r : List (Nat × β)) : lk ((k, v) :: r) k = some v := by simp [lk]
theorem lk_cons_ne {β : Type} {k t : Nat} (v : β) (r : List (Nat × β)) (h : k ≠ t) : lk ((k, v) :: r) t = lk r t := by
  have : Nat.beq k t = false := by rw [← Bool.not_eq_true, Nat.beq_eq]; exact h
  simp [lk, this]

abbrev Fr := List (Nat × PV)
abbrev Hp := List (Nat × Blk)

/-- What is fixed while a call runs: memory that is borrowed, where the call's own memory begins, the world at the begin. -/
structure Cx where
  B : FMap
  base : Nat
  w0 : World
  K : GMap → Prop
  up : ∀ g g', g.le g' → K g → K g'
  /-- The round's loop; where the call's marks begin; what holds of the world all along. -/
  rd : Option Nat
  m0 : Nat
  KW : World → Prop
  upW : ∀ w w', KW w → w.heap.size ≤ w'.heap.size → (∀ b : Nat, b < m0 → w.heap[b]? = some (.deferred (some [])) → w'.heap[b]? = some (.deferred (some []))) → KW w'

/-- The old name of a new one. -/
def bk : List (Nat × Nat) → Nat → Option Nat
  | [], _ => none
  | (i, j) :: r, t => bif Nat.beq j t then some i else bk r t
def renG (ρ : List (Nat × Nat)) (g : GMap) : GMap := fun j => (bk ρ j).bind g
/-- The first k names are kept. -/
def fixes : Nat → List (Nat × Nat) → Bool
  | 0, _ => true
  | k + 1, ρ => (match bk ρ k with | some i => Nat.beq i k | none => false) && fixes k ρ
theorem fixes_get {ρ : List (Nat × Nat)} : ∀ {k : Nat}, fixes k ρ = true → ∀ i, i < k → bk ρ i = some i
  | k + 1, h, i, hi => by
    simp only [fixes, Bool.and_eq_true] at h
    by_cases he : i = k
    · subst he
      cases hb : bk ρ i with
      | none => rw [hb] at h; exact absurd h.1 (by simp)
      | some j => rw [hb] at h; rw [Nat.beq_eq] at h; rw [h.1]
    · exact fixes_get h.2 i (by omega)
/-- Names from k on may be told anew. -/
class Lo (cx : Cx) (k : outParam Nat) : Prop where
  ren : ∀ ρ g, fixes k ρ = true → cx.K g → cx.K (renG ρ g)

/-- Blocks for deferred calls stay as they lie. -/
structure KeepsD (w w' : World) : Prop where
  size : w.heap.size ≤ w'.heap.size
  at_ : ∀ b : Nat, w.heap[b]? = some (.deferred (some [])) → w'.heap[b]? = some (.deferred (some []))
theorem KeepsD.refl (w : World) : KeepsD w w := ⟨Nat.le_refl _, fun _ h => h⟩
theorem KeepsD.trans {a b c : World} (h : KeepsD a b) (k : KeepsD b c) : KeepsD a c := ⟨Nat.le_trans h.size k.size, fun i hi => k.at_ i (h.at_ i hi)⟩
theorem KeepsD.none {w w' : World} (h : w.grownBy w' .none) : KeepsD w w' := ⟨h.size, fun b hb => by
  rw [h.block b (Array.getElem?_eq_some_iff.1 hb).1 (by simp)]; exact hb⟩
theorem KeepsD.row {w w' : World} {row : Option Nat} (h : w.grownBy w' row) (hr : ∀ r, row = some r → ∃ o, w.heap[r]? = some o ∧ o ≠ .deferred (some [])) : KeepsD w w' := ⟨h.size, fun b hb => by
  refine (h.block b (Array.getElem?_eq_some_iff.1 hb).1 fun e => ?_).trans hb
  obtain ⟨o, h1, h2⟩ := hr b e.symm
  rw [hb] at h1
  injection h1 with h1
  exact h2 h1.symm⟩
theorem KeepsD.alloc (w : World) (o : Obj) : KeepsD w (w.alloc o) := ⟨by simp, fun b hb => by
  have hlt := (Array.getElem?_eq_some_iff.1 hb).1
  show (w.heap.push o)[b]? = _
  rw [Array.getElem?_push_lt hlt]
  rw [← hb, Array.getElem?_eq_getElem hlt]⟩

/-- The marks among a call's deferred calls. -/
def MarksOK (cx : Cx) (a : Act) (w : World) : Prop :=
  cx.m0 ≤ w.heap.size ∧ ∃ dl : List Nat, a.defers = dl.map (fun D => { target := .collected D, args := #[] }) ∧ dl.Nodup ∧ ∀ D ∈ dl, cx.m0 ≤ D ∧ cx.base ≤ D ∧ w.heap[D]? = some (.deferred (some []))
theorem MarksOK.nil (cx : Cx) (w : World) {a : Act} (hm : cx.m0 ≤ w.heap.size) (h : a.defers = []) : MarksOK cx a w := ⟨hm, [], h, .nil, fun D h => absurd h (by simp)⟩
theorem MarksOK.kept {cx : Cx} {a a' : Act} {w w' : World} (h : MarksOK cx a w) (ha : a'.defers = a.defers) (hw : KeepsD w w') : MarksOK cx a' w' := by
  obtain ⟨h0, dl, h1, h2, h3⟩ := h
  exact ⟨Nat.le_trans h0 hw.size, dl, ha.trans h1, h2, fun D hD => ⟨(h3 D hD).1, (h3 D hD).2.1, hw.at_ D (h3 D hD).2.2⟩⟩
theorem Cx.upK {cx : Cx} {w w' : World} (h : cx.KW w) (hw : KeepsD w w') : cx.KW w' := cx.upW w w' h hw.size fun b _ hb => hw.at_ b hb
theorem fixes_le {ρ : List (Nat × Nat)} {k : Nat} : ∀ {m : Nat}, fixes m ρ = true → k ≤ m → fixes k ρ = true
  | 0, _, hk => by have : k = 0 := by omega
                   subst this; rfl
  | m + 1, h, hk => by
    by_cases he : k = m + 1
    · subst he; exact h
    · simp only [fixes, Bool.and_eq_true] at h
      exact fixes_le h.2 (by omega)
/-- The names from which on a walk may tell blocks anew. -/
abbrev loOf (cx : Cx) {k : Nat} [Lo cx k] : Nat := k

def Blk.mut : Blk → Bool
  | .var _ | .arr .. | .loop .. => true
  | _ => false

def BRep (F B : FMap) (g : GMap) (base : Nat) (w : World) (v : Value) : Blk → Prop
  | .dead => True
  | .var cells => ∃ b c e, v = .pointer (some ⟨b, 0, none⟩) ∧ w.heap[b]? = some (.cells c e (0, 0)) ∧ c.size = cells.length ∧ ∀ (j : Nat) (h : j < cells.length), RepP F B g (c.getD j Go.undef) (cells[j]'h)
  | .arr e sz n cells => ∃ xs : List Value, w.ownsRow base e sz v n xs ∧ xs.length = cells.length ∧ ∀ (j : Nat) (h : j < cells.length), RepF F (xs.getD j Go.undef) (cells[j]'h)
  | .fro n cells => RepF F v (.sl n cells)
  | .loop st pe ps as bd N fr => ∃ b fn tmps D, v = .pointer (some ⟨b, 0, none⟩) ∧ w.heap[b]? = some (.loop { state := st, pending := pe, fn := fn, tmps := tmps, params := ps, assign := as, body := bd, defers := D }) ∧ tmps.size = N ∧
      ∀ t p, lk fr t = some p → RepP F B g (tmps.getD t Go.undef) p

structure HRep (cx : Cx) (F : FMap) (g : GMap) (H : Nat → Option Blk) (D : Nat → Prop) (w : World) : Prop where
  agree : ∀ b o v, F b o = some v → w.cell? ⟨b, o, none⟩ = some v
  agreeB : ∀ b o v, cx.B b o = some v → w.cell? ⟨b, o, none⟩ = some v
  below : Below cx.base cx.w0 w
  le : cx.base ≤ w.heap.size
  dom : ∀ i v, g i = some v → D i
  blk : ∀ i k, H i = some k → ∃ v, g i = some v ∧ BRep F cx.B g cx.base w v k
  own : ∀ i k v b, H i = some k → k.mut = true → g i = some v → ownB v = some b → cx.base ≤ b ∧ (∀ o, F b o = none) ∧ (∀ o, cx.B b o = none)
  inj : ∀ i j k l v u b, H i = some k → H j = some l → k.mut = true → l.mut = true → g i = some v → g j = some u → ownB v = some b → ownB u = some b → i = j

/-! ### Values of operands -/
def cellOf : Value → Option FV
  | .bool b => some (.bool b)
  | .int k n => some (.int k n)
  | .string s => some (.str s)
  | .slice none 0 0 => some (.sl 0 [])
  | _ => none
def constOf : Value → Option PV
  | .slice none 0 0 => some .nilS
  | .nilFunc => some .undef
  | .agg cs => (cs.toList.mapM cellOf).map .agg
  | v => (cellOf v).map .cell

theorem cellOf_rep {F : FMap} {v : Value} {c : FV} (h : cellOf v = some c) : RepF F v c := by
  unfold cellOf at h
  split at h <;> first | (injection h with h; subst h; first | exact .bool _ | exact .int _ _ | exact .str _ | exact .nil _ _ _ (Nat.le_refl _)) | cases h

theorem mapM_cellOf {F : FMap} : ∀ {l : List Value} {cs : List FV}, l.mapM cellOf = some cs → l.length = cs.length ∧ ∀ (j : Nat) (h : j < cs.length), RepF F (l.getD j Go.undef) (cs[j]'h)
  | [], cs, h => by
    simp at h
    subst h
    exact ⟨rfl, fun j h => absurd h (by simp)⟩
  | v :: l, cs, h => by
    simp only [List.mapM_cons, Option.bind_eq_bind, Option.bind_eq_some_iff] at h
    obtain ⟨c, hc, cs', hcs, h⟩ := h
    have h : c :: cs' = cs := by simpa using h
    subst h
    obtain ⟨h1, h2⟩ := mapM_cellOf (F := F) hcs
    refine ⟨by simp [h1], fun j hj => ?_⟩
    cases j with
    | zero => simpa using cellOf_rep hc
    | succ j => simpa using h2 j (by simpa using hj)

theorem constOf_rep {F B : FMap} {g : GMap} {v : Value} {p : PV} (h : constOf v = some p) : RepP F B g v p := by
  unfold constOf at h
  split at h
  · injection h with h; subst h; exact .nilS
  · injection h with h; subst h; exact .undef _
  · rename_i cs
    obtain ⟨l, hl, h⟩ := Option.map_eq_some_iff.1 h
    subst h
    obtain ⟨h1, h2⟩ := mapM_cellOf (F := F) hl
    refine .agg _ _ (by simpa using h1) fun j hj => ?_
    have := h2 j hj
    simpa [List.getD_eq_getElem?_getD] using this
  · obtain ⟨c, hc, h⟩ := Option.map_eq_some_iff.1 h
    subst h
    exact .cell (cellOf_rep hc)

/-- What an operand holds. -/
def ev (fr : Fr) : Operand → Option PV
  | .tmp t => lk fr t
  | .const v => constOf v
  | .func f => some (.func f [])
  | .global _ => none

structure St where
  fr : Fr
  H : Hp
  nx : Nat

def FRep (F B : FMap) (g : GMap) (fr : Fr) (a : Act) : Prop := ∀ t v, lk fr t = some v → RepP F B g (a.tmps.getD t Go.undef) v

theorem ev_rep {F B : FMap} {g : GMap} {fr : Fr} {a : Act} (h : FRep F B g fr a) {x : Operand} {p : PV} (hx : ev fr x = some p) : RepP F B g (a.eval x) p := by
  cases x with
  | tmp t => exact h t p hx
  | const v => exact constOf_rep hx
  | func f =>
    injection hx with hx
    subst hx
    exact .func f #[] [] rfl fun j h => absurd h (by simp)
  | global g => cases hx

structure SRep (cx : Cx) (N : Nat) (F : FMap) (g : GMap) (s : St) (a : Act) (w : World) : Prop where
  defers : MarksOK cx a w
  size : a.tmps.size = N
  fr : FRep F cx.B g s.fr a
  heap : HRep cx F g (lk s.H) (· < s.nx) w
  keep : cx.K g
  keepW : cx.KW w

/-! ### One operation -/
structure Eff where
  val : PV
  rd : List (Nat × Blk) := []
  wr : List (Nat × Blk) := []
  nn : Nat := 0

/-- The first where it has something, else the second. -/
def over {β : Type} : Option β → Option β → Option β
  | some v, _ => some v
  | none, f => f
@[simp] theorem over_some {β : Type} (v : β) (f : Option β) : over (some v) f = some v := rfl
@[simp] theorem over_none {β : Type} (f : Option β) : over none f = f := rfl
def upd (H : Nat → Option Blk) (wr : List (Nat × Blk)) : Nat → Option Blk := fun i => over (lk wr i) (H i)
theorem upd_lk (H : Hp) (wr : List (Nat × Blk)) : upd (lk H) wr = lk (wr ++ H) := by
  funext i
  rw [lk_append]
  unfold upd
  cases lk wr i <;> rfl
theorem upd_nil (H : Nat → Option Blk) : upd H [] = H := rfl

/-- The fence that lets everything in, in a round of the loop 'rd' or in none. -/
abbrev wideAt (rd : Option Nat) : Fence := { fn := fun _ => True, depth := none, alive := false, round := rd }
theorem wideAt_calls {P : Program} {rd : Option Nat} {f : FuncId} {args : Array Value} {w : World} {R : Ending → World → Prop} (h : Calls P f args w R) : CallsIn (wideAt rd) 0 P f args w R := (callsIn_wide (n := 0)).2 h
def OpRuns (P : Program) (o : Oper) (a : Act) (w : World) (K : Value → World → Prop) : Prop :=
  ∀ (rd : Option Nat) (next : Act → World → Prop) (Q : Exit → Act → World → Prop), (∀ v w', K v w' → next (a.put o.dst v) w') → o.wpIn (wideAt rd) 0 P a w next Q

/-- The operands hold this. -/
def RepAll (F B : FMap) (g : GMap) (a : Act) : List (Operand × PV) → Prop
  | [] => True
  | u :: r => RepP F B g (a.eval u.1) u.2 ∧ RepAll F B g a r
/-- The blocks that are read hold this. -/
def RdAll (H : Nat → Option Blk) : List (Nat × Blk) → Prop
  | [] => True
  | p :: r => H p.1 = some p.2 ∧ RdAll H r

/-- The operation comes to this, whatever else there is. -/
def OpOK (P : Program) (cx : Cx) (o : Oper) (us : List (Operand × PV)) (nx : Nat) (e : Eff) : Prop :=
  ∀ (F : FMap) (g : GMap) (H : Nat → Option Blk) (D : Nat → Prop) (a : Act) (w : World), HRep cx F g H D w →
    RepAll F cx.B g a us → RdAll H e.rd → (∀ i, i < e.nn → ¬ D (nx + i)) →
    OpRuns P o a w fun v w' => ∃ F' g', FMap.ext cx.base F F' ∧ g.le g' ∧ HRep cx F' g' (upd H e.wr) (fun i => D i ∨ (nx ≤ i ∧ i < nx + e.nn)) w' ∧ RepP F' cx.B g' v e.val ∧ KeepsD w w'

theorem semAt_of {P : Program} {o : Oper} {rd : Option Nat} {a : Act} {w w' : World} {x : Next} (hr : (execOp a.eval o).run P w = .ok x w') (hx : ∀ d, x ≠ .defer d) : o.semAt rd a.eval = execOp a.eval o := by
  refine Oper.semAt_eq rd _ _ fun c hc => ?_
  simp only [execOp, hc, Sem.run_bind] at hr
  cases hq : (resolve a.eval c o.type).run P w with
  | ok d w1 => rw [hq] at hr; simp [Result.andThen] at hr; exact hx d hr.1.symm
  | halt h w1 => rw [hq] at hr; simp [Result.andThen] at hr

theorem runs_value {P : Program} {o : Oper} {a : Act} {w w' : World} {v : Value} {K : Value → World → Prop} (hr : (execOp a.eval o).run P w = .ok (.value v) w') (h : K v w') : OpRuns P o a w K :=
  fun rd next Q hn => by
    unfold Oper.wpIn
    rw [semAt_of hr (by simp), hr]
    exact ⟨fun _ _ => trivial, hn _ _ h⟩

theorem runs_skip {P : Program} {o : Oper} {a : Act} {w w' : World} {K : Value → World → Prop} (hr : (execOp a.eval o).run P w = .ok .skip w') (h : K Go.undef w') : OpRuns P o a w K :=
  fun rd next Q hn => by
    unfold Oper.wpIn
    rw [semAt_of hr (by simp), hr]
    exact ⟨fun _ _ => trivial, hn _ _ h⟩

/-- An operation that computes a value and leaves the world alone. -/
theorem OpOK.pure {P : Program} {cx : Cx} {o : Oper} {us : List (Operand × PV)} {nx : Nat} {p : PV} {rd : List (Nat × Blk)}
    (h : ∀ (F : FMap) (g : GMap) (H : Nat → Option Blk) (D : Nat → Prop) (a : Act) (w : World), HRep cx F g H D w → RepAll F cx.B g a us → RdAll H rd →
      ∃ v, (execOp a.eval o).run P w = .ok (.value v) w ∧ RepP F cx.B g v p) : OpOK P cx o us nx ⟨p, rd, [], 0⟩ := by
  intro F g H D a w hH hu hrd _
  obtain ⟨v, hr, hv⟩ := h F g H D a w hH hu hrd
  refine runs_value hr ⟨F, g, .refl _ _, .refl _, ?_, hv, .refl _⟩
  refine ⟨hH.agree, hH.agreeB, hH.below, hH.le, fun i v h => .inl (hH.dom i v h), hH.blk, hH.own, hH.inj⟩

end Go.Proofs.Gh
end
section
set_option linter.unusedVariables false
set_option linter.unusedSimpArgs false
namespace Go.Proofs.Gh
open Go.RowKit

theorem own_lt_size {F B : FMap} {g : GMap} {base : Nat} {w : World} {v : Value} {k : Blk} (h : BRep F B g base w v k) (hm : k.mut = true) {b : Nat} (hb : ownB v = some b) : b < w.heap.size := by
  cases k with
  | dead => cases hm
  | fro n cells => cases hm
  | var cells =>
    obtain ⟨b', c, e, rfl, hh, _⟩ := h
    injection hb with hb
    subst hb
    exact (Array.getElem?_eq_some_iff.1 hh).1
  | arr e sz n cells =>
    obtain ⟨xs, ⟨_, h | ⟨g', cap, cur, rfl, _, hh, _⟩⟩, _⟩ := h
    · rw [h.1] at hb; cases hb
    · injection hb with hb
      subst hb
      exact (Array.getElem?_eq_some_iff.1 hh).1
  | loop st pe ps as bd N fr =>
    obtain ⟨b', fn, tmps, D, rfl, hh, _⟩ := h
    injection hb with hb
    subst hb
    exact (Array.getElem?_eq_some_iff.1 hh).1

theorem BRep.kept {F F' B : FMap} {g g' : GMap} {base : Nat} {w w' : World} {v : Value} {k : Blk} {row : Option Nat} (h : BRep F B g base w v k) (hgr : w.grownBy w' row)
    (hne : k.mut = true → ∀ b, ownB v = some b → row ≠ some b) (hF : F.le F') (hg : g.le g') : BRep F' B g' base w' v k := by
  cases k with
  | dead => trivial
  | fro n cells => exact RepF.mono hF h
  | var cells =>
    obtain ⟨b, c, e, rfl, hh, hl, hr⟩ := h
    have hlt : b < w.heap.size := (Array.getElem?_eq_some_iff.1 hh).1
    exact ⟨b, c, e, rfl, by rw [hgr.block b hlt (fun e => hne rfl b rfl e.symm)]; exact hh, hl, fun j hj => (hr j hj).mono hF hg⟩
  | loop st pe ps as bd N fr =>
    obtain ⟨b, fn, tmps, D, rfl, hh, hl, hr⟩ := h
    have hlt : b < w.heap.size := (Array.getElem?_eq_some_iff.1 hh).1
    exact ⟨b, fn, tmps, D, rfl, by rw [hgr.block b hlt (fun e => hne rfl b rfl e.symm)]; exact hh, hl, fun t p ht => (hr t p ht).mono hF hg⟩
  | arr e sz n cells =>
    obtain ⟨xs, ho, hl, hr⟩ := h
    refine ⟨xs, ho.kept hgr ?_, hl, fun j hj => (hr j hj).mono hF⟩
    cases hb : v.ownBlock with
    | none => exact .inl rfl
    | some b =>
      right
      have : ownB v = some b := by
        unfold Value.ownBlock at hb
        split at hb
        · exact hb
        · cases hb
      exact fun e => hne rfl b this e.symm

/-- One block of the call's own is made or written; the others stay as they are, or are dropped. -/
theorem HRep.next {cx : Cx} {F : FMap} {g : GMap} {H : Nat → Option Blk} {D : Nat → Prop} {w : World} (h : HRep cx F g H D w) {w' : World} {F' : FMap} {g' : GMap} {H' : Nat → Option Blk} {D' : Nat → Prop}
    (row : Option Nat) (i : Nat) (k' : Blk) (v' : Value)
    (hgr : w.grownBy w' row) (hrow : ∀ b, row = some b → cx.base ≤ b ∧ (∀ o, F b o = none) ∧ ∀ o, cx.B b o = none)
    (hF : FMap.ext cx.base F F') (hFn : ∀ b o v, F' b o = some v → F b o = some v ∨ w'.cell? ⟨b, o, none⟩ = some v)
    (hg : g.le g') (hD : ∀ j v, g' j = some v → D' j)
    (hHi : H' i = some k') (hgi : g' i = some v') (hBi : BRep F' cx.B g' cx.base w' v' k')
    (hoth : ∀ j k, j ≠ i → H' j = some k → (k = .dead ∧ ∃ v, g j = some v) ∨ (H j = some k ∧ ∀ v b, k.mut = true → g j = some v → ownB v = some b → row ≠ some b ∧ ∀ o, F' b o = none))
    (hown : k'.mut = true → ∀ b, ownB v' = some b → cx.base ≤ b ∧ (∀ o, F' b o = none) ∧ (∀ o, cx.B b o = none) ∧
      (w.heap.size ≤ b ∨ ∀ j k u, j ≠ i → H' j = some k → k.mut = true → g j = some u → ownB u ≠ some b)) : HRep cx F' g' H' D' w' := by
  have hcell : ∀ b o v, w.cell? ⟨b, o, none⟩ = some v → row ≠ some b → w'.cell? ⟨b, o, none⟩ = some v := fun b o v hc hne => hgr.cell hc fun e => hne e.symm
  have hold : ∀ j k, j ≠ i → H' j = some k → k.mut = true → H j = some k := fun j k hj hk hm => by
    rcases hoth j k hj hk with ⟨rfl, _⟩ | ⟨hk, _⟩
    · cases hm
    · exact hk
  have hval : ∀ j k v, j ≠ i → H' j = some k → k.mut = true → g' j = some v → g j = some v := fun j k v hj hk hm hv => by
    obtain ⟨u, hu, _⟩ := h.blk j k (hold j k hj hk hm)
    have := hg j u hu
    rw [hv] at this
    injection this with this
    rw [this]
    exact hu
  have hlt : ∀ j k v b, j ≠ i → H' j = some k → k.mut = true → g' j = some v → ownB v = some b → b < w.heap.size := fun j k v b hj hk hm hv hb => by
    obtain ⟨u, hu, hB⟩ := h.blk j k (hold j k hj hk hm)
    have := hval j k v hj hk hm hv
    rw [this] at hu
    injection hu with hu
    subst hu
    exact own_lt_size hB hm hb
  constructor
  · intro b o v hv
    rcases hFn b o v hv with hv | hv
    · refine hcell b o v (h.agree b o v hv) fun e => ?_
      have := (hrow b e).2.1 o
      rw [hv] at this
      cases this
    · exact hv
  · intro b o v hv
    refine hcell b o v (h.agreeB b o v hv) fun e => ?_
    have := (hrow b e).2.2 o
    rw [hv] at this
    cases this
  · exact h.below.grown hgr h.le fun b hb => (hrow b hb).1
  · exact Nat.le_trans h.le hgr.size
  · exact hD
  · intro j k hk
    by_cases hj : j = i
    · subst hj
      rw [hHi] at hk
      injection hk with hk
      subst hk
      exact ⟨v', hgi, hBi⟩
    · rcases hoth j k hj hk with ⟨rfl, v, hv⟩ | ⟨hk', hne⟩
      · exact ⟨v, hg _ _ hv, trivial⟩
      · obtain ⟨v, hv, hB⟩ := h.blk j k hk'
        exact ⟨v, hg _ _ hv, hB.kept hgr (fun hm b hb => (hne v b hm hv hb).1) hF.1 hg⟩
  · intro j k v b hk hm hv hb
    by_cases hj : j = i
    · subst hj
      rw [hHi] at hk
      injection hk with hk
      subst hk
      rw [hgi] at hv
      injection hv with hv
      subst hv
      have := hown hm b hb
      exact ⟨this.1, this.2.1, this.2.2.1⟩
    · have hv' := hval j k v hj hk hm hv
      have h0 := h.own j k v b (hold j k hj hk hm) hm hv' hb
      rcases hoth j k hj hk with ⟨rfl, _⟩ | ⟨hk', hne⟩
      · cases hm
      · exact ⟨h0.1, (hne v b hm hv' hb).2, h0.2.2⟩
  · intro p q k l v u b hk hl hmk hml hv hu hb hb'
    by_cases hp : p = i
    · by_cases hq : q = i
      · rw [hp, hq]
      · exfalso
        subst hp
        rw [hHi] at hk
        injection hk with hk
        subst hk
        rw [hgi] at hv
        injection hv with hv
        subst hv
        rcases (hown hmk b hb).2.2.2 with h1 | h1
        · have := hlt q l u b hq hl hml hu hb'
          omega
        · exact h1 q l u hq hl hml (hval q l u hq hl hml hu) hb'
    · by_cases hq : q = i
      · exfalso
        subst hq
        rw [hHi] at hl
        injection hl with hl
        subst hl
        rw [hgi] at hu
        injection hu with hu
        subst hu
        rcases (hown hml b hb').2.2.2 with h1 | h1
        · have := hlt p k v b hp hk hmk hv hb
          omega
        · exact h1 p k v hp hk hmk (hval p k v hp hk hmk hv) hb
      · exact h.inj p q k l v u b (hold p k hp hk hmk) (hold q l hq hl hml) hmk hml (hval p k v hp hk hmk hv) (hval q l u hq hl hml hu) hb hb'

/-- Nothing of what the call owns is touched; more may be frozen, in new blocks. -/
theorem HRep.same {cx : Cx} {F : FMap} {g : GMap} {H : Nat → Option Blk} {D : Nat → Prop} {w : World} (h : HRep cx F g H D w) {w' : World} {F' : FMap} {D' : Nat → Prop}
    (hgr : w.grownBy w' none) (hF : FMap.ext w.heap.size F F') (ha : ∀ b o v, F' b o = some v → w'.cell? ⟨b, o, none⟩ = some v) (hD : ∀ j, D j → D' j) : HRep cx F' g H D' w' := by
  constructor
  · exact ha
  · exact fun b o v hv => hgr.cell (h.agreeB b o v hv) (by simp)
  · exact h.below.grown hgr h.le (by simp)
  · exact Nat.le_trans h.le hgr.size
  · exact fun j v hv => hD j (h.dom j v hv)
  · intro j k hk
    obtain ⟨v, hv, hB⟩ := h.blk j k hk
    exact ⟨v, hv, hB.kept hgr (by simp) hF.1 (.refl g)⟩
  · intro j k v b hk hm hv hb
    obtain ⟨u, hu, hB⟩ := h.blk j k hk
    rw [hu] at hv
    injection hv with hv
    subst hv
    have hlt := own_lt_size hB hm hb
    have := h.own j k u b hk hm hu hb
    exact ⟨this.1, fun o => (hF.2 b o hlt).trans (this.2.1 o), this.2.2⟩
  · exact h.inj

theorem grownBy_drawn (w : World) (n : Nat) (row : Option Nat) : w.grownBy { w with drawn := n } row := ⟨rfl, rfl, rfl, Nat.le_refl _, fun _ _ _ => rfl⟩

theorem HRep.drawn {cx : Cx} {F : FMap} {g : GMap} {H : Nat → Option Blk} {D : Nat → Prop} {w : World} (h : HRep cx F g H D w) (n : Nat) : HRep cx F g H D { w with drawn := n } :=
  h.same (grownBy_drawn w n none) (.refl _ _) h.agree fun _ hj => hj

def GMap.set (g : GMap) (i : Nat) (v : Value) : GMap := fun j => if j = i then some v else g j
theorem GMap.le_set {g : GMap} {D : Nat → Prop} (hd : ∀ j v, g j = some v → D j) {i : Nat} (hi : ¬ D i) (v : Value) : g.le (g.set i v) := fun j u hu => by
  unfold GMap.set
  by_cases hj : j = i
  · subst hj
    exact absurd (hd j u hu) hi
  · rw [if_neg hj]; exact hu

theorem upd_one (H : Nat → Option Blk) (i : Nat) (k : Blk) (j : Nat) : upd H [(i, k)] j = if j = i then some k else H j := by
  unfold upd
  by_cases h : j = i
  · subst h
    simp [lk]
  · have : Nat.beq i j = false := by rw [← Bool.not_eq_true, Nat.beq_eq]; exact Ne.symm h
    simp [lk, this, h]
theorem upd_two (H : Nat → Option Blk) (i d : Nat) (k l : Blk) (j : Nat) : upd H [(i, k), (d, l)] j = if j = i then some k else if j = d then some l else H j := by
  unfold upd
  by_cases h : j = i
  · subst h
    simp [lk]
  · have : Nat.beq i j = false := by rw [← Bool.not_eq_true, Nat.beq_eq]; exact Ne.symm h
    by_cases h2 : j = d
    · subst h2
      simp [lk, this, h]
    · have h3 : Nat.beq d j = false := by rw [← Bool.not_eq_true, Nat.beq_eq]; exact Ne.symm h2
      simp [lk, this, h, h3, h2]

theorem grownBy_new (w : World) (o : Obj) (row : Option Nat) : w.grownBy (w.alloc o) row := World.grownBy_alloc w o row
theorem alloc_at (w : World) (o : Obj) : (w.alloc o).heap[w.heap.size]? = some o := by
  show (w.heap.push o)[w.heap.size]? = some o
  simp

theorem F_new {cx : Cx} {F : FMap} {g : GMap} {H : Nat → Option Blk} {D : Nat → Prop} {w : World} (h : HRep cx F g H D w) {b : Nat} (hb : w.heap.size ≤ b) : (∀ o, F b o = none) ∧ ∀ o, cx.B b o = none := by
  have key : ∀ (M : FMap), (∀ b o v, M b o = some v → w.cell? ⟨b, o, none⟩ = some v) → ∀ o, M b o = none := fun M hM o => by
    cases hm : M b o with
    | none => rfl
    | some v =>
      have := hM b o v hm
      simp [World.cell?, Array.getElem?_eq_none hb] at this
  exact ⟨key F h.agree, key cx.B h.agreeB⟩

/-- A new block, a variable or an array. -/
theorem HRep.alloc {cx : Cx} {F : FMap} {g : GMap} {H : Nat → Option Blk} {D : Nat → Prop} {w : World} (h : HRep cx F g H D w) {i : Nat} (hi : ¬ D i) (o : Obj) (k : Blk) (v : Value) {D' : Nat → Prop}
    (hD : ∀ j, D j ∨ j = i → D' j) (hv : ownB v = some w.heap.size) (hB : ∀ g' : GMap, g.le g' → BRep F cx.B g' cx.base (w.alloc o) v k) :
    g.le (g.set i v) ∧ HRep cx F (g.set i v) (upd H [(i, k)]) D' (w.alloc o) := by
  have hle := GMap.le_set h.dom hi v
  refine ⟨hle, h.next (F' := F) none i k v (grownBy_new w o none) (by simp) (.refl _ _) (fun b o v hv => .inl hv) hle ?_ (by simp [upd_one]) (by simp [GMap.set]) (hB _ hle) ?_ ?_⟩
  · intro j u hu
    unfold GMap.set at hu
    by_cases hj : j = i
    · exact hD j (.inr hj)
    · rw [if_neg hj] at hu; exact hD j (.inl (h.dom j u hu))
  · intro j l hj hl
    rw [upd_one, if_neg hj] at hl
    exact .inr ⟨hl, fun u b hm hu hb => ⟨by simp, (h.own j l u b hl hm hu hb).2.1⟩⟩
  · intro _ b hb
    rw [hv] at hb
    injection hb with hb
    subst hb
    have := F_new h (Nat.le_refl _)
    exact ⟨h.le, this.1, this.2, .inl (Nat.le_refl _)⟩

theorem getD_setRow_cells (c : Array Value) (new : List Value) (off : Nat) (hfit : off + new.length ≤ c.size) (j : Nat) :
    (c.toList.take off ++ new ++ c.toList.drop (off + new.length)).toArray.getD j Go.undef = if j < off then c.getD j Go.undef else if j < off + new.length then new.getD (j - off) Go.undef else c.getD j Go.undef := by
  simp only [Array.getD_eq_getD_getElem?, List.getElem?_toArray, List.getD_eq_getElem?_getD, List.append_assoc]
  by_cases h1 : j < off
  · rw [if_pos h1, List.getElem?_append_left (by simp; omega), List.getElem?_take_of_lt h1]
    simp
  · rw [if_neg h1, List.getElem?_append_right (by simp; omega)]
    simp only [List.length_take, Array.length_toList]
    rw [Nat.min_eq_left (by omega)]
    by_cases h2 : j < off + new.length
    · rw [if_pos h2, List.getElem?_append_left (by omega)]
    · rw [if_neg h2, List.getElem?_append_right (by omega), List.getElem?_drop]
      simp only [Array.getElem?_toList]
      congr 2
      omega

/-- Cells of a list are replaced from an offset on. -/
def splice {α : Type} (l : List α) (off : Nat) (new : List α) : List α := l.take off ++ new ++ l.drop (off + new.length)
theorem splice_length {α : Type} (l : List α) (off : Nat) (new : List α) (h : off + new.length ≤ l.length) : (splice l off new).length = l.length := by
  simp only [splice, List.length_append, List.length_take, List.length_drop]
  omega
theorem splice_get {α : Type} (l : List α) (off : Nat) (new : List α) (h : off + new.length ≤ l.length) (j : Nat) (hj : j < (splice l off new).length) :
    (splice l off new)[j] = if h1 : j < off then l[j]'(by rw [splice_length l off new h] at hj; exact hj) else if h2 : j < off + new.length then new[j - off]'(by omega) else l[j]'(by rw [splice_length l off new h] at hj; exact hj) := by
  have hj' : j < l.length := by rw [splice_length l off new h] at hj; exact hj
  simp only [splice, List.append_assoc]
  by_cases h1 : j < off
  · rw [dif_pos h1, List.getElem_append_left (by simp; omega)]
    simp
  · rw [dif_neg h1, List.getElem_append_right (by simp; omega)]
    simp only [List.length_take]
    by_cases h2 : j < off + new.length
    · rw [dif_pos h2, List.getElem_append_left (by omega)]
      congr 1
      omega
    · rw [dif_neg h2, List.getElem_append_right (by omega), List.getElem_drop]
      congr 1
      omega

end Go.Proofs.Gh
end
section
set_option linter.unusedVariables false
set_option linter.unusedSimpArgs false
namespace Go.Proofs.Gh
open Go.RowKit

section
variable {P : Program} {cx : Cx} {d : Option Tmp} {ty : TypeId} {ps : String} {af : Array Edge} {gd : Option (Nat × Bool)} {nx : Nat}

theorem rep_int {F B : FMap} {g : GMap} {v : Value} {k : IntKind} {n : Int} (h : RepP F B g v (.cell (.int k n))) : v = .int k n := by
  cases h with | cell h => cases h; rfl
theorem rep_bool {F B : FMap} {g : GMap} {v : Value} {b : Bool} (h : RepP F B g v (.cell (.bool b))) : v = .bool b := by
  cases h with | cell h => cases h; rfl
theorem rep_str {F B : FMap} {g : GMap} {v : Value} {s : ByteArray} (h : RepP F B g v (.cell (.str s))) : v = .string s := by
  cases h with | cell h => cases h; rfl

theorem beq_dec (m n : Int) : (m == n) = decide (m = n) := by
  rw [Bool.eq_iff_iff]
  simp

theorem ok_move {x : Operand} {p : PV} : OpOK P cx ⟨d, .move x, ty, ps, af, gd⟩ [(x, p)] nx ⟨p, [], [], 0⟩ :=
  OpOK.pure fun F g H D a w _ hu _ => ⟨a.eval x, rfl, hu.1⟩
theorem ok_assign {x : Operand} {p : PV} : OpOK P cx ⟨d, .assign x, ty, ps, af, gd⟩ [(x, p)] nx ⟨p, [], [], 0⟩ :=
  OpOK.pure fun F g H D a w _ hu _ => ⟨a.eval x, rfl, hu.1⟩

theorem ok_pick_t {c x y : Operand} {p : PV} : OpOK P cx ⟨d, .pick c x y, ty, ps, af, gd⟩ [(c, .cell (.bool true)), (x, p)] nx ⟨p, [], [], 0⟩ :=
  OpOK.pure fun F g H D a w _ hu _ => ⟨a.eval x, by
    have h := rep_bool hu.1
    simp only at h
    simp [execOp, h, asBool], hu.2.1⟩
theorem ok_pick_f {c x y : Operand} {p : PV} : OpOK P cx ⟨d, .pick c x y, ty, ps, af, gd⟩ [(c, .cell (.bool false)), (y, p)] nx ⟨p, [], [], 0⟩ :=
  OpOK.pure fun F g H D a w _ hu _ => ⟨a.eval y, by
    have h := rep_bool hu.1
    simp only at h
    simp [execOp, h, asBool], hu.2.1⟩
theorem ok_pick_b {c x y : Operand} {t b1 b2 : Bool} : OpOK P cx ⟨d, .pick c x y, ty, ps, af, gd⟩ [(c, .cell (.bool t)), (x, .cell (.bool b1)), (y, .cell (.bool b2))] nx ⟨.cell (.bool (bif t then b1 else b2)), [], [], 0⟩ :=
  OpOK.pure fun F g H D a w _ hu _ => ⟨.bool (bif t then b1 else b2), by
    have h := rep_bool hu.1
    have h1 := rep_bool hu.2.1
    have h2 := rep_bool hu.2.2.1
    simp only at h h1 h2
    cases t <;> simp [execOp, h, h1, h2, asBool], .cell (.bool _)⟩

theorem ok_neg {x : Operand} {t : TypeId} {k : IntKind} {n : Int} : OpOK P cx ⟨d, .unOp .neg t x, ty, ps, af, gd⟩ [(x, .cell (.int k n))] nx ⟨.cell (.int k (k.wrap (0 - n))), [], [], 0⟩ :=
  OpOK.pure fun F g H D a w _ hu _ => ⟨.int k (k.wrap (0 - n)), by
    have h := rep_int hu.1
    simp only at h
    simp [execOp, h, Op.unary, Op.intArith], .cell (.int _ _)⟩
theorem ok_not {x : Operand} {t : TypeId} {b : Bool} : OpOK P cx ⟨d, .unOp .not t x, ty, ps, af, gd⟩ [(x, .cell (.bool b))] nx ⟨.cell (.bool (!b)), [], [], 0⟩ :=
  OpOK.pure fun F g H D a w _ hu _ => ⟨.bool (!b), by
    have h := rep_bool hu.1
    simp only at h
    simp [execOp, h, Op.unary], .cell (.bool _)⟩
/-- The bits of two numbers, joined. -/
def bitsOf (op : BinOp) (k : IntKind) (x y : Int) : Int :=
  match op with
  | .and => k.wrap (BitVec.ofInt k.bits x &&& BitVec.ofInt k.bits y).toNat
  | .or => k.wrap (BitVec.ofInt k.bits x ||| BitVec.ofInt k.bits y).toNat
  | .xor => k.wrap (BitVec.ofInt k.bits x ^^^ BitVec.ofInt k.bits y).toNat
  | _ => k.wrap (BitVec.ofInt k.bits x &&& ~~~ BitVec.ofInt k.bits y).toNat
theorem ok_inv {x : Operand} {t : TypeId} {k : IntKind} {n : Int} : OpOK P cx ⟨d, .unOp .xor t x, ty, ps, af, gd⟩ [(x, .cell (.int k n))] nx ⟨.cell (.int k (bitsOf .xor k (if k.signed then -1 else k.max) n)), [], [], 0⟩ :=
  OpOK.pure fun F g H D a w _ hu _ => ⟨.int k (bitsOf .xor k (if k.signed then -1 else k.max) n), by
    have h := rep_int hu.1
    simp only at h
    simp [execOp, h, Op.unary, Op.intBits, bitsOf], .cell (.int _ _)⟩

theorem ok_bits {op : BinOp} {x y : Operand} {t t' : TypeId} {k : IntKind} {m n : Int} (hop : op = .and ∨ op = .or ∨ op = .xor ∨ op = .andNot) :
    OpOK P cx ⟨d, .binOp op t x y t', ty, ps, af, gd⟩ [(x, .cell (.int k m)), (y, .cell (.int k n))] nx ⟨.cell (.int k (bitsOf op k m n)), [], [], 0⟩ :=
  OpOK.pure fun F g H D a w _ hu _ => ⟨.int k (bitsOf op k m n), by
    have h := rep_int hu.1
    have h2 := rep_int hu.2.1
    simp only at h h2
    rcases hop with rfl | rfl | rfl | rfl <;> simp [execOp, h, h2, eqGuard_and, eqGuard_or, eqGuard_xor, eqGuard_andNot, binOp_and, binOp_or, binOp_xor, binOp_andNot, Op.intBits, bitsOf], .cell (.int _ _)⟩

theorem ok_add {x y : Operand} {t t' : TypeId} {k : IntKind} {m n : Int} : OpOK P cx ⟨d, .binOp .add t x y t', ty, ps, af, gd⟩ [(x, .cell (.int k m)), (y, .cell (.int k n))] nx ⟨.cell (.int k (k.wrap (m + n))), [], [], 0⟩ :=
  OpOK.pure fun F g H D a w _ hu _ => ⟨.int k (k.wrap (m + n)), by
    have h := rep_int hu.1
    have h2 := rep_int hu.2.1
    simp only at h h2
    simp [execOp, h, h2, eqGuard_add, binOp_add, Op.intArith], .cell (.int _ _)⟩
theorem ok_sub {x y : Operand} {t t' : TypeId} {k : IntKind} {m n : Int} : OpOK P cx ⟨d, .binOp .sub t x y t', ty, ps, af, gd⟩ [(x, .cell (.int k m)), (y, .cell (.int k n))] nx ⟨.cell (.int k (k.wrap (m - n))), [], [], 0⟩ :=
  OpOK.pure fun F g H D a w _ hu _ => ⟨.int k (k.wrap (m - n)), by
    have h := rep_int hu.1
    have h2 := rep_int hu.2.1
    simp only at h h2
    simp [execOp, h, h2, eqGuard_sub, binOp_sub, Op.intArith], .cell (.int _ _)⟩
theorem ok_mul {x y : Operand} {t t' : TypeId} {k : IntKind} {m n : Int} : OpOK P cx ⟨d, .binOp .mul t x y t', ty, ps, af, gd⟩ [(x, .cell (.int k m)), (y, .cell (.int k n))] nx ⟨.cell (.int k (k.wrap (m * n))), [], [], 0⟩ :=
  OpOK.pure fun F g H D a w _ hu _ => ⟨.int k (k.wrap (m * n)), by
    have h := rep_int hu.1
    have h2 := rep_int hu.2.1
    simp only at h h2
    simp [execOp, h, h2, eqGuard_mul, binOp_mul, Op.intArith], .cell (.int _ _)⟩
theorem ok_quo {x y : Operand} {t t' : TypeId} {k : IntKind} {m n : Int} (h0 : n ≠ 0) : OpOK P cx ⟨d, .binOp .quo t x y t', ty, ps, af, gd⟩ [(x, .cell (.int k m)), (y, .cell (.int k n))] nx ⟨.cell (.int k (k.wrap (m.tdiv n))), [], [], 0⟩ :=
  OpOK.pure fun F g H D a w _ hu _ => ⟨.int k (k.wrap (m.tdiv n)), by
    have h := rep_int hu.1
    have h2 := rep_int hu.2.1
    simp only at h h2
    simp [execOp, h, h2, eqGuard_quo, binOp_quo, Op.intDiv, h0], .cell (.int _ _)⟩
theorem ok_rem {x y : Operand} {t t' : TypeId} {k : IntKind} {m n : Int} (h0 : n ≠ 0) : OpOK P cx ⟨d, .binOp .rem t x y t', ty, ps, af, gd⟩ [(x, .cell (.int k m)), (y, .cell (.int k n))] nx ⟨.cell (.int k (m.tmod n)), [], [], 0⟩ :=
  OpOK.pure fun F g H D a w _ hu _ => ⟨.int k (m.tmod n), by
    have h := rep_int hu.1
    have h2 := rep_int hu.2.1
    simp only at h h2
    simp [execOp, h, h2, eqGuard_rem, binOp_rem, Op.intDiv, h0], .cell (.int _ _)⟩
theorem ok_shl {x y : Operand} {t t' : TypeId} {k k' : IntKind} {m n : Int} (h0 : 0 ≤ n) : OpOK P cx ⟨d, .binOp .shl t x y t', ty, ps, af, gd⟩ [(x, .cell (.int k m)), (y, .cell (.int k' n))] nx ⟨.cell (.int k (k.wrap (m * 2 ^ min n.toNat k.bits))), [], [], 0⟩ :=
  OpOK.pure fun F g H D a w _ hu _ => ⟨.int k (k.wrap (m * 2 ^ min n.toNat k.bits)), by
    have h := rep_int hu.1
    have h2 := rep_int hu.2.1
    simp only at h h2
    simp [execOp, h, h2, eqGuard_shl, binOp_shl, Op.shift, Int.not_lt.2 h0], .cell (.int _ _)⟩
theorem ok_shr {x y : Operand} {t t' : TypeId} {k k' : IntKind} {m n : Int} (h0 : 0 ≤ n) : OpOK P cx ⟨d, .binOp .shr t x y t', ty, ps, af, gd⟩ [(x, .cell (.int k m)), (y, .cell (.int k' n))] nx ⟨.cell (.int k (m.fdiv (2 ^ min n.toNat k.bits))), [], [], 0⟩ :=
  OpOK.pure fun F g H D a w _ hu _ => ⟨.int k (m.fdiv (2 ^ min n.toNat k.bits)), by
    have h := rep_int hu.1
    have h2 := rep_int hu.2.1
    simp only at h h2
    simp [execOp, h, h2, eqGuard_shr, binOp_shr, Op.shift, Int.not_lt.2 h0], .cell (.int _ _)⟩

theorem ok_eql {x y : Operand} {t t' : TypeId} {k : IntKind} {m n : Int} : OpOK P cx ⟨d, .binOp .eql t x y t', ty, ps, af, gd⟩ [(x, .cell (.int k m)), (y, .cell (.int k n))] nx ⟨.cell (.bool (decide (m = n))), [], [], 0⟩ :=
  OpOK.pure fun F g H D a w _ hu _ => ⟨.bool (decide (m = n)), by
    have h := rep_int hu.1
    have h2 := rep_int hu.2.1
    simp only at h h2
    simp [execOp, h, h2, eqGuard_at_int, binOp_eql, beq_dec], .cell (.bool _)⟩
theorem ok_neq {x y : Operand} {t t' : TypeId} {k : IntKind} {m n : Int} : OpOK P cx ⟨d, .binOp .neq t x y t', ty, ps, af, gd⟩ [(x, .cell (.int k m)), (y, .cell (.int k n))] nx ⟨.cell (.bool (decide (m ≠ n))), [], [], 0⟩ :=
  OpOK.pure fun F g H D a w _ hu _ => ⟨.bool (decide (m ≠ n)), by
    have h := rep_int hu.1
    have h2 := rep_int hu.2.1
    simp only at h h2
    simp [execOp, h, h2, eqGuard_at_int, binOp_neq, bne, beq_dec], .cell (.bool _)⟩
theorem ok_lss {x y : Operand} {t t' : TypeId} {k : IntKind} {m n : Int} : OpOK P cx ⟨d, .binOp .lss t x y t', ty, ps, af, gd⟩ [(x, .cell (.int k m)), (y, .cell (.int k n))] nx ⟨.cell (.bool (decide (m < n))), [], [], 0⟩ :=
  OpOK.pure fun F g H D a w _ hu _ => ⟨.bool (decide (m < n)), by
    have h := rep_int hu.1
    have h2 := rep_int hu.2.1
    simp only at h h2
    simp [execOp, h, h2, eqGuard_at_int, binOp_lss], .cell (.bool _)⟩
theorem ok_leq {x y : Operand} {t t' : TypeId} {k : IntKind} {m n : Int} : OpOK P cx ⟨d, .binOp .leq t x y t', ty, ps, af, gd⟩ [(x, .cell (.int k m)), (y, .cell (.int k n))] nx ⟨.cell (.bool (decide (m ≤ n))), [], [], 0⟩ :=
  OpOK.pure fun F g H D a w _ hu _ => ⟨.bool (decide (m ≤ n)), by
    have h := rep_int hu.1
    have h2 := rep_int hu.2.1
    simp only at h h2
    simp [execOp, h, h2, eqGuard_at_int, binOp_leq], .cell (.bool _)⟩
theorem ok_gtr {x y : Operand} {t t' : TypeId} {k : IntKind} {m n : Int} : OpOK P cx ⟨d, .binOp .gtr t x y t', ty, ps, af, gd⟩ [(x, .cell (.int k m)), (y, .cell (.int k n))] nx ⟨.cell (.bool (decide (n < m))), [], [], 0⟩ :=
  OpOK.pure fun F g H D a w _ hu _ => ⟨.bool (decide (n < m)), by
    have h := rep_int hu.1
    have h2 := rep_int hu.2.1
    simp only at h h2
    simp [execOp, h, h2, eqGuard_at_int, binOp_gtr], .cell (.bool _)⟩
theorem ok_geq {x y : Operand} {t t' : TypeId} {k : IntKind} {m n : Int} : OpOK P cx ⟨d, .binOp .geq t x y t', ty, ps, af, gd⟩ [(x, .cell (.int k m)), (y, .cell (.int k n))] nx ⟨.cell (.bool (decide (n ≤ m))), [], [], 0⟩ :=
  OpOK.pure fun F g H D a w _ hu _ => ⟨.bool (decide (n ≤ m)), by
    have h := rep_int hu.1
    have h2 := rep_int hu.2.1
    simp only at h h2
    simp [execOp, h, h2, eqGuard_at_int, binOp_geq], .cell (.bool _)⟩

theorem run_equal_bool {w : World} {t : TypeId} {b c : Bool} (ht : P.underlying t = some .bool) : (Op.equal t (.bool b) (.bool c)).run P w = .ok (b == c) w := by
  unfold Op.equal Op.maxDepth Op.equalIn
  simp [run_underlying ht]
theorem ok_eql_bool {x y : Operand} {t t' : TypeId} {b c : Bool} (ht : P.underlying t = some .bool) : OpOK P cx ⟨d, .binOp .eql t x y t', ty, ps, af, gd⟩ [(x, .cell (.bool b)), (y, .cell (.bool c))] nx ⟨.cell (.bool (b == c)), [], [], 0⟩ :=
  OpOK.pure fun F g H D a w _ hu _ => ⟨.bool (b == c), by
    have h := rep_bool hu.1
    have h2 := rep_bool hu.2.1
    simp only at h h2
    simp [execOp, h, h2, eqGuard_at_bool, binOp, run_equal_bool ht], .cell (.bool _)⟩
theorem ok_neq_bool {x y : Operand} {t t' : TypeId} {b c : Bool} (ht : P.underlying t = some .bool) : OpOK P cx ⟨d, .binOp .neq t x y t', ty, ps, af, gd⟩ [(x, .cell (.bool b)), (y, .cell (.bool c))] nx ⟨.cell (.bool (b != c)), [], [], 0⟩ :=
  OpOK.pure fun F g H D a w _ hu _ => ⟨.bool (b != c), by
    have h := rep_bool hu.1
    have h2 := rep_bool hu.2.1
    simp only at h h2
    simp [execOp, h, h2, eqGuard_at_bool, binOp, run_equal_bool ht, bne], .cell (.bool _)⟩

theorem ok_convert {x : Operand} {src dst : TypeId} {k k' : IntKind} {n : Int} (hs : (P.underlying src).isSome = true) (hd : P.underlying dst = some (.int k)) :
    OpOK P cx ⟨d, .convert src dst x, ty, ps, af, gd⟩ [(x, .cell (.int k' n))] nx ⟨.cell (.int k (k.wrap n)), [], [], 0⟩ :=
  OpOK.pure fun F g H D a w _ hu _ => ⟨.int k (k.wrap n), by
    have h := rep_int hu.1
    simp only at h
    obtain ⟨u, hu⟩ := Option.isSome_iff_exists.1 hs
    cases u <;> simp [execOp, h, convert, run_underlying hu, run_underlying hd, Conv.intToInt], .cell (.int _ _)⟩

theorem ok_nilCheck_ptr {x : Operand} {i o : Nat} : OpOK P cx ⟨d, .nilCheck x, ty, ps, af, gd⟩ [(x, .ptr i o)] nx ⟨.ptr i o, [], [], 0⟩ :=
  OpOK.pure fun F g H D a w _ hu _ => ⟨a.eval x, by
    have h := hu.1
    simp only at h
    generalize he : a.eval x = v at h
    cases h
    simp [execOp, he], hu.1⟩
theorem ok_nilCheck_fptr {x : Operand} {cs : List FV} : OpOK P cx ⟨d, .nilCheck x, ty, ps, af, gd⟩ [(x, .fptr cs)] nx ⟨.fptr cs, [], [], 0⟩ :=
  OpOK.pure fun F g H D a w _ hu _ => ⟨a.eval x, by
    have h := hu.1
    simp only at h
    generalize he : a.eval x = v at h
    cases h
    simp [execOp, he], hu.1⟩
theorem ok_nilCheck_func {x : Operand} {f : FuncId} {caps : List PV} : OpOK P cx ⟨d, .nilCheck x, ty, ps, af, gd⟩ [(x, .func f caps)] nx ⟨.func f caps, [], [], 0⟩ :=
  OpOK.pure fun F g H D a w _ hu _ => ⟨a.eval x, by
    have h := hu.1
    simp only at h
    generalize he : a.eval x = v at h
    cases h
    simp [execOp, he], hu.1⟩

/-! ### Addresses -/
theorem add_lit (b o n : Nat) : (⟨b, o, none⟩ : Addr).add n = ⟨b, o + n, none⟩ := Addr.add_lit b o n

theorem fptr_drop {F B : FMap} {g : GMap} {b o : Nat} {cs : List FV} (h : RepP F B g (.pointer (some ⟨b, o, none⟩)) (.fptr cs)) (k : Nat) : RepP F B g (.pointer (some ⟨b, o + k, none⟩)) (.fptr (cs.drop k)) := by
  cases h with
  | fptr b o cs us hu hr =>
    refine .fptr b (o + k) (cs.drop k) (fun j => us (k + j)) (fun j hj => ?_) fun j hj => ?_
    · have := hu (k + j) (by simp at hj; omega)
      rwa [← Nat.add_assoc] at this
    · rw [List.getElem_drop]
      exact hr (k + j) (by simp at hj; omega)

theorem run_fieldAt {w : World} {t : TypeId} {fs : Array Field} {b o j : Nat} {f : Field} (ht : P.underlying t = some (.struct fs)) (hf : fs[j]? = some f) (hs : ((P.info? f.type).map (·.size)).any (0 < ·) = true) :
    (Instr.fieldAt t (.pointer (some ⟨b, o, none⟩)) j).run P w = .ok (.pointer (some ⟨b, o + f.offset, none⟩)) w := by
  cases hi : P.info? f.type with
  | none => rw [hi] at hs; cases hs
  | some i =>
  rw [hi] at hs
  have h0' : i.size ≠ 0 := by
    have : 0 < i.size := of_decide_eq_true hs
    omega
  simp [Instr.fieldAt, run_underlying ht, hf, Instr.sureAddr, fieldPlace, sizeOf, typeInfo, hi, h0', add_lit]

/-- The offset of a field that takes up memory. -/
def fieldOff (P : Program) (t : TypeId) (j : Nat) : Option Nat :=
  match P.underlying t with
  | some (.struct fs) => match fs[j]? with
    | some f => match P.info? f.type with
      | some i => if 0 < i.size then some f.offset else none
      | none => none
    | none => none
  | _ => none
theorem run_field {w : World} {t : TypeId} {b o j off : Nat} (h : fieldOff P t j = some off) : (Instr.fieldAt t (.pointer (some ⟨b, o, none⟩)) j).run P w = .ok (.pointer (some ⟨b, o + off, none⟩)) w := by
  unfold fieldOff at h
  split at h
  · rename_i fs ht
    split at h
    · rename_i f hf
      split at h
      · rename_i i hi
        split at h
        · rename_i h0
          injection h with h
          subst h
          exact run_fieldAt ht hf (by simp [hi, h0])
        · cases h
      · cases h
    · cases h
  · cases h

theorem ok_field_ptr {x : Operand} {t : TypeId} {j off i o : Nat} (hf : fieldOff P t j = some off) : OpOK P cx ⟨d, .fieldAddr t x j, ty, ps, af, gd⟩ [(x, .ptr i o)] nx ⟨.ptr i (o + off), [], [], 0⟩ :=
  OpOK.pure fun F g H D a w _ hu _ => by
    have h := hu.1
    simp only at h
    generalize he : a.eval x = v at h
    cases h with
    | ptr off' hg hb =>
      exact ⟨_, by simp only [execOp, he]; simp [run_field hf], .ptr _ hg hb⟩
theorem ok_field_fptr {x : Operand} {t : TypeId} {j off : Nat} {cs : List FV} (hf : fieldOff P t j = some off) : OpOK P cx ⟨d, .fieldAddr t x j, ty, ps, af, gd⟩ [(x, .fptr cs)] nx ⟨.fptr (cs.drop off), [], [], 0⟩ :=
  OpOK.pure fun F g H D a w _ hu _ => by
    have h := hu.1
    simp only at h
    generalize he : a.eval x = v at h
    have h' := h
    cases h' with
    | fptr b o cs us hu hr =>
      exact ⟨_, by simp only [execOp, he]; simp [run_field hf], fptr_drop h off⟩

/-! ### Slices -/
/-- The size of a slice type's elements. -/
def elemSz (P : Program) (t : TypeId) : Option Nat :=
  match P.underlying t with
  | some (.slice e) => (P.info? e).map (·.size)
  | _ => none
theorem elemSz_spec {t : TypeId} {sz : Nat} (h : elemSz P t = some sz) : ∃ e i, P.underlying t = some (.slice e) ∧ P.info? e = some i ∧ i.size = sz := by
  unfold elemSz at h
  split at h
  · rename_i e ht
    obtain ⟨i, hi, hs⟩ := Option.map_eq_some_iff.1 h
    exact ⟨e, i, ht, hi, hs⟩
  · cases h

theorem run_index {w : World} {t : TypeId} {sz b o n cap : Nat} {k : IntKind} {i : Int} (ht : elemSz P t = some sz) (h0 : 0 ≤ i) (h1 : i < n) :
    (Instr.indexAt t (.slice (some ⟨b, o, none⟩) n cap) (.int k i)).run P w = .ok (.pointer (some ⟨b, o + i.toNat * sz, none⟩)) w := by
  obtain ⟨e, inf, hu, hi, rfl⟩ := elemSz_spec ht
  simp [Instr.indexAt, asIntOf, run_underlying hu, h0, h1, sizeOf, typeInfo, hi, add_lit]

theorem ok_index_sl {x y : Operand} {t : TypeId} {sz n : Nat} {cs : List FV} {k : IntKind} {i : Int} (ht : elemSz P t = some sz) (h0 : 0 ≤ i) (h1 : i < n) (hl : n * sz ≤ cs.length) (hs : 0 < sz) :
    OpOK P cx ⟨d, .indexAddr t x y, ty, ps, af, gd⟩ [(x, .cell (.sl n cs)), (y, .cell (.int k i))] nx ⟨.fptr (cs.drop (i.toNat * sz)), [], [], 0⟩ :=
  OpOK.pure fun F g H D a w _ hu _ => by
    have h := hu.1
    have h2 := rep_int hu.2.1
    simp only at h h2
    generalize he : a.eval x = v at h
    cases h with
    | cell h =>
      cases h with
      | nil A n cap hn =>
        have hp : 0 < n * sz := Nat.mul_pos (by omega) hs
        simp only [List.length_nil] at hl
        omega
      | sl b o n cap cells us hn hu' hr =>
        refine ⟨.pointer (some ⟨b, o + i.toNat * sz, none⟩), by simp only [execOp, he, h2]; simp [run_index ht h0 h1], ?_⟩
        exact fptr_drop (.fptr b o cs us (fun j hj => .inl (hu' j hj)) hr) _

theorem arr_block {F B : FMap} {g : GMap} {base : Nat} {w : World} {v : Value} {e sz n : Nat} {cs : List FV} (h : BRep F B g base w v (.arr e sz n cs)) (h0 : 0 < n) :
    ∃ b cap cur, v = .slice (some ⟨b, 0, none⟩) n cap ∧ w.heap[b]? = some (.cells cur e (0, 0)) ∧ n ≤ cap ∧ cur.size = cap * sz ∧ cs.length = n * sz ∧ ∀ (j : Nat) (h : j < cs.length), RepF F (cur.getD j Go.undef) (cs[j]'h) := by
  obtain ⟨xs, ⟨hl, h | ⟨b, cap, cur, rfl, _, hh, hn, _, hc, ht⟩⟩, hx, hr⟩ := h
  · omega
  · refine ⟨b, cap, cur, rfl, hh, hn, hc, by omega, fun j hj => ?_⟩
    have := hr j hj
    rw [← ht] at this
    rw [show cur.getD j Go.undef = (cur.toList.take (n * sz)).getD j Go.undef from ?_]
    · exact this
    · simp [Array.getD_eq_getD_getElem?, List.getD_eq_getElem?_getD, List.getElem?_take_of_lt (show j < n * sz by omega)]

theorem ok_index_arr {x y : Operand} {t : TypeId} {e sz n id : Nat} {cs : List FV} {k : IntKind} {i : Int} (ht : elemSz P t = some sz) (h0 : 0 ≤ i) (h1 : i < n) :
    OpOK P cx ⟨d, .indexAddr t x y, ty, ps, af, gd⟩ [(x, .own id n), (y, .cell (.int k i))] nx ⟨.ptr id (i.toNat * sz), [(id, .arr e sz n cs)], [], 0⟩ :=
  OpOK.pure fun F g H D a w hH hu hrd => by
    have h := hu.1
    have h2 := rep_int hu.2.1
    simp only at h h2
    generalize he : a.eval x = v at h
    obtain ⟨v', hg', hB⟩ := hH.blk id _ hrd.1
    cases h with
    | own n hg A cap hv =>
      rw [hg'] at hg
      injection hg with hg
      subst hg
      obtain ⟨b, cap', cur, hv', _⟩ := arr_block hB (by omega)
      subst hv'
      refine ⟨.pointer (some ⟨b, 0 + i.toNat * sz, none⟩), by simp only [execOp, he, h2]; simp [run_index ht h0 h1], ?_⟩
      rw [Nat.zero_add]
      exact .ptr _ hg' rfl

end
end Go.Proofs.Gh
end
section
set_option linter.unusedVariables false
set_option linter.unusedSimpArgs false
namespace Go.Proofs.Gh
open Go.RowKit

def isScal (P : Program) (t : TypeId) : Bool :=
  match P.underlying t with
  | some (.struct _) | some (.array ..) => false
  | some _ => true
  | none => false
def aggSz (P : Program) (t : TypeId) : Option Nat :=
  match P.underlying t with
  | some (.struct _) | some (.array ..) => (P.info? t).map (·.size)
  | _ => none
def tySz (P : Program) (t : TypeId) : Option Nat := (P.info? t).map (·.size)
def tyZero (P : Program) (t : TypeId) : Option Value := (P.info? t).bind (·.zero)

section
variable {P : Program} {cx : Cx} {d : Option Tmp} {ty : TypeId} {ps : String} {af : Array Edge} {gd : Option (Nat × Bool)} {nx : Nat}

theorem run_loadVar_scal {w : World} {t : TypeId} {a : Addr} {v : Value} (ht : isScal P t = true) (hc : w.cell? a = some v) : (loadVar t a).run P w = .ok v w := by
  have : (isAgg t).run P w = .ok false w := by
    cases hu : P.underlying t with
    | none => simp [isScal, hu] at ht
    | some d => cases d <;> first | (simp [isScal, hu] at ht; done) | simp [isAgg, run_underlying hu]
  simp [loadVar, this, hc]

theorem run_loadVar_agg {w : World} {t : TypeId} {a : Addr} {n : Nat} (f : Nat → Value) (ht : aggSz P t = some n) (hc : ∀ j, j < n → w.cell? (a.add j) = some (f j)) :
    (loadVar t a).run P w = .ok (.agg ((List.range n).map f).toArray) w := by
  unfold aggSz at ht
  split at ht
  · rename_i u hu
    obtain ⟨i, hi, rfl⟩ := Option.map_eq_some_iff.1 ht
    simp [loadVar, isAgg, run_underlying hu, sizeOf, typeInfo, hi, run_loadCells w a _ f hc]
  · rename_i u1 u2 hu
    obtain ⟨i, hi, rfl⟩ := Option.map_eq_some_iff.1 ht
    simp [loadVar, isAgg, run_underlying hu, sizeOf, typeInfo, hi, run_loadCells w a _ f hc]
  · cases ht

theorem range_getD (f : Nat → Value) (n j : Nat) (h : j < n) : (((List.range n).map f).toArray).getD j Go.undef = f j := by
  simp [Array.getD_eq_getD_getElem?, h]

theorem ok_load_fptr_s {x : Operand} {t : TypeId} {cs : List FV} {c : FV} (ht : isScal P t = true) (hc : cs.head? = some c) : OpOK P cx ⟨d, .load t x, ty, ps, af, gd⟩ [(x, .fptr cs)] nx ⟨.cell c, [], [], 0⟩ :=
  OpOK.pure fun F g H D a w hH hu _ => by
    have h := hu.1
    simp only at h
    generalize he : a.eval x = v at h
    cases h with
    | fptr b o cs us hu' hr =>
      cases cs with
      | nil => cases hc
      | cons c0 cs =>
        injection hc with hc
        subst hc
        have hcell : w.cell? ⟨b, o, none⟩ = some (us 0) := by
          rcases hu' 0 (by simp) with h | h
          · exact hH.agree _ _ _ h
          · exact hH.agreeB _ _ _ h
        exact ⟨us 0, by simp only [execOp, he]; simp [Instr.loadAt, Instr.sureAddr, run_loadVar_scal ht hcell], .cell (hr 0 (by simp))⟩

theorem ok_load_fptr_a {x : Operand} {t : TypeId} {cs : List FV} {n : Nat} (ht : aggSz P t = some n) (hl : n ≤ cs.length) : OpOK P cx ⟨d, .load t x, ty, ps, af, gd⟩ [(x, .fptr cs)] nx ⟨.agg (cs.take n), [], [], 0⟩ :=
  OpOK.pure fun F g H D a w hH hu _ => by
    have h := hu.1
    simp only at h
    generalize he : a.eval x = v at h
    cases h with
    | fptr b o cs us hu' hr =>
      have hcell : ∀ j, j < n → w.cell? ((⟨b, o, none⟩ : Addr).add j) = some (us j) := fun j hj => by
        rw [add_lit]
        rcases hu' j (by omega) with h | h
        · exact hH.agree _ _ _ h
        · exact hH.agreeB _ _ _ h
      refine ⟨_, by simp only [execOp, he]; simp only [Instr.loadAt, Instr.sureAddr, pure_bind, Sem.run_bind, run_loadVar_agg us ht hcell]; rfl, .agg _ _ (by simp; omega) fun j hj => ?_⟩
      rw [range_getD us n j (by simp at hj; omega)]
      simpa using hr j (by simp at hj; omega)

theorem var_block {F B : FMap} {g : GMap} {base : Nat} {w : World} {v : Value} {cells : List PV} (h : BRep F B g base w v (.var cells)) :
    ∃ b c e, v = .pointer (some ⟨b, 0, none⟩) ∧ w.heap[b]? = some (.cells c e (0, 0)) ∧ c.size = cells.length ∧ ∀ (j : Nat) (h : j < cells.length), RepP F B g (c.getD j Go.undef) (cells[j]'h) := h

theorem cell_of {w : World} {b : Nat} {c : Array Value} {e : TypeId} (h : w.heap[b]? = some (.cells c e (0, 0))) {j : Nat} (hj : j < c.size) : w.cell? ⟨b, j, none⟩ = some (c.getD j Go.undef) := by
  simp [World.cell?, h, hj]

/-- The address that a pointer into a variable's block stands for. -/
theorem ptr_var {F B : FMap} {g : GMap} {H : Nat → Option Blk} {D : Nat → Prop} {w : World} {cx : Cx} (hH : HRep cx F g H D w) {v : Value} {id off : Nat} {cells : List PV} (hv : RepP F B g v (.ptr id off)) (hk : H id = some (.var cells)) :
    ∃ b c e, v = .pointer (some ⟨b, off, none⟩) ∧ g id = some (.pointer (some ⟨b, 0, none⟩)) ∧ w.heap[b]? = some (.cells c e (0, 0)) ∧ c.size = cells.length ∧ ∀ (j : Nat) (h : j < cells.length), RepP F cx.B g (c.getD j Go.undef) (cells[j]'h) := by
  obtain ⟨u, hu, b, c, e, rfl, hh, hl, hr⟩ := hH.blk id _ hk
  cases hv with
  | ptr off hg hb =>
    rw [hu] at hg
    injection hg with hg
    subst hg
    injection hb with hb
    subst hb
    exact ⟨_, c, e, rfl, hu, hh, hl, hr⟩

theorem ptr_arr {F B : FMap} {g : GMap} {H : Nat → Option Blk} {D : Nat → Prop} {w : World} {cx : Cx} (hH : HRep cx F g H D w) {v : Value} {id off e sz n : Nat} {cells : List FV} (hv : RepP F B g v (.ptr id off)) (hk : H id = some (.arr e sz n cells)) :
    ∃ b cap cur, v = .pointer (some ⟨b, off, none⟩) ∧ g id = some (.slice (some ⟨b, 0, none⟩) n cap) ∧ w.heap[b]? = some (.cells cur e (0, 0)) ∧ n ≤ cap ∧ cur.size = cap * sz ∧ cells.length = n * sz ∧ ∀ (j : Nat) (h : j < cells.length), RepF F (cur.getD j Go.undef) (cells[j]'h) := by
  obtain ⟨u, hu, xs, ⟨hl, h | ⟨b, cap, cur, rfl, _, hh, hn, _, hc, ht⟩⟩, hx, hr⟩ := hH.blk id _ hk
  · cases hv with
    | ptr off hg hb =>
      rw [hu] at hg
      injection hg with hg
      subst hg
      rw [h.1] at hb
      cases hb
  · cases hv with
    | ptr off hg hb =>
      rw [hu] at hg
      injection hg with hg
      subst hg
      injection hb with hb
      subst hb
      refine ⟨_, cap, cur, rfl, hu, hh, hn, hc, by omega, fun j hj => ?_⟩
      have := hr j hj
      rw [← ht] at this
      rw [show cur.getD j Go.undef = (cur.toList.take (n * sz)).getD j Go.undef from ?_]
      · exact this
      · simp [Array.getD_eq_getD_getElem?, List.getD_eq_getElem?_getD, List.getElem?_take_of_lt (show j < n * sz by omega)]

theorem head_drop {α : Type} {l : List α} {k : Nat} {x : α} (h : (l.drop k).head? = some x) : ∃ hk : k < l.length, l[k] = x := by
  rw [List.head?_drop] at h
  exact List.getElem?_eq_some_iff.1 h

theorem ok_load_var_s {x : Operand} {t : TypeId} {id off : Nat} {cells : List PV} {p : PV} (ht : isScal P t = true) (hc : (cells.drop off).head? = some p) :
    OpOK P cx ⟨d, .load t x, ty, ps, af, gd⟩ [(x, .ptr id off)] nx ⟨p, [(id, .var cells)], [], 0⟩ :=
  OpOK.pure fun F g H D a w hH hu hrd => by
    have h := hu.1
    simp only at h
    generalize he : a.eval x = v at h
    obtain ⟨b, c, e, rfl, hg, hh, hl, hr⟩ := ptr_var hH h hrd.1
    obtain ⟨hk, rfl⟩ := head_drop hc
    have hcell := cell_of hh (show off < c.size by omega)
    exact ⟨_, by simp only [execOp, he]; simp [Instr.loadAt, Instr.sureAddr, run_loadVar_scal ht hcell], hr off hk⟩

/-- The plain data in a row of cells. -/
def fvs : List PV → Option (List FV)
  | [] => some []
  | .cell c :: r => match fvs r with
    | some l => some (c :: l)
    | none => none
  | _ => none
theorem fvs_spec : ∀ {l : List PV} {cs : List FV}, fvs l = some cs → l = cs.map PV.cell
  | [], cs, h => by injection h with h; subst h; rfl
  | .cell c :: r, cs, h => by
    unfold fvs at h
    cases hr : fvs r with
    | none => rw [hr] at h; cases h
    | some l =>
      rw [hr] at h
      injection h with h
      subst h
      rw [fvs_spec hr]
      rfl
  | .undef :: _, _, h | .agg _ :: _, _, h | .nilS :: _, _, h | .emp :: _, _, h | .own _ _ :: _, _, h | .ptr _ _ :: _, _, h | .fptr _ :: _, _, h | .func _ _ :: _, _, h | .tup _ :: _, _, h => by cases h

theorem ok_load_var_a {x : Operand} {t : TypeId} {id off n : Nat} {cells : List PV} {cs : List FV} (ht : aggSz P t = some n) (hc : fvs ((cells.drop off).take n) = some cs) (hl : cs.length = n) :
    OpOK P cx ⟨d, .load t x, ty, ps, af, gd⟩ [(x, .ptr id off)] nx ⟨.agg cs, [(id, .var cells)], [], 0⟩ :=
  OpOK.pure fun F g H D a w hH hu hrd => by
    have h := hu.1
    simp only at h
    generalize he : a.eval x = v at h
    obtain ⟨b, c, e, rfl, hg, hh, hl', hr⟩ := ptr_var hH h hrd.1
    have hm := fvs_spec hc
    have hlen : off + n ≤ cells.length ∨ n = 0 := by
      have := congrArg List.length hm
      simp at this
      omega
    have hcell : ∀ j, j < n → w.cell? ((⟨b, off, none⟩ : Addr).add j) = some (c.getD (off + j) Go.undef) := fun j hj => by
      rw [add_lit]
      exact cell_of hh (by omega)
    refine ⟨_, by simp only [execOp, he]; simp only [Instr.loadAt, Instr.sureAddr, pure_bind, Sem.run_bind, run_loadVar_agg (fun j => c.getD (off + j) Go.undef) ht hcell]; rfl, .agg _ _ (by simp [hl]) fun j hj => ?_⟩
    rw [range_getD _ n j (by omega)]
    have h1 := hr (off + j) (by omega)
    have h2 : cells[off + j]'(by omega) = .cell cs[j] := by
      have := congrArg (fun l => l[j]?) hm
      simp only [List.getElem?_take_of_lt (show j < n by omega), List.getElem?_drop, List.getElem?_map, List.getElem?_eq_getElem hj, List.getElem?_eq_getElem (show off + j < cells.length by omega), Option.map_some] at this
      injection this
    rw [h2] at h1
    exact h1.cell_inv

theorem ok_load_arr_s {x : Operand} {t : TypeId} {id off e sz n : Nat} {cells : List FV} {c : FV} (ht : isScal P t = true) (hc : (cells.drop off).head? = some c) :
    OpOK P cx ⟨d, .load t x, ty, ps, af, gd⟩ [(x, .ptr id off)] nx ⟨.cell c, [(id, .arr e sz n cells)], [], 0⟩ :=
  OpOK.pure fun F g H D a w hH hu hrd => by
    have h := hu.1
    simp only at h
    generalize he : a.eval x = v at h
    obtain ⟨b, cap, cur, rfl, hg, hh, hn, hs, hl, hr⟩ := ptr_arr hH h hrd.1
    obtain ⟨hk, rfl⟩ := head_drop hc
    have : n * sz ≤ cap * sz := Nat.mul_le_mul_right _ hn
    have hcell := cell_of hh (show off < cur.size by omega)
    exact ⟨_, by simp only [execOp, he]; simp [Instr.loadAt, Instr.sureAddr, run_loadVar_scal ht hcell], .cell (hr off hk)⟩

theorem ok_load_arr_a {x : Operand} {t : TypeId} {id off e sz n m : Nat} {cells : List FV} (ht : aggSz P t = some m) (hl : off + m ≤ cells.length) :
    OpOK P cx ⟨d, .load t x, ty, ps, af, gd⟩ [(x, .ptr id off)] nx ⟨.agg ((cells.drop off).take m), [(id, .arr e sz n cells)], [], 0⟩ :=
  OpOK.pure fun F g H D a w hH hu hrd => by
    have h := hu.1
    simp only at h
    generalize he : a.eval x = v at h
    obtain ⟨b, cap, cur, rfl, hg, hh, hn, hs, hl', hr⟩ := ptr_arr hH h hrd.1
    have hle : n * sz ≤ cap * sz := Nat.mul_le_mul_right _ hn
    have hcell : ∀ j, j < m → w.cell? ((⟨b, off, none⟩ : Addr).add j) = some (cur.getD (off + j) Go.undef) := fun j hj => by
      rw [add_lit]
      exact cell_of hh (by omega)
    refine ⟨_, by simp only [execOp, he]; simp only [Instr.loadAt, Instr.sureAddr, pure_bind, Sem.run_bind, run_loadVar_agg (fun j => cur.getD (off + j) Go.undef) ht hcell]; rfl, .agg _ _ (by simp; omega) fun j hj => ?_⟩
    simp at hj
    rw [range_getD _ m j (by omega)]
    simpa using hr (off + j) (by omega)

/-! ### What a value takes up, cell by cell -/
def pcells : PV → Option (List PV)
  | .undef | .tup _ => none
  | .agg cs => some (cs.map PV.cell)
  | p => some [p]
def fcells : PV → Option (List FV)
  | .cell c => some [c]
  | .agg cs => some cs
  | .nilS | .emp => some [.sl 0 []]
  | _ => none

theorem RepP.one {F B : FMap} {g : GMap} {v : Value} {p : PV} (h : RepP F B g v p) (hu : p ≠ .undef) (ha : ∀ cs, p ≠ .agg cs) (ht : ∀ vs, p ≠ .tup vs) : v.cells = #[v] ∧ v.oneCell' = true := by
  cases h with
  | undef => exact absurd rfl hu
  | cell h => exact ⟨h.cells_eq, h.oneCell⟩
  | agg vs cs => exact absurd rfl (ha _)
  | nilS => exact ⟨rfl, rfl⟩
  | emp => exact ⟨rfl, rfl⟩
  | own n hg A cap hv => subst hv; exact ⟨rfl, rfl⟩
  | ptr => exact ⟨rfl, rfl⟩
  | fptr => exact ⟨rfl, rfl⟩
  | func => exact ⟨rfl, rfl⟩
  | tup => exact absurd rfl (ht _)
  | yield => exact ⟨rfl, rfl⟩

theorem pcells_rep {F B : FMap} {g : GMap} {v : Value} {p : PV} {l : List PV} (h : RepP F B g v p) (hl : pcells p = some l) :
    v.cells.size = l.length ∧ (∀ (j : Nat) (h : j < l.length), RepP F B g (v.cells.getD j Go.undef) (l[j]'h)) ∧ ∀ u ∈ v.cells.toList, u.oneCell' = true := by
  unfold pcells at hl
  split at hl
  · cases hl
  · cases hl
  · rename_i cs
    injection hl with hl
    subst hl
    cases h with
    | agg vs cs hs hr =>
      refine ⟨by simpa [Value.cells] using hs, fun j hj => ?_, fun u hu => ?_⟩
      · simp at hj
        simpa [Value.cells] using RepP.cell (B := B) (g := g) (hr j hj)
      · obtain ⟨j, hj, rfl⟩ := List.getElem_of_mem hu
        simp [Value.cells] at hj
        have := (hr j (by omega)).oneCell
        simpa [Value.cells, Array.getD_eq_getD_getElem?, hj] using this
  · rename_i h1 h2 h3
    injection hl with hl
    subst hl
    obtain ⟨e1, e2⟩ := h.one (fun e => h1 e) (fun cs e => h3 cs e) (fun vs e => h2 vs e)
    rw [e1]
    refine ⟨rfl, fun j hj => ?_, fun u hu => ?_⟩
    · simp at hj
      subst hj
      simpa using h
    · simp at hu
      rw [hu]; exact e2

theorem fcells_rep {F B : FMap} {g : GMap} {v : Value} {p : PV} {l : List FV} (h : RepP F B g v p) (hl : fcells p = some l) :
    v.cells.size = l.length ∧ (∀ (j : Nat) (h : j < l.length), RepF F (v.cells.getD j Go.undef) (l[j]'h)) ∧ ∀ u ∈ v.cells.toList, u.oneCell' = true := by
  unfold fcells at hl
  split at hl
  · injection hl with hl
    subst hl
    cases h with
    | cell h =>
      rw [h.cells_eq]
      refine ⟨rfl, fun j hj => ?_, fun u hu => ?_⟩
      · simp at hj
        subst hj
        simpa using h
      · simp at hu
        rw [hu]; exact h.oneCell
  · rename_i cs
    injection hl with hl
    subst hl
    have := pcells_rep (l := cs.map PV.cell) h rfl
    refine ⟨by simpa using this.1, fun j hj => ?_, this.2.2⟩
    have h1 := this.2.1 j (by simpa using hj)
    simp only [List.getElem_map] at h1
    exact h1.cell_inv
  · injection hl with hl
    subst hl
    cases h with
    | nilS =>
      refine ⟨rfl, fun j hj => ?_, fun u hu => ?_⟩
      · simp at hj
        subst hj
        simpa [Value.cells] using RepF.nil none 0 0 (Nat.le_refl _)
      · simp [Value.cells] at hu
        rw [hu]; rfl
  · injection hl with hl
    subst hl
    cases h with
    | emp A =>
      refine ⟨rfl, fun j hj => ?_, fun u hu => ?_⟩
      · simp at hj
        subst hj
        simpa [Value.cells] using RepF.nil A 0 0 (Nat.le_refl _)
      · simp [Value.cells] at hu
        rw [hu]; rfl
  · cases hl

theorem run_storeVar {w : World} {t : TypeId} {b off : Nat} {c : Array Value} {e : TypeId} {v : Value} {m : Nat} (hs : tySz P t = some m) (hm : v.cells.size = m) (hh : w.heap[b]? = some (.cells c e (0, 0))) (hfit : off + m ≤ c.size) (h1 : ∀ u ∈ v.cells.toList, u.oneCell' = true) :
    (storeVar t ⟨b, off, none⟩ v).run P w = .ok () (w.setRow b (splice c.toList off v.cells.toList).toArray) := by
  obtain ⟨i, hi, rfl⟩ := Option.map_eq_some_iff.1 hs
  have hst := run_storeCells_at P b off e v.cells.toList 0 c w hh (by simpa [hm] using hfit) h1
  simp only [Nat.add_zero] at hst
  simp [storeVar, sizeOf, typeInfo, hi, hm, hst, splice]

theorem grownBy_setRow (w : World) (b : Nat) (c : Array Value) : w.grownBy (w.setRow b c) (some b) :=
  ⟨rfl, rfl, rfl, by simp, fun k _ hk => setRow_other w b k c fun e => hk (by rw [e])⟩

theorem KeepsD.setRow {w : World} {b : Nat} {c : Array Value} {e : TypeId} {z : Nat × Nat} (h : w.heap[b]? = some (.cells c e z)) (cs : Array Value) : KeepsD w (w.setRow b cs) :=
  KeepsD.row (row := some b) (grownBy_setRow w b cs) fun r hr => by
    injection hr with hr
    subst hr
    exact ⟨_, h, by simp⟩

/-- A block of the call's own is written; nothing else turns. -/
theorem HRep.write {F : FMap} {g : GMap} {H : Nat → Option Blk} {D : Nat → Prop} {w : World} (h : HRep cx F g H D w) {id b : Nat} {k k' : Blk} {v : Value} (hk : H id = some k) (hm : k.mut = true) (hg : g id = some v) (hb : ownB v = some b) (c : Array Value)
    (hB : BRep F cx.B g cx.base (w.setRow b c) v k') {D' : Nat → Prop} (hD : ∀ j, D j → D' j) : HRep cx F g (upd H [(id, k')]) D' (w.setRow b c) := by
  have ho := h.own id k v b hk hm hg hb
  refine h.next (some b) id k' v (grownBy_setRow w b c) (fun b' e => by injection e with e; subst e; exact ho) (.refl _ _) (fun b o v hv => .inl hv) (.refl g) (fun j v hv => hD j (h.dom j v hv)) (by simp [upd_one]) hg hB ?_ ?_
  · intro j l hj hl
    rw [upd_one, if_neg hj] at hl
    refine .inr ⟨hl, fun u b' hm' hu hb' => ⟨fun e => ?_, (h.own j l u b' hl hm' hu hb').2.1⟩⟩
    injection e with e
    subst e
    exact hj (h.inj j id l k u v b hl hk hm' hm hu hg hb' hb)
  · intro _ b' hb'
    rw [hb] at hb'
    injection hb' with hb'
    subst hb'
    refine ⟨ho.1, ho.2.1, ho.2.2, .inr fun j l u hj hl hm' hu hb' => ?_⟩
    rw [upd_one, if_neg hj] at hl
    exact hj (h.inj j id l k u v b hl hk hm' hm hu hg hb' hb)

theorem ok_store_var {x y : Operand} {t : TypeId} {id off m : Nat} {cells new : List PV} {p : PV} (hs : tySz P t = some m) (hp : pcells p = some new) (hm : new.length = m) (hfit : off + m ≤ cells.length) :
    OpOK P cx ⟨d, .store t x y, ty, ps, af, gd⟩ [(x, .ptr id off), (y, p)] nx ⟨.undef, [(id, .var cells)], [(id, .var (splice cells off new))], 0⟩ := by
  intro F g H D a w hH hu hrd _
  have h := hu.1
  have h2 := hu.2.1
  simp only at h h2
  generalize he : a.eval x = v at h
  obtain ⟨b, c, e, rfl, hg, hh, hl, hr⟩ := ptr_var hH h hrd.1
  obtain ⟨q1, q2, q3⟩ := pcells_rep h2 hp
  have hst := run_storeVar (P := P) (t := t) (off := off) hs (q1.trans hm) hh (by omega) q3
  refine runs_skip (w' := w.setRow b (splice c.toList off (a.eval y).cells.toList).toArray) (by simp only [execOp, he]; simp [Instr.storeAt, Instr.sureAddr, hst]) ⟨F, g, .refl _ _, .refl _, ?_, .undef _, KeepsD.setRow hh _⟩
  refine hH.write (k := .var cells) (k' := .var (splice cells off new)) (b := b) hrd.1 rfl hg rfl _ ⟨b, _, e, rfl, setRow_heap w b c _ e _ hh, ?_, fun j hj => ?_⟩ (fun _ h => .inl h)
  · rw [List.size_toArray, splice_length _ _ _ (by simp [q1]; omega), splice_length _ _ _ (by omega)]
    simpa using hl
  · have hj' : j < cells.length := by rw [splice_length _ _ _ (by omega)] at hj; exact hj
    have e1 := getD_setRow_cells c (a.eval y).cells.toList off (by simp [q1]; omega) j
    rw [show splice c.toList off (a.eval y).cells.toList = _ from rfl, splice, e1, splice_get _ _ _ (by omega)]
    by_cases h1 : j < off
    · rw [if_pos h1, dif_pos h1]; exact hr j hj'
    · rw [if_neg h1, dif_neg h1]
      by_cases h3 : j < off + new.length
      · rw [if_pos (by simp [q1]; omega), dif_pos h3]
        simpa [Array.getD_eq_getD_getElem?, List.getD_eq_getElem?_getD] using q2 (j - off) (by omega)
      · rw [if_neg (by simp [q1]; omega), dif_neg h3]; exact hr j hj'

end
end Go.Proofs.Gh
end
section
set_option linter.unusedVariables false
set_option linter.unusedSimpArgs false
namespace Go.Proofs.Gh
open Go.RowKit

section
variable {P : Program} {cx : Cx} {d : Option Tmp} {ty : TypeId} {ps : String} {af : Array Edge} {gd : Option (Nat × Bool)} {nx : Nat}

theorem ok_store_arr {x y : Operand} {t : TypeId} {id off m e sz n : Nat} {cells new : List FV} {p : PV} (hs : tySz P t = some m) (hp : fcells p = some new) (hm : new.length = m) (hfit : off + m ≤ cells.length) :
    OpOK P cx ⟨d, .store t x y, ty, ps, af, gd⟩ [(x, .ptr id off), (y, p)] nx ⟨.undef, [(id, .arr e sz n cells)], [(id, .arr e sz n (splice cells off new))], 0⟩ := by
  intro F g H D a w hH hu hrd _
  have h := hu.1
  have h2 := hu.2.1
  simp only at h h2
  generalize he : a.eval x = v at h
  obtain ⟨u, hgu, xs, hown, hxl, hxr⟩ := hH.blk id _ hrd.1
  obtain ⟨b, cap, c, rfl, hg, hh, hn, hcs, hl, hr⟩ := ptr_arr hH h hrd.1
  rw [hgu] at hg
  injection hg with hg
  subst hg
  obtain ⟨q1, q2, q3⟩ := fcells_rep h2 hp
  have hle : n * sz ≤ cap * sz := Nat.mul_le_mul_right _ hn
  have hst := run_storeVar (P := P) (t := t) (off := off) hs (q1.trans hm) hh (by omega) q3
  refine runs_skip (w' := w.setRow b (splice c.toList off (a.eval y).cells.toList).toArray) (by simp only [execOp, he]; simp [Instr.storeAt, Instr.sureAddr, hst]) ⟨F, g, .refl _ _, .refl _, ?_, .undef _, KeepsD.setRow hh _⟩
  have hvl : (a.eval y).cells.toList.length = new.length := by simp [q1]
  have hmax : cap ≤ maxLen ∧ cx.base ≤ b := by
    rcases hown.2 with h | ⟨b', cap', cur', hv', hb', _, _, hm', _⟩
    · cases h.1
    · injection hv' with e1 e2 e3
      injection e1 with e1
      injection e1 with e1
      subst e1
      subst e3
      exact ⟨hm', hb'⟩
  refine hH.write (k := .arr e sz n cells) (k' := .arr e sz n (splice cells off new)) (b := b) hrd.1 rfl hgu rfl _ ⟨(splice c.toList off (a.eval y).cells.toList).take (n * sz), ⟨?_, .inr ⟨b, cap, _, rfl, hmax.2, setRow_heap w b c _ e _ hh, hn, hmax.1, ?_, rfl⟩⟩, ?_, fun j hj => ?_⟩ (fun _ h => .inl h)
  · rw [List.length_take, splice_length _ _ _ (by rw [hvl]; simp; omega)]
    simp; omega
  · show (splice c.toList off (a.eval y).cells.toList).toArray.size = cap * sz
    rw [List.size_toArray, splice_length _ _ _ (by rw [hvl]; simp; omega)]
    simpa using hcs
  · rw [List.length_take, splice_length _ _ _ (by rw [hvl]; simp; omega), splice_length _ _ _ (by omega)]
    simp; omega
  · have hj' : j < cells.length := by rw [splice_length _ _ _ (by omega)] at hj; exact hj
    have e1 := getD_setRow_cells c (a.eval y).cells.toList off (by rw [hvl]; omega) j
    rw [show ((splice c.toList off (a.eval y).cells.toList).take (n * sz)).getD j Go.undef = (splice c.toList off (a.eval y).cells.toList).toArray.getD j Go.undef by
      simp [Array.getD_eq_getD_getElem?, List.getD_eq_getElem?_getD, List.getElem?_take_of_lt (show j < n * sz by omega)]]
    rw [show splice c.toList off (a.eval y).cells.toList = _ from rfl, splice, e1, splice_get _ _ _ (by omega)]
    by_cases h1 : j < off
    · rw [if_pos h1, dif_pos h1]; exact hr j hj'
    · rw [if_neg h1, dif_neg h1]
      by_cases h3 : j < off + new.length
      · rw [if_pos (by rw [hvl]; omega), dif_pos h3]
        simpa [Array.getD_eq_getD_getElem?, List.getD_eq_getElem?_getD] using q2 (j - off) (by omega)
      · rw [if_neg (by rw [hvl]; omega), dif_neg h3]; exact hr j hj'

/-! ### New variables -/
theorem run_newVar {w : World} {t : TypeId} {v : Value} : (newVar t v).run P w = .ok ⟨w.heap.size, 0, none⟩ (w.alloc (.cells v.cells t)) := by
  simp [newVar, newRow, newObj, Sem.run]

/-- The cells of a new variable. -/
def zcells (z : Value) : List PV :=
  match z with
  | .agg cs => cs.toList.map fun v => match cellOf v with | some c => .cell c | none => .undef
  | v => [match constOf v with | some p => p | none => .undef]

theorem zcells_rep {F B : FMap} {g : GMap} (z : Value) : z.cells.size = (zcells z).length ∧ ∀ (j : Nat) (h : j < (zcells z).length), RepP F B g (z.cells.getD j Go.undef) ((zcells z)[j]'h) := by
  unfold zcells
  split
  · rename_i cs
    refine ⟨by simp [Value.cells], fun j hj => ?_⟩
    simp only [List.getElem_map]
    simp at hj
    split
    · rename_i c hc
      have := cellOf_rep (F := F) hc
      simpa [Value.cells, Array.getD_eq_getD_getElem?, hj] using RepP.cell this
    · exact .undef _
  · rename_i h
    have : z.cells = #[z] := by cases z <;> first | rfl | exact absurd rfl (h _)
    rw [this]
    refine ⟨rfl, fun j hj => ?_⟩
    simp at hj
    subst hj
    simp only [List.getElem_cons_zero]
    split
    · rename_i p hp
      simpa using constOf_rep hp
    · exact .undef _

/-- A new variable's block. -/
theorem HRep.newvar {F : FMap} {g : GMap} {H : Nat → Option Blk} {D : Nat → Prop} {w : World} (h : HRep cx F g H D w) {i : Nat} (hi : ¬ D i) (t : TypeId) (c : Array Value) (cells : List PV) (hl : c.size = cells.length)
    (hr : ∀ (j : Nat) (h : j < cells.length), RepP F cx.B g (c.getD j Go.undef) (cells[j]'h)) {D' : Nat → Prop} (hD : ∀ j, D j ∨ j = i → D' j) :
    ∃ g', g.le g' ∧ HRep cx F g' (upd H [(i, .var cells)]) D' (w.alloc (.cells c t)) ∧ RepP F cx.B g' (.pointer (some ⟨w.heap.size, 0, none⟩)) (.ptr i 0) := by
  have := h.alloc hi (.cells c t) (.var cells) (.pointer (some ⟨w.heap.size, 0, none⟩)) hD rfl (fun g' hg => ⟨_, c, t, rfl, alloc_at w _, hl, fun j hj => (hr j hj).mono (.refl F) hg⟩)
  exact ⟨_, this.1, this.2, .ptr (v := .pointer (some ⟨w.heap.size, 0, none⟩)) 0 (by simp [GMap.set]) rfl⟩

theorem D_one (D : Nat → Prop) (nx : Nat) : ∀ j, D j ∨ j = nx + 0 → D j ∨ (nx ≤ j ∧ j < nx + 1) := fun j h => h.imp id fun h => by omega

theorem ok_alloc {t : TypeId} {z : Value} (hz : tyZero P t = some z) : OpOK P cx ⟨d, .alloc t, ty, ps, af, gd⟩ [] nx ⟨.ptr nx 0, [], [(nx, .var (zcells z))], 1⟩ := by
  intro F g H D a w hH hu _ hn
  obtain ⟨i, hi, hz⟩ := Option.bind_eq_some_iff.1 hz
  obtain ⟨q1, q2⟩ := zcells_rep (F := F) (B := cx.B) (g := g) z
  obtain ⟨g', h1, h2, h3⟩ := hH.newvar (hn 0 (by simp)) t z.cells (zcells z) q1 q2 (D_one D nx)
  refine runs_value (w' := w.alloc (.cells z.cells t)) (v := .pointer (some ⟨w.heap.size, 0, none⟩)) ?_ ⟨F, g', .refl _ _, h1, h2, h3, KeepsD.alloc _ _⟩
  simp [execOp, Instr.alloc, zeroValue, typeInfo, hi, hz, run_newVar]

theorem ok_box {x : Operand} {t : TypeId} {p : PV} {new : List PV} (hp : pcells p = some new) : OpOK P cx ⟨d, .box t x, ty, ps, af, gd⟩ [(x, p)] nx ⟨.ptr nx 0, [], [(nx, .var new)], 1⟩ := by
  intro F g H D a w hH hu _ hn
  obtain ⟨q1, q2, _⟩ := pcells_rep hu.1 hp
  obtain ⟨g', h1, h2, h3⟩ := hH.newvar (hn 0 (by simp)) t (a.eval x).cells new q1 q2 (D_one D nx)
  refine runs_value (w' := w.alloc (.cells (a.eval x).cells t)) (v := .pointer (some ⟨w.heap.size, 0, none⟩)) ?_ ⟨F, g', .refl _ _, h1, h2, h3, KeepsD.alloc _ _⟩
  simp [execOp, Instr.box, run_newVar]

/-! ### Composite values -/
def zeroF (P : Program) (t : TypeId) : Option (List FV) := (tyZero P t).bind fun z => z.cells.toList.mapM cellOf
/-- Where the fields of a struct type lie, and how large they are. -/
def structPl (P : Program) (t : TypeId) : Option (List (Nat × Nat)) :=
  match P.underlying t with
  | some (.struct fs) => fs.toList.mapM fun f => (P.info? f.type).map fun i => (f.offset, i.size)
  | _ => none
/-- The size of an array type's elements. -/
def arrPl (P : Program) (t : TypeId) : Option Nat :=
  match P.underlying t with
  | some (.array _ e) => tySz P e
  | _ => none
def fillF (place : Nat → Option (Nat × Nat)) (cells : List FV) : List (Nat × List FV) → Option (List FV)
  | [] => some cells
  | (i, vs) :: rest => match place i with
    | none => none
    | some (off, size) => bif Nat.beq vs.length size && Nat.ble (off + vs.length) cells.length then fillF place (splice cells off vs) rest else none
/-- The parts' cells. -/
def partF : List (Nat × Operand × PV) → Option (List (Nat × List FV))
  | [] => some []
  | (i, _, p) :: r => match fcells p, partF r with
    | some c, some l => some ((i, c) :: l)
    | _, _ => none

def RepL (F : FMap) (vs : Array Value) (cs : List FV) : Prop := vs.size = cs.length ∧ ∀ (j : Nat) (h : j < cs.length), RepF F (vs.getD j Go.undef) (cs[j]'h)

theorem foldl_set (off : Nat) : ∀ (l : List Value) (k : Nat) (cells : Array Value), ((l.zipIdx k).foldl (fun cs (p : Value × Nat) => cs.setIfInBounds (off + p.2) p.1) cells).size = cells.size ∧
    (off + k + l.length ≤ cells.size → ∀ j, ((l.zipIdx k).foldl (fun cs (p : Value × Nat) => cs.setIfInBounds (off + p.2) p.1) cells).getD j Go.undef = if off + k ≤ j ∧ j < off + k + l.length then l.getD (j - (off + k)) Go.undef else cells.getD j Go.undef)
  | [], k, cells => ⟨rfl, fun _ j => by simp; intro h1 h2; omega⟩
  | v :: l, k, cells => by
    obtain ⟨h1, h2⟩ := foldl_set off l (k + 1) (cells.setIfInBounds (off + k) v)
    refine ⟨by simpa using h1, fun hle j => ?_⟩
    simp only [List.zipIdx_cons, List.foldl_cons]
    rw [h2 (by simp at hle ⊢; omega) j]
    simp only [List.length_cons] at hle ⊢
    by_cases ha : off + (k + 1) ≤ j ∧ j < off + (k + 1) + l.length
    · rw [if_pos ha, if_pos (by omega)]
      rw [show j - (off + k) = (j - (off + (k + 1))) + 1 by omega]
      simp
    · rw [if_neg ha]
      by_cases hb : j = off + k
      · subst hb
        rw [if_pos (by omega)]
        simp only [Array.getD_eq_getD_getElem?]
        rw [Array.getElem?_setIfInBounds_self_of_lt (by omega)]
        simp
      · rw [if_neg (by omega)]
        simp only [Array.getD_eq_getD_getElem?]
        rw [Array.getElem?_setIfInBounds_ne (by omega)]

theorem fill_rep {F : FMap} {place : Nat → Option (Nat × Nat)} : ∀ {parts : List (Nat × Value)} {fp : List (Nat × List FV)} {cells : Array Value} {cs out : List FV},
    RepL F cells cs → parts.length = fp.length → (∀ j (h : j < parts.length) (h' : j < fp.length), parts[j].1 = fp[j].1 ∧ RepL F parts[j].2.cells fp[j].2) → fillF place cs fp = some out →
    ∃ r, Instr.fill place cells parts = some r ∧ RepL F r out
  | [], [], cells, cs, out, hc, _, _, ho => by
    injection ho with ho
    subst ho
    exact ⟨cells, rfl, hc⟩
  | [], _ :: _, _, _, _, _, hl, _, _ => by simp at hl
  | _ :: _, [], _, _, _, _, hl, _, _ => by simp at hl
  | (i, v) :: parts, (i', vs) :: fp, cells, cs, out, hc, hl, hp, ho => by
    have h0 := hp 0 (by simp) (by simp)
    simp only [List.getElem_cons_zero] at h0
    obtain ⟨rfl, hv⟩ := h0
    unfold fillF at ho
    unfold Instr.fill
    cases hpl : place i with
    | none => rw [hpl] at ho; cases ho
    | some q =>
      obtain ⟨off, size⟩ := q
      rw [hpl] at ho
      simp only at ho ⊢
      cases hb : (Nat.beq vs.length size && Nat.ble (off + vs.length) cs.length) with
      | false => rw [hb] at ho; cases ho
      | true =>
        rw [hb] at ho
        simp only [Bool.and_eq_true, Nat.beq_eq, Nat.ble_eq] at hb
        rw [if_neg (by rw [hv.1, hc.1]; simp only [decide_eq_true_eq, not_or, Decidable.not_not, ne_eq, gt_iff_lt, Bool.or_eq_true, Nat.not_lt]; omega)]
        refine fill_rep (cs := splice cs off vs) ⟨?_, fun j hj => ?_⟩ (by simpa using hl) (fun j h h' => hp (j + 1) (Nat.succ_lt_succ h) (Nat.succ_lt_succ h')) ho
        · have := (foldl_set off v.cells.toList 0 cells).1
          rw [splice_length _ _ _ hb.2, ← hc.1]
          rw [← Array.foldl_toList]
          simpa using this
        · have hj' : j < cs.length := by rw [splice_length _ _ _ hb.2] at hj; exact hj
          have hlen : v.cells.toList.length = vs.length := by simp [hv.1]
          have := (foldl_set off v.cells.toList 0 cells).2 (by rw [hlen, hc.1]; omega) j
          rw [← Array.foldl_toList]
          rw [show v.cells.zipIdx.toList = v.cells.toList.zipIdx 0 by simp]
          rw [this, splice_get _ _ _ hb.2, hlen]
          by_cases h1 : j < off
          · rw [if_neg (by omega), dif_pos h1]; exact hc.2 j hj'
          · rw [dif_neg h1]
            by_cases h2 : j < off + vs.length
            · rw [if_pos (by omega), dif_pos h2]
              have := hv.2 (j - off) (by omega)
              simpa [Array.getD_eq_getD_getElem?, List.getD_eq_getElem?_getD] using this
            · rw [if_neg (by omega), dif_neg h2]; exact hc.2 j hj'

theorem partF_rep {F B : FMap} {g : GMap} {a : Act} : ∀ {l : List (Nat × Operand × PV)} {fp : List (Nat × List FV)}, RepAll F B g a (l.map fun q => (q.2.1, q.2.2)) → partF l = some fp →
    (l.map fun q => (q.1, a.eval q.2.1)).length = fp.length ∧ ∀ j (h : j < (l.map fun q => (q.1, a.eval q.2.1)).length) (h' : j < fp.length), (l.map fun q => (q.1, a.eval q.2.1))[j].1 = fp[j].1 ∧ RepL F (l.map fun q => (q.1, a.eval q.2.1))[j].2.cells fp[j].2
  | [], fp, _, hf => by
    injection hf with hf
    subst hf
    exact ⟨rfl, fun j h => absurd h (by simp)⟩
  | (i, x, p) :: l, fp, hu, hf => by
    unfold partF at hf
    cases hc : fcells p with
    | none => rw [hc] at hf; cases hf
    | some c =>
      cases hr : partF l with
      | none => rw [hc, hr] at hf; cases hf
      | some fl =>
        rw [hc, hr] at hf
        injection hf with hf
        subst hf
        obtain ⟨h1, h2⟩ := partF_rep hu.2 hr
        have hq := fcells_rep hu.1 hc
        refine ⟨by simpa using h1, fun j h h' => ?_⟩
        cases j with
        | zero => exact ⟨rfl, hq.1, hq.2.1⟩
        | succ j => exact h2 j (by simpa using h) (by simpa using h')

theorem zeroF_spec {F : FMap} {t : TypeId} {zc : List FV} (h : zeroF P t = some zc) : ∃ i z, P.info? t = some i ∧ i.zero = some z ∧ RepL F z.cells zc := by
  obtain ⟨z, hz, hm⟩ := Option.bind_eq_some_iff.1 h
  obtain ⟨i, hi, hz⟩ := Option.bind_eq_some_iff.1 hz
  obtain ⟨h1, h2⟩ := mapM_cellOf (F := F) hm
  refine ⟨i, z, hi, hz, by simpa using h1, fun j hj => ?_⟩
  have := h2 j hj
  simpa [Array.getD_eq_getD_getElem?, List.getD_eq_getElem?_getD] using this

theorem run_sizeOf {w : World} {t : TypeId} {n : Nat} (h : tySz P t = some n) : (sizeOf t).run P w = .ok n w := by
  obtain ⟨i, hi, rfl⟩ := Option.map_eq_some_iff.1 h
  simp [sizeOf, typeInfo, hi]

theorem fill_size {place : Nat → Option (Nat × Nat)} : ∀ {parts : List (Nat × Value)} {cells r : Array Value}, Instr.fill place cells parts = some r → r.size = cells.size
  | [], _, _, h => by injection h with h; subst h; rfl
  | (i, v) :: parts, cells, r, h => by
    unfold Instr.fill at h
    split at h
    · cases h
    · rename_i off size hp
      split at h
      · cases h
      · have h1 := fill_size h
        have h2 := (foldl_set off v.cells.toList 0 cells).1
        rw [← Array.foldl_toList] at h1
        rw [h1]
        simpa using h2

theorem ok_build {t : TypeId} {l : List (Nat × Operand × PV)} {zc cs : List FV} {pl : List (Nat × Nat)} {fp : List (Nat × List FV)} (hz : zeroF P t = some zc) (hpl : structPl P t = some pl) (hp : partF l = some fp) (hf : fillF (fun i => pl[i]?) zc fp = some cs) :
    OpOK P cx ⟨d, .build t (l.map fun q => (q.1, q.2.1)).toArray, ty, ps, af, gd⟩ (l.map fun q => (q.2.1, q.2.2)) nx ⟨.agg cs, [], [], 0⟩ :=
  OpOK.pure fun F g H D a w hH hu _ => by
    obtain ⟨i, z, hi, hzz, hzr⟩ := zeroF_spec (F := F) hz
    obtain ⟨h1, h2⟩ := partF_rep hu hp
    obtain ⟨r, hr, hrep⟩ := fill_rep (place := fun i => pl[i]?) hzr h1 h2 hf
    refine ⟨.agg r, ?_, .agg r cs hrep.1 hrep.2⟩
    have hmap : ((l.map fun q => (q.1, q.2.1)).toArray.map fun (q : Nat × Operand) => (q.1, a.eval q.2)).toList = l.map fun q => (q.1, a.eval q.2.1) := by simp [Function.comp_def]
    unfold structPl at hpl
    split at hpl
    · rename_i fs hu'
      have hb : P.built t ((l.map fun q => (q.1, q.2.1)).toArray.map fun (q : Nat × Operand) => (q.1, a.eval q.2)).toList = some r := by
        rw [hmap]
        simp only [Program.built, hi, hu', hzz, hpl]
        simpa using hr
      simp only [execOp, Sem.run_bind, run_build w t _ r hb, Result.andThen_ok, Sem.run_pure]
    · cases hpl

theorem ok_build_arr {t : TypeId} {l : List (Nat × Operand × PV)} {zc cs : List FV} {n : Nat} {fp : List (Nat × List FV)} (hz : zeroF P t = some zc) (hpl : arrPl P t = some n) (hp : partF l = some fp) (hf : fillF (fun i => some (i * n, n)) zc fp = some cs) :
    OpOK P cx ⟨d, .build t (l.map fun q => (q.1, q.2.1)).toArray, ty, ps, af, gd⟩ (l.map fun q => (q.2.1, q.2.2)) nx ⟨.agg cs, [], [], 0⟩ :=
  OpOK.pure fun F g H D a w hH hu _ => by
    obtain ⟨i, z, hi, hzz, hzr⟩ := zeroF_spec (F := F) hz
    obtain ⟨h1, h2⟩ := partF_rep hu hp
    obtain ⟨r, hr, hrep⟩ := fill_rep (place := fun i => some (i * n, n)) hzr h1 h2 hf
    refine ⟨.agg r, ?_, .agg r cs hrep.1 hrep.2⟩
    have hmap : ((l.map fun q => (q.1, q.2.1)).toArray.map fun (q : Nat × Operand) => (q.1, a.eval q.2)).toList = l.map fun q => (q.1, a.eval q.2.1) := by simp [Function.comp_def]
    unfold arrPl at hpl
    split at hpl
    · rename_i m e hu'
      obtain ⟨ie, hie, rfl⟩ := Option.map_eq_some_iff.1 hpl
      have hb : P.built t ((l.map fun q => (q.1, q.2.1)).toArray.map fun (q : Nat × Operand) => (q.1, a.eval q.2)).toList = some r := by
        rw [hmap]
        simp only [Program.built, hi, hu', hzz, hie]
        simpa using hr
      simp only [execOp, Sem.run_bind, run_build w t _ r hb, Result.andThen_ok, Sem.run_pure]
    · cases hpl

end
end Go.Proofs.Gh
end
section
set_option linter.unusedVariables false
set_option linter.unusedSimpArgs false
namespace Go.Proofs.Gh
open Go.RowKit

/-- A slice type's element type; its zero cells, the number of its cells, its bytes. -/
structure ElemInfo where
  e : TypeId
  zc : List FV
  sz : Nat
  bytes : Nat
def elemInfo (P : Program) (t : TypeId) : Option ElemInfo :=
  match P.underlying t with
  | some (.slice e) => match zeroF P e, P.info? e with
    | some zc, some i => if zc.length = i.size ∧ 0 < i.size then some ⟨e, zc, i.size, i.bytes⟩ else none
    | _, _ => none
  | _ => none
theorem elemInfo_spec {P : Program} {t : TypeId} {E : ElemInfo} (h : elemInfo P t = some E) (F : FMap) : ∃ i z, P.underlying t = some (.slice E.e) ∧ P.info? E.e = some i ∧ i.zero = some z ∧ i.size = E.sz ∧ i.bytes = E.bytes ∧ RepL F z.cells E.zc ∧ E.zc.length = E.sz ∧ 0 < E.sz := by
  unfold elemInfo at h
  split at h
  · rename_i e hu
    split at h
    · rename_i zc i hz hi
      split at h
      · rename_i hc
        injection h with h
        subst h
        obtain ⟨i', z, hi', hz', hr⟩ := zeroF_spec (F := F) hz
        rw [hi] at hi'
        injection hi' with hi'
        subst hi'
        exact ⟨i, z, hu, hi, hz', rfl, rfl, hr, hc.1, hc.2⟩
      · cases h
    · cases h
  · cases h

/-- The zero cells, n times. -/
def reps (zc : List FV) (n : Nat) : List FV := (List.replicate n zc).flatten
theorem reps_length (zc : List FV) (n : Nat) : (reps zc n).length = n * zc.length := by simp [reps]
theorem reps_get (zc : List FV) (hz : 0 < zc.length) : ∀ (n j : Nat) (h : j < (reps zc n).length), (reps zc n)[j] = zc[j % zc.length]'(Nat.mod_lt _ hz)
  | 0, j, h => by simp [reps] at h
  | n + 1, j, h => by
    have e : reps zc (n + 1) = zc ++ reps zc n := by simp [reps, List.replicate_succ]
    simp only [e]
    by_cases hj : j < zc.length
    · rw [List.getElem_append_left hj]
      simp only [Nat.mod_eq_of_lt hj]
    · rw [List.getElem_append_right (by omega), reps_get zc hz n]
      congr 1
      rw [Nat.mod_eq_sub_mod (a := j) (by omega)]

section
variable {P : Program} {cx : Cx} {d : Option Tmp} {ty : TypeId} {ps : String} {af : Array Edge} {gd : Option (Nat × Bool)} {nx : Nat}

theorem made_rep {F : FMap} {z : Array Value} {zc : List FV} (h : RepL F z zc) (hz : 0 < zc.length) (n : Nat) : RepL F (madeCells z (n * zc.length)) (reps zc n) := by
  refine ⟨by simp [size_madeCells, reps_length], fun j hj => ?_⟩
  rw [reps_get zc hz]
  have hj' : j < n * zc.length := by rw [← reps_length]; exact hj
  have hm : j % zc.length < zc.length := Nat.mod_lt _ hz
  have := h.2 (j % zc.length) hm
  have e : (madeCells z (n * zc.length)).getD j Go.undef = z.getD (j % zc.length) Go.undef := by
    simp only [madeCells, Array.getD_eq_getD_getElem?]
    rw [← h.1] at hm ⊢
    simp [show j < n * z.size by rw [h.1]; exact hj', hm]
  rw [e]
  exact this

/-- A new array's block. -/
theorem HRep.newarr {F : FMap} {g : GMap} {H : Nat → Option Blk} {D : Nat → Prop} {w : World} (h : HRep cx F g H D w) {i : Nat} (hi : ¬ D i) (e sz n : Nat) (c : Array Value) (cells : List FV) (hr : RepL F c cells) (hs : c.size = n * sz) (hn : n ≤ maxLen) {D' : Nat → Prop} (hD : ∀ j, D j ∨ j = i → D' j) :
    ∃ g', g.le g' ∧ HRep cx F g' (upd H [(i, .arr e sz n cells)]) D' (w.alloc (.cells c e)) ∧ RepP F cx.B g' (.slice (some ⟨w.heap.size, 0, none⟩) n n) (.own i n) := by
  have := h.alloc hi (.cells c e) (.arr e sz n cells) (.slice (some ⟨w.heap.size, 0, none⟩) n n) hD rfl (fun g' hg => ⟨c.toList, World.ownsRow_lit w c n h.le hn hs, by simpa using hr.1, fun j hj => by
    have := hr.2 j hj
    simpa [Array.getD_eq_getD_getElem?, List.getD_eq_getElem?_getD] using this⟩)
  exact ⟨_, this.1, this.2, .own n (v := .slice (some ⟨w.heap.size, 0, none⟩) n n) (by simp [GMap.set]) _ _ rfl⟩

theorem ok_makeSlice {x : Operand} {t : TypeId} {E : ElemInfo} {k : IntKind} {m : Int} (ht : elemInfo P t = some E) (h0 : 0 ≤ m) (hb : E.bytes * m.toNat ≤ 281474976710656) (h63 : m ≤ 9223372036854775807) :
    OpOK P cx ⟨d, .makeSlice t x x, ty, ps, af, gd⟩ [(x, .cell (.int k m))] nx ⟨.own nx m.toNat, [], [(nx, .arr E.e E.sz m.toNat (reps E.zc m.toNat))], 1⟩ := by
  intro F g H D a w hH hu _ hn
  have h := rep_int hu.1
  simp only at h
  obtain ⟨i, z, h1, h2, h3, h4, h5, h6, h7, h8⟩ := elemInfo_spec ht F
  have hr := made_rep h6 (by omega) m.toNat
  rw [h7] at hr
  have hmk := run_make (P := P) w t E.e i z h1 h2 h3 k k m m h0 (Int.le_refl _) (by
    rw [h5]
    have : (E.bytes : Int) * m = ((E.bytes * m.toNat : Nat) : Int) := by rw [Int.natCast_mul, Int.toNat_of_nonneg h0]
    omega) h63
  rw [h4] at hmk
  obtain ⟨g', q1, q2, q3⟩ := hH.newarr (hn 0 (by simp)) E.e E.sz m.toNat _ _ hr (size_madeCells _ _) (by unfold maxLen; omega) (D_one D nx)
  exact runs_value (by simp only [execOp, h, Sem.run_bind, hmk, Result.andThen_ok, Sem.run_pure]) ⟨F, g', .refl _ _, q1, q2, q3, KeepsD.alloc _ _⟩

theorem ok_buildSlice {t : TypeId} {n : Nat} {E : ElemInfo} {l : List (Nat × Operand × PV)} {cs : List FV} {fp : List (Nat × List FV)} (ht : elemInfo P t = some E) (hn24 : Nat.ble (n * E.sz) 16777216 = true) (hp : partF l = some fp) (hf : fillF (fun i => some (i * E.sz, E.sz)) (reps E.zc n) fp = some cs) :
    OpOK P cx ⟨d, .buildSlice t n (l.map fun q => (q.1, q.2.1)).toArray, ty, ps, af, gd⟩ (l.map fun q => (q.2.1, q.2.2)) nx ⟨.own nx n, [], [(nx, .arr E.e E.sz n cs)], 1⟩ := by
  intro F g H D a w hH hu _ hnn
  rw [Nat.ble_eq] at hn24
  obtain ⟨i, z, h1, h2, h3, h4, h5, h6, h7, h8⟩ := elemInfo_spec ht F
  obtain ⟨p1, p2⟩ := partF_rep hu hp
  have hr := made_rep h6 (by omega) n
  rw [h7] at hr
  obtain ⟨r, hfill, hrep⟩ := fill_rep (place := fun i => some (i * E.sz, E.sz)) hr p1 p2 hf
  have hrs : r.size = n * E.sz := by
    have := fill_size hfill
    rw [this, size_madeCells]
  have hle : n ≤ n * E.sz := Nat.le_mul_of_pos_right _ h8
  obtain ⟨g', q1, q2, q3⟩ := hH.newarr (hnn 0 (by simp)) E.e E.sz n _ _ hrep hrs (by unfold maxLen; omega) (D_one D nx)
  refine runs_value (w' := w.alloc (.cells r E.e)) (v := .slice (some ⟨w.heap.size, 0, none⟩) n n) ?_ ⟨F, g', .refl _ _, q1, q2, q3, KeepsD.alloc _ _⟩
  have hmap : ((l.map fun q => (q.1, q.2.1)).toArray.map fun (q : Nat × Operand) => (q.1, a.eval q.2)).toList = l.map fun q => (q.1, a.eval q.2.1) := by simp [Function.comp_def]
  simp only [execOp]
  generalize ((l.map fun q => (q.1, q.2.1)).toArray.map fun (q : Nat × Operand) => (q.1, a.eval q.2)) = parts at hmap ⊢
  simp only [Instr.buildSlice, Sem.run_bind, run_underlying h1, Result.andThen_ok, run_sizeOf (show tySz P E.e = some E.sz by simp [tySz, h2, h4])]
  have hp24 : ¬ (n * E.sz > 2 ^ 24) := by omega
  rw [if_neg hp24]
  have hfill' : Instr.fill (fun i => some (i * E.sz, E.sz)) (madeCells z.cells (n * E.sz)) parts.toList = some r := by rw [hmap]; exact hfill
  by_cases h0 : n * E.sz = 0
  · have e0 : madeCells z.cells (n * E.sz) = (Array.range (n * E.sz)).map fun x => (#[] : Array Value)[x % (#[] : Array Value).size]! := by simp [madeCells, h0]
    rw [if_pos h0]
    simp only [pure_bind]
    rw [← e0, hfill']
    simp [newRow, newObj, Sem.run]
  · rw [if_neg h0]
    simp only [Sem.run_bind, zeroValue, typeInfo, h2, h3]
    simp only [madeCells] at hfill'
    simp [h2, h3, hfill', newRow, newObj, Sem.run]

end
end Go.Proofs.Gh
end
