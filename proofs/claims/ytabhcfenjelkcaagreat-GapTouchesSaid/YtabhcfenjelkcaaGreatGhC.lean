/-
  GHOST, part 11: the rules by which code is walked over abstract states; from a walk to a contract. No statement of the seat.
  GHOST, part 12: the steps as the walks use them. No statement of the seat.
  GHOST, part 13: small helps for walks: sums that fit, tests, results. No statement of the seat.
  GHOST, part 14: drawing regions step by step, with cases; lists of numbers and of rows; nil as an own list. No statement of the seat.
  GHOST, part 15: copy; unsigned numbers; equality of structs. No statement of the seat.
-/
import Derived.Test.YtabhcfenjelkcaaGreatGhB
import Derived.RangeFuncBox
import Derived.Laws.CopyRow
import Derived.Laws.IdiomCopy
import Derived.Laws.Bits64
section
set_option linter.unusedVariables false
set_option linter.unusedSimpArgs false
namespace Go.Proofs.Gh
open Go.RowKit

/-! ### Loops with a measure that stands in no slot -/
theorem wp_loop_rel {P : Program} {F : Fence} {nn : Nat} {c : Code} {Q : Exit → Act → World → Prop} (I : Nat → Act → World → Prop)
    (round : ∀ n a w, I n a w → c.wpIn F nn P (Exit.then (fun a' w' => ∃ m, m < n ∧ I m a' w') Q) a w) (n : Nat) (a : Act) (w : World) (h0 : I n a w) : (Code.loop c).wpIn F nn P Q a w := by
  intro b k cs hro hb hr
  have key : ∀ n a w, I n a w → ∃ e a' w', Q e a' w' ∧ ArrivesIn (Machine.fenced P F) P (lone (b.atR a (.code c :: .inLoop c :: k)) cs w) b k cs e a' w' := by
    intro n
    induction n using Nat.strongRecOn with
    | _ n ih =>
      intro a w hI
      obtain ⟨e, a₁, w₁, hq, harr⟩ := round n a w hI b (.inLoop c :: k) cs hro hb hr
      cases e with
      | normal =>
        obtain ⟨m, hm, hI₁⟩ := hq
        obtain ⟨e₂, a₂, w₂, hq₂, harr₂⟩ := ih m hm a₁ w₁ hI₁
        exact ⟨e₂, a₂, w₂, hq₂, .of_steps (StepsIn.trans harr (.one (fenced_calm hb hr rfl) stepR_inLoop)) harr₂⟩
      | exit id => exact ⟨_, a₁, w₁, hq, .pass (x := .inLoop c) rfl (fun _ _ => .inl (by simp)) harr⟩
      | goto l => exact ⟨_, a₁, w₁, hq, .pass (x := .inLoop c) rfl (fun _ _ => .inl (by simp)) harr⟩
      | ret => exact ⟨_, a₁, w₁, hq, .pass (x := .inLoop c) rfl (fun _ _ => .inl (by simp)) harr⟩
      | panic ch => exact ⟨_, a₁, w₁, hq, .pass (x := .inLoop c) rfl (fun _ _ => .inl (by simp)) harr⟩
      | outgrown => exact ⟨_, a₁, w₁, hq, .pass (x := .inLoop c) rfl (fun _ _ => .inl (by simp)) harr⟩
  obtain ⟨e, a', w', hq, harr⟩ := key n a w h0
  exact ⟨e, a', w', hq, .of_steps (.one (fenced_calm hb hr rfl) stepR_loop) harr⟩

/-! ### States -/
/-- What follows: n where the code ends, x where it leaves a block, r where the function returns. -/
def Post (cx : Cx) (N : Nat) (F0 : FMap) (n : St → Prop) (x : Nat → St → Prop) (r : St → Prop) : Exit → Act → World → Prop := fun e a w =>
  ∃ F g s, FMap.ext cx.base F0 F ∧ SRep cx N F g s a w ∧ match e with
    | .normal => n s
    | .exit i => x i s
    | .ret => r s
    | _ => False

def AWP (P : Program) (cx : Cx) (N : Nat) (c : Code) (n : St → Prop) (x : Nat → St → Prop) (r : St → Prop) (s : St) : Prop :=
  ∀ (F0 F : FMap) (g : GMap) (a : Act) (w : World), FMap.ext cx.base F0 F → SRep cx N F g s a w → c.wpIn (wideAt cx.rd) 0 P (Post cx N F0 n x r) a w

/-- A list of operations in the text's order. -/
def OPS (P : Program) (cx : Cx) (N : Nat) (ops : Array Oper) (l : List Oper) (n : St → Prop) (x : Nat → St → Prop) (r : St → Prop) (s : St) : Prop :=
  ∀ (F0 F : FMap) (g : GMap) (a : Act) (w : World), FMap.ext cx.base F0 F → SRep cx N F g s a w → wpListIn (wideAt cx.rd) 0 P ops (Post cx N F0 n x r) l a w

section
variable {P : Program} {cx : Cx} {N : Nat} {n : St → Prop} {x : Nat → St → Prop} {r : St → Prop} {s : St}

theorem AWP.seq {c d : Code} (h : AWP P cx N c (fun s => AWP P cx N d n x r s) x r s) : AWP P cx N (c.seq d) n x r s := by
  intro F0 F g a w h0 hS
  refine wpIn_seq (Code.wpIn_mono ?_ (h F0 F g a w h0 hS))
  intro e a w hp
  obtain ⟨F1, g1, s1, h1, h2, h3⟩ := hp
  cases e with
  | normal => exact h3 F0 F1 g1 a w h1 h2
  | exit i => exact ⟨F1, g1, s1, h1, h2, h3⟩
  | ret => exact ⟨F1, g1, s1, h1, h2, h3⟩
  | goto l => exact h3.elim
  | panic ch => exact h3.elim
  | outgrown => exact h3.elim

theorem AWP.skip (h : n s) : AWP P cx N .skip n x r s := fun F0 F g a w h0 hS => wpIn_skip ⟨F, g, s, h0, hS, h⟩
theorem AWP.label {l : Nat} (h : n s) : AWP P cx N (.label l) n x r s := fun F0 F g a w h0 hS => wpIn_label ⟨F, g, s, h0, hS, h⟩
theorem AWP.exit {i : Nat} (h : x i s) : AWP P cx N (.exit i) n x r s := fun F0 F g a w h0 hS => wpIn_exit ⟨F, g, s, h0, hS, h⟩
theorem AWP.ret (h : r s) : AWP P cx N .ret n x r s := fun F0 F g a w h0 hS => wpIn_ret ⟨F, g, s, h0, hS, h⟩

theorem AWP.block {i : Nat} {c : Code} (h : AWP P cx N c n (fun j s => bif Nat.beq j i then n s else x j s) r s) : AWP P cx N (.block i c) n x r s := by
  intro F0 F g a w h0 hS
  refine wpIn_block (Code.wpIn_mono ?_ (h F0 F g a w h0 hS))
  intro e a w hp
  obtain ⟨F1, g1, s1, h1, h2, h3⟩ := hp
  cases e with
  | exit j =>
    show if j = i then Post cx N F0 n x r .normal a w else Post cx N F0 n x r (.exit j) a w
    by_cases hj : j = i
    · rw [if_pos hj]
      have : Nat.beq j i = true := by rw [Nat.beq_eq]; exact hj
      simp only [this, cond_true] at h3
      exact ⟨F1, g1, s1, h1, h2, h3⟩
    · rw [if_neg hj]
      have : Nat.beq j i = false := by rw [← Bool.not_eq_true, Nat.beq_eq]; exact hj
      simp only [this, cond_false] at h3
      exact ⟨F1, g1, s1, h1, h2, h3⟩
  | normal => exact ⟨F1, g1, s1, h1, h2, h3⟩
  | ret => exact ⟨F1, g1, s1, h1, h2, h3⟩
  | goto l => exact h3.elim
  | panic ch => exact h3.elim
  | outgrown => exact h3.elim

theorem AWP.cond {c : Operand} {t e : Code} {b : Bool} (hc : ev s.fr c = some (.cell (.bool b))) (ht : b = true → AWP P cx N t n x r s) (he : b = false → AWP P cx N e n x r s) : AWP P cx N (.cond c t e) n x r s := by
  intro F0 F g a w h0 hS
  have := rep_bool (ev_rep hS.fr hc)
  refine wpIn_cond_split this (fun hb => ht hb F0 F g a w h0 hS) (fun hb => he hb F0 F g a w h0 hS)

/-- A loop: 'I m s' at each round's head, m goes down. -/
theorem AWP.loop {c : Code} (I : Nat → St → Prop) (m0 : Nat) (h0 : I m0 s) (round : ∀ m s, I m s → AWP P cx N c (fun s' => ∃ m', m' < m ∧ I m' s') x r s) : AWP P cx N (.loop c) n x r s := by
  intro F0 F g a w hF0 hS
  refine wp_loop_rel (fun m a w => ∃ F1 g1 s1, FMap.ext cx.base F0 F1 ∧ SRep cx N F1 g1 s1 a w ∧ I m s1) ?_ m0 a w ⟨F, g, s, hF0, hS, h0⟩
  rintro m a w ⟨F1, g1, s1, h1, h2, h3⟩
  refine Code.wpIn_mono ?_ (round m s1 h3 F0 F1 g1 a w h1 h2)
  intro e a w hp
  obtain ⟨F2, g2, s2, hF, q2, q3⟩ := hp
  cases e with
  | normal =>
    obtain ⟨m', hm, hI⟩ := q3
    exact ⟨m', hm, F2, g2, s2, hF, q2, hI⟩
  | exit i => exact ⟨F2, g2, s2, hF, q2, q3⟩
  | ret => exact ⟨F2, g2, s2, hF, q2, q3⟩
  | goto l => exact q3.elim
  | panic ch => exact q3.elim
  | outgrown => exact q3.elim

theorem AWP.region {i : Nat} {ops : Array Oper} (h : OPS P cx N ops ops.toList n x r s) : AWP P cx N (.region i ops false) n x r s := fun F0 F g a w h0 hS => wpIn_region_list (h F0 F g a w h0 hS)

theorem AWP.mono {c : Code} {n' : St → Prop} (h : AWP P cx N c n x r s) (hn : ∀ s, n s → n' s) : AWP P cx N c n' x r s := by
  intro F0 F g a w h0 hS
  refine Code.wpIn_mono ?_ (h F0 F g a w h0 hS)
  intro e a w hp
  obtain ⟨F1, g1, s1, h1, h2, h3⟩ := hp
  exact ⟨F1, g1, s1, h1, h2, by cases e <;> first | exact h3 | exact hn _ h3⟩

/-- Fewer slots and blocks may be known. -/
def Sub (s s' : St) : Prop := (∀ t v, lk s'.fr t = some v → lk s.fr t = some v) ∧ (∀ i k, lk s'.H i = some k → lk s.H i = some k) ∧ s.nx ≤ s'.nx
theorem SRep.sub {F : FMap} {g : GMap} {s s' : St} {a : Act} {w : World} (h : SRep cx N F g s a w) (hs : Sub s s') : SRep cx N F g s' a w :=
  ⟨h.defers, h.size, fun t v hv => h.fr t v (hs.1 t v hv), ⟨h.heap.agree, h.heap.agreeB, h.heap.below, h.heap.le, fun i v hv => Nat.lt_of_lt_of_le (h.heap.dom i v hv) hs.2.2,
    fun i k hk => h.heap.blk i k (hs.2.1 i k hk), fun i k v b hk => h.heap.own i k v b (hs.2.1 i k hk), fun i j k l v u b hk hl => h.heap.inj i j k l v u b (hs.2.1 i k hk) (hs.2.1 j l hl)⟩, h.keep, h.keepW⟩
theorem AWP.sub {c : Code} {s' : St} (hs : Sub s s') (h : AWP P cx N c n x r s') : AWP P cx N c n x r s := fun F0 F g a w h0 hS => h F0 F g a w h0 (hS.sub hs)

/-- What the new state knows, one by one. -/
def AllLk {β : Type} (l : List (Nat × β)) : List (Nat × β) → Prop
  | [] => True
  | (t, v) :: r => lk l t = some v ∧ AllLk l r
theorem AllLk.get {β : Type} {l : List (Nat × β)} : ∀ {m : List (Nat × β)}, AllLk l m → ∀ t v, lk m t = some v → lk l t = some v
  | (k, u) :: r, h, t, v, hv => by
    by_cases hk : k = t
    · subst hk
      rw [lk_cons_eq] at hv
      injection hv with hv
      subst hv
      exact h.1
    · rw [lk_cons_ne _ _ hk] at hv
      exact AllLk.get h.2 t v hv
theorem Sub.mk' {fr fr' : Fr} {H H' : Hp} {nx nx' : Nat} (h1 : AllLk fr fr') (h2 : AllLk H H') (h3 : nx ≤ nx') : Sub ⟨fr, H, nx⟩ ⟨fr', H', nx'⟩ := ⟨h1.get, h2.get, h3⟩

/-! ### Steps over lists -/
def EvAll (fr : Fr) : List (Operand × PV) → Prop
  | [] => True
  | u :: l => ev fr u.1 = some u.2 ∧ EvAll fr l
theorem EvAll.all {fr : Fr} : ∀ {us : List (Operand × PV)}, EvAll fr us → AllEv (lk fr) us
  | [], _ => trivial
  | (x, p) :: l, h => ⟨by cases x <;> exact h.1, EvAll.all h.2⟩
theorem EvAll.rep {F B : FMap} {g : GMap} {fr : Fr} {a : Act} (h : FRep F B g fr a) : ∀ {us : List (Operand × PV)}, EvAll fr us → RepAll F B g a us
  | [], _ => trivial
  | (x, p) :: l, hu => ⟨ev_rep h hu.1, EvAll.rep h hu.2⟩

/-- The operation, at these slots and blocks, comes to this. -/
def Stp (P : Program) (cx : Cx) (o : Oper) (fr : Fr) (H : Hp) (nx : Nat) (e : Eff) : Prop :=
  ∃ us, OpOK P cx o us nx e ∧ (∀ u ∈ us, u.1 ∈ o.op.operands.toList) ∧ EvAll fr us ∧ RdAll (lk H) e.rd

def putf (d : Option Tmp) (p : PV) (fr : Fr) : Fr :=
  match d with
  | some t => (t, p) :: fr
  | none => fr
theorem lk_putf {d : Option Tmp} {p : PV} {fr : Fr} (t : Nat) : lk (putf d p fr) t = if d = some t then some p else lk fr t := by
  cases d with
  | none => simp [putf]
  | some d =>
    by_cases h : d = t
    · subst h; simp [putf, lk_cons_eq]
    · simp [putf, lk_cons_ne _ _ h, h]

def dstOK (N : Nat) (d : Option Tmp) : Bool := match d with | some t => Nat.blt t N | none => true
theorem dstOK_spec {d : Option Tmp} (h : dstOK N d = true) : ∀ t, d = some t → t < N := by
  rintro t rfl
  simpa [dstOK, Nat.blt_eq] using h

theorem OPS.nil {ops : Array Oper} (h : n s) : OPS P cx N ops [] n x r s := fun F0 F g a w h0 hS => ⟨F, g, s, h0, hS, h⟩

theorem srep_step {F F' : FMap} {g g' : GMap} {fr : Fr} {H : Hp} {nx : Nat} {a : Act} {w w' : World} {e : Eff} {d : Option Tmp} {v : Value} (hS : SRep cx N F g ⟨fr, H, nx⟩ a w) (hd : dstOK N d = true) (h1 : FMap.ext cx.base F F') (h2 : g.le g') (h3 : HRep cx F' g' (upd (lk H) e.wr) (fun i => i < nx ∨ (nx ≤ i ∧ i < nx + e.nn)) w') (h4 : RepP F' cx.B g' v e.val) (h5 : KeepsD w w') :
    SRep cx N F' g' ⟨putf d e.val fr, e.wr ++ H, nx + e.nn⟩ (a.put d v) w' := by
  refine ⟨hS.defers.kept (put_defers ..) h5, by rw [put_size]; exact hS.size, ?_, ?_, cx.up _ _ h2 hS.keep, Cx.upK hS.keepW h5⟩
  · exact put_rep (fun t v hv => (hS.fr t v hv).mono h1.1 h2) hS.size (dstOK_spec hd) h4 fun t => lk_putf t
  · rw [upd_lk] at h3
    exact h3.monoD fun i hi => by show i < nx + e.nn; omega

theorem OPS.cons {ops : Array Oper} {o : Oper} {rest : List Oper} {fr : Fr} {H : Hp} {nx : Nat} {e : Eff} (hg : o.guard = none) (hd : dstOK N o.dst = true) (h : Stp P cx o fr H nx e) (hk : OPS P cx N ops rest n x r ⟨putf o.dst e.val fr, e.wr ++ H, nx + e.nn⟩) : OPS P cx N ops (o :: rest) n x r ⟨fr, H, nx⟩ := by
  intro F0 F g a w h0 hS
  obtain ⟨us, hok, _, hev, hrd⟩ := h
  unfold wpListIn
  rw [if_pos (by simp [Region.wanted, hg])]
  refine hok F g (lk H) (· < nx) a w hS.heap (EvAll.rep hS.fr hev) hrd (fun i hi => by omega) _ _ _ ?_
  rintro v w' ⟨F', g', h1, h2, h3, h4, h5⟩
  exact hk F0 F' g' _ w' (h0.trans h1 (Nat.le_refl _)) (srep_step hS hd h1 h2 h3 h4 h5)

/-- The guard lets the operation run. -/
theorem OPS.on {ops : Array Oper} {o : Oper} {rest : List Oper} {fr : Fr} {H : Hp} {nx : Nat} {e : Eff} {j t : Nat} {b : Bool} (hg : o.guard = some (j, b)) (ht : ((ops[j]?).bind (·.dst)) = some t) (hv : lk fr t = some (.cell (.bool b))) (hd : dstOK N o.dst = true) (h : Stp P cx o fr H nx e) (hk : OPS P cx N ops rest n x r ⟨putf o.dst e.val fr, e.wr ++ H, nx + e.nn⟩) : OPS P cx N ops (o :: rest) n x r ⟨fr, H, nx⟩ := by
  intro F0 F g a w h0 hS
  obtain ⟨us, hok, _, hev, hrd⟩ := h
  unfold wpListIn
  rw [if_pos (wanted_on hS.fr (show guardOn ops (lk fr) o by unfold guardOn; rw [hg]; exact ⟨t, ht, hv⟩))]
  refine hok F g (lk H) (· < nx) a w hS.heap (EvAll.rep hS.fr hev) hrd (fun i hi => by omega) _ _ _ ?_
  rintro v w' ⟨F', g', h1, h2, h3, h4, h5⟩
  exact hk F0 F' g' _ w' (h0.trans h1 (Nat.le_refl _)) (srep_step hS hd h1 h2 h3 h4 h5)

/-- The guard is off. -/
theorem OPS.off {ops : Array Oper} {o : Oper} {rest : List Oper} {fr : Fr} {H : Hp} {nx : Nat} {j t : Nat} {b : Bool} (hg : o.guard = some (j, b)) (ht : ((ops[j]?).bind (·.dst)) = some t) (hv : lk fr t = some (.cell (.bool (!b))) ∨ lk fr t = some (.tup [])) (hd : dstOK N o.dst = true) (hk : OPS P cx N ops rest n x r ⟨putf o.dst (.tup []) fr, H, nx⟩) : OPS P cx N ops (o :: rest) n x r ⟨fr, H, nx⟩ := by
  intro F0 F g a w h0 hS
  unfold wpListIn
  rw [wanted_off hS.fr (show guardOff ops (lk fr) o from ⟨j, b, t, hg, ht, hv⟩)]
  rw [if_neg (by simp)]
  refine ⟨fun _ _ => trivial, hk F0 F g _ w h0 ⟨hS.defers.kept (put_defers ..) (.refl _), by rw [put_size]; exact hS.size, ?_, hS.heap, hS.keep, hS.keepW⟩⟩
  exact put_rep hS.fr hS.size (dstOK_spec hd) (.tup #[] [] rfl fun j h => absurd h (by simp)) fun t => lk_putf t

/-! ### A region whose order is open -/
inductive ChainL (P : Program) (cx : Cx) (N : Nat) (ops : Array Oper) : List Oper → Fr → Hp → Nat → List Rec → Fr → Hp → Nat → Prop where
  | nil {fr H nx} : ChainL P cx N ops [] fr H nx [] fr H nx
  | cons {o os fr H nx e rs fr' H' nx'} (hg : o.guard = none) (hd : dstOK N o.dst = true) (h : Stp P cx o fr H nx e) (hk : ChainL P cx N ops os (putf o.dst e.val fr) (e.wr ++ H) (nx + e.nn) rs fr' H' nx') : ChainL P cx N ops (o :: os) fr H nx (⟨o, e, nx⟩ :: rs) fr' H' nx'
  | on {o os fr H nx e rs fr' H' nx' j t b} (hg : o.guard = some (j, b)) (ht : ((ops[j]?).bind (·.dst)) = some t) (hv : lk fr t = some (.cell (.bool b))) (hd : dstOK N o.dst = true) (h : Stp P cx o fr H nx e)
      (hk : ChainL P cx N ops os (putf o.dst e.val fr) (e.wr ++ H) (nx + e.nn) rs fr' H' nx') : ChainL P cx N ops (o :: os) fr H nx (⟨o, e, nx⟩ :: rs) fr' H' nx'
  | off {o os fr H nx rs fr' H' nx' j t b} (hg : o.guard = some (j, b)) (ht : ((ops[j]?).bind (·.dst)) = some t) (hv : lk fr t = some (.cell (.bool (!b))) ∨ lk fr t = some (.tup [])) (hd : dstOK N o.dst = true)
      (hk : ChainL P cx N ops os (putf o.dst (.tup []) fr) H nx rs fr' H' nx') : ChainL P cx N ops (o :: os) fr H nx (⟨o, ⟨.tup [], [], [], 0⟩, nx⟩ :: rs) fr' H' nx'

theorem chainL_spec {ops : Array Oper} {os : List Oper} {fr : Fr} {H : Hp} {nx : Nat} {rs : List Rec} {fr' : Fr} {H' : Hp} {nx' : Nat} (h : ChainL P cx N ops os fr H nx rs fr' H' nx') :
    opsAre os rs ∧ Chain P cx ops rs (lk fr) (lk H) nx ∧ (∀ r ∈ rs, ∀ t, r.o.dst = some t → t < N) ∧ (∀ j, ovr (fun _ => true) (rs.map Rec.fw) j (lk fr) = lk fr') ∧ (∀ j, ovr (fun _ => true) (rs.map Rec.hw) j (lk H) = lk H') ∧ nxAt rs nx rs.length = nx' := by
  have fwd : ∀ (o : Oper) (e : Eff) (nx : Nat) (fr : Fr), (fun t => over (Rec.fw ⟨o, e, nx⟩ t) (lk fr t)) = lk (putf o.dst e.val fr) := by
    intro o e nx fr
    funext t
    rw [lk_putf]
    unfold Rec.fw
    cases hdst : o.dst with
    | none => simp
    | some d =>
      by_cases he : d = t
      · subst he; simp
      · have hb : Nat.beq d t = false := by rw [← Bool.not_eq_true, Nat.beq_eq]; exact he
        simp [hb, he]
  have hwd : ∀ (o : Oper) (e : Eff) (nx : Nat) (H : Hp), (fun t => over (Rec.hw ⟨o, e, nx⟩ t) (lk H t)) = lk (e.wr ++ H) := by
    intro o e nx H
    exact upd_lk H e.wr
  have case : ∀ {o : Oper} {e : Eff} {os : List Oper} {fr : Fr} {H : Hp} {nx : Nat} {rs : List Rec} {fr' : Fr} {H' : Hp} {nx' : Nat}, dstOK N o.dst = true → StepF P cx ops (lk fr) (lk H) ⟨o, e, nx⟩ →
      (opsAre os rs ∧ Chain P cx ops rs (lk (putf o.dst e.val fr)) (lk (e.wr ++ H)) (nx + e.nn) ∧ (∀ r ∈ rs, ∀ t, r.o.dst = some t → t < N) ∧ (∀ j, ovr (fun _ => true) (rs.map Rec.fw) j (lk (putf o.dst e.val fr)) = lk fr') ∧ (∀ j, ovr (fun _ => true) (rs.map Rec.hw) j (lk (e.wr ++ H)) = lk H') ∧ nxAt rs (nx + e.nn) rs.length = nx') →
      opsAre (o :: os) (⟨o, e, nx⟩ :: rs) ∧ Chain P cx ops (⟨o, e, nx⟩ :: rs) (lk fr) (lk H) nx ∧ (∀ r ∈ (⟨o, e, nx⟩ :: rs : List Rec), ∀ t, r.o.dst = some t → t < N) ∧ (∀ j, ovr (fun _ => true) ((⟨o, e, nx⟩ :: rs : List Rec).map Rec.fw) j (lk fr) = lk fr') ∧ (∀ j, ovr (fun _ => true) ((⟨o, e, nx⟩ :: rs : List Rec).map Rec.hw) j (lk H) = lk H') ∧ nxAt (⟨o, e, nx⟩ :: rs) nx (rs.length + 1) = nx' := by
    intro o e os fr H nx rs fr' H' nx' hd hs ⟨h1, h2, h3, h4, h5, h6⟩
    refine ⟨⟨rfl, h1⟩, ⟨rfl, hs, ?_⟩, ?_, ?_, ?_, h6⟩
    · rw [fwd]
      show Chain P cx ops rs _ (upd (lk H) e.wr) _
      rw [upd_lk]
      exact h2
    · intro r hr t ht
      rcases List.mem_cons.1 hr with rfl | hr
      · exact dstOK_spec hd t ht
      · exact h3 r hr t ht
    · intro j
      simp only [List.map_cons, ovr, if_true]
      rw [fwd]
      exact h4 _
    · intro j
      simp only [List.map_cons, ovr, if_true]
      rw [hwd]
      exact h5 _
  induction h with
  | nil => exact ⟨trivial, trivial, by simp, fun j => rfl, fun j => rfl, rfl⟩
  | cons hg hd h hk ih =>
    obtain ⟨us, hok, hm, hev, hrd⟩ := h
    exact case hd (.inl ⟨by unfold guardOn; rw [hg]; trivial, us, hok, fun u hu => .inl (hm u hu), hev.all, hrd⟩) ih
  | on hg ht hv hd h hk ih =>
    obtain ⟨us, hok, hm, hev, hrd⟩ := h
    exact case hd (.inl ⟨by unfold guardOn; rw [hg]; exact ⟨_, ht, hv⟩, us, hok, fun u hu => .inl (hm u hu), hev.all, hrd⟩) ih
  | off hg ht hv hd hk ih => exact case hd (.inr ⟨⟨_, _, _, hg, ht, hv⟩, rfl⟩) ih

theorem left_none : ∀ (n k : Nat), k ≤ n → left (Array.replicate n false) k = k
  | n, 0, _ => rfl
  | n, k + 1, h => by
    simp only [left, left_none n k (by omega)]
    rw [if_pos (by simp [Array.getD_eq_getD_getElem?, show k < n by omega])]

theorem AWP.draw {i : Nat} {ops : Array Oper} {fr : Fr} {H : Hp} {nx : Nat} {rs : List Rec} {fr' : Fr} {H' : Hp} {nx' : Nat} (hm : P.follows .mixedOrders = true) (hc : ChainL P cx N ops ops.toList fr H nx rs fr' H' nx') (hok : allOK ops (befs ops.toList []) [] rs 0 = true)
    (h : n ⟨fr', H', nx'⟩) : AWP P cx N (.region i ops true) n x r ⟨fr, H, nx⟩ := by
  intro F0 F g a w hF0 hS
  obtain ⟨h1, h2, h3, h4, h5, h6⟩ := chainL_spec hc
  have hl0 : ∀ j, lst (Array.replicate ops.size false) j = false := by
    intro j
    unfold lst
    rw [Array.getD_eq_getD_getElem?, Array.getElem?_replicate]
    split <;> rfl
  refine wpIn_region_any hm ?_
  have hno : ∀ {β : Type} (Ws : List (Nat → Option β)) (j : Nat) (f : Nat → Option β), ovr (lst (Array.replicate ops.size false)) Ws j f = f := by
    intro β Ws
    induction Ws with
    | nil => intro j f; rfl
    | cons W Ws ih =>
      intro j f
      simp only [ovr]
      rw [ih]
      funext t
      simp [hl0]
  refine draw_any (f0 := lk fr) (h0 := lk H) (nx0 := nx) (F0 := F0) h1 h2 hok h3 ?_ ops.size (Array.replicate ops.size false) a { w with drawn := w.drawn + 1 } F g (by simp) ?_ (by rw [left_none _ _ (Nat.le_refl _)]; exact Nat.le_refl _) hF0 ?_
  · intro F' g' a' w' hF hS'
    rw [h4, h5] at hS'
    exact ⟨F', g', ⟨fr', H', nx'⟩, hF, ⟨hS'.defers, hS'.size, hS'.fr, hS'.heap.monoD (fun i hi => by rw [h6] at hi; exact hi), hS'.keep, hS'.keepW⟩, h⟩
  · intro j o ho hl
    rw [hl0] at hl
    cases hl
  · rw [hno, hno]
    exact ⟨hS.defers.kept rfl ⟨Nat.le_refl _, fun _ h => h⟩, hS.size, hS.fr, (hS.heap.drawn _).monoD fun i hi => .inl hi, hS.keep, Cx.upK hS.keepW ⟨Nat.le_refl _, fun _ h => h⟩⟩

/-! ### Freezing between statements -/
def frzSlots (fr : Fr) (id n : Nat) : List Nat → Prop
  | [] => True
  | t :: r => lk fr t = some (.own id n) ∧ frzSlots fr id n r
theorem frzSlots_get {fr : Fr} {id n : Nat} {p : PV} : ∀ {ts : List Nat} {t : Nat} {v : PV}, frzSlots fr id n ts → lk (ts.map (fun t => (t, p)) ++ fr) t = some v → (v = p ∧ lk fr t = some (.own id n)) ∨ lk fr t = some v
  | [], t, v, _, h => .inr h
  | t0 :: ts, t, v, hs, h => by
    by_cases he : t0 = t
    · subst he
      rw [List.map_cons, List.cons_append, lk_cons_eq] at h
      injection h with h
      exact .inl ⟨h.symm, hs.1⟩
    · rw [List.map_cons, List.cons_append, lk_cons_ne _ _ he] at h
      exact frzSlots_get hs.2 h

/-- What the call owns becomes plain data; the slots 'ts' are told anew. -/
theorem AWP.freeze {c : Code} {fr : Fr} {H : Hp} {nx : Nat} (id : Nat) (ts : List Nat) {e sz m : Nat} {cs : List FV} (hk : lk H id = some (.arr e sz m cs)) (hs : frzSlots fr id m ts)
    (h : AWP P cx N c n x r ⟨ts.map (fun t => (t, .cell (.sl m cs))) ++ fr, (id, .fro m cs) :: H, nx⟩) : AWP P cx N c n x r ⟨fr, H, nx⟩ := by
  intro F0 F g a w h0 hS
  obtain ⟨F', h1, h2, h3⟩ := hS.heap.freeze hk
  refine h F0 F' g a w (h0.trans h1 (Nat.le_refl _)) ⟨hS.defers, hS.size, ?_, ?_, hS.keep, hS.keepW⟩
  · intro t v hv
    rcases frzSlots_get hs hv with ⟨rfl, ht⟩ | ht
    · have := hS.fr t _ ht
      obtain ⟨A, cap, hg, _⟩ := this.own_inv
      exact .cell (h3 _ hg)
    · exact (hS.fr t v ht).mono h1.1 (.refl g)
  · rw [upd_lk] at h2
    exact h2

/-! ### From a walk to a contract -/
/-- What the result variables hold. -/
def resVar (fr : Fr) (H : Hp) (P : Program) : ResultVar → Option PV
  | .tmp t => lk fr t
  | .cell t ty => match lk fr t with
    | some (.ptr id off) => match lk H id with
      | some (.var cells) => match isScal P ty, aggSz P ty with
        | true, _ => (cells.drop off).head?
        | false, some k => match fvs ((cells.drop off).take k) with
          | some cs => bif Nat.beq cs.length k then some (.agg cs) else none
          | none => none
        | false, none => none
      | _ => none
    | _ => none
def resVars (fr : Fr) (H : Hp) (P : Program) : List ResultVar → Option (List PV)
  | [] => some []
  | v :: r => match resVar fr H P v, resVars fr H P r with
    | some p, some l => some (p :: l)
    | _, _ => none
/-- The function's result at this state; a slice of the call's own, nil: told as plain data. -/
def plainRes : PV → PV
  | .nilS | .emp => .cell (.sl 0 [])
  | p => p
def resOf (fr : Fr) (H : Hp) (P : Program) (vs : List ResultVar) : Option PV :=
  match resVars fr H P vs with
  | some [p] => some (plainRes p)
  | some l => some (.tup (l.map plainRes))
  | none => none
def Ret (P : Program) (vs : List ResultVar) (v : PV) : St → Prop := fun s => resOf s.fr s.H P vs = some v

theorem plainRes_rep {F B : FMap} {g : GMap} {v : Value} {p : PV} (h : RepP F B g v p) : RepP F B g v (plainRes p) := by
  unfold plainRes
  split
  · cases h; exact .cell (.nil _ _ _ (Nat.le_refl _))
  · cases h; exact .cell (.nil _ _ _ (Nat.le_refl _))
  · exact h

/-- A result variable's value. -/
def resSem (tmps : Array Value) : ResultVar → Sem Value
  | .tmp t => pure (tmps.getD t Go.undef)
  | .cell a t => do loadVar t (← asAddr (tmps.getD a Go.undef))
theorem results_eq (fn : Func) (tmps : Array Value) : results fn tmps = (do
    let vs ← fn.results.mapM (resSem tmps)
    pure (if h : vs.size = 1 then vs[0] else .tuple vs)) := by
  rfl

theorem run_resVar {F : FMap} {g : GMap} {fr : Fr} {H : Hp} {nx : Nat} {a : Act} {w : World} (hS : SRep cx N F g ⟨fr, H, nx⟩ a w) {v : ResultVar} {p : PV} (h : resVar fr H P v = some p) :
    ∃ mv, (resSem a.tmps v).run P w = .ok mv w ∧ RepP F cx.B g mv p := by
  cases v with
  | tmp t => exact ⟨_, rfl, hS.fr t p h⟩
  | cell t ty =>
    unfold resVar at h
    simp only at h
    split at h
    · rename_i id off ht
      split at h
      · rename_i cells hk
        have hptr := hS.fr t _ ht
        generalize he : a.tmps.getD t Go.undef = pv at hptr
        obtain ⟨b, c, e, rfl, hg, hh, hl, hr⟩ := ptr_var hS.heap hptr hk
        simp only [resSem, he, asAddr, Sem.run_bind, Sem.run_pure, Result.andThen_ok]
        split at h
        · rename_i hsc
          obtain ⟨hlt, rfl⟩ := head_drop h
          exact ⟨_, run_loadVar_scal hsc (cell_of hh (by omega)), hr off hlt⟩
        · rename_i k hsc hk'
          split at h
          · rename_i cs hcs
            cases hb : Nat.beq cs.length k with
            | false => rw [hb] at h; cases h
            | true =>
              rw [hb] at h
              rw [Nat.beq_eq] at hb
              injection h with h
              subst h
              have hm := fvs_spec hcs
              have hlen : off + k ≤ cells.length ∨ k = 0 := by
                have := congrArg List.length hm
                simp at this
                omega
              have hcell : ∀ j, j < k → w.cell? ((⟨b, off, none⟩ : Addr).add j) = some (c.getD (off + j) Go.undef) := fun j hj => by
                rw [add_lit]
                exact cell_of hh (by omega)
              refine ⟨_, run_loadVar_agg (fun j => c.getD (off + j) Go.undef) hk' hcell, .agg _ _ (by simp [hb]) fun j hj => ?_⟩
              rw [range_getD _ k j (by omega)]
              have h1 := hr (off + j) (by omega)
              have h2 : cells[off + j]'(by omega) = .cell cs[j] := by
                have := congrArg (fun l => l[j]?) hm
                simp only [List.getElem?_take_of_lt (show j < k by omega), List.getElem?_drop, List.getElem?_map, List.getElem?_eq_getElem hj, List.getElem?_eq_getElem (show off + j < cells.length by omega), Option.map_some] at this
                injection this
              rw [h2] at h1
              exact h1.cell_inv
          · cases h
        · cases h
      · cases h
    · cases h

theorem run_resVars {F : FMap} {g : GMap} {fr : Fr} {H : Hp} {nx : Nat} {a : Act} {w : World} (hS : SRep cx N F g ⟨fr, H, nx⟩ a w) : ∀ {vs : List ResultVar} {l : List PV}, resVars fr H P vs = some l →
    ∃ ms : List Value, (vs.mapM (resSem a.tmps)).run P w = .ok ms w ∧ ms.length = l.length ∧ ∀ (j : Nat) (h : j < l.length), RepP F cx.B g (ms.getD j Go.undef) (l[j]'h)
  | [], l, h => by
    injection h with h
    subst h
    exact ⟨[], rfl, rfl, fun j h => absurd h (by simp)⟩
  | v :: vs, l, h => by
    unfold resVars at h
    cases hp : resVar fr H P v with
    | none => rw [hp] at h; cases h
    | some p =>
      cases hr : resVars fr H P vs with
      | none => rw [hp, hr] at h; cases h
      | some l' =>
        rw [hp, hr] at h
        injection h with h
        subst h
        obtain ⟨mv, h1, h2⟩ := run_resVar hS hp
        obtain ⟨ms, h3, h4, h5⟩ := run_resVars hS hr
        refine ⟨mv :: ms, ?_, by simp [h4], fun j hj => ?_⟩
        · simp only [List.mapM_cons, Sem.run_bind, h1, Result.andThen_ok, h3, Sem.run_pure]
        · cases j with
          | zero => exact h2
          | succ j => exact h5 j (by simpa using hj)

theorem run_results {F : FMap} {g : GMap} {fr : Fr} {H : Hp} {nx : Nat} {a : Act} {w : World} {fn : Func} {v : PV} (hS : SRep cx N F g ⟨fr, H, nx⟩ a w) (h : resOf fr H P fn.results.toList = some v) :
    ∃ mv, (results fn a.tmps).run P w = .ok mv w ∧ RepP F cx.B g mv v := by
  unfold resOf at h
  cases hr : resVars fr H P fn.results.toList with
  | none => rw [hr] at h; cases h
  | some l =>
    obtain ⟨ms, h1, h2, h3⟩ := run_resVars hS hr
    have hrun : (results fn a.tmps).run P w = .ok (if h : ms.toArray.size = 1 then ms.toArray[0] else .tuple ms.toArray) w := by
      rw [results_eq]
      simp only [Sem.run_bind, Array.mapM_eq_mapM_toList, Sem.run_map, h1, Result.andThen_ok, Sem.run_pure]
    rw [hr] at h
    match l, h, h2, h3 with
    | [p], h, h2, h3 =>
      injection h with h
      subst h
      refine ⟨ms.getD 0 Go.undef, ?_, plainRes_rep (h3 0 (by simp))⟩
      rw [hrun]
      have : ms.toArray.size = 1 := by simpa using h2
      rw [dif_pos this]
      simp [List.getD_eq_getElem?_getD, show 0 < ms.length by simp at h2; omega]
    | [], h, h2, h3 =>
      injection h with h
      subst h
      refine ⟨.tuple ms.toArray, ?_, .tup _ _ (by simpa using h2) fun j hj => absurd hj (by simp)⟩
      rw [hrun, dif_neg (by simp at h2 ⊢; rw [h2]; simp)]
    | p :: q :: l, h, h2, h3 =>
      injection h with h
      subst h
      refine ⟨.tuple ms.toArray, ?_, .tup _ _ (by simpa using h2) fun j hj => ?_⟩
      · rw [hrun, dif_neg (by simp at h2 ⊢; omega)]
      · simp only [List.getElem_map]
        have := plainRes_rep (h3 j (by simpa using hj))
        simpa [Array.getD_eq_getD_getElem?, List.getD_eq_getElem?_getD] using this

/-- Slots 0, 1, .. hold the arguments. -/
def args0 : Nat → List PV → Fr
  | _, [] => []
  | k, p :: r => (k, p) :: args0 (k + 1) r
theorem args0_get : ∀ {l : List PV} {k t : Nat} {v : PV}, lk (args0 k l) t = some v → ∃ j, t = k + j ∧ l[j]? = some v
  | p :: r, k, t, v, h => by
    unfold args0 at h
    by_cases hk : k = t
    · subst hk
      rw [lk_cons_eq] at h
      exact ⟨0, by omega, by simpa using h⟩
    · rw [lk_cons_ne _ _ hk] at h
      obtain ⟨j, hj, hv⟩ := args0_get h
      exact ⟨j + 1, by omega, by simpa using hv⟩

/-- Where an own block lies, no deferred calls do. -/
theorem BRep.notD {F B : FMap} {g : GMap} {base : Nat} {w : World} {v : Value} {k : Blk} (h : BRep F B g base w v k) (hm : k.mut = true) {b : Nat} (hb : ownB v = some b) {o : Option (List Deferred)} : w.heap[b]? ≠ some (.deferred o) := by
  cases k with
  | dead => cases hm
  | fro n cells => cases hm
  | var cells =>
    obtain ⟨b', c, e, rfl, hh, _⟩ := h
    injection hb with hb
    subst hb
    rw [hh]; simp
  | loop st pe ps as bd N fr =>
    obtain ⟨b', fn, tmps, D, rfl, hh, _⟩ := h
    injection hb with hb
    subst hb
    rw [hh]; simp
  | arr e sz n cells =>
    obtain ⟨xs, ⟨_, h | ⟨g', cap, cur, rfl, _, hh, _⟩⟩, _⟩ := h
    · rw [h.1] at hb; cases hb
    · injection hb with hb
      subst hb
      rw [hh]; simp

/-- A block for deferred calls is turned; nothing else. -/
theorem HRep.shut {F : FMap} {g : GMap} {H : Nat → Option Blk} {D : Nat → Prop} {w : World} (h : HRep cx F g H D w) {r : Nat} {o : Option (List Deferred)} (hr : w.heap[r]? = some (.deferred o)) (hb : cx.base ≤ r) (o' : Obj) : HRep cx F g H D (w.putObj r o') := by
  have hgr : w.grownBy (w.putObj r o') (some r) := grownBy_putObj' w r o'
  have hc : ∀ b o v, w.cell? ⟨b, o, none⟩ = some v → (w.putObj r o').cell? ⟨b, o, none⟩ = some v := fun b o2 v hv => by
    refine hgr.cell hv fun e => ?_
    injection e with e
    subst e
    simp [World.cell?, hr] at hv
  constructor
  · exact fun b o v hv => hc b o v (h.agree b o v hv)
  · exact fun b o v hv => hc b o v (h.agreeB b o v hv)
  · exact h.below.grown hgr h.le fun k e => by injection e with e; omega
  · exact Nat.le_trans h.le hgr.size
  · exact h.dom
  · intro i k hk
    obtain ⟨v, h1, h2⟩ := h.blk i k hk
    refine ⟨v, h1, h2.kept hgr (fun hm b hb' e => ?_) (.refl F) (.refl g)⟩
    injection e with e
    subst e
    exact h2.notD hm hb' hr
  · exact h.own
  · exact h.inj

/-- The way out: the marks are come to, one after the other. -/
theorem leave_marks {fn : Func} {R : Ending → World → Prop} {F : FMap} {g : GMap} {s : St} {a : Act} (Kont : ∀ w', SRep cx N F g s { a with defers := [] } w' → ∃ v, (results fn a.tmps).run P w' = .ok v w' ∧ R (.returned v) w') :
    ∀ (dl : List Nat) (w : World), SRep cx N F g s { a with defers := [] } w → dl.Nodup → (∀ D ∈ dl, cx.m0 ≤ D ∧ cx.base ≤ D ∧ w.heap[D]? = some (.deferred (some []))) → LeavesInM Fence.wide 0 P fn a.tmps R (dl.map fun D => { target := .collected D, args := #[] }) .returning w
  | [], w, hS, _, _ => Kont w hS
  | D :: dl, w, hS, hn, hd => by
    obtain ⟨h1, h2, h3⟩ := hd D (by simp)
    rw [List.nodup_cons] at hn
    refine ⟨by simp, .inl ⟨D, _, rfl, run_takeDeferred h3, leave_marks Kont dl _ ⟨.nil cx _ (by have := hS.defers.1; simpa [World.putObj] using this) rfl, hS.size, hS.fr, hS.heap.shut h3 h2 _, hS.keep, cx.upW _ _ hS.keepW (by simp [World.putObj]) fun b hb hbd => ?_⟩ hn.2 fun D' hD' => ?_⟩⟩
    · exact (World.putObj_heap_other (by omega)).trans hbd
    · have := hd D' (by simp [hD'])
      exact ⟨this.1, this.2.1, (World.putObj_heap_other (fun e => hn.1 (by rw [← e]; exact hD'))).trans this.2.2⟩
theorem SRep.leave {fn : Func} {R : Ending → World → Prop} {F : FMap} {g : GMap} {s : St} {a : Act} {w : World} (hS : SRep cx N F g s a w) (Kont : ∀ w', SRep cx N F g s { a with defers := [] } w' → ∃ v, (results fn a.tmps).run P w' = .ok v w' ∧ R (.returned v) w') : LeavesInM Fence.wide 0 P fn a.tmps R a.defers .returning w := by
  obtain ⟨h0, dl, h1, h2, h3⟩ := hS.defers
  rw [h1]
  exact leave_marks Kont dl w ⟨.nil cx _ h0 rfl, hS.size, hS.fr, hS.heap, hS.keep, hS.keepW⟩ h2 h3

/-- No round around it. -/
class Out (cx : Cx) : Prop where
  rd : cx.rd = none

theorem PureC.of {f : FuncId} {fn : Func} {c : Code} {args : List PV} {v : PV} {N : Nat} {vs : List ResultVar} (hf : P.funcs[f]? = some fn) (hb : fn.body = some c) (hN : fn.ntmps = N) (hvs : fn.results.toList = vs) (hn : args.length ≤ N) (hv : dat v = true)
    (h : ∀ cx : Cx, Lo cx 0 → Out cx → AWP P cx N c (Ret P vs v) (fun _ _ => False) (Ret P vs v) ⟨args0 0 args, [], 0⟩) : PureC P f args v := by
  subst hN hvs
  intro F B w margs hF hB hl hr
  refine (callsIn_wide (n := 0)).1 (callsIn_of_wp_marks hf hb trivial ?_)
  let cx : Cx := ⟨B, w.heap.size, w, fun _ => True, fun _ _ _ _ => trivial, none, w.heap.size, fun _ => True, fun _ _ _ _ _ => trivial⟩
  have hfree : Lo cx 0 := ⟨fun _ _ _ _ => trivial⟩
  have hout : Out cx := ⟨rfl⟩
  have hS : SRep cx fn.ntmps F gnone ⟨args0 0 args, [], 0⟩ { tmps := margs ++ Array.replicate (fn.ntmps - margs.size) Go.undef, defers := [] } w := by
    refine ⟨.nil cx w (Nat.le_refl _) rfl, by simp; omega, fun t p ht => ?_, ?_, trivial, trivial⟩
    · obtain ⟨j, rfl, hj⟩ := args0_get ht
      obtain ⟨hlt, rfl⟩ := List.getElem?_eq_some_iff.1 hj
      have := hr j hlt
      rw [Nat.zero_add]
      have hlt' : j < margs.size := by omega
      simpa [Array.getD_eq_getD_getElem?, Array.getElem?_append, hlt'] using this
    · constructor
      · exact hF
      · exact hB
      · exact Below.refl _ _
      · exact Nat.le_refl _
      · intro i v h; cases h
      · intro i k h; cases h
      · intro i k v b h; cases h
      · intro i j k l v u b h; cases h
  refine Code.wpIn_mono ?_ (h cx hfree hout F F gnone _ w (.refl _ _) hS)
  intro e a w' hp
  obtain ⟨F', g', s', h1, h2, h3⟩ := hp
  have key : Ret P fn.results.toList v s' → LeavesInM Fence.wide 0 P fn a.tmps (fun e w' => ∃ mv, ∃ F', e = .returned mv ∧ FMap.ext w.heap.size F F' ∧ Agree F' w' ∧ RepP F' B gnone mv v ∧ w.grownBy w' none) a.defers .returning w' := by
    intro hret
    refine h2.leave fun w2 hS2 => ?_
    obtain ⟨mv, q1, q2⟩ := run_results hS2 hret
    refine ⟨mv, q1, mv, F', rfl, h1, hS2.heap.agree, q2.of_dat hv, ?_⟩
    have hb := hS2.heap.below
    exact ⟨hb.os, hb.tape, hb.output, hb.size, fun k hk _ => hb.block k hk⟩
  cases e with
  | normal => exact key h3
  | ret => exact key h3
  | exit i => exact h3.elim
  | goto l => exact h3.elim
  | panic ch => exact h3.elim
  | outgrown => exact h3.elim

end
end Go.Proofs.Gh
end
section
set_option linter.unusedVariables false
set_option linter.unusedSimpArgs false
namespace Go.Proofs.Gh
open Go.RowKit

section
variable {P : Program} {cx : Cx} {N : Nat} {n : St → Prop} {x : Nat → St → Prop} {r : St → Prop} {ops : Array Oper} {rest : List Oper} {fr : Fr} {H : Hp} {nx : Nat}
variable {t : Tmp} {op : Op} {d : Option Tmp} {ty : TypeId} {ps : String} {af : Array Edge} {gd : Option (Nat × Bool)}

/-! ### In the text's order: a value; a store; something new -/
theorem OPS.p {p : PV} {rd : List (Nat × Blk)} (hd : Nat.blt t N = true) (h : Stp P cx ⟨some t, op, ty, ps, af, none⟩ fr H nx ⟨p, rd, [], 0⟩) (hk : OPS P cx N ops rest n x r ⟨(t, p) :: fr, H, nx⟩) : OPS P cx N ops (⟨some t, op, ty, ps, af, none⟩ :: rest) n x r ⟨fr, H, nx⟩ :=
  OPS.cons rfl hd h hk
theorem OPS.s {i : Nat} {k : Blk} {rd : List (Nat × Blk)} (h : Stp P cx ⟨none, op, ty, ps, af, none⟩ fr H nx ⟨.undef, rd, [(i, k)], 0⟩) (hk : OPS P cx N ops rest n x r ⟨fr, (i, k) :: H, nx⟩) : OPS P cx N ops (⟨none, op, ty, ps, af, none⟩ :: rest) n x r ⟨fr, H, nx⟩ :=
  OPS.cons rfl rfl h hk
theorem OPS.u {p : PV} {rd : List (Nat × Blk)} (h : Stp P cx ⟨none, op, ty, ps, af, none⟩ fr H nx ⟨p, rd, [], 0⟩) (hk : OPS P cx N ops rest n x r ⟨fr, H, nx⟩) : OPS P cx N ops (⟨none, op, ty, ps, af, none⟩ :: rest) n x r ⟨fr, H, nx⟩ :=
  OPS.cons rfl rfl h hk
theorem OPS.a {p : PV} {rd wr : List (Nat × Blk)} (hd : Nat.blt t N = true) (h : Stp P cx ⟨some t, op, ty, ps, af, none⟩ fr H nx ⟨p, rd, wr, 1⟩) (hk : OPS P cx N ops rest n x r ⟨(t, p) :: fr, wr ++ H, nx + 1⟩) : OPS P cx N ops (⟨some t, op, ty, ps, af, none⟩ :: rest) n x r ⟨fr, H, nx⟩ :=
  OPS.cons rfl hd h hk
/-- Under a guard that is on. -/
theorem OPS.pg {p : PV} {rd : List (Nat × Blk)} {j g : Nat} {b : Bool} (hd : Nat.blt t N = true) (ht : ((ops[j]?).bind (·.dst)) = some g) (hv : lk fr g = some (.cell (.bool b))) (h : Stp P cx ⟨some t, op, ty, ps, af, some (j, b)⟩ fr H nx ⟨p, rd, [], 0⟩)
    (hk : OPS P cx N ops rest n x r ⟨(t, p) :: fr, H, nx⟩) : OPS P cx N ops (⟨some t, op, ty, ps, af, some (j, b)⟩ :: rest) n x r ⟨fr, H, nx⟩ :=
  OPS.on rfl ht hv hd h hk
theorem OPS.ag {p : PV} {rd wr : List (Nat × Blk)} {j g : Nat} {b : Bool} (hd : Nat.blt t N = true) (ht : ((ops[j]?).bind (·.dst)) = some g) (hv : lk fr g = some (.cell (.bool b))) (h : Stp P cx ⟨some t, op, ty, ps, af, some (j, b)⟩ fr H nx ⟨p, rd, wr, 1⟩)
    (hk : OPS P cx N ops rest n x r ⟨(t, p) :: fr, wr ++ H, nx + 1⟩) : OPS P cx N ops (⟨some t, op, ty, ps, af, some (j, b)⟩ :: rest) n x r ⟨fr, H, nx⟩ :=
  OPS.on rfl ht hv hd h hk
/-- Under a guard that is off. -/
theorem OPS.no {j g : Nat} {b : Bool} (hd : Nat.blt t N = true) (ht : ((ops[j]?).bind (·.dst)) = some g) (hv : lk fr g = some (.cell (.bool (!b)))) (hk : OPS P cx N ops rest n x r ⟨(t, .tup []) :: fr, H, nx⟩) : OPS P cx N ops (⟨some t, op, ty, ps, af, some (j, b)⟩ :: rest) n x r ⟨fr, H, nx⟩ :=
  OPS.off rfl ht (.inl hv) hd hk

/-! ### The same in a chain -/
section
variable {os : List Oper} {rs : List Rec} {fr' : Fr} {H' : Hp} {nx' : Nat}
theorem ChainL.p {p : PV} {rd : List (Nat × Blk)} (hd : Nat.blt t N = true) (h : Stp P cx ⟨some t, op, ty, ps, af, none⟩ fr H nx ⟨p, rd, [], 0⟩) (hk : ChainL P cx N ops os ((t, p) :: fr) H nx rs fr' H' nx') :
    ChainL P cx N ops (⟨some t, op, ty, ps, af, none⟩ :: os) fr H nx (⟨⟨some t, op, ty, ps, af, none⟩, ⟨p, rd, [], 0⟩, nx⟩ :: rs) fr' H' nx' := .cons rfl hd h hk
theorem ChainL.s {i : Nat} {k : Blk} {rd : List (Nat × Blk)} (h : Stp P cx ⟨none, op, ty, ps, af, none⟩ fr H nx ⟨.undef, rd, [(i, k)], 0⟩) (hk : ChainL P cx N ops os fr ((i, k) :: H) nx rs fr' H' nx') :
    ChainL P cx N ops (⟨none, op, ty, ps, af, none⟩ :: os) fr H nx (⟨⟨none, op, ty, ps, af, none⟩, ⟨.undef, rd, [(i, k)], 0⟩, nx⟩ :: rs) fr' H' nx' := .cons rfl rfl h hk
theorem ChainL.u {p : PV} {rd : List (Nat × Blk)} (h : Stp P cx ⟨none, op, ty, ps, af, none⟩ fr H nx ⟨p, rd, [], 0⟩) (hk : ChainL P cx N ops os fr H nx rs fr' H' nx') :
    ChainL P cx N ops (⟨none, op, ty, ps, af, none⟩ :: os) fr H nx (⟨⟨none, op, ty, ps, af, none⟩, ⟨p, rd, [], 0⟩, nx⟩ :: rs) fr' H' nx' := .cons rfl rfl h hk
theorem ChainL.a {p : PV} {rd wr : List (Nat × Blk)} (hd : Nat.blt t N = true) (h : Stp P cx ⟨some t, op, ty, ps, af, none⟩ fr H nx ⟨p, rd, wr, 1⟩) (hk : ChainL P cx N ops os ((t, p) :: fr) (wr ++ H) (nx + 1) rs fr' H' nx') :
    ChainL P cx N ops (⟨some t, op, ty, ps, af, none⟩ :: os) fr H nx (⟨⟨some t, op, ty, ps, af, none⟩, ⟨p, rd, wr, 1⟩, nx⟩ :: rs) fr' H' nx' := .cons rfl hd h hk
theorem ChainL.pg {p : PV} {rd : List (Nat × Blk)} {j g : Nat} {b : Bool} (hd : Nat.blt t N = true) (ht : ((ops[j]?).bind (·.dst)) = some g) (hv : lk fr g = some (.cell (.bool b))) (h : Stp P cx ⟨some t, op, ty, ps, af, some (j, b)⟩ fr H nx ⟨p, rd, [], 0⟩)
    (hk : ChainL P cx N ops os ((t, p) :: fr) H nx rs fr' H' nx') : ChainL P cx N ops (⟨some t, op, ty, ps, af, some (j, b)⟩ :: os) fr H nx (⟨⟨some t, op, ty, ps, af, some (j, b)⟩, ⟨p, rd, [], 0⟩, nx⟩ :: rs) fr' H' nx' := .on rfl ht hv hd h hk
theorem ChainL.ag {p : PV} {rd wr : List (Nat × Blk)} {j g : Nat} {b : Bool} (hd : Nat.blt t N = true) (ht : ((ops[j]?).bind (·.dst)) = some g) (hv : lk fr g = some (.cell (.bool b))) (h : Stp P cx ⟨some t, op, ty, ps, af, some (j, b)⟩ fr H nx ⟨p, rd, wr, 1⟩)
    (hk : ChainL P cx N ops os ((t, p) :: fr) (wr ++ H) (nx + 1) rs fr' H' nx') : ChainL P cx N ops (⟨some t, op, ty, ps, af, some (j, b)⟩ :: os) fr H nx (⟨⟨some t, op, ty, ps, af, some (j, b)⟩, ⟨p, rd, wr, 1⟩, nx⟩ :: rs) fr' H' nx' := .on rfl ht hv hd h hk
theorem ChainL.no {j g : Nat} {b : Bool} (hd : Nat.blt t N = true) (ht : ((ops[j]?).bind (·.dst)) = some g) (hv : lk fr g = some (.cell (.bool (!b)))) (hk : ChainL P cx N ops os ((t, .tup []) :: fr) H nx rs fr' H' nx') :
    ChainL P cx N ops (⟨some t, op, ty, ps, af, some (j, b)⟩ :: os) fr H nx (⟨⟨some t, op, ty, ps, af, some (j, b)⟩, ⟨.tup [], [], [], 0⟩, nx⟩ :: rs) fr' H' nx' := .off rfl ht (.inl hv) hd hk
end

/-! ### The single steps -/
section
variable {X Y Z : Operand} {T T' : TypeId} {k k' : IntKind} {m l : Int} {b c : Bool} {p q : PV} {id off sz e' K len : Nat} {cs new : List FV} {cells newp : List PV} {E : ElemInfo}

theorem st_move (h : ev fr X = some p) : Stp P cx ⟨d, .move X, ty, ps, af, gd⟩ fr H nx ⟨p, [], [], 0⟩ := ⟨_, ok_move, by simp [Op.operands], ⟨h, trivial⟩, trivial⟩
theorem st_assign (h : ev fr X = some p) : Stp P cx ⟨d, .assign X, ty, ps, af, gd⟩ fr H nx ⟨p, [], [], 0⟩ := ⟨_, ok_assign, by simp [Op.operands], ⟨h, trivial⟩, trivial⟩
theorem st_pick_t (h : ev fr X = some (.cell (.bool true))) (h1 : ev fr Y = some p) : Stp P cx ⟨d, .pick X Y Z, ty, ps, af, gd⟩ fr H nx ⟨p, [], [], 0⟩ := ⟨_, ok_pick_t, by simp [Op.operands], ⟨h, h1, trivial⟩, trivial⟩
theorem st_pick_f (h : ev fr X = some (.cell (.bool false))) (h1 : ev fr Z = some p) : Stp P cx ⟨d, .pick X Y Z, ty, ps, af, gd⟩ fr H nx ⟨p, [], [], 0⟩ := ⟨_, ok_pick_f, by simp [Op.operands], ⟨h, h1, trivial⟩, trivial⟩
theorem st_neg (h : ev fr X = some (.cell (.int k m))) : Stp P cx ⟨d, .unOp .neg T X, ty, ps, af, gd⟩ fr H nx ⟨.cell (.int k (k.wrap (0 - m))), [], [], 0⟩ := ⟨_, ok_neg, by simp [Op.operands], ⟨h, trivial⟩, trivial⟩
theorem st_not (h : ev fr X = some (.cell (.bool b))) : Stp P cx ⟨d, .unOp .not T X, ty, ps, af, gd⟩ fr H nx ⟨.cell (.bool (!b)), [], [], 0⟩ := ⟨_, ok_not, by simp [Op.operands], ⟨h, trivial⟩, trivial⟩
theorem st_inv (h : ev fr X = some (.cell (.int k m))) : Stp P cx ⟨d, .unOp .xor T X, ty, ps, af, gd⟩ fr H nx ⟨.cell (.int k (bitsOf .xor k (if k.signed then -1 else k.max) m)), [], [], 0⟩ := ⟨_, ok_inv, by simp [Op.operands], ⟨h, trivial⟩, trivial⟩
theorem st_add (h : ev fr X = some (.cell (.int k m))) (h1 : ev fr Y = some (.cell (.int k l))) : Stp P cx ⟨d, .binOp .add T X Y T', ty, ps, af, gd⟩ fr H nx ⟨.cell (.int k (k.wrap (m + l))), [], [], 0⟩ := ⟨_, ok_add, by simp [Op.operands], ⟨h, h1, trivial⟩, trivial⟩
theorem st_sub (h : ev fr X = some (.cell (.int k m))) (h1 : ev fr Y = some (.cell (.int k l))) : Stp P cx ⟨d, .binOp .sub T X Y T', ty, ps, af, gd⟩ fr H nx ⟨.cell (.int k (k.wrap (m - l))), [], [], 0⟩ := ⟨_, ok_sub, by simp [Op.operands], ⟨h, h1, trivial⟩, trivial⟩
theorem st_mul (h : ev fr X = some (.cell (.int k m))) (h1 : ev fr Y = some (.cell (.int k l))) : Stp P cx ⟨d, .binOp .mul T X Y T', ty, ps, af, gd⟩ fr H nx ⟨.cell (.int k (k.wrap (m * l))), [], [], 0⟩ := ⟨_, ok_mul, by simp [Op.operands], ⟨h, h1, trivial⟩, trivial⟩
/-- Where the result is known to fit. -/
theorem st_add' {v : Int} (h : ev fr X = some (.cell (.int k m))) (h1 : ev fr Y = some (.cell (.int k l))) (hv : k.wrap (m + l) = v) : Stp P cx ⟨d, .binOp .add T X Y T', ty, ps, af, gd⟩ fr H nx ⟨.cell (.int k v), [], [], 0⟩ := by subst hv; exact st_add h h1
theorem st_sub' {v : Int} (h : ev fr X = some (.cell (.int k m))) (h1 : ev fr Y = some (.cell (.int k l))) (hv : k.wrap (m - l) = v) : Stp P cx ⟨d, .binOp .sub T X Y T', ty, ps, af, gd⟩ fr H nx ⟨.cell (.int k v), [], [], 0⟩ := by subst hv; exact st_sub h h1
theorem st_mul' {v : Int} (h : ev fr X = some (.cell (.int k m))) (h1 : ev fr Y = some (.cell (.int k l))) (hv : k.wrap (m * l) = v) : Stp P cx ⟨d, .binOp .mul T X Y T', ty, ps, af, gd⟩ fr H nx ⟨.cell (.int k v), [], [], 0⟩ := by subst hv; exact st_mul h h1
theorem st_quo (h : ev fr X = some (.cell (.int k m))) (h1 : ev fr Y = some (.cell (.int k l))) (h0 : l ≠ 0) : Stp P cx ⟨d, .binOp .quo T X Y T', ty, ps, af, gd⟩ fr H nx ⟨.cell (.int k (k.wrap (m.tdiv l))), [], [], 0⟩ := ⟨_, ok_quo h0, by simp [Op.operands], ⟨h, h1, trivial⟩, trivial⟩
theorem st_rem (h : ev fr X = some (.cell (.int k m))) (h1 : ev fr Y = some (.cell (.int k l))) (h0 : l ≠ 0) : Stp P cx ⟨d, .binOp .rem T X Y T', ty, ps, af, gd⟩ fr H nx ⟨.cell (.int k (m.tmod l)), [], [], 0⟩ := ⟨_, ok_rem h0, by simp [Op.operands], ⟨h, h1, trivial⟩, trivial⟩
theorem st_shl (h : ev fr X = some (.cell (.int k m))) (h1 : ev fr Y = some (.cell (.int k' l))) (h0 : 0 ≤ l) : Stp P cx ⟨d, .binOp .shl T X Y T', ty, ps, af, gd⟩ fr H nx ⟨.cell (.int k (k.wrap (m * 2 ^ min l.toNat k.bits))), [], [], 0⟩ := ⟨_, ok_shl h0, by simp [Op.operands], ⟨h, h1, trivial⟩, trivial⟩
theorem st_shr (h : ev fr X = some (.cell (.int k m))) (h1 : ev fr Y = some (.cell (.int k' l))) (h0 : 0 ≤ l) : Stp P cx ⟨d, .binOp .shr T X Y T', ty, ps, af, gd⟩ fr H nx ⟨.cell (.int k (m.fdiv (2 ^ min l.toNat k.bits))), [], [], 0⟩ := ⟨_, ok_shr h0, by simp [Op.operands], ⟨h, h1, trivial⟩, trivial⟩
theorem st_bits {op : BinOp} (h : ev fr X = some (.cell (.int k m))) (h1 : ev fr Y = some (.cell (.int k l))) (hop : op = .and ∨ op = .or ∨ op = .xor ∨ op = .andNot) : Stp P cx ⟨d, .binOp op T X Y T', ty, ps, af, gd⟩ fr H nx ⟨.cell (.int k (bitsOf op k m l)), [], [], 0⟩ := ⟨_, ok_bits hop, by simp [Op.operands], ⟨h, h1, trivial⟩, trivial⟩
theorem st_eql (h : ev fr X = some (.cell (.int k m))) (h1 : ev fr Y = some (.cell (.int k l))) : Stp P cx ⟨d, .binOp .eql T X Y T', ty, ps, af, gd⟩ fr H nx ⟨.cell (.bool (decide (m = l))), [], [], 0⟩ := ⟨_, ok_eql, by simp [Op.operands], ⟨h, h1, trivial⟩, trivial⟩
theorem st_neq (h : ev fr X = some (.cell (.int k m))) (h1 : ev fr Y = some (.cell (.int k l))) : Stp P cx ⟨d, .binOp .neq T X Y T', ty, ps, af, gd⟩ fr H nx ⟨.cell (.bool (decide (m ≠ l))), [], [], 0⟩ := ⟨_, ok_neq, by simp [Op.operands], ⟨h, h1, trivial⟩, trivial⟩
theorem st_lss (h : ev fr X = some (.cell (.int k m))) (h1 : ev fr Y = some (.cell (.int k l))) : Stp P cx ⟨d, .binOp .lss T X Y T', ty, ps, af, gd⟩ fr H nx ⟨.cell (.bool (decide (m < l))), [], [], 0⟩ := ⟨_, ok_lss, by simp [Op.operands], ⟨h, h1, trivial⟩, trivial⟩
theorem st_leq (h : ev fr X = some (.cell (.int k m))) (h1 : ev fr Y = some (.cell (.int k l))) : Stp P cx ⟨d, .binOp .leq T X Y T', ty, ps, af, gd⟩ fr H nx ⟨.cell (.bool (decide (m ≤ l))), [], [], 0⟩ := ⟨_, ok_leq, by simp [Op.operands], ⟨h, h1, trivial⟩, trivial⟩
theorem st_gtr (h : ev fr X = some (.cell (.int k m))) (h1 : ev fr Y = some (.cell (.int k l))) : Stp P cx ⟨d, .binOp .gtr T X Y T', ty, ps, af, gd⟩ fr H nx ⟨.cell (.bool (decide (l < m))), [], [], 0⟩ := ⟨_, ok_gtr, by simp [Op.operands], ⟨h, h1, trivial⟩, trivial⟩
theorem st_geq (h : ev fr X = some (.cell (.int k m))) (h1 : ev fr Y = some (.cell (.int k l))) : Stp P cx ⟨d, .binOp .geq T X Y T', ty, ps, af, gd⟩ fr H nx ⟨.cell (.bool (decide (l ≤ m))), [], [], 0⟩ := ⟨_, ok_geq, by simp [Op.operands], ⟨h, h1, trivial⟩, trivial⟩
theorem st_eql_b (h : ev fr X = some (.cell (.bool b))) (h1 : ev fr Y = some (.cell (.bool c))) (ht : P.underlying T = some .bool) : Stp P cx ⟨d, .binOp .eql T X Y T', ty, ps, af, gd⟩ fr H nx ⟨.cell (.bool (b == c)), [], [], 0⟩ := ⟨_, ok_eql_bool ht, by simp [Op.operands], ⟨h, h1, trivial⟩, trivial⟩
theorem st_neq_b (h : ev fr X = some (.cell (.bool b))) (h1 : ev fr Y = some (.cell (.bool c))) (ht : P.underlying T = some .bool) : Stp P cx ⟨d, .binOp .neq T X Y T', ty, ps, af, gd⟩ fr H nx ⟨.cell (.bool (b != c)), [], [], 0⟩ := ⟨_, ok_neq_bool ht, by simp [Op.operands], ⟨h, h1, trivial⟩, trivial⟩
theorem st_conv (h : ev fr X = some (.cell (.int k' m))) (hs : (P.underlying T).isSome = true) (hd : P.underlying T' = some (.int k)) : Stp P cx ⟨d, .convert T T' X, ty, ps, af, gd⟩ fr H nx ⟨.cell (.int k (k.wrap m)), [], [], 0⟩ := ⟨_, ok_convert hs hd, by simp [Op.operands], ⟨h, trivial⟩, trivial⟩
theorem st_nil_ptr (h : ev fr X = some (.ptr id off)) : Stp P cx ⟨d, .nilCheck X, ty, ps, af, gd⟩ fr H nx ⟨.ptr id off, [], [], 0⟩ := ⟨_, ok_nilCheck_ptr, by simp [Op.operands], ⟨h, trivial⟩, trivial⟩
theorem st_nil_fptr (h : ev fr X = some (.fptr cs)) : Stp P cx ⟨d, .nilCheck X, ty, ps, af, gd⟩ fr H nx ⟨.fptr cs, [], [], 0⟩ := ⟨_, ok_nilCheck_fptr, by simp [Op.operands], ⟨h, trivial⟩, trivial⟩
theorem st_nil_func {f : FuncId} {caps : List PV} (h : ev fr X = some (.func f caps)) : Stp P cx ⟨d, .nilCheck X, ty, ps, af, gd⟩ fr H nx ⟨.func f caps, [], [], 0⟩ := ⟨_, ok_nilCheck_func, by simp [Op.operands], ⟨h, trivial⟩, trivial⟩
theorem st_field_p {j : Nat} (hf : fieldOff P T j = some sz) (h : ev fr X = some (.ptr id off)) : Stp P cx ⟨d, .fieldAddr T X j, ty, ps, af, gd⟩ fr H nx ⟨.ptr id (off + sz), [], [], 0⟩ := ⟨_, ok_field_ptr hf, by simp [Op.operands], ⟨h, trivial⟩, trivial⟩
theorem st_field_f {j : Nat} (hf : fieldOff P T j = some sz) (h : ev fr X = some (.fptr cs)) : Stp P cx ⟨d, .fieldAddr T X j, ty, ps, af, gd⟩ fr H nx ⟨.fptr (cs.drop sz), [], [], 0⟩ := ⟨_, ok_field_fptr hf, by simp [Op.operands], ⟨h, trivial⟩, trivial⟩
theorem st_index_s (ht : elemSz P T = some sz) (h : ev fr X = some (.cell (.sl len cs))) (h1 : ev fr Y = some (.cell (.int k m))) (hs : Nat.blt 0 sz = true) (h0 : 0 ≤ m) (h2 : m < len) (hl : len * sz ≤ cs.length) : Stp P cx ⟨d, .indexAddr T X Y, ty, ps, af, gd⟩ fr H nx ⟨.fptr (cs.drop (m.toNat * sz)), [], [], 0⟩ :=
  ⟨_, ok_index_sl ht h0 h2 hl (by simpa [Nat.blt_eq] using hs), by simp [Op.operands], ⟨h, h1, trivial⟩, trivial⟩
theorem st_index_a (ht : elemSz P T = some sz) (h : ev fr X = some (.own id len)) (hH : lk H id = some (.arr e' sz len cs)) (h1 : ev fr Y = some (.cell (.int k m))) (h0 : 0 ≤ m) (h2 : m < len) : Stp P cx ⟨d, .indexAddr T X Y, ty, ps, af, gd⟩ fr H nx ⟨.ptr id (m.toNat * sz), [(id, .arr e' sz len cs)], [], 0⟩ :=
  ⟨_, ok_index_arr ht h0 h2, by simp [Op.operands], ⟨h, h1, trivial⟩, ⟨hH, trivial⟩⟩
theorem st_load_fs {v : FV} (ht : isScal P T = true) (h : ev fr X = some (.fptr cs)) (hc : cs.head? = some v) : Stp P cx ⟨d, .load T X, ty, ps, af, gd⟩ fr H nx ⟨.cell v, [], [], 0⟩ := ⟨_, ok_load_fptr_s ht hc, by simp [Op.operands], ⟨h, trivial⟩, trivial⟩
theorem st_load_fa (ht : aggSz P T = some K) (h : ev fr X = some (.fptr cs)) (hl : K ≤ cs.length) : Stp P cx ⟨d, .load T X, ty, ps, af, gd⟩ fr H nx ⟨.agg (cs.take K), [], [], 0⟩ := ⟨_, ok_load_fptr_a ht hl, by simp [Op.operands], ⟨h, trivial⟩, trivial⟩
theorem st_load_vs (ht : isScal P T = true) (h : ev fr X = some (.ptr id off)) (hH : lk H id = some (.var cells)) (hc : (cells.drop off).head? = some p) : Stp P cx ⟨d, .load T X, ty, ps, af, gd⟩ fr H nx ⟨p, [(id, .var cells)], [], 0⟩ := ⟨_, ok_load_var_s ht hc, by simp [Op.operands], ⟨h, trivial⟩, ⟨hH, trivial⟩⟩
theorem st_load_va (ht : aggSz P T = some K) (h : ev fr X = some (.ptr id off)) (hH : lk H id = some (.var cells)) (hc : fvs ((cells.drop off).take K) = some cs) (hl : cs.length = K) : Stp P cx ⟨d, .load T X, ty, ps, af, gd⟩ fr H nx ⟨.agg cs, [(id, .var cells)], [], 0⟩ := ⟨_, ok_load_var_a ht hc hl, by simp [Op.operands], ⟨h, trivial⟩, ⟨hH, trivial⟩⟩
theorem st_load_as {v : FV} (ht : isScal P T = true) (h : ev fr X = some (.ptr id off)) (hH : lk H id = some (.arr e' sz len cs)) (hc : (cs.drop off).head? = some v) : Stp P cx ⟨d, .load T X, ty, ps, af, gd⟩ fr H nx ⟨.cell v, [(id, .arr e' sz len cs)], [], 0⟩ := ⟨_, ok_load_arr_s ht hc, by simp [Op.operands], ⟨h, trivial⟩, ⟨hH, trivial⟩⟩
theorem st_load_aa (ht : aggSz P T = some K) (h : ev fr X = some (.ptr id off)) (hH : lk H id = some (.arr e' sz len cs)) (hl : off + K ≤ cs.length) : Stp P cx ⟨d, .load T X, ty, ps, af, gd⟩ fr H nx ⟨.agg ((cs.drop off).take K), [(id, .arr e' sz len cs)], [], 0⟩ := ⟨_, ok_load_arr_a ht hl, by simp [Op.operands], ⟨h, trivial⟩, ⟨hH, trivial⟩⟩
theorem st_store_v (hs : tySz P T = some K) (h : ev fr X = some (.ptr id off)) (h1 : ev fr Y = some p) (hH : lk H id = some (.var cells)) (hp : pcells p = some newp) (hm : newp.length = K) (hfit : Nat.ble (off + K) cells.length = true) : Stp P cx ⟨d, .store T X Y, ty, ps, af, gd⟩ fr H nx ⟨.undef, [(id, .var cells)], [(id, .var (splice cells off newp))], 0⟩ :=
  ⟨_, ok_store_var hs hp hm (by simpa [Nat.ble_eq] using hfit), by simp [Op.operands], ⟨h, h1, trivial⟩, ⟨hH, trivial⟩⟩
theorem st_store_a (hs : tySz P T = some K) (h : ev fr X = some (.ptr id off)) (h1 : ev fr Y = some p) (hH : lk H id = some (.arr e' sz len cs)) (hp : fcells p = some new) (hm : new.length = K) (hfit : off + K ≤ cs.length) : Stp P cx ⟨d, .store T X Y, ty, ps, af, gd⟩ fr H nx ⟨.undef, [(id, .arr e' sz len cs)], [(id, .arr e' sz len (splice cs off new))], 0⟩ :=
  ⟨_, ok_store_arr hs hp hm hfit, by simp [Op.operands], ⟨h, h1, trivial⟩, ⟨hH, trivial⟩⟩
theorem st_alloc {z : Value} (hz : tyZero P T = some z) : Stp P cx ⟨d, .alloc T, ty, ps, af, gd⟩ fr H nx ⟨.ptr nx 0, [], [(nx, .var (zcells z))], 1⟩ := ⟨_, ok_alloc hz, by simp, trivial, trivial⟩
theorem st_box (h : ev fr X = some p) (hp : pcells p = some newp) : Stp P cx ⟨d, .box T X, ty, ps, af, gd⟩ fr H nx ⟨.ptr nx 0, [], [(nx, .var newp)], 1⟩ := ⟨_, ok_box hp, by simp [Op.operands], ⟨h, trivial⟩, trivial⟩
theorem st_build {L : List (Nat × Operand × PV)} {zc : List FV} {pl : List (Nat × Nat)} {fp : List (Nat × List FV)} (hz : zeroF P T = some zc) (hpl : structPl P T = some pl) (h : EvAll fr (L.map fun q => (q.2.1, q.2.2))) (hp : partF L = some fp) (hf : fillF (fun i => pl[i]?) zc fp = some cs) :
    Stp P cx ⟨d, .build T (L.map fun q => (q.1, q.2.1)).toArray, ty, ps, af, gd⟩ fr H nx ⟨.agg cs, [], [], 0⟩ := ⟨_, ok_build hz hpl hp hf, by
      intro u hu
      obtain ⟨q, hq, rfl⟩ := List.mem_map.1 hu
      simp [Op.operands]
      exact ⟨q.1, q.2.2, hq⟩, h, trivial⟩
theorem st_build_arr {L : List (Nat × Operand × PV)} {zc : List FV} {fp : List (Nat × List FV)} (hz : zeroF P T = some zc) (hpl : arrPl P T = some K) (h : EvAll fr (L.map fun q => (q.2.1, q.2.2))) (hp : partF L = some fp) (hf : fillF (fun i => some (i * K, K)) zc fp = some cs) :
    Stp P cx ⟨d, .build T (L.map fun q => (q.1, q.2.1)).toArray, ty, ps, af, gd⟩ fr H nx ⟨.agg cs, [], [], 0⟩ := ⟨_, ok_build_arr hz hpl hp hf, by
      intro u hu
      obtain ⟨q, hq, rfl⟩ := List.mem_map.1 hu
      simp [Op.operands]
      exact ⟨q.1, q.2.2, hq⟩, h, trivial⟩
theorem st_buildS {L : List (Nat × Operand × PV)} {fp : List (Nat × List FV)} (ht : elemInfo P T = some E) (hn : Nat.ble (K * E.sz) 16777216 = true) (h : EvAll fr (L.map fun q => (q.2.1, q.2.2))) (hp : partF L = some fp) (hf : fillF (fun i => some (i * E.sz, E.sz)) (reps E.zc K) fp = some cs) :
    Stp P cx ⟨d, .buildSlice T K (L.map fun q => (q.1, q.2.1)).toArray, ty, ps, af, gd⟩ fr H nx ⟨.own nx K, [], [(nx, .arr E.e E.sz K cs)], 1⟩ := ⟨_, ok_buildSlice ht hn hp hf, by
      intro u hu
      obtain ⟨q, hq, rfl⟩ := List.mem_map.1 hu
      simp [Op.operands]
      exact ⟨q.1, q.2.2, hq⟩, h, trivial⟩
theorem st_make (ht : elemInfo P T = some E) (h : ev fr X = some (.cell (.int k m))) (h0 : 0 ≤ m) (hb : E.bytes * m.toNat ≤ 281474976710656) (h63 : m ≤ 9223372036854775807) : Stp P cx ⟨d, .makeSlice T X X, ty, ps, af, gd⟩ fr H nx ⟨.own nx m.toNat, [], [(nx, .arr E.e E.sz m.toNat (reps E.zc m.toNat))], 1⟩ :=
  ⟨_, ok_makeSlice ht h0 hb h63, by simp [Op.operands], ⟨h, trivial⟩, trivial⟩
/-- What is made is frozen at once. -/
theorem Stp.frz {o : Oper} {rd wr : List (Nat × Blk)} {nn n0 : Nat} (h : Stp P cx o fr H nx ⟨.own id n0, rd, wr, nn⟩) (hid : lk wr id = some (.arr e' sz n0 cs)) : Stp P cx o fr H nx ⟨.cell (.sl n0 cs), rd, (id, .fro n0 cs) :: wr, nn⟩ := by
  obtain ⟨us, h1, h2, h3, h4⟩ := h
  exact ⟨us, h1.frz hid, h2, h3, h4⟩
theorem st_append {M : Nat} (ht : elemInfo P T = some E) (hu : P.underlying T' = some (.slice e')) (h : ev fr X = some (.own id len)) (hH : lk H id = some (.arr E.e E.sz len cs)) (h1 : ev fr Y = some p) (hp : slOf p = some (M, new)) (hl : new.length = M * E.sz) (hid : Nat.blt id nx = true) (hb : (len + M) * E.bytes ≤ 140737488355328) (hm : len + M ≤ 9223372036854775807) :
    Stp P cx ⟨d, .call ⟨.builtin .append, #[X, Y], #[T, T']⟩, ty, ps, af, gd⟩ fr H nx ⟨.own nx (len + M), [(id, .arr E.e E.sz len cs)], [(nx, .arr E.e E.sz (len + M) (cs ++ new)), (id, .dead)], 1⟩ :=
  ⟨_, ok_append ht hu hp hl hb hm (by simpa [Nat.blt_eq] using hid), by simp [Op.operands, Call.operands], ⟨h, h1, trivial⟩, ⟨hH, trivial⟩⟩
theorem st_append_nil {M : Nat} (ht : elemInfo P T = some E) (hu : P.underlying T' = some (.slice e')) (h : ev fr X = some .nilS) (h1 : ev fr Y = some p) (hp : slOf p = some (M, new)) (hl : new.length = M * E.sz) (hb : M * E.bytes ≤ 140737488355328) (hm : M ≤ 9223372036854775807) :
    Stp P cx ⟨d, .call ⟨.builtin .append, #[X, Y], #[T, T']⟩, ty, ps, af, gd⟩ fr H nx ⟨.own nx M, [], [(nx, .arr E.e E.sz M new)], 1⟩ :=
  ⟨_, ok_append_nil ht hu hp hl hb hm, by simp [Op.operands, Call.operands], ⟨h, h1, trivial⟩, trivial⟩
theorem st_slice_lh (ht : elemSz P T = some sz) (h : ev fr X = some (.cell (.sl len cs))) (h1 : ev fr Y = some (.cell (.int k m))) (h2 : ev fr Z = some (.cell (.int k' l))) (hs : cs.length = len * sz) (h0 : 0 ≤ m) (h3 : m ≤ l) (h4 : l ≤ len) :
    Stp P cx ⟨d, .slice T X (some Y) (some Z) none, ty, ps, af, gd⟩ fr H nx ⟨.cell (.sl (l.toNat - m.toNat) ((cs.drop (m.toNat * sz)).take ((l.toNat - m.toNat) * sz))), [], [], 0⟩ := ⟨_, ok_slice_lh ht hs h0 h3 h4, by simp [Op.operands], ⟨h, h1, h2, trivial⟩, trivial⟩
theorem st_slice_h (ht : elemSz P T = some sz) (h : ev fr X = some (.cell (.sl len cs))) (h2 : ev fr Z = some (.cell (.int k' l))) (hs : cs.length = len * sz) (h3 : 0 ≤ l) (h4 : l ≤ len) :
    Stp P cx ⟨d, .slice T X none (some Z) none, ty, ps, af, gd⟩ fr H nx ⟨.cell (.sl l.toNat (cs.take (l.toNat * sz))), [], [], 0⟩ := ⟨_, ok_slice_h ht hs h3 h4, by simp [Op.operands], ⟨h, h2, trivial⟩, trivial⟩
theorem st_slice_l (ht : elemSz P T = some sz) (h : ev fr X = some (.cell (.sl len cs))) (h2 : ev fr Y = some (.cell (.int k m))) (hs : cs.length = len * sz) (h3 : 0 ≤ m) (h4 : m ≤ len) :
    Stp P cx ⟨d, .slice T X (some Y) none none, ty, ps, af, gd⟩ fr H nx ⟨.cell (.sl (len - m.toNat) (cs.drop (m.toNat * sz))), [], [], 0⟩ := ⟨_, ok_slice_l ht hs h3 h4, by simp [Op.operands], ⟨h, h2, trivial⟩, trivial⟩
theorem st_slice_hm (ht : elemSz P T = some sz) (h : ev fr X = some (.cell (.sl len cs))) (h1 : ev fr Y = some (.cell (.int k m))) (h2 : ev fr Z = some (.cell (.int k' l))) (hs : cs.length = len * sz) (h0 : 0 ≤ m) (h3 : m ≤ l) (h4 : l ≤ len) :
    Stp P cx ⟨d, .slice T X none (some Y) (some Z), ty, ps, af, gd⟩ fr H nx ⟨.cell (.sl m.toNat (cs.take (m.toNat * sz))), [], [], 0⟩ := ⟨_, ok_slice_hm ht hs h0 h3 h4, by simp [Op.operands], ⟨h, h1, h2, trivial⟩, trivial⟩
theorem st_slice_00 (ht : elemSz P T = some sz) (h : ev fr X = some (.cell (.sl len cs))) (h1 : ev fr Y = some (.cell (.int k 0))) (h2 : ev fr Z = some (.cell (.int k' 0))) :
    Stp P cx ⟨d, .slice T X none (some Y) (some Z), ty, ps, af, gd⟩ fr H nx ⟨.emp, [], [], 0⟩ := ⟨_, ok_slice_00 ht, by simp [Op.operands], ⟨h, h1, h2, trivial⟩, trivial⟩
theorem st_len (ht : P.underlying T = some (.slice e')) (h : ev fr X = some p) (hp : lenOf p = some len) : Stp P cx ⟨d, .call ⟨.builtin .len, #[X], #[T]⟩, ty, ps, af, gd⟩ fr H nx ⟨.cell (.int .i64 len), [], [], 0⟩ := ⟨_, ok_len ht hp, by simp [Op.operands, Call.operands], ⟨h, trivial⟩, trivial⟩
theorem st_min {ts : Array TypeId} (h : ev fr X = some (.cell (.int k m))) (h1 : ev fr Y = some (.cell (.int k l))) : Stp P cx ⟨d, .call ⟨.builtin .min, #[X, Y], ts⟩, ty, ps, af, gd⟩ fr H nx ⟨.cell (.int k (min m l)), [], [], 0⟩ := ⟨_, ok_min, by simp [Op.operands, Call.operands], ⟨h, h1, trivial⟩, trivial⟩
theorem st_max {ts : Array TypeId} (h : ev fr X = some (.cell (.int k m))) (h1 : ev fr Y = some (.cell (.int k l))) : Stp P cx ⟨d, .call ⟨.builtin .max, #[X, Y], ts⟩, ty, ps, af, gd⟩ fr H nx ⟨.cell (.int k (max m l)), [], [], 0⟩ := ⟨_, ok_max, by simp [Op.operands, Call.operands], ⟨h, h1, trivial⟩, trivial⟩
theorem st_extract {vs : List PV} {i : Nat} (h : ev fr X = some (.tup vs)) (hp : vs[i]? = some p) : Stp P cx ⟨d, .extract X i, ty, ps, af, gd⟩ fr H nx ⟨p, [], [], 0⟩ := ⟨_, ok_extract hp, by simp [Op.operands], ⟨h, trivial⟩, trivial⟩
theorem st_makeFunc {f : FuncId} {L : List (Operand × PV)} (h : EvAll fr L) : Stp P cx ⟨d, .makeFunc (.func f) #[] (L.map (·.1)).toArray, ty, ps, af, gd⟩ fr H nx ⟨.func f (L.map (·.2)), [], [], 0⟩ := ⟨_, ok_makeFunc, by
      intro u hu
      simp [Op.operands]
      exact ⟨u.2, hu⟩, h, trivial⟩

/-- The blocks that arguments lead to. -/
def idsOf0 : PV → List Nat
  | .own id _ => [id]
  | .ptr id _ => [id]
  | _ => []
def idsOf : PV → List Nat
  | .func _ caps => caps.flatMap idsOf0
  | p => idsOf0 p
def deeper (H : Hp) (i : Nat) : List Nat :=
  match lk H i with
  | some (.var cells) => i :: cells.flatMap idsOf0
  | _ => [i]
def rdOf (H : Hp) (l : List PV) : List (Nat × Blk) := ((l.flatMap idsOf).flatMap (deeper H)).filterMap fun i => match lk H i with | some k => some (i, k) | none => none
theorem rdAll_of (H : Hp) : ∀ (l : List Nat), RdAll (lk H) (l.filterMap fun i => match lk H i with | some k => some (i, k) | none => none)
  | [] => trivial
  | i :: l => by
    rw [List.filterMap_cons]
    split
    · exact rdAll_of H l
    · rename_i q hq
      split at hq
      · rename_i k hk
        injection hq with hq
        subst hq
        exact ⟨hk, rdAll_of H l⟩
      · cases hq

/-- A call by its contract; 'all': of what the caller owns, too (where the result is a number or the like). -/
theorem st_call {f : FuncId} {ts : Array TypeId} {L : List (Operand × PV)} {qs : List PV} {v : PV} (all : Bool) (hf : plainFn P f = true) (h : EvAll fr L) (hl : lends all (rdOf H (L.map (·.2))) (L.map (·.2)) = some qs) (hc : PureC P f qs v) (hv : resOK all v = true) :
    Stp P cx ⟨d, .call ⟨.value (.func f), (L.map (·.1)).toArray, ts⟩, ty, ps, af, gd⟩ fr H nx ⟨v, rdOf H (L.map (·.2)), [], 0⟩ := ⟨_, ok_call hf hl hc hv, by
      intro u hu
      simp [Op.operands, Call.operands]
      exact .inr ⟨u.2, hu⟩, h, rdAll_of H _⟩
theorem st_callv {f : FuncId} {caps : List PV} {ts : Array TypeId} {L : List (Operand × PV)} {qs : List PV} {v : PV} (all : Bool) (hx : ev fr X = some (.func f caps)) (hf : plainFn P f = true) (h : EvAll fr L) (hl : lends all (rdOf H (L.map (·.2) ++ caps)) (L.map (·.2) ++ caps) = some qs) (hc : PureC P f qs v) (hv : resOK all v = true) :
    Stp P cx ⟨d, .call ⟨.value X, (L.map (·.1)).toArray, ts⟩, ty, ps, af, gd⟩ fr H nx ⟨v, rdOf H (L.map (·.2) ++ caps), [], 0⟩ := ⟨_, ok_callv hf hl hc hv, by
      intro u hu
      simp [Op.operands, Call.operands]
      rcases List.mem_cons.1 hu with rfl | hu
      · exact .inl rfl
      · exact .inr ⟨u.2, hu⟩, ⟨hx, h⟩, rdAll_of H _⟩
end
end
end Go.Proofs.Gh
end
section
set_option linter.unusedVariables false
set_option linter.unusedSimpArgs false
namespace Go.Proofs.Gh
open Go.RowKit

theorem w64 {n : Int} (h : -9223372036854775808 ≤ n) (h' : n ≤ 9223372036854775807) : IntKind.i64.wrap n = n := by
  rw [IntKind.wrap_i64]
  omega
theorem wrap64_in {n : Int} (h : -9223372036854775808 ≤ n) (h' : n ≤ 9223372036854775807) : IntKind.i64.wrap n = n := w64 h h'

section
variable {P : Program} {cx : Cx} {N : Nat} {n : St → Prop} {x : Nat → St → Prop} {r : St → Prop} {fr : Fr} {H : Hp} {nx : Nat} {s : St}
variable {d : Option Tmp} {ty : TypeId} {ps : String} {af : Array Edge} {gd : Option (Nat × Bool)} {X Y Z : Operand} {T T' : TypeId} {m l : Int}

/-- A test on numbers. -/
theorem AWP.condD {c : Operand} {t e : Code} {p : Prop} [Decidable p] (hc : ev s.fr c = some (.cell (.bool (decide p)))) (ht : p → AWP P cx N t n x r s) (he : ¬ p → AWP P cx N e n x r s) : AWP P cx N (.cond c t e) n x r s :=
  AWP.cond hc (fun h => ht (of_decide_eq_true h)) fun h => he (of_decide_eq_false h)
theorem AWP.cond_t {c : Operand} {t e : Code} {b : Bool} (hc : ev s.fr c = some (.cell (.bool b))) (hb : b = true) (ht : AWP P cx N t n x r s) : AWP P cx N (.cond c t e) n x r s :=
  AWP.cond hc (fun _ => ht) fun h => by rw [hb] at h; cases h
theorem AWP.cond_f {c : Operand} {t e : Code} {b : Bool} (hc : ev s.fr c = some (.cell (.bool b))) (hb : b = false) (he : AWP P cx N e n x r s) : AWP P cx N (.cond c t e) n x r s :=
  AWP.cond hc (fun h => by rw [hb] at h; cases h) fun _ => he

/-- Behind a piece of code something is known of the state; the ways meet there. -/
theorem AWP.seqP {c d : Code} (mid : St → Prop) (h : AWP P cx N c mid x r s) (hk : ∀ s', mid s' → AWP P cx N d n x r s') : AWP P cx N (c.seq d) n x r s := AWP.seq (AWP.mono h hk)

/-- A loop whose states at the rounds' heads are 'S z', z with 'inv z'; μ goes down. -/
theorem AWP.loopP {c : Code} {σ : Type} (S : σ → St) (inv : σ → Prop) (μ : σ → Nat) (z : σ) (hs : Sub s (S z)) (hz : inv z) (round : ∀ z, inv z → AWP P cx N c (fun s' => ∃ z', Sub s' (S z') ∧ inv z' ∧ μ z' < μ z) x r (S z)) : AWP P cx N (.loop c) n x r s :=
  AWP.sub hs (AWP.loop (fun m s => ∃ z, m = μ z ∧ s = S z ∧ inv z) (μ z) ⟨z, rfl, rfl, hz⟩ fun m s ⟨z, hm, he, hi⟩ => by
    subst hm he
    intro F0 F g a w h0 hS
    refine Code.wpIn_mono ?_ (round z hi F0 F g a w h0 hS)
    intro e a w hp
    obtain ⟨F1, g1, s1, h1, h2, h3⟩ := hp
    cases e with
    | normal =>
      obtain ⟨z', hsub, hi', hlt⟩ := h3
      exact ⟨F1, g1, S z', h1, h2.sub hsub, μ z', hlt, z', rfl, rfl, hi'⟩
    | exit i => exact ⟨F1, g1, s1, h1, h2, h3⟩
    | ret => exact ⟨F1, g1, s1, h1, h2, h3⟩
    | goto l => exact h3.elim
    | panic ch => exact h3.elim
    | outgrown => exact h3.elim)

theorem st_add_i (h : ev fr X = some (.cell (.int .i64 m))) (h1 : ev fr Y = some (.cell (.int .i64 l))) (h2 : -9223372036854775808 ≤ m + l) (h3 : m + l ≤ 9223372036854775807) : Stp P cx ⟨d, .binOp .add T X Y T', ty, ps, af, gd⟩ fr H nx ⟨.cell (.int .i64 (m + l)), [], [], 0⟩ := st_add' h h1 (w64 h2 h3)
theorem st_sub_i (h : ev fr X = some (.cell (.int .i64 m))) (h1 : ev fr Y = some (.cell (.int .i64 l))) (h2 : -9223372036854775808 ≤ m - l) (h3 : m - l ≤ 9223372036854775807) : Stp P cx ⟨d, .binOp .sub T X Y T', ty, ps, af, gd⟩ fr H nx ⟨.cell (.int .i64 (m - l)), [], [], 0⟩ := st_sub' h h1 (w64 h2 h3)
theorem st_mul_i (h : ev fr X = some (.cell (.int .i64 m))) (h1 : ev fr Y = some (.cell (.int .i64 l))) (h2 : -9223372036854775808 ≤ m * l) (h3 : m * l ≤ 9223372036854775807) : Stp P cx ⟨d, .binOp .mul T X Y T', ty, ps, af, gd⟩ fr H nx ⟨.cell (.int .i64 (m * l)), [], [], 0⟩ := st_mul' h h1 (w64 h2 h3)
theorem st_neg_i (h : ev fr X = some (.cell (.int .i64 m))) (h2 : -9223372036854775807 ≤ m) (h3 : m ≤ 9223372036854775807) : Stp P cx ⟨d, .unOp .neg T X, ty, ps, af, gd⟩ fr H nx ⟨.cell (.int .i64 (-m)), [], [], 0⟩ := by
  have := st_neg (P := P) (cx := cx) (d := d) (T := T) (ty := ty) (ps := ps) (af := af) (gd := gd) (H := H) (nx := nx) h
  rwa [w64 (by omega) (by omega), Int.zero_sub] at this
/-- Division of what is not negative. -/
theorem st_quo_i (h : ev fr X = some (.cell (.int .i64 m))) (h1 : ev fr Y = some (.cell (.int .i64 l))) (h2 : 0 ≤ m) (h3 : 0 < l) (h4 : m ≤ 9223372036854775807) : Stp P cx ⟨d, .binOp .quo T X Y T', ty, ps, af, gd⟩ fr H nx ⟨.cell (.int .i64 (m / l)), [], [], 0⟩ := by
  have := st_quo (P := P) (cx := cx) (d := d) (T := T) (T' := T') (ty := ty) (ps := ps) (af := af) (gd := gd) (H := H) (nx := nx) h h1 (by omega)
  have hle : m / l ≤ m := Int.ediv_le_self l h2
  have h0 : 0 ≤ m / l := Int.ediv_nonneg h2 (by omega)
  rwa [Int.tdiv_eq_ediv_of_nonneg h2, w64 (by omega) (by omega)] at this
theorem st_rem_i (h : ev fr X = some (.cell (.int .i64 m))) (h1 : ev fr Y = some (.cell (.int .i64 l))) (h2 : 0 ≤ m) (h3 : 0 < l) : Stp P cx ⟨d, .binOp .rem T X Y T', ty, ps, af, gd⟩ fr H nx ⟨.cell (.int .i64 (m % l)), [], [], 0⟩ := by
  have := st_rem (P := P) (cx := cx) (d := d) (T := T) (T' := T') (ty := ty) (ps := ps) (af := af) (gd := gd) (H := H) (nx := nx) h h1 (by omega)
  rwa [Int.tmod_eq_emod_of_nonneg h2] at this

/-- The value of a load, told another way. -/
theorem Stp.val {o : Oper} {p q : PV} {rd wr : List (Nat × Blk)} {nn : Nat} (h : Stp P cx o fr H nx ⟨p, rd, wr, nn⟩) (he : p = q) : Stp P cx o fr H nx ⟨q, rd, wr, nn⟩ := by rw [← he]; exact h
end
end Go.Proofs.Gh
namespace Go.Proofs.Gh
section
variable {P : Program} {cx : Cx} {N : Nat} {n : St → Prop} {x : Nat → St → Prop} {r : St → Prop} {ops : Array Oper} {rest : List Oper} {fr : Fr} {H : Hp} {nx : Nat}
variable {t : Tmp} {op : Op} {d : Option Tmp} {ty : TypeId} {ps : String} {af : Array Edge} {gd : Option (Nat × Bool)} {X Y Z : Operand} {p : PV}
theorem OPS.pG {rd : List (Nat × Blk)} {j g : Nat} {b b' : Bool} (hd : Nat.blt t N = true) (ht : ((ops[j]?).bind (·.dst)) = some g) (hv : lk fr g = some (.cell (.bool b'))) (hb : b' = b) (h : Stp P cx ⟨some t, op, ty, ps, af, some (j, b)⟩ fr H nx ⟨p, rd, [], 0⟩)
    (hk : OPS P cx N ops rest n x r ⟨(t, p) :: fr, H, nx⟩) : OPS P cx N ops (⟨some t, op, ty, ps, af, some (j, b)⟩ :: rest) n x r ⟨fr, H, nx⟩ := by subst hb; exact OPS.pg hd ht hv h hk
theorem OPS.aG {rd wr : List (Nat × Blk)} {j g : Nat} {b b' : Bool} (hd : Nat.blt t N = true) (ht : ((ops[j]?).bind (·.dst)) = some g) (hv : lk fr g = some (.cell (.bool b'))) (hb : b' = b) (h : Stp P cx ⟨some t, op, ty, ps, af, some (j, b)⟩ fr H nx ⟨p, rd, wr, 1⟩)
    (hk : OPS P cx N ops rest n x r ⟨(t, p) :: fr, wr ++ H, nx + 1⟩) : OPS P cx N ops (⟨some t, op, ty, ps, af, some (j, b)⟩ :: rest) n x r ⟨fr, H, nx⟩ := by subst hb; exact OPS.ag hd ht hv h hk
theorem OPS.nO {j g : Nat} {b b' : Bool} (hd : Nat.blt t N = true) (ht : ((ops[j]?).bind (·.dst)) = some g) (hv : lk fr g = some (.cell (.bool b'))) (hb : b' = !b) (hk : OPS P cx N ops rest n x r ⟨(t, .tup []) :: fr, H, nx⟩) : OPS P cx N ops (⟨some t, op, ty, ps, af, some (j, b)⟩ :: rest) n x r ⟨fr, H, nx⟩ := by subst hb; exact OPS.no hd ht hv hk
theorem st_pickT {b : Bool} (h : ev fr X = some (.cell (.bool b))) (hb : b = true) (h1 : ev fr Y = some p) : Stp P cx ⟨d, .pick X Y Z, ty, ps, af, gd⟩ fr H nx ⟨p, [], [], 0⟩ := by subst hb; exact st_pick_t h h1
theorem st_pickF {b : Bool} (h : ev fr X = some (.cell (.bool b))) (hb : b = false) (h1 : ev fr Z = some p) : Stp P cx ⟨d, .pick X Y Z, ty, ps, af, gd⟩ fr H nx ⟨p, [], [], 0⟩ := by subst hb; exact st_pick_f h h1
section
variable {os : List Oper} {rs : List Rec} {fr' : Fr} {H' : Hp} {nx' : Nat}
theorem ChainL.pG {rd : List (Nat × Blk)} {j g : Nat} {b b' : Bool} (hd : Nat.blt t N = true) (ht : ((ops[j]?).bind (·.dst)) = some g) (hv : lk fr g = some (.cell (.bool b'))) (hb : b' = b) (h : Stp P cx ⟨some t, op, ty, ps, af, some (j, b)⟩ fr H nx ⟨p, rd, [], 0⟩)
    (hk : ChainL P cx N ops os ((t, p) :: fr) H nx rs fr' H' nx') : ChainL P cx N ops (⟨some t, op, ty, ps, af, some (j, b)⟩ :: os) fr H nx (⟨⟨some t, op, ty, ps, af, some (j, b)⟩, ⟨p, rd, [], 0⟩, nx⟩ :: rs) fr' H' nx' := by subst hb; exact ChainL.pg hd ht hv h hk
theorem ChainL.aG {rd wr : List (Nat × Blk)} {j g : Nat} {b b' : Bool} (hd : Nat.blt t N = true) (ht : ((ops[j]?).bind (·.dst)) = some g) (hv : lk fr g = some (.cell (.bool b'))) (hb : b' = b) (h : Stp P cx ⟨some t, op, ty, ps, af, some (j, b)⟩ fr H nx ⟨p, rd, wr, 1⟩)
    (hk : ChainL P cx N ops os ((t, p) :: fr) (wr ++ H) (nx + 1) rs fr' H' nx') : ChainL P cx N ops (⟨some t, op, ty, ps, af, some (j, b)⟩ :: os) fr H nx (⟨⟨some t, op, ty, ps, af, some (j, b)⟩, ⟨p, rd, wr, 1⟩, nx⟩ :: rs) fr' H' nx' := by subst hb; exact ChainL.ag hd ht hv h hk
theorem ChainL.nO {j g : Nat} {b b' : Bool} (hd : Nat.blt t N = true) (ht : ((ops[j]?).bind (·.dst)) = some g) (hv : lk fr g = some (.cell (.bool b'))) (hb : b' = !b) (hk : ChainL P cx N ops os ((t, .tup []) :: fr) H nx rs fr' H' nx') :
    ChainL P cx N ops (⟨some t, op, ty, ps, af, some (j, b)⟩ :: os) fr H nx (⟨⟨some t, op, ty, ps, af, some (j, b)⟩, ⟨.tup [], [], [], 0⟩, nx⟩ :: rs) fr' H' nx' := by subst hb; exact ChainL.no hd ht hv hk
end
end
end Go.Proofs.Gh
end
section
set_option linter.unusedVariables false
set_option linter.unusedSimpArgs false
namespace Go.Proofs.Gh
open Go.RowKit

section
variable {P : Program} {cx : Cx} {N : Nat} {n : St → Prop} {x : Nat → St → Prop} {r : St → Prop} {ops : Array Oper} {os : List Oper} {dn : List Rec} {fr : Fr} {H : Hp} {nx : Nat}
variable {t : Tmp} {op : Op} {d : Option Tmp} {ty : TypeId} {ps : String} {af : Array Edge} {gd : Option (Nat × Bool)} {X Y Z : Operand} {pv : PV}

/-- The rest of a region whose order is open. -/
def DRW (P : Program) (cx : Cx) (N : Nat) (ops : Array Oper) (os : List Oper) (dn : List Rec) (n : St → Prop) (fr : Fr) (H : Hp) (nx : Nat) : Prop :=
  ∃ rs fr' H' nx', ChainL P cx N ops os fr H nx rs fr' H' nx' ∧ allOK ops (befs ops.toList []) [] (dn ++ rs) 0 = true ∧ n ⟨fr', H', nx'⟩

theorem AWP.drw {i : Nat} (hm : P.follows .mixedOrders = true) (h : DRW P cx N ops ops.toList [] n fr H nx) : AWP P cx N (.region i ops true) n x r ⟨fr, H, nx⟩ := by
  obtain ⟨rs, fr', H', nx', h1, h2, h3⟩ := h
  exact AWP.draw hm h1 (by simpa using h2) h3
theorem DRW.nil (hok : allOK ops (befs ops.toList []) [] dn 0 = true) (h : n ⟨fr, H, nx⟩) : DRW P cx N ops [] dn n fr H nx := ⟨[], fr, H, nx, .nil, by simpa using hok, h⟩
theorem DRW.cons {o : Oper} {e : Eff} {fr1 : Fr} {H1 : Hp} {nx1 : Nat} (hc : ∀ {rs fr' H' nx'}, ChainL P cx N ops os fr1 H1 nx1 rs fr' H' nx' → ChainL P cx N ops (o :: os) fr H nx (⟨o, e, nx⟩ :: rs) fr' H' nx') (hk : DRW P cx N ops os (dn ++ [⟨o, e, nx⟩]) n fr1 H1 nx1) : DRW P cx N ops (o :: os) dn n fr H nx := by
  obtain ⟨rs, fr', H', nx', h1, h2, h3⟩ := hk
  exact ⟨_, fr', H', nx', hc h1, by rw [List.append_assoc] at h2; exact h2, h3⟩

theorem DRW.p {rd : List (Nat × Blk)} (hd : Nat.blt t N = true) (h : Stp P cx ⟨some t, op, ty, ps, af, none⟩ fr H nx ⟨pv, rd, [], 0⟩) (hk : DRW P cx N ops os (dn ++ [⟨⟨some t, op, ty, ps, af, none⟩, ⟨pv, rd, [], 0⟩, nx⟩]) n ((t, pv) :: fr) H nx) : DRW P cx N ops (⟨some t, op, ty, ps, af, none⟩ :: os) dn n fr H nx := DRW.cons (ChainL.p hd h) hk
theorem DRW.s {i : Nat} {k : Blk} {rd : List (Nat × Blk)} (h : Stp P cx ⟨none, op, ty, ps, af, none⟩ fr H nx ⟨.undef, rd, [(i, k)], 0⟩) (hk : DRW P cx N ops os (dn ++ [⟨⟨none, op, ty, ps, af, none⟩, ⟨.undef, rd, [(i, k)], 0⟩, nx⟩]) n fr ((i, k) :: H) nx) : DRW P cx N ops (⟨none, op, ty, ps, af, none⟩ :: os) dn n fr H nx := DRW.cons (ChainL.s h) hk
theorem DRW.u {rd : List (Nat × Blk)} (h : Stp P cx ⟨none, op, ty, ps, af, none⟩ fr H nx ⟨pv, rd, [], 0⟩) (hk : DRW P cx N ops os (dn ++ [⟨⟨none, op, ty, ps, af, none⟩, ⟨pv, rd, [], 0⟩, nx⟩]) n fr H nx) : DRW P cx N ops (⟨none, op, ty, ps, af, none⟩ :: os) dn n fr H nx := DRW.cons (ChainL.u h) hk
theorem DRW.a {rd wr : List (Nat × Blk)} (hd : Nat.blt t N = true) (h : Stp P cx ⟨some t, op, ty, ps, af, none⟩ fr H nx ⟨pv, rd, wr, 1⟩) (hk : DRW P cx N ops os (dn ++ [⟨⟨some t, op, ty, ps, af, none⟩, ⟨pv, rd, wr, 1⟩, nx⟩]) n ((t, pv) :: fr) (wr ++ H) (nx + 1)) : DRW P cx N ops (⟨some t, op, ty, ps, af, none⟩ :: os) dn n fr H nx := DRW.cons (ChainL.a hd h) hk
theorem DRW.pG {rd : List (Nat × Blk)} {j g : Nat} {b b' : Bool} (hd : Nat.blt t N = true) (ht : ((ops[j]?).bind (·.dst)) = some g) (hv : lk fr g = some (.cell (.bool b'))) (hb : b' = b) (h : Stp P cx ⟨some t, op, ty, ps, af, some (j, b)⟩ fr H nx ⟨pv, rd, [], 0⟩)
    (hk : DRW P cx N ops os (dn ++ [⟨⟨some t, op, ty, ps, af, some (j, b)⟩, ⟨pv, rd, [], 0⟩, nx⟩]) n ((t, pv) :: fr) H nx) : DRW P cx N ops (⟨some t, op, ty, ps, af, some (j, b)⟩ :: os) dn n fr H nx := DRW.cons (ChainL.pG hd ht hv hb h) hk
theorem DRW.aG {rd wr : List (Nat × Blk)} {j g : Nat} {b b' : Bool} (hd : Nat.blt t N = true) (ht : ((ops[j]?).bind (·.dst)) = some g) (hv : lk fr g = some (.cell (.bool b'))) (hb : b' = b) (h : Stp P cx ⟨some t, op, ty, ps, af, some (j, b)⟩ fr H nx ⟨pv, rd, wr, 1⟩)
    (hk : DRW P cx N ops os (dn ++ [⟨⟨some t, op, ty, ps, af, some (j, b)⟩, ⟨pv, rd, wr, 1⟩, nx⟩]) n ((t, pv) :: fr) (wr ++ H) (nx + 1)) : DRW P cx N ops (⟨some t, op, ty, ps, af, some (j, b)⟩ :: os) dn n fr H nx := DRW.cons (ChainL.aG hd ht hv hb h) hk
theorem DRW.nO {j g : Nat} {b b' : Bool} (hd : Nat.blt t N = true) (ht : ((ops[j]?).bind (·.dst)) = some g) (hv : lk fr g = some (.cell (.bool b'))) (hb : b' = !b) (hk : DRW P cx N ops os (dn ++ [⟨⟨some t, op, ty, ps, af, some (j, b)⟩, ⟨.tup [], [], [], 0⟩, nx⟩]) n ((t, .tup []) :: fr) H nx) : DRW P cx N ops (⟨some t, op, ty, ps, af, some (j, b)⟩ :: os) dn n fr H nx := DRW.cons (ChainL.nO hd ht hv hb) hk

/-- Under a guard that itself did not run. -/
theorem OPS.nT {j g : Nat} {b : Bool} (hd : Nat.blt t N = true) (ht : ((ops[j]?).bind (·.dst)) = some g) (hv : lk fr g = some (.tup [])) (hk : OPS P cx N ops os n x r ⟨(t, .tup []) :: fr, H, nx⟩) : OPS P cx N ops (⟨some t, op, ty, ps, af, some (j, b)⟩ :: os) n x r ⟨fr, H, nx⟩ := OPS.off rfl ht (.inr hv) hd hk
theorem DRW.nT {j g : Nat} {b : Bool} (hd : Nat.blt t N = true) (ht : ((ops[j]?).bind (·.dst)) = some g) (hv : lk fr g = some (.tup [])) (hk : DRW P cx N ops os (dn ++ [⟨⟨some t, op, ty, ps, af, some (j, b)⟩, ⟨.tup [], [], [], 0⟩, nx⟩]) n ((t, .tup []) :: fr) H nx) : DRW P cx N ops (⟨some t, op, ty, ps, af, some (j, b)⟩ :: os) dn n fr H nx := DRW.cons (fun h => .off rfl ht (.inr hv) hd h) hk

/-- Cases on a test. -/
theorem DRW.split {g : Nat} {q : Prop} [Decidable q] (hv : lk fr g = some (.cell (.bool (decide q)))) (h1 : decide q = true → q → DRW P cx N ops os dn n fr H nx) (h2 : decide q = false → ¬ q → DRW P cx N ops os dn n fr H nx) : DRW P cx N ops os dn n fr H nx := by
  by_cases h : q
  · exact h1 (decide_eq_true h) h
  · exact h2 (decide_eq_false h) h
theorem DRW.splitB {g : Nat} {q : Bool} (hv : lk fr g = some (.cell (.bool q))) (h1 : q = true → q = true → DRW P cx N ops os dn n fr H nx) (h2 : q = false → q = false → DRW P cx N ops os dn n fr H nx) : DRW P cx N ops os dn n fr H nx := by
  cases q with
  | true => exact h1 rfl rfl
  | false => exact h2 rfl rfl
theorem OPS.split {s : St} {g : Nat} {q : Prop} [Decidable q] (hv : lk s.fr g = some (.cell (.bool (decide q)))) (h1 : decide q = true → q → OPS P cx N ops os n x r s) (h2 : decide q = false → ¬ q → OPS P cx N ops os n x r s) : OPS P cx N ops os n x r s := by
  by_cases h : q
  · exact h1 (decide_eq_true h) h
  · exact h2 (decide_eq_false h) h
theorem OPS.splitB {s : St} {g : Nat} {q : Bool} (hv : lk s.fr g = some (.cell (.bool q))) (h1 : q = true → q = true → OPS P cx N ops os n x r s) (h2 : q = false → q = false → OPS P cx N ops os n x r s) : OPS P cx N ops os n x r s := by
  cases q with
  | true => exact h1 rfl rfl
  | false => exact h2 rfl rfl

/-! ### Nil as a list of the call's own -/
theorem SRep.adopt {F : FMap} {g : GMap} {a : Act} {w : World} (hS : SRep cx N F g ⟨fr, H, nx⟩ a w) (e sz : Nat) : g.le (g.set nx (.slice none 0 0)) ∧ SRep cx N F (g.set nx (.slice none 0 0)) ⟨fr, (nx, .arr e sz 0 []) :: H, nx + 1⟩ a w := by
  have hle : g.le (g.set nx (.slice none 0 0)) := GMap.le_set hS.heap.dom (i := nx) (by simp) _
  have hget : ∀ j v, (g.set nx (.slice none 0 0)) j = some v → (j = nx ∧ v = .slice none 0 0) ∨ (j ≠ nx ∧ g j = some v) := by
    intro j v hj
    unfold GMap.set at hj
    by_cases h : j = nx
    · rw [if_pos h] at hj; injection hj with hj; exact .inl ⟨h, hj.symm⟩
    · rw [if_neg h] at hj; exact .inr ⟨h, hj⟩
  refine ⟨hle, hS.defers, hS.size, fun t v hv => (hS.fr t v hv).mono (.refl F) hle, ?_, cx.up _ _ hle hS.keep, hS.keepW⟩
  have hH := hS.heap
  constructor
  · exact hH.agree
  · exact hH.agreeB
  · exact hH.below
  · exact hH.le
  · intro i v hv
    rcases hget i v hv with ⟨h, _⟩ | ⟨_, h⟩
    · show i < nx + 1; omega
    · have : i < nx := hH.dom i v h
      show i < nx + 1; omega
  · intro i k hk
    by_cases h : i = nx
    · subst h
      rw [lk_cons_eq] at hk
      injection hk with hk
      subst hk
      exact ⟨_, by simp [GMap.set], [], World.ownsRow_nil _ _ _ _, rfl, fun j hj => absurd hj (by simp)⟩
    · rw [lk_cons_ne _ _ (Ne.symm h)] at hk
      obtain ⟨v, h1, h2⟩ := hH.blk i k hk
      refine ⟨v, hle _ _ h1, ?_⟩
      cases k with
      | dead => trivial
      | var cells =>
        obtain ⟨b, c, e', q1, q2, q3, q4⟩ := h2
        exact ⟨b, c, e', q1, q2, q3, fun j hj => (q4 j hj).mono (.refl F) hle⟩
      | arr e' sz' n' cells => exact h2
      | fro n' cells => exact h2
      | loop st pe ps as bd N' fr' =>
        obtain ⟨b, fn, tmps, D, q1, q2, q3, q4⟩ := h2
        exact ⟨b, fn, tmps, D, q1, q2, q3, fun t p ht => (q4 t p ht).mono (.refl F) hle⟩
  · intro i k v b hk hm hv hb
    rcases hget i v hv with ⟨rfl, rfl⟩ | ⟨h, hv⟩
    · cases hb
    · rw [lk_cons_ne _ _ (Ne.symm h)] at hk
      exact hH.own i k v b hk hm hv hb
  · intro i j k l v u b hk hl hm hm' hv hu hb hb'
    rcases hget i v hv with ⟨rfl, rfl⟩ | ⟨h, hv⟩
    · cases hb
    · rcases hget j u hu with ⟨rfl, rfl⟩ | ⟨h', hu⟩
      · cases hb'
      · rw [lk_cons_ne _ _ (Ne.symm h)] at hk
        rw [lk_cons_ne _ _ (Ne.symm h')] at hl
        exact hH.inj i j k l v u b hk hl hm hm' hv hu hb hb'

/-- A slot that holds nil holds an own list without elements. -/
theorem AWP.adopt {c : Code} (t e sz : Nat) (ht : lk fr t = some .nilS) (h : AWP P cx N c n x r ⟨(t, .own nx 0) :: fr, (nx, .arr e sz 0 []) :: H, nx + 1⟩) : AWP P cx N c n x r ⟨fr, H, nx⟩ := by
  intro F0 F g a w h0 hS
  obtain ⟨h1, h2⟩ := hS.adopt e sz
  refine h F0 F _ a w h0 ⟨h2.defers, h2.size, ?_, h2.heap, h2.keep, h2.keepW⟩
  intro s v hv
  by_cases he : t = s
  · subst he
    rw [lk_cons_eq] at hv
    injection hv with hv
    subst hv
    have := hS.fr t _ ht
    generalize hq : a.tmps.getD t Go.undef = q at this
    cases this
    exact .own 0 (by simp [GMap.set]) none 0 rfl
  · rw [lk_cons_ne _ _ he] at hv
    exact h2.fr s v hv

/-! ### Rows -/
def fIs (l : List Int) : List FV := l.map fun n => .int .i64 n
theorem fIs_len (l : List Int) : (fIs l).length = l.length := by simp [fIs]
theorem fIs_append (l m : List Int) : fIs l ++ fIs m = fIs (l ++ m) := by simp [fIs]
theorem fIs_hd {l : List Int} {m : Int} (h0 : 0 ≤ m) (h : m < l.length) : ((fIs l).drop (m.toNat * 1)).head? = some (.int .i64 (l.getD m.toNat 0)) := by
  have : m.toNat < l.length := by omega
  simp [fIs, List.head?_drop, List.getD_eq_getElem?_getD, this]
theorem splice_one {α : Type} (l : List α) (i : Nat) (v : α) : splice l i [v] = if i < l.length then l.set i v else l ++ [v] := by
  unfold splice
  split
  · rename_i h
    rw [List.set_eq_take_append_cons_drop, if_pos h]
    simp
  · rename_i h
    rw [List.take_of_length_le (by omega), List.drop_of_length_le (by simp; omega)]
    simp
theorem fIs_set {l : List Int} {m : Int} (h0 : 0 ≤ m) (h : m < l.length) (v : Int) : splice (fIs l) (m.toNat * 1) [.int .i64 v] = fIs (l.set m.toNat v) := by
  rw [splice_one, if_pos (by rw [fIs_len]; omega)]
  simp [fIs, List.map_set]
def fR {α : Type} (enc : α → List FV) (l : List α) : List FV := l.flatMap enc
theorem fR_len {α : Type} {enc : α → List FV} {K : Nat} (hK : ∀ a, (enc a).length = K) (l : List α) : (fR enc l).length = l.length * K := by
  induction l with
  | nil => simp [fR]
  | cons a l ih =>
    simp only [fR, List.flatMap_cons, List.length_append, hK, List.length_cons] at *
    rw [ih, Nat.add_mul]
    omega
theorem fR_drop {α : Type} {enc : α → List FV} {K : Nat} (hK : ∀ a, (enc a).length = K) : ∀ (l : List α) (i : Nat), (fR enc l).drop (i * K) = fR enc (l.drop i)
  | l, 0 => by simp
  | [], i + 1 => by simp [fR]
  | a :: l, i + 1 => by
    have := fR_drop hK l i
    show (enc a ++ fR enc l).drop ((i + 1) * K) = _
    rw [List.drop_append, List.drop_of_length_le (by rw [hK]; exact Nat.le_mul_of_pos_left _ (by omega)), List.nil_append, hK, show (i + 1) * K - K = i * K by rw [Nat.add_mul]; omega, this]
    rfl
theorem fR_at {α : Type} {enc : α → List FV} {K : Nat} [Inhabited α] (hK : ∀ a, (enc a).length = K) {l : List α} {i : Nat} (h : i < l.length) : (fR enc l).drop (i * K) = enc (l.getD i default) ++ fR enc (l.drop (i + 1)) := by
  rw [fR_drop hK, List.drop_eq_getElem_cons h, fR, List.flatMap_cons, List.getD_eq_getElem?_getD, List.getElem?_eq_getElem h]
  rfl
theorem fR_append {α : Type} (enc : α → List FV) (l m : List α) : fR enc l ++ fR enc m = fR enc (l ++ m) := by simp [fR]
theorem fR_one {α : Type} (enc : α → List FV) (a : α) : fR enc [a] = enc a := by simp [fR]

section
variable {ty' : TypeId} {s' : St} {k : IntKind} {m l : Int} {len sz : Nat} {e' : Nat} {id : Nat} {ls : List Int}
theorem st_load_I (ht : isScal P ty = true) (h : ev fr X = some (.fptr ((fIs ls).drop (m.toNat * 1)))) (h0 : 0 ≤ m) (h1 : m < ls.length) : Stp P cx ⟨d, .load ty X, ty', ps, af, gd⟩ fr H nx ⟨.cell (.int .i64 (ls.getD m.toNat 0)), [], [], 0⟩ := st_load_fs ht h (fIs_hd h0 h1)
theorem st_load_oI (ht : isScal P ty = true) (h : ev fr X = some (.ptr id (m.toNat * 1))) (hH : lk H id = some (.arr e' sz len (fIs ls))) (h0 : 0 ≤ m) (h1 : m < ls.length) : Stp P cx ⟨d, .load ty X, ty', ps, af, gd⟩ fr H nx ⟨.cell (.int .i64 (ls.getD m.toNat 0)), [(id, .arr e' sz len (fIs ls))], [], 0⟩ := st_load_as ht h hH (fIs_hd h0 h1)
theorem st_store_oI {v : Int} (hs : tySz P ty = some 1) (h : ev fr X = some (.ptr id (m.toNat * 1))) (h1 : ev fr Y = some (.cell (.int .i64 v))) (hH : lk H id = some (.arr e' sz len (fIs ls))) (h0 : 0 ≤ m) (h2 : m < ls.length) :
    Stp P cx ⟨d, .store ty X Y, ty', ps, af, gd⟩ fr H nx ⟨.undef, [(id, .arr e' sz len (fIs ls))], [(id, .arr e' sz len (fIs (ls.set m.toNat v)))], 0⟩ := by
  rw [← fIs_set h0 h2]
  exact st_store_a hs h h1 hH rfl rfl (by rw [fIs_len]; omega)
theorem st_index_I (ht : elemSz P ty = some 1) (h : ev fr X = some (.cell (.sl len (fIs ls)))) (h1 : ev fr Y = some (.cell (.int k m))) (h0 : 0 ≤ m) (h2 : m < len) (hl : len = ls.length) : Stp P cx ⟨d, .indexAddr ty X Y, ty', ps, af, gd⟩ fr H nx ⟨.fptr ((fIs ls).drop (m.toNat * 1)), [], [], 0⟩ :=
  st_index_s ht h h1 rfl h0 h2 (by rw [fIs_len]; omega)
theorem st_append_I {E : ElemInfo} {T T' : TypeId} {v : List Int} {p : PV} (ht : elemInfo P T = some E) (hu : P.underlying T' = some (.slice e')) (hE : E.sz = 1) (h : ev fr X = some (.own id len)) (hH : lk H id = some (.arr E.e E.sz len (fIs ls))) (h1 : ev fr Y = some p) (hp : slOf p = some (v.length, fIs v)) (hlen : len = ls.length) (hid : Nat.blt id nx = true) (hb : (len + v.length) * E.bytes ≤ 140737488355328) (hm : len + v.length ≤ 9223372036854775807) :
    Stp P cx ⟨d, .call ⟨.builtin .append, #[X, Y], #[T, T']⟩, ty', ps, af, gd⟩ fr H nx ⟨.own nx (ls ++ v).length, [(id, .arr E.e E.sz len (fIs ls))], [(nx, .arr E.e E.sz (ls ++ v).length (fIs (ls ++ v))), (id, .dead)], 1⟩ := by
  have := st_append (cx := cx) (d := d) (ty := ty') (ps := ps) (af := af) (gd := gd) ht hu h hH h1 hp (by rw [fIs_len, hE]; omega) hid hb hm
  rw [← fIs_append, List.length_append, ← hlen]
  exact this
variable {α : Type} [Inhabited α] {enc : α → List FV} {K : Nat} {rows : List α}
/-- A row that is a struct. -/
theorem st_load_R (ht : aggSz P ty = some K) (h : ev fr X = some (.fptr ((fR enc rows).drop (m.toNat * K)))) (hK : ∀ a, (enc a).length = K) (h0 : 0 ≤ m) (h1 : m < rows.length) : Stp P cx ⟨d, .load ty X, ty', ps, af, gd⟩ fr H nx ⟨.agg (enc (rows.getD m.toNat default)), [], [], 0⟩ := by
  have hi : m.toNat < rows.length := by omega
  have hat := fR_at (enc := enc) hK hi
  refine (st_load_fa ht h ?_).val ?_
  · rw [hat, List.length_append, hK]; omega
  · rw [hat, List.take_left' (hK _)]
theorem st_load_oR (ht : aggSz P ty = some K) (h : ev fr X = some (.ptr id (m.toNat * K))) (hH : lk H id = some (.arr e' sz len (fR enc rows))) (hK : ∀ a, (enc a).length = K) (h0 : 0 ≤ m) (h1 : m < rows.length) : Stp P cx ⟨d, .load ty X, ty', ps, af, gd⟩ fr H nx ⟨.agg (enc (rows.getD m.toNat default)), [(id, .arr e' sz len (fR enc rows))], [], 0⟩ := by
  have hi : m.toNat < rows.length := by omega
  have hat := fR_at (enc := enc) hK hi
  have hl := congrArg List.length hat
  rw [List.length_drop, List.length_append, hK] at hl
  by_cases hK0 : K = 0
  · refine (st_load_aa ht h hH ?_).val ?_
    · subst hK0; simp
    · rw [hat, List.take_left' (hK _)]
  · refine (st_load_aa ht h hH ?_).val ?_
    · have := fR_len (enc := enc) hK rows
      rw [this]
      calc m.toNat * K + K = (m.toNat + 1) * K := by rw [Nat.add_mul]; omega
        _ ≤ rows.length * K := Nat.mul_le_mul_right K hi
    · rw [hat, List.take_left' (hK _)]
/-- A field of a row. -/
theorem st_load_RF {off : Nat} {v : FV} (ht : isScal P ty = true) (h : ev fr X = some (.fptr (((fR enc rows).drop (m.toNat * K)).drop off))) (hK : ∀ a, (enc a).length = K) (h0 : 0 ≤ m) (h1 : m < rows.length) (hv : ((enc (rows.getD m.toNat default)).drop off).head? = some v) : Stp P cx ⟨d, .load ty X, ty', ps, af, gd⟩ fr H nx ⟨.cell v, [], [], 0⟩ := by
  refine st_load_fs ht h ?_
  have hi : m.toNat < rows.length := by omega
  rw [fR_at (enc := enc) hK hi, List.drop_append]
  generalize hq : (enc (rows.getD m.toNat default)).drop off = q at hv
  cases q with
  | nil => cases hv
  | cons a q => exact hv
theorem st_load_RA {off K' : Nat} {v : List FV} (ht : aggSz P ty = some K') (h : ev fr X = some (.fptr (((fR enc rows).drop (m.toNat * K)).drop off))) (hK : ∀ a, (enc a).length = K) (h0 : 0 ≤ m) (h1 : m < rows.length) (hfit : Nat.ble (off + K') K = true) (hv : ((enc (rows.getD m.toNat default)).drop off).take K' = v) : Stp P cx ⟨d, .load ty X, ty', ps, af, gd⟩ fr H nx ⟨.agg v, [], [], 0⟩ := by
  have hi : m.toNat < rows.length := by omega
  have hat := fR_at (enc := enc) hK hi
  rw [Nat.ble_eq] at hfit
  refine (st_load_fa ht h ?_).val ?_
  · rw [hat, List.length_drop, List.length_append, hK]; omega
  · rw [hat, ← hv, List.drop_append_of_le_length (by rw [hK]; omega), List.take_append_of_le_length (by rw [List.length_drop, hK]; omega)]
omit [Inhabited α] in
theorem st_index_R (ht : elemSz P ty = some K) (h : ev fr X = some (.cell (.sl len (fR enc rows)))) (h1 : ev fr Y = some (.cell (.int k m))) (hK : ∀ a, (enc a).length = K) (hs : Nat.blt 0 K = true) (h0 : 0 ≤ m) (h2 : m < len) (hl : len = rows.length) : Stp P cx ⟨d, .indexAddr ty X Y, ty', ps, af, gd⟩ fr H nx ⟨.fptr ((fR enc rows).drop (m.toNat * K)), [], [], 0⟩ :=
  st_index_s ht h h1 hs h0 h2 (by rw [fR_len hK, hl]; exact Nat.le_refl _)
omit [Inhabited α] in
theorem st_append_R {E : ElemInfo} {T T' : TypeId} {v : List α} {p : PV} (ht : elemInfo P T = some E) (hu : P.underlying T' = some (.slice e')) (h : ev fr X = some (.own id len)) (hH : lk H id = some (.arr E.e E.sz len (fR enc rows))) (h1 : ev fr Y = some p) (hp : slOf p = some (v.length, fR enc v)) (hK : ∀ a, (enc a).length = E.sz) (hlen : len = rows.length) (hid : Nat.blt id nx = true) (hb : (len + v.length) * E.bytes ≤ 140737488355328) (hm : len + v.length ≤ 9223372036854775807) :
    Stp P cx ⟨d, .call ⟨.builtin .append, #[X, Y], #[T, T']⟩, ty', ps, af, gd⟩ fr H nx ⟨.own nx (rows ++ v).length, [(id, .arr E.e E.sz len (fR enc rows))], [(nx, .arr E.e E.sz (rows ++ v).length (fR enc (rows ++ v))), (id, .dead)], 1⟩ := by
  have := st_append (cx := cx) (d := d) (ty := ty') (ps := ps) (af := af) (gd := gd) ht hu h hH h1 hp (by rw [fR_len hK]) hid hb hm
  rw [← fR_append, List.length_append, ← hlen]
  exact this
end
theorem st_not_d {q : Prop} [Decidable q] {T : TypeId} (h : ev fr X = some (.cell (.bool (decide q)))) : Stp P cx ⟨d, .unOp .not T X, ty, ps, af, gd⟩ fr H nx ⟨.cell (.bool (decide (¬ q))), [], [], 0⟩ := by
  have := st_not (P := P) (cx := cx) (d := d) (T := T) (ty := ty) (ps := ps) (af := af) (gd := gd) (H := H) (nx := nx) h
  rw [decide_not]
  exact this
end
end Go.Proofs.Gh
end
section
set_option linter.unusedVariables false
set_option linter.unusedSimpArgs false
namespace Go.Proofs.Gh
open Go.RowKit

section
variable {P : Program} {cx : Cx} {d : Option Tmp} {ty : TypeId} {ps : String} {af : Array Edge} {gd : Option (Nat × Bool)} {nx : Nat}
theorem ok_copy {x y : Operand} {t u : TypeId} {id n m e : Nat} {cells new : List FV} (ht : elemSz P t = some 1) (hm : new.length = m) :
    OpOK P cx ⟨d, .call ⟨.builtin .copy, #[x, y], #[t, u]⟩, ty, ps, af, gd⟩ [(x, .own id n), (y, .cell (.sl m new))] nx ⟨.cell (.int .i64 (min m n : Nat)), [(id, .arr e 1 n cells)], [(id, .arr e 1 n (splice cells 0 (new.take n)))], 0⟩ := by
  intro F g H D a w hH hu hrd _
  have h := hu.1
  have h2 := hu.2.1
  simp only at h h2
  obtain ⟨e0, i0, hun, hi0, hsz⟩ := elemSz_spec ht
  obtain ⟨u', hgu, xs, hown, hxl, hxr⟩ := hH.blk id _ hrd.1
  have hxs : xs.length = n := by have := hown.1; omega
  have hv : a.eval x = u' := by
    generalize a.eval x = v0 at h
    cases h with
    | own n hg' A cap hv =>
      rw [hgu] at hg'
      injection hg' with hg'
      exact hg'.symm
  have hsr := h2.cell_inv
  have hmin : (min m n : Nat) = Nat.min m n := rfl
  by_cases hk : min m n = 0
  · -- nothing goes over
    have hsp : splice cells 0 (new.take n) = cells := by
      have : (new.take n) = [] := by
        apply List.eq_nil_of_length_eq_zero
        rw [List.length_take]; omega
      rw [this]
      simp [splice]
    have hres : ∃ A c A' c', u' = .slice A n c ∧ a.eval y = .slice A' m c' := by
      generalize a.eval y = v1 at hsr
      rcases hown.2 with ⟨rfl, rfl⟩ | ⟨b, cap, cur, rfl, _⟩
      · cases hsr with
        | nil A _ cap h => exact ⟨_, _, _, _, rfl, rfl⟩
        | sl b o _ cap cells us => exact ⟨_, _, _, _, rfl, rfl⟩
      · cases hsr with
        | nil A _ cap h => exact ⟨_, _, _, _, rfl, rfl⟩
        | sl b o _ cap cells us => exact ⟨_, _, _, _, rfl, rfl⟩
    obtain ⟨A, c, A', c', rfl, hy⟩ := hres
    have hrun := run_copy_none (P := P) w t u ty e0 A A' n c m c' hun (by rw [hi0]; simp [hsz]) (by rw [← hmin]; exact hk)
    refine runs_value (v := goInt 0) (w' := w) (by simp only [execOp, resolve, invoke, builtin, Sem.run_bind, Sem.run_pure, Result.andThen_ok, List.map_toArray, List.map_cons, List.map_nil, hv, hy, hrun]) ⟨F, g, .refl _ _, .refl _, ?_, ?_, .refl _⟩
    · have hup : upd H [(id, .arr e 1 n (splice cells 0 (new.take n)))] = H := by
        funext i
        rw [hsp, upd_one]
        split
        · rename_i hi; subst hi; exact hrd.1.symm
        · rfl
      rw [hup]
      exact hH.monoD fun i hi => .inl hi
    · rw [hk]
      exact .cell (.int _ _)
  · rcases hown.2 with ⟨_, h0⟩ | ⟨b, cap, cur, rfl, hb, hg, hn, hmx, hcs, htk⟩
    · omega
    generalize hy : a.eval y = v1 at hsr
    cases hsr with
    | nil A _ cap h => simp at hm; omega
    | sl b' o _ cap' _ us hn' hu' hr' =>
      let cs : List Value := (List.range (min m n)).map us
      have hcl : cs.length = min m n := by simp [cs]
      have hrun := run_copy_row (P := P) w t u ty e0 b 0 n cap ⟨b', o, none⟩ m cap' cur e cs hun (by rw [hi0]; simp [hsz]) hg (hcl.trans hmin)
        (fun j v hj => by
          have hjl : j < min m n := by
            have := (List.getElem?_eq_some_iff.1 hj).1
            omega
          simp [cs, hjl] at hj
          subst hj
          rw [add_lit]
          exact hH.agree _ _ _ (hu' j (by omega)))
        (by rw [hcl, hcs]; omega)
        (fun v hv => by
          simp only [cs, List.mem_map, List.mem_range] at hv
          obtain ⟨j, hj, rfl⟩ := hv
          exact (hr' j (by omega)).oneCell)
      refine runs_value (v := goInt cs.length) (w' := w.setRow b (splice cur.toList 0 cs).toArray) (by simp only [execOp, resolve, invoke, builtin, Sem.run_bind, Sem.run_pure, Result.andThen_ok, List.map_toArray, List.map_cons, List.map_nil, hv, hy, hrun]; rfl) ⟨F, g, .refl _ _, .refl _, ?_, ?_, KeepsD.setRow hg _⟩
      · have hcl2 : cells.length = n := by omega
        have hsl : (splice cur.toList 0 cs).length = cur.size := by rw [splice_length _ _ _ (by rw [hcl]; simp; omega)]; simp
        refine hH.write (k := .arr e 1 n cells) (k' := .arr e 1 n (splice cells 0 (new.take n))) (b := b) hrd.1 rfl hgu rfl _ ⟨(splice cur.toList 0 cs).take (n * 1), ⟨?_, .inr ⟨b, cap, _, rfl, hb, setRow_heap w b cur _ e _ hg, hn, hmx, ?_, rfl⟩⟩, ?_, fun j hj => ?_⟩ (fun _ h => .inl h)
        · rw [List.length_take, hsl]; omega
        · show (splice cur.toList 0 cs).toArray.size = cap * 1
          rw [List.size_toArray, hsl]; omega
        · rw [List.length_take, hsl, splice_length _ _ _ (by simp; omega)]; omega
        · have hj' : j < n := by rw [splice_length _ _ _ (by simp; omega)] at hj; omega
          rw [List.getD_eq_getElem?_getD, List.getElem?_take_of_lt (by omega)]
          have hs1 : (splice cur.toList 0 cs)[j]? = if j < min m n then some (us j) else cur.toList[j]? := by
            unfold splice
            rw [List.take_zero, List.nil_append, List.getElem?_append, hcl]
            split
            · rename_i hlt; simp [cs, hlt]
            · rename_i hlt; rw [List.getElem?_drop]; congr 1; omega
          have hs2 : (splice cells 0 (new.take n))[j]? = if j < min m n then new[j]? else cells[j]? := by
            unfold splice
            rw [List.take_zero, List.nil_append, List.getElem?_append, List.length_take]
            by_cases hlt : j < min m n
            · rw [if_pos (by omega), if_pos hlt, List.getElem?_take_of_lt hj']
            · rw [if_neg (by omega), if_neg hlt, List.getElem?_drop]; congr 1; omega
          rw [hs1]
          by_cases hlt : j < min m n
          · rw [if_pos hlt] at hs2 ⊢
            rw [List.getElem?_eq_getElem hj, List.getElem?_eq_getElem (show j < new.length by omega)] at hs2
            injection hs2 with hs2
            rw [hs2]
            exact hr' j (by omega)
          · rw [if_neg hlt] at hs2 ⊢
            rw [List.getElem?_eq_getElem hj, List.getElem?_eq_getElem (show j < cells.length by omega)] at hs2
            injection hs2 with hs2
            rw [hs2]
            have := hxr j (by omega)
            rwa [show xs.getD j Go.undef = (cur.toList[j]?).getD Go.undef by rw [← htk, List.getD_eq_getElem?_getD, List.getElem?_take_of_lt (by omega)]] at this
      · rw [hcl]
        exact .cell (.int _ _)

variable {fr : Fr} {H : Hp} {X Y Z : Operand} {T T' : TypeId} {k : IntKind} {m l : Int}
theorem st_copy {id n m e : Nat} {cells new : List FV} (ht : elemSz P T = some 1) (h : ev fr X = some (.own id n)) (h1 : ev fr Y = some (.cell (.sl m new))) (hH : lk H id = some (.arr e 1 n cells)) (hm : new.length = m) :
    Stp P cx ⟨d, .call ⟨.builtin .copy, #[X, Y], #[T, T']⟩, ty, ps, af, gd⟩ fr H nx ⟨.cell (.int .i64 (min m n : Nat)), [(id, .arr e 1 n cells)], [(id, .arr e 1 n (splice cells 0 (new.take n)))], 0⟩ :=
  ⟨_, ok_copy ht hm, by simp [Op.operands, Call.operands], ⟨h, h1, trivial⟩, ⟨hH, trivial⟩⟩
/-- The whole row goes over. -/
theorem st_copy_all {id n e : Nat} {cells new : List FV} (ht : elemSz P T = some 1) (h : ev fr X = some (.own id n)) (h1 : ev fr Y = some (.cell (.sl n new))) (hH : lk H id = some (.arr e 1 n cells)) (hm : new.length = n) (hc : cells.length = n) :
    Stp P cx ⟨d, .call ⟨.builtin .copy, #[X, Y], #[T, T']⟩, ty, ps, af, gd⟩ fr H nx ⟨.cell (.int .i64 n), [(id, .arr e 1 n cells)], [(id, .arr e 1 n new)], 0⟩ := by
  have := st_copy (P := P) (cx := cx) (d := d) (ty := ty) (ps := ps) (af := af) (gd := gd) (nx := nx) (T' := T') ht h h1 hH hm
  rw [Nat.min_self, List.take_of_length_le (by omega)] at this
  have hs : splice cells 0 new = new := by simp [splice, List.drop_of_length_le (show cells.length ≤ new.length by omega)]
  rwa [hs] at this

theorem st_rem_n (h : ev fr X = some (.cell (.int k m))) (h1 : ev fr Y = some (.cell (.int k l))) (h2 : 0 ≤ m) (h3 : 0 < l) : Stp P cx ⟨d, .binOp .rem T X Y T', ty, ps, af, gd⟩ fr H nx ⟨.cell (.int k (m % l)), [], [], 0⟩ := by
  have := st_rem (P := P) (cx := cx) (d := d) (T := T) (T' := T') (ty := ty) (ps := ps) (af := af) (gd := gd) (H := H) (nx := nx) h h1 (by omega)
  rwa [Int.tmod_eq_emod_of_nonneg h2] at this
theorem u64_in {n : Int} (h : 0 ≤ n) (h' : n ≤ 18446744073709551615) : IntKind.u64.wrap n = n := by rw [IntKind.wrap_u64]; omega
theorem st_quo_u (h : ev fr X = some (.cell (.int .u64 m))) (h1 : ev fr Y = some (.cell (.int .u64 l))) (h2 : 0 ≤ m) (h3 : 0 < l) (h4 : m ≤ 18446744073709551615) : Stp P cx ⟨d, .binOp .quo T X Y T', ty, ps, af, gd⟩ fr H nx ⟨.cell (.int .u64 (m / l)), [], [], 0⟩ := by
  have := st_quo (P := P) (cx := cx) (d := d) (T := T) (T' := T') (ty := ty) (ps := ps) (af := af) (gd := gd) (H := H) (nx := nx) h h1 (by omega)
  have hle : m / l ≤ m := Int.ediv_le_self l h2
  have h0 : 0 ≤ m / l := Int.ediv_nonneg h2 (by omega)
  rwa [Int.tdiv_eq_ediv_of_nonneg h2, u64_in (by omega) (by omega)] at this
theorem st_add_u (h : ev fr X = some (.cell (.int .u64 m))) (h1 : ev fr Y = some (.cell (.int .u64 l))) (h2 : 0 ≤ m + l) (h3 : m + l ≤ 18446744073709551615) : Stp P cx ⟨d, .binOp .add T X Y T', ty, ps, af, gd⟩ fr H nx ⟨.cell (.int .u64 (m + l)), [], [], 0⟩ := st_add' h h1 (u64_in h2 h3)
theorem st_mul_u (h : ev fr X = some (.cell (.int .u64 m))) (h1 : ev fr Y = some (.cell (.int .u64 l))) (h2 : 0 ≤ m * l) (h3 : m * l ≤ 18446744073709551615) : Stp P cx ⟨d, .binOp .mul T X Y T', ty, ps, af, gd⟩ fr H nx ⟨.cell (.int .u64 (m * l)), [], [], 0⟩ := st_mul' h h1 (u64_in h2 h3)
theorem st_conv_i {k' : IntKind} (h : ev fr X = some (.cell (.int k' m))) (hs : (P.underlying T).isSome = true) (hd : P.underlying T' = some (.int .i64)) (h2 : -9223372036854775808 ≤ m) (h3 : m ≤ 9223372036854775807) : Stp P cx ⟨d, .convert T T' X, ty, ps, af, gd⟩ fr H nx ⟨.cell (.int .i64 m), [], [], 0⟩ := by
  have := st_conv (P := P) (cx := cx) (d := d) (ty := ty) (ps := ps) (af := af) (gd := gd) (H := H) (nx := nx) h hs hd
  rwa [w64 h2 h3] at this
theorem st_conv_u {k' : IntKind} (h : ev fr X = some (.cell (.int k' m))) (hs : (P.underlying T).isSome = true) (hd : P.underlying T' = some (.int .u64)) (h2 : 0 ≤ m) (h3 : m ≤ 18446744073709551615) : Stp P cx ⟨d, .convert T T' X, ty, ps, af, gd⟩ fr H nx ⟨.cell (.int .u64 m), [], [], 0⟩ := by
  have := st_conv (P := P) (cx := cx) (d := d) (ty := ty) (ps := ps) (af := af) (gd := gd) (H := H) (nx := nx) h hs hd
  rwa [u64_in h2 h3] at this
theorem st_make_I {E : ElemInfo} (ht : elemInfo P T = some E) (hE : E.zc = [.int .i64 0]) (h : ev fr X = some (.cell (.int k m))) (h0 : 0 ≤ m) (hb : E.bytes * m.toNat ≤ 281474976710656) (h63 : m ≤ 9223372036854775807) : Stp P cx ⟨d, .makeSlice T X X, ty, ps, af, gd⟩ fr H nx ⟨.own nx m.toNat, [], [(nx, .arr E.e E.sz m.toNat (fIs (List.replicate m.toNat 0)))], 1⟩ := by
  have := st_make (P := P) (cx := cx) (d := d) (ty := ty) (ps := ps) (af := af) (gd := gd) (H := H) (nx := nx) ht h h0 hb h63
  have he : reps E.zc m.toNat = fIs (List.replicate m.toNat 0) := by
    rw [hE, reps, fIs]
    generalize m.toNat = q
    induction q with
    | zero => rfl
    | succ q ih => rw [List.replicate_succ, List.flatten_cons, ih]; simp [List.replicate_succ]
  rwa [he] at this
section
variable {ls : List Int} {i len sz e' id : Nat}
theorem st_load_In (ht : isScal P T = true) (h : ev fr X = some (.fptr ((fIs ls).drop (m.toNat * 1)))) (hm : m = (i : Int)) (h1 : i < ls.length) : Stp P cx ⟨d, .load T X, ty, ps, af, gd⟩ fr H nx ⟨.cell (.int .i64 (ls.getD i 0)), [], [], 0⟩ := by subst hm; exact st_load_I (m := i) ht h (by omega) (by omega)
theorem st_load_oIn (ht : isScal P T = true) (h : ev fr X = some (.ptr id (m.toNat * 1))) (hH : lk H id = some (.arr e' sz len (fIs ls))) (hm : m = (i : Int)) (h1 : i < ls.length) : Stp P cx ⟨d, .load T X, ty, ps, af, gd⟩ fr H nx ⟨.cell (.int .i64 (ls.getD i 0)), [(id, .arr e' sz len (fIs ls))], [], 0⟩ := by subst hm; exact st_load_oI (m := i) ht h hH (by omega) (by omega)
theorem st_store_oIn {v : Int} (hs : tySz P T = some 1) (h : ev fr X = some (.ptr id (m.toNat * 1))) (h1 : ev fr Y = some (.cell (.int .i64 v))) (hH : lk H id = some (.arr e' sz len (fIs ls))) (hm : m = (i : Int)) (h2 : i < ls.length) :
    Stp P cx ⟨d, .store T X Y, ty, ps, af, gd⟩ fr H nx ⟨.undef, [(id, .arr e' sz len (fIs ls))], [(id, .arr e' sz len (fIs (ls.set i v)))], 0⟩ := by subst hm; exact st_store_oI (m := i) hs h h1 hH (by omega) (by omega)
variable {α : Type} [Inhabited α] {enc : α → List FV} {K : Nat} {rows : List α}
theorem st_load_Rn (ht : aggSz P T = some K) (h : ev fr X = some (.fptr ((fR enc rows).drop (m.toNat * K)))) (hK : ∀ a, (enc a).length = K) (hm : m = (i : Int)) (h1 : i < rows.length) : Stp P cx ⟨d, .load T X, ty, ps, af, gd⟩ fr H nx ⟨.agg (enc (rows.getD i default)), [], [], 0⟩ := by subst hm; exact st_load_R (m := i) ht h hK (by omega) (by omega)
theorem st_load_oRn (ht : aggSz P T = some K) (h : ev fr X = some (.ptr id (m.toNat * K))) (hH : lk H id = some (.arr e' sz len (fR enc rows))) (hK : ∀ a, (enc a).length = K) (hm : m = (i : Int)) (h1 : i < rows.length) : Stp P cx ⟨d, .load T X, ty, ps, af, gd⟩ fr H nx ⟨.agg (enc (rows.getD i default)), [(id, .arr e' sz len (fR enc rows))], [], 0⟩ := by subst hm; exact st_load_oR (m := i) ht h hH hK (by omega) (by omega)
theorem st_load_RFn {off : Nat} {v : FV} (ht : isScal P T = true) (h : ev fr X = some (.fptr (((fR enc rows).drop (m.toNat * K)).drop off))) (hK : ∀ a, (enc a).length = K) (hm : m = (i : Int)) (h1 : i < rows.length) (hv : ((enc (rows.getD i default)).drop off).head? = some v) : Stp P cx ⟨d, .load T X, ty, ps, af, gd⟩ fr H nx ⟨.cell v, [], [], 0⟩ := by subst hm; exact st_load_RF (m := i) ht h hK (by omega) (by omega) hv
theorem st_load_RAn {off K' : Nat} {v : List FV} (ht : aggSz P T = some K') (h : ev fr X = some (.fptr (((fR enc rows).drop (m.toNat * K)).drop off))) (hK : ∀ a, (enc a).length = K) (hm : m = (i : Int)) (h1 : i < rows.length) (hfit : Nat.ble (off + K') K = true) (hv : ((enc (rows.getD i default)).drop off).take K' = v) : Stp P cx ⟨d, .load T X, ty, ps, af, gd⟩ fr H nx ⟨.agg v, [], [], 0⟩ := by subst hm; exact st_load_RA (m := i) ht h hK (by omega) (by omega) hfit hv
end
section
variable {N : Nat} {n : St → Prop} {x : Nat → St → Prop} {r : St → Prop} {ops : Array Oper} {os : List Oper} {dn : List Rec} {t : Tmp} {op : Op} {pv : PV}
theorem OPS.w {rd wr : List (Nat × Blk)} (hd : Nat.blt t N = true) (h : Stp P cx ⟨some t, op, ty, ps, af, none⟩ fr H nx ⟨pv, rd, wr, 0⟩) (hk : OPS P cx N ops os n x r ⟨(t, pv) :: fr, wr ++ H, nx⟩) : OPS P cx N ops (⟨some t, op, ty, ps, af, none⟩ :: os) n x r ⟨fr, H, nx⟩ :=
  OPS.cons rfl hd h hk
theorem DRW.w {rd wr : List (Nat × Blk)} (hd : Nat.blt t N = true) (h : Stp P cx ⟨some t, op, ty, ps, af, none⟩ fr H nx ⟨pv, rd, wr, 0⟩) (hk : DRW P cx N ops os (dn ++ [⟨⟨some t, op, ty, ps, af, none⟩, ⟨pv, rd, wr, 0⟩, nx⟩]) n ((t, pv) :: fr) (wr ++ H) nx) : DRW P cx N ops (⟨some t, op, ty, ps, af, none⟩ :: os) dn n fr H nx := DRW.cons (fun h' => .cons rfl hd h h') hk
end
/-- A result, told another way. -/
theorem Ret.mk {vs : List ResultVar} {s : St} {p v : PV} (h : resOf s.fr s.H P vs = some (plainRes p)) (hp : p = v) (hv : plainRes v = v := by rfl) : Ret P vs v s := by
  subst hp
  rw [hv] at h
  exact h
theorem Ret.mk2 {vs : List ResultVar} {s : St} {p v p' v' : PV} (h : resOf s.fr s.H P vs = some (.tup [plainRes p, plainRes p'])) (hp : p = v) (hp' : p' = v') (hv : plainRes v = v := by rfl) (hv' : plainRes v' = v' := by rfl) : Ret P vs (.tup [v, v']) s := by
  subst hp hp'
  rw [hv, hv'] at h
  exact h
end
end Go.Proofs.Gh
end
