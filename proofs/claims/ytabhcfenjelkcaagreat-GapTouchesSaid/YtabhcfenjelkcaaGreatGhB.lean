/-
  GHOST, part 7: append, cuts, lengths, copies, tuples, function values; freezing what is the call's own. Plain lemmas over the model; no statement of the seat.
  GHOST, part 8: freezing what is the call's own; contracts of functions that touch nothing that was there; their calls. Plain lemmas over the model; no statement of the seat.
  GHOST, part 9: regions whose order is open: one chain in the text's order, with a check of what is unordered, serves every order. No statement of the seat.
  GHOST, part 10: every order of a region comes to what its chain says. No statement of the seat.
-/
import Derived.Test.YtabhcfenjelkcaaGreatGhA
section
set_option linter.unusedVariables false
set_option linter.unusedSimpArgs false
namespace Go.Proofs.Gh
open Go.RowKit

section
variable {P : Program} {cx : Cx} {d : Option Tmp} {ty : TypeId} {ps : String} {af : Array Edge} {gd : Option (Nat × Bool)} {nx : Nat}

/-- The second operand's type does not matter, so long as it is a slice type. -/
theorem append_types {w : World} {t u ty e e' : TypeId} {i : TypeInfo} {A : Option Addr} {n c : Nat} {x : Value} (ht : P.underlying t = some (.slice e)) (hu : P.underlying u = some (.slice e')) (hi : P.info? e = some i) :
    (Builtin.append_ #[t, u] ty #[.slice A n c, x]).run P w = (Builtin.append_ #[t, t] ty #[.slice A n c, x]).run P w := by
  unfold Builtin.append_
  simp [run_underlying ht, run_underlying hu, sizeOf, typeInfo, hi]

/-- What is appended: the values of a slice that reads as a list. -/
theorem sl_news {F : FMap} {v : Value} {m : Nat} {cs : List FV} (h : RepF F v (.sl m cs)) : ∃ A c, v = .slice A m c ∧ ((cs = [] ∧ True) ∨ ∃ b o, A = some ⟨b, o, none⟩ ∧ ∃ us : Nat → Value, (∀ j, j < cs.length → F b (o + j) = some (us j)) ∧ ∀ (j : Nat) (h : j < cs.length), RepF F (us j) (cs[j]'h)) := by
  cases h with
  | nil A n cap h => exact ⟨A, cap, rfl, .inl ⟨rfl, trivial⟩⟩
  | sl b o n cap cells us hn hu hr => exact ⟨_, cap, rfl, .inr ⟨b, o, rfl, us, hu, hr⟩⟩

theorem run_append_rep {F : FMap} {g : GMap} {H : Nat → Option Blk} {D : Nat → Prop} {w : World} (hH : HRep cx F g H D w) {t u ty e' : TypeId} {E : ElemInfo} (ht : elemInfo P t = some E) (hu : P.underlying u = some (.slice e'))
    {v x : Value} {n m : Nat} {xs : List Value} {cs : List FV} (hown : w.ownsRow cx.base E.e E.sz v n xs) (hx : RepF F x (.sl m cs)) (hl : cs.length = m * E.sz) (hb : (n + m) * E.bytes ≤ 140737488355328) (hm : n + m ≤ 9223372036854775807) :
    ∃ v' w' news, (Builtin.append_ #[t, u] ty #[v, x]).run P w = .ok v' w' ∧ w'.ownsRow cx.base E.e E.sz v' (n + m) (xs ++ news) ∧ w.grownBy w' v.ownBlock ∧ (v'.ownBlock = v.ownBlock ∨ v'.ownBlock = some w.heap.size) ∧
      news.length = cs.length ∧ ∀ (j : Nat) (h : j < cs.length), RepF F (news.getD j Go.undef) (cs[j]'h) := by
  obtain ⟨i, z, h1, h2, h3, h4, h5, h6, h7, h8⟩ := elemInfo_spec ht F
  obtain ⟨A, c, rfl, hA⟩ := sl_news hx
  have hvs : ∃ A' c', v = .slice A' n c' := by
    rcases hown.2 with ⟨rfl, h0⟩ | ⟨g', cap, cur, rfl, _⟩
    · exact ⟨none, 0, by rw [h0]⟩
    · exact ⟨_, cap, rfl⟩
  have hap : (Builtin.append_ #[t, u] ty #[v, .slice A m c]).run P w = (Builtin.append_ #[t, t] ty #[v, .slice A m c]).run P w := by
    obtain ⟨A', c', rfl⟩ := hvs
    exact append_types h1 hu h2
  rw [hap]
  have key : ∀ (a : Addr) (news : List Value), news.length = m * E.sz → (∀ j u, news[j]? = some u → w.cell? (a.add j) = some u) → (∀ u ∈ news, u.oneCell' = true) →
      ∃ v' w', (Builtin.append_ #[t, t] ty #[v, .slice (some a) m c]).run P w = .ok v' w' ∧ w'.ownsRow cx.base E.e E.sz v' (n + m) (xs ++ news) ∧ w.grownBy w' v.ownBlock ∧ (v'.ownBlock = v.ownBlock ∨ v'.ownBlock = some w.heap.size) := by
    intro a news q1 q2 q3
    have hzs : z.cells.size = E.sz := by rw [h6.1, h7]
    obtain ⟨v', w', r1, r2, r3, _, r5⟩ := run_append_own_at (P := P) w cx.base t ty E.e i z E.sz E.bytes h1 h2 h3 h4 h5 hzs h8 v n xs hown a m c news q1 q2 q3 (by unfold maxLen; omega) hb hH.le
    exact ⟨v', w', r1, r2, r3, r5⟩
  rcases hA with ⟨rfl, _⟩ | ⟨b, o, rfl, us, hu', hr⟩
  · have h0 : m = 0 := by
      rcases Nat.eq_zero_or_pos m with h | h
      · exact h
      · have := Nat.mul_pos h h8
        simp at hl
        omega
    subst h0
    cases A with
    | some a =>
      obtain ⟨v', w', r1, r2, r3, r5⟩ := key a [] (by simp) (by simp) (by simp)
      exact ⟨v', w', [], r1, r2, r3, r5, rfl, fun j h => absurd h (by simp)⟩
    | none =>
      refine ⟨v, w, [], ?_, by simpa using hown, ⟨rfl, rfl, rfl, Nat.le_refl _, fun _ _ _ => rfl⟩, .inl rfl, rfl, fun j h => absurd h (by simp)⟩
      rcases hown.2 with ⟨rfl, hn⟩ | ⟨g', cap, cur, rfl, _, _, hnc, _⟩
      · simp [Builtin.append_, run_underlying h1, sizeOf, typeInfo, h2, Builtin.lenOf, Builtin.firstCells]
      · simp [Builtin.append_, run_underlying h1, sizeOf, typeInfo, h2, Builtin.lenOf, Builtin.firstCells, hnc, storeCells]
  · have hcell : ∀ j u, ((List.range cs.length).map us)[j]? = some u → w.cell? ((⟨b, o, none⟩ : Addr).add j) = some u := by
      intro j u hj
      have hlt : j < cs.length := by
        have := (List.getElem?_eq_some_iff.1 hj).1
        simpa using this
      simp [hlt] at hj
      subst hj
      rw [add_lit]
      exact hH.agree _ _ _ (hu' j hlt)
    obtain ⟨v', w', r1, r2, r3, r5⟩ := key ⟨b, o, none⟩ ((List.range cs.length).map us) (by simp [hl]) hcell (by
      intro u hu
      obtain ⟨j, hj, rfl⟩ := List.mem_map.1 hu
      exact (hr j (by simpa using hj)).oneCell)
    exact ⟨v', w', _, r1, r2, r3, r5, by simp, fun j hj => by simpa [List.getD_eq_getElem?_getD, hj] using hr j hj⟩

theorem ownB_of_ownBlock {v : Value} {b : Nat} (h : v.ownBlock = some b) : ownB v = some b := by
  unfold Value.ownBlock at h
  split at h
  · exact h
  · cases h
theorem ownBlock_of_row {w : World} {base : Nat} {e : TypeId} {sz n : Nat} {v : Value} {xs : List Value} (h : w.ownsRow base e sz v n xs) : v.ownBlock = ownB v := by
  rcases h.2 with ⟨rfl, _⟩ | ⟨g, cap, cur, rfl, _⟩ <;> rfl

theorem list_getD_append {α : Type} (a b : List α) (d : α) (j : Nat) : (a ++ b).getD j d = if j < a.length then a.getD j d else b.getD (j - a.length) d := by
  simp only [List.getD_eq_getElem?_getD]
  split
  · rw [List.getElem?_append_left (by assumption)]
  · rw [List.getElem?_append_right (by omega)]

/-- The contents of an operand that is a slice: plain data. -/
def slOf : PV → Option (Nat × List FV)
  | .cell (.sl n cs) => some (n, cs)
  | .nilS | .emp => some (0, [])
  | _ => none
theorem slOf_rep {F B : FMap} {g : GMap} {v : Value} {p : PV} {n : Nat} {cs : List FV} (h : RepP F B g v p) (hp : slOf p = some (n, cs)) : RepF F v (.sl n cs) := by
  unfold slOf at hp
  split at hp
  · injection hp with hp
    injection hp with e1 e2
    subst e1 e2
    exact h.cell_inv
  · injection hp with hp
    injection hp with e1 e2
    subst e1 e2
    cases h
    exact .nil _ _ _ (Nat.le_refl _)
  · injection hp with hp
    injection hp with e1 e2
    subst e1 e2
    cases h
    exact .nil _ _ _ (Nat.le_refl _)
  · cases hp

/-- A row of cells grows: blocks of another kind stay. -/
theorem keepsD_row {w w' : World} {base sz n : Nat} {e : TypeId} {v : Value} {xs : List Value} (h : w.ownsRow base e sz v n xs) (hg : w.grownBy w' v.ownBlock) : KeepsD w w' := by
  refine KeepsD.row hg fun r hr => ?_
  rcases h.2 with ⟨rfl, _⟩ | ⟨g, cap, cur, rfl, _, hh, _⟩
  · cases hr
  · injection hr with hr
    subst hr
    exact ⟨_, hh, by simp⟩

theorem ok_append {s x : Operand} {t u e' : TypeId} {E : ElemInfo} {id n m : Nat} {cs cs' : List FV} {p : PV} (ht : elemInfo P t = some E) (hu : P.underlying u = some (.slice e')) (hp : slOf p = some (m, cs')) (hl : cs'.length = m * E.sz) (hb : (n + m) * E.bytes ≤ 140737488355328) (hm : n + m ≤ 9223372036854775807) (hid : id < nx) :
    OpOK P cx ⟨d, .call ⟨.builtin .append, #[s, x], #[t, u]⟩, ty, ps, af, gd⟩ [(s, .own id n), (x, p)] nx ⟨.own nx (n + m), [(id, .arr E.e E.sz n cs)], [(nx, .arr E.e E.sz (n + m) (cs ++ cs')), (id, .dead)], 1⟩ := by
  intro F g H D a w hH hu' hrd hn
  have h2 := slOf_rep hu'.2.1 hp
  have h := hu'.1
  simp only at h h2
  obtain ⟨v, hg, xs, hown, hxl, hxr⟩ := hH.blk id _ hrd.1
  have hv : a.eval s = v := by
    generalize a.eval s = v0 at h
    cases h with
    | own n hg' A cap hv =>
      rw [hg] at hg'
      injection hg' with hg'
      exact hg'.symm
  obtain ⟨v', w', news, r1, r2, r3, r4, r5, r6⟩ := run_append_rep hH ht hu (ty := ty) hown h2 hl hb hm
  have hnx : ¬ D nx := hn 0 (by simp)
  have hle := GMap.le_set hH.dom hnx v'
  have hbo := fun b hb => hH.own id _ v b hrd.1 rfl hg hb
  have hrow : v.ownBlock = ownB v := ownBlock_of_row hown
  have hrow' : v'.ownBlock = ownB v' := ownBlock_of_row r2
  have hAc : ∃ A cap, v' = .slice A (n + m) cap := by
    rcases r2.2 with ⟨rfl, h0⟩ | ⟨g', cap, cur, rfl, _⟩
    · exact ⟨none, 0, by rw [h0]⟩
    · exact ⟨_, cap, rfl⟩
  refine runs_value (w' := w') (v := v') ?_ ⟨F, g.set nx v', .refl _ _, hle, ?_, ?_, keepsD_row hown r3⟩
  · simp only [execOp, resolve, invoke, builtin, Sem.run_bind, Sem.run_pure, Result.andThen_ok, List.map_toArray, List.map_cons, List.map_nil, hv, r1]
  · refine hH.next v.ownBlock nx (.arr E.e E.sz (n + m) (cs ++ cs')) v' r3 (fun b e => hbo b (ownB_of_ownBlock e)) (.refl _ _) (fun b o v hv => .inl hv) hle ?_ (by rw [upd_two]; simp) (by simp [GMap.set]) ⟨xs ++ news, r2, by simp [hxl, r5], fun j hj => ?_⟩ ?_ ?_
    · intro j u hu
      unfold GMap.set at hu
      by_cases hj : j = nx
      · exact .inr ⟨by omega, by show j < nx + 1; omega⟩
      · rw [if_neg hj] at hu; exact .inl (hH.dom j u hu)
    · rw [list_getD_append, hxl]
      by_cases h1 : j < cs.length
      · rw [if_pos h1, List.getElem_append_left h1]
        exact hxr j h1
      · rw [if_neg h1, List.getElem_append_right (by omega)]
        exact r6 _ _
    · intro j k hj hk
      rw [upd_two, if_neg hj] at hk
      by_cases hjd : j = id
      · rw [if_pos hjd] at hk
        injection hk with hk
        exact .inl ⟨hk.symm, v, by rw [hjd]; exact hg⟩
      · rw [if_neg hjd] at hk
        refine .inr ⟨hk, fun u b hm' hu hb' => ⟨fun e => ?_, (hH.own j k u b hk hm' hu hb').2.1⟩⟩
        rw [hrow] at e
        exact hjd (hH.inj j id k _ u v b hk hrd.1 hm' rfl hu hg hb' e)
    · intro _ b hb'
      rcases r4 with r4 | r4
      · have e : ownB v = some b := by rw [← hrow, ← r4, hrow', hb']
        have := hbo b e
        refine ⟨this.1, this.2.1, this.2.2, .inr fun j k u hj hk hm' hu hb'' => ?_⟩
        rw [upd_two, if_neg hj] at hk
        by_cases hjd : j = id
        · rw [if_pos hjd] at hk
          injection hk with hk
          subst hk
          cases hm'
        · rw [if_neg hjd] at hk
          exact hjd (hH.inj j id k _ u v b hk hrd.1 hm' rfl hu hg hb'' e)
      · have e : b = w.heap.size := by
          rw [hrow', hb'] at r4
          injection r4
        subst e
        have := F_new hH (Nat.le_refl _)
        exact ⟨hH.le, this.1, this.2, .inl (Nat.le_refl _)⟩
  · obtain ⟨A, cap, rfl⟩ := hAc
    exact .own (n + m) (by simp [GMap.set]) A cap rfl

/-- The same onto nil. -/
theorem ok_append_nil {s x : Operand} {t u e' : TypeId} {E : ElemInfo} {m : Nat} {cs' : List FV} {p : PV} (ht : elemInfo P t = some E) (hu : P.underlying u = some (.slice e')) (hp : slOf p = some (m, cs')) (hl : cs'.length = m * E.sz) (hb : m * E.bytes ≤ 140737488355328) (hm : m ≤ 9223372036854775807) :
    OpOK P cx ⟨d, .call ⟨.builtin .append, #[s, x], #[t, u]⟩, ty, ps, af, gd⟩ [(s, .nilS), (x, p)] nx ⟨.own nx m, [], [(nx, .arr E.e E.sz m cs')], 1⟩ := by
  intro F g H D a w hH hu' hrd hn
  have h2 := slOf_rep hu'.2.1 hp
  have h := hu'.1
  simp only at h h2
  have hv : a.eval s = .slice none 0 0 := by
    generalize a.eval s = v0 at h
    cases h
    rfl
  have hown := World.ownsRow_nil w cx.base E.e E.sz
  obtain ⟨v', w', news, r1, r2, r3, r4, r5, r6⟩ := run_append_rep hH ht hu (ty := ty) hown h2 hl (by simpa using hb) (by simpa using hm)
  simp only [Nat.zero_add, List.nil_append] at r2
  have hnx : ¬ D nx := hn 0 (by simp)
  have hle := GMap.le_set hH.dom hnx v'
  have hrow' : v'.ownBlock = ownB v' := ownBlock_of_row r2
  have hAc : ∃ A cap, v' = .slice A m cap := by
    rcases r2.2 with ⟨rfl, h0⟩ | ⟨g', cap, cur, rfl, _⟩
    · exact ⟨none, 0, by rw [h0]⟩
    · exact ⟨_, cap, rfl⟩
  refine runs_value (w' := w') (v := v') ?_ ⟨F, g.set nx v', .refl _ _, hle, ?_, ?_, keepsD_row hown r3⟩
  · simp only [execOp, resolve, invoke, builtin, Sem.run_bind, Sem.run_pure, Result.andThen_ok, List.map_toArray, List.map_cons, List.map_nil, hv, r1]
  · refine hH.next none nx (.arr E.e E.sz m cs') v' r3 (by simp) (.refl _ _) (fun b o v hv => .inl hv) hle ?_ (by rw [upd_one]; simp) (by simp [GMap.set]) ⟨news, r2, r5, r6⟩ ?_ ?_
    · intro j u hu
      unfold GMap.set at hu
      by_cases hj : j = nx
      · exact .inr ⟨by omega, by show j < nx + 1; omega⟩
      · rw [if_neg hj] at hu; exact .inl (hH.dom j u hu)
    · intro j k hj hk
      rw [upd_one, if_neg hj] at hk
      exact .inr ⟨hk, fun u b hm' hu hb' => ⟨by simp, (hH.own j k u b hk hm' hu hb').2.1⟩⟩
    · intro _ b hb'
      rcases r4 with r4 | r4
      · rw [hrow', hb'] at r4
        cases r4
      · have e : b = w.heap.size := by
          rw [hrow', hb'] at r4
          injection r4
        subst e
        have := F_new hH (Nat.le_refl _)
        exact ⟨hH.le, this.1, this.2, .inl (Nat.le_refl _)⟩
  · obtain ⟨A, cap, rfl⟩ := hAc
    exact .own m (by simp [GMap.set]) A cap rfl

/-! ### Cuts -/
theorem run_sliceAt {w : World} {t : TypeId} {sz : Nat} {A : Option Addr} {n cap : Nat} {lo hi mx : Option Value} {l h m : Nat} (ht : elemSz P t = some sz) (hb : (Instr.sliceBounds true n cap lo hi mx).run P w = .ok (l, h, m) w) :
    (Instr.sliceAt t (.slice A n cap) lo hi mx).run P w = .ok (.slice (if m = l then A else A.map (·.add (l * sz))) (h - l) (m - l)) w := by
  obtain ⟨e, i, hu, hi', rfl⟩ := elemSz_spec ht
  have : (Instr.slice t (.slice A n cap) lo hi mx).run P w = .ok (.slice (if m = l then A else A.map (·.add (l * i.size))) (h - l) (m - l)) w := by
    simp [Instr.slice, run_underlying hu, hb, sizeOf, typeInfo, hi']
  simp [Instr.sliceAt, run_underlying hu, this]

theorem run_bound {w : World} {k : IntKind} {i : Int} {y : Nat} {c : BoundsCode} (h0 : 0 ≤ i) (h1 : i ≤ y) : (Instr.sliceBound (.int k i) y c).run P w = .ok i.toNat w := by
  simp [Instr.sliceBound, asIntOf, h0, h1]

/-- A cut of plain data, given the bounds. -/
theorem cut_rep {F : FMap} {v : Value} {n sz : Nat} {cs : List FV} (h : RepF F v (.sl n cs)) {A : Option Addr} {cap : Nat} (hv : v = .slice A n cap) {l h' m : Nat} (hl : l ≤ h') (hh : h' ≤ n) (hm : h' ≤ m) (hc : m ≤ cap) (hs : cs.length = n * sz) :
    RepF F (.slice (if m = l then A else A.map (·.add (l * sz))) (h' - l) (m - l)) (.sl (h' - l) ((cs.drop (l * sz)).take ((h' - l) * sz))) := by
  subst hv
  by_cases he : (cs.drop (l * sz)).take ((h' - l) * sz) = []
  · rw [he]
    exact .nil _ _ _ (by omega)
  · have hlt : l < h' := by
      rcases Nat.lt_or_ge l h' with hlt | hge
      · exact hlt
      · exact absurd (by rw [show h' - l = 0 by omega]; simp) he
    rw [if_neg (by omega)]
    cases h with
    | nil A n cap hn => simp at he
    | sl b o n cap cells us hn hu hr =>
      simp only [Option.map_some, add_lit]
      have hle : (h' - l) * sz + l * sz ≤ n * sz := by
        rw [← Nat.add_mul]
        exact Nat.mul_le_mul_right _ (by omega)
      refine .sl b (o + l * sz) (h' - l) (m - l) _ (fun j => us (l * sz + j)) (by omega) (fun j hj => ?_) fun j hj => ?_
      · simp at hj
        have := hu (l * sz + j) (by omega)
        rwa [← Nat.add_assoc] at this
      · simp at hj
        simpa using hr (l * sz + j) (by omega)

/-- Bounds of a cut: what is not given is the begin, the end. -/
theorem ok_slice_lh {x y z : Operand} {t : TypeId} {sz n : Nat} {cs : List FV} {k k' : IntKind} {l h : Int} (ht : elemSz P t = some sz) (hs : cs.length = n * sz) (h0 : 0 ≤ l) (h1 : l ≤ h) (h2 : h ≤ n) :
    OpOK P cx ⟨d, .slice t x (some y) (some z) none, ty, ps, af, gd⟩ [(x, .cell (.sl n cs)), (y, .cell (.int k l)), (z, .cell (.int k' h))] nx ⟨.cell (.sl (h.toNat - l.toNat) ((cs.drop (l.toNat * sz)).take ((h.toNat - l.toNat) * sz))), [], [], 0⟩ :=
  OpOK.pure fun F g H D a w hH hu _ => by
    have e1 := rep_int hu.2.1
    have e2 := rep_int hu.2.2.1
    have e0 := hu.1.cell_inv
    simp only at e0 e1 e2
    obtain ⟨A, cap, hv, _⟩ := sl_news e0
    have hcap : n ≤ cap := by rw [hv] at e0; cases e0 <;> assumption
    refine ⟨_, ?_, .cell (cut_rep (m := cap) e0 hv (show l.toNat ≤ h.toNat by omega) (by omega) (by omega) (Nat.le_refl _) hs)⟩
    have hb : (Instr.sliceBounds true n cap (some (.int k l)) (some (.int k' h)) none).run P w = .ok (l.toNat, h.toNat, cap) w := by
      simp [Instr.sliceBounds, run_bound (P := P) (w := w) (k := k') (y := cap) (c := .sliceAcap) (show 0 ≤ h by omega) (by omega), run_bound (P := P) (w := w) (k := k) (y := h.toNat) (c := .sliceB) h0 (by omega)]
    simp only [execOp, hv, Option.map_some, Option.map_none, e1, e2, Sem.run_bind, run_sliceAt ht hb, Result.andThen_ok, Sem.run_pure]

theorem ok_slice_h {x z : Operand} {t : TypeId} {sz n : Nat} {cs : List FV} {k' : IntKind} {h : Int} (ht : elemSz P t = some sz) (hs : cs.length = n * sz) (h1 : 0 ≤ h) (h2 : h ≤ n) :
    OpOK P cx ⟨d, .slice t x none (some z) none, ty, ps, af, gd⟩ [(x, .cell (.sl n cs)), (z, .cell (.int k' h))] nx ⟨.cell (.sl h.toNat (cs.take (h.toNat * sz))), [], [], 0⟩ :=
  OpOK.pure fun F g H D a w hH hu _ => by
    have e2 := rep_int hu.2.1
    have e0 := hu.1.cell_inv
    simp only at e0 e2
    obtain ⟨A, cap, hv, _⟩ := sl_news e0
    have hcap : n ≤ cap := by rw [hv] at e0; cases e0 <;> assumption
    have hr := cut_rep (m := cap) e0 hv (show 0 ≤ h.toNat by omega) (by omega) (by omega) (Nat.le_refl _) hs
    simp only [Nat.zero_mul, List.drop_zero, Nat.sub_zero] at hr
    refine ⟨_, ?_, .cell hr⟩
    have hb : (Instr.sliceBounds true n cap none (some (.int k' h)) none).run P w = .ok (0, h.toNat, cap) w := by
      simp [Instr.sliceBounds, run_bound (P := P) (w := w) (k := k') (y := cap) (c := .sliceAcap) (show 0 ≤ h by omega) (by omega)]
    have := run_sliceAt (P := P) (A := A) ht hb
    simp only [Nat.zero_mul, Nat.sub_zero] at this
    simp only [execOp, hv, Option.map_some, Option.map_none, e2, Sem.run_bind, this, Result.andThen_ok, Sem.run_pure]

theorem ok_slice_l {x y : Operand} {t : TypeId} {sz n : Nat} {cs : List FV} {k : IntKind} {l : Int} (ht : elemSz P t = some sz) (hs : cs.length = n * sz) (h0 : 0 ≤ l) (h1 : l ≤ n) :
    OpOK P cx ⟨d, .slice t x (some y) none none, ty, ps, af, gd⟩ [(x, .cell (.sl n cs)), (y, .cell (.int k l))] nx ⟨.cell (.sl (n - l.toNat) (cs.drop (l.toNat * sz))), [], [], 0⟩ :=
  OpOK.pure fun F g H D a w hH hu _ => by
    have e1 := rep_int hu.2.1
    have e0 := hu.1.cell_inv
    simp only at e0 e1
    obtain ⟨A, cap, hv, _⟩ := sl_news e0
    have hcap : n ≤ cap := by rw [hv] at e0; cases e0 <;> assumption
    have hr := cut_rep (m := cap) e0 hv (show l.toNat ≤ n by omega) (Nat.le_refl _) hcap (Nat.le_refl _) hs
    rw [List.take_of_length_le (by simp [hs, Nat.sub_mul])] at hr
    refine ⟨_, ?_, .cell hr⟩
    have hb : (Instr.sliceBounds true n cap (some (.int k l)) none none).run P w = .ok (l.toNat, n, cap) w := by
      simp [Instr.sliceBounds, run_bound (P := P) (w := w) (k := k) (y := n) (c := .sliceB) h0 h1]
    simp only [execOp, hv, Option.map_some, Option.map_none, e1, Sem.run_bind, run_sliceAt ht hb, Result.andThen_ok, Sem.run_pure]

/-- 'x[:h:m]'. -/
theorem ok_slice_hm {x z u : Operand} {t : TypeId} {sz n : Nat} {cs : List FV} {k k' : IntKind} {h m : Int} (ht : elemSz P t = some sz) (hs : cs.length = n * sz) (h1 : 0 ≤ h) (h2 : h ≤ m) (h3 : m ≤ n) :
    OpOK P cx ⟨d, .slice t x none (some z) (some u), ty, ps, af, gd⟩ [(x, .cell (.sl n cs)), (z, .cell (.int k h)), (u, .cell (.int k' m))] nx ⟨.cell (.sl h.toNat (cs.take (h.toNat * sz))), [], [], 0⟩ :=
  OpOK.pure fun F g H D a w hH hu _ => by
    have e1 := rep_int hu.2.1
    have e2 := rep_int hu.2.2.1
    have e0 := hu.1.cell_inv
    simp only at e0 e1 e2
    obtain ⟨A, cap, hv, _⟩ := sl_news e0
    have hcap : n ≤ cap := by rw [hv] at e0; cases e0 <;> assumption
    have hr := cut_rep (m := m.toNat) e0 hv (show 0 ≤ h.toNat by omega) (by omega) (by omega) (by omega) hs
    simp only [Nat.zero_mul, List.drop_zero, Nat.sub_zero] at hr
    refine ⟨_, ?_, .cell hr⟩
    have hb : (Instr.sliceBounds true n cap none (some (.int k h)) (some (.int k' m))).run P w = .ok (0, h.toNat, m.toNat) w := by
      simp [Instr.sliceBounds, run_bound (P := P) (w := w) (k := k') (y := cap) (c := .slice3Acap) (show 0 ≤ m by omega) (by omega), run_bound (P := P) (w := w) (k := k) (y := m.toNat) (c := .slice3B) h1 (by omega)]
    have := run_sliceAt (P := P) (A := A) ht hb
    simp only [Nat.zero_mul, Nat.sub_zero] at this
    simp only [execOp, hv, Option.map_some, e1, e2, Option.map_none, Sem.run_bind, this, Result.andThen_ok, Sem.run_pure]

/-- 'x[:0:0]': nothing, and no room behind it. -/
theorem ok_slice_00 {x z u : Operand} {t : TypeId} {sz n : Nat} {cs : List FV} {k k' : IntKind} (ht : elemSz P t = some sz) :
    OpOK P cx ⟨d, .slice t x none (some z) (some u), ty, ps, af, gd⟩ [(x, .cell (.sl n cs)), (z, .cell (.int k 0)), (u, .cell (.int k' 0))] nx ⟨.emp, [], [], 0⟩ :=
  OpOK.pure fun F g H D a w hH hu _ => by
    have e1 := rep_int hu.2.1
    have e2 := rep_int hu.2.2.1
    have e0 := hu.1.cell_inv
    simp only at e0 e1 e2
    obtain ⟨A, cap, hv, _⟩ := sl_news e0
    refine ⟨.slice A 0 0, ?_, .emp A⟩
    have hb : (Instr.sliceBounds true n cap none (some (.int k 0)) (some (.int k' 0))).run P w = .ok (0, 0, 0) w := by
      simp [Instr.sliceBounds, run_bound (P := P) (w := w) (k := k') (y := cap) (c := .slice3Acap) (show (0 : Int) ≤ 0 by omega) (by omega), run_bound (P := P) (w := w) (k := k) (y := 0) (c := .slice3B) (show (0 : Int) ≤ 0 by omega) (by omega)]
    have := run_sliceAt (P := P) (A := A) ht hb
    simp only [Nat.zero_mul, Nat.sub_zero, if_true] at this
    simp only [execOp, hv, Option.map_some, e1, e2, Option.map_none, Sem.run_bind, this, Result.andThen_ok, Sem.run_pure]

/-! ### Lengths, least and greatest, tuples, functions -/
theorem run_len_sl {w : World} {t ty e : TypeId} {A : Option Addr} {n c : Nat} (ht : P.underlying t = some (.slice e)) : (Builtin.len_ #[t] ty #[.slice A n c]).run P w = .ok (.int .i64 n) w := by
  simp [Builtin.len_, run_underlying ht, goInt]

/-- The length of a slice, whatever it is. -/
def lenOf : PV → Option Nat
  | .cell (.sl n _) => some n
  | .nilS | .emp => some 0
  | .own _ n => some n
  | _ => none
theorem lenOf_rep {F B : FMap} {g : GMap} {v : Value} {p : PV} {n : Nat} (h : RepP F B g v p) (hp : lenOf p = some n) : ∃ A c, v = .slice A n c := by
  unfold lenOf at hp
  split at hp <;> first | cases hp; done | skip
  · injection hp with hp
    subst hp
    obtain ⟨A, c, hv, _⟩ := sl_news h.cell_inv
    exact ⟨A, c, hv⟩
  · injection hp with hp
    subst hp
    cases h
    exact ⟨_, _, rfl⟩
  · injection hp with hp
    subst hp
    cases h
    exact ⟨_, _, rfl⟩
  · injection hp with hp
    subst hp
    cases h with
    | own n hg A cap hv => exact ⟨A, cap, hv⟩

theorem ok_len {x : Operand} {t e : TypeId} {n : Nat} {p : PV} (ht : P.underlying t = some (.slice e)) (hp : lenOf p = some n) : OpOK P cx ⟨d, .call ⟨.builtin .len, #[x], #[t]⟩, ty, ps, af, gd⟩ [(x, p)] nx ⟨.cell (.int .i64 n), [], [], 0⟩ :=
  OpOK.pure fun F g H D a w hH hu _ => by
    obtain ⟨A, c, hv⟩ := lenOf_rep hu.1 hp
    simp only at hv
    exact ⟨_, by simp only [execOp, resolve, invoke, builtin, Sem.run_bind, Sem.run_pure, Result.andThen_ok, List.map_toArray, List.map_cons, List.map_nil, hv, run_len_sl ht], .cell (.int _ _)⟩

theorem ok_min {x y : Operand} {t : Array TypeId} {k : IntKind} {m n : Int} : OpOK P cx ⟨d, .call ⟨.builtin .min, #[x, y], t⟩, ty, ps, af, gd⟩ [(x, .cell (.int k m)), (y, .cell (.int k n))] nx ⟨.cell (.int k (min m n)), [], [], 0⟩ :=
  OpOK.pure fun F g H D a w hH hu _ => by
    have h := rep_int hu.1
    have h2 := rep_int hu.2.1
    simp only at h h2
    refine ⟨.int k (min m n), ?_, .cell (.int _ _)⟩
    have : (if n < m then n else m) = min m n := by omega
    simp [execOp, resolve, invoke, builtin, h, h2, Builtin.min_, Builtin.min2, this]
theorem ok_max {x y : Operand} {t : Array TypeId} {k : IntKind} {m n : Int} : OpOK P cx ⟨d, .call ⟨.builtin .max, #[x, y], t⟩, ty, ps, af, gd⟩ [(x, .cell (.int k m)), (y, .cell (.int k n))] nx ⟨.cell (.int k (max m n)), [], [], 0⟩ :=
  OpOK.pure fun F g H D a w hH hu _ => by
    have h := rep_int hu.1
    have h2 := rep_int hu.2.1
    simp only at h h2
    refine ⟨.int k (max m n), ?_, .cell (.int _ _)⟩
    have : (if n > m then n else m) = max m n := by omega
    simp [execOp, resolve, invoke, builtin, h, h2, Builtin.max_, Builtin.max2, this]

theorem ok_extract {x : Operand} {vs : List PV} {i : Nat} {p : PV} (hp : vs[i]? = some p) : OpOK P cx ⟨d, .extract x i, ty, ps, af, gd⟩ [(x, .tup vs)] nx ⟨p, [], [], 0⟩ :=
  OpOK.pure fun F g H D a w hH hu _ => by
    have h := hu.1
    simp only at h
    generalize he : a.eval x = v at h
    obtain ⟨hi, rfl⟩ := List.getElem?_eq_some_iff.1 hp
    cases h with
    | tup us ps hl hr =>
      refine ⟨us.getD i Go.undef, ?_, hr i hi⟩
      have hlt : i < us.size := by omega
      simp [execOp, he, Instr.extract, hlt]

theorem ok_makeFunc {f : FuncId} {l : List (Operand × PV)} : OpOK P cx ⟨d, .makeFunc (.func f) #[] (l.map (·.1)).toArray, ty, ps, af, gd⟩ l nx ⟨.func f (l.map (·.2)), [], [], 0⟩ :=
  OpOK.pure fun F g H D a w hH hu _ => by
    refine ⟨.func (.func f) #[] ((l.map (·.1)).toArray.map a.eval), by simp [execOp, Instr.makeFunc], .func f _ _ (by simp) fun j hj => ?_⟩
    have key : ∀ (l : List (Operand × PV)), RepAll F cx.B g a l → ∀ (j : Nat) (hj : j < l.length), RepP F cx.B g (a.eval l[j].1) l[j].2 := by
      intro l
      induction l with
      | nil => intro _ j hj; exact absurd hj (by simp)
      | cons u l ih =>
        intro h j hj
        cases j with
        | zero => exact h.1
        | succ j => exact ih h.2 j (by simpa using hj)
    have hj' : j < l.length := by simpa using hj
    simpa [Array.getD_eq_getD_getElem?, hj'] using key l hu j hj'

end
end Go.Proofs.Gh
end
section
set_option linter.unusedVariables false
set_option linter.unusedSimpArgs false
namespace Go.Proofs.Gh
open Go.RowKit

section
variable {P : Program} {cx : Cx} {d : Option Tmp} {ty : TypeId} {ps : String} {af : Array Edge} {gd : Option (Nat × Bool)} {nx : Nat}

/-- An array of the call's own is frozen: from now on it is plain data. -/
theorem HRep.freeze {F : FMap} {g : GMap} {H : Nat → Option Blk} {D : Nat → Prop} {w : World} (h : HRep cx F g H D w) {id e sz n : Nat} {cs : List FV} (hk : H id = some (.arr e sz n cs)) :
    ∃ F', FMap.ext cx.base F F' ∧ HRep cx F' g (upd H [(id, .fro n cs)]) D w ∧ ∀ v, g id = some v → RepF F' v (.sl n cs) := by
  obtain ⟨v, hg, xs, hown, hxl, hxr⟩ := h.blk id _ hk
  have hself : w.grownBy w none := ⟨rfl, rfl, rfl, Nat.le_refl _, fun _ _ _ => rfl⟩
  rcases hown.2 with ⟨rfl, h0⟩ | ⟨b, cap, cur, rfl, hb, hh, hn, hm, hc, ht⟩
  · have hx : cs = [] := by
      have h1 := hown.1
      rw [h0] at h1
      simp at h1
      have : cs.length = 0 := by rw [← hxl, h1]; rfl
      exact List.eq_nil_of_length_eq_zero this
    subst hx
    subst h0
    have hr : RepF F (.slice none 0 0) (.sl 0 []) := .nil _ _ _ (Nat.le_refl _)
    refine ⟨F, .refl _ _, ?_, fun v hv => by rw [hg] at hv; injection hv with hv; subst hv; exact hr⟩
    refine h.next none id (.fro 0 []) (.slice none 0 0) hself (by simp) (.refl _ _) (fun b o v hv => .inl hv) (.refl g) h.dom (by simp [upd_one]) hg hr ?_ (fun hm => by cases hm)
    intro j k hj hk'
    rw [upd_one, if_neg hj] at hk'
    exact .inr ⟨hk', fun u b hm hu hb => ⟨by simp, (h.own j k u b hk' hm hu hb).2.1⟩⟩
  · have ho := h.own id _ _ b hk rfl hg rfl
    have hxs : xs.length = n * sz := hown.1
    have hle : n * sz ≤ cap * sz := Nat.mul_le_mul_right _ hn
    let F' : FMap := fun b' o => if b' = b ∧ o < cs.length then some (cur.getD o Go.undef) else F b' o
    have hle' : F.le F' := fun b' o u hu => by
      show (if b' = b ∧ o < cs.length then some (cur.getD o Go.undef) else F b' o) = some u
      split
      · rename_i hc'
        rw [hc'.1, ho.2.1 o] at hu
        cases hu
      · exact hu
    have hext : FMap.ext cx.base F F' := ⟨hle', fun b' o hb' => by
      show (if b' = b ∧ o < cs.length then some (cur.getD o Go.undef) else F b' o) = F b' o
      rw [if_neg (fun hc' => by omega)]⟩
    have hrep : RepF F' (.slice (some ⟨b, 0, none⟩) n cap) (.sl n cs) := by
      refine .sl b 0 n cap cs (fun j => cur.getD j Go.undef) hn (fun j hj => ?_) fun j hj => ?_
      · show (if b = b ∧ 0 + j < cs.length then some (cur.getD (0 + j) Go.undef) else F b (0 + j)) = _
        rw [Nat.zero_add, if_pos ⟨rfl, hj⟩]
      · have := hxr j hj
        rw [← ht] at this
        rw [show cur.getD j Go.undef = (cur.toList.take (n * sz)).getD j Go.undef from ?_]
        · exact this.mono hle'
        · simp [Array.getD_eq_getD_getElem?, List.getD_eq_getElem?_getD, List.getElem?_take_of_lt (show j < n * sz by omega)]
    refine ⟨F', hext, ?_, fun v hv => by rw [hg] at hv; injection hv with hv; subst hv; exact hrep⟩
    refine h.next none id (.fro n cs) (.slice (some ⟨b, 0, none⟩) n cap) hself (by simp) hext ?_ (.refl g) h.dom (by simp [upd_one]) hg hrep ?_ (fun hm => by cases hm)
    · intro b' o u hu
      have hu : (if b' = b ∧ o < cs.length then some (cur.getD o Go.undef) else F b' o) = some u := hu
      split at hu
      · rename_i hc'
        right
        rw [hc'.1, cell_of hh (by omega)]
        exact hu
      · exact .inl hu
    · intro j k hj hk'
      rw [upd_one, if_neg hj] at hk'
      refine .inr ⟨hk', fun u b' hm' hu hb' => ⟨by simp, fun o => ?_⟩⟩
      show (if b' = b ∧ o < cs.length then some (cur.getD o Go.undef) else F b' o) = none
      rw [if_neg]
      · exact (h.own j k u b' hk' hm' hu hb').2.1 o
      · rintro ⟨rfl, _⟩
        exact hj (h.inj j id k _ u _ b' hk' hk hm' rfl hu hg hb' rfl)

/-- What an operation makes is frozen at once. -/
theorem OpOK.frz {o : Oper} {us : List (Operand × PV)} {id n e sz nn : Nat} {rd wr : List (Nat × Blk)} {cs : List FV} (h : OpOK P cx o us nx ⟨.own id n, rd, wr, nn⟩) (hid : lk wr id = some (.arr e sz n cs)) :
    OpOK P cx o us nx ⟨.cell (.sl n cs), rd, (id, .fro n cs) :: wr, nn⟩ := by
  intro F g H D a w hH hu hrd hn
  intro rd next Q hK
  refine h F g H D a w hH hu hrd hn rd next Q fun v w' ⟨F', g', h1, h2, h3, h4, h5⟩ => hK v w' ?_
  obtain ⟨F2, q1, q2, q3⟩ := h3.freeze (id := id) (e := e) (sz := sz) (n := n) (cs := cs) (by simp [upd, hid])
  refine ⟨F2, g', h1.trans q1 (Nat.le_refl _), h2, ?_, ?_, h5⟩
  · have : upd (upd H wr) [(id, .fro n cs)] = upd H ((id, .fro n cs) :: wr) := by
      funext j
      rw [upd_one]
      unfold upd
      by_cases hj : j = id
      · subst hj
        simp [lk]
      · rw [if_neg hj, lk_cons_ne _ _ (Ne.symm hj)]
    rw [← this]
    exact q2
  · cases h4 with
    | own n hg A cap hv => exact .cell (q3 _ hg)

/-! ### Contracts -/
def gnone : GMap := fun _ => none
def Agree (F : FMap) (w : World) : Prop := ∀ b o v, F b o = some v → w.cell? ⟨b, o, none⟩ = some v

/-- The function returns 'v'; what was there stays as it is. -/
def PureC (P : Program) (f : FuncId) (args : List PV) (v : PV) : Prop :=
  ∀ (F B : FMap) (w : World) (margs : Array Value), Agree F w → Agree B w → margs.size = args.length → (∀ (j : Nat) (h : j < args.length), RepP F B gnone (margs.getD j Go.undef) (args[j]'h)) →
    Calls P f margs w fun e w' => ∃ mv F', e = .returned mv ∧ FMap.ext w.heap.size F F' ∧ Agree F' w' ∧ RepP F' B gnone mv v ∧ w.grownBy w' none

/-- No own memory is named. -/
def idfree : PV → Bool
  | .undef | .own .. | .ptr .. | .func .. | .tup _ | .yield _ => false
  | _ => true
/-- Numbers, truth values, strings. -/
def prim0 : PV → Bool
  | .cell (.bool _) | .cell (.int ..) | .cell (.str _) => true
  | _ => false
def prim : PV → Bool
  | .tup vs => vs.all prim0
  | p => prim0 p
def dat : PV → Bool
  | .tup vs => vs.all idfree
  | p => idfree p

theorem RepP.of_idfree {F B : FMap} {g g' : GMap} {v : Value} {p : PV} (h : RepP F B g v p) (hp : idfree p = true) : RepP F B g' v p := by
  cases h with
  | undef => cases hp
  | cell h => exact .cell h
  | agg vs cs hl h => exact .agg vs cs hl h
  | nilS => exact .nilS
  | emp A => exact .emp A
  | own => cases hp
  | ptr => cases hp
  | fptr b o cs us hu hr => exact .fptr b o cs us hu hr
  | func => cases hp
  | tup => cases hp
  | yield => cases hp
theorem RepP.of_dat {F B : FMap} {g g' : GMap} {v : Value} {p : PV} (h : RepP F B g v p) (hp : dat p = true) : RepP F B g' v p := by
  cases p with
  | tup vs =>
    cases h with
    | tup us ps hl hr =>
      refine .tup us vs hl fun j hj => (hr j hj).of_idfree ?_
      exact List.all_eq_true.1 hp _ (List.getElem_mem hj)
  | _ => exact h.of_idfree hp
theorem RepP.of_prim0 {F F' B B' : FMap} {g g' : GMap} {v : Value} {p : PV} (h : RepP F B g v p) (hp : prim0 p = true) : RepP F' B' g' v p := by
  unfold prim0 at hp
  split at hp
  · rw [rep_bool h]; exact .cell (.bool _)
  · rw [rep_int h]; exact .cell (.int _ _)
  · rw [rep_str h]; exact .cell (.str _)
  · cases hp
theorem RepP.of_prim {F F' B B' : FMap} {g g' : GMap} {v : Value} {p : PV} (h : RepP F B g v p) (hp : prim p = true) : RepP F' B' g' v p := by
  cases p with
  | tup vs =>
    cases h with
    | tup us ps hl hr =>
      refine .tup us vs hl fun j hj => (hr j hj).of_prim0 ?_
      exact List.all_eq_true.1 hp _ (List.getElem_mem hj)
  | _ => exact h.of_prim0 hp

/-! ### What a callee is lent -/
/-- A variable's cell as plain data; what the call owns only where the result is a number or the like ('all'). -/
def lcell (all : Bool) (rd : List (Nat × Blk)) : PV → Option FV
  | .cell c => some c
  | .nilS | .emp => some (.sl 0 [])
  | .own id n => match all, lk rd id with
    | true, some (.arr _ _ m cs) => some (.sl m cs)
    | _, some (.fro m cs) => some (.sl m cs)
    | _, _ => none
  | _ => none
def lcells (all : Bool) (rd : List (Nat × Blk)) : List PV → Option (List FV)
  | [] => some []
  | p :: r => match lcell all rd p, lcells all rd r with
    | some c, some l => some (c :: l)
    | _, _ => none
def lend0 (all : Bool) (rd : List (Nat × Blk)) : PV → Option PV
  | .cell c => some (.cell c)
  | .agg cs => some (.agg cs)
  | .fptr cs => some (.fptr cs)
  | .ptr id off => match lk rd id with
    | some (.var cells) => (lcells all rd cells).map fun cs => .fptr (cs.drop off)
    | some (.arr _ _ _ cs) => some (.fptr (cs.drop off))
    | _ => none
  | p => (lcell all rd p).map .cell
def lend0s (all : Bool) (rd : List (Nat × Blk)) : List PV → Option (List PV)
  | [] => some []
  | p :: r => match lend0 all rd p, lend0s all rd r with
    | some c, some l => some (c :: l)
    | _, _ => none
def lend (all : Bool) (rd : List (Nat × Blk)) : PV → Option PV
  | .func f caps => (lend0s all rd caps).map (.func f)
  | p => lend0 all rd p
def lends (all : Bool) (rd : List (Nat × Blk)) : List PV → Option (List PV)
  | [] => some []
  | p :: r => match lend all rd p, lends all rd r with
    | some c, some l => some (c :: l)
    | _, _ => none

/-- All cells of a world. -/
def allCells (w : World) : FMap := fun b o => w.cell? ⟨b, o, none⟩
theorem allCells_agree (w : World) : Agree (allCells w) w := fun _ _ _ h => h

theorem RdAll.lk {H : Nat → Option Blk} : ∀ {rd : List (Nat × Blk)} {id : Nat} {k : Blk}, RdAll H rd → lk rd id = some k → H id = some k
  | (i, b) :: r, id, k, h, hk => by
    by_cases hi : i = id
    · subst hi
      rw [lk_cons_eq] at hk
      injection hk with hk
      subst hk
      exact h.1
    · rw [lk_cons_ne _ _ hi] at hk
      exact RdAll.lk h.2 hk

theorem lcell_rep {F : FMap} {g : GMap} {H : Nat → Option Blk} {D : Nat → Prop} {w : World} (hH : HRep cx F g H D w) {all : Bool} {rd : List (Nat × Blk)} (hrd : RdAll H rd) {v : Value} {p : PV} {c : FV} (h : RepP F cx.B g v p) (hp : lcell all rd p = some c) {F' : FMap} (hF : F.le F') (hF' : all = true → F' = allCells w) :
    RepF F' v c := by
  unfold lcell at hp
  split at hp
  · injection hp with hp; subst hp; exact h.cell_inv.mono hF
  · injection hp with hp; subst hp; cases h; exact .nil _ _ _ (Nat.le_refl _)
  · injection hp with hp; subst hp; cases h; exact .nil _ _ _ (Nat.le_refl _)
  · rename_i id n
    split at hp
    · rename_i e sz m cs hk
      injection hp with hp
      subst hp
      rw [hF' rfl]
      obtain ⟨u, hu, xs, hown, hxl, hxr⟩ := hH.blk id _ (hrd.lk hk)
      cases h with
      | own n hg A cap hv =>
        rw [hu] at hg
        injection hg with hg
        subst hg
        rcases hown.2 with ⟨rfl, h0⟩ | ⟨b, cap', cur, rfl, hb', hh, hn, hm, hc, ht⟩
        · have h1 := hown.1
          rw [h0] at h1
          have : cs = [] := List.eq_nil_of_length_eq_zero (by rw [← hxl, h1]; simp)
          subst this
          subst h0
          exact .nil _ _ _ (Nat.le_refl _)
        · have hle : m * sz ≤ cap' * sz := Nat.mul_le_mul_right _ hn
          have hxs : xs.length = m * sz := hown.1
          refine .sl b 0 m cap' cs (fun j => cur.getD j Go.undef) hn (fun j hj => ?_) fun j hj => ?_
          · rw [Nat.zero_add]
            exact cell_of hh (by omega)
          · have := hxr j hj
            rw [← ht] at this
            rw [show cur.getD j Go.undef = (cur.toList.take (m * sz)).getD j Go.undef from ?_]
            · exact this.mono fun b o v hv => hH.agree b o v hv
            · simp [Array.getD_eq_getD_getElem?, List.getD_eq_getElem?_getD, List.getElem?_take_of_lt (show j < m * sz by omega)]
    · rename_i m cs hk
      injection hp with hp
      subst hp
      obtain ⟨u, hu, hr⟩ := hH.blk id _ (hrd.lk hk)
      cases h with
      | own n hg A cap hv =>
        rw [hu] at hg
        injection hg with hg
        subst hg
        exact RepF.mono hF hr
    · cases hp
  · cases hp

theorem lcells_get {all : Bool} {rd : List (Nat × Blk)} : ∀ {l : List PV} {cs : List FV}, lcells all rd l = some cs → l.length = cs.length ∧ ∀ (j : Nat) (h : j < l.length) (h' : j < cs.length), lcell all rd (l[j]'h) = some (cs[j]'h')
  | [], cs, h => by injection h with h; subst h; exact ⟨rfl, fun j h => absurd h (by simp)⟩
  | p :: r, cs, h => by
    unfold lcells at h
    cases hc : lcell all rd p with
    | none => rw [hc] at h; cases h
    | some c =>
      cases hr : lcells all rd r with
      | none => rw [hc, hr] at h; cases h
      | some l =>
        rw [hc, hr] at h
        injection h with h
        subst h
        obtain ⟨h1, h2⟩ := lcells_get hr
        refine ⟨by simp [h1], fun j hj hj' => ?_⟩
        cases j with
        | zero => exact hc
        | succ j => exact h2 j (by simpa using hj) (by simpa using hj')

theorem lend0_rep {F : FMap} {g : GMap} {H : Nat → Option Blk} {D : Nat → Prop} {w : World} (hH : HRep cx F g H D w) {all : Bool} {rd : List (Nat × Blk)} (hrd : RdAll H rd) {v : Value} {p q : PV} (h : RepP F cx.B g v p) (hp : lend0 all rd p = some q) {F' : FMap} (hF : F.le F') (hF' : all = true → F' = allCells w) :
    RepP F' (allCells w) gnone v q := by
  have hB : cx.B.le (allCells w) := fun b o v hv => hH.agreeB b o v hv
  have hFw : F.le (allCells w) := fun b o v hv => hH.agree b o v hv
  unfold lend0 at hp
  split at hp
  · injection hp with hp; subst hp; exact .cell (h.cell_inv.mono hF)
  · injection hp with hp; subst hp
    cases h with
    | agg vs _ hl hr => exact .agg vs _ hl fun j hj => (hr j hj).mono hF
  · injection hp with hp; subst hp
    cases h with
    | fptr b o _ us hu hr => exact .fptr b o _ us (fun j hj => .inr ((hu j hj).elim (hFw _ _ _) (hB _ _ _))) fun j hj => (hr j hj).mono hF
  · rename_i id off
    split at hp
    · rename_i cells hk
      obtain ⟨cs, hcs, rfl⟩ := Option.map_eq_some_iff.1 hp
      obtain ⟨b, c, e, rfl, hg, hh, hl, hr⟩ := ptr_var hH h (hrd.lk hk)
      obtain ⟨q1, q2⟩ := lcells_get hcs
      refine .fptr b off _ (fun j => c.getD (off + j) Go.undef) (fun j hj => .inr ?_) fun j hj => ?_
      · simp at hj
        exact cell_of hh (by omega)
      · simp at hj
        rw [List.getElem_drop]
        exact lcell_rep hH hrd (hr (off + j) (by omega)) (q2 _ _ (by omega)) hF hF'
    · rename_i e sz n cs hk
      injection hp with hp; subst hp
      obtain ⟨b, cap, cur, rfl, hg, hh, hn, hs, hl, hr⟩ := ptr_arr hH h (hrd.lk hk)
      have hle : n * sz ≤ cap * sz := Nat.mul_le_mul_right _ hn
      refine .fptr b off _ (fun j => cur.getD (off + j) Go.undef) (fun j hj => .inr ?_) fun j hj => ?_
      · simp at hj
        exact cell_of hh (by omega)
      · simp at hj
        rw [List.getElem_drop]
        exact (hr (off + j) (by omega)).mono hF
    · cases hp
  · obtain ⟨c, hc, rfl⟩ := Option.map_eq_some_iff.1 hp
    exact .cell (lcell_rep hH hrd h hc hF hF')

theorem lend0s_get {all : Bool} {rd : List (Nat × Blk)} : ∀ {l : List PV} {cs : List PV}, lend0s all rd l = some cs → l.length = cs.length ∧ ∀ (j : Nat) (h : j < l.length) (h' : j < cs.length), lend0 all rd (l[j]'h) = some (cs[j]'h')
  | [], cs, h => by injection h with h; subst h; exact ⟨rfl, fun j h => absurd h (by simp)⟩
  | p :: r, cs, h => by
    unfold lend0s at h
    cases hc : lend0 all rd p with
    | none => rw [hc] at h; cases h
    | some c =>
      cases hr : lend0s all rd r with
      | none => rw [hc, hr] at h; cases h
      | some l =>
        rw [hc, hr] at h
        injection h with h
        subst h
        obtain ⟨h1, h2⟩ := lend0s_get hr
        refine ⟨by simp [h1], fun j hj hj' => ?_⟩
        cases j with
        | zero => exact hc
        | succ j => exact h2 j (by simpa using hj) (by simpa using hj')

theorem lend_rep {F : FMap} {g : GMap} {H : Nat → Option Blk} {D : Nat → Prop} {w : World} (hH : HRep cx F g H D w) {all : Bool} {rd : List (Nat × Blk)} (hrd : RdAll H rd) {v : Value} {p q : PV} (h : RepP F cx.B g v p) (hp : lend all rd p = some q) {F' : FMap} (hF : F.le F') (hF' : all = true → F' = allCells w) :
    RepP F' (allCells w) gnone v q := by
  unfold lend at hp
  split at hp
  · obtain ⟨cs, hcs, rfl⟩ := Option.map_eq_some_iff.1 hp
    cases h with
    | func f vs caps hl hr =>
      obtain ⟨q1, q2⟩ := lend0s_get hcs
      exact .func _ vs cs (by omega) fun j hj => lend0_rep hH hrd (hr j (by omega)) (q2 j _ hj) hF hF'
  · exact lend0_rep hH hrd h hp hF hF'

theorem lends_get {all : Bool} {rd : List (Nat × Blk)} : ∀ {l : List PV} {cs : List PV}, lends all rd l = some cs → l.length = cs.length ∧ ∀ (j : Nat) (h : j < l.length) (h' : j < cs.length), lend all rd (l[j]'h) = some (cs[j]'h')
  | [], cs, h => by injection h with h; subst h; exact ⟨rfl, fun j h => absurd h (by simp)⟩
  | p :: r, cs, h => by
    unfold lends at h
    cases hc : lend all rd p with
    | none => rw [hc] at h; cases h
    | some c =>
      cases hr : lends all rd r with
      | none => rw [hc, hr] at h; cases h
      | some l =>
        rw [hc, hr] at h
        injection h with h
        subst h
        obtain ⟨h1, h2⟩ := lends_get hr
        refine ⟨by simp [h1], fun j hj hj' => ?_⟩
        cases j with
        | zero => exact hc
        | succ j => exact h2 j (by simpa using hj) (by simpa using hj')

/-- A Go function with a body, no function of the runtime's own. -/
def plainFn (P : Program) (f : FuncId) : Bool :=
  match P.funcs[f]? with
  | some fn => fn.body.isSome && !(fn.name == "runtime.NumGoroutine")
  | none => false
theorem run_callFunc {f : FuncId} (hf : plainFn P f = true) (args : Array Value) (w : World) : (callFunc f args).run P w = .ok (.enter f args) w := by
  unfold plainFn at hf
  split at hf
  · rename_i fn hfn
    simp only [Bool.and_eq_true, Bool.not_eq_true'] at hf
    have h1 : fn.name ≠ "runtime.NumGoroutine" := by simpa using hf.2
    obtain ⟨c, hc⟩ := Option.isSome_iff_exists.1 hf.1
    simp [callFunc, hfn, h1, hc]
  · cases hf

theorem runs_call {o : Oper} {a : Act} {w : World} {f : FuncId} {args : Array Value} {K : Value → World → Prop} (hr : (execOp a.eval o).run P w = .ok (.enter f args) w) (h : Calls P f args w fun e w' => ∃ v, e = .returned v ∧ K v w') : OpRuns P o a w K := by
  intro rd next Q hn
  unfold Oper.wpIn
  rw [semAt_of hr (by simp), hr, Oper.uponIn_enter]
  refine ⟨fun _ _ => trivial, by simp, wideAt_calls (h.mono fun e w' he => ?_)⟩
  obtain ⟨v, rfl, hk⟩ := he
  exact hn v w' hk

theorem repAll_get {F B : FMap} {g : GMap} {a : Act} : ∀ {l : List (Operand × PV)}, RepAll F B g a l → ∀ (j : Nat) (h : j < l.length), RepP F B g (a.eval (l[j]'h).1) (l[j]'h).2
  | u :: l, h, j, hj => by
    cases j with
    | zero => exact h.1
    | succ j => exact repAll_get h.2 j (by simpa using hj)

/-- What follows a contract, whatever the caller lent. -/
theorem pure_post {F : FMap} {g : GMap} {H : Nat → Option Blk} {D : Nat → Prop} {w w' : World} (hH : HRep cx F g H D w) {all : Bool} {v : PV} {mv : Value} {F' : FMap} (hv : (if all then prim v else dat v) = true) (h1 : FMap.ext w.heap.size (if all then allCells w else F) F') (h2 : Agree F' w') (h3 : RepP F' (allCells w) gnone mv v) (h4 : w.grownBy w' none) (hnp : all = false → ∀ cs, v ≠ .fptr cs) (hnt : all = false → ∀ vs, v = .tup vs → ∀ p ∈ vs, ∀ cs, p ≠ .fptr cs) :
    ∃ F2 g', FMap.ext cx.base F F2 ∧ g.le g' ∧ HRep cx F2 g' (upd H []) (fun i => D i ∨ (nx ≤ i ∧ i < nx + 0)) w' ∧ RepP F2 cx.B g' mv v ∧ KeepsD w w' := by
  cases all with
  | true =>
    simp only [if_true] at hv h1
    refine ⟨F, g, .refl _ _, .refl _, ?_, h3.of_prim hv, .none h4⟩
    exact hH.same h4 (.refl _ _) (fun b o u hu => h2 _ _ _ (h1.1 _ _ _ (hH.agree b o u hu))) fun j hj => .inl hj
  | false =>
    simp only [Bool.false_eq_true, if_false] at hv h1
    refine ⟨F', g, ⟨h1.1, fun b o hb => h1.2 b o (Nat.lt_of_lt_of_le hb hH.le)⟩, .refl _, ?_, ?_, .none h4⟩
    · exact hH.same h4 h1 h2 fun j hj => .inl hj
    · have key : ∀ {mv : Value} {p : PV}, idfree p = true → (∀ cs, p ≠ .fptr cs) → RepP F' (allCells w) gnone mv p → RepP F' cx.B g mv p := by
        intro mv p hp hn hr
        cases hr with
        | undef => cases hp
        | cell h => exact .cell h
        | agg vs cs hl h => exact .agg vs cs hl h
        | nilS => exact .nilS
        | emp A => exact .emp A
        | own => cases hp
        | ptr => cases hp
        | fptr b o cs => exact absurd rfl (hn cs)
        | func => cases hp
        | tup => cases hp
        | yield => cases hp
      cases v with
      | tup vs =>
        cases h3 with
        | tup us ps hl hr => exact .tup us vs hl fun j hj => key (List.all_eq_true.1 hv _ (List.getElem_mem hj)) (hnt rfl vs rfl _ (List.getElem_mem hj)) (hr j hj)
      | _ => exact key hv (hnp rfl) h3

/-- The result may be handed on: numbers and the like where something of the caller's own was lent ('all'), else plain data. -/
def resOK (all : Bool) (v : PV) : Bool :=
  bif all then prim v else match v with
    | .tup vs => vs.all fun p => match p with | .fptr _ => false | p => idfree p
    | .fptr _ => false
    | p => idfree p
theorem resOK_spec {all : Bool} {v : PV} (h : resOK all v = true) : (if all then prim v else dat v) = true ∧ (all = false → ∀ cs, v ≠ .fptr cs) ∧ (all = false → ∀ vs, v = .tup vs → ∀ p ∈ vs, ∀ cs, p ≠ .fptr cs) := by
  cases all with
  | true => exact ⟨h, by simp, by simp⟩
  | false =>
    unfold resOK at h
    simp only [cond_false] at h
    split at h
    · rename_i vs
      refine ⟨?_, fun _ cs e => (by cases e), fun _ us e p hp cs hpc => ?_⟩
      · simp only [Bool.false_eq_true, if_false, dat, List.all_eq_true] at h ⊢
        intro p hp
        have := h p hp
        split at this
        · cases this
        · exact this
      · injection e with e
        subst e
        subst hpc
        have := List.all_eq_true.1 h _ hp
        cases this
    · cases h
    · rename_i h1 h2
      refine ⟨?_, fun _ cs e => h2 cs e, fun _ vs e => absurd e (h1 vs)⟩
      simp only [Bool.false_eq_true, if_false]
      cases v <;> first | exact absurd rfl (h1 _) | exact h | (unfold dat; exact h)

theorem ok_call {f : FuncId} {ts : Array TypeId} {l : List (Operand × PV)} {all : Bool} {rd : List (Nat × Blk)} {qs : List PV} {v : PV} (hf : plainFn P f = true) (hl : lends all rd (l.map (·.2)) = some qs) (h : PureC P f qs v) (hv : resOK all v = true) :
    OpOK P cx ⟨d, .call ⟨.value (.func f), (l.map (·.1)).toArray, ts⟩, ty, ps, af, gd⟩ l nx ⟨v, rd, [], 0⟩ := by
  intro F g H D a w hH hu hrd hn
  obtain ⟨q1, q2⟩ := lends_get hl
  obtain ⟨r1, r2, r3⟩ := resOK_spec hv
  have hFw : F.le (allCells w) := fun b o v hv => hH.agree b o v hv
  have hle : F.le (if all then allCells w else F) := by split; exact hFw; exact .refl F
  have hag : Agree (if all then allCells w else F) w := by split; exact allCells_agree w; exact hH.agree
  refine runs_call (f := f) (args := (l.map (·.1)).toArray.map a.eval) ?_ ((h _ (allCells w) w _ hag (allCells_agree w) ?_ ?_).mono ?_)
  · simp [execOp, resolve, Deferred.ofValue, invoke, Act.eval, run_callFunc hf]
  · simp at q1 ⊢; exact q1
  · intro j hj
    have hj' : j < l.length := by simp at q1; omega
    have hr := repAll_get hu j hj'
    have hq := q2 j (by simpa using hj') hj
    simp only [List.getElem_map] at hq
    have := lend_rep hH hrd hr hq hle fun e => by rw [e]; rfl
    simpa [Array.getD_eq_getD_getElem?, hj'] using this
  · rintro e w' ⟨mv, F', rfl, h1, h2, h3, h4⟩
    exact ⟨mv, rfl, pure_post hH r1 h1 h2 h3 h4 r2 r3⟩

/-- A call of a function value. -/
theorem ok_callv {x : Operand} {f : FuncId} {caps : List PV} {ts : Array TypeId} {l : List (Operand × PV)} {all : Bool} {rd : List (Nat × Blk)} {qs : List PV} {v : PV} (hf : plainFn P f = true) (hl : lends all rd (l.map (·.2) ++ caps) = some qs) (h : PureC P f qs v) (hv : resOK all v = true) :
    OpOK P cx ⟨d, .call ⟨.value x, (l.map (·.1)).toArray, ts⟩, ty, ps, af, gd⟩ ((x, .func f caps) :: l) nx ⟨v, rd, [], 0⟩ := by
  intro F g H D a w hH hu hrd hn
  obtain ⟨q1, q2⟩ := lends_get hl
  obtain ⟨r1, r2, r3⟩ := resOK_spec hv
  have hFw : F.le (allCells w) := fun b o v hv => hH.agree b o v hv
  have hle : F.le (if all then allCells w else F) := by split; exact hFw; exact .refl F
  have hag : Agree (if all then allCells w else F) w := by split; exact allCells_agree w; exact hH.agree
  have hx := hu.1
  simp only at hx
  generalize he : a.eval x = fv at hx
  cases hx with
  | func f vs caps hcl hcr =>
    refine runs_call (f := f) (args := (l.map (·.1)).toArray.map a.eval ++ vs) ?_ ((h _ (allCells w) w _ hag (allCells_agree w) ?_ ?_).mono ?_)
    · simp [execOp, resolve, he, Deferred.ofValue, invoke, run_callFunc hf]
    · simp at q1 ⊢; omega
    · intro j hj
      simp at q1
      by_cases hj' : j < l.length
      · have hr := repAll_get hu.2 j hj'
        have hq := q2 j (by simp; omega) hj
        rw [List.getElem_append_left (by simpa using hj')] at hq
        simp only [List.getElem_map] at hq
        have := lend_rep hH hrd hr hq hle fun e => by rw [e]; rfl
        simpa [Array.getD_eq_getD_getElem?, Array.getElem?_append, hj'] using this
      · have hq := q2 j (by simp; omega) hj
        rw [List.getElem_append_right (by simp; omega)] at hq
        simp only [List.length_map] at hq
        have := lend_rep hH hrd (hcr (j - l.length) (by omega)) hq hle fun e => by rw [e]; rfl
        simpa [Array.getD_eq_getD_getElem?, Array.getElem?_append, hj'] using this
    · rintro e w' ⟨mv, F', rfl, h1, h2, h3, h4⟩
      exact ⟨mv, rfl, pure_post hH r1 h1 h2 h3 h4 r2 r3⟩

end
end Go.Proofs.Gh
end
section
set_option linter.unusedVariables false
set_option linter.unusedSimpArgs false
namespace Go.Proofs.Gh
open Go.RowKit

/-! ### Overlays -/
section
variable {β : Type}
/-- What is written by those operations that are listed, the later one (by the text) over the earlier one. -/
def ovr (l : Nat → Bool) : List (Nat → Option β) → Nat → (Nat → Option β) → Nat → Option β
  | [], _, f => f
  | W :: Ws, j, f => ovr l Ws (j + 1) fun t => if l j = true then over (W t) (f t) else f t

theorem ovr_congr {l l' : Nat → Bool} {t : Nat} : ∀ {Ws : List (Nat → Option β)} {j : Nat} {f f' : Nat → Option β}, f t = f' t → (∀ i W, Ws[i]? = some W → (W t).isSome = true → l (j + i) = l' (j + i)) → ovr l Ws j f t = ovr l' Ws j f' t
  | [], j, f, f', hf, _ => hf
  | W :: Ws, j, f, f', hf, h => by
    unfold ovr
    refine ovr_congr ?_ fun i W' hW hs => by
      have := h (i + 1) W' (by simpa using hW) hs
      rwa [show j + (i + 1) = j + 1 + i by omega] at this
    cases hw : W t with
    | none => simp [hf, over]
    | some v =>
      have := h 0 W (by simp) (by rw [hw]; rfl)
      simp only [Nat.add_zero] at this
      simp [this, hf, over]

theorem ovr_some {l : Nat → Bool} {t : Nat} {v : β} : ∀ {Ws : List (Nat → Option β)} {j i : Nat} {f : Nat → Option β} {W : Nat → Option β}, Ws[i]? = some W → W t = some v → l (j + i) = true → (∀ k W', i < k → Ws[k]? = some W' → (W' t).isSome = true → l (j + k) = false) → ovr l Ws j f t = some v
  | [], j, i, f, W, hW, _, _, _ => by simp at hW
  | W0 :: Ws, j, 0, f, W, hW, hv, hl, h => by
    have hW : W0 = W := by simpa using hW
    subst hW
    unfold ovr
    have : ∀ {Ws : List (Nat → Option β)} {j : Nat} {f : Nat → Option β}, f t = some v → (∀ k W', Ws[k]? = some W' → (W' t).isSome = true → l (j + k) = false) → ovr l Ws j f t = some v := by
      intro Ws
      induction Ws with
      | nil => intro j f hf _; exact hf
      | cons W1 Ws ih =>
        intro j f hf hk
        unfold ovr
        refine ih ?_ fun k W' hW hs => by
          have := hk (k + 1) W' (by simpa using hW) hs
          rwa [show j + (k + 1) = j + 1 + k by omega] at this
        cases hw : W1 t with
        | none => simp [hf, over]
        | some u =>
          have := hk 0 W1 (by simp) (by rw [hw]; rfl)
          simp only [Nat.add_zero] at this
          simp [this, hf, over]
    refine this ?_ fun k W' hW hs => by
      have := h (k + 1) W' (by omega) (by simpa using hW) hs
      rwa [show j + (k + 1) = j + 1 + k by omega] at this
    simp only [Nat.add_zero] at hl
    simp [hl, hv, over]
  | W0 :: Ws, j, i + 1, f, W, hW, hv, hl, h => by
    unfold ovr
    refine ovr_some (i := i) (by simpa using hW) hv (by rwa [show j + 1 + i = j + (i + 1) by omega]) fun k W' hk hW' hs => by
      have := h (k + 1) W' (by omega) (by simpa using hW') hs
      rwa [show j + (k + 1) = j + 1 + k by omega] at this
end

/-! ### One step in the text's order -/
def AllEv (f : Nat → Option PV) : List (Operand × PV) → Prop
  | [] => True
  | (x, p) :: r => (match x with | .tmp t => f t | .const v => constOf v | .func f => some (.func f []) | .global _ => none) = some p ∧ AllEv f r

/-- What is known of an operation that has been walked: the operation, what it came to, where its new blocks begin. -/
structure Rec where
  o : Oper
  e : Eff
  nx : Nat

def Rec.fw (r : Rec) : Nat → Option PV := fun t => match r.o.dst with | some d => bif Nat.beq d t then some r.e.val else none | none => none
def Rec.hw (r : Rec) : Nat → Option Blk := fun i => lk r.e.wr i

/-- An operation without a guard, or whose guard lets it run. -/
def guardOn (ops : Array Oper) (f : Nat → Option PV) (o : Oper) : Prop :=
  match o.guard with
  | none => True
  | some (j, want) => ∃ t, ((ops[j]?).bind (·.dst)) = some t ∧ f t = some (.cell (.bool want))
def guardOff (ops : Array Oper) (f : Nat → Option PV) (o : Oper) : Prop :=
  ∃ j want t, o.guard = some (j, want) ∧ ((ops[j]?).bind (·.dst)) = some t ∧ (f t = some (.cell (.bool (!want))) ∨ f t = some (.tup []))

/-- One step: the operation runs, or its guard is off. -/
def StepF (P : Program) (cx : Cx) (ops : Array Oper) (f : Nat → Option PV) (h : Nat → Option Blk) (r : Rec) : Prop :=
  (guardOn ops f r.o ∧ ∃ us, OpOK P cx r.o us r.nx r.e ∧ (∀ u ∈ us, u.1 ∈ r.o.op.operands.toList ∨ ∀ t, u.1 ≠ .tmp t) ∧ AllEv f us ∧ RdAll h r.e.rd) ∨
  (guardOff ops f r.o ∧ r.e = ⟨.tup [], [], [], 0⟩)

/-- The chain: from these slots and blocks on, the records follow one another. -/
def Chain (P : Program) (cx : Cx) (ops : Array Oper) : List Rec → (Nat → Option PV) → (Nat → Option Blk) → Nat → Prop
  | [], _, _, _ => True
  | r :: rs, f, h, nx => r.nx = nx ∧ StepF P cx ops f h r ∧ Chain P cx ops rs (fun t => over (r.fw t) (f t)) (upd h r.e.wr) (nx + r.e.nn)

def nxAt : List Rec → Nat → Nat → Nat
  | _, nx, 0 => nx
  | [], nx, _ + 1 => nx
  | r :: rs, nx, j + 1 => nxAt rs (nx + r.e.nn) j

theorem chain_at {P : Program} {cx : Cx} {ops : Array Oper} : ∀ {rs : List Rec} {f0 f : Nat → Option PV} {h0 h : Nat → Option Blk} {nx k : Nat} {pre : List Rec}, k = pre.length →
    f = ovr (fun i => decide (i < k)) (pre.map Rec.fw) 0 f0 → h = ovr (fun i => decide (i < k)) (pre.map Rec.hw) 0 h0 → Chain P cx ops rs f h nx →
    ∀ j r, rs[j]? = some r → StepF P cx ops (ovr (fun i => decide (i < k + j)) ((pre ++ rs).map Rec.fw) 0 f0) (ovr (fun i => decide (i < k + j)) ((pre ++ rs).map Rec.hw) 0 h0) r ∧ r.nx = nxAt rs nx j
  | [], _, _, _, _, _, _, _, _, _, _, _, j, r, hr => by simp at hr
  | r0 :: rs, f0, f, h0, h, nx, k, pre, hk, hf, hh, hc, j, r, hr => by
    obtain ⟨hn, hs, hc⟩ := hc
    have ext : ∀ {β : Type} (g0 : Nat → Option β) (m : Rec → Nat → Option β) (k' : Nat) (Ls Rs : List Rec), k' ≤ Ls.length → ovr (fun i => decide (i < k')) ((Ls ++ Rs).map m) 0 g0 = ovr (fun i => decide (i < k')) (Ls.map m) 0 g0 := by
      intro β g0 m k' Ls Rs hle
      have aux : ∀ (Ls : List Rec) (j0 : Nat) (g : Nat → Option β), k' ≤ j0 + Ls.length → ovr (fun i => decide (i < k')) ((Ls ++ Rs).map m) j0 g = ovr (fun i => decide (i < k')) (Ls.map m) j0 g := by
        intro Ls
        induction Ls with
        | nil =>
          intro j0 g hle
          simp only [List.nil_append, List.map_nil, ovr]
          have hj0 : k' ≤ j0 := by simpa using hle
          clear hle hr
          have : ∀ (Rs : List Rec) (j0 : Nat) (g : Nat → Option β), k' ≤ j0 → ovr (fun i => decide (i < k')) (Rs.map m) j0 g = g := by
            intro Rs
            induction Rs with
            | nil => intro j0 g _; rfl
            | cons r Rs ih =>
              intro j0 g hle
              simp only [List.map_cons, ovr]
              rw [ih (j0 + 1) _ (by omega)]
              funext t
              have : decide (j0 < k') = false := by simp; omega
              simp [this]
          exact this Rs j0 g hj0
        | cons r Ls ih =>
          intro j0 g hle
          simp only [List.cons_append, List.map_cons, ovr]
          exact ih (j0 + 1) _ (by simp at hle; omega)
      exact aux Ls 0 g0 (by omega)
    cases j with
    | zero =>
      have hr : r0 = r := by simpa using hr
      subst hr
      rw [Nat.add_zero, ext f0 Rec.fw k pre (r0 :: rs) (by omega), ext h0 Rec.hw k pre (r0 :: rs) (by omega), ← hf, ← hh]
      exact ⟨hs, hn⟩
    | succ j =>
      have snoc : ∀ {β : Type} (g0 : Nat → Option β) (m : Rec → Nat → Option β), ovr (fun i => decide (i < k + 1)) ((pre ++ [r0]).map m) 0 g0 = fun t => over (m r0 t) (ovr (fun i => decide (i < k)) (pre.map m) 0 g0 t) := by
        intro β g0 m
        have aux : ∀ (pre : List Rec) (j0 : Nat) (g : Nat → Option β), j0 + pre.length = k → ovr (fun i => decide (i < k + 1)) ((pre ++ [r0]).map m) j0 g = fun t => over (m r0 t) (ovr (fun i => decide (i < k)) (pre.map m) j0 g t) := by
          intro pre
          induction pre with
          | nil =>
            intro j0 g hj
            have : decide (j0 < k + 1) = true := by simp at hj ⊢; omega
            simp only [List.nil_append, List.map_cons, List.map_nil, ovr, this, if_true]
          | cons r pre ih =>
            intro j0 g hj
            simp only [List.cons_append, List.map_cons, ovr]
            rw [ih (j0 + 1) _ (by simp at hj; omega)]
            have h1 : decide (j0 < k + 1) = true := by simp at hj ⊢; omega
            have h2 : decide (j0 < k) = true := by simp at hj ⊢; omega
            simp only [h1, h2]
        exact aux pre 0 g0 (by omega)
      have := chain_at (rs := rs) (pre := pre ++ [r0]) (k := k + 1) (f0 := f0) (h0 := h0) (by simp [hk]) (by rw [snoc, ← hf]) (by
        rw [snoc, ← hh]
        rfl) hc j r (by simpa using hr)
      rw [List.append_assoc, List.singleton_append, show k + 1 + j = k + (j + 1) by omega] at this
      exact this

/-! ### Who comes before whom -/
/-- What comes before an operation, given that of those ahead of it. -/
def maskOf (acc : List Nat) (es : List Edge) : Nat := es.foldl (fun s e => if Region.binds .any e = true then s ||| 2 ^ e.on ||| acc.getD e.on 0 else s) 0
/-- Which operations come before each, as bits. -/
def befs : List Oper → List Nat → List Nat
  | [], acc => acc
  | o :: os, acc => befs os (acc ++ [maskOf acc o.after.toList])

/-- A set of operations that holds, with each, what it waits for. -/
def Shut (ops : Array Oper) (l : Nat → Bool) : Prop := ∀ j o, ops[j]? = some o → l j = true → ∀ e ∈ o.after, Region.binds .any e = true → l e.on = true

theorem testBit_fold {acc : List Nat} {l : Nat → Bool} {i : Nat} : ∀ (es : List Edge) (s : Nat), (es.foldl (fun s e => if Region.binds .any e = true then s ||| 2 ^ e.on ||| acc.getD e.on 0 else s) s).testBit i = true →
    s.testBit i = true ∨ ∃ e ∈ es, Region.binds .any e = true ∧ (e.on = i ∨ (acc.getD e.on 0).testBit i = true)
  | [], s, h => .inl h
  | e :: es, s, h => by
    simp only [List.foldl_cons] at h
    rcases testBit_fold (l := l) es _ h with h | ⟨e', he', h⟩
    · split at h
      · rename_i hb
        simp only [Nat.testBit_or, Bool.or_eq_true] at h
        rcases h with (h | h) | h
        · exact .inl h
        · refine .inr ⟨e, by simp, hb, .inl ?_⟩
          rw [Nat.testBit_two_pow] at h
          simpa using h
        · exact .inr ⟨e, by simp, hb, .inr h⟩
      · exact .inl h
    · exact .inr ⟨e', by simp [he'], h⟩

theorem befs_spec {ops : Array Oper} {l : Nat → Bool} (hl : Shut ops l) : ∀ (os : List Oper) (pre : List Oper) (acc : List Nat), ops.toList = pre ++ os → acc.length = pre.length →
    (∀ (j m : Nat), acc[j]? = some m → ∀ i, m.testBit i = true → ∀ (o : Oper), ops[j]? = some o → (∀ e ∈ o.after, Region.binds .any e = true → l e.on = true) → l i = true) →
    ∀ (j m : Nat), (befs os acc)[j]? = some m → ∀ i, m.testBit i = true → ∀ (o : Oper), ops[j]? = some o → (∀ e ∈ o.after, Region.binds .any e = true → l e.on = true) → l i = true
  | [], _, _, _, _, h => h
  | o :: os, pre, acc, ho, hlen, h => by
    unfold befs
    refine befs_spec hl os (pre ++ [o]) _ (by simp [ho]) (by simp [hlen]) ?_
    intro j m hm i hi o' ho' hp
    rw [List.getElem?_append] at hm
    split at hm
    · exact h j m hm i hi o' ho' hp
    · rename_i hj
      have hj0 : j = acc.length := by
        have := (List.getElem?_eq_some_iff.1 hm).1
        simp at this
        omega
      subst hj0
      simp at hm
      subst hm
      have hoo : o = o' := by
        have : ops.toList[acc.length]? = some o := by rw [ho, hlen]; simp
        rw [Array.getElem?_toList, ho'] at this
        injection this with this
        exact this.symm
      subst hoo
      unfold maskOf at hi
      rcases testBit_fold (l := l) _ _ hi with h0 | ⟨e, he, hb, h1 | h1⟩
      · simp at h0
      · subst h1
        exact hp e (by simpa using he) hb
      · have hle := hp e (by simpa using he) hb
        rw [List.getD_eq_getElem?_getD] at h1
        cases hq : acc[e.on]? with
        | none => rw [hq] at h1; simp at h1
        | some m' =>
          rw [hq] at h1
          simp only [Option.getD_some] at h1
          have hlt : e.on < pre.length := by
            have := (List.getElem?_eq_some_iff.1 hq).1
            omega
          have hq' : ∃ q, ops[e.on]? = some q := by
            rw [← Array.getElem?_toList, ho, List.getElem?_append_left hlt]
            exact ⟨_, List.getElem?_eq_getElem hlt⟩
          obtain ⟨q, hq2⟩ := hq'
          exact h e.on m' hq i h1 q hq2 fun e' he' hb' => hl e.on q hq2 hle e' he' hb'

/-! ### The check of what is unordered -/
def idsApart (r s : Rec) : Bool :=
  r.e.wr.all (fun p => !(s.e.rd.any fun q => Nat.beq q.1 p.1) && !(s.e.wr.any fun q => Nat.beq q.1 p.1)) &&
  s.e.wr.all (fun p => !(r.e.rd.any fun q => Nat.beq q.1 p.1))
def pairOK (ops : Array Oper) (bs : List Nat) (i : Nat) (r : Rec) (j : Nat) (s : Rec) : Bool := (bs.getD j 0).testBit i || (r.o.apart ops s.o && idsApart r s)
def rowOK (ops : Array Oper) (bs : List Nat) (j : Nat) (s : Rec) : List Rec → Nat → Bool
  | [], _ => true
  | r :: rs, i => pairOK ops bs i r j s && rowOK ops bs j s rs (i + 1)
def allOK (ops : Array Oper) (bs : List Nat) (pre : List Rec) : List Rec → Nat → Bool
  | [], _ => true
  | s :: ss, j => rowOK ops bs j s pre 0 && s.o.after.toList.all (fun e => !Region.binds .any e || Nat.blt e.on j) && allOK ops bs (pre ++ [s]) ss (j + 1)
def opsAre : List Oper → List Rec → Prop
  | [], [] => True
  | o :: os, r :: rs => r.o = o ∧ opsAre os rs
  | _, _ => False

theorem opsAre_get : ∀ {os : List Oper} {rs : List Rec}, opsAre os rs → os.length = rs.length ∧ ∀ (j : Nat) (r : Rec), rs[j]? = some r → os[j]? = some r.o
  | [], [], _ => ⟨rfl, fun j r h => by simp at h⟩
  | o :: os, r :: rs, h => by
    obtain ⟨h1, h2⟩ := opsAre_get h.2
    refine ⟨by simp [h1], fun j r' hr => ?_⟩
    cases j with
    | zero =>
      have : r = r' := by simpa using hr
      subst this
      rw [h.1]; rfl
    | succ j => simpa using h2 j r' (by simpa using hr)
  | [], _ :: _, h | _ :: _, [], h => h.elim

theorem rowOK_get {ops : Array Oper} {bs : List Nat} {j : Nat} {s : Rec} : ∀ {rs : List Rec} {i0 : Nat}, rowOK ops bs j s rs i0 = true → ∀ (i : Nat) (r : Rec), rs[i]? = some r → pairOK ops bs (i0 + i) r j s = true
  | [], _, _, i, r, h => by simp at h
  | r0 :: rs, i0, h, i, r, hr => by
    unfold rowOK at h
    rw [Bool.and_eq_true] at h
    cases i with
    | zero =>
      have : r0 = r := by simpa using hr
      subst this
      exact h.1
    | succ i =>
      have := rowOK_get h.2 i r (by simpa using hr)
      rwa [show i0 + 1 + i = i0 + (i + 1) by omega] at this
theorem allOK_get {ops : Array Oper} {bs : List Nat} : ∀ {ss pre : List Rec} {j0 : Nat}, j0 = pre.length → allOK ops bs pre ss j0 = true →
    ∀ (j : Nat) (s : Rec), ss[j]? = some s → (∀ (i : Nat) (r : Rec), i < j0 + j → (pre ++ ss)[i]? = some r → pairOK ops bs i r (j0 + j) s = true) ∧ ∀ e ∈ s.o.after, Region.binds .any e = true → e.on < j0 + j
  | [], _, _, _, _, j, s, h => by simp at h
  | s0 :: ss, pre, j0, hj, h, j, s, hs => by
    unfold allOK at h
    simp only [Bool.and_eq_true] at h
    cases j with
    | zero =>
      have : s0 = s := by simpa using hs
      subst this
      refine ⟨fun i r hi hr => ?_, fun e he hb => ?_⟩
      · rw [List.getElem?_append_left (by omega)] at hr
        simpa using rowOK_get h.1.1 i r hr
      · have := List.all_eq_true.1 h.1.2 e (by simpa using he)
        simp only [hb, Bool.not_true, Bool.false_or] at this
        simpa [Nat.blt_eq] using this
    | succ j =>
      have := allOK_get (pre := pre ++ [s0]) (by simp [hj]) h.2 j s (by simpa using hs)
      rw [List.append_assoc, List.singleton_append, show j0 + 1 + j = j0 + (j + 1) by omega] at this
      exact this

end Go.Proofs.Gh
end
section
set_option linter.unusedVariables false
set_option linter.unusedSimpArgs false
namespace Go.Proofs.Gh
open Go.RowKit

def FRepF (F B : FMap) (g : GMap) (f : Nat → Option PV) (a : Act) : Prop := ∀ t v, f t = some v → RepP F B g (a.tmps.getD t Go.undef) v
structure SRepF (cx : Cx) (N : Nat) (F : FMap) (g : GMap) (f : Nat → Option PV) (h : Nat → Option Blk) (D : Nat → Prop) (a : Act) (w : World) : Prop where
  defers : MarksOK cx a w
  size : a.tmps.size = N
  fr : FRepF F cx.B g f a
  heap : HRep cx F g h D w
  keep : cx.K g
  keepW : cx.KW w

theorem HRep.monoD {cx : Cx} {F : FMap} {g : GMap} {H : Nat → Option Blk} {D D' : Nat → Prop} {w : World} (h : HRep cx F g H D w) (hD : ∀ i, D i → D' i) : HRep cx F g H D' w :=
  ⟨h.agree, h.agreeB, h.below, h.le, fun i v hv => hD i (h.dom i v hv), h.blk, h.own, h.inj⟩
theorem HRep.congr {cx : Cx} {F : FMap} {g : GMap} {H H' : Nat → Option Blk} {D : Nat → Prop} {w : World} (h : HRep cx F g H D w) (hH : ∀ i, H' i = H i) : HRep cx F g H' D w := by
  have : H' = H := funext hH
  rw [this]
  exact h

theorem put_rep {F B : FMap} {g : GMap} {f f' : Nat → Option PV} {a : Act} {N : Nat} (h : FRepF F B g f a) (hs : a.tmps.size = N) {d : Option Tmp} (hd : ∀ t, d = some t → t < N) {v : Value} {p : PV} (hv : RepP F B g v p)
    (hf : ∀ t, f' t = if d = some t then some p else f t) : FRepF F B g f' (a.put d v) := by
  intro t q hq
  rw [hf] at hq
  split at hq
  · rename_i he
    subst he
    injection hq with hq
    subst hq
    have : t < a.tmps.size := by rw [hs]; exact hd t rfl
    simpa [Act.put, Array.getD_eq_getD_getElem?, this] using hv
  · rename_i he
    have := h t q hq
    cases d with
    | none => exact this
    | some t' =>
      have hne : t' ≠ t := fun e => he (by rw [e])
      simpa [Act.put, Array.getD_eq_getD_getElem?, Array.getElem?_setIfInBounds_ne hne] using this

theorem put_size (a : Act) (d : Option Tmp) (v : Value) : (a.put d v).tmps.size = a.tmps.size := by cases d <;> simp [Act.put]
theorem put_defers (a : Act) (d : Option Tmp) (v : Value) : (a.put d v).defers = a.defers := by cases d <;> rfl

theorem yielded_of {F B : FMap} {g : GMap} {f : Nat → Option PV} {a : Act} (h : FRepF F B g f a) {ops : Array Oper} {j t : Nat} {b : Bool} (ht : ((ops[j]?).bind (·.dst)) = some t) (hf : f t = some (.cell (.bool b))) : yielded ops a.tmps j = some b := by
  have := rep_bool (h t _ hf)
  unfold yielded
  rw [ht]
  simp only [Option.bind_some]
  simp only [Array.getD_eq_getD_getElem?] at this
  cases hq : a.tmps[t]? with
  | none => rw [hq] at this; cases this
  | some v =>
    rw [hq] at this
    simp only [Option.getD_some] at this
    subst this
    rfl
theorem wanted_on {F B : FMap} {g : GMap} {f : Nat → Option PV} {a : Act} (h : FRepF F B g f a) {ops : Array Oper} {o : Oper} (ho : guardOn ops f o) : Region.wanted o (yielded ops a.tmps) = true := by
  unfold guardOn at ho
  unfold Region.wanted
  split at ho
  · rename_i hg; rw [hg]
  · rename_i j want hg
    obtain ⟨t, ht, hf⟩ := ho
    rw [hg]
    simp only [yielded_of h ht hf, BEq.rfl]
theorem wanted_off {F B : FMap} {g : GMap} {f : Nat → Option PV} {a : Act} (h : FRepF F B g f a) {ops : Array Oper} {o : Oper} (ho : guardOff ops f o) : Region.wanted o (yielded ops a.tmps) = false := by
  obtain ⟨j, want, t, hg, ht, hf⟩ := ho
  unfold Region.wanted
  rw [hg]
  rcases hf with hf | hf
  · simp only [yielded_of h ht hf]
    cases want <;> rfl
  · have := h t _ hf
    have hy : yielded ops a.tmps j = none := by
      unfold yielded
      rw [show ((ops[j]?).bind fun x => x.dst) = some t from ht]
      rw [Array.getD_eq_getD_getElem?] at this
      simp only [Option.bind_some]
      cases hq : a.tmps[t]? with
      | none => rfl
      | some q =>
        rw [hq] at this
        simp only [Option.getD_some] at this
        generalize hz : PV.tup [] = z at this
        cases this <;> first | rfl | cases hz
    simp only [hy]
    cases want <;> rfl

theorem allEv_rep {F B : FMap} {g : GMap} {f : Nat → Option PV} {a : Act} (h : FRepF F B g f a) : ∀ {us : List (Operand × PV)}, AllEv f us → RepAll F B g a us
  | [], _ => trivial
  | (x, p) :: r, hu => by
    refine ⟨?_, allEv_rep h hu.2⟩
    cases x with
    | tmp t => exact h t p hu.1
    | const v => exact constOf_rep hu.1
    | func f =>
      have := hu.1
      injection this with this
      subst this
      exact .func f #[] [] rfl fun j h => absurd h (by simp)
    | global g => cases hu.1

theorem allEv_congr {f f' : Nat → Option PV} : ∀ {us : List (Operand × PV)}, (∀ u ∈ us, ∀ t, u.1 = .tmp t → f t = f' t) → AllEv f us → AllEv f' us
  | [], _, _ => trivial
  | (x, p) :: r, h, hu => by
    refine ⟨?_, allEv_congr (fun u hu => h u (by simp [hu])) hu.2⟩
    cases x with
    | tmp t =>
      show f' t = some p
      rw [← h (.tmp t, p) (by simp) t rfl]
      exact hu.1
    | _ => exact hu.1
theorem rdAll_congr {H H' : Nat → Option Blk} : ∀ {rd : List (Nat × Blk)}, (∀ p ∈ rd, H p.1 = H' p.1) → RdAll H rd → RdAll H' rd
  | [], _, _ => trivial
  | p :: r, h, hu => ⟨by rw [← h p (by simp)]; exact hu.1, rdAll_congr (fun q hq => h q (by simp [hq])) hu.2⟩

/-- One step, in whatever state fits. -/
theorem step_run {rd : Option Nat} {P : Program} {cx : Cx} {N : Nat} {ops : Array Oper} {r : Rec} {f : Nat → Option PV} {h : Nat → Option Blk} {F : FMap} {g : GMap} {D : Nat → Prop} {a : Act} {w : World} {Q : Exit → Act → World → Prop} {K : Act → World → Prop}
    (hs : StepF P cx ops f h r) (hd : ∀ t, r.o.dst = some t → t < N) (hS : SRepF cx N F g f h D a w) (hD : ∀ i, i < r.e.nn → ¬ D (r.nx + i))
    (hK : ∀ F' g' a' w', FMap.ext cx.base F F' → SRepF cx N F' g' (fun t => over (r.fw t) (f t)) (upd h r.e.wr) (fun i => D i ∨ (r.nx ≤ i ∧ i < r.nx + r.e.nn)) a' w' → K a' w') :
    if Region.wanted r.o (yielded ops a.tmps) then r.o.wpIn (wideAt rd) 0 P a w K Q else (∀ f, r.o.about P w a.eval = some f → (wideAt rd).fn f) ∧ K (a.put r.o.dst Go.undef) w := by
  have hf : ∀ t, (fun t => over (r.fw t) (f t)) t = if r.o.dst = some t then some r.e.val else f t := by
    intro t
    show over (r.fw t) (f t) = _
    unfold Rec.fw
    cases hdst : r.o.dst with
    | none => simp
    | some d =>
      by_cases he : d = t
      · subst he; simp
      · have hb : Nat.beq d t = false := by rw [← Bool.not_eq_true, Nat.beq_eq]; exact he
        simp [hb, he]
  rcases hs with ⟨hg, us, hok, _, hev, hrd⟩ | ⟨hg, he⟩
  · rw [if_pos (wanted_on hS.fr hg)]
    refine hok F g h D a w hS.heap (allEv_rep hS.fr hev) hrd hD rd K Q ?_
    rintro v w' ⟨F', g', h1, h2, h3, h4, h5⟩
    refine hK F' g' _ w' h1 ⟨hS.defers.kept (put_defers ..) h5, by rw [put_size]; exact hS.size, ?_, h3, cx.up _ _ h2 hS.keep, Cx.upK hS.keepW h5⟩
    exact put_rep (fun t v hv => (hS.fr t v hv).mono h1.1 h2) hS.size hd h4 hf
  · rw [wanted_off hS.fr hg]
    rw [if_neg (by simp)]
    refine ⟨fun _ _ => trivial, hK F g _ w (.refl _ _) ⟨hS.defers.kept (put_defers ..) (.refl _), by rw [put_size]; exact hS.size, ?_, ?_, hS.keep, hS.keepW⟩⟩
    · exact put_rep hS.fr hS.size hd (by rw [he]; exact .tup #[] [] rfl fun j h => absurd h (by simp)) hf
    · rw [he]
      exact hS.heap.monoD fun i hi => .inl hi

/-! ### Counting what is left -/
def left (listed : Array Bool) : Nat → Nat
  | 0 => 0
  | k + 1 => left listed k + if listed.getD k true = false then 1 else 0
theorem left_set {listed : Array Bool} {i : Nat} (hi : listed.getD i true = false) : ∀ k, left (listed.setIfInBounds i true) k + (if i < k then 1 else 0) = left listed k
  | 0 => by simp [left]
  | k + 1 => by
    have ih := left_set hi k
    simp only [left]
    by_cases h : k = i
    · subst h
      have hlt : k < listed.size := by
        rcases Nat.lt_or_ge k listed.size with h | h
        · exact h
        · rw [Array.getD_eq_getD_getElem?, Array.getElem?_eq_none h] at hi; cases hi
      have h1 : (listed.setIfInBounds k true).getD k true = true := by simp [Array.getD_eq_getD_getElem?, hlt]
      rw [h1, hi]
      simp at ih ⊢
      omega
    · have h1 : (listed.setIfInBounds i true).getD k true = listed.getD k true := by
        simp [Array.getD_eq_getD_getElem?, Array.getElem?_setIfInBounds_ne (Ne.symm h)]
      have e : (if i < k + 1 then 1 else 0) = (if i < k then 1 else 0) := by split <;> split <;> omega
      rw [h1, e]
      omega
theorem left_zero {listed : Array Bool} : ∀ {k : Nat}, left listed k = 0 → ∀ i, i < k → listed.getD i true = true
  | 0, _, i, hi => by omega
  | k + 1, h, i, hi => by
    simp only [left] at h
    by_cases hik : i = k
    · subst hik
      cases hc : listed.getD i true with
      | true => rfl
      | false => rw [hc] at h; simp at h
    · exact left_zero (k := k) (by omega) i (by omega)

section
variable {P : Program} {cx : Cx} {N : Nat} {ops : Array Oper} {rs : List Rec} {f0 : Nat → Option PV} {h0 : Nat → Option Blk} {nx0 : Nat}

def lst (listed : Array Bool) : Nat → Bool := fun i => listed.getD i false
/-- The names that are taken. -/
def DS (nx0 : Nat) (rs : List Rec) (l : Nat → Bool) : Nat → Prop := fun i => i < nx0 ∨ ∃ j r, l j = true ∧ rs[j]? = some r ∧ r.nx ≤ i ∧ i < r.nx + r.e.nn

theorem nxAt_mono : ∀ (rs : List Rec) (nx j k : Nat), j < k → k ≤ rs.length → ∀ r, rs[j]? = some r → nxAt rs nx j + r.e.nn ≤ nxAt rs nx k
  | [], _, j, k, _, h, r, hr => by simp at hr
  | r0 :: rs, nx, 0, k + 1, _, hk, r, hr => by
    have hr : r0 = r := by simpa using hr
    subst hr
    have : ∀ (rs : List Rec) (nx k : Nat), nx ≤ nxAt rs nx k := by
      intro rs
      induction rs with
      | nil => intro nx k; cases k <;> exact Nat.le_refl _
      | cons r rs ih =>
        intro nx k
        cases k with
        | zero => exact Nat.le_refl _
        | succ k => exact Nat.le_trans (Nat.le_add_right _ _) (ih _ k)
    show nx + r0.e.nn ≤ nxAt rs (nx + r0.e.nn) k
    exact this rs _ k
  | r0 :: rs, nx, j + 1, k + 1, hjk, hk, r, hr => nxAt_mono rs (nx + r0.e.nn) j k (by omega) (by simp at hk; omega) r (by simpa using hr)
theorem nxAt_ge : ∀ (rs : List Rec) (nx k : Nat), nx ≤ nxAt rs nx k
  | [], nx, 0 => Nat.le_refl _
  | [], nx, _ + 1 => Nat.le_refl _
  | _ :: _, nx, 0 => Nat.le_refl _
  | r :: rs, nx, k + 1 => Nat.le_trans (Nat.le_add_right _ _) (nxAt_ge rs _ k)

theorem lk_mem {β : Type} : ∀ {l : List (Nat × β)} {i : Nat}, (lk l i).isSome = true → ∃ p ∈ l, p.1 = i
  | (k, v) :: r, i, h => by
    by_cases hk : k = i
    · exact ⟨(k, v), by simp, hk⟩
    · rw [lk_cons_ne _ _ hk] at h
      obtain ⟨p, hp, he⟩ := lk_mem h
      exact ⟨p, by simp [hp], he⟩

/-- What the check says of two operations: the later one waits for the earlier one, or they have nothing to do with each other. -/
theorem pair_at (hok : allOK ops (befs ops.toList []) [] rs 0 = true) {i j : Nat} {r s : Rec} (hij : i < j) (hr : rs[i]? = some r) (hs : rs[j]? = some s) : pairOK ops (befs ops.toList []) i r j s = true := by
  have := (allOK_get (pre := []) rfl hok j s hs).1 i r (by omega) (by simpa using hr)
  simpa using this

theorem before_listed (hops : opsAre ops.toList rs) {l : Nat → Bool} (hl : Shut ops l) {i j : Nat} {s : Rec} (hs : rs[j]? = some s) (hb : ((befs ops.toList []).getD j 0).testBit i = true) (hp : ∀ e ∈ s.o.after, Region.binds .any e = true → l e.on = true) : l i = true := by
  have hj : ops[j]? = some s.o := by
    have := (opsAre_get hops).2 j s hs
    rwa [Array.getElem?_toList] at this
  rw [List.getD_eq_getElem?_getD] at hb
  cases hq : (befs ops.toList [])[j]? with
  | none => rw [hq] at hb; simp at hb
  | some m =>
    rw [hq] at hb
    exact befs_spec hl ops.toList [] [] (by simp) rfl (by intro j m hm; simp at hm) j m hq i hb s.o hj hp

theorem draw_any {rd : Option Nat} (hops : opsAre ops.toList rs) (hch : Chain P cx ops rs f0 h0 nx0) (hok : allOK ops (befs ops.toList []) [] rs 0 = true) (hdst : ∀ r ∈ rs, ∀ t, r.o.dst = some t → t < N)
    {Q : Exit → Act → World → Prop} {F0 : FMap} (hQ : ∀ F g a w, FMap.ext cx.base F0 F → SRepF cx N F g (ovr (fun _ => true) (rs.map Rec.fw) 0 f0) (ovr (fun _ => true) (rs.map Rec.hw) 0 h0) (· < nxAt rs nx0 rs.length) a w → Q .normal a w) :
    ∀ (fuel : Nat) (listed : Array Bool) (a : Act) (w : World) (F : FMap) (g : GMap), listed.size = ops.size → Shut ops (lst listed) → left listed ops.size ≤ fuel → FMap.ext cx.base F0 F →
      SRepF cx N F g (ovr (lst listed) (rs.map Rec.fw) 0 f0) (ovr (lst listed) (rs.map Rec.hw) 0 h0) (DS nx0 rs (lst listed)) a w → wpAnyIn (wideAt rd) 0 P .any ops Q fuel listed a w := by
  have hlen : ops.size = rs.length := by
    have := (opsAre_get hops).1
    simpa using this
  have hop : ∀ (j : Nat) (r : Rec), rs[j]? = some r → ops[j]? = some r.o := fun j r hr => by
    have := (opsAre_get hops).2 j r hr
    rwa [Array.getElem?_toList] at this
  have hst := chain_at (pre := []) (k := 0) (f0 := f0) (h0 := h0) (f := f0) (h := h0) rfl rfl rfl hch
  simp only [Nat.zero_add, List.nil_append] at hst
  -- all is listed: the end
  have hend : ∀ (listed : Array Bool) (a : Act) (w : World) (F : FMap) (g : GMap), (∀ i, i < ops.size → listed.getD i true = true) → listed.size = ops.size → FMap.ext cx.base F0 F →
      SRepF cx N F g (ovr (lst listed) (rs.map Rec.fw) 0 f0) (ovr (lst listed) (rs.map Rec.hw) 0 h0) (DS nx0 rs (lst listed)) a w → Q .normal a w := by
    intro listed a w F g hall hsz hF hS
    have hl : ∀ {β : Type} (Ws : List (Nat → Option β)) (i : Nat) (W : Nat → Option β), Ws.length = rs.length → Ws[i]? = some W → lst listed (0 + i) = true := by
      intro β Ws i W hWl hW
      have hi : i < ops.size := by
        have := (List.getElem?_eq_some_iff.1 hW).1
        omega
      have := hall i hi
      rw [Nat.zero_add]
      unfold lst
      rw [Array.getD_eq_getD_getElem?, Array.getElem?_eq_getElem (by omega)] at this ⊢
      exact this
    have e1 : ovr (lst listed) (rs.map Rec.fw) 0 f0 = ovr (fun _ => true) (rs.map Rec.fw) 0 f0 := funext fun t => ovr_congr rfl fun i W hW _ => hl _ i W (by simp) hW
    have e2 : ovr (lst listed) (rs.map Rec.hw) 0 h0 = ovr (fun _ => true) (rs.map Rec.hw) 0 h0 := funext fun t => ovr_congr rfl fun i W hW _ => hl _ i W (by simp) hW
    rw [e1, e2] at hS
    refine hQ F g a w hF ⟨hS.defers, hS.size, hS.fr, hS.heap.monoD fun i hi => ?_, hS.keep, hS.keepW⟩
    rcases hi with hi | ⟨j, r, _, hr, h1, h2⟩
    · exact Nat.lt_of_lt_of_le hi (nxAt_ge _ _ _)
    · have hj := (List.getElem?_eq_some_iff.1 hr).1
      have h3 := nxAt_mono rs nx0 j rs.length hj (Nat.le_refl _) r hr
      have h4 := (hst j r hr).2
      omega
  -- the least one that is not listed is ready
  have hready : ∀ (listed : Array Bool), listed.size = ops.size → Region.ready .any ops listed = [] → ∀ i, i < ops.size → listed.getD i true = true := by
    intro listed hsz hr i
    induction i using Nat.strongRecOn with
    | _ i ih =>
      intro hi
      cases hc : listed.getD i true with
      | true => rfl
      | false =>
        exfalso
        have hrs : ∃ s, rs[i]? = some s := ⟨_, List.getElem?_eq_getElem (by omega)⟩
        obtain ⟨s, hs⟩ := hrs
        have : i ∈ Region.ready .any ops listed := by
          rw [mem_ready]
          refine ⟨hc, s.o, hop i s hs, fun e he hb => ?_⟩
          have hlt := (allOK_get (pre := []) rfl hok i s hs).2 e he hb
          have := ih e.on (by simpa using hlt) (by simp at hlt; omega)
          rw [Array.getD_eq_getD_getElem?, Array.getElem?_eq_getElem (by simp at hlt; omega)] at this ⊢
          exact this
        rw [hr] at this
        cases this
  -- one step
  have hstep : ∀ (listed : Array Bool) (a : Act) (w : World) (F : FMap) (g : GMap) (K : Act → World → Prop) (i : Nat), listed.size = ops.size → Shut ops (lst listed) → FMap.ext cx.base F0 F →
      SRepF cx N F g (ovr (lst listed) (rs.map Rec.fw) 0 f0) (ovr (lst listed) (rs.map Rec.hw) 0 h0) (DS nx0 rs (lst listed)) a w → i ∈ Region.ready .any ops listed →
      (∀ a' w' F' g', Shut ops (lst (listed.setIfInBounds i true)) → FMap.ext cx.base F0 F' →
        SRepF cx N F' g' (ovr (lst (listed.setIfInBounds i true)) (rs.map Rec.fw) 0 f0) (ovr (lst (listed.setIfInBounds i true)) (rs.map Rec.hw) 0 h0) (DS nx0 rs (lst (listed.setIfInBounds i true))) a' w' → K a' w') →
      wpOpIn (wideAt rd) 0 P ops Q i K a w := by
    intro listed a w F g K i hsz hsh hF hS hi hK
    obtain ⟨hun, o, ho, hpre⟩ := mem_ready.1 hi
    have hio : i < ops.size := (Array.getElem?_eq_some_iff.1 ho).1
    obtain ⟨r, hr⟩ : ∃ r, rs[i]? = some r := ⟨_, List.getElem?_eq_getElem (by omega)⟩
    have hro : r.o = o := by
      have := hop i r hr
      rw [ho] at this
      injection this with this
      exact this.symm
    subst hro
    have hnl : lst listed i = false := by
      unfold lst
      rw [Array.getD_eq_getD_getElem?, Array.getElem?_eq_getElem (by omega)] at hun ⊢
      exact hun
    -- another operation that meddles with this one: listed exactly if it stands ahead
    have hmed : ∀ (k : Nat) (s : Rec), rs[k]? = some s → k ≠ i → (r.o.apart ops s.o && idsApart r s) = false ∨ (s.o.apart ops r.o && idsApart s r) = false → (k < i → (s.o.apart ops r.o && idsApart s r) = false → lst listed k = true) ∧ (i < k → (r.o.apart ops s.o && idsApart r s) = false → lst listed k = false) := by
      intro k s hs hki _
      constructor
      · intro hlt hna
        have hp := pair_at hok hlt hs hr
        unfold pairOK at hp
        rw [hna, Bool.or_false] at hp
        exact before_listed hops hsh hr hp fun e he hb => hpre e he hb
      · intro hlt hna
        have hp := pair_at hok hlt hr hs
        unfold pairOK at hp
        rw [hna, Bool.or_false] at hp
        cases hc : lst listed k with
        | false => rfl
        | true =>
          have := before_listed hops hsh hs hp fun e he hb => hsh k s.o (hop k s hs) hc e he hb
          rw [hnl] at this
          cases this
    have hself : ∀ (k : Nat) (s : Rec), rs[k]? = some s → k = i → s = r := fun k s hs hk => by
      subst hk
      rw [hr] at hs
      injection hs with hs
      exact hs.symm
    -- slots that it reads, or writes
    have hslot : ∀ t, (t ∈ r.o.looksAt ops ∨ r.o.dst = some t) → ∀ (k : Nat) (s : Rec), rs[k]? = some s → k ≠ i → s.o.dst = some t → lst listed k = decide (k < i) := by
      intro t ht k s hs hki hd
      have n1 : s.o.apart ops r.o = false := by
        cases hc : s.o.apart ops r.o with
        | false => rfl
        | true =>
          obtain ⟨q1, q2, _⟩ := Oper.apart_spec hc
          rcases ht with ht | ht
          · exact absurd ht (q1 t hd)
          · exact absurd ht (q2 t hd)
      have n2 : r.o.apart ops s.o = false := by
        cases hc : r.o.apart ops s.o with
        | false => rfl
        | true =>
          obtain ⟨_, q2, q3⟩ := Oper.apart_spec hc
          rcases ht with ht | ht
          · exact absurd ht (q3 t hd)
          · exact absurd hd (q2 t ht)
      have hm := hmed k s hs hki (.inl (by rw [n2]; rfl))
      rcases Nat.lt_or_ge k i with hlt | hge
      · rw [hm.1 hlt (by rw [n1]; rfl)]; simp [hlt]
      · have hlt : i < k := by omega
        rw [hm.2 hlt (by rw [n2]; rfl)]; simp; omega
    have hcongF : ∀ t, t ∈ r.o.looksAt ops → ovr (fun k => decide (k < i)) (rs.map Rec.fw) 0 f0 t = ovr (lst listed) (rs.map Rec.fw) 0 f0 t := by
      intro t ht
      refine ovr_congr rfl fun k W hW hsome => ?_
      rw [Nat.zero_add]
      rw [List.getElem?_map] at hW
      obtain ⟨s, hs, rfl⟩ := Option.map_eq_some_iff.1 hW
      have hd : s.o.dst = some t := by
        unfold Rec.fw at hsome
        cases hdst : s.o.dst with
        | none => rw [hdst] at hsome; cases hsome
        | some d =>
          rw [hdst] at hsome
          cases hb : Nat.beq d t with
          | true => rw [Nat.beq_eq] at hb; rw [hb]
          | false => simp only [hb, cond_false] at hsome; cases hsome
      by_cases hki : k = i
      · subst hki
        simp [hnl]
      · exact (hslot t (.inl ht) k s hs hki hd).symm
    -- blocks
    have hblk : ∀ (q k : Nat) (s : Rec), rs[k]? = some s → k ≠ i → (lk s.e.wr q).isSome = true → ((∃ p ∈ r.e.rd, p.1 = q) ∨ (lk r.e.wr q).isSome = true) → lst listed k = decide (k < i) := by
      intro q k s hs hki hw ht
      obtain ⟨p, hp, hpq⟩ := lk_mem hw
      have any_of : ∀ (l : List (Nat × Blk)), (∃ p ∈ l, p.1 = q) → (l.any fun q' => Nat.beq q'.1 p.1) = true := fun l ⟨p', hp', he⟩ => List.any_eq_true.2 ⟨p', hp', by rw [Nat.beq_eq, he, hpq]⟩
      have n1 : idsApart s r = false := by
        cases hc : idsApart s r with
        | false => rfl
        | true =>
          unfold idsApart at hc
          rw [Bool.and_eq_true] at hc
          have := List.all_eq_true.1 hc.1 p hp
          simp only [Bool.and_eq_true, Bool.not_eq_true'] at this
          rcases ht with ht | ht
          · rw [any_of _ ht] at this; cases this.1
          · rw [any_of _ (lk_mem ht)] at this; cases this.2
      have n2 : idsApart r s = false := by
        cases hc : idsApart r s with
        | false => rfl
        | true =>
          unfold idsApart at hc
          rw [Bool.and_eq_true] at hc
          rcases ht with ht | ht
          · have := List.all_eq_true.1 hc.2 p hp
            rw [any_of _ ht] at this; cases this
          · obtain ⟨p', hp', he⟩ := lk_mem ht
            have := List.all_eq_true.1 hc.1 p' hp'
            simp only [Bool.and_eq_true, Bool.not_eq_true'] at this
            have h2 : (s.e.wr.any fun q' => Nat.beq q'.1 p'.1) = true := List.any_eq_true.2 ⟨p, hp, by rw [Nat.beq_eq, hpq, he]⟩
            rw [h2] at this; cases this.2
      have hm := hmed k s hs hki (.inl (by rw [n2, Bool.and_false]))
      rcases Nat.lt_or_ge k i with hlt | hge
      · rw [hm.1 hlt (by rw [n1, Bool.and_false])]; simp [hlt]
      · have hlt : i < k := Nat.lt_of_le_of_ne hge (Ne.symm hki)
        rw [hm.2 hlt (by rw [n2, Bool.and_false])]
        exact (decide_eq_false (Nat.not_lt.2 hge)).symm
    obtain ⟨hs, hnx⟩ := hst i r hr
    -- the step at what is there now
    have hs' : StepF P cx ops (ovr (lst listed) (rs.map Rec.fw) 0 f0) (ovr (lst listed) (rs.map Rec.hw) 0 h0) r := by
      have hguard : ∀ j want t, r.o.guard = some (j, want) → ((ops[j]?).bind (·.dst)) = some t → ovr (fun k => decide (k < i)) (rs.map Rec.fw) 0 f0 t = ovr (lst listed) (rs.map Rec.fw) 0 f0 t := by
        intro j want t hg ht
        refine hcongF t ?_
        unfold Oper.looksAt
        rw [hg]
        simp only [ht]
        simp
      rcases hs with ⟨hg, us, hok', hmem, hev, hrd⟩ | ⟨hg, he⟩
      · refine .inl ⟨?_, us, hok', hmem, allEv_congr ?_ hev, rdAll_congr ?_ hrd⟩
        · unfold guardOn at hg ⊢
          split at hg
          · trivial
          · rename_i j want hgd
            obtain ⟨t, ht, hf⟩ := hg
            exact ⟨t, ht, by rw [← hguard j want t hgd ht]; exact hf⟩
        · intro u hu t hut
          refine hcongF t ?_
          rcases hmem u hu with h | h
          · unfold Oper.looksAt
            refine List.mem_append_left _ (List.mem_filterMap.2 ⟨u.1, h, by rw [hut]⟩)
          · exact absurd hut (h t)
        · intro p hp
          refine ovr_congr rfl fun k W hW hsome => ?_
          rw [Nat.zero_add]
          rw [List.getElem?_map] at hW
          obtain ⟨s, hs2, rfl⟩ := Option.map_eq_some_iff.1 hW
          by_cases hki : k = i
          · subst hki
            simp [hnl]
          · exact (hblk p.1 k s hs2 hki hsome (.inl ⟨p, hp, rfl⟩)).symm
      · refine .inr ⟨?_, he⟩
        obtain ⟨j, want, t, hgd, ht, hf⟩ := hg
        exact ⟨j, want, t, hgd, ht, by rw [← hguard j want t hgd ht]; exact hf⟩
    have hset : ∀ k, lst (listed.setIfInBounds i true) k = if k = i then true else lst listed k := by
      intro k
      unfold lst
      by_cases hki : k = i
      · subst hki
        rw [if_pos rfl, Array.getD_eq_getD_getElem?, Array.getElem?_setIfInBounds_self_of_lt (by omega)]
        rfl
      · rw [if_neg hki, Array.getD_eq_getD_getElem?, Array.getElem?_setIfInBounds_ne (Ne.symm hki), Array.getD_eq_getD_getElem?]
    have hshut' : Shut ops (lst (listed.setIfInBounds i true)) := by
      intro j o hj hl e he hb
      rw [hset] at hl ⊢
      split
      · rfl
      · split at hl
        · rename_i hji
          subst hji
          have : o = r.o := by rw [ho] at hj; injection hj with hj; exact hj.symm
          subst this
          exact hpre e he hb
        · exact hsh j o hj hl e he hb
    unfold wpOpIn
    simp only [ho]
    refine step_run hs' (hdst r (List.mem_of_getElem? hr)) hS ?_ ?_
    · intro m hm hD
      rcases hD with hD | ⟨k, s, hlk, hs2, h1, h2⟩
      · have := nxAt_ge rs nx0 i
        omega
      · have hsn := (hst k s hs2).2
        have hkl := (List.getElem?_eq_some_iff.1 hs2).1
        rcases Nat.lt_trichotomy k i with hlt | heq | hgt
        · have := nxAt_mono rs nx0 k i hlt (by omega) s hs2
          omega
        · subst heq
          rw [hnl] at hlk
          cases hlk
        · have := nxAt_mono rs nx0 i k hgt (by omega) r hr
          omega
    · intro F' g' a' w' hF' hS'
      refine hK a' w' F' g' hshut' (hF.trans hF' (Nat.le_refl _)) ?_
      have ovr_next : ∀ {β : Type} (m : Rec → Nat → Option β) (z : Nat → Option β) (t : Nat), (∀ (k : Nat) (s : Rec), rs[k]? = some s → k ≠ i → (m s t).isSome = true → (m r t).isSome = true → lst listed k = decide (k < i)) →
          ovr (lst (listed.setIfInBounds i true)) (rs.map m) 0 z t = over (m r t) (ovr (lst listed) (rs.map m) 0 z t) := by
        intro β m z t hmm
        cases hv : m r t with
        | some v =>
          simp only [over_some]
          refine ovr_some (i := i) (W := m r) (by rw [List.getElem?_map, hr]; rfl) hv (by rw [Nat.zero_add, hset, if_pos rfl]) fun k W' hk hW' hsome => ?_
          rw [Nat.zero_add, hset, if_neg (by omega)]
          rw [List.getElem?_map] at hW'
          obtain ⟨s, hs2, rfl⟩ := Option.map_eq_some_iff.1 hW'
          rw [hmm k s hs2 (by omega) hsome (by rw [hv]; rfl)]
          simp; omega
        | none =>
          simp only [over_none]
          refine ovr_congr rfl fun k W hW hsome => ?_
          rw [Nat.zero_add, hset]
          rw [List.getElem?_map] at hW
          obtain ⟨s, hs2, rfl⟩ := Option.map_eq_some_iff.1 hW
          split
          · rename_i hki
            rw [hself k s hs2 hki, hv] at hsome
            cases hsome
          · rfl
      have dst_of : ∀ (s : Rec) (t : Nat), (s.fw t).isSome = true → s.o.dst = some t := by
        intro s t hsome
        unfold Rec.fw at hsome
        cases hdst : s.o.dst with
        | none => rw [hdst] at hsome; cases hsome
        | some d =>
          rw [hdst] at hsome
          cases hb : Nat.beq d t with
          | true => rw [Nat.beq_eq] at hb; rw [hb]
          | false => simp only [hb, cond_false] at hsome; cases hsome
      refine ⟨hS'.defers, hS'.size, ?_, ?_, hS'.keep, hS'.keepW⟩
      · intro t v hv
        rw [ovr_next Rec.fw f0 t fun k s hs2 hki h1 h2 => hslot t (.inr (dst_of r t h2)) k s hs2 hki (dst_of s t h1)] at hv
        exact hS'.fr t v hv
      · refine (hS'.heap.congr fun q => ?_).monoD fun q hq => ?_
        · rw [ovr_next Rec.hw h0 q fun k s hs2 hki h1 h2 => hblk q k s hs2 hki h1 (.inr h2)]
          rfl
        · rcases hq with hq | ⟨h1, h2⟩
          · rcases hq with hq | ⟨k, s, hlk, hs2, h1, h2⟩
            · exact .inl hq
            · refine .inr ⟨k, s, ?_, hs2, h1, h2⟩
              rw [hset]
              split
              · rfl
              · exact hlk
          · exact .inr ⟨i, r, by rw [hset, if_pos rfl], hr, h1, h2⟩
  intro fuel
  induction fuel with
  | zero =>
    intro listed a w F g hsz hsh hleft hF hS
    have hall := left_zero (listed := listed) (k := ops.size) (by omega)
    refine ⟨?_, hend listed a w F g hall hsz hF hS⟩
    cases hr : Region.ready .any ops listed with
    | nil => rfl
    | cons i l =>
      have hi : i ∈ Region.ready .any ops listed := by rw [hr]; simp
      obtain ⟨hun, o, ho, _⟩ := mem_ready.1 hi
      have := hall i (Array.getElem?_eq_some_iff.1 ho).1
      rw [hun] at this
      cases this
  | succ fuel ih =>
    intro listed a w F g hsz hsh hleft hF hS
    refine ⟨fun hr => hend listed a w F g (hready listed hsz hr) hsz hF hS, fun i hi => ?_⟩
    refine hstep listed a w F g _ i hsz hsh hF hS hi fun a' w' F' g' hsh' hF' hS' => ?_
    obtain ⟨hun, o, ho, _⟩ := mem_ready.1 hi
    have hio : i < ops.size := (Array.getElem?_eq_some_iff.1 ho).1
    have hl := left_set hun ops.size
    rw [if_pos hio] at hl
    exact ih _ a' w' F' g' (by simpa using hsz) hsh' (by omega) hF' hS'

end
end Go.Proofs.Gh
end
