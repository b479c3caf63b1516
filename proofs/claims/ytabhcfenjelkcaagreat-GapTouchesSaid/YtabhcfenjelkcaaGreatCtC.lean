/-
  Contracts: points and directions.
  Contracts: cross, dot, Move, Norm.
  Contracts: Norm of a side of an integer length.
  Contracts: Area, Vec, Shape.
  Contracts: Shape.
  Rational numbers of bounded size.
  Contracts: Dot, Has.
  Contracts: slices.IndexFunc, ContainsFunc over points.
  Contracts: Valid, of shapes that are valid.
  Contracts: Most.
-/
import Derived.Test.YtabhcfenjelkcaaGreatCtB
section
set_option linter.unusedVariables false
set_option linter.unusedSimpArgs false
set_option maxRecDepth 4000
namespace Go.Proofs.Gh.Tryz
open Go Go.Proofs Go.Proofs.Gh

/-- A point; a direction: X, Y, H; an edge: its direction, At. -/
abbrev Pt := Int × Int
abbrev Dr := Int × Int × Int
abbrev Ed := Dr × Int
def eP (p : Pt) : List FV := [.int .i64 p.1, .int .i64 p.2]
def eD (d : Dr) : List FV := [.int .i64 d.1, .int .i64 d.2.1, .int .i64 d.2.2]
def eE (e : Ed) : List FV := [.int .i64 e.1.1, .int .i64 e.1.2.1, .int .i64 e.1.2.2, .int .i64 e.2]
abbrev pP (p : Pt) : PV := .agg (eP p)
abbrev pD (d : Dr) : PV := .agg (eD d)
abbrev pE (e : Ed) : PV := .agg (eE e)
abbrev pPs (l : List Pt) : PV := .cell (.sl l.length (fR eP l))
abbrev pEs (l : List Ed) : PV := .cell (.sl l.length (fR eE l))

section
variable {P : Program} {cx : Cx} {d : Option Tmp} {ty : TypeId} {ps : String} {af : Array Edge} {gd : Option (Nat × Bool)} {nx : Nat} {fr : Fr} {H : Hp} {X Y : Operand} {T T' : TypeId}
theorem st_eql_P {a b a' b' : Int} (hs : isScal P T = false) (hg : P.eqGuardType P.depth T = false) (he : ∀ a0 b0 a1 b1 : Int, eqT P 100 T [.int .i64 a0, .int .i64 a1] [.int .i64 b0, .int .i64 b1] = some ((a0 == b0) && ((a1 == b1) && true))) (h : ev fr X = some (.agg [.int .i64 a, .int .i64 b])) (h1 : ev fr Y = some (.agg [.int .i64 a', .int .i64 b'])) :
    Stp P cx ⟨d, .binOp .eql T X Y T', ty, ps, af, gd⟩ fr H nx ⟨.cell (.bool (decide (((a, b) : Pt) = (a', b')))), [], [], 0⟩ := by
  have e : ((a == a') && ((b == b') && true)) = decide (((a, b) : Pt) = (a', b')) := by rw [Bool.eq_iff_iff]; simp
  rw [← e]
  exact st_eql_a hs hg h h1 (he _ _ _ _)
theorem st_neq_P {a b a' b' : Int} (hs : isScal P T = false) (hg : P.eqGuardType P.depth T = false) (he : ∀ a0 b0 a1 b1 : Int, eqT P 100 T [.int .i64 a0, .int .i64 a1] [.int .i64 b0, .int .i64 b1] = some ((a0 == b0) && ((a1 == b1) && true))) (h : ev fr X = some (.agg [.int .i64 a, .int .i64 b])) (h1 : ev fr Y = some (.agg [.int .i64 a', .int .i64 b'])) :
    Stp P cx ⟨d, .binOp .neq T X Y T', ty, ps, af, gd⟩ fr H nx ⟨.cell (.bool (decide (((a, b) : Pt) ≠ (a', b')))), [], [], 0⟩ := by
  have e : (!((a == a') && ((b == b') && true))) = decide (((a, b) : Pt) ≠ (a', b')) := by rw [Bool.eq_iff_iff]; simp
  rw [← e]
  exact st_neq_a hs hg h h1 (he _ _ _ _)
theorem st_eql_D {a b c a' b' c' : Int} (hs : isScal P T = false) (hg : P.eqGuardType P.depth T = false) (he : ∀ a0 b0 a1 b1 a2 b2 : Int, eqT P 100 T [.int .i64 a0, .int .i64 a1, .int .i64 a2] [.int .i64 b0, .int .i64 b1, .int .i64 b2] = some ((a0 == b0) && ((a1 == b1) && ((a2 == b2) && true)))) (h : ev fr X = some (.agg [.int .i64 a, .int .i64 b, .int .i64 c])) (h1 : ev fr Y = some (.agg [.int .i64 a', .int .i64 b', .int .i64 c'])) :
    Stp P cx ⟨d, .binOp .eql T X Y T', ty, ps, af, gd⟩ fr H nx ⟨.cell (.bool (decide (((a, b, c) : Dr) = (a', b', c')))), [], [], 0⟩ := by
  have e : ((a == a') && ((b == b') && ((c == c') && true))) = decide (((a, b, c) : Dr) = (a', b', c')) := by rw [Bool.eq_iff_iff]; simp
  rw [← e]
  exact st_eql_a hs hg h h1 (he _ _ _ _ _ _)
theorem st_neq_D {a b c a' b' c' : Int} (hs : isScal P T = false) (hg : P.eqGuardType P.depth T = false) (he : ∀ a0 b0 a1 b1 a2 b2 : Int, eqT P 100 T [.int .i64 a0, .int .i64 a1, .int .i64 a2] [.int .i64 b0, .int .i64 b1, .int .i64 b2] = some ((a0 == b0) && ((a1 == b1) && ((a2 == b2) && true)))) (h : ev fr X = some (.agg [.int .i64 a, .int .i64 b, .int .i64 c])) (h1 : ev fr Y = some (.agg [.int .i64 a', .int .i64 b', .int .i64 c'])) :
    Stp P cx ⟨d, .binOp .neq T X Y T', ty, ps, af, gd⟩ fr H nx ⟨.cell (.bool (decide (((a, b, c) : Dr) ≠ (a', b', c')))), [], [], 0⟩ := by
  have e : (!((a == a') && ((b == b') && ((c == c') && true)))) = decide (((a, b, c) : Dr) ≠ (a', b', c')) := by rw [Bool.eq_iff_iff]; simp
  rw [← e]
  exact st_neq_a hs hg h h1 (he _ _ _ _ _ _)
theorem st_eql_E {a b c t a' b' c' t' : Int} (hs : isScal P T = false) (hg : P.eqGuardType P.depth T = false) (he : ∀ a0 b0 a1 b1 a2 b2 a3 b3 : Int, eqT P 100 T [.int .i64 a0, .int .i64 a1, .int .i64 a2, .int .i64 a3] [.int .i64 b0, .int .i64 b1, .int .i64 b2, .int .i64 b3] = some (((a0 == b0) && ((a1 == b1) && ((a2 == b2) && true))) && ((a3 == b3) && true))) (h : ev fr X = some (.agg [.int .i64 a, .int .i64 b, .int .i64 c, .int .i64 t])) (h1 : ev fr Y = some (.agg [.int .i64 a', .int .i64 b', .int .i64 c', .int .i64 t'])) :
    Stp P cx ⟨d, .binOp .eql T X Y T', ty, ps, af, gd⟩ fr H nx ⟨.cell (.bool (decide ((((a, b, c), t) : Ed) = ((a', b', c'), t')))), [], [], 0⟩ := by
  have e : (((a == a') && ((b == b') && ((c == c') && true))) && ((t == t') && true)) = decide ((((a, b, c), t) : Ed) = ((a', b', c'), t')) := by rw [Bool.eq_iff_iff]; simp
  rw [← e]
  exact st_eql_a hs hg h h1 (he _ _ _ _ _ _ _ _)
theorem st_neq_E {a b c t a' b' c' t' : Int} (hs : isScal P T = false) (hg : P.eqGuardType P.depth T = false) (he : ∀ a0 b0 a1 b1 a2 b2 a3 b3 : Int, eqT P 100 T [.int .i64 a0, .int .i64 a1, .int .i64 a2, .int .i64 a3] [.int .i64 b0, .int .i64 b1, .int .i64 b2, .int .i64 b3] = some (((a0 == b0) && ((a1 == b1) && ((a2 == b2) && true))) && ((a3 == b3) && true))) (h : ev fr X = some (.agg [.int .i64 a, .int .i64 b, .int .i64 c, .int .i64 t])) (h1 : ev fr Y = some (.agg [.int .i64 a', .int .i64 b', .int .i64 c', .int .i64 t'])) :
    Stp P cx ⟨d, .binOp .neq T X Y T', ty, ps, af, gd⟩ fr H nx ⟨.cell (.bool (decide ((((a, b, c), t) : Ed) ≠ ((a', b', c'), t')))), [], [], 0⟩ := by
  have e : (!(((a == a') && ((b == b') && ((c == c') && true))) && ((t == t') && true))) = decide ((((a, b, c), t) : Ed) ≠ ((a', b', c'), t')) := by rw [Bool.eq_iff_iff]; simp; grind
  rw [← e]
  exact st_neq_a hs hg h h1 (he _ _ _ _ _ _ _ _)
end

def around (n m : Int) : Int := (if n < 0 then -(n + 1) else n) % m
theorem around_lt (n : Int) {m : Int} (h : 0 < m) : 0 ≤ around n m ∧ around n m < m := ⟨Int.emod_nonneg _ (by omega), Int.emod_lt_of_pos _ h⟩
def at' (l : List Int) (i : Nat) (m : Int) : Int := if i < l.length then around (l.getD i 0) m else 0
theorem at_lt (l : List Int) (i : Nat) {m : Int} (h : 0 < m) : 0 ≤ at' l i m ∧ at' l i m < m := by
  unfold at'
  split
  · exact around_lt _ h
  · omega

theorem k_Around (n m : Int) (h : 0 < m) (h1 : -9223372036854775808 ≤ n) (h2 : n ≤ 9223372036854775807) : PureC Tryz.prog 33 [pI n, pI m] (pI (around n m)) := by
  refine PureC.of Tryz.func33 rfl Tryz.ntmps33 (vs := [.tmp 4]) rfl (Nat.le_of_ble_eq_true rfl) rfl fun cx _ _ => ?_
  refine AWP.seq ?_
  refine AWP.region ?_
  refine OPS.p rfl (st_assign rfl) ?_
  refine OPS.nil ?_
  refine AWP.seq ?_
  refine AWP.mono (n := fun s' => ∃ zz : Int, SubR (loOf cx) s' ((fun (zz : Int) => ⟨[(0, pI zz), (1, pI m)], [], 0⟩) zz) ∧ (fun (zz : Int) => 0 ≤ zz ∧ zz = (if n < 0 then -(n + 1) else n)) zz) ?_ ?_
  · refine AWP.seq ?_
    refine AWP.region ?_
    refine OPS.p rfl (st_move rfl) ?_
    refine OPS.p rfl (st_lss rfl rfl) ?_
    refine OPS.nil ?_
    refine AWP.condD rfl (fun hc1 => ?_) (fun hc1 => ?_)
    · refine AWP.region ?_
      refine OPS.p rfl (st_move rfl) ?_
      refine OPS.p rfl (by exact st_add_i rfl rfl (by omega) (by omega)) ?_
      refine OPS.p rfl (by exact st_neg_i rfl (by omega) (by omega)) ?_
      refine OPS.p rfl (st_assign rfl) ?_
      refine OPS.nil ?_
      refine ⟨(-(n + 1)), (Sub.r (Sub.mk' ⟨(by rfl), (by rfl), trivial⟩ trivial (by exact Nat.le_refl _))), ?_⟩
      try dsimp only
      rw [if_pos hc1]; omega
    · refine AWP.skip ?_
      refine ⟨(n), (Sub.r (Sub.mk' ⟨(by rfl), (by rfl), trivial⟩ trivial (by exact Nat.le_refl _))), ?_⟩
      try dsimp only
      rw [if_neg hc1]; omega
  · rintro s' ⟨k, hsub, hinv⟩
    have hinv : 0 ≤ k ∧ k = (if n < 0 then -(n + 1) else n) := hinv
    obtain ⟨k0, k1⟩ := id hinv
    refine AWP.subR hsub ?_
    show AWP _ _ _ _ _ _ _ ⟨[(0, pI k), (1, pI m)], [], 0⟩
    refine AWP.seq ?_
    refine AWP.region ?_
    refine OPS.p rfl (st_move rfl) ?_
    refine OPS.p rfl (st_move rfl) ?_
    refine OPS.p rfl (by exact st_rem_i rfl rfl (by omega) (by omega)) ?_
    refine OPS.p rfl (st_assign rfl) ?_
    refine OPS.nil ?_
    refine AWP.ret ?_
    exact Ret.mk rfl (by rw [around, ← k1])

theorem k_At (l : List Int) (i : Nat) (m : Int) (h : 0 < m) (hl : ∀ n ∈ l, -9223372036854775808 ≤ n ∧ n ≤ 9223372036854775807) : PureC Tryz.prog 63 [pL l, pI i, pI m] (pI (at' l i m)) := by
  have hb : -9223372036854775808 ≤ l.getD i 0 ∧ l.getD i 0 ≤ 9223372036854775807 := by
    rw [List.getD_eq_getElem?_getD]
    cases hi : l[i]? with
    | none => simp
    | some d => exact hl d (List.mem_of_getElem? hi)
  refine PureC.of Tryz.func63 rfl Tryz.ntmps63 (vs := [.tmp 6]) rfl (Nat.le_of_ble_eq_true rfl) rfl fun cx _ _ => ?_
  refine AWP.seq ?_
  refine AWP.region ?_
  refine OPS.p rfl (st_assign rfl) ?_
  refine OPS.nil ?_
  refine AWP.seq ?_
  refine AWP.seq ?_
  refine AWP.region ?_
  refine OPS.p rfl (st_move rfl) ?_
  refine OPS.p rfl (st_lss rfl rfl) ?_
  refine OPS.p rfl (st_move rfl) ?_
  refine OPS.pG rfl rfl rfl ((decide_eq_false (by omega))) (st_move rfl) ?_
  refine OPS.pG rfl rfl rfl ((decide_eq_false (by omega))) (st_move rfl) ?_
  refine OPS.pG rfl rfl rfl ((decide_eq_false (by omega))) (st_len un22 rfl rfl) ?_
  refine OPS.pG rfl rfl rfl ((decide_eq_false (by omega))) (st_geq rfl rfl) ?_
  refine OPS.p rfl (st_pickF rfl ((decide_eq_false (by omega))) rfl) ?_
  refine OPS.nil ?_
  refine AWP.condD rfl (fun hc1 => ?_) (fun hc1 => ?_)
  · refine AWP.seq ?_
    refine AWP.region ?_
    refine OPS.p rfl (st_assign rfl) ?_
    refine OPS.nil ?_
    refine AWP.ret ?_
    exact Ret.mk rfl (by rw [at', if_neg (by omega)])
  · refine AWP.skip ?_
    refine AWP.seq ?_
    refine AWP.region ?_
    refine OPS.p rfl (st_move rfl) ?_
    refine OPS.p rfl (st_move rfl) ?_
    refine OPS.p rfl (by exact st_index_I es22 rfl rfl (by omega) (by omega) (by rfl)) ?_
    refine OPS.p rfl (by exact st_load_In sc3 rfl rfl (by omega)) ?_
    refine OPS.p rfl (st_move rfl) ?_
    refine OPS.p rfl (st_call (L := [((.tmp 18), _), ((.tmp 19), _)]) false pl33 ⟨rfl, rfl, trivial⟩ rfl (k_Around (l.getD i 0) m h hb.1 hb.2) rfl) ?_
    refine OPS.p rfl (st_assign rfl) ?_
    refine OPS.nil ?_
    refine AWP.ret ?_
    exact Ret.mk rfl (by rw [at', if_pos (by omega)])

/-- The corner behind. -/
def nxt (l : List Pt) (i : Nat) : Pt := if i + 1 < l.length then l.getD (i + 1) default else l.getD 0 default

theorem k_Next (l : List Pt) (i : Nat) (h : i < l.length) (hl : l.length ≤ 1000000) : PureC Tryz.prog 187 [pPs l, pI i] (pP (nxt l i)) := by
  refine PureC.of Tryz.func187 rfl Tryz.ntmps187 (vs := [.cell 4 148]) rfl (Nat.le_of_ble_eq_true rfl) rfl fun cx _ _ => ?_
  refine AWP.seq ?_
  refine AWP.region ?_
  refine OPS.a rfl (st_alloc ze148) ?_
  refine OPS.nil ?_
  refine AWP.seq ?_
  refine AWP.seq ?_
  refine AWP.region ?_
  refine OPS.p rfl (st_move rfl) ?_
  refine OPS.p rfl (by exact st_add_i rfl rfl (by omega) (by omega)) ?_
  refine OPS.p rfl (st_move rfl) ?_
  refine OPS.p rfl (st_len un66 rfl rfl) ?_
  refine OPS.p rfl (st_lss rfl rfl) ?_
  refine OPS.nil ?_
  refine AWP.condD rfl (fun hc1 => ?_) (fun hc1 => ?_)
  · refine AWP.seq ?_
    refine AWP.region ?_
    refine OPS.p rfl (st_move rfl) ?_
    refine OPS.p rfl (st_move rfl) ?_
    refine OPS.p rfl (by exact st_add_i rfl rfl (by omega) (by omega)) ?_
    refine OPS.p rfl (by exact st_index_R es66 rfl rfl (fun _ => rfl) rfl (by omega) (by omega) (by rfl)) ?_
    refine OPS.p rfl (by exact st_load_Rn ag148 rfl (fun _ => rfl) rfl (by (simp; omega))) ?_
    refine OPS.s (by exact st_store_v sz148 rfl rfl rfl rfl rfl rfl) ?_
    refine OPS.nil ?_
    refine AWP.ret ?_
    refine Ret.mk rfl ?_
    rw [nxt, if_pos (by omega)]
    rfl
  · refine AWP.skip ?_
    refine AWP.seq ?_
    refine AWP.region ?_
    refine OPS.p rfl (st_move rfl) ?_
    refine OPS.p rfl (by exact st_index_R es66 rfl rfl (fun _ => rfl) rfl (by omega) (by omega) (by rfl)) ?_
    refine OPS.p rfl (by exact st_load_Rn ag148 rfl (fun _ => rfl) rfl (by (simp; omega))) ?_
    refine OPS.s (by exact st_store_v sz148 rfl rfl rfl rfl rfl rfl) ?_
    refine OPS.nil ?_
    refine AWP.ret ?_
    refine Ret.mk rfl ?_
    rw [nxt, if_neg (by omega)]
    rfl

theorem k_next (l : List Pt) (i : Nat) (h : i < l.length) (hl : l.length ≤ 1000000) : PureC Tryz.prog 167 [pPs l, pI i] (pP (nxt l i)) := by
  have e : l.getD (((i : Int) + 1) % l.length).toNat default = nxt l i := by
    unfold nxt
    by_cases hi : i + 1 < l.length
    · rw [if_pos hi, Int.emod_eq_of_lt (by omega) (by omega)]; rfl
    · rw [if_neg hi, show (i : Int) + 1 = l.length by omega, Int.emod_self]; rfl
  have hm0 : 0 ≤ ((i : Int) + 1) % l.length := Int.emod_nonneg _ (by omega)
  have hm1 : ((i : Int) + 1) % l.length < l.length := Int.emod_lt_of_pos _ (by omega)
  refine PureC.of Tryz.func167 rfl Tryz.ntmps167 (vs := [.cell 4 148]) rfl (Nat.le_of_ble_eq_true rfl) rfl fun cx _ _ => ?_
  refine AWP.seq ?_
  refine AWP.region ?_
  refine OPS.a rfl (st_alloc ze148) ?_
  refine OPS.nil ?_
  refine AWP.seq ?_
  refine AWP.region ?_
  refine OPS.p rfl (st_move rfl) ?_
  refine OPS.p rfl (st_move rfl) ?_
  refine OPS.p rfl (by exact st_add_i rfl rfl (by omega) (by omega)) ?_
  refine OPS.p rfl (st_move rfl) ?_
  refine OPS.p rfl (st_len un66 rfl rfl) ?_
  refine OPS.p rfl (by exact st_rem_i rfl rfl (by omega) (by omega)) ?_
  refine OPS.p rfl (by exact st_index_R es66 rfl rfl (fun _ => rfl) rfl (by omega) (by omega) (by rfl)) ?_
  refine OPS.p rfl (st_load_R ag148 rfl (fun _ => rfl) hm0 hm1) ?_
  refine OPS.s (by exact st_store_v sz148 rfl rfl rfl rfl rfl rfl) ?_
  refine OPS.nil ?_
  refine AWP.ret ?_
  refine Ret.mk rfl ?_
  rw [← e]
  rfl

def turn (d : Dr) : Dr := (-d.1, -d.2.1, d.2.2)
theorem k_Turn (d : Dr) (h : -1000000000 ≤ d.1 ∧ d.1 ≤ 1000000000) (h' : -1000000000 ≤ d.2.1 ∧ d.2.1 ≤ 1000000000) : PureC Tryz.prog 248 [pD d] (pD (turn d)) := by
  refine PureC.of Tryz.func248 rfl Tryz.ntmps248 (vs := [.cell 2 81]) rfl (Nat.le_of_ble_eq_true rfl) rfl fun cx _ _ => ?_
  refine AWP.seq ?_
  refine AWP.region ?_
  refine OPS.a rfl (st_box rfl rfl) ?_
  refine OPS.a rfl (st_alloc ze81) ?_
  refine OPS.nil ?_
  refine AWP.seq ?_
  refine AWP.region ?_
  refine OPS.p rfl (by exact st_field_p off81_0 rfl) ?_
  refine OPS.p rfl (by exact st_load_vs sc3 rfl rfl rfl) ?_
  refine OPS.p rfl (by exact st_neg_i rfl (by omega) (by omega)) ?_
  refine OPS.p rfl (by exact st_field_p off81_1 rfl) ?_
  refine OPS.p rfl (by exact st_load_vs sc3 rfl rfl rfl) ?_
  refine OPS.p rfl (by exact st_neg_i rfl (by omega) (by omega)) ?_
  refine OPS.p rfl (by exact st_field_p off81_2 rfl) ?_
  refine OPS.p rfl (by exact st_load_vs sc3 rfl rfl rfl) ?_
  refine OPS.p rfl (st_build (L := [(0, (.tmp 5), _), (1, (.tmp 8), _), (2, (.tmp 10), _)]) zf81 pl_81 ⟨rfl, rfl, rfl, trivial⟩ rfl rfl) ?_
  refine OPS.s (by exact st_store_v sz81 rfl rfl rfl rfl rfl rfl) ?_
  refine OPS.nil ?_
  refine AWP.ret ?_
  exact Ret.mk rfl rfl
theorem k_turned (d : Dr) (h : -1000000000 ≤ d.1 ∧ d.1 ≤ 1000000000) (h' : -1000000000 ≤ d.2.1 ∧ d.2.1 ≤ 1000000000) : PureC Tryz.prog 165 [pD d] (pD (turn d)) := by
  refine PureC.of Tryz.func165 rfl Tryz.ntmps165 (vs := [.cell 2 81]) rfl (Nat.le_of_ble_eq_true rfl) rfl fun cx _ _ => ?_
  refine AWP.seq ?_
  refine AWP.region ?_
  refine OPS.a rfl (st_box rfl rfl) ?_
  refine OPS.a rfl (st_alloc ze81) ?_
  refine OPS.nil ?_
  refine AWP.seq ?_
  refine AWP.region ?_
  refine OPS.p rfl (by exact st_field_p off81_0 rfl) ?_
  refine OPS.p rfl (by exact st_load_vs sc3 rfl rfl rfl) ?_
  refine OPS.p rfl (by exact st_neg_i rfl (by omega) (by omega)) ?_
  refine OPS.p rfl (by exact st_field_p off81_1 rfl) ?_
  refine OPS.p rfl (by exact st_load_vs sc3 rfl rfl rfl) ?_
  refine OPS.p rfl (by exact st_neg_i rfl (by omega) (by omega)) ?_
  refine OPS.p rfl (by exact st_field_p off81_2 rfl) ?_
  refine OPS.p rfl (by exact st_load_vs sc3 rfl rfl rfl) ?_
  refine OPS.p rfl (st_build (L := [(0, (.tmp 5), _), (1, (.tmp 8), _), (2, (.tmp 10), _)]) zf81 pl_81 ⟨rfl, rfl, rfl, trivial⟩ rfl rfl) ?_
  refine OPS.s (by exact st_store_v sz81 rfl rfl rfl rfl rfl rfl) ?_
  refine OPS.nil ?_
  refine AWP.ret ?_
  exact Ret.mk rfl rfl
end Go.Proofs.Gh.Tryz
end
section
set_option linter.unusedVariables false
set_option linter.unusedSimpArgs false
set_option maxRecDepth 4000
namespace Go.Proofs.Gh.Tryz
open Go Go.Proofs Go.Proofs.Gh

theorem mb {a b M : Int} (ha : -M ≤ a ∧ a ≤ M) (hb : -M ≤ b ∧ b ≤ M) : -(M * M) ≤ a * b ∧ a * b ≤ M * M := by
  have h := Nat.mul_le_mul (show a.natAbs ≤ M.natAbs by omega) (show b.natAbs ≤ M.natAbs by omega)
  have h1 : ((M.natAbs * M.natAbs : Nat) : Int) = M * M := by rw [Int.natCast_mul, show (M.natAbs : Int) = M by omega]
  rw [← Int.natAbs_mul] at h
  omega
/-- Small coordinates. -/
def Sp (p : Pt) : Prop := -100000 ≤ p.1 ∧ p.1 ≤ 100000 ∧ -100000 ≤ p.2 ∧ p.2 ≤ 100000
def Sd (d : Dr) : Prop := -100000 ≤ d.1 ∧ d.1 ≤ 100000 ∧ -100000 ≤ d.2.1 ∧ d.2.1 ≤ 100000
def cross (a b c : Pt) : Int := (b.1 - a.1) * (c.2 - a.2) - (b.2 - a.2) * (c.1 - a.1)
def dot (d : Dr) (p : Pt) : Int := d.1 * p.1 + d.2.1 * p.2

theorem k_cross (a b c : Pt) (ha : Sp a) (hb : Sp b) (hc : Sp c) : PureC Tryz.prog 172 [pP a, pP b, pP c] (pI (cross a b c)) := by
  obtain ⟨a1, a2, a3, a4⟩ := ha
  obtain ⟨b1, b2, b3, b4⟩ := hb
  obtain ⟨c1, c2, c3, c4⟩ := hc
  have h1 := mb (a := b.1 - a.1) (b := c.2 - a.2) (M := 200000) (by omega) (by omega)
  have h2 := mb (a := b.2 - a.2) (b := c.1 - a.1) (M := 200000) (by omega) (by omega)
  refine PureC.of Tryz.func172 rfl Tryz.ntmps172 (vs := [.tmp 6]) rfl (Nat.le_of_ble_eq_true rfl) rfl fun cx _ _ => ?_
  refine AWP.seq ?_
  refine AWP.region ?_
  refine OPS.a rfl (st_box rfl rfl) ?_
  refine OPS.a rfl (st_box rfl rfl) ?_
  refine OPS.a rfl (st_box rfl rfl) ?_
  refine OPS.p rfl (st_assign rfl) ?_
  refine OPS.nil ?_
  refine AWP.seq ?_
  refine AWP.region ?_
  refine OPS.p rfl (by exact st_field_p off148_0 rfl) ?_
  refine OPS.p rfl (by exact st_load_vs sc3 rfl rfl rfl) ?_
  refine OPS.p rfl (by exact st_field_p off148_0 rfl) ?_
  refine OPS.p rfl (by exact st_load_vs sc3 rfl rfl rfl) ?_
  refine OPS.p rfl (by exact st_sub_i rfl rfl (by omega) (by omega)) ?_
  refine OPS.p rfl (by exact st_field_p off148_1 rfl) ?_
  refine OPS.p rfl (by exact st_load_vs sc3 rfl rfl rfl) ?_
  refine OPS.p rfl (by exact st_field_p off148_1 rfl) ?_
  refine OPS.p rfl (by exact st_load_vs sc3 rfl rfl rfl) ?_
  refine OPS.p rfl (by exact st_sub_i rfl rfl (by omega) (by omega)) ?_
  refine OPS.p rfl (by exact st_mul_i rfl rfl (by omega) (by omega)) ?_
  refine OPS.p rfl (by exact st_field_p off148_1 rfl) ?_
  refine OPS.p rfl (by exact st_load_vs sc3 rfl rfl rfl) ?_
  refine OPS.p rfl (by exact st_field_p off148_1 rfl) ?_
  refine OPS.p rfl (by exact st_load_vs sc3 rfl rfl rfl) ?_
  refine OPS.p rfl (by exact st_sub_i rfl rfl (by omega) (by omega)) ?_
  refine OPS.p rfl (by exact st_field_p off148_0 rfl) ?_
  refine OPS.p rfl (by exact st_load_vs sc3 rfl rfl rfl) ?_
  refine OPS.p rfl (by exact st_field_p off148_0 rfl) ?_
  refine OPS.p rfl (by exact st_load_vs sc3 rfl rfl rfl) ?_
  refine OPS.p rfl (by exact st_sub_i rfl rfl (by omega) (by omega)) ?_
  refine OPS.p rfl (by exact st_mul_i rfl rfl (by omega) (by omega)) ?_
  refine OPS.p rfl (by exact st_sub_i rfl rfl (by omega) (by omega)) ?_
  refine OPS.p rfl (st_assign rfl) ?_
  refine OPS.nil ?_
  refine AWP.ret ?_
  exact Ret.mk rfl rfl

theorem k_dot (d : Dr) (p : Pt) (hd : Sd d) (hp : Sp p) : PureC Tryz.prog 250 [pD d, pP p] (pI (dot d p)) := by
  obtain ⟨a1, a2, a3, a4⟩ := hd
  obtain ⟨b1, b2, b3, b4⟩ := hp
  have h1 := mb (a := d.1) (b := p.1) (M := 100000) (by omega) (by omega)
  have h2 := mb (a := d.2.1) (b := p.2) (M := 100000) (by omega) (by omega)
  refine PureC.of Tryz.func250 rfl Tryz.ntmps250 (vs := [.tmp 4]) rfl (Nat.le_of_ble_eq_true rfl) rfl fun cx _ _ => ?_
  refine AWP.seq ?_
  refine AWP.region ?_
  refine OPS.a rfl (st_box rfl rfl) ?_
  refine OPS.a rfl (st_box rfl rfl) ?_
  refine OPS.p rfl (st_assign rfl) ?_
  refine OPS.nil ?_
  refine AWP.seq ?_
  refine AWP.region ?_
  refine OPS.p rfl (by exact st_field_p off81_0 rfl) ?_
  refine OPS.p rfl (by exact st_load_vs sc3 rfl rfl rfl) ?_
  refine OPS.p rfl (by exact st_field_p off148_0 rfl) ?_
  refine OPS.p rfl (by exact st_load_vs sc3 rfl rfl rfl) ?_
  refine OPS.p rfl (by exact st_mul_i rfl rfl (by omega) (by omega)) ?_
  refine OPS.p rfl (by exact st_field_p off81_1 rfl) ?_
  refine OPS.p rfl (by exact st_load_vs sc3 rfl rfl rfl) ?_
  refine OPS.p rfl (by exact st_field_p off148_1 rfl) ?_
  refine OPS.p rfl (by exact st_load_vs sc3 rfl rfl rfl) ?_
  refine OPS.p rfl (by exact st_mul_i rfl rfl (by omega) (by omega)) ?_
  refine OPS.p rfl (by exact st_add_i rfl rfl (by omega) (by omega)) ?_
  refine OPS.p rfl (st_assign rfl) ?_
  refine OPS.nil ?_
  refine AWP.ret ?_
  exact Ret.mk rfl rfl

def moved (x y : Int) (p : Pt) : Pt := (p.1 + x, p.2 + y)
theorem getD_mem {α : Type} [Inhabited α] {l : List α} {i : Nat} (h : i < l.length) : l.getD i default ∈ l := by
  rw [List.getD_eq_getElem?_getD, List.getElem?_eq_getElem h]
  exact List.getElem_mem h

theorem k_Move (l : List Pt) (x y : Int) (hl : l.length ≤ 1000) (hp : ∀ p ∈ l, Sp p) (hx : -100000 ≤ x ∧ x ≤ 100000) (hy : -100000 ≤ y ∧ y ≤ 100000) : PureC Tryz.prog 160 [pPs l, pI x, pI y] (pPs (l.map (moved x y))) := by
  refine PureC.of Tryz.func160 rfl Tryz.ntmps160 (vs := [.tmp 6]) rfl (Nat.le_of_ble_eq_true rfl) rfl fun cx _ _ => ?_
  refine AWP.seq ?_
  refine AWP.region ?_
  refine OPS.p rfl (st_assign rfl) ?_
  refine OPS.nil ?_
  refine AWP.seq ?_
  refine AWP.region ?_
  refine OPS.p rfl (st_assign rfl) ?_
  refine OPS.nil ?_
  refine AWP.seq ?_
  refine AWP.seq ?_
  refine AWP.region ?_
  refine OPS.p rfl (st_assign rfl) ?_
  refine OPS.nil ?_
  refine AWP.block ?_
  refine AWP.adopt 7 148 2 rfl ?_
  refine AWP.loopR (σ := Nat × List Pt) (fun (zz : Nat × List Pt) => ⟨[(0, pPs l), (1, pI x), (2, pI y), (7, .own 0 zz.2.length), (8, pI zz.1)], [(0, .arr 148 2 zz.2.length (fR eP zz.2))], 1⟩) (fun (zz : Nat × List Pt) => zz.1 ≤ l.length ∧ zz.2 = (l.take zz.1).map (moved x y)) (fun (zz : Nat × List Pt) => l.length - zz.1) (0, []) (Sub.r (Sub.mk' ⟨(by rfl), (by rfl), (by rfl), (by rfl), (by rfl), trivial⟩ ⟨(by rfl), trivial⟩ (by exact Nat.le_refl _))) (by exact ⟨by omega, rfl⟩) ?_
  rintro ⟨i, o⟩ hinv
  have hinv : i ≤ l.length ∧ o = (l.take i).map (moved x y) := hinv
  obtain ⟨h1, h2⟩ := hinv
  show AWP _ _ _ _ _ _ _ ⟨[(0, pPs l), (1, pI x), (2, pI y), (7, .own 0 o.length), (8, pI i)], [(0, .arr 148 2 o.length (fR eP o))], 1⟩
  have hol : o.length = i := by rw [h2]; simp; omega
  refine AWP.seq ?_
  refine AWP.seq ?_
  refine AWP.region ?_
  refine OPS.p rfl (st_move rfl) ?_
  refine OPS.p rfl (st_move rfl) ?_
  refine OPS.p rfl (st_len un66 rfl rfl) ?_
  refine OPS.p rfl (st_lss rfl rfl) ?_
  refine OPS.nil ?_
  refine AWP.condD rfl (fun hc3 => ?_) (fun hc3 => ?_)
  · have hi : i < l.length := by omega
    obtain ⟨q1, q2, q3, q4⟩ := hp _ (getD_mem hi)
    refine AWP.skip ?_
    refine AWP.seq ?_
    refine AWP.block ?_
    refine AWP.drw mixed ?_
    refine DRW.p rfl (st_move rfl) ?_
    refine DRW.p rfl (st_move rfl) ?_
    refine DRW.p rfl (st_move rfl) ?_
    refine DRW.p rfl (by exact st_index_R es66 rfl rfl (fun _ => rfl) rfl (by omega) (by omega) (by rfl)) ?_
    refine DRW.p rfl (by exact st_field_f off148_0 rfl) ?_
    refine DRW.p rfl (by exact st_load_RFn sc3 rfl (fun _ => rfl) rfl (by omega) rfl) ?_
    refine DRW.p rfl (st_move rfl) ?_
    refine DRW.p rfl (by exact st_add_i rfl rfl (by omega) (by omega)) ?_
    refine DRW.p rfl (st_move rfl) ?_
    refine DRW.p rfl (st_move rfl) ?_
    refine DRW.p rfl (by exact st_index_R es66 rfl rfl (fun _ => rfl) rfl (by omega) (by omega) (by rfl)) ?_
    refine DRW.p rfl (by exact st_field_f off148_1 rfl) ?_
    refine DRW.p rfl (by exact st_load_RFn sc3 rfl (fun _ => rfl) rfl (by omega) rfl) ?_
    refine DRW.p rfl (st_move rfl) ?_
    refine DRW.p rfl (by exact st_add_i rfl rfl (by omega) (by omega)) ?_
    refine DRW.p rfl (st_build (L := [(0, (.tmp 22), _), (1, (.tmp 29), _)]) zf148 pl_148 ⟨rfl, rfl, trivial⟩ rfl rfl) ?_
    refine DRW.a rfl (Stp.frz (st_buildS (L := [(0, (.tmp 30), _)]) ei66 rfl ⟨rfl, trivial⟩ rfl rfl) rfl) ?_
    refine DRW.a rfl (st_append_R (v := [moved x y (l.getD i default)]) ei66 un66 rfl rfl rfl rfl (fun _ => rfl) rfl rfl (by simp only [List.length_singleton]; omega) (by simp only [List.length_singleton]; omega)) ?_
    refine DRW.p rfl (st_assign rfl) ?_
    refine DRW.nil (by kernel_rfl) ?_
    refine AWP.region ?_
    refine OPS.p rfl (st_move rfl) ?_
    refine OPS.p rfl (by exact st_add_i rfl rfl (by omega) (by omega)) ?_
    refine OPS.p rfl (st_assign rfl) ?_
    refine OPS.nil ?_
    refine ⟨(i + 1, o ++ [moved x y (l.getD i default)]), (Ren.r (Ren.mk' (ρ := [(2, 0)]) rfl ⟨(by rfl), (by rfl), (by rfl), (by rfl), (by rfl), trivial⟩ ⟨(by rfl), trivial⟩)), ?_, ?_⟩
    · try dsimp only
      refine ⟨by omega, ?_⟩
      rw [h2, List.take_add_one, List.getElem?_eq_getElem hi, List.map_append, List.getD_eq_getElem?_getD, List.getElem?_eq_getElem hi]
      rfl
    · try dsimp only
      omega
  · refine AWP.exit ?_
    refine AWP.seq ?_
    have hi : i = l.length := by omega
    subst hi
    rw [List.take_length] at h2
    refine AWP.freeze 0 [7] rfl ⟨rfl, trivial⟩ ?_
    refine AWP.region ?_
    refine OPS.p rfl (st_move rfl) ?_
    refine OPS.p rfl (st_assign rfl) ?_
    refine OPS.nil ?_
    refine AWP.ret ?_
    exact Ret.mk rfl (by rw [h2])
end Go.Proofs.Gh.Tryz
end
section
set_option linter.unusedVariables false
set_option linter.unusedSimpArgs false
set_option maxRecDepth 4000
namespace Go.Proofs.Gh.Tryz
open Go Go.Proofs Go.Proofs.Gh

/-- The direction of a side with these differences and this length. -/
def nrm (dx dy : Int) (s : Nat) : Dr := (dy.tdiv (Int.gcd (Int.gcd dx dy) s), (-dx).tdiv (Int.gcd (Int.gcd dx dy) s), (s : Int).tdiv (Int.gcd (Int.gcd dx dy) s))
theorem tdiv_in {a b : Int} : a.tdiv b ≤ a.natAbs ∧ -(a.natAbs : Int) ≤ a.tdiv b := by
  have h := Int.natAbs_tdiv a b
  have h2 : a.natAbs.div b.natAbs ≤ a.natAbs := Nat.div_le_self a.natAbs b.natAbs
  omega

theorem k_Norm (a b : Pt) (s : Nat) (ha : Sp a) (hb : Sp b) (hs : (b.1 - a.1) * (b.1 - a.1) + (b.2 - a.2) * (b.2 - a.2) = s * s) (hs0 : 0 < s) (hs1 : s ≤ 400000) : PureC Tryz.prog 166 [pP a, pP b] (.tup [pD (nrm (b.1 - a.1) (b.2 - a.2) s), pB true]) := by
  obtain ⟨a1, a2, a3, a4⟩ := ha
  obtain ⟨b1, b2, b3, b4⟩ := hb
  have h1 := mb (a := b.1 - a.1) (b := b.1 - a.1) (M := 200000) (by omega) (by omega)
  have h2 := mb (a := b.2 - a.2) (b := b.2 - a.2) (M := 200000) (by omega) (by omega)
  have hx0 : -200000 ≤ b.1 - a.1 ∧ b.1 - a.1 ≤ 200000 := by omega
  have hy0 : -200000 ≤ b.2 - a.2 ∧ b.2 - a.2 ≤ 200000 := by omega
  have hss : (((s * s : Nat) : Int)) = (s : Int) * s := Int.natCast_mul ..
  have hsq : s * s ≤ 160000000000 := Nat.mul_le_mul hs1 hs1
  have hroot := k_Root (s * s) s (show _ < _ by omega) (by omega) (by rw [hss, Int.add_mul, Int.mul_add]; omega)
  have hsm := k_Small s (Sml.fit (show _ < _ by omega))
  rw [decide_eq_true (by omega)] at hroot
  rw [if_pos (by omega), decide_eq_true (by omega)] at hsm
  have hg0 : Int.gcd (Int.gcd (b.1 - a.1) (b.2 - a.2)) s ≠ 0 := fun h => by have := (Int.gcd_eq_zero_iff.1 h).2; omega
  have hgs : Int.gcd (Int.gcd (b.1 - a.1) (b.2 - a.2)) s ≤ s := Int.gcd_le_natAbs_right _ (by omega)
  have hgl : Int.gcd (b.1 - a.1) (b.2 - a.2) ≤ 400000 := by
    by_cases hz : b.1 - a.1 = 0
    · rw [hz, Int.gcd_zero_left]; omega
    · have := gcd_le (q := b.2 - a.2) hz; omega
  have t1 := @tdiv_in (b.2 - a.2) (Int.gcd (Int.gcd (b.1 - a.1) (b.2 - a.2)) s)
  have t2 := @tdiv_in (-(b.1 - a.1)) (Int.gcd (Int.gcd (b.1 - a.1) (b.2 - a.2)) s)
  have t3 := @tdiv_in s (Int.gcd (Int.gcd (b.1 - a.1) (b.2 - a.2)) s)
  refine PureC.of Tryz.func166 rfl Tryz.ntmps166 (vs := [.cell 4 81, .tmp 5]) rfl (Nat.le_of_ble_eq_true rfl) rfl fun cx _ _ => ?_
  refine AWP.seq ?_
  refine AWP.region ?_
  refine OPS.a rfl (st_box rfl rfl) ?_
  refine OPS.a rfl (st_box rfl rfl) ?_
  refine OPS.a rfl (st_alloc ze81) ?_
  refine OPS.p rfl (st_assign rfl) ?_
  refine OPS.nil ?_
  refine AWP.seq ?_
  refine AWP.drw mixed ?_
  refine DRW.p rfl (by exact st_field_p off148_0 rfl) ?_
  refine DRW.p rfl (by exact st_load_vs sc3 rfl rfl rfl) ?_
  refine DRW.p rfl (by exact st_field_p off148_0 rfl) ?_
  refine DRW.p rfl (by exact st_load_vs sc3 rfl rfl rfl) ?_
  refine DRW.p rfl (by exact st_sub_i rfl rfl (by omega) (by omega)) ?_
  refine DRW.p rfl (by exact st_field_p off148_1 rfl) ?_
  refine DRW.p rfl (by exact st_load_vs sc3 rfl rfl rfl) ?_
  refine DRW.p rfl (by exact st_field_p off148_1 rfl) ?_
  refine DRW.p rfl (by exact st_load_vs sc3 rfl rfl rfl) ?_
  refine DRW.p rfl (by exact st_sub_i rfl rfl (by omega) (by omega)) ?_
  refine DRW.p rfl (st_assign rfl) ?_
  refine DRW.p rfl (st_assign rfl) ?_
  refine DRW.nil (by kernel_rfl) ?_
  refine AWP.seq ?_
  refine AWP.region ?_
  refine OPS.p rfl (st_move rfl) ?_
  refine OPS.p rfl (st_move rfl) ?_
  refine OPS.p rfl (by exact st_mul_i rfl rfl (by omega) (by omega)) ?_
  refine OPS.p rfl (st_move rfl) ?_
  refine OPS.p rfl (st_move rfl) ?_
  refine OPS.p rfl (by exact st_mul_i rfl rfl (by omega) (by omega)) ?_
  refine OPS.p rfl (by exact st_add_i rfl rfl (by omega) (by omega)) ?_
  refine OPS.p rfl ((st_call (L := [((.tmp 30), _)]) false pl100 ⟨rfl, trivial⟩ rfl (k_Of _ (by omega) (by omega)) rfl).val (show _ = pZ ((s * s : Nat) : Int) by rw [hs, hss])) ?_
  refine OPS.p rfl (st_call (L := [((.tmp 31), _)]) false pl253 ⟨rfl, trivial⟩ rfl (hroot) rfl) ?_
  refine OPS.p rfl (st_move rfl) ?_
  refine OPS.p rfl (st_extract rfl rfl) ?_
  refine OPS.p rfl (st_extract rfl rfl) ?_
  refine OPS.a rfl (st_alloc ze29) ?_
  refine OPS.s (by exact st_store_v sz29 rfl rfl rfl rfl rfl rfl) ?_
  refine OPS.p rfl (st_assign rfl) ?_
  refine OPS.nil ?_
  refine AWP.seq ?_
  refine AWP.region ?_
  refine OPS.p rfl (by exact st_load_va ag29 rfl rfl rfl rfl) ?_
  refine OPS.p rfl (st_call (L := [((.tmp 36), _)]) false pl254 ⟨rfl, trivial⟩ rfl (hsm) rfl) ?_
  refine OPS.p rfl (st_move rfl) ?_
  refine OPS.p rfl (st_extract rfl rfl) ?_
  refine OPS.p rfl (st_extract rfl rfl) ?_
  refine OPS.p rfl (st_assign rfl) ?_
  refine OPS.p rfl (st_assign rfl) ?_
  refine OPS.nil ?_
  refine AWP.seq ?_
  refine AWP.seq ?_
  refine AWP.region ?_
  refine OPS.p rfl (st_move rfl) ?_
  refine OPS.p rfl (by exact st_not rfl) ?_
  refine OPS.p rfl (st_move rfl) ?_
  refine OPS.pG rfl rfl rfl (rfl) (st_move rfl) ?_
  refine OPS.pG rfl rfl rfl (rfl) (st_eql rfl rfl) ?_
  refine OPS.p rfl (st_pickF rfl (rfl) rfl) ?_
  refine OPS.nil ?_
  refine AWP.condD rfl (fun hc4 => ?_) (fun hc4 => ?_)
  · omega
  · refine AWP.skip ?_
    refine AWP.seq ?_
    refine AWP.region ?_
    refine OPS.p rfl (st_move rfl) ?_
    refine OPS.p rfl (st_move rfl) ?_
    refine OPS.p rfl (st_call (L := [((.tmp 47), _), ((.tmp 48), _)]) false pl255 ⟨rfl, rfl, trivial⟩ rfl (k_gcd (b.1 - a.1) (b.2 - a.2) (by omega) (by omega)) rfl) ?_
    refine OPS.p rfl (st_move rfl) ?_
    refine OPS.p rfl (st_call (L := [((.tmp 49), _), ((.tmp 50), _)]) false pl255 ⟨rfl, rfl, trivial⟩ rfl (k_gcd _ s (by omega) (by omega)) rfl) ?_
    refine OPS.p rfl (st_assign rfl) ?_
    refine OPS.nil ?_
    refine AWP.seq ?_
    refine AWP.drw mixed ?_
    refine DRW.p rfl (st_move rfl) ?_
    refine DRW.p rfl (st_move rfl) ?_
    refine DRW.p rfl ((st_quo rfl rfl (by omega)).val (congrArg pI (w64 (by omega) (by omega)))) ?_
    refine DRW.p rfl (st_move rfl) ?_
    refine DRW.p rfl (by exact st_neg_i rfl (by omega) (by omega)) ?_
    refine DRW.p rfl (st_move rfl) ?_
    refine DRW.p rfl ((st_quo rfl rfl (by omega)).val (congrArg pI (w64 (by omega) (by omega)))) ?_
    refine DRW.p rfl (st_move rfl) ?_
    refine DRW.p rfl (st_move rfl) ?_
    refine DRW.p rfl ((st_quo rfl rfl (by omega)).val (congrArg pI (w64 (by omega) (by omega)))) ?_
    refine DRW.p rfl (st_build (L := [(0, (.tmp 54), _), (1, (.tmp 58), _), (2, (.tmp 61), _)]) zf81 pl_81 ⟨rfl, rfl, rfl, trivial⟩ rfl rfl) ?_
    refine DRW.s (by exact st_store_v sz81 rfl rfl rfl rfl rfl rfl) ?_
    refine DRW.p rfl (st_assign rfl) ?_
    refine DRW.nil (by kernel_rfl) ?_
    refine AWP.ret ?_
    exact Ret.mk2 rfl rfl rfl
end Go.Proofs.Gh.Tryz
end
section
set_option linter.unusedVariables false
set_option linter.unusedSimpArgs false
set_option maxRecDepth 4000
namespace Go.Proofs.Gh.Tryz
open Go Go.Proofs Go.Proofs.Gh

theorem nxt_mem {l : List Pt} {i : Nat} (h : i < l.length) : nxt l i ∈ l := by
  unfold nxt
  split
  · exact getD_mem (by omega)
  · exact getD_mem (by omega)

def areaFrom (l : List Pt) (i : Nat) : Int := ((List.range i).map fun k => cross (l.getD 0 default) (l.getD k default) (nxt l k)).sum
theorem areaFrom_succ (l : List Pt) (i : Nat) : areaFrom l (i + 1) = areaFrom l i + cross (l.getD 0 default) (l.getD i default) (nxt l i) := by
  simp [areaFrom, List.range_succ]
theorem cross_bd {a b c : Pt} (ha : Sp a) (hb : Sp b) (hc : Sp c) : -80000000000 ≤ cross a b c ∧ cross a b c ≤ 80000000000 := by
  obtain ⟨a1, a2, a3, a4⟩ := ha
  obtain ⟨b1, b2, b3, b4⟩ := hb
  obtain ⟨c1, c2, c3, c4⟩ := hc
  have h1 := mb (a := b.1 - a.1) (b := c.2 - a.2) (M := 200000) (by omega) (by omega)
  have h2 := mb (a := b.2 - a.2) (b := c.1 - a.1) (M := 200000) (by omega) (by omega)
  unfold cross
  omega

-- left out here: k_Area

def eV (v : Rat × Rat) : List FV := eQ v.1 ++ eQ v.2
def half (a : Int) : Rat := Rat.divInt (a % 24 * 2 - 24 + a / 72) (2 + a / 48 % 2)
def vec (x y : Int) : Rat × Rat := (half (around x 96), half (around y 96))

theorem k_Vec (x y : Int) (h1 : -9223372036854775808 ≤ x ∧ x ≤ 9223372036854775807) (h2 : -9223372036854775808 ≤ y ∧ y ≤ 9223372036854775807) : PureC Tryz.prog 62 [pI x, pI y] (.agg (eV (vec x y))) := by
  have hx := around_lt x (m := 96) (by omega)
  have hy := around_lt y (m := 96) (by omega)
  have e : vec x y = (half (around x 96), half (around y 96)) := rfl
  rw [e]
  refine PureC.of Tryz.func62 rfl Tryz.ntmps62 (vs := [.cell 4 72]) rfl (Nat.le_of_ble_eq_true rfl) rfl fun cx _ _ => ?_
  refine AWP.seq ?_
  refine AWP.region ?_
  refine OPS.a rfl (st_alloc ze72) ?_
  refine OPS.nil ?_
  refine AWP.seq ?_
  refine AWP.region ?_
  refine OPS.p rfl (st_move rfl) ?_
  refine OPS.p rfl (st_call (L := [((.tmp 7), _), ((.const (.int .i64 96)), _)]) false pl33 ⟨rfl, rfl, trivial⟩ rfl (k_Around x 96 (by omega) h1.1 h1.2) rfl) ?_
  refine OPS.p rfl (st_assign rfl) ?_
  refine OPS.nil ?_
  refine AWP.seq ?_
  refine AWP.region ?_
  refine OPS.p rfl (st_move rfl) ?_
  refine OPS.p rfl (st_call (L := [((.tmp 9), _), ((.const (.int .i64 96)), _)]) false pl33 ⟨rfl, rfl, trivial⟩ rfl (k_Around y 96 (by omega) h2.1 h2.2) rfl) ?_
  refine OPS.p rfl (st_assign rfl) ?_
  refine OPS.nil ?_
  refine AWP.seq ?_
  refine AWP.region ?_
  refine OPS.p rfl (st_move rfl) ?_
  refine OPS.p rfl (by exact st_rem_i rfl rfl (by omega) (by omega)) ?_
  refine OPS.p rfl (by exact st_mul_i rfl rfl (by omega) (by omega)) ?_
  refine OPS.p rfl (by exact st_sub_i rfl rfl (by omega) (by omega)) ?_
  refine OPS.p rfl (st_move rfl) ?_
  refine OPS.p rfl (by exact st_quo_i rfl rfl (by omega) (by omega) (by omega)) ?_
  refine OPS.p rfl (by exact st_add_i rfl rfl (by omega) (by omega)) ?_
  refine OPS.p rfl (st_move rfl) ?_
  refine OPS.p rfl (by exact st_quo_i rfl rfl (by omega) (by omega) (by omega)) ?_
  refine OPS.p rfl (by exact st_rem_i rfl rfl (by omega) (by omega)) ?_
  refine OPS.p rfl (by exact st_add_i rfl rfl (by omega) (by omega)) ?_
  refine OPS.p rfl (st_call (L := [((.tmp 17), _), ((.tmp 21), _)]) false pl38 ⟨rfl, rfl, trivial⟩ rfl (k_rqOf _ _ (show _ < _ by omega) (show _ < _ by omega)) rfl) ?_
  refine OPS.p rfl (st_move rfl) ?_
  refine OPS.p rfl (by exact st_rem_i rfl rfl (by omega) (by omega)) ?_
  refine OPS.p rfl (by exact st_mul_i rfl rfl (by omega) (by omega)) ?_
  refine OPS.p rfl (by exact st_sub_i rfl rfl (by omega) (by omega)) ?_
  refine OPS.p rfl (st_move rfl) ?_
  refine OPS.p rfl (by exact st_quo_i rfl rfl (by omega) (by omega) (by omega)) ?_
  refine OPS.p rfl (by exact st_add_i rfl rfl (by omega) (by omega)) ?_
  refine OPS.p rfl (st_move rfl) ?_
  refine OPS.p rfl (by exact st_quo_i rfl rfl (by omega) (by omega) (by omega)) ?_
  refine OPS.p rfl (by exact st_rem_i rfl rfl (by omega) (by omega)) ?_
  refine OPS.p rfl (by exact st_add_i rfl rfl (by omega) (by omega)) ?_
  refine OPS.p rfl (st_call (L := [((.tmp 29), _), ((.tmp 33), _)]) false pl38 ⟨rfl, rfl, trivial⟩ rfl (k_rqOf _ _ (show _ < _ by omega) (show _ < _ by omega)) rfl) ?_
  refine OPS.p rfl (st_build (L := [(0, (.tmp 22), _), (1, (.tmp 34), _)]) zf72 pl_72 ⟨rfl, rfl, trivial⟩ rfl rfl) ?_
  refine OPS.s (by exact st_store_v sz72 rfl rfl rfl rfl rfl rfl) ?_
  refine OPS.nil ?_
  refine AWP.ret ?_
  exact Ret.mk rfl rfl
end Go.Proofs.Gh.Tryz
end
section
set_option linter.unusedVariables false
set_option linter.unusedSimpArgs false
set_option maxRecDepth 4000
namespace Go.Proofs.Gh.Tryz
open Go Go.Proofs Go.Proofs.Gh

def shapeK (t k m : Int) : List Pt :=
  if t = 0 ∨ t = 1 ∨ t = 2 then [(0, 0), (2 * k, 0), (2 * k, m), (0, m)]
  else if t = 3 then [(0, 0), (4 * k, 0), (0, 3 * k)]
  else if t = 4 then [(0, 0), (4 * k, -3 * k), (8 * k, 0), (4 * k, 3 * k)]
  else if t = 5 then [(0, 0), (8 * k, 0), (8 * k, m), (4 * k, m + 3 * k), (0, m)]
  else [(0, 0), (6 * k, 0), (3 * k, 4 * k)]
def shape (l : List Int) : List Pt := (shapeK (at' l 0 7) (1 + at' l 1 3) (1 + at' l 2 6)).map (moved (at' l 3 5 - 2) (at' l 4 5 - 2))
theorem shapeK_sp {t k m : Int} (hk : 1 ≤ k ∧ k ≤ 3) (hm : 1 ≤ m ∧ m ≤ 6) : (shapeK t k m).length ≤ 5 ∧ ∀ p ∈ shapeK t k m, Sp p := by
  unfold shapeK
  (repeat' split) <;> refine ⟨by simp, ?_⟩ <;> intro p hp <;> simp only [List.mem_cons, List.not_mem_nil, or_false] at hp <;> rcases hp with rfl | hp <;> try rcases hp with rfl | hp
  all_goals (try rcases hp with rfl | hp)
  all_goals (try rcases hp with rfl | hp)
  all_goals (try subst hp)
  all_goals (unfold Sp; simp only; omega)

theorem k_Shape (l : List Int) (hl : ∀ n ∈ l, -9223372036854775808 ≤ n ∧ n ≤ 9223372036854775807) : PureC Tryz.prog 59 [pL l] (pPs (shape l)) := by
  have b0 := at_lt l 0 (m := 7) (by omega)
  have b1 := at_lt l 1 (m := 3) (by omega)
  have b2 := at_lt l 2 (m := 6) (by omega)
  have b3 := at_lt l 3 (m := 5) (by omega)
  have b4 := at_lt l 4 (m := 5) (by omega)
  have c0 := k_At l 0 7 (by omega) hl
  have c1 := k_At l 1 3 (by omega) hl
  have c2 := k_At l 2 6 (by omega) hl
  have c3 := k_At l 3 5 (by omega) hl
  have c4 := k_At l 4 5 (by omega) hl
  have hsp := shapeK_sp (t := at' l 0 7) (k := 1 + at' l 1 3) (m := 1 + at' l 2 6) (by omega) (by omega)
  unfold shape
  generalize at' l 0 7 = t at *
  generalize hk : 1 + at' l 1 3 = k at *
  generalize hm : 1 + at' l 2 6 = m at *
  generalize at' l 1 3 = k0 at *
  generalize at' l 2 6 = m0 at *
  generalize at' l 3 5 = x at *
  generalize at' l 4 5 = y at *
  refine PureC.of Tryz.func59 rfl Tryz.ntmps59 (vs := [.tmp 2]) rfl (Nat.le_of_ble_eq_true rfl) rfl fun cx _ _ => ?_
  refine AWP.seq ?_
  refine AWP.region ?_
  refine OPS.p rfl (st_assign rfl) ?_
  refine OPS.nil ?_
  refine AWP.seq ?_
  refine AWP.region ?_
  refine OPS.p rfl (st_move rfl) ?_
  refine OPS.p rfl (st_call (L := [((.tmp 6), _), ((.const (.int .i64 1)), _), ((.const (.int .i64 3)), _)]) false pl63 ⟨rfl, rfl, rfl, trivial⟩ rfl (c1) rfl) ?_
  refine OPS.p rfl ((st_add_i rfl rfl (by omega) (by omega)).val (congrArg pI hk)) ?_
  refine OPS.p rfl (st_assign rfl) ?_
  refine OPS.nil ?_
  refine AWP.seq ?_
  refine AWP.region ?_
  refine OPS.p rfl (st_move rfl) ?_
  refine OPS.p rfl (st_call (L := [((.tmp 9), _), ((.const (.int .i64 2)), _), ((.const (.int .i64 6)), _)]) false pl63 ⟨rfl, rfl, rfl, trivial⟩ rfl (c2) rfl) ?_
  refine OPS.p rfl ((st_add_i rfl rfl (by omega) (by omega)).val (congrArg pI hm)) ?_
  refine OPS.p rfl (st_assign rfl) ?_
  refine OPS.nil ?_
  refine AWP.seq ?_
  refine AWP.region ?_
  refine OPS.p rfl (st_assign rfl) ?_
  refine OPS.nil ?_
  refine AWP.seq ?_
  refine AWP.mono (n := fun s' => ∃ zz : List Pt, SubR (loOf cx) s' ((fun (zz : List Pt) => ⟨[(0, pL l), (5, pPs zz)], [], 1⟩) zz) ∧ (fun (zz : List Pt) => zz = shapeK t k m) zz) ?_ ?_
  · refine AWP.seq ?_
    refine AWP.region ?_
    refine OPS.p rfl (st_move rfl) ?_
    refine OPS.p rfl (st_call (L := [((.tmp 12), _), ((.const (.int .i64 0)), _), ((.const (.int .i64 7)), _)]) false pl63 ⟨rfl, rfl, rfl, trivial⟩ rfl (c0) rfl) ?_
    refine OPS.nil ?_
    refine AWP.block ?_
    refine AWP.seq ?_
    refine AWP.seq ?_
    refine AWP.region ?_
    refine OPS.p rfl (st_eql rfl rfl) ?_
    refine OPS.p rfl (st_assign rfl) ?_
    refine OPS.nil ?_
    refine AWP.condD rfl (fun hc6 => ?_) (fun hc6 => ?_)
    · refine AWP.skip ?_
      refine AWP.cond_t rfl ((decide_eq_true hc6)) ?_
      refine AWP.region ?_
      refine OPS.p rfl (st_build (L := []) zf148 pl_148 trivial rfl rfl) ?_
      refine OPS.p rfl (st_move rfl) ?_
      refine OPS.p rfl (by exact st_mul_i rfl rfl (by omega) (by omega)) ?_
      refine OPS.p rfl (st_build (L := [(0, (.tmp 30), _)]) zf148 pl_148 ⟨rfl, trivial⟩ rfl rfl) ?_
      refine OPS.p rfl (st_move rfl) ?_
      refine OPS.p rfl (by exact st_mul_i rfl rfl (by omega) (by omega)) ?_
      refine OPS.p rfl (st_move rfl) ?_
      refine OPS.p rfl (st_build (L := [(0, (.tmp 33), _), (1, (.tmp 34), _)]) zf148 pl_148 ⟨rfl, rfl, trivial⟩ rfl rfl) ?_
      refine OPS.p rfl (st_move rfl) ?_
      refine OPS.p rfl (st_build (L := [(1, (.tmp 36), _)]) zf148 pl_148 ⟨rfl, trivial⟩ rfl rfl) ?_
      refine OPS.a rfl (Stp.frz (st_buildS (L := [(0, (.tmp 28), _), (1, (.tmp 31), _), (2, (.tmp 35), _), (3, (.tmp 37), _)]) ei66 rfl ⟨rfl, rfl, rfl, rfl, trivial⟩ rfl rfl) rfl) ?_
      refine OPS.p rfl (st_assign rfl) ?_
      refine OPS.nil ?_
      refine ⟨([(0, 0), (2 * k, 0), (2 * k, m), (0, m)]), (Sub.r (Sub.mk' ⟨(by rfl), (by rfl), trivial⟩ trivial (by exact Nat.le_refl _))), ?_⟩
      try dsimp only
      unfold shapeK
      rw [if_pos (by omega)]
    · refine AWP.seq ?_
      refine AWP.region ?_
      refine OPS.p rfl (st_eql rfl rfl) ?_
      refine OPS.p rfl (st_assign rfl) ?_
      refine OPS.nil ?_
      refine AWP.condD rfl (fun hc7 => ?_) (fun hc7 => ?_)
      · refine AWP.skip ?_
        refine AWP.cond_t rfl ((decide_eq_true hc7)) ?_
        refine AWP.region ?_
        refine OPS.p rfl (st_build (L := []) zf148 pl_148 trivial rfl rfl) ?_
        refine OPS.p rfl (st_move rfl) ?_
        refine OPS.p rfl (by exact st_mul_i rfl rfl (by omega) (by omega)) ?_
        refine OPS.p rfl (st_build (L := [(0, (.tmp 30), _)]) zf148 pl_148 ⟨rfl, trivial⟩ rfl rfl) ?_
        refine OPS.p rfl (st_move rfl) ?_
        refine OPS.p rfl (by exact st_mul_i rfl rfl (by omega) (by omega)) ?_
        refine OPS.p rfl (st_move rfl) ?_
        refine OPS.p rfl (st_build (L := [(0, (.tmp 33), _), (1, (.tmp 34), _)]) zf148 pl_148 ⟨rfl, rfl, trivial⟩ rfl rfl) ?_
        refine OPS.p rfl (st_move rfl) ?_
        refine OPS.p rfl (st_build (L := [(1, (.tmp 36), _)]) zf148 pl_148 ⟨rfl, trivial⟩ rfl rfl) ?_
        refine OPS.a rfl (Stp.frz (st_buildS (L := [(0, (.tmp 28), _), (1, (.tmp 31), _), (2, (.tmp 35), _), (3, (.tmp 37), _)]) ei66 rfl ⟨rfl, rfl, rfl, rfl, trivial⟩ rfl rfl) rfl) ?_
        refine OPS.p rfl (st_assign rfl) ?_
        refine OPS.nil ?_
        refine ⟨([(0, 0), (2 * k, 0), (2 * k, m), (0, m)]), (Sub.r (Sub.mk' ⟨(by rfl), (by rfl), trivial⟩ trivial (by exact Nat.le_refl _))), ?_⟩
        try dsimp only
        unfold shapeK
        rw [if_pos (by omega)]
      · refine AWP.region ?_
        refine OPS.p rfl (st_eql rfl rfl) ?_
        refine OPS.p rfl (st_assign rfl) ?_
        refine OPS.nil ?_
        refine AWP.condD rfl (fun hc8 => ?_) (fun hc8 => ?_)
        · refine AWP.region ?_
          refine OPS.p rfl (st_build (L := []) zf148 pl_148 trivial rfl rfl) ?_
          refine OPS.p rfl (st_move rfl) ?_
          refine OPS.p rfl (by exact st_mul_i rfl rfl (by omega) (by omega)) ?_
          refine OPS.p rfl (st_build (L := [(0, (.tmp 30), _)]) zf148 pl_148 ⟨rfl, trivial⟩ rfl rfl) ?_
          refine OPS.p rfl (st_move rfl) ?_
          refine OPS.p rfl (by exact st_mul_i rfl rfl (by omega) (by omega)) ?_
          refine OPS.p rfl (st_move rfl) ?_
          refine OPS.p rfl (st_build (L := [(0, (.tmp 33), _), (1, (.tmp 34), _)]) zf148 pl_148 ⟨rfl, rfl, trivial⟩ rfl rfl) ?_
          refine OPS.p rfl (st_move rfl) ?_
          refine OPS.p rfl (st_build (L := [(1, (.tmp 36), _)]) zf148 pl_148 ⟨rfl, trivial⟩ rfl rfl) ?_
          refine OPS.a rfl (Stp.frz (st_buildS (L := [(0, (.tmp 28), _), (1, (.tmp 31), _), (2, (.tmp 35), _), (3, (.tmp 37), _)]) ei66 rfl ⟨rfl, rfl, rfl, rfl, trivial⟩ rfl rfl) rfl) ?_
          refine OPS.p rfl (st_assign rfl) ?_
          refine OPS.nil ?_
          refine ⟨([(0, 0), (2 * k, 0), (2 * k, m), (0, m)]), (Sub.r (Sub.mk' ⟨(by rfl), (by rfl), trivial⟩ trivial (by exact Nat.le_refl _))), ?_⟩
          try dsimp only
          unfold shapeK
          rw [if_pos (by omega)]
        · refine AWP.seq ?_
          refine AWP.region ?_
          refine OPS.p rfl (st_eql rfl rfl) ?_
          refine OPS.p rfl (st_assign rfl) ?_
          refine OPS.nil ?_
          refine AWP.condD rfl (fun hc10 => ?_) (fun hc10 => ?_)
          · refine AWP.region ?_
            refine OPS.p rfl (st_build (L := []) zf148 pl_148 trivial rfl rfl) ?_
            refine OPS.p rfl (st_move rfl) ?_
            refine OPS.p rfl (by exact st_mul_i rfl rfl (by omega) (by omega)) ?_
            refine OPS.p rfl (st_build (L := [(0, (.tmp 43), _)]) zf148 pl_148 ⟨rfl, trivial⟩ rfl rfl) ?_
            refine OPS.p rfl (st_move rfl) ?_
            refine OPS.p rfl (by exact st_mul_i rfl rfl (by omega) (by omega)) ?_
            refine OPS.p rfl (st_build (L := [(1, (.tmp 46), _)]) zf148 pl_148 ⟨rfl, trivial⟩ rfl rfl) ?_
            refine OPS.a rfl (Stp.frz (st_buildS (L := [(0, (.tmp 41), _), (1, (.tmp 44), _), (2, (.tmp 47), _)]) ei66 rfl ⟨rfl, rfl, rfl, trivial⟩ rfl rfl) rfl) ?_
            refine OPS.p rfl (st_assign rfl) ?_
            refine OPS.nil ?_
            refine ⟨([(0, 0), (4 * k, 0), (0, 3 * k)]), (Sub.r (Sub.mk' ⟨(by rfl), (by rfl), trivial⟩ trivial (by exact Nat.le_refl _))), ?_⟩
            try dsimp only
            unfold shapeK
            rw [if_neg (by omega), if_pos (by omega)]
          · refine AWP.seq ?_
            refine AWP.region ?_
            refine OPS.p rfl (st_eql rfl rfl) ?_
            refine OPS.p rfl (st_assign rfl) ?_
            refine OPS.nil ?_
            refine AWP.condD rfl (fun hc12 => ?_) (fun hc12 => ?_)
            · refine AWP.region ?_
              refine OPS.p rfl (st_build (L := []) zf148 pl_148 trivial rfl rfl) ?_
              refine OPS.p rfl (st_move rfl) ?_
              refine OPS.p rfl (by exact st_mul_i rfl rfl (by omega) (by omega)) ?_
              refine OPS.p rfl (st_move rfl) ?_
              refine OPS.p rfl (by exact st_mul_i rfl rfl (by omega) (by omega)) ?_
              refine OPS.p rfl (st_build (L := [(0, (.tmp 53), _), (1, (.tmp 55), _)]) zf148 pl_148 ⟨rfl, rfl, trivial⟩ rfl rfl) ?_
              refine OPS.p rfl (st_move rfl) ?_
              refine OPS.p rfl (by exact st_mul_i rfl rfl (by omega) (by omega)) ?_
              refine OPS.p rfl (st_build (L := [(0, (.tmp 58), _)]) zf148 pl_148 ⟨rfl, trivial⟩ rfl rfl) ?_
              refine OPS.p rfl (st_move rfl) ?_
              refine OPS.p rfl (by exact st_mul_i rfl rfl (by omega) (by omega)) ?_
              refine OPS.p rfl (st_move rfl) ?_
              refine OPS.p rfl (by exact st_mul_i rfl rfl (by omega) (by omega)) ?_
              refine OPS.p rfl (st_build (L := [(0, (.tmp 61), _), (1, (.tmp 63), _)]) zf148 pl_148 ⟨rfl, rfl, trivial⟩ rfl rfl) ?_
              refine OPS.a rfl (Stp.frz (st_buildS (L := [(0, (.tmp 51), _), (1, (.tmp 56), _), (2, (.tmp 59), _), (3, (.tmp 64), _)]) ei66 rfl ⟨rfl, rfl, rfl, rfl, trivial⟩ rfl rfl) rfl) ?_
              refine OPS.p rfl (st_assign rfl) ?_
              refine OPS.nil ?_
              refine ⟨([(0, 0), (4 * k, -3 * k), (8 * k, 0), (4 * k, 3 * k)]), (Sub.r (Sub.mk' ⟨(by rfl), (by rfl), trivial⟩ trivial (by exact Nat.le_refl _))), ?_⟩
              try dsimp only
              unfold shapeK
              rw [if_neg (by omega), if_neg (by omega), if_pos (by omega)]
            · refine AWP.seq ?_
              refine AWP.region ?_
              refine OPS.p rfl (st_eql rfl rfl) ?_
              refine OPS.p rfl (st_assign rfl) ?_
              refine OPS.nil ?_
              refine AWP.condD rfl (fun hc14 => ?_) (fun hc14 => ?_)
              · refine AWP.region ?_
                refine OPS.p rfl (st_build (L := []) zf148 pl_148 trivial rfl rfl) ?_
                refine OPS.p rfl (st_move rfl) ?_
                refine OPS.p rfl (by exact st_mul_i rfl rfl (by omega) (by omega)) ?_
                refine OPS.p rfl (st_build (L := [(0, (.tmp 70), _)]) zf148 pl_148 ⟨rfl, trivial⟩ rfl rfl) ?_
                refine OPS.p rfl (st_move rfl) ?_
                refine OPS.p rfl (by exact st_mul_i rfl rfl (by omega) (by omega)) ?_
                refine OPS.p rfl (st_move rfl) ?_
                refine OPS.p rfl (st_build (L := [(0, (.tmp 73), _), (1, (.tmp 74), _)]) zf148 pl_148 ⟨rfl, rfl, trivial⟩ rfl rfl) ?_
                refine OPS.p rfl (st_move rfl) ?_
                refine OPS.p rfl (by exact st_mul_i rfl rfl (by omega) (by omega)) ?_
                refine OPS.p rfl (st_move rfl) ?_
                refine OPS.p rfl (st_move rfl) ?_
                refine OPS.p rfl (by exact st_mul_i rfl rfl (by omega) (by omega)) ?_
                refine OPS.p rfl (by exact st_add_i rfl rfl (by omega) (by omega)) ?_
                refine OPS.p rfl (st_build (L := [(0, (.tmp 77), _), (1, (.tmp 81), _)]) zf148 pl_148 ⟨rfl, rfl, trivial⟩ rfl rfl) ?_
                refine OPS.p rfl (st_move rfl) ?_
                refine OPS.p rfl (st_build (L := [(1, (.tmp 83), _)]) zf148 pl_148 ⟨rfl, trivial⟩ rfl rfl) ?_
                refine OPS.a rfl (Stp.frz (st_buildS (L := [(0, (.tmp 68), _), (1, (.tmp 71), _), (2, (.tmp 75), _), (3, (.tmp 82), _), (4, (.tmp 84), _)]) ei66 rfl ⟨rfl, rfl, rfl, rfl, rfl, trivial⟩ rfl rfl) rfl) ?_
                refine OPS.p rfl (st_assign rfl) ?_
                refine OPS.nil ?_
                refine ⟨([(0, 0), (8 * k, 0), (8 * k, m), (4 * k, m + 3 * k), (0, m)]), (Sub.r (Sub.mk' ⟨(by rfl), (by rfl), trivial⟩ trivial (by exact Nat.le_refl _))), ?_⟩
                try dsimp only
                unfold shapeK
                rw [if_neg (by omega), if_neg (by omega), if_neg (by omega), if_pos (by omega)]
              · refine AWP.region ?_
                refine OPS.p rfl (st_build (L := []) zf148 pl_148 trivial rfl rfl) ?_
                refine OPS.p rfl (st_move rfl) ?_
                refine OPS.p rfl (by exact st_mul_i rfl rfl (by omega) (by omega)) ?_
                refine OPS.p rfl (st_build (L := [(0, (.tmp 16), _)]) zf148 pl_148 ⟨rfl, trivial⟩ rfl rfl) ?_
                refine OPS.p rfl (st_move rfl) ?_
                refine OPS.p rfl (by exact st_mul_i rfl rfl (by omega) (by omega)) ?_
                refine OPS.p rfl (st_move rfl) ?_
                refine OPS.p rfl (by exact st_mul_i rfl rfl (by omega) (by omega)) ?_
                refine OPS.p rfl (st_build (L := [(0, (.tmp 19), _), (1, (.tmp 21), _)]) zf148 pl_148 ⟨rfl, rfl, trivial⟩ rfl rfl) ?_
                refine OPS.a rfl (Stp.frz (st_buildS (L := [(0, (.tmp 14), _), (1, (.tmp 17), _), (2, (.tmp 22), _)]) ei66 rfl ⟨rfl, rfl, rfl, trivial⟩ rfl rfl) rfl) ?_
                refine OPS.p rfl (st_assign rfl) ?_
                refine OPS.nil ?_
                refine ⟨([(0, 0), (6 * k, 0), (3 * k, 4 * k)]), (Sub.r (Sub.mk' ⟨(by rfl), (by rfl), trivial⟩ trivial (by exact Nat.le_refl _))), ?_⟩
                try dsimp only
                unfold shapeK
                rw [if_neg (by omega), if_neg (by omega), if_neg (by omega), if_neg (by omega)]
  · rintro s' ⟨s, hsub, hinv⟩
    have hinv : s = shapeK t k m := hinv
    obtain hs := id hinv
    refine AWP.subR hsub ?_
    show AWP _ _ _ _ _ _ _ ⟨[(0, pL l), (5, pPs s)], [], 1⟩
    refine AWP.seq ?_
    refine AWP.region ?_
    refine OPS.p rfl (st_move rfl) ?_
    refine OPS.p rfl (st_move rfl) ?_
    refine OPS.p rfl (st_call (L := [((.tmp 87), _), ((.const (.int .i64 3)), _), ((.const (.int .i64 5)), _)]) false pl63 ⟨rfl, rfl, rfl, trivial⟩ rfl (c3) rfl) ?_
    refine OPS.p rfl (by exact st_sub_i rfl rfl (by omega) (by omega)) ?_
    refine OPS.p rfl (st_move rfl) ?_
    refine OPS.p rfl (st_call (L := [((.tmp 90), _), ((.const (.int .i64 4)), _), ((.const (.int .i64 5)), _)]) false pl63 ⟨rfl, rfl, rfl, trivial⟩ rfl (c4) rfl) ?_
    refine OPS.p rfl (by exact st_sub_i rfl rfl (by omega) (by omega)) ?_
    refine OPS.p rfl (st_call (L := [((.tmp 86), _), ((.tmp 89), _), ((.tmp 92), _)]) false pl160 ⟨rfl, rfl, rfl, trivial⟩ rfl (k_Move s (x - 2) (y - 2) (by rw [hs]; omega) (by rw [hs]; exact hsp.2) (by omega) (by omega)) rfl) ?_
    refine OPS.p rfl (st_assign rfl) ?_
    refine OPS.nil ?_
    refine AWP.ret ?_
    exact Ret.mk rfl (by rw [hs])
end Go.Proofs.Gh.Tryz
end
section
set_option linter.unusedVariables false
set_option linter.unusedSimpArgs false
set_option maxRecDepth 4000
namespace Go.Proofs.Gh.Tryz
open Go Go.Proofs Go.Proofs.Gh

/-- Numerator and denominator are at most this. -/
def QB (N D : Nat) (a : Rat) : Prop := a.num.natAbs ≤ N ∧ a.den ≤ D
theorem qb_of {p : Int} {q : Nat} {N D : Nat} (hp : p.natAbs ≤ N) (hq : q ≤ D) (h : q ≠ 0) : QB N D (Rat.divInt p q) := by
  unfold QB
  rw [Rat.num_divInt, Rat.den_divInt, if_neg (by omega), Int.sign_eq_one_of_pos (by omega), Int.one_mul, Int.natAbs_ediv_of_dvd (Int.gcd_dvd_right ..)]
  exact ⟨Nat.le_trans (Nat.div_le_self ..) hp, Nat.le_trans (Nat.div_le_self ..) hq⟩
theorem qb_mul {a b : Rat} {N D M E : Nat} (ha : QB N D a) (hb : QB M E b) : QB (N * M) (D * E) (a * b) := by
  rw [q_mul', ← Int.natCast_mul]
  refine qb_of ?_ (Nat.mul_le_mul ha.2 hb.2) (Nat.mul_ne_zero a.den_nz b.den_nz)
  rw [Int.natAbs_mul]
  exact Nat.mul_le_mul ha.1 hb.1
theorem qb_cross {a b : Rat} {N D M E : Nat} (ha : QB N D a) (hb : QB M E b) : (a.num * b.den).natAbs ≤ N * E ∧ (b.num * a.den).natAbs ≤ M * D ∧ (a.num * b.den + b.num * a.den).natAbs ≤ N * E + M * D ∧ (a.num * b.den + -b.num * a.den).natAbs ≤ N * E + M * D ∧ a.den * b.den ≤ D * E := by
  have h1 : (a.num * b.den).natAbs ≤ N * E := by rw [Int.natAbs_mul]; exact Nat.mul_le_mul ha.1 hb.2
  have h2 : (b.num * a.den).natAbs ≤ M * D := by rw [Int.natAbs_mul]; exact Nat.mul_le_mul hb.1 ha.2
  rw [Int.neg_mul]
  exact ⟨h1, h2, by omega, by omega, Nat.mul_le_mul ha.2 hb.2⟩
theorem qb_add {a b : Rat} {N D M E : Nat} (ha : QB N D a) (hb : QB M E b) : QB (N * E + M * D) (D * E) (a + b) := by
  rw [q_add, ← Int.natCast_mul]
  exact qb_of (qb_cross ha hb).2.2.1 (Nat.mul_le_mul ha.2 hb.2) (Nat.mul_ne_zero a.den_nz b.den_nz)
theorem qb_neg {a : Rat} {N D : Nat} (ha : QB N D a) : QB N D (-a) := ⟨by rw [Rat.neg_num, Int.natAbs_neg]; exact ha.1, ha.2⟩
theorem qb_sub {a b : Rat} {N D M E : Nat} (ha : QB N D a) (hb : QB M E b) : QB (N * E + M * D) (D * E) (a - b) := by
  rw [Rat.sub_eq_add_neg]
  exact qb_add ha (qb_neg hb)
theorem sml {n N : Nat} (h : n ≤ N) (h' : Nat.ble N 999999999999999999 = true) : Sml n := by
  rw [Nat.ble_eq] at h'
  show n < _
  omega
theorem ft {n N : Nat} (h : n ≤ N) (h' : Nat.ble N 999999999999999999 = true) : Fit n := (sml h h').fit

section
variable {a b : Rat} (N D M E : Nat)
theorem b_qAdd (ha : QB N D a) (hb : QB M E b) (h1 : Nat.ble (N * E + M * D) 999999999999999999 = true) (h2 : Nat.ble (D * E) 999999999999999999 = true) (h3 : Nat.ble N 999999999999999999 = true) (h4 : Nat.ble M 999999999999999999 = true) (h5 : Nat.ble D 999999999999999999 = true) (h6 : Nat.ble E 999999999999999999 = true) (h7 : Nat.ble (N * E) 999999999999999999 = true) (h8 : Nat.ble (M * D) 999999999999999999 = true) : PureC Tryz.prog 129 [pQ a, pQ b] (pQ (a + b)) := by
  have hc := qb_cross ha hb
  exact k_qAdd a b (ft ha.1 h3) (ft hb.1 h4) (ft ha.2 h5) (ft hb.2 h6) (ft hc.1 h7) (ft hc.2.1 h8) (sml hc.2.2.1 h1) (sml hc.2.2.2.2 h2)
theorem b_qSub (ha : QB N D a) (hb : QB M E b) (h1 : Nat.ble (N * E + M * D) 999999999999999999 = true) (h2 : Nat.ble (D * E) 999999999999999999 = true) (h3 : Nat.ble N 999999999999999999 = true) (h4 : Nat.ble M 999999999999999999 = true) (h5 : Nat.ble D 999999999999999999 = true) (h6 : Nat.ble E 999999999999999999 = true) (h7 : Nat.ble (N * E) 999999999999999999 = true) (h8 : Nat.ble (M * D) 999999999999999999 = true) : PureC Tryz.prog 182 [pQ a, pQ b] (pQ (a - b)) := by
  have hc := qb_cross ha hb
  exact k_qSub a b (ft ha.1 h3) (ft hb.1 h4) (ft ha.2 h5) (ft hb.2 h6) (ft hc.1 h7) (ft hc.2.1 h8) (sml hc.2.2.2.1 h1) (sml hc.2.2.2.2 h2)
theorem b_qMul (ha : QB N D a) (hb : QB M E b) (h3 : Nat.ble N 999999999999999999 = true) (h4 : Nat.ble M 999999999999999999 = true) (h5 : Nat.ble D 999999999999999999 = true) (h6 : Nat.ble E 999999999999999999 = true) : PureC Tryz.prog 67 [pQ a, pQ b] (pQ (a * b)) := k_qMul a b (sml ha.1 h3) (sml hb.1 h4) (sml ha.2 h5) (sml hb.2 h6)
theorem b_qCompare (ha : QB N D a) (hb : QB M E b) (h3 : Nat.ble N 999999999999999999 = true) (h4 : Nat.ble M 999999999999999999 = true) (h5 : Nat.ble D 999999999999999999 = true) (h6 : Nat.ble E 999999999999999999 = true) (h7 : Nat.ble (N * E) 999999999999999999 = true) (h8 : Nat.ble (M * D) 999999999999999999 = true) : PureC Tryz.prog 128 [pQ a, pQ b] (pI (cmpQ a b)) := by
  have hc := qb_cross ha hb
  exact k_qCompare a b (ft ha.1 h3) (ft hb.1 h4) (ft ha.2 h5) (ft hb.2 h6) (ft hc.1 h7) (ft hc.2.1 h8)
theorem b_rqAdd (ha : QB N D a) (hb : QB M E b) (h1 : Nat.ble (N * E + M * D) 999999999999999999 = true) (h2 : Nat.ble (D * E) 999999999999999999 = true) (h3 : Nat.ble N 999999999999999999 = true) (h4 : Nat.ble M 999999999999999999 = true) (h5 : Nat.ble D 999999999999999999 = true) (h6 : Nat.ble E 999999999999999999 = true) (h7 : Nat.ble (N * E) 999999999999999999 = true) (h8 : Nat.ble (M * D) 999999999999999999 = true) : PureC Tryz.prog 37 [pQ a, pQ b] (pQ (a + b)) := by
  have hc := qb_cross ha hb
  exact k_rqAdd a b (ft ha.1 h3) (ft hb.1 h4) (ft ha.2 h5) (ft hb.2 h6) (ft hc.1 h7) (ft hc.2.1 h8) (sml hc.2.2.1 h1) (sml hc.2.2.2.2 h2)
theorem b_rqMul (ha : QB N D a) (hb : QB M E b) (h1 : Nat.ble (N * M) 999999999999999999 = true) (h2 : Nat.ble (D * E) 999999999999999999 = true) (h3 : Nat.ble N 999999999999999999 = true) (h4 : Nat.ble M 999999999999999999 = true) (h5 : Nat.ble D 999999999999999999 = true) (h6 : Nat.ble E 999999999999999999 = true) : PureC Tryz.prog 149 [pQ a, pQ b] (pQ (a * b)) :=
  k_rqMul a b (ft ha.1 h3) (ft hb.1 h4) (ft ha.2 h5) (ft hb.2 h6) (sml (by rw [Int.natAbs_mul]; exact Nat.mul_le_mul ha.1 hb.1) h1) (sml (Nat.mul_le_mul ha.2 hb.2) h2)
theorem b_rqCompare (ha : QB N D a) (hb : QB M E b) (h3 : Nat.ble N 999999999999999999 = true) (h4 : Nat.ble M 999999999999999999 = true) (h5 : Nat.ble D 999999999999999999 = true) (h6 : Nat.ble E 999999999999999999 = true) (h7 : Nat.ble (N * E) 999999999999999999 = true) (h8 : Nat.ble (M * D) 999999999999999999 = true) : PureC Tryz.prog 34 [pQ a, pQ b] (pI (cmpQ a b)) := by
  have hc := qb_cross ha hb
  exact k_rqCompare a b (ft ha.1 h3) (ft hb.1 h4) (ft ha.2 h5) (ft hb.2 h6) (ft hc.1 h7) (ft hc.2.1 h8)
end
end Go.Proofs.Gh.Tryz
end
section
set_option linter.unusedVariables false
set_option linter.unusedSimpArgs false
set_option maxRecDepth 4000
namespace Go.Proofs.Gh.Tryz
open Go Go.Proofs Go.Proofs.Gh

def qi (n : Int) : Rat := Rat.divInt n 1
theorem qb_qi {n : Int} {N : Nat} (h : n.natAbs ≤ N) : QB N 1 (qi n) := qb_of (q := 1) h (Nat.le_refl _) (by omega)
def dotQ (d : Dr) (v : Rat × Rat) : Rat := qi d.1 * v.1 + qi d.2.1 * v.2

theorem k_Dot (d : Dr) (v : Rat × Rat) (hd : Sd d) (h1 : QB 1000000 1000 v.1) (h2 : QB 1000000 1000 v.2) : PureC Tryz.prog 191 [pD d, .agg (eV v)] (pQ (dotQ d v)) := by
  obtain ⟨a1, a2, a3, a4⟩ := hd
  have q1 := qb_qi (n := d.1) (N := 100000) (by omega)
  have q2 := qb_qi (n := d.2.1) (N := 100000) (by omega)
  refine PureC.of Tryz.func191 rfl Tryz.ntmps191 (vs := [.cell 4 31]) rfl (Nat.le_of_ble_eq_true rfl) rfl fun cx _ _ => ?_
  refine AWP.seq ?_
  refine AWP.region ?_
  refine OPS.a rfl (st_box rfl rfl) ?_
  refine OPS.a rfl (st_box rfl rfl) ?_
  refine OPS.a rfl (st_alloc ze31) ?_
  refine OPS.nil ?_
  refine AWP.seq ?_
  refine AWP.drw mixed ?_
  refine DRW.p rfl (by exact st_field_p off81_0 rfl) ?_
  refine DRW.p rfl (by exact st_load_vs sc3 rfl rfl rfl) ?_
  refine DRW.p rfl (st_call (L := [((.tmp 6), _), ((.const (.int .i64 1)), _)]) false pl38 ⟨rfl, rfl, trivial⟩ rfl (k_rqOf d.1 1 (show _ < _ by omega) (show _ < _ by omega)) rfl) ?_
  refine DRW.p rfl (by exact st_field_p off72_0 rfl) ?_
  refine DRW.p rfl (by exact st_load_va ag31 rfl rfl rfl rfl) ?_
  refine DRW.p rfl (st_call (L := [((.tmp 7), _), ((.tmp 9), _)]) false pl149 ⟨rfl, rfl, trivial⟩ rfl (b_rqMul _ _ _ _ q1 h1 rfl rfl rfl rfl rfl rfl) rfl) ?_
  refine DRW.p rfl (by exact st_field_p off81_1 rfl) ?_
  refine DRW.p rfl (by exact st_load_vs sc3 rfl rfl rfl) ?_
  refine DRW.p rfl (st_call (L := [((.tmp 12), _), ((.const (.int .i64 1)), _)]) false pl38 ⟨rfl, rfl, trivial⟩ rfl (k_rqOf d.2.1 1 (show _ < _ by omega) (show _ < _ by omega)) rfl) ?_
  refine DRW.p rfl (by exact st_field_p off72_1 rfl) ?_
  refine DRW.p rfl (by exact st_load_va ag31 rfl rfl rfl rfl) ?_
  refine DRW.p rfl (st_call (L := [((.tmp 13), _), ((.tmp 15), _)]) false pl149 ⟨rfl, rfl, trivial⟩ rfl (b_rqMul _ _ _ _ q2 h2 rfl rfl rfl rfl rfl rfl) rfl) ?_
  refine DRW.p rfl (st_call (L := [((.tmp 10), _), ((.tmp 16), _)]) false pl37 ⟨rfl, rfl, trivial⟩ rfl (b_rqAdd _ _ _ _ (qb_mul q1 h1) (qb_mul q2 h2) rfl rfl rfl rfl rfl rfl rfl rfl) rfl) ?_
  refine DRW.s (by exact st_store_v sz31 rfl rfl rfl rfl rfl rfl) ?_
  refine DRW.nil (by kernel_rfl) ?_
  refine AWP.ret ?_
  exact Ret.mk rfl rfl

/-- On the left of the side from corner i. -/
def side (l : List Pt) (v : Rat × Rat) (i : Nat) : Bool := decide (cmpQ (qi ((nxt l i).1 - (l.getD i default).1) * (v.2 - qi (l.getD i default).2)) (qi ((nxt l i).2 - (l.getD i default).2) * (v.1 - qi (l.getD i default).1)) < 0)
def hasQ (l : List Pt) (v : Rat × Rat) : Bool := (List.range l.length).all fun i => !side l v i

theorem k_Has (l : List Pt) (v : Rat × Rat) (hl : l.length ≤ 1000) (hp : ∀ p ∈ l, Sp p) (h1 : QB 1000000 1000 v.1) (h2 : QB 1000000 1000 v.2) : PureC Tryz.prog 72 [pPs l, .agg (eV v)] (pB (hasQ l v)) := by
  refine PureC.of Tryz.func72 rfl Tryz.ntmps72 (vs := [.tmp 4]) rfl (Nat.le_of_ble_eq_true rfl) rfl fun cx _ _ => ?_
  refine AWP.seq ?_
  refine AWP.region ?_
  refine OPS.a rfl (st_box rfl rfl) ?_
  refine OPS.p rfl (st_assign rfl) ?_
  refine OPS.nil ?_
  refine AWP.seq ?_
  refine AWP.seq ?_
  refine AWP.region ?_
  refine OPS.p rfl (st_move rfl) ?_
  refine OPS.p rfl (st_len un66 rfl rfl) ?_
  refine OPS.p rfl (st_move rfl) ?_
  refine OPS.nil ?_
  refine AWP.block ?_
  refine AWP.loopR (σ := Nat) (fun (zz : Nat) => ⟨[(0, pPs l), (3, .ptr 0 0), (11, pI l.length), (12, pI zz)], [(0, .var ((eV v).map .cell))], 1⟩) (fun (zz : Nat) => zz ≤ l.length ∧ ∀ k, k < zz → side l v k = false) (fun (zz : Nat) => l.length - zz) (0) (Sub.r (Sub.mk' ⟨(by rfl), (by rfl), (by rfl), (by rfl), trivial⟩ ⟨(by rfl), trivial⟩ (by exact Nat.le_refl _))) (by exact ⟨by omega, fun k hk => absurd hk (by omega)⟩) ?_
  rintro i hinv
  have hinv : i ≤ l.length ∧ ∀ k, k < i → side l v k = false := hinv
  obtain ⟨k1, k2⟩ := hinv
  show AWP _ _ _ _ _ _ _ ⟨[(0, pPs l), (3, .ptr 0 0), (11, pI l.length), (12, pI i)], [(0, .var ((eV v).map .cell))], 1⟩
  refine AWP.seq ?_
  refine AWP.region ?_
  refine OPS.p rfl (st_lss rfl rfl) ?_
  refine OPS.nil ?_
  refine AWP.seq ?_
  refine AWP.condD rfl (fun hc2 => ?_) (fun hc2 => ?_)
  · have hi : i < l.length := by omega
    obtain ⟨x1, x2, x3, x4⟩ := hp _ (getD_mem hi)
    obtain ⟨y1, y2, y3, y4⟩ := hp _ (nxt_mem hi)
    have q1 := qb_qi (n := (l.getD i default).1) (N := 100000) (by omega)
    have q2 := qb_qi (n := (l.getD i default).2) (N := 100000) (by omega)
    have q3 := qb_qi (n := (nxt l i).1 - (l.getD i default).1) (N := 200000) (by omega)
    have q4 := qb_qi (n := (nxt l i).2 - (l.getD i default).2) (N := 200000) (by omega)
    refine AWP.skip ?_
    refine AWP.seq ?_
    refine AWP.block ?_
    refine AWP.seq ?_
    refine AWP.region ?_
    refine OPS.p rfl (st_move rfl) ?_
    refine OPS.p rfl (st_assign rfl) ?_
    refine OPS.nil ?_
    refine AWP.seq ?_
    refine AWP.drw mixed ?_
    refine DRW.p rfl (st_move rfl) ?_
    refine DRW.p rfl (st_move rfl) ?_
    refine DRW.p rfl (by exact st_index_R es66 rfl rfl (fun _ => rfl) rfl (by omega) (by omega) (by rfl)) ?_
    refine DRW.p rfl (by exact st_load_Rn ag148 rfl (fun _ => rfl) rfl (by omega)) ?_
    refine DRW.p rfl (st_move rfl) ?_
    refine DRW.p rfl (st_move rfl) ?_
    refine DRW.p rfl (st_call (L := [((.tmp 19), _), ((.tmp 20), _)]) false pl167 ⟨rfl, rfl, trivial⟩ rfl (k_next l i hi (by omega)) rfl) ?_
    refine DRW.a rfl (st_alloc ze148) ?_
    refine DRW.a rfl (st_alloc ze148) ?_
    refine DRW.s (by exact st_store_v sz148 rfl rfl rfl rfl rfl rfl) ?_
    refine DRW.s (by exact st_store_v sz148 rfl rfl rfl rfl rfl rfl) ?_
    refine DRW.nil (by kernel_rfl) ?_
    refine AWP.seq ?_
    refine AWP.drw mixed ?_
    refine DRW.p rfl (by exact st_field_p off72_0 rfl) ?_
    refine DRW.p rfl (by exact st_load_va ag31 rfl rfl rfl rfl) ?_
    refine DRW.p rfl (by exact st_field_p off148_0 rfl) ?_
    refine DRW.p rfl (by exact st_load_vs sc3 rfl rfl rfl) ?_
    refine DRW.p rfl (st_call (L := [((.tmp 25), _), ((.const (.int .i64 1)), _)]) false pl57 ⟨rfl, rfl, trivial⟩ rfl (k_qOf (l.getD i default).1 1 (show _ < _ by omega) (show _ < _ by omega)) rfl) ?_
    refine DRW.p rfl (st_call (L := [((.tmp 23), _), ((.tmp 26), _)]) false pl182 ⟨rfl, rfl, trivial⟩ rfl (b_qSub _ _ _ _ h1 q1 rfl rfl rfl rfl rfl rfl rfl rfl) rfl) ?_
    refine DRW.p rfl (by exact st_field_p off72_1 rfl) ?_
    refine DRW.p rfl (by exact st_load_va ag31 rfl rfl rfl rfl) ?_
    refine DRW.p rfl (by exact st_field_p off148_1 rfl) ?_
    refine DRW.p rfl (by exact st_load_vs sc3 rfl rfl rfl) ?_
    refine DRW.p rfl (st_call (L := [((.tmp 31), _), ((.const (.int .i64 1)), _)]) false pl57 ⟨rfl, rfl, trivial⟩ rfl (k_qOf (l.getD i default).2 1 (show _ < _ by omega) (show _ < _ by omega)) rfl) ?_
    refine DRW.p rfl (st_call (L := [((.tmp 29), _), ((.tmp 32), _)]) false pl182 ⟨rfl, rfl, trivial⟩ rfl (b_qSub _ _ _ _ h2 q2 rfl rfl rfl rfl rfl rfl rfl rfl) rfl) ?_
    refine DRW.a rfl (st_alloc ze31) ?_
    refine DRW.a rfl (st_alloc ze31) ?_
    refine DRW.s (by exact st_store_v sz31 rfl rfl rfl rfl rfl rfl) ?_
    refine DRW.s (by exact st_store_v sz31 rfl rfl rfl rfl rfl rfl) ?_
    refine DRW.nil (by kernel_rfl) ?_
    refine AWP.seq ?_
    refine AWP.drw mixed ?_
    refine DRW.p rfl (by exact st_field_p off148_0 rfl) ?_
    refine DRW.p rfl (by exact st_load_vs sc3 rfl rfl rfl) ?_
    refine DRW.p rfl (by exact st_field_p off148_0 rfl) ?_
    refine DRW.p rfl (by exact st_load_vs sc3 rfl rfl rfl) ?_
    refine DRW.p rfl (by exact st_sub_i rfl rfl (by omega) (by omega)) ?_
    refine DRW.p rfl (st_call (L := [((.tmp 38), _), ((.const (.int .i64 1)), _)]) false pl57 ⟨rfl, rfl, trivial⟩ rfl (k_qOf ((nxt l i).1 - (l.getD i default).1) 1 (show _ < _ by omega) (show _ < _ by omega)) rfl) ?_
    refine DRW.p rfl (by exact st_load_va ag31 rfl rfl rfl rfl) ?_
    refine DRW.p rfl (st_call (L := [((.tmp 39), _), ((.tmp 40), _)]) false pl67 ⟨rfl, rfl, trivial⟩ rfl (b_qMul _ _ _ _ q3 (qb_sub h2 q2) rfl rfl rfl rfl) rfl) ?_
    refine DRW.p rfl (by exact st_field_p off148_1 rfl) ?_
    refine DRW.p rfl (by exact st_load_vs sc3 rfl rfl rfl) ?_
    refine DRW.p rfl (by exact st_field_p off148_1 rfl) ?_
    refine DRW.p rfl (by exact st_load_vs sc3 rfl rfl rfl) ?_
    refine DRW.p rfl (by exact st_sub_i rfl rfl (by omega) (by omega)) ?_
    refine DRW.p rfl (st_call (L := [((.tmp 46), _), ((.const (.int .i64 1)), _)]) false pl57 ⟨rfl, rfl, trivial⟩ rfl (k_qOf ((nxt l i).2 - (l.getD i default).2) 1 (show _ < _ by omega) (show _ < _ by omega)) rfl) ?_
    refine DRW.p rfl (by exact st_load_va ag31 rfl rfl rfl rfl) ?_
    refine DRW.p rfl (st_call (L := [((.tmp 47), _), ((.tmp 48), _)]) false pl67 ⟨rfl, rfl, trivial⟩ rfl (b_qMul _ _ _ _ q4 (qb_sub h1 q1) rfl rfl rfl rfl) rfl) ?_
    refine DRW.p rfl (st_call (L := [((.tmp 41), _), ((.tmp 49), _)]) false pl128 ⟨rfl, rfl, trivial⟩ rfl (b_qCompare _ _ _ _ (qb_mul q3 (qb_sub h2 q2)) (qb_mul q4 (qb_sub h1 q1)) rfl rfl rfl rfl rfl rfl) rfl) ?_
    refine DRW.p rfl (st_lss rfl rfl) ?_
    refine DRW.nil (by kernel_rfl) ?_
    refine AWP.condD rfl (fun hc6 => ?_) (fun hc6 => ?_)
    · refine AWP.seq ?_
      refine AWP.region ?_
      refine OPS.p rfl (st_assign rfl) ?_
      refine OPS.nil ?_
      refine AWP.ret ?_
      refine Ret.mk rfl (congrArg pB ?_)
      symm
      rw [hasQ, List.all_eq_false]
      exact ⟨i, List.mem_range.2 hi, by rw [show side l v i = true from decide_eq_true hc6]; simp⟩
    · refine AWP.skip ?_
      refine AWP.region ?_
      refine OPS.p rfl (by exact st_add_i rfl rfl (by omega) (by omega)) ?_
      refine OPS.p rfl (st_move rfl) ?_
      refine OPS.nil ?_
      refine ⟨(i + 1), (Ren.r (Ren.mk' (ρ := [(0, 0)]) rfl ⟨(by rfl), (by rfl), (by rfl), (by rfl), trivial⟩ ⟨(by rfl), trivial⟩)), ?_, ?_⟩
      · try dsimp only
        refine ⟨by omega, fun k hk => ?_⟩
        by_cases hki : k = i
        · subst hki
          exact decide_eq_false hc6
        · exact k2 k (by omega)
      · try dsimp only
        omega
  · refine AWP.exit ?_
    refine AWP.seq ?_
    refine AWP.region ?_
    refine OPS.p rfl (st_assign rfl) ?_
    refine OPS.nil ?_
    refine AWP.ret ?_
    refine Ret.mk rfl (congrArg pB ?_)
    symm
    rw [hasQ, List.all_eq_true]
    intro k hk
    rw [k2 k (by have := List.mem_range.1 hk; omega)]
    rfl
end Go.Proofs.Gh.Tryz
end
section
set_option linter.unusedVariables false
set_option linter.unusedSimpArgs false
set_option maxRecDepth 4000
namespace Go.Proofs.Gh.Tryz
open Go Go.Proofs Go.Proofs.Gh

/-- The first index from i on with this property, or -1. -/
def idxFrom {α : Type} [Inhabited α] (p : α → Bool) (l : List α) (i : Nat) : Int := match (List.range l.length).find? fun k => p (l.getD k default) && decide (i ≤ k) with
  | some k => k
  | none => -1

-- left out here: k_IndexP

-- left out here: k_ContainsP

-- left out here: k_Valid1
end Go.Proofs.Gh.Tryz
end
section
set_option linter.unusedVariables false
set_option linter.unusedSimpArgs false
set_option maxRecDepth 4000
namespace Go.Proofs.Gh.Tryz
open Go Go.Proofs Go.Proofs.Gh

/-- A valid shape of small coordinates; 'ls i' is the length of side i. -/
structure Good (l : List Pt) (ls : Nat → Nat) : Prop where
  len : 3 ≤ l.length ∧ l.length ≤ 8
  sp : ∀ p ∈ l, Sp p
  side : ∀ i, i < l.length → ((nxt l i).1 - (l.getD i default).1) * ((nxt l i).1 - (l.getD i default).1) + ((nxt l i).2 - (l.getD i default).2) * ((nxt l i).2 - (l.getD i default).2) = ls i * ls i ∧ 0 < ls i ∧ ls i ≤ 400000
  left : ∀ i k, i < l.length → k < l.length → k ≠ i → k ≠ (i + 1) % l.length → 0 < cross (l.getD i default) (nxt l i) (l.getD k default)
def dirOf (l : List Pt) (ls : Nat → Nat) (i : Nat) : Dr := nrm ((nxt l i).1 - (l.getD i default).1) ((nxt l i).2 - (l.getD i default).2) (ls i)
theorem k_side {l : List Pt} {ls : Nat → Nat} (h : Good l ls) {i : Nat} (hi : i < l.length) : PureC Tryz.prog 166 [pP (l.getD i default), pP (nxt l i)] (.tup [pD (dirOf l ls i), pB true]) :=
  k_Norm _ _ (ls i) (h.sp _ (getD_mem hi)) (h.sp _ (nxt_mem hi)) (h.side i hi).1 (h.side i hi).2.1 (h.side i hi).2.2

-- left out here: k_Valid
end Go.Proofs.Gh.Tryz
end
section
set_option linter.unusedVariables false
set_option linter.unusedSimpArgs false
set_option maxRecDepth 4000
namespace Go.Proofs.Gh.Tryz
open Go Go.Proofs Go.Proofs.Gh

theorem k_Most1 (d : Dr) (p q : Pt) (hd : Sd d) (hp : Sp p) (hq : Sp q) : PureC Tryz.prog 252 [pP p, pP q, .fptr (eD d)] (pI (cmpI (dot d p) (dot d q))) := by
  refine PureC.of Tryz.func252 rfl Tryz.ntmps252 (vs := [.tmp 5]) rfl (Nat.le_of_ble_eq_true rfl) rfl fun cx _ _ => ?_
  refine AWP.seq ?_
  refine AWP.region ?_
  refine OPS.a rfl (st_box rfl rfl) ?_
  refine OPS.a rfl (st_box rfl rfl) ?_
  refine OPS.p rfl (st_assign rfl) ?_
  refine OPS.nil ?_
  refine AWP.seq ?_
  refine AWP.drw mixed ?_
  refine DRW.p rfl (by exact st_load_fa ag81 rfl (by exact Nat.le_refl _)) ?_
  refine DRW.p rfl (by exact st_load_va ag148 rfl rfl rfl rfl) ?_
  refine DRW.p rfl (st_call (L := [((.tmp 6), _), ((.tmp 7), _)]) false pl250 ⟨rfl, rfl, trivial⟩ rfl (k_dot d p hd hp) rfl) ?_
  refine DRW.p rfl (by exact st_load_fa ag81 rfl (by exact Nat.le_refl _)) ?_
  refine DRW.p rfl (by exact st_load_va ag148 rfl rfl rfl rfl) ?_
  refine DRW.p rfl (st_call (L := [((.tmp 9), _), ((.tmp 10), _)]) false pl250 ⟨rfl, rfl, trivial⟩ rfl (k_dot d q hd hq) rfl) ?_
  refine DRW.p rfl (st_call (L := [((.tmp 8), _), ((.tmp 11), _)]) false pl171 ⟨rfl, rfl, trivial⟩ rfl (k_cmp _ _) rfl) ?_
  refine DRW.p rfl (st_assign rfl) ?_
  refine DRW.nil (by kernel_rfl) ?_
  refine AWP.ret ?_
  exact Ret.mk rfl rfl

/-- The first of the corners before i that is farthest in a direction. -/
def maxTo (l : List Pt) (d : Dr) : Nat → Pt
  | 0 => l.getD 0 default
  | i + 1 => if dot d (maxTo l d i) < dot d (l.getD i default) then l.getD i default else maxTo l d i
theorem maxTo_mem {l : List Pt} {d : Dr} (h : 0 < l.length) : ∀ {i : Nat}, i ≤ l.length → maxTo l d i ∈ l
  | 0, _ => getD_mem h
  | i + 1, hi => by
    unfold maxTo
    split
    · exact getD_mem (by omega)
    · exact maxTo_mem h (by omega)
def most (l : List Pt) (d : Dr) : Int := dot d (maxTo l d l.length)
theorem cmpI_pos {a b : Int} : 0 < cmpI a b ↔ b < a := by unfold cmpI; split <;> (try split) <;> omega

theorem k_MaxP (l : List Pt) (d : Dr) (h0 : 0 < l.length) (hl : l.length ≤ 1000) (hp : ∀ p ∈ l, Sp p) (hd : Sd d) : PureC Tryz.prog 251 [pPs l, .func 252 [.fptr (eD d)]] (pP (maxTo l d l.length)) := by
  refine PureC.of Tryz.func251 rfl Tryz.ntmps251 (vs := [.cell 4 148]) rfl (Nat.le_of_ble_eq_true rfl) rfl fun cx _ _ => ?_
  refine AWP.seq ?_
  refine AWP.region ?_
  refine OPS.a rfl (st_alloc ze148) ?_
  refine OPS.nil ?_
  refine AWP.seq ?_
  refine AWP.seq ?_
  refine AWP.region ?_
  refine OPS.p rfl (st_move rfl) ?_
  refine OPS.p rfl (st_len un66 rfl rfl) ?_
  refine OPS.p rfl (st_lss rfl rfl) ?_
  refine OPS.nil ?_
  refine AWP.cond_f rfl ((decide_eq_false (by omega))) ?_
  refine AWP.skip ?_
  refine AWP.seq ?_
  refine AWP.region ?_
  refine OPS.p rfl (st_move rfl) ?_
  refine OPS.p rfl (by exact st_index_R es66 rfl rfl (fun _ => rfl) rfl (by omega) (by omega) (by rfl)) ?_
  refine OPS.p rfl (by exact st_load_Rn ag148 rfl (fun _ => rfl) rfl (by omega)) ?_
  refine OPS.a rfl (st_alloc ze148) ?_
  refine OPS.s (by exact st_store_v sz148 rfl rfl rfl rfl rfl rfl) ?_
  refine OPS.nil ?_
  refine AWP.seq ?_
  refine AWP.seq ?_
  refine AWP.region ?_
  refine OPS.p rfl (st_assign rfl) ?_
  refine OPS.nil ?_
  refine AWP.block ?_
  refine AWP.loopR (σ := Nat × Pt) (fun (zz : Nat × Pt) => ⟨[(0, pPs l), (1, .func 252 [.fptr (eD d)]), (4, .ptr 0 0), (5, .ptr 1 0), (6, pI zz.1)], [(0, .var [pI 0, pI 0]), (1, .var [pI zz.2.1, pI zz.2.2])], 2⟩) (fun (zz : Nat × Pt) => 1 ≤ zz.1 ∧ zz.1 ≤ l.length ∧ zz.2 = maxTo l d zz.1) (fun (zz : Nat × Pt) => l.length - zz.1) (1, l.getD 0 default) (Sub.r (Sub.mk' ⟨(by rfl), (by rfl), (by rfl), (by rfl), (by rfl), trivial⟩ ⟨(by rfl), (by rfl), trivial⟩ (by exact Nat.le_refl _))) (by exact ⟨by omega, by omega, by simp [maxTo]⟩) ?_
  rintro ⟨i, m⟩ hinv
  have hinv : 1 ≤ i ∧ i ≤ l.length ∧ m = maxTo l d i := hinv
  obtain ⟨h1, h2, h3⟩ := hinv
  show AWP _ _ _ _ _ _ _ ⟨[(0, pPs l), (1, .func 252 [.fptr (eD d)]), (4, .ptr 0 0), (5, .ptr 1 0), (6, pI i)], [(0, .var [pI 0, pI 0]), (1, .var [pI m.1, pI m.2])], 2⟩
  refine AWP.seq ?_
  refine AWP.seq ?_
  refine AWP.region ?_
  refine OPS.p rfl (st_move rfl) ?_
  refine OPS.p rfl (st_move rfl) ?_
  refine OPS.p rfl (st_len un66 rfl rfl) ?_
  refine OPS.p rfl (st_lss rfl rfl) ?_
  refine OPS.nil ?_
  refine AWP.condD rfl (fun hc5 => ?_) (fun hc5 => ?_)
  · have hi : i < l.length := by omega
    have hm : Sp m := by rw [h3]; exact hp _ (maxTo_mem h0 (by omega))
    refine AWP.skip ?_
    refine AWP.seq ?_
    refine AWP.block ?_
    refine AWP.seq ?_
    refine AWP.drw mixed ?_
    refine DRW.p rfl (st_move rfl) ?_
    refine DRW.p rfl (st_move rfl) ?_
    refine DRW.p rfl (st_move rfl) ?_
    refine DRW.p rfl (by exact st_index_R es66 rfl rfl (fun _ => rfl) rfl (by omega) (by omega) (by rfl)) ?_
    refine DRW.p rfl (by exact st_load_Rn ag148 rfl (fun _ => rfl) rfl (by omega)) ?_
    refine DRW.p rfl (by exact st_load_va ag148 rfl rfl rfl rfl) ?_
    refine DRW.p rfl (st_callv (L := [((.tmp 24), _), ((.tmp 25), _)]) false rfl pl252 ⟨rfl, rfl, trivial⟩ rfl (k_Most1 d (l.getD i default) m hd (hp _ (getD_mem hi)) hm) rfl) ?_
    refine DRW.p rfl (st_gtr rfl rfl) ?_
    refine DRW.nil (by kernel_rfl) ?_
    refine AWP.condD rfl (fun hc7 => ?_) (fun hc7 => ?_)
    · refine AWP.region ?_
      refine OPS.p rfl (st_move rfl) ?_
      refine OPS.p rfl (st_move rfl) ?_
      refine OPS.p rfl (by exact st_index_R es66 rfl rfl (fun _ => rfl) rfl (by omega) (by omega) (by rfl)) ?_
      refine OPS.p rfl (by exact st_load_Rn ag148 rfl (fun _ => rfl) rfl (by omega)) ?_
      refine OPS.s (by exact st_store_v sz148 rfl rfl rfl rfl rfl rfl) ?_
      refine OPS.nil ?_
      refine AWP.region ?_
      refine OPS.p rfl (st_move rfl) ?_
      refine OPS.p rfl (by exact st_add_i rfl rfl (by omega) (by omega)) ?_
      refine OPS.p rfl (st_assign rfl) ?_
      refine OPS.nil ?_
      refine ⟨(i + 1, l.getD i default), (Sub.r (Sub.mk' ⟨(by rfl), (by rfl), (by rfl), (by rfl), (by rfl), trivial⟩ ⟨(by rfl), (by rfl), trivial⟩ (by exact Nat.le_refl _))), ?_, ?_⟩
      · try dsimp only
        refine ⟨by omega, by omega, ?_⟩
        rw [maxTo, ← h3, if_pos (cmpI_pos.1 hc7)]
      · try dsimp only
        omega
    · refine AWP.skip ?_
      refine AWP.region ?_
      refine OPS.p rfl (st_move rfl) ?_
      refine OPS.p rfl (by exact st_add_i rfl rfl (by omega) (by omega)) ?_
      refine OPS.p rfl (st_assign rfl) ?_
      refine OPS.nil ?_
      refine ⟨(i + 1, m), (Sub.r (Sub.mk' ⟨(by rfl), (by rfl), (by rfl), (by rfl), (by rfl), trivial⟩ ⟨(by rfl), (by rfl), trivial⟩ (by exact Nat.le_refl _))), ?_, ?_⟩
      · try dsimp only
        refine ⟨by omega, by omega, ?_⟩
        rw [maxTo, ← h3, if_neg (fun h => hc7 (cmpI_pos.2 h))]
      · try dsimp only
        omega
  · refine AWP.exit ?_
    refine AWP.seq ?_
    have hi : i = l.length := by omega
    subst hi
    refine AWP.region ?_
    refine OPS.p rfl (by exact st_load_va ag148 rfl rfl rfl rfl) ?_
    refine OPS.s (by exact st_store_v sz148 rfl rfl rfl rfl rfl rfl) ?_
    refine OPS.nil ?_
    refine AWP.ret ?_
    refine Ret.mk rfl ?_
    rw [← h3]
    rfl

theorem k_Most (l : List Pt) (d : Dr) (h0 : 0 < l.length) (hl : l.length ≤ 1000) (hp : ∀ p ∈ l, Sp p) (hd : Sd d) : PureC Tryz.prog 164 [pPs l, pD d] (pI (most l d)) := by
  refine PureC.of Tryz.func164 rfl Tryz.ntmps164 (vs := [.tmp 4]) rfl (Nat.le_of_ble_eq_true rfl) rfl fun cx _ _ => ?_
  refine AWP.seq ?_
  refine AWP.region ?_
  refine OPS.a rfl (st_box rfl rfl) ?_
  refine OPS.p rfl (st_assign rfl) ?_
  refine OPS.nil ?_
  refine AWP.seq ?_
  refine AWP.drw mixed ?_
  refine DRW.p rfl (by exact st_load_va ag81 rfl rfl rfl rfl) ?_
  refine DRW.p rfl (st_move rfl) ?_
  refine DRW.p rfl (st_makeFunc (L := [((.tmp 3), _)]) ⟨rfl, trivial⟩) ?_
  refine DRW.p rfl (st_call (L := [((.tmp 6), _), ((.tmp 7), _)]) false pl251 ⟨rfl, rfl, trivial⟩ rfl (k_MaxP l d h0 hl hp hd) rfl) ?_
  refine DRW.p rfl (st_call (L := [((.tmp 5), _), ((.tmp 8), _)]) false pl250 ⟨rfl, rfl, trivial⟩ rfl (k_dot d _ hd (hp _ (maxTo_mem h0 (Nat.le_refl _)))) rfl) ?_
  refine DRW.p rfl (st_assign rfl) ?_
  refine DRW.nil (by kernel_rfl) ?_
  refine AWP.ret ?_
  exact Ret.mk rfl rfl
end Go.Proofs.Gh.Tryz
end
