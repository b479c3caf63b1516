/-
  Closed facts on the types and functions of the loaded program: printed by a program of this session (gen.py).
-/
import Derived.Test.YtabhcfenjelkcaaGhD
import Derived.Test.YtabhcfenjelkcaaProg
section
set_option maxRecDepth 100000
namespace Go.Proofs.Gh.Try
open Go Go.Proofs Go.Proofs.Gh
theorem mixed : (Try.prog.follows .mixedOrders) = true := by kernel_rfl
theorem zf29 : zeroF Try.prog 29 = some [(.bool false), (.sl 0 [])] := by kernel_rfl
theorem pl_29 : structPl Try.prog 29 = some [(0, 1), (1, 1)] := by kernel_rfl
theorem zf31 : zeroF Try.prog 31 = some [(.bool false), (.sl 0 []), (.bool false), (.sl 0 [])] := by kernel_rfl
theorem pl_31 : structPl Try.prog 31 = some [(0, 2), (2, 2)] := by kernel_rfl
theorem zf33 : zeroF Try.prog 33 = some [(.bool false), (.sl 0 []), (.bool false), (.sl 0 []), (.bool false), (.sl 0 []), (.bool false), (.sl 0 [])] := by kernel_rfl
theorem pl_33 : structPl Try.prog 33 = some [(0, 4), (4, 4)] := by kernel_rfl
theorem zf38 : zeroF Try.prog 38 = some [(.int .i64 0), (.int .i64 0), (.int .i64 0)] := by kernel_rfl
theorem pl_38 : structPl Try.prog 38 = some [(0, 1), (1, 1), (2, 1)] := by kernel_rfl
theorem zf40 : zeroF Try.prog 40 = some [(.int .i64 0), (.int .i64 0), (.int .i64 0), (.int .i64 0)] := by kernel_rfl
theorem pl_40 : structPl Try.prog 40 = some [(0, 3), (3, 1)] := by kernel_rfl
theorem zf55 : zeroF Try.prog 55 = some [(.int .i64 0), (.int .i64 0)] := by kernel_rfl
theorem pl_55 : structPl Try.prog 55 = some [(0, 1), (1, 1)] := by kernel_rfl
theorem ei22 : elemInfo Try.prog 22 = some ⟨3, [(.int .i64 0)], 1, 8⟩ := by kernel_rfl
theorem es22 : elemSz Try.prog 22 = some 1 := by kernel_rfl
theorem ei23 : elemInfo Try.prog 23 = some ⟨55, [(.int .i64 0), (.int .i64 0)], 2, 16⟩ := by kernel_rfl
theorem es23 : elemSz Try.prog 23 = some 2 := by kernel_rfl
theorem ei25 : elemInfo Try.prog 25 = some ⟨40, [(.int .i64 0), (.int .i64 0), (.int .i64 0), (.int .i64 0)], 4, 32⟩ := by kernel_rfl
theorem es25 : elemSz Try.prog 25 = some 4 := by kernel_rfl
theorem ei86 : elemInfo Try.prog 86 = some ⟨38, [(.int .i64 0), (.int .i64 0), (.int .i64 0)], 3, 24⟩ := by kernel_rfl
theorem es86 : elemSz Try.prog 86 = some 3 := by kernel_rfl
theorem ns38 : isScal Try.prog 38 = false := by kernel_rfl
theorem eg38 : Try.prog.eqGuardType Try.prog.depth 38 = false := by kernel_rfl
theorem eq38 (a0 b0 : Int) (a1 b1 : Int) (a2 b2 : Int) : eqT Try.prog 100 38 [(.int .i64 a0), (.int .i64 a1), (.int .i64 a2)] [(.int .i64 b0), (.int .i64 b1), (.int .i64 b2)] = some ((a0 == b0) && ((a1 == b1) && ((a2 == b2) && true))) := by kernel_rfl
theorem ns40 : isScal Try.prog 40 = false := by kernel_rfl
theorem eg40 : Try.prog.eqGuardType Try.prog.depth 40 = false := by kernel_rfl
theorem eq40 (a0 b0 : Int) (a1 b1 : Int) (a2 b2 : Int) (a3 b3 : Int) : eqT Try.prog 100 40 [(.int .i64 a0), (.int .i64 a1), (.int .i64 a2), (.int .i64 a3)] [(.int .i64 b0), (.int .i64 b1), (.int .i64 b2), (.int .i64 b3)] = some (((a0 == b0) && ((a1 == b1) && ((a2 == b2) && true))) && ((a3 == b3) && true)) := by kernel_rfl
theorem ns55 : isScal Try.prog 55 = false := by kernel_rfl
theorem eg55 : Try.prog.eqGuardType Try.prog.depth 55 = false := by kernel_rfl
theorem eq55 (a0 b0 : Int) (a1 b1 : Int) : eqT Try.prog 100 55 [(.int .i64 a0), (.int .i64 a1)] [(.int .i64 b0), (.int .i64 b1)] = some ((a0 == b0) && ((a1 == b1) && true)) := by kernel_rfl
theorem sc3 : isScal Try.prog 3 = true := by kernel_rfl
theorem sc4 : isScal Try.prog 4 = true := by kernel_rfl
theorem sc22 : isScal Try.prog 22 = true := by kernel_rfl
theorem sc23 : isScal Try.prog 23 = true := by kernel_rfl
theorem sc25 : isScal Try.prog 25 = true := by kernel_rfl
theorem ag29 : aggSz Try.prog 29 = some 2 := by kernel_rfl
theorem ag31 : aggSz Try.prog 31 = some 4 := by kernel_rfl
theorem ag33 : aggSz Try.prog 33 = some 8 := by kernel_rfl
theorem ag38 : aggSz Try.prog 38 = some 3 := by kernel_rfl
theorem ag40 : aggSz Try.prog 40 = some 4 := by kernel_rfl
theorem ag55 : aggSz Try.prog 55 = some 2 := by kernel_rfl
theorem off29_0 : fieldOff Try.prog 29 0 = some 0 := by kernel_rfl
theorem off29_1 : fieldOff Try.prog 29 1 = some 1 := by kernel_rfl
theorem off31_0 : fieldOff Try.prog 31 0 = some 0 := by kernel_rfl
theorem off31_1 : fieldOff Try.prog 31 1 = some 2 := by kernel_rfl
theorem off33_0 : fieldOff Try.prog 33 0 = some 0 := by kernel_rfl
theorem off33_1 : fieldOff Try.prog 33 1 = some 4 := by kernel_rfl
theorem off38_0 : fieldOff Try.prog 38 0 = some 0 := by kernel_rfl
theorem off38_1 : fieldOff Try.prog 38 1 = some 1 := by kernel_rfl
theorem off38_2 : fieldOff Try.prog 38 2 = some 2 := by kernel_rfl
theorem off40_0 : fieldOff Try.prog 40 0 = some 0 := by kernel_rfl
theorem off40_1 : fieldOff Try.prog 40 1 = some 3 := by kernel_rfl
theorem off55_0 : fieldOff Try.prog 55 0 = some 0 := by kernel_rfl
theorem off55_1 : fieldOff Try.prog 55 1 = some 1 := by kernel_rfl
theorem pl2 : plainFn Try.prog 2 = true := by kernel_rfl
theorem pl3 : plainFn Try.prog 3 = true := by kernel_rfl
theorem pl4 : plainFn Try.prog 4 = true := by kernel_rfl
theorem pl5 : plainFn Try.prog 5 = true := by kernel_rfl
theorem pl6 : plainFn Try.prog 6 = true := by kernel_rfl
theorem pl7 : plainFn Try.prog 7 = true := by kernel_rfl
theorem pl8 : plainFn Try.prog 8 = true := by kernel_rfl
theorem pl9 : plainFn Try.prog 9 = true := by kernel_rfl
theorem pl10 : plainFn Try.prog 10 = true := by kernel_rfl
theorem pl11 : plainFn Try.prog 11 = true := by kernel_rfl
theorem pl12 : plainFn Try.prog 12 = true := by kernel_rfl
theorem pl13 : plainFn Try.prog 13 = true := by kernel_rfl
theorem pl14 : plainFn Try.prog 14 = true := by kernel_rfl
theorem pl15 : plainFn Try.prog 15 = true := by kernel_rfl
theorem pl16 : plainFn Try.prog 16 = true := by kernel_rfl
theorem pl17 : plainFn Try.prog 17 = true := by kernel_rfl
theorem pl18 : plainFn Try.prog 18 = true := by kernel_rfl
theorem pl19 : plainFn Try.prog 19 = true := by kernel_rfl
theorem pl20 : plainFn Try.prog 20 = true := by kernel_rfl
theorem pl21 : plainFn Try.prog 21 = true := by kernel_rfl
theorem pl22 : plainFn Try.prog 22 = true := by kernel_rfl
theorem pl23 : plainFn Try.prog 23 = true := by kernel_rfl
theorem pl24 : plainFn Try.prog 24 = true := by kernel_rfl
theorem pl25 : plainFn Try.prog 25 = true := by kernel_rfl
theorem pl26 : plainFn Try.prog 26 = true := by kernel_rfl
theorem pl27 : plainFn Try.prog 27 = true := by kernel_rfl
theorem pl28 : plainFn Try.prog 28 = true := by kernel_rfl
theorem pl29 : plainFn Try.prog 29 = true := by kernel_rfl
theorem pl30 : plainFn Try.prog 30 = true := by kernel_rfl
theorem pl31 : plainFn Try.prog 31 = true := by kernel_rfl
theorem pl32 : plainFn Try.prog 32 = true := by kernel_rfl
theorem pl33 : plainFn Try.prog 33 = true := by kernel_rfl
theorem pl34 : plainFn Try.prog 34 = true := by kernel_rfl
theorem pl35 : plainFn Try.prog 35 = true := by kernel_rfl
theorem pl36 : plainFn Try.prog 36 = true := by kernel_rfl
theorem pl37 : plainFn Try.prog 37 = true := by kernel_rfl
theorem pl38 : plainFn Try.prog 38 = true := by kernel_rfl
theorem pl39 : plainFn Try.prog 39 = true := by kernel_rfl
theorem pl40 : plainFn Try.prog 40 = true := by kernel_rfl
theorem pl41 : plainFn Try.prog 41 = true := by kernel_rfl
theorem pl42 : plainFn Try.prog 42 = true := by kernel_rfl
theorem pl43 : plainFn Try.prog 43 = true := by kernel_rfl
theorem pl44 : plainFn Try.prog 44 = true := by kernel_rfl
theorem pl45 : plainFn Try.prog 45 = true := by kernel_rfl
theorem pl46 : plainFn Try.prog 46 = true := by kernel_rfl
theorem pl47 : plainFn Try.prog 47 = true := by kernel_rfl
theorem pl48 : plainFn Try.prog 48 = true := by kernel_rfl
theorem pl49 : plainFn Try.prog 49 = true := by kernel_rfl
theorem pl50 : plainFn Try.prog 50 = true := by kernel_rfl
theorem pl51 : plainFn Try.prog 51 = true := by kernel_rfl
theorem pl52 : plainFn Try.prog 52 = true := by kernel_rfl
theorem pl53 : plainFn Try.prog 53 = true := by kernel_rfl
theorem pl54 : plainFn Try.prog 54 = true := by kernel_rfl
theorem pl55 : plainFn Try.prog 55 = true := by kernel_rfl
theorem pl56 : plainFn Try.prog 56 = true := by kernel_rfl
theorem pl57 : plainFn Try.prog 57 = true := by kernel_rfl
theorem pl58 : plainFn Try.prog 58 = true := by kernel_rfl
theorem pl59 : plainFn Try.prog 59 = true := by kernel_rfl
theorem pl60 : plainFn Try.prog 60 = true := by kernel_rfl
theorem pl61 : plainFn Try.prog 61 = true := by kernel_rfl
theorem pl62 : plainFn Try.prog 62 = true := by kernel_rfl
theorem pl63 : plainFn Try.prog 63 = true := by kernel_rfl
theorem pl64 : plainFn Try.prog 64 = true := by kernel_rfl
theorem pl65 : plainFn Try.prog 65 = true := by kernel_rfl
theorem pl66 : plainFn Try.prog 66 = true := by kernel_rfl
theorem pl67 : plainFn Try.prog 67 = true := by kernel_rfl
theorem pl68 : plainFn Try.prog 68 = true := by kernel_rfl
theorem pl69 : plainFn Try.prog 69 = true := by kernel_rfl
theorem pl70 : plainFn Try.prog 70 = true := by kernel_rfl
theorem pl71 : plainFn Try.prog 71 = true := by kernel_rfl
theorem pl72 : plainFn Try.prog 72 = true := by kernel_rfl
theorem pl73 : plainFn Try.prog 73 = true := by kernel_rfl
theorem pl74 : plainFn Try.prog 74 = true := by kernel_rfl
theorem pl75 : plainFn Try.prog 75 = true := by kernel_rfl
theorem pl76 : plainFn Try.prog 76 = true := by kernel_rfl
theorem pl77 : plainFn Try.prog 77 = true := by kernel_rfl
theorem pl78 : plainFn Try.prog 78 = true := by kernel_rfl
theorem pl79 : plainFn Try.prog 79 = true := by kernel_rfl
theorem pl80 : plainFn Try.prog 80 = true := by kernel_rfl
theorem pl81 : plainFn Try.prog 81 = true := by kernel_rfl
theorem pl82 : plainFn Try.prog 82 = true := by kernel_rfl
theorem pl83 : plainFn Try.prog 83 = true := by kernel_rfl
theorem pl84 : plainFn Try.prog 84 = true := by kernel_rfl
theorem pl85 : plainFn Try.prog 85 = true := by kernel_rfl
theorem pl86 : plainFn Try.prog 86 = true := by kernel_rfl
theorem pl87 : plainFn Try.prog 87 = true := by kernel_rfl
theorem pl88 : plainFn Try.prog 88 = true := by kernel_rfl
theorem pl89 : plainFn Try.prog 89 = true := by kernel_rfl
theorem pl90 : plainFn Try.prog 90 = true := by kernel_rfl
theorem pl91 : plainFn Try.prog 91 = true := by kernel_rfl
theorem pl92 : plainFn Try.prog 92 = true := by kernel_rfl
theorem pl93 : plainFn Try.prog 93 = true := by kernel_rfl
theorem pl94 : plainFn Try.prog 94 = true := by kernel_rfl
theorem pl95 : plainFn Try.prog 95 = true := by kernel_rfl
theorem pl96 : plainFn Try.prog 96 = true := by kernel_rfl
theorem pl97 : plainFn Try.prog 97 = true := by kernel_rfl
theorem pl98 : plainFn Try.prog 98 = true := by kernel_rfl
theorem pl99 : plainFn Try.prog 99 = true := by kernel_rfl
theorem pl100 : plainFn Try.prog 100 = true := by kernel_rfl
theorem pl101 : plainFn Try.prog 101 = true := by kernel_rfl
theorem pl102 : plainFn Try.prog 102 = true := by kernel_rfl
theorem pl103 : plainFn Try.prog 103 = true := by kernel_rfl
theorem pl104 : plainFn Try.prog 104 = true := by kernel_rfl
theorem pl105 : plainFn Try.prog 105 = true := by kernel_rfl
theorem pl106 : plainFn Try.prog 106 = true := by kernel_rfl
theorem pl107 : plainFn Try.prog 107 = true := by kernel_rfl
theorem pl108 : plainFn Try.prog 108 = true := by kernel_rfl
theorem pl109 : plainFn Try.prog 109 = true := by kernel_rfl
theorem sz3 : tySz Try.prog 3 = some 1 := by kernel_rfl
theorem sz4 : tySz Try.prog 4 = some 1 := by kernel_rfl
theorem sz25 : tySz Try.prog 25 = some 1 := by kernel_rfl
theorem sz29 : tySz Try.prog 29 = some 2 := by kernel_rfl
theorem sz31 : tySz Try.prog 31 = some 4 := by kernel_rfl
theorem sz33 : tySz Try.prog 33 = some 8 := by kernel_rfl
theorem sz38 : tySz Try.prog 38 = some 3 := by kernel_rfl
theorem sz55 : tySz Try.prog 55 = some 2 := by kernel_rfl
theorem un3 : Try.prog.underlying 3 = some (.int .i64) := by kernel_rfl
theorem us3 : (Try.prog.underlying 3).isSome = true := by kernel_rfl
theorem un4 : Try.prog.underlying 4 = some .bool := by kernel_rfl
theorem un22 : Try.prog.underlying 22 = some (.slice 3) := by kernel_rfl
theorem un23 : Try.prog.underlying 23 = some (.slice 55) := by kernel_rfl
theorem un25 : Try.prog.underlying 25 = some (.slice 40) := by kernel_rfl
theorem un86 : Try.prog.underlying 86 = some (.slice 38) := by kernel_rfl
theorem un91 : Try.prog.underlying 91 = some (.int .u64) := by kernel_rfl
theorem us91 : (Try.prog.underlying 91).isSome = true := by kernel_rfl
theorem ze25 : tyZero Try.prog 25 = some (.slice none 0 0) := by kernel_rfl
theorem ze29 : tyZero Try.prog 29 = some (.agg #[(.bool false), (.slice none 0 0)]) := by kernel_rfl
theorem ze31 : tyZero Try.prog 31 = some (.agg #[(.bool false), (.slice none 0 0), (.bool false), (.slice none 0 0)]) := by kernel_rfl
theorem ze33 : tyZero Try.prog 33 = some (.agg #[(.bool false), (.slice none 0 0), (.bool false), (.slice none 0 0), (.bool false), (.slice none 0 0), (.bool false), (.slice none 0 0)]) := by kernel_rfl
theorem ze38 : tyZero Try.prog 38 = some (.agg #[(.int .i64 0), (.int .i64 0), (.int .i64 0)]) := by kernel_rfl
theorem ze55 : tyZero Try.prog 55 = some (.agg #[(.int .i64 0), (.int .i64 0)]) := by kernel_rfl
end Go.Proofs.Gh.Try
end
