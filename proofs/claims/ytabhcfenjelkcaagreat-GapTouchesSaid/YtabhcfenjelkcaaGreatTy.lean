/-
  Closed facts on the types and functions of the loaded program: printed by a program of this session (gen.py).
-/
import Derived.Test.YtabhcfenjelkcaaGreatGhD
import Derived.Test.YtabhcfenjelkcaaGreatProg
section
set_option maxRecDepth 100000
namespace Go.Proofs.Gh.Tryz
open Go Go.Proofs Go.Proofs.Gh
theorem mixed : (Tryz.prog.follows .mixedOrders) = true := by kernel_rfl
theorem zf29 : zeroF Tryz.prog 29 = some [(.bool false), (.sl 0 [])] := by kernel_rfl
theorem pl_29 : structPl Tryz.prog 29 = some [(0, 1), (1, 1)] := by kernel_rfl
theorem zf31 : zeroF Tryz.prog 31 = some [(.bool false), (.sl 0 []), (.bool false), (.sl 0 [])] := by kernel_rfl
theorem pl_31 : structPl Tryz.prog 31 = some [(0, 2), (2, 2)] := by kernel_rfl
theorem zf60 : zeroF Tryz.prog 60 = some [(.bool false), (.sl 0 []), (.bool false), (.sl 0 []), (.bool false), (.sl 0 []), (.bool false), (.sl 0 [])] := by kernel_rfl
theorem pa_60 : arrPl Tryz.prog 60 = some 4 := by kernel_rfl
theorem zf72 : zeroF Tryz.prog 72 = some [(.bool false), (.sl 0 []), (.bool false), (.sl 0 []), (.bool false), (.sl 0 []), (.bool false), (.sl 0 [])] := by kernel_rfl
theorem pl_72 : structPl Tryz.prog 72 = some [(0, 4), (4, 4)] := by kernel_rfl
theorem zf81 : zeroF Tryz.prog 81 = some [(.int .i64 0), (.int .i64 0), (.int .i64 0)] := by kernel_rfl
theorem pl_81 : structPl Tryz.prog 81 = some [(0, 1), (1, 1), (2, 1)] := by kernel_rfl
theorem zf83 : zeroF Tryz.prog 83 = some [(.int .i64 0), (.int .i64 0), (.int .i64 0), (.int .i64 0)] := by kernel_rfl
theorem pl_83 : structPl Tryz.prog 83 = some [(0, 3), (3, 1)] := by kernel_rfl
theorem zf98 : zeroF Tryz.prog 98 = some [(.sl 0 []), (.bool false), (.sl 0 []), (.bool false), (.sl 0 []), (.bool false), (.sl 0 []), (.bool false), (.sl 0 [])] := by kernel_rfl
theorem pl_98 : structPl Tryz.prog 98 = some [(0, 1), (1, 4), (5, 4)] := by kernel_rfl
theorem zf148 : zeroF Tryz.prog 148 = some [(.int .i64 0), (.int .i64 0)] := by kernel_rfl
theorem pl_148 : structPl Tryz.prog 148 = some [(0, 1), (1, 1)] := by kernel_rfl
theorem zf177 : zeroF Tryz.prog 177 = some [(.sl 0 []), (.bool false), (.sl 0 []), (.bool false), (.sl 0 []), (.bool false), (.sl 0 []), (.bool false), (.sl 0 [])] := by kernel_rfl
theorem pl_177 : structPl Tryz.prog 177 = some [(0, 9)] := by kernel_rfl
theorem ei22 : elemInfo Tryz.prog 22 = some ⟨3, [(.int .i64 0)], 1, 8⟩ := by kernel_rfl
theorem es22 : elemSz Tryz.prog 22 = some 1 := by kernel_rfl
theorem ei23 : elemInfo Tryz.prog 23 = some ⟨31, [(.bool false), (.sl 0 []), (.bool false), (.sl 0 [])], 4, 64⟩ := by kernel_rfl
theorem es23 : elemSz Tryz.prog 23 = some 4 := by kernel_rfl
theorem ei24 : elemInfo Tryz.prog 24 = some ⟨31, [(.bool false), (.sl 0 []), (.bool false), (.sl 0 [])], 4, 64⟩ := by kernel_rfl
theorem es24 : elemSz Tryz.prog 24 = some 4 := by kernel_rfl
theorem ei34 : elemInfo Tryz.prog 34 = some ⟨24, [(.sl 0 [])], 1, 24⟩ := by kernel_rfl
theorem es34 : elemSz Tryz.prog 34 = some 1 := by kernel_rfl
theorem ei56 : elemInfo Tryz.prog 56 = some ⟨60, [(.bool false), (.sl 0 []), (.bool false), (.sl 0 []), (.bool false), (.sl 0 []), (.bool false), (.sl 0 [])], 8, 128⟩ := by kernel_rfl
theorem es56 : elemSz Tryz.prog 56 = some 8 := by kernel_rfl
theorem ei66 : elemInfo Tryz.prog 66 = some ⟨148, [(.int .i64 0), (.int .i64 0)], 2, 16⟩ := by kernel_rfl
theorem es66 : elemSz Tryz.prog 66 = some 2 := by kernel_rfl
theorem ei68 : elemInfo Tryz.prog 68 = some ⟨83, [(.int .i64 0), (.int .i64 0), (.int .i64 0), (.int .i64 0)], 4, 32⟩ := by kernel_rfl
theorem es68 : elemSz Tryz.prog 68 = some 4 := by kernel_rfl
theorem ei89 : elemInfo Tryz.prog 89 = some ⟨5, [(.int .u8 0)], 1, 1⟩ := by kernel_rfl
theorem es89 : elemSz Tryz.prog 89 = some 1 := by kernel_rfl
theorem ei92 : elemInfo Tryz.prog 92 = some ⟨89, [(.sl 0 [])], 1, 24⟩ := by kernel_rfl
theorem es92 : elemSz Tryz.prog 92 = some 1 := by kernel_rfl
theorem ei102 : elemInfo Tryz.prog 102 = some ⟨98, [(.sl 0 []), (.bool false), (.sl 0 []), (.bool false), (.sl 0 []), (.bool false), (.sl 0 []), (.bool false), (.sl 0 [])], 9, 152⟩ := by kernel_rfl
theorem es102 : elemSz Tryz.prog 102 = some 9 := by kernel_rfl
theorem ei200 : elemInfo Tryz.prog 200 = some ⟨81, [(.int .i64 0), (.int .i64 0), (.int .i64 0)], 3, 24⟩ := by kernel_rfl
theorem es200 : elemSz Tryz.prog 200 = some 3 := by kernel_rfl
theorem ns81 : isScal Tryz.prog 81 = false := by kernel_rfl
theorem eg81 : Tryz.prog.eqGuardType Tryz.prog.depth 81 = false := by kernel_rfl
theorem eq81 (a0 b0 : Int) (a1 b1 : Int) (a2 b2 : Int) : eqT Tryz.prog 100 81 [(.int .i64 a0), (.int .i64 a1), (.int .i64 a2)] [(.int .i64 b0), (.int .i64 b1), (.int .i64 b2)] = some ((a0 == b0) && ((a1 == b1) && ((a2 == b2) && true))) := by kernel_rfl
theorem ns148 : isScal Tryz.prog 148 = false := by kernel_rfl
theorem eg148 : Tryz.prog.eqGuardType Tryz.prog.depth 148 = false := by kernel_rfl
theorem eq148 (a0 b0 : Int) (a1 b1 : Int) : eqT Tryz.prog 100 148 [(.int .i64 a0), (.int .i64 a1)] [(.int .i64 b0), (.int .i64 b1)] = some ((a0 == b0) && ((a1 == b1) && true)) := by kernel_rfl
-- index of 60 (array)
theorem sc3 : isScal Tryz.prog 3 = true := by kernel_rfl
theorem sc4 : isScal Tryz.prog 4 = true := by kernel_rfl
theorem sc5 : isScal Tryz.prog 5 = true := by kernel_rfl
theorem sc22 : isScal Tryz.prog 22 = true := by kernel_rfl
theorem sc24 : isScal Tryz.prog 24 = true := by kernel_rfl
theorem ag29 : aggSz Tryz.prog 29 = some 2 := by kernel_rfl
theorem ag31 : aggSz Tryz.prog 31 = some 4 := by kernel_rfl
theorem sc34 : isScal Tryz.prog 34 = true := by kernel_rfl
theorem sc40 : isScal Tryz.prog 40 = true := by kernel_rfl
theorem sc56 : isScal Tryz.prog 56 = true := by kernel_rfl
theorem ag60 : aggSz Tryz.prog 60 = some 8 := by kernel_rfl
theorem sc66 : isScal Tryz.prog 66 = true := by kernel_rfl
theorem sc68 : isScal Tryz.prog 68 = true := by kernel_rfl
theorem ag72 : aggSz Tryz.prog 72 = some 8 := by kernel_rfl
theorem ag81 : aggSz Tryz.prog 81 = some 3 := by kernel_rfl
theorem ag83 : aggSz Tryz.prog 83 = some 4 := by kernel_rfl
theorem sc89 : isScal Tryz.prog 89 = true := by kernel_rfl
theorem ag98 : aggSz Tryz.prog 98 = some 9 := by kernel_rfl
theorem ag148 : aggSz Tryz.prog 148 = some 2 := by kernel_rfl
theorem sc175 : isScal Tryz.prog 175 = true := by kernel_rfl
theorem sc197 : isScal Tryz.prog 197 = true := by kernel_rfl
theorem off29_0 : fieldOff Tryz.prog 29 0 = some 0 := by kernel_rfl
theorem off29_1 : fieldOff Tryz.prog 29 1 = some 1 := by kernel_rfl
theorem off31_0 : fieldOff Tryz.prog 31 0 = some 0 := by kernel_rfl
theorem off31_1 : fieldOff Tryz.prog 31 1 = some 2 := by kernel_rfl
theorem off72_0 : fieldOff Tryz.prog 72 0 = some 0 := by kernel_rfl
theorem off72_1 : fieldOff Tryz.prog 72 1 = some 4 := by kernel_rfl
theorem off81_0 : fieldOff Tryz.prog 81 0 = some 0 := by kernel_rfl
theorem off81_1 : fieldOff Tryz.prog 81 1 = some 1 := by kernel_rfl
theorem off81_2 : fieldOff Tryz.prog 81 2 = some 2 := by kernel_rfl
theorem off83_0 : fieldOff Tryz.prog 83 0 = some 0 := by kernel_rfl
theorem off83_1 : fieldOff Tryz.prog 83 1 = some 3 := by kernel_rfl
theorem off98_0 : fieldOff Tryz.prog 98 0 = some 0 := by kernel_rfl
theorem off98_1 : fieldOff Tryz.prog 98 1 = some 1 := by kernel_rfl
theorem off98_2 : fieldOff Tryz.prog 98 2 = some 5 := by kernel_rfl
theorem off148_0 : fieldOff Tryz.prog 148 0 = some 0 := by kernel_rfl
theorem off148_1 : fieldOff Tryz.prog 148 1 = some 1 := by kernel_rfl
theorem off177_0 : fieldOff Tryz.prog 177 0 = some 0 := by kernel_rfl
theorem pl2 : plainFn Tryz.prog 2 = true := by kernel_rfl
theorem pl3 : plainFn Tryz.prog 3 = true := by kernel_rfl
theorem pl4 : plainFn Tryz.prog 4 = true := by kernel_rfl
theorem pl5 : plainFn Tryz.prog 5 = true := by kernel_rfl
theorem pl6 : plainFn Tryz.prog 6 = true := by kernel_rfl
theorem pl7 : plainFn Tryz.prog 7 = true := by kernel_rfl
theorem pl8 : plainFn Tryz.prog 8 = true := by kernel_rfl
theorem pl9 : plainFn Tryz.prog 9 = true := by kernel_rfl
theorem pl10 : plainFn Tryz.prog 10 = true := by kernel_rfl
theorem pl11 : plainFn Tryz.prog 11 = true := by kernel_rfl
theorem pl12 : plainFn Tryz.prog 12 = true := by kernel_rfl
theorem pl13 : plainFn Tryz.prog 13 = true := by kernel_rfl
theorem pl14 : plainFn Tryz.prog 14 = true := by kernel_rfl
theorem pl15 : plainFn Tryz.prog 15 = true := by kernel_rfl
theorem pl16 : plainFn Tryz.prog 16 = true := by kernel_rfl
theorem pl17 : plainFn Tryz.prog 17 = true := by kernel_rfl
theorem pl18 : plainFn Tryz.prog 18 = true := by kernel_rfl
theorem pl19 : plainFn Tryz.prog 19 = true := by kernel_rfl
theorem pl20 : plainFn Tryz.prog 20 = true := by kernel_rfl
theorem pl21 : plainFn Tryz.prog 21 = true := by kernel_rfl
theorem pl22 : plainFn Tryz.prog 22 = true := by kernel_rfl
theorem pl23 : plainFn Tryz.prog 23 = true := by kernel_rfl
theorem pl24 : plainFn Tryz.prog 24 = true := by kernel_rfl
theorem pl25 : plainFn Tryz.prog 25 = true := by kernel_rfl
theorem pl26 : plainFn Tryz.prog 26 = true := by kernel_rfl
theorem pl27 : plainFn Tryz.prog 27 = true := by kernel_rfl
theorem pl28 : plainFn Tryz.prog 28 = true := by kernel_rfl
theorem pl29 : plainFn Tryz.prog 29 = true := by kernel_rfl
theorem pl30 : plainFn Tryz.prog 30 = true := by kernel_rfl
theorem pl31 : plainFn Tryz.prog 31 = true := by kernel_rfl
theorem pl32 : plainFn Tryz.prog 32 = true := by kernel_rfl
theorem pl33 : plainFn Tryz.prog 33 = true := by kernel_rfl
theorem pl34 : plainFn Tryz.prog 34 = true := by kernel_rfl
theorem pl35 : plainFn Tryz.prog 35 = true := by kernel_rfl
theorem pl36 : plainFn Tryz.prog 36 = true := by kernel_rfl
theorem pl37 : plainFn Tryz.prog 37 = true := by kernel_rfl
theorem pl38 : plainFn Tryz.prog 38 = true := by kernel_rfl
theorem pl39 : plainFn Tryz.prog 39 = true := by kernel_rfl
theorem pl40 : plainFn Tryz.prog 40 = true := by kernel_rfl
theorem pl41 : plainFn Tryz.prog 41 = true := by kernel_rfl
theorem pl42 : plainFn Tryz.prog 42 = true := by kernel_rfl
theorem pl43 : plainFn Tryz.prog 43 = true := by kernel_rfl
theorem pl44 : plainFn Tryz.prog 44 = true := by kernel_rfl
theorem pl45 : plainFn Tryz.prog 45 = true := by kernel_rfl
theorem pl46 : plainFn Tryz.prog 46 = true := by kernel_rfl
theorem pl47 : plainFn Tryz.prog 47 = true := by kernel_rfl
theorem pl48 : plainFn Tryz.prog 48 = true := by kernel_rfl
theorem pl49 : plainFn Tryz.prog 49 = true := by kernel_rfl
theorem pl50 : plainFn Tryz.prog 50 = true := by kernel_rfl
theorem pl51 : plainFn Tryz.prog 51 = true := by kernel_rfl
theorem pl52 : plainFn Tryz.prog 52 = true := by kernel_rfl
theorem pl53 : plainFn Tryz.prog 53 = true := by kernel_rfl
theorem pl54 : plainFn Tryz.prog 54 = true := by kernel_rfl
theorem pl55 : plainFn Tryz.prog 55 = true := by kernel_rfl
theorem pl56 : plainFn Tryz.prog 56 = true := by kernel_rfl
theorem pl57 : plainFn Tryz.prog 57 = true := by kernel_rfl
theorem pl58 : plainFn Tryz.prog 58 = true := by kernel_rfl
theorem pl59 : plainFn Tryz.prog 59 = true := by kernel_rfl
theorem pl60 : plainFn Tryz.prog 60 = true := by kernel_rfl
theorem pl61 : plainFn Tryz.prog 61 = true := by kernel_rfl
theorem pl62 : plainFn Tryz.prog 62 = true := by kernel_rfl
theorem pl63 : plainFn Tryz.prog 63 = true := by kernel_rfl
theorem pl64 : plainFn Tryz.prog 64 = true := by kernel_rfl
theorem pl65 : plainFn Tryz.prog 65 = true := by kernel_rfl
theorem pl66 : plainFn Tryz.prog 66 = true := by kernel_rfl
theorem pl67 : plainFn Tryz.prog 67 = true := by kernel_rfl
theorem pl68 : plainFn Tryz.prog 68 = true := by kernel_rfl
theorem pl69 : plainFn Tryz.prog 69 = true := by kernel_rfl
theorem pl70 : plainFn Tryz.prog 70 = true := by kernel_rfl
theorem pl71 : plainFn Tryz.prog 71 = true := by kernel_rfl
theorem pl72 : plainFn Tryz.prog 72 = true := by kernel_rfl
theorem pl73 : plainFn Tryz.prog 73 = true := by kernel_rfl
theorem pl74 : plainFn Tryz.prog 74 = true := by kernel_rfl
theorem pl75 : plainFn Tryz.prog 75 = true := by kernel_rfl
theorem pl76 : plainFn Tryz.prog 76 = true := by kernel_rfl
theorem pl77 : plainFn Tryz.prog 77 = true := by kernel_rfl
theorem pl78 : plainFn Tryz.prog 78 = true := by kernel_rfl
theorem pl79 : plainFn Tryz.prog 79 = true := by kernel_rfl
theorem pl80 : plainFn Tryz.prog 80 = true := by kernel_rfl
theorem pl81 : plainFn Tryz.prog 81 = true := by kernel_rfl
theorem pl82 : plainFn Tryz.prog 82 = true := by kernel_rfl
theorem pl83 : plainFn Tryz.prog 83 = true := by kernel_rfl
theorem pl84 : plainFn Tryz.prog 84 = true := by kernel_rfl
theorem pl85 : plainFn Tryz.prog 85 = true := by kernel_rfl
theorem pl86 : plainFn Tryz.prog 86 = true := by kernel_rfl
theorem pl87 : plainFn Tryz.prog 87 = true := by kernel_rfl
theorem pl88 : plainFn Tryz.prog 88 = true := by kernel_rfl
theorem pl89 : plainFn Tryz.prog 89 = true := by kernel_rfl
theorem pl90 : plainFn Tryz.prog 90 = true := by kernel_rfl
theorem pl91 : plainFn Tryz.prog 91 = true := by kernel_rfl
theorem pl92 : plainFn Tryz.prog 92 = true := by kernel_rfl
theorem pl93 : plainFn Tryz.prog 93 = true := by kernel_rfl
theorem pl94 : plainFn Tryz.prog 94 = true := by kernel_rfl
theorem pl95 : plainFn Tryz.prog 95 = true := by kernel_rfl
theorem pl96 : plainFn Tryz.prog 96 = true := by kernel_rfl
theorem pl97 : plainFn Tryz.prog 97 = true := by kernel_rfl
theorem pl98 : plainFn Tryz.prog 98 = true := by kernel_rfl
theorem pl99 : plainFn Tryz.prog 99 = true := by kernel_rfl
theorem pl100 : plainFn Tryz.prog 100 = true := by kernel_rfl
theorem pl101 : plainFn Tryz.prog 101 = true := by kernel_rfl
theorem pl102 : plainFn Tryz.prog 102 = true := by kernel_rfl
theorem pl103 : plainFn Tryz.prog 103 = true := by kernel_rfl
theorem pl104 : plainFn Tryz.prog 104 = true := by kernel_rfl
theorem pl105 : plainFn Tryz.prog 105 = true := by kernel_rfl
theorem pl106 : plainFn Tryz.prog 106 = true := by kernel_rfl
theorem pl107 : plainFn Tryz.prog 107 = true := by kernel_rfl
theorem pl108 : plainFn Tryz.prog 108 = true := by kernel_rfl
theorem pl109 : plainFn Tryz.prog 109 = true := by kernel_rfl
theorem pl110 : plainFn Tryz.prog 110 = true := by kernel_rfl
theorem pl111 : plainFn Tryz.prog 111 = true := by kernel_rfl
theorem pl112 : plainFn Tryz.prog 112 = true := by kernel_rfl
theorem pl113 : plainFn Tryz.prog 113 = true := by kernel_rfl
theorem pl114 : plainFn Tryz.prog 114 = true := by kernel_rfl
theorem pl115 : plainFn Tryz.prog 115 = true := by kernel_rfl
theorem pl116 : plainFn Tryz.prog 116 = true := by kernel_rfl
theorem pl117 : plainFn Tryz.prog 117 = true := by kernel_rfl
theorem pl118 : plainFn Tryz.prog 118 = true := by kernel_rfl
theorem pl119 : plainFn Tryz.prog 119 = true := by kernel_rfl
theorem pl120 : plainFn Tryz.prog 120 = true := by kernel_rfl
theorem pl121 : plainFn Tryz.prog 121 = true := by kernel_rfl
theorem pl122 : plainFn Tryz.prog 122 = true := by kernel_rfl
theorem pl123 : plainFn Tryz.prog 123 = true := by kernel_rfl
theorem pl124 : plainFn Tryz.prog 124 = true := by kernel_rfl
theorem pl125 : plainFn Tryz.prog 125 = true := by kernel_rfl
theorem pl126 : plainFn Tryz.prog 126 = true := by kernel_rfl
theorem pl127 : plainFn Tryz.prog 127 = true := by kernel_rfl
theorem pl128 : plainFn Tryz.prog 128 = true := by kernel_rfl
theorem pl129 : plainFn Tryz.prog 129 = true := by kernel_rfl
theorem pl130 : plainFn Tryz.prog 130 = true := by kernel_rfl
theorem pl131 : plainFn Tryz.prog 131 = true := by kernel_rfl
theorem pl132 : plainFn Tryz.prog 132 = true := by kernel_rfl
theorem pl133 : plainFn Tryz.prog 133 = true := by kernel_rfl
theorem pl134 : plainFn Tryz.prog 134 = true := by kernel_rfl
theorem pl135 : plainFn Tryz.prog 135 = true := by kernel_rfl
theorem pl136 : plainFn Tryz.prog 136 = true := by kernel_rfl
theorem pl137 : plainFn Tryz.prog 137 = true := by kernel_rfl
theorem pl138 : plainFn Tryz.prog 138 = true := by kernel_rfl
theorem pl139 : plainFn Tryz.prog 139 = true := by kernel_rfl
theorem pl140 : plainFn Tryz.prog 140 = true := by kernel_rfl
theorem pl141 : plainFn Tryz.prog 141 = true := by kernel_rfl
theorem pl142 : plainFn Tryz.prog 142 = true := by kernel_rfl
theorem pl143 : plainFn Tryz.prog 143 = true := by kernel_rfl
theorem pl144 : plainFn Tryz.prog 144 = true := by kernel_rfl
theorem pl145 : plainFn Tryz.prog 145 = true := by kernel_rfl
theorem pl146 : plainFn Tryz.prog 146 = true := by kernel_rfl
theorem pl147 : plainFn Tryz.prog 147 = true := by kernel_rfl
theorem pl148 : plainFn Tryz.prog 148 = true := by kernel_rfl
theorem pl149 : plainFn Tryz.prog 149 = true := by kernel_rfl
theorem pl150 : plainFn Tryz.prog 150 = true := by kernel_rfl
theorem pl151 : plainFn Tryz.prog 151 = true := by kernel_rfl
theorem pl152 : plainFn Tryz.prog 152 = true := by kernel_rfl
theorem pl153 : plainFn Tryz.prog 153 = true := by kernel_rfl
theorem pl154 : plainFn Tryz.prog 154 = true := by kernel_rfl
theorem pl155 : plainFn Tryz.prog 155 = true := by kernel_rfl
theorem pl156 : plainFn Tryz.prog 156 = true := by kernel_rfl
theorem pl157 : plainFn Tryz.prog 157 = true := by kernel_rfl
theorem pl158 : plainFn Tryz.prog 158 = true := by kernel_rfl
theorem pl159 : plainFn Tryz.prog 159 = true := by kernel_rfl
theorem pl160 : plainFn Tryz.prog 160 = true := by kernel_rfl
theorem pl161 : plainFn Tryz.prog 161 = true := by kernel_rfl
theorem pl162 : plainFn Tryz.prog 162 = true := by kernel_rfl
theorem pl163 : plainFn Tryz.prog 163 = true := by kernel_rfl
theorem pl164 : plainFn Tryz.prog 164 = true := by kernel_rfl
theorem pl165 : plainFn Tryz.prog 165 = true := by kernel_rfl
theorem pl166 : plainFn Tryz.prog 166 = true := by kernel_rfl
theorem pl167 : plainFn Tryz.prog 167 = true := by kernel_rfl
theorem pl168 : plainFn Tryz.prog 168 = true := by kernel_rfl
theorem pl169 : plainFn Tryz.prog 169 = true := by kernel_rfl
theorem pl170 : plainFn Tryz.prog 170 = true := by kernel_rfl
theorem pl171 : plainFn Tryz.prog 171 = true := by kernel_rfl
theorem pl172 : plainFn Tryz.prog 172 = true := by kernel_rfl
theorem pl173 : plainFn Tryz.prog 173 = true := by kernel_rfl
theorem pl174 : plainFn Tryz.prog 174 = true := by kernel_rfl
theorem pl175 : plainFn Tryz.prog 175 = true := by kernel_rfl
theorem pl176 : plainFn Tryz.prog 176 = true := by kernel_rfl
theorem pl177 : plainFn Tryz.prog 177 = true := by kernel_rfl
theorem pl178 : plainFn Tryz.prog 178 = true := by kernel_rfl
theorem pl179 : plainFn Tryz.prog 179 = true := by kernel_rfl
theorem pl180 : plainFn Tryz.prog 180 = true := by kernel_rfl
theorem pl181 : plainFn Tryz.prog 181 = true := by kernel_rfl
theorem pl182 : plainFn Tryz.prog 182 = true := by kernel_rfl
theorem pl183 : plainFn Tryz.prog 183 = true := by kernel_rfl
theorem pl184 : plainFn Tryz.prog 184 = true := by kernel_rfl
theorem pl185 : plainFn Tryz.prog 185 = true := by kernel_rfl
theorem pl186 : plainFn Tryz.prog 186 = true := by kernel_rfl
theorem pl187 : plainFn Tryz.prog 187 = true := by kernel_rfl
theorem pl188 : plainFn Tryz.prog 188 = true := by kernel_rfl
theorem pl189 : plainFn Tryz.prog 189 = true := by kernel_rfl
theorem pl190 : plainFn Tryz.prog 190 = true := by kernel_rfl
theorem pl191 : plainFn Tryz.prog 191 = true := by kernel_rfl
theorem pl192 : plainFn Tryz.prog 192 = true := by kernel_rfl
theorem pl193 : plainFn Tryz.prog 193 = true := by kernel_rfl
theorem pl194 : plainFn Tryz.prog 194 = true := by kernel_rfl
theorem pl195 : plainFn Tryz.prog 195 = true := by kernel_rfl
theorem pl196 : plainFn Tryz.prog 196 = true := by kernel_rfl
theorem pl197 : plainFn Tryz.prog 197 = true := by kernel_rfl
theorem pl198 : plainFn Tryz.prog 198 = true := by kernel_rfl
theorem pl199 : plainFn Tryz.prog 199 = true := by kernel_rfl
theorem pl200 : plainFn Tryz.prog 200 = true := by kernel_rfl
theorem pl201 : plainFn Tryz.prog 201 = true := by kernel_rfl
theorem pl202 : plainFn Tryz.prog 202 = true := by kernel_rfl
theorem pl203 : plainFn Tryz.prog 203 = true := by kernel_rfl
theorem pl204 : plainFn Tryz.prog 204 = true := by kernel_rfl
theorem pl205 : plainFn Tryz.prog 205 = true := by kernel_rfl
theorem pl206 : plainFn Tryz.prog 206 = true := by kernel_rfl
theorem pl207 : plainFn Tryz.prog 207 = true := by kernel_rfl
theorem pl208 : plainFn Tryz.prog 208 = true := by kernel_rfl
theorem pl209 : plainFn Tryz.prog 209 = true := by kernel_rfl
theorem pl210 : plainFn Tryz.prog 210 = true := by kernel_rfl
theorem pl211 : plainFn Tryz.prog 211 = true := by kernel_rfl
theorem pl212 : plainFn Tryz.prog 212 = true := by kernel_rfl
theorem pl213 : plainFn Tryz.prog 213 = true := by kernel_rfl
theorem pl214 : plainFn Tryz.prog 214 = true := by kernel_rfl
theorem pl215 : plainFn Tryz.prog 215 = true := by kernel_rfl
theorem pl216 : plainFn Tryz.prog 216 = true := by kernel_rfl
theorem pl217 : plainFn Tryz.prog 217 = true := by kernel_rfl
theorem pl218 : plainFn Tryz.prog 218 = true := by kernel_rfl
theorem pl219 : plainFn Tryz.prog 219 = true := by kernel_rfl
theorem pl220 : plainFn Tryz.prog 220 = true := by kernel_rfl
theorem pl221 : plainFn Tryz.prog 221 = true := by kernel_rfl
theorem pl222 : plainFn Tryz.prog 222 = true := by kernel_rfl
theorem pl223 : plainFn Tryz.prog 223 = true := by kernel_rfl
theorem pl224 : plainFn Tryz.prog 224 = true := by kernel_rfl
theorem pl225 : plainFn Tryz.prog 225 = true := by kernel_rfl
theorem pl226 : plainFn Tryz.prog 226 = true := by kernel_rfl
theorem pl227 : plainFn Tryz.prog 227 = true := by kernel_rfl
theorem pl228 : plainFn Tryz.prog 228 = true := by kernel_rfl
theorem pl229 : plainFn Tryz.prog 229 = true := by kernel_rfl
theorem pl230 : plainFn Tryz.prog 230 = true := by kernel_rfl
theorem pl231 : plainFn Tryz.prog 231 = true := by kernel_rfl
theorem pl232 : plainFn Tryz.prog 232 = true := by kernel_rfl
theorem pl233 : plainFn Tryz.prog 233 = true := by kernel_rfl
theorem pl234 : plainFn Tryz.prog 234 = true := by kernel_rfl
theorem pl235 : plainFn Tryz.prog 235 = true := by kernel_rfl
theorem pl236 : plainFn Tryz.prog 236 = true := by kernel_rfl
theorem pl237 : plainFn Tryz.prog 237 = true := by kernel_rfl
theorem pl238 : plainFn Tryz.prog 238 = true := by kernel_rfl
theorem pl239 : plainFn Tryz.prog 239 = true := by kernel_rfl
theorem pl240 : plainFn Tryz.prog 240 = true := by kernel_rfl
theorem pl241 : plainFn Tryz.prog 241 = true := by kernel_rfl
theorem pl242 : plainFn Tryz.prog 242 = true := by kernel_rfl
theorem pl243 : plainFn Tryz.prog 243 = true := by kernel_rfl
theorem pl244 : plainFn Tryz.prog 244 = true := by kernel_rfl
theorem pl245 : plainFn Tryz.prog 245 = true := by kernel_rfl
theorem pl246 : plainFn Tryz.prog 246 = true := by kernel_rfl
theorem pl247 : plainFn Tryz.prog 247 = true := by kernel_rfl
theorem pl248 : plainFn Tryz.prog 248 = true := by kernel_rfl
theorem pl249 : plainFn Tryz.prog 249 = true := by kernel_rfl
theorem pl250 : plainFn Tryz.prog 250 = true := by kernel_rfl
theorem pl251 : plainFn Tryz.prog 251 = true := by kernel_rfl
theorem pl252 : plainFn Tryz.prog 252 = true := by kernel_rfl
theorem pl253 : plainFn Tryz.prog 253 = true := by kernel_rfl
theorem pl254 : plainFn Tryz.prog 254 = true := by kernel_rfl
theorem pl255 : plainFn Tryz.prog 255 = true := by kernel_rfl
theorem pl256 : plainFn Tryz.prog 256 = true := by kernel_rfl
theorem pl257 : plainFn Tryz.prog 257 = true := by kernel_rfl
theorem pl258 : plainFn Tryz.prog 258 = true := by kernel_rfl
theorem pl259 : plainFn Tryz.prog 259 = true := by kernel_rfl
theorem pl260 : plainFn Tryz.prog 260 = true := by kernel_rfl
theorem pl261 : plainFn Tryz.prog 261 = true := by kernel_rfl
theorem pl262 : plainFn Tryz.prog 262 = true := by kernel_rfl
theorem pl263 : plainFn Tryz.prog 263 = true := by kernel_rfl
theorem pl264 : plainFn Tryz.prog 264 = true := by kernel_rfl
theorem pl265 : plainFn Tryz.prog 265 = true := by kernel_rfl
theorem pl266 : plainFn Tryz.prog 266 = true := by kernel_rfl
theorem pl267 : plainFn Tryz.prog 267 = true := by kernel_rfl
theorem pl268 : plainFn Tryz.prog 268 = true := by kernel_rfl
theorem pl269 : plainFn Tryz.prog 269 = true := by kernel_rfl
theorem pl270 : plainFn Tryz.prog 270 = true := by kernel_rfl
theorem pl271 : plainFn Tryz.prog 271 = true := by kernel_rfl
theorem pl272 : plainFn Tryz.prog 272 = true := by kernel_rfl
theorem pl273 : plainFn Tryz.prog 273 = true := by kernel_rfl
theorem pl274 : plainFn Tryz.prog 274 = true := by kernel_rfl
theorem pl275 : plainFn Tryz.prog 275 = true := by kernel_rfl
theorem pl276 : plainFn Tryz.prog 276 = true := by kernel_rfl
theorem pl277 : plainFn Tryz.prog 277 = true := by kernel_rfl
theorem pl278 : plainFn Tryz.prog 278 = true := by kernel_rfl
theorem pl279 : plainFn Tryz.prog 279 = true := by kernel_rfl
theorem pl280 : plainFn Tryz.prog 280 = true := by kernel_rfl
theorem pl281 : plainFn Tryz.prog 281 = true := by kernel_rfl
theorem pl282 : plainFn Tryz.prog 282 = true := by kernel_rfl
theorem pl283 : plainFn Tryz.prog 283 = true := by kernel_rfl
theorem pl284 : plainFn Tryz.prog 284 = true := by kernel_rfl
theorem pl285 : plainFn Tryz.prog 285 = true := by kernel_rfl
theorem pl286 : plainFn Tryz.prog 286 = true := by kernel_rfl
theorem pl287 : plainFn Tryz.prog 287 = true := by kernel_rfl
theorem pl288 : plainFn Tryz.prog 288 = true := by kernel_rfl
theorem pl289 : plainFn Tryz.prog 289 = true := by kernel_rfl
theorem pl290 : plainFn Tryz.prog 290 = true := by kernel_rfl
theorem pl291 : plainFn Tryz.prog 291 = true := by kernel_rfl
theorem pl292 : plainFn Tryz.prog 292 = true := by kernel_rfl
theorem pl293 : plainFn Tryz.prog 293 = true := by kernel_rfl
theorem pl294 : plainFn Tryz.prog 294 = true := by kernel_rfl
theorem pl295 : plainFn Tryz.prog 295 = true := by kernel_rfl
theorem pl296 : plainFn Tryz.prog 296 = true := by kernel_rfl
theorem pl297 : plainFn Tryz.prog 297 = true := by kernel_rfl
theorem pl298 : plainFn Tryz.prog 298 = true := by kernel_rfl
theorem pl299 : plainFn Tryz.prog 299 = true := by kernel_rfl
theorem pl300 : plainFn Tryz.prog 300 = true := by kernel_rfl
theorem pl301 : plainFn Tryz.prog 301 = true := by kernel_rfl
theorem sz3 : tySz Tryz.prog 3 = some 1 := by kernel_rfl
theorem sz4 : tySz Tryz.prog 4 = some 1 := by kernel_rfl
theorem sz5 : tySz Tryz.prog 5 = some 1 := by kernel_rfl
theorem sz24 : tySz Tryz.prog 24 = some 1 := by kernel_rfl
theorem sz29 : tySz Tryz.prog 29 = some 2 := by kernel_rfl
theorem sz31 : tySz Tryz.prog 31 = some 4 := by kernel_rfl
theorem sz40 : tySz Tryz.prog 40 = some 1 := by kernel_rfl
theorem sz56 : tySz Tryz.prog 56 = some 1 := by kernel_rfl
theorem sz60 : tySz Tryz.prog 60 = some 8 := by kernel_rfl
theorem sz68 : tySz Tryz.prog 68 = some 1 := by kernel_rfl
theorem sz72 : tySz Tryz.prog 72 = some 8 := by kernel_rfl
theorem sz81 : tySz Tryz.prog 81 = some 3 := by kernel_rfl
theorem sz83 : tySz Tryz.prog 83 = some 4 := by kernel_rfl
theorem sz98 : tySz Tryz.prog 98 = some 9 := by kernel_rfl
theorem sz148 : tySz Tryz.prog 148 = some 2 := by kernel_rfl
theorem sz175 : tySz Tryz.prog 175 = some 1 := by kernel_rfl
theorem sz197 : tySz Tryz.prog 197 = some 1 := by kernel_rfl
theorem un3 : Tryz.prog.underlying 3 = some (.int .i64) := by kernel_rfl
theorem us3 : (Tryz.prog.underlying 3).isSome = true := by kernel_rfl
theorem un4 : Tryz.prog.underlying 4 = some .bool := by kernel_rfl
theorem un5 : Tryz.prog.underlying 5 = some (.int .u8) := by kernel_rfl
theorem us5 : (Tryz.prog.underlying 5).isSome = true := by kernel_rfl
theorem un22 : Tryz.prog.underlying 22 = some (.slice 3) := by kernel_rfl
theorem un23 : Tryz.prog.underlying 23 = some (.slice 31) := by kernel_rfl
theorem un24 : Tryz.prog.underlying 24 = some (.slice 31) := by kernel_rfl
theorem un34 : Tryz.prog.underlying 34 = some (.slice 24) := by kernel_rfl
theorem un56 : Tryz.prog.underlying 56 = some (.slice 60) := by kernel_rfl
theorem un57 : Tryz.prog.underlying 57 = some (.int .i64) := by kernel_rfl
theorem us57 : (Tryz.prog.underlying 57).isSome = true := by kernel_rfl
theorem un66 : Tryz.prog.underlying 66 = some (.slice 148) := by kernel_rfl
theorem un68 : Tryz.prog.underlying 68 = some (.slice 83) := by kernel_rfl
theorem un89 : Tryz.prog.underlying 89 = some (.slice 5) := by kernel_rfl
theorem un92 : Tryz.prog.underlying 92 = some (.slice 89) := by kernel_rfl
theorem un102 : Tryz.prog.underlying 102 = some (.slice 98) := by kernel_rfl
theorem un186 : Tryz.prog.underlying 186 = some (.int .u64) := by kernel_rfl
theorem us186 : (Tryz.prog.underlying 186).isSome = true := by kernel_rfl
theorem un200 : Tryz.prog.underlying 200 = some (.slice 81) := by kernel_rfl
theorem ze3 : tyZero Tryz.prog 3 = some (.int .i64 0) := by kernel_rfl
theorem ze29 : tyZero Tryz.prog 29 = some (.agg #[(.bool false), (.slice none 0 0)]) := by kernel_rfl
theorem ze31 : tyZero Tryz.prog 31 = some (.agg #[(.bool false), (.slice none 0 0), (.bool false), (.slice none 0 0)]) := by kernel_rfl
theorem ze40 : tyZero Tryz.prog 40 = some .nilFunc := by kernel_rfl
theorem ze60 : tyZero Tryz.prog 60 = some (.agg #[(.bool false), (.slice none 0 0), (.bool false), (.slice none 0 0), (.bool false), (.slice none 0 0), (.bool false), (.slice none 0 0)]) := by kernel_rfl
theorem ze68 : tyZero Tryz.prog 68 = some (.slice none 0 0) := by kernel_rfl
theorem ze72 : tyZero Tryz.prog 72 = some (.agg #[(.bool false), (.slice none 0 0), (.bool false), (.slice none 0 0), (.bool false), (.slice none 0 0), (.bool false), (.slice none 0 0)]) := by kernel_rfl
theorem ze81 : tyZero Tryz.prog 81 = some (.agg #[(.int .i64 0), (.int .i64 0), (.int .i64 0)]) := by kernel_rfl
theorem ze83 : tyZero Tryz.prog 83 = some (.agg #[(.int .i64 0), (.int .i64 0), (.int .i64 0), (.int .i64 0)]) := by kernel_rfl
theorem ze98 : tyZero Tryz.prog 98 = some (.agg #[(.slice none 0 0), (.bool false), (.slice none 0 0), (.bool false), (.slice none 0 0), (.bool false), (.slice none 0 0), (.bool false), (.slice none 0 0)]) := by kernel_rfl
theorem ze148 : tyZero Tryz.prog 148 = some (.agg #[(.int .i64 0), (.int .i64 0)]) := by kernel_rfl
theorem ze175 : tyZero Tryz.prog 175 = some (.pointer none) := by kernel_rfl
theorem ze197 : tyZero Tryz.prog 197 = some .nilFunc := by kernel_rfl
end Go.Proofs.Gh.Tryz
end
