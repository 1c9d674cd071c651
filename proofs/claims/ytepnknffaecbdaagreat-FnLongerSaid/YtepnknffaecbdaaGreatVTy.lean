/- Facts of types and functions. -/
import Derived.Test.YtepnknffaecbdaaGreatProg
import Derived.Test.YtepnknffaecbdaaGreatVSxA
namespace Go.Proofs.YtepnknffaecbdaaGreat
open Go.Sx Go.RowKit
theorem ag118 : Ag Tryz.prog 118 5 := ⟨⟨_, Tryz.underlying118⟩, by kernel_rfl⟩
theorem ag26 : Ag Tryz.prog 26 6 := ⟨⟨_, Tryz.underlying26⟩, by kernel_rfl⟩
theorem ag29 : Ag Tryz.prog 29 7 := ⟨⟨_, Tryz.underlying29⟩, by kernel_rfl⟩
theorem ag34 : Ag Tryz.prog 34 2 := ⟨⟨_, Tryz.underlying34⟩, by kernel_rfl⟩
theorem ag36 : Ag Tryz.prog 36 3 := ⟨⟨_, Tryz.underlying36⟩, by kernel_rfl⟩
theorem ag67 : Ag Tryz.prog 67 3 := ⟨⟨_, Tryz.underlying67⟩, by kernel_rfl⟩
theorem ag71 : Ag Tryz.prog 71 2 := ⟨⟨_, Tryz.underlying71⟩, by kernel_rfl⟩
theorem ag79 : Ag Tryz.prog 79 2 := ⟨⟨_, Tryz.underlying79⟩, by kernel_rfl⟩
theorem bd104 : Built Tryz.prog 104 [.slice none 0 0, .int .i64 0, .int .i64 0] #[(0, 1), (1, 1), (2, 1)] := ⟨_, Tryz.underlying104, by unfold ZeroV; kernel_rfl, fun w => by kernel_rfl⟩
theorem bd118 : Built Tryz.prog 118 [.slice none 0 0, .slice none 0 0, .int .i64 0, .bool false, .bool false] #[(0, 1), (1, 1), (2, 1), (3, 1), (4, 1)] := ⟨_, Tryz.underlying118, by unfold ZeroV; kernel_rfl, fun w => by kernel_rfl⟩
theorem bd127 : Built Tryz.prog 127 [.string .empty, .int .i64 0, .int .i64 0] #[(0, 2), (2, 1)] := ⟨_, Tryz.underlying127, by unfold ZeroV; kernel_rfl, fun w => by kernel_rfl⟩
theorem bd166 : Built Tryz.prog 166 [.int .i64 0, .int .i64 0] #[(0, 1), (1, 1)] := ⟨_, Tryz.underlying166, by unfold ZeroV; kernel_rfl, fun w => by kernel_rfl⟩
theorem bd26 : Built Tryz.prog 26 [.int .i64 0, .int .i64 0, .int .i64 0, .bool false, .bool false, .slice none 0 0] #[(0, 1), (1, 1), (2, 1), (3, 1), (4, 1), (5, 1)] := ⟨_, Tryz.underlying26, by unfold ZeroV; kernel_rfl, fun w => by kernel_rfl⟩
theorem bd29 : Built Tryz.prog 29 [.int .i64 0, .int .i64 0, .int .i64 0, .bool false, .bool false, .slice none 0 0, .slice none 0 0] #[(0, 6), (6, 1)] := ⟨_, Tryz.underlying29, by unfold ZeroV; kernel_rfl, fun w => by kernel_rfl⟩
theorem bd34 : Built Tryz.prog 34 [.bool false, .slice none 0 0] #[(0, 1), (1, 1)] := ⟨_, Tryz.underlying34, by unfold ZeroV; kernel_rfl, fun w => by kernel_rfl⟩
theorem bd36 : Built Tryz.prog 36 [.int .i64 0, .int .i64 0, .slice none 0 0] #[(0, 1), (1, 1), (2, 1)] := ⟨_, Tryz.underlying36, by unfold ZeroV; kernel_rfl, fun w => by kernel_rfl⟩
theorem bd67 : Built Tryz.prog 67 [.int .i64 0, .int .i64 0, .int .i64 0] #[(0, 1), (1, 1), (2, 1)] := ⟨_, Tryz.underlying67, by unfold ZeroV; kernel_rfl, fun w => by kernel_rfl⟩
theorem bd71 : Built Tryz.prog 71 [.int .i64 0, .slice none 0 0] #[(0, 1), (1, 1)] := ⟨_, Tryz.underlying71, by unfold ZeroV; kernel_rfl, fun w => by kernel_rfl⟩
theorem bd79 : Built Tryz.prog 79 [.string .empty, .int .i64 0] #[(0, 1), (1, 1)] := ⟨_, Tryz.underlying79, by unfold ZeroV; kernel_rfl, fun w => by kernel_rfl⟩
theorem cl10 : Callable Tryz.prog 10 := callable Tryz.func10 (by kernel_rfl) rfl
theorem cl100 : Callable Tryz.prog 100 := callable Tryz.func100 (by kernel_rfl) rfl
theorem cl101 : Callable Tryz.prog 101 := callable Tryz.func101 (by kernel_rfl) rfl
theorem cl102 : Callable Tryz.prog 102 := callable Tryz.func102 (by kernel_rfl) rfl
theorem cl103 : Callable Tryz.prog 103 := callable Tryz.func103 (by kernel_rfl) rfl
theorem cl104 : Callable Tryz.prog 104 := callable Tryz.func104 (by kernel_rfl) rfl
theorem cl107 : Callable Tryz.prog 107 := callable Tryz.func107 (by kernel_rfl) rfl
theorem cl12 : Callable Tryz.prog 12 := callable Tryz.func12 (by kernel_rfl) rfl
theorem cl126 : Callable Tryz.prog 126 := callable Tryz.func126 (by kernel_rfl) rfl
theorem cl127 : Callable Tryz.prog 127 := callable Tryz.func127 (by kernel_rfl) rfl
theorem cl128 : Callable Tryz.prog 128 := callable Tryz.func128 (by kernel_rfl) rfl
theorem cl129 : Callable Tryz.prog 129 := callable Tryz.func129 (by kernel_rfl) rfl
theorem cl13 : Callable Tryz.prog 13 := callable Tryz.func13 (by kernel_rfl) rfl
theorem cl130 : Callable Tryz.prog 130 := callable Tryz.func130 (by kernel_rfl) rfl
theorem cl131 : Callable Tryz.prog 131 := callable Tryz.func131 (by kernel_rfl) rfl
theorem cl132 : Callable Tryz.prog 132 := callable Tryz.func132 (by kernel_rfl) rfl
theorem cl133 : Callable Tryz.prog 133 := callable Tryz.func133 (by kernel_rfl) rfl
theorem cl134 : Callable Tryz.prog 134 := callable Tryz.func134 (by kernel_rfl) rfl
theorem cl135 : Callable Tryz.prog 135 := callable Tryz.func135 (by kernel_rfl) rfl
theorem cl136 : Callable Tryz.prog 136 := callable Tryz.func136 (by kernel_rfl) rfl
theorem cl137 : Callable Tryz.prog 137 := callable Tryz.func137 (by kernel_rfl) rfl
theorem cl138 : Callable Tryz.prog 138 := callable Tryz.func138 (by kernel_rfl) rfl
theorem cl139 : Callable Tryz.prog 139 := callable Tryz.func139 (by kernel_rfl) rfl
theorem cl14 : Callable Tryz.prog 14 := callable Tryz.func14 (by kernel_rfl) rfl
theorem cl140 : Callable Tryz.prog 140 := callable Tryz.func140 (by kernel_rfl) rfl
theorem cl141 : Callable Tryz.prog 141 := callable Tryz.func141 (by kernel_rfl) rfl
theorem cl142 : Callable Tryz.prog 142 := callable Tryz.func142 (by kernel_rfl) rfl
theorem cl143 : Callable Tryz.prog 143 := callable Tryz.func143 (by kernel_rfl) rfl
theorem cl144 : Callable Tryz.prog 144 := callable Tryz.func144 (by kernel_rfl) rfl
theorem cl145 : Callable Tryz.prog 145 := callable Tryz.func145 (by kernel_rfl) rfl
theorem cl146 : Callable Tryz.prog 146 := callable Tryz.func146 (by kernel_rfl) rfl
theorem cl147 : Callable Tryz.prog 147 := callable Tryz.func147 (by kernel_rfl) rfl
theorem cl148 : Callable Tryz.prog 148 := callable Tryz.func148 (by kernel_rfl) rfl
theorem cl149 : Callable Tryz.prog 149 := callable Tryz.func149 (by kernel_rfl) rfl
theorem cl15 : Callable Tryz.prog 15 := callable Tryz.func15 (by kernel_rfl) rfl
theorem cl150 : Callable Tryz.prog 150 := callable Tryz.func150 (by kernel_rfl) rfl
theorem cl151 : Callable Tryz.prog 151 := callable Tryz.func151 (by kernel_rfl) rfl
theorem cl152 : Callable Tryz.prog 152 := callable Tryz.func152 (by kernel_rfl) rfl
theorem cl153 : Callable Tryz.prog 153 := callable Tryz.func153 (by kernel_rfl) rfl
theorem cl154 : Callable Tryz.prog 154 := callable Tryz.func154 (by kernel_rfl) rfl
theorem cl155 : Callable Tryz.prog 155 := callable Tryz.func155 (by kernel_rfl) rfl
theorem cl156 : Callable Tryz.prog 156 := callable Tryz.func156 (by kernel_rfl) rfl
theorem cl157 : Callable Tryz.prog 157 := callable Tryz.func157 (by kernel_rfl) rfl
theorem cl158 : Callable Tryz.prog 158 := callable Tryz.func158 (by kernel_rfl) rfl
theorem cl159 : Callable Tryz.prog 159 := callable Tryz.func159 (by kernel_rfl) rfl
theorem cl16 : Callable Tryz.prog 16 := callable Tryz.func16 (by kernel_rfl) rfl
theorem cl160 : Callable Tryz.prog 160 := callable Tryz.func160 (by kernel_rfl) rfl
theorem cl161 : Callable Tryz.prog 161 := callable Tryz.func161 (by kernel_rfl) rfl
theorem cl162 : Callable Tryz.prog 162 := callable Tryz.func162 (by kernel_rfl) rfl
theorem cl184 : Callable Tryz.prog 184 := callable Tryz.func184 (by kernel_rfl) rfl
theorem cl185 : Callable Tryz.prog 185 := callable Tryz.func185 (by kernel_rfl) rfl
theorem cl186 : Callable Tryz.prog 186 := callable Tryz.func186 (by kernel_rfl) rfl
theorem cl187 : Callable Tryz.prog 187 := callable Tryz.func187 (by kernel_rfl) rfl
theorem cl188 : Callable Tryz.prog 188 := callable Tryz.func188 (by kernel_rfl) rfl
theorem cl189 : Callable Tryz.prog 189 := callable Tryz.func189 (by kernel_rfl) rfl
theorem cl190 : Callable Tryz.prog 190 := callable Tryz.func190 (by kernel_rfl) rfl
theorem cl191 : Callable Tryz.prog 191 := callable Tryz.func191 (by kernel_rfl) rfl
theorem cl192 : Callable Tryz.prog 192 := callable Tryz.func192 (by kernel_rfl) rfl
theorem cl193 : Callable Tryz.prog 193 := callable Tryz.func193 (by kernel_rfl) rfl
theorem cl194 : Callable Tryz.prog 194 := callable Tryz.func194 (by kernel_rfl) rfl
theorem cl195 : Callable Tryz.prog 195 := callable Tryz.func195 (by kernel_rfl) rfl
theorem cl196 : Callable Tryz.prog 196 := callable Tryz.func196 (by kernel_rfl) rfl
theorem cl197 : Callable Tryz.prog 197 := callable Tryz.func197 (by kernel_rfl) rfl
theorem cl198 : Callable Tryz.prog 198 := callable Tryz.func198 (by kernel_rfl) rfl
theorem cl199 : Callable Tryz.prog 199 := callable Tryz.func199 (by kernel_rfl) rfl
theorem cl200 : Callable Tryz.prog 200 := callable Tryz.func200 (by kernel_rfl) rfl
theorem cl201 : Callable Tryz.prog 201 := callable Tryz.func201 (by kernel_rfl) rfl
theorem cl202 : Callable Tryz.prog 202 := callable Tryz.func202 (by kernel_rfl) rfl
theorem cl203 : Callable Tryz.prog 203 := callable Tryz.func203 (by kernel_rfl) rfl
theorem cl204 : Callable Tryz.prog 204 := callable Tryz.func204 (by kernel_rfl) rfl
theorem cl205 : Callable Tryz.prog 205 := callable Tryz.func205 (by kernel_rfl) rfl
theorem cl206 : Callable Tryz.prog 206 := callable Tryz.func206 (by kernel_rfl) rfl
theorem cl207 : Callable Tryz.prog 207 := callable Tryz.func207 (by kernel_rfl) rfl
theorem cl208 : Callable Tryz.prog 208 := callable Tryz.func208 (by kernel_rfl) rfl
theorem cl224 : Callable Tryz.prog 224 := callable Tryz.func224 (by kernel_rfl) rfl
theorem cl225 : Callable Tryz.prog 225 := callable Tryz.func225 (by kernel_rfl) rfl
theorem cl226 : Callable Tryz.prog 226 := callable Tryz.func226 (by kernel_rfl) rfl
theorem cl227 : Callable Tryz.prog 227 := callable Tryz.func227 (by kernel_rfl) rfl
theorem cl233 : Callable Tryz.prog 233 := callable Tryz.func233 (by kernel_rfl) rfl
theorem cl234 : Callable Tryz.prog 234 := callable Tryz.func234 (by kernel_rfl) rfl
theorem cl235 : Callable Tryz.prog 235 := callable Tryz.func235 (by kernel_rfl) rfl
theorem cl236 : Callable Tryz.prog 236 := callable Tryz.func236 (by kernel_rfl) rfl
theorem cl26 : Callable Tryz.prog 26 := callable Tryz.func26 (by kernel_rfl) rfl
theorem cl27 : Callable Tryz.prog 27 := callable Tryz.func27 (by kernel_rfl) rfl
theorem cl28 : Callable Tryz.prog 28 := callable Tryz.func28 (by kernel_rfl) rfl
theorem cl29 : Callable Tryz.prog 29 := callable Tryz.func29 (by kernel_rfl) rfl
theorem cl30 : Callable Tryz.prog 30 := callable Tryz.func30 (by kernel_rfl) rfl
theorem cl31 : Callable Tryz.prog 31 := callable Tryz.func31 (by kernel_rfl) rfl
theorem cl32 : Callable Tryz.prog 32 := callable Tryz.func32 (by kernel_rfl) rfl
theorem cl33 : Callable Tryz.prog 33 := callable Tryz.func33 (by kernel_rfl) rfl
theorem cl34 : Callable Tryz.prog 34 := callable Tryz.func34 (by kernel_rfl) rfl
theorem cl35 : Callable Tryz.prog 35 := callable Tryz.func35 (by kernel_rfl) rfl
theorem cl36 : Callable Tryz.prog 36 := callable Tryz.func36 (by kernel_rfl) rfl
theorem cl38 : Callable Tryz.prog 38 := callable Tryz.func38 (by kernel_rfl) rfl
theorem cl39 : Callable Tryz.prog 39 := callable Tryz.func39 (by kernel_rfl) rfl
theorem cl40 : Callable Tryz.prog 40 := callable Tryz.func40 (by kernel_rfl) rfl
theorem cl41 : Callable Tryz.prog 41 := callable Tryz.func41 (by kernel_rfl) rfl
theorem cl42 : Callable Tryz.prog 42 := callable Tryz.func42 (by kernel_rfl) rfl
theorem cl43 : Callable Tryz.prog 43 := callable Tryz.func43 (by kernel_rfl) rfl
theorem cl44 : Callable Tryz.prog 44 := callable Tryz.func44 (by kernel_rfl) rfl
theorem cl49 : Callable Tryz.prog 49 := callable Tryz.func49 (by kernel_rfl) rfl
theorem cl62 : Callable Tryz.prog 62 := callable Tryz.func62 (by kernel_rfl) rfl
theorem cl63 : Callable Tryz.prog 63 := callable Tryz.func63 (by kernel_rfl) rfl
theorem cl64 : Callable Tryz.prog 64 := callable Tryz.func64 (by kernel_rfl) rfl
theorem cl65 : Callable Tryz.prog 65 := callable Tryz.func65 (by kernel_rfl) rfl
theorem cl66 : Callable Tryz.prog 66 := callable Tryz.func66 (by kernel_rfl) rfl
theorem cl67 : Callable Tryz.prog 67 := callable Tryz.func67 (by kernel_rfl) rfl
theorem cl68 : Callable Tryz.prog 68 := callable Tryz.func68 (by kernel_rfl) rfl
theorem cl69 : Callable Tryz.prog 69 := callable Tryz.func69 (by kernel_rfl) rfl
theorem cl7 : Callable Tryz.prog 7 := callable Tryz.func7 (by kernel_rfl) rfl
theorem cl70 : Callable Tryz.prog 70 := callable Tryz.func70 (by kernel_rfl) rfl
theorem cl71 : Callable Tryz.prog 71 := callable Tryz.func71 (by kernel_rfl) rfl
theorem cl72 : Callable Tryz.prog 72 := callable Tryz.func72 (by kernel_rfl) rfl
theorem cl73 : Callable Tryz.prog 73 := callable Tryz.func73 (by kernel_rfl) rfl
theorem cl74 : Callable Tryz.prog 74 := callable Tryz.func74 (by kernel_rfl) rfl
theorem cl75 : Callable Tryz.prog 75 := callable Tryz.func75 (by kernel_rfl) rfl
theorem cl76 : Callable Tryz.prog 76 := callable Tryz.func76 (by kernel_rfl) rfl
theorem cl77 : Callable Tryz.prog 77 := callable Tryz.func77 (by kernel_rfl) rfl
theorem cl78 : Callable Tryz.prog 78 := callable Tryz.func78 (by kernel_rfl) rfl
theorem cl79 : Callable Tryz.prog 79 := callable Tryz.func79 (by kernel_rfl) rfl
theorem cl80 : Callable Tryz.prog 80 := callable Tryz.func80 (by kernel_rfl) rfl
theorem cl81 : Callable Tryz.prog 81 := callable Tryz.func81 (by kernel_rfl) rfl
theorem cl82 : Callable Tryz.prog 82 := callable Tryz.func82 (by kernel_rfl) rfl
theorem cl83 : Callable Tryz.prog 83 := callable Tryz.func83 (by kernel_rfl) rfl
theorem cl84 : Callable Tryz.prog 84 := callable Tryz.func84 (by kernel_rfl) rfl
theorem cl85 : Callable Tryz.prog 85 := callable Tryz.func85 (by kernel_rfl) rfl
theorem cl86 : Callable Tryz.prog 86 := callable Tryz.func86 (by kernel_rfl) rfl
theorem cl87 : Callable Tryz.prog 87 := callable Tryz.func87 (by kernel_rfl) rfl
theorem cl88 : Callable Tryz.prog 88 := callable Tryz.func88 (by kernel_rfl) rfl
theorem cl89 : Callable Tryz.prog 89 := callable Tryz.func89 (by kernel_rfl) rfl
theorem cl9 : Callable Tryz.prog 9 := callable Tryz.func9 (by kernel_rfl) rfl
theorem cl90 : Callable Tryz.prog 90 := callable Tryz.func90 (by kernel_rfl) rfl
theorem cl91 : Callable Tryz.prog 91 := callable Tryz.func91 (by kernel_rfl) rfl
theorem cl92 : Callable Tryz.prog 92 := callable Tryz.func92 (by kernel_rfl) rfl
theorem cl93 : Callable Tryz.prog 93 := callable Tryz.func93 (by kernel_rfl) rfl
theorem cl94 : Callable Tryz.prog 94 := callable Tryz.func94 (by kernel_rfl) rfl
theorem cl95 : Callable Tryz.prog 95 := callable Tryz.func95 (by kernel_rfl) rfl
theorem cl96 : Callable Tryz.prog 96 := callable Tryz.func96 (by kernel_rfl) rfl
theorem cl97 : Callable Tryz.prog 97 := callable Tryz.func97 (by kernel_rfl) rfl
theorem cl98 : Callable Tryz.prog 98 := callable Tryz.func98 (by kernel_rfl) rfl
theorem cl99 : Callable Tryz.prog 99 := callable Tryz.func99 (by kernel_rfl) rfl
theorem fa104_0 : FieldAt Tryz.prog 104 0 0 := ⟨_, _, Tryz.underlying104, rfl, rfl, ⟨0, by unfold Sz; kernel_rfl⟩⟩
theorem fa104_1 : FieldAt Tryz.prog 104 1 1 := ⟨_, _, Tryz.underlying104, rfl, rfl, ⟨0, by unfold Sz; kernel_rfl⟩⟩
theorem fa104_2 : FieldAt Tryz.prog 104 2 2 := ⟨_, _, Tryz.underlying104, rfl, rfl, ⟨0, by unfold Sz; kernel_rfl⟩⟩
theorem fa118_0 : FieldAt Tryz.prog 118 0 0 := ⟨_, _, Tryz.underlying118, rfl, rfl, ⟨0, by unfold Sz; kernel_rfl⟩⟩
theorem fa118_1 : FieldAt Tryz.prog 118 1 1 := ⟨_, _, Tryz.underlying118, rfl, rfl, ⟨0, by unfold Sz; kernel_rfl⟩⟩
theorem fa118_2 : FieldAt Tryz.prog 118 2 2 := ⟨_, _, Tryz.underlying118, rfl, rfl, ⟨0, by unfold Sz; kernel_rfl⟩⟩
theorem fa118_3 : FieldAt Tryz.prog 118 3 3 := ⟨_, _, Tryz.underlying118, rfl, rfl, ⟨0, by unfold Sz; kernel_rfl⟩⟩
theorem fa118_4 : FieldAt Tryz.prog 118 4 4 := ⟨_, _, Tryz.underlying118, rfl, rfl, ⟨0, by unfold Sz; kernel_rfl⟩⟩
theorem fa127_0 : FieldAt Tryz.prog 127 0 0 := ⟨_, _, Tryz.underlying127, rfl, rfl, ⟨1, by unfold Sz; kernel_rfl⟩⟩
theorem fa127_1 : FieldAt Tryz.prog 127 1 2 := ⟨_, _, Tryz.underlying127, rfl, rfl, ⟨0, by unfold Sz; kernel_rfl⟩⟩
theorem fa166_0 : FieldAt Tryz.prog 166 0 0 := ⟨_, _, Tryz.underlying166, rfl, rfl, ⟨0, by unfold Sz; kernel_rfl⟩⟩
theorem fa166_1 : FieldAt Tryz.prog 166 1 1 := ⟨_, _, Tryz.underlying166, rfl, rfl, ⟨0, by unfold Sz; kernel_rfl⟩⟩
theorem fa26_0 : FieldAt Tryz.prog 26 0 0 := ⟨_, _, Tryz.underlying26, rfl, rfl, ⟨0, by unfold Sz; kernel_rfl⟩⟩
theorem fa26_1 : FieldAt Tryz.prog 26 1 1 := ⟨_, _, Tryz.underlying26, rfl, rfl, ⟨0, by unfold Sz; kernel_rfl⟩⟩
theorem fa26_2 : FieldAt Tryz.prog 26 2 2 := ⟨_, _, Tryz.underlying26, rfl, rfl, ⟨0, by unfold Sz; kernel_rfl⟩⟩
theorem fa26_3 : FieldAt Tryz.prog 26 3 3 := ⟨_, _, Tryz.underlying26, rfl, rfl, ⟨0, by unfold Sz; kernel_rfl⟩⟩
theorem fa26_4 : FieldAt Tryz.prog 26 4 4 := ⟨_, _, Tryz.underlying26, rfl, rfl, ⟨0, by unfold Sz; kernel_rfl⟩⟩
theorem fa26_5 : FieldAt Tryz.prog 26 5 5 := ⟨_, _, Tryz.underlying26, rfl, rfl, ⟨0, by unfold Sz; kernel_rfl⟩⟩
theorem fa29_0 : FieldAt Tryz.prog 29 0 0 := ⟨_, _, Tryz.underlying29, rfl, rfl, ⟨5, by unfold Sz; kernel_rfl⟩⟩
theorem fa29_1 : FieldAt Tryz.prog 29 1 6 := ⟨_, _, Tryz.underlying29, rfl, rfl, ⟨0, by unfold Sz; kernel_rfl⟩⟩
theorem fa34_0 : FieldAt Tryz.prog 34 0 0 := ⟨_, _, Tryz.underlying34, rfl, rfl, ⟨0, by unfold Sz; kernel_rfl⟩⟩
theorem fa34_1 : FieldAt Tryz.prog 34 1 1 := ⟨_, _, Tryz.underlying34, rfl, rfl, ⟨0, by unfold Sz; kernel_rfl⟩⟩
theorem fa36_0 : FieldAt Tryz.prog 36 0 0 := ⟨_, _, Tryz.underlying36, rfl, rfl, ⟨0, by unfold Sz; kernel_rfl⟩⟩
theorem fa36_1 : FieldAt Tryz.prog 36 1 1 := ⟨_, _, Tryz.underlying36, rfl, rfl, ⟨0, by unfold Sz; kernel_rfl⟩⟩
theorem fa36_2 : FieldAt Tryz.prog 36 2 2 := ⟨_, _, Tryz.underlying36, rfl, rfl, ⟨0, by unfold Sz; kernel_rfl⟩⟩
theorem fa67_0 : FieldAt Tryz.prog 67 0 0 := ⟨_, _, Tryz.underlying67, rfl, rfl, ⟨0, by unfold Sz; kernel_rfl⟩⟩
theorem fa67_1 : FieldAt Tryz.prog 67 1 1 := ⟨_, _, Tryz.underlying67, rfl, rfl, ⟨0, by unfold Sz; kernel_rfl⟩⟩
theorem fa71_0 : FieldAt Tryz.prog 71 0 0 := ⟨_, _, Tryz.underlying71, rfl, rfl, ⟨0, by unfold Sz; kernel_rfl⟩⟩
theorem fa71_1 : FieldAt Tryz.prog 71 1 1 := ⟨_, _, Tryz.underlying71, rfl, rfl, ⟨0, by unfold Sz; kernel_rfl⟩⟩
theorem fa79_0 : FieldAt Tryz.prog 79 0 0 := ⟨_, _, Tryz.underlying79, rfl, rfl, ⟨0, by unfold Sz; kernel_rfl⟩⟩
theorem fa79_1 : FieldAt Tryz.prog 79 1 1 := ⟨_, _, Tryz.underlying79, rfl, rfl, ⟨0, by unfold Sz; kernel_rfl⟩⟩
theorem sc121 : Sc Tryz.prog 121 := ⟨_, Tryz.underlying121, trivial⟩
theorem sc22 : Sc Tryz.prog 22 := ⟨(.slice 5), by kernel_rfl, trivial⟩
theorem sc24 : Sc Tryz.prog 24 := ⟨(.slice 3), by kernel_rfl, trivial⟩
theorem sc27 : Sc Tryz.prog 27 := ⟨(.slice 34), by kernel_rfl, trivial⟩
theorem sc3 : Sc Tryz.prog 3 := ⟨(.int .i64), by kernel_rfl, trivial⟩
theorem sc32 : Sc Tryz.prog 32 := ⟨(.slice 71), by kernel_rfl, trivial⟩
theorem sc4 : Sc Tryz.prog 4 := ⟨.bool, by kernel_rfl, trivial⟩
theorem sc5 : Sc Tryz.prog 5 := ⟨(.int .u8), by kernel_rfl, trivial⟩
theorem sc9 : Sc Tryz.prog 9 := ⟨.string, by kernel_rfl, trivial⟩
theorem so163 : SliceOf Tryz.prog 163 166 2 16 := ⟨by kernel_rfl, by kernel_rfl⟩
theorem so187 : SliceOf Tryz.prog 187 24 1 24 := ⟨by kernel_rfl, by kernel_rfl⟩
theorem so22 : SliceOf Tryz.prog 22 5 1 1 := ⟨by kernel_rfl, by kernel_rfl⟩
theorem so24 : SliceOf Tryz.prog 24 3 1 8 := ⟨by kernel_rfl, by kernel_rfl⟩
theorem so27 : SliceOf Tryz.prog 27 34 2 32 := ⟨by kernel_rfl, by kernel_rfl⟩
theorem so32 : SliceOf Tryz.prog 32 71 2 32 := ⟨by kernel_rfl, by kernel_rfl⟩
theorem so64 : SliceOf Tryz.prog 64 67 3 24 := ⟨by kernel_rfl, by kernel_rfl⟩
theorem sz118 : Sz Tryz.prog 118 5 := by unfold Sz; kernel_rfl
theorem sz121 : Sz Tryz.prog 121 1 := by unfold Sz; kernel_rfl
theorem sz24 : Sz Tryz.prog 24 1 := by unfold Sz; kernel_rfl
theorem sz26 : Sz Tryz.prog 26 6 := by unfold Sz; kernel_rfl
theorem sz27 : Sz Tryz.prog 27 1 := by unfold Sz; kernel_rfl
theorem sz29 : Sz Tryz.prog 29 7 := by unfold Sz; kernel_rfl
theorem sz3 : Sz Tryz.prog 3 1 := by unfold Sz; kernel_rfl
theorem sz32 : Sz Tryz.prog 32 1 := by unfold Sz; kernel_rfl
theorem sz34 : Sz Tryz.prog 34 2 := by unfold Sz; kernel_rfl
theorem sz36 : Sz Tryz.prog 36 3 := by unfold Sz; kernel_rfl
theorem sz4 : Sz Tryz.prog 4 1 := by unfold Sz; kernel_rfl
theorem sz67 : Sz Tryz.prog 67 3 := by unfold Sz; kernel_rfl
theorem sz71 : Sz Tryz.prog 71 2 := by unfold Sz; kernel_rfl
theorem sz79 : Sz Tryz.prog 79 2 := by unfold Sz; kernel_rfl
theorem un163 : Tryz.prog.underlying 163 = some (.slice 166) := by kernel_rfl
theorem un173 : Tryz.prog.underlying 173 = some (.int .u64) := by kernel_rfl
theorem un187 : Tryz.prog.underlying 187 = some (.slice 24) := by kernel_rfl
theorem un22 : Tryz.prog.underlying 22 = some (.slice 5) := by kernel_rfl
theorem un24 : Tryz.prog.underlying 24 = some (.slice 3) := by kernel_rfl
theorem un27 : Tryz.prog.underlying 27 = some (.slice 34) := by kernel_rfl
theorem un3 : Tryz.prog.underlying 3 = some (.int .i64) := by kernel_rfl
theorem un32 : Tryz.prog.underlying 32 = some (.slice 71) := by kernel_rfl
theorem un5 : Tryz.prog.underlying 5 = some (.int .u8) := by kernel_rfl
theorem un64 : Tryz.prog.underlying 64 = some (.slice 67) := by kernel_rfl
theorem un9 : Tryz.prog.underlying 9 = some .string := by kernel_rfl
theorem us206 : (Tryz.prog.underlying 206).isSome = true := by kernel_rfl
theorem us3 : (Tryz.prog.underlying 3).isSome = true := by kernel_rfl
theorem us5 : (Tryz.prog.underlying 5).isSome = true := by kernel_rfl
theorem zr118 : ZeroV Tryz.prog 118 [.slice none 0 0, .slice none 0 0, .int .i64 0, .bool false, .bool false] := by unfold ZeroV; kernel_rfl
theorem zr121 : ZeroV Tryz.prog 121 [.nilFunc] := by unfold ZeroV; kernel_rfl
theorem zr166 : ZeroV Tryz.prog 166 [.int .i64 0, .int .i64 0] := by unfold ZeroV; kernel_rfl
theorem zr24 : ZeroV Tryz.prog 24 [.slice none 0 0] := by unfold ZeroV; kernel_rfl
theorem zr26 : ZeroV Tryz.prog 26 [.int .i64 0, .int .i64 0, .int .i64 0, .bool false, .bool false, .slice none 0 0] := by unfold ZeroV; kernel_rfl
theorem zr29 : ZeroV Tryz.prog 29 [.int .i64 0, .int .i64 0, .int .i64 0, .bool false, .bool false, .slice none 0 0, .slice none 0 0] := by unfold ZeroV; kernel_rfl
theorem zr3 : ZeroV Tryz.prog 3 [.int .i64 0] := by unfold ZeroV; kernel_rfl
theorem zr34 : ZeroV Tryz.prog 34 [.bool false, .slice none 0 0] := by unfold ZeroV; kernel_rfl
theorem zr36 : ZeroV Tryz.prog 36 [.int .i64 0, .int .i64 0, .slice none 0 0] := by unfold ZeroV; kernel_rfl
theorem zr5 : ZeroV Tryz.prog 5 [.int .u8 0] := by unfold ZeroV; kernel_rfl
theorem zr67 : ZeroV Tryz.prog 67 [.int .i64 0, .int .i64 0, .int .i64 0] := by unfold ZeroV; kernel_rfl
theorem zr71 : ZeroV Tryz.prog 71 [.int .i64 0, .slice none 0 0] := by unfold ZeroV; kernel_rfl
theorem zr79 : ZeroV Tryz.prog 79 [.string .empty, .int .i64 0] := by unfold ZeroV; kernel_rfl
end Go.Proofs.YtepnknffaecbdaaGreat
