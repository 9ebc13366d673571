/-
  The functions' code is what the evaluator's maker makes of the program's (2).
-/
import Derived.Test.YtcmlfnkmpgdacabGreatDoorEvProofD
import Derived.Test.YtcmlfnkmpgdacabGreatDoorEvCode0
import Derived.Test.YtcmlfnkmpgdacabGreatDoorEvCode1
import Derived.Test.YtcmlfnkmpgdacabGreatDoorEvCode2
import Derived.Test.YtcmlfnkmpgdacabGreatDoorProg
import Derived.KernelRfl
namespace Go.Ev
set_option maxRecDepth 100000
theorem in177 : CodeIn Go.Proofs.Tryz.prog 177 c177 := ⟨⟨Go.Proofs.Tryz.f177, 2417852233704443526251007, Go.Proofs.Tryz.func177, ne_of_beq_false (by kernel_rfl), by kernel_rfl, by kernel_rfl, by kernel_rfl⟩⟩
theorem in180 : CodeIn Go.Proofs.Tryz.prog 180 c180 := ⟨⟨Go.Proofs.Tryz.f180, 2305843146653777895, Go.Proofs.Tryz.func180, ne_of_beq_false (by kernel_rfl), by kernel_rfl, by kernel_rfl, by kernel_rfl⟩⟩
theorem in181 : CodeIn Go.Proofs.Tryz.prog 181 c181 := ⟨⟨Go.Proofs.Tryz.f181, 223, Go.Proofs.Tryz.func181, ne_of_beq_false (by kernel_rfl), by kernel_rfl, by kernel_rfl, by kernel_rfl⟩⟩
theorem in182 : CodeIn Go.Proofs.Tryz.prog 182 c182 := ⟨⟨Go.Proofs.Tryz.f182, 278983, Go.Proofs.Tryz.func182, ne_of_beq_false (by kernel_rfl), by kernel_rfl, by kernel_rfl, by kernel_rfl⟩⟩
theorem in186 : CodeIn Go.Proofs.Tryz.prog 186 c186 := ⟨⟨Go.Proofs.Tryz.f186, 563, Go.Proofs.Tryz.func186, ne_of_beq_false (by kernel_rfl), by kernel_rfl, by kernel_rfl, by kernel_rfl⟩⟩
theorem in187 : CodeIn Go.Proofs.Tryz.prog 187 c187 := ⟨⟨Go.Proofs.Tryz.f187, 147, Go.Proofs.Tryz.func187, ne_of_beq_false (by kernel_rfl), by kernel_rfl, by kernel_rfl, by kernel_rfl⟩⟩
theorem in188 : CodeIn Go.Proofs.Tryz.prog 188 c188 := ⟨⟨Go.Proofs.Tryz.f188, 66573, Go.Proofs.Tryz.func188, ne_of_beq_false (by kernel_rfl), by kernel_rfl, by kernel_rfl, by kernel_rfl⟩⟩
theorem in189 : CodeIn Go.Proofs.Tryz.prog 189 c189 := ⟨⟨Go.Proofs.Tryz.f189, 5, Go.Proofs.Tryz.func189, ne_of_beq_false (by kernel_rfl), by kernel_rfl, by kernel_rfl, by kernel_rfl⟩⟩
theorem in190 : CodeIn Go.Proofs.Tryz.prog 190 c190 := ⟨⟨Go.Proofs.Tryz.f190, 147, Go.Proofs.Tryz.func190, ne_of_beq_false (by kernel_rfl), by kernel_rfl, by kernel_rfl, by kernel_rfl⟩⟩
theorem in191 : CodeIn Go.Proofs.Tryz.prog 191 c191 := ⟨⟨Go.Proofs.Tryz.f191, 271, Go.Proofs.Tryz.func191, ne_of_beq_false (by kernel_rfl), by kernel_rfl, by kernel_rfl, by kernel_rfl⟩⟩
theorem in192 : CodeIn Go.Proofs.Tryz.prog 192 c192 := ⟨⟨Go.Proofs.Tryz.f192, 16782535, Go.Proofs.Tryz.func192, ne_of_beq_false (by kernel_rfl), by kernel_rfl, by kernel_rfl, by kernel_rfl⟩⟩
theorem in193 : CodeIn Go.Proofs.Tryz.prog 193 c193 := ⟨⟨Go.Proofs.Tryz.f193, 274877940979, Go.Proofs.Tryz.func193, ne_of_beq_false (by kernel_rfl), by kernel_rfl, by kernel_rfl, by kernel_rfl⟩⟩
theorem in194 : CodeIn Go.Proofs.Tryz.prog 194 c194 := ⟨⟨Go.Proofs.Tryz.f194, 9159, Go.Proofs.Tryz.func194, ne_of_beq_false (by kernel_rfl), by kernel_rfl, by kernel_rfl, by kernel_rfl⟩⟩
theorem in195 : CodeIn Go.Proofs.Tryz.prog 195 c195 := ⟨⟨Go.Proofs.Tryz.f195, 2093, Go.Proofs.Tryz.func195, ne_of_beq_false (by kernel_rfl), by kernel_rfl, by kernel_rfl, by kernel_rfl⟩⟩
theorem in196 : CodeIn Go.Proofs.Tryz.prog 196 c196 := ⟨⟨Go.Proofs.Tryz.f196, 1271, Go.Proofs.Tryz.func196, ne_of_beq_false (by kernel_rfl), by kernel_rfl, by kernel_rfl, by kernel_rfl⟩⟩
theorem in200 : CodeIn Go.Proofs.Tryz.prog 200 c200 := ⟨⟨Go.Proofs.Tryz.f200, 583, Go.Proofs.Tryz.func200, ne_of_beq_false (by kernel_rfl), by kernel_rfl, by kernel_rfl, by kernel_rfl⟩⟩
theorem in201 : CodeIn Go.Proofs.Tryz.prog 201 c201 := ⟨⟨Go.Proofs.Tryz.f201, 2341874005331419111, Go.Proofs.Tryz.func201, ne_of_beq_false (by kernel_rfl), by kernel_rfl, by kernel_rfl, by kernel_rfl⟩⟩
theorem in202 : CodeIn Go.Proofs.Tryz.prog 202 c202 := ⟨⟨Go.Proofs.Tryz.f202, 23384026197294446853538041193302746583806095917055, Go.Proofs.Tryz.func202, ne_of_beq_false (by kernel_rfl), by kernel_rfl, by kernel_rfl, by kernel_rfl⟩⟩
theorem in203 : CodeIn Go.Proofs.Tryz.prog 203 c203 := ⟨⟨Go.Proofs.Tryz.f203, 268443967, Go.Proofs.Tryz.func203, ne_of_beq_false (by kernel_rfl), by kernel_rfl, by kernel_rfl, by kernel_rfl⟩⟩
theorem in204 : CodeIn Go.Proofs.Tryz.prog 204 c204 := ⟨⟨Go.Proofs.Tryz.f204, 4611686019534700303, Go.Proofs.Tryz.func204, ne_of_beq_false (by kernel_rfl), by kernel_rfl, by kernel_rfl, by kernel_rfl⟩⟩
theorem in205 : CodeIn Go.Proofs.Tryz.prog 205 c205 := ⟨⟨Go.Proofs.Tryz.f205, 1139, Go.Proofs.Tryz.func205, ne_of_beq_false (by kernel_rfl), by kernel_rfl, by kernel_rfl, by kernel_rfl⟩⟩
theorem in206 : CodeIn Go.Proofs.Tryz.prog 206 c206 := ⟨⟨Go.Proofs.Tryz.f206, 34078835, Go.Proofs.Tryz.func206, ne_of_beq_false (by kernel_rfl), by kernel_rfl, by kernel_rfl, by kernel_rfl⟩⟩
theorem in207 : CodeIn Go.Proofs.Tryz.prog 207 c207 := ⟨⟨Go.Proofs.Tryz.f207, 7, Go.Proofs.Tryz.func207, ne_of_beq_false (by kernel_rfl), by kernel_rfl, by kernel_rfl, by kernel_rfl⟩⟩
theorem in209 : CodeIn Go.Proofs.Tryz.prog 209 c209 := ⟨⟨Go.Proofs.Tryz.f209, 21, Go.Proofs.Tryz.func209, ne_of_beq_false (by kernel_rfl), by kernel_rfl, by kernel_rfl, by kernel_rfl⟩⟩
theorem in213 : CodeIn Go.Proofs.Tryz.prog 213 c213 := ⟨⟨Go.Proofs.Tryz.f213, 37, Go.Proofs.Tryz.func213, ne_of_beq_false (by kernel_rfl), by kernel_rfl, by kernel_rfl, by kernel_rfl⟩⟩
theorem in229 : CodeIn Go.Proofs.Tryz.prog 229 c229 := ⟨⟨Go.Proofs.Tryz.f229, 19, Go.Proofs.Tryz.func229, ne_of_beq_false (by kernel_rfl), by kernel_rfl, by kernel_rfl, by kernel_rfl⟩⟩
theorem in230 : CodeIn Go.Proofs.Tryz.prog 230 c230 := ⟨⟨Go.Proofs.Tryz.f230, 2147483711, Go.Proofs.Tryz.func230, ne_of_beq_false (by kernel_rfl), by kernel_rfl, by kernel_rfl, by kernel_rfl⟩⟩
theorem in231 : CodeIn Go.Proofs.Tryz.prog 231 c231 := ⟨⟨Go.Proofs.Tryz.f231, 4294967327, Go.Proofs.Tryz.func231, ne_of_beq_false (by kernel_rfl), by kernel_rfl, by kernel_rfl, by kernel_rfl⟩⟩
theorem in233 : CodeIn Go.Proofs.Tryz.prog 233 c233 := ⟨⟨Go.Proofs.Tryz.f233, 19, Go.Proofs.Tryz.func233, ne_of_beq_false (by kernel_rfl), by kernel_rfl, by kernel_rfl, by kernel_rfl⟩⟩
theorem in234 : CodeIn Go.Proofs.Tryz.prog 234 c234 := ⟨⟨Go.Proofs.Tryz.f234, 1305107431168697825049318523223, Go.Proofs.Tryz.func234, ne_of_beq_false (by kernel_rfl), by kernel_rfl, by kernel_rfl, by kernel_rfl⟩⟩
theorem in235 : CodeIn Go.Proofs.Tryz.prog 235 c235 := ⟨⟨Go.Proofs.Tryz.f235, 2199526634671, Go.Proofs.Tryz.func235, ne_of_beq_false (by kernel_rfl), by kernel_rfl, by kernel_rfl, by kernel_rfl⟩⟩
theorem in236 : CodeIn Go.Proofs.Tryz.prog 236 c236 := ⟨⟨Go.Proofs.Tryz.f236, 2147483663, Go.Proofs.Tryz.func236, ne_of_beq_false (by kernel_rfl), by kernel_rfl, by kernel_rfl, by kernel_rfl⟩⟩
theorem in237 : CodeIn Go.Proofs.Tryz.prog 237 c237 := ⟨⟨Go.Proofs.Tryz.f237, 7, Go.Proofs.Tryz.func237, ne_of_beq_false (by kernel_rfl), by kernel_rfl, by kernel_rfl, by kernel_rfl⟩⟩
theorem in238 : CodeIn Go.Proofs.Tryz.prog 238 c238 := ⟨⟨Go.Proofs.Tryz.f238, 19, Go.Proofs.Tryz.func238, ne_of_beq_false (by kernel_rfl), by kernel_rfl, by kernel_rfl, by kernel_rfl⟩⟩
theorem in239 : CodeIn Go.Proofs.Tryz.prog 239 c239 := ⟨⟨Go.Proofs.Tryz.f239, 15, Go.Proofs.Tryz.func239, ne_of_beq_false (by kernel_rfl), by kernel_rfl, by kernel_rfl, by kernel_rfl⟩⟩
theorem in240 : CodeIn Go.Proofs.Tryz.prog 240 c240 := ⟨⟨Go.Proofs.Tryz.f240, 67539, Go.Proofs.Tryz.func240, ne_of_beq_false (by kernel_rfl), by kernel_rfl, by kernel_rfl, by kernel_rfl⟩⟩
theorem in241 : CodeIn Go.Proofs.Tryz.prog 241 c241 := ⟨⟨Go.Proofs.Tryz.f241, 39, Go.Proofs.Tryz.func241, ne_of_beq_false (by kernel_rfl), by kernel_rfl, by kernel_rfl, by kernel_rfl⟩⟩
theorem in242 : CodeIn Go.Proofs.Tryz.prog 242 c242 := ⟨⟨Go.Proofs.Tryz.f242, 700503162652238720931186431366501785595, Go.Proofs.Tryz.func242, ne_of_beq_false (by kernel_rfl), by kernel_rfl, by kernel_rfl, by kernel_rfl⟩⟩
theorem in243 : CodeIn Go.Proofs.Tryz.prog 243 c243 := ⟨⟨Go.Proofs.Tryz.f243, 7, Go.Proofs.Tryz.func243, ne_of_beq_false (by kernel_rfl), by kernel_rfl, by kernel_rfl, by kernel_rfl⟩⟩
theorem in244 : CodeIn Go.Proofs.Tryz.prog 244 c244 := ⟨⟨Go.Proofs.Tryz.f244, 7, Go.Proofs.Tryz.func244, ne_of_beq_false (by kernel_rfl), by kernel_rfl, by kernel_rfl, by kernel_rfl⟩⟩
theorem in245 : CodeIn Go.Proofs.Tryz.prog 245 c245 := ⟨⟨Go.Proofs.Tryz.f245, 83, Go.Proofs.Tryz.func245, ne_of_beq_false (by kernel_rfl), by kernel_rfl, by kernel_rfl, by kernel_rfl⟩⟩
theorem in247 : CodeIn Go.Proofs.Tryz.prog 247 c247 := ⟨⟨Go.Proofs.Tryz.f247, 19, Go.Proofs.Tryz.func247, ne_of_beq_false (by kernel_rfl), by kernel_rfl, by kernel_rfl, by kernel_rfl⟩⟩
theorem in248 : CodeIn Go.Proofs.Tryz.prog 248 c248 := ⟨⟨Go.Proofs.Tryz.f248, 19, Go.Proofs.Tryz.func248, ne_of_beq_false (by kernel_rfl), by kernel_rfl, by kernel_rfl, by kernel_rfl⟩⟩
theorem in249 : CodeIn Go.Proofs.Tryz.prog 249 c249 := ⟨⟨Go.Proofs.Tryz.f249, 19, Go.Proofs.Tryz.func249, ne_of_beq_false (by kernel_rfl), by kernel_rfl, by kernel_rfl, by kernel_rfl⟩⟩
theorem in250 : CodeIn Go.Proofs.Tryz.prog 250 c250 := ⟨⟨Go.Proofs.Tryz.f250, 19, Go.Proofs.Tryz.func250, ne_of_beq_false (by kernel_rfl), by kernel_rfl, by kernel_rfl, by kernel_rfl⟩⟩
theorem in252 : CodeIn Go.Proofs.Tryz.prog 252 c252 := ⟨⟨Go.Proofs.Tryz.f252, 19, Go.Proofs.Tryz.func252, ne_of_beq_false (by kernel_rfl), by kernel_rfl, by kernel_rfl, by kernel_rfl⟩⟩
theorem in253 : CodeIn Go.Proofs.Tryz.prog 253 c253 := ⟨⟨Go.Proofs.Tryz.f253, 19, Go.Proofs.Tryz.func253, ne_of_beq_false (by kernel_rfl), by kernel_rfl, by kernel_rfl, by kernel_rfl⟩⟩
theorem in254 : CodeIn Go.Proofs.Tryz.prog 254 c254 := ⟨⟨Go.Proofs.Tryz.f254, 59, Go.Proofs.Tryz.func254, ne_of_beq_false (by kernel_rfl), by kernel_rfl, by kernel_rfl, by kernel_rfl⟩⟩
theorem in255 : CodeIn Go.Proofs.Tryz.prog 255 c255 := ⟨⟨Go.Proofs.Tryz.f255, 59, Go.Proofs.Tryz.func255, ne_of_beq_false (by kernel_rfl), by kernel_rfl, by kernel_rfl, by kernel_rfl⟩⟩
theorem in258 : CodeIn Go.Proofs.Tryz.prog 258 c258 := ⟨⟨Go.Proofs.Tryz.f258, 137506063859, Go.Proofs.Tryz.func258, ne_of_beq_false (by kernel_rfl), by kernel_rfl, by kernel_rfl, by kernel_rfl⟩⟩
theorem in259 : CodeIn Go.Proofs.Tryz.prog 259 c259 := ⟨⟨Go.Proofs.Tryz.f259, 134218311, Go.Proofs.Tryz.func259, ne_of_beq_false (by kernel_rfl), by kernel_rfl, by kernel_rfl, by kernel_rfl⟩⟩
theorem in260 : CodeIn Go.Proofs.Tryz.prog 260 c260 := ⟨⟨Go.Proofs.Tryz.f260, 4294971591, Go.Proofs.Tryz.func260, ne_of_beq_false (by kernel_rfl), by kernel_rfl, by kernel_rfl, by kernel_rfl⟩⟩
theorem in261 : CodeIn Go.Proofs.Tryz.prog 261 c261 := ⟨⟨Go.Proofs.Tryz.f261, 65791, Go.Proofs.Tryz.func261, ne_of_beq_false (by kernel_rfl), by kernel_rfl, by kernel_rfl, by kernel_rfl⟩⟩
theorem in262 : CodeIn Go.Proofs.Tryz.prog 262 c262 := ⟨⟨Go.Proofs.Tryz.f262, 5, Go.Proofs.Tryz.func262, ne_of_beq_false (by kernel_rfl), by kernel_rfl, by kernel_rfl, by kernel_rfl⟩⟩
theorem in263 : CodeIn Go.Proofs.Tryz.prog 263 c263 := ⟨⟨Go.Proofs.Tryz.f263, 262231, Go.Proofs.Tryz.func263, ne_of_beq_false (by kernel_rfl), by kernel_rfl, by kernel_rfl, by kernel_rfl⟩⟩
theorem in264 : CodeIn Go.Proofs.Tryz.prog 264 c264 := ⟨⟨Go.Proofs.Tryz.f264, 1011, Go.Proofs.Tryz.func264, ne_of_beq_false (by kernel_rfl), by kernel_rfl, by kernel_rfl, by kernel_rfl⟩⟩
theorem in265 : CodeIn Go.Proofs.Tryz.prog 265 c265 := ⟨⟨Go.Proofs.Tryz.f265, 2107, Go.Proofs.Tryz.func265, ne_of_beq_false (by kernel_rfl), by kernel_rfl, by kernel_rfl, by kernel_rfl⟩⟩
theorem in266 : CodeIn Go.Proofs.Tryz.prog 266 c266 := ⟨⟨Go.Proofs.Tryz.f266, 515, Go.Proofs.Tryz.func266, ne_of_beq_false (by kernel_rfl), by kernel_rfl, by kernel_rfl, by kernel_rfl⟩⟩
theorem in267 : CodeIn Go.Proofs.Tryz.prog 267 c267 := ⟨⟨Go.Proofs.Tryz.f267, 4103, Go.Proofs.Tryz.func267, ne_of_beq_false (by kernel_rfl), by kernel_rfl, by kernel_rfl, by kernel_rfl⟩⟩
theorem in268 : CodeIn Go.Proofs.Tryz.prog 268 c268 := ⟨⟨Go.Proofs.Tryz.f268, 2629815, Go.Proofs.Tryz.func268, ne_of_beq_false (by kernel_rfl), by kernel_rfl, by kernel_rfl, by kernel_rfl⟩⟩
theorem in269 : CodeIn Go.Proofs.Tryz.prog 269 c269 := ⟨⟨Go.Proofs.Tryz.f269, 1073741943, Go.Proofs.Tryz.func269, ne_of_beq_false (by kernel_rfl), by kernel_rfl, by kernel_rfl, by kernel_rfl⟩⟩
theorem in270 : CodeIn Go.Proofs.Tryz.prog 270 c270 := ⟨⟨Go.Proofs.Tryz.f270, 23, Go.Proofs.Tryz.func270, ne_of_beq_false (by kernel_rfl), by kernel_rfl, by kernel_rfl, by kernel_rfl⟩⟩
theorem in271 : CodeIn Go.Proofs.Tryz.prog 271 c271 := ⟨⟨Go.Proofs.Tryz.f271, 16492674416861, Go.Proofs.Tryz.func271, ne_of_beq_false (by kernel_rfl), by kernel_rfl, by kernel_rfl, by kernel_rfl⟩⟩
theorem in272 : CodeIn Go.Proofs.Tryz.prog 272 c272 := ⟨⟨Go.Proofs.Tryz.f272, 3103, Go.Proofs.Tryz.func272, ne_of_beq_false (by kernel_rfl), by kernel_rfl, by kernel_rfl, by kernel_rfl⟩⟩
theorem in273 : CodeIn Go.Proofs.Tryz.prog 273 c273 := ⟨⟨Go.Proofs.Tryz.f273, 29426119, Go.Proofs.Tryz.func273, ne_of_beq_false (by kernel_rfl), by kernel_rfl, by kernel_rfl, by kernel_rfl⟩⟩
theorem in274 : CodeIn Go.Proofs.Tryz.prog 274 c274 := ⟨⟨Go.Proofs.Tryz.f274, 16781375, Go.Proofs.Tryz.func274, ne_of_beq_false (by kernel_rfl), by kernel_rfl, by kernel_rfl, by kernel_rfl⟩⟩
theorem in275 : CodeIn Go.Proofs.Tryz.prog 275 c275 := ⟨⟨Go.Proofs.Tryz.f275, 16455, Go.Proofs.Tryz.func275, ne_of_beq_false (by kernel_rfl), by kernel_rfl, by kernel_rfl, by kernel_rfl⟩⟩
theorem in276 : CodeIn Go.Proofs.Tryz.prog 276 c276 := ⟨⟨Go.Proofs.Tryz.f276, 71, Go.Proofs.Tryz.func276, ne_of_beq_false (by kernel_rfl), by kernel_rfl, by kernel_rfl, by kernel_rfl⟩⟩
theorem in277 : CodeIn Go.Proofs.Tryz.prog 277 c277 := ⟨⟨Go.Proofs.Tryz.f277, 32819, Go.Proofs.Tryz.func277, ne_of_beq_false (by kernel_rfl), by kernel_rfl, by kernel_rfl, by kernel_rfl⟩⟩
theorem in278 : CodeIn Go.Proofs.Tryz.prog 278 c278 := ⟨⟨Go.Proofs.Tryz.f278, 199, Go.Proofs.Tryz.func278, ne_of_beq_false (by kernel_rfl), by kernel_rfl, by kernel_rfl, by kernel_rfl⟩⟩
theorem in279 : CodeIn Go.Proofs.Tryz.prog 279 c279 := ⟨⟨Go.Proofs.Tryz.f279, 5226737155905614798797434240367945425354683, Go.Proofs.Tryz.func279, ne_of_beq_false (by kernel_rfl), by kernel_rfl, by kernel_rfl, by kernel_rfl⟩⟩
end Go.Ev
