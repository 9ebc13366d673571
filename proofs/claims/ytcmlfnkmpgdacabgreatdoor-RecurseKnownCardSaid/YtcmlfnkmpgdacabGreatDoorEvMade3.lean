/-
  The functions' code is what the evaluator's maker makes of the program's (3).
-/
import Derived.Test.YtcmlfnkmpgdacabGreatDoorEvProofD
import Derived.Test.YtcmlfnkmpgdacabGreatDoorEvCode0
import Derived.Test.YtcmlfnkmpgdacabGreatDoorEvCode1
import Derived.Test.YtcmlfnkmpgdacabGreatDoorEvCode2
import Derived.Test.YtcmlfnkmpgdacabGreatDoorProg
import Derived.KernelRfl
namespace Go.Ev
set_option maxRecDepth 100000
theorem in280 : CodeIn Go.Proofs.Tryz.prog 280 c280 := ⟨⟨Go.Proofs.Tryz.f280, 65619, Go.Proofs.Tryz.func280, ne_of_beq_false (by kernel_rfl), by kernel_rfl, by kernel_rfl, by kernel_rfl⟩⟩
theorem in281 : CodeIn Go.Proofs.Tryz.prog 281 c281 := ⟨⟨Go.Proofs.Tryz.f281, 35184641574899, Go.Proofs.Tryz.func281, ne_of_beq_false (by kernel_rfl), by kernel_rfl, by kernel_rfl, by kernel_rfl⟩⟩
theorem in285 : CodeIn Go.Proofs.Tryz.prog 285 c285 := ⟨⟨Go.Proofs.Tryz.f285, 7, Go.Proofs.Tryz.func285, ne_of_beq_false (by kernel_rfl), by kernel_rfl, by kernel_rfl, by kernel_rfl⟩⟩
theorem in286 : CodeIn Go.Proofs.Tryz.prog 286 c286 := ⟨⟨Go.Proofs.Tryz.f286, 71, Go.Proofs.Tryz.func286, ne_of_beq_false (by kernel_rfl), by kernel_rfl, by kernel_rfl, by kernel_rfl⟩⟩
theorem in287 : CodeIn Go.Proofs.Tryz.prog 287 c287 := ⟨⟨Go.Proofs.Tryz.f287, 4198855, Go.Proofs.Tryz.func287, ne_of_beq_false (by kernel_rfl), by kernel_rfl, by kernel_rfl, by kernel_rfl⟩⟩
theorem in288 : CodeIn Go.Proofs.Tryz.prog 288 c288 := ⟨⟨Go.Proofs.Tryz.f288, 315, Go.Proofs.Tryz.func288, ne_of_beq_false (by kernel_rfl), by kernel_rfl, by kernel_rfl, by kernel_rfl⟩⟩
theorem in289 : CodeIn Go.Proofs.Tryz.prog 289 c289 := ⟨⟨Go.Proofs.Tryz.f289, 5, Go.Proofs.Tryz.func289, ne_of_beq_false (by kernel_rfl), by kernel_rfl, by kernel_rfl, by kernel_rfl⟩⟩
theorem in290 : CodeIn Go.Proofs.Tryz.prog 290 c290 := ⟨⟨Go.Proofs.Tryz.f290, 255, Go.Proofs.Tryz.func290, ne_of_beq_false (by kernel_rfl), by kernel_rfl, by kernel_rfl, by kernel_rfl⟩⟩
theorem in291 : CodeIn Go.Proofs.Tryz.prog 291 c291 := ⟨⟨Go.Proofs.Tryz.f291, 499, Go.Proofs.Tryz.func291, ne_of_beq_false (by kernel_rfl), by kernel_rfl, by kernel_rfl, by kernel_rfl⟩⟩
theorem in292 : CodeIn Go.Proofs.Tryz.prog 292 c292 := ⟨⟨Go.Proofs.Tryz.f292, 499, Go.Proofs.Tryz.func292, ne_of_beq_false (by kernel_rfl), by kernel_rfl, by kernel_rfl, by kernel_rfl⟩⟩
theorem in294 : CodeIn Go.Proofs.Tryz.prog 294 c294 := ⟨⟨Go.Proofs.Tryz.f294, 4296017021, Go.Proofs.Tryz.func294, ne_of_beq_false (by kernel_rfl), by kernel_rfl, by kernel_rfl, by kernel_rfl⟩⟩
theorem in295 : CodeIn Go.Proofs.Tryz.prog 295 c295 := ⟨⟨Go.Proofs.Tryz.f295, 67372703, Go.Proofs.Tryz.func295, ne_of_beq_false (by kernel_rfl), by kernel_rfl, by kernel_rfl, by kernel_rfl⟩⟩
theorem in297 : CodeIn Go.Proofs.Tryz.prog 297 c297 := ⟨⟨Go.Proofs.Tryz.f297, 5, Go.Proofs.Tryz.func297, ne_of_beq_false (by kernel_rfl), by kernel_rfl, by kernel_rfl, by kernel_rfl⟩⟩
theorem in298 : CodeIn Go.Proofs.Tryz.prog 298 c298 := ⟨⟨Go.Proofs.Tryz.f298, 1145324667, Go.Proofs.Tryz.func298, ne_of_beq_false (by kernel_rfl), by kernel_rfl, by kernel_rfl, by kernel_rfl⟩⟩
theorem in299 : CodeIn Go.Proofs.Tryz.prog 299 c299 := ⟨⟨Go.Proofs.Tryz.f299, 1139, Go.Proofs.Tryz.func299, ne_of_beq_false (by kernel_rfl), by kernel_rfl, by kernel_rfl, by kernel_rfl⟩⟩
theorem in301 : CodeIn Go.Proofs.Tryz.prog 301 c301 := ⟨⟨Go.Proofs.Tryz.f301, 33554503, Go.Proofs.Tryz.func301, ne_of_beq_false (by kernel_rfl), by kernel_rfl, by kernel_rfl, by kernel_rfl⟩⟩
theorem in302 : CodeIn Go.Proofs.Tryz.prog 302 c302 := ⟨⟨Go.Proofs.Tryz.f302, 157, Go.Proofs.Tryz.func302, ne_of_beq_false (by kernel_rfl), by kernel_rfl, by kernel_rfl, by kernel_rfl⟩⟩
theorem in303 : CodeIn Go.Proofs.Tryz.prog 303 c303 := ⟨⟨Go.Proofs.Tryz.f303, 13, Go.Proofs.Tryz.func303, ne_of_beq_false (by kernel_rfl), by kernel_rfl, by kernel_rfl, by kernel_rfl⟩⟩
theorem in306 : CodeIn Go.Proofs.Tryz.prog 306 c306 := ⟨⟨Go.Proofs.Tryz.f306, 23, Go.Proofs.Tryz.func306, ne_of_beq_false (by kernel_rfl), by kernel_rfl, by kernel_rfl, by kernel_rfl⟩⟩
theorem in307 : CodeIn Go.Proofs.Tryz.prog 307 c307 := ⟨⟨Go.Proofs.Tryz.f307, 66483, Go.Proofs.Tryz.func307, ne_of_beq_false (by kernel_rfl), by kernel_rfl, by kernel_rfl, by kernel_rfl⟩⟩
theorem in308 : CodeIn Go.Proofs.Tryz.prog 308 c308 := ⟨⟨Go.Proofs.Tryz.f308, 71, Go.Proofs.Tryz.func308, ne_of_beq_false (by kernel_rfl), by kernel_rfl, by kernel_rfl, by kernel_rfl⟩⟩
theorem in309 : CodeIn Go.Proofs.Tryz.prog 309 c309 := ⟨⟨Go.Proofs.Tryz.f309, 5, Go.Proofs.Tryz.func309, ne_of_beq_false (by kernel_rfl), by kernel_rfl, by kernel_rfl, by kernel_rfl⟩⟩
theorem in310 : CodeIn Go.Proofs.Tryz.prog 310 c310 := ⟨⟨Go.Proofs.Tryz.f310, 95, Go.Proofs.Tryz.func310, ne_of_beq_false (by kernel_rfl), by kernel_rfl, by kernel_rfl, by kernel_rfl⟩⟩
theorem in311 : CodeIn Go.Proofs.Tryz.prog 311 c311 := ⟨⟨Go.Proofs.Tryz.f311, 36893554667872584063, Go.Proofs.Tryz.func311, ne_of_beq_false (by kernel_rfl), by kernel_rfl, by kernel_rfl, by kernel_rfl⟩⟩
theorem in314 : CodeIn Go.Proofs.Tryz.prog 314 c314 := ⟨⟨Go.Proofs.Tryz.f314, 26156909, Go.Proofs.Tryz.func314, ne_of_beq_false (by kernel_rfl), by kernel_rfl, by kernel_rfl, by kernel_rfl⟩⟩
theorem in315 : CodeIn Go.Proofs.Tryz.prog 315 c315 := ⟨⟨Go.Proofs.Tryz.f315, 71, Go.Proofs.Tryz.func315, ne_of_beq_false (by kernel_rfl), by kernel_rfl, by kernel_rfl, by kernel_rfl⟩⟩
theorem in316 : CodeIn Go.Proofs.Tryz.prog 316 c316 := ⟨⟨Go.Proofs.Tryz.f316, 66483, Go.Proofs.Tryz.func316, ne_of_beq_false (by kernel_rfl), by kernel_rfl, by kernel_rfl, by kernel_rfl⟩⟩
theorem in317 : CodeIn Go.Proofs.Tryz.prog 317 c317 := ⟨⟨Go.Proofs.Tryz.f317, 537399539, Go.Proofs.Tryz.func317, ne_of_beq_false (by kernel_rfl), by kernel_rfl, by kernel_rfl, by kernel_rfl⟩⟩
theorem in318 : CodeIn Go.Proofs.Tryz.prog 318 c318 := ⟨⟨Go.Proofs.Tryz.f318, 5, Go.Proofs.Tryz.func318, ne_of_beq_false (by kernel_rfl), by kernel_rfl, by kernel_rfl, by kernel_rfl⟩⟩
theorem in319 : CodeIn Go.Proofs.Tryz.prog 319 c319 := ⟨⟨Go.Proofs.Tryz.f319, 7, Go.Proofs.Tryz.func319, ne_of_beq_false (by kernel_rfl), by kernel_rfl, by kernel_rfl, by kernel_rfl⟩⟩
theorem in320 : CodeIn Go.Proofs.Tryz.prog 320 c320 := ⟨⟨Go.Proofs.Tryz.f320, 55, Go.Proofs.Tryz.func320, ne_of_beq_false (by kernel_rfl), by kernel_rfl, by kernel_rfl, by kernel_rfl⟩⟩
theorem in321 : CodeIn Go.Proofs.Tryz.prog 321 c321 := ⟨⟨Go.Proofs.Tryz.f321, 1011, Go.Proofs.Tryz.func321, ne_of_beq_false (by kernel_rfl), by kernel_rfl, by kernel_rfl, by kernel_rfl⟩⟩
theorem in322 : CodeIn Go.Proofs.Tryz.prog 322 c322 := ⟨⟨Go.Proofs.Tryz.f322, 31, Go.Proofs.Tryz.func322, ne_of_beq_false (by kernel_rfl), by kernel_rfl, by kernel_rfl, by kernel_rfl⟩⟩
theorem in323 : CodeIn Go.Proofs.Tryz.prog 323 c323 := ⟨⟨Go.Proofs.Tryz.f323, 1125899907269115, Go.Proofs.Tryz.func323, ne_of_beq_false (by kernel_rfl), by kernel_rfl, by kernel_rfl, by kernel_rfl⟩⟩
theorem in324 : CodeIn Go.Proofs.Tryz.prog 324 c324 := ⟨⟨Go.Proofs.Tryz.f324, 4007, Go.Proofs.Tryz.func324, ne_of_beq_false (by kernel_rfl), by kernel_rfl, by kernel_rfl, by kernel_rfl⟩⟩
theorem in325 : CodeIn Go.Proofs.Tryz.prog 325 c325 := ⟨⟨Go.Proofs.Tryz.f325, 19, Go.Proofs.Tryz.func325, ne_of_beq_false (by kernel_rfl), by kernel_rfl, by kernel_rfl, by kernel_rfl⟩⟩
theorem in326 : CodeIn Go.Proofs.Tryz.prog 326 c326 := ⟨⟨Go.Proofs.Tryz.f326, 11, Go.Proofs.Tryz.func326, ne_of_beq_false (by kernel_rfl), by kernel_rfl, by kernel_rfl, by kernel_rfl⟩⟩
theorem in327 : CodeIn Go.Proofs.Tryz.prog 327 c327 := ⟨⟨Go.Proofs.Tryz.f327, 21, Go.Proofs.Tryz.func327, ne_of_beq_false (by kernel_rfl), by kernel_rfl, by kernel_rfl, by kernel_rfl⟩⟩
theorem in328 : CodeIn Go.Proofs.Tryz.prog 328 c328 := ⟨⟨Go.Proofs.Tryz.f328, 33054068326223, Go.Proofs.Tryz.func328, ne_of_beq_false (by kernel_rfl), by kernel_rfl, by kernel_rfl, by kernel_rfl⟩⟩
theorem in329 : CodeIn Go.Proofs.Tryz.prog 329 c329 := ⟨⟨Go.Proofs.Tryz.f329, 9013865043992823, Go.Proofs.Tryz.func329, ne_of_beq_false (by kernel_rfl), by kernel_rfl, by kernel_rfl, by kernel_rfl⟩⟩
theorem in330 : CodeIn Go.Proofs.Tryz.prog 330 c330 := ⟨⟨Go.Proofs.Tryz.f330, 438773858963279, Go.Proofs.Tryz.func330, ne_of_beq_false (by kernel_rfl), by kernel_rfl, by kernel_rfl, by kernel_rfl⟩⟩
theorem in331 : CodeIn Go.Proofs.Tryz.prog 331 c331 := ⟨⟨Go.Proofs.Tryz.f331, 1030800016819, Go.Proofs.Tryz.func331, ne_of_beq_false (by kernel_rfl), by kernel_rfl, by kernel_rfl, by kernel_rfl⟩⟩
theorem in335 : CodeIn Go.Proofs.Tryz.prog 335 c335 := ⟨⟨Go.Proofs.Tryz.f335, 537133275, Go.Proofs.Tryz.func335, ne_of_beq_false (by kernel_rfl), by kernel_rfl, by kernel_rfl, by kernel_rfl⟩⟩
theorem in336 : CodeIn Go.Proofs.Tryz.prog 336 c336 := ⟨⟨Go.Proofs.Tryz.f336, 95, Go.Proofs.Tryz.func336, ne_of_beq_false (by kernel_rfl), by kernel_rfl, by kernel_rfl, by kernel_rfl⟩⟩
theorem in337 : CodeIn Go.Proofs.Tryz.prog 337 c337 := ⟨⟨Go.Proofs.Tryz.f337, 262927, Go.Proofs.Tryz.func337, ne_of_beq_false (by kernel_rfl), by kernel_rfl, by kernel_rfl, by kernel_rfl⟩⟩
theorem in338 : CodeIn Go.Proofs.Tryz.prog 338 c338 := ⟨⟨Go.Proofs.Tryz.f338, 262411, Go.Proofs.Tryz.func338, ne_of_beq_false (by kernel_rfl), by kernel_rfl, by kernel_rfl, by kernel_rfl⟩⟩
theorem in339 : CodeIn Go.Proofs.Tryz.prog 339 c339 := ⟨⟨Go.Proofs.Tryz.f339, 255, Go.Proofs.Tryz.func339, ne_of_beq_false (by kernel_rfl), by kernel_rfl, by kernel_rfl, by kernel_rfl⟩⟩
theorem in340 : CodeIn Go.Proofs.Tryz.prog 340 c340 := ⟨⟨Go.Proofs.Tryz.f340, 5, Go.Proofs.Tryz.func340, ne_of_beq_false (by kernel_rfl), by kernel_rfl, by kernel_rfl, by kernel_rfl⟩⟩
theorem in341 : CodeIn Go.Proofs.Tryz.prog 341 c341 := ⟨⟨Go.Proofs.Tryz.f341, 4079, Go.Proofs.Tryz.func341, ne_of_beq_false (by kernel_rfl), by kernel_rfl, by kernel_rfl, by kernel_rfl⟩⟩
theorem in343 : CodeIn Go.Proofs.Tryz.prog 343 c343 := ⟨⟨Go.Proofs.Tryz.f343, 5, Go.Proofs.Tryz.func343, ne_of_beq_false (by kernel_rfl), by kernel_rfl, by kernel_rfl, by kernel_rfl⟩⟩
theorem in348 : CodeIn Go.Proofs.Tryz.prog 348 c348 := ⟨⟨Go.Proofs.Tryz.f348, 19, Go.Proofs.Tryz.func348, ne_of_beq_false (by kernel_rfl), by kernel_rfl, by kernel_rfl, by kernel_rfl⟩⟩
theorem in351 : CodeIn Go.Proofs.Tryz.prog 351 c351 := ⟨⟨Go.Proofs.Tryz.f351, 31, Go.Proofs.Tryz.func351, ne_of_beq_false (by kernel_rfl), by kernel_rfl, by kernel_rfl, by kernel_rfl⟩⟩
theorem in352 : CodeIn Go.Proofs.Tryz.prog 352 c352 := ⟨⟨Go.Proofs.Tryz.f352, 270783, Go.Proofs.Tryz.func352, ne_of_beq_false (by kernel_rfl), by kernel_rfl, by kernel_rfl, by kernel_rfl⟩⟩
theorem in353 : CodeIn Go.Proofs.Tryz.prog 353 c353 := ⟨⟨Go.Proofs.Tryz.f353, 19, Go.Proofs.Tryz.func353, ne_of_beq_false (by kernel_rfl), by kernel_rfl, by kernel_rfl, by kernel_rfl⟩⟩
theorem in355 : CodeIn Go.Proofs.Tryz.prog 355 c355 := ⟨⟨Go.Proofs.Tryz.f355, 66483, Go.Proofs.Tryz.func355, ne_of_beq_false (by kernel_rfl), by kernel_rfl, by kernel_rfl, by kernel_rfl⟩⟩
theorem in356 : CodeIn Go.Proofs.Tryz.prog 356 c356 := ⟨⟨Go.Proofs.Tryz.f356, 247, Go.Proofs.Tryz.func356, ne_of_beq_false (by kernel_rfl), by kernel_rfl, by kernel_rfl, by kernel_rfl⟩⟩
theorem in358 : CodeIn Go.Proofs.Tryz.prog 358 c358 := ⟨⟨Go.Proofs.Tryz.f358, 16371, Go.Proofs.Tryz.func358, ne_of_beq_false (by kernel_rfl), by kernel_rfl, by kernel_rfl, by kernel_rfl⟩⟩
theorem in359 : CodeIn Go.Proofs.Tryz.prog 359 c359 := ⟨⟨Go.Proofs.Tryz.f359, 135, Go.Proofs.Tryz.func359, ne_of_beq_false (by kernel_rfl), by kernel_rfl, by kernel_rfl, by kernel_rfl⟩⟩
theorem in360 : CodeIn Go.Proofs.Tryz.prog 360 c360 := ⟨⟨Go.Proofs.Tryz.f360, 66483, Go.Proofs.Tryz.func360, ne_of_beq_false (by kernel_rfl), by kernel_rfl, by kernel_rfl, by kernel_rfl⟩⟩
theorem in361 : CodeIn Go.Proofs.Tryz.prog 361 c361 := ⟨⟨Go.Proofs.Tryz.f361, 23, Go.Proofs.Tryz.func361, ne_of_beq_false (by kernel_rfl), by kernel_rfl, by kernel_rfl, by kernel_rfl⟩⟩
theorem in362 : CodeIn Go.Proofs.Tryz.prog 362 c362 := ⟨⟨Go.Proofs.Tryz.f362, 4194807, Go.Proofs.Tryz.func362, ne_of_beq_false (by kernel_rfl), by kernel_rfl, by kernel_rfl, by kernel_rfl⟩⟩
theorem in363 : CodeIn Go.Proofs.Tryz.prog 363 c363 := ⟨⟨Go.Proofs.Tryz.f363, 2119, Go.Proofs.Tryz.func363, ne_of_beq_false (by kernel_rfl), by kernel_rfl, by kernel_rfl, by kernel_rfl⟩⟩
theorem in364 : CodeIn Go.Proofs.Tryz.prog 364 c364 := ⟨⟨Go.Proofs.Tryz.f364, 95, Go.Proofs.Tryz.func364, ne_of_beq_false (by kernel_rfl), by kernel_rfl, by kernel_rfl, by kernel_rfl⟩⟩
theorem in365 : CodeIn Go.Proofs.Tryz.prog 365 c365 := ⟨⟨Go.Proofs.Tryz.f365, 1073742391, Go.Proofs.Tryz.func365, ne_of_beq_false (by kernel_rfl), by kernel_rfl, by kernel_rfl, by kernel_rfl⟩⟩
theorem in366 : CodeIn Go.Proofs.Tryz.prog 366 c366 := ⟨⟨Go.Proofs.Tryz.f366, 8247, Go.Proofs.Tryz.func366, ne_of_beq_false (by kernel_rfl), by kernel_rfl, by kernel_rfl, by kernel_rfl⟩⟩
theorem in369 : CodeIn Go.Proofs.Tryz.prog 369 c369 := ⟨⟨Go.Proofs.Tryz.f369, 66483, Go.Proofs.Tryz.func369, ne_of_beq_false (by kernel_rfl), by kernel_rfl, by kernel_rfl, by kernel_rfl⟩⟩
theorem in372 : CodeIn Go.Proofs.Tryz.prog 372 c372 := ⟨⟨Go.Proofs.Tryz.f372, 66483, Go.Proofs.Tryz.func372, ne_of_beq_false (by kernel_rfl), by kernel_rfl, by kernel_rfl, by kernel_rfl⟩⟩
theorem in375 : CodeIn Go.Proofs.Tryz.prog 375 c375 := ⟨⟨Go.Proofs.Tryz.f375, 19, Go.Proofs.Tryz.func375, ne_of_beq_false (by kernel_rfl), by kernel_rfl, by kernel_rfl, by kernel_rfl⟩⟩
theorem in376 : CodeIn Go.Proofs.Tryz.prog 376 c376 := ⟨⟨Go.Proofs.Tryz.f376, 15, Go.Proofs.Tryz.func376, ne_of_beq_false (by kernel_rfl), by kernel_rfl, by kernel_rfl, by kernel_rfl⟩⟩
theorem in377 : CodeIn Go.Proofs.Tryz.prog 377 c377 := ⟨⟨Go.Proofs.Tryz.f377, 1073742391, Go.Proofs.Tryz.func377, ne_of_beq_false (by kernel_rfl), by kernel_rfl, by kernel_rfl, by kernel_rfl⟩⟩
theorem in380 : CodeIn Go.Proofs.Tryz.prog 380 c380 := ⟨⟨Go.Proofs.Tryz.f380, 66483, Go.Proofs.Tryz.func380, ne_of_beq_false (by kernel_rfl), by kernel_rfl, by kernel_rfl, by kernel_rfl⟩⟩
end Go.Ev
