/-
  The functions' code is what the evaluator's maker makes of the program's (0).
-/
import Derived.Test.YtcmlfnkmpgdacabGreatDoorEvProofD
import Derived.Test.YtcmlfnkmpgdacabGreatDoorEvCode0
import Derived.Test.YtcmlfnkmpgdacabGreatDoorEvCode1
import Derived.Test.YtcmlfnkmpgdacabGreatDoorEvCode2
import Derived.Test.YtcmlfnkmpgdacabGreatDoorProg
import Derived.KernelRfl
namespace Go.Ev
set_option maxRecDepth 100000
theorem in7 : CodeIn Go.Proofs.Tryz.prog 7 c7 := ⟨⟨Go.Proofs.Tryz.f7, 319, Go.Proofs.Tryz.func7, ne_of_beq_false (by kernel_rfl), by kernel_rfl, by kernel_rfl, by kernel_rfl⟩⟩
theorem in9 : CodeIn Go.Proofs.Tryz.prog 9 c9 := ⟨⟨Go.Proofs.Tryz.f9, 439, Go.Proofs.Tryz.func9, ne_of_beq_false (by kernel_rfl), by kernel_rfl, by kernel_rfl, by kernel_rfl⟩⟩
theorem in10 : CodeIn Go.Proofs.Tryz.prog 10 c10 := ⟨⟨Go.Proofs.Tryz.f10, 17498005798264095394980017845211386677572853540951888847775645734030150728011347888112183604859098623, Go.Proofs.Tryz.func10, ne_of_beq_false (by kernel_rfl), by kernel_rfl, by kernel_rfl, by kernel_rfl⟩⟩
theorem in11 : CodeIn Go.Proofs.Tryz.prog 11 c11 := ⟨⟨Go.Proofs.Tryz.f11, 2303, Go.Proofs.Tryz.func11, ne_of_beq_false (by kernel_rfl), by kernel_rfl, by kernel_rfl, by kernel_rfl⟩⟩
theorem in14 : CodeIn Go.Proofs.Tryz.prog 14 c14 := ⟨⟨Go.Proofs.Tryz.f14, 583, Go.Proofs.Tryz.func14, ne_of_beq_false (by kernel_rfl), by kernel_rfl, by kernel_rfl, by kernel_rfl⟩⟩
theorem in16 : CodeIn Go.Proofs.Tryz.prog 16 c16 := ⟨⟨Go.Proofs.Tryz.f16, 4724672325878859693919, Go.Proofs.Tryz.func16, ne_of_beq_false (by kernel_rfl), by kernel_rfl, by kernel_rfl, by kernel_rfl⟩⟩
theorem in19 : CodeIn Go.Proofs.Tryz.prog 19 c19 := ⟨⟨Go.Proofs.Tryz.f19, 872548351, Go.Proofs.Tryz.func19, ne_of_beq_false (by kernel_rfl), by kernel_rfl, by kernel_rfl, by kernel_rfl⟩⟩
theorem in20 : CodeIn Go.Proofs.Tryz.prog 20 c20 := ⟨⟨Go.Proofs.Tryz.f20, 576460754450973695, Go.Proofs.Tryz.func20, ne_of_beq_false (by kernel_rfl), by kernel_rfl, by kernel_rfl, by kernel_rfl⟩⟩
theorem in21 : CodeIn Go.Proofs.Tryz.prog 21 c21 := ⟨⟨Go.Proofs.Tryz.f21, 1236950581255, Go.Proofs.Tryz.func21, ne_of_beq_false (by kernel_rfl), by kernel_rfl, by kernel_rfl, by kernel_rfl⟩⟩
theorem in22 : CodeIn Go.Proofs.Tryz.prog 22 c22 := ⟨⟨Go.Proofs.Tryz.f22, 19077080200258803567699433684778158583791, Go.Proofs.Tryz.func22, ne_of_beq_false (by kernel_rfl), by kernel_rfl, by kernel_rfl, by kernel_rfl⟩⟩
theorem in23 : CodeIn Go.Proofs.Tryz.prog 23 c23 := ⟨⟨Go.Proofs.Tryz.f23, 1238015744871677566602182719, Go.Proofs.Tryz.func23, ne_of_beq_false (by kernel_rfl), by kernel_rfl, by kernel_rfl, by kernel_rfl⟩⟩
theorem in25 : CodeIn Go.Proofs.Tryz.prog 25 c25 := ⟨⟨Go.Proofs.Tryz.f25, 151, Go.Proofs.Tryz.func25, ne_of_beq_false (by kernel_rfl), by kernel_rfl, by kernel_rfl, by kernel_rfl⟩⟩
theorem in26 : CodeIn Go.Proofs.Tryz.prog 26 c26 := ⟨⟨Go.Proofs.Tryz.f26, 23, Go.Proofs.Tryz.func26, ne_of_beq_false (by kernel_rfl), by kernel_rfl, by kernel_rfl, by kernel_rfl⟩⟩
theorem in27 : CodeIn Go.Proofs.Tryz.prog 27 c27 := ⟨⟨Go.Proofs.Tryz.f27, 61, Go.Proofs.Tryz.func27, ne_of_beq_false (by kernel_rfl), by kernel_rfl, by kernel_rfl, by kernel_rfl⟩⟩
theorem in28 : CodeIn Go.Proofs.Tryz.prog 28 c28 := ⟨⟨Go.Proofs.Tryz.f28, 1, Go.Proofs.Tryz.func28, ne_of_beq_false (by kernel_rfl), by kernel_rfl, by kernel_rfl, by kernel_rfl⟩⟩
theorem in29 : CodeIn Go.Proofs.Tryz.prog 29 c29 := ⟨⟨Go.Proofs.Tryz.f29, 31, Go.Proofs.Tryz.func29, ne_of_beq_false (by kernel_rfl), by kernel_rfl, by kernel_rfl, by kernel_rfl⟩⟩
theorem in30 : CodeIn Go.Proofs.Tryz.prog 30 c30 := ⟨⟨Go.Proofs.Tryz.f30, 576460894037344319, Go.Proofs.Tryz.func30, ne_of_beq_false (by kernel_rfl), by kernel_rfl, by kernel_rfl, by kernel_rfl⟩⟩
theorem in31 : CodeIn Go.Proofs.Tryz.prog 31 c31 := ⟨⟨Go.Proofs.Tryz.f31, 255, Go.Proofs.Tryz.func31, ne_of_beq_false (by kernel_rfl), by kernel_rfl, by kernel_rfl, by kernel_rfl⟩⟩
theorem in32 : CodeIn Go.Proofs.Tryz.prog 32 c32 := ⟨⟨Go.Proofs.Tryz.f32, 68787110391, Go.Proofs.Tryz.func32, ne_of_beq_false (by kernel_rfl), by kernel_rfl, by kernel_rfl, by kernel_rfl⟩⟩
theorem in33 : CodeIn Go.Proofs.Tryz.prog 33 c33 := ⟨⟨Go.Proofs.Tryz.f33, 68559, Go.Proofs.Tryz.func33, ne_of_beq_false (by kernel_rfl), by kernel_rfl, by kernel_rfl, by kernel_rfl⟩⟩
theorem in34 : CodeIn Go.Proofs.Tryz.prog 34 c34 := ⟨⟨Go.Proofs.Tryz.f34, 4203487, Go.Proofs.Tryz.func34, ne_of_beq_false (by kernel_rfl), by kernel_rfl, by kernel_rfl, by kernel_rfl⟩⟩
theorem in35 : CodeIn Go.Proofs.Tryz.prog 35 c35 := ⟨⟨Go.Proofs.Tryz.f35, 79, Go.Proofs.Tryz.func35, ne_of_beq_false (by kernel_rfl), by kernel_rfl, by kernel_rfl, by kernel_rfl⟩⟩
theorem in36 : CodeIn Go.Proofs.Tryz.prog 36 c36 := ⟨⟨Go.Proofs.Tryz.f36, 2103, Go.Proofs.Tryz.func36, ne_of_beq_false (by kernel_rfl), by kernel_rfl, by kernel_rfl, by kernel_rfl⟩⟩
theorem in37 : CodeIn Go.Proofs.Tryz.prog 37 c37 := ⟨⟨Go.Proofs.Tryz.f37, 144115190223994879, Go.Proofs.Tryz.func37, ne_of_beq_false (by kernel_rfl), by kernel_rfl, by kernel_rfl, by kernel_rfl⟩⟩
theorem in38 : CodeIn Go.Proofs.Tryz.prog 38 c38 := ⟨⟨Go.Proofs.Tryz.f38, 151, Go.Proofs.Tryz.func38, ne_of_beq_false (by kernel_rfl), by kernel_rfl, by kernel_rfl, by kernel_rfl⟩⟩
theorem in39 : CodeIn Go.Proofs.Tryz.prog 39 c39 := ⟨⟨Go.Proofs.Tryz.f39, 143, Go.Proofs.Tryz.func39, ne_of_beq_false (by kernel_rfl), by kernel_rfl, by kernel_rfl, by kernel_rfl⟩⟩
theorem in40 : CodeIn Go.Proofs.Tryz.prog 40 c40 := ⟨⟨Go.Proofs.Tryz.f40, 102851036855623279564184340963499673442012020703, Go.Proofs.Tryz.func40, ne_of_beq_false (by kernel_rfl), by kernel_rfl, by kernel_rfl, by kernel_rfl⟩⟩
theorem in41 : CodeIn Go.Proofs.Tryz.prog 41 c41 := ⟨⟨Go.Proofs.Tryz.f41, 157, Go.Proofs.Tryz.func41, ne_of_beq_false (by kernel_rfl), by kernel_rfl, by kernel_rfl, by kernel_rfl⟩⟩
theorem in42 : CodeIn Go.Proofs.Tryz.prog 42 c42 := ⟨⟨Go.Proofs.Tryz.f42, 159, Go.Proofs.Tryz.func42, ne_of_beq_false (by kernel_rfl), by kernel_rfl, by kernel_rfl, by kernel_rfl⟩⟩
theorem in43 : CodeIn Go.Proofs.Tryz.prog 43 c43 := ⟨⟨Go.Proofs.Tryz.f43, 702342805324816988588405261797863141080047, Go.Proofs.Tryz.func43, ne_of_beq_false (by kernel_rfl), by kernel_rfl, by kernel_rfl, by kernel_rfl⟩⟩
theorem in44 : CodeIn Go.Proofs.Tryz.prog 44 c44 := ⟨⟨Go.Proofs.Tryz.f44, 4275983, Go.Proofs.Tryz.func44, ne_of_beq_false (by kernel_rfl), by kernel_rfl, by kernel_rfl, by kernel_rfl⟩⟩
theorem in45 : CodeIn Go.Proofs.Tryz.prog 45 c45 := ⟨⟨Go.Proofs.Tryz.f45, 1100048516559, Go.Proofs.Tryz.func45, ne_of_beq_false (by kernel_rfl), by kernel_rfl, by kernel_rfl, by kernel_rfl⟩⟩
theorem in46 : CodeIn Go.Proofs.Tryz.prog 46 c46 := ⟨⟨Go.Proofs.Tryz.f46, 4559, Go.Proofs.Tryz.func46, ne_of_beq_false (by kernel_rfl), by kernel_rfl, by kernel_rfl, by kernel_rfl⟩⟩
theorem in47 : CodeIn Go.Proofs.Tryz.prog 47 c47 := ⟨⟨Go.Proofs.Tryz.f47, 1143, Go.Proofs.Tryz.func47, ne_of_beq_false (by kernel_rfl), by kernel_rfl, by kernel_rfl, by kernel_rfl⟩⟩
theorem in48 : CodeIn Go.Proofs.Tryz.prog 48 c48 := ⟨⟨Go.Proofs.Tryz.f48, 1139, Go.Proofs.Tryz.func48, ne_of_beq_false (by kernel_rfl), by kernel_rfl, by kernel_rfl, by kernel_rfl⟩⟩
theorem in49 : CodeIn Go.Proofs.Tryz.prog 49 c49 := ⟨⟨Go.Proofs.Tryz.f49, 2255, Go.Proofs.Tryz.func49, ne_of_beq_false (by kernel_rfl), by kernel_rfl, by kernel_rfl, by kernel_rfl⟩⟩
theorem in50 : CodeIn Go.Proofs.Tryz.prog 50 c50 := ⟨⟨Go.Proofs.Tryz.f50, 9367557598036889591, Go.Proofs.Tryz.func50, ne_of_beq_false (by kernel_rfl), by kernel_rfl, by kernel_rfl, by kernel_rfl⟩⟩
theorem in53 : CodeIn Go.Proofs.Tryz.prog 53 c53 := ⟨⟨Go.Proofs.Tryz.f53, 5, Go.Proofs.Tryz.func53, ne_of_beq_false (by kernel_rfl), by kernel_rfl, by kernel_rfl, by kernel_rfl⟩⟩
theorem in54 : CodeIn Go.Proofs.Tryz.prog 54 c54 := ⟨⟨Go.Proofs.Tryz.f54, 1373, Go.Proofs.Tryz.func54, ne_of_beq_false (by kernel_rfl), by kernel_rfl, by kernel_rfl, by kernel_rfl⟩⟩
theorem in57 : CodeIn Go.Proofs.Tryz.prog 57 c57 := ⟨⟨Go.Proofs.Tryz.f57, 1532589078409076101616490764985294018509324903934066639, Go.Proofs.Tryz.func57, ne_of_beq_false (by kernel_rfl), by kernel_rfl, by kernel_rfl, by kernel_rfl⟩⟩
theorem in60 : CodeIn Go.Proofs.Tryz.prog 60 c60 := ⟨⟨Go.Proofs.Tryz.f60, 4159, Go.Proofs.Tryz.func60, ne_of_beq_false (by kernel_rfl), by kernel_rfl, by kernel_rfl, by kernel_rfl⟩⟩
theorem in61 : CodeIn Go.Proofs.Tryz.prog 61 c61 := ⟨⟨Go.Proofs.Tryz.f61, 55567730431, Go.Proofs.Tryz.func61, ne_of_beq_false (by kernel_rfl), by kernel_rfl, by kernel_rfl, by kernel_rfl⟩⟩
theorem in62 : CodeIn Go.Proofs.Tryz.prog 62 c62 := ⟨⟨Go.Proofs.Tryz.f62, 95, Go.Proofs.Tryz.func62, ne_of_beq_false (by kernel_rfl), by kernel_rfl, by kernel_rfl, by kernel_rfl⟩⟩
theorem in63 : CodeIn Go.Proofs.Tryz.prog 63 c63 := ⟨⟨Go.Proofs.Tryz.f63, 131135, Go.Proofs.Tryz.func63, ne_of_beq_false (by kernel_rfl), by kernel_rfl, by kernel_rfl, by kernel_rfl⟩⟩
theorem in64 : CodeIn Go.Proofs.Tryz.prog 64 c64 := ⟨⟨Go.Proofs.Tryz.f64, 67109063, Go.Proofs.Tryz.func64, ne_of_beq_false (by kernel_rfl), by kernel_rfl, by kernel_rfl, by kernel_rfl⟩⟩
theorem in65 : CodeIn Go.Proofs.Tryz.prog 65 c65 := ⟨⟨Go.Proofs.Tryz.f65, 4111, Go.Proofs.Tryz.func65, ne_of_beq_false (by kernel_rfl), by kernel_rfl, by kernel_rfl, by kernel_rfl⟩⟩
theorem in66 : CodeIn Go.Proofs.Tryz.prog 66 c66 := ⟨⟨Go.Proofs.Tryz.f66, 5, Go.Proofs.Tryz.func66, ne_of_beq_false (by kernel_rfl), by kernel_rfl, by kernel_rfl, by kernel_rfl⟩⟩
theorem in67 : CodeIn Go.Proofs.Tryz.prog 67 c67 := ⟨⟨Go.Proofs.Tryz.f67, 24156112214143600796906183977965130057847457007144480606682735613755389, Go.Proofs.Tryz.func67, ne_of_beq_false (by kernel_rfl), by kernel_rfl, by kernel_rfl, by kernel_rfl⟩⟩
theorem in68 : CodeIn Go.Proofs.Tryz.prog 68 c68 := ⟨⟨Go.Proofs.Tryz.f68, 573, Go.Proofs.Tryz.func68, ne_of_beq_false (by kernel_rfl), by kernel_rfl, by kernel_rfl, by kernel_rfl⟩⟩
theorem in69 : CodeIn Go.Proofs.Tryz.prog 69 c69 := ⟨⟨Go.Proofs.Tryz.f69, 2079, Go.Proofs.Tryz.func69, ne_of_beq_false (by kernel_rfl), by kernel_rfl, by kernel_rfl, by kernel_rfl⟩⟩
theorem in70 : CodeIn Go.Proofs.Tryz.prog 70 c70 := ⟨⟨Go.Proofs.Tryz.f70, 262707, Go.Proofs.Tryz.func70, ne_of_beq_false (by kernel_rfl), by kernel_rfl, by kernel_rfl, by kernel_rfl⟩⟩
theorem in71 : CodeIn Go.Proofs.Tryz.prog 71 c71 := ⟨⟨Go.Proofs.Tryz.f71, 32925, Go.Proofs.Tryz.func71, ne_of_beq_false (by kernel_rfl), by kernel_rfl, by kernel_rfl, by kernel_rfl⟩⟩
theorem in72 : CodeIn Go.Proofs.Tryz.prog 72 c72 := ⟨⟨Go.Proofs.Tryz.f72, 4026558647, Go.Proofs.Tryz.func72, ne_of_beq_false (by kernel_rfl), by kernel_rfl, by kernel_rfl, by kernel_rfl⟩⟩
theorem in73 : CodeIn Go.Proofs.Tryz.prog 73 c73 := ⟨⟨Go.Proofs.Tryz.f73, 2013266143, Go.Proofs.Tryz.func73, ne_of_beq_false (by kernel_rfl), by kernel_rfl, by kernel_rfl, by kernel_rfl⟩⟩
theorem in74 : CodeIn Go.Proofs.Tryz.prog 74 c74 := ⟨⟨Go.Proofs.Tryz.f74, 7, Go.Proofs.Tryz.func74, ne_of_beq_false (by kernel_rfl), by kernel_rfl, by kernel_rfl, by kernel_rfl⟩⟩
theorem in75 : CodeIn Go.Proofs.Tryz.prog 75 c75 := ⟨⟨Go.Proofs.Tryz.f75, 143, Go.Proofs.Tryz.func75, ne_of_beq_false (by kernel_rfl), by kernel_rfl, by kernel_rfl, by kernel_rfl⟩⟩
theorem in76 : CodeIn Go.Proofs.Tryz.prog 76 c76 := ⟨⟨Go.Proofs.Tryz.f76, 4023, Go.Proofs.Tryz.func76, ne_of_beq_false (by kernel_rfl), by kernel_rfl, by kernel_rfl, by kernel_rfl⟩⟩
theorem in77 : CodeIn Go.Proofs.Tryz.prog 77 c77 := ⟨⟨Go.Proofs.Tryz.f77, 221, Go.Proofs.Tryz.func77, ne_of_beq_false (by kernel_rfl), by kernel_rfl, by kernel_rfl, by kernel_rfl⟩⟩
theorem in78 : CodeIn Go.Proofs.Tryz.prog 78 c78 := ⟨⟨Go.Proofs.Tryz.f78, 119, Go.Proofs.Tryz.func78, ne_of_beq_false (by kernel_rfl), by kernel_rfl, by kernel_rfl, by kernel_rfl⟩⟩
theorem in79 : CodeIn Go.Proofs.Tryz.prog 79 c79 := ⟨⟨Go.Proofs.Tryz.f79, 2476638036856582550027501599, Go.Proofs.Tryz.func79, ne_of_beq_false (by kernel_rfl), by kernel_rfl, by kernel_rfl, by kernel_rfl⟩⟩
theorem in80 : CodeIn Go.Proofs.Tryz.prog 80 c80 := ⟨⟨Go.Proofs.Tryz.f80, 2876796300758125484452317077452629899507417087, Go.Proofs.Tryz.func80, ne_of_beq_false (by kernel_rfl), by kernel_rfl, by kernel_rfl, by kernel_rfl⟩⟩
theorem in81 : CodeIn Go.Proofs.Tryz.prog 81 c81 := ⟨⟨Go.Proofs.Tryz.f81, 23, Go.Proofs.Tryz.func81, ne_of_beq_false (by kernel_rfl), by kernel_rfl, by kernel_rfl, by kernel_rfl⟩⟩
theorem in82 : CodeIn Go.Proofs.Tryz.prog 82 c82 := ⟨⟨Go.Proofs.Tryz.f82, 5580801130037876660445287960737416866693247, Go.Proofs.Tryz.func82, ne_of_beq_false (by kernel_rfl), by kernel_rfl, by kernel_rfl, by kernel_rfl⟩⟩
theorem in83 : CodeIn Go.Proofs.Tryz.prog 83 c83 := ⟨⟨Go.Proofs.Tryz.f83, 262707, Go.Proofs.Tryz.func83, ne_of_beq_false (by kernel_rfl), by kernel_rfl, by kernel_rfl, by kernel_rfl⟩⟩
theorem in84 : CodeIn Go.Proofs.Tryz.prog 84 c84 := ⟨⟨Go.Proofs.Tryz.f84, 287, Go.Proofs.Tryz.func84, ne_of_beq_false (by kernel_rfl), by kernel_rfl, by kernel_rfl, by kernel_rfl⟩⟩
theorem in85 : CodeIn Go.Proofs.Tryz.prog 85 c85 := ⟨⟨Go.Proofs.Tryz.f85, 166234634063290429104274240987798527, Go.Proofs.Tryz.func85, ne_of_beq_false (by kernel_rfl), by kernel_rfl, by kernel_rfl, by kernel_rfl⟩⟩
theorem in86 : CodeIn Go.Proofs.Tryz.prog 86 c86 := ⟨⟨Go.Proofs.Tryz.f86, 37, Go.Proofs.Tryz.func86, ne_of_beq_false (by kernel_rfl), by kernel_rfl, by kernel_rfl, by kernel_rfl⟩⟩
theorem in87 : CodeIn Go.Proofs.Tryz.prog 87 c87 := ⟨⟨Go.Proofs.Tryz.f87, 536880247, Go.Proofs.Tryz.func87, ne_of_beq_false (by kernel_rfl), by kernel_rfl, by kernel_rfl, by kernel_rfl⟩⟩
theorem in88 : CodeIn Go.Proofs.Tryz.prog 88 c88 := ⟨⟨Go.Proofs.Tryz.f88, 4398114144883, Go.Proofs.Tryz.func88, ne_of_beq_false (by kernel_rfl), by kernel_rfl, by kernel_rfl, by kernel_rfl⟩⟩
theorem in89 : CodeIn Go.Proofs.Tryz.prog 89 c89 := ⟨⟨Go.Proofs.Tryz.f89, 91349427859763442105658953624729474609042202623, Go.Proofs.Tryz.func89, ne_of_beq_false (by kernel_rfl), by kernel_rfl, by kernel_rfl, by kernel_rfl⟩⟩
end Go.Ev
