/-
  The functions' code is what the evaluator's maker makes of the program's (1).
-/
import Derived.Test.YtcmlfnkmpgdacabGreatDoorEvProofD
import Derived.Test.YtcmlfnkmpgdacabGreatDoorEvCode0
import Derived.Test.YtcmlfnkmpgdacabGreatDoorEvCode1
import Derived.Test.YtcmlfnkmpgdacabGreatDoorEvCode2
import Derived.Test.YtcmlfnkmpgdacabGreatDoorProg
import Derived.KernelRfl
namespace Go.Ev
set_option maxRecDepth 100000
theorem in90 : CodeIn Go.Proofs.Tryz.prog 90 c90 := ⟨⟨Go.Proofs.Tryz.f90, 8942126120903, Go.Proofs.Tryz.func90, ne_of_beq_false (by kernel_rfl), by kernel_rfl, by kernel_rfl, by kernel_rfl⟩⟩
theorem in91 : CodeIn Go.Proofs.Tryz.prog 91 c91 := ⟨⟨Go.Proofs.Tryz.f91, 4948341301007, Go.Proofs.Tryz.func91, ne_of_beq_false (by kernel_rfl), by kernel_rfl, by kernel_rfl, by kernel_rfl⟩⟩
theorem in92 : CodeIn Go.Proofs.Tryz.prog 92 c92 := ⟨⟨Go.Proofs.Tryz.f92, 605, Go.Proofs.Tryz.func92, ne_of_beq_false (by kernel_rfl), by kernel_rfl, by kernel_rfl, by kernel_rfl⟩⟩
theorem in93 : CodeIn Go.Proofs.Tryz.prog 93 c93 := ⟨⟨Go.Proofs.Tryz.f93, 612489620189355975, Go.Proofs.Tryz.func93, ne_of_beq_false (by kernel_rfl), by kernel_rfl, by kernel_rfl, by kernel_rfl⟩⟩
theorem in94 : CodeIn Go.Proofs.Tryz.prog 94 c94 := ⟨⟨Go.Proofs.Tryz.f94, 2361183314002590040079, Go.Proofs.Tryz.func94, ne_of_beq_false (by kernel_rfl), by kernel_rfl, by kernel_rfl, by kernel_rfl⟩⟩
theorem in95 : CodeIn Go.Proofs.Tryz.prog 95 c95 := ⟨⟨Go.Proofs.Tryz.f95, 39, Go.Proofs.Tryz.func95, ne_of_beq_false (by kernel_rfl), by kernel_rfl, by kernel_rfl, by kernel_rfl⟩⟩
theorem in97 : CodeIn Go.Proofs.Tryz.prog 97 c97 := ⟨⟨Go.Proofs.Tryz.f97, 2363, Go.Proofs.Tryz.func97, ne_of_beq_false (by kernel_rfl), by kernel_rfl, by kernel_rfl, by kernel_rfl⟩⟩
theorem in98 : CodeIn Go.Proofs.Tryz.prog 98 c98 := ⟨⟨Go.Proofs.Tryz.f98, 157, Go.Proofs.Tryz.func98, ne_of_beq_false (by kernel_rfl), by kernel_rfl, by kernel_rfl, by kernel_rfl⟩⟩
theorem in99 : CodeIn Go.Proofs.Tryz.prog 99 c99 := ⟨⟨Go.Proofs.Tryz.f99, 34359878415, Go.Proofs.Tryz.func99, ne_of_beq_false (by kernel_rfl), by kernel_rfl, by kernel_rfl, by kernel_rfl⟩⟩
theorem in100 : CodeIn Go.Proofs.Tryz.prog 100 c100 := ⟨⟨Go.Proofs.Tryz.f100, 262707, Go.Proofs.Tryz.func100, ne_of_beq_false (by kernel_rfl), by kernel_rfl, by kernel_rfl, by kernel_rfl⟩⟩
theorem in101 : CodeIn Go.Proofs.Tryz.prog 101 c101 := ⟨⟨Go.Proofs.Tryz.f101, 562954282073919, Go.Proofs.Tryz.func101, ne_of_beq_false (by kernel_rfl), by kernel_rfl, by kernel_rfl, by kernel_rfl⟩⟩
theorem in102 : CodeIn Go.Proofs.Tryz.prog 102 c102 := ⟨⟨Go.Proofs.Tryz.f102, 479, Go.Proofs.Tryz.func102, ne_of_beq_false (by kernel_rfl), by kernel_rfl, by kernel_rfl, by kernel_rfl⟩⟩
theorem in103 : CodeIn Go.Proofs.Tryz.prog 103 c103 := ⟨⟨Go.Proofs.Tryz.f103, 79, Go.Proofs.Tryz.func103, ne_of_beq_false (by kernel_rfl), by kernel_rfl, by kernel_rfl, by kernel_rfl⟩⟩
theorem in104 : CodeIn Go.Proofs.Tryz.prog 104 c104 := ⟨⟨Go.Proofs.Tryz.f104, 39, Go.Proofs.Tryz.func104, ne_of_beq_false (by kernel_rfl), by kernel_rfl, by kernel_rfl, by kernel_rfl⟩⟩
theorem in105 : CodeIn Go.Proofs.Tryz.prog 105 c105 := ⟨⟨Go.Proofs.Tryz.f105, 7, Go.Proofs.Tryz.func105, ne_of_beq_false (by kernel_rfl), by kernel_rfl, by kernel_rfl, by kernel_rfl⟩⟩
theorem in106 : CodeIn Go.Proofs.Tryz.prog 106 c106 := ⟨⟨Go.Proofs.Tryz.f106, 39, Go.Proofs.Tryz.func106, ne_of_beq_false (by kernel_rfl), by kernel_rfl, by kernel_rfl, by kernel_rfl⟩⟩
theorem in107 : CodeIn Go.Proofs.Tryz.prog 107 c107 := ⟨⟨Go.Proofs.Tryz.f107, 2251808948887503, Go.Proofs.Tryz.func107, ne_of_beq_false (by kernel_rfl), by kernel_rfl, by kernel_rfl, by kernel_rfl⟩⟩
theorem in108 : CodeIn Go.Proofs.Tryz.prog 108 c108 := ⟨⟨Go.Proofs.Tryz.f108, 7, Go.Proofs.Tryz.func108, ne_of_beq_false (by kernel_rfl), by kernel_rfl, by kernel_rfl, by kernel_rfl⟩⟩
theorem in111 : CodeIn Go.Proofs.Tryz.prog 111 c111 := ⟨⟨Go.Proofs.Tryz.f111, 2167, Go.Proofs.Tryz.func111, ne_of_beq_false (by kernel_rfl), by kernel_rfl, by kernel_rfl, by kernel_rfl⟩⟩
theorem in112 : CodeIn Go.Proofs.Tryz.prog 112 c112 := ⟨⟨Go.Proofs.Tryz.f112, 583, Go.Proofs.Tryz.func112, ne_of_beq_false (by kernel_rfl), by kernel_rfl, by kernel_rfl, by kernel_rfl⟩⟩
theorem in113 : CodeIn Go.Proofs.Tryz.prog 113 c113 := ⟨⟨Go.Proofs.Tryz.f113, 23, Go.Proofs.Tryz.func113, ne_of_beq_false (by kernel_rfl), by kernel_rfl, by kernel_rfl, by kernel_rfl⟩⟩
theorem in114 : CodeIn Go.Proofs.Tryz.prog 114 c114 := ⟨⟨Go.Proofs.Tryz.f114, 136316151, Go.Proofs.Tryz.func114, ne_of_beq_false (by kernel_rfl), by kernel_rfl, by kernel_rfl, by kernel_rfl⟩⟩
theorem in122 : CodeIn Go.Proofs.Tryz.prog 122 c122 := ⟨⟨Go.Proofs.Tryz.f122, 262707, Go.Proofs.Tryz.func122, ne_of_beq_false (by kernel_rfl), by kernel_rfl, by kernel_rfl, by kernel_rfl⟩⟩
theorem in123 : CodeIn Go.Proofs.Tryz.prog 123 c123 := ⟨⟨Go.Proofs.Tryz.f123, 19, Go.Proofs.Tryz.func123, ne_of_beq_false (by kernel_rfl), by kernel_rfl, by kernel_rfl, by kernel_rfl⟩⟩
theorem in124 : CodeIn Go.Proofs.Tryz.prog 124 c124 := ⟨⟨Go.Proofs.Tryz.f124, 71, Go.Proofs.Tryz.func124, ne_of_beq_false (by kernel_rfl), by kernel_rfl, by kernel_rfl, by kernel_rfl⟩⟩
theorem in125 : CodeIn Go.Proofs.Tryz.prog 125 c125 := ⟨⟨Go.Proofs.Tryz.f125, 2147615703, Go.Proofs.Tryz.func125, ne_of_beq_false (by kernel_rfl), by kernel_rfl, by kernel_rfl, by kernel_rfl⟩⟩
theorem in126 : CodeIn Go.Proofs.Tryz.prog 126 c126 := ⟨⟨Go.Proofs.Tryz.f126, 1495, Go.Proofs.Tryz.func126, ne_of_beq_false (by kernel_rfl), by kernel_rfl, by kernel_rfl, by kernel_rfl⟩⟩
theorem in127 : CodeIn Go.Proofs.Tryz.prog 127 c127 := ⟨⟨Go.Proofs.Tryz.f127, 1208930449350230618277839, Go.Proofs.Tryz.func127, ne_of_beq_false (by kernel_rfl), by kernel_rfl, by kernel_rfl, by kernel_rfl⟩⟩
theorem in134 : CodeIn Go.Proofs.Tryz.prog 134 c134 := ⟨⟨Go.Proofs.Tryz.f134, 71303679, Go.Proofs.Tryz.func134, ne_of_beq_false (by kernel_rfl), by kernel_rfl, by kernel_rfl, by kernel_rfl⟩⟩
theorem in135 : CodeIn Go.Proofs.Tryz.prog 135 c135 := ⟨⟨Go.Proofs.Tryz.f135, 39, Go.Proofs.Tryz.func135, ne_of_beq_false (by kernel_rfl), by kernel_rfl, by kernel_rfl, by kernel_rfl⟩⟩
theorem in136 : CodeIn Go.Proofs.Tryz.prog 136 c136 := ⟨⟨Go.Proofs.Tryz.f136, 39, Go.Proofs.Tryz.func136, ne_of_beq_false (by kernel_rfl), by kernel_rfl, by kernel_rfl, by kernel_rfl⟩⟩
theorem in137 : CodeIn Go.Proofs.Tryz.prog 137 c137 := ⟨⟨Go.Proofs.Tryz.f137, 4503606640246911, Go.Proofs.Tryz.func137, ne_of_beq_false (by kernel_rfl), by kernel_rfl, by kernel_rfl, by kernel_rfl⟩⟩
theorem in138 : CodeIn Go.Proofs.Tryz.prog 138 c138 := ⟨⟨Go.Proofs.Tryz.f138, 1967, Go.Proofs.Tryz.func138, ne_of_beq_false (by kernel_rfl), by kernel_rfl, by kernel_rfl, by kernel_rfl⟩⟩
theorem in139 : CodeIn Go.Proofs.Tryz.prog 139 c139 := ⟨⟨Go.Proofs.Tryz.f139, 7, Go.Proofs.Tryz.func139, ne_of_beq_false (by kernel_rfl), by kernel_rfl, by kernel_rfl, by kernel_rfl⟩⟩
theorem in140 : CodeIn Go.Proofs.Tryz.prog 140 c140 := ⟨⟨Go.Proofs.Tryz.f140, 1, Go.Proofs.Tryz.func140, ne_of_beq_false (by kernel_rfl), by kernel_rfl, by kernel_rfl, by kernel_rfl⟩⟩
theorem in141 : CodeIn Go.Proofs.Tryz.prog 141 c141 := ⟨⟨Go.Proofs.Tryz.f141, 32985357238383, Go.Proofs.Tryz.func141, ne_of_beq_false (by kernel_rfl), by kernel_rfl, by kernel_rfl, by kernel_rfl⟩⟩
theorem in142 : CodeIn Go.Proofs.Tryz.prog 142 c142 := ⟨⟨Go.Proofs.Tryz.f142, 1073742391, Go.Proofs.Tryz.func142, ne_of_beq_false (by kernel_rfl), by kernel_rfl, by kernel_rfl, by kernel_rfl⟩⟩
theorem in143 : CodeIn Go.Proofs.Tryz.prog 143 c143 := ⟨⟨Go.Proofs.Tryz.f143, 31, Go.Proofs.Tryz.func143, ne_of_beq_false (by kernel_rfl), by kernel_rfl, by kernel_rfl, by kernel_rfl⟩⟩
theorem in144 : CodeIn Go.Proofs.Tryz.prog 144 c144 := ⟨⟨Go.Proofs.Tryz.f144, 5, Go.Proofs.Tryz.func144, ne_of_beq_false (by kernel_rfl), by kernel_rfl, by kernel_rfl, by kernel_rfl⟩⟩
theorem in145 : CodeIn Go.Proofs.Tryz.prog 145 c145 := ⟨⟨Go.Proofs.Tryz.f145, 37, Go.Proofs.Tryz.func145, ne_of_beq_false (by kernel_rfl), by kernel_rfl, by kernel_rfl, by kernel_rfl⟩⟩
theorem in146 : CodeIn Go.Proofs.Tryz.prog 146 c146 := ⟨⟨Go.Proofs.Tryz.f146, 531, Go.Proofs.Tryz.func146, ne_of_beq_false (by kernel_rfl), by kernel_rfl, by kernel_rfl, by kernel_rfl⟩⟩
theorem in147 : CodeIn Go.Proofs.Tryz.prog 147 c147 := ⟨⟨Go.Proofs.Tryz.f147, 995, Go.Proofs.Tryz.func147, ne_of_beq_false (by kernel_rfl), by kernel_rfl, by kernel_rfl, by kernel_rfl⟩⟩
theorem in148 : CodeIn Go.Proofs.Tryz.prog 148 c148 := ⟨⟨Go.Proofs.Tryz.f148, 15728819, Go.Proofs.Tryz.func148, ne_of_beq_false (by kernel_rfl), by kernel_rfl, by kernel_rfl, by kernel_rfl⟩⟩
theorem in149 : CodeIn Go.Proofs.Tryz.prog 149 c149 := ⟨⟨Go.Proofs.Tryz.f149, 499, Go.Proofs.Tryz.func149, ne_of_beq_false (by kernel_rfl), by kernel_rfl, by kernel_rfl, by kernel_rfl⟩⟩
theorem in150 : CodeIn Go.Proofs.Tryz.prog 150 c150 := ⟨⟨Go.Proofs.Tryz.f150, 29, Go.Proofs.Tryz.func150, ne_of_beq_false (by kernel_rfl), by kernel_rfl, by kernel_rfl, by kernel_rfl⟩⟩
theorem in151 : CodeIn Go.Proofs.Tryz.prog 151 c151 := ⟨⟨Go.Proofs.Tryz.f151, 243, Go.Proofs.Tryz.func151, ne_of_beq_false (by kernel_rfl), by kernel_rfl, by kernel_rfl, by kernel_rfl⟩⟩
theorem in152 : CodeIn Go.Proofs.Tryz.prog 152 c152 := ⟨⟨Go.Proofs.Tryz.f152, 515, Go.Proofs.Tryz.func152, ne_of_beq_false (by kernel_rfl), by kernel_rfl, by kernel_rfl, by kernel_rfl⟩⟩
theorem in153 : CodeIn Go.Proofs.Tryz.prog 153 c153 := ⟨⟨Go.Proofs.Tryz.f153, 2694802086910736089202651443452969459, Go.Proofs.Tryz.func153, ne_of_beq_false (by kernel_rfl), by kernel_rfl, by kernel_rfl, by kernel_rfl⟩⟩
theorem in154 : CodeIn Go.Proofs.Tryz.prog 154 c154 := ⟨⟨Go.Proofs.Tryz.f154, 50216825107426020812020727189960846589888575414338702028759, Go.Proofs.Tryz.func154, ne_of_beq_false (by kernel_rfl), by kernel_rfl, by kernel_rfl, by kernel_rfl⟩⟩
theorem in155 : CodeIn Go.Proofs.Tryz.prog 155 c155 := ⟨⟨Go.Proofs.Tryz.f155, 504373101, Go.Proofs.Tryz.func155, ne_of_beq_false (by kernel_rfl), by kernel_rfl, by kernel_rfl, by kernel_rfl⟩⟩
theorem in156 : CodeIn Go.Proofs.Tryz.prog 156 c156 := ⟨⟨Go.Proofs.Tryz.f156, 535217884764734955396857238551441975558536223, Go.Proofs.Tryz.func156, ne_of_beq_false (by kernel_rfl), by kernel_rfl, by kernel_rfl, by kernel_rfl⟩⟩
theorem in157 : CodeIn Go.Proofs.Tryz.prog 157 c157 := ⟨⟨Go.Proofs.Tryz.f157, 10486495, Go.Proofs.Tryz.func157, ne_of_beq_false (by kernel_rfl), by kernel_rfl, by kernel_rfl, by kernel_rfl⟩⟩
theorem in158 : CodeIn Go.Proofs.Tryz.prog 158 c158 := ⟨⟨Go.Proofs.Tryz.f158, 2053, Go.Proofs.Tryz.func158, ne_of_beq_false (by kernel_rfl), by kernel_rfl, by kernel_rfl, by kernel_rfl⟩⟩
theorem in159 : CodeIn Go.Proofs.Tryz.prog 159 c159 := ⟨⟨Go.Proofs.Tryz.f159, 21, Go.Proofs.Tryz.func159, ne_of_beq_false (by kernel_rfl), by kernel_rfl, by kernel_rfl, by kernel_rfl⟩⟩
theorem in160 : CodeIn Go.Proofs.Tryz.prog 160 c160 := ⟨⟨Go.Proofs.Tryz.f160, 27, Go.Proofs.Tryz.func160, ne_of_beq_false (by kernel_rfl), by kernel_rfl, by kernel_rfl, by kernel_rfl⟩⟩
theorem in161 : CodeIn Go.Proofs.Tryz.prog 161 c161 := ⟨⟨Go.Proofs.Tryz.f161, 4019, Go.Proofs.Tryz.func161, ne_of_beq_false (by kernel_rfl), by kernel_rfl, by kernel_rfl, by kernel_rfl⟩⟩
theorem in162 : CodeIn Go.Proofs.Tryz.prog 162 c162 := ⟨⟨Go.Proofs.Tryz.f162, 79, Go.Proofs.Tryz.func162, ne_of_beq_false (by kernel_rfl), by kernel_rfl, by kernel_rfl, by kernel_rfl⟩⟩
theorem in163 : CodeIn Go.Proofs.Tryz.prog 163 c163 := ⟨⟨Go.Proofs.Tryz.f163, 37, Go.Proofs.Tryz.func163, ne_of_beq_false (by kernel_rfl), by kernel_rfl, by kernel_rfl, by kernel_rfl⟩⟩
theorem in164 : CodeIn Go.Proofs.Tryz.prog 164 c164 := ⟨⟨Go.Proofs.Tryz.f164, 2063765345267, Go.Proofs.Tryz.func164, ne_of_beq_false (by kernel_rfl), by kernel_rfl, by kernel_rfl, by kernel_rfl⟩⟩
theorem in165 : CodeIn Go.Proofs.Tryz.prog 165 c165 := ⟨⟨Go.Proofs.Tryz.f165, 9971643858119591675232621529902918335, Go.Proofs.Tryz.func165, ne_of_beq_false (by kernel_rfl), by kernel_rfl, by kernel_rfl, by kernel_rfl⟩⟩
theorem in166 : CodeIn Go.Proofs.Tryz.prog 166 c166 := ⟨⟨Go.Proofs.Tryz.f166, 2247, Go.Proofs.Tryz.func166, ne_of_beq_false (by kernel_rfl), by kernel_rfl, by kernel_rfl, by kernel_rfl⟩⟩
theorem in167 : CodeIn Go.Proofs.Tryz.prog 167 c167 := ⟨⟨Go.Proofs.Tryz.f167, 5, Go.Proofs.Tryz.func167, ne_of_beq_false (by kernel_rfl), by kernel_rfl, by kernel_rfl, by kernel_rfl⟩⟩
theorem in168 : CodeIn Go.Proofs.Tryz.prog 168 c168 := ⟨⟨Go.Proofs.Tryz.f168, 136391, Go.Proofs.Tryz.func168, ne_of_beq_false (by kernel_rfl), by kernel_rfl, by kernel_rfl, by kernel_rfl⟩⟩
theorem in169 : CodeIn Go.Proofs.Tryz.prog 169 c169 := ⟨⟨Go.Proofs.Tryz.f169, 1048627, Go.Proofs.Tryz.func169, ne_of_beq_false (by kernel_rfl), by kernel_rfl, by kernel_rfl, by kernel_rfl⟩⟩
theorem in170 : CodeIn Go.Proofs.Tryz.prog 170 c170 := ⟨⟨Go.Proofs.Tryz.f170, 71, Go.Proofs.Tryz.func170, ne_of_beq_false (by kernel_rfl), by kernel_rfl, by kernel_rfl, by kernel_rfl⟩⟩
theorem in171 : CodeIn Go.Proofs.Tryz.prog 171 c171 := ⟨⟨Go.Proofs.Tryz.f171, 4612671198033121267, Go.Proofs.Tryz.func171, ne_of_beq_false (by kernel_rfl), by kernel_rfl, by kernel_rfl, by kernel_rfl⟩⟩
theorem in172 : CodeIn Go.Proofs.Tryz.prog 172 c172 := ⟨⟨Go.Proofs.Tryz.f172, 7, Go.Proofs.Tryz.func172, ne_of_beq_false (by kernel_rfl), by kernel_rfl, by kernel_rfl, by kernel_rfl⟩⟩
theorem in173 : CodeIn Go.Proofs.Tryz.prog 173 c173 := ⟨⟨Go.Proofs.Tryz.f173, 10151263067596508119242492609535, Go.Proofs.Tryz.func173, ne_of_beq_false (by kernel_rfl), by kernel_rfl, by kernel_rfl, by kernel_rfl⟩⟩
theorem in174 : CodeIn Go.Proofs.Tryz.prog 174 c174 := ⟨⟨Go.Proofs.Tryz.f174, 2272104841327, Go.Proofs.Tryz.func174, ne_of_beq_false (by kernel_rfl), by kernel_rfl, by kernel_rfl, by kernel_rfl⟩⟩
theorem in175 : CodeIn Go.Proofs.Tryz.prog 175 c175 := ⟨⟨Go.Proofs.Tryz.f175, 1373, Go.Proofs.Tryz.func175, ne_of_beq_false (by kernel_rfl), by kernel_rfl, by kernel_rfl, by kernel_rfl⟩⟩
theorem in176 : CodeIn Go.Proofs.Tryz.prog 176 c176 := ⟨⟨Go.Proofs.Tryz.f176, 35184908968255, Go.Proofs.Tryz.func176, ne_of_beq_false (by kernel_rfl), by kernel_rfl, by kernel_rfl, by kernel_rfl⟩⟩
end Go.Ev
