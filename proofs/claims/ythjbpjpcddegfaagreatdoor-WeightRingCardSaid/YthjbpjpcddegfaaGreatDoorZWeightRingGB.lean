/- GB, for the statement WeightRing: what it needs, no more. -/
import Derived.Test.YthjbpjpcddegfaaGreatDoorZWeightRingNH
import Derived.Test.YthjbpjpcddegfaaGreatDoorZWeightRingKZ
set_option linter.unusedVariables false
set_option maxRecDepth 8000
set_option maxHeartbeats 4000000
namespace Go.RM.Tryz
open Go.RM Go.Proofs
theorem sz25 : sizeOf? Tryz.prog 25 = some 3 := by kernel_rfl
theorem ag25 : isAgg? Tryz.prog 25 = some true := by kernel_rfl
theorem fa25_2 : fieldAt? Tryz.prog 25 2 = some 2 := by kernel_rfl
theorem sz23 : sizeOf? Tryz.prog 23 = some 1 := by kernel_rfl
theorem ag23 : isAgg? Tryz.prog 23 = some false := by kernel_rfl
theorem un23 : Tryz.prog.underlying 23 = some (.slice 25) := by kernel_rfl
theorem in25 : ((Tryz.prog.info? 25).map fun i => (i.size, i.bytes, i.zero.map (·.cells.size))) = some (3, 40, some 3) := by kernel_rfl
theorem sl23 : SlT Tryz.prog 23 3 40 TSpace.cells := SlT.of2 un23 in25 (by decide) (by decide) TSpace.cells_ok
theorem go9 : isGo Tryz.prog 9 = true := by kernel_rfl
theorem fn9 : Tryz.prog.funcs[9]? = some Tryz.f9 := by kernel_rfl
theorem sz33 : sizeOf? Tryz.prog 33 = some 6 := by kernel_rfl
theorem ag33 : isAgg? Tryz.prog 33 = some true := by kernel_rfl
theorem fa33_2 : fieldAt? Tryz.prog 33 2 = some 2 := by kernel_rfl
theorem fa29_1 : fieldAt? Tryz.prog 29 1 = some 1 := by kernel_rfl
theorem sz27 : sizeOf? Tryz.prog 27 = some 1 := by kernel_rfl
theorem ag27 : isAgg? Tryz.prog 27 = some false := by kernel_rfl
theorem un27 : Tryz.prog.underlying 27 = some (.slice 26) := by kernel_rfl
theorem in26 : ((Tryz.prog.info? 26).map fun i => (i.size, i.bytes, i.zero.map (·.cells.size))) = some (1, 8, some 1) := by kernel_rfl
theorem sl27 : SlT Tryz.prog 27 1 8 (cInt .u64) := SlT.of2 un27 in26 (by decide) (by decide) (fun _ => ⟨q, q, q⟩)
theorem fa33_3 : fieldAt? Tryz.prog 33 3 = some 4 := by kernel_rfl
theorem sz30 : sizeOf? Tryz.prog 30 = some 1 := by kernel_rfl
theorem ag30 : isAgg? Tryz.prog 30 = some false := by kernel_rfl
theorem un30 : Tryz.prog.underlying 30 = some (.slice 74) := by kernel_rfl
theorem in74 : ((Tryz.prog.info? 74).map fun i => (i.size, i.bytes, i.zero.map (·.cells.size))) = some (3, 24, some 3) := by kernel_rfl
theorem sl30 : SlT Tryz.prog 30 3 24 TCell.cells := SlT.of2 un30 in74 (by decide) (by decide) TCell.cells_ok
theorem fa33_4 : fieldAt? Tryz.prog 33 4 = some 5 := by kernel_rfl
theorem sz31 : sizeOf? Tryz.prog 31 = some 1 := by kernel_rfl
theorem ag31 : isAgg? Tryz.prog 31 = some false := by kernel_rfl
theorem un31 : Tryz.prog.underlying 31 = some (.slice 33) := by kernel_rfl
theorem in33 : ((Tryz.prog.info? 33).map fun i => (i.size, i.bytes, i.zero.map (·.cells.size))) = some (6, 96, some 6) := by kernel_rfl
theorem sl31 : SlT Tryz.prog 31 6 96 TWeight.cells := SlT.of2 un31 in33 (by decide) (by decide) TWeight.cells_ok
theorem go10 : isGo Tryz.prog 10 = true := by kernel_rfl
theorem fn10 : Tryz.prog.funcs[10]? = some Tryz.f10 := by kernel_rfl
theorem fa25_0 : fieldAt? Tryz.prog 25 0 = some 0 := by kernel_rfl
theorem sz22 : sizeOf? Tryz.prog 22 = some 1 := by kernel_rfl
theorem ag22 : isAgg? Tryz.prog 22 = some false := by kernel_rfl
theorem fa25_1 : fieldAt? Tryz.prog 25 1 = some 1 := by kernel_rfl
theorem sz3 : sizeOf? Tryz.prog 3 = some 1 := by kernel_rfl
theorem ag3 : isAgg? Tryz.prog 3 = some false := by kernel_rfl
theorem go30 : isGo Tryz.prog 30 = true := by kernel_rfl
theorem fn30 : Tryz.prog.funcs[30]? = some Tryz.f30 := by kernel_rfl
theorem fa33_0 : fieldAt? Tryz.prog 33 0 = some 0 := by kernel_rfl
theorem sz4 : sizeOf? Tryz.prog 4 = some 1 := by kernel_rfl
theorem ag4 : isAgg? Tryz.prog 4 = some false := by kernel_rfl
theorem fa29_0 : fieldAt? Tryz.prog 29 0 = some 0 := by kernel_rfl
theorem sz26 : sizeOf? Tryz.prog 26 = some 1 := by kernel_rfl
theorem ag26 : isAgg? Tryz.prog 26 = some false := by kernel_rfl
theorem fa33_1 : fieldAt? Tryz.prog 33 1 = some 1 := by kernel_rfl
theorem fn65 : Tryz.prog.funcs[65]? = some Tryz.f65 := by kernel_rfl
theorem go65 : isGo Tryz.prog 65 = true := by kernel_rfl
theorem sz29 : sizeOf? Tryz.prog 29 = some 2 := by kernel_rfl
theorem ag29 : isAgg? Tryz.prog 29 = some true := by kernel_rfl
theorem fn111 : Tryz.prog.funcs[111]? = some Tryz.f111 := by kernel_rfl
theorem go111 : isGo Tryz.prog 111 = true := by kernel_rfl
theorem fn85 : Tryz.prog.funcs[85]? = some Tryz.f85 := by kernel_rfl
theorem go85 : isGo Tryz.prog 85 = true := by kernel_rfl
theorem fn149 : Tryz.prog.funcs[149]? = some Tryz.f149 := by kernel_rfl
theorem go149 : isGo Tryz.prog 149 = true := by kernel_rfl
theorem fn114 : Tryz.prog.funcs[114]? = some Tryz.f114 := by kernel_rfl
theorem go114 : isGo Tryz.prog 114 = true := by kernel_rfl
theorem fn112 : Tryz.prog.funcs[112]? = some Tryz.f112 := by kernel_rfl
theorem go112 : isGo Tryz.prog 112 = true := by kernel_rfl
theorem ze29 : zero? Tryz.prog 29 = some [.val (.int .u64 0), .val (.slice none 0 0)] := by kernel_rfl
theorem pl29 : placesOf Tryz.prog 29 = some [(0, 1), (1, 1)] := by kernel_rfl
theorem ze26 : zero? Tryz.prog 26 = some [.val (.int .u64 0)] := by kernel_rfl
theorem fn113 : Tryz.prog.funcs[113]? = some Tryz.f113 := by kernel_rfl
theorem go113 : isGo Tryz.prog 113 = true := by kernel_rfl
theorem fn42 : Tryz.prog.funcs[42]? = some Tryz.f42 := by kernel_rfl
theorem go42 : isGo Tryz.prog 42 = true := by kernel_rfl
theorem fn66 : Tryz.prog.funcs[66]? = some Tryz.f66 := by kernel_rfl
theorem go66 : isGo Tryz.prog 66 = true := by kernel_rfl
theorem sz74 : sizeOf? Tryz.prog 74 = some 3 := by kernel_rfl
theorem ag74 : isAgg? Tryz.prog 74 = some true := by kernel_rfl
theorem fa74_0 : fieldAt? Tryz.prog 74 0 = some 0 := by kernel_rfl
theorem fa74_1 : fieldAt? Tryz.prog 74 1 = some 1 := by kernel_rfl
theorem sz72 : sizeOf? Tryz.prog 72 = some 1 := by kernel_rfl
theorem ag72 : isAgg? Tryz.prog 72 = some false := by kernel_rfl
theorem fa74_2 : fieldAt? Tryz.prog 74 2 = some 2 := by kernel_rfl
theorem sz2 : sizeOf? Tryz.prog 2 = some 1 := by kernel_rfl
theorem ag2 : isAgg? Tryz.prog 2 = some false := by kernel_rfl
theorem fn67 : Tryz.prog.funcs[67]? = some Tryz.f67 := by kernel_rfl
theorem go67 : isGo Tryz.prog 67 = true := by kernel_rfl
theorem go39 : isGo Tryz.prog 39 = true := by kernel_rfl
theorem fn39 : Tryz.prog.funcs[39]? = some Tryz.f39 := by kernel_rfl
theorem fn11 : Tryz.prog.funcs[11]? = some Tryz.f11 := by kernel_rfl
theorem go11 : isGo Tryz.prog 11 = true := by kernel_rfl
theorem go12 : isGo Tryz.prog 12 = true := by kernel_rfl
theorem ze33 : zero? Tryz.prog 33 = some [.val (.bool false), .val (.int .i64 0), .val (.int .u64 0), .val (.slice none 0 0), .val (.slice none 0 0), .val (.slice none 0 0)] := by kernel_rfl
theorem fn90 : Tryz.prog.funcs[90]? = some Tryz.f90 := by kernel_rfl
theorem go90 : isGo Tryz.prog 90 = true := by kernel_rfl
theorem fn54 : Tryz.prog.funcs[54]? = some Tryz.f54 := by kernel_rfl
theorem go29 : isGo Tryz.prog 29 = true := by kernel_rfl
theorem fn55 : Tryz.prog.funcs[55]? = some Tryz.f55 := by kernel_rfl
theorem go55 : isGo Tryz.prog 55 = true := by kernel_rfl
theorem go54 : isGo Tryz.prog 54 = true := by kernel_rfl
theorem fn29 : Tryz.prog.funcs[29]? = some Tryz.f29 := by kernel_rfl
theorem un3 : Tryz.prog.underlying 3 = some (.int .i64) := by kernel_rfl
theorem un145 : Tryz.prog.underlying 145 = some (.int .u64) := by kernel_rfl
theorem fn115 : Tryz.prog.funcs[115]? = some Tryz.f115 := by kernel_rfl
theorem go115 : isGo Tryz.prog 115 = true := by kernel_rfl
theorem fn68 : Tryz.prog.funcs[68]? = some Tryz.f68 := by kernel_rfl
theorem go68 : isGo Tryz.prog 68 = true := by kernel_rfl
theorem fn89 : Tryz.prog.funcs[89]? = some Tryz.f89 := by kernel_rfl
theorem go89 : isGo Tryz.prog 89 = true := by kernel_rfl
theorem ze74 : zero? Tryz.prog 74 = some [.val (.int .u64 0), .val (.int .i64 0), .val (.int .i64 0)] := by kernel_rfl
theorem fn116 : Tryz.prog.funcs[116]? = some Tryz.f116 := by kernel_rfl
theorem go116 : isGo Tryz.prog 116 = true := by kernel_rfl
theorem fn69 : Tryz.prog.funcs[69]? = some Tryz.f69 := by kernel_rfl
theorem go69 : isGo Tryz.prog 69 = true := by kernel_rfl
theorem go40 : isGo Tryz.prog 40 = true := by kernel_rfl
theorem fn40 : Tryz.prog.funcs[40]? = some Tryz.f40 := by kernel_rfl
theorem pl33 : placesOf Tryz.prog 33 = some [(0, 1), (1, 1), (2, 2), (4, 1), (5, 1)] := by kernel_rfl
theorem fn13 : Tryz.prog.funcs[13]? = some Tryz.f13 := by kernel_rfl
theorem go13 : isGo Tryz.prog 13 = true := by kernel_rfl
theorem go41 : isGo Tryz.prog 41 = true := by kernel_rfl
theorem fn41 : Tryz.prog.funcs[41]? = some Tryz.f41 := by kernel_rfl
theorem fn14 : Tryz.prog.funcs[14]? = some Tryz.f14 := by kernel_rfl
theorem go14 : isGo Tryz.prog 14 = true := by kernel_rfl
theorem fn117 : Tryz.prog.funcs[117]? = some Tryz.f117 := by kernel_rfl
theorem go117 : isGo Tryz.prog 117 = true := by kernel_rfl
theorem fn70 : Tryz.prog.funcs[70]? = some Tryz.f70 := by kernel_rfl
theorem fn118 : Tryz.prog.funcs[118]? = some Tryz.f118 := by kernel_rfl
theorem go118 : isGo Tryz.prog 118 = true := by kernel_rfl
theorem un152 : Tryz.prog.underlying 152 = some (.slice 3) := by kernel_rfl
theorem ze3 : zero? Tryz.prog 3 = some [.val (.int .i64 0)] := by kernel_rfl
theorem in3 : ((Tryz.prog.info? 3).map fun i => (i.size, i.bytes, i.zero.map (·.cells.size))) = some (1, 8, some 1) := by kernel_rfl
theorem sl152 : SlT Tryz.prog 152 1 8 (cInt .i64) := SlT.of2 un152 in3 (by decide) (by decide) (fun _ => ⟨q, q, q⟩)
theorem fn88 : Tryz.prog.funcs[88]? = some Tryz.f88 := by kernel_rfl
theorem go88 : isGo Tryz.prog 88 = true := by kernel_rfl
theorem fn119 : Tryz.prog.funcs[119]? = some Tryz.f119 := by kernel_rfl
theorem go119 : isGo Tryz.prog 119 = true := by kernel_rfl
theorem fn194 : Tryz.prog.funcs[194]? = some Tryz.f194 := by kernel_rfl
theorem go194 : isGo Tryz.prog 194 = true := by kernel_rfl
theorem fn172 : Tryz.prog.funcs[172]? = some Tryz.f172 := by kernel_rfl
theorem fn173 : Tryz.prog.funcs[173]? = some Tryz.f173 := by kernel_rfl
theorem go173 : isGo Tryz.prog 173 = true := by kernel_rfl
theorem go172 : isGo Tryz.prog 172 = true := by kernel_rfl
theorem fn150 : Tryz.prog.funcs[150]? = some Tryz.f150 := by kernel_rfl
theorem go150 : isGo Tryz.prog 150 = true := by kernel_rfl
theorem fn123 : Tryz.prog.funcs[123]? = some Tryz.f123 := by kernel_rfl
theorem go123 : isGo Tryz.prog 123 = true := by kernel_rfl
theorem fn91 : Tryz.prog.funcs[91]? = some Tryz.f91 := by kernel_rfl
theorem go91 : isGo Tryz.prog 91 = true := by kernel_rfl
theorem fn56 : Tryz.prog.funcs[56]? = some Tryz.f56 := by kernel_rfl
theorem go56 : isGo Tryz.prog 56 = true := by kernel_rfl
theorem fn120 : Tryz.prog.funcs[120]? = some Tryz.f120 := by kernel_rfl
theorem go120 : isGo Tryz.prog 120 = true := by kernel_rfl
theorem fn174 : Tryz.prog.funcs[174]? = some Tryz.f174 := by kernel_rfl
theorem go174 : isGo Tryz.prog 174 = true := by kernel_rfl
theorem pl74 : placesOf Tryz.prog 74 = some [(0, 1), (1, 1), (2, 1)] := by kernel_rfl
theorem ek74 : eqKinds Tryz.prog 74 = some [(0, .int .u64), (1, .int .i64), (2, .int .i64)] := by kernel_rfl
theorem fn151 : Tryz.prog.funcs[151]? = some Tryz.f151 := by kernel_rfl
theorem go151 : isGo Tryz.prog 151 = true := by kernel_rfl
theorem fn121 : Tryz.prog.funcs[121]? = some Tryz.f121 := by kernel_rfl
theorem go121 : isGo Tryz.prog 121 = true := by kernel_rfl
theorem go72 : isGo Tryz.prog 72 = true := by kernel_rfl
theorem fn72 : Tryz.prog.funcs[72]? = some Tryz.f72 := by kernel_rfl
theorem fn71 : Tryz.prog.funcs[71]? = some Tryz.f71 := by kernel_rfl
theorem go71 : isGo Tryz.prog 71 = true := by kernel_rfl
theorem go70 : isGo Tryz.prog 70 = true := by kernel_rfl
theorem fn43 : Tryz.prog.funcs[43]? = some Tryz.f43 := by kernel_rfl
theorem go43 : isGo Tryz.prog 43 = true := by kernel_rfl
theorem fn73 : Tryz.prog.funcs[73]? = some Tryz.f73 := by kernel_rfl
theorem go73 : isGo Tryz.prog 73 = true := by kernel_rfl
theorem un178 : Tryz.prog.underlying 178 = some (.slice 29) := by kernel_rfl
theorem in29 : ((Tryz.prog.info? 29).map fun i => (i.size, i.bytes, i.zero.map (·.cells.size))) = some (2, 32, some 2) := by kernel_rfl
theorem sl178 : SlT Tryz.prog 178 2 32 TFacts.cells := SlT.of2 un178 in29 (by decide) (by decide) TFacts.cells_ok
theorem fn122 : Tryz.prog.funcs[122]? = some Tryz.f122 := by kernel_rfl
theorem go122 : isGo Tryz.prog 122 = true := by kernel_rfl
theorem fn74 : Tryz.prog.funcs[74]? = some Tryz.f74 := by kernel_rfl
theorem go74 : isGo Tryz.prog 74 = true := by kernel_rfl
theorem fn124 : Tryz.prog.funcs[124]? = some Tryz.f124 := by kernel_rfl
theorem go124 : isGo Tryz.prog 124 = true := by kernel_rfl
theorem fn125 : Tryz.prog.funcs[125]? = some Tryz.f125 := by kernel_rfl
theorem go125 : isGo Tryz.prog 125 = true := by kernel_rfl
theorem fn75 : Tryz.prog.funcs[75]? = some Tryz.f75 := by kernel_rfl
theorem go75 : isGo Tryz.prog 75 = true := by kernel_rfl
theorem go44 : isGo Tryz.prog 44 = true := by kernel_rfl
theorem fn44 : Tryz.prog.funcs[44]? = some Tryz.f44 := by kernel_rfl
theorem fn76 : Tryz.prog.funcs[76]? = some Tryz.f76 := by kernel_rfl
theorem go76 : isGo Tryz.prog 76 = true := by kernel_rfl
theorem fn77 : Tryz.prog.funcs[77]? = some Tryz.f77 := by kernel_rfl
theorem go77 : isGo Tryz.prog 77 = true := by kernel_rfl
theorem fn78 : Tryz.prog.funcs[78]? = some Tryz.f78 := by kernel_rfl
theorem go78 : isGo Tryz.prog 78 = true := by kernel_rfl
theorem go45 : isGo Tryz.prog 45 = true := by kernel_rfl
theorem fn45 : Tryz.prog.funcs[45]? = some Tryz.f45 := by kernel_rfl
theorem fn19 : Tryz.prog.funcs[19]? = some Tryz.f19 := by kernel_rfl
theorem go19 : isGo Tryz.prog 19 = true := by kernel_rfl
theorem fn16 : Tryz.prog.funcs[16]? = some Tryz.f16 := by kernel_rfl
theorem go16 : isGo Tryz.prog 16 = true := by kernel_rfl
theorem un4 : Tryz.prog.underlying 4 = some (.bool) := by kernel_rfl
theorem go15 : isGo Tryz.prog 15 = true := by kernel_rfl
theorem fn15 : Tryz.prog.funcs[15]? = some Tryz.f15 := by kernel_rfl
theorem fn81 : Tryz.prog.funcs[81]? = some Tryz.f81 := by kernel_rfl
theorem go81 : isGo Tryz.prog 81 = true := by kernel_rfl
theorem go128 : isGo Tryz.prog 128 = true := by kernel_rfl
theorem fn82 : Tryz.prog.funcs[82]? = some Tryz.f82 := by kernel_rfl
theorem go82 : isGo Tryz.prog 82 = true := by kernel_rfl
theorem fn83 : Tryz.prog.funcs[83]? = some Tryz.f83 := by kernel_rfl
theorem go83 : isGo Tryz.prog 83 = true := by kernel_rfl
theorem go49 : isGo Tryz.prog 49 = true := by kernel_rfl
theorem fn49 : Tryz.prog.funcs[49]? = some Tryz.f49 := by kernel_rfl
theorem fn21 : Tryz.prog.funcs[21]? = some Tryz.f21 := by kernel_rfl
theorem go21 : isGo Tryz.prog 21 = true := by kernel_rfl
theorem fn17 : Tryz.prog.funcs[17]? = some Tryz.f17 := by kernel_rfl
theorem go17 : isGo Tryz.prog 17 = true := by kernel_rfl
theorem fn3 : Tryz.prog.funcs[3]? = some Tryz.f3 := by kernel_rfl
end Go.RM.Tryz
