/- GB, for the statement StepsParts: what it needs, no more. -/
import Derived.Test.YtkcmehgfndfbhaaGreatDoorZStepsPartsGA
import Derived.Test.YtkcmehgfndfbhaaGreatDoorZStepsPartsKX
set_option linter.unusedVariables false
set_option maxRecDepth 8000
set_option maxHeartbeats 4000000
namespace Go.RM.Tryz
open Go.RM Go.Proofs
theorem sz28 : sizeOf? Tryz.prog 28 = some 6 := by kernel_rfl
theorem ag28 : isAgg? Tryz.prog 28 = some true := by kernel_rfl
theorem sz31 : sizeOf? Tryz.prog 31 = some 2 := by kernel_rfl
theorem ag31 : isAgg? Tryz.prog 31 = some true := by kernel_rfl
theorem fa28_0 : fieldAt? Tryz.prog 28 0 = some 0 := by kernel_rfl
theorem sz25 : sizeOf? Tryz.prog 25 = some 3 := by kernel_rfl
theorem ag25 : isAgg? Tryz.prog 25 = some true := by kernel_rfl
theorem fa25_0 : fieldAt? Tryz.prog 25 0 = some 0 := by kernel_rfl
theorem sz22 : sizeOf? Tryz.prog 22 = some 1 := by kernel_rfl
theorem ag22 : isAgg? Tryz.prog 22 = some false := by kernel_rfl
theorem fa25_1 : fieldAt? Tryz.prog 25 1 = some 1 := by kernel_rfl
theorem sz3 : sizeOf? Tryz.prog 3 = some 1 := by kernel_rfl
theorem ag3 : isAgg? Tryz.prog 3 = some false := by kernel_rfl
theorem fa25_2 : fieldAt? Tryz.prog 25 2 = some 2 := by kernel_rfl
theorem sz23 : sizeOf? Tryz.prog 23 = some 1 := by kernel_rfl
theorem ag23 : isAgg? Tryz.prog 23 = some false := by kernel_rfl
theorem un23 : Tryz.prog.underlying 23 = some (.slice 25) := by kernel_rfl
theorem in25 : ((Tryz.prog.info? 25).map fun i => (i.size, i.bytes, i.zero.map (·.cells.size))) = some (3, 40, some 3) := by kernel_rfl
theorem sl23 : SlT Tryz.prog 23 3 40 TSpace.cells := SlT.of2 un23 in25 (by decide) (by decide) TSpace.cells_ok
theorem fn98 : Tryz.prog.funcs[98]? = some Tryz.f98 := by kernel_rfl
theorem go98 : isGo Tryz.prog 98 = true := by kernel_rfl
theorem fn69 : Tryz.prog.funcs[69]? = some Tryz.f69 := by kernel_rfl
theorem go49 : isGo Tryz.prog 49 = true := by kernel_rfl
theorem fn70 : Tryz.prog.funcs[70]? = some Tryz.f70 := by kernel_rfl
theorem go70 : isGo Tryz.prog 70 = true := by kernel_rfl
theorem go69 : isGo Tryz.prog 69 = true := by kernel_rfl
theorem fn49 : Tryz.prog.funcs[49]? = some Tryz.f49 := by kernel_rfl
theorem fa28_3 : fieldAt? Tryz.prog 28 3 = some 5 := by kernel_rfl
theorem sz26 : sizeOf? Tryz.prog 26 = some 1 := by kernel_rfl
theorem ag26 : isAgg? Tryz.prog 26 = some false := by kernel_rfl
theorem un26 : Tryz.prog.underlying 26 = some (.slice 70) := by kernel_rfl
theorem in70 : ((Tryz.prog.info? 70).map fun i => (i.size, i.bytes, i.zero.map (·.cells.size))) = some (10, 144, some 10) := by kernel_rfl
theorem sl26 : SlT Tryz.prog 26 10 144 TRule.cells := SlT.of2 un26 in70 (by decide) (by decide) TRule.cells_ok
theorem fa28_1 : fieldAt? Tryz.prog 28 1 = some 3 := by kernel_rfl
theorem fa28_2 : fieldAt? Tryz.prog 28 2 = some 4 := by kernel_rfl
theorem sz70 : sizeOf? Tryz.prog 70 = some 10 := by kernel_rfl
theorem ag70 : isAgg? Tryz.prog 70 = some true := by kernel_rfl
theorem fn94 : Tryz.prog.funcs[94]? = some Tryz.f94 := by kernel_rfl
theorem go94 : isGo Tryz.prog 94 = true := by kernel_rfl
theorem fn64 : Tryz.prog.funcs[64]? = some Tryz.f64 := by kernel_rfl
theorem fa70_0 : fieldAt? Tryz.prog 70 0 = some 0 := by kernel_rfl
theorem fn95 : Tryz.prog.funcs[95]? = some Tryz.f95 := by kernel_rfl
theorem go95 : isGo Tryz.prog 95 = true := by kernel_rfl
theorem fa70_2 : fieldAt? Tryz.prog 70 2 = some 2 := by kernel_rfl
theorem fa70_1 : fieldAt? Tryz.prog 70 1 = some 1 := by kernel_rfl
theorem fa70_3 : fieldAt? Tryz.prog 70 3 = some 3 := by kernel_rfl
theorem sz29 : sizeOf? Tryz.prog 29 = some 1 := by kernel_rfl
theorem ag29 : isAgg? Tryz.prog 29 = some false := by kernel_rfl
theorem un29 : Tryz.prog.underlying 29 = some (.slice 3) := by kernel_rfl
theorem in3 : ((Tryz.prog.info? 3).map fun i => (i.size, i.bytes, i.zero.map (·.cells.size))) = some (1, 8, some 1) := by kernel_rfl
theorem sl29 : SlT Tryz.prog 29 1 8 (cInt .i64) := SlT.of2 un29 in3 (by decide) (by decide) (fun _ => ⟨rfl, rfl, rfl⟩)
theorem fn118 : Tryz.prog.funcs[118]? = some Tryz.f118 := by kernel_rfl
theorem go118 : isGo Tryz.prog 118 = true := by kernel_rfl
theorem fn96 : Tryz.prog.funcs[96]? = some Tryz.f96 := by kernel_rfl
theorem fn97 : Tryz.prog.funcs[97]? = some Tryz.f97 := by kernel_rfl
theorem go97 : isGo Tryz.prog 97 = true := by kernel_rfl
theorem go96 : isGo Tryz.prog 96 = true := by kernel_rfl
theorem fn66 : Tryz.prog.funcs[66]? = some Tryz.f66 := by kernel_rfl
theorem go66 : isGo Tryz.prog 66 = true := by kernel_rfl
theorem fn65 : Tryz.prog.funcs[65]? = some Tryz.f65 := by kernel_rfl
theorem go65 : isGo Tryz.prog 65 = true := by kernel_rfl
theorem go64 : isGo Tryz.prog 64 = true := by kernel_rfl
theorem ze70 : zero? Tryz.prog 70 = some [.val (.int .i64 0), .val (.int .i64 0), .val (.int .i64 0), .val (.slice none 0 0), .val (.bool false), .val (.int .i64 0), .val (.int .u64 0), .val (.slice none 0 0), .val (.slice none 0 0), .val (.slice none 0 0)] := by kernel_rfl
theorem fa70_4 : fieldAt? Tryz.prog 70 4 = some 4 := by kernel_rfl
theorem sz39 : sizeOf? Tryz.prog 39 = some 6 := by kernel_rfl
theorem ag39 : isAgg? Tryz.prog 39 = some true := by kernel_rfl
theorem un37 : Tryz.prog.underlying 37 = some (.slice 39) := by kernel_rfl
theorem ze39 : zero? Tryz.prog 39 = some [.val (.bool false), .val (.int .i64 0), .val (.int .u64 0), .val (.slice none 0 0), .val (.slice none 0 0), .val (.slice none 0 0)] := by kernel_rfl
theorem in39 : ((Tryz.prog.info? 39).map fun i => (i.size, i.bytes, i.zero.map (·.cells.size))) = some (6, 96, some 6) := by kernel_rfl
theorem sl37 : SlT Tryz.prog 37 6 96 TWeight.cells := SlT.of2 un37 in39 (by decide) (by decide) TWeight.cells_ok
theorem fn102 : Tryz.prog.funcs[102]? = some Tryz.f102 := by kernel_rfl
theorem go102 : isGo Tryz.prog 102 = true := by kernel_rfl
theorem fn74 : Tryz.prog.funcs[74]? = some Tryz.f74 := by kernel_rfl
theorem fa39_0 : fieldAt? Tryz.prog 39 0 = some 0 := by kernel_rfl
theorem sz4 : sizeOf? Tryz.prog 4 = some 1 := by kernel_rfl
theorem ag4 : isAgg? Tryz.prog 4 = some false := by kernel_rfl
theorem fa39_1 : fieldAt? Tryz.prog 39 1 = some 1 := by kernel_rfl
theorem ze35 : zero? Tryz.prog 35 = some [.val (.int .u64 0), .val (.slice none 0 0)] := by kernel_rfl
theorem pl35 : placesOf Tryz.prog 35 = some [(0, 1), (1, 1)] := by kernel_rfl
theorem fa39_2 : fieldAt? Tryz.prog 39 2 = some 2 := by kernel_rfl
theorem sz35 : sizeOf? Tryz.prog 35 = some 2 := by kernel_rfl
theorem fa39_3 : fieldAt? Tryz.prog 39 3 = some 4 := by kernel_rfl
theorem sz36 : sizeOf? Tryz.prog 36 = some 1 := by kernel_rfl
theorem fa39_4 : fieldAt? Tryz.prog 39 4 = some 5 := by kernel_rfl
theorem sz37 : sizeOf? Tryz.prog 37 = some 1 := by kernel_rfl
theorem fa35_0 : fieldAt? Tryz.prog 35 0 = some 0 := by kernel_rfl
theorem sz32 : sizeOf? Tryz.prog 32 = some 1 := by kernel_rfl
theorem ag32 : isAgg? Tryz.prog 32 = some false := by kernel_rfl
theorem fa35_1 : fieldAt? Tryz.prog 35 1 = some 1 := by kernel_rfl
theorem sz33 : sizeOf? Tryz.prog 33 = some 1 := by kernel_rfl
theorem ag33 : isAgg? Tryz.prog 33 = some false := by kernel_rfl
theorem un33 : Tryz.prog.underlying 33 = some (.slice 32) := by kernel_rfl
theorem in32 : ((Tryz.prog.info? 32).map fun i => (i.size, i.bytes, i.zero.map (·.cells.size))) = some (1, 8, some 1) := by kernel_rfl
theorem sl33 : SlT Tryz.prog 33 1 8 (cInt .u64) := SlT.of2 un33 in32 (by decide) (by decide) (fun _ => ⟨rfl, rfl, rfl⟩)
theorem ag36 : isAgg? Tryz.prog 36 = some false := by kernel_rfl
theorem un36 : Tryz.prog.underlying 36 = some (.slice 81) := by kernel_rfl
theorem in81 : ((Tryz.prog.info? 81).map fun i => (i.size, i.bytes, i.zero.map (·.cells.size))) = some (3, 24, some 3) := by kernel_rfl
theorem sl36 : SlT Tryz.prog 36 3 24 TCell.cells := SlT.of2 un36 in81 (by decide) (by decide) TCell.cells_ok
theorem ag37 : isAgg? Tryz.prog 37 = some false := by kernel_rfl
theorem fn103 : Tryz.prog.funcs[103]? = some Tryz.f103 := by kernel_rfl
theorem go103 : isGo Tryz.prog 103 = true := by kernel_rfl
theorem ze3 : zero? Tryz.prog 3 = some [.val (.int .i64 0)] := by kernel_rfl
theorem fn107 : Tryz.prog.funcs[107]? = some Tryz.f107 := by kernel_rfl
theorem go107 : isGo Tryz.prog 107 = true := by kernel_rfl
theorem fn104 : Tryz.prog.funcs[104]? = some Tryz.f104 := by kernel_rfl
theorem go104 : isGo Tryz.prog 104 = true := by kernel_rfl
theorem ag35 : isAgg? Tryz.prog 35 = some true := by kernel_rfl
theorem un3 : Tryz.prog.underlying 3 = some (.int .i64) := by kernel_rfl
theorem un151 : Tryz.prog.underlying 151 = some (.int .u64) := by kernel_rfl
theorem fn99 : Tryz.prog.funcs[99]? = some Tryz.f99 := by kernel_rfl
theorem go99 : isGo Tryz.prog 99 = true := by kernel_rfl
theorem ze32 : zero? Tryz.prog 32 = some [.val (.int .u64 0)] := by kernel_rfl
theorem fn139 : Tryz.prog.funcs[139]? = some Tryz.f139 := by kernel_rfl
theorem go139 : isGo Tryz.prog 139 = true := by kernel_rfl
theorem fn128 : Tryz.prog.funcs[128]? = some Tryz.f128 := by kernel_rfl
theorem fn129 : Tryz.prog.funcs[129]? = some Tryz.f129 := by kernel_rfl
theorem go129 : isGo Tryz.prog 129 = true := by kernel_rfl
theorem go128 : isGo Tryz.prog 128 = true := by kernel_rfl
theorem fn119 : Tryz.prog.funcs[119]? = some Tryz.f119 := by kernel_rfl
theorem go119 : isGo Tryz.prog 119 = true := by kernel_rfl
theorem fn110 : Tryz.prog.funcs[110]? = some Tryz.f110 := by kernel_rfl
theorem go110 : isGo Tryz.prog 110 = true := by kernel_rfl
theorem fn130 : Tryz.prog.funcs[130]? = some Tryz.f130 := by kernel_rfl
theorem go130 : isGo Tryz.prog 130 = true := by kernel_rfl
theorem fn120 : Tryz.prog.funcs[120]? = some Tryz.f120 := by kernel_rfl
theorem go120 : isGo Tryz.prog 120 = true := by kernel_rfl
theorem fn105 : Tryz.prog.funcs[105]? = some Tryz.f105 := by kernel_rfl
theorem go105 : isGo Tryz.prog 105 = true := by kernel_rfl
theorem fn100 : Tryz.prog.funcs[100]? = some Tryz.f100 := by kernel_rfl
theorem go100 : isGo Tryz.prog 100 = true := by kernel_rfl
theorem sz81 : sizeOf? Tryz.prog 81 = some 3 := by kernel_rfl
theorem ag81 : isAgg? Tryz.prog 81 = some true := by kernel_rfl
theorem ze81 : zero? Tryz.prog 81 = some [.val (.int .u64 0), .val (.int .i64 0), .val (.int .i64 0)] := by kernel_rfl
theorem fa81_0 : fieldAt? Tryz.prog 81 0 = some 0 := by kernel_rfl
theorem fn131 : Tryz.prog.funcs[131]? = some Tryz.f131 := by kernel_rfl
theorem go131 : isGo Tryz.prog 131 = true := by kernel_rfl
theorem fa81_1 : fieldAt? Tryz.prog 81 1 = some 1 := by kernel_rfl
theorem sz79 : sizeOf? Tryz.prog 79 = some 1 := by kernel_rfl
theorem ag79 : isAgg? Tryz.prog 79 = some false := by kernel_rfl
theorem fa81_2 : fieldAt? Tryz.prog 81 2 = some 2 := by kernel_rfl
theorem sz2 : sizeOf? Tryz.prog 2 = some 1 := by kernel_rfl
theorem ag2 : isAgg? Tryz.prog 2 = some false := by kernel_rfl
theorem pl81 : placesOf Tryz.prog 81 = some [(0, 1), (1, 1), (2, 1)] := by kernel_rfl
theorem ek81 : eqKinds Tryz.prog 81 = some [(0, .int .u64), (1, .int .i64), (2, .int .i64)] := by kernel_rfl
theorem fn121 : Tryz.prog.funcs[121]? = some Tryz.f121 := by kernel_rfl
theorem go121 : isGo Tryz.prog 121 = true := by kernel_rfl
theorem fn106 : Tryz.prog.funcs[106]? = some Tryz.f106 := by kernel_rfl
theorem go106 : isGo Tryz.prog 106 = true := by kernel_rfl
theorem go76 : isGo Tryz.prog 76 = true := by kernel_rfl
theorem fn76 : Tryz.prog.funcs[76]? = some Tryz.f76 := by kernel_rfl
theorem fn75 : Tryz.prog.funcs[75]? = some Tryz.f75 := by kernel_rfl
theorem go75 : isGo Tryz.prog 75 = true := by kernel_rfl
theorem go74 : isGo Tryz.prog 74 = true := by kernel_rfl
theorem fn52 : Tryz.prog.funcs[52]? = some Tryz.f52 := by kernel_rfl
theorem go52 : isGo Tryz.prog 52 = true := by kernel_rfl
theorem fn67 : Tryz.prog.funcs[67]? = some Tryz.f67 := by kernel_rfl
theorem go67 : isGo Tryz.prog 67 = true := by kernel_rfl
theorem fn44 : Tryz.prog.funcs[44]? = some Tryz.f44 := by kernel_rfl
theorem go44 : isGo Tryz.prog 44 = true := by kernel_rfl
theorem fa31_0 : fieldAt? Tryz.prog 31 0 = some 0 := by kernel_rfl
theorem fa31_1 : fieldAt? Tryz.prog 31 1 = some 1 := by kernel_rfl
theorem fn20 : Tryz.prog.funcs[20]? = some Tryz.f20 := by kernel_rfl
theorem go20 : isGo Tryz.prog 20 = true := by kernel_rfl
theorem ze31 : zero? Tryz.prog 31 = some [.val (.int .i64 0), .val (.slice none 0 0)] := by kernel_rfl
theorem un125 : Tryz.prog.underlying 125 = some (.slice 29) := by kernel_rfl
theorem ze29 : zero? Tryz.prog 29 = some [.val (.slice none 0 0)] := by kernel_rfl
theorem in29 : ((Tryz.prog.info? 29).map fun i => (i.size, i.bytes, i.zero.map (·.cells.size))) = some (1, 24, some 1) := by kernel_rfl
theorem sl125 : SlT Tryz.prog 125 1 24 (cSl (cInt .i64)) := SlT.of2 un125 in29 (by decide) (by decide) (fun _ => ⟨rfl, rfl, rfl⟩)
theorem go73 : isGo Tryz.prog 73 = true := by kernel_rfl
theorem fn51 : Tryz.prog.funcs[51]? = some Tryz.f51 := by kernel_rfl
theorem go51 : isGo Tryz.prog 51 = true := by kernel_rfl
theorem pl31 : placesOf Tryz.prog 31 = some [(0, 1), (1, 1)] := by kernel_rfl
theorem fn28 : Tryz.prog.funcs[28]? = some Tryz.f28 := by kernel_rfl
theorem go28 : isGo Tryz.prog 28 = true := by kernel_rfl
theorem go45 : isGo Tryz.prog 45 = true := by kernel_rfl
theorem fn45 : Tryz.prog.funcs[45]? = some Tryz.f45 := by kernel_rfl
theorem fn90 : Tryz.prog.funcs[90]? = some Tryz.f90 := by kernel_rfl
theorem go90 : isGo Tryz.prog 90 = true := by kernel_rfl
theorem fn93 : Tryz.prog.funcs[93]? = some Tryz.f93 := by kernel_rfl
theorem go93 : isGo Tryz.prog 93 = true := by kernel_rfl
theorem fn62 : Tryz.prog.funcs[62]? = some Tryz.f62 := by kernel_rfl
theorem go62 : isGo Tryz.prog 62 = true := by kernel_rfl
theorem fn127 : Tryz.prog.funcs[127]? = some Tryz.f127 := by kernel_rfl
theorem go127 : isGo Tryz.prog 127 = true := by kernel_rfl
theorem fn117 : Tryz.prog.funcs[117]? = some Tryz.f117 := by kernel_rfl
theorem go117 : isGo Tryz.prog 117 = true := by kernel_rfl
theorem fn116 : Tryz.prog.funcs[116]? = some Tryz.f116 := by kernel_rfl
theorem go116 : isGo Tryz.prog 116 = true := by kernel_rfl
theorem fn85 : Tryz.prog.funcs[85]? = some Tryz.f85 := by kernel_rfl
theorem go85 : isGo Tryz.prog 85 = true := by kernel_rfl
theorem fn36 : Tryz.prog.funcs[36]? = some Tryz.f36 := by kernel_rfl
theorem go36 : isGo Tryz.prog 36 = true := by kernel_rfl
theorem fn91 : Tryz.prog.funcs[91]? = some Tryz.f91 := by kernel_rfl
theorem go91 : isGo Tryz.prog 91 = true := by kernel_rfl
theorem fn92 : Tryz.prog.funcs[92]? = some Tryz.f92 := by kernel_rfl
theorem go92 : isGo Tryz.prog 92 = true := by kernel_rfl
theorem go60 : isGo Tryz.prog 60 = true := by kernel_rfl
theorem fn60 : Tryz.prog.funcs[60]? = some Tryz.f60 := by kernel_rfl
theorem fn10 : Tryz.prog.funcs[10]? = some Tryz.f10 := by kernel_rfl
theorem go10 : isGo Tryz.prog 10 = true := by kernel_rfl
theorem ze28 : zero? Tryz.prog 28 = some [.val (.int .i64 0), .val (.int .i64 0), .val (.slice none 0 0), .val (.int .i64 0), .val (.int .i64 0), .val (.slice none 0 0)] := by kernel_rfl
theorem pl39 : placesOf Tryz.prog 39 = some [(0, 1), (1, 1), (2, 2), (4, 1), (5, 1)] := by kernel_rfl
theorem ze25 : zero? Tryz.prog 25 = some [.val (.int .i64 0), .val (.int .i64 0), .val (.slice none 0 0)] := by kernel_rfl
theorem pl25 : placesOf Tryz.prog 25 = some [(0, 1), (1, 1), (2, 1)] := by kernel_rfl
theorem pl70 : placesOf Tryz.prog 70 = some [(0, 1), (1, 1), (2, 1), (3, 1), (4, 6)] := by kernel_rfl
theorem pl28 : placesOf Tryz.prog 28 = some [(0, 3), (3, 1), (4, 1), (5, 1)] := by kernel_rfl
theorem fn37 : Tryz.prog.funcs[37]? = some Tryz.f37 := by kernel_rfl
theorem go37 : isGo Tryz.prog 37 = true := by kernel_rfl
theorem fn71 : Tryz.prog.funcs[71]? = some Tryz.f71 := by kernel_rfl
theorem go71 : isGo Tryz.prog 71 = true := by kernel_rfl
theorem fn101 : Tryz.prog.funcs[101]? = some Tryz.f101 := by kernel_rfl
theorem go101 : isGo Tryz.prog 101 = true := by kernel_rfl
theorem fn72 : Tryz.prog.funcs[72]? = some Tryz.f72 := by kernel_rfl
theorem go72 : isGo Tryz.prog 72 = true := by kernel_rfl
theorem go50 : isGo Tryz.prog 50 = true := by kernel_rfl
theorem fn50 : Tryz.prog.funcs[50]? = some Tryz.f50 := by kernel_rfl
theorem fn26 : Tryz.prog.funcs[26]? = some Tryz.f26 := by kernel_rfl
theorem go26 : isGo Tryz.prog 26 = true := by kernel_rfl
theorem fn27 : Tryz.prog.funcs[27]? = some Tryz.f27 := by kernel_rfl
theorem go27 : isGo Tryz.prog 27 = true := by kernel_rfl
theorem fn77 : Tryz.prog.funcs[77]? = some Tryz.f77 := by kernel_rfl
theorem go77 : isGo Tryz.prog 77 = true := by kernel_rfl
theorem un169 : Tryz.prog.underlying 169 = some (.slice 35) := by kernel_rfl
theorem in35 : ((Tryz.prog.info? 35).map fun i => (i.size, i.bytes, i.zero.map (·.cells.size))) = some (2, 32, some 2) := by kernel_rfl
theorem sl169 : SlT Tryz.prog 169 2 32 TFacts.cells := SlT.of2 un169 in35 (by decide) (by decide) TFacts.cells_ok
theorem fn108 : Tryz.prog.funcs[108]? = some Tryz.f108 := by kernel_rfl
theorem go108 : isGo Tryz.prog 108 = true := by kernel_rfl
theorem go109 : isGo Tryz.prog 109 = true := by kernel_rfl
theorem fn78 : Tryz.prog.funcs[78]? = some Tryz.f78 := by kernel_rfl
theorem go78 : isGo Tryz.prog 78 = true := by kernel_rfl
theorem fn111 : Tryz.prog.funcs[111]? = some Tryz.f111 := by kernel_rfl
theorem go111 : isGo Tryz.prog 111 = true := by kernel_rfl
theorem fn112 : Tryz.prog.funcs[112]? = some Tryz.f112 := by kernel_rfl
theorem go112 : isGo Tryz.prog 112 = true := by kernel_rfl
theorem fn79 : Tryz.prog.funcs[79]? = some Tryz.f79 := by kernel_rfl
theorem go79 : isGo Tryz.prog 79 = true := by kernel_rfl
theorem go53 : isGo Tryz.prog 53 = true := by kernel_rfl
theorem fn53 : Tryz.prog.funcs[53]? = some Tryz.f53 := by kernel_rfl
theorem fn80 : Tryz.prog.funcs[80]? = some Tryz.f80 := by kernel_rfl
theorem go80 : isGo Tryz.prog 80 = true := by kernel_rfl
theorem fn81 : Tryz.prog.funcs[81]? = some Tryz.f81 := by kernel_rfl
theorem go81 : isGo Tryz.prog 81 = true := by kernel_rfl
theorem fn82 : Tryz.prog.funcs[82]? = some Tryz.f82 := by kernel_rfl
theorem go82 : isGo Tryz.prog 82 = true := by kernel_rfl
theorem go54 : isGo Tryz.prog 54 = true := by kernel_rfl
theorem fn54 : Tryz.prog.funcs[54]? = some Tryz.f54 := by kernel_rfl
theorem fn29 : Tryz.prog.funcs[29]? = some Tryz.f29 := by kernel_rfl
theorem go29 : isGo Tryz.prog 29 = true := by kernel_rfl
theorem fn8 : Tryz.prog.funcs[8]? = some Tryz.f8 := by kernel_rfl
theorem go8 : isGo Tryz.prog 8 = true := by kernel_rfl
theorem go38 : isGo Tryz.prog 38 = true := by kernel_rfl
theorem un9 : Tryz.prog.underlying 9 = some (.string) := by kernel_rfl
theorem fn12 : Tryz.prog.funcs[12]? = some Tryz.f12 := by kernel_rfl
theorem go12 : isGo Tryz.prog 12 = true := by kernel_rfl
theorem fn61 : Tryz.prog.funcs[61]? = some Tryz.f61 := by kernel_rfl
theorem go61 : isGo Tryz.prog 61 = true := by kernel_rfl
theorem go40 : isGo Tryz.prog 40 = true := by kernel_rfl
theorem fn40 : Tryz.prog.funcs[40]? = some Tryz.f40 := by kernel_rfl
theorem fn83 : Tryz.prog.funcs[83]? = some Tryz.f83 := by kernel_rfl
theorem go83 : isGo Tryz.prog 83 = true := by kernel_rfl
theorem fn86 : Tryz.prog.funcs[86]? = some Tryz.f86 := by kernel_rfl
theorem go86 : isGo Tryz.prog 86 = true := by kernel_rfl
theorem fn113 : Tryz.prog.funcs[113]? = some Tryz.f113 := by kernel_rfl
theorem go113 : isGo Tryz.prog 113 = true := by kernel_rfl
theorem fn84 : Tryz.prog.funcs[84]? = some Tryz.f84 := by kernel_rfl
theorem go84 : isGo Tryz.prog 84 = true := by kernel_rfl
theorem fn55 : Tryz.prog.funcs[55]? = some Tryz.f55 := by kernel_rfl
theorem go55 : isGo Tryz.prog 55 = true := by kernel_rfl
theorem fn87 : Tryz.prog.funcs[87]? = some Tryz.f87 := by kernel_rfl
theorem go87 : isGo Tryz.prog 87 = true := by kernel_rfl
theorem fn56 : Tryz.prog.funcs[56]? = some Tryz.f56 := by kernel_rfl
theorem go56 : isGo Tryz.prog 56 = true := by kernel_rfl
theorem go35 : isGo Tryz.prog 35 = true := by kernel_rfl
theorem fn35 : Tryz.prog.funcs[35]? = some Tryz.f35 := by kernel_rfl
theorem un4 : Tryz.prog.underlying 4 = some (.bool) := by kernel_rfl
theorem go11 : isGo Tryz.prog 11 = true := by kernel_rfl
theorem fn11 : Tryz.prog.funcs[11]? = some Tryz.f11 := by kernel_rfl
theorem fn39 : Tryz.prog.funcs[39]? = some Tryz.f39 := by kernel_rfl
theorem go39 : isGo Tryz.prog 39 = true := by kernel_rfl
theorem fn13 : Tryz.prog.funcs[13]? = some Tryz.f13 := by kernel_rfl
theorem go13 : isGo Tryz.prog 13 = true := by kernel_rfl
theorem fn4 : Tryz.prog.funcs[4]? = some Tryz.f4 := by kernel_rfl
end Go.RM.Tryz
