/- GB, for the statement StepsEnds: what it needs, no more. -/
import Derived.Test.YtkcmehgfndfbhaaDoorZStepsEndsGA
import Derived.Test.YtkcmehgfndfbhaaDoorZStepsEndsKX
set_option linter.unusedVariables false
set_option maxRecDepth 8000
set_option maxHeartbeats 4000000
namespace Go.RM.Tryd
open Go.RM Go.Proofs
theorem ze28 : zero? Tryd.prog 28 = some [.val (.int .i64 0), .val (.int .i64 0), .val (.slice none 0 0), .val (.int .i64 0), .val (.int .i64 0), .val (.slice none 0 0)] := by kernel_rfl
theorem ze40 : zero? Tryd.prog 40 = some [.val (.bool false), .val (.int .i64 0), .val (.int .u64 0), .val (.slice none 0 0), .val (.slice none 0 0), .val (.slice none 0 0)] := by kernel_rfl
theorem pl40 : placesOf Tryd.prog 40 = some [(0, 1), (1, 1), (2, 2), (4, 1), (5, 1)] := by kernel_rfl
theorem sz40 : sizeOf? Tryd.prog 40 = some 6 := by kernel_rfl
theorem ze25 : zero? Tryd.prog 25 = some [.val (.int .i64 0), .val (.int .i64 0), .val (.slice none 0 0)] := by kernel_rfl
theorem pl25 : placesOf Tryd.prog 25 = some [(0, 1), (1, 1), (2, 1)] := by kernel_rfl
theorem un29 : Tryd.prog.underlying 29 = some (.slice 3) := by kernel_rfl
theorem sz3 : sizeOf? Tryd.prog 3 = some 1 := by kernel_rfl
theorem ze3 : zero? Tryd.prog 3 = some [.val (.int .i64 0)] := by kernel_rfl
theorem ag40 : isAgg? Tryd.prog 40 = some true := by kernel_rfl
theorem ze59 : zero? Tryd.prog 59 = some [.val (.int .i64 0), .val (.int .i64 0), .val (.int .i64 0), .val (.slice none 0 0), .val (.bool false), .val (.int .i64 0), .val (.int .u64 0), .val (.slice none 0 0), .val (.slice none 0 0), .val (.slice none 0 0)] := by kernel_rfl
theorem pl59 : placesOf Tryd.prog 59 = some [(0, 1), (1, 1), (2, 1), (3, 1), (4, 6)] := by kernel_rfl
theorem un26 : Tryd.prog.underlying 26 = some (.slice 59) := by kernel_rfl
theorem sz59 : sizeOf? Tryd.prog 59 = some 10 := by kernel_rfl
theorem pl28 : placesOf Tryd.prog 28 = some [(0, 3), (3, 1), (4, 1), (5, 1)] := by kernel_rfl
theorem sz28 : sizeOf? Tryd.prog 28 = some 6 := by kernel_rfl
theorem in59 : ((Tryd.prog.info? 59).map fun i => (i.size, i.bytes, i.zero.map (·.cells.size))) = some (10, 144, some 10) := by kernel_rfl
theorem sl26 : SlT Tryd.prog 26 10 144 TRule.cells := SlT.of2 un26 in59 (by decide) (by decide) TRule.cells_ok
theorem in3 : ((Tryd.prog.info? 3).map fun i => (i.size, i.bytes, i.zero.map (·.cells.size))) = some (1, 8, some 1) := by kernel_rfl
theorem sl29 : SlT Tryd.prog 29 1 8 (cInt .i64) := SlT.of2 un29 in3 (by decide) (by decide) (fun _ => ⟨rfl, rfl, rfl⟩)
theorem fn9 : Tryd.prog.funcs[9]? = some Tryd.f9 := by kernel_rfl
theorem go9 : isGo Tryd.prog 9 = true := by kernel_rfl
theorem ze31 : zero? Tryd.prog 31 = some [.val (.int .i64 0), .val (.slice none 0 0)] := by kernel_rfl
theorem pl31 : placesOf Tryd.prog 31 = some [(0, 1), (1, 1)] := by kernel_rfl
theorem ag28 : isAgg? Tryd.prog 28 = some true := by kernel_rfl
theorem sz31 : sizeOf? Tryd.prog 31 = some 2 := by kernel_rfl
theorem ag31 : isAgg? Tryd.prog 31 = some true := by kernel_rfl
theorem fa28_0 : fieldAt? Tryd.prog 28 0 = some 0 := by kernel_rfl
theorem sz25 : sizeOf? Tryd.prog 25 = some 3 := by kernel_rfl
theorem ag25 : isAgg? Tryd.prog 25 = some true := by kernel_rfl
theorem fa25_0 : fieldAt? Tryd.prog 25 0 = some 0 := by kernel_rfl
theorem sz22 : sizeOf? Tryd.prog 22 = some 1 := by kernel_rfl
theorem ag22 : isAgg? Tryd.prog 22 = some false := by kernel_rfl
theorem fa25_1 : fieldAt? Tryd.prog 25 1 = some 1 := by kernel_rfl
theorem ag3 : isAgg? Tryd.prog 3 = some false := by kernel_rfl
theorem fa25_2 : fieldAt? Tryd.prog 25 2 = some 2 := by kernel_rfl
theorem sz23 : sizeOf? Tryd.prog 23 = some 1 := by kernel_rfl
theorem ag23 : isAgg? Tryd.prog 23 = some false := by kernel_rfl
theorem un23 : Tryd.prog.underlying 23 = some (.slice 25) := by kernel_rfl
theorem in25 : ((Tryd.prog.info? 25).map fun i => (i.size, i.bytes, i.zero.map (·.cells.size))) = some (3, 40, some 3) := by kernel_rfl
theorem sl23 : SlT Tryd.prog 23 3 40 TSpace.cells := SlT.of2 un23 in25 (by decide) (by decide) TSpace.cells_ok
theorem fn54 : Tryd.prog.funcs[54]? = some Tryd.f54 := by kernel_rfl
theorem go54 : isGo Tryd.prog 54 = true := by kernel_rfl
theorem fn34 : Tryd.prog.funcs[34]? = some Tryd.f34 := by kernel_rfl
theorem go21 : isGo Tryd.prog 21 = true := by kernel_rfl
theorem fn35 : Tryd.prog.funcs[35]? = some Tryd.f35 := by kernel_rfl
theorem go35 : isGo Tryd.prog 35 = true := by kernel_rfl
theorem go34 : isGo Tryd.prog 34 = true := by kernel_rfl
theorem fn21 : Tryd.prog.funcs[21]? = some Tryd.f21 := by kernel_rfl
theorem fa28_3 : fieldAt? Tryd.prog 28 3 = some 5 := by kernel_rfl
theorem sz26 : sizeOf? Tryd.prog 26 = some 1 := by kernel_rfl
theorem ag26 : isAgg? Tryd.prog 26 = some false := by kernel_rfl
theorem fa28_1 : fieldAt? Tryd.prog 28 1 = some 3 := by kernel_rfl
theorem fa28_2 : fieldAt? Tryd.prog 28 2 = some 4 := by kernel_rfl
theorem ag59 : isAgg? Tryd.prog 59 = some true := by kernel_rfl
theorem fn50 : Tryd.prog.funcs[50]? = some Tryd.f50 := by kernel_rfl
theorem go50 : isGo Tryd.prog 50 = true := by kernel_rfl
theorem fn30 : Tryd.prog.funcs[30]? = some Tryd.f30 := by kernel_rfl
theorem fa59_0 : fieldAt? Tryd.prog 59 0 = some 0 := by kernel_rfl
theorem fn51 : Tryd.prog.funcs[51]? = some Tryd.f51 := by kernel_rfl
theorem go51 : isGo Tryd.prog 51 = true := by kernel_rfl
theorem fa59_2 : fieldAt? Tryd.prog 59 2 = some 2 := by kernel_rfl
theorem fa59_1 : fieldAt? Tryd.prog 59 1 = some 1 := by kernel_rfl
theorem fa59_3 : fieldAt? Tryd.prog 59 3 = some 3 := by kernel_rfl
theorem sz29 : sizeOf? Tryd.prog 29 = some 1 := by kernel_rfl
theorem ag29 : isAgg? Tryd.prog 29 = some false := by kernel_rfl
theorem fn73 : Tryd.prog.funcs[73]? = some Tryd.f73 := by kernel_rfl
theorem go73 : isGo Tryd.prog 73 = true := by kernel_rfl
theorem fn52 : Tryd.prog.funcs[52]? = some Tryd.f52 := by kernel_rfl
theorem fn53 : Tryd.prog.funcs[53]? = some Tryd.f53 := by kernel_rfl
theorem go53 : isGo Tryd.prog 53 = true := by kernel_rfl
theorem go52 : isGo Tryd.prog 52 = true := by kernel_rfl
theorem fn32 : Tryd.prog.funcs[32]? = some Tryd.f32 := by kernel_rfl
theorem go32 : isGo Tryd.prog 32 = true := by kernel_rfl
theorem fn31 : Tryd.prog.funcs[31]? = some Tryd.f31 := by kernel_rfl
theorem go31 : isGo Tryd.prog 31 = true := by kernel_rfl
theorem go30 : isGo Tryd.prog 30 = true := by kernel_rfl
theorem fa59_4 : fieldAt? Tryd.prog 59 4 = some 4 := by kernel_rfl
theorem un38 : Tryd.prog.underlying 38 = some (.slice 40) := by kernel_rfl
theorem in40 : ((Tryd.prog.info? 40).map fun i => (i.size, i.bytes, i.zero.map (·.cells.size))) = some (6, 96, some 6) := by kernel_rfl
theorem sl38 : SlT Tryd.prog 38 6 96 TWeight.cells := SlT.of2 un38 in40 (by decide) (by decide) TWeight.cells_ok
theorem fn58 : Tryd.prog.funcs[58]? = some Tryd.f58 := by kernel_rfl
theorem go58 : isGo Tryd.prog 58 = true := by kernel_rfl
theorem fn39 : Tryd.prog.funcs[39]? = some Tryd.f39 := by kernel_rfl
theorem fa40_0 : fieldAt? Tryd.prog 40 0 = some 0 := by kernel_rfl
theorem sz4 : sizeOf? Tryd.prog 4 = some 1 := by kernel_rfl
theorem ag4 : isAgg? Tryd.prog 4 = some false := by kernel_rfl
theorem fa40_1 : fieldAt? Tryd.prog 40 1 = some 1 := by kernel_rfl
theorem ze36 : zero? Tryd.prog 36 = some [.val (.int .u64 0), .val (.slice none 0 0)] := by kernel_rfl
theorem pl36 : placesOf Tryd.prog 36 = some [(0, 1), (1, 1)] := by kernel_rfl
theorem fa40_2 : fieldAt? Tryd.prog 40 2 = some 2 := by kernel_rfl
theorem sz36 : sizeOf? Tryd.prog 36 = some 2 := by kernel_rfl
theorem fa40_3 : fieldAt? Tryd.prog 40 3 = some 4 := by kernel_rfl
theorem sz37 : sizeOf? Tryd.prog 37 = some 1 := by kernel_rfl
theorem fa40_4 : fieldAt? Tryd.prog 40 4 = some 5 := by kernel_rfl
theorem sz38 : sizeOf? Tryd.prog 38 = some 1 := by kernel_rfl
theorem fa36_0 : fieldAt? Tryd.prog 36 0 = some 0 := by kernel_rfl
theorem sz33 : sizeOf? Tryd.prog 33 = some 1 := by kernel_rfl
theorem ag33 : isAgg? Tryd.prog 33 = some false := by kernel_rfl
theorem fa36_1 : fieldAt? Tryd.prog 36 1 = some 1 := by kernel_rfl
theorem sz34 : sizeOf? Tryd.prog 34 = some 1 := by kernel_rfl
theorem ag34 : isAgg? Tryd.prog 34 = some false := by kernel_rfl
theorem un34 : Tryd.prog.underlying 34 = some (.slice 33) := by kernel_rfl
theorem in33 : ((Tryd.prog.info? 33).map fun i => (i.size, i.bytes, i.zero.map (·.cells.size))) = some (1, 8, some 1) := by kernel_rfl
theorem sl34 : SlT Tryd.prog 34 1 8 (cInt .u64) := SlT.of2 un34 in33 (by decide) (by decide) (fun _ => ⟨rfl, rfl, rfl⟩)
theorem ag37 : isAgg? Tryd.prog 37 = some false := by kernel_rfl
theorem un37 : Tryd.prog.underlying 37 = some (.slice 108) := by kernel_rfl
theorem in108 : ((Tryd.prog.info? 108).map fun i => (i.size, i.bytes, i.zero.map (·.cells.size))) = some (3, 24, some 3) := by kernel_rfl
theorem sl37 : SlT Tryd.prog 37 3 24 TCell.cells := SlT.of2 un37 in108 (by decide) (by decide) TCell.cells_ok
theorem ag38 : isAgg? Tryd.prog 38 = some false := by kernel_rfl
theorem fn59 : Tryd.prog.funcs[59]? = some Tryd.f59 := by kernel_rfl
theorem go59 : isGo Tryd.prog 59 = true := by kernel_rfl
theorem fn63 : Tryd.prog.funcs[63]? = some Tryd.f63 := by kernel_rfl
theorem go63 : isGo Tryd.prog 63 = true := by kernel_rfl
theorem fn60 : Tryd.prog.funcs[60]? = some Tryd.f60 := by kernel_rfl
theorem go60 : isGo Tryd.prog 60 = true := by kernel_rfl
theorem ag36 : isAgg? Tryd.prog 36 = some true := by kernel_rfl
theorem un3 : Tryd.prog.underlying 3 = some (.int .i64) := by kernel_rfl
theorem un120 : Tryd.prog.underlying 120 = some (.int .u64) := by kernel_rfl
theorem fn55 : Tryd.prog.funcs[55]? = some Tryd.f55 := by kernel_rfl
theorem go55 : isGo Tryd.prog 55 = true := by kernel_rfl
theorem ze33 : zero? Tryd.prog 33 = some [.val (.int .u64 0)] := by kernel_rfl
theorem fn91 : Tryd.prog.funcs[91]? = some Tryd.f91 := by kernel_rfl
theorem go91 : isGo Tryd.prog 91 = true := by kernel_rfl
theorem fn83 : Tryd.prog.funcs[83]? = some Tryd.f83 := by kernel_rfl
theorem fn84 : Tryd.prog.funcs[84]? = some Tryd.f84 := by kernel_rfl
theorem go84 : isGo Tryd.prog 84 = true := by kernel_rfl
theorem go83 : isGo Tryd.prog 83 = true := by kernel_rfl
theorem fn74 : Tryd.prog.funcs[74]? = some Tryd.f74 := by kernel_rfl
theorem go74 : isGo Tryd.prog 74 = true := by kernel_rfl
theorem fn66 : Tryd.prog.funcs[66]? = some Tryd.f66 := by kernel_rfl
theorem go66 : isGo Tryd.prog 66 = true := by kernel_rfl
theorem fn85 : Tryd.prog.funcs[85]? = some Tryd.f85 := by kernel_rfl
theorem go85 : isGo Tryd.prog 85 = true := by kernel_rfl
theorem fn75 : Tryd.prog.funcs[75]? = some Tryd.f75 := by kernel_rfl
theorem go75 : isGo Tryd.prog 75 = true := by kernel_rfl
theorem fn61 : Tryd.prog.funcs[61]? = some Tryd.f61 := by kernel_rfl
theorem go61 : isGo Tryd.prog 61 = true := by kernel_rfl
theorem fn56 : Tryd.prog.funcs[56]? = some Tryd.f56 := by kernel_rfl
theorem go56 : isGo Tryd.prog 56 = true := by kernel_rfl
theorem sz108 : sizeOf? Tryd.prog 108 = some 3 := by kernel_rfl
theorem ag108 : isAgg? Tryd.prog 108 = some true := by kernel_rfl
theorem ze108 : zero? Tryd.prog 108 = some [.val (.int .u64 0), .val (.int .i64 0), .val (.int .i64 0)] := by kernel_rfl
theorem fa108_0 : fieldAt? Tryd.prog 108 0 = some 0 := by kernel_rfl
theorem fn86 : Tryd.prog.funcs[86]? = some Tryd.f86 := by kernel_rfl
theorem go86 : isGo Tryd.prog 86 = true := by kernel_rfl
theorem fa108_1 : fieldAt? Tryd.prog 108 1 = some 1 := by kernel_rfl
theorem sz106 : sizeOf? Tryd.prog 106 = some 1 := by kernel_rfl
theorem ag106 : isAgg? Tryd.prog 106 = some false := by kernel_rfl
theorem fa108_2 : fieldAt? Tryd.prog 108 2 = some 2 := by kernel_rfl
theorem sz2 : sizeOf? Tryd.prog 2 = some 1 := by kernel_rfl
theorem ag2 : isAgg? Tryd.prog 2 = some false := by kernel_rfl
theorem pl108 : placesOf Tryd.prog 108 = some [(0, 1), (1, 1), (2, 1)] := by kernel_rfl
theorem ek108 : eqKinds Tryd.prog 108 = some [(0, .int .u64), (1, .int .i64), (2, .int .i64)] := by kernel_rfl
theorem fn76 : Tryd.prog.funcs[76]? = some Tryd.f76 := by kernel_rfl
theorem go76 : isGo Tryd.prog 76 = true := by kernel_rfl
theorem fn62 : Tryd.prog.funcs[62]? = some Tryd.f62 := by kernel_rfl
theorem go62 : isGo Tryd.prog 62 = true := by kernel_rfl
theorem go41 : isGo Tryd.prog 41 = true := by kernel_rfl
theorem fn41 : Tryd.prog.funcs[41]? = some Tryd.f41 := by kernel_rfl
theorem fn40 : Tryd.prog.funcs[40]? = some Tryd.f40 := by kernel_rfl
theorem go40 : isGo Tryd.prog 40 = true := by kernel_rfl
theorem go39 : isGo Tryd.prog 39 = true := by kernel_rfl
theorem fn24 : Tryd.prog.funcs[24]? = some Tryd.f24 := by kernel_rfl
theorem go24 : isGo Tryd.prog 24 = true := by kernel_rfl
theorem fn33 : Tryd.prog.funcs[33]? = some Tryd.f33 := by kernel_rfl
theorem go33 : isGo Tryd.prog 33 = true := by kernel_rfl
theorem fn20 : Tryd.prog.funcs[20]? = some Tryd.f20 := by kernel_rfl
theorem go20 : isGo Tryd.prog 20 = true := by kernel_rfl
theorem fa31_0 : fieldAt? Tryd.prog 31 0 = some 0 := by kernel_rfl
theorem fa31_1 : fieldAt? Tryd.prog 31 1 = some 1 := by kernel_rfl
theorem fn11 : Tryd.prog.funcs[11]? = some Tryd.f11 := by kernel_rfl
theorem go11 : isGo Tryd.prog 11 = true := by kernel_rfl
theorem fn36 : Tryd.prog.funcs[36]? = some Tryd.f36 := by kernel_rfl
theorem go36 : isGo Tryd.prog 36 = true := by kernel_rfl
theorem fn57 : Tryd.prog.funcs[57]? = some Tryd.f57 := by kernel_rfl
theorem go57 : isGo Tryd.prog 57 = true := by kernel_rfl
theorem fn37 : Tryd.prog.funcs[37]? = some Tryd.f37 := by kernel_rfl
theorem go37 : isGo Tryd.prog 37 = true := by kernel_rfl
theorem go22 : isGo Tryd.prog 22 = true := by kernel_rfl
theorem fn22 : Tryd.prog.funcs[22]? = some Tryd.f22 := by kernel_rfl
theorem fn12 : Tryd.prog.funcs[12]? = some Tryd.f12 := by kernel_rfl
theorem go12 : isGo Tryd.prog 12 = true := by kernel_rfl
theorem fn13 : Tryd.prog.funcs[13]? = some Tryd.f13 := by kernel_rfl
theorem go13 : isGo Tryd.prog 13 = true := by kernel_rfl
theorem un95 : Tryd.prog.underlying 95 = some (.slice 29) := by kernel_rfl
theorem ze29 : zero? Tryd.prog 29 = some [.val (.slice none 0 0)] := by kernel_rfl
theorem in29 : ((Tryd.prog.info? 29).map fun i => (i.size, i.bytes, i.zero.map (·.cells.size))) = some (1, 24, some 1) := by kernel_rfl
theorem sl95 : SlT Tryd.prog 95 1 24 (cSl (cInt .i64)) := SlT.of2 un95 in29 (by decide) (by decide) (fun _ => ⟨rfl, rfl, rfl⟩)
theorem go38 : isGo Tryd.prog 38 = true := by kernel_rfl
theorem fn23 : Tryd.prog.funcs[23]? = some Tryd.f23 := by kernel_rfl
theorem go23 : isGo Tryd.prog 23 = true := by kernel_rfl
theorem fn14 : Tryd.prog.funcs[14]? = some Tryd.f14 := by kernel_rfl
theorem go14 : isGo Tryd.prog 14 = true := by kernel_rfl
theorem fn42 : Tryd.prog.funcs[42]? = some Tryd.f42 := by kernel_rfl
theorem go42 : isGo Tryd.prog 42 = true := by kernel_rfl
theorem un142 : Tryd.prog.underlying 142 = some (.slice 36) := by kernel_rfl
theorem in36 : ((Tryd.prog.info? 36).map fun i => (i.size, i.bytes, i.zero.map (·.cells.size))) = some (2, 32, some 2) := by kernel_rfl
theorem sl142 : SlT Tryd.prog 142 2 32 TFacts.cells := SlT.of2 un142 in36 (by decide) (by decide) TFacts.cells_ok
theorem fn64 : Tryd.prog.funcs[64]? = some Tryd.f64 := by kernel_rfl
theorem go64 : isGo Tryd.prog 64 = true := by kernel_rfl
theorem go65 : isGo Tryd.prog 65 = true := by kernel_rfl
theorem fn43 : Tryd.prog.funcs[43]? = some Tryd.f43 := by kernel_rfl
theorem go43 : isGo Tryd.prog 43 = true := by kernel_rfl
theorem fn67 : Tryd.prog.funcs[67]? = some Tryd.f67 := by kernel_rfl
theorem go67 : isGo Tryd.prog 67 = true := by kernel_rfl
theorem fn68 : Tryd.prog.funcs[68]? = some Tryd.f68 := by kernel_rfl
theorem go68 : isGo Tryd.prog 68 = true := by kernel_rfl
theorem fn44 : Tryd.prog.funcs[44]? = some Tryd.f44 := by kernel_rfl
theorem go44 : isGo Tryd.prog 44 = true := by kernel_rfl
theorem go25 : isGo Tryd.prog 25 = true := by kernel_rfl
theorem fn25 : Tryd.prog.funcs[25]? = some Tryd.f25 := by kernel_rfl
theorem fn45 : Tryd.prog.funcs[45]? = some Tryd.f45 := by kernel_rfl
theorem go45 : isGo Tryd.prog 45 = true := by kernel_rfl
theorem fn46 : Tryd.prog.funcs[46]? = some Tryd.f46 := by kernel_rfl
theorem go46 : isGo Tryd.prog 46 = true := by kernel_rfl
theorem fn47 : Tryd.prog.funcs[47]? = some Tryd.f47 := by kernel_rfl
theorem go47 : isGo Tryd.prog 47 = true := by kernel_rfl
theorem go26 : isGo Tryd.prog 26 = true := by kernel_rfl
theorem fn26 : Tryd.prog.funcs[26]? = some Tryd.f26 := by kernel_rfl
theorem fn15 : Tryd.prog.funcs[15]? = some Tryd.f15 := by kernel_rfl
theorem go15 : isGo Tryd.prog 15 = true := by kernel_rfl
theorem fn5 : Tryd.prog.funcs[5]? = some Tryd.f5 := by kernel_rfl
theorem go5 : isGo Tryd.prog 5 = true := by kernel_rfl
theorem go10 : isGo Tryd.prog 10 = true := by kernel_rfl
theorem un9 : Tryd.prog.underlying 9 = some (.string) := by kernel_rfl
theorem fn4 : Tryd.prog.funcs[4]? = some Tryd.f4 := by kernel_rfl
theorem go4 : isGo Tryd.prog 4 = true := by kernel_rfl
theorem un44 : Tryd.prog.underlying 44 = some (.slice 31) := by kernel_rfl
def kf62x (x : ByteArray) : List Value := [.string x]
@[reducible] def kf62 (x : ByteArray) : Value := .agg (kf62x x).toArray
theorem ek62 : eqKinds Tryd.prog 62 = some [(0, .string)] := by kernel_rfl
theorem ag62 : isAgg? Tryd.prog 62 = some true := by kernel_rfl
theorem kt62 : KeyT Tryd.prog 62 kf62 := KeyT.agg (xf := kf62x) ag62 ek62 (fun a b => by simp [kf62x, evalEq, eqLeaf, beq_str]) (fun em k => by kernel_rfl) (fun k => by simp [kf62x, Instr.sameBits, (MapKept.bytes_beq _ _).2 rfl])
theorem mp63 : MpT Tryd.prog 63 kf62 (fun x => .val (.bool x)) false := ⟨⟨62, 4, by kernel_rfl, kt62, by kernel_rfl⟩⟩
theorem ze62 : zero? Tryd.prog 62 = some [.val (.string ⟨#[]⟩)] := by kernel_rfl
theorem pl62 : placesOf Tryd.prog 62 = some [(0, 1)] := by kernel_rfl
theorem in31 : ((Tryd.prog.info? 31).map fun i => (i.size, i.bytes, i.zero.map (·.cells.size))) = some (2, 32, some 2) := by kernel_rfl
theorem sl44 : SlT Tryd.prog 44 2 32 TConf.cells := SlT.of2 un44 in31 (by decide) (by decide) TConf.cells_ok
theorem fn27 : Tryd.prog.funcs[27]? = some Tryd.f27 := by kernel_rfl
theorem go27 : isGo Tryd.prog 27 = true := by kernel_rfl
theorem fn16 : Tryd.prog.funcs[16]? = some Tryd.f16 := by kernel_rfl
theorem go16 : isGo Tryd.prog 16 = true := by kernel_rfl
theorem sz62 : sizeOf? Tryd.prog 62 = some 1 := by kernel_rfl
theorem fn6 : Tryd.prog.funcs[6]? = some Tryd.f6 := by kernel_rfl
theorem go6 : isGo Tryd.prog 6 = true := by kernel_rfl
theorem fn8 : Tryd.prog.funcs[8]? = some Tryd.f8 := by kernel_rfl
theorem go8 : isGo Tryd.prog 8 = true := by kernel_rfl
theorem fn7 : Tryd.prog.funcs[7]? = some Tryd.f7 := by kernel_rfl
theorem go7 : isGo Tryd.prog 7 = true := by kernel_rfl
theorem fn3 : Tryd.prog.funcs[3]? = some Tryd.f3 := by kernel_rfl
end Go.RM.Tryd
