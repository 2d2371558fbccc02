/- GB, for the statement FramesValues: what it needs, no more. -/
import Derived.Test.YtcogffeinodfaaaDoorZFramesValuesNH
import Derived.Test.YtcogffeinodfaaaDoorZFramesValuesKE
set_option linter.unusedVariables false
set_option maxRecDepth 8000
set_option maxHeartbeats 4000000
namespace Go.RM.Tryd
open Go.RM Go.Proofs
theorem go7 : isGo Tryd.prog 7 = true := by kernel_rfl
theorem sz29 : sizeOf? Tryd.prog 29 = some 10 := by kernel_rfl
theorem ag29 : isAgg? Tryd.prog 29 = some true := by kernel_rfl
theorem sz33 : sizeOf? Tryd.prog 33 = some 4 := by kernel_rfl
theorem ag33 : isAgg? Tryd.prog 33 = some true := by kernel_rfl
theorem fa29_5 : fieldAt? Tryd.prog 29 5 = some 5 := by kernel_rfl
theorem sz23 : sizeOf? Tryd.prog 23 = some 1 := by kernel_rfl
theorem ag23 : isAgg? Tryd.prog 23 = some false := by kernel_rfl
theorem un23 : Tryd.prog.underlying 23 = some (.slice 3) := by kernel_rfl
theorem in3 : ((Tryd.prog.info? 3).map fun i => (i.size, i.bytes, i.zero.map (·.cells.size))) = some (1, 8, some 1) := by kernel_rfl
theorem sl23 : SlT Tryd.prog 23 1 8 (cInt .i64) := SlT.of2 un23 in3 (by decide) (by decide) (fun _ => ⟨rfl, rfl, rfl⟩)
theorem fa29_6 : fieldAt? Tryd.prog 29 6 = some 6 := by kernel_rfl
theorem sz24 : sizeOf? Tryd.prog 24 = some 1 := by kernel_rfl
theorem ag24 : isAgg? Tryd.prog 24 = some false := by kernel_rfl
theorem un24 : Tryd.prog.underlying 24 = some (.slice 47) := by kernel_rfl
theorem in47 : ((Tryd.prog.info? 47).map fun i => (i.size, i.bytes, i.zero.map (·.cells.size))) = some (7, 56, some 7) := by kernel_rfl
theorem sl24 : SlT Tryd.prog 24 7 56 TStep.cells := SlT.of2 un24 in47 (by decide) (by decide) TStep.cells_ok
theorem fa33_3 : fieldAt? Tryd.prog 33 3 = some 3 := by kernel_rfl
theorem fn8 : Tryd.prog.funcs[8]? = some Tryd.f8 := by kernel_rfl
theorem go8 : isGo Tryd.prog 8 = true := by kernel_rfl
theorem un34 : Tryd.prog.underlying 34 = some (.slice 44) := by kernel_rfl
theorem in44 : ((Tryd.prog.info? 44).map fun i => (i.size, i.bytes, i.zero.map (·.cells.size))) = some (2, 16, some 2) := by kernel_rfl
theorem sl34 : SlT Tryd.prog 34 2 16 TMove.cells := SlT.of2 un34 in44 (by decide) (by decide) TMove.cells_ok
theorem fn9 : Tryd.prog.funcs[9]? = some Tryd.f9 := by kernel_rfl
theorem go9 : isGo Tryd.prog 9 = true := by kernel_rfl
theorem sz44 : sizeOf? Tryd.prog 44 = some 2 := by kernel_rfl
theorem ze44 : zero? Tryd.prog 44 = some [.val (.int .i64 0), .val (.int .i64 0)] := by kernel_rfl
theorem ze33 : zero? Tryd.prog 33 = some [.val (.int .i64 0), .val (.slice none 0 0), .val (.int .u64 0), .val (.slice none 0 0)] := by kernel_rfl
theorem fa29_1 : fieldAt? Tryd.prog 29 1 = some 1 := by kernel_rfl
theorem sz22 : sizeOf? Tryd.prog 22 = some 1 := by kernel_rfl
theorem ag22 : isAgg? Tryd.prog 22 = some false := by kernel_rfl
theorem un22 : Tryd.prog.underlying 22 = some (.slice 9) := by kernel_rfl
theorem in9 : ((Tryd.prog.info? 9).map fun i => (i.size, i.bytes, i.zero.map (·.cells.size))) = some (1, 16, some 1) := by kernel_rfl
theorem sl22 : SlT Tryd.prog 22 1 16 cStr := SlT.of2 un22 in9 (by decide) (by decide) (fun _ => ⟨rfl, rfl, rfl⟩)
theorem ze3 : zero? Tryd.prog 3 = some [.val (.int .i64 0)] := by kernel_rfl
theorem sz3 : sizeOf? Tryd.prog 3 = some 1 := by kernel_rfl
theorem fa29_0 : fieldAt? Tryd.prog 29 0 = some 0 := by kernel_rfl
theorem ag3 : isAgg? Tryd.prog 3 = some false := by kernel_rfl
theorem fa29_2 : fieldAt? Tryd.prog 29 2 = some 2 := by kernel_rfl
theorem fa29_3 : fieldAt? Tryd.prog 29 3 = some 3 := by kernel_rfl
theorem fa29_4 : fieldAt? Tryd.prog 29 4 = some 4 := by kernel_rfl
theorem fn51 : Tryd.prog.funcs[51]? = some Tryd.f51 := by kernel_rfl
theorem go51 : isGo Tryd.prog 51 = true := by kernel_rfl
theorem fn85 : Tryd.prog.funcs[85]? = some Tryd.f85 := by kernel_rfl
theorem go85 : isGo Tryd.prog 85 = true := by kernel_rfl
theorem fn68 : Tryd.prog.funcs[68]? = some Tryd.f68 := by kernel_rfl
theorem fn69 : Tryd.prog.funcs[69]? = some Tryd.f69 := by kernel_rfl
theorem go69 : isGo Tryd.prog 69 = true := by kernel_rfl
theorem go68 : isGo Tryd.prog 68 = true := by kernel_rfl
theorem fa29_7 : fieldAt? Tryd.prog 29 7 = some 7 := by kernel_rfl
theorem sz25 : sizeOf? Tryd.prog 25 = some 1 := by kernel_rfl
theorem ag25 : isAgg? Tryd.prog 25 = some false := by kernel_rfl
theorem un25 : Tryd.prog.underlying 25 = some (.slice 76) := by kernel_rfl
theorem in76 : ((Tryd.prog.info? 76).map fun i => (i.size, i.bytes, i.zero.map (·.cells.size))) = some (4, 40, some 4) := by kernel_rfl
theorem sl25 : SlT Tryd.prog 25 4 40 TSite.cells := SlT.of2 un25 in76 (by decide) (by decide) TSite.cells_ok
theorem sz76 : sizeOf? Tryd.prog 76 = some 4 := by kernel_rfl
theorem ag76 : isAgg? Tryd.prog 76 = some true := by kernel_rfl
theorem fn86 : Tryd.prog.funcs[86]? = some Tryd.f86 := by kernel_rfl
theorem go86 : isGo Tryd.prog 86 = true := by kernel_rfl
theorem fn70 : Tryd.prog.funcs[70]? = some Tryd.f70 := by kernel_rfl
theorem fa76_1 : fieldAt? Tryd.prog 76 1 = some 1 := by kernel_rfl
theorem fn71 : Tryd.prog.funcs[71]? = some Tryd.f71 := by kernel_rfl
theorem go71 : isGo Tryd.prog 71 = true := by kernel_rfl
theorem go70 : isGo Tryd.prog 70 = true := by kernel_rfl
theorem fn47 : Tryd.prog.funcs[47]? = some Tryd.f47 := by kernel_rfl
theorem go47 : isGo Tryd.prog 47 = true := by kernel_rfl
theorem sz47 : sizeOf? Tryd.prog 47 = some 7 := by kernel_rfl
theorem ag47 : isAgg? Tryd.prog 47 = some true := by kernel_rfl
theorem ze47 : zero? Tryd.prog 47 = some [.val (.int .i64 0), .val (.int .i64 0), .val (.int .i64 0), .val (.int .i64 0), .val (.int .i64 0), .val (.int .i64 0), .val (.int .i64 0)] := by kernel_rfl
theorem fa47_0 : fieldAt? Tryd.prog 47 0 = some 0 := by kernel_rfl
theorem fa47_1 : fieldAt? Tryd.prog 47 1 = some 1 := by kernel_rfl
theorem fa47_3 : fieldAt? Tryd.prog 47 3 = some 3 := by kernel_rfl
theorem fa47_4 : fieldAt? Tryd.prog 47 4 = some 4 := by kernel_rfl
theorem fa47_2 : fieldAt? Tryd.prog 47 2 = some 2 := by kernel_rfl
theorem sz45 : sizeOf? Tryd.prog 45 = some 1 := by kernel_rfl
theorem ag45 : isAgg? Tryd.prog 45 = some false := by kernel_rfl
theorem pl47 : placesOf Tryd.prog 47 = some [(0, 1), (1, 1), (2, 1), (3, 1), (4, 1), (5, 1), (6, 1)] := by kernel_rfl
theorem ek47 : eqKinds Tryd.prog 47 = some [(0, .int .i64), (1, .int .i64), (2, .int .i64), (3, .int .i64), (4, .int .i64), (5, .int .i64), (6, .int .i64)] := by kernel_rfl
theorem fa47_5 : fieldAt? Tryd.prog 47 5 = some 5 := by kernel_rfl
theorem sz2 : sizeOf? Tryd.prog 2 = some 1 := by kernel_rfl
theorem fa47_6 : fieldAt? Tryd.prog 47 6 = some 6 := by kernel_rfl
theorem fa76_2 : fieldAt? Tryd.prog 76 2 = some 2 := by kernel_rfl
theorem fa76_3 : fieldAt? Tryd.prog 76 3 = some 3 := by kernel_rfl
theorem fn48 : Tryd.prog.funcs[48]? = some Tryd.f48 := by kernel_rfl
theorem go48 : isGo Tryd.prog 48 = true := by kernel_rfl
theorem fa29_8 : fieldAt? Tryd.prog 29 8 = some 8 := by kernel_rfl
theorem sz26 : sizeOf? Tryd.prog 26 = some 1 := by kernel_rfl
theorem ag26 : isAgg? Tryd.prog 26 = some false := by kernel_rfl
theorem un26 : Tryd.prog.underlying 26 = some (.slice 83) := by kernel_rfl
theorem in83 : ((Tryd.prog.info? 83).map fun i => (i.size, i.bytes, i.zero.map (·.cells.size))) = some (2, 24, some 2) := by kernel_rfl
theorem sl26 : SlT Tryd.prog 26 2 24 TPoint.cells := SlT.of2 un26 in83 (by decide) (by decide) TPoint.cells_ok
theorem sz83 : sizeOf? Tryd.prog 83 = some 2 := by kernel_rfl
theorem ag83 : isAgg? Tryd.prog 83 = some true := by kernel_rfl
theorem fn72 : Tryd.prog.funcs[72]? = some Tryd.f72 := by kernel_rfl
theorem go72 : isGo Tryd.prog 72 = true := by kernel_rfl
theorem fn49 : Tryd.prog.funcs[49]? = some Tryd.f49 := by kernel_rfl
theorem fa83_1 : fieldAt? Tryd.prog 83 1 = some 1 := by kernel_rfl
theorem fn50 : Tryd.prog.funcs[50]? = some Tryd.f50 := by kernel_rfl
theorem go50 : isGo Tryd.prog 50 = true := by kernel_rfl
theorem go49 : isGo Tryd.prog 49 = true := by kernel_rfl
theorem fa29_9 : fieldAt? Tryd.prog 29 9 = some 9 := by kernel_rfl
theorem sz27 : sizeOf? Tryd.prog 27 = some 1 := by kernel_rfl
theorem ag27 : isAgg? Tryd.prog 27 = some false := by kernel_rfl
theorem un27 : Tryd.prog.underlying 27 = some (.slice 74) := by kernel_rfl
theorem in74 : ((Tryd.prog.info? 74).map fun i => (i.size, i.bytes, i.zero.map (·.cells.size))) = some (2, 16, some 2) := by kernel_rfl
theorem sl27 : SlT Tryd.prog 27 2 16 TSink.cells := SlT.of2 un27 in74 (by decide) (by decide) TSink.cells_ok
theorem sz74 : sizeOf? Tryd.prog 74 = some 2 := by kernel_rfl
theorem ag74 : isAgg? Tryd.prog 74 = some true := by kernel_rfl
theorem fn73 : Tryd.prog.funcs[73]? = some Tryd.f73 := by kernel_rfl
theorem go73 : isGo Tryd.prog 73 = true := by kernel_rfl
theorem fn52 : Tryd.prog.funcs[52]? = some Tryd.f52 := by kernel_rfl
theorem fa74_1 : fieldAt? Tryd.prog 74 1 = some 1 := by kernel_rfl
theorem fa74_0 : fieldAt? Tryd.prog 74 0 = some 0 := by kernel_rfl
theorem fn53 : Tryd.prog.funcs[53]? = some Tryd.f53 := by kernel_rfl
theorem go53 : isGo Tryd.prog 53 = true := by kernel_rfl
theorem go52 : isGo Tryd.prog 52 = true := by kernel_rfl
theorem fn29 : Tryd.prog.funcs[29]? = some Tryd.f29 := by kernel_rfl
theorem go29 : isGo Tryd.prog 29 = true := by kernel_rfl
theorem fa33_0 : fieldAt? Tryd.prog 33 0 = some 0 := by kernel_rfl
theorem fa33_1 : fieldAt? Tryd.prog 33 1 = some 1 := by kernel_rfl
theorem sz30 : sizeOf? Tryd.prog 30 = some 1 := by kernel_rfl
theorem ag30 : isAgg? Tryd.prog 30 = some false := by kernel_rfl
theorem un30 : Tryd.prog.underlying 30 = some (.slice 2) := by kernel_rfl
theorem in2 : ((Tryd.prog.info? 2).map fun i => (i.size, i.bytes, i.zero.map (·.cells.size))) = some (1, 8, some 1) := by kernel_rfl
theorem sl30 : SlT Tryd.prog 30 1 8 (cInt .i64) := SlT.of2 un30 in2 (by decide) (by decide) (fun _ => ⟨rfl, rfl, rfl⟩)
theorem fa33_2 : fieldAt? Tryd.prog 33 2 = some 2 := by kernel_rfl
theorem sz31 : sizeOf? Tryd.prog 31 = some 1 := by kernel_rfl
theorem ag31 : isAgg? Tryd.prog 31 = some false := by kernel_rfl
theorem fn20 : Tryd.prog.funcs[20]? = some Tryd.f20 := by kernel_rfl
theorem go20 : isGo Tryd.prog 20 = true := by kernel_rfl
theorem ze2 : zero? Tryd.prog 2 = some [.val (.int .i64 0)] := by kernel_rfl
theorem fn21 : Tryd.prog.funcs[21]? = some Tryd.f21 := by kernel_rfl
theorem go21 : isGo Tryd.prog 21 = true := by kernel_rfl
theorem fn22 : Tryd.prog.funcs[22]? = some Tryd.f22 := by kernel_rfl
theorem go22 : isGo Tryd.prog 22 = true := by kernel_rfl
theorem pl33 : placesOf Tryd.prog 33 = some [(0, 1), (1, 1), (2, 1), (3, 1)] := by kernel_rfl
theorem ag44 : isAgg? Tryd.prog 44 = some true := by kernel_rfl
theorem fa44_0 : fieldAt? Tryd.prog 44 0 = some 0 := by kernel_rfl
theorem fa44_1 : fieldAt? Tryd.prog 44 1 = some 1 := by kernel_rfl
theorem ag2 : isAgg? Tryd.prog 2 = some false := by kernel_rfl
theorem fn30 : Tryd.prog.funcs[30]? = some Tryd.f30 := by kernel_rfl
theorem go30 : isGo Tryd.prog 30 = true := by kernel_rfl
theorem fn31 : Tryd.prog.funcs[31]? = some Tryd.f31 := by kernel_rfl
theorem go31 : isGo Tryd.prog 31 = true := by kernel_rfl
theorem fn23 : Tryd.prog.funcs[23]? = some Tryd.f23 := by kernel_rfl
theorem go23 : isGo Tryd.prog 23 = true := by kernel_rfl
theorem fn10 : Tryd.prog.funcs[10]? = some Tryd.f10 := by kernel_rfl
theorem go10 : isGo Tryd.prog 10 = true := by kernel_rfl
theorem fn12 : Tryd.prog.funcs[12]? = some Tryd.f12 := by kernel_rfl
theorem go12 : isGo Tryd.prog 12 = true := by kernel_rfl
theorem fn4 : Tryd.prog.funcs[4]? = some Tryd.f4 := by kernel_rfl
end Go.RM.Tryd
