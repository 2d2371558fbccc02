/- GB, for the statement FramesReached: what it needs, no more. -/
import Derived.Test.YtcogffeinodfaaaGreatDoorZFramesReachedGA
import Derived.Test.YtcogffeinodfaaaGreatDoorZFramesReachedKX
set_option linter.unusedVariables false
set_option maxRecDepth 8000
set_option maxHeartbeats 4000000
namespace Go.RM.Tryz
open Go.RM Go.Proofs
theorem go6 : isGo Tryz.prog 6 = true := by kernel_rfl
theorem sz29 : sizeOf? Tryz.prog 29 = some 10 := by kernel_rfl
theorem ag29 : isAgg? Tryz.prog 29 = some true := by kernel_rfl
theorem sz33 : sizeOf? Tryz.prog 33 = some 4 := by kernel_rfl
theorem ag33 : isAgg? Tryz.prog 33 = some true := by kernel_rfl
theorem fa29_5 : fieldAt? Tryz.prog 29 5 = some 5 := by kernel_rfl
theorem sz23 : sizeOf? Tryz.prog 23 = some 1 := by kernel_rfl
theorem ag23 : isAgg? Tryz.prog 23 = some false := by kernel_rfl
theorem un23 : Tryz.prog.underlying 23 = some (.slice 3) := by kernel_rfl
theorem in3 : ((Tryz.prog.info? 3).map fun i => (i.size, i.bytes, i.zero.map (·.cells.size))) = some (1, 8, some 1) := by kernel_rfl
theorem sl23 : SlT Tryz.prog 23 1 8 (cInt .i64) := SlT.of2 un23 in3 (by decide) (by decide) (fun _ => ⟨q, q, q⟩)
theorem fa29_6 : fieldAt? Tryz.prog 29 6 = some 6 := by kernel_rfl
theorem sz24 : sizeOf? Tryz.prog 24 = some 1 := by kernel_rfl
theorem ag24 : isAgg? Tryz.prog 24 = some false := by kernel_rfl
theorem un24 : Tryz.prog.underlying 24 = some (.slice 65) := by kernel_rfl
theorem in65 : ((Tryz.prog.info? 65).map fun i => (i.size, i.bytes, i.zero.map (·.cells.size))) = some (7, 56, some 7) := by kernel_rfl
theorem sl24 : SlT Tryz.prog 24 7 56 TStep.cells := SlT.of2 un24 in65 (by decide) (by decide) TStep.cells_ok
theorem fa33_3 : fieldAt? Tryz.prog 33 3 = some 3 := by kernel_rfl
theorem fn7 : Tryz.prog.funcs[7]? = some Tryz.f7 := by kernel_rfl
theorem go7 : isGo Tryz.prog 7 = true := by kernel_rfl
theorem fa29_1 : fieldAt? Tryz.prog 29 1 = some 1 := by kernel_rfl
theorem sz22 : sizeOf? Tryz.prog 22 = some 1 := by kernel_rfl
theorem ag22 : isAgg? Tryz.prog 22 = some false := by kernel_rfl
theorem un22 : Tryz.prog.underlying 22 = some (.slice 9) := by kernel_rfl
theorem in9 : ((Tryz.prog.info? 9).map fun i => (i.size, i.bytes, i.zero.map (·.cells.size))) = some (1, 16, some 1) := by kernel_rfl
theorem sl22 : SlT Tryz.prog 22 1 16 cStr := SlT.of2 un22 in9 (by decide) (by decide) (fun _ => ⟨q, q, q⟩)
theorem ze3 : zero? Tryz.prog 3 = some [.val (.int .i64 0)] := by kernel_rfl
theorem sz3 : sizeOf? Tryz.prog 3 = some 1 := by kernel_rfl
theorem fa29_0 : fieldAt? Tryz.prog 29 0 = some 0 := by kernel_rfl
theorem ag3 : isAgg? Tryz.prog 3 = some false := by kernel_rfl
theorem fa29_2 : fieldAt? Tryz.prog 29 2 = some 2 := by kernel_rfl
theorem fa29_3 : fieldAt? Tryz.prog 29 3 = some 3 := by kernel_rfl
theorem fa29_4 : fieldAt? Tryz.prog 29 4 = some 4 := by kernel_rfl
theorem fn45 : Tryz.prog.funcs[45]? = some Tryz.f45 := by kernel_rfl
theorem go45 : isGo Tryz.prog 45 = true := by kernel_rfl
theorem fn93 : Tryz.prog.funcs[93]? = some Tryz.f93 := by kernel_rfl
theorem go93 : isGo Tryz.prog 93 = true := by kernel_rfl
theorem fn67 : Tryz.prog.funcs[67]? = some Tryz.f67 := by kernel_rfl
theorem fn68 : Tryz.prog.funcs[68]? = some Tryz.f68 := by kernel_rfl
theorem go68 : isGo Tryz.prog 68 = true := by kernel_rfl
theorem go67 : isGo Tryz.prog 67 = true := by kernel_rfl
theorem fa29_7 : fieldAt? Tryz.prog 29 7 = some 7 := by kernel_rfl
theorem sz25 : sizeOf? Tryz.prog 25 = some 1 := by kernel_rfl
theorem ag25 : isAgg? Tryz.prog 25 = some false := by kernel_rfl
theorem un25 : Tryz.prog.underlying 25 = some (.slice 70) := by kernel_rfl
theorem in70 : ((Tryz.prog.info? 70).map fun i => (i.size, i.bytes, i.zero.map (·.cells.size))) = some (4, 40, some 4) := by kernel_rfl
theorem sl25 : SlT Tryz.prog 25 4 40 TSite.cells := SlT.of2 un25 in70 (by decide) (by decide) TSite.cells_ok
theorem sz70 : sizeOf? Tryz.prog 70 = some 4 := by kernel_rfl
theorem ag70 : isAgg? Tryz.prog 70 = some true := by kernel_rfl
theorem fn94 : Tryz.prog.funcs[94]? = some Tryz.f94 := by kernel_rfl
theorem go94 : isGo Tryz.prog 94 = true := by kernel_rfl
theorem fn69 : Tryz.prog.funcs[69]? = some Tryz.f69 := by kernel_rfl
theorem fa70_1 : fieldAt? Tryz.prog 70 1 = some 1 := by kernel_rfl
theorem fn70 : Tryz.prog.funcs[70]? = some Tryz.f70 := by kernel_rfl
theorem go70 : isGo Tryz.prog 70 = true := by kernel_rfl
theorem go69 : isGo Tryz.prog 69 = true := by kernel_rfl
theorem fn41 : Tryz.prog.funcs[41]? = some Tryz.f41 := by kernel_rfl
theorem go41 : isGo Tryz.prog 41 = true := by kernel_rfl
theorem sz65 : sizeOf? Tryz.prog 65 = some 7 := by kernel_rfl
theorem ag65 : isAgg? Tryz.prog 65 = some true := by kernel_rfl
theorem ze65 : zero? Tryz.prog 65 = some [.val (.int .i64 0), .val (.int .i64 0), .val (.int .i64 0), .val (.int .i64 0), .val (.int .i64 0), .val (.int .i64 0), .val (.int .i64 0)] := by kernel_rfl
theorem fa65_0 : fieldAt? Tryz.prog 65 0 = some 0 := by kernel_rfl
theorem fa65_1 : fieldAt? Tryz.prog 65 1 = some 1 := by kernel_rfl
theorem fa65_3 : fieldAt? Tryz.prog 65 3 = some 3 := by kernel_rfl
theorem fa65_4 : fieldAt? Tryz.prog 65 4 = some 4 := by kernel_rfl
theorem fa65_2 : fieldAt? Tryz.prog 65 2 = some 2 := by kernel_rfl
theorem sz63 : sizeOf? Tryz.prog 63 = some 1 := by kernel_rfl
theorem ag63 : isAgg? Tryz.prog 63 = some false := by kernel_rfl
theorem pl65 : placesOf Tryz.prog 65 = some [(0, 1), (1, 1), (2, 1), (3, 1), (4, 1), (5, 1), (6, 1)] := by kernel_rfl
theorem ek65 : eqKinds Tryz.prog 65 = some [(0, .int .i64), (1, .int .i64), (2, .int .i64), (3, .int .i64), (4, .int .i64), (5, .int .i64), (6, .int .i64)] := by kernel_rfl
theorem fa65_5 : fieldAt? Tryz.prog 65 5 = some 5 := by kernel_rfl
theorem sz2 : sizeOf? Tryz.prog 2 = some 1 := by kernel_rfl
theorem fa65_6 : fieldAt? Tryz.prog 65 6 = some 6 := by kernel_rfl
theorem fa70_2 : fieldAt? Tryz.prog 70 2 = some 2 := by kernel_rfl
theorem fa70_3 : fieldAt? Tryz.prog 70 3 = some 3 := by kernel_rfl
theorem fn42 : Tryz.prog.funcs[42]? = some Tryz.f42 := by kernel_rfl
theorem go42 : isGo Tryz.prog 42 = true := by kernel_rfl
theorem fa29_8 : fieldAt? Tryz.prog 29 8 = some 8 := by kernel_rfl
theorem sz26 : sizeOf? Tryz.prog 26 = some 1 := by kernel_rfl
theorem ag26 : isAgg? Tryz.prog 26 = some false := by kernel_rfl
theorem un26 : Tryz.prog.underlying 26 = some (.slice 95) := by kernel_rfl
theorem in95 : ((Tryz.prog.info? 95).map fun i => (i.size, i.bytes, i.zero.map (·.cells.size))) = some (2, 24, some 2) := by kernel_rfl
theorem sl26 : SlT Tryz.prog 26 2 24 TPoint.cells := SlT.of2 un26 in95 (by decide) (by decide) TPoint.cells_ok
theorem sz95 : sizeOf? Tryz.prog 95 = some 2 := by kernel_rfl
theorem ag95 : isAgg? Tryz.prog 95 = some true := by kernel_rfl
theorem fn71 : Tryz.prog.funcs[71]? = some Tryz.f71 := by kernel_rfl
theorem go71 : isGo Tryz.prog 71 = true := by kernel_rfl
theorem fn43 : Tryz.prog.funcs[43]? = some Tryz.f43 := by kernel_rfl
theorem fa95_1 : fieldAt? Tryz.prog 95 1 = some 1 := by kernel_rfl
theorem fn44 : Tryz.prog.funcs[44]? = some Tryz.f44 := by kernel_rfl
theorem go44 : isGo Tryz.prog 44 = true := by kernel_rfl
theorem go43 : isGo Tryz.prog 43 = true := by kernel_rfl
theorem fa29_9 : fieldAt? Tryz.prog 29 9 = some 9 := by kernel_rfl
theorem sz27 : sizeOf? Tryz.prog 27 = some 1 := by kernel_rfl
theorem ag27 : isAgg? Tryz.prog 27 = some false := by kernel_rfl
theorem un27 : Tryz.prog.underlying 27 = some (.slice 67) := by kernel_rfl
theorem in67 : ((Tryz.prog.info? 67).map fun i => (i.size, i.bytes, i.zero.map (·.cells.size))) = some (2, 16, some 2) := by kernel_rfl
theorem sl27 : SlT Tryz.prog 27 2 16 TSink.cells := SlT.of2 un27 in67 (by decide) (by decide) TSink.cells_ok
theorem sz67 : sizeOf? Tryz.prog 67 = some 2 := by kernel_rfl
theorem ag67 : isAgg? Tryz.prog 67 = some true := by kernel_rfl
theorem fn72 : Tryz.prog.funcs[72]? = some Tryz.f72 := by kernel_rfl
theorem go72 : isGo Tryz.prog 72 = true := by kernel_rfl
theorem fn46 : Tryz.prog.funcs[46]? = some Tryz.f46 := by kernel_rfl
theorem fa67_1 : fieldAt? Tryz.prog 67 1 = some 1 := by kernel_rfl
theorem fa67_0 : fieldAt? Tryz.prog 67 0 = some 0 := by kernel_rfl
theorem fn47 : Tryz.prog.funcs[47]? = some Tryz.f47 := by kernel_rfl
theorem go47 : isGo Tryz.prog 47 = true := by kernel_rfl
theorem go46 : isGo Tryz.prog 46 = true := by kernel_rfl
theorem fn25 : Tryz.prog.funcs[25]? = some Tryz.f25 := by kernel_rfl
theorem go25 : isGo Tryz.prog 25 = true := by kernel_rfl
theorem fa33_0 : fieldAt? Tryz.prog 33 0 = some 0 := by kernel_rfl
theorem fa33_1 : fieldAt? Tryz.prog 33 1 = some 1 := by kernel_rfl
theorem sz30 : sizeOf? Tryz.prog 30 = some 1 := by kernel_rfl
theorem ag30 : isAgg? Tryz.prog 30 = some false := by kernel_rfl
theorem un30 : Tryz.prog.underlying 30 = some (.slice 2) := by kernel_rfl
theorem in2 : ((Tryz.prog.info? 2).map fun i => (i.size, i.bytes, i.zero.map (·.cells.size))) = some (1, 8, some 1) := by kernel_rfl
theorem sl30 : SlT Tryz.prog 30 1 8 (cInt .i64) := SlT.of2 un30 in2 (by decide) (by decide) (fun _ => ⟨q, q, q⟩)
theorem fa33_2 : fieldAt? Tryz.prog 33 2 = some 2 := by kernel_rfl
theorem sz31 : sizeOf? Tryz.prog 31 = some 1 := by kernel_rfl
theorem ag31 : isAgg? Tryz.prog 31 = some false := by kernel_rfl
theorem fn16 : Tryz.prog.funcs[16]? = some Tryz.f16 := by kernel_rfl
theorem go16 : isGo Tryz.prog 16 = true := by kernel_rfl
theorem ze2 : zero? Tryz.prog 2 = some [.val (.int .i64 0)] := by kernel_rfl
theorem fn33 : Tryz.prog.funcs[33]? = some Tryz.f33 := by kernel_rfl
theorem go33 : isGo Tryz.prog 33 = true := by kernel_rfl
theorem fn34 : Tryz.prog.funcs[34]? = some Tryz.f34 := by kernel_rfl
theorem go34 : isGo Tryz.prog 34 = true := by kernel_rfl
theorem ze33 : zero? Tryz.prog 33 = some [.val (.int .i64 0), .val (.slice none 0 0), .val (.int .u64 0), .val (.slice none 0 0)] := by kernel_rfl
theorem pl33 : placesOf Tryz.prog 33 = some [(0, 1), (1, 1), (2, 1), (3, 1)] := by kernel_rfl
theorem un47 : Tryz.prog.underlying 47 = some (.slice 33) := by kernel_rfl
def kf75x (x : Int × Int × ByteArray) : List Value := [.int .i64 x.1, .int .u64 x.2.1, .string x.2.2]
@[reducible] def kf75 (x : Int × Int × ByteArray) : Value := .agg (kf75x x).toArray
theorem ek75 : eqKinds Tryz.prog 75 = some [(0, .int .i64), (1, .int .u64), (2, .string)] := by kernel_rfl
theorem ag75 : isAgg? Tryz.prog 75 = some true := by kernel_rfl
theorem kt75 : KeyT Tryz.prog 75 kf75 := KeyT.agg (xf := kf75x) ag75 ek75 (fun a b => by simp [kf75x, evalEq, eqLeaf, beq_str, Prod.ext_iff] <;> exact q) (fun em k => by kernel_rfl) (fun k => by simp [kf75x, Instr.sameBits, (MapKept.bytes_beq _ _).2 q])
theorem mp77 : MpT Tryz.prog 77 kf75 (fun x => .val (.bool x)) false := ⟨⟨75, 4, by kernel_rfl, kt75, by kernel_rfl⟩⟩
theorem ze75 : zero? Tryz.prog 75 = some [.val (.int .i64 0), .val (.int .u64 0), .val (.string ⟨#[]⟩)] := by kernel_rfl
theorem ag2 : isAgg? Tryz.prog 2 = some false := by kernel_rfl
theorem go51 : isGo Tryz.prog 51 = true := by kernel_rfl
theorem sz9 : sizeOf? Tryz.prog 9 = some 1 := by kernel_rfl
theorem ze9 : zero? Tryz.prog 9 = some [.val (.string ⟨#[]⟩)] := by kernel_rfl
theorem go52 : isGo Tryz.prog 52 = true := by kernel_rfl
theorem go53 : isGo Tryz.prog 53 = true := by kernel_rfl
theorem pl75 : placesOf Tryz.prog 75 = some [(0, 1), (1, 1), (2, 1)] := by kernel_rfl
theorem sz75 : sizeOf? Tryz.prog 75 = some 3 := by kernel_rfl
theorem fn35 : Tryz.prog.funcs[35]? = some Tryz.f35 := by kernel_rfl
theorem go35 : isGo Tryz.prog 35 = true := by kernel_rfl
theorem in33 : ((Tryz.prog.info? 33).map fun i => (i.size, i.bytes, i.zero.map (·.cells.size))) = some (4, 64, some 4) := by kernel_rfl
theorem sl47 : SlT Tryz.prog 47 4 64 TState.cells := SlT.of2 un47 in33 (by decide) (by decide) TState.cells_ok
theorem fn27 : Tryz.prog.funcs[27]? = some Tryz.f27 := by kernel_rfl
theorem go27 : isGo Tryz.prog 27 = true := by kernel_rfl
theorem ze54 : zero? Tryz.prog 54 = some [.val (.int .i64 0), .val (.int .i64 0)] := by kernel_rfl
theorem pl54 : placesOf Tryz.prog 54 = some [(0, 1), (1, 1)] := by kernel_rfl
theorem un52 : Tryz.prog.underlying 52 = some (.slice 54) := by kernel_rfl
theorem sz54 : sizeOf? Tryz.prog 54 = some 2 := by kernel_rfl
theorem in54 : ((Tryz.prog.info? 54).map fun i => (i.size, i.bytes, i.zero.map (·.cells.size))) = some (2, 16, some 2) := by kernel_rfl
theorem sl52 : SlT Tryz.prog 52 2 16 TMove.cells := SlT.of2 un52 in54 (by decide) (by decide) TMove.cells_ok
theorem fn28 : Tryz.prog.funcs[28]? = some Tryz.f28 := by kernel_rfl
theorem go28 : isGo Tryz.prog 28 = true := by kernel_rfl
theorem fn36 : Tryz.prog.funcs[36]? = some Tryz.f36 := by kernel_rfl
theorem go36 : isGo Tryz.prog 36 = true := by kernel_rfl
theorem ag54 : isAgg? Tryz.prog 54 = some true := by kernel_rfl
theorem fa54_0 : fieldAt? Tryz.prog 54 0 = some 0 := by kernel_rfl
theorem fa54_1 : fieldAt? Tryz.prog 54 1 = some 1 := by kernel_rfl
theorem fn54 : Tryz.prog.funcs[54]? = some Tryz.f54 := by kernel_rfl
theorem go54 : isGo Tryz.prog 54 = true := by kernel_rfl
theorem fn37 : Tryz.prog.funcs[37]? = some Tryz.f37 := by kernel_rfl
theorem go37 : isGo Tryz.prog 37 = true := by kernel_rfl
theorem fn19 : Tryz.prog.funcs[19]? = some Tryz.f19 := by kernel_rfl
theorem go19 : isGo Tryz.prog 19 = true := by kernel_rfl
theorem fn14 : Tryz.prog.funcs[14]? = some Tryz.f14 := by kernel_rfl
theorem go14 : isGo Tryz.prog 14 = true := by kernel_rfl
theorem fn23 : Tryz.prog.funcs[23]? = some Tryz.f23 := by kernel_rfl
theorem go23 : isGo Tryz.prog 23 = true := by kernel_rfl
theorem fn22 : Tryz.prog.funcs[22]? = some Tryz.f22 := by kernel_rfl
theorem go22 : isGo Tryz.prog 22 = true := by kernel_rfl
theorem fn5 : Tryz.prog.funcs[5]? = some Tryz.f5 := by kernel_rfl
end Go.RM.Tryz
