/- GB, for the statement LimitRuns: what it needs, no more. -/
import Derived.Test.YtckndmicdndamaaGreatDoorZLimitRunsGA
import Derived.Test.YtckndmicdndamaaGreatDoorZLimitRunsKX
set_option linter.unusedVariables false
set_option maxRecDepth 8000
set_option maxHeartbeats 4000000
namespace Go.RM.Tryz
open Go.RM Go.Proofs
theorem sz34:sizeOf? Tryz.prog 34=some 13:=by kernel_rfl
theorem ag34:isAgg? Tryz.prog 34=some true:=by kernel_rfl
theorem fa34_0:fieldAt? Tryz.prog 34 0=some 0:=by kernel_rfl
theorem fa28_3:fieldAt? Tryz.prog 28 3=some 5:=by kernel_rfl
theorem sz26:sizeOf? Tryz.prog 26=some 1:=by kernel_rfl
theorem ag26:isAgg? Tryz.prog 26=some false:=by kernel_rfl
theorem un26:Tryz.prog.underlying 26=some (.slice 77):=by kernel_rfl
theorem in77:((Tryz.prog.info? 77).map fun i=>(i.size,i.bytes,i.zero.map (·.cells.size)))=some (10,144,some 10):=by kernel_rfl
theorem sl26:SlT Tryz.prog 26 10 144 TRule.cells:=SlT.of2 un26 in77 (by decide) (by decide) TRule.cells_ok
theorem fa34_1:fieldAt? Tryz.prog 34 1=some 6:=by kernel_rfl
theorem fa32_4:fieldAt? Tryz.prog 32 4=some 6:=by kernel_rfl
theorem sz30:sizeOf? Tryz.prog 30=some 1:=by kernel_rfl
theorem ag30:isAgg? Tryz.prog 30=some false:=by kernel_rfl
theorem un30:Tryz.prog.underlying 30=some (.slice 63):=by kernel_rfl
theorem in63:((Tryz.prog.info? 63).map fun i=>(i.size,i.bytes,i.zero.map (·.cells.size)))=some (9,120,some 9):=by kernel_rfl
theorem sl30:SlT Tryz.prog 30 9 120 TTrans.cells:=SlT.of2 un30 in63 (by decide) (by decide) TTrans.cells_ok
theorem fa32_3:fieldAt? Tryz.prog 32 3=some 5:=by kernel_rfl
theorem sz29:sizeOf? Tryz.prog 29=some 1:=by kernel_rfl
theorem ag29:isAgg? Tryz.prog 29=some false:=by kernel_rfl
theorem un29:Tryz.prog.underlying 29=some (.slice 3):=by kernel_rfl
theorem in3:((Tryz.prog.info? 3).map fun i=>(i.size,i.bytes,i.zero.map (·.cells.size)))=some (1,8,some 1):=by kernel_rfl
theorem sl29:SlT Tryz.prog 29 1 8 (cInt .i64):=SlT.of2 un29 in3 (by decide) (by decide) (fun _=>⟨q,q,q⟩)
theorem fa32_1:fieldAt? Tryz.prog 32 1=some 3:=by kernel_rfl
theorem sz3:sizeOf? Tryz.prog 3=some 1:=by kernel_rfl
theorem ag3:isAgg? Tryz.prog 3=some false:=by kernel_rfl
theorem fa28_0:fieldAt? Tryz.prog 28 0=some 0:=by kernel_rfl
theorem sz25:sizeOf? Tryz.prog 25=some 3:=by kernel_rfl
theorem ag25:isAgg? Tryz.prog 25=some true:=by kernel_rfl
theorem fa25_2:fieldAt? Tryz.prog 25 2=some 2:=by kernel_rfl
theorem sz23:sizeOf? Tryz.prog 23=some 1:=by kernel_rfl
theorem ag23:isAgg? Tryz.prog 23=some false:=by kernel_rfl
theorem un23:Tryz.prog.underlying 23=some (.slice 25):=by kernel_rfl
theorem in25:((Tryz.prog.info? 25).map fun i=>(i.size,i.bytes,i.zero.map (·.cells.size)))=some (3,40,some 3):=by kernel_rfl
theorem sl23:SlT Tryz.prog 23 3 40 TSpace.cells:=SlT.of2 un23 in25 (by decide) (by decide) TSpace.cells_ok
theorem fa25_0:fieldAt? Tryz.prog 25 0=some 0:=by kernel_rfl
theorem sz22:sizeOf? Tryz.prog 22=some 1:=by kernel_rfl
theorem ag22:isAgg? Tryz.prog 22=some false:=by kernel_rfl
theorem fa25_1:fieldAt? Tryz.prog 25 1=some 1:=by kernel_rfl
theorem fn29:Tryz.prog.funcs[29]?=some Tryz.f29:=by kernel_rfl
theorem go29:isGo Tryz.prog 29=true:=by kernel_rfl
theorem fa32_0:fieldAt? Tryz.prog 32 0=some 0:=by kernel_rfl
theorem fa77_3:fieldAt? Tryz.prog 77 3=some 3:=by kernel_rfl
theorem fa77_4:fieldAt? Tryz.prog 77 4=some 4:=by kernel_rfl
theorem sz53:sizeOf? Tryz.prog 53=some 6:=by kernel_rfl
theorem ag53:isAgg? Tryz.prog 53=some true:=by kernel_rfl
theorem fa53_2:fieldAt? Tryz.prog 53 2=some 2:=by kernel_rfl
theorem fa49_1:fieldAt? Tryz.prog 49 1=some 1:=by kernel_rfl
theorem sz47:sizeOf? Tryz.prog 47=some 1:=by kernel_rfl
theorem ag47:isAgg? Tryz.prog 47=some false:=by kernel_rfl
theorem un47:Tryz.prog.underlying 47=some (.slice 46):=by kernel_rfl
theorem in46:((Tryz.prog.info? 46).map fun i=>(i.size,i.bytes,i.zero.map (·.cells.size)))=some (1,8,some 1):=by kernel_rfl
theorem sl47:SlT Tryz.prog 47 1 8 (cInt .u64):=SlT.of2 un47 in46 (by decide) (by decide) (fun _=>⟨q,q,q⟩)
theorem fa53_3:fieldAt? Tryz.prog 53 3=some 4:=by kernel_rfl
theorem sz50:sizeOf? Tryz.prog 50=some 1:=by kernel_rfl
theorem ag50:isAgg? Tryz.prog 50=some false:=by kernel_rfl
theorem un50:Tryz.prog.underlying 50=some (.slice 97):=by kernel_rfl
theorem in97:((Tryz.prog.info? 97).map fun i=>(i.size,i.bytes,i.zero.map (·.cells.size)))=some (3,24,some 3):=by kernel_rfl
theorem sl50:SlT Tryz.prog 50 3 24 TCell.cells:=SlT.of2 un50 in97 (by decide) (by decide) TCell.cells_ok
theorem fa53_4:fieldAt? Tryz.prog 53 4=some 5:=by kernel_rfl
theorem sz51:sizeOf? Tryz.prog 51=some 1:=by kernel_rfl
theorem ag51:isAgg? Tryz.prog 51=some false:=by kernel_rfl
theorem un51:Tryz.prog.underlying 51=some (.slice 53):=by kernel_rfl
theorem in53:((Tryz.prog.info? 53).map fun i=>(i.size,i.bytes,i.zero.map (·.cells.size)))=some (6,96,some 6):=by kernel_rfl
theorem sl51:SlT Tryz.prog 51 6 96 TWeight.cells:=SlT.of2 un51 in53 (by decide) (by decide) TWeight.cells_ok
theorem go30:isGo Tryz.prog 30=true:=by kernel_rfl
theorem fn30:Tryz.prog.funcs[30]?=some Tryz.f30:=by kernel_rfl
theorem fa63_3:fieldAt? Tryz.prog 63 3=some 3:=by kernel_rfl
theorem fn8:Tryz.prog.funcs[8]?=some Tryz.f8:=by kernel_rfl
theorem go8:isGo Tryz.prog 8=true:=by kernel_rfl
theorem fa36_1:fieldAt? Tryz.prog 36 1=some 1:=by kernel_rfl
theorem ze25:zero? Tryz.prog 25=some [.val (.int .i64 0),.val (.int .i64 0),.val (.slice none 0 0)]:=by kernel_rfl
theorem pl25:placesOf Tryz.prog 25=some [(0,1),(1,1),(2,1)]:=by kernel_rfl
theorem ze3:zero? Tryz.prog 3=some [.val (.int .i64 0)]:=by kernel_rfl
theorem ze53:zero? Tryz.prog 53=some [.val (.bool false),.val (.int .i64 0),.val (.int .u64 0),.val (.slice none 0 0),.val (.slice none 0 0),.val (.slice none 0 0)]:=by kernel_rfl
theorem pl53:placesOf Tryz.prog 53=some [(0,1),(1,1),(2,2),(4,1),(5,1)]:=by kernel_rfl
theorem ze77:zero? Tryz.prog 77=some [.val (.int .i64 0),.val (.int .i64 0),.val (.int .i64 0),.val (.slice none 0 0),.val (.bool false),.val (.int .i64 0),.val (.int .u64 0),.val (.slice none 0 0),.val (.slice none 0 0),.val (.slice none 0 0)]:=by kernel_rfl
theorem pl77:placesOf Tryz.prog 77=some [(0,1),(1,1),(2,1),(3,1),(4,6)]:=by kernel_rfl
theorem sz77:sizeOf? Tryz.prog 77=some 10:=by kernel_rfl
theorem ze28:zero? Tryz.prog 28=some [.val (.int .i64 0),.val (.int .i64 0),.val (.slice none 0 0),.val (.int .i64 0),.val (.int .i64 0),.val (.slice none 0 0)]:=by kernel_rfl
theorem pl28:placesOf Tryz.prog 28=some [(0,3),(3,1),(4,1),(5,1)]:=by kernel_rfl
theorem sz28:sizeOf? Tryz.prog 28=some 6:=by kernel_rfl
theorem ze36:zero? Tryz.prog 36=some [.val (.int .i64 0),.val (.slice none 0 0)]:=by kernel_rfl
theorem pl36:placesOf Tryz.prog 36=some [(0,1),(1,1)]:=by kernel_rfl
theorem sz36:sizeOf? Tryz.prog 36=some 2:=by kernel_rfl
theorem ag28:isAgg? Tryz.prog 28=some true:=by kernel_rfl
theorem ag36:isAgg? Tryz.prog 36=some true:=by kernel_rfl
theorem un71:Tryz.prog.underlying 71=some (.slice 36):=by kernel_rfl
theorem in36:((Tryz.prog.info? 36).map fun i=>(i.size,i.bytes,i.zero.map (·.cells.size)))=some (2,32,some 2):=by kernel_rfl
theorem sl71:SlT Tryz.prog 71 2 32 TConf.cells:=SlT.of2 un71 in36 (by decide) (by decide) TConf.cells_ok
theorem fn141:Tryz.prog.funcs[141]?=some Tryz.f141:=by kernel_rfl
theorem go141:isGo Tryz.prog 141=true:=by kernel_rfl
theorem fn104:Tryz.prog.funcs[104]?=some Tryz.f104:=by kernel_rfl
theorem go65:isGo Tryz.prog 65=true:=by kernel_rfl
theorem fn105:Tryz.prog.funcs[105]?=some Tryz.f105:=by kernel_rfl
theorem go105:isGo Tryz.prog 105=true:=by kernel_rfl
theorem go104:isGo Tryz.prog 104=true:=by kernel_rfl
theorem fn65:Tryz.prog.funcs[65]?=some Tryz.f65:=by kernel_rfl
theorem fa28_1:fieldAt? Tryz.prog 28 1=some 3:=by kernel_rfl
theorem fa28_2:fieldAt? Tryz.prog 28 2=some 4:=by kernel_rfl
theorem ag77:isAgg? Tryz.prog 77=some true:=by kernel_rfl
theorem fn136:Tryz.prog.funcs[136]?=some Tryz.f136:=by kernel_rfl
theorem go136:isGo Tryz.prog 136=true:=by kernel_rfl
theorem fn99:Tryz.prog.funcs[99]?=some Tryz.f99:=by kernel_rfl
theorem fa77_0:fieldAt? Tryz.prog 77 0=some 0:=by kernel_rfl
theorem fn137:Tryz.prog.funcs[137]?=some Tryz.f137:=by kernel_rfl
theorem go137:isGo Tryz.prog 137=true:=by kernel_rfl
theorem fa77_2:fieldAt? Tryz.prog 77 2=some 2:=by kernel_rfl
theorem fa77_1:fieldAt? Tryz.prog 77 1=some 1:=by kernel_rfl
theorem fn167:Tryz.prog.funcs[167]?=some Tryz.f167:=by kernel_rfl
theorem go167:isGo Tryz.prog 167=true:=by kernel_rfl
theorem fn138:Tryz.prog.funcs[138]?=some Tryz.f138:=by kernel_rfl
theorem fn139:Tryz.prog.funcs[139]?=some Tryz.f139:=by kernel_rfl
theorem go139:isGo Tryz.prog 139=true:=by kernel_rfl
theorem go138:isGo Tryz.prog 138=true:=by kernel_rfl
theorem fn101:Tryz.prog.funcs[101]?=some Tryz.f101:=by kernel_rfl
theorem go101:isGo Tryz.prog 101=true:=by kernel_rfl
theorem fn100:Tryz.prog.funcs[100]?=some Tryz.f100:=by kernel_rfl
theorem go100:isGo Tryz.prog 100=true:=by kernel_rfl
theorem go99:isGo Tryz.prog 99=true:=by kernel_rfl
theorem fn147:Tryz.prog.funcs[147]?=some Tryz.f147:=by kernel_rfl
theorem go147:isGo Tryz.prog 147=true:=by kernel_rfl
theorem fn108:Tryz.prog.funcs[108]?=some Tryz.f108:=by kernel_rfl
theorem fa53_0:fieldAt? Tryz.prog 53 0=some 0:=by kernel_rfl
theorem sz4:sizeOf? Tryz.prog 4=some 1:=by kernel_rfl
theorem ag4:isAgg? Tryz.prog 4=some false:=by kernel_rfl
theorem fa53_1:fieldAt? Tryz.prog 53 1=some 1:=by kernel_rfl
theorem ze49:zero? Tryz.prog 49=some [.val (.int .u64 0),.val (.slice none 0 0)]:=by kernel_rfl
theorem pl49:placesOf Tryz.prog 49=some [(0,1),(1,1)]:=by kernel_rfl
theorem sz49:sizeOf? Tryz.prog 49=some 2:=by kernel_rfl
theorem fa49_0:fieldAt? Tryz.prog 49 0=some 0:=by kernel_rfl
theorem sz46:sizeOf? Tryz.prog 46=some 1:=by kernel_rfl
theorem ag46:isAgg? Tryz.prog 46=some false:=by kernel_rfl
theorem fn148:Tryz.prog.funcs[148]?=some Tryz.f148:=by kernel_rfl
theorem go148:isGo Tryz.prog 148=true:=by kernel_rfl
theorem fn152:Tryz.prog.funcs[152]?=some Tryz.f152:=by kernel_rfl
theorem go152:isGo Tryz.prog 152=true:=by kernel_rfl
theorem fn149:Tryz.prog.funcs[149]?=some Tryz.f149:=by kernel_rfl
theorem go149:isGo Tryz.prog 149=true:=by kernel_rfl
theorem ag49:isAgg? Tryz.prog 49=some true:=by kernel_rfl
theorem un3:Tryz.prog.underlying 3=some (.int .i64):=by kernel_rfl
theorem un220:Tryz.prog.underlying 220=some (.int .u64):=by kernel_rfl
theorem fn168:Tryz.prog.funcs[168]?=some Tryz.f168:=by kernel_rfl
theorem go168:isGo Tryz.prog 168=true:=by kernel_rfl
theorem ze46:zero? Tryz.prog 46=some [.val (.int .u64 0)]:=by kernel_rfl
theorem fn189:Tryz.prog.funcs[189]?=some Tryz.f189:=by kernel_rfl
theorem go189:isGo Tryz.prog 189=true:=by kernel_rfl
theorem fn180:Tryz.prog.funcs[180]?=some Tryz.f180:=by kernel_rfl
theorem fn181:Tryz.prog.funcs[181]?=some Tryz.f181:=by kernel_rfl
theorem go181:isGo Tryz.prog 181=true:=by kernel_rfl
theorem go180:isGo Tryz.prog 180=true:=by kernel_rfl
theorem fn172:Tryz.prog.funcs[172]?=some Tryz.f172:=by kernel_rfl
theorem go172:isGo Tryz.prog 172=true:=by kernel_rfl
theorem fn154:Tryz.prog.funcs[154]?=some Tryz.f154:=by kernel_rfl
theorem go154:isGo Tryz.prog 154=true:=by kernel_rfl
theorem fn182:Tryz.prog.funcs[182]?=some Tryz.f182:=by kernel_rfl
theorem go182:isGo Tryz.prog 182=true:=by kernel_rfl
theorem fn173:Tryz.prog.funcs[173]?=some Tryz.f173:=by kernel_rfl
theorem go173:isGo Tryz.prog 173=true:=by kernel_rfl
theorem fn150:Tryz.prog.funcs[150]?=some Tryz.f150:=by kernel_rfl
theorem go150:isGo Tryz.prog 150=true:=by kernel_rfl
theorem fn169:Tryz.prog.funcs[169]?=some Tryz.f169:=by kernel_rfl
theorem go169:isGo Tryz.prog 169=true:=by kernel_rfl
theorem sz97:sizeOf? Tryz.prog 97=some 3:=by kernel_rfl
theorem ag97:isAgg? Tryz.prog 97=some true:=by kernel_rfl
theorem ze97:zero? Tryz.prog 97=some [.val (.int .u64 0),.val (.int .i64 0),.val (.int .i64 0)]:=by kernel_rfl
theorem fa97_0:fieldAt? Tryz.prog 97 0=some 0:=by kernel_rfl
theorem fn183:Tryz.prog.funcs[183]?=some Tryz.f183:=by kernel_rfl
theorem go183:isGo Tryz.prog 183=true:=by kernel_rfl
theorem fa97_1:fieldAt? Tryz.prog 97 1=some 1:=by kernel_rfl
theorem sz95:sizeOf? Tryz.prog 95=some 1:=by kernel_rfl
theorem ag95:isAgg? Tryz.prog 95=some false:=by kernel_rfl
theorem fa97_2:fieldAt? Tryz.prog 97 2=some 2:=by kernel_rfl
theorem sz2:sizeOf? Tryz.prog 2=some 1:=by kernel_rfl
theorem ag2:isAgg? Tryz.prog 2=some false:=by kernel_rfl
theorem pl97:placesOf Tryz.prog 97=some [(0,1),(1,1),(2,1)]:=by kernel_rfl
theorem ek97:eqKinds Tryz.prog 97=some [(0,.int .u64),(1,.int .i64),(2,.int .i64)]:=by kernel_rfl
theorem fn174:Tryz.prog.funcs[174]?=some Tryz.f174:=by kernel_rfl
theorem go174:isGo Tryz.prog 174=true:=by kernel_rfl
theorem fn151:Tryz.prog.funcs[151]?=some Tryz.f151:=by kernel_rfl
theorem go151:isGo Tryz.prog 151=true:=by kernel_rfl
theorem go110:isGo Tryz.prog 110=true:=by kernel_rfl
theorem fn110:Tryz.prog.funcs[110]?=some Tryz.f110:=by kernel_rfl
theorem fn109:Tryz.prog.funcs[109]?=some Tryz.f109:=by kernel_rfl
theorem go109:isGo Tryz.prog 109=true:=by kernel_rfl
theorem go108:isGo Tryz.prog 108=true:=by kernel_rfl
theorem fn69:Tryz.prog.funcs[69]?=some Tryz.f69:=by kernel_rfl
theorem go69:isGo Tryz.prog 69=true:=by kernel_rfl
theorem fn102:Tryz.prog.funcs[102]?=some Tryz.f102:=by kernel_rfl
theorem go102:isGo Tryz.prog 102=true:=by kernel_rfl
theorem fn61:Tryz.prog.funcs[61]?=some Tryz.f61:=by kernel_rfl
theorem go61:isGo Tryz.prog 61=true:=by kernel_rfl
theorem fa36_0:fieldAt? Tryz.prog 36 0=some 0:=by kernel_rfl
theorem fn31:Tryz.prog.funcs[31]?=some Tryz.f31:=by kernel_rfl
theorem go31:isGo Tryz.prog 31=true:=by kernel_rfl
theorem ze81:zero? Tryz.prog 81=some [.val (.slice none 0 0),.val (.int .i64 0),.val (.slice none 0 0)]:=by kernel_rfl
theorem pl81:placesOf Tryz.prog 81=some [(0,1),(1,2)]:=by kernel_rfl
theorem un82:Tryz.prog.underlying 82=some (.slice 81):=by kernel_rfl
theorem sz81:sizeOf? Tryz.prog 81=some 3:=by kernel_rfl
theorem in81:((Tryz.prog.info? 81).map fun i=>(i.size,i.bytes,i.zero.map (·.cells.size)))=some (3,56,some 3):=by kernel_rfl
theorem sl82:SlT Tryz.prog 82 3 56 TRun.cells:=SlT.of2 un82 in81 (by decide) (by decide) TRun.cells_ok
theorem ag81:isAgg? Tryz.prog 81=some true:=by kernel_rfl
theorem fa81_1:fieldAt? Tryz.prog 81 1=some 1:=by kernel_rfl
theorem fn32:Tryz.prog.funcs[32]?=some Tryz.f32:=by kernel_rfl
theorem go32:isGo Tryz.prog 32=true:=by kernel_rfl
theorem fa81_0:fieldAt? Tryz.prog 81 0=some 0:=by kernel_rfl
theorem un40:Tryz.prog.underlying 40=some (.slice 29):=by kernel_rfl
theorem ze29:zero? Tryz.prog 29=some [.val (.slice none 0 0)]:=by kernel_rfl
theorem in29:((Tryz.prog.info? 29).map fun i=>(i.size,i.bytes,i.zero.map (·.cells.size)))=some (1,24,some 1):=by kernel_rfl
theorem sl40:SlT Tryz.prog 40 1 24 (cSl (cInt .i64)):=SlT.of2 un40 in29 (by decide) (by decide) (fun _=>⟨q,q,q⟩)
theorem fn62:Tryz.prog.funcs[62]?=some Tryz.f62:=by kernel_rfl
theorem go140:isGo Tryz.prog 140=true:=by kernel_rfl
theorem fn103:Tryz.prog.funcs[103]?=some Tryz.f103:=by kernel_rfl
theorem go103:isGo Tryz.prog 103=true:=by kernel_rfl
theorem fn63:Tryz.prog.funcs[63]?=some Tryz.f63:=by kernel_rfl
theorem go63:isGo Tryz.prog 63=true:=by kernel_rfl
theorem go62:isGo Tryz.prog 62=true:=by kernel_rfl
theorem fn33:Tryz.prog.funcs[33]?=some Tryz.f33:=by kernel_rfl
theorem go33:isGo Tryz.prog 33=true:=by kernel_rfl
theorem fn34:Tryz.prog.funcs[34]?=some Tryz.f34:=by kernel_rfl
theorem go34:isGo Tryz.prog 34=true:=by kernel_rfl
theorem fn11:Tryz.prog.funcs[11]?=some Tryz.f11:=by kernel_rfl
theorem go11:isGo Tryz.prog 11=true:=by kernel_rfl
theorem go66:isGo Tryz.prog 66=true:=by kernel_rfl
theorem fn66:Tryz.prog.funcs[66]?=some Tryz.f66:=by kernel_rfl
theorem fn36:Tryz.prog.funcs[36]?=some Tryz.f36:=by kernel_rfl
theorem go36:isGo Tryz.prog 36=true:=by kernel_rfl
theorem fn142:Tryz.prog.funcs[142]?=some Tryz.f142:=by kernel_rfl
theorem go142:isGo Tryz.prog 142=true:=by kernel_rfl
theorem fn170:Tryz.prog.funcs[170]?=some Tryz.f170:=by kernel_rfl
theorem go170:isGo Tryz.prog 170=true:=by kernel_rfl
theorem fn143:Tryz.prog.funcs[143]?=some Tryz.f143:=by kernel_rfl
theorem go143:isGo Tryz.prog 143=true:=by kernel_rfl
theorem go106:isGo Tryz.prog 106=true:=by kernel_rfl
theorem fn106:Tryz.prog.funcs[106]?=some Tryz.f106:=by kernel_rfl
theorem fn67:Tryz.prog.funcs[67]?=some Tryz.f67:=by kernel_rfl
theorem go67:isGo Tryz.prog 67=true:=by kernel_rfl
theorem fn144:Tryz.prog.funcs[144]?=some Tryz.f144:=by kernel_rfl
theorem go144:isGo Tryz.prog 144=true:=by kernel_rfl
theorem un223:Tryz.prog.underlying 223=some (.slice 49):=by kernel_rfl
theorem in49:((Tryz.prog.info? 49).map fun i=>(i.size,i.bytes,i.zero.map (·.cells.size)))=some (2,32,some 2):=by kernel_rfl
theorem sl223:SlT Tryz.prog 223 2 32 TFacts.cells:=SlT.of2 un223 in49 (by decide) (by decide) TFacts.cells_ok
theorem fn153:Tryz.prog.funcs[153]?=some Tryz.f153:=by kernel_rfl
theorem go153:isGo Tryz.prog 153=true:=by kernel_rfl
theorem go171:isGo Tryz.prog 171=true:=by kernel_rfl
theorem fn145:Tryz.prog.funcs[145]?=some Tryz.f145:=by kernel_rfl
theorem go145:isGo Tryz.prog 145=true:=by kernel_rfl
theorem fn155:Tryz.prog.funcs[155]?=some Tryz.f155:=by kernel_rfl
theorem go155:isGo Tryz.prog 155=true:=by kernel_rfl
theorem fn156:Tryz.prog.funcs[156]?=some Tryz.f156:=by kernel_rfl
theorem go156:isGo Tryz.prog 156=true:=by kernel_rfl
theorem fn146:Tryz.prog.funcs[146]?=some Tryz.f146:=by kernel_rfl
theorem go146:isGo Tryz.prog 146=true:=by kernel_rfl
theorem go107:isGo Tryz.prog 107=true:=by kernel_rfl
theorem fn107:Tryz.prog.funcs[107]?=some Tryz.f107:=by kernel_rfl
theorem fn114:Tryz.prog.funcs[114]?=some Tryz.f114:=by kernel_rfl
theorem go114:isGo Tryz.prog 114=true:=by kernel_rfl
theorem fn115:Tryz.prog.funcs[115]?=some Tryz.f115:=by kernel_rfl
theorem go115:isGo Tryz.prog 115=true:=by kernel_rfl
theorem fn116:Tryz.prog.funcs[116]?=some Tryz.f116:=by kernel_rfl
theorem go116:isGo Tryz.prog 116=true:=by kernel_rfl
theorem go71:isGo Tryz.prog 71=true:=by kernel_rfl
theorem fn71:Tryz.prog.funcs[71]?=some Tryz.f71:=by kernel_rfl
theorem fn68:Tryz.prog.funcs[68]?=some Tryz.f68:=by kernel_rfl
theorem go68:isGo Tryz.prog 68=true:=by kernel_rfl
theorem fn37:Tryz.prog.funcs[37]?=some Tryz.f37:=by kernel_rfl
theorem go37:isGo Tryz.prog 37=true:=by kernel_rfl
theorem fn111:Tryz.prog.funcs[111]?=some Tryz.f111:=by kernel_rfl
theorem go111:isGo Tryz.prog 111=true:=by kernel_rfl
theorem fn112:Tryz.prog.funcs[112]?=some Tryz.f112:=by kernel_rfl
theorem go112:isGo Tryz.prog 112=true:=by kernel_rfl
theorem fn113:Tryz.prog.funcs[113]?=some Tryz.f113:=by kernel_rfl
theorem go113:isGo Tryz.prog 113=true:=by kernel_rfl
theorem go70:isGo Tryz.prog 70=true:=by kernel_rfl
theorem fn70:Tryz.prog.funcs[70]?=some Tryz.f70:=by kernel_rfl
theorem fn38:Tryz.prog.funcs[38]?=some Tryz.f38:=by kernel_rfl
theorem go38:isGo Tryz.prog 38=true:=by kernel_rfl
theorem fn13:Tryz.prog.funcs[13]?=some Tryz.f13:=by kernel_rfl
theorem go13:isGo Tryz.prog 13=true:=by kernel_rfl
theorem fn9:Tryz.prog.funcs[9]?=some Tryz.f9:=by kernel_rfl
theorem go9:isGo Tryz.prog 9=true:=by kernel_rfl
theorem fn10:Tryz.prog.funcs[10]?=some Tryz.f10:=by kernel_rfl
theorem go10:isGo Tryz.prog 10=true:=by kernel_rfl
theorem go41:isGo Tryz.prog 41=true:=by kernel_rfl
theorem fn41:Tryz.prog.funcs[41]?=some Tryz.f41:=by kernel_rfl
theorem fn118:Tryz.prog.funcs[118]?=some Tryz.f118:=by kernel_rfl
theorem go118:isGo Tryz.prog 118=true:=by kernel_rfl
theorem fn75:Tryz.prog.funcs[75]?=some Tryz.f75:=by kernel_rfl
theorem go75:isGo Tryz.prog 75=true:=by kernel_rfl
theorem fn91:Tryz.prog.funcs[91]?=some Tryz.f91:=by kernel_rfl
theorem go91:isGo Tryz.prog 91=true:=by kernel_rfl
theorem fn117:Tryz.prog.funcs[117]?=some Tryz.f117:=by kernel_rfl
theorem go117:isGo Tryz.prog 117=true:=by kernel_rfl
theorem fn74:Tryz.prog.funcs[74]?=some Tryz.f74:=by kernel_rfl
theorem go74:isGo Tryz.prog 74=true:=by kernel_rfl
theorem fn166:Tryz.prog.funcs[166]?=some Tryz.f166:=by kernel_rfl
theorem go166:isGo Tryz.prog 166=true:=by kernel_rfl
theorem fn135:Tryz.prog.funcs[135]?=some Tryz.f135:=by kernel_rfl
theorem go135:isGo Tryz.prog 135=true:=by kernel_rfl
theorem fn134:Tryz.prog.funcs[134]?=some Tryz.f134:=by kernel_rfl
theorem go134:isGo Tryz.prog 134=true:=by kernel_rfl
theorem fn96:Tryz.prog.funcs[96]?=some Tryz.f96:=by kernel_rfl
theorem go96:isGo Tryz.prog 96=true:=by kernel_rfl
theorem fn40:Tryz.prog.funcs[40]?=some Tryz.f40:=by kernel_rfl
theorem go40:isGo Tryz.prog 40=true:=by kernel_rfl
theorem fn92:Tryz.prog.funcs[92]?=some Tryz.f92:=by kernel_rfl
theorem go92:isGo Tryz.prog 92=true:=by kernel_rfl
theorem fn93:Tryz.prog.funcs[93]?=some Tryz.f93:=by kernel_rfl
theorem go93:isGo Tryz.prog 93=true:=by kernel_rfl
theorem go54:isGo Tryz.prog 54=true:=by kernel_rfl
theorem fn54:Tryz.prog.funcs[54]?=some Tryz.f54:=by kernel_rfl
theorem fn25:Tryz.prog.funcs[25]?=some Tryz.f25:=by kernel_rfl
theorem go25:isGo Tryz.prog 25=true:=by kernel_rfl
theorem fn43:Tryz.prog.funcs[43]?=some Tryz.f43:=by kernel_rfl
theorem go43:isGo Tryz.prog 43=true:=by kernel_rfl
theorem fn17:Tryz.prog.funcs[17]?=some Tryz.f17:=by kernel_rfl
theorem go17:isGo Tryz.prog 17=true:=by kernel_rfl
theorem fn73:Tryz.prog.funcs[73]?=some Tryz.f73:=by kernel_rfl
theorem go73:isGo Tryz.prog 73=true:=by kernel_rfl
theorem go42:isGo Tryz.prog 42=true:=by kernel_rfl
theorem fn42:Tryz.prog.funcs[42]?=some Tryz.f42:=by kernel_rfl
theorem fn16:Tryz.prog.funcs[16]?=some Tryz.f16:=by kernel_rfl
theorem go16:isGo Tryz.prog 16=true:=by kernel_rfl
theorem ze89:zero? Tryz.prog 89=some [.val (.slice none 0 0),.val (.int .i64 0),.val (.slice none 0 0),.val (.bool false),.val (.int .i64 0),.val (.int .u64 0),.val (.slice none 0 0),.val (.slice none 0 0),.val (.slice none 0 0)]:=by kernel_rfl
theorem pl89:placesOf Tryz.prog 89=some [(0,1),(1,2),(3,6)]:=by kernel_rfl
theorem un85:Tryz.prog.underlying 85=some (.slice 89):=by kernel_rfl
theorem sz89:sizeOf? Tryz.prog 89=some 9:=by kernel_rfl
theorem in89:((Tryz.prog.info? 89).map fun i=>(i.size,i.bytes,i.zero.map (·.cells.size)))=some (9,152,some 9):=by kernel_rfl
theorem sl85:SlT Tryz.prog 85 9 152 TRun_88.cells:=SlT.of2 un85 in89 (by decide) (by decide) TRun_88.cells_ok
theorem fa89_0:fieldAt? Tryz.prog 89 0=some 0:=by kernel_rfl
theorem fa89_1:fieldAt? Tryz.prog 89 1=some 1:=by kernel_rfl
theorem fn59:Tryz.prog.funcs[59]?=some Tryz.f59:=by kernel_rfl
theorem go59:isGo Tryz.prog 59=true:=by kernel_rfl
theorem fn52:Tryz.prog.funcs[52]?=some Tryz.f52:=by kernel_rfl
theorem go52:isGo Tryz.prog 52=true:=by kernel_rfl
theorem fn60:Tryz.prog.funcs[60]?=some Tryz.f60:=by kernel_rfl
theorem go60:isGo Tryz.prog 60=true:=by kernel_rfl
theorem fn53:Tryz.prog.funcs[53]?=some Tryz.f53:=by kernel_rfl
theorem go53:isGo Tryz.prog 53=true:=by kernel_rfl
theorem fn28:Tryz.prog.funcs[28]?=some Tryz.f28:=by kernel_rfl
theorem go28:isGo Tryz.prog 28=true:=by kernel_rfl
theorem fa89_2:fieldAt? Tryz.prog 89 2=some 3:=by kernel_rfl
theorem fn94:Tryz.prog.funcs[94]?=some Tryz.f94:=by kernel_rfl
theorem go94:isGo Tryz.prog 94=true:=by kernel_rfl
theorem fn98:Tryz.prog.funcs[98]?=some Tryz.f98:=by kernel_rfl
theorem go98:isGo Tryz.prog 98=true:=by kernel_rfl
theorem fn95:Tryz.prog.funcs[95]?=some Tryz.f95:=by kernel_rfl
theorem go95:isGo Tryz.prog 95=true:=by kernel_rfl
theorem fn97:Tryz.prog.funcs[97]?=some Tryz.f97:=by kernel_rfl
theorem go97:isGo Tryz.prog 97=true:=by kernel_rfl
theorem fn57:Tryz.prog.funcs[57]?=some Tryz.f57:=by kernel_rfl
theorem go57:isGo Tryz.prog 57=true:=by kernel_rfl
theorem fn56:Tryz.prog.funcs[56]?=some Tryz.f56:=by kernel_rfl
theorem go56:isGo Tryz.prog 56=true:=by kernel_rfl
theorem fn58:Tryz.prog.funcs[58]?=some Tryz.f58:=by kernel_rfl
theorem go58:isGo Tryz.prog 58=true:=by kernel_rfl
theorem go27:isGo Tryz.prog 27=true:=by kernel_rfl
theorem fn27:Tryz.prog.funcs[27]?=some Tryz.f27:=by kernel_rfl
theorem fn64:Tryz.prog.funcs[64]?=some Tryz.f64:=by kernel_rfl
theorem go64:isGo Tryz.prog 64=true:=by kernel_rfl
theorem ag89:isAgg? Tryz.prog 89=some true:=by kernel_rfl
theorem fn35:Tryz.prog.funcs[35]?=some Tryz.f35:=by kernel_rfl
theorem go35:isGo Tryz.prog 35=true:=by kernel_rfl
theorem fn12:Tryz.prog.funcs[12]?=some Tryz.f12:=by kernel_rfl
theorem go12:isGo Tryz.prog 12=true:=by kernel_rfl
theorem go72:isGo Tryz.prog 72=true:=by kernel_rfl
theorem fn72:Tryz.prog.funcs[72]?=some Tryz.f72:=by kernel_rfl
theorem fn39:Tryz.prog.funcs[39]?=some Tryz.f39:=by kernel_rfl
theorem go39:isGo Tryz.prog 39=true:=by kernel_rfl
theorem fn55:Tryz.prog.funcs[55]?=some Tryz.f55:=by kernel_rfl
theorem go55:isGo Tryz.prog 55=true:=by kernel_rfl
theorem go26:isGo Tryz.prog 26=true:=by kernel_rfl
theorem fn26:Tryz.prog.funcs[26]?=some Tryz.f26:=by kernel_rfl
theorem fn14:Tryz.prog.funcs[14]?=some Tryz.f14:=by kernel_rfl
theorem go14:isGo Tryz.prog 14=true:=by kernel_rfl
theorem un4:Tryz.prog.underlying 4=some (.bool):=by kernel_rfl
theorem go15:isGo Tryz.prog 15=true:=by kernel_rfl
theorem fn15:Tryz.prog.funcs[15]?=some Tryz.f15:=by kernel_rfl
theorem fn3:Tryz.prog.funcs[3]?=some Tryz.f3:=by kernel_rfl
end Go.RM.Tryz
