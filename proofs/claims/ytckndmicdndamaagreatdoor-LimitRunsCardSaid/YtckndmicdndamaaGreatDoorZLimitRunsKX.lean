/- KX, for the statement LimitRuns: what it needs, no more. -/
import Derived.Test.YtckndmicdndamaaGreatDoorZLimitRunsGA
import Derived.Test.YtckndmicdndamaaGreatDoorProg
namespace Go.RM.Tryz
open Go.RM Go.Proofs
set_option linter.unusedVariables false
def makesI (g:Int) (rows:List Int) (s:Int):Int:=((List.range 64).filter fun i=>s.toNat.testBit i).foldl (fun o i=>bitOp .or .u64 o (rows.getD i 0)) g
def U64 (x:Int):Prop:=0≤x∧x < 18446744073709551616
def MakesOk (g:Int) (rows:List Int) (s:Int):Prop:=U64 g∧U64 s∧(∀ r ∈ rows,U64 r)∧∀ i,i < 64→s.toNat.testBit i=true→i < rows.length
inductive X:FuncId→List PV→Heap→PV→Heap→Prop where
 | makes (g:Int) (rows:List Int) (s:Int) (H:Heap) (h:MakesOk g rows s):X 171 [.agg [.val (.int .u64 g),.rows (rows.map (cInt .u64))],.val (.int .u64 s)] H (.val (.int .u64 (makesI g rows s))) H
 | grow (n:Int) (h0:0≤n) (h1:n * 8≤140737488355328):X 140 [.val (.slice none 0 0),.val (.int .i64 n)] [] (.own 0 0) [⟨1,[],0,none⟩]
theorem x_makes {g:Int} {rows:List Int} {s r:Int} (h:MakesOk g rows s∧r=makesI g rows s):X 171 [.agg [.val (.int .u64 g),.rows (rows.map (cInt .u64))],.val (.int .u64 s)] [] (.val (.int .u64 r)) []:=by
 rw [h.2]; exact .makes g rows s [] h.1
theorem x_grow {n:Int} {r:List Int} (h:(0≤n∧Fits n 8)∧r=[]):X 140 [.val (.slice none 0 0),.val (.int .i64 n)] [] (.own 0 r.length) [⟨1,r.map (cInt .i64),0,none⟩]:=by
 obtain ⟨⟨h0,h1⟩,rfl⟩:=h
 exact .grow n h0 h1
end Go.RM.Tryz
