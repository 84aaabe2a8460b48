/- Written by program: the data of the functions,and the functions as plain Lean. -/
import Derived.Test.YtcokdbcdlaofbaaGreatQ7
set_option linter.unusedSimpArgs false
set_option linter.unusedVariables false
set_option linter.unusedSectionVars false
namespace Go.Ai.Sx
abbrev Train:Type:=Int × Int × Int × Int × Int × Int × Int × Int × Int × (List Int) × Unit
abbrev MotionState:Type:=Int × Int × Unit
abbrev zx:Type:=Train × Int × Unit
abbrev MotionLedger:Type:=Int × Int × Int × Int × Int × Int × Unit
abbrev za4:Type:=MotionState × MotionLedger × Int × Int × Unit
abbrev Spot:Type:=Int × Int × Unit
abbrev RailEnd:Type:=Int × Bool × Unit
abbrev ANode:Type:=Spot × Int × (List RailEnd) × Int × Unit
abbrev Rail:Type:=Int × Int × (List Spot) × Int × Int × Unit
abbrev Plan:Type:=(List ANode) × (List Rail) × Unit
abbrev zn2:Type:=Plan × (List Int) × (List (RailEnd × Int)) × Unit
abbrev zf14:Type:=Plan × Unit × AVal × Unit
abbrev AMove:Type:=Int × Bool × Unit
abbrev zk1:Type:=ANode × Unit
abbrev zz1:Type:=zx × (List AMove) × (List Int) × (List Int) × (List Int) × (List Int) × Unit
abbrev zb17:Type:=zx × (List AMove) × Unit × Unit × Unit × (List Int) × Unit
abbrev Leg:Type:=Int × Int × MotionLedger × Int × Int × Unit
abbrev zi1:Type:=Plan × (List AMove) × Train × Int × Int × Unit
abbrev Cover:Type:=Int × Int × Int × Unit
abbrev rTrain:Rep Train:=(rPair (rInt .i64) (rPair (rInt .i64) (rPair (rInt .i64) (rPair (rInt .i64) (rPair (rInt .i64) (rPair (rInt .i64) (rPair (rInt .i64) (rPair (rInt .i64) (rPair (rInt .i64) (rPair (rSlice (rInt .i64)) rUnit))))))))))
theorem zr26:FOk rTrain 0 (rInt .i64) (fun x=>x.1) (fun x y=>(y,x.2.1,x.2.2.1,x.2.2.2.1,x.2.2.2.2.1,x.2.2.2.2.2.1,x.2.2.2.2.2.2.1,x.2.2.2.2.2.2.2.1,x.2.2.2.2.2.2.2.2.1,x.2.2.2.2.2.2.2.2.2.1,())):=FOk.off FOk.here rfl
theorem zs26:FOk rTrain 1 (rInt .i64) (fun x=>x.2.1) (fun x y=>(x.1,y,x.2.2.1,x.2.2.2.1,x.2.2.2.2.1,x.2.2.2.2.2.1,x.2.2.2.2.2.2.1,x.2.2.2.2.2.2.2.1,x.2.2.2.2.2.2.2.2.1,x.2.2.2.2.2.2.2.2.2.1,())):=FOk.off (FOk.there FOk.here) rfl
theorem zt26:FOk rTrain 2 (rInt .i64) (fun x=>x.2.2.1) (fun x y=>(x.1,x.2.1,y,x.2.2.2.1,x.2.2.2.2.1,x.2.2.2.2.2.1,x.2.2.2.2.2.2.1,x.2.2.2.2.2.2.2.1,x.2.2.2.2.2.2.2.2.1,x.2.2.2.2.2.2.2.2.2.1,())):=FOk.off (FOk.there (FOk.there FOk.here)) rfl
theorem zu26:FOk rTrain 3 (rInt .i64) (fun x=>x.2.2.2.1) (fun x y=>(x.1,x.2.1,x.2.2.1,y,x.2.2.2.2.1,x.2.2.2.2.2.1,x.2.2.2.2.2.2.1,x.2.2.2.2.2.2.2.1,x.2.2.2.2.2.2.2.2.1,x.2.2.2.2.2.2.2.2.2.1,())):=FOk.off (FOk.there (FOk.there (FOk.there FOk.here))) rfl
theorem zv26:FOk rTrain 4 (rInt .i64) (fun x=>x.2.2.2.2.1) (fun x y=>(x.1,x.2.1,x.2.2.1,x.2.2.2.1,y,x.2.2.2.2.2.1,x.2.2.2.2.2.2.1,x.2.2.2.2.2.2.2.1,x.2.2.2.2.2.2.2.2.1,x.2.2.2.2.2.2.2.2.2.1,())):=FOk.off (FOk.there (FOk.there (FOk.there (FOk.there FOk.here)))) rfl
theorem zw26:FOk rTrain 5 (rInt .i64) (fun x=>x.2.2.2.2.2.1) (fun x y=>(x.1,x.2.1,x.2.2.1,x.2.2.2.1,x.2.2.2.2.1,y,x.2.2.2.2.2.2.1,x.2.2.2.2.2.2.2.1,x.2.2.2.2.2.2.2.2.1,x.2.2.2.2.2.2.2.2.2.1,())):=FOk.off (FOk.there (FOk.there (FOk.there (FOk.there (FOk.there FOk.here))))) rfl
theorem zx26:FOk rTrain 6 (rInt .i64) (fun x=>x.2.2.2.2.2.2.1) (fun x y=>(x.1,x.2.1,x.2.2.1,x.2.2.2.1,x.2.2.2.2.1,x.2.2.2.2.2.1,y,x.2.2.2.2.2.2.2.1,x.2.2.2.2.2.2.2.2.1,x.2.2.2.2.2.2.2.2.2.1,())):=FOk.off (FOk.there (FOk.there (FOk.there (FOk.there (FOk.there (FOk.there FOk.here)))))) rfl
theorem zy26:FOk rTrain 7 (rInt .i64) (fun x=>x.2.2.2.2.2.2.2.1) (fun x y=>(x.1,x.2.1,x.2.2.1,x.2.2.2.1,x.2.2.2.2.1,x.2.2.2.2.2.1,x.2.2.2.2.2.2.1,y,x.2.2.2.2.2.2.2.2.1,x.2.2.2.2.2.2.2.2.2.1,())):=FOk.off (FOk.there (FOk.there (FOk.there (FOk.there (FOk.there (FOk.there (FOk.there FOk.here))))))) rfl
theorem zz26:FOk rTrain 8 (rInt .i64) (fun x=>x.2.2.2.2.2.2.2.2.1) (fun x y=>(x.1,x.2.1,x.2.2.1,x.2.2.2.1,x.2.2.2.2.1,x.2.2.2.2.2.1,x.2.2.2.2.2.2.1,x.2.2.2.2.2.2.2.1,y,x.2.2.2.2.2.2.2.2.2.1,())):=FOk.off (FOk.there (FOk.there (FOk.there (FOk.there (FOk.there (FOk.there (FOk.there (FOk.there FOk.here)))))))) rfl
theorem za27:FOk rTrain 9 (rSlice (rInt .i64)) (fun x=>x.2.2.2.2.2.2.2.2.2.1) (fun x y=>(x.1,x.2.1,x.2.2.1,x.2.2.2.1,x.2.2.2.2.1,x.2.2.2.2.2.1,x.2.2.2.2.2.2.1,x.2.2.2.2.2.2.2.1,x.2.2.2.2.2.2.2.2.1,y,())):=FOk.off (FOk.there (FOk.there (FOk.there (FOk.there (FOk.there (FOk.there (FOk.there (FOk.there (FOk.there FOk.here))))))))) rfl
abbrev rMotionState:Rep MotionState:=(rPair (rInt .i64) (rPair (rInt .i64) rUnit))
theorem zg14:FOk rMotionState 0 (rInt .i64) (fun x=>x.1) (fun x y=>(y,x.2.1,())):=FOk.off FOk.here rfl
theorem zh14:FOk rMotionState 1 (rInt .i64) (fun x=>x.2.1) (fun x y=>(x.1,y,())):=FOk.off (FOk.there FOk.here) rfl
abbrev zi:Rep zx:=(rPair rTrain (rPair (rInt .i64) rUnit))
theorem zf13:FOk zi 0 rTrain (fun x=>x.1) (fun x y=>(y,x.2.1,())):=FOk.off FOk.here rfl
theorem zg13:FOk zi 10 (rInt .i64) (fun x=>x.2.1) (fun x y=>(x.1,y,())):=FOk.off (FOk.there FOk.here) rfl
abbrev rMotionLedger:Rep MotionLedger:=(rPair (rInt .i64) (rPair (rInt .i64) (rPair (rInt .i64) (rPair (rInt .i64) (rPair (rInt .i64) (rPair (rInt .i64) rUnit))))))
theorem zh13:FOk rMotionLedger 0 (rInt .i64) (fun x=>x.1) (fun x y=>(y,x.2.1,x.2.2.1,x.2.2.2.1,x.2.2.2.2.1,x.2.2.2.2.2.1,())):=FOk.off FOk.here rfl
theorem zi13:FOk rMotionLedger 1 (rInt .i64) (fun x=>x.2.1) (fun x y=>(x.1,y,x.2.2.1,x.2.2.2.1,x.2.2.2.2.1,x.2.2.2.2.2.1,())):=FOk.off (FOk.there FOk.here) rfl
theorem zj13:FOk rMotionLedger 2 (rInt .i64) (fun x=>x.2.2.1) (fun x y=>(x.1,x.2.1,y,x.2.2.2.1,x.2.2.2.2.1,x.2.2.2.2.2.1,())):=FOk.off (FOk.there (FOk.there FOk.here)) rfl
theorem zk13:FOk rMotionLedger 3 (rInt .i64) (fun x=>x.2.2.2.1) (fun x y=>(x.1,x.2.1,x.2.2.1,y,x.2.2.2.2.1,x.2.2.2.2.2.1,())):=FOk.off (FOk.there (FOk.there (FOk.there FOk.here))) rfl
theorem zl13:FOk rMotionLedger 4 (rInt .i64) (fun x=>x.2.2.2.2.1) (fun x y=>(x.1,x.2.1,x.2.2.1,x.2.2.2.1,y,x.2.2.2.2.2.1,())):=FOk.off (FOk.there (FOk.there (FOk.there (FOk.there FOk.here)))) rfl
theorem zm13:FOk rMotionLedger 5 (rInt .i64) (fun x=>x.2.2.2.2.2.1) (fun x y=>(x.1,x.2.1,x.2.2.1,x.2.2.2.1,x.2.2.2.2.1,y,())):=FOk.off (FOk.there (FOk.there (FOk.there (FOk.there (FOk.there FOk.here))))) rfl
abbrev zt:Rep za4:=(rPair rMotionState (rPair rMotionLedger (rPair (rInt .i64) (rPair (rInt .i64) rUnit))))
theorem zl11:FOk zt 0 rMotionState (fun x=>x.1) (fun x y=>(y,x.2.1,x.2.2.1,x.2.2.2.1,())):=FOk.off FOk.here rfl
theorem zm11:FOk zt 2 rMotionLedger (fun x=>x.2.1) (fun x y=>(x.1,y,x.2.2.1,x.2.2.2.1,())):=FOk.off (FOk.there FOk.here) rfl
theorem zn11:FOk zt 8 (rInt .i64) (fun x=>x.2.2.1) (fun x y=>(x.1,x.2.1,y,x.2.2.2.1,())):=FOk.off (FOk.there (FOk.there FOk.here)) rfl
theorem zo11:FOk zt 9 (rInt .i64) (fun x=>x.2.2.2.1) (fun x y=>(x.1,x.2.1,x.2.2.1,y,())):=FOk.off (FOk.there (FOk.there (FOk.there FOk.here))) rfl
abbrev rSpot:Rep Spot:=(rPair (rInt .i64) (rPair (rInt .i64) rUnit))
theorem zx29:FOk rSpot 0 (rInt .i64) (fun x=>x.1) (fun x y=>(y,x.2.1,())):=FOk.off FOk.here rfl
theorem zy29:FOk rSpot 1 (rInt .i64) (fun x=>x.2.1) (fun x y=>(x.1,y,())):=FOk.off (FOk.there FOk.here) rfl
abbrev rRailEnd:Rep RailEnd:=(rPair (rInt .i64) (rPair rBool rUnit))
theorem zl21:FOk rRailEnd 0 (rInt .i64) (fun x=>x.1) (fun x y=>(y,x.2.1,())):=FOk.off FOk.here rfl
theorem zm21:FOk rRailEnd 1 rBool (fun x=>x.2.1) (fun x y=>(x.1,y,())):=FOk.off (FOk.there FOk.here) rfl
abbrev rANode:Rep ANode:=(rPair rSpot (rPair (rInt .i64) (rPair (rSlice rRailEnd) (rPair (rInt .i64) rUnit))))
theorem zb27:FOk rANode 0 rSpot (fun x=>x.1) (fun x y=>(y,x.2.1,x.2.2.1,x.2.2.2.1,())):=FOk.off FOk.here rfl
theorem zc27:FOk rANode 2 (rInt .i64) (fun x=>x.2.1) (fun x y=>(x.1,y,x.2.2.1,x.2.2.2.1,())):=FOk.off (FOk.there FOk.here) rfl
theorem zd27:FOk rANode 3 (rSlice rRailEnd) (fun x=>x.2.2.1) (fun x y=>(x.1,x.2.1,y,x.2.2.2.1,())):=FOk.off (FOk.there (FOk.there FOk.here)) rfl
theorem ze27:FOk rANode 4 (rInt .i64) (fun x=>x.2.2.2.1) (fun x y=>(x.1,x.2.1,x.2.2.1,y,())):=FOk.off (FOk.there (FOk.there (FOk.there FOk.here))) rfl
abbrev rRail:Rep Rail:=(rPair (rInt .i64) (rPair (rInt .i64) (rPair (rSlice rSpot) (rPair (rInt .i64) (rPair (rInt .i64) rUnit)))))
theorem zz29:FOk rRail 0 (rInt .i64) (fun x=>x.1) (fun x y=>(y,x.2.1,x.2.2.1,x.2.2.2.1,x.2.2.2.2.1,())):=FOk.off FOk.here rfl
theorem za30:FOk rRail 1 (rInt .i64) (fun x=>x.2.1) (fun x y=>(x.1,y,x.2.2.1,x.2.2.2.1,x.2.2.2.2.1,())):=FOk.off (FOk.there FOk.here) rfl
theorem zb30:FOk rRail 2 (rSlice rSpot) (fun x=>x.2.2.1) (fun x y=>(x.1,x.2.1,y,x.2.2.2.1,x.2.2.2.2.1,())):=FOk.off (FOk.there (FOk.there FOk.here)) rfl
theorem zc30:FOk rRail 3 (rInt .i64) (fun x=>x.2.2.2.1) (fun x y=>(x.1,x.2.1,x.2.2.1,y,x.2.2.2.2.1,())):=FOk.off (FOk.there (FOk.there (FOk.there FOk.here))) rfl
theorem zd30:FOk rRail 4 (rInt .i64) (fun x=>x.2.2.2.2.1) (fun x y=>(x.1,x.2.1,x.2.2.1,x.2.2.2.1,y,())):=FOk.off (FOk.there (FOk.there (FOk.there (FOk.there FOk.here)))) rfl
abbrev rPlan:Rep Plan:=(rPair (rSlice rANode) (rPair (rSlice rRail) rUnit))
theorem ze30:FOk rPlan 0 (rSlice rANode) (fun x=>x.1) (fun x y=>(y,x.2.1,())):=FOk.off FOk.here rfl
theorem zf30:FOk rPlan 1 (rSlice rRail) (fun x=>x.2.1) (fun x y=>(x.1,y,())):=FOk.off (FOk.there FOk.here) rfl
abbrev zl:Rep zn2:=(rPair rPlan (rPair (rSlice (rInt .i64)) (rPair (rMap rRailEnd (rInt .i64)) rUnit)))
theorem zl12:FOk zl 0 rPlan (fun x=>x.1) (fun x y=>(y,x.2.1,x.2.2.1,())):=FOk.off FOk.here rfl
theorem zm12:FOk zl 2 (rSlice (rInt .i64)) (fun x=>x.2.1) (fun x y=>(x.1,y,x.2.2.1,())):=FOk.off (FOk.there FOk.here) rfl
theorem zn12:FOk zl 3 (rMap rRailEnd (rInt .i64)) (fun x=>x.2.2.1) (fun x y=>(x.1,x.2.1,y,())):=FOk.off (FOk.there (FOk.there FOk.here)) rfl
abbrev zn13:Rep zf14:=(rPair rPlan (rPair rNil (rPair rRaw rUnit)))
abbrev rAMove:Rep AMove:=(rPair (rInt .i64) (rPair rBool rUnit))
theorem zf27:FOk rAMove 0 (rInt .i64) (fun x=>x.1) (fun x y=>(y,x.2.1,())):=FOk.off FOk.here rfl
theorem zg27:FOk rAMove 1 rBool (fun x=>x.2.1) (fun x y=>(x.1,y,())):=FOk.off (FOk.there FOk.here) rfl
abbrev ze1:Rep zk1:=(rPair rANode rUnit)
theorem zo12:FOk ze1 0 rANode (fun x=>x.1) (fun x y=>(y,())):=FOk.off FOk.here rfl
abbrev zk:Rep zz1:=(rPair (rPtr zi) (rPair (rSlice rAMove) (rPair (rSlice (rInt .i64)) (rPair (rSlice (rInt .i64)) (rPair (rSlice (rInt .i64)) (rPair (rSlice (rInt .i64)) rUnit))))))
theorem za16:FOk zk 0 (rPtr zi) (fun x=>x.1) (fun x y=>(y,x.2.1,x.2.2.1,x.2.2.2.1,x.2.2.2.2.1,x.2.2.2.2.2.1,())):=FOk.off FOk.here rfl
theorem zb16:FOk zk 2 (rSlice (rInt .i64)) (fun x=>x.2.2.1) (fun x y=>(x.1,x.2.1,y,x.2.2.2.1,x.2.2.2.2.1,x.2.2.2.2.2.1,())):=FOk.off (FOk.there (FOk.there FOk.here)) rfl
theorem zc16:FOk zk 3 (rSlice (rInt .i64)) (fun x=>x.2.2.2.1) (fun x y=>(x.1,x.2.1,x.2.2.1,y,x.2.2.2.2.1,x.2.2.2.2.2.1,())):=FOk.off (FOk.there (FOk.there (FOk.there FOk.here))) rfl
theorem zd16:FOk zk 4 (rSlice (rInt .i64)) (fun x=>x.2.2.2.2.1) (fun x y=>(x.1,x.2.1,x.2.2.1,x.2.2.2.1,y,x.2.2.2.2.2.1,())):=FOk.off (FOk.there (FOk.there (FOk.there (FOk.there FOk.here)))) rfl
abbrev ze16:Rep zb17:=(rPair (rPtr zi) (rPair (rSlice rAMove) (rPair rNil (rPair rNil (rPair rNil (rPair (rSlice (rInt .i64)) rUnit))))))
abbrev rLeg:Rep Leg:=(rPair (rInt .i64) (rPair (rInt .i64) (rPair rMotionLedger (rPair (rInt .i64) (rPair (rInt .i64) rUnit)))))
theorem zv24:FOk rLeg 0 (rInt .i64) (fun x=>x.1) (fun x y=>(y,x.2.1,x.2.2.1,x.2.2.2.1,x.2.2.2.2.1,())):=FOk.off FOk.here rfl
theorem ze34:FOk rLeg 1 (rInt .i64) (fun x=>x.2.1) (fun x y=>(x.1,y,x.2.2.1,x.2.2.2.1,x.2.2.2.2.1,())):=FOk.off (FOk.there FOk.here) rfl
theorem zw24:FOk rLeg 2 rMotionLedger (fun x=>x.2.2.1) (fun x y=>(x.1,x.2.1,y,x.2.2.2.1,x.2.2.2.2.1,())):=FOk.off (FOk.there (FOk.there FOk.here)) rfl
theorem zf34:FOk rLeg 8 (rInt .i64) (fun x=>x.2.2.2.1) (fun x y=>(x.1,x.2.1,x.2.2.1,y,x.2.2.2.2.1,())):=FOk.off (FOk.there (FOk.there (FOk.there FOk.here))) rfl
theorem zg34:FOk rLeg 9 (rInt .i64) (fun x=>x.2.2.2.2.1) (fun x y=>(x.1,x.2.1,x.2.2.1,x.2.2.2.1,y,())):=FOk.off (FOk.there (FOk.there (FOk.there (FOk.there FOk.here)))) rfl
abbrev zq:Rep zi1:=(rPair rPlan (rPair (rSlice rAMove) (rPair rTrain (rPair (rInt .i64) (rPair (rInt .i64) rUnit)))))
theorem zw9:FOk zq 0 rPlan (fun x=>x.1) (fun x y=>(y,x.2.1,x.2.2.1,x.2.2.2.1,x.2.2.2.2.1,())):=FOk.off FOk.here rfl
theorem zx9:FOk zq 2 (rSlice rAMove) (fun x=>x.2.1) (fun x y=>(x.1,y,x.2.2.1,x.2.2.2.1,x.2.2.2.2.1,())):=FOk.off (FOk.there FOk.here) rfl
theorem zy9:FOk zq 3 rTrain (fun x=>x.2.2.1) (fun x y=>(x.1,x.2.1,y,x.2.2.2.1,x.2.2.2.2.1,())):=FOk.off (FOk.there (FOk.there FOk.here)) rfl
theorem zz9:FOk zq 13 (rInt .i64) (fun x=>x.2.2.2.1) (fun x y=>(x.1,x.2.1,x.2.2.1,y,x.2.2.2.2.1,())):=FOk.off (FOk.there (FOk.there (FOk.there FOk.here))) rfl
theorem za10:FOk zq 14 (rInt .i64) (fun x=>x.2.2.2.2.1) (fun x y=>(x.1,x.2.1,x.2.2.1,x.2.2.2.1,y,())):=FOk.off (FOk.there (FOk.there (FOk.there (FOk.there FOk.here)))) rfl
abbrev rCover:Rep Cover:=(rPair (rInt .i64) (rPair (rInt .i64) (rPair (rInt .i64) rUnit)))
theorem zc18:FOk rCover 0 (rInt .i64) (fun x=>x.1) (fun x y=>(y,x.2.1,x.2.2.1,())):=FOk.off FOk.here rfl
def strtab0:List Int:=[0,1,2,2,3,3,3,3,4,4,4,4,4,4,4,4,5,5,5,5,5,5,5,5,5,5,5,5,5,5,5,5,6,6,6,6,6,6,6,6,6,6,6,6,6,6,6,6,6,6,6,6,6,6,6,6,6,6,6,6,6,6,6,6,7,7,7,7,7,7,7,7,7,7,7,7,7,7,7,7,7,7,7,7,7,7,7,7,7,7,7,7,7,7,7,7,7,7,7,7,7,7,7,7,7,7,7,7,7,7,7,7,7,7,7,7,7,7,7,7,7,7,7,7,7,7,7,7,8,8,8,8,8,8,8,8,8,8,8,8,8,8,8,8,8,8,8,8,8,8,8,8,8,8,8,8,8,8,8,8,8,8,8,8,8,8,8,8,8,8,8,8,8,8,8,8,8,8,8,8,8,8,8,8,8,8,8,8,8,8,8,8,8,8,8,8,8,8,8,8,8,8,8,8,8,8,8,8,8,8,8,8,8,8,8,8,8,8,8,8,8,8,8,8,8,8,8,8,8,8,8,8,8,8,8,8,8,8,8,8,8,8,8,8,8,8,8,8,8,8,8,8,8,8,8,8]
def ze6 (t_0:Train):Option (Bool) :=
some ((decide ((lenI t_0.2.2.2.2.2.2.2.2.2.1) ≤ 20)))
def zt2 (x_0:Int) (low_1:Int) (high_2:Int):Option (Bool) :=
Option.bind (cond ((decide (x_0 ≥ low_1))) (some ((decide (x_0 ≤ high_2)))) (some false)) fun c2 =>
some c2
def zp3 (p_0:Train):Option (Bool) :=
Option.bind (Option.bind (zt2 p_0.1 1000 80000) fun y21 =>
cond ((!y21)) (some true) (Option.bind (zt2 p_0.2.1 1 60000) fun y23 =>
cond ((!y23)) (some true) (Option.bind (zt2 p_0.2.2.1 1 25000) fun y25 =>
cond ((!y25)) (some true) (Option.bind (zt2 p_0.2.2.2.1 1 200000) fun y27 =>
cond ((!y27)) (some true) (Option.bind (zt2 p_0.2.2.2.2.1 1 200000) fun y29 =>
cond ((!y29)) (some true) (Option.bind (zt2 p_0.2.2.2.2.2.1 1 2000000) fun y31 =>
cond ((!y31)) (some true) (Option.bind (zt2 p_0.2.2.2.2.2.2.1 0 100000) fun y33 =>
cond ((!y33)) (some true) (Option.bind (zt2 p_0.2.2.2.2.2.2.2.1 0 10000) fun y35 =>
cond ((!y35)) (some true) (Option.bind (zt2 p_0.2.2.2.2.2.2.2.2.1 0 100) fun y37 =>
cond ((!y37)) (some true) (Option.bind (zt2 ((lenI p_0.2.2.2.2.2.2.2.2.2.1)) 1 8) fun y39 =>
some ((!y39)))))))))))) fun c20 =>
cond (c20) (some false) (Option.bind (iter (σ:=(Int)) (τ:=Unit ⊕ (Bool)) (fun s45 =>
cond ((decide (s45 < (lenI p_0.2.2.2.2.2.2.2.2.2.1)))) (Option.bind (idx p_0.2.2.2.2.2.2.2.2.2.1 s45) fun x48 =>
Option.bind (zt2 x48 1 1000) fun y49 =>
cond ((!y49)) (some (.inr ((.inr false)))) (some (.inl ((w64 (s45 + 1)))))) (some (.inr ((.inl (())))))) big 0) fun t51 =>
alt (fun b53=>some true) (fun b54=>some b54) t51)
def zn (n_0:Int) (low_1:Int) (high_2:Int):Option (Bool) :=
Option.bind (cond ((decide (n_0 ≥ low_1))) (some ((decide (n_0 ≤ high_2)))) (some false)) fun c2 =>
some c2
def zh3 (s_0:(List Int)) (f_1:((Int) → Option (Bool))):Option (Int) :=
Option.bind (iter (σ:=(Int)) (τ:=Unit ⊕ (Int)) (fun s5 =>
cond ((decide (s5 < (lenI s_0)))) (Option.bind (idx s_0 s5) fun x8 =>
Option.bind (f_1 x8) fun y9 =>
cond (y9) (some (.inr ((.inr s5)))) (some (.inl ((w64 (s5 + 1)))))) (some (.inr ((.inl (())))))) big 0) fun t11 =>
alt (fun b13=>some ((-1))) (fun b14=>some b14) t11
def zc2 (s_0:(List Int)) (f_1:((Int) → Option (Bool))):Option (Bool) :=
Option.bind (zh3 s_0 f_1) fun y1 =>
some ((decide (y1 ≥ 0)))
def zt6 (g_0:Int):Option (Bool) :=
Option.bind (zn g_0 1 1000) fun y1 =>
some ((!y1))
def zm6 (p_0:Train):Option (Int) :=
Option.bind (Option.bind (zn p_0.1 1000 80000) fun y19 =>
cond ((!y19)) (some true) (Option.bind (zn p_0.2.1 1 60000) fun y21 =>
cond ((!y21)) (some true) (Option.bind (zn p_0.2.2.1 1 25000) fun y23 =>
cond ((!y23)) (some true) (Option.bind (zn p_0.2.2.2.1 1 200000) fun y25 =>
cond ((!y25)) (some true) (Option.bind (zn p_0.2.2.2.2.1 1 200000) fun y27 =>
cond ((!y27)) (some true) (Option.bind (zn p_0.2.2.2.2.2.1 1 2000000) fun y29 =>
cond ((!y29)) (some true) (Option.bind (zn p_0.2.2.2.2.2.2.1 0 100000) fun y31 =>
cond ((!y31)) (some true) (Option.bind (zn p_0.2.2.2.2.2.2.2.1 0 10000) fun y33 =>
cond ((!y33)) (some true) (Option.bind (zn p_0.2.2.2.2.2.2.2.2.1 0 100) fun y35 =>
some ((!y35))))))))))) fun c18 =>
cond (c18) (some 2) (Option.bind (Option.bind (zn ((lenI p_0.2.2.2.2.2.2.2.2.2.1)) 1 8) fun y41 =>
cond ((!y41)) (some true) (Option.bind (zc2 p_0.2.2.2.2.2.2.2.2.2.1 ((fun x=>zt6 x))) fun y43 =>
some y43)) fun c40 =>
cond (c40) (some 2) (some 0))
def zc5 (t_0:Train) (state_1:Int):Option ((Option zx) × Bool) :=
Option.bind (Option.bind (zm6 t_0) fun y5 =>
cond ((y5 != 0)) (some true) (Option.bind (zn state_1 0 ((w64 ((lenI t_0.2.2.2.2.2.2.2.2.2.1) - 1)))) fun y7 =>
some ((!y7)))) fun c4 =>
cond (c4) (some (((none:Option zx),false))) (some (((some (((t_0,state_1,()):zx))),true)))
def zz4 (m_0:zx) (x_1:MotionState):Option (Bool) :=
Option.bind (Option.bind (zn x_1.1 0 ((w64 (25000 * m_0.1.1)))) fun y8 =>
cond (y8) (Option.bind (zn x_1.2.1 0 10000000000000000) fun y10 =>
some y10) (some false)) fun c7 =>
some c7
def zy4 (t_0:Train) (x_1:MotionState) (demand_2:Int) (slope_3:Int) (state_4:Int):Option ((Option zx) × Bool) :=
Option.bind (zc5 t_0 state_4) fun y1 =>
Option.bind (cond (y1.2) (Option.bind (y1.1) fun p11 =>
Option.bind (zz4 p11 x_1) fun y12 =>
cond (y12) (Option.bind (zn demand_2 ((-4)) 4) fun y14 =>
cond (y14) (Option.bind (zn slope_3 ((-120)) 120) fun y16 =>
some ((y1.1,y16))) (some ((y1.1,false)))) (some ((y1.1,false)))) (some ((y1.1,false)))) fun c9 =>
some ((c9.1,c9.2))
def zo2 (m_0:zx):Option (Int) :=
Option.bind (idx m_0.1.2.2.2.2.2.2.2.2.2.1 m_0.2.1) fun x3 =>
Option.bind (divO .i64 ((w64 ((w64 (x3 * m_0.1.1)) * 981))) 100000) fun x4 =>
some x4
def zk2 (m_0:zx) (v_1:Int) (demand_2:Int) (slope_3:Int):Option (Int) :=
cond ((decide (demand_2 ≤ 0))) (some 0) (Option.bind (divO .i64 ((w64 (m_0.1.2.2.2.1 * demand_2))) 4) fun x4 =>
Option.bind (zo2 m_0) fun y5 =>
cond ((decide (v_1 > 0))) (Option.bind (divO .i64 ((w64 (1000 * m_0.1.2.2.2.2.2.1))) v_1) fun x7 =>
some ((min ((min x4 y5)) x7))) (some ((min x4 y5))))
def zg2 (m_0:zx) (v_1:Int) (demand_2:Int) (slope_3:Int):Option (Int) :=
cond ((decide (demand_2 ≥ 0))) (some 0) (Option.bind (divO .i64 ((w64 (m_0.1.2.2.2.2.1 * (w64 (0 - demand_2))))) 4) fun x4 =>
Option.bind (zo2 m_0) fun y5 =>
some ((min x4 y5)))
def zx2 (m_0:zx) (v_1:Int) (demand_2:Int) (slope_3:Int):Option (Int) :=
Option.bind (divO .i64 ((w64 (m_0.1.2.2.2.2.2.2.2.1 * v_1))) 1000) fun x2 =>
some ((w64 (m_0.1.2.2.2.2.2.2.1 + x2)))
def zy2 (m_0:zx) (v_1:Int) (demand_2:Int) (slope_3:Int):Option (Int) :=
Option.bind (divO .i64 ((w64 ((w64 (m_0.1.1 * slope_3)) * 981))) 100000) fun x1 =>
some x1
def zk4 (m_0:zx) (v_1:Int) (demand_2:Int) (slope_3:Int):Option ((List Int)) :=
Option.bind (iter (σ:=(Int × (List Int))) (τ:=((List Int))) (fun s11 =>
cond ((decide (s11.1 < 4))) (Option.bind (idx (([(fun x=>zk2 m_0 x.1 x.2.1 x.2.2),(fun x=>zg2 m_0 x.1 x.2.1 x.2.2),(fun x=>zx2 m_0 x.1 x.2.1 x.2.2),(fun x=>zy2 m_0 x.1 x.2.1 x.2.2)]:(List ((Int × Int × Int) → Option (Int))))) s11.1) fun x14 =>
Option.bind (x14 ((v_1,demand_2,slope_3))) fun y15 =>
Option.bind (idx s11.2 s11.1) fun x16 =>
some (.inl (((w64 (s11.1 + 1)),(s11.2).set (Int.toNat s11.1) y15)))) (some (.inr s11.2))) big ((0,(List.replicate 4 (0:Int))))) fun t17 =>
some t17
def zr2 (m_0:zx) (x_1:MotionState):Option (Int) :=
Option.bind (divO .i64 x_1.1 m_0.1.1) fun x2 =>
some x2
def zq1 (p_0:zx) (p_1:MotionState) (p_2:Int) (p_3:Int):Option (za4 × Bool) :=
Option.bind (zr2 p_0 p_1) fun y2 =>
Option.bind (zk4 p_0 y2 p_2 p_3) fun y3 =>
Option.bind (idx y3 0) fun x5 =>
Option.bind (idx y3 1) fun x6 =>
Option.bind (idx y3 2) fun x7 =>
Option.bind (idx y3 3) fun x8 =>
Option.bind (cond ((decide ((w64 (p_1.1 + (w64 (100 * (w64 ((w64 ((w64 (x5 - x6)) - x7)) - x8)))))) < 0))) (some true) (cond ((p_1.1 == 0)) (some ((decide ((w64 ((w64 ((w64 (x5 - x6)) - x7)) - x8)) ≤ 0)))) (some false))) fun c12 =>
cond (c12) (Option.bind (idx y3 0) fun x20 =>
Option.bind (idx y3 1) fun x21 =>
Option.bind (idx y3 2) fun x22 =>
Option.bind (idx y3 3) fun x23 =>
Option.bind (idx y3 0) fun x26 =>
Option.bind (divO .i64 ((w64 ((w64 ((w64 (x26 * 0)) + (w64 (1000 * p_0.1.1)))) - 1))) ((w64 (1000 * p_0.1.1)))) fun x27 =>
Option.bind (idx y3 1) fun x30 =>
Option.bind (divO .i64 ((w64 ((w64 (x30 * 0)) * p_0.1.2.2.2.2.2.2.2.2.1))) ((w64 (100000 * p_0.1.1)))) fun x31 =>
some ((((0,(w64 (p_1.2.1 + 0)),()),((w64 ((w64 (200 * x20)) * 0)),(w64 ((w64 (200 * x21)) * 0)),(w64 ((w64 (200 * x22)) * 0)),(w64 ((w64 (200 * x23)) * 0)),0,(w64 (p_1.1 * p_1.1)),()),x27,x31,()),(decide (0 ≤ (w64 (25000 * p_0.1.1))))))) (Option.bind (idx y3 0) fun x36 =>
Option.bind (idx y3 1) fun x37 =>
Option.bind (idx y3 2) fun x38 =>
Option.bind (idx y3 3) fun x39 =>
Option.bind (idx y3 0) fun x42 =>
Option.bind (divO .i64 ((w64 ((w64 ((w64 (x42 * (w64 (p_1.1 + (w64 (100 * (w64 ((w64 ((w64 (x5 - x6)) - x7)) - x8)))))))) + (w64 (1000 * p_0.1.1)))) - 1))) ((w64 (1000 * p_0.1.1)))) fun x43 =>
Option.bind (idx y3 1) fun x46 =>
Option.bind (divO .i64 ((w64 ((w64 (x46 * (w64 (p_1.1 + (w64 (100 * (w64 ((w64 ((w64 (x5 - x6)) - x7)) - x8)))))))) * p_0.1.2.2.2.2.2.2.2.2.1))) ((w64 (100000 * p_0.1.1)))) fun x47 =>
some (((((w64 (p_1.1 + (w64 (100 * (w64 ((w64 ((w64 (x5 - x6)) - x7)) - x8)))))),(w64 (p_1.2.1 + (w64 (p_1.1 + (w64 (100 * (w64 ((w64 ((w64 (x5 - x6)) - x7)) - x8)))))))),()),((w64 ((w64 (200 * x36)) * (w64 (p_1.1 + (w64 (100 * (w64 ((w64 ((w64 (x5 - x6)) - x7)) - x8)))))))),(w64 ((w64 (200 * x37)) * (w64 (p_1.1 + (w64 (100 * (w64 ((w64 ((w64 (x5 - x6)) - x7)) - x8)))))))),(w64 ((w64 (200 * x38)) * (w64 (p_1.1 + (w64 (100 * (w64 ((w64 ((w64 (x5 - x6)) - x7)) - x8)))))))),(w64 ((w64 (200 * x39)) * (w64 (p_1.1 + (w64 (100 * (w64 ((w64 ((w64 (x5 - x6)) - x7)) - x8)))))))),(w64 ((w64 (10000 * (w64 ((w64 ((w64 (x5 - x6)) - x7)) - x8)))) * (w64 ((w64 ((w64 (x5 - x6)) - x7)) - x8)))),0,()),x43,x47,()),(decide ((w64 (p_1.1 + (w64 (100 * (w64 ((w64 ((w64 (x5 - x6)) - x7)) - x8)))))) ≤ (w64 (25000 * p_0.1.1)))))))
def zf6 (t_0:Train) (x_1:MotionState) (demand_2:Int) (slope_3:Int) (state_4:Int):Option (MotionState × MotionLedger × Int) :=
Option.bind (zy4 t_0 x_1 demand_2 slope_3 state_4) fun y3 =>
cond ((!y3.2)) (some ((((0,0,()):MotionState),((0,0,0,0,0,0,()):MotionLedger),2))) (Option.bind (y3.1) fun p5 =>
Option.bind (zq1 p5 x_1 demand_2 slope_3) fun y6 =>
Option.bind (cond ((!y6.2)) (some true) (some ((decide (y6.1.1.2.1 > 10000000000000000))))) fun c9 =>
cond (c9) (some ((((0,0,()):MotionState),((0,0,0,0,0,0,()):MotionLedger),3))) (some ((y6.1.1,y6.1.2.1,0))))
def zd2 {σ τ:Type} (step:σ → (MotionState) → Option (σ ⊕ τ)) (s_:σ) (p_1:MotionState) (p_2:zx) (p_3:((MotionState) → Option (Int))):Option ((σ ⊕ τ) × MotionState) :=
Option.bind (iter (σ:=(Int × (σ ⊕ τ) × Int × Int)) (τ:=((σ ⊕ τ) × Int × Int) ⊕ (((σ ⊕ τ) × Int × Int))) (fun s26 =>
cond ((decide (s26.1 < 36000))) (cond ((s26.2.2.1 == 0)) (some (.inr ((.inr ((s26.2.1,s26.2.2.1,s26.2.2.2)))))) (Option.bind (p_3 ((s26.2.2.1,s26.2.2.2,()))) fun y33 =>
Option.bind (zq1 p_2 ((s26.2.2.1,s26.2.2.2,())) ((-4)) y33) fun y34 =>
cond ((!y34.2)) (some (.inr ((.inr ((s26.2.1,s26.2.2.1,s26.2.2.2)))))) (Option.bind (goL s26.2.1) fun s37 =>
Option.bind (step s37 y34.1.1) fun y38 =>
cond ((!(y38).isLeft)) (some (.inr ((.inr ((y38,y34.1.1.1,y34.1.1.2.1)))))) (some (.inl (((w64 (s26.1 + 1)),y38,y34.1.1.1,y34.1.1.2.1))))))) (some (.inr ((.inl ((s26.2.1,s26.2.2.1,s26.2.2.2))))))) big ((0,(.inl s_),p_1.1,p_1.2.1))) fun t41 =>
alt (fun b43=>some ((b43.1,(b43.2.1,b43.2.2,())))) (fun b44=>some ((b44.1,(b44.2.1,b44.2.2,())))) t41
def zp2 (m_0:zx) (x_1:MotionState) (slope_2:((MotionState) → Option (Int))):Option (MotionState × zx × ((MotionState) → Option (Int))) :=
some ((x_1,m_0,slope_2))
def zt1 (p_0:MotionState) (p_1:Int):Option (Int) :=
some p_1
def zp (m_0:zx) (x_1:MotionState):Option (Int) :=
Option.bind (divO .i64 x_1.2.1 ((w64 (10 * m_0.1.1)))) fun x2 =>
some x2
def zi2 (m_0:zx) (x_1:MotionState) (slope_2:Int):Option (Int × Bool) :=
Option.bind (zp2 m_0 x_1 ((fun x=>zt1 x slope_2))) fun y2 =>
Option.bind (zd2 (σ:=(Int × Int)) (τ:=Unit) (fun s7 x4 =>
some (.inl ((x4.1,x4.2.1)))) ((x_1.1,x_1.2.1)) y2.1 y2.2.1 y2.2.2) fun t10 =>
Option.bind (goL t10.1) fun b12 =>
Option.bind (zp m_0 ((b12.1,b12.2,()))) fun y17 =>
Option.bind (zp m_0 x_1) fun y18 =>
some (((w64 (y17 - y18)),(b12.1 == 0)))
def zw3 (t_0:Train) (x_1:MotionState) (slope_2:Int) (state_3:Int):Option (Int × Int) :=
Option.bind (zy4 t_0 x_1 0 slope_2 state_3) fun y1 =>
cond ((!y1.2)) (some ((0,2))) (Option.bind (y1.1) fun p3 =>
Option.bind (zi2 p3 x_1 slope_2) fun y4 =>
cond ((!y4.2)) (some ((0,4))) (some ((y4.1,0))))
def zp5 (t_0:Train) (slope_1:Int) (state_2:Int) (distance_3:Int):Option (Int × Int) :=
Option.bind (zy4 t_0 (((0,0,()):MotionState)) 0 slope_1 state_2) fun y1 =>
Option.bind (cond ((!y1.2)) (some true) (Option.bind (zn distance_3 0 1000000) fun y6 =>
some ((!y6)))) fun c4 =>
cond (c4) (some ((0,2))) (Option.bind (iter (σ:=(Int)) (τ:=Unit ⊕ (Int × Int)) (fun s15 =>
cond ((decide (s15 > 0))) (Option.bind (y1.1) fun p18 =>
Option.bind (zi2 p18 ((((w64 (s15 * t_0.1)),0,()):MotionState)) slope_1) fun y19 =>
cond (y19.2) (cond ((decide (y19.1 ≤ distance_3))) (some (.inr ((.inr ((s15,0)))))) (some (.inl ((w64 (s15 - 1)))))) (some (.inl ((w64 (s15 - 1)))))) (some (.inr ((.inl (())))))) big t_0.2.2.1) fun t24 =>
alt (fun b26=>some ((0,0))) (fun b27=>some ((b27.1,b27.2))) t24)
def zw (x_0:Int) (low_1:Int) (high_2:Int):Option (Bool) :=
Option.bind (cond ((decide (x_0 ≥ low_1))) (some ((decide (x_0 ≤ high_2)))) (some false)) fun c2 =>
some c2
def zw1 (s_0:(List ANode)) (f_1:((ANode) → Option (Bool))):Option (Int) :=
Option.bind (iter (σ:=(Int)) (τ:=Unit ⊕ (Int)) (fun s5 =>
cond ((decide (s5 < (lenI s_0)))) (Option.bind (idx s_0 s5) fun x8 =>
Option.bind (f_1 x8) fun y9 =>
cond (y9) (some (.inr ((.inr s5)))) (some (.inl ((w64 (s5 + 1)))))) (some (.inr ((.inl (())))))) big 0) fun t11 =>
alt (fun b13=>some ((-1))) (fun b14=>some b14) t11
def za1 (s_0:(List ANode)) (f_1:((ANode) → Option (Bool))):Option (Bool) :=
Option.bind (zw1 s_0 f_1) fun y1 =>
some ((decide (y1 ≥ 0)))
def zh5 (s_0:Spot):Option (Bool) :=
Option.bind (Option.bind (zw s_0.1 ((-10000000)) 10000000) fun y5 =>
cond (y5) (Option.bind (zw s_0.2.1 ((-10000000)) 10000000) fun y7 =>
some y7) (some false)) fun c4 =>
some c4
def zg8 :Option ((List Int)) :=
some ((List.replicate 1 0 ++ ([1,2,4,3,3,3]:(List Int))))
def zz7 (n_0:ANode):Option (Bool) :=
Option.bind (cond ((decide (n_0.2.1 < 1))) (some true) (cond ((decide (n_0.2.1 > 6))) (some true) (Option.bind (zh5 n_0.1) fun y16 =>
cond ((!y16)) (some true) (Option.bind (zg8) fun y18 =>
Option.bind (idx y18 n_0.2.1) fun x19 =>
some (((lenI n_0.2.2.1) != x19)))))) fun c13 =>
cond (c13) (some false) (Option.bind (cond ((n_0.2.1 == 5)) (some true) (some ((n_0.2.1 == 6)))) fun c22 =>
cond (c22) (Option.bind (zw n_0.2.2.2.1 1 2) fun y25 =>
some y25) (some ((n_0.2.2.2.1 == 0))))
def zl7 (n_0:ANode):Option (Bool) :=
Option.bind (zz7 n_0) fun y1 =>
some ((!y1))
def zx1 (s_0:(List Rail)) (f_1:((Rail) → Option (Bool))):Option (Int) :=
Option.bind (iter (σ:=(Int)) (τ:=Unit ⊕ (Int)) (fun s5 =>
cond ((decide (s5 < (lenI s_0)))) (Option.bind (idx s_0 s5) fun x8 =>
Option.bind (f_1 x8) fun y9 =>
cond (y9) (some (.inr ((.inr s5)))) (some (.inl ((w64 (s5 + 1)))))) (some (.inr ((.inl (())))))) big 0) fun t11 =>
alt (fun b13=>some ((-1))) (fun b14=>some b14) t11
def zb1 (s_0:(List Rail)) (f_1:((Rail) → Option (Bool))):Option (Bool) :=
Option.bind (zx1 s_0 f_1) fun y1 =>
some ((decide (y1 ≥ 0)))
def zu1 (n_1:Int):Option ((List Spot)) :=
cond ((decide (n_1 < 0))) (none) (cond ((decide ((w64 (n_1 - (w64 (0 - 0)))) > 0))) (Option.bind (appzO 16 ((w64 (n_1 - (w64 (0 - 0))))) ((0,0,()):Spot)) fun x3 =>
Option.bind (slz x3) fun x5 =>
some (([]:List Spot))) (some ([])))
def zn1 (slices_0:(List (List Spot))):Option ((List Spot)) :=
Option.bind (iter (σ:=(Int × Int)) (τ:=(Int)) (fun s4 =>
cond ((decide (s4.2 < (lenI slices_0)))) (Option.bind (idx slices_0 s4.2) fun x7 =>
cond ((decide ((w64 (s4.1 + (lenI x7))) < 0))) (none) (some (.inl (((w64 (s4.1 + (lenI x7))),(w64 (s4.2 + 1))))))) (some (.inr s4.1))) big ((0,0))) fun t9 =>
Option.bind (zu1 t9) fun y11 =>
Option.bind (iter (σ:=((List Spot) × Int)) (τ:=((List Spot))) (fun s17 =>
cond ((decide (s17.2 < (lenI slices_0)))) (Option.bind (idx slices_0 s17.2) fun x20 =>
Option.bind (appO 16 s17.1 x20) fun x21 =>
some (.inl ((x21,(w64 (s17.2 + 1)))))) (some (.inr s17.1))) big ((y11,0))) fun t23 =>
some t23
def zb7 (p_0:Plan) (r_1:Rail):Option ((List Spot)) :=
Option.bind (idx p_0.1 r_1.1) fun x5 =>
Option.bind (idx p_0.1 r_1.2.1) fun x6 =>
Option.bind (zn1 ([[x5.1],r_1.2.2.1,[x6.1]])) fun y7 =>
some y7
def za8 (n_0:Int):Option (Int) :=
Option.bind (FloatKind.f64.format.sqrt ((FloatKind.f64.nearest n_0))) fun x1 =>
Option.bind (f2i x1) fun x2 =>
Option.bind (iter (σ:=(Int)) (τ:=(Int)) (fun s4 =>
cond ((decide ((w64 (s4 * s4)) > n_0))) (some (.inl ((w64 (s4 - 1))))) (some (.inr s4))) big x2) fun t7 =>
Option.bind (iter (σ:=(Int)) (τ:=(Int)) (fun s10 =>
cond ((decide ((w64 ((w64 (s10 + 1)) * (w64 (s10 + 1)))) ≤ n_0))) (some (.inl ((w64 (s10 + 1))))) (some (.inr s10))) big t7) fun t13 =>
some t13
def zl4 (a_0:Spot) (b_1:Spot):Option (Int) :=
Option.bind (za8 ((w64 ((w64 ((w64 (a_0.1 - b_1.1)) * (w64 (a_0.1 - b_1.1)))) + (w64 ((w64 (a_0.2.1 - b_1.2.1)) * (w64 (a_0.2.1 - b_1.2.1)))))))) fun y1 =>
some y1
def zb8 (p_0:Plan) (p_1:Rail):Option (Bool) :=
Option.bind (Option.bind (zw p_1.1 0 ((w64 ((lenI p_0.1) - 1)))) fun y10 =>
cond ((!y10)) (some true) (Option.bind (zw p_1.2.1 0 ((w64 ((lenI p_0.1) - 1)))) fun y12 =>
cond ((!y12)) (some true) (cond ((decide ((lenI p_1.2.2.1) > 30))) (some true) (Option.bind (zw p_1.2.2.2.1 1 50000) fun y15 =>
cond ((!y15)) (some true) (Option.bind (zw p_1.2.2.2.2.1 ((-120)) 120) fun y17 =>
some ((!y17))))))) fun c9 =>
cond (c9) (some false) (Option.bind (zb7 p_0 p_1) fun y19 =>
Option.bind (iter (σ:=(Int)) (τ:=Unit ⊕ (Bool)) (fun s45 =>
cond ((decide (s45 < (lenI y19)))) (Option.bind (idx y19 s45) fun x48 =>
Option.bind (zh5 x48) fun y62 =>
cond ((!y62)) (some (.inr ((.inr false)))) (cond ((decide (s45 > 0))) (Option.bind (idx y19 ((w64 (s45 - 1)))) fun x66 =>
Option.bind (zl4 x66 x48) fun y67 =>
Option.bind (zw y67 1 1000000) fun y68 =>
cond ((!y68)) (some (.inr ((.inr false)))) (some (.inl ((w64 (s45 + 1)))))) (some (.inl ((w64 (s45 + 1))))))) (some (.inr ((.inl (())))))) big 0) fun t71 =>
alt (fun b73=>some true) (fun b74=>some b74) t71)
def zu5 (r_0:Rail) (p_1:Plan):Option (Bool) :=
Option.bind (zb8 p_1 r_0) fun y1 =>
some ((!y1))
def zb4 (p_0:Plan) (e_1:RailEnd):Option (Int) :=
cond (e_1.2.1) (Option.bind (idx p_0.2.1 e_1.1) fun x2 =>
some x2.2.1) (Option.bind (idx p_0.2.1 e_1.1) fun x3 =>
some x3.1)
def zm7 (p_0:Plan):Option (Int) :=
Option.bind (Option.bind (zw ((lenI p_0.1)) 1 300) fun y5 =>
cond ((!y5)) (some true) (Option.bind (zw ((lenI p_0.2.1)) 1 400) fun y7 =>
some ((!y7)))) fun c4 =>
cond (c4) (some 2) (Option.bind (Option.bind (za1 p_0.1 ((fun x=>zl7 x))) fun y13 =>
cond (y13) (some true) (Option.bind (zb1 p_0.2.1 ((fun x=>zu5 x p_0))) fun y15 =>
some y15)) fun c12 =>
cond (c12) (some 2) (Option.bind (iter (σ:=(Int × (List (RailEnd × Bool)))) (τ:=((List (RailEnd × Bool))) ⊕ (Int)) (fun s120 =>
cond ((decide (s120.1 < (lenI p_0.1)))) (Option.bind (idx p_0.1 s120.1) fun x123 =>
Option.bind (iter (σ:=(Int × (List (RailEnd × Bool)))) (τ:=((List (RailEnd × Bool))) ⊕ (Int × (List (RailEnd × Bool)))) (fun s153 =>
cond ((decide (s153.1 < (lenI x123.2.2.1)))) (Option.bind (idx x123.2.2.1 s153.1) fun x156 =>
Option.bind (zw x156.1 0 ((w64 ((lenI p_0.2.1) - 1)))) fun y162 =>
cond ((!y162)) (some (.inr ((.inr ((2,s153.2)))))) (cond (((mget s153.2 x156).getD false)) (some (.inr ((.inr ((2,s153.2)))))) (Option.bind (zb4 p_0 x156) fun y167 =>
cond ((y167 != s120.1)) (some (.inr ((.inr ((2,s153.2)))))) (some (.inl (((w64 (s153.1 + 1)),(mset s153.2 x156 true)))))))) (some (.inr ((.inl s153.2))))) big ((0,s120.2))) fun t169 =>
alt (fun b171=>some (.inl (((w64 (s120.1 + 1)),b171)))) (fun b172=>some (.inr ((.inr b172.1)))) t169) (some (.inr ((.inl s120.2))))) big ((0,([]:(List (RailEnd × Bool)))))) fun t173 =>
alt (fun b175=>Option.bind (lenmO b175) fun x177 =>
cond ((x177 != (w64 (2 * (lenI p_0.2.1))))) (some 2) (some 0)) (fun b176=>some b176) t173))
def zc7 (p_0:Plan):Option ((Option zn2) × Bool) :=
Option.bind (zm7 p_0) fun y1 =>
cond ((y1 != 0)) (some (((none:Option zn2),false))) (Option.bind (iter (σ:=(Int × (List Int))) (τ:=((List Int))) (fun s55 =>
cond ((decide (s55.1 < (lenI p_0.2.1)))) (Option.bind (idx p_0.2.1 s55.1) fun x58 =>
Option.bind (zb7 p_0 x58) fun y60 =>
Option.bind (iter (σ:=(Int × Int)) (τ:=(Int)) (fun s69 =>
cond ((decide (s69.2 < (lenI y60)))) (Option.bind (idx y60 ((w64 (s69.2 - 1)))) fun x75 =>
Option.bind (idx y60 s69.2) fun x76 =>
Option.bind (zl4 x75 x76) fun y77 =>
some (.inl (((w64 (s69.1 + y77)),(w64 (s69.2 + 1)))))) (some (.inr s69.1))) big ((0,1))) fun t78 =>
Option.bind (appO 8 s55.2 ([t78])) fun x80 =>
some (.inl (((w64 (s55.1 + 1)),x80)))) (some (.inr s55.2))) big ((0,[]))) fun t82 =>
Option.bind (iter (σ:=(Int × (List (RailEnd × Int)))) (τ:=((List (RailEnd × Int)))) (fun s116 =>
cond ((decide (s116.1 < (lenI p_0.1)))) (Option.bind (idx p_0.1 s116.1) fun x119 =>
Option.bind (iter (σ:=(Int × (List (RailEnd × Int)))) (τ:=((List (RailEnd × Int)))) (fun s127 =>
cond ((decide (s127.1 < (lenI x119.2.2.1)))) (Option.bind (idx x119.2.2.1 s127.1) fun x130 =>
some (.inl (((w64 (s127.1 + 1)),(mset s127.2 x130 s127.1))))) (some (.inr s127.2))) big ((0,s116.2))) fun t132 =>
some (.inl (((w64 (s116.1 + 1)),t132)))) (some (.inr s116.2))) big ((0,([]:(List (RailEnd × Int)))))) fun t134 =>
some (((some (((p_0.1,p_0.2.1,()),t82,t134,()))),true)))
def zz2 (n_0:zn2) (m_1:AMove):Option (Bool) :=
Option.bind (zw m_1.1 0 ((w64 ((lenI n_0.1.2.1) - 1)))) fun y2 =>
some y2
def zv5 (m_0:AMove):Option (RailEnd) :=
some (((m_0.1,(!m_0.2.1),()):RailEnd))
def zu6 (p_0:zk1) (from_1:Int) (to_2:Int):Option (Bool) :=
some false
def zw5 (p_0:zk1) (from_1:Int) (to_2:Int):Option (Bool) :=
some ((from_1 != to_2))
def zs3 (p_0:zk1) (from_1:Int) (to_2:Int):Option (Bool) :=
Option.bind (cond ((from_1 != to_2)) (Option.bind (remO ((w64 (from_1 + to_2))) 2) fun x5 =>
some ((x5 == 0))) (some false)) fun c3 =>
some c3
def zg4 (p_0:zk1) (from_1:Int) (to_2:Int):Option (Bool) :=
Option.bind (cond ((from_1 != to_2)) (cond ((from_1 == 0)) (some true) (some ((to_2 == 0)))) (some false)) fun c3 =>
some c3
def zj3 (x_0:zk1) (from_1:Int) (to_2:Int):Option (Bool) :=
Option.bind (cond ((from_1 != 0)) (cond ((to_2 == 0)) (some true) (cond ((from_1 == 0)) (some ((to_2 == x_0.1.2.2.2.1))) (some false))) (cond ((from_1 == 0)) (some ((to_2 == x_0.1.2.2.2.1))) (some false))) fun c5 =>
some c5
def zk3 (x_0:zk1) (from_1:Int) (to_2:Int):Option (Bool) :=
Option.bind (cond ((from_1 == 0)) (cond ((to_2 == x_0.1.2.2.2.1)) (some true) (cond ((from_1 == x_0.1.2.2.2.1)) (some ((to_2 == 0))) (some false))) (cond ((from_1 == x_0.1.2.2.2.1)) (some ((to_2 == 0))) (some false))) fun c5 =>
some c5
def ze3 (x_0:zk1) (from_1:Int) (to_2:Int):Option (Bool) :=
Option.bind (idx ((List.replicate 1 (fun _=>none) ++ ([(fun x=>zu6 x.1 x.2.1 x.2.2),(fun x=>zw5 x.1 x.2.1 x.2.2),(fun x=>zs3 x.1 x.2.1 x.2.2),(fun x=>zg4 x.1 x.2.1 x.2.2),(fun x=>zj3 x.1 x.2.1 x.2.2),(fun x=>zk3 x.1 x.2.1 x.2.2)]:(List ((zk1 × Int × Int) → Option (Bool)))))) x_0.1.2.1) fun x4 =>
Option.bind (x4 ((x_0,from_1,to_2))) fun y5 =>
some y5
def zq5 (m_0:AMove):Option (Int) :=
cond (m_0.2.1) (some ((w64 ((w64 (2 * m_0.1)) + 1)))) (some ((w64 (2 * m_0.1))))
def zd5 (x_0:Int):Option (Bool) :=
some ((x_0 != x_0))
def zu2 (x_0:Int) (y_1:Int):Option (Bool) :=
Option.bind (Option.bind (zd5 x_0) fun y6 =>
cond (y6) (Option.bind (zd5 y_1) fun y8 =>
cond ((!y8)) (some true) (some ((decide (x_0 < y_1))))) (some ((decide (x_0 < y_1))))) fun c5 =>
some c5
def zd1   (data_0:(List Int)) (a_1:Int) (b_2:Int):Option ((List Int)) :=
Option.bind (iter (σ:=(Int × (List Int))) (τ:=((List Int))) (fun s143 =>
cond ((decide (s143.1 < b_2))) (Option.bind (iter (σ:=(Int × (List Int))) (τ:=((List Int))) (fun s190 =>
cond ((decide (s190.1 > a_1))) (Option.bind (idx s190.2 s190.1) fun x201 =>
Option.bind (idx s190.2 ((w64 (s190.1 - 1)))) fun x202 =>
Option.bind (zu2 x201 x202) fun y203 =>
cond (y203) (Option.bind (idx s190.2 ((w64 (s190.1 - 1)))) fun x209 =>
Option.bind (idx s190.2 s190.1) fun x210 =>
Option.bind (idx s190.2 s190.1) fun x211 =>
Option.bind (idx ((s190.2).set (Int.toNat s190.1) x209) ((w64 (s190.1 - 1)))) fun x212 =>
some (.inl (((w64 (s190.1 - 1)),((s190.2).set (Int.toNat s190.1) x209).set (Int.toNat ((w64 (s190.1 - 1)))) x210)))) (some (.inr s190.2))) (some (.inr s190.2))) big ((s143.1,s143.2))) fun t214 =>
some (.inl (((w64 (s143.1 + 1)),t214)))) (some (.inr s143.2))) big (((w64 (a_1 + 1)),data_0))) fun t216 =>
some t216
def zj9 (x_0:Int):Option (Int) :=
cond ((decide (x_0 ≥ 65536))) (Option.bind (shrO .u32 x_0 16) fun x2 =>
cond ((decide (x2 ≥ 256))) (Option.bind (shrO .u32 x2 8) fun x4 =>
Option.bind (idx strtab0 ((IntKind.u8.wrap x4))) fun x5 =>
some ((w64 ((w64 (16 + 8)) + (w64 x5))))) (Option.bind (idx strtab0 ((IntKind.u8.wrap x2))) fun x6 =>
some ((w64 (16 + (w64 x6)))))) (cond ((decide (x_0 ≥ 256))) (Option.bind (shrO .u32 x_0 8) fun x8 =>
Option.bind (idx strtab0 ((IntKind.u8.wrap x8))) fun x9 =>
some ((w64 ((w64 (0 + 8)) + (w64 x9))))) (Option.bind (idx strtab0 ((IntKind.u8.wrap x_0))) fun x10 =>
some ((w64 (0 + (w64 x10))))))
def zw7 (x_0:Int):Option (Int) :=
cond ((decide (x_0 ≥ 4294967296))) (Option.bind (shrO .u64 x_0 32) fun x2 =>
cond ((decide (x2 ≥ 65536))) (Option.bind (shrO .u64 x2 16) fun x4 =>
cond ((decide (x4 ≥ 256))) (Option.bind (shrO .u64 x4 8) fun x6 =>
Option.bind (idx strtab0 ((IntKind.u8.wrap x6))) fun x7 =>
some ((w64 ((w64 ((w64 (32 + 16)) + 8)) + (w64 x7))))) (Option.bind (idx strtab0 ((IntKind.u8.wrap x4))) fun x8 =>
some ((w64 ((w64 (32 + 16)) + (w64 x8)))))) (cond ((decide (x2 ≥ 256))) (Option.bind (shrO .u64 x2 8) fun x10 =>
Option.bind (idx strtab0 ((IntKind.u8.wrap x10))) fun x11 =>
some ((w64 ((w64 (32 + 8)) + (w64 x11))))) (Option.bind (idx strtab0 ((IntKind.u8.wrap x2))) fun x12 =>
some ((w64 (32 + (w64 x12))))))) (cond ((decide (x_0 ≥ 65536))) (Option.bind (shrO .u64 x_0 16) fun x14 =>
cond ((decide (x14 ≥ 256))) (Option.bind (shrO .u64 x14 8) fun x16 =>
Option.bind (idx strtab0 ((IntKind.u8.wrap x16))) fun x17 =>
some ((w64 ((w64 ((w64 (0 + 16)) + 8)) + (w64 x17))))) (Option.bind (idx strtab0 ((IntKind.u8.wrap x14))) fun x18 =>
some ((w64 ((w64 (0 + 16)) + (w64 x18)))))) (cond ((decide (x_0 ≥ 256))) (Option.bind (shrO .u64 x_0 8) fun x20 =>
Option.bind (idx strtab0 ((IntKind.u8.wrap x20))) fun x21 =>
some ((w64 ((w64 (0 + 8)) + (w64 x21))))) (Option.bind (idx strtab0 ((IntKind.u8.wrap x_0))) fun x22 =>
some ((w64 (0 + (w64 x22)))))))
def zx5 (x_0:Int):Option (Int) :=
Option.bind (zw7 x_0) fun y2 =>
some y2
def zn7 (length_0:Int):Option (Int) :=
Option.bind (zx5 ((IntKind.u64.wrap length_0))) fun y1 =>
Option.bind (shlO .u64 1 y1) fun x2 =>
some x2
def zd3   (p_0:(List Int)) (p_1:Int) (p_2:Int) (p_3:Int):Option ((List Int)) :=
Option.bind (iter (σ:=(Int × Int × Int × Bool × Bool × (List Int))) (τ:=((List Int))) (fun s11 =>
cond ((decide ((w64 (s11.2.1 - s11.1)) ≤ 12))) (Option.bind (zd1 s11.2.2.2.2.2 s11.1 s11.2.1) fun y14 =>
some (.inr y14)) (cond ((s11.2.2.1 == 0)) (none) (cond ((!s11.2.2.2.1)) (none) (none)))) big ((p_1,p_2,p_3,true,true,p_0))) fun t18 =>
some t18
def zt3   (x_0:(List Int)):Option ((List Int)) :=
Option.bind (zx5 ((IntKind.u64.wrap ((lenI x_0))))) fun y1 =>
Option.bind (zd3 x_0 0 ((lenI x_0)) y1) fun y2 =>
some y2
def zd7 (n_0:Int):Option (AMove) :=
Option.bind (divO .i64 n_0 2) fun x2 =>
Option.bind (remO n_0 2) fun x3 =>
some (((x2,(x3 == 1),()):AMove))
def zl3 {σ τ:Type} (step:σ → (AMove) → Option (σ ⊕ τ)) (s_:σ) (p_1:zn2) (p_2:AMove):Option ((σ ⊕ τ)) :=
Option.bind (zv5 p_2) fun y5 =>
Option.bind (zb4 p_1.1 y5) fun y6 =>
Option.bind (idx p_1.1.1 y6) fun x7 =>
Option.bind (iter (σ:=((List Int) × Int)) (τ:=((List Int))) (fun s20 =>
cond ((decide (s20.2 < (lenI x7.2.2.1)))) (Option.bind (idx x7.2.2.1 s20.2) fun x23 =>
Option.bind (zv5 p_2) fun y27 =>
Option.bind (ze3 (((x7,()):zk1)) (((mget p_1.2.2.1 y27).getD 0)) s20.2) fun y28 =>
cond (y28) (Option.bind (zq5 (((x23.1,x23.2.1,()):AMove))) fun y30 =>
Option.bind (appO 8 s20.1 ([y30])) fun x31 =>
some (.inl ((x31,(w64 (s20.2 + 1)))))) (some (.inl ((s20.1,(w64 (s20.2 + 1))))))) (some (.inr s20.1))) big (([],0))) fun t33 =>
Option.bind (zt3 t33) fun y35 =>
Option.bind (iter (σ:=(Int × (σ ⊕ τ))) (τ:=((σ ⊕ τ)) ⊕ (((σ ⊕ τ)))) (fun s50 =>
cond ((decide (s50.1 < (lenI y35)))) (Option.bind (idx y35 s50.1) fun x53 =>
Option.bind (zd7 x53) fun y54 =>
Option.bind (goL s50.2) fun s55 =>
Option.bind (step s55 y54) fun y56 =>
cond ((!(y56).isLeft)) (some (.inr ((.inr y56)))) (some (.inl (((w64 (s50.1 + 1)),y56))))) (some (.inr ((.inl s50.2))))) big ((0,(.inl s_)))) fun t59 =>
alt (fun b61=>some b61) (fun b62=>some b62) t59
def za5 (n_0:zn2) (m_1:AMove):Option ((zn2 × AMove)) :=
some ((n_0,m_1))
def zq2 (n_0:zn2) (m_1:AMove) (k_2:AMove):Option (Bool) :=
Option.bind (za5 n_0 m_1) fun y2 =>
Option.bind (zl3 (σ:=(Bool)) (τ:=(Bool)) (fun s8 x3 =>
cond ((x3 == k_2)) (some (.inr true)) (some (.inl s8))) false y2.1 y2.2) fun t12 =>
alt (fun b14=>some false) (fun b15=>some b15) t12
def zh4 (n_0:zn2) (l_1:(List AMove)):Option (Bool) :=
Option.bind (iter (σ:=(Int)) (τ:=Unit ⊕ (Bool)) (fun s22 =>
cond ((decide (s22 < (lenI l_1)))) (Option.bind (idx l_1 s22) fun x25 =>
Option.bind (zz2 n_0 x25) fun y37 =>
cond ((!y37)) (some (.inr ((.inr false)))) (cond ((decide (s22 > 0))) (Option.bind (idx l_1 ((w64 (s22 - 1)))) fun x41 =>
Option.bind (zq2 n_0 x41 x25) fun y42 =>
cond ((!y42)) (some (.inr ((.inr false)))) (some (.inl ((w64 (s22 + 1)))))) (some (.inl ((w64 (s22 + 1))))))) (some (.inr ((.inl (())))))) big 0) fun t45 =>
alt (fun b47=>Option.bind (zw ((lenI l_1)) 1 2000) fun y49 =>
some y49) (fun b48=>some b48) t45
def zv2 (n_0:zn2) (l_1:(List AMove)):Option (Int) :=
Option.bind (iter (σ:=(Int × Int)) (τ:=(Int)) (fun s6 =>
cond ((decide (s6.2 < (lenI l_1)))) (Option.bind (idx l_1 s6.2) fun x9 =>
Option.bind (idx n_0.2.1 x9.1) fun x12 =>
some (.inl (((w64 (s6.1 + x12)),(w64 (s6.2 + 1)))))) (some (.inr s6.1))) big ((0,0))) fun t13 =>
some t13
def zd4 (p_0:Plan) (way_1:(List AMove)):Option (Int × Int) :=
Option.bind (zc7 p_0) fun y1 =>
Option.bind (cond ((!y1.2)) (some true) (Option.bind (y1.1) fun p7 =>
Option.bind (zh4 p7 way_1) fun y8 =>
some ((!y8)))) fun c5 =>
cond (c5) (some ((0,2))) (Option.bind (y1.1) fun p10 =>
Option.bind (zv2 p10 way_1) fun y11 =>
some ((y11,0)))
def zc4 (p_0:Plan) (rail_1:Int):Option (Int × Int) :=
Option.bind (zc7 p_0) fun y1 =>
Option.bind (cond ((!y1.2)) (some true) (Option.bind (y1.1) fun p7 =>
Option.bind (zz2 p7 (((rail_1,false,()):AMove))) fun y8 =>
some ((!y8)))) fun c5 =>
cond (c5) (some ((0,2))) (Option.bind (y1.1) fun p10 =>
Option.bind (idx p10.2.1 rail_1) fun x11 =>
some ((x11,0)))
def zn6 (p_0:Plan) (p_1:(List AMove)) (p_2:Train) (p_3:Int) (p_4:(List Int)):Option ((Option zz1) × Bool) :=
Option.bind (zc5 p_2 p_3) fun y1 =>
Option.bind (zd4 p_0 p_1) fun y2 =>
Option.bind (cond ((!y1.2)) (some true) (cond ((y2.2 != 0)) (some true) (Option.bind (zn ((lenI p_4)) 2 100) fun y20 =>
cond ((!y20)) (some true) (Option.bind (idx p_4 0) fun x22 =>
cond ((decide (x22 < p_2.2.1))) (some true) (Option.bind (idx p_4 ((w64 ((lenI p_4) - 1)))) fun x24 =>
some ((decide (x24 > y2.1)))))))) fun c17 =>
cond (c17) (some (((none:Option zz1),false))) (Option.bind (iter (σ:=(Int)) (τ:=Unit ⊕ ((Option zz1) × Bool)) (fun s32 =>
cond ((decide (s32 < (lenI p_4)))) (Option.bind (idx p_4 s32) fun x37 =>
Option.bind (idx p_4 ((w64 (s32 - 1)))) fun x38 =>
cond ((decide (x37 ≤ x38))) (some (.inr ((.inr (((none:Option zz1),false)))))) (some (.inl ((w64 (s32 + 1)))))) (some (.inr ((.inl (())))))) big 1) fun t40 =>
alt (fun b42=>Option.bind (y1.1) fun p44 =>
Option.bind (iter (σ:=(Int × Int × (List Int) × (List Int) × (List Int))) (τ:=((List Int) × (List Int) × (List Int)) ⊕ ((Option zz1) × Bool × (List Int) × (List Int) × (List Int))) (fun s110 =>
cond ((decide (s110.2.1 < (lenI p_1)))) (Option.bind (idx p_1 s110.2.1) fun x113 =>
Option.bind (zc4 p_0 x113.1) fun y115 =>
cond ((y115.2 != 0)) (some (.inr ((.inr (((none:Option zz1),false,s110.2.2.2.2,s110.2.2.2.1,s110.2.2.1)))))) (Option.bind (idx p_0.2.1 x113.1) fun x117 =>
cond (x113.2.1) (Option.bind (appO 8 s110.2.2.2.2 ([(w64 (s110.1 + y115.1))])) fun x126 =>
Option.bind (appO 8 s110.2.2.2.1 ([x117.2.2.2.1])) fun x128 =>
Option.bind (appO 8 s110.2.2.1 ([(w64 (0 - x117.2.2.2.2.1))])) fun x130 =>
some (.inl (((w64 (s110.1 + y115.1)),(w64 (s110.2.1 + 1)),x130,x128,x126)))) (Option.bind (appO 8 s110.2.2.2.2 ([(w64 (s110.1 + y115.1))])) fun x138 =>
Option.bind (appO 8 s110.2.2.2.1 ([x117.2.2.2.1])) fun x140 =>
Option.bind (appO 8 s110.2.2.1 ([x117.2.2.2.2.1])) fun x142 =>
some (.inl (((w64 (s110.1 + y115.1)),(w64 (s110.2.1 + 1)),x142,x140,x138)))))) (some (.inr ((.inl ((s110.2.2.2.2,s110.2.2.2.1,s110.2.2.1))))))) big ((0,0,[],[],[]))) fun t144 =>
alt (fun b146=>some (((some ((p44,p_1,b146.1,b146.2.1,b146.2.2,p_4,()))),true))) (fun b147=>some ((b147.1,b147.2.1))) t144) (fun b43=>some ((b43.1,b43.2))) t40)
def zm4 (x_0:Int):Option (Bool) :=
some ((x_0 != x_0))
def zr (x_0:(List Int)) (target_1:Int):Option (Int × Bool) :=
Option.bind (iter (σ:=(Int × Int)) (τ:=(Int)) (fun s6 =>
cond ((decide (s6.1 < s6.2))) (Option.bind (shrO .u64 ((IntKind.u64.wrap ((w64 (s6.1 + s6.2))))) 1) fun x9 =>
Option.bind (idx x_0 ((w64 x9))) fun x10 =>
Option.bind (zu2 x10 target_1) fun y11 =>
cond (y11) (some (.inl (((w64 ((w64 x9) + 1)),s6.2)))) (some (.inl ((s6.1,(w64 x9)))))) (some (.inr s6.1))) big ((0,(lenI x_0)))) fun t13 =>
Option.bind (cond ((decide (t13 < (lenI x_0)))) (Option.bind (idx x_0 t13) fun x24 =>
cond ((x24 == target_1)) (some ((t13,true))) (Option.bind (idx x_0 t13) fun x26 =>
Option.bind (zm4 x26) fun y27 =>
cond (y27) (Option.bind (zm4 target_1) fun y29 =>
some ((t13,y29))) (some ((t13,false))))) (some ((t13,false)))) fun c22 =>
some ((c22.1,c22.2))
def zy (r_0:zz1) (x_1:MotionState):Option (Int) :=
Option.bind (zp r_0.1 x_1) fun y2 =>
Option.bind (zr r_0.2.2.1 ((w64 (y2 + 1)))) fun y3 =>
Option.bind (idx r_0.2.2.2.2.1 ((min y3.1 ((w64 ((lenI r_0.2.2.2.2.1) - 1)))))) fun x5 =>
some x5
def zn4 (p_0:zz1) (p_1:MotionState):Option (Int) :=
Option.bind (zp p_0.1 p_1) fun y2 =>
Option.bind (zr p_0.2.2.1 ((w64 ((w64 (y2 - p_0.1.1.2.1)) + 1)))) fun y3 =>
Option.bind (iter (σ:=(Int × Int)) (τ:=(Int)) (fun s8 =>
cond ((decide (s8.2 < (lenI p_0.2.2.1)))) (Option.bind (idx p_0.2.2.2.1 s8.2) fun x11 =>
Option.bind (idx p_0.2.2.1 s8.2) fun x12 =>
cond ((decide (x12 ≥ y2))) (some (.inr (((min s8.1 x11))))) (some (.inl (((min s8.1 x11),(w64 (s8.2 + 1))))))) (some (.inr s8.1))) big ((p_0.1.1.2.2.1,y3.1))) fun t14 =>
some t14
def zn3 (r_0:zz1) (x_1:MotionState) (stop_2:Int):Option (Bool) :=
Option.bind (Option.bind (zp r_0.1 x_1) fun y10 =>
cond ((decide (y10 ≤ stop_2))) (Option.bind (zr2 r_0.1 x_1) fun y12 =>
Option.bind (zn4 r_0 x_1) fun y13 =>
some ((decide (y12 ≤ y13)))) (some false)) fun c9 =>
some c9
def ze4 (r_0:zz1) (x_1:MotionState) (stop_2:Int):Option (Bool) :=
Option.bind (zn3 r_0 x_1 stop_2) fun y2 =>
cond ((!y2)) (some false) (Option.bind (zp2 r_0.1 x_1 ((fun x=>zy r_0 x))) fun y7 =>
Option.bind (zd2 (σ:=(Int × Int)) (τ:=(Int × Int)) (fun s16 x9 =>
Option.bind (zn3 r_0 x9 stop_2) fun y19 =>
cond ((!y19)) (some (.inr ((s16.1,s16.2)))) (some (.inl ((x9.1,x9.2.1))))) ((x_1.1,x_1.2.1)) y7.1 y7.2.1 y7.2.2) fun t21 =>
alt (fun b23=>some ((b23.1 == 0))) (fun b24=>some false) t21.1)
def zl2 (r_0:zz1) (x_1:MotionState) (stop_2:Int):Option (za4 × Bool) :=
Option.bind (zy r_0 x_1) fun y2 =>
Option.bind (iter (σ:=(Bool × Int × Int × Int × Int × Int × Int × Int × Int × Int × Int × Int)) (τ:=(Bool × Int × Int × Int × Int × Int × Int × Int × Int × Int × Int)) (fun s26 =>
cond ((decide (s26.2.1 < 9))) (Option.bind (zq1 r_0.1 x_1 ((w64 (4 - s26.2.1))) y2) fun y31 =>
cond (y31.2) (Option.bind (ze4 r_0 y31.1.1 stop_2) fun y36 =>
cond (y36) (some (.inr (((true,y31.1.1.1,y31.1.1.2.1,y31.1.2.1.1,y31.1.2.1.2.1,y31.1.2.1.2.2.1,y31.1.2.1.2.2.2.1,y31.1.2.1.2.2.2.2.1,y31.1.2.1.2.2.2.2.2.1,y31.1.2.2.1,y31.1.2.2.2.1))))) (some (.inl ((s26.1,(w64 (s26.2.1 + 1)),s26.2.2.1,s26.2.2.2.1,s26.2.2.2.2.1,s26.2.2.2.2.2.1,s26.2.2.2.2.2.2.1,s26.2.2.2.2.2.2.2.1,s26.2.2.2.2.2.2.2.2.1,s26.2.2.2.2.2.2.2.2.2.1,s26.2.2.2.2.2.2.2.2.2.2.1,s26.2.2.2.2.2.2.2.2.2.2.2))))) (some (.inl ((s26.1,(w64 (s26.2.1 + 1)),s26.2.2.1,s26.2.2.2.1,s26.2.2.2.2.1,s26.2.2.2.2.2.1,s26.2.2.2.2.2.2.1,s26.2.2.2.2.2.2.2.1,s26.2.2.2.2.2.2.2.2.1,s26.2.2.2.2.2.2.2.2.2.1,s26.2.2.2.2.2.2.2.2.2.2.1,s26.2.2.2.2.2.2.2.2.2.2.2))))) (some (.inr (((s26.1,s26.2.2.1,s26.2.2.2.1,s26.2.2.2.2.1,s26.2.2.2.2.2.1,s26.2.2.2.2.2.2.1,s26.2.2.2.2.2.2.2.1,s26.2.2.2.2.2.2.2.2.1,s26.2.2.2.2.2.2.2.2.2.1,s26.2.2.2.2.2.2.2.2.2.2.1,s26.2.2.2.2.2.2.2.2.2.2.2)))))) big ((false,0,0,0,0,0,0,0,0,0,0,0))) fun t39 =>
some ((((t39.2.1,t39.2.2.1,()),(t39.2.2.2.1,t39.2.2.2.2.1,t39.2.2.2.2.2.1,t39.2.2.2.2.2.2.1,t39.2.2.2.2.2.2.2.1,t39.2.2.2.2.2.2.2.2.1,()),t39.2.2.2.2.2.2.2.2.2.1,t39.2.2.2.2.2.2.2.2.2.2,()),t39.1))
def zi5 (l_0:(List MotionLedger)):Option (MotionLedger) :=
Option.bind (iter (σ:=(Int × Int × Int × Int × Int × Int × Int)) (τ:=(Int × Int × Int × Int × Int × Int)) (fun s9 =>
cond ((decide (s9.1 < (lenI l_0)))) (Option.bind (idx l_0 s9.1) fun x12 =>
some (.inl (((w64 (s9.1 + 1)),(w64 (s9.2.1 + x12.1)),(w64 (s9.2.2.1 + x12.2.1)),(w64 (s9.2.2.2.1 + x12.2.2.1)),(w64 (s9.2.2.2.2.1 + x12.2.2.2.1)),(w64 (s9.2.2.2.2.2.1 + x12.2.2.2.2.1)),(w64 (s9.2.2.2.2.2.2 + x12.2.2.2.2.2.1)))))) (some (.inr (((s9.2.1,s9.2.2.1,s9.2.2.2.1,s9.2.2.2.2.1,s9.2.2.2.2.2.1,s9.2.2.2.2.2.2)))))) big ((0,0,0,0,0,0,0))) fun t14 =>
some ((t14.1,t14.2.1,t14.2.2.1,t14.2.2.2.1,t14.2.2.2.2.1,t14.2.2.2.2.2,()))
def zf3 (p_0:zz1) (p_1:MotionState) (p_2:Int):Option (Leg × MotionState × Bool) :=
Option.bind (iter (σ:=(Int × Int × Int × Int × Int × Int × Int × Int × Int × Int × Int × Int × Int × Int × Int × Int × Int × Int × Int × Int × Int × Int × Int × Int × Int)) (τ:=(Bool × Int × Int × Int × Int × Int × Int × Int × Int × Int × Int × Int × Int × Int × Int × Int × Int × Int × Int × Int × Int × Int × Int × Int × Int)) (fun s77 =>
Option.bind (zp p_0.1 ((s77.2.2.2.2.2.2.2.2.2.2.2.2.2.2.1,s77.2.2.2.2.2.2.2.2.2.2.2.2.2.2.2.1,()))) fun y80 =>
cond ((s77.2.2.2.2.2.2.2.2.2.2.2.2.2.2.1 == 0)) (Option.bind (zn ((w64 (p_2 - y80))) 0 1000) fun y84 =>
cond (y84) (some (.inr (((true,y80,s77.2.2.2.2.2.2.2.2.2.2.2.2.2.2.1,s77.2.2.2.2.2.2.2.2.2.2.2.2.2.2.2.1,s77.2.1,y80,s77.2.2.2.1,s77.2.2.2.2.1,s77.2.2.2.2.2.1,s77.2.2.2.2.2.2.1,s77.2.2.2.2.2.2.2.1,s77.2.2.2.2.2.2.2.2.1,s77.2.2.2.2.2.2.2.2.2.1,s77.2.2.2.2.2.2.2.2.2.2.1,s77.2.1,s77.2.2.2.1,s77.2.2.2.2.1,s77.2.2.2.2.2.1,s77.2.2.2.2.2.2.1,s77.2.2.2.2.2.2.2.1,s77.2.2.2.2.2.2.2.2.1,s77.2.2.2.2.2.2.2.2.2.1,s77.2.2.2.2.2.2.2.2.2.2.1,s77.2.2.2.2.2.2.2.2.2.2.2.2.2.2.1,s77.2.2.2.2.2.2.2.2.2.2.2.2.2.2.2.1))))) (cond ((s77.1 == 36000)) (some (.inr (((false,s77.2.2.1,s77.2.2.2.2.2.2.2.2.2.2.2.2.2.2.1,s77.2.2.2.2.2.2.2.2.2.2.2.2.2.2.2.1,s77.2.1,s77.2.2.1,s77.2.2.2.1,s77.2.2.2.2.1,s77.2.2.2.2.2.1,s77.2.2.2.2.2.2.1,s77.2.2.2.2.2.2.2.1,s77.2.2.2.2.2.2.2.2.1,s77.2.2.2.2.2.2.2.2.2.1,s77.2.2.2.2.2.2.2.2.2.2.1,s77.2.1,s77.2.2.2.1,s77.2.2.2.2.1,s77.2.2.2.2.2.1,s77.2.2.2.2.2.2.1,s77.2.2.2.2.2.2.2.1,s77.2.2.2.2.2.2.2.2.1,s77.2.2.2.2.2.2.2.2.2.1,s77.2.2.2.2.2.2.2.2.2.2.1,s77.2.2.2.2.2.2.2.2.2.2.2.2.2.2.1,s77.2.2.2.2.2.2.2.2.2.2.2.2.2.2.2.1))))) (Option.bind (zl2 p_0 ((s77.2.2.2.2.2.2.2.2.2.2.2.2.2.2.1,s77.2.2.2.2.2.2.2.2.2.2.2.2.2.2.2.1,())) p_2) fun y87 =>
cond ((!y87.2)) (some (.inr (((false,s77.2.2.1,s77.2.2.2.2.2.2.2.2.2.2.2.2.2.2.1,s77.2.2.2.2.2.2.2.2.2.2.2.2.2.2.2.1,s77.2.1,s77.2.2.1,s77.2.2.2.1,s77.2.2.2.2.1,s77.2.2.2.2.2.1,s77.2.2.2.2.2.2.1,s77.2.2.2.2.2.2.2.1,s77.2.2.2.2.2.2.2.2.1,s77.2.2.2.2.2.2.2.2.2.1,s77.2.2.2.2.2.2.2.2.2.2.1,s77.2.1,s77.2.2.2.1,s77.2.2.2.2.1,s77.2.2.2.2.2.1,s77.2.2.2.2.2.2.1,s77.2.2.2.2.2.2.2.1,s77.2.2.2.2.2.2.2.2.1,s77.2.2.2.2.2.2.2.2.2.1,s77.2.2.2.2.2.2.2.2.2.2.1,s77.2.2.2.2.2.2.2.2.2.2.2.2.2.2.1,s77.2.2.2.2.2.2.2.2.2.2.2.2.2.2.2.1))))) (cond ((decide (y87.1.1.2.1 > 10000000000000000))) (some (.inr (((false,s77.2.2.1,s77.2.2.2.2.2.2.2.2.2.2.2.2.2.2.1,s77.2.2.2.2.2.2.2.2.2.2.2.2.2.2.2.1,s77.2.1,s77.2.2.1,s77.2.2.2.1,s77.2.2.2.2.1,s77.2.2.2.2.2.1,s77.2.2.2.2.2.2.1,s77.2.2.2.2.2.2.2.1,s77.2.2.2.2.2.2.2.2.1,s77.2.2.2.2.2.2.2.2.2.1,s77.2.2.2.2.2.2.2.2.2.2.1,s77.2.1,s77.2.2.2.1,s77.2.2.2.2.1,s77.2.2.2.2.2.1,s77.2.2.2.2.2.2.1,s77.2.2.2.2.2.2.2.1,s77.2.2.2.2.2.2.2.2.1,s77.2.2.2.2.2.2.2.2.2.1,s77.2.2.2.2.2.2.2.2.2.2.1,s77.2.2.2.2.2.2.2.2.2.2.2.2.2.2.1,s77.2.2.2.2.2.2.2.2.2.2.2.2.2.2.2.1))))) (Option.bind (zi5 ([(s77.2.2.2.1,s77.2.2.2.2.1,s77.2.2.2.2.2.1,s77.2.2.2.2.2.2.1,s77.2.2.2.2.2.2.2.1,s77.2.2.2.2.2.2.2.2.1,()),y87.1.2.1])) fun y93 =>
some (.inl (((w64 (s77.1 + 1)),(w64 (s77.2.1 + 100)),s77.2.2.1,y93.1,y93.2.1,y93.2.2.1,y93.2.2.2.1,y93.2.2.2.2.1,y93.2.2.2.2.2.1,(max s77.2.2.2.2.2.2.2.2.2.1 y87.1.2.2.1),(max s77.2.2.2.2.2.2.2.2.2.2.1 y87.1.2.2.2.1),s77.2.2.2.2.2.2.2.2.2.2.2.1,s77.2.2.2.2.2.2.2.2.2.2.2.2.1,s77.2.2.2.2.2.2.2.2.2.2.2.2.2.1,y87.1.1.1,y87.1.1.2.1,s77.2.2.2.2.2.2.2.2.2.2.2.2.2.2.2.2.1,s77.2.2.2.2.2.2.2.2.2.2.2.2.2.2.2.2.2.1,s77.2.2.2.2.2.2.2.2.2.2.2.2.2.2.2.2.2.2.1,s77.2.2.2.2.2.2.2.2.2.2.2.2.2.2.2.2.2.2.2.1,s77.2.2.2.2.2.2.2.2.2.2.2.2.2.2.2.2.2.2.2.2.1,s77.2.2.2.2.2.2.2.2.2.2.2.2.2.2.2.2.2.2.2.2.2.1,s77.2.2.2.2.2.2.2.2.2.2.2.2.2.2.2.2.2.2.2.2.2.2.1,s77.2.2.2.2.2.2.2.2.2.2.2.2.2.2.2.2.2.2.2.2.2.2.2.1,s77.2.2.2.2.2.2.2.2.2.2.2.2.2.2.2.2.2.2.2.2.2.2.2.2)))))))) (cond ((s77.1 == 36000)) (some (.inr (((false,s77.2.2.1,s77.2.2.2.2.2.2.2.2.2.2.2.2.2.2.1,s77.2.2.2.2.2.2.2.2.2.2.2.2.2.2.2.1,s77.2.1,s77.2.2.1,s77.2.2.2.1,s77.2.2.2.2.1,s77.2.2.2.2.2.1,s77.2.2.2.2.2.2.1,s77.2.2.2.2.2.2.2.1,s77.2.2.2.2.2.2.2.2.1,s77.2.2.2.2.2.2.2.2.2.1,s77.2.2.2.2.2.2.2.2.2.2.1,s77.2.1,s77.2.2.2.1,s77.2.2.2.2.1,s77.2.2.2.2.2.1,s77.2.2.2.2.2.2.1,s77.2.2.2.2.2.2.2.1,s77.2.2.2.2.2.2.2.2.1,s77.2.2.2.2.2.2.2.2.2.1,s77.2.2.2.2.2.2.2.2.2.2.1,s77.2.2.2.2.2.2.2.2.2.2.2.2.2.2.1,s77.2.2.2.2.2.2.2.2.2.2.2.2.2.2.2.1))))) (Option.bind (zl2 p_0 ((s77.2.2.2.2.2.2.2.2.2.2.2.2.2.2.1,s77.2.2.2.2.2.2.2.2.2.2.2.2.2.2.2.1,())) p_2) fun y96 =>
cond ((!y96.2)) (some (.inr (((false,s77.2.2.1,s77.2.2.2.2.2.2.2.2.2.2.2.2.2.2.1,s77.2.2.2.2.2.2.2.2.2.2.2.2.2.2.2.1,s77.2.1,s77.2.2.1,s77.2.2.2.1,s77.2.2.2.2.1,s77.2.2.2.2.2.1,s77.2.2.2.2.2.2.1,s77.2.2.2.2.2.2.2.1,s77.2.2.2.2.2.2.2.2.1,s77.2.2.2.2.2.2.2.2.2.1,s77.2.2.2.2.2.2.2.2.2.2.1,s77.2.1,s77.2.2.2.1,s77.2.2.2.2.1,s77.2.2.2.2.2.1,s77.2.2.2.2.2.2.1,s77.2.2.2.2.2.2.2.1,s77.2.2.2.2.2.2.2.2.1,s77.2.2.2.2.2.2.2.2.2.1,s77.2.2.2.2.2.2.2.2.2.2.1,s77.2.2.2.2.2.2.2.2.2.2.2.2.2.2.1,s77.2.2.2.2.2.2.2.2.2.2.2.2.2.2.2.1))))) (cond ((decide (y96.1.1.2.1 > 10000000000000000))) (some (.inr (((false,s77.2.2.1,s77.2.2.2.2.2.2.2.2.2.2.2.2.2.2.1,s77.2.2.2.2.2.2.2.2.2.2.2.2.2.2.2.1,s77.2.1,s77.2.2.1,s77.2.2.2.1,s77.2.2.2.2.1,s77.2.2.2.2.2.1,s77.2.2.2.2.2.2.1,s77.2.2.2.2.2.2.2.1,s77.2.2.2.2.2.2.2.2.1,s77.2.2.2.2.2.2.2.2.2.1,s77.2.2.2.2.2.2.2.2.2.2.1,s77.2.1,s77.2.2.2.1,s77.2.2.2.2.1,s77.2.2.2.2.2.1,s77.2.2.2.2.2.2.1,s77.2.2.2.2.2.2.2.1,s77.2.2.2.2.2.2.2.2.1,s77.2.2.2.2.2.2.2.2.2.1,s77.2.2.2.2.2.2.2.2.2.2.1,s77.2.2.2.2.2.2.2.2.2.2.2.2.2.2.1,s77.2.2.2.2.2.2.2.2.2.2.2.2.2.2.2.1))))) (Option.bind (zi5 ([(s77.2.2.2.1,s77.2.2.2.2.1,s77.2.2.2.2.2.1,s77.2.2.2.2.2.2.1,s77.2.2.2.2.2.2.2.1,s77.2.2.2.2.2.2.2.2.1,()),y96.1.2.1])) fun y102 =>
some (.inl (((w64 (s77.1 + 1)),(w64 (s77.2.1 + 100)),s77.2.2.1,y102.1,y102.2.1,y102.2.2.1,y102.2.2.2.1,y102.2.2.2.2.1,y102.2.2.2.2.2.1,(max s77.2.2.2.2.2.2.2.2.2.1 y96.1.2.2.1),(max s77.2.2.2.2.2.2.2.2.2.2.1 y96.1.2.2.2.1),s77.2.2.2.2.2.2.2.2.2.2.2.1,s77.2.2.2.2.2.2.2.2.2.2.2.2.1,s77.2.2.2.2.2.2.2.2.2.2.2.2.2.1,y96.1.1.1,y96.1.1.2.1,s77.2.2.2.2.2.2.2.2.2.2.2.2.2.2.2.2.1,s77.2.2.2.2.2.2.2.2.2.2.2.2.2.2.2.2.2.1,s77.2.2.2.2.2.2.2.2.2.2.2.2.2.2.2.2.2.2.1,s77.2.2.2.2.2.2.2.2.2.2.2.2.2.2.2.2.2.2.2.1,s77.2.2.2.2.2.2.2.2.2.2.2.2.2.2.2.2.2.2.2.2.1,s77.2.2.2.2.2.2.2.2.2.2.2.2.2.2.2.2.2.2.2.2.2.1,s77.2.2.2.2.2.2.2.2.2.2.2.2.2.2.2.2.2.2.2.2.2.2.1,s77.2.2.2.2.2.2.2.2.2.2.2.2.2.2.2.2.2.2.2.2.2.2.2.1,s77.2.2.2.2.2.2.2.2.2.2.2.2.2.2.2.2.2.2.2.2.2.2.2.2)))))))) big ((0,0,0,0,0,0,0,0,0,0,0,0,0,0,p_1.1,p_1.2.1,0,0,0,0,0,0,0,0,0))) fun t103 =>
some (((t103.2.2.2.2.1,t103.2.2.2.2.2.1,(t103.2.2.2.2.2.2.1,t103.2.2.2.2.2.2.2.1,t103.2.2.2.2.2.2.2.2.1,t103.2.2.2.2.2.2.2.2.2.1,t103.2.2.2.2.2.2.2.2.2.2.1,t103.2.2.2.2.2.2.2.2.2.2.2.1,()),t103.2.2.2.2.2.2.2.2.2.2.2.2.1,t103.2.2.2.2.2.2.2.2.2.2.2.2.2.1,()),(t103.2.2.1,t103.2.2.2.1,()),t103.1))
def ze2 (p_0:Plan) (p_1:(List AMove)) (p_2:Train) (p_3:Int) (p_4:(List Int)):Option ((List Leg) × Int) :=
Option.bind (zn6 p_0 p_1 p_2 p_3 p_4) fun y1 =>
cond ((!y1.2)) (some (([],2))) (Option.bind (idx p_4 0) fun x5 =>
Option.bind (slO p_4 1 ((lenI p_4))) fun x7 =>
Option.bind (iter (σ:=((List Leg) × Int × Int × Int)) (τ:=((List Leg) × Int × Int) ⊕ ((List Leg) × Int × Int × Int)) (fun s32 =>
cond ((decide (s32.2.1 < (lenI x7)))) (Option.bind (idx x7 s32.2.1) fun x35 =>
Option.bind (y1.1) fun p36 =>
Option.bind (zf3 p36 ((s32.2.2.1,s32.2.2.2,())) x35) fun y37 =>
cond ((!y37.2.2)) (some (.inr ((.inr (([],4,s32.2.2.1,s32.2.2.2)))))) (cond ((decide (s32.2.2.2 > 10000000000000000))) (some (.inr ((.inr (([],4,s32.2.2.1,s32.2.2.2)))))) (Option.bind (appO 80 s32.1 ([y37.1])) fun x44 =>
some (.inl ((x44,(w64 (s32.2.1 + 1)),y37.2.1.1,y37.2.1.2.1)))))) (some (.inr ((.inl ((s32.1,s32.2.2.1,s32.2.2.2))))))) big (([],0,0,(w64 ((w64 (10 * p_2.1)) * x5))))) fun t46 =>
alt (fun b48=>some ((b48.1,0))) (fun b49=>some ((b49.1,b49.2.1))) t46)
def zo7 :Option (Train × Plan) :=
some ((((1000,5000,10000,2000,1000,1000000,0,0,50,[1000,10],()):Train),(([(((0,0,()),1,[((0,false,()):RailEnd)],0,()):ANode),((((100000,0,()):Spot),1,[((0,true,()):RailEnd)],0,()):ANode)],[((0,1,[],8000,0,()):Rail)],()):Plan)))
def za2 :Option (Bool) :=
Option.bind (zo7) fun y1 =>
Option.bind (zf6 y1.1 (((0,0,()):MotionState)) 4 0 0) fun y4 =>
Option.bind (zf6 y1.1 (((1000000,0,()):MotionState)) 0 100 0) fun y7 =>
Option.bind (zw3 y1.1 (((1000000,0,()):MotionState)) 0 0) fun y10 =>
Option.bind (zp5 y1.1 0 0 449) fun y11 =>
Option.bind (ze2 y1.2 ([((0,false,()):AMove)]) y1.1 0 ([5000,7000])) fun y12 =>
Option.bind (cond ((y4.2.2 != 0)) (some true) (cond ((y7.2.2 != 0)) (some true) (cond ((y10.2 != 0)) (some true) (cond ((y11.2 != 0)) (some true) (cond ((y12.2 != 0)) (some true) (some (((lenI y12.1) != 1)))))))) fun c19 =>
cond (c19) (some false) (Option.bind (cond ((y4.1 == ((200000,200000,()):MotionState))) (cond ((y4.2.1.1 == 80000000000)) (cond ((y4.2.1.2.2.2.2.1 == 40000000000)) (cond ((y7.1.1 == 901900)) (cond ((y10.1 == 450)) (cond ((y11.1 == 999)) (Option.bind (idx y12.1 0) fun x40 =>
some ((x40 == ((2500,7000,((2880000000000,2405000000000,0,0,475000000000,0,()):MotionLedger),3200,725,()):Leg)))) (some false)) (some false)) (some false)) (some false)) (some false)) (some false)) fun c33 =>
some c33)
def zr5 (p_0:Train) (p_1:Int) (p_2:Int) (p_3:Int) (p_4:Int):Option (Int × Int × Int × Int) :=
Option.bind (idx p_0.2.2.2.2.2.2.2.2.2.1 p_4) fun x3 =>
Option.bind (divO .i64 ((w64 ((w64 (x3 * p_0.1)) * 981))) 100000) fun x4 =>
cond ((decide (p_2 > 0))) (Option.bind (divO .i64 ((w64 (p_0.2.2.2.1 * p_2))) 4) fun x6 =>
cond ((decide (p_1 > 0))) (Option.bind (divO .i64 ((w64 (1000 * p_0.2.2.2.2.2.1))) p_1) fun x8 =>
cond ((decide (p_2 < 0))) (Option.bind (divO .i64 ((w64 (p_0.2.2.2.2.1 * (w64 (0 - p_2))))) 4) fun x10 =>
Option.bind (divO .i64 ((w64 (p_0.2.2.2.2.2.2.2.1 * p_1))) 1000) fun x13 =>
Option.bind (divO .i64 ((w64 ((w64 (p_0.1 * p_3)) * 981))) 100000) fun x14 =>
some (((min ((min x6 x4)) x8),(min x10 x4),(w64 (p_0.2.2.2.2.2.2.1 + x13)),x14))) (Option.bind (divO .i64 ((w64 (p_0.2.2.2.2.2.2.2.1 * p_1))) 1000) fun x17 =>
Option.bind (divO .i64 ((w64 ((w64 (p_0.1 * p_3)) * 981))) 100000) fun x18 =>
some (((min ((min x6 x4)) x8),0,(w64 (p_0.2.2.2.2.2.2.1 + x17)),x18)))) (cond ((decide (p_2 < 0))) (Option.bind (divO .i64 ((w64 (p_0.2.2.2.2.1 * (w64 (0 - p_2))))) 4) fun x20 =>
Option.bind (divO .i64 ((w64 (p_0.2.2.2.2.2.2.2.1 * p_1))) 1000) fun x23 =>
Option.bind (divO .i64 ((w64 ((w64 (p_0.1 * p_3)) * 981))) 100000) fun x24 =>
some (((min x6 x4),(min x20 x4),(w64 (p_0.2.2.2.2.2.2.1 + x23)),x24))) (Option.bind (divO .i64 ((w64 (p_0.2.2.2.2.2.2.2.1 * p_1))) 1000) fun x27 =>
Option.bind (divO .i64 ((w64 ((w64 (p_0.1 * p_3)) * 981))) 100000) fun x28 =>
some (((min x6 x4),0,(w64 (p_0.2.2.2.2.2.2.1 + x27)),x28))))) (cond ((decide (p_2 < 0))) (Option.bind (divO .i64 ((w64 (p_0.2.2.2.2.1 * (w64 (0 - p_2))))) 4) fun x30 =>
Option.bind (divO .i64 ((w64 (p_0.2.2.2.2.2.2.2.1 * p_1))) 1000) fun x33 =>
Option.bind (divO .i64 ((w64 ((w64 (p_0.1 * p_3)) * 981))) 100000) fun x34 =>
some ((0,(min x30 x4),(w64 (p_0.2.2.2.2.2.2.1 + x33)),x34))) (Option.bind (divO .i64 ((w64 (p_0.2.2.2.2.2.2.2.1 * p_1))) 1000) fun x37 =>
Option.bind (divO .i64 ((w64 ((w64 (p_0.1 * p_3)) * 981))) 100000) fun x38 =>
some ((0,0,(w64 (p_0.2.2.2.2.2.2.1 + x37)),x38))))
def zh2 (p_0:Train) (p_1:MotionState) (p_2:Int) (p_3:Int) (p_4:Int):Option (MotionState × MotionLedger × Bool) :=
Option.bind (divO .i64 p_1.1 p_0.1) fun x5 =>
Option.bind (zr5 p_0 x5 p_2 p_3 p_4) fun y6 =>
Option.bind (cond ((decide ((w64 (p_1.1 + (w64 (100 * (w64 ((w64 ((w64 (y6.1 - y6.2.1)) - y6.2.2.1)) - y6.2.2.2)))))) < 0))) (some true) (cond ((p_1.1 == 0)) (some ((decide ((w64 ((w64 ((w64 (y6.1 - y6.2.1)) - y6.2.2.1)) - y6.2.2.2)) ≤ 0)))) (some false))) fun c10 =>
cond (c10) (some ((((0,(w64 (p_1.2.1 + 0)),()):MotionState),(0,0,0,0,0,(w64 (p_1.1 * p_1.1)),()),(decide (0 ≤ (w64 (25000 * p_0.1))))))) (some (((((w64 (p_1.1 + (w64 (100 * (w64 ((w64 ((w64 (y6.1 - y6.2.1)) - y6.2.2.1)) - y6.2.2.2)))))),(w64 (p_1.2.1 + (w64 (p_1.1 + (w64 (100 * (w64 ((w64 ((w64 (y6.1 - y6.2.1)) - y6.2.2.1)) - y6.2.2.2)))))))),()):MotionState),(((w64 ((w64 (200 * y6.1)) * (w64 (p_1.1 + (w64 (100 * (w64 ((w64 ((w64 (y6.1 - y6.2.1)) - y6.2.2.1)) - y6.2.2.2)))))))),(w64 ((w64 (200 * y6.2.1)) * (w64 (p_1.1 + (w64 (100 * (w64 ((w64 ((w64 (y6.1 - y6.2.1)) - y6.2.2.1)) - y6.2.2.2)))))))),(w64 ((w64 (200 * y6.2.2.1)) * (w64 (p_1.1 + (w64 (100 * (w64 ((w64 ((w64 (y6.1 - y6.2.1)) - y6.2.2.1)) - y6.2.2.2)))))))),(w64 ((w64 (200 * y6.2.2.2)) * (w64 (p_1.1 + (w64 (100 * (w64 ((w64 ((w64 (y6.1 - y6.2.1)) - y6.2.2.1)) - y6.2.2.2)))))))),(w64 ((w64 (10000 * (w64 ((w64 ((w64 (y6.1 - y6.2.1)) - y6.2.2.1)) - y6.2.2.2)))) * (w64 ((w64 ((w64 (y6.1 - y6.2.1)) - y6.2.2.1)) - y6.2.2.2)))),0,()):MotionLedger),(decide ((w64 (p_1.1 + (w64 (100 * (w64 ((w64 ((w64 (y6.1 - y6.2.1)) - y6.2.2.1)) - y6.2.2.2)))))) ≤ (w64 (25000 * p_0.1)))))))
def zu (t_0:Train) (x_1:MotionState):Option (Int) :=
Option.bind (divO .i64 x_1.2.1 ((w64 (10 * t_0.1)))) fun x1 =>
some x1
def zo4 (p_0:Plan) (p_1:(List AMove)) (p_2:Train) (p_3:(List Int)):Option (Bool) :=
Option.bind (cond ((decide ((lenI p_0.2.1) > 8))) (some true) (cond ((decide ((lenI p_0.1) > 10))) (some true) (cond ((decide ((lenI p_1) > 8))) (some true) (cond ((decide ((lenI p_3) > 4))) (some true) (Option.bind (ze6 p_2) fun y11 =>
some ((!y11))))))) fun c6 =>
cond (c6) (some false) (Option.bind (iter (σ:=(Int)) (τ:=Unit ⊕ (Bool)) (fun s19 =>
cond ((decide (s19 < (lenI p_3)))) (Option.bind (idx p_3 s19) fun x24 =>
Option.bind (idx p_3 ((w64 (s19 - 1)))) fun x25 =>
cond ((decide ((w64 (x24 - x25)) > 6000))) (some (.inr ((.inr false)))) (some (.inl ((w64 (s19 + 1)))))) (some (.inr ((.inl (())))))) big 1) fun t27 =>
alt (fun b29=>Option.bind (cond ((decide (p_2.2.2.2.1 ≥ 200))) (cond ((decide (p_2.2.2.2.2.1 ≥ 400))) (cond ((decide (p_2.2.2.1 ≥ 300))) (some true) (Option.bind (zp3 p_2) fun y41 =>
some ((!y41)))) (Option.bind (zp3 p_2) fun y42 =>
some ((!y42)))) (Option.bind (zp3 p_2) fun y43 =>
some ((!y43)))) fun c37 =>
some c37) (fun b30=>some b30) t27)
def zp4 (p_0:Plan) (rail_1:Int):Option ((List Spot)) :=
Option.bind (idx p_0.2.1 rail_1) fun x1 =>
Option.bind (idx p_0.1 x1.1) fun x3 =>
Option.bind (appO 16 ([x3.1]) x1.2.2.1) fun x5 =>
Option.bind (idx p_0.1 x1.2.1) fun x7 =>
Option.bind (appO 16 x5 ([x7.1])) fun x8 =>
some x8
def zy5 (n_0:Int):Option (Int) :=
Option.bind (iter (σ:=(Int × Int)) (τ:=(Int)) (fun s4 =>
cond ((decide ((w64 (s4.2 - s4.1)) > 1))) (Option.bind (divO .i64 ((w64 (s4.1 + s4.2))) 2) fun x7 =>
cond ((decide ((w64 (x7 * x7)) ≤ n_0))) (some (.inl ((x7,s4.2)))) (some (.inl ((s4.1,x7))))) (some (.inr s4.1))) big ((0,30000000))) fun t9 =>
some t9
def zi4 (a_0:Spot) (b_1:Spot):Option (Int) :=
Option.bind (zy5 ((w64 ((w64 ((w64 (a_0.1 - b_1.1)) * (w64 (a_0.1 - b_1.1)))) + (w64 ((w64 (a_0.2.1 - b_1.2.1)) * (w64 (a_0.2.1 - b_1.2.1)))))))) fun y1 =>
some y1
def zf2 (p_0:Plan) (rail_1:Int):Option (Int) :=
Option.bind (zp4 p_0 rail_1) fun y1 =>
Option.bind (iter (σ:=(Int × Int)) (τ:=(Int)) (fun s10 =>
cond ((decide (s10.2 < (lenI y1)))) (Option.bind (idx y1 ((w64 (s10.2 - 1)))) fun x16 =>
Option.bind (idx y1 s10.2) fun x17 =>
Option.bind (zi4 x16 x17) fun y18 =>
some (.inl (((w64 (s10.1 + y18)),(w64 (s10.2 + 1)))))) (some (.inr s10.1))) big ((0,1))) fun t19 =>
some t19
def zb3 (p_0:Plan) (l_1:(List AMove)):Option (Int) :=
Option.bind (iter (σ:=(Int × Int)) (τ:=(Int)) (fun s6 =>
cond ((decide (s6.2 < (lenI l_1)))) (Option.bind (idx l_1 s6.2) fun x11 =>
Option.bind (zf2 p_0 x11.1) fun y12 =>
some (.inl (((w64 (s6.1 + y12)),(w64 (s6.2 + 1)))))) (some (.inr s6.1))) big ((0,0))) fun t13 =>
some t13
def zg1 (n_0:Int) (low_1:Int) (high_2:Int):Option (Bool) :=
Option.bind (cond ((decide (n_0 ≥ low_1))) (some ((decide (n_0 ≤ high_2)))) (some false)) fun c2 =>
some c2
def zs2 (s_0:Spot):Option (Bool) :=
Option.bind (Option.bind (zg1 s_0.1 ((-10000000)) 10000000) fun y5 =>
cond (y5) (Option.bind (zg1 s_0.2.1 ((-10000000)) 10000000) fun y7 =>
some y7) (some false)) fun c4 =>
some c4
def zs1 (k_0:Int):Option (Int) :=
cond ((k_0 == 1)) (some 1) (cond ((k_0 == 2)) (some 2) (cond ((k_0 == 3)) (some 4) (cond ((k_0 == 4)) (cond ((k_0 == 4)) (some 3) (some 0)) (cond ((k_0 == 5)) (cond ((k_0 == 5)) (some 3) (some 0)) (cond ((k_0 == 6)) (some 3) (some 0))))))
def zg6 (p_0:Plan) (e_1:RailEnd):Option (Int) :=
cond (e_1.2.1) (Option.bind (idx p_0.2.1 e_1.1) fun x2 =>
some x2.2.1) (Option.bind (idx p_0.2.1 e_1.1) fun x3 =>
some x3.1)
def zl5 (p_0:Plan):Option (Bool) :=
Option.bind (Option.bind (zg1 ((lenI p_0.1)) 1 300) fun y5 =>
cond ((!y5)) (some true) (Option.bind (zg1 ((lenI p_0.2.1)) 1 400) fun y7 =>
some ((!y7)))) fun c4 =>
cond (c4) (some false) (Option.bind (iter (σ:=(Int)) (τ:=Unit ⊕ (Bool)) (fun s84 =>
cond ((decide (s84 < (lenI p_0.1)))) (Option.bind (idx p_0.1 s84) fun x87 =>
cond ((x87.2.1 == 5)) (Option.bind (zg1 x87.2.2.2.1 1 2) fun y92 =>
Option.bind (zs2 x87.1) fun y105 =>
cond ((!y105)) (some (.inr ((.inr false)))) (Option.bind (zs1 x87.2.1) fun y108 =>
cond ((y108 == 0)) (some (.inr ((.inr false)))) (Option.bind (zs1 x87.2.1) fun y111 =>
cond (((lenI x87.2.2.1) != y111)) (some (.inr ((.inr false)))) (cond ((!y92)) (some (.inr ((.inr false)))) (some (.inl ((w64 (s84 + 1))))))))) (cond ((x87.2.1 == 6)) (Option.bind (zg1 x87.2.2.2.1 1 2) fun y116 =>
Option.bind (zs2 x87.1) fun y129 =>
cond ((!y129)) (some (.inr ((.inr false)))) (Option.bind (zs1 x87.2.1) fun y132 =>
cond ((y132 == 0)) (some (.inr ((.inr false)))) (Option.bind (zs1 x87.2.1) fun y135 =>
cond (((lenI x87.2.2.1) != y135)) (some (.inr ((.inr false)))) (cond ((!y116)) (some (.inr ((.inr false)))) (some (.inl ((w64 (s84 + 1))))))))) (Option.bind (zs2 x87.1) fun y151 =>
cond ((!y151)) (some (.inr ((.inr false)))) (Option.bind (zs1 x87.2.1) fun y154 =>
cond ((y154 == 0)) (some (.inr ((.inr false)))) (Option.bind (zs1 x87.2.1) fun y157 =>
cond (((lenI x87.2.2.1) != y157)) (some (.inr ((.inr false)))) (cond ((!(x87.2.2.2.1 == 0))) (some (.inr ((.inr false)))) (some (.inl ((w64 (s84 + 1))))))))))) (some (.inr ((.inl (())))))) big 0) fun t161 =>
alt (fun b163=>Option.bind (iter (σ:=(Int)) (τ:=Unit ⊕ (Bool)) (fun s231 =>
cond ((decide (s231 < (lenI p_0.2.1)))) (Option.bind (idx p_0.2.1 s231) fun x234 =>
Option.bind (zg1 x234.1 0 ((w64 ((lenI p_0.1) - 1)))) fun y244 =>
cond ((!y244)) (some (.inr ((.inr false)))) (Option.bind (zg1 x234.2.1 0 ((w64 ((lenI p_0.1) - 1)))) fun y247 =>
cond ((!y247)) (some (.inr ((.inr false)))) (cond ((decide ((lenI x234.2.2.1) > 30))) (some (.inr ((.inr false)))) (Option.bind (zg1 x234.2.2.2.1 1 50000) fun y252 =>
cond ((!y252)) (some (.inr ((.inr false)))) (Option.bind (zg1 x234.2.2.2.2.1 ((-120)) 120) fun y255 =>
cond ((!y255)) (some (.inr ((.inr false)))) (Option.bind (iter (σ:=(Int)) (τ:=Unit ⊕ (Bool)) (fun s261 =>
cond ((decide (s261 < (lenI x234.2.2.1)))) (Option.bind (idx x234.2.2.1 s261) fun x264 =>
Option.bind (zs2 x264) fun y265 =>
cond ((!y265)) (some (.inr ((.inr false)))) (some (.inl ((w64 (s261 + 1)))))) (some (.inr ((.inl (())))))) big 0) fun t267 =>
alt (fun b269=>Option.bind (zp4 p_0 s231) fun y271 =>
Option.bind (iter (σ:=(Int)) (τ:=Unit ⊕ (Bool)) (fun s283 =>
cond ((decide (s283 < (lenI y271)))) (Option.bind (idx y271 ((w64 (s283 - 1)))) fun x290 =>
Option.bind (idx y271 s283) fun x291 =>
Option.bind (zi4 x290 x291) fun y292 =>
Option.bind (zg1 y292 1 1000000) fun y293 =>
cond ((!y293)) (some (.inr ((.inr false)))) (some (.inl ((w64 (s283 + 1)))))) (some (.inr ((.inl (())))))) big 1) fun t295 =>
alt (fun b297=>some (.inl ((w64 (s231 + 1))))) (fun b298=>some (.inr ((.inr b298)))) t295) (fun b270=>some (.inr ((.inr b270)))) t267)))))) (some (.inr ((.inl (())))))) big 0) fun t299 =>
alt (fun b301=>Option.bind (iter (σ:=((List RailEnd) × Int)) (τ:=((List RailEnd)) ⊕ (Bool)) (fun s368 =>
cond ((decide (s368.2 < (lenI p_0.1)))) (Option.bind (iter (σ:=((List RailEnd) × Int)) (τ:=((List RailEnd)) ⊕ (Bool)) (fun s400 =>
Option.bind (idx p_0.1 s368.2) fun x402 =>
cond ((decide (s400.2 < (lenI x402.2.2.1)))) (Option.bind (idx p_0.1 s368.2) fun x404 =>
Option.bind (idx x404.2.2.1 s400.2) fun x405 =>
Option.bind (zg1 x405.1 0 ((w64 ((lenI p_0.2.1) - 1)))) fun y410 =>
cond ((!y410)) (some (.inr ((.inr false)))) (Option.bind (zg6 p_0 x405) fun y413 =>
cond ((y413 != s368.2)) (some (.inr ((.inr false)))) (Option.bind (iter (σ:=(Int)) (τ:=Unit ⊕ (Bool)) (fun s419 =>
cond ((decide (s419 < (lenI s400.1)))) (Option.bind (idx s400.1 s419) fun x423 =>
cond ((x423 == x405)) (some (.inr ((.inr false)))) (some (.inl ((w64 (s419 + 1)))))) (some (.inr ((.inl (())))))) big 0) fun t425 =>
alt (fun b427=>Option.bind (appO 16 s400.1 ([x405])) fun x429 =>
some (.inl ((x429,(w64 (s400.2 + 1)))))) (fun b428=>some (.inr ((.inr b428)))) t425))) (some (.inr ((.inl s400.1))))) big ((s368.1,0))) fun t431 =>
alt (fun b433=>some (.inl ((b433,(w64 (s368.2 + 1)))))) (fun b434=>some (.inr ((.inr b434)))) t431) (some (.inr ((.inl s368.1))))) big (([],0))) fun t435 =>
alt (fun b437=>some (((lenI b437) == (w64 (2 * (lenI p_0.2.1)))))) (fun b438=>some b438) t435) (fun b302=>some b302) t299) (fun b164=>some b164) t161)
def zj5 (p_0:Plan) (m_1:AMove):Option (Bool) :=
Option.bind (zg1 m_1.1 0 ((w64 ((lenI p_0.2.1) - 1)))) fun y1 =>
some y1
def ze5 (m_0:AMove):Option (RailEnd) :=
some (((m_0.1,(!m_0.2.1),()):RailEnd))
def zq4 (n_0:ANode) (e_1:RailEnd):Option (Int) :=
Option.bind (iter (σ:=(Int)) (τ:=Unit ⊕ (Int)) (fun s5 =>
cond ((decide (s5 < (lenI n_0.2.2.1)))) (Option.bind (idx n_0.2.2.1 s5) fun x9 =>
cond ((x9 == e_1)) (some (.inr ((.inr s5)))) (some (.inl ((w64 (s5 + 1)))))) (some (.inr ((.inl (())))))) big 0) fun t11 =>
alt (fun b13=>some ((-1))) (fun b14=>some b14) t11
def zo6 (m_0:AMove):Option (RailEnd) :=
some (((m_0.1,m_0.2.1,()):RailEnd))
def zz5 (p_0:ANode) (p_1:Int) (p_2:Int):Option (Bool) :=
cond ((p_0.2.1 == 2)) (some ((p_1 != p_2))) (cond ((p_0.2.1 == 3)) (Option.bind (cond ((p_1 != p_2)) (Option.bind (remO ((w64 (p_1 + p_2))) 2) fun x7 =>
some ((x7 == 0))) (some false)) fun c5 =>
some c5) (cond ((p_0.2.1 == 4)) (Option.bind (cond ((p_1 == 0)) (cond ((decide (p_2 > 0))) (some true) (cond ((decide (p_1 > 0))) (some ((p_2 == 0))) (some false))) (cond ((decide (p_1 > 0))) (some ((p_2 == 0))) (some false))) fun c13 =>
some c13) (cond ((p_0.2.1 == 5)) (Option.bind (cond ((p_1 == 0)) (cond ((p_2 == p_0.2.2.2.1)) (some true) (cond ((decide (p_1 > 0))) (some ((p_2 == 0))) (some false))) (cond ((decide (p_1 > 0))) (some ((p_2 == 0))) (some false))) fun c23 =>
some c23) (cond ((p_0.2.1 == 6)) (Option.bind (cond ((p_1 == 0)) (cond ((p_2 == p_0.2.2.2.1)) (some true) (cond ((p_1 == p_0.2.2.2.1)) (some ((p_2 == 0))) (some false))) (cond ((p_1 == p_0.2.2.2.1)) (some ((p_2 == 0))) (some false))) fun c33 =>
some c33) (some false)))))
def zu3 (p_0:Plan) (m_1:AMove) (n_2:AMove):Option (Bool) :=
Option.bind (ze5 m_1) fun y3 =>
Option.bind (zg6 p_0 y3) fun y4 =>
Option.bind (idx p_0.1 y4) fun x5 =>
Option.bind (ze5 m_1) fun y11 =>
Option.bind (zq4 x5 y11) fun y12 =>
Option.bind (zo6 n_2) fun y13 =>
Option.bind (zq4 x5 y13) fun y14 =>
Option.bind (cond ((decide (y12 ≥ 0))) (cond ((decide (y14 ≥ 0))) (Option.bind (zz5 x5 y12 y14) fun y21 =>
some y21) (some false)) (some false)) fun c18 =>
some c18
def zv6 (p_0:Plan) (l_1:(List AMove)):Option (Bool) :=
Option.bind (iter (σ:=(Int)) (τ:=Unit ⊕ (Bool)) (fun s26 =>
cond ((decide (s26 < (lenI l_1)))) (Option.bind (idx l_1 s26) fun x43 =>
Option.bind (zj5 p_0 x43) fun y44 =>
cond ((!y44)) (some (.inr ((.inr false)))) (cond ((decide (s26 > 0))) (Option.bind (idx l_1 ((w64 (s26 - 1)))) fun x48 =>
Option.bind (idx l_1 s26) fun x49 =>
Option.bind (zu3 p_0 x48 x49) fun y50 =>
cond ((!y50)) (some (.inr ((.inr false)))) (some (.inl ((w64 (s26 + 1)))))) (some (.inl ((w64 (s26 + 1))))))) (some (.inr ((.inl (())))))) big 0) fun t53 =>
alt (fun b55=>Option.bind (zg1 ((lenI l_1)) 1 2000) fun y57 =>
some y57) (fun b56=>some b56) t53
def zr4 (p_0:Plan) (p_1:(List AMove)) (p_2:Train) (p_3:Int) (p_4:(List Int)):Option (Bool) :=
Option.bind (Option.bind (zl5 p_0) fun y24 =>
cond ((!y24)) (some true) (Option.bind (zv6 p_0 p_1) fun y26 =>
cond ((!y26)) (some true) (Option.bind (zp3 p_2) fun y28 =>
cond ((!y28)) (some true) (Option.bind (zt2 p_3 0 ((w64 ((lenI p_2.2.2.2.2.2.2.2.2.2.1) - 1)))) fun y30 =>
cond ((!y30)) (some true) (Option.bind (zt2 ((lenI p_4)) 2 100) fun y32 =>
cond ((!y32)) (some true) (Option.bind (idx p_4 0) fun x34 =>
some ((decide (x34 < p_2.2.1))))))))) fun c23 =>
cond (c23) (some false) (Option.bind (iter (σ:=(Int)) (τ:=Unit ⊕ (Bool)) (fun s42 =>
cond ((decide (s42 < (lenI p_4)))) (Option.bind (idx p_4 s42) fun x47 =>
Option.bind (idx p_4 ((w64 (s42 - 1)))) fun x48 =>
cond ((decide (x47 ≤ x48))) (some (.inr ((.inr false)))) (some (.inl ((w64 (s42 + 1)))))) (some (.inr ((.inl (())))))) big 1) fun t50 =>
alt (fun b52=>Option.bind (idx p_4 ((w64 ((lenI p_4) - 1)))) fun x56 =>
Option.bind (zb3 p_0 p_1) fun y57 =>
some ((decide (x56 ≤ y57)))) (fun b53=>some b53) t50)
def zk5 (p_0:Plan) (p_1:(List AMove)) (p_2:Train) (p_3:Int) (p_4:(List Int)):Option (Bool) :=
Option.bind (Option.bind (idx p_2.2.2.2.2.2.2.2.2.2.1 p_3) fun x5 =>
cond ((decide (x5 < 30))) (some true) (cond ((decide (p_2.2.2.2.2.2.2.1 > 100))) (some true) (some ((decide (p_2.2.2.2.2.2.2.2.1 > 100)))))) fun c4 =>
cond (c4) (some true) (Option.bind (iter (σ:=(Int)) (τ:=Unit ⊕ (Bool)) (fun s23 =>
cond ((decide (s23 < (lenI p_1)))) (Option.bind (idx p_1 s23) fun x29 =>
Option.bind (idx p_0.2.1 x29.1) fun x30 =>
cond ((decide (x30.2.2.2.1 < 300))) (some (.inr ((.inr true)))) (cond ((decide (x30.2.2.2.2.1 > 15))) (some (.inr ((.inr true)))) (cond ((decide (x30.2.2.2.2.1 < (-15)))) (some (.inr ((.inr true)))) (some (.inl ((w64 (s23 + 1)))))))) (some (.inr ((.inl (())))))) big 0) fun t39 =>
alt (fun b41=>Option.bind (Option.bind (divO .i64 p_2.1 3) fun x47 =>
cond ((decide (p_2.2.2.2.1 < x47))) (some true) (Option.bind (divO .i64 p_2.1 3) fun x49 =>
some ((decide (p_2.2.2.2.2.1 < x49))))) fun c46 =>
some c46) (fun b42=>some b42) t39)
def zs4 (p_0:Plan) (p_1:(List AMove)) (p_2:Train) (p_3:Int) (p_4:(List Int)) (p_5:Int):Option (Bool) :=
Option.bind (Option.bind (zo4 p_0 p_1 p_2 p_4) fun y7 =>
cond ((!y7)) (some true) (Option.bind (zr4 p_0 p_1 p_2 p_3 p_4) fun y9 =>
cond ((!y9)) (some true) (Option.bind (zk5 p_0 p_1 p_2 p_3 p_4) fun y11 =>
some y11))) fun c6 =>
cond (c6) (Option.bind (za2) fun y13 =>
some y13) (Option.bind (ze2 p_0 p_1 p_2 p_3 p_4) fun y14 =>
cond ((y14.2 != 0)) (Option.bind (cond ((y14.2 == 4)) (Option.bind (za2) fun y21 =>
some y21) (some false)) fun c19 =>
some c19) (cond (((lenI y14.1) != (w64 ((lenI p_4) - 1)))) (some false) (Option.bind (iter (σ:=(Int × Int)) (τ:=(Int)) (fun s28 =>
cond ((decide (s28.2 < (lenI p_1)))) (Option.bind (idx p_1 s28.2) fun x33 =>
Option.bind (idx p_0.2.1 x33.1) fun x34 =>
some (.inl (((max s28.1 x34.2.2.2.1),(w64 (s28.2 + 1)))))) (some (.inr s28.1))) big ((0,0))) fun t35 =>
Option.bind (idx p_4 0) fun x37 =>
Option.bind (iter (σ:=(Int × Int)) (τ:=(Int) ⊕ (Bool)) (fun s77 =>
cond ((decide (s77.2 < (lenI y14.1)))) (Option.bind (idx y14.1 s77.2) fun x84 =>
Option.bind (idx y14.1 s77.2) fun x85 =>
Option.bind (idx p_4 ((w64 (s77.2 + 1)))) fun x102 =>
cond ((decide (x84.2.1 > x102))) (some (.inr ((.inr false)))) (Option.bind (idx p_4 ((w64 (s77.2 + 1)))) fun x105 =>
cond ((decide (x84.2.1 < (w64 (x105 - 1000))))) (some (.inr ((.inr false)))) (cond ((decide (x84.1 < 0))) (some (.inr ((.inr false)))) (Option.bind (remO x84.1 100) fun x110 =>
cond ((x110 != 0)) (some (.inr ((.inr false)))) (cond ((decide (x84.2.1 < s77.1))) (some (.inr ((.inr false)))) (cond ((x85.2.2.1.1 != (w64 ((w64 ((w64 ((w64 (x85.2.2.1.2.1 + x85.2.2.1.2.2.1)) + x85.2.2.1.2.2.2.1)) + x85.2.2.1.2.2.2.2.1)) + x85.2.2.1.2.2.2.2.2.1)))) (some (.inr ((.inr false)))) (cond ((decide ((w64 (x84.1 * (w64 ((min t35 p_2.2.2.1) + 1)))) < (w64 (1000 * (w64 ((w64 (x84.2.1 - s77.1)) - 1))))))) (some (.inr ((.inr false)))) (some (.inl ((x84.2.1,(w64 (s77.2 + 1))))))))))))) (some (.inr ((.inl s77.1))))) big ((x37,0))) fun t118 =>
alt (fun b120=>Option.bind (cond ((decide (p_5 < 2))) (some true) (some ((decide (p_5 > (lenI p_4)))))) fun c123 =>
cond (c123) (Option.bind (za2) fun y126 =>
some y126) (Option.bind (slO p_4 0 p_5) fun x130 =>
Option.bind (ze2 p_0 p_1 p_2 p_3 x130) fun y131 =>
Option.bind (cond ((y131.2 != 0)) (some true) (some (((lenI y131.1) != (w64 (p_5 - 1)))))) fun c134 =>
cond (c134) (some false) (Option.bind (iter (σ:=(Int)) (τ:=Unit ⊕ (Bool)) (fun s143 =>
cond ((decide (s143 < (lenI y131.1)))) (Option.bind (idx y131.1 s143) fun x148 =>
Option.bind (idx y14.1 s143) fun x149 =>
cond ((x148 != x149)) (some (.inr ((.inr false)))) (some (.inl ((w64 (s143 + 1)))))) (some (.inr ((.inl (())))))) big 0) fun t151 =>
alt (fun b153=>Option.bind (zd4 p_0 p_1) fun y155 =>
Option.bind (cond ((y155.2 == 0)) (Option.bind (zb3 p_0 p_1) fun y163 =>
cond ((y155.1 == y163)) (cond ((decide (b120 ≤ y155.1))) (Option.bind (za2) fun y166 =>
some y166) (some false)) (some false)) (some false)) fun c161 =>
some c161) (fun b154=>some b154) t151))) (fun b121=>some b121) t118)))
def zq3 (p_0:Train) (p_1:MotionState) (p_2:Int) (p_3:Int) (p_4:Int):Option (Int × Int) :=
Option.bind (divO .i64 p_1.1 p_0.1) fun x3 =>
Option.bind (zr5 p_0 x3 p_2 p_3 p_4) fun y4 =>
Option.bind (zh2 p_0 p_1 p_2 p_3 p_4) fun y5 =>
Option.bind (divO .i64 ((w64 ((w64 ((w64 (y4.1 * y5.1.1)) + (w64 (1000 * p_0.1)))) - 1))) ((w64 (1000 * p_0.1)))) fun x10 =>
Option.bind (divO .i64 ((w64 ((w64 (y4.2.1 * y5.1.1)) * p_0.2.2.2.2.2.2.2.2.1))) ((w64 (100000 * p_0.1)))) fun x11 =>
some ((x10,x11))
def zm2 (l_0:(List Leg)) (field_1:((Leg) → Option (Int))):Option ((List Int)) :=
Option.bind (iter (σ:=((List Int) × Int)) (τ:=((List Int))) (fun s7 =>
cond ((decide (s7.2 < (lenI l_0)))) (Option.bind (idx l_0 s7.2) fun x10 =>
Option.bind (field_1 x10) fun y12 =>
Option.bind (appO 8 s7.1 ([y12])) fun x13 =>
some (.inl ((x13,(w64 (s7.2 + 1)))))) (some (.inr s7.1))) big (([],0))) fun t15 =>
some t15
def zp6 (x_0:Leg):Option (Int) :=
some x_0.1
def zc8 (p_0:Plan) (way_1:(List AMove)) (t_2:Train) (state_3:Int) (stops_4:(List Int)):Option ((List Int) × Int) :=
Option.bind (ze2 p_0 way_1 t_2 state_3 stops_4) fun y1 =>
cond ((y1.2 != 0)) (some (([],y1.2))) (Option.bind (zm2 y1.1 ((fun x=>zp6 x))) fun y4 =>
some ((y4,0)))
def zw2 (p_0:zi1) (p_1:Int):Option (Int) :=
Option.bind (iter (σ:=(Int × Int)) (τ:=Unit ⊕ (Int)) (fun s30 =>
cond ((decide (s30.2 < (lenI p_0.2.1)))) (Option.bind (idx p_0.2.1 s30.2) fun x35 =>
Option.bind (zf2 p_0.1 x35.1) fun y36 =>
cond ((decide (p_1 < (w64 (s30.1 + y36))))) (Option.bind (idx p_0.2.1 s30.2) fun x40 =>
cond (x40.2.1) (Option.bind (idx p_0.2.1 s30.2) fun x44 =>
Option.bind (idx p_0.1.2.1 x44.1) fun x45 =>
some (.inr ((.inr ((w64 (0 - x45.2.2.2.2.1))))))) (Option.bind (idx p_0.2.1 s30.2) fun x48 =>
Option.bind (idx p_0.1.2.1 x48.1) fun x49 =>
some (.inr ((.inr x49.2.2.2.2.1))))) (cond ((s30.2 == (w64 ((lenI p_0.2.1) - 1)))) (Option.bind (idx p_0.2.1 s30.2) fun x51 =>
cond (x51.2.1) (Option.bind (idx p_0.2.1 s30.2) fun x55 =>
Option.bind (idx p_0.1.2.1 x55.1) fun x56 =>
some (.inr ((.inr ((w64 (0 - x56.2.2.2.2.1))))))) (Option.bind (idx p_0.2.1 s30.2) fun x59 =>
Option.bind (idx p_0.1.2.1 x59.1) fun x60 =>
some (.inr ((.inr x60.2.2.2.2.1))))) (some (.inl (((w64 (s30.1 + y36)),(w64 (s30.2 + 1)))))))) (some (.inr ((.inl (())))))) big ((0,0))) fun t61 =>
alt (fun b63=>some 0) (fun b64=>some b64) t61
def zq6 (p_0:Plan) (p_1:(List AMove)) (p_2:Int) (p_3:Int):Option ((List Cover)) :=
Option.bind (iter (σ:=((List Cover) × Int × Int)) (τ:=((List Cover))) (fun s15 =>
cond ((decide (s15.2.2 < (lenI p_1)))) (Option.bind (idx p_1 s15.2.2) fun x20 =>
Option.bind (zf2 p_0 x20.1) fun y21 =>
cond ((decide ((w64 ((max ((w64 (p_2 - p_3))) s15.2.1) - s15.2.1)) ≥ (w64 ((min p_2 ((w64 (s15.2.1 + y21)))) - s15.2.1))))) (some (.inl ((s15.1,(w64 (s15.2.1 + y21)),(w64 (s15.2.2 + 1)))))) (Option.bind (idx p_1 s15.2.2) fun x23 =>
cond (x23.2.1) (Option.bind (idx p_1 s15.2.2) fun x25 =>
Option.bind (appO 24 s15.1 ([((x25.1,(w64 (y21 - (w64 ((min p_2 ((w64 (s15.2.1 + y21)))) - s15.2.1)))),(w64 (y21 - (w64 ((max ((w64 (p_2 - p_3))) s15.2.1) - s15.2.1)))),()):Cover)])) fun x26 =>
some (.inl ((x26,(w64 (s15.2.1 + y21)),(w64 (s15.2.2 + 1)))))) (Option.bind (idx p_1 s15.2.2) fun x28 =>
Option.bind (appO 24 s15.1 ([((x28.1,(w64 ((max ((w64 (p_2 - p_3))) s15.2.1) - s15.2.1)),(w64 ((min p_2 ((w64 (s15.2.1 + y21)))) - s15.2.1)),()):Cover)])) fun x29 =>
some (.inl ((x29,(w64 (s15.2.1 + y21)),(w64 (s15.2.2 + 1)))))))) (some (.inr s15.1))) big (([],0,0))) fun t31 =>
some t31
def zh6 (p_0:Plan) (way_1:(List AMove)) (t_2:Train) (place_3:Int):Option (Int) :=
Option.bind (zq6 p_0 way_1 place_3 t_2.2.1) fun y1 =>
Option.bind (iter (σ:=(Int × Int)) (τ:=(Int)) (fun s8 =>
cond ((decide (s8.2 < (lenI y1)))) (Option.bind (idx y1 s8.2) fun x13 =>
Option.bind (idx p_0.2.1 x13.1) fun x14 =>
some (.inl (((min s8.1 x14.2.2.2.1),(w64 (s8.2 + 1)))))) (some (.inr s8.1))) big ((t_2.2.2.1,0))) fun t15 =>
some t15
def ze7 (r_0:zi1) (x_1:MotionState):Option (Bool) :=
Option.bind (iter (σ:=(Int × Int × Int)) (τ:=(Bool × Int × Int)) (fun s54 =>
Option.bind (zu r_0.2.2.1 ((s54.2.1,s54.2.2,()))) fun y66 =>
cond ((decide (y66 > r_0.2.2.2.2.1))) (some (.inr (((false,s54.2.1,s54.2.2))))) (Option.bind (divO .i64 s54.2.1 r_0.2.2.1.1) fun x69 =>
Option.bind (zu r_0.2.2.1 ((s54.2.1,s54.2.2,()))) fun y70 =>
Option.bind (zh6 r_0.1 r_0.2.1 r_0.2.2.1 y70) fun y71 =>
cond ((decide (x69 > y71))) (some (.inr (((false,s54.2.1,s54.2.2))))) (cond ((s54.2.1 == 0)) (some (.inr (((true,s54.2.1,s54.2.2))))) (cond ((s54.1 == 36000)) (some (.inr (((false,s54.2.1,s54.2.2))))) (Option.bind (zu r_0.2.2.1 ((s54.2.1,s54.2.2,()))) fun y78 =>
Option.bind (zw2 r_0 y78) fun y79 =>
Option.bind (zh2 r_0.2.2.1 ((s54.2.1,s54.2.2,())) ((-4)) y79 r_0.2.2.2.1) fun y80 =>
cond ((!y80.2.2)) (some (.inr (((false,y80.1.1,y80.1.2.1))))) (some (.inl (((w64 (s54.1 + 1)),y80.1.1,y80.1.2.1))))))))) big ((0,x_1.1,x_1.2.1))) fun t82 =>
some t82.1
def zt4 (r_0:zi1) (x_1:MotionState):Option (Int × Bool) :=
Option.bind (iter (σ:=(Int)) (τ:=Unit ⊕ (Int × Bool)) (fun s18 =>
cond ((decide (s18 ≥ (-4)))) (Option.bind (zu r_0.2.2.1 x_1) fun y26 =>
Option.bind (zw2 r_0 y26) fun y27 =>
Option.bind (zh2 r_0.2.2.1 x_1 s18 y27 r_0.2.2.2.1) fun y28 =>
cond (y28.2.2) (Option.bind (ze7 r_0 y28.1) fun y34 =>
cond (y34) (some (.inr ((.inr ((s18,true)))))) (some (.inl ((w64 (s18 - 1)))))) (some (.inl ((w64 (s18 - 1)))))) (some (.inr ((.inl (())))))) big 4) fun t37 =>
alt (fun b39=>some ((0,false))) (fun b40=>some ((b40.1,b40.2))) t37
def zw6 (a_0:MotionLedger) (b_1:MotionLedger):Option (MotionLedger) :=
some ((((w64 (a_0.1 + b_1.1)),(w64 (a_0.2.1 + b_1.2.1)),(w64 (a_0.2.2.1 + b_1.2.2.1)),(w64 (a_0.2.2.2.1 + b_1.2.2.2.1)),(w64 (a_0.2.2.2.2.1 + b_1.2.2.2.2.1)),(w64 (a_0.2.2.2.2.2.1 + b_1.2.2.2.2.2.1)),()):MotionLedger))
def zp7 (p_0:Plan) (p_1:(List AMove)) (p_2:Train) (p_3:Int) (p_4:(List Int)):Option ((List Leg) × Bool) :=
Option.bind (idx p_4 0) fun x3 =>
Option.bind (iter (σ:=((List Leg) × Int × Int × Int)) (τ:=((List Leg) × Int × Int) ⊕ ((List Leg) × Bool)) (fun s281 =>
cond ((decide (s281.2.1 < (lenI p_4)))) (Option.bind (idx p_4 s281.2.1) fun x286 =>
Option.bind (iter (σ:=(Int × Int × Int × Int × Int × Int × Int × Int × Int × Int × Int × Int)) (τ:=(Train × MotionState × Int × (List Int) × Int × Int × Int × Int × Bool × Int × Int × Int × Int × Int × Int × Int × Int × Int × Int × Int) ⊕ ((List Leg) × Bool × Int × Int × Int × Int × Int × Int × Int × Int × Int × Int × Int)) (fun s371 =>
cond ((decide (s371.2.2.2.2.2.2.2.2.2.2.1 > 0))) (cond ((s371.1 == 36000)) (some (.inr ((.inr (([],false,s371.2.1,s371.2.2.1,s371.2.2.2.1,s371.2.2.2.2.1,s371.2.2.2.2.2.1,s371.2.2.2.2.2.2.1,s371.2.2.2.2.2.2.2.1,s371.2.2.2.2.2.2.2.2.1,s371.2.2.2.2.2.2.2.2.2.1,s371.2.2.2.2.2.2.2.2.2.2.1,s371.2.2.2.2.2.2.2.2.2.2.2)))))) (cond ((decide (s371.2.2.2.2.2.2.2.2.2.2.2 > 10000000000000000))) (some (.inr ((.inr (([],false,s371.2.1,s371.2.2.1,s371.2.2.2.1,s371.2.2.2.2.1,s371.2.2.2.2.2.1,s371.2.2.2.2.2.2.1,s371.2.2.2.2.2.2.2.1,s371.2.2.2.2.2.2.2.2.1,s371.2.2.2.2.2.2.2.2.2.1,s371.2.2.2.2.2.2.2.2.2.2.1,s371.2.2.2.2.2.2.2.2.2.2.2)))))) (Option.bind (zt4 (((p_0,p_1,p_2,p_3,x286,()):zi1)) ((s371.2.2.2.2.2.2.2.2.2.2.1,s371.2.2.2.2.2.2.2.2.2.2.2,()))) fun y385 =>
cond ((!y385.2)) (some (.inr ((.inr (([],false,s371.2.1,s371.2.2.1,s371.2.2.2.1,s371.2.2.2.2.1,s371.2.2.2.2.2.1,s371.2.2.2.2.2.2.1,s371.2.2.2.2.2.2.2.1,s371.2.2.2.2.2.2.2.2.1,s371.2.2.2.2.2.2.2.2.2.1,s371.2.2.2.2.2.2.2.2.2.2.1,s371.2.2.2.2.2.2.2.2.2.2.2)))))) (Option.bind (zu p_2 ((s371.2.2.2.2.2.2.2.2.2.2.1,s371.2.2.2.2.2.2.2.2.2.2.2,()))) fun y389 =>
Option.bind (zw2 (((p_0,p_1,p_2,p_3,x286,()):zi1)) y389) fun y390 =>
Option.bind (zq3 p_2 ((s371.2.2.2.2.2.2.2.2.2.2.1,s371.2.2.2.2.2.2.2.2.2.2.2,())) y385.1 y390 p_3) fun y391 =>
Option.bind (zh2 p_2 ((s371.2.2.2.2.2.2.2.2.2.2.1,s371.2.2.2.2.2.2.2.2.2.2.2,())) y385.1 y390 p_3) fun y392 =>
Option.bind (zw6 ((s371.2.2.1,s371.2.2.2.1,s371.2.2.2.2.1,s371.2.2.2.2.2.1,s371.2.2.2.2.2.2.1,s371.2.2.2.2.2.2.2.1,())) y392.2.1) fun y395 =>
some (.inl (((w64 (s371.1 + 1)),(w64 (s371.2.1 + 100)),y395.1,y395.2.1,y395.2.2.1,y395.2.2.2.1,y395.2.2.2.2.1,y395.2.2.2.2.2.1,(max s371.2.2.2.2.2.2.2.2.1 y391.1),(max s371.2.2.2.2.2.2.2.2.2.1 y391.2),y392.1.1,y392.1.2.1))))))) (Option.bind (zu p_2 ((s371.2.2.2.2.2.2.2.2.2.2.1,s371.2.2.2.2.2.2.2.2.2.2.2,()))) fun y396 =>
Option.bind (idx p_4 s281.2.1) fun x397 =>
cond ((decide (y396 < (w64 (x397 - 1000))))) (cond ((s371.1 == 36000)) (some (.inr ((.inr (([],false,s371.2.1,s371.2.2.1,s371.2.2.2.1,s371.2.2.2.2.1,s371.2.2.2.2.2.1,s371.2.2.2.2.2.2.1,s371.2.2.2.2.2.2.2.1,s371.2.2.2.2.2.2.2.2.1,s371.2.2.2.2.2.2.2.2.2.1,s371.2.2.2.2.2.2.2.2.2.2.1,s371.2.2.2.2.2.2.2.2.2.2.2)))))) (cond ((decide (s371.2.2.2.2.2.2.2.2.2.2.2 > 10000000000000000))) (some (.inr ((.inr (([],false,s371.2.1,s371.2.2.1,s371.2.2.2.1,s371.2.2.2.2.1,s371.2.2.2.2.2.1,s371.2.2.2.2.2.2.1,s371.2.2.2.2.2.2.2.1,s371.2.2.2.2.2.2.2.2.1,s371.2.2.2.2.2.2.2.2.2.1,s371.2.2.2.2.2.2.2.2.2.2.1,s371.2.2.2.2.2.2.2.2.2.2.2)))))) (Option.bind (zt4 (((p_0,p_1,p_2,p_3,x286,()):zi1)) ((s371.2.2.2.2.2.2.2.2.2.2.1,s371.2.2.2.2.2.2.2.2.2.2.2,()))) fun y403 =>
cond ((!y403.2)) (some (.inr ((.inr (([],false,s371.2.1,s371.2.2.1,s371.2.2.2.1,s371.2.2.2.2.1,s371.2.2.2.2.2.1,s371.2.2.2.2.2.2.1,s371.2.2.2.2.2.2.2.1,s371.2.2.2.2.2.2.2.2.1,s371.2.2.2.2.2.2.2.2.2.1,s371.2.2.2.2.2.2.2.2.2.2.1,s371.2.2.2.2.2.2.2.2.2.2.2)))))) (Option.bind (zu p_2 ((s371.2.2.2.2.2.2.2.2.2.2.1,s371.2.2.2.2.2.2.2.2.2.2.2,()))) fun y407 =>
Option.bind (zw2 (((p_0,p_1,p_2,p_3,x286,()):zi1)) y407) fun y408 =>
Option.bind (zq3 p_2 ((s371.2.2.2.2.2.2.2.2.2.2.1,s371.2.2.2.2.2.2.2.2.2.2.2,())) y403.1 y408 p_3) fun y409 =>
Option.bind (zh2 p_2 ((s371.2.2.2.2.2.2.2.2.2.2.1,s371.2.2.2.2.2.2.2.2.2.2.2,())) y403.1 y408 p_3) fun y410 =>
Option.bind (zw6 ((s371.2.2.1,s371.2.2.2.1,s371.2.2.2.2.1,s371.2.2.2.2.2.1,s371.2.2.2.2.2.2.1,s371.2.2.2.2.2.2.2.1,())) y410.2.1) fun y413 =>
some (.inl (((w64 (s371.1 + 1)),(w64 (s371.2.1 + 100)),y413.1,y413.2.1,y413.2.2.1,y413.2.2.2.1,y413.2.2.2.2.1,y413.2.2.2.2.2.1,(max s371.2.2.2.2.2.2.2.2.1 y409.1),(max s371.2.2.2.2.2.2.2.2.2.1 y409.2),y410.1.1,y410.1.2.1))))))) (some (.inr ((.inl ((p_2,(s371.2.2.2.2.2.2.2.2.2.2.1,s371.2.2.2.2.2.2.2.2.2.2.2,()),y396,p_4,s281.2.1,x397,x397,(w64 (x397 - 1000)),(decide (y396 < (w64 (x397 - 1000)))),s371.2.1,s371.2.2.1,s371.2.2.2.1,s371.2.2.2.2.1,s371.2.2.2.2.2.1,s371.2.2.2.2.2.2.1,s371.2.2.2.2.2.2.2.1,s371.2.2.2.2.2.2.2.2.1,s371.2.2.2.2.2.2.2.2.2.1,s371.2.2.2.2.2.2.2.2.2.2.1,s371.2.2.2.2.2.2.2.2.2.2.2)))))))) big ((0,0,0,0,0,0,0,0,0,0,s281.2.2.1,s281.2.2.2))) fun t414 =>
alt (fun b416=>Option.bind (zu p_2 ((b416.2.2.2.2.2.2.2.2.2.2.2.2.2.2.2.2.2.2.1,b416.2.2.2.2.2.2.2.2.2.2.2.2.2.2.2.2.2.2.2,()))) fun y418 =>
Option.bind (appO 80 s281.1 ([(b416.2.2.2.2.2.2.2.2.2.1,y418,(b416.2.2.2.2.2.2.2.2.2.2.1,b416.2.2.2.2.2.2.2.2.2.2.2.1,b416.2.2.2.2.2.2.2.2.2.2.2.2.1,b416.2.2.2.2.2.2.2.2.2.2.2.2.2.1,b416.2.2.2.2.2.2.2.2.2.2.2.2.2.2.1,b416.2.2.2.2.2.2.2.2.2.2.2.2.2.2.2.1,()),b416.2.2.2.2.2.2.2.2.2.2.2.2.2.2.2.2.1,b416.2.2.2.2.2.2.2.2.2.2.2.2.2.2.2.2.2.1,())])) fun x419 =>
some (.inl ((x419,(w64 (s281.2.1 + 1)),b416.2.2.2.2.2.2.2.2.2.2.2.2.2.2.2.2.2.2.1,b416.2.2.2.2.2.2.2.2.2.2.2.2.2.2.2.2.2.2.2)))) (fun b417=>some (.inr ((.inr ((b417.1,b417.2.1)))))) t414) (some (.inr ((.inl ((s281.1,s281.2.2.1,s281.2.2.2))))))) big (([],1,0,(w64 ((w64 (10 * p_2.1)) * x3))))) fun t421 =>
alt (fun b423=>some ((b423.1,(decide (b423.2.2 ≤ 10000000000000000))))) (fun b424=>some ((b424.1,b424.2))) t421
def zb5 (p_0:Plan) (p_1:(List AMove)) (p_2:Train) (p_3:Int) (p_4:(List Int)):Option (Bool) :=
Option.bind (zo4 p_0 p_1 p_2 p_4) fun y1 =>
cond ((!y1)) (Option.bind (za2) fun y3 =>
some y3) (Option.bind (ze2 p_0 p_1 p_2 p_3 p_4) fun y4 =>
Option.bind (zc8 p_0 p_1 p_2 p_3 p_4) fun y6 =>
Option.bind (zr4 p_0 p_1 p_2 p_3 p_4) fun y8 =>
cond ((!y8)) (Option.bind (cond ((y4.2 == 2)) (cond ((y6.2 == 2)) (cond (((w64 ((lenI y4.1) + (lenI y6.1))) == 0)) (Option.bind (za2) fun y18 =>
some y18) (some false)) (some false)) (some false)) fun c14 =>
some c14) (Option.bind (zk5 p_0 p_1 p_2 p_3 p_4) fun y19 =>
cond (y19) (Option.bind (za2) fun y21 =>
some y21) (Option.bind (zp7 p_0 p_1 p_2 p_3 p_4) fun y22 =>
cond ((!y22.2)) (Option.bind (cond ((y4.2 == 4)) (cond ((y6.2 == 4)) (cond (((w64 ((lenI y4.1) + (lenI y6.1))) == 0)) (Option.bind (za2) fun y33 =>
some y33) (some false)) (some false)) (some false)) fun c29 =>
some c29) (Option.bind (cond ((y4.2 != 0)) (some true) (cond ((y6.2 != 0)) (some true) (cond (((lenI y4.1) != (lenI y22.1))) (some true) (some (((lenI y6.1) != (lenI y22.1))))))) fun c37 =>
cond (c37) (some false) (Option.bind (iter (σ:=(Int)) (τ:=Unit ⊕ (Bool)) (fun s60 =>
cond ((decide (s60 < (lenI y4.1)))) (Option.bind (idx y4.1 s60) fun x73 =>
Option.bind (idx y22.1 s60) fun x74 =>
cond ((x73 != x74)) (some (.inr ((.inr false)))) (Option.bind (idx y6.1 s60) fun x77 =>
Option.bind (idx y22.1 s60) fun x78 =>
cond ((x77 != x78.1)) (some (.inr ((.inr false)))) (some (.inl ((w64 (s60 + 1))))))) (some (.inr ((.inl (())))))) big 0) fun t80 =>
alt (fun b82=>Option.bind (za2) fun y84 =>
some y84) (fun b83=>some b83) t80)))))
end Go.Ai.Sx
