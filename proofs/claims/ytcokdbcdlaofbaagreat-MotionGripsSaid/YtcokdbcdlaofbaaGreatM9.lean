/- Written by program: the data of the functions, and the functions as plain Lean. -/
import Derived.Test.YtcokdbcdlaofbaaGreatM7
set_option linter.unusedSimpArgs false
set_option linter.unusedVariables false
set_option linter.unusedSectionVars false
namespace Go.Ai.Sx
abbrev Train : Type := Int × Int × Int × Int × Int × Int × Int × Int × Int × (List Int) × Unit
abbrev MotionState : Type := Int × Int × Unit
abbrev motion_mover : Type := Train × Int × Unit
abbrev MotionLedger : Type := Int × Int × Int × Int × Int × Int × Unit
abbrev motion_stepped : Type := MotionState × MotionLedger × Int × Int × Unit
abbrev Spot : Type := Int × Int × Unit
abbrev RailEnd : Type := Int × Bool × Unit
abbrev ANode : Type := Spot × Int × (List RailEnd) × Int × Unit
abbrev Rail : Type := Int × Int × (List Spot) × Int × Int × Unit
abbrev Plan : Type := (List ANode) × (List Rail) × Unit
abbrev track_network : Type := Plan × (List Int) × (List (RailEnd × Int)) × Unit
abbrev track_networkN12 : Type := Plan × Unit × AVal × Unit
abbrev AMove : Type := Int × Bool × Unit
abbrev track_passage : Type := ANode × Unit
abbrev motion_run : Type := motion_mover × (List AMove) × (List Int) × (List Int) × (List Int) × (List Int) × Unit
abbrev motion_runN234 : Type := motion_mover × (List AMove) × Unit × Unit × Unit × (List Int) × Unit
abbrev Leg : Type := Int × Int × MotionLedger × Int × Int × Unit
abbrev TrainN9 : Type := Int × Int × Int × Int × Int × Int × Int × Int × Int × Unit × Unit
abbrev tramlineref03_run : Type := Plan × (List AMove) × Train × Int × Int × Unit
abbrev Cover : Type := Int × Int × Int × Unit
abbrev rTrain : Rep Train := (rPair (rInt .i64) (rPair (rInt .i64) (rPair (rInt .i64) (rPair (rInt .i64) (rPair (rInt .i64) (rPair (rInt .i64) (rPair (rInt .i64) (rPair (rInt .i64) (rPair (rInt .i64) (rPair (rSlice (rInt .i64)) rUnit))))))))))
theorem fk_Train_0 : FOk rTrain 0 (rInt .i64) (fun x => x.1) (fun x y => (y, x.2.1, x.2.2.1, x.2.2.2.1, x.2.2.2.2.1, x.2.2.2.2.2.1, x.2.2.2.2.2.2.1, x.2.2.2.2.2.2.2.1, x.2.2.2.2.2.2.2.2.1, x.2.2.2.2.2.2.2.2.2.1, ())) := FOk.off FOk.here rfl
theorem fk_Train_1 : FOk rTrain 1 (rInt .i64) (fun x => x.2.1) (fun x y => (x.1, y, x.2.2.1, x.2.2.2.1, x.2.2.2.2.1, x.2.2.2.2.2.1, x.2.2.2.2.2.2.1, x.2.2.2.2.2.2.2.1, x.2.2.2.2.2.2.2.2.1, x.2.2.2.2.2.2.2.2.2.1, ())) := FOk.off (FOk.there FOk.here) rfl
theorem fk_Train_2 : FOk rTrain 2 (rInt .i64) (fun x => x.2.2.1) (fun x y => (x.1, x.2.1, y, x.2.2.2.1, x.2.2.2.2.1, x.2.2.2.2.2.1, x.2.2.2.2.2.2.1, x.2.2.2.2.2.2.2.1, x.2.2.2.2.2.2.2.2.1, x.2.2.2.2.2.2.2.2.2.1, ())) := FOk.off (FOk.there (FOk.there FOk.here)) rfl
theorem fk_Train_3 : FOk rTrain 3 (rInt .i64) (fun x => x.2.2.2.1) (fun x y => (x.1, x.2.1, x.2.2.1, y, x.2.2.2.2.1, x.2.2.2.2.2.1, x.2.2.2.2.2.2.1, x.2.2.2.2.2.2.2.1, x.2.2.2.2.2.2.2.2.1, x.2.2.2.2.2.2.2.2.2.1, ())) := FOk.off (FOk.there (FOk.there (FOk.there FOk.here))) rfl
theorem fk_Train_4 : FOk rTrain 4 (rInt .i64) (fun x => x.2.2.2.2.1) (fun x y => (x.1, x.2.1, x.2.2.1, x.2.2.2.1, y, x.2.2.2.2.2.1, x.2.2.2.2.2.2.1, x.2.2.2.2.2.2.2.1, x.2.2.2.2.2.2.2.2.1, x.2.2.2.2.2.2.2.2.2.1, ())) := FOk.off (FOk.there (FOk.there (FOk.there (FOk.there FOk.here)))) rfl
theorem fk_Train_5 : FOk rTrain 5 (rInt .i64) (fun x => x.2.2.2.2.2.1) (fun x y => (x.1, x.2.1, x.2.2.1, x.2.2.2.1, x.2.2.2.2.1, y, x.2.2.2.2.2.2.1, x.2.2.2.2.2.2.2.1, x.2.2.2.2.2.2.2.2.1, x.2.2.2.2.2.2.2.2.2.1, ())) := FOk.off (FOk.there (FOk.there (FOk.there (FOk.there (FOk.there FOk.here))))) rfl
theorem fk_Train_6 : FOk rTrain 6 (rInt .i64) (fun x => x.2.2.2.2.2.2.1) (fun x y => (x.1, x.2.1, x.2.2.1, x.2.2.2.1, x.2.2.2.2.1, x.2.2.2.2.2.1, y, x.2.2.2.2.2.2.2.1, x.2.2.2.2.2.2.2.2.1, x.2.2.2.2.2.2.2.2.2.1, ())) := FOk.off (FOk.there (FOk.there (FOk.there (FOk.there (FOk.there (FOk.there FOk.here)))))) rfl
theorem fk_Train_7 : FOk rTrain 7 (rInt .i64) (fun x => x.2.2.2.2.2.2.2.1) (fun x y => (x.1, x.2.1, x.2.2.1, x.2.2.2.1, x.2.2.2.2.1, x.2.2.2.2.2.1, x.2.2.2.2.2.2.1, y, x.2.2.2.2.2.2.2.2.1, x.2.2.2.2.2.2.2.2.2.1, ())) := FOk.off (FOk.there (FOk.there (FOk.there (FOk.there (FOk.there (FOk.there (FOk.there FOk.here))))))) rfl
theorem fk_Train_8 : FOk rTrain 8 (rInt .i64) (fun x => x.2.2.2.2.2.2.2.2.1) (fun x y => (x.1, x.2.1, x.2.2.1, x.2.2.2.1, x.2.2.2.2.1, x.2.2.2.2.2.1, x.2.2.2.2.2.2.1, x.2.2.2.2.2.2.2.1, y, x.2.2.2.2.2.2.2.2.2.1, ())) := FOk.off (FOk.there (FOk.there (FOk.there (FOk.there (FOk.there (FOk.there (FOk.there (FOk.there FOk.here)))))))) rfl
theorem fk_Train_9 : FOk rTrain 9 (rSlice (rInt .i64)) (fun x => x.2.2.2.2.2.2.2.2.2.1) (fun x y => (x.1, x.2.1, x.2.2.1, x.2.2.2.1, x.2.2.2.2.1, x.2.2.2.2.2.1, x.2.2.2.2.2.2.1, x.2.2.2.2.2.2.2.1, x.2.2.2.2.2.2.2.2.1, y, ())) := FOk.off (FOk.there (FOk.there (FOk.there (FOk.there (FOk.there (FOk.there (FOk.there (FOk.there (FOk.there FOk.here))))))))) rfl
abbrev rMotionState : Rep MotionState := (rPair (rInt .i64) (rPair (rInt .i64) rUnit))
theorem fk_MotionState_0 : FOk rMotionState 0 (rInt .i64) (fun x => x.1) (fun x y => (y, x.2.1, ())) := FOk.off FOk.here rfl
theorem fk_MotionState_1 : FOk rMotionState 1 (rInt .i64) (fun x => x.2.1) (fun x y => (x.1, y, ())) := FOk.off (FOk.there FOk.here) rfl
abbrev rmotion_mover : Rep motion_mover := (rPair rTrain (rPair (rInt .i64) rUnit))
theorem fk_motion_mover_0 : FOk rmotion_mover 0 rTrain (fun x => x.1) (fun x y => (y, x.2.1, ())) := FOk.off FOk.here rfl
theorem fk_motion_mover_1 : FOk rmotion_mover 10 (rInt .i64) (fun x => x.2.1) (fun x y => (x.1, y, ())) := FOk.off (FOk.there FOk.here) rfl
abbrev rMotionLedger : Rep MotionLedger := (rPair (rInt .i64) (rPair (rInt .i64) (rPair (rInt .i64) (rPair (rInt .i64) (rPair (rInt .i64) (rPair (rInt .i64) rUnit))))))
theorem fk_MotionLedger_0 : FOk rMotionLedger 0 (rInt .i64) (fun x => x.1) (fun x y => (y, x.2.1, x.2.2.1, x.2.2.2.1, x.2.2.2.2.1, x.2.2.2.2.2.1, ())) := FOk.off FOk.here rfl
theorem fk_MotionLedger_1 : FOk rMotionLedger 1 (rInt .i64) (fun x => x.2.1) (fun x y => (x.1, y, x.2.2.1, x.2.2.2.1, x.2.2.2.2.1, x.2.2.2.2.2.1, ())) := FOk.off (FOk.there FOk.here) rfl
theorem fk_MotionLedger_2 : FOk rMotionLedger 2 (rInt .i64) (fun x => x.2.2.1) (fun x y => (x.1, x.2.1, y, x.2.2.2.1, x.2.2.2.2.1, x.2.2.2.2.2.1, ())) := FOk.off (FOk.there (FOk.there FOk.here)) rfl
theorem fk_MotionLedger_3 : FOk rMotionLedger 3 (rInt .i64) (fun x => x.2.2.2.1) (fun x y => (x.1, x.2.1, x.2.2.1, y, x.2.2.2.2.1, x.2.2.2.2.2.1, ())) := FOk.off (FOk.there (FOk.there (FOk.there FOk.here))) rfl
theorem fk_MotionLedger_4 : FOk rMotionLedger 4 (rInt .i64) (fun x => x.2.2.2.2.1) (fun x y => (x.1, x.2.1, x.2.2.1, x.2.2.2.1, y, x.2.2.2.2.2.1, ())) := FOk.off (FOk.there (FOk.there (FOk.there (FOk.there FOk.here)))) rfl
theorem fk_MotionLedger_5 : FOk rMotionLedger 5 (rInt .i64) (fun x => x.2.2.2.2.2.1) (fun x y => (x.1, x.2.1, x.2.2.1, x.2.2.2.1, x.2.2.2.2.1, y, ())) := FOk.off (FOk.there (FOk.there (FOk.there (FOk.there (FOk.there FOk.here))))) rfl
abbrev rmotion_stepped : Rep motion_stepped := (rPair rMotionState (rPair rMotionLedger (rPair (rInt .i64) (rPair (rInt .i64) rUnit))))
theorem fk_motion_stepped_0 : FOk rmotion_stepped 0 rMotionState (fun x => x.1) (fun x y => (y, x.2.1, x.2.2.1, x.2.2.2.1, ())) := FOk.off FOk.here rfl
theorem fk_motion_stepped_1 : FOk rmotion_stepped 2 rMotionLedger (fun x => x.2.1) (fun x y => (x.1, y, x.2.2.1, x.2.2.2.1, ())) := FOk.off (FOk.there FOk.here) rfl
theorem fk_motion_stepped_2 : FOk rmotion_stepped 8 (rInt .i64) (fun x => x.2.2.1) (fun x y => (x.1, x.2.1, y, x.2.2.2.1, ())) := FOk.off (FOk.there (FOk.there FOk.here)) rfl
theorem fk_motion_stepped_3 : FOk rmotion_stepped 9 (rInt .i64) (fun x => x.2.2.2.1) (fun x y => (x.1, x.2.1, x.2.2.1, y, ())) := FOk.off (FOk.there (FOk.there (FOk.there FOk.here))) rfl
abbrev rSpot : Rep Spot := (rPair (rInt .i64) (rPair (rInt .i64) rUnit))
theorem fk_Spot_0 : FOk rSpot 0 (rInt .i64) (fun x => x.1) (fun x y => (y, x.2.1, ())) := FOk.off FOk.here rfl
theorem fk_Spot_1 : FOk rSpot 1 (rInt .i64) (fun x => x.2.1) (fun x y => (x.1, y, ())) := FOk.off (FOk.there FOk.here) rfl
abbrev rRailEnd : Rep RailEnd := (rPair (rInt .i64) (rPair rBool rUnit))
theorem fk_RailEnd_0 : FOk rRailEnd 0 (rInt .i64) (fun x => x.1) (fun x y => (y, x.2.1, ())) := FOk.off FOk.here rfl
theorem fk_RailEnd_1 : FOk rRailEnd 1 rBool (fun x => x.2.1) (fun x y => (x.1, y, ())) := FOk.off (FOk.there FOk.here) rfl
abbrev rANode : Rep ANode := (rPair rSpot (rPair (rInt .i64) (rPair (rSlice rRailEnd) (rPair (rInt .i64) rUnit))))
theorem fk_ANode_0 : FOk rANode 0 rSpot (fun x => x.1) (fun x y => (y, x.2.1, x.2.2.1, x.2.2.2.1, ())) := FOk.off FOk.here rfl
theorem fk_ANode_1 : FOk rANode 2 (rInt .i64) (fun x => x.2.1) (fun x y => (x.1, y, x.2.2.1, x.2.2.2.1, ())) := FOk.off (FOk.there FOk.here) rfl
theorem fk_ANode_2 : FOk rANode 3 (rSlice rRailEnd) (fun x => x.2.2.1) (fun x y => (x.1, x.2.1, y, x.2.2.2.1, ())) := FOk.off (FOk.there (FOk.there FOk.here)) rfl
theorem fk_ANode_3 : FOk rANode 4 (rInt .i64) (fun x => x.2.2.2.1) (fun x y => (x.1, x.2.1, x.2.2.1, y, ())) := FOk.off (FOk.there (FOk.there (FOk.there FOk.here))) rfl
abbrev rRail : Rep Rail := (rPair (rInt .i64) (rPair (rInt .i64) (rPair (rSlice rSpot) (rPair (rInt .i64) (rPair (rInt .i64) rUnit)))))
theorem fk_Rail_0 : FOk rRail 0 (rInt .i64) (fun x => x.1) (fun x y => (y, x.2.1, x.2.2.1, x.2.2.2.1, x.2.2.2.2.1, ())) := FOk.off FOk.here rfl
theorem fk_Rail_1 : FOk rRail 1 (rInt .i64) (fun x => x.2.1) (fun x y => (x.1, y, x.2.2.1, x.2.2.2.1, x.2.2.2.2.1, ())) := FOk.off (FOk.there FOk.here) rfl
theorem fk_Rail_2 : FOk rRail 2 (rSlice rSpot) (fun x => x.2.2.1) (fun x y => (x.1, x.2.1, y, x.2.2.2.1, x.2.2.2.2.1, ())) := FOk.off (FOk.there (FOk.there FOk.here)) rfl
theorem fk_Rail_3 : FOk rRail 3 (rInt .i64) (fun x => x.2.2.2.1) (fun x y => (x.1, x.2.1, x.2.2.1, y, x.2.2.2.2.1, ())) := FOk.off (FOk.there (FOk.there (FOk.there FOk.here))) rfl
theorem fk_Rail_4 : FOk rRail 4 (rInt .i64) (fun x => x.2.2.2.2.1) (fun x y => (x.1, x.2.1, x.2.2.1, x.2.2.2.1, y, ())) := FOk.off (FOk.there (FOk.there (FOk.there (FOk.there FOk.here)))) rfl
abbrev rPlan : Rep Plan := (rPair (rSlice rANode) (rPair (rSlice rRail) rUnit))
theorem fk_Plan_0 : FOk rPlan 0 (rSlice rANode) (fun x => x.1) (fun x y => (y, x.2.1, ())) := FOk.off FOk.here rfl
theorem fk_Plan_1 : FOk rPlan 1 (rSlice rRail) (fun x => x.2.1) (fun x y => (x.1, y, ())) := FOk.off (FOk.there FOk.here) rfl
abbrev rtrack_network : Rep track_network := (rPair rPlan (rPair (rSlice (rInt .i64)) (rPair (rMap rRailEnd (rInt .i64)) rUnit)))
theorem fk_track_network_0 : FOk rtrack_network 0 rPlan (fun x => x.1) (fun x y => (y, x.2.1, x.2.2.1, ())) := FOk.off FOk.here rfl
theorem fk_track_network_1 : FOk rtrack_network 2 (rSlice (rInt .i64)) (fun x => x.2.1) (fun x y => (x.1, y, x.2.2.1, ())) := FOk.off (FOk.there FOk.here) rfl
theorem fk_track_network_2 : FOk rtrack_network 3 (rMap rRailEnd (rInt .i64)) (fun x => x.2.2.1) (fun x y => (x.1, x.2.1, y, ())) := FOk.off (FOk.there (FOk.there FOk.here)) rfl
abbrev rtrack_networkN12 : Rep track_networkN12 := (rPair rPlan (rPair rNil (rPair rRaw rUnit)))
abbrev rAMove : Rep AMove := (rPair (rInt .i64) (rPair rBool rUnit))
theorem fk_AMove_0 : FOk rAMove 0 (rInt .i64) (fun x => x.1) (fun x y => (y, x.2.1, ())) := FOk.off FOk.here rfl
theorem fk_AMove_1 : FOk rAMove 1 rBool (fun x => x.2.1) (fun x y => (x.1, y, ())) := FOk.off (FOk.there FOk.here) rfl
abbrev rtrack_passage : Rep track_passage := (rPair rANode rUnit)
theorem fk_track_passage_0 : FOk rtrack_passage 0 rANode (fun x => x.1) (fun x y => (y, ())) := FOk.off FOk.here rfl
abbrev rmotion_run : Rep motion_run := (rPair (rPtr rmotion_mover) (rPair (rSlice rAMove) (rPair (rSlice (rInt .i64)) (rPair (rSlice (rInt .i64)) (rPair (rSlice (rInt .i64)) (rPair (rSlice (rInt .i64)) rUnit))))))
theorem fk_motion_run_0 : FOk rmotion_run 0 (rPtr rmotion_mover) (fun x => x.1) (fun x y => (y, x.2.1, x.2.2.1, x.2.2.2.1, x.2.2.2.2.1, x.2.2.2.2.2.1, ())) := FOk.off FOk.here rfl
theorem fk_motion_run_2 : FOk rmotion_run 2 (rSlice (rInt .i64)) (fun x => x.2.2.1) (fun x y => (x.1, x.2.1, y, x.2.2.2.1, x.2.2.2.2.1, x.2.2.2.2.2.1, ())) := FOk.off (FOk.there (FOk.there FOk.here)) rfl
theorem fk_motion_run_3 : FOk rmotion_run 3 (rSlice (rInt .i64)) (fun x => x.2.2.2.1) (fun x y => (x.1, x.2.1, x.2.2.1, y, x.2.2.2.2.1, x.2.2.2.2.2.1, ())) := FOk.off (FOk.there (FOk.there (FOk.there FOk.here))) rfl
theorem fk_motion_run_4 : FOk rmotion_run 4 (rSlice (rInt .i64)) (fun x => x.2.2.2.2.1) (fun x y => (x.1, x.2.1, x.2.2.1, x.2.2.2.1, y, x.2.2.2.2.2.1, ())) := FOk.off (FOk.there (FOk.there (FOk.there (FOk.there FOk.here)))) rfl
abbrev rmotion_runN234 : Rep motion_runN234 := (rPair (rPtr rmotion_mover) (rPair (rSlice rAMove) (rPair rNil (rPair rNil (rPair rNil (rPair (rSlice (rInt .i64)) rUnit))))))
abbrev rLeg : Rep Leg := (rPair (rInt .i64) (rPair (rInt .i64) (rPair rMotionLedger (rPair (rInt .i64) (rPair (rInt .i64) rUnit)))))
theorem fk_Leg_0 : FOk rLeg 0 (rInt .i64) (fun x => x.1) (fun x y => (y, x.2.1, x.2.2.1, x.2.2.2.1, x.2.2.2.2.1, ())) := FOk.off FOk.here rfl
theorem fk_Leg_1 : FOk rLeg 1 (rInt .i64) (fun x => x.2.1) (fun x y => (x.1, y, x.2.2.1, x.2.2.2.1, x.2.2.2.2.1, ())) := FOk.off (FOk.there FOk.here) rfl
theorem fk_Leg_2 : FOk rLeg 2 rMotionLedger (fun x => x.2.2.1) (fun x y => (x.1, x.2.1, y, x.2.2.2.1, x.2.2.2.2.1, ())) := FOk.off (FOk.there (FOk.there FOk.here)) rfl
theorem fk_Leg_3 : FOk rLeg 8 (rInt .i64) (fun x => x.2.2.2.1) (fun x y => (x.1, x.2.1, x.2.2.1, y, x.2.2.2.2.1, ())) := FOk.off (FOk.there (FOk.there (FOk.there FOk.here))) rfl
theorem fk_Leg_4 : FOk rLeg 9 (rInt .i64) (fun x => x.2.2.2.2.1) (fun x y => (x.1, x.2.1, x.2.2.1, x.2.2.2.1, y, ())) := FOk.off (FOk.there (FOk.there (FOk.there (FOk.there FOk.here)))) rfl
abbrev rTrainN9 : Rep TrainN9 := (rPair (rInt .i64) (rPair (rInt .i64) (rPair (rInt .i64) (rPair (rInt .i64) (rPair (rInt .i64) (rPair (rInt .i64) (rPair (rInt .i64) (rPair (rInt .i64) (rPair (rInt .i64) (rPair rNil rUnit))))))))))
abbrev rtramlineref03_run : Rep tramlineref03_run := (rPair rPlan (rPair (rSlice rAMove) (rPair rTrain (rPair (rInt .i64) (rPair (rInt .i64) rUnit)))))
theorem fk_tramlineref03_run_0 : FOk rtramlineref03_run 0 rPlan (fun x => x.1) (fun x y => (y, x.2.1, x.2.2.1, x.2.2.2.1, x.2.2.2.2.1, ())) := FOk.off FOk.here rfl
theorem fk_tramlineref03_run_1 : FOk rtramlineref03_run 2 (rSlice rAMove) (fun x => x.2.1) (fun x y => (x.1, y, x.2.2.1, x.2.2.2.1, x.2.2.2.2.1, ())) := FOk.off (FOk.there FOk.here) rfl
theorem fk_tramlineref03_run_2 : FOk rtramlineref03_run 3 rTrain (fun x => x.2.2.1) (fun x y => (x.1, x.2.1, y, x.2.2.2.1, x.2.2.2.2.1, ())) := FOk.off (FOk.there (FOk.there FOk.here)) rfl
theorem fk_tramlineref03_run_3 : FOk rtramlineref03_run 13 (rInt .i64) (fun x => x.2.2.2.1) (fun x y => (x.1, x.2.1, x.2.2.1, y, x.2.2.2.2.1, ())) := FOk.off (FOk.there (FOk.there (FOk.there FOk.here))) rfl
theorem fk_tramlineref03_run_4 : FOk rtramlineref03_run 14 (rInt .i64) (fun x => x.2.2.2.2.1) (fun x y => (x.1, x.2.1, x.2.2.1, x.2.2.2.1, y, ())) := FOk.off (FOk.there (FOk.there (FOk.there (FOk.there FOk.here)))) rfl
abbrev rCover : Rep Cover := (rPair (rInt .i64) (rPair (rInt .i64) (rPair (rInt .i64) rUnit)))
theorem fk_Cover_0 : FOk rCover 0 (rInt .i64) (fun x => x.1) (fun x y => (y, x.2.1, x.2.2.1, ())) := FOk.off FOk.here rfl
def strtab0 : List Int := [0, 1, 2, 2, 3, 3, 3, 3, 4, 4, 4, 4, 4, 4, 4, 4, 5, 5, 5, 5, 5, 5, 5, 5, 5, 5, 5, 5, 5, 5, 5, 5, 6, 6, 6, 6, 6, 6, 6, 6, 6, 6, 6, 6, 6, 6, 6, 6, 6, 6, 6, 6, 6, 6, 6, 6, 6, 6, 6, 6, 6, 6, 6, 6, 7, 7, 7, 7, 7, 7, 7, 7, 7, 7, 7, 7, 7, 7, 7, 7, 7, 7, 7, 7, 7, 7, 7, 7, 7, 7, 7, 7, 7, 7, 7, 7, 7, 7, 7, 7, 7, 7, 7, 7, 7, 7, 7, 7, 7, 7, 7, 7, 7, 7, 7, 7, 7, 7, 7, 7, 7, 7, 7, 7, 7, 7, 7, 7, 8, 8, 8, 8, 8, 8, 8, 8, 8, 8, 8, 8, 8, 8, 8, 8, 8, 8, 8, 8, 8, 8, 8, 8, 8, 8, 8, 8, 8, 8, 8, 8, 8, 8, 8, 8, 8, 8, 8, 8, 8, 8, 8, 8, 8, 8, 8, 8, 8, 8, 8, 8, 8, 8, 8, 8, 8, 8, 8, 8, 8, 8, 8, 8, 8, 8, 8, 8, 8, 8, 8, 8, 8, 8, 8, 8, 8, 8, 8, 8, 8, 8, 8, 8, 8, 8, 8, 8, 8, 8, 8, 8, 8, 8, 8, 8, 8, 8, 8, 8, 8, 8, 8, 8, 8, 8, 8, 8, 8, 8, 8, 8, 8, 8, 8, 8, 8, 8, 8, 8, 8, 8, 8, 8, 8, 8, 8, 8]
def g_law03_short (t_0 : Train) : Option (Bool) :=
some ((decide ((lenI t_0.2.2.2.2.2.2.2.2.2.1) ≤ 20)))
def g_ref03_in (x_0 : Int) (low_1 : Int) (high_2 : Int) : Option (Bool) :=
Option.bind (cond ((decide (x_0 ≥ low_1))) (some ((decide (x_0 ≤ high_2)))) (some false)) fun c2 =>
some c2
def g_ref03_Train (p_0 : Train) : Option (Bool) :=
Option.bind (Option.bind (g_ref03_in p_0.1 1000 80000) fun y21 =>
cond ((!y21)) (some true) (Option.bind (g_ref03_in p_0.2.1 1 60000) fun y23 =>
cond ((!y23)) (some true) (Option.bind (g_ref03_in p_0.2.2.1 1 25000) fun y25 =>
cond ((!y25)) (some true) (Option.bind (g_ref03_in p_0.2.2.2.1 1 200000) fun y27 =>
cond ((!y27)) (some true) (Option.bind (g_ref03_in p_0.2.2.2.2.1 1 200000) fun y29 =>
cond ((!y29)) (some true) (Option.bind (g_ref03_in p_0.2.2.2.2.2.1 1 2000000) fun y31 =>
cond ((!y31)) (some true) (Option.bind (g_ref03_in p_0.2.2.2.2.2.2.1 0 100000) fun y33 =>
cond ((!y33)) (some true) (Option.bind (g_ref03_in p_0.2.2.2.2.2.2.2.1 0 10000) fun y35 =>
cond ((!y35)) (some true) (Option.bind (g_ref03_in p_0.2.2.2.2.2.2.2.2.1 0 100) fun y37 =>
cond ((!y37)) (some true) (Option.bind (g_ref03_in ((lenI p_0.2.2.2.2.2.2.2.2.2.1)) 1 8) fun y39 =>
some ((!y39)))))))))))) fun c20 =>
cond (c20) (some false) (Option.bind (iter (σ := (Int)) (τ := Unit ⊕ (Bool)) (fun s45 =>
cond ((decide (s45 < (lenI p_0.2.2.2.2.2.2.2.2.2.1)))) (Option.bind (idx p_0.2.2.2.2.2.2.2.2.2.1 s45) fun x48 =>
Option.bind (g_ref03_in x48 1 1000) fun y49 =>
cond ((!y49)) (some (.inr ((.inr false)))) (some (.inl ((w64 (s45 + 1)))))) (some (.inr ((.inl (())))))) big 0) fun t51 =>
alt (fun b53 => some true) (fun b54 => some b54) t51)
def g_ref03_State (t_0 : Train) (x_1 : MotionState) : Option (Bool) :=
Option.bind (Option.bind (g_ref03_in x_1.1 0 ((w64 (25000 * t_0.1)))) fun y5 =>
cond (y5) (Option.bind (g_ref03_in x_1.2.1 0 10000000000000000) fun y7 =>
some y7) (some false)) fun c4 =>
some c4
def g_ref03_Fine (t_0 : Train) (x_1 : MotionState) (demand_2 : Int) (slope_3 : Int) (state_4 : Int) : Option (Bool) :=
Option.bind (Option.bind (g_ref03_Train t_0) fun y11 =>
cond (y11) (Option.bind (g_ref03_State t_0 x_1) fun y13 =>
cond (y13) (Option.bind (g_ref03_in demand_2 ((-4)) 4) fun y15 =>
cond (y15) (Option.bind (g_ref03_in slope_3 ((-120)) 120) fun y17 =>
cond (y17) (Option.bind (g_ref03_in state_4 0 ((w64 ((lenI t_0.2.2.2.2.2.2.2.2.2.1) - 1)))) fun y19 =>
some y19) (some false)) (some false)) (some false)) (some false)) fun c10 =>
some c10
def g_motion_within (n_0 : Int) (low_1 : Int) (high_2 : Int) : Option (Bool) :=
Option.bind (cond ((decide (n_0 ≥ low_1))) (some ((decide (n_0 ≤ high_2)))) (some false)) fun c2 =>
some c2
def g_slices_IndexFunc_int_int (s_0 : (List Int)) (f_1 : ((Int) → Option (Bool))) : Option (Int) :=
Option.bind (iter (σ := (Int)) (τ := Unit ⊕ (Int)) (fun s5 =>
cond ((decide (s5 < (lenI s_0)))) (Option.bind (idx s_0 s5) fun x8 =>
Option.bind (f_1 x8) fun y9 =>
cond (y9) (some (.inr ((.inr s5)))) (some (.inl ((w64 (s5 + 1)))))) (some (.inr ((.inl (())))))) big 0) fun t11 =>
alt (fun b13 => some ((-1))) (fun b14 => some b14) t11
def g_slices_ContainsFunc_int_int (s_0 : (List Int)) (f_1 : ((Int) → Option (Bool))) : Option (Bool) :=
Option.bind (g_slices_IndexFunc_int_int s_0 f_1) fun y1 =>
some ((decide (y1 ≥ 0)))
def g_motion_Check_1 (g_0 : Int) : Option (Bool) :=
Option.bind (g_motion_within g_0 1 1000) fun y1 =>
some ((!y1))
def g_motion_Check (p_0 : Train) : Option (Int) :=
Option.bind (Option.bind (g_motion_within p_0.1 1000 80000) fun y19 =>
cond ((!y19)) (some true) (Option.bind (g_motion_within p_0.2.1 1 60000) fun y21 =>
cond ((!y21)) (some true) (Option.bind (g_motion_within p_0.2.2.1 1 25000) fun y23 =>
cond ((!y23)) (some true) (Option.bind (g_motion_within p_0.2.2.2.1 1 200000) fun y25 =>
cond ((!y25)) (some true) (Option.bind (g_motion_within p_0.2.2.2.2.1 1 200000) fun y27 =>
cond ((!y27)) (some true) (Option.bind (g_motion_within p_0.2.2.2.2.2.1 1 2000000) fun y29 =>
cond ((!y29)) (some true) (Option.bind (g_motion_within p_0.2.2.2.2.2.2.1 0 100000) fun y31 =>
cond ((!y31)) (some true) (Option.bind (g_motion_within p_0.2.2.2.2.2.2.2.1 0 10000) fun y33 =>
cond ((!y33)) (some true) (Option.bind (g_motion_within p_0.2.2.2.2.2.2.2.2.1 0 100) fun y35 =>
some ((!y35))))))))))) fun c18 =>
cond (c18) (some 2) (Option.bind (Option.bind (g_motion_within ((lenI p_0.2.2.2.2.2.2.2.2.2.1)) 1 8) fun y41 =>
cond ((!y41)) (some true) (Option.bind (g_slices_ContainsFunc_int_int p_0.2.2.2.2.2.2.2.2.2.1 ((fun x => g_motion_Check_1 x))) fun y43 =>
some y43)) fun c40 =>
cond (c40) (some 2) (some 0))
def g_motion_moving (t_0 : Train) (state_1 : Int) : Option ((Option motion_mover) × Bool) :=
Option.bind (Option.bind (g_motion_Check t_0) fun y5 =>
cond ((y5 != 0)) (some true) (Option.bind (g_motion_within state_1 0 ((w64 ((lenI t_0.2.2.2.2.2.2.2.2.2.1) - 1)))) fun y7 =>
some ((!y7)))) fun c4 =>
cond (c4) (some (((none : Option motion_mover), false))) (some (((some (((t_0, state_1, ()) : motion_mover))), true)))
def g_motion_mover_valid (m_0 : motion_mover) (x_1 : MotionState) : Option (Bool) :=
Option.bind (Option.bind (g_motion_within x_1.1 0 ((w64 (25000 * m_0.1.1)))) fun y8 =>
cond (y8) (Option.bind (g_motion_within x_1.2.1 0 10000000000000000) fun y10 =>
some y10) (some false)) fun c7 =>
some c7
def g_motion_asked (t_0 : Train) (x_1 : MotionState) (demand_2 : Int) (slope_3 : Int) (state_4 : Int) : Option ((Option motion_mover) × Bool) :=
Option.bind (g_motion_moving t_0 state_4) fun y1 =>
Option.bind (cond (y1.2) (Option.bind (y1.1) fun p11 =>
Option.bind (g_motion_mover_valid p11 x_1) fun y12 =>
cond (y12) (Option.bind (g_motion_within demand_2 ((-4)) 4) fun y14 =>
cond (y14) (Option.bind (g_motion_within slope_3 ((-120)) 120) fun y16 =>
some ((y1.1, y16))) (some ((y1.1, false)))) (some ((y1.1, false)))) (some ((y1.1, false)))) fun c9 =>
some ((c9.1, c9.2))
def g_motion_mover_adhesion (m_0 : motion_mover) : Option (Int) :=
Option.bind (idx m_0.1.2.2.2.2.2.2.2.2.2.1 m_0.2.1) fun x3 =>
Option.bind (divO .i64 ((w64 ((w64 (x3 * m_0.1.1)) * 981))) 100000) fun x4 =>
some x4
def g_motion_mover_pull (m_0 : motion_mover) (v_1 : Int) (demand_2 : Int) (slope_3 : Int) : Option (Int) :=
cond ((decide (demand_2 ≤ 0))) (some 0) (Option.bind (divO .i64 ((w64 (m_0.1.2.2.2.1 * demand_2))) 4) fun x4 =>
Option.bind (g_motion_mover_adhesion m_0) fun y5 =>
cond ((decide (v_1 > 0))) (Option.bind (divO .i64 ((w64 (1000 * m_0.1.2.2.2.2.2.1))) v_1) fun x7 =>
some ((min ((min x4 y5)) x7))) (some ((min x4 y5))))
def g_motion_mover_brake (m_0 : motion_mover) (v_1 : Int) (demand_2 : Int) (slope_3 : Int) : Option (Int) :=
cond ((decide (demand_2 ≥ 0))) (some 0) (Option.bind (divO .i64 ((w64 (m_0.1.2.2.2.2.1 * (w64 (0 - demand_2))))) 4) fun x4 =>
Option.bind (g_motion_mover_adhesion m_0) fun y5 =>
some ((min x4 y5)))
def g_motion_mover_drag (m_0 : motion_mover) (v_1 : Int) (demand_2 : Int) (slope_3 : Int) : Option (Int) :=
Option.bind (divO .i64 ((w64 (m_0.1.2.2.2.2.2.2.2.1 * v_1))) 1000) fun x2 =>
some ((w64 (m_0.1.2.2.2.2.2.2.1 + x2)))
def g_motion_mover_hill (m_0 : motion_mover) (v_1 : Int) (demand_2 : Int) (slope_3 : Int) : Option (Int) :=
Option.bind (divO .i64 ((w64 ((w64 (m_0.1.1 * slope_3)) * 981))) 100000) fun x1 =>
some x1
def g_motion_mover_all (m_0 : motion_mover) (v_1 : Int) (demand_2 : Int) (slope_3 : Int) : Option ((List Int)) :=
Option.bind (iter (σ := (Int × (List Int))) (τ := ((List Int))) (fun s11 =>
cond ((decide (s11.1 < 4))) (Option.bind (idx (([(fun x => g_motion_mover_pull m_0 x.1 x.2.1 x.2.2), (fun x => g_motion_mover_brake m_0 x.1 x.2.1 x.2.2), (fun x => g_motion_mover_drag m_0 x.1 x.2.1 x.2.2), (fun x => g_motion_mover_hill m_0 x.1 x.2.1 x.2.2)] : (List ((Int × Int × Int) → Option (Int))))) s11.1) fun x14 =>
Option.bind (x14 ((v_1, demand_2, slope_3))) fun y15 =>
Option.bind (idx s11.2 s11.1) fun x16 =>
some (.inl (((w64 (s11.1 + 1)), (s11.2).set (Int.toNat s11.1) y15)))) (some (.inr s11.2))) big ((0, (List.replicate 4 (0 : Int))))) fun t17 =>
some t17
def g_motion_mover_speed (m_0 : motion_mover) (x_1 : MotionState) : Option (Int) :=
Option.bind (divO .i64 x_1.1 m_0.1.1) fun x2 =>
some x2
def g_motion_mover_step (p_0 : motion_mover) (p_1 : MotionState) (p_2 : Int) (p_3 : Int) : Option (motion_stepped × Bool) :=
Option.bind (g_motion_mover_speed p_0 p_1) fun y2 =>
Option.bind (g_motion_mover_all p_0 y2 p_2 p_3) fun y3 =>
Option.bind (idx y3 0) fun x5 =>
Option.bind (idx y3 1) fun x6 =>
Option.bind (idx y3 2) fun x7 =>
Option.bind (idx y3 3) fun x8 =>
Option.bind (cond ((decide ((w64 (p_1.1 + (w64 (100 * (w64 ((w64 ((w64 (x5 - x6)) - x7)) - x8)))))) < 0))) (some true) (cond ((p_1.1 == 0)) (some ((decide ((w64 ((w64 ((w64 (x5 - x6)) - x7)) - x8)) ≤ 0)))) (some false))) fun c12 =>
cond (c12) (Option.bind (idx y3 0) fun x20 =>
Option.bind (idx y3 1) fun x21 =>
Option.bind (idx y3 2) fun x22 =>
Option.bind (idx y3 3) fun x23 =>
Option.bind (idx y3 0) fun x26 =>
Option.bind (divO .i64 ((w64 ((w64 ((w64 (x26 * 0)) + (w64 (1000 * p_0.1.1)))) - 1))) ((w64 (1000 * p_0.1.1)))) fun x27 =>
Option.bind (idx y3 1) fun x30 =>
Option.bind (divO .i64 ((w64 ((w64 (x30 * 0)) * p_0.1.2.2.2.2.2.2.2.2.1))) ((w64 (100000 * p_0.1.1)))) fun x31 =>
some ((((0, (w64 (p_1.2.1 + 0)), ()), ((w64 ((w64 (200 * x20)) * 0)), (w64 ((w64 (200 * x21)) * 0)), (w64 ((w64 (200 * x22)) * 0)), (w64 ((w64 (200 * x23)) * 0)), 0, (w64 (p_1.1 * p_1.1)), ()), x27, x31, ()), (decide (0 ≤ (w64 (25000 * p_0.1.1))))))) (Option.bind (idx y3 0) fun x36 =>
Option.bind (idx y3 1) fun x37 =>
Option.bind (idx y3 2) fun x38 =>
Option.bind (idx y3 3) fun x39 =>
Option.bind (idx y3 0) fun x42 =>
Option.bind (divO .i64 ((w64 ((w64 ((w64 (x42 * (w64 (p_1.1 + (w64 (100 * (w64 ((w64 ((w64 (x5 - x6)) - x7)) - x8)))))))) + (w64 (1000 * p_0.1.1)))) - 1))) ((w64 (1000 * p_0.1.1)))) fun x43 =>
Option.bind (idx y3 1) fun x46 =>
Option.bind (divO .i64 ((w64 ((w64 (x46 * (w64 (p_1.1 + (w64 (100 * (w64 ((w64 ((w64 (x5 - x6)) - x7)) - x8)))))))) * p_0.1.2.2.2.2.2.2.2.2.1))) ((w64 (100000 * p_0.1.1)))) fun x47 =>
some (((((w64 (p_1.1 + (w64 (100 * (w64 ((w64 ((w64 (x5 - x6)) - x7)) - x8)))))), (w64 (p_1.2.1 + (w64 (p_1.1 + (w64 (100 * (w64 ((w64 ((w64 (x5 - x6)) - x7)) - x8)))))))), ()), ((w64 ((w64 (200 * x36)) * (w64 (p_1.1 + (w64 (100 * (w64 ((w64 ((w64 (x5 - x6)) - x7)) - x8)))))))), (w64 ((w64 (200 * x37)) * (w64 (p_1.1 + (w64 (100 * (w64 ((w64 ((w64 (x5 - x6)) - x7)) - x8)))))))), (w64 ((w64 (200 * x38)) * (w64 (p_1.1 + (w64 (100 * (w64 ((w64 ((w64 (x5 - x6)) - x7)) - x8)))))))), (w64 ((w64 (200 * x39)) * (w64 (p_1.1 + (w64 (100 * (w64 ((w64 ((w64 (x5 - x6)) - x7)) - x8)))))))), (w64 ((w64 (10000 * (w64 ((w64 ((w64 (x5 - x6)) - x7)) - x8)))) * (w64 ((w64 ((w64 (x5 - x6)) - x7)) - x8)))), 0, ()), x43, x47, ()), (decide ((w64 (p_1.1 + (w64 (100 * (w64 ((w64 ((w64 (x5 - x6)) - x7)) - x8)))))) ≤ (w64 (25000 * p_0.1.1)))))))
def g_motion_Step (t_0 : Train) (x_1 : MotionState) (demand_2 : Int) (slope_3 : Int) (state_4 : Int) : Option (MotionState × MotionLedger × Int) :=
Option.bind (g_motion_asked t_0 x_1 demand_2 slope_3 state_4) fun y3 =>
cond ((!y3.2)) (some ((((0, 0, ()) : MotionState), ((0, 0, 0, 0, 0, 0, ()) : MotionLedger), 2))) (Option.bind (y3.1) fun p5 =>
Option.bind (g_motion_mover_step p5 x_1 demand_2 slope_3) fun y6 =>
Option.bind (cond ((!y6.2)) (some true) (some ((decide (y6.1.1.2.1 > 10000000000000000))))) fun c9 =>
cond (c9) (some ((((0, 0, ()) : MotionState), ((0, 0, 0, 0, 0, 0, ()) : MotionLedger), 3))) (some ((y6.1.1, y6.1.2.1, 0))))
def g_motion_mover_stopping_1 {σ τ : Type} (step : σ → (MotionState) → Option (σ ⊕ τ)) (s_ : σ) (p_1 : MotionState) (p_2 : motion_mover) (p_3 : ((MotionState) → Option (Int))) : Option ((σ ⊕ τ) × MotionState) :=
Option.bind (iter (σ := (Int × (σ ⊕ τ) × Int × Int)) (τ := ((σ ⊕ τ) × Int × Int) ⊕ (((σ ⊕ τ) × Int × Int))) (fun s26 =>
cond ((decide (s26.1 < 36000))) (cond ((s26.2.2.1 == 0)) (some (.inr ((.inr ((s26.2.1, s26.2.2.1, s26.2.2.2)))))) (Option.bind (p_3 ((s26.2.2.1, s26.2.2.2, ()))) fun y33 =>
Option.bind (g_motion_mover_step p_2 ((s26.2.2.1, s26.2.2.2, ())) ((-4)) y33) fun y34 =>
cond ((!y34.2)) (some (.inr ((.inr ((s26.2.1, s26.2.2.1, s26.2.2.2)))))) (Option.bind (goL s26.2.1) fun s37 =>
Option.bind (step s37 y34.1.1) fun y38 =>
cond ((!(y38).isLeft)) (some (.inr ((.inr ((y38, y34.1.1.1, y34.1.1.2.1)))))) (some (.inl (((w64 (s26.1 + 1)), y38, y34.1.1.1, y34.1.1.2.1))))))) (some (.inr ((.inl ((s26.2.1, s26.2.2.1, s26.2.2.2))))))) big ((0, (.inl s_), p_1.1, p_1.2.1))) fun t41 =>
alt (fun b43 => some ((b43.1, (b43.2.1, b43.2.2, ())))) (fun b44 => some ((b44.1, (b44.2.1, b44.2.2, ())))) t41
def g_motion_mover_stopping (m_0 : motion_mover) (x_1 : MotionState) (slope_2 : ((MotionState) → Option (Int))) : Option (MotionState × motion_mover × ((MotionState) → Option (Int))) :=
some ((x_1, m_0, slope_2))
def g_motion_mover_braking_1 (p_0 : MotionState) (p_1 : Int) : Option (Int) :=
some p_1
def g_motion_mover_place (m_0 : motion_mover) (x_1 : MotionState) : Option (Int) :=
Option.bind (divO .i64 x_1.2.1 ((w64 (10 * m_0.1.1)))) fun x2 =>
some x2
def g_motion_mover_braking (m_0 : motion_mover) (x_1 : MotionState) (slope_2 : Int) : Option (Int × Bool) :=
Option.bind (g_motion_mover_stopping m_0 x_1 ((fun x => g_motion_mover_braking_1 x slope_2))) fun y2 =>
Option.bind (g_motion_mover_stopping_1 (σ := (Int × Int)) (τ := Unit) (fun s7 x4 =>
some (.inl ((x4.1, x4.2.1)))) ((x_1.1, x_1.2.1)) y2.1 y2.2.1 y2.2.2) fun t10 =>
Option.bind (goL t10.1) fun b12 =>
Option.bind (g_motion_mover_place m_0 ((b12.1, b12.2, ()))) fun y17 =>
Option.bind (g_motion_mover_place m_0 x_1) fun y18 =>
some (((w64 (y17 - y18)), (b12.1 == 0)))
def g_motion_Braking (t_0 : Train) (x_1 : MotionState) (slope_2 : Int) (state_3 : Int) : Option (Int × Int) :=
Option.bind (g_motion_asked t_0 x_1 0 slope_2 state_3) fun y1 =>
cond ((!y1.2)) (some ((0, 2))) (Option.bind (y1.1) fun p3 =>
Option.bind (g_motion_mover_braking p3 x_1 slope_2) fun y4 =>
cond ((!y4.2)) (some ((0, 4))) (some ((y4.1, 0))))
def g_motion_Sight (t_0 : Train) (slope_1 : Int) (state_2 : Int) (distance_3 : Int) : Option (Int × Int) :=
Option.bind (g_motion_asked t_0 (((0, 0, ()) : MotionState)) 0 slope_1 state_2) fun y1 =>
Option.bind (cond ((!y1.2)) (some true) (Option.bind (g_motion_within distance_3 0 1000000) fun y6 =>
some ((!y6)))) fun c4 =>
cond (c4) (some ((0, 2))) (Option.bind (iter (σ := (Int)) (τ := Unit ⊕ (Int × Int)) (fun s15 =>
cond ((decide (s15 > 0))) (Option.bind (y1.1) fun p18 =>
Option.bind (g_motion_mover_braking p18 ((((w64 (s15 * t_0.1)), 0, ()) : MotionState)) slope_1) fun y19 =>
cond (y19.2) (cond ((decide (y19.1 ≤ distance_3))) (some (.inr ((.inr ((s15, 0)))))) (some (.inl ((w64 (s15 - 1)))))) (some (.inl ((w64 (s15 - 1)))))) (some (.inr ((.inl (())))))) big t_0.2.2.1) fun t24 =>
alt (fun b26 => some ((0, 0))) (fun b27 => some ((b27.1, b27.2))) t24)
def g_track_within (x_0 : Int) (low_1 : Int) (high_2 : Int) : Option (Bool) :=
Option.bind (cond ((decide (x_0 ≥ low_1))) (some ((decide (x_0 ≤ high_2)))) (some false)) fun c2 =>
some c2
def g_slices_IndexFunc_api_Node_api_Node (s_0 : (List ANode)) (f_1 : ((ANode) → Option (Bool))) : Option (Int) :=
Option.bind (iter (σ := (Int)) (τ := Unit ⊕ (Int)) (fun s5 =>
cond ((decide (s5 < (lenI s_0)))) (Option.bind (idx s_0 s5) fun x8 =>
Option.bind (f_1 x8) fun y9 =>
cond (y9) (some (.inr ((.inr s5)))) (some (.inl ((w64 (s5 + 1)))))) (some (.inr ((.inl (())))))) big 0) fun t11 =>
alt (fun b13 => some ((-1))) (fun b14 => some b14) t11
def g_slices_ContainsFunc_api_Node_api_Node (s_0 : (List ANode)) (f_1 : ((ANode) → Option (Bool))) : Option (Bool) :=
Option.bind (g_slices_IndexFunc_api_Node_api_Node s_0 f_1) fun y1 =>
some ((decide (y1 ≥ 0)))
def g_track_spot (s_0 : Spot) : Option (Bool) :=
Option.bind (Option.bind (g_track_within s_0.1 ((-10000000)) 10000000) fun y5 =>
cond (y5) (Option.bind (g_track_within s_0.2.1 ((-10000000)) 10000000) fun y7 =>
some y7) (some false)) fun c4 =>
some c4
def g_track_sizes  : Option ((List Int)) :=
some ((List.replicate 1 0 ++ ([1, 2, 4, 3, 3, 3] : (List Int))))
def g_track_node (n_0 : ANode) : Option (Bool) :=
Option.bind (cond ((decide (n_0.2.1 < 1))) (some true) (cond ((decide (n_0.2.1 > 6))) (some true) (Option.bind (g_track_spot n_0.1) fun y16 =>
cond ((!y16)) (some true) (Option.bind (g_track_sizes) fun y18 =>
Option.bind (idx y18 n_0.2.1) fun x19 =>
some (((lenI n_0.2.2.1) != x19)))))) fun c13 =>
cond (c13) (some false) (Option.bind (cond ((n_0.2.1 == 5)) (some true) (some ((n_0.2.1 == 6)))) fun c22 =>
cond (c22) (Option.bind (g_track_within n_0.2.2.2.1 1 2) fun y25 =>
some y25) (some ((n_0.2.2.2.1 == 0))))
def g_track_Check_1 (n_0 : ANode) : Option (Bool) :=
Option.bind (g_track_node n_0) fun y1 =>
some ((!y1))
def g_slices_IndexFunc_api_Rail_api_Rail (s_0 : (List Rail)) (f_1 : ((Rail) → Option (Bool))) : Option (Int) :=
Option.bind (iter (σ := (Int)) (τ := Unit ⊕ (Int)) (fun s5 =>
cond ((decide (s5 < (lenI s_0)))) (Option.bind (idx s_0 s5) fun x8 =>
Option.bind (f_1 x8) fun y9 =>
cond (y9) (some (.inr ((.inr s5)))) (some (.inl ((w64 (s5 + 1)))))) (some (.inr ((.inl (())))))) big 0) fun t11 =>
alt (fun b13 => some ((-1))) (fun b14 => some b14) t11
def g_slices_ContainsFunc_api_Rail_api_Rail (s_0 : (List Rail)) (f_1 : ((Rail) → Option (Bool))) : Option (Bool) :=
Option.bind (g_slices_IndexFunc_api_Rail_api_Rail s_0 f_1) fun y1 =>
some ((decide (y1 ≥ 0)))
def g_slices_Grow_api_Spot_api_Spot (n_1 : Int) : Option ((List Spot)) :=
cond ((decide (n_1 < 0))) (none) (cond ((decide ((w64 (n_1 - (w64 (0 - 0)))) > 0))) (Option.bind (appzO 16 ((w64 (n_1 - (w64 (0 - 0))))) ((0, 0, ()) : Spot)) fun x3 =>
Option.bind (slz x3) fun x5 =>
some (([] : List Spot))) (some ([])))
def g_slices_Concat_api_Spot_api_Spot (slices_0 : (List (List Spot))) : Option ((List Spot)) :=
Option.bind (iter (σ := (Int × Int)) (τ := (Int)) (fun s4 =>
cond ((decide (s4.2 < (lenI slices_0)))) (Option.bind (idx slices_0 s4.2) fun x7 =>
cond ((decide ((w64 (s4.1 + (lenI x7))) < 0))) (none) (some (.inl (((w64 (s4.1 + (lenI x7))), (w64 (s4.2 + 1))))))) (some (.inr s4.1))) big ((0, 0))) fun t9 =>
Option.bind (g_slices_Grow_api_Spot_api_Spot t9) fun y11 =>
Option.bind (iter (σ := ((List Spot) × Int)) (τ := ((List Spot))) (fun s17 =>
cond ((decide (s17.2 < (lenI slices_0)))) (Option.bind (idx slices_0 s17.2) fun x20 =>
Option.bind (appO 16 s17.1 x20) fun x21 =>
some (.inl ((x21, (w64 (s17.2 + 1)))))) (some (.inr s17.1))) big ((y11, 0))) fun t23 =>
some t23
def g_track_line (p_0 : Plan) (r_1 : Rail) : Option ((List Spot)) :=
Option.bind (idx p_0.1 r_1.1) fun x5 =>
Option.bind (idx p_0.1 r_1.2.1) fun x6 =>
Option.bind (g_slices_Concat_api_Spot_api_Spot ([[x5.1], r_1.2.2.1, [x6.1]])) fun y7 =>
some y7
def g_track_root (n_0 : Int) : Option (Int) :=
Option.bind (FloatKind.f64.format.sqrt ((FloatKind.f64.nearest n_0))) fun x1 =>
Option.bind (f2i x1) fun x2 =>
Option.bind (iter (σ := (Int)) (τ := (Int)) (fun s4 =>
cond ((decide ((w64 (s4 * s4)) > n_0))) (some (.inl ((w64 (s4 - 1))))) (some (.inr s4))) big x2) fun t7 =>
Option.bind (iter (σ := (Int)) (τ := (Int)) (fun s10 =>
cond ((decide ((w64 ((w64 (s10 + 1)) * (w64 (s10 + 1)))) ≤ n_0))) (some (.inl ((w64 (s10 + 1))))) (some (.inr s10))) big t7) fun t13 =>
some t13
def g_track_span (a_0 : Spot) (b_1 : Spot) : Option (Int) :=
Option.bind (g_track_root ((w64 ((w64 ((w64 (a_0.1 - b_1.1)) * (w64 (a_0.1 - b_1.1)))) + (w64 ((w64 (a_0.2.1 - b_1.2.1)) * (w64 (a_0.2.1 - b_1.2.1)))))))) fun y1 =>
some y1
def g_track_rail (p_0 : Plan) (p_1 : Rail) : Option (Bool) :=
Option.bind (Option.bind (g_track_within p_1.1 0 ((w64 ((lenI p_0.1) - 1)))) fun y10 =>
cond ((!y10)) (some true) (Option.bind (g_track_within p_1.2.1 0 ((w64 ((lenI p_0.1) - 1)))) fun y12 =>
cond ((!y12)) (some true) (cond ((decide ((lenI p_1.2.2.1) > 30))) (some true) (Option.bind (g_track_within p_1.2.2.2.1 1 50000) fun y15 =>
cond ((!y15)) (some true) (Option.bind (g_track_within p_1.2.2.2.2.1 ((-120)) 120) fun y17 =>
some ((!y17))))))) fun c9 =>
cond (c9) (some false) (Option.bind (g_track_line p_0 p_1) fun y19 =>
Option.bind (iter (σ := (Int)) (τ := Unit ⊕ (Bool)) (fun s45 =>
cond ((decide (s45 < (lenI y19)))) (Option.bind (idx y19 s45) fun x48 =>
Option.bind (g_track_spot x48) fun y62 =>
cond ((!y62)) (some (.inr ((.inr false)))) (cond ((decide (s45 > 0))) (Option.bind (idx y19 ((w64 (s45 - 1)))) fun x66 =>
Option.bind (g_track_span x66 x48) fun y67 =>
Option.bind (g_track_within y67 1 1000000) fun y68 =>
cond ((!y68)) (some (.inr ((.inr false)))) (some (.inl ((w64 (s45 + 1)))))) (some (.inl ((w64 (s45 + 1))))))) (some (.inr ((.inl (())))))) big 0) fun t71 =>
alt (fun b73 => some true) (fun b74 => some b74) t71)
def g_track_Check_2 (r_0 : Rail) (p_1 : Plan) : Option (Bool) :=
Option.bind (g_track_rail p_1 r_0) fun y1 =>
some ((!y1))
def g_track_ending (p_0 : Plan) (e_1 : RailEnd) : Option (Int) :=
cond (e_1.2.1) (Option.bind (idx p_0.2.1 e_1.1) fun x2 =>
some x2.2.1) (Option.bind (idx p_0.2.1 e_1.1) fun x3 =>
some x3.1)
def g_track_Check (p_0 : Plan) : Option (Int) :=
Option.bind (Option.bind (g_track_within ((lenI p_0.1)) 1 300) fun y5 =>
cond ((!y5)) (some true) (Option.bind (g_track_within ((lenI p_0.2.1)) 1 400) fun y7 =>
some ((!y7)))) fun c4 =>
cond (c4) (some 2) (Option.bind (Option.bind (g_slices_ContainsFunc_api_Node_api_Node p_0.1 ((fun x => g_track_Check_1 x))) fun y13 =>
cond (y13) (some true) (Option.bind (g_slices_ContainsFunc_api_Rail_api_Rail p_0.2.1 ((fun x => g_track_Check_2 x p_0))) fun y15 =>
some y15)) fun c12 =>
cond (c12) (some 2) (Option.bind (iter (σ := (Int × (List (RailEnd × Bool)))) (τ := ((List (RailEnd × Bool))) ⊕ (Int)) (fun s120 =>
cond ((decide (s120.1 < (lenI p_0.1)))) (Option.bind (idx p_0.1 s120.1) fun x123 =>
Option.bind (iter (σ := (Int × (List (RailEnd × Bool)))) (τ := ((List (RailEnd × Bool))) ⊕ (Int × (List (RailEnd × Bool)))) (fun s153 =>
cond ((decide (s153.1 < (lenI x123.2.2.1)))) (Option.bind (idx x123.2.2.1 s153.1) fun x156 =>
Option.bind (g_track_within x156.1 0 ((w64 ((lenI p_0.2.1) - 1)))) fun y162 =>
cond ((!y162)) (some (.inr ((.inr ((2, s153.2)))))) (cond (((mget s153.2 x156).getD false)) (some (.inr ((.inr ((2, s153.2)))))) (Option.bind (g_track_ending p_0 x156) fun y167 =>
cond ((y167 != s120.1)) (some (.inr ((.inr ((2, s153.2)))))) (some (.inl (((w64 (s153.1 + 1)), (mset s153.2 x156 true)))))))) (some (.inr ((.inl s153.2))))) big ((0, s120.2))) fun t169 =>
alt (fun b171 => some (.inl (((w64 (s120.1 + 1)), b171)))) (fun b172 => some (.inr ((.inr b172.1)))) t169) (some (.inr ((.inl s120.2))))) big ((0, ([] : (List (RailEnd × Bool)))))) fun t173 =>
alt (fun b175 => Option.bind (lenmO b175) fun x177 =>
cond ((x177 != (w64 (2 * (lenI p_0.2.1))))) (some 2) (some 0)) (fun b176 => some b176) t173))
def g_track_open (p_0 : Plan) : Option ((Option track_network) × Bool) :=
Option.bind (g_track_Check p_0) fun y1 =>
cond ((y1 != 0)) (some (((none : Option track_network), false))) (Option.bind (iter (σ := (Int × (List Int))) (τ := ((List Int))) (fun s55 =>
cond ((decide (s55.1 < (lenI p_0.2.1)))) (Option.bind (idx p_0.2.1 s55.1) fun x58 =>
Option.bind (g_track_line p_0 x58) fun y60 =>
Option.bind (iter (σ := (Int × Int)) (τ := (Int)) (fun s69 =>
cond ((decide (s69.2 < (lenI y60)))) (Option.bind (idx y60 ((w64 (s69.2 - 1)))) fun x75 =>
Option.bind (idx y60 s69.2) fun x76 =>
Option.bind (g_track_span x75 x76) fun y77 =>
some (.inl (((w64 (s69.1 + y77)), (w64 (s69.2 + 1)))))) (some (.inr s69.1))) big ((0, 1))) fun t78 =>
Option.bind (appO 8 s55.2 ([t78])) fun x80 =>
some (.inl (((w64 (s55.1 + 1)), x80)))) (some (.inr s55.2))) big ((0, []))) fun t82 =>
Option.bind (iter (σ := (Int × (List (RailEnd × Int)))) (τ := ((List (RailEnd × Int)))) (fun s116 =>
cond ((decide (s116.1 < (lenI p_0.1)))) (Option.bind (idx p_0.1 s116.1) fun x119 =>
Option.bind (iter (σ := (Int × (List (RailEnd × Int)))) (τ := ((List (RailEnd × Int)))) (fun s127 =>
cond ((decide (s127.1 < (lenI x119.2.2.1)))) (Option.bind (idx x119.2.2.1 s127.1) fun x130 =>
some (.inl (((w64 (s127.1 + 1)), (mset s127.2 x130 s127.1))))) (some (.inr s127.2))) big ((0, s116.2))) fun t132 =>
some (.inl (((w64 (s116.1 + 1)), t132)))) (some (.inr s116.2))) big ((0, ([] : (List (RailEnd × Int)))))) fun t134 =>
some (((some (((p_0.1, p_0.2.1, ()), t82, t134, ()))), true)))
def g_track_network_has (n_0 : track_network) (m_1 : AMove) : Option (Bool) :=
Option.bind (g_track_within m_1.1 0 ((w64 ((lenI n_0.1.2.1) - 1)))) fun y2 =>
some y2
def g_track_arrives (m_0 : AMove) : Option (RailEnd) :=
some (((m_0.1, (!m_0.2.1), ()) : RailEnd))
def g_track_passage_end (p_0 : track_passage) (from_1 : Int) (to_2 : Int) : Option (Bool) :=
some false
def g_track_passage_plain (p_0 : track_passage) (from_1 : Int) (to_2 : Int) : Option (Bool) :=
some ((from_1 != to_2))
def g_track_passage_cross (p_0 : track_passage) (from_1 : Int) (to_2 : Int) : Option (Bool) :=
Option.bind (cond ((from_1 != to_2)) (Option.bind (remO ((w64 (from_1 + to_2))) 2) fun x5 =>
some ((x5 == 0))) (some false)) fun c3 =>
some c3
def g_track_passage_set (p_0 : track_passage) (from_1 : Int) (to_2 : Int) : Option (Bool) :=
Option.bind (cond ((from_1 != to_2)) (cond ((from_1 == 0)) (some true) (some ((to_2 == 0)))) (some false)) fun c3 =>
some c3
def g_track_passage_spring (x_0 : track_passage) (from_1 : Int) (to_2 : Int) : Option (Bool) :=
Option.bind (cond ((from_1 != 0)) (cond ((to_2 == 0)) (some true) (cond ((from_1 == 0)) (some ((to_2 == x_0.1.2.2.2.1))) (some false))) (cond ((from_1 == 0)) (some ((to_2 == x_0.1.2.2.2.1))) (some false))) fun c5 =>
some c5
def g_track_passage_locked (x_0 : track_passage) (from_1 : Int) (to_2 : Int) : Option (Bool) :=
Option.bind (cond ((from_1 == 0)) (cond ((to_2 == x_0.1.2.2.2.1)) (some true) (cond ((from_1 == x_0.1.2.2.2.1)) (some ((to_2 == 0))) (some false))) (cond ((from_1 == x_0.1.2.2.2.1)) (some ((to_2 == 0))) (some false))) fun c5 =>
some c5
def g_track_passage_lets (x_0 : track_passage) (from_1 : Int) (to_2 : Int) : Option (Bool) :=
Option.bind (idx ((List.replicate 1 (fun _ => none) ++ ([(fun x => g_track_passage_end x.1 x.2.1 x.2.2), (fun x => g_track_passage_plain x.1 x.2.1 x.2.2), (fun x => g_track_passage_cross x.1 x.2.1 x.2.2), (fun x => g_track_passage_set x.1 x.2.1 x.2.2), (fun x => g_track_passage_spring x.1 x.2.1 x.2.2), (fun x => g_track_passage_locked x.1 x.2.1 x.2.2)] : (List ((track_passage × Int × Int) → Option (Bool)))))) x_0.1.2.1) fun x4 =>
Option.bind (x4 ((x_0, from_1, to_2))) fun y5 =>
some y5
def g_track_number (m_0 : AMove) : Option (Int) :=
cond (m_0.2.1) (some ((w64 ((w64 (2 * m_0.1)) + 1)))) (some ((w64 (2 * m_0.1))))
def g_cmp_isNaN_int (x_0 : Int) : Option (Bool) :=
some ((x_0 != x_0))
def g_cmp_Less_int (x_0 : Int) (y_1 : Int) : Option (Bool) :=
Option.bind (Option.bind (g_cmp_isNaN_int x_0) fun y6 =>
cond (y6) (Option.bind (g_cmp_isNaN_int y_1) fun y8 =>
cond ((!y8)) (some true) (some ((decide (x_0 < y_1))))) (some ((decide (x_0 < y_1))))) fun c5 =>
some c5
def g_slices_insertionSortOrdered_int   (data_0 : (List Int)) (a_1 : Int) (b_2 : Int) : Option ((List Int)) :=
Option.bind (iter (σ := (Int × (List Int))) (τ := ((List Int))) (fun s143 =>
cond ((decide (s143.1 < b_2))) (Option.bind (iter (σ := (Int × (List Int))) (τ := ((List Int))) (fun s190 =>
cond ((decide (s190.1 > a_1))) (Option.bind (idx s190.2 s190.1) fun x201 =>
Option.bind (idx s190.2 ((w64 (s190.1 - 1)))) fun x202 =>
Option.bind (g_cmp_Less_int x201 x202) fun y203 =>
cond (y203) (Option.bind (idx s190.2 ((w64 (s190.1 - 1)))) fun x209 =>
Option.bind (idx s190.2 s190.1) fun x210 =>
Option.bind (idx s190.2 s190.1) fun x211 =>
Option.bind (idx ((s190.2).set (Int.toNat s190.1) x209) ((w64 (s190.1 - 1)))) fun x212 =>
some (.inl (((w64 (s190.1 - 1)), ((s190.2).set (Int.toNat s190.1) x209).set (Int.toNat ((w64 (s190.1 - 1)))) x210)))) (some (.inr s190.2))) (some (.inr s190.2))) big ((s143.1, s143.2))) fun t214 =>
some (.inl (((w64 (s143.1 + 1)), t214)))) (some (.inr s143.2))) big (((w64 (a_1 + 1)), data_0))) fun t216 =>
some t216
def g_math_bits_Len32 (x_0 : Int) : Option (Int) :=
cond ((decide (x_0 ≥ 65536))) (Option.bind (shrO .u32 x_0 16) fun x2 =>
cond ((decide (x2 ≥ 256))) (Option.bind (shrO .u32 x2 8) fun x4 =>
Option.bind (idx strtab0 ((IntKind.u8.wrap x4))) fun x5 =>
some ((w64 ((w64 (16 + 8)) + (w64 x5))))) (Option.bind (idx strtab0 ((IntKind.u8.wrap x2))) fun x6 =>
some ((w64 (16 + (w64 x6)))))) (cond ((decide (x_0 ≥ 256))) (Option.bind (shrO .u32 x_0 8) fun x8 =>
Option.bind (idx strtab0 ((IntKind.u8.wrap x8))) fun x9 =>
some ((w64 ((w64 (0 + 8)) + (w64 x9))))) (Option.bind (idx strtab0 ((IntKind.u8.wrap x_0))) fun x10 =>
some ((w64 (0 + (w64 x10))))))
def g_math_bits_Len64 (x_0 : Int) : Option (Int) :=
cond ((decide (x_0 ≥ 4294967296))) (Option.bind (shrO .u64 x_0 32) fun x2 =>
cond ((decide (x2 ≥ 65536))) (Option.bind (shrO .u64 x2 16) fun x4 =>
cond ((decide (x4 ≥ 256))) (Option.bind (shrO .u64 x4 8) fun x6 =>
Option.bind (idx strtab0 ((IntKind.u8.wrap x6))) fun x7 =>
some ((w64 ((w64 ((w64 (32 + 16)) + 8)) + (w64 x7))))) (Option.bind (idx strtab0 ((IntKind.u8.wrap x4))) fun x8 =>
some ((w64 ((w64 (32 + 16)) + (w64 x8)))))) (cond ((decide (x2 ≥ 256))) (Option.bind (shrO .u64 x2 8) fun x10 =>
Option.bind (idx strtab0 ((IntKind.u8.wrap x10))) fun x11 =>
some ((w64 ((w64 (32 + 8)) + (w64 x11))))) (Option.bind (idx strtab0 ((IntKind.u8.wrap x2))) fun x12 =>
some ((w64 (32 + (w64 x12))))))) (cond ((decide (x_0 ≥ 65536))) (Option.bind (shrO .u64 x_0 16) fun x14 =>
cond ((decide (x14 ≥ 256))) (Option.bind (shrO .u64 x14 8) fun x16 =>
Option.bind (idx strtab0 ((IntKind.u8.wrap x16))) fun x17 =>
some ((w64 ((w64 ((w64 (0 + 16)) + 8)) + (w64 x17))))) (Option.bind (idx strtab0 ((IntKind.u8.wrap x14))) fun x18 =>
some ((w64 ((w64 (0 + 16)) + (w64 x18)))))) (cond ((decide (x_0 ≥ 256))) (Option.bind (shrO .u64 x_0 8) fun x20 =>
Option.bind (idx strtab0 ((IntKind.u8.wrap x20))) fun x21 =>
some ((w64 ((w64 (0 + 8)) + (w64 x21))))) (Option.bind (idx strtab0 ((IntKind.u8.wrap x_0))) fun x22 =>
some ((w64 (0 + (w64 x22)))))))
def g_math_bits_Len (x_0 : Int) : Option (Int) :=
Option.bind (g_math_bits_Len64 x_0) fun y2 =>
some y2
def g_slices_nextPowerOfTwo (length_0 : Int) : Option (Int) :=
Option.bind (g_math_bits_Len ((IntKind.u64.wrap length_0))) fun y1 =>
Option.bind (shlO .u64 1 y1) fun x2 =>
some x2
def g_slices_pdqsortOrdered_int   (p_0 : (List Int)) (p_1 : Int) (p_2 : Int) (p_3 : Int) : Option ((List Int)) :=
Option.bind (iter (σ := (Int × Int × Int × Bool × Bool × (List Int))) (τ := ((List Int))) (fun s11 =>
cond ((decide ((w64 (s11.2.1 - s11.1)) ≤ 12))) (Option.bind (g_slices_insertionSortOrdered_int s11.2.2.2.2.2 s11.1 s11.2.1) fun y14 =>
some (.inr y14)) (cond ((s11.2.2.1 == 0)) (none) (cond ((!s11.2.2.2.1)) (none) (none)))) big ((p_1, p_2, p_3, true, true, p_0))) fun t18 =>
some t18
def g_slices_Sort_int_int   (x_0 : (List Int)) : Option ((List Int)) :=
Option.bind (g_math_bits_Len ((IntKind.u64.wrap ((lenI x_0))))) fun y1 =>
Option.bind (g_slices_pdqsortOrdered_int x_0 0 ((lenI x_0)) y1) fun y2 =>
some y2
def g_track_move (n_0 : Int) : Option (AMove) :=
Option.bind (divO .i64 n_0 2) fun x2 =>
Option.bind (remO n_0 2) fun x3 =>
some (((x2, (x3 == 1), ()) : AMove))
def g_track_network_next_1 {σ τ : Type} (step : σ → (AMove) → Option (σ ⊕ τ)) (s_ : σ) (p_1 : track_network) (p_2 : AMove) : Option ((σ ⊕ τ)) :=
Option.bind (g_track_arrives p_2) fun y5 =>
Option.bind (g_track_ending p_1.1 y5) fun y6 =>
Option.bind (idx p_1.1.1 y6) fun x7 =>
Option.bind (iter (σ := ((List Int) × Int)) (τ := ((List Int))) (fun s20 =>
cond ((decide (s20.2 < (lenI x7.2.2.1)))) (Option.bind (idx x7.2.2.1 s20.2) fun x23 =>
Option.bind (g_track_arrives p_2) fun y27 =>
Option.bind (g_track_passage_lets (((x7, ()) : track_passage)) (((mget p_1.2.2.1 y27).getD 0)) s20.2) fun y28 =>
cond (y28) (Option.bind (g_track_number (((x23.1, x23.2.1, ()) : AMove))) fun y30 =>
Option.bind (appO 8 s20.1 ([y30])) fun x31 =>
some (.inl ((x31, (w64 (s20.2 + 1)))))) (some (.inl ((s20.1, (w64 (s20.2 + 1))))))) (some (.inr s20.1))) big (([], 0))) fun t33 =>
Option.bind (g_slices_Sort_int_int t33) fun y35 =>
Option.bind (iter (σ := (Int × (σ ⊕ τ))) (τ := ((σ ⊕ τ)) ⊕ (((σ ⊕ τ)))) (fun s50 =>
cond ((decide (s50.1 < (lenI y35)))) (Option.bind (idx y35 s50.1) fun x53 =>
Option.bind (g_track_move x53) fun y54 =>
Option.bind (goL s50.2) fun s55 =>
Option.bind (step s55 y54) fun y56 =>
cond ((!(y56).isLeft)) (some (.inr ((.inr y56)))) (some (.inl (((w64 (s50.1 + 1)), y56))))) (some (.inr ((.inl s50.2))))) big ((0, (.inl s_)))) fun t59 =>
alt (fun b61 => some b61) (fun b62 => some b62) t59
def g_track_network_next (n_0 : track_network) (m_1 : AMove) : Option ((track_network × AMove)) :=
some ((n_0, m_1))
def g_track_network_follows (n_0 : track_network) (m_1 : AMove) (k_2 : AMove) : Option (Bool) :=
Option.bind (g_track_network_next n_0 m_1) fun y2 =>
Option.bind (g_track_network_next_1 (σ := (Bool)) (τ := (Bool)) (fun s8 x3 =>
cond ((x3 == k_2)) (some (.inr true)) (some (.inl s8))) false y2.1 y2.2) fun t12 =>
alt (fun b14 => some false) (fun b15 => some b15) t12
def g_track_network_way (n_0 : track_network) (l_1 : (List AMove)) : Option (Bool) :=
Option.bind (iter (σ := (Int)) (τ := Unit ⊕ (Bool)) (fun s22 =>
cond ((decide (s22 < (lenI l_1)))) (Option.bind (idx l_1 s22) fun x25 =>
Option.bind (g_track_network_has n_0 x25) fun y37 =>
cond ((!y37)) (some (.inr ((.inr false)))) (cond ((decide (s22 > 0))) (Option.bind (idx l_1 ((w64 (s22 - 1)))) fun x41 =>
Option.bind (g_track_network_follows n_0 x41 x25) fun y42 =>
cond ((!y42)) (some (.inr ((.inr false)))) (some (.inl ((w64 (s22 + 1)))))) (some (.inl ((w64 (s22 + 1))))))) (some (.inr ((.inl (())))))) big 0) fun t45 =>
alt (fun b47 => Option.bind (g_track_within ((lenI l_1)) 1 2000) fun y49 =>
some y49) (fun b48 => some b48) t45
def g_track_network_wayLength (n_0 : track_network) (l_1 : (List AMove)) : Option (Int) :=
Option.bind (iter (σ := (Int × Int)) (τ := (Int)) (fun s6 =>
cond ((decide (s6.2 < (lenI l_1)))) (Option.bind (idx l_1 s6.2) fun x9 =>
Option.bind (idx n_0.2.1 x9.1) fun x12 =>
some (.inl (((w64 (s6.1 + x12)), (w64 (s6.2 + 1)))))) (some (.inr s6.1))) big ((0, 0))) fun t13 =>
some t13
def g_track_WayLength (p_0 : Plan) (way_1 : (List AMove)) : Option (Int × Int) :=
Option.bind (g_track_open p_0) fun y1 =>
Option.bind (cond ((!y1.2)) (some true) (Option.bind (y1.1) fun p7 =>
Option.bind (g_track_network_way p7 way_1) fun y8 =>
some ((!y8)))) fun c5 =>
cond (c5) (some ((0, 2))) (Option.bind (y1.1) fun p10 =>
Option.bind (g_track_network_wayLength p10 way_1) fun y11 =>
some ((y11, 0)))
def g_track_Length (p_0 : Plan) (rail_1 : Int) : Option (Int × Int) :=
Option.bind (g_track_open p_0) fun y1 =>
Option.bind (cond ((!y1.2)) (some true) (Option.bind (y1.1) fun p7 =>
Option.bind (g_track_network_has p7 (((rail_1, false, ()) : AMove))) fun y8 =>
some ((!y8)))) fun c5 =>
cond (c5) (some ((0, 2))) (Option.bind (y1.1) fun p10 =>
Option.bind (idx p10.2.1 rail_1) fun x11 =>
some ((x11, 0)))
def g_motion_begin (p_0 : Plan) (p_1 : (List AMove)) (p_2 : Train) (p_3 : Int) (p_4 : (List Int)) : Option ((Option motion_run) × Bool) :=
Option.bind (g_motion_moving p_2 p_3) fun y1 =>
Option.bind (g_track_WayLength p_0 p_1) fun y2 =>
Option.bind (cond ((!y1.2)) (some true) (cond ((y2.2 != 0)) (some true) (Option.bind (g_motion_within ((lenI p_4)) 2 100) fun y20 =>
cond ((!y20)) (some true) (Option.bind (idx p_4 0) fun x22 =>
cond ((decide (x22 < p_2.2.1))) (some true) (Option.bind (idx p_4 ((w64 ((lenI p_4) - 1)))) fun x24 =>
some ((decide (x24 > y2.1)))))))) fun c17 =>
cond (c17) (some (((none : Option motion_run), false))) (Option.bind (iter (σ := (Int)) (τ := Unit ⊕ ((Option motion_run) × Bool)) (fun s32 =>
cond ((decide (s32 < (lenI p_4)))) (Option.bind (idx p_4 s32) fun x37 =>
Option.bind (idx p_4 ((w64 (s32 - 1)))) fun x38 =>
cond ((decide (x37 ≤ x38))) (some (.inr ((.inr (((none : Option motion_run), false)))))) (some (.inl ((w64 (s32 + 1)))))) (some (.inr ((.inl (())))))) big 1) fun t40 =>
alt (fun b42 => Option.bind (y1.1) fun p44 =>
Option.bind (iter (σ := (Int × Int × (List Int) × (List Int) × (List Int))) (τ := ((List Int) × (List Int) × (List Int)) ⊕ ((Option motion_run) × Bool × (List Int) × (List Int) × (List Int))) (fun s110 =>
cond ((decide (s110.2.1 < (lenI p_1)))) (Option.bind (idx p_1 s110.2.1) fun x113 =>
Option.bind (g_track_Length p_0 x113.1) fun y115 =>
cond ((y115.2 != 0)) (some (.inr ((.inr (((none : Option motion_run), false, s110.2.2.2.2, s110.2.2.2.1, s110.2.2.1)))))) (Option.bind (idx p_0.2.1 x113.1) fun x117 =>
cond (x113.2.1) (Option.bind (appO 8 s110.2.2.2.2 ([(w64 (s110.1 + y115.1))])) fun x126 =>
Option.bind (appO 8 s110.2.2.2.1 ([x117.2.2.2.1])) fun x128 =>
Option.bind (appO 8 s110.2.2.1 ([(w64 (0 - x117.2.2.2.2.1))])) fun x130 =>
some (.inl (((w64 (s110.1 + y115.1)), (w64 (s110.2.1 + 1)), x130, x128, x126)))) (Option.bind (appO 8 s110.2.2.2.2 ([(w64 (s110.1 + y115.1))])) fun x138 =>
Option.bind (appO 8 s110.2.2.2.1 ([x117.2.2.2.1])) fun x140 =>
Option.bind (appO 8 s110.2.2.1 ([x117.2.2.2.2.1])) fun x142 =>
some (.inl (((w64 (s110.1 + y115.1)), (w64 (s110.2.1 + 1)), x142, x140, x138)))))) (some (.inr ((.inl ((s110.2.2.2.2, s110.2.2.2.1, s110.2.2.1))))))) big ((0, 0, [], [], []))) fun t144 =>
alt (fun b146 => some (((some ((p44, p_1, b146.1, b146.2.1, b146.2.2, p_4, ()))), true))) (fun b147 => some ((b147.1, b147.2.1))) t144) (fun b43 => some ((b43.1, b43.2))) t40)
def g_slices_isNaN_int (x_0 : Int) : Option (Bool) :=
some ((x_0 != x_0))
def g_slices_BinarySearch_int_int (x_0 : (List Int)) (target_1 : Int) : Option (Int × Bool) :=
Option.bind (iter (σ := (Int × Int)) (τ := (Int)) (fun s6 =>
cond ((decide (s6.1 < s6.2))) (Option.bind (shrO .u64 ((IntKind.u64.wrap ((w64 (s6.1 + s6.2))))) 1) fun x9 =>
Option.bind (idx x_0 ((w64 x9))) fun x10 =>
Option.bind (g_cmp_Less_int x10 target_1) fun y11 =>
cond (y11) (some (.inl (((w64 ((w64 x9) + 1)), s6.2)))) (some (.inl ((s6.1, (w64 x9)))))) (some (.inr s6.1))) big ((0, (lenI x_0)))) fun t13 =>
Option.bind (cond ((decide (t13 < (lenI x_0)))) (Option.bind (idx x_0 t13) fun x24 =>
cond ((x24 == target_1)) (some ((t13, true))) (Option.bind (idx x_0 t13) fun x26 =>
Option.bind (g_slices_isNaN_int x26) fun y27 =>
cond (y27) (Option.bind (g_slices_isNaN_int target_1) fun y29 =>
some ((t13, y29))) (some ((t13, false))))) (some ((t13, false)))) fun c22 =>
some ((c22.1, c22.2))
def g_motion_run_slope (r_0 : motion_run) (x_1 : MotionState) : Option (Int) :=
Option.bind (g_motion_mover_place r_0.1 x_1) fun y2 =>
Option.bind (g_slices_BinarySearch_int_int r_0.2.2.1 ((w64 (y2 + 1)))) fun y3 =>
Option.bind (idx r_0.2.2.2.2.1 ((min y3.1 ((w64 ((lenI r_0.2.2.2.2.1) - 1)))))) fun x5 =>
some x5
def g_motion_run_limit (p_0 : motion_run) (p_1 : MotionState) : Option (Int) :=
Option.bind (g_motion_mover_place p_0.1 p_1) fun y2 =>
Option.bind (g_slices_BinarySearch_int_int p_0.2.2.1 ((w64 ((w64 (y2 - p_0.1.1.2.1)) + 1)))) fun y3 =>
Option.bind (iter (σ := (Int × Int)) (τ := (Int)) (fun s8 =>
cond ((decide (s8.2 < (lenI p_0.2.2.1)))) (Option.bind (idx p_0.2.2.2.1 s8.2) fun x11 =>
Option.bind (idx p_0.2.2.1 s8.2) fun x12 =>
cond ((decide (x12 ≥ y2))) (some (.inr (((min s8.1 x11))))) (some (.inl (((min s8.1 x11), (w64 (s8.2 + 1))))))) (some (.inr s8.1))) big ((p_0.1.1.2.2.1, y3.1))) fun t14 =>
some t14
def g_motion_run_fits (r_0 : motion_run) (x_1 : MotionState) (stop_2 : Int) : Option (Bool) :=
Option.bind (Option.bind (g_motion_mover_place r_0.1 x_1) fun y10 =>
cond ((decide (y10 ≤ stop_2))) (Option.bind (g_motion_mover_speed r_0.1 x_1) fun y12 =>
Option.bind (g_motion_run_limit r_0 x_1) fun y13 =>
some ((decide (y12 ≤ y13)))) (some false)) fun c9 =>
some c9
def g_motion_run_safe (r_0 : motion_run) (x_1 : MotionState) (stop_2 : Int) : Option (Bool) :=
Option.bind (g_motion_run_fits r_0 x_1 stop_2) fun y2 =>
cond ((!y2)) (some false) (Option.bind (g_motion_mover_stopping r_0.1 x_1 ((fun x => g_motion_run_slope r_0 x))) fun y7 =>
Option.bind (g_motion_mover_stopping_1 (σ := (Int × Int)) (τ := (Int × Int)) (fun s16 x9 =>
Option.bind (g_motion_run_fits r_0 x9 stop_2) fun y19 =>
cond ((!y19)) (some (.inr ((s16.1, s16.2)))) (some (.inl ((x9.1, x9.2.1))))) ((x_1.1, x_1.2.1)) y7.1 y7.2.1 y7.2.2) fun t21 =>
alt (fun b23 => some ((b23.1 == 0))) (fun b24 => some false) t21.1)
def g_motion_run_choose (r_0 : motion_run) (x_1 : MotionState) (stop_2 : Int) : Option (motion_stepped × Bool) :=
Option.bind (g_motion_run_slope r_0 x_1) fun y2 =>
Option.bind (iter (σ := (Bool × Int × Int × Int × Int × Int × Int × Int × Int × Int × Int × Int)) (τ := (Bool × Int × Int × Int × Int × Int × Int × Int × Int × Int × Int)) (fun s26 =>
cond ((decide (s26.2.1 < 9))) (Option.bind (g_motion_mover_step r_0.1 x_1 ((w64 (4 - s26.2.1))) y2) fun y31 =>
cond (y31.2) (Option.bind (g_motion_run_safe r_0 y31.1.1 stop_2) fun y36 =>
cond (y36) (some (.inr (((true, y31.1.1.1, y31.1.1.2.1, y31.1.2.1.1, y31.1.2.1.2.1, y31.1.2.1.2.2.1, y31.1.2.1.2.2.2.1, y31.1.2.1.2.2.2.2.1, y31.1.2.1.2.2.2.2.2.1, y31.1.2.2.1, y31.1.2.2.2.1))))) (some (.inl ((s26.1, (w64 (s26.2.1 + 1)), s26.2.2.1, s26.2.2.2.1, s26.2.2.2.2.1, s26.2.2.2.2.2.1, s26.2.2.2.2.2.2.1, s26.2.2.2.2.2.2.2.1, s26.2.2.2.2.2.2.2.2.1, s26.2.2.2.2.2.2.2.2.2.1, s26.2.2.2.2.2.2.2.2.2.2.1, s26.2.2.2.2.2.2.2.2.2.2.2))))) (some (.inl ((s26.1, (w64 (s26.2.1 + 1)), s26.2.2.1, s26.2.2.2.1, s26.2.2.2.2.1, s26.2.2.2.2.2.1, s26.2.2.2.2.2.2.1, s26.2.2.2.2.2.2.2.1, s26.2.2.2.2.2.2.2.2.1, s26.2.2.2.2.2.2.2.2.2.1, s26.2.2.2.2.2.2.2.2.2.2.1, s26.2.2.2.2.2.2.2.2.2.2.2))))) (some (.inr (((s26.1, s26.2.2.1, s26.2.2.2.1, s26.2.2.2.2.1, s26.2.2.2.2.2.1, s26.2.2.2.2.2.2.1, s26.2.2.2.2.2.2.2.1, s26.2.2.2.2.2.2.2.2.1, s26.2.2.2.2.2.2.2.2.2.1, s26.2.2.2.2.2.2.2.2.2.2.1, s26.2.2.2.2.2.2.2.2.2.2.2)))))) big ((false, 0, 0, 0, 0, 0, 0, 0, 0, 0, 0, 0))) fun t39 =>
some ((((t39.2.1, t39.2.2.1, ()), (t39.2.2.2.1, t39.2.2.2.2.1, t39.2.2.2.2.2.1, t39.2.2.2.2.2.2.1, t39.2.2.2.2.2.2.2.1, t39.2.2.2.2.2.2.2.2.1, ()), t39.2.2.2.2.2.2.2.2.2.1, t39.2.2.2.2.2.2.2.2.2.2, ()), t39.1))
def g_motion_sum (l_0 : (List MotionLedger)) : Option (MotionLedger) :=
Option.bind (iter (σ := (Int × Int × Int × Int × Int × Int × Int)) (τ := (Int × Int × Int × Int × Int × Int)) (fun s9 =>
cond ((decide (s9.1 < (lenI l_0)))) (Option.bind (idx l_0 s9.1) fun x12 =>
some (.inl (((w64 (s9.1 + 1)), (w64 (s9.2.1 + x12.1)), (w64 (s9.2.2.1 + x12.2.1)), (w64 (s9.2.2.2.1 + x12.2.2.1)), (w64 (s9.2.2.2.2.1 + x12.2.2.2.1)), (w64 (s9.2.2.2.2.2.1 + x12.2.2.2.2.1)), (w64 (s9.2.2.2.2.2.2 + x12.2.2.2.2.2.1)))))) (some (.inr (((s9.2.1, s9.2.2.1, s9.2.2.2.1, s9.2.2.2.2.1, s9.2.2.2.2.2.1, s9.2.2.2.2.2.2)))))) big ((0, 0, 0, 0, 0, 0, 0))) fun t14 =>
some ((t14.1, t14.2.1, t14.2.2.1, t14.2.2.2.1, t14.2.2.2.2.1, t14.2.2.2.2.2, ()))
def g_motion_run_leg (p_0 : motion_run) (p_1 : MotionState) (p_2 : Int) : Option (Leg × MotionState × Bool) :=
Option.bind (iter (σ := (Int × Int × Int × Int × Int × Int × Int × Int × Int × Int × Int × Int × Int × Int × Int × Int × Int × Int × Int × Int × Int × Int × Int × Int × Int)) (τ := (Bool × Int × Int × Int × Int × Int × Int × Int × Int × Int × Int × Int × Int × Int × Int × Int × Int × Int × Int × Int × Int × Int × Int × Int × Int)) (fun s77 =>
Option.bind (g_motion_mover_place p_0.1 ((s77.2.2.2.2.2.2.2.2.2.2.2.2.2.2.1, s77.2.2.2.2.2.2.2.2.2.2.2.2.2.2.2.1, ()))) fun y80 =>
cond ((s77.2.2.2.2.2.2.2.2.2.2.2.2.2.2.1 == 0)) (Option.bind (g_motion_within ((w64 (p_2 - y80))) 0 1000) fun y84 =>
cond (y84) (some (.inr (((true, y80, s77.2.2.2.2.2.2.2.2.2.2.2.2.2.2.1, s77.2.2.2.2.2.2.2.2.2.2.2.2.2.2.2.1, s77.2.1, y80, s77.2.2.2.1, s77.2.2.2.2.1, s77.2.2.2.2.2.1, s77.2.2.2.2.2.2.1, s77.2.2.2.2.2.2.2.1, s77.2.2.2.2.2.2.2.2.1, s77.2.2.2.2.2.2.2.2.2.1, s77.2.2.2.2.2.2.2.2.2.2.1, s77.2.1, s77.2.2.2.1, s77.2.2.2.2.1, s77.2.2.2.2.2.1, s77.2.2.2.2.2.2.1, s77.2.2.2.2.2.2.2.1, s77.2.2.2.2.2.2.2.2.1, s77.2.2.2.2.2.2.2.2.2.1, s77.2.2.2.2.2.2.2.2.2.2.1, s77.2.2.2.2.2.2.2.2.2.2.2.2.2.2.1, s77.2.2.2.2.2.2.2.2.2.2.2.2.2.2.2.1))))) (cond ((s77.1 == 36000)) (some (.inr (((false, s77.2.2.1, s77.2.2.2.2.2.2.2.2.2.2.2.2.2.2.1, s77.2.2.2.2.2.2.2.2.2.2.2.2.2.2.2.1, s77.2.1, s77.2.2.1, s77.2.2.2.1, s77.2.2.2.2.1, s77.2.2.2.2.2.1, s77.2.2.2.2.2.2.1, s77.2.2.2.2.2.2.2.1, s77.2.2.2.2.2.2.2.2.1, s77.2.2.2.2.2.2.2.2.2.1, s77.2.2.2.2.2.2.2.2.2.2.1, s77.2.1, s77.2.2.2.1, s77.2.2.2.2.1, s77.2.2.2.2.2.1, s77.2.2.2.2.2.2.1, s77.2.2.2.2.2.2.2.1, s77.2.2.2.2.2.2.2.2.1, s77.2.2.2.2.2.2.2.2.2.1, s77.2.2.2.2.2.2.2.2.2.2.1, s77.2.2.2.2.2.2.2.2.2.2.2.2.2.2.1, s77.2.2.2.2.2.2.2.2.2.2.2.2.2.2.2.1))))) (Option.bind (g_motion_run_choose p_0 ((s77.2.2.2.2.2.2.2.2.2.2.2.2.2.2.1, s77.2.2.2.2.2.2.2.2.2.2.2.2.2.2.2.1, ())) p_2) fun y87 =>
cond ((!y87.2)) (some (.inr (((false, s77.2.2.1, s77.2.2.2.2.2.2.2.2.2.2.2.2.2.2.1, s77.2.2.2.2.2.2.2.2.2.2.2.2.2.2.2.1, s77.2.1, s77.2.2.1, s77.2.2.2.1, s77.2.2.2.2.1, s77.2.2.2.2.2.1, s77.2.2.2.2.2.2.1, s77.2.2.2.2.2.2.2.1, s77.2.2.2.2.2.2.2.2.1, s77.2.2.2.2.2.2.2.2.2.1, s77.2.2.2.2.2.2.2.2.2.2.1, s77.2.1, s77.2.2.2.1, s77.2.2.2.2.1, s77.2.2.2.2.2.1, s77.2.2.2.2.2.2.1, s77.2.2.2.2.2.2.2.1, s77.2.2.2.2.2.2.2.2.1, s77.2.2.2.2.2.2.2.2.2.1, s77.2.2.2.2.2.2.2.2.2.2.1, s77.2.2.2.2.2.2.2.2.2.2.2.2.2.2.1, s77.2.2.2.2.2.2.2.2.2.2.2.2.2.2.2.1))))) (cond ((decide (y87.1.1.2.1 > 10000000000000000))) (some (.inr (((false, s77.2.2.1, s77.2.2.2.2.2.2.2.2.2.2.2.2.2.2.1, s77.2.2.2.2.2.2.2.2.2.2.2.2.2.2.2.1, s77.2.1, s77.2.2.1, s77.2.2.2.1, s77.2.2.2.2.1, s77.2.2.2.2.2.1, s77.2.2.2.2.2.2.1, s77.2.2.2.2.2.2.2.1, s77.2.2.2.2.2.2.2.2.1, s77.2.2.2.2.2.2.2.2.2.1, s77.2.2.2.2.2.2.2.2.2.2.1, s77.2.1, s77.2.2.2.1, s77.2.2.2.2.1, s77.2.2.2.2.2.1, s77.2.2.2.2.2.2.1, s77.2.2.2.2.2.2.2.1, s77.2.2.2.2.2.2.2.2.1, s77.2.2.2.2.2.2.2.2.2.1, s77.2.2.2.2.2.2.2.2.2.2.1, s77.2.2.2.2.2.2.2.2.2.2.2.2.2.2.1, s77.2.2.2.2.2.2.2.2.2.2.2.2.2.2.2.1))))) (Option.bind (g_motion_sum ([(s77.2.2.2.1, s77.2.2.2.2.1, s77.2.2.2.2.2.1, s77.2.2.2.2.2.2.1, s77.2.2.2.2.2.2.2.1, s77.2.2.2.2.2.2.2.2.1, ()), y87.1.2.1])) fun y93 =>
some (.inl (((w64 (s77.1 + 1)), (w64 (s77.2.1 + 100)), s77.2.2.1, y93.1, y93.2.1, y93.2.2.1, y93.2.2.2.1, y93.2.2.2.2.1, y93.2.2.2.2.2.1, (max s77.2.2.2.2.2.2.2.2.2.1 y87.1.2.2.1), (max s77.2.2.2.2.2.2.2.2.2.2.1 y87.1.2.2.2.1), s77.2.2.2.2.2.2.2.2.2.2.2.1, s77.2.2.2.2.2.2.2.2.2.2.2.2.1, s77.2.2.2.2.2.2.2.2.2.2.2.2.2.1, y87.1.1.1, y87.1.1.2.1, s77.2.2.2.2.2.2.2.2.2.2.2.2.2.2.2.2.1, s77.2.2.2.2.2.2.2.2.2.2.2.2.2.2.2.2.2.1, s77.2.2.2.2.2.2.2.2.2.2.2.2.2.2.2.2.2.2.1, s77.2.2.2.2.2.2.2.2.2.2.2.2.2.2.2.2.2.2.2.1, s77.2.2.2.2.2.2.2.2.2.2.2.2.2.2.2.2.2.2.2.2.1, s77.2.2.2.2.2.2.2.2.2.2.2.2.2.2.2.2.2.2.2.2.2.1, s77.2.2.2.2.2.2.2.2.2.2.2.2.2.2.2.2.2.2.2.2.2.2.1, s77.2.2.2.2.2.2.2.2.2.2.2.2.2.2.2.2.2.2.2.2.2.2.2.1, s77.2.2.2.2.2.2.2.2.2.2.2.2.2.2.2.2.2.2.2.2.2.2.2.2)))))))) (cond ((s77.1 == 36000)) (some (.inr (((false, s77.2.2.1, s77.2.2.2.2.2.2.2.2.2.2.2.2.2.2.1, s77.2.2.2.2.2.2.2.2.2.2.2.2.2.2.2.1, s77.2.1, s77.2.2.1, s77.2.2.2.1, s77.2.2.2.2.1, s77.2.2.2.2.2.1, s77.2.2.2.2.2.2.1, s77.2.2.2.2.2.2.2.1, s77.2.2.2.2.2.2.2.2.1, s77.2.2.2.2.2.2.2.2.2.1, s77.2.2.2.2.2.2.2.2.2.2.1, s77.2.1, s77.2.2.2.1, s77.2.2.2.2.1, s77.2.2.2.2.2.1, s77.2.2.2.2.2.2.1, s77.2.2.2.2.2.2.2.1, s77.2.2.2.2.2.2.2.2.1, s77.2.2.2.2.2.2.2.2.2.1, s77.2.2.2.2.2.2.2.2.2.2.1, s77.2.2.2.2.2.2.2.2.2.2.2.2.2.2.1, s77.2.2.2.2.2.2.2.2.2.2.2.2.2.2.2.1))))) (Option.bind (g_motion_run_choose p_0 ((s77.2.2.2.2.2.2.2.2.2.2.2.2.2.2.1, s77.2.2.2.2.2.2.2.2.2.2.2.2.2.2.2.1, ())) p_2) fun y96 =>
cond ((!y96.2)) (some (.inr (((false, s77.2.2.1, s77.2.2.2.2.2.2.2.2.2.2.2.2.2.2.1, s77.2.2.2.2.2.2.2.2.2.2.2.2.2.2.2.1, s77.2.1, s77.2.2.1, s77.2.2.2.1, s77.2.2.2.2.1, s77.2.2.2.2.2.1, s77.2.2.2.2.2.2.1, s77.2.2.2.2.2.2.2.1, s77.2.2.2.2.2.2.2.2.1, s77.2.2.2.2.2.2.2.2.2.1, s77.2.2.2.2.2.2.2.2.2.2.1, s77.2.1, s77.2.2.2.1, s77.2.2.2.2.1, s77.2.2.2.2.2.1, s77.2.2.2.2.2.2.1, s77.2.2.2.2.2.2.2.1, s77.2.2.2.2.2.2.2.2.1, s77.2.2.2.2.2.2.2.2.2.1, s77.2.2.2.2.2.2.2.2.2.2.1, s77.2.2.2.2.2.2.2.2.2.2.2.2.2.2.1, s77.2.2.2.2.2.2.2.2.2.2.2.2.2.2.2.1))))) (cond ((decide (y96.1.1.2.1 > 10000000000000000))) (some (.inr (((false, s77.2.2.1, s77.2.2.2.2.2.2.2.2.2.2.2.2.2.2.1, s77.2.2.2.2.2.2.2.2.2.2.2.2.2.2.2.1, s77.2.1, s77.2.2.1, s77.2.2.2.1, s77.2.2.2.2.1, s77.2.2.2.2.2.1, s77.2.2.2.2.2.2.1, s77.2.2.2.2.2.2.2.1, s77.2.2.2.2.2.2.2.2.1, s77.2.2.2.2.2.2.2.2.2.1, s77.2.2.2.2.2.2.2.2.2.2.1, s77.2.1, s77.2.2.2.1, s77.2.2.2.2.1, s77.2.2.2.2.2.1, s77.2.2.2.2.2.2.1, s77.2.2.2.2.2.2.2.1, s77.2.2.2.2.2.2.2.2.1, s77.2.2.2.2.2.2.2.2.2.1, s77.2.2.2.2.2.2.2.2.2.2.1, s77.2.2.2.2.2.2.2.2.2.2.2.2.2.2.1, s77.2.2.2.2.2.2.2.2.2.2.2.2.2.2.2.1))))) (Option.bind (g_motion_sum ([(s77.2.2.2.1, s77.2.2.2.2.1, s77.2.2.2.2.2.1, s77.2.2.2.2.2.2.1, s77.2.2.2.2.2.2.2.1, s77.2.2.2.2.2.2.2.2.1, ()), y96.1.2.1])) fun y102 =>
some (.inl (((w64 (s77.1 + 1)), (w64 (s77.2.1 + 100)), s77.2.2.1, y102.1, y102.2.1, y102.2.2.1, y102.2.2.2.1, y102.2.2.2.2.1, y102.2.2.2.2.2.1, (max s77.2.2.2.2.2.2.2.2.2.1 y96.1.2.2.1), (max s77.2.2.2.2.2.2.2.2.2.2.1 y96.1.2.2.2.1), s77.2.2.2.2.2.2.2.2.2.2.2.1, s77.2.2.2.2.2.2.2.2.2.2.2.2.1, s77.2.2.2.2.2.2.2.2.2.2.2.2.2.1, y96.1.1.1, y96.1.1.2.1, s77.2.2.2.2.2.2.2.2.2.2.2.2.2.2.2.2.1, s77.2.2.2.2.2.2.2.2.2.2.2.2.2.2.2.2.2.1, s77.2.2.2.2.2.2.2.2.2.2.2.2.2.2.2.2.2.2.1, s77.2.2.2.2.2.2.2.2.2.2.2.2.2.2.2.2.2.2.2.1, s77.2.2.2.2.2.2.2.2.2.2.2.2.2.2.2.2.2.2.2.2.1, s77.2.2.2.2.2.2.2.2.2.2.2.2.2.2.2.2.2.2.2.2.2.1, s77.2.2.2.2.2.2.2.2.2.2.2.2.2.2.2.2.2.2.2.2.2.2.1, s77.2.2.2.2.2.2.2.2.2.2.2.2.2.2.2.2.2.2.2.2.2.2.2.1, s77.2.2.2.2.2.2.2.2.2.2.2.2.2.2.2.2.2.2.2.2.2.2.2.2)))))))) big ((0, 0, 0, 0, 0, 0, 0, 0, 0, 0, 0, 0, 0, 0, p_1.1, p_1.2.1, 0, 0, 0, 0, 0, 0, 0, 0, 0))) fun t103 =>
some (((t103.2.2.2.2.1, t103.2.2.2.2.2.1, (t103.2.2.2.2.2.2.1, t103.2.2.2.2.2.2.2.1, t103.2.2.2.2.2.2.2.2.1, t103.2.2.2.2.2.2.2.2.2.1, t103.2.2.2.2.2.2.2.2.2.2.1, t103.2.2.2.2.2.2.2.2.2.2.2.1, ()), t103.2.2.2.2.2.2.2.2.2.2.2.2.1, t103.2.2.2.2.2.2.2.2.2.2.2.2.2.1, ()), (t103.2.2.1, t103.2.2.2.1, ()), t103.1))
def g_motion_Drive (p_0 : Plan) (p_1 : (List AMove)) (p_2 : Train) (p_3 : Int) (p_4 : (List Int)) : Option ((List Leg) × Int) :=
Option.bind (g_motion_begin p_0 p_1 p_2 p_3 p_4) fun y1 =>
cond ((!y1.2)) (some (([], 2))) (Option.bind (idx p_4 0) fun x5 =>
Option.bind (slO p_4 1 ((lenI p_4))) fun x7 =>
Option.bind (iter (σ := ((List Leg) × Int × Int × Int)) (τ := ((List Leg) × Int × Int) ⊕ ((List Leg) × Int × Int × Int)) (fun s32 =>
cond ((decide (s32.2.1 < (lenI x7)))) (Option.bind (idx x7 s32.2.1) fun x35 =>
Option.bind (y1.1) fun p36 =>
Option.bind (g_motion_run_leg p36 ((s32.2.2.1, s32.2.2.2, ())) x35) fun y37 =>
cond ((!y37.2.2)) (some (.inr ((.inr (([], 4, s32.2.2.1, s32.2.2.2)))))) (cond ((decide (s32.2.2.2 > 10000000000000000))) (some (.inr ((.inr (([], 4, s32.2.2.1, s32.2.2.2)))))) (Option.bind (appO 80 s32.1 ([y37.1])) fun x44 =>
some (.inl ((x44, (w64 (s32.2.1 + 1)), y37.2.1.1, y37.2.1.2.1)))))) (some (.inr ((.inl ((s32.1, s32.2.2.1, s32.2.2.2))))))) big (([], 0, 0, (w64 ((w64 (10 * p_2.1)) * x5))))) fun t46 =>
alt (fun b48 => some ((b48.1, 0))) (fun b49 => some ((b49.1, b49.2.1))) t46)
def g_law03_Example  : Option (Train × Plan) :=
some ((((1000, 5000, 10000, 2000, 1000, 1000000, 0, 0, 50, [1000, 10], ()) : Train), (([(((0, 0, ()), 1, [((0, false, ()) : RailEnd)], 0, ()) : ANode), ((((100000, 0, ()) : Spot), 1, [((0, true, ()) : RailEnd)], 0, ()) : ANode)], [((0, 1, [], 8000, 0, ()) : Rail)], ()) : Plan)))
def g_law03_known  : Option (Bool) :=
Option.bind (g_law03_Example) fun y1 =>
Option.bind (g_motion_Step y1.1 (((0, 0, ()) : MotionState)) 4 0 0) fun y4 =>
Option.bind (g_motion_Step y1.1 (((1000000, 0, ()) : MotionState)) 0 100 0) fun y7 =>
Option.bind (g_motion_Braking y1.1 (((1000000, 0, ()) : MotionState)) 0 0) fun y10 =>
Option.bind (g_motion_Sight y1.1 0 0 449) fun y11 =>
Option.bind (g_motion_Drive y1.2 ([((0, false, ()) : AMove)]) y1.1 0 ([5000, 7000])) fun y12 =>
Option.bind (cond ((y4.2.2 != 0)) (some true) (cond ((y7.2.2 != 0)) (some true) (cond ((y10.2 != 0)) (some true) (cond ((y11.2 != 0)) (some true) (cond ((y12.2 != 0)) (some true) (some (((lenI y12.1) != 1)))))))) fun c19 =>
cond (c19) (some false) (Option.bind (cond ((y4.1 == ((200000, 200000, ()) : MotionState))) (cond ((y4.2.1.1 == 80000000000)) (cond ((y4.2.1.2.2.2.2.1 == 40000000000)) (cond ((y7.1.1 == 901900)) (cond ((y10.1 == 450)) (cond ((y11.1 == 999)) (Option.bind (idx y12.1 0) fun x40 =>
some ((x40 == ((2500, 7000, ((2880000000000, 2405000000000, 0, 0, 475000000000, 0, ()) : MotionLedger), 3200, 725, ()) : Leg)))) (some false)) (some false)) (some false)) (some false)) (some false)) (some false)) fun c33 =>
some c33)
def g_law03_MotionBalances (p_0 : Train) (p_1 : MotionState) (p_2 : Int) (p_3 : Int) (p_4 : Int) (p_5 : Int) : Option (Bool) :=
Option.bind (Option.bind (g_law03_short p_0) fun y5 =>
cond ((!y5)) (some true) (Option.bind (g_ref03_Fine p_0 p_1 p_2 p_3 p_4) fun y7 =>
some ((!y7)))) fun c4 =>
cond (c4) (Option.bind (g_law03_known) fun y9 =>
some y9) (Option.bind (g_motion_Step p_0 p_1 p_2 p_3 p_4) fun y10 =>
cond ((y10.2.2 != 0)) (Option.bind (cond ((y10.2.2 == 3)) (Option.bind (g_law03_known) fun y18 =>
some y18) (some false)) fun c16 =>
some c16) (Option.bind (cond ((decide (y10.1.1 < 0))) (some true) (cond ((y10.1.2.1 != (w64 (p_1.2.1 + y10.1.1)))) (some true) (some (((w64 ((w64 (y10.1.1 * y10.1.1)) - (w64 (p_1.1 * p_1.1)))) != (w64 ((w64 ((w64 ((w64 ((w64 (y10.2.1.1 - y10.2.1.2.1)) - y10.2.1.2.2.1)) - y10.2.1.2.2.2.1)) - y10.2.1.2.2.2.2.1)) - y10.2.1.2.2.2.2.2.1))))))) fun c21 =>
cond (c21) (some false) (Option.bind (cond ((decide (y10.2.1.1 < 0))) (some true) (cond ((decide (y10.2.1.2.1 < 0))) (some true) (cond ((decide (y10.2.1.2.2.1 < 0))) (some true) (cond ((decide (y10.2.1.2.2.2.2.1 < 0))) (some true) (cond ((decide (y10.2.1.2.2.2.2.2.1 < 0))) (some true) (cond ((decide (y10.2.1.1 > 0))) (some ((decide (y10.2.1.2.1 > 0)))) (some false))))))) fun c31 =>
cond (c31) (some false) (Option.bind (cond ((decide (p_5 < 0))) (some true) (some ((decide (p_5 > (w64 (10000000000000000 - y10.1.2.1))))))) fun c40 =>
cond (c40) (Option.bind (g_law03_known) fun y43 =>
some y43) (Option.bind (g_motion_Step p_0 (((p_1.1, (w64 (p_1.2.1 + p_5)), ()) : MotionState)) p_2 p_3 p_4) fun y44 =>
Option.bind (cond ((y44.2.2 == 0)) (cond ((y44.2.1 == y10.2.1)) (cond ((y44.1.1 == y10.1.1)) (cond ((y44.1.2.1 == (w64 (y10.1.2.1 + p_5)))) (Option.bind (g_law03_known) fun y57 =>
some y57) (some false)) (some false)) (some false)) (some false)) fun c52 =>
some c52)))))
def g_ref03_forces (p_0 : Train) (p_1 : Int) (p_2 : Int) (p_3 : Int) (p_4 : Int) : Option (Int × Int × Int × Int) :=
Option.bind (idx p_0.2.2.2.2.2.2.2.2.2.1 p_4) fun x3 =>
Option.bind (divO .i64 ((w64 ((w64 (x3 * p_0.1)) * 981))) 100000) fun x4 =>
cond ((decide (p_2 > 0))) (Option.bind (divO .i64 ((w64 (p_0.2.2.2.1 * p_2))) 4) fun x6 =>
cond ((decide (p_1 > 0))) (Option.bind (divO .i64 ((w64 (1000 * p_0.2.2.2.2.2.1))) p_1) fun x8 =>
cond ((decide (p_2 < 0))) (Option.bind (divO .i64 ((w64 (p_0.2.2.2.2.1 * (w64 (0 - p_2))))) 4) fun x10 =>
Option.bind (divO .i64 ((w64 (p_0.2.2.2.2.2.2.2.1 * p_1))) 1000) fun x13 =>
Option.bind (divO .i64 ((w64 ((w64 (p_0.1 * p_3)) * 981))) 100000) fun x14 =>
some (((min ((min x6 x4)) x8), (min x10 x4), (w64 (p_0.2.2.2.2.2.2.1 + x13)), x14))) (Option.bind (divO .i64 ((w64 (p_0.2.2.2.2.2.2.2.1 * p_1))) 1000) fun x17 =>
Option.bind (divO .i64 ((w64 ((w64 (p_0.1 * p_3)) * 981))) 100000) fun x18 =>
some (((min ((min x6 x4)) x8), 0, (w64 (p_0.2.2.2.2.2.2.1 + x17)), x18)))) (cond ((decide (p_2 < 0))) (Option.bind (divO .i64 ((w64 (p_0.2.2.2.2.1 * (w64 (0 - p_2))))) 4) fun x20 =>
Option.bind (divO .i64 ((w64 (p_0.2.2.2.2.2.2.2.1 * p_1))) 1000) fun x23 =>
Option.bind (divO .i64 ((w64 ((w64 (p_0.1 * p_3)) * 981))) 100000) fun x24 =>
some (((min x6 x4), (min x20 x4), (w64 (p_0.2.2.2.2.2.2.1 + x23)), x24))) (Option.bind (divO .i64 ((w64 (p_0.2.2.2.2.2.2.2.1 * p_1))) 1000) fun x27 =>
Option.bind (divO .i64 ((w64 ((w64 (p_0.1 * p_3)) * 981))) 100000) fun x28 =>
some (((min x6 x4), 0, (w64 (p_0.2.2.2.2.2.2.1 + x27)), x28))))) (cond ((decide (p_2 < 0))) (Option.bind (divO .i64 ((w64 (p_0.2.2.2.2.1 * (w64 (0 - p_2))))) 4) fun x30 =>
Option.bind (divO .i64 ((w64 (p_0.2.2.2.2.2.2.2.1 * p_1))) 1000) fun x33 =>
Option.bind (divO .i64 ((w64 ((w64 (p_0.1 * p_3)) * 981))) 100000) fun x34 =>
some ((0, (min x30 x4), (w64 (p_0.2.2.2.2.2.2.1 + x33)), x34))) (Option.bind (divO .i64 ((w64 (p_0.2.2.2.2.2.2.2.1 * p_1))) 1000) fun x37 =>
Option.bind (divO .i64 ((w64 ((w64 (p_0.1 * p_3)) * 981))) 100000) fun x38 =>
some ((0, 0, (w64 (p_0.2.2.2.2.2.2.1 + x37)), x38))))
def g_ref03_Step (p_0 : Train) (p_1 : MotionState) (p_2 : Int) (p_3 : Int) (p_4 : Int) : Option (MotionState × MotionLedger × Bool) :=
Option.bind (divO .i64 p_1.1 p_0.1) fun x5 =>
Option.bind (g_ref03_forces p_0 x5 p_2 p_3 p_4) fun y6 =>
Option.bind (cond ((decide ((w64 (p_1.1 + (w64 (100 * (w64 ((w64 ((w64 (y6.1 - y6.2.1)) - y6.2.2.1)) - y6.2.2.2)))))) < 0))) (some true) (cond ((p_1.1 == 0)) (some ((decide ((w64 ((w64 ((w64 (y6.1 - y6.2.1)) - y6.2.2.1)) - y6.2.2.2)) ≤ 0)))) (some false))) fun c10 =>
cond (c10) (some ((((0, (w64 (p_1.2.1 + 0)), ()) : MotionState), (0, 0, 0, 0, 0, (w64 (p_1.1 * p_1.1)), ()), (decide (0 ≤ (w64 (25000 * p_0.1))))))) (some (((((w64 (p_1.1 + (w64 (100 * (w64 ((w64 ((w64 (y6.1 - y6.2.1)) - y6.2.2.1)) - y6.2.2.2)))))), (w64 (p_1.2.1 + (w64 (p_1.1 + (w64 (100 * (w64 ((w64 ((w64 (y6.1 - y6.2.1)) - y6.2.2.1)) - y6.2.2.2)))))))), ()) : MotionState), (((w64 ((w64 (200 * y6.1)) * (w64 (p_1.1 + (w64 (100 * (w64 ((w64 ((w64 (y6.1 - y6.2.1)) - y6.2.2.1)) - y6.2.2.2)))))))), (w64 ((w64 (200 * y6.2.1)) * (w64 (p_1.1 + (w64 (100 * (w64 ((w64 ((w64 (y6.1 - y6.2.1)) - y6.2.2.1)) - y6.2.2.2)))))))), (w64 ((w64 (200 * y6.2.2.1)) * (w64 (p_1.1 + (w64 (100 * (w64 ((w64 ((w64 (y6.1 - y6.2.1)) - y6.2.2.1)) - y6.2.2.2)))))))), (w64 ((w64 (200 * y6.2.2.2)) * (w64 (p_1.1 + (w64 (100 * (w64 ((w64 ((w64 (y6.1 - y6.2.1)) - y6.2.2.1)) - y6.2.2.2)))))))), (w64 ((w64 (10000 * (w64 ((w64 ((w64 (y6.1 - y6.2.1)) - y6.2.2.1)) - y6.2.2.2)))) * (w64 ((w64 ((w64 (y6.1 - y6.2.1)) - y6.2.2.1)) - y6.2.2.2)))), 0, ()) : MotionLedger), (decide ((w64 (p_1.1 + (w64 (100 * (w64 ((w64 ((w64 (y6.1 - y6.2.1)) - y6.2.2.1)) - y6.2.2.2)))))) ≤ (w64 (25000 * p_0.1)))))))
def g_ref03_Place (t_0 : Train) (x_1 : MotionState) : Option (Int) :=
Option.bind (divO .i64 x_1.2.1 ((w64 (10 * t_0.1)))) fun x1 =>
some x1
def g_ref03_Braking (t_0 : Train) (x_1 : MotionState) (slope_2 : Int) (state_3 : Int) : Option (Int × Bool) :=
Option.bind (iter (σ := (Int × Int × Int)) (τ := (Int × Int) ⊕ (Int × Bool × Int × Int)) (fun s10 =>
cond ((decide (s10.2.1 > 0))) (cond ((s10.1 == 36000)) (some (.inr ((.inr ((0, false, s10.2.1, s10.2.2)))))) (Option.bind (g_ref03_Step t_0 ((s10.2.1, s10.2.2, ())) ((-4)) slope_2 state_3) fun y14 =>
cond ((!y14.2.2)) (some (.inr ((.inr ((0, false, y14.1.1, y14.1.2.1)))))) (some (.inl (((w64 (s10.1 + 1)), y14.1.1, y14.1.2.1)))))) (some (.inr ((.inl ((s10.2.1, s10.2.2))))))) big ((0, x_1.1, x_1.2.1))) fun t16 =>
alt (fun b18 => Option.bind (g_ref03_Place t_0 ((b18.1, b18.2, ()))) fun y22 =>
Option.bind (g_ref03_Place t_0 x_1) fun y23 =>
some (((w64 (y22 - y23)), true))) (fun b19 => some ((b19.1, b19.2.1))) t16
def g_law03_MotionBrakes (p_0 : Train) (p_1 : MotionState) (p_2 : Int) (p_3 : Int) : Option (Bool) :=
Option.bind (g_law03_short p_0) fun y1 =>
cond ((!y1)) (Option.bind (g_law03_known) fun y3 =>
some y3) (Option.bind (g_motion_Braking p_0 p_1 p_2 p_3) fun y4 =>
Option.bind (g_ref03_Fine p_0 p_1 0 p_2 p_3) fun y5 =>
cond ((!y5)) (Option.bind (cond ((y4.2 == 2)) (cond ((y4.1 == 0)) (Option.bind (g_law03_known) fun y13 =>
some y13) (some false)) (some false)) fun c10 =>
some c10) (Option.bind (g_ref03_Braking p_0 p_1 p_2 p_3) fun y14 =>
cond ((!y14.2)) (Option.bind (cond ((y4.2 == 4)) (cond ((y4.1 == 0)) (Option.bind (g_law03_known) fun y22 =>
some y22) (some false)) (some false)) fun c19 =>
some c19) (Option.bind (cond ((y4.2 == 0)) (cond ((y4.1 == y14.1)) (Option.bind (g_law03_known) fun y29 =>
some y29) (some false)) (some false)) fun c26 =>
some c26)))
def g_ref03_Sight (t_0 : Train) (slope_1 : Int) (state_2 : Int) (distance_3 : Int) : Option (Int) :=
Option.bind (iter (σ := (Int)) (τ := Unit ⊕ (Int)) (fun s7 =>
cond ((decide (s7 > 0))) (Option.bind (g_ref03_Braking t_0 ((((w64 (s7 * t_0.1)), 0, ()) : MotionState)) slope_1 state_2) fun y10 =>
cond (y10.2) (cond ((decide (y10.1 ≤ distance_3))) (some (.inr ((.inr s7)))) (some (.inl ((w64 (s7 - 1)))))) (some (.inl ((w64 (s7 - 1)))))) (some (.inr ((.inl (())))))) big t_0.2.2.1) fun t15 =>
alt (fun b17 => some 0) (fun b18 => some b18) t15
def g_law03_MotionSights (p_0 : Train) (p_1 : Int) (p_2 : Int) (p_3 : Int) : Option (Bool) :=
Option.bind (Option.bind (g_law03_short p_0) fun y5 =>
cond ((!y5)) (some true) (cond ((decide (p_0.2.2.1 > 300))) (some ((decide (p_0.2.2.1 ≤ 25000)))) (some false))) fun c4 =>
cond (c4) (Option.bind (g_law03_known) fun y9 =>
some y9) (Option.bind (g_motion_Sight p_0 p_1 p_2 p_3) fun y10 =>
Option.bind (Option.bind (g_ref03_Fine p_0 (((0, 0, ()) : MotionState)) 0 p_1 p_2) fun y15 =>
cond ((!y15)) (some true) (cond ((decide (p_3 < 0))) (some true) (some ((decide (p_3 > 1000000)))))) fun c14 =>
cond (c14) (Option.bind (cond ((y10.2 == 2)) (cond ((y10.1 == 0)) (Option.bind (g_law03_known) fun y25 =>
some y25) (some false)) (some false)) fun c22 =>
some c22) (Option.bind (cond ((y10.2 == 0)) (Option.bind (g_ref03_Sight p_0 p_1 p_2 p_3) fun y32 =>
cond ((y10.1 == y32)) (Option.bind (g_law03_known) fun y34 =>
some y34) (some false)) (some false)) fun c30 =>
some c30))
def g_law03_quick (t_0 : Train) : Option (Bool) :=
some ((decide (t_0.2.2.1 ≤ 2000)))
def g_law03_MotionStops (p_0 : Train) (p_1 : Int) (p_2 : Int) (p_3 : Int) : Option (Bool) :=
Option.bind (Option.bind (g_law03_short p_0) fun y11 =>
cond ((!y11)) (some true) (Option.bind (g_law03_quick p_0) fun y13 =>
cond ((!y13)) (some true) (Option.bind (g_ref03_Fine p_0 (((0, 0, ()) : MotionState)) 0 p_1 p_2) fun y15 =>
cond ((!y15)) (some true) (cond ((decide (p_3 < 0))) (some true) (cond ((decide (p_3 > 1000000))) (some true) (cond ((decide (p_0.2.2.2.2.1 < 100))) (some true) (some ((decide (p_1 < (-30))))))))))) fun c10 =>
cond (c10) (Option.bind (g_law03_known) fun y21 =>
some y21) (Option.bind (g_motion_Sight p_0 p_1 p_2 p_3) fun y22 =>
Option.bind (cond ((y22.2 != 0)) (some true) (cond ((decide (y22.1 < 0))) (some true) (some ((decide (y22.1 > p_0.2.2.1)))))) fun c25 =>
cond (c25) (some false) (Option.bind (g_motion_Braking p_0 ((((w64 (y22.1 * p_0.1)), 0, ()) : MotionState)) p_1 p_2) fun y29 =>
Option.bind (cond ((y29.2 != 0)) (some true) (some ((decide (y29.1 > p_3))))) fun c31 =>
cond (c31) (some false) (cond ((y22.1 == p_0.2.2.1)) (Option.bind (g_law03_known) fun y35 =>
some y35) (Option.bind (g_motion_Braking p_0 ((((w64 ((w64 (y22.1 + 1)) * p_0.1)), 0, ()) : MotionState)) p_1 p_2) fun y36 =>
Option.bind (cond ((y36.2 == 4)) (Option.bind (g_law03_known) fun y44 =>
some y44) (cond ((y36.2 == 0)) (cond ((decide (y36.1 > p_3))) (Option.bind (g_law03_known) fun y47 =>
some y47) (some false)) (some false))) fun c42 =>
some c42))))
def g_law03_MotionGrips (p_0 : Train) (p_1 : Int) (p_2 : Int) (p_3 : Int) (p_4 : Int) (p_5 : Int) : Option (Bool) :=
Option.bind (cond (((lenI p_0.2.2.2.2.2.2.2.2.2.1) != 1)) (some true) (cond ((decide (p_2 < 0))) (some true) (cond ((decide (p_4 < 0))) (some true) (cond ((decide (p_5 < 0))) (some true) (cond ((decide (p_5 > 1000))) (some true) (cond ((p_0.2.2.2.2.2.2.2.1 != 0)) (some true) (some ((decide (p_4 > 240)))))))))) fun c7 =>
cond (c7) (Option.bind (g_law03_known) fun y15 =>
some y15) (Option.bind (idx p_0.2.2.2.2.2.2.2.2.2.1 0) fun x17 =>
Option.bind (Option.bind (g_ref03_Fine p_0 (((p_1, 0, ()) : MotionState)) 0 p_3 0) fun y23 =>
cond ((!y23)) (some true) (Option.bind (g_ref03_Fine p_0 (((p_1, 0, ()) : MotionState)) 0 ((w64 (p_3 + p_4))) 0) fun y25 =>
some ((!y25)))) fun c22 =>
cond (c22) (Option.bind (g_law03_known) fun y27 =>
some y27) (Option.bind (g_motion_Braking p_0 (((p_1, 0, ()) : MotionState)) p_3 0) fun y28 =>
cond ((y28.2 != 0)) (Option.bind (cond ((y28.2 == 4)) (Option.bind (g_law03_known) fun y34 =>
some y34) (some false)) fun c32 =>
some c32) (Option.bind (g_motion_Braking ((p_0.1, p_0.2.1, p_0.2.2.1, p_0.2.2.2.1, p_0.2.2.2.2.1, p_0.2.2.2.2.2.1, p_0.2.2.2.2.2.2.1, p_0.2.2.2.2.2.2.2.1, p_0.2.2.2.2.2.2.2.2.1, [(min 1000 ((w64 (x17 + p_5))))], ())) (((p_1, 0, ()) : MotionState)) p_3 0) fun y35 =>
Option.bind (g_motion_Braking p_0 (((p_1, 0, ()) : MotionState)) ((w64 (p_3 + p_4))) 0) fun y36 =>
Option.bind (g_motion_Braking p_0 ((((max 0 ((w64 (p_1 - p_2)))), 0, ()) : MotionState)) p_3 0) fun y37 =>
Option.bind (cond ((y35.2 == 0)) (cond ((y36.2 == 0)) (cond ((y37.2 == 0)) (cond ((decide (y35.1 ≤ y28.1))) (cond ((decide (y36.1 ≤ y28.1))) (cond ((decide (y37.1 ≤ y28.1))) (Option.bind (g_law03_known) fun y52 =>
some y52) (some false)) (some false)) (some false)) (some false)) (some false)) (some false)) fun c45 =>
some c45)))
def g_motion_Powers (t_0 : Train) (x_1 : MotionState) (demand_2 : Int) (slope_3 : Int) (state_4 : Int) : Option (Int × Int × Int) :=
Option.bind (g_motion_asked t_0 x_1 demand_2 slope_3 state_4) fun y1 =>
cond ((!y1.2)) (some ((0, 0, 2))) (Option.bind (y1.1) fun p3 =>
Option.bind (g_motion_mover_step p3 x_1 demand_2 slope_3) fun y4 =>
Option.bind (cond ((!y4.2)) (some true) (some ((decide (y4.1.1.2.1 > 10000000000000000))))) fun c7 =>
cond (c7) (some ((0, 0, 3))) (some ((y4.1.2.2.1, y4.1.2.2.2.1, 0))))
def g_ref03_Powers (p_0 : Train) (p_1 : MotionState) (p_2 : Int) (p_3 : Int) (p_4 : Int) : Option (Int × Int) :=
Option.bind (divO .i64 p_1.1 p_0.1) fun x3 =>
Option.bind (g_ref03_forces p_0 x3 p_2 p_3 p_4) fun y4 =>
Option.bind (g_ref03_Step p_0 p_1 p_2 p_3 p_4) fun y5 =>
Option.bind (divO .i64 ((w64 ((w64 ((w64 (y4.1 * y5.1.1)) + (w64 (1000 * p_0.1)))) - 1))) ((w64 (1000 * p_0.1)))) fun x10 =>
Option.bind (divO .i64 ((w64 ((w64 (y4.2.1 * y5.1.1)) * p_0.2.2.2.2.2.2.2.2.1))) ((w64 (100000 * p_0.1)))) fun x11 =>
some ((x10, x11))
def g_law03_MotionSteps (p_0 : Train) (p_1 : MotionState) (p_2 : Int) (p_3 : Int) (p_4 : Int) : Option (Bool) :=
Option.bind (g_law03_short p_0) fun y1 =>
cond ((!y1)) (Option.bind (g_law03_known) fun y3 =>
some y3) (Option.bind (g_motion_Step p_0 p_1 p_2 p_3 p_4) fun y4 =>
Option.bind (g_motion_Powers p_0 p_1 p_2 p_3 p_4) fun y7 =>
Option.bind (g_ref03_Fine p_0 p_1 p_2 p_3 p_4) fun y8 =>
cond ((!y8)) (Option.bind (cond ((y4.2.2 == 2)) (cond ((y7.2.2 == 2)) (cond ((y4.1 == ((0, 0, ()) : MotionState))) (cond ((y4.2.1 == ((0, 0, 0, 0, 0, 0, ()) : MotionLedger))) (cond ((y7.1 == 0)) (cond ((y7.2.1 == 0)) (Option.bind (g_law03_known) fun y24 =>
some y24) (some false)) (some false)) (some false)) (some false)) (some false)) (some false)) fun c17 =>
some c17) (Option.bind (g_ref03_Step p_0 p_1 p_2 p_3 p_4) fun y25 =>
Option.bind (cond ((!y25.2.2)) (some true) (some ((decide (y25.1.2.1 > 10000000000000000))))) fun c29 =>
cond (c29) (Option.bind (cond ((y4.2.2 == 3)) (cond ((y7.2.2 == 3)) (cond ((y4.1 == ((0, 0, ()) : MotionState))) (cond ((y4.2.1 == ((0, 0, 0, 0, 0, 0, ()) : MotionLedger))) (cond ((y7.1 == 0)) (cond ((y7.2.1 == 0)) (Option.bind (g_law03_known) fun y46 =>
some y46) (some false)) (some false)) (some false)) (some false)) (some false)) (some false)) fun c39 =>
some c39) (Option.bind (g_ref03_Powers p_0 p_1 p_2 p_3 p_4) fun y47 =>
Option.bind (cond ((y4.2.2 == 0)) (cond ((y7.2.2 == 0)) (cond ((y4.1 == y25.1)) (cond ((y4.2.1 == y25.2.1)) (cond ((y7.1 == y47.1)) (cond ((y7.2.1 == y47.2)) (Option.bind (g_law03_known) fun y62 =>
some y62) (some false)) (some false)) (some false)) (some false)) (some false)) (some false)) fun c55 =>
some c55)))
def g_motion_Couple (p_0 : Train) (p_1 : Train) : Option (Train × Int) :=
Option.bind (Option.bind (g_motion_Check p_0) fun y7 =>
cond ((y7 != 0)) (some true) (Option.bind (g_motion_Check p_1) fun y9 =>
cond ((y9 != 0)) (some true) (some (((lenI p_0.2.2.2.2.2.2.2.2.2.1) != (lenI p_1.2.2.2.2.2.2.2.2.2.1)))))) fun c6 =>
cond (c6) (some ((((0, 0, 0, 0, 0, 0, 0, 0, 0, [], ()) : Train), 2))) (Option.bind (iter (σ := (Int × (List Int))) (τ := ((List Int))) (fun s29 =>
cond ((decide (s29.1 < (lenI p_0.2.2.2.2.2.2.2.2.2.1)))) (Option.bind (idx p_0.2.2.2.2.2.2.2.2.2.1 s29.1) fun x32 =>
Option.bind (idx p_1.2.2.2.2.2.2.2.2.2.1 s29.1) fun x36 =>
Option.bind (appO 8 s29.2 ([(min x32 x36)])) fun x37 =>
some (.inl (((w64 (s29.1 + 1)), x37)))) (some (.inr s29.2))) big ((0, []))) fun t39 =>
Option.bind (g_motion_Check (((w64 (p_0.1 + p_1.1)), (w64 (p_0.2.1 + p_1.2.1)), (min p_0.2.2.1 p_1.2.2.1), (w64 (p_0.2.2.2.1 + p_1.2.2.2.1)), (w64 (p_0.2.2.2.2.1 + p_1.2.2.2.2.1)), (w64 (p_0.2.2.2.2.2.1 + p_1.2.2.2.2.2.1)), (w64 (p_0.2.2.2.2.2.2.1 + p_1.2.2.2.2.2.2.1)), (w64 (p_0.2.2.2.2.2.2.2.1 + p_1.2.2.2.2.2.2.2.1)), (min p_0.2.2.2.2.2.2.2.2.1 p_1.2.2.2.2.2.2.2.2.1), t39, ()))) fun y41 =>
cond ((y41 != 0)) (some ((((0, 0, 0, 0, 0, 0, 0, 0, 0, [], ()) : Train), 3))) (some ((((w64 (p_0.1 + p_1.1)), (w64 (p_0.2.1 + p_1.2.1)), (min p_0.2.2.1 p_1.2.2.1), (w64 (p_0.2.2.2.1 + p_1.2.2.2.1)), (w64 (p_0.2.2.2.2.1 + p_1.2.2.2.2.1)), (w64 (p_0.2.2.2.2.2.1 + p_1.2.2.2.2.2.1)), (w64 (p_0.2.2.2.2.2.2.1 + p_1.2.2.2.2.2.2.1)), (w64 (p_0.2.2.2.2.2.2.2.1 + p_1.2.2.2.2.2.2.2.1)), (min p_0.2.2.2.2.2.2.2.2.1 p_1.2.2.2.2.2.2.2.2.1), t39, ()), 0))))
def g_ref03_Same (p_0 : Train) (p_1 : Train) : Option (Bool) :=
cond (((lenI p_0.2.2.2.2.2.2.2.2.2.1) != (lenI p_1.2.2.2.2.2.2.2.2.2.1))) (some false) (Option.bind (iter (σ := (Int)) (τ := Unit ⊕ (Bool)) (fun s8 =>
cond ((decide (s8 < (lenI p_0.2.2.2.2.2.2.2.2.2.1)))) (Option.bind (idx p_0.2.2.2.2.2.2.2.2.2.1 s8) fun x13 =>
Option.bind (idx p_1.2.2.2.2.2.2.2.2.2.1 s8) fun x14 =>
cond ((x13 != x14)) (some (.inr ((.inr false)))) (some (.inl ((w64 (s8 + 1)))))) (some (.inr ((.inl (())))))) big 0) fun t16 =>
alt (fun b18 => Option.bind (cond ((p_0.1 == p_1.1)) (cond ((p_0.2.1 == p_1.2.1)) (cond ((p_0.2.2.1 == p_1.2.2.1)) (cond ((p_0.2.2.2.1 == p_1.2.2.2.1)) (cond ((p_0.2.2.2.2.1 == p_1.2.2.2.2.1)) (cond ((p_0.2.2.2.2.2.1 == p_1.2.2.2.2.2.1)) (cond ((p_0.2.2.2.2.2.2.1 == p_1.2.2.2.2.2.2.1)) (cond ((p_0.2.2.2.2.2.2.2.1 == p_1.2.2.2.2.2.2.2.1)) (some ((p_0.2.2.2.2.2.2.2.2.1 == p_1.2.2.2.2.2.2.2.2.1))) (some false)) (some false)) (some false)) (some false)) (some false)) (some false)) (some false)) (some false)) fun c28 =>
some c28) (fun b19 => some b19) t16)
def g_ref03_Couple (p_0 : Train) (p_1 : Train) : Option (Train) :=
Option.bind (iter (σ := (Int × (List Int))) (τ := ((List Int))) (fun s21 =>
cond ((decide (s21.1 < (lenI p_0.2.2.2.2.2.2.2.2.2.1)))) (Option.bind (idx p_0.2.2.2.2.2.2.2.2.2.1 s21.1) fun x28 =>
Option.bind (idx p_1.2.2.2.2.2.2.2.2.2.1 s21.1) fun x29 =>
Option.bind (appO 8 s21.2 ([(min x28 x29)])) fun x30 =>
some (.inl (((w64 (s21.1 + 1)), x30)))) (some (.inr s21.2))) big ((0, []))) fun t32 =>
some (((w64 (p_0.1 + p_1.1)), (w64 (p_0.2.1 + p_1.2.1)), (min p_0.2.2.1 p_1.2.2.1), (w64 (p_0.2.2.2.1 + p_1.2.2.2.1)), (w64 (p_0.2.2.2.2.1 + p_1.2.2.2.2.1)), (w64 (p_0.2.2.2.2.2.1 + p_1.2.2.2.2.2.1)), (w64 (p_0.2.2.2.2.2.2.1 + p_1.2.2.2.2.2.2.1)), (w64 (p_0.2.2.2.2.2.2.2.1 + p_1.2.2.2.2.2.2.2.1)), (min p_0.2.2.2.2.2.2.2.2.1 p_1.2.2.2.2.2.2.2.2.1), t32, ()))
def g_law03_MotionCouples (p_0 : Train) (p_1 : Train) : Option (Bool) :=
Option.bind (Option.bind (g_law03_short p_0) fun y5 =>
cond ((!y5)) (some true) (Option.bind (g_law03_short p_1) fun y7 =>
some ((!y7)))) fun c4 =>
cond (c4) (Option.bind (g_law03_known) fun y9 =>
some y9) (Option.bind (g_motion_Couple p_0 p_1) fun y10 =>
Option.bind (Option.bind (g_motion_Check p_0) fun y25 =>
Option.bind (g_ref03_Train p_0) fun y26 =>
cond (((y25 == 0) != y26)) (some true) (Option.bind (g_ref03_Train p_0) fun y28 =>
cond ((!y28)) (Option.bind (g_motion_Check p_0) fun y30 =>
some ((y30 != 2))) (some false))) fun c24 =>
cond (c24) (some false) (Option.bind (Option.bind (g_ref03_Train p_0) fun y37 =>
cond ((!y37)) (some true) (Option.bind (g_ref03_Train p_1) fun y39 =>
cond ((!y39)) (some true) (some (((lenI p_0.2.2.2.2.2.2.2.2.2.1) != (lenI p_1.2.2.2.2.2.2.2.2.2.1)))))) fun c36 =>
cond (c36) (Option.bind (cond ((y10.2 == 2)) (Option.bind (g_ref03_Same y10.1 (((0, 0, 0, 0, 0, 0, 0, 0, 0, [], ()) : Train))) fun y48 =>
cond (y48) (Option.bind (g_law03_known) fun y50 =>
some y50) (some false)) (some false)) fun c46 =>
some c46) (Option.bind (g_ref03_Couple p_0 p_1) fun y51 =>
Option.bind (g_ref03_Train y51) fun y53 =>
cond (y53) (Option.bind (cond ((y10.2 == 0)) (Option.bind (g_ref03_Same y10.1 y51) fun y61 =>
cond (y61) (Option.bind (g_law03_known) fun y63 =>
some y63) (some false)) (some false)) fun c59 =>
some c59) (Option.bind (cond ((y10.2 == 3)) (Option.bind (g_ref03_Same y10.1 (((0, 0, 0, 0, 0, 0, 0, 0, 0, [], ()) : Train))) fun y70 =>
cond (y70) (Option.bind (g_law03_known) fun y72 =>
some y72) (some false)) (some false)) fun c68 =>
some c68))))
def g_law03_MotionTriples (p_0 : Train) (p_1 : Train) (p_2 : Train) : Option (Bool) :=
Option.bind (Option.bind (g_law03_short p_0) fun y15 =>
cond ((!y15)) (some true) (Option.bind (g_law03_short p_1) fun y17 =>
cond ((!y17)) (some true) (Option.bind (g_law03_short p_2) fun y19 =>
cond ((!y19)) (some true) (Option.bind (g_ref03_Train p_0) fun y21 =>
cond ((!y21)) (some true) (Option.bind (g_ref03_Train p_1) fun y23 =>
cond ((!y23)) (some true) (Option.bind (g_ref03_Train p_2) fun y25 =>
cond ((!y25)) (some true) (cond (((lenI p_0.2.2.2.2.2.2.2.2.2.1) != (lenI p_1.2.2.2.2.2.2.2.2.2.1))) (some true) (some (((lenI p_1.2.2.2.2.2.2.2.2.2.1) != (lenI p_2.2.2.2.2.2.2.2.2.2.1))))))))))) fun c14 =>
cond (c14) (Option.bind (g_law03_known) fun y29 =>
some y29) (Option.bind (g_motion_Couple p_0 p_1) fun y30 =>
Option.bind (g_motion_Couple p_1 p_0) fun y32 =>
Option.bind (g_motion_Couple p_1 p_2) fun y34 =>
Option.bind (cond ((y30.2 != y32.2)) (some true) (Option.bind (g_ref03_Same y30.1 y32.1) fun y40 =>
some ((!y40)))) fun c38 =>
cond (c38) (some false) (Option.bind (cond ((y30.2 != 0)) (some true) (some ((y34.2 != 0)))) fun c43 =>
cond (c43) (Option.bind (g_law03_known) fun y46 =>
some y46) (Option.bind (g_motion_Couple y30.1 p_2) fun y47 =>
Option.bind (g_motion_Couple p_0 y34.1) fun y49 =>
Option.bind (cond ((y47.2 == y49.2)) (Option.bind (g_ref03_Same y47.1 y49.1) fun y57 =>
cond (y57) (Option.bind (g_law03_known) fun y59 =>
some y59) (some false)) (some false)) fun c55 =>
some c55)))
end Go.Ai.Sx
