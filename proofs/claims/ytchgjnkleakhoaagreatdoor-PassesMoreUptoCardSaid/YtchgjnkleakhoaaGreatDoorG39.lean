/- Lemmas. -/
import Derived.Test.YtchgjnkleakhoaaGreatDoorRows
import Derived.JoinedOf
import Derived.SevenTiedAt
set_option maxRecDepth 1000000
set_option maxHeartbeats 40000000
set_option linter.all false
namespace Go.Proofs.YtchgjnkleakhoaaGreatDoor.passesMore
open Go.ChangeShapes
def closed1:(Rows.passesMoreUptoRow.inPlace==Tryz.checked.prog.inPlace 3)=true:=by kernel_rfl
def closed2:(Rows.passesMoreUptoRow.unfollowed==Tryz.checked.prog.unfollowed 3)=true:=by kernel_rfl
def closed3:(Rows.passesMoreUptoRow.recurses==Tryz.checked.prog.recurses 3)=true:=by kernel_rfl
def closed4:(Rows.passesMoreUptoRow.named==Tryz.checked.prog.varsNamed 3)=true:=by kernel_rfl
def closed:joinedFacts Tryz.checked.prog 3 Tryz.f3 Rows.passesMoreSpec Rows.passesMoreUptoRow=true:=by
 unfold joinedFacts;rw[closed1,closed2,closed3,closed4]
 kernel_rfl
def goes:false=Rows.passesMoreUptoRow.goesBy Tryz.checked.prog:=by kernel_rfl
def looks:true=Tryz.checked.prog.looks []:=by kernel_rfl
def mains : Tryz.checked.prog.mainIs = some ((true, "13a56b8b672a54ada316e412bdbe18b0d7183cf292a8d2c88fa9e1883ba565c1").1, (true, "13a56b8b672a54ada316e412bdbe18b0d7183cf292a8d2c88fa9e1883ba565c1").2.toList) := by kernel_rfl
def named : Tryz.prog.funcNamed "witan/witanlaw18.PassesMore" = some 3 := by kernel_rfl
def stand:([22,27,30,31,3].all fun u=>!Tryz.prog.wantsStandIn u)=true:=by kernel_rfl
end Go.Proofs.YtchgjnkleakhoaaGreatDoor.passesMore
