import Derived.Test.YtcpcjocnnclcmaaGreatDoorN34
set_option linter.all false
namespace AM
open Go Go.Proofs Go.Proofs.YtcpcjocnnclcmaaGreatDoor
def ti6:varsNamedLaterB Tryz.prog (varsId Tryz.prog) Le=true:=by kernel_rfl
def ti7:∀os tape,varsDone Tryz.prog 400 (varsId Tryz.prog) os tape=true:=fun _ _=>by kernel_rfl
def ti8:∀os tape,(DataW.laidRun Tryz.prog (varsWorld Tryz.prog 400 (varsId Tryz.prog) os tape).memory 8 (Le.map (·.1))).map (·.1)=some Le:=fun _ _=>by kernel_rfl
def ti9:∀os tape,(DataW.laidRun Tryz.prog (varsWorld Tryz.prog 400 (varsId Tryz.prog) os tape).memory 8 (Le.map (·.1))).map (fun x=>decide x.2.Nodup&&laidRowsB Tryz.prog (varsWorld Tryz.prog 400 (varsId Tryz.prog) os tape).memory x.2)=some true:=fun _ _=>by kernel_rfl
end AM
