import Derived.Handed
import Derived.LaidHandle
import Derived.LaidLaws
import Derived.LaidMore
import Derived.Lay
import Derived.MakeChecks
import Derived.Test.YtcpcjocnnclcmaaGreatDoorRows
import Derived.Test.YtcpcjocnnclcmaaGreatDoorN0
set_option linter.all false
namespace AM
open Go Go.Proofs Go.Proofs.YtcpcjocnnclcmaaGreatDoor
def wA:Array Value:=#[.agg #[.int .u8 0,.int .u8 0,.slice none 0 0,.slice none 0 0,.slice none 0 0],.slice none 0 0,.slice none 0 0]
noncomputable def wWi (os:Os):World:=(World.laidAll Tryz.prog os Rows.styleChecksLikeReferenceRow.laid).forCall (fun _ _=>0) ⟨#[],wA,[]⟩
def wi3 (os:Os):Input.okWideB Tryz.prog (wWi os) 3 ⟨#[],wA,[]⟩=true:=by kernel_rfl
def wi4 (os:Os) {H:Type} (enc:TypeId×Value ->H):Rows.styleChecksLikeReferenceSpec.preB enc Tryz.prog Tryz.f3 [] false (wWi os).memory wA 8=true:=by kernel_rfl
def wi5 (os:Os) {H:Type} (enc:TypeId×Value ->H):Rows.styleChecksLikeReferenceSpec.sizedB enc Tryz.prog Tryz.f3 false (wWi os).memory wA 8=true:=by kernel_rfl
set_option maxRecDepth 100000 in
def wi1 (os:Os):(wWi os).Shaped Tryz.prog:=World.shaped_of_ZipB (by kernel_rfl) (by kernel_rfl)
set_option maxRecDepth 100000 in
def wi6 (os:Os):laidMet Tryz.prog Rows.styleChecksLikeReferenceRow.laid (wWi os).memory:=laidMet_laidAll _ (by kernel_rfl) (by kernel_rfl)
end AM
