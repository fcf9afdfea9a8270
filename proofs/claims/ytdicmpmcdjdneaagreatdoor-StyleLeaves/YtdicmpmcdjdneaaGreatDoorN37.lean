import Derived.Handed
import Derived.LaidHandle
import Derived.LaidLaws
import Derived.LaidMore
import Derived.Lay
import Derived.MakeChecks
import Derived.Test.YtdicmpmcdjdneaaGreatDoorRows
import Derived.Test.YtdicmpmcdjdneaaGreatDoorN0
set_option linter.all false
namespace AM
open Go Go.Proofs Go.Proofs.YtdicmpmcdjdneaaGreatDoor
def wA:Array Value:=#[.agg #[.int .u8 0,.int .u8 0,.slice none 0 0,.slice none 0 0,.slice none 0 0,.int .u8 0,.slice none 0 0,.slice none 0 0,.slice none 0 0,.int .u8 0],.int .u16 0]
noncomputable def zt (os:Os):World:=(World.laidAll Tryz.prog os Rows.styleLeavesRow.laid).forCall (λ_ _=>0) ⟨#[],wA,[]⟩
def wi3 (os:Os):Input.okWideB Tryz.prog (zt os) 3 ⟨#[],wA,[]⟩=true:=lR
def wi4 (os:Os) {H:Type} (enc:TypeId×Value ->H):Rows.styleLeavesSpec.preB enc Tryz.prog Tryz.f3 [] false (zt os).memory wA 8=true:=lR
def wi5 (os:Os) {H:Type} (enc:TypeId×Value ->H):Rows.styleLeavesSpec.sizedB enc Tryz.prog Tryz.f3 false (zt os).memory wA 8=true:=lR
set_option maxRecDepth 100000 in
def wi1 (os:Os):(zt os).Shaped Tryz.prog:=World.shaped_of_ZipB lR lR
set_option maxRecDepth 100000 in
def wi6 (os:Os):laidMet Tryz.prog Rows.styleLeavesRow.laid (zt os).memory:=laidMet_laidAll _ lR lR
end AM
