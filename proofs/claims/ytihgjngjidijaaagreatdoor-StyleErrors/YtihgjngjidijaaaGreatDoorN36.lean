import Derived.Test.YtihgjngjidijaaaGreatDoorN33
set_option linter.all false
namespace AM
open Go Go.Proofs Go.Proofs.YtihgjngjidijaaaGreatDoor
def ti8:∀os tape,(DataW.laidRun Tryz.prog (varsWorld Tryz.prog 400 (varsId Tryz.prog) os tape).memory 8 (zq.map (·.1))).map (·.1)=some zq:=λ_ _=>af
def ti9:∀os tape,(DataW.laidRun Tryz.prog (varsWorld Tryz.prog 400 (varsId Tryz.prog) os tape).memory 8 (zq.map (·.1))).map (λx=>decide x.2.Nodup&&laidRowsB Tryz.prog (varsWorld Tryz.prog 400 (varsId Tryz.prog) os tape).memory x.2)=some true:=λ_ _=>af
end AM
