import Derived.Test.YtdicmpmcdjdneaaGreatDoorN33
set_option linter.all false
namespace AM
open Go Go.Proofs Go.Proofs.YtdicmpmcdjdneaaGreatDoor
def ti6:varsNamedLaterB Tryz.prog (varsId Tryz.prog) zq=true:=lR
def ti7:∀os j,varsDone Tryz.prog 400 (varsId Tryz.prog) os j=true:=λ_ _=>lR
def ti8:∀os j,(DataW.laidRun Tryz.prog (varsWorld Tryz.prog 400 (varsId Tryz.prog) os j).memory 8 (zq.map (·.1))).map (·.1)=some zq:=λ_ _=>lR
def ti9:∀os j,(DataW.laidRun Tryz.prog (varsWorld Tryz.prog 400 (varsId Tryz.prog) os j).memory 8 (zq.map (·.1))).map (λx=>decide x.2.Nodup&&laidRowsB Tryz.prog (varsWorld Tryz.prog 400 (varsId Tryz.prog) os j).memory x.2)=some true:=λ_ _=>lR
end AM
