import Derived.Test.YtihgjngjidijaaaGreatDoorN33
set_option linter.all false
namespace AM
open Go Go.Proofs Go.Proofs.YtihgjngjidijaaaGreatDoor
def ti6:varsNamedLaterB Tryz.prog (varsId Tryz.prog) zq=true:=af
def ti7:∀os tape,varsDone Tryz.prog 400 (varsId Tryz.prog) os tape=true:=λ_ _=>af
end AM
