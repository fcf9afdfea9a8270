import Derived.Test.YtihgjngjidijaaaGreatDoorN11
set_option linter.all false
namespace AM
def bp3:tR 0=true:=af
def bp4:tR 1=true:=af
def bp5:tR 2=true:=af
def bp6:tR 6=true:=af
def bp7:tR 3=true:=af
def bp8:tR 4=true:=af
def bp9:tR 5=true:=af
end AM
