import Derived.Test.YtdicmpmcdjdneaaGreatDoorN11
set_option linter.all false
namespace AM
def bp3:tR 0=true:=lR
def bp4:tR 1=true:=lR
def bp5:tR 2=true:=lR
def bp6:tR 6=true:=lR
def bp7:tR 3=true:=lR
def bp8:tR 4=true:=lR
def bp9:tR 5=true:=lR
end AM
