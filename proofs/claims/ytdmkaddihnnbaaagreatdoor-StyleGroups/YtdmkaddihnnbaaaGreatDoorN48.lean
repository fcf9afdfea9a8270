import Derived.Test.YtdmkaddihnnbaaaGreatDoorN11
import Derived.Test.YtdmkaddihnnbaaaGreatDoorN40
set_option linter.all false
namespace AM.V
def r89:aW aH aG aZ (aX L6) 100000 136 W6 []=true:=lR
def r60:aW aH aG aZ (aX L4) 100000 75 WB []=true:=lR
def bu5:aW aH aG aZ (aX L5) 100000 6 Xz []=true:=lR
def r22:aW aH aG aZ (aX L4) 100000 59 VY []=true:=lR
def r49:aW aH aG aZ (aX L4) 100000 252 Wq []=true:=lR
def r93:aW aH aG aZ (aX L4) 100000 466 Xa []=true:=lR
def r99:aW aH aG aZ (aX L0) 100000 31 Xg []=true:=lR
def r19:aW aH aG aZ (aX L5) 100000 42 VV []=true:=lR
def r26:aW aH aG aZ (aX L2) 100000 43 V4 []=true:=lR
def bu6:aW aH aG aZ (aX L7) 100000 76 Xw []=true:=lR
def bu7:aW aH aG aZ (aX L9) 100000 11 Xy []=true:=lR
def r38:aW aH aG aZ (aX L2) 100000 154 Wg []=true:=lR
def r12:aW aH aG aZ (aX L0) 100000 158 VK []=true:=lR
end AM.V
