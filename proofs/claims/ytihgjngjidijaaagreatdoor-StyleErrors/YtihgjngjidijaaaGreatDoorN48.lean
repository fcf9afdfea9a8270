import Derived.Test.YtihgjngjidijaaaGreatDoorN11
import Derived.Test.YtihgjngjidijaaaGreatDoorN40
set_option linter.all false
namespace AM.V
def r89:aW aH aG aZ (aX L6) 100000 126 W6 []=true:=af
def r60:aW aH aG aZ (aX L4) 100000 62 WB []=true:=af
def bu5:aW aH aG aZ (aX L5) 100000 7 Xz []=true:=af
def r22:aW aH aG aZ (aX L4) 100000 67 VY []=true:=af
def r49:aW aH aG aZ (aX L4) 100000 245 Wq []=true:=af
def r93:aW aH aG aZ (aX L4) 100000 468 Xa []=true:=af
def r99:aW aH aG aZ (aX L0) 100000 108 Xg []=true:=af
def r19:aW aH aG aZ (aX L5) 100000 16 VV []=true:=af
def r26:aW aH aG aZ (aX L2) 100000 17 V4 []=true:=af
def bu6:aW aH aG aZ (aX L7) 100000 63 Xw []=true:=af
def bu7:aW aH aG aZ (aX L9) 100000 6 Xy []=true:=af
def r38:aW aH aG aZ (aX L2) 100000 152 Wg []=true:=af
def r12:aW aH aG aZ (aX L0) 100000 156 VK []=true:=af
end AM.V
