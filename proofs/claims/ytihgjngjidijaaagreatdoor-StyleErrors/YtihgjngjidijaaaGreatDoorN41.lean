import Derived.Test.YtihgjngjidijaaaGreatDoorN11
import Derived.Test.YtihgjngjidijaaaGreatDoorN40
set_option linter.all false
namespace AM.V
def br6:aW aH aG aZ (aX L5) 100000 227 Le [false]=true:=af
def r54:aW aH aG aZ (aX L8) 100000 18 Wv []=true:=af
def r91:aW aH aG aZ (aX L4) 100000 245 W8 []=true:=af
def r68:aW aH aG aZ (aX L5) 100000 243 WI []=true:=af
def br7:aW aH aG aZ (aX L1) 100000 59 Xh []=true:=af
def r29:aW aH aG aZ (aX L2) 100000 90 V7 []=true:=af
def r52:aW aH aG aZ (aX L6) 100000 131 Wt []=true:=af
def r6:aW aH aG aZ (aX L0) 100000 186 e6 []=true:=af
def r97:aW aH aG aZ (aX L9) 100000 6 Xe []=true:=af
def r76:aW aH aG aZ (aX L9) 100000 6 WQ []=true:=af
def r46:aW aH aG aZ (aX L3) 100000 47 Wn []=true:=af
end AM.V
