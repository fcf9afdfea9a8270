import Derived.Test.YtihgjngjidijaaaGreatDoorN11
import Derived.Test.YtihgjngjidijaaaGreatDoorN40
set_option linter.all false
namespace AM.V
def r65:aW aH aG aZ (aX L6) 100000 126 WF []=true:=af
def bu0:aW aH aG aZ (aX L4) 100000 62 Xj []=true:=af
def r56:aW aH aG aZ (aX L5) 100000 7 Wx []=true:=af
def r79:aW aH aG aZ (aX L1) 100000 59 WU []=true:=af
def r85:aW aH aG aZ (aX L2) 100000 504 W3 []=true:=af
def bu1:aW aH aG aZ (aX L4) 100000 467 XN []=true:=af
def bu2:aW aH aG aZ (aX L2) 100000 127 Xo []=true:=af
def bu3:aW aH aG aZ (aX L2) 100000 17 Xi []=true:=af
def r24:aW aH aG aZ (aX L0) 100000 108 V0 []=true:=af
def r34:aW aH aG aZ (aX L3) 100000 41 Wc []=true:=af
def r90:aW aH aG aZ (aX L0) 100000 134 W7 []=true:=af
def bu4:aW aH aG aZ (aX L4) 100000 432 XG []=true:=af
def r31:aW aH aG aZ (aX L4) 100000 55 V9 []=true:=af
def r86:aW aH aG aZ (aX L0) 100000 504 W4 []=true:=af
end AM.V
