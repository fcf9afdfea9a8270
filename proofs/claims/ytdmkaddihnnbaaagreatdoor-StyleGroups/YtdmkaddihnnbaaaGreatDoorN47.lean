import Derived.Test.YtdmkaddihnnbaaaGreatDoorN11
import Derived.Test.YtdmkaddihnnbaaaGreatDoorN40
set_option linter.all false
namespace AM.V
def r65:aW aH aG aZ (aX L6) 100000 136 WF []=true:=lR
def bu0:aW aH aG aZ (aX L4) 100000 75 Xj []=true:=lR
def r56:aW aH aG aZ (aX L5) 100000 6 Wx []=true:=lR
def r79:aW aH aG aZ (aX L1) 100000 72 WU []=true:=lR
def r85:aW aH aG aZ (aX L2) 100000 502 W3 []=true:=lR
def bu1:aW aH aG aZ (aX L4) 100000 465 XN []=true:=lR
def bu2:aW aH aG aZ (aX L2) 100000 137 Xo []=true:=lR
def bu3:aW aH aG aZ (aX L2) 100000 43 Xi []=true:=lR
def r24:aW aH aG aZ (aX L0) 100000 31 V0 []=true:=lR
def r34:aW aH aG aZ (aX L3) 100000 45 Wc []=true:=lR
def r90:aW aH aG aZ (aX L0) 100000 144 W7 []=true:=lR
def bu4:aW aH aG aZ (aX L4) 100000 430 XG []=true:=lR
def r31:aW aH aG aZ (aX L4) 100000 68 V9 []=true:=lR
def r86:aW aH aG aZ (aX L0) 100000 502 W4 []=true:=lR
end AM.V
