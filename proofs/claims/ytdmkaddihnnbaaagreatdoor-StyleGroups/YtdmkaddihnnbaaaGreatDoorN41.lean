import Derived.Test.YtdmkaddihnnbaaaGreatDoorN11
import Derived.Test.YtdmkaddihnnbaaaGreatDoorN40
set_option linter.all false
namespace AM.V
def br6:aW aH aG aZ (aX L5) 100000 234 Le [false]=true:=lR
def r54:aW aH aG aZ (aX L8) 100000 44 Wv []=true:=lR
def r91:aW aH aG aZ (aX L4) 100000 252 W8 []=true:=lR
def r68:aW aH aG aZ (aX L5) 100000 250 WI []=true:=lR
def br7:aW aH aG aZ (aX L1) 100000 72 Xh []=true:=lR
def r29:aW aH aG aZ (aX L2) 100000 94 V7 []=true:=lR
def r52:aW aH aG aZ (aX L6) 100000 141 Wt []=true:=lR
def r6:aW aH aG aZ (aX L0) 100000 188 e6 []=true:=lR
def r97:aW aH aG aZ (aX L9) 100000 11 Xe []=true:=lR
def r76:aW aH aG aZ (aX L9) 100000 11 WQ []=true:=lR
def r46:aW aH aG aZ (aX L3) 100000 51 Wn []=true:=lR
end AM.V
