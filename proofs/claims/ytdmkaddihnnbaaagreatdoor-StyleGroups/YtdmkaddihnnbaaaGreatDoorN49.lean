import Derived.Test.YtdmkaddihnnbaaaGreatDoorN11
import Derived.Test.YtdmkaddihnnbaaaGreatDoorN40
set_option linter.all false
namespace AM.V
def bu8:aW aH aG aZ (aX L6) 100000 136 Xn []=true:=lR
def r84:aW aH aG aZ (aX L4) 100000 75 WZ []=true:=lR
def r77:aW aH aG aZ (aX L5) 100000 6 WR []=true:=lR
def r27:aW aH aG aZ (aX L4) 100000 75 V5 []=true:=lR
def r92:aW aH aG aZ (aX L4) 100000 465 W9 []=true:=lR
def r44:aW aH aG aZ (aX L2) 100000 137 Wl []=true:=lR
def r10:aW aH aG aZ (aX L2) 100000 94 VI []=true:=lR
def r80:aW aH aG aZ (aX L2) 100000 43 WV []=true:=lR
def r15:aW aH aG aZ (aX L3) 100000 45 VO []=true:=lR
def r9:aW aH aG aZ (aX L0) 100000 187 e9 []=true:=lR
def r63:aW aH aG aZ (aX L4) 100000 430 WE []=true:=lR
def r39:aW aH aG aZ (aX L2) 100000 519 Wh []=true:=lR
def r3:aW aH aG aZ (aX L0) 100000 158 e3 []=true:=lR
end AM.V
