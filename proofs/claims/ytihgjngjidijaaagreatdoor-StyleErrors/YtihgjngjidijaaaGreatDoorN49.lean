import Derived.Test.YtihgjngjidijaaaGreatDoorN11
import Derived.Test.YtihgjngjidijaaaGreatDoorN40
set_option linter.all false
namespace AM.V
def bu8:aW aH aG aZ (aX L6) 100000 126 Xn []=true:=af
def r84:aW aH aG aZ (aX L4) 100000 62 WZ []=true:=af
def r77:aW aH aG aZ (aX L5) 100000 7 WR []=true:=af
def r27:aW aH aG aZ (aX L4) 100000 62 V5 []=true:=af
def r92:aW aH aG aZ (aX L4) 100000 467 W9 []=true:=af
def r44:aW aH aG aZ (aX L2) 100000 127 Wl []=true:=af
def r10:aW aH aG aZ (aX L2) 100000 90 VI []=true:=af
def r80:aW aH aG aZ (aX L2) 100000 17 WV []=true:=af
def r15:aW aH aG aZ (aX L3) 100000 41 VO []=true:=af
def r9:aW aH aG aZ (aX L0) 100000 185 e9 []=true:=af
def r63:aW aH aG aZ (aX L4) 100000 432 WE []=true:=af
def r39:aW aH aG aZ (aX L2) 100000 521 Wh []=true:=af
def r3:aW aH aG aZ (aX L0) 100000 156 e3 []=true:=af
end AM.V
