import Derived.Test.YtihgjngjidijaaaGreatDoorN11
import Derived.Test.YtihgjngjidijaaaGreatDoorN40
set_option linter.all false
namespace AM.V
def bu9:aW aH aG aZ (aX L6) 100000 126 XH []=true:=af
def bv0:aW aH aG aZ (aX L4) 100000 62 XD []=true:=af
def r98:aW aH aG aZ (aX L5) 100000 7 Xf []=true:=af
def r23:aW aH aG aZ (aX L5) 100000 7 VZ []=true:=af
def bv1:aW aH aG aZ (aX L4) 100000 467 Xt []=true:=af
def r66:aW aH aG aZ (aX L2) 100000 127 WG []=true:=af
def bv2:aW aH aG aZ (aX L1) 100000 59 XB []=true:=af
def bv3:aW aH aG aZ (aX L2) 100000 17 XC []=true:=af
def r30:aW aH aG aZ (aX L3) 100000 41 V8 []=true:=af
def r69:aW aH aG aZ (aX L0) 100000 134 WJ []=true:=af
def bv4:aW aH aG aZ (aX L4) 100000 432 Xm []=true:=af
def r18:aW aH aG aZ (aX L4) 100000 55 VU []=true:=af
def r62:aW aH aG aZ (aX L0) 100000 504 WD []=true:=af
end AM.V
