import Derived.Test.YtdmkaddihnnbaaaGreatDoorN11
import Derived.Test.YtdmkaddihnnbaaaGreatDoorN40
set_option linter.all false
namespace AM.V
def bu9:aW aH aG aZ (aX L6) 100000 136 XH []=true:=lR
def bv0:aW aH aG aZ (aX L4) 100000 75 XD []=true:=lR
def r98:aW aH aG aZ (aX L5) 100000 6 Xf []=true:=lR
def r23:aW aH aG aZ (aX L5) 100000 6 VZ []=true:=lR
def bv1:aW aH aG aZ (aX L4) 100000 465 Xt []=true:=lR
def r66:aW aH aG aZ (aX L2) 100000 137 WG []=true:=lR
def bv2:aW aH aG aZ (aX L1) 100000 72 XB []=true:=lR
def bv3:aW aH aG aZ (aX L2) 100000 43 XC []=true:=lR
def r30:aW aH aG aZ (aX L3) 100000 45 V8 []=true:=lR
def r69:aW aH aG aZ (aX L0) 100000 144 WJ []=true:=lR
def bv4:aW aH aG aZ (aX L4) 100000 430 Xm []=true:=lR
def r18:aW aH aG aZ (aX L4) 100000 68 VU []=true:=lR
def r62:aW aH aG aZ (aX L0) 100000 502 WD []=true:=lR
end AM.V
