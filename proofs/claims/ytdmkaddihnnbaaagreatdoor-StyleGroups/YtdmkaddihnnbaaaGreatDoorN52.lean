import Derived.Test.YtdmkaddihnnbaaaGreatDoorN11
import Derived.Test.YtdmkaddihnnbaaaGreatDoorN40
set_option linter.all false
namespace AM.V
def bv9:aW aH aG aZ (aX L5) 100000 234 Lf [true]=true:=lR
def bw0:aW aH aG aZ (aX L5) 100000 234 Lh [true]=true:=lR
def r35:aW aH aG aZ (aX L2) 100000 502 Wd []=true:=lR
def bw1:aW aH aG aZ (aX L2) 100000 502 Xk []=true:=lR
def r51:aW aH aG aZ (aX L4) 100000 466 Ws []=true:=lR
def bw2:aW aH aG aZ (aX L2) 100000 137 XI []=true:=lR
def r45:aW aH aG aZ (aX L4) 100000 138 Wm []=true:=lR
def r59:aW aH aG aZ (aX L2) 100000 43 WA []=true:=lR
def r8:aW aH aG aZ (aX L0) 100000 187 e8 []=true:=lR
def bw3:aW aH aG aZ (aX L0) 100000 144 Xr []=true:=lR
def r11:aW aH aG aZ (aX L2) 100000 151 VJ []=true:=lR
def r1:aW aH aG aZ (aX L1) 100000 9 e1 []=true:=lR
def bw4:aW aH aG aZ (aX L0) 100000 502 Xl []=true:=lR
end AM.V
