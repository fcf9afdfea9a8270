import Derived.Test.YtihgjngjidijaaaGreatDoorN11
import Derived.Test.YtihgjngjidijaaaGreatDoorN40
set_option linter.all false
namespace AM.V
def bv9:aW aH aG aZ (aX L5) 100000 227 Lf [true]=true:=af
def bw0:aW aH aG aZ (aX L5) 100000 227 Lh [true]=true:=af
def r35:aW aH aG aZ (aX L2) 100000 504 Wd []=true:=af
def bw1:aW aH aG aZ (aX L2) 100000 504 Xk []=true:=af
def r51:aW aH aG aZ (aX L4) 100000 468 Ws []=true:=af
def bw2:aW aH aG aZ (aX L2) 100000 127 XI []=true:=af
def r45:aW aH aG aZ (aX L4) 100000 128 Wm []=true:=af
def r59:aW aH aG aZ (aX L2) 100000 17 WA []=true:=af
def r8:aW aH aG aZ (aX L0) 100000 185 e8 []=true:=af
def bw3:aW aH aG aZ (aX L0) 100000 134 Xr []=true:=af
def r11:aW aH aG aZ (aX L2) 100000 149 VJ []=true:=af
def r1:aW aH aG aZ (aX L1) 100000 9 e1 []=true:=af
def bw4:aW aH aG aZ (aX L0) 100000 504 Xl []=true:=af
end AM.V
