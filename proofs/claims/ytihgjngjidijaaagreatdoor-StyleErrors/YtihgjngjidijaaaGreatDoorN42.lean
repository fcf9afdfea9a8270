import Derived.Test.YtihgjngjidijaaaGreatDoorN11
import Derived.Test.YtihgjngjidijaaaGreatDoorN40
set_option linter.all false
namespace AM.V
def br8:aW aH aG aZ (aX L5) 100000 227 Lf [false]=true:=af
def r75:aW aH aG aZ (aX L8) 100000 18 WP []=true:=af
def br9:aW aH aG aZ (aX L4) 100000 245 Xs []=true:=af
def bs0:aW aH aG aZ (aX L5) 100000 243 Xq []=true:=af
def r58:aW aH aG aZ (aX L1) 100000 59 Wz []=true:=af
def bs1:aW aH aG aZ (aX L4) 100000 128 Xp []=true:=af
def bs2:aW aH aG aZ (aX L6) 100000 131 Xv []=true:=af
def r74:aW aH aG aZ (aX L7) 100000 63 WO []=true:=af
def rS:aW aH aG aZ (aX XT) 100000 4 eS []=true:=af
def bs3:aW aH aG aZ (aX L9) 100000 6 XS []=true:=af
def r2:aW aH aG aZ (aX L0) 100000 10 e2 []=true:=af
end AM.V
