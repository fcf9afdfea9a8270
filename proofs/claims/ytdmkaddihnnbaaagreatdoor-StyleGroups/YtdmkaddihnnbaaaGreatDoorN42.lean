import Derived.Test.YtdmkaddihnnbaaaGreatDoorN11
import Derived.Test.YtdmkaddihnnbaaaGreatDoorN40
set_option linter.all false
namespace AM.V
def br8:aW aH aG aZ (aX L5) 100000 234 Lf [false]=true:=lR
def r75:aW aH aG aZ (aX L8) 100000 44 WP []=true:=lR
def br9:aW aH aG aZ (aX L4) 100000 252 Xs []=true:=lR
def bs0:aW aH aG aZ (aX L5) 100000 250 Xq []=true:=lR
def r58:aW aH aG aZ (aX L1) 100000 72 Wz []=true:=lR
def bs1:aW aH aG aZ (aX L4) 100000 138 Xp []=true:=lR
def bs2:aW aH aG aZ (aX L6) 100000 141 Xv []=true:=lR
def r74:aW aH aG aZ (aX L7) 100000 76 WO []=true:=lR
def rS:aW aH aG aZ (aX XT) 100000 4 eS []=true:=lR
def bs3:aW aH aG aZ (aX L9) 100000 11 XS []=true:=lR
def r2:aW aH aG aZ (aX L0) 100000 10 e2 []=true:=lR
end AM.V
