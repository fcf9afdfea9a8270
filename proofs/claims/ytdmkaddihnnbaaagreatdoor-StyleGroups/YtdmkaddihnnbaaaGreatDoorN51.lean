import Derived.Test.YtdmkaddihnnbaaaGreatDoorN11
import Derived.Test.YtdmkaddihnnbaaaGreatDoorN40
set_option linter.all false
namespace AM.V
def bv5:aW aH aG aZ (aX L5) 100000 234 Le [true]=true:=lR
def bv6:aW aH aG aZ (aX L5) 100000 234 Lg [true]=true:=lR
def r82:aW aH aG aZ (aX L1) 100000 72 WX []=true:=lR
def r70:aW aH aG aZ (aX L4) 100000 252 WK []=true:=lR
def r47:aW aH aG aZ (aX L5) 100000 250 Wo []=true:=lR
def r57:aW aH aG aZ (aX L0) 100000 31 Wy []=true:=lR
def bv7:aW aH aG aZ (aX L4) 100000 138 XJ []=true:=lR
def bv8:aW aH aG aZ (aX L6) 100000 141 XP []=true:=lR
def r95:aW aH aG aZ (aX L7) 100000 76 Xc []=true:=lR
def r5:aW aH aG aZ (aX L0) 100000 187 e5 []=true:=lR
def r7:aW aH aG aZ (aX L1) 100000 100 e7 []=true:=lR
def r13:aW aH aG aZ (aX L1) 100000 99 VM []=true:=lR
end AM.V
