import Derived.Test.YtihgjngjidijaaaGreatDoorN11
import Derived.Test.YtihgjngjidijaaaGreatDoorN40
set_option linter.all false
namespace AM.V
def bv5:aW aH aG aZ (aX L5) 100000 227 Le [true]=true:=af
def bv6:aW aH aG aZ (aX L5) 100000 227 Lg [true]=true:=af
def r82:aW aH aG aZ (aX L1) 100000 59 WX []=true:=af
def r70:aW aH aG aZ (aX L4) 100000 245 WK []=true:=af
def r47:aW aH aG aZ (aX L5) 100000 243 Wo []=true:=af
def r57:aW aH aG aZ (aX L0) 100000 108 Wy []=true:=af
def bv7:aW aH aG aZ (aX L4) 100000 128 XJ []=true:=af
def bv8:aW aH aG aZ (aX L6) 100000 131 XP []=true:=af
def r95:aW aH aG aZ (aX L7) 100000 63 Xc []=true:=af
def r5:aW aH aG aZ (aX L0) 100000 185 e5 []=true:=af
def r7:aW aH aG aZ (aX L1) 100000 96 e7 []=true:=af
def r13:aW aH aG aZ (aX L1) 100000 95 VM []=true:=af
end AM.V
