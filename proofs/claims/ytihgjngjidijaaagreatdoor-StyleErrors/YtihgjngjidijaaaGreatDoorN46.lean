import Derived.Test.YtihgjngjidijaaaGreatDoorN11
import Derived.Test.YtihgjngjidijaaaGreatDoorN40
set_option linter.all false
namespace AM.V
def r43:aW aH aG aZ (aX L6) 100000 126 Wk []=true:=af
def bt8:aW aH aG aZ (aX L5) 100000 227 Li [true]=true:=af
def r61:aW aH aG aZ (aX L2) 100000 504 WC []=true:=af
def bt9:aW aH aG aZ (aX L2) 100000 504 XE []=true:=af
def r72:aW aH aG aZ (aX L4) 100000 468 WM []=true:=af
def r78:aW aH aG aZ (aX L0) 100000 108 WT []=true:=af
def r33:aW aH aG aZ (aX L2) 100000 90 Wb []=true:=af
def r73:aW aH aG aZ (aX L6) 100000 131 WN []=true:=af
def r28:aW aH aG aZ (aX L3) 100000 123 V6 []=true:=af
def r81:aW aH aG aZ (aX L9) 100000 6 WW []=true:=af
def r0:aW aH aG aZ (aX L0) 100000 75 e0 []=true:=af
def r16:aW aH aG aZ (aX L3) 100000 47 VP []=true:=af
end AM.V
