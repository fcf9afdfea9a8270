import Derived.Test.YtdmkaddihnnbaaaGreatDoorN11
import Derived.Test.YtdmkaddihnnbaaaGreatDoorN40
set_option linter.all false
namespace AM.V
def r43:aW aH aG aZ (aX L6) 100000 136 Wk []=true:=lR
def bt8:aW aH aG aZ (aX L5) 100000 234 Li [true]=true:=lR
def r61:aW aH aG aZ (aX L2) 100000 502 WC []=true:=lR
def bt9:aW aH aG aZ (aX L2) 100000 502 XE []=true:=lR
def r72:aW aH aG aZ (aX L4) 100000 466 WM []=true:=lR
def r78:aW aH aG aZ (aX L0) 100000 31 e78 []=true:=lR
def r33:aW aH aG aZ (aX L2) 100000 94 Wb []=true:=lR
def r73:aW aH aG aZ (aX L6) 100000 141 WN []=true:=lR
def r28:aW aH aG aZ (aX L3) 100000 133 V6 []=true:=lR
def r81:aW aH aG aZ (aX L9) 100000 11 WW []=true:=lR
def r0:aW aH aG aZ (aX L0) 100000 67 e0 []=true:=lR
def r16:aW aH aG aZ (aX L3) 100000 51 VP []=true:=lR
end AM.V
