import Derived.Test.YtihgjngjidijaaaGreatDoorN11
import Derived.Test.YtihgjngjidijaaaGreatDoorN40
set_option linter.all false
namespace AM.V
def bs5:aW aH aG aZ (aX L5) 100000 227 Lg [false]=true:=af
def r96:aW aH aG aZ (aX L8) 100000 18 Xd []=true:=af
def bs6:aW aH aG aZ (aX L4) 100000 245 XM []=true:=af
def bs7:aW aH aG aZ (aX L5) 100000 243 XK []=true:=af
def bs8:aW aH aG aZ (aX L0) 100000 108 XA []=true:=af
def r67:aW aH aG aZ (aX L4) 100000 128 WH []=true:=af
def r25:aW aH aG aZ (aX L1) 100000 59 V3 []=true:=af
def r48:aW aH aG aZ (aX L0) 100000 134 Wp []=true:=af
def r87:aW aH aG aZ (aX L4) 100000 432 W5 []=true:=af
def r55:aW aH aG aZ (aX L9) 100000 6 Ww []=true:=af
def r36:aW aH aG aZ (aX L0) 100000 504 We []=true:=af
end AM.V
