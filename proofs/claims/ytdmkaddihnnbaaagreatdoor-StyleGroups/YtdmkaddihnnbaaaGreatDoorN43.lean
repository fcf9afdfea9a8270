import Derived.Test.YtdmkaddihnnbaaaGreatDoorN11
import Derived.Test.YtdmkaddihnnbaaaGreatDoorN40
set_option linter.all false
namespace AM.V
def bs5:aW aH aG aZ (aX L5) 100000 234 Lg [false]=true:=lR
def r96:aW aH aG aZ (aX L8) 100000 44 Xd []=true:=lR
def bs6:aW aH aG aZ (aX L4) 100000 252 XM []=true:=lR
def bs7:aW aH aG aZ (aX L5) 100000 250 XK []=true:=lR
def bs8:aW aH aG aZ (aX L0) 100000 31 XA []=true:=lR
def r67:aW aH aG aZ (aX L4) 100000 138 WH []=true:=lR
def r25:aW aH aG aZ (aX L1) 100000 72 V3 []=true:=lR
def r48:aW aH aG aZ (aX L0) 100000 144 Wp []=true:=lR
def r87:aW aH aG aZ (aX L4) 100000 430 W5 []=true:=lR
def r55:aW aH aG aZ (aX L9) 100000 11 Ww []=true:=lR
def r36:aW aH aG aZ (aX L0) 100000 502 We []=true:=lR
end AM.V
