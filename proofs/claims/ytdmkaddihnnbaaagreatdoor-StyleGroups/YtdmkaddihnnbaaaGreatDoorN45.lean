import Derived.Test.YtdmkaddihnnbaaaGreatDoorN11
import Derived.Test.YtdmkaddihnnbaaaGreatDoorN40
set_option linter.all false
namespace AM.V
def bt3:aW aH aG aZ (aX L5) 100000 234 Li [false]=true:=lR
def bt4:aW aH aG aZ (aX L8) 100000 44 XR []=true:=lR
def r71:aW aH aG aZ (aX L4) 100000 465 WL []=true:=lR
def bt5:aW aH aG aZ (aX L4) 100000 466 XO []=true:=lR
def r32:aW aH aG aZ (aX L5) 100000 134 Wa []=true:=lR
def r83:aW aH aG aZ (aX L2) 100000 43 WY []=true:=lR
def r94:aW aH aG aZ (aX L6) 100000 141 Xb []=true:=lR
def r53:aW aH aG aZ (aX L7) 100000 76 Wu []=true:=lR
def bt6:aW aH aG aZ (aX L0) 100000 144 XL []=true:=lR
def r14:aW aH aG aZ (aX L2) 100000 151 VN []=true:=lR
def r4:aW aH aG aZ (aX L1) 100000 99 e4 []=true:=lR
def bt7:aW aH aG aZ (aX L0) 100000 502 XF []=true:=lR
end AM.V
