import Derived.Test.YtihgjngjidijaaaGreatDoorN11
import Derived.Test.YtihgjngjidijaaaGreatDoorN40
set_option linter.all false
namespace AM.V
def bt3:aW aH aG aZ (aX L5) 100000 227 Li [false]=true:=af
def bt4:aW aH aG aZ (aX L8) 100000 18 XR []=true:=af
def r71:aW aH aG aZ (aX L4) 100000 467 WL []=true:=af
def bt5:aW aH aG aZ (aX L4) 100000 468 XO []=true:=af
def r32:aW aH aG aZ (aX L5) 100000 124 Wa []=true:=af
def r83:aW aH aG aZ (aX L2) 100000 17 WY []=true:=af
def r94:aW aH aG aZ (aX L6) 100000 131 Xb []=true:=af
def r53:aW aH aG aZ (aX L7) 100000 63 Wu []=true:=af
def bt6:aW aH aG aZ (aX L0) 100000 134 XL []=true:=af
def r14:aW aH aG aZ (aX L2) 100000 149 VN []=true:=af
def r4:aW aH aG aZ (aX L1) 100000 95 e4 []=true:=af
def bt7:aW aH aG aZ (aX L0) 100000 504 XF []=true:=af
end AM.V
