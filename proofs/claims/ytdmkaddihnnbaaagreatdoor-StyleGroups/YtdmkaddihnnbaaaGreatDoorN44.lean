import Derived.Test.YtdmkaddihnnbaaaGreatDoorN11
import Derived.Test.YtdmkaddihnnbaaaGreatDoorN40
set_option linter.all false
namespace AM.V
def bs9:aW aH aG aZ (aX L5) 100000 234 Lh [false]=true:=lR
def bt0:aW aH aG aZ (aX L8) 100000 44 Xx []=true:=lR
def r50:aW aH aG aZ (aX L4) 100000 465 Wr []=true:=lR
def bt1:aW aH aG aZ (aX L4) 100000 466 Xu []=true:=lR
def r17:aW aH aG aZ (aX L4) 100000 16 VQ []=true:=lR
def r20:aW aH aG aZ (aX L0) 100000 188 VW []=true:=lR
def r21:aW aH aG aZ (aX L0) 100000 188 VX []=true:=lR
def bt2:aW aH aG aZ (aX L7) 100000 76 XQ []=true:=lR
def r37:aW aH aG aZ (aX L4) 100000 430 Wf []=true:=lR
def r41:aW aH aG aZ (aX L2) 100000 154 Wj []=true:=lR
def r40:aW aH aG aZ (aX L0) 100000 158 Wi []=true:=lR
end AM.V
