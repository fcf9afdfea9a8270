import Derived.Test.YtihgjngjidijaaaGreatDoorN11
import Derived.Test.YtihgjngjidijaaaGreatDoorN40
set_option linter.all false
namespace AM.V
def bs9:aW aH aG aZ (aX L5) 100000 227 Lh [false]=true:=af
def bt0:aW aH aG aZ (aX L8) 100000 18 Xx []=true:=af
def r50:aW aH aG aZ (aX L4) 100000 467 Wr []=true:=af
def bt1:aW aH aG aZ (aX L4) 100000 468 Xu []=true:=af
def r17:aW aH aG aZ (aX L4) 100000 15 VQ []=true:=af
def r20:aW aH aG aZ (aX L0) 100000 186 VW []=true:=af
def r21:aW aH aG aZ (aX L0) 100000 186 VX []=true:=af
def bt2:aW aH aG aZ (aX L7) 100000 63 XQ []=true:=af
def r37:aW aH aG aZ (aX L4) 100000 432 Wf []=true:=af
def r41:aW aH aG aZ (aX L2) 100000 152 Wj []=true:=af
def r40:aW aH aG aZ (aX L0) 100000 156 Wi []=true:=af
end AM.V
