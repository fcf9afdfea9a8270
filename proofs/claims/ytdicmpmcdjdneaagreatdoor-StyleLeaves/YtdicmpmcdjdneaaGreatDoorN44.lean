import Derived.Test.YtdicmpmcdjdneaaGreatDoorN40
set_option linter.all false
set_option maxHeartbeats 8000000
namespace AM.V
def bs9:rU L5 Lh [false]:=kR
def bt0:rU L8 Xx []:=kR
def r50:rU L4 Wr []:=kR
def bt1:rU L4 Xu []:=kR
def r17:rU L4 VQ []:=kR
def r20:rU L0 VW []:=kR
def r21:rU L0 VX []:=kR
def bt2:rU L7 XQ []:=kR
def r37:rU L4 Wf []:=kR
def r41:rU L2 Wj []:=kR
def r40:rU L0 Wi []:=kR
end AM.V
