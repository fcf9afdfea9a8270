import Derived.Test.YtdicmpmcdjdneaaGreatDoorN40
set_option linter.all false
set_option maxHeartbeats 8000000
namespace AM.V
def br6:rU L5 Le [false]:=kR
def r54:rU L8 Wv []:=kR
def r91:rU L4 W8 []:=kR
def r68:rU L5 WI []:=kR
def br7:rU L1 Xh []:=kR
def r29:rU L2 V7 []:=kR
def r52:rU L6 Wt []:=kR
def r6:rU L0 e6 []:=kR
def r97:rU L9 Xe []:=kR
def r76:rU L9 WQ []:=kR
def r46:rU L3 Wn []:=kR
end AM.V
