import Derived.Test.YtdicmpmcdjdneaaGreatDoorN40
set_option linter.all false
namespace AM.V
def r89:rU L6 W6 []:=kR
def r60:rU L4 WB []:=kR
def bu5:rU L5 Xz []:=kR
def r22:rU L4 VY []:=kR
def r49:rU L4 Wq []:=kR
def r93:rU L4 Xa []:=kR
def r99:rU L0 Xg []:=kR
def r19:rU L5 VV []:=kR
def r26:rU L2 V4 []:=kR
def bu6:rU L7 Xw []:=kR
def bu7:rU L9 Xy []:=kR
def r38:rU L2 Wg []:=kR
def r12:rU L0 VK []:=kR
end AM.V
