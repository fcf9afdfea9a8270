import Derived.Test.YtdicmpmcdjdneaaGreatDoorN40
set_option linter.all false
set_option maxHeartbeats 8000000
namespace AM.V
def bt3:rU L5 Li [false]:=kR
def bt4:rU L8 XR []:=kR
def r71:rU L4 WL []:=kR
def bt5:rU L4 XO []:=kR
def r32:rU L5 Wa []:=kR
def r83:rU L2 WY []:=kR
def r94:rU L6 Xb []:=kR
def r53:rU L7 Wu []:=kR
def bt6:rU L0 XL []:=kR
def r14:rU L2 VN []:=kR
def r4:rU L1 e4 []:=kR
def bt7:rU L0 XF []:=kR
end AM.V
