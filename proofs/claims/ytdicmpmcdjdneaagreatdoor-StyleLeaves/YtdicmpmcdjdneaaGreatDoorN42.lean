import Derived.Test.YtdicmpmcdjdneaaGreatDoorN40
set_option linter.all false
set_option maxHeartbeats 8000000
namespace AM.V
def br8:rU L5 Lf [false]:=kR
def r75:rU L8 WP []:=kR
def br9:rU L4 Xs []:=kR
def bs0:rU L5 Xq []:=kR
def r58:rU L1 Wz []:=kR
def bs1:rU L4 Xp []:=kR
def bs2:rU L6 Xv []:=kR
def r74:rU L7 WO []:=kR
def rS:rU XT eS []:=kR
def bs3:rU L9 XS []:=kR
def r2:rU L0 e2 []:=kR
end AM.V
