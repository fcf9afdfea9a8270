import Derived.Test.YtdicmpmcdjdneaaGreatDoorN40
set_option linter.all false
namespace AM.V
def bv9:rU L5 Lf [true]:=kR
def bw0:rU L5 Lh [true]:=kR
def r35:rU L2 Wd []:=kR
def bw1:rU L2 Xk []:=kR
def r51:rU L4 e51 []:=kR
def bw2:rU L2 XI []:=kR
def r45:rU L4 Wm []:=kR
def r59:rU L2 WA []:=kR
def r8:rU L0 e8 []:=kR
def bw3:rU L0 Xr []:=kR
def r11:rU L2 VJ []:=kR
def r1:rU L1 e1 []:=kR
def bw4:rU L0 Xl []:=kR
end AM.V
