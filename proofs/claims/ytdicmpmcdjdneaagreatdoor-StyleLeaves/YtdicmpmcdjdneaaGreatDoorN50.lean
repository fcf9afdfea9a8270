import Derived.Test.YtdicmpmcdjdneaaGreatDoorN40
set_option linter.all false
namespace AM.V
def bu9:rU L6 XH []:=kR
def bv0:rU L4 XD []:=kR
def r98:rU L5 Xf []:=kR
def r23:rU L5 VZ []:=kR
def bD3:rU L4 Xt []:=kR
def r66:rU L2 WG []:=kR
def bD4:rU L1 XB []:=kR
def bv3:rU L2 XC []:=kR
def r30:rU L3 V8 []:=kR
def r69:rU L0 WJ []:=kR
def bD5:rU L4 Xm []:=kR
def r18:rU L4 VU []:=kR
def r62:rU L0 WD []:=kR
end AM.V
