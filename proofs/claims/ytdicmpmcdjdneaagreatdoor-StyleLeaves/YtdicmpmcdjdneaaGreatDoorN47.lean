import Derived.Test.YtdicmpmcdjdneaaGreatDoorN40
set_option linter.all false
namespace AM.V
def r65:rU L6 e65 []:=kR
def bu0:rU L4 Xj []:=kR
def r56:rU L5 Wx []:=kR
def r79:rU L1 WU []:=kR
def r85:rU L2 W3 []:=kR
def bu1:rU L4 XN []:=kR
def bu2:rU L2 Xo []:=kR
def bu3:rU L2 Xi []:=kR
def r24:rU L0 V0 []:=kR
def r34:rU L3 Wc []:=kR
def r90:rU L0 W7 []:=kR
def bu4:rU L4 XG []:=kR
def r31:rU L4 V9 []:=kR
def r86:rU L0 e86 []:=kR
end AM.V
