import Derived.Test.YtdicmpmcdjdneaaGreatDoorN40
set_option linter.all false
namespace AM.V
def bu8:rU L6 Xn []:=kR
def r84:rU L4 WZ []:=kR
def r77:rU L5 WR []:=kR
def r27:rU L4 V5 []:=kR
def r92:rU L4 W9 []:=kR
def r44:rU L2 Wl []:=kR
def r10:rU L2 VI []:=kR
def r80:rU L2 WV []:=kR
def r15:rU L3 VO []:=kR
def r9:rU L0 e9 []:=kR
def r63:rU L4 WE []:=kR
def r39:rU L2 Wh []:=kR
def r3:rU L0 e3 []:=kR
end AM.V
