import Derived.Test.YtdicmpmcdjdneaaGreatDoorN40
set_option linter.all false
set_option maxHeartbeats 8000000
namespace AM.V
def bs5:rU L5 Lg [false]:=kR
def r96:rU L8 Xd []:=kR
def bs6:rU L4 XM []:=kR
def bs7:rU L5 XK []:=kR
def bs8:rU L0 XA []:=kR
def r67:rU L4 WH []:=kR
def r25:rU L1 V3 []:=kR
def r48:rU L0 Wp []:=kR
def r87:rU L4 W5 []:=kR
def r55:rU L9 Ww []:=kR
def r36:rU L0 We []:=kR
end AM.V
