import Derived.Test.YtdicmpmcdjdneaaGreatDoorN40
set_option linter.all false
namespace AM.V
def r43:rU L6 Wk []:=kR
def bt8:rU L5 Li [true]:=kR
def r61:rU L2 WC []:=kR
def bt9:rU L2 XE []:=kR
def r72:rU L4 WM []:=kR
def r78:rU L0 e78 []:=kR
def r33:rU L2 Wb []:=kR
def r73:rU L6 WN []:=kR
def r28:rU L3 V6 []:=kR
def r81:rU L9 WW []:=kR
def r0:rU L0 e0 []:=kR
def r16:rU L3 VP []:=kR
end AM.V
