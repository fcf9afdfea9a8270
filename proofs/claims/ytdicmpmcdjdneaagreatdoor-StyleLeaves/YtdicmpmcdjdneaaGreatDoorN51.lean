import Derived.Test.YtdicmpmcdjdneaaGreatDoorN40
set_option linter.all false
namespace AM.V
def bv5:rU L5 Le [true]:=kR
def bv6:rU L5 Lg [true]:=kR
def r82:rU L1 WX []:=kR
def r70:rU L4 WK []:=kR
def r47:rU L5 Wo []:=kR
def r57:rU L0 Wy []:=kR
def bv7:rU L4 XJ []:=kR
def bv8:rU L6 XP []:=kR
def r95:rU L7 Xc []:=kR
def r5:rU L0 e5 []:=kR
def r7:rU L1 e7 []:=kR
def r13:rU L1 VM []:=kR
end AM.V
