import Derived.Test.YtdicmpmcdjdneaaGreatDoorN12
set_option linter.all false
namespace AM
def dA8 GL:nu GL 8=true:=lR
def dA9 GL:nu GL 9=true:=lR
def aM0 GL:nu GL 10=true:=lR
def aM1 GL:nu GL 11=true:=lR
def aM2 GL:nu GL 12=true:=lR
def aM3 GL:nu GL 13=true:=lR
def aM4 GL:nu GL 14=true:=lR
def aM5 GL:nu GL 15=true:=lR
end AM
