import Derived.Test.YtdmkaddihnnbaaaGreatDoorN9
set_option linter.all false
namespace AM
open Dg Go
noncomputable section
def dB0 (GL:T (List AV)):(dC 0).all (lZ GL)=true:=lR
def dB1 (GL:T (List AV)):(dC 1).all (lZ GL)=true:=lR
def dB2 (GL:T (List AV)):(dC 2).all (lZ GL)=true:=lR
def dB3 (GL:T (List AV)):(dC 3).all (lZ GL)=true:=lR
def dB4 (GL:T (List AV)):(dC 4).all (lZ GL)=true:=lR
def dB5 (GL:T (List AV)):(dC 5).all (lZ GL)=true:=lR
def dB6 (GL:T (List AV)):(dC 6).all (lZ GL)=true:=lR
def dB7 (GL:T (List AV)):(dC 7).all (lZ GL)=true:=lR
def dB8 (GL:T (List AV)):(dC 8).all (lZ GL)=true:=lR
def dB9 (GL:T (List AV)):(dC 9).all (lZ GL)=true:=lR
def aM6 (GL:T (List AV)):(dC 10).all (lZ GL)=true:=lR
def aM7 (GL:T (List AV)):(dC 11).all (lZ GL)=true:=lR
def aM8 (GL:T (List AV)):(dC 12).all (lZ GL)=true:=lR
def aM9 (GL:T (List AV)):(dC 13).all (lZ GL)=true:=lR
def aN0 (GL:T (List AV)):(dC 14).all (lZ GL)=true:=lR
def aN1 (GL:T (List AV)):(dC 15).all (lZ GL)=true:=lR
end
end AM
