import Derived.Test.YtdmkaddihnnbaaaGreatDoorN9
set_option linter.all false
namespace AM
open Dg Go
noncomputable section
def dA0 (GL:T (List AV)):(dC 0).all (lY GL)=true:=lR
def dA1 (GL:T (List AV)):(dC 1).all (lY GL)=true:=lR
def dA2 (GL:T (List AV)):(dC 2).all (lY GL)=true:=lR
def dA3 (GL:T (List AV)):(dC 3).all (lY GL)=true:=lR
def dA4 (GL:T (List AV)):(dC 4).all (lY GL)=true:=lR
def dA5 (GL:T (List AV)):(dC 5).all (lY GL)=true:=lR
def dA6 (GL:T (List AV)):(dC 6).all (lY GL)=true:=lR
def dA7 (GL:T (List AV)):(dC 7).all (lY GL)=true:=lR
def dA8 (GL:T (List AV)):(dC 8).all (lY GL)=true:=lR
def dA9 (GL:T (List AV)):(dC 9).all (lY GL)=true:=lR
def aM0 (GL:T (List AV)):(dC 10).all (lY GL)=true:=lR
def aM1 (GL:T (List AV)):(dC 11).all (lY GL)=true:=lR
def aM2 (GL:T (List AV)):(dC 12).all (lY GL)=true:=lR
def aM3 (GL:T (List AV)):(dC 13).all (lY GL)=true:=lR
def aM4 (GL:T (List AV)):(dC 14).all (lY GL)=true:=lR
def aM5 (GL:T (List AV)):(dC 15).all (lY GL)=true:=lR
end
end AM
