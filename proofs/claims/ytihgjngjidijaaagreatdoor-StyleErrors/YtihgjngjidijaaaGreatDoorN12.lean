import Derived.Test.YtihgjngjidijaaaGreatDoorN9
set_option linter.all false
namespace AM
open Dg Go
noncomputable section
def dA0 (GL:T (List AV)):(dC 0).all (lY GL)=true:=af
def dA1 (GL:T (List AV)):(dC 1).all (lY GL)=true:=af
def dA2 (GL:T (List AV)):(dC 2).all (lY GL)=true:=af
def dA3 (GL:T (List AV)):(dC 3).all (lY GL)=true:=af
def dA4 (GL:T (List AV)):(dC 4).all (lY GL)=true:=af
def dA5 (GL:T (List AV)):(dC 5).all (lY GL)=true:=af
def dA6 (GL:T (List AV)):(dC 6).all (lY GL)=true:=af
def dA7 (GL:T (List AV)):(dC 7).all (lY GL)=true:=af
end
end AM
