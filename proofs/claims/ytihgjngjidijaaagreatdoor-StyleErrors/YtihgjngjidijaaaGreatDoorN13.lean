import Derived.Test.YtihgjngjidijaaaGreatDoorN9
set_option linter.all false
namespace AM
open Dg Go
noncomputable section
def dA8 (GL:T (List AV)):(dC 8).all (lY GL)=true:=af
def dA9 (GL:T (List AV)):(dC 9).all (lY GL)=true:=af
def aM0 (GL:T (List AV)):(dC 10).all (lY GL)=true:=af
def aM1 (GL:T (List AV)):(dC 11).all (lY GL)=true:=af
def aM2 (GL:T (List AV)):(dC 12).all (lY GL)=true:=af
def aM3 (GL:T (List AV)):(dC 13).all (lY GL)=true:=af
def aM4 (GL:T (List AV)):(dC 14).all (lY GL)=true:=af
def aM5 (GL:T (List AV)):(dC 15).all (lY GL)=true:=af
end
end AM
