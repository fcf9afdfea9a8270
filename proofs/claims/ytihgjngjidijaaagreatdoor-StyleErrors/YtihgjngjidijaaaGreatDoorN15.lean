import Derived.Test.YtihgjngjidijaaaGreatDoorN9
set_option linter.all false
namespace AM
open Dg Go
noncomputable section
def dB8 (GL:T (List AV)):(dC 8).all (lZ GL)=true:=af
def dB9 (GL:T (List AV)):(dC 9).all (lZ GL)=true:=af
def aM6 (GL:T (List AV)):(dC 10).all (lZ GL)=true:=af
def aM7 (GL:T (List AV)):(dC 11).all (lZ GL)=true:=af
def aM8 (GL:T (List AV)):(dC 12).all (lZ GL)=true:=af
def aM9 (GL:T (List AV)):(dC 13).all (lZ GL)=true:=af
def aN0 (GL:T (List AV)):(dC 14).all (lZ GL)=true:=af
def aN1 (GL:T (List AV)):(dC 15).all (lZ GL)=true:=af
end
end AM
