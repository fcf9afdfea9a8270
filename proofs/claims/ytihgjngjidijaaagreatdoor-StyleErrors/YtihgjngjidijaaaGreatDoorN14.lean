import Derived.Test.YtihgjngjidijaaaGreatDoorN9
set_option linter.all false
namespace AM
open Dg Go
noncomputable section
def dB0 (GL:T (List AV)):(dC 0).all (lZ GL)=true:=af
def dB1 (GL:T (List AV)):(dC 1).all (lZ GL)=true:=af
def dB2 (GL:T (List AV)):(dC 2).all (lZ GL)=true:=af
def dB3 (GL:T (List AV)):(dC 3).all (lZ GL)=true:=af
def dB4 (GL:T (List AV)):(dC 4).all (lZ GL)=true:=af
def dB5 (GL:T (List AV)):(dC 5).all (lZ GL)=true:=af
def dB6 (GL:T (List AV)):(dC 6).all (lZ GL)=true:=af
def dB7 (GL:T (List AV)):(dC 7).all (lZ GL)=true:=af
end
end AM
