import Derived.Test.YtcpcjocnnclcmaaGreatDoorN9
set_option linter.all false
namespace AM
open Dg Go
noncomputable section
def dB0 (GL:T (List AV)):(fj 0).all (D6 GL)=true:=by kernel_rfl
def dB1 (GL:T (List AV)):(fj 1).all (D6 GL)=true:=by kernel_rfl
def dB2 (GL:T (List AV)):(fj 2).all (D6 GL)=true:=by kernel_rfl
def dB3 (GL:T (List AV)):(fj 3).all (D6 GL)=true:=by kernel_rfl
end
end AM
