import Derived.Test.YtcpcjocnnclcmaaGreatDoorN9
set_option linter.all false
namespace AM
open Dg Go
noncomputable section
def dB4 (GL:T (List AV)):(fj 4).all (D6 GL)=true:=by kernel_rfl
def dB5 (GL:T (List AV)):(fj 5).all (D6 GL)=true:=by kernel_rfl
def dB6 (GL:T (List AV)):(fj 6).all (D6 GL)=true:=by kernel_rfl
def dB7 (GL:T (List AV)):(fj 7).all (D6 GL)=true:=by kernel_rfl
end
end AM
