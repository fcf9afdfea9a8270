import Derived.Test.YtcpcjocnnclcmaaGreatDoorN9
set_option linter.all false
namespace AM
open Dg Go
noncomputable section
def dA4 (GL:T (List AV)):(fj 4).all (D5 GL)=true:=by kernel_rfl
def dA5 (GL:T (List AV)):(fj 5).all (D5 GL)=true:=by kernel_rfl
def dA6 (GL:T (List AV)):(fj 6).all (D5 GL)=true:=by kernel_rfl
def dA7 (GL:T (List AV)):(fj 7).all (D5 GL)=true:=by kernel_rfl
end
end AM
