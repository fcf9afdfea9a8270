import Derived.Test.YtcpcjocnnclcmaaGreatDoorN9
set_option linter.all false
namespace AM
open Dg Go
noncomputable section
def dA0 (GL:T (List AV)):(fj 0).all (D5 GL)=true:=by kernel_rfl
def dA1 (GL:T (List AV)):(fj 1).all (D5 GL)=true:=by kernel_rfl
def dA2 (GL:T (List AV)):(fj 2).all (D5 GL)=true:=by kernel_rfl
def dA3 (GL:T (List AV)):(fj 3).all (D5 GL)=true:=by kernel_rfl
end
end AM
