import Derived.Test.YtcpcjocnnclcmaaGreatDoorN9
set_option linter.all false
namespace AM
open Dg Go
noncomputable section
def dA8 (GL:T (List AV)):(fj 8).all (D5 GL)=true:=by kernel_rfl
def dA9 (GL:T (List AV)):(fj 9).all (D5 GL)=true:=by kernel_rfl
def aw6 (GL:T (List AV)):(fj 10).all (D5 GL)=true:=by kernel_rfl
def aw7 (GL:T (List AV)):(fj 11).all (D5 GL)=true:=by kernel_rfl
end
end AM
