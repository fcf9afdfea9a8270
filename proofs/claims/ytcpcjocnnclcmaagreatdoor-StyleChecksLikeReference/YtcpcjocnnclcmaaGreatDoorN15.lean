import Derived.Test.YtcpcjocnnclcmaaGreatDoorN9
set_option linter.all false
namespace AM
open Dg Go
noncomputable section
def aw8 (GL:T (List AV)):(fj 12).all (D5 GL)=true:=by kernel_rfl
def aw9 (GL:T (List AV)):(fj 13).all (D5 GL)=true:=by kernel_rfl
def ax0 (GL:T (List AV)):(fj 14).all (D5 GL)=true:=by kernel_rfl
def ax1 (GL:T (List AV)):(fj 15).all (D5 GL)=true:=by kernel_rfl
end
end AM
