import Derived.Test.YtcpcjocnnclcmaaGreatDoorN9
set_option linter.all false
namespace AM
open Dg Go
noncomputable section
def dB8 (GL:T (List AV)):(fj 8).all (D6 GL)=true:=by kernel_rfl
def dB9 (GL:T (List AV)):(fj 9).all (D6 GL)=true:=by kernel_rfl
def ax2 (GL:T (List AV)):(fj 10).all (D6 GL)=true:=by kernel_rfl
def ax3 (GL:T (List AV)):(fj 11).all (D6 GL)=true:=by kernel_rfl
end
end AM
