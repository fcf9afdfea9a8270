import Derived.Test.YtcpcjocnnclcmaaGreatDoorN9
set_option linter.all false
namespace AM
open Dg Go
noncomputable section
def ax4 (GL:T (List AV)):(fj 12).all (D6 GL)=true:=by kernel_rfl
def ax5 (GL:T (List AV)):(fj 13).all (D6 GL)=true:=by kernel_rfl
def ax6 (GL:T (List AV)):(fj 14).all (D6 GL)=true:=by kernel_rfl
def ax7 (GL:T (List AV)):(fj 15).all (D6 GL)=true:=by kernel_rfl
end
end AM
