import Derived.Test.YtcpcjocnnclcmaaGreatDoorN11
set_option linter.all false
namespace AM
def af6:CK 0=true:=by kernel_rfl
def af7:CK 1=true:=by kernel_rfl
def af8:CK 2=true:=by kernel_rfl
def af9:CK 6=true:=by kernel_rfl
def ag0:CK 3=true:=by kernel_rfl
def ag1:CK 4=true:=by kernel_rfl
def ag2:CK 5=true:=by kernel_rfl
end AM
