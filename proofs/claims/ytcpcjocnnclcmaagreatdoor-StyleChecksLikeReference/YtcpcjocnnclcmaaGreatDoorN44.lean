import Derived.Test.YtcpcjocnnclcmaaGreatDoorN11
import Derived.Test.YtcpcjocnnclcmaaGreatDoorN41
set_option linter.all false
namespace AM.V
def aC5:au b8 bX cY (aG L5) 100000 245 e88 [false]=true:=by kernel_rfl
def r96:au b8 bX cY (aG L8) 100000 32 e96 []=true:=by kernel_rfl
def aC6:au b8 bX cY (aG L4) 100000 263 ao1 []=true:=by kernel_rfl
def aC7:au b8 bX cY (aG L5) 100000 261 an9 []=true:=by kernel_rfl
def aC8:au b8 bX cY (aG L0) 100000 136 am7 []=true:=by kernel_rfl
def r67:au b8 bX cY (aG L4) 100000 155 e67 []=true:=by kernel_rfl
def r25:au b8 bX cY (aG L1) 100000 77 e25 []=true:=by kernel_rfl
def r48:au b8 bX cY (aG L0) 100000 161 e48 []=true:=by kernel_rfl
def r87:au b8 bX cY (aG L4) 100000 450 e87 []=true:=by kernel_rfl
def r55:au b8 bX cY (aG L9) 100000 11 e55 []=true:=by kernel_rfl
def r36:au b8 bX cY (aG L0) 100000 516 e36 []=true:=by kernel_rfl
end AM.V
