import Derived.Test.YtcpcjocnnclcmaaGreatDoorN11
import Derived.Test.YtcpcjocnnclcmaaGreatDoorN41
set_option linter.all false
namespace AM.V
def r43:au b8 bX cY (aG L6) 100000 153 e43 []=true:=by kernel_rfl
def ap5:au b8 bX cY (aG L5) 100000 245 Yc [true]=true:=by kernel_rfl
def r61:au b8 bX cY (aG L2) 100000 516 e61 []=true:=by kernel_rfl
def aD6:au b8 bX cY (aG L2) 100000 516 an3 []=true:=by kernel_rfl
def r72:au b8 bX cY (aG L4) 100000 486 e72 []=true:=by kernel_rfl
def r78:au b8 bX cY (aG L0) 100000 136 e78 []=true:=by kernel_rfl
def r33:au b8 bX cY (aG L2) 100000 98 e33 []=true:=by kernel_rfl
def r73:au b8 bX cY (aG L6) 100000 158 e73 []=true:=by kernel_rfl
def r28:au b8 bX cY (aG L3) 100000 151 e28 []=true:=by kernel_rfl
def r81:au b8 bX cY (aG L9) 100000 11 e81 []=true:=by kernel_rfl
def r0:au b8 bX cY (aG L0) 100000 39 e0 []=true:=by kernel_rfl
def r16:au b8 bX cY (aG L3) 100000 51 e16 []=true:=by kernel_rfl
end AM.V
