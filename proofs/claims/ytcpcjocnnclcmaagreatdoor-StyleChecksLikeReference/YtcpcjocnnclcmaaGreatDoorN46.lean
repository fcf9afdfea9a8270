import Derived.Test.YtcpcjocnnclcmaaGreatDoorN11
import Derived.Test.YtcpcjocnnclcmaaGreatDoorN41
set_option linter.all false
namespace AM.V
def ao9:au b8 bX cY (aG L5) 100000 245 Yc [false]=true:=by kernel_rfl
def aD2:au b8 bX cY (aG L8) 100000 32 ao6 []=true:=by kernel_rfl
def r71:au b8 bX cY (aG L4) 100000 485 e71 []=true:=by kernel_rfl
def aD3:au b8 bX cY (aG L4) 100000 486 ao3 []=true:=by kernel_rfl
def r32:au b8 bX cY (aG L5) 100000 152 e32 []=true:=by kernel_rfl
def r83:au b8 bX cY (aG L2) 100000 31 e83 []=true:=by kernel_rfl
def r94:au b8 bX cY (aG L6) 100000 158 e94 []=true:=by kernel_rfl
def r53:au b8 bX cY (aG L7) 100000 81 e53 []=true:=by kernel_rfl
def aD4:au b8 bX cY (aG L0) 100000 161 ao0 []=true:=by kernel_rfl
def r14:au b8 bX cY (aG L2) 100000 101 e14 []=true:=by kernel_rfl
def r4:au b8 bX cY (aG L1) 100000 117 e4 []=true:=by kernel_rfl
def aD5:au b8 bX cY (aG L0) 100000 516 an4 []=true:=by kernel_rfl
end AM.V
