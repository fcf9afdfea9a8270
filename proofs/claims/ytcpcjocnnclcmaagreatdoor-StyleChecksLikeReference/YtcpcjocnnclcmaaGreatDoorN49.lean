import Derived.Test.YtcpcjocnnclcmaaGreatDoorN11
import Derived.Test.YtcpcjocnnclcmaaGreatDoorN41
set_option linter.all false
namespace AM.V
def r89:au b8 bX cY (aG L6) 100000 153 e89 []=true:=by kernel_rfl
def r60:au b8 bX cY (aG L4) 100000 80 e60 []=true:=by kernel_rfl
def aE2:au b8 bX cY (aG L5) 100000 30 am6 []=true:=by kernel_rfl
def r22:au b8 bX cY (aG L4) 100000 131 e22 []=true:=by kernel_rfl
def r49:au b8 bX cY (aG L4) 100000 263 e49 []=true:=by kernel_rfl
def r93:au b8 bX cY (aG L4) 100000 486 e93 []=true:=by kernel_rfl
def r99:au b8 bX cY (aG L0) 100000 136 e99 []=true:=by kernel_rfl
def r19:au b8 bX cY (aG L5) 100000 29 e19 []=true:=by kernel_rfl
def r26:au b8 bX cY (aG L2) 100000 31 e26 []=true:=by kernel_rfl
def aE3:au b8 bX cY (aG L7) 100000 81 am3 []=true:=by kernel_rfl
def aE4:au b8 bX cY (aG L9) 100000 11 am5 []=true:=by kernel_rfl
def r38:au b8 bX cY (aG L2) 100000 105 e38 []=true:=by kernel_rfl
def r12:au b8 bX cY (aG L0) 100000 109 e12 []=true:=by kernel_rfl
end AM.V
