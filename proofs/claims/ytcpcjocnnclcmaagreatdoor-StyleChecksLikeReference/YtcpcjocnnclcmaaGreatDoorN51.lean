import Derived.Test.YtcpcjocnnclcmaaGreatDoorN11
import Derived.Test.YtcpcjocnnclcmaaGreatDoorN41
set_option linter.all false
namespace AM.V
def aE6:au b8 bX cY (aG L6) 100000 153 an6 []=true:=by kernel_rfl
def aE7:au b8 bX cY (aG L4) 100000 80 an0 []=true:=by kernel_rfl
def r98:au b8 bX cY (aG L5) 100000 30 e98 []=true:=by kernel_rfl
def r23:au b8 bX cY (aG L5) 100000 30 e23 []=true:=by kernel_rfl
def aE8:au b8 bX cY (aG L4) 100000 485 am0 []=true:=by kernel_rfl
def r66:au b8 bX cY (aG L2) 100000 154 e66 []=true:=by kernel_rfl
def aE9:au b8 bX cY (aG L1) 100000 77 am8 []=true:=by kernel_rfl
def aF0:au b8 bX cY (aG L2) 100000 31 am9 []=true:=by kernel_rfl
def r30:au b8 bX cY (aG L3) 100000 20 e30 []=true:=by kernel_rfl
def r69:au b8 bX cY (aG L0) 100000 161 e69 []=true:=by kernel_rfl
def aF1:au b8 bX cY (aG L4) 100000 450 al3 []=true:=by kernel_rfl
def r18:au b8 bX cY (aG L4) 100000 60 e18 []=true:=by kernel_rfl
def r62:au b8 bX cY (aG L0) 100000 516 e62 []=true:=by kernel_rfl
end AM.V
