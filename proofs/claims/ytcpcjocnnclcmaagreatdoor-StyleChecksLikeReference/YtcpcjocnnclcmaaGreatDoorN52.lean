import Derived.Test.YtcpcjocnnclcmaaGreatDoorN11
import Derived.Test.YtcpcjocnnclcmaaGreatDoorN41
set_option linter.all false
namespace AM.V
def aF2:au b8 bX cY (aG L5) 100000 245 e42 [true]=true:=by kernel_rfl
def aF3:au b8 bX cY (aG L5) 100000 245 e88 [true]=true:=by kernel_rfl
def r82:au b8 bX cY (aG L1) 100000 77 e82 []=true:=by kernel_rfl
def r70:au b8 bX cY (aG L4) 100000 263 e70 []=true:=by kernel_rfl
def r47:au b8 bX cY (aG L5) 100000 261 e47 []=true:=by kernel_rfl
def r57:au b8 bX cY (aG L0) 100000 136 e57 []=true:=by kernel_rfl
def aF4:au b8 bX cY (aG L4) 100000 155 an8 []=true:=by kernel_rfl
def aF5:au b8 bX cY (aG L6) 100000 158 ao4 []=true:=by kernel_rfl
def r95:au b8 bX cY (aG L7) 100000 81 e95 []=true:=by kernel_rfl
def r5:au b8 bX cY (aG L0) 100000 197 e5 []=true:=by kernel_rfl
def r7:au b8 bX cY (aG L1) 100000 118 e7 []=true:=by kernel_rfl
def r13:au b8 bX cY (aG L1) 100000 117 e13 []=true:=by kernel_rfl
end AM.V
