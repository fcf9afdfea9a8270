import Derived.Test.YtcpcjocnnclcmaaGreatDoorN11
import Derived.Test.YtcpcjocnnclcmaaGreatDoorN41
set_option linter.all false
namespace AM.V
def aB9:au b8 bX cY (aG L5) 100000 245 e64 [false]=true:=by kernel_rfl
def r75:au b8 bX cY (aG L8) 100000 32 e75 []=true:=by kernel_rfl
def aC0:au b8 bX cY (aG L4) 100000 263 al9 []=true:=by kernel_rfl
def aC1:au b8 bX cY (aG L5) 100000 261 al7 []=true:=by kernel_rfl
def r58:au b8 bX cY (aG L1) 100000 77 e58 []=true:=by kernel_rfl
def aC2:au b8 bX cY (aG L4) 100000 155 al6 []=true:=by kernel_rfl
def aC3:au b8 bX cY (aG L6) 100000 158 am2 []=true:=by kernel_rfl
def r74:au b8 bX cY (aG L7) 100000 81 e74 []=true:=by kernel_rfl
def rS:au b8 bX cY (aG L10) 100000 4 eS []=true:=by kernel_rfl
def aC4:au b8 bX cY (aG L9) 100000 11 ao7 []=true:=by kernel_rfl
def r2:au b8 bX cY (aG L0) 100000 10 e2 []=true:=by kernel_rfl
end AM.V
