import Derived.Test.YtcpcjocnnclcmaaGreatDoorN11
import Derived.Test.YtcpcjocnnclcmaaGreatDoorN41
set_option linter.all false
namespace AM.V
def aB7:au b8 bX cY (aG L5) 100000 245 e42 [false]=true:=by kernel_rfl
def r54:au b8 bX cY (aG L8) 100000 32 e54 []=true:=by kernel_rfl
def r91:au b8 bX cY (aG L4) 100000 263 e91 []=true:=by kernel_rfl
def r68:au b8 bX cY (aG L5) 100000 261 e68 []=true:=by kernel_rfl
def aB8:au b8 bX cY (aG L1) 100000 77 ak8 []=true:=by kernel_rfl
def r29:au b8 bX cY (aG L2) 100000 98 e29 []=true:=by kernel_rfl
def r52:au b8 bX cY (aG L6) 100000 158 e52 []=true:=by kernel_rfl
def r6:au b8 bX cY (aG L0) 100000 198 e6 []=true:=by kernel_rfl
def r97:au b8 bX cY (aG L9) 100000 11 e97 []=true:=by kernel_rfl
def r76:au b8 bX cY (aG L9) 100000 11 e76 []=true:=by kernel_rfl
def r46:au b8 bX cY (aG L3) 100000 51 e46 []=true:=by kernel_rfl
end AM.V
