import Derived.Test.YtcpcjocnnclcmaaGreatDoorN11
import Derived.Test.YtcpcjocnnclcmaaGreatDoorN41
set_option linter.all false
namespace AM.V
def aE5:au b8 bX cY (aG L6) 100000 153 al4 []=true:=by kernel_rfl
def r84:au b8 bX cY (aG L4) 100000 80 e84 []=true:=by kernel_rfl
def r77:au b8 bX cY (aG L5) 100000 30 e77 []=true:=by kernel_rfl
def r27:au b8 bX cY (aG L4) 100000 80 e27 []=true:=by kernel_rfl
def r92:au b8 bX cY (aG L4) 100000 485 e92 []=true:=by kernel_rfl
def r44:au b8 bX cY (aG L2) 100000 154 e44 []=true:=by kernel_rfl
def r10:au b8 bX cY (aG L2) 100000 98 e10 []=true:=by kernel_rfl
def r80:au b8 bX cY (aG L2) 100000 31 e80 []=true:=by kernel_rfl
def r15:au b8 bX cY (aG L3) 100000 20 e15 []=true:=by kernel_rfl
def r9:au b8 bX cY (aG L0) 100000 197 e9 []=true:=by kernel_rfl
def r63:au b8 bX cY (aG L4) 100000 450 e63 []=true:=by kernel_rfl
def r39:au b8 bX cY (aG L2) 100000 533 e39 []=true:=by kernel_rfl
def r3:au b8 bX cY (aG L0) 100000 109 e3 []=true:=by kernel_rfl
end AM.V
