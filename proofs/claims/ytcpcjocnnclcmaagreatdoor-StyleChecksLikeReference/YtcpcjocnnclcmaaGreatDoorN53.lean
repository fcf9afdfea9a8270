import Derived.Test.YtcpcjocnnclcmaaGreatDoorN11
import Derived.Test.YtcpcjocnnclcmaaGreatDoorN41
set_option linter.all false
namespace AM.V
def aF6:au b8 bX cY (aG L5) 100000 245 e64 [true]=true:=by kernel_rfl
def ap6:au b8 bX cY (aG L5) 100000 245 Yb [true]=true:=by kernel_rfl
def r35:au b8 bX cY (aG L2) 100000 516 e35 []=true:=by kernel_rfl
def aF7:au b8 bX cY (aG L2) 100000 516 al1 []=true:=by kernel_rfl
def r51:au b8 bX cY (aG L4) 100000 486 e51 []=true:=by kernel_rfl
def aF8:au b8 bX cY (aG L2) 100000 154 an7 []=true:=by kernel_rfl
def r45:au b8 bX cY (aG L4) 100000 155 e45 []=true:=by kernel_rfl
def r59:au b8 bX cY (aG L2) 100000 31 e59 []=true:=by kernel_rfl
def r8:au b8 bX cY (aG L0) 100000 197 e8 []=true:=by kernel_rfl
def aF9:au b8 bX cY (aG L0) 100000 161 al8 []=true:=by kernel_rfl
def r11:au b8 bX cY (aG L2) 100000 101 e11 []=true:=by kernel_rfl
def r1:au b8 bX cY (aG L1) 100000 9 e1 []=true:=by kernel_rfl
def aG0:au b8 bX cY (aG L0) 100000 516 al2 []=true:=by kernel_rfl
end AM.V
