import Derived.Test.YtcpcjocnnclcmaaGreatDoorN11
import Derived.Test.YtcpcjocnnclcmaaGreatDoorN41
set_option linter.all false
namespace AM.V
def r65:au b8 bX cY (aG L6) 100000 153 e65 []=true:=by kernel_rfl
def aD7:au b8 bX cY (aG L4) 100000 80 al0 []=true:=by kernel_rfl
def r56:au b8 bX cY (aG L5) 100000 30 e56 []=true:=by kernel_rfl
def r79:au b8 bX cY (aG L1) 100000 77 e79 []=true:=by kernel_rfl
def r85:au b8 bX cY (aG L2) 100000 516 e85 []=true:=by kernel_rfl
def aD8:au b8 bX cY (aG L4) 100000 485 ao2 []=true:=by kernel_rfl
def aD9:au b8 bX cY (aG L2) 100000 154 al5 []=true:=by kernel_rfl
def aE0:au b8 bX cY (aG L2) 100000 31 ak9 []=true:=by kernel_rfl
def r24:au b8 bX cY (aG L0) 100000 136 e24 []=true:=by kernel_rfl
def r34:au b8 bX cY (aG L3) 100000 20 e34 []=true:=by kernel_rfl
def r90:au b8 bX cY (aG L0) 100000 161 e90 []=true:=by kernel_rfl
def aE1:au b8 bX cY (aG L4) 100000 450 an5 []=true:=by kernel_rfl
def r31:au b8 bX cY (aG L4) 100000 60 e31 []=true:=by kernel_rfl
def r86:au b8 bX cY (aG L0) 100000 516 e86 []=true:=by kernel_rfl
end AM.V
