import Derived.Test.YtcpcjocnnclcmaaGreatDoorN11
import Derived.Test.YtcpcjocnnclcmaaGreatDoorN41
set_option linter.all false
namespace AM.V
def ao8:au b8 bX cY (aG L5) 100000 245 Yb [false]=true:=by kernel_rfl
def aC9:au b8 bX cY (aG L8) 100000 32 am4 []=true:=by kernel_rfl
def r50:au b8 bX cY (aG L4) 100000 485 e50 []=true:=by kernel_rfl
def aD0:au b8 bX cY (aG L4) 100000 486 am1 []=true:=by kernel_rfl
def r17:au b8 bX cY (aG L4) 100000 28 e17 []=true:=by kernel_rfl
def r20:au b8 bX cY (aG L0) 100000 198 e20 []=true:=by kernel_rfl
def r21:au b8 bX cY (aG L0) 100000 198 e21 []=true:=by kernel_rfl
def aD1:au b8 bX cY (aG L7) 100000 81 ao5 []=true:=by kernel_rfl
def r37:au b8 bX cY (aG L4) 100000 450 e37 []=true:=by kernel_rfl
def r41:au b8 bX cY (aG L2) 100000 105 e41 []=true:=by kernel_rfl
def r40:au b8 bX cY (aG L0) 100000 109 e40 []=true:=by kernel_rfl
end AM.V
