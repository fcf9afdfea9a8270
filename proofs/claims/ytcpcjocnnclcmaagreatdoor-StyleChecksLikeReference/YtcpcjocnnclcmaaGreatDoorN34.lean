import Derived.LaidByTextLater
import Derived.SevenTiedAt
import Derived.Test.YtcpcjocnnclcmaaGreatDoorRows
import Derived.Test.YtcpcjocnnclcmaaGreatDoorN0
set_option linter.all false
namespace AM
open Go Go.Proofs Go.Proofs.YtcpcjocnnclcmaaGreatDoor
def Le:List (String×DataW Unit):=[("math/bits.deBruijn64tab",Rows.laid_math_bits_deBruijn64tab),("unicode/utf8.acceptRanges",Rows.laid_unicode_utf8_acceptRanges),("internal/strconv.uint64pow10",Rows.laid_internal_strconv_uint64pow10),("math/bits.deBruijn32tab",Rows.laid_math_bits_deBruijn32tab)]
def Yd:Tryz.pinned.checked.prog.pinnedFits "unicode/utf8.first" =true:=by kernel_rfl
def Ye:Tryz.pinned.checked.prog.headLifts.contains "ownunsafe" =false:=by kernel_rfl
def ti1:Tryz.prog.worded (varsWordLater true)=true:=by kernel_rfl
def ti2:Tryz.prog.worded (varsWordLater !true)=false:=by kernel_rfl
def ti3:Tryz.prog.worded rootWordLater=true:=by kernel_rfl
def ti4:Le.map (fun x=>Tryz.prog.kindOfLater x.1)=([.data,.data,.data,.data]:List LaidKind).map some:=by kernel_rfl
def ti5:(Tryz.prog.funcNamed "gosem.cut.vars").isSome=true:=by kernel_rfl
end AM
