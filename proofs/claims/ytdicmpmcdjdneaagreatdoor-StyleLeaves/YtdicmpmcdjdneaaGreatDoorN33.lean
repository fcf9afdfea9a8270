import Derived.LaidByTextLater
import Derived.SevenTiedAt
import Derived.Test.YtdicmpmcdjdneaaGreatDoorRows
import Derived.Test.YtdicmpmcdjdneaaGreatDoorN0
set_option linter.all false
namespace AM
open Go Go.Proofs Go.Proofs.YtdicmpmcdjdneaaGreatDoor
def zq:List (String×DataW Unit):=[("math/bits.deBruijn64tab",Rows.laid_math_bits_deBruijn64tab),("unicode/utf8.acceptRanges",Rows.laid_unicode_utf8_acceptRanges),("internal/strconv.uint64pow10",Rows.laid_internal_strconv_uint64pow10),("math/bits.deBruijn32tab",Rows.laid_math_bits_deBruijn32tab)]
def bm1:Tryz.pinned.checked.prog.pinnedFits "unicode/utf8.first" =true:=lR
def bm2:Tryz.pinned.checked.prog.headLifts.contains "ownunsafe" =false:=lR
def ti1:Tryz.prog.worded (varsWordLater true)=true:=lR
def ti2:Tryz.prog.worded (varsWordLater !true)=false:=lR
def ti3:Tryz.prog.worded rootWordLater=true:=lR
def ti4:zq.map (λx=>Tryz.prog.kindOfLater x.1)=([.data,.data,.data,.data]:List LaidKind).map some:=lR
def ti5:(Tryz.prog.funcNamed "gosem.cut.vars").isSome=true:=lR
end AM
