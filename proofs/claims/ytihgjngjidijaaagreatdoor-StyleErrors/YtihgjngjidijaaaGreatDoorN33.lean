import Derived.LaidByTextLater
import Derived.SevenTiedAt
import Derived.Test.YtihgjngjidijaaaGreatDoorRows
import Derived.Test.YtihgjngjidijaaaGreatDoorN0
set_option linter.all false
namespace AM
open Go Go.Proofs Go.Proofs.YtihgjngjidijaaaGreatDoor
def zq:List (String×DataW Unit):=[("math/bits.deBruijn64tab",Rows.laid_math_bits_deBruijn64tab),("unicode/utf8.acceptRanges",Rows.laid_unicode_utf8_acceptRanges),("internal/strconv.uint64pow10",Rows.laid_internal_strconv_uint64pow10),("math/bits.deBruijn32tab",Rows.laid_math_bits_deBruijn32tab)]
def bm1:Tryz.pinned.checked.prog.pinnedFits "unicode/utf8.first" =true:=af
def bm2:Tryz.pinned.checked.prog.headLifts.contains "ownunsafe" =false:=af
def ti1:Tryz.prog.worded (varsWordLater true)=true:=af
def ti2:Tryz.prog.worded (varsWordLater !true)=false:=af
def ti3:Tryz.prog.worded rootWordLater=true:=af
def ti4:zq.map (λx=>Tryz.prog.kindOfLater x.1)=([.data,.data,.data,.data]:List LaidKind).map some:=af
def ti5:(Tryz.prog.funcNamed "gosem.cut.vars").isSome=true:=af
end AM
