/-
  Proved here: a part of the tie: facts of the row, read off the program by the kernel. No condition.
-/
import Derived.Test.YtfodoaiodagncaaGreatDoorRows
import Derived.LaidByTextLater
import Derived.SevenTiedAt
import Derived.KernelRfl
namespace Go.Proofs.YtfodoaiodagncaaGreatDoor
open Go
set_option maxRecDepth 100000
def N9:List (String×DataW Unit):=[("skirmish/terrain.passable",Rows.laid_skirmish_terrain_passable),("strings.asciiSpace",Rows.laid_strings_asciiSpace),("unicode.White_Space",Rows.laid_unicode_White_Space),("internal/strconv.uint64pow10",Rows.laid_internal_strconv_uint64pow10),("math/bits.deBruijn32tab",Rows.laid_math_bits_deBruijn32tab),("math/bits.deBruijn64tab",Rows.laid_math_bits_deBruijn64tab),("unicode/utf8.acceptRanges",Rows.laid_unicode_utf8_acceptRanges),("strconv.ErrSyntax",Rows.laid_strconv_ErrSyntax),("strconv.ErrRange",Rows.laid_strconv_ErrRange)]
theorem adM:Tryz.prog.worded (varsWordLater true)=true:=by kernel_rfl
theorem aaX:Tryz.prog.worded (varsWordLater !true)=false:=by kernel_rfl
theorem adN:Tryz.prog.worded rootWordLater=true:=by kernel_rfl
theorem adO:N9.map (fun x=>Tryz.prog.kindOfLater x.1)=([.data, .data, .listed, .data, .data, .data, .data, .sentinel, .sentinel]:List LaidKind).map some:=by kernel_rfl
theorem adP:(Tryz.prog.funcNamed "gosem.cut.vars").isSome=true:=by kernel_rfl
theorem pO:Tryz.pinned.checked.prog.pinnedFits "unicode/utf8.first" =true:=by kernel_rfl
theorem Rs:Tryz.pinned.checked.prog.headLifts.contains "ownunsafe" =false:=by kernel_rfl
theorem agd:Tryz.pinned.checked.prog.listedFits [("skirmish/terrain.passable",Rows.laid_skirmish_terrain_passable),("strings.asciiSpace",Rows.laid_strings_asciiSpace),("unicode.White_Space",Rows.laid_unicode_White_Space),("internal/strconv.uint64pow10",Rows.laid_internal_strconv_uint64pow10),("math/bits.deBruijn32tab",Rows.laid_math_bits_deBruijn32tab),("math/bits.deBruijn64tab",Rows.laid_math_bits_deBruijn64tab),("unicode/utf8.first",Rows.laid_unicode_utf8_first),("unicode/utf8.acceptRanges",Rows.laid_unicode_utf8_acceptRanges),("strconv.ErrSyntax",Rows.laid_strconv_ErrSyntax),("strconv.ErrRange",Rows.laid_strconv_ErrRange)]=true:=by
 unfold Program.listedFits;rw [Rs]
 kernel_rfl
end Go.Proofs.YtfodoaiodagncaaGreatDoor
