/-
 From the rows' condition on the listed variables (what the rows say they hold when the call begins) follows the condition on the table of powers of ten that the contracts ask. No other condition.
-/
import Derived.Test.YtaffkbemjbfajaaGreatDoorRows
import Derived.Test.YtaffkbemjbfajaaGreatDoorFmt
import Derived.Lib.LaidTab
import Derived.LaidMore
import Derived.Lay
import Derived.Stop.LaidErr
namespace Go.Proofs
open Go Go.RowKit
namespace YtaffkbemjbfajaaGreatDoor
/-- The list that every row of this seat bears. -/
def laidAll:List (String×DataW Unit):=[("math/bits.deBruijn32tab",Rows.laid_math_bits_deBruijn32tab),("math/bits.deBruijn64tab",Rows.laid_math_bits_deBruijn64tab),("internal/strconv.uint64pow10",Rows.laid_internal_strconv_uint64pow10),("unicode/utf8.acceptRanges",Rows.laid_unicode_utf8_acceptRanges),("strconv.ErrRange",Rows.laid_strconv_ErrRange),("strconv.ErrSyntax",Rows.laid_strconv_ErrSyntax),("unicode/utf8.first",Rows.laid_unicode_utf8_first)]
theorem pow_plain:Rows.laid_internal_strconv_uint64pow10=(Lib.tabData .u64 Lib.pow10Tab:DataW Unit):=by kernel_rfl
theorem gt_of_laid {W:World} (h:laidMetH Tryz.prog laidAll W):Tryz.Gt W:=by
 have hp:laidMet Tryz.prog laidAll W:=by rw [← MakeChecks.laidMetH_plain _ _ _ (by kernel_rfl)];exact h
 have h2:=laidMet.tail (laidMet.tail hp)
 rw [show ([("internal/strconv.uint64pow10",Rows.laid_internal_strconv_uint64pow10),("unicode/utf8.acceptRanges",Rows.laid_unicode_utf8_acceptRanges),("strconv.ErrRange",Rows.laid_strconv_ErrRange),("strconv.ErrSyntax",Rows.laid_strconv_ErrSyntax),("unicode/utf8.first",Rows.laid_unicode_utf8_first)]:List (String×DataW Unit))=("internal/strconv.uint64pow10",(Lib.tabData .u64 Lib.pow10Tab:DataW Unit)) :: [("unicode/utf8.acceptRanges",Rows.laid_unicode_utf8_acceptRanges),("strconv.ErrRange",Rows.laid_strconv_ErrRange),("strconv.ErrSyntax",Rows.laid_strconv_ErrSyntax),("unicode/utf8.first",Rows.laid_unicode_utf8_first)] from by rw [pow_plain]] at h2
 exact Lib.tabIs_of_head Tryz.pow10_global (by kernel_rfl:(Tryz.prog.globals[3]?).map (·.type)=some 216) Tryz.underlying216 Tryz.underlying95 (by kernel_rfl) (by kernel_rfl) h2
theorem star_err : "*" ++ "errors.errorString" = "*errors.errorString" := by decide
theorem row_err (u:TypeId) (h:Tryz.prog.typeName? 3 u=some "*errors.errorString"):u=212 :=
 typeName_ptr_named (nm := "errors.errorString") (by rw [star_err];kernel_rfl) (by kernel_rfl) (by decide) u (by rw [star_err];exact h)
theorem ge_of_laid {W:World} (h:laidMetH Tryz.prog laidAll W):Tryz.Ge W:=by
 have hp:laidMet Tryz.prog laidAll W:=by rw [← MakeChecks.laidMetH_plain _ _ _ (by kernel_rfl)];exact h
 have h2:=laidMet.tail (laidMet.tail (laidMet.tail (laidMet.tail hp)))
 obtain ⟨a,s,hv,_⟩:=laid_sentinel (ti:=132) (tp:=212) (te:=214) (ts:=9) h2 Tryz.err_global (by kernel_rfl) Tryz.underlying132 row_err Tryz.underlying212 Tryz.underlying214 rfl rfl Tryz.underlying9 (by kernel_rfl) (by kernel_rfl)
 exact ⟨_,_,hv⟩
theorem gl_of_laid {W:World} (h:laidMetH Tryz.prog laidAll W):Tryz.Gl W:=⟨gt_of_laid h,ge_of_laid h⟩
end YtaffkbemjbfajaaGreatDoor
end Go.Proofs
