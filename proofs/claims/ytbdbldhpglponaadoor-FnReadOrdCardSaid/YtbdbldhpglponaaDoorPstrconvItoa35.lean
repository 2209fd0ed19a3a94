/- One Go function comes to what its Lean function tells. -/
import Derived.Test.YtbdbldhpglponaaDoorP0
import Derived.Test.YtbdbldhpglponaaDoorShelf
namespace Go.Proofs.YtbdbldhpglponaaDoor.P
open Go.RowKit YtbdbldhpglponaaDoorW.PrintWords YtbdbldhpglponaaDoorW.PrintLast YtbdbldhpglponaaDoorW.PrintMore
set_option linter.unusedVariables false
set_option linter.unusedSimpArgs false
-- NOT PRINTED: function 84 (strconv_ParseUint)
-- NOT PRINTED: function 74 (strconv_ParseInt)
-- NOT PRINTED: function 65 (strconv_Atoi_65)
-- NOT PRINTED: function 85 (stringslite_Clone)
-- NOT PRINTED: function 75 (strconv_syntaxError)
-- NOT PRINTED: function 76 (strconv_rangeError)
/-! ### strconv_Itoa_35: function 35 (by hand) -/
def strconv_Itoa_35.f (a0:Int):Option ByteArray:=if -9223372036854775808≤a0 then(if a0≤9223372036854775807 then some ⟨(Lib.itoa a0).toArray⟩ else none) else none
theorem strconv_Itoa_35.calls (j:Int)(r:ByteArray)(w:World)(h:strconv_Itoa_35.f j=some r)(z:TA w:=by first|exact HT0.out|exact TA.up HT0.out (by repeat (first|(with_reducible first|exact HB.out|apply below_alloc|apply pw_below_drewN|apply below_drew1)|exact HB.out|refine below_set ?_ (Sd.out (by assumption))))|exact TB.ta HT0.out|exact TA.up (TB.ta HT0.out) (by repeat (first|(with_reducible first|exact HB.out|apply below_alloc|apply pw_below_drewN|apply below_drew1)|exact HB.out|refine below_set ?_ (Sd.out (by assumption))))) :
  Calls Tryd.prog 35 #[.int .i64 j] w fun e w'=>e=.returned (.string r)∧Below w.heap.size w w':=by
 unfold strconv_Itoa_35.f at h
 by_cases m:-9223372036854775808≤j
 ·rw[if_pos m] at h
  by_cases o:j≤9223372036854775807
  ·rw[if_pos o] at h
   obtain rfl:=Option.some.inj h;exact itoa_calls j m o w z
  ·rw[if_neg o] at h;cases h
 ·rw[if_neg m] at h;cases h
-- NOT PRINTED: function 86 (errors_New)
-- NOT PRINTED: function 77 (strconv_baseError)
-- NOT PRINTED: function 78 (strconv_bitSizeError)
-- NOT PRINTED: function 66 (strconv_toError)
-- NOT PRINTED: function 59 (strconv_Atoi_59)
end Go.Proofs.YtbdbldhpglponaaDoor.P