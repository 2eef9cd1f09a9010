import Derived.Test.YtccdjchaaeligaaDoorXFnExactReverseEntry1
import Derived.Test.YtccdjchaaeligaaDoorXFnExactReverseEntry0
namespace Go.Proofs.YtccdjchaaeligaaDoor.XFnExactReverseEntry
open Go.Proofs.YtccdjchaaeligaaDoor.Short Go.RowKit Go.Proofs.YtccdjchaaeligaaDoorW.PrintWords Go.Proofs.YtccdjchaaeligaaDoorW.PrintLast Go.Proofs.YtccdjchaaeligaaDoorW.PrintMore
attribute [local go_sem] max2_int min2_int max_two min_two max_three min_three max_four min_four
set_option linter.unusedVariables false
set_option linter.unusedSimpArgs false
def impl_decimal.f (a0 : Int) : Option (ByteArray) := (strconv_Itoa.f a0).bind fun t310 => (some t310)
set_option maxHeartbeats 8000000 in
set_option maxRecDepth 100000 in
theorem impl_decimal.calls (a0 : Int) (r : ByteArray) (w : World) (hV : TInv w) (h : impl_decimal.f a0 = some r) :
 Calls Tryd.prog 91 #[.int .i64 a0] w fun e w' => e = .returned (.string r) ∧ Below w.heap.size w w' := by
 have HV := Aside0.mk hV
 clear hV
 have HB := Aside0.mk (Below.refl w.heap.size w)
 have H := h
 clear h
 unfold impl_decimal.f at H
 obtain ⟨t310, A2, H⟩ := bdY H
 obtain rfl := Option.some.inj H
 go_enter Tryd.func91, Tryd.ntmps91
 go_wp2_with (first | (refine gc 4 Tryd.func120 #[.int .i64 a0] ?_; (with_reducible refine (strconv_Itoa.calls a0 t310 _ ?side1 A2.out).mono ?_); (case side1 => first | (with_reducible exact HV.out) | exact TInv.below HV.out ZZ605003); rintro e w3 ⟨rfl, hb⟩; refine ⟨_, rfl, ?_⟩; replace HB := hB hb; (try clear hb); (try clear hb2); (try clear hk); (try clear hi)))
 go_ret
 exact ⟨ZZab01d2, ZZ605003⟩
end Go.Proofs.YtccdjchaaeligaaDoor.XFnExactReverseEntry
