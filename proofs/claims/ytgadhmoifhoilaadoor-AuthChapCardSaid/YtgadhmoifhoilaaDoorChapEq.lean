/-
  chap.Right, umpireref17.Right by hand: is it the digest?
-/
import Derived.Test.YtgadhmoifhoilaaDoorChapAns
import Derived.Laws.StructEq
import Derived.Laws.Cover3
namespace Go.Proofs.YtgadhmoifhoilaaDoor.Chap
open Go.RowKit Go.Lib Go.Proofs.YtgadhmoifhoilaaDoorW.PrintWords Go.Proofs.YtgadhmoifhoilaaDoorW.PrintLast Go.Proofs.YtgadhmoifhoilaaDoorW.PrintMore Go.Proofs.YtgadhmoifhoilaaDoor.Kit Go.Proofs.YtgadhmoifhoilaaDoor.Md5
set_option linter.unusedVariables false
set_option linter.unusedSimpArgs false
def rightF (id : Int) (s : ByteArray) (l a : List Int) : Bool := decide (a = digest (ansOf id s l))
set_option maxRecDepth 100000 in
set_option maxHeartbeats 4000000 in
theorem eq16g (x0 x1 x2 x3 x4 x5 x6 x7 x8 x9 x10 x11 x12 x13 x14 x15 y0 y1 y2 y3 y4 y5 y6 y7 y8 y9 y10 y11 y12 y13 y14 y15 : Int) (w : World) : (binOp .eql 24 (.agg #[.int .u8 x0, .int .u8 x1, .int .u8 x2, .int .u8 x3, .int .u8 x4, .int .u8 x5, .int .u8 x6, .int .u8 x7, .int .u8 x8, .int .u8 x9, .int .u8 x10, .int .u8 x11, .int .u8 x12, .int .u8 x13, .int .u8 x14, .int .u8 x15]) (.agg #[.int .u8 y0, .int .u8 y1, .int .u8 y2, .int .u8 y3, .int .u8 y4, .int .u8 y5, .int .u8 y6, .int .u8 y7, .int .u8 y8, .int .u8 y9, .int .u8 y10, .int .u8 y11, .int .u8 y12, .int .u8 y13, .int .u8 y14, .int .u8 y15])).run Tryd.prog w = .ok (.bool (decide ([x0, x1, x2, x3, x4, x5, x6, x7, x8, x9, x10, x11, x12, x13, x14, x15] = [y0, y1, y2, y3, y4, y5, y6, y7, y8, y9, y10, y11, y12, y13, y14, y15]))) w := by
 rw [run_eql_struct]
 have u3 := Tryd.underlying5
 have z3 := Tryd.sizeOf5
 rw [show (10000 : Nat) = 9999 + 1 from rfl, Op.equalIn]
 simp only [Sem.run_bind, run_underlying Tryd.underlying24, Result.andThen_ok]
 simp only [Std.Legacy.Range.forIn_eq_forIn_range', Std.Legacy.Range.size, Nat.sub_zero, Nat.add_sub_cancel, Nat.div_one, List.range'_succ, List.range'_zero, List.forIn_cons, List.forIn_nil]
 generalize hB : decide ([x0, x1, x2, x3, x4, x5, x6, x7, x8, x9, x10, x11, x12, x13, x14, x15] = [y0, y1, y2, y3, y4, y5, y6, y7, y8, y9, y10, y11, y12, y13, y14, y15]) = B
 by_cases h0 : x0 = y0
 case neg => obtain rfl : B = false := (by rw [← hB]; simp [h0]); clear hB; go_simp; done
 subst h0
 by_cases h1 : x1 = y1
 case neg => obtain rfl : B = false := (by rw [← hB]; simp [h1]); clear hB; go_simp; done
 subst h1
 by_cases h2 : x2 = y2
 case neg => obtain rfl : B = false := (by rw [← hB]; simp [h2]); clear hB; go_simp; done
 subst h2
 by_cases h3 : x3 = y3
 case neg => obtain rfl : B = false := (by rw [← hB]; simp [h3]); clear hB; go_simp; done
 subst h3
 by_cases h4 : x4 = y4
 case neg => obtain rfl : B = false := (by rw [← hB]; simp [h4]); clear hB; go_simp; done
 subst h4
 by_cases h5 : x5 = y5
 case neg => obtain rfl : B = false := (by rw [← hB]; simp [h5]); clear hB; go_simp; done
 subst h5
 by_cases h6 : x6 = y6
 case neg => obtain rfl : B = false := (by rw [← hB]; simp [h6]); clear hB; go_simp; done
 subst h6
 by_cases h7 : x7 = y7
 case neg => obtain rfl : B = false := (by rw [← hB]; simp [h7]); clear hB; go_simp; done
 subst h7
 by_cases h8 : x8 = y8
 case neg => obtain rfl : B = false := (by rw [← hB]; simp [h8]); clear hB; go_simp; done
 subst h8
 by_cases h9 : x9 = y9
 case neg => obtain rfl : B = false := (by rw [← hB]; simp [h9]); clear hB; go_simp; done
 subst h9
 by_cases h10 : x10 = y10
 case neg => obtain rfl : B = false := (by rw [← hB]; simp [h10]); clear hB; go_simp; done
 subst h10
 by_cases h11 : x11 = y11
 case neg => obtain rfl : B = false := (by rw [← hB]; simp [h11]); clear hB; go_simp; done
 subst h11
 by_cases h12 : x12 = y12
 case neg => obtain rfl : B = false := (by rw [← hB]; simp [h12]); clear hB; go_simp; done
 subst h12
 by_cases h13 : x13 = y13
 case neg => obtain rfl : B = false := (by rw [← hB]; simp [h13]); clear hB; go_simp; done
 subst h13
 by_cases h14 : x14 = y14
 case neg => obtain rfl : B = false := (by rw [← hB]; simp [h14]); clear hB; go_simp; done
 subst h14
 by_cases h15 : x15 = y15
 case neg => obtain rfl : B = false := (by rw [← hB]; simp [h15]); clear hB; go_simp; done
 subst h15
 obtain rfl : B = true := (by rw [← hB]; simp)
 clear hB
 go_simp
theorem row16 (l : List Int) (h : l.length = 16) : ∃ x0 x1 x2 x3 x4 x5 x6 x7 x8 x9 x10 x11 x12 x13 x14 x15 : Int, l = [x0, x1, x2, x3, x4, x5, x6, x7, x8, x9, x10, x11, x12, x13, x14, x15] := by
 match l, h with
 | [x0, x1, x2, x3, x4, x5, x6, x7, x8, x9, x10, x11, x12, x13, x14, x15], _ => exact ⟨x0, x1, x2, x3, x4, x5, x6, x7, x8, x9, x10, x11, x12, x13, x14, x15, rfl⟩
end Go.Proofs.YtgadhmoifhoilaaDoor.Chap
