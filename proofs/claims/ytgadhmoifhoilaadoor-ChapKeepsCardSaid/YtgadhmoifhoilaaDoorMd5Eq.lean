/-
  Two digests that are one are equal.
-/
import Derived.Test.YtgadhmoifhoilaaDoorMd5Pad
import Derived.Laws.StructEq
import Derived.Laws.Tables
import Derived.Laws.Cover2
import Derived.Deep.RegionWith
namespace Go.Proofs.YtgadhmoifhoilaaDoor.Md5
open Go.RowKit Go.Proofs.YtgadhmoifhoilaaDoorW.PrintWords Go.Proofs.YtgadhmoifhoilaaDoorW.PrintLast Go.Proofs.YtgadhmoifhoilaaDoorW.PrintMore Go.Proofs.YtgadhmoifhoilaaDoor.Kit

theorem eq16 (a0 a1 a2 a3 a4 a5 a6 a7 a8 a9 a10 a11 a12 a13 a14 a15 : Int) (O : Array Value) (hO : O = #[.int .u8 a0, .int .u8 a1, .int .u8 a2, .int .u8 a3, .int .u8 a4, .int .u8 a5, .int .u8 a6, .int .u8 a7, .int .u8 a8, .int .u8 a9, .int .u8 a10, .int .u8 a11, .int .u8 a12, .int .u8 a13, .int .u8 a14, .int .u8 a15]) (w : World) :
    (Op.equalIn 10000 24 (.agg O) (.agg O)).run Tryd.prog w = .ok true w := by
  subst hO
  have u3 := Tryd.underlying5
  have z3 := Tryd.sizeOf5
  rw [show (10000 : Nat) = 9999 + 1 from rfl, Op.equalIn]
  simp only [Sem.run_bind, run_underlying Tryd.underlying24, Result.andThen_ok]
  simp only [Std.Legacy.Range.forIn_eq_forIn_range', Std.Legacy.Range.size, Nat.sub_zero, Nat.add_sub_cancel, Nat.div_one, List.range'_succ, List.range'_zero, List.forIn_cons, List.forIn_nil]
  go_simp
theorem eq_out (s : St) (w : World) : (binOp .eql 24 (.agg s.out) (.agg s.out)).run Tryd.prog w = .ok (.bool true) w := by
  rw [run_eql_struct, eq16 _ _ _ _ _ _ _ _ _ _ _ _ _ _ _ _ s.out rfl w]
  rfl

end Go.Proofs.YtgadhmoifhoilaaDoor.Md5
