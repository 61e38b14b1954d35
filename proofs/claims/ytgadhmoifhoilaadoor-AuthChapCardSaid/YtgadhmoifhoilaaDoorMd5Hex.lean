/-
  A digest's digits: what the reference's Bytes answers of whatever bytes.
-/
import Derived.Test.YtgadhmoifhoilaaDoorMd5A
namespace Go.Proofs.YtgadhmoifhoilaaDoor.Md5
open Go.RowKit Go.Proofs.YtgadhmoifhoilaaDoorW.PrintWords Go.Proofs.YtgadhmoifhoilaaDoorW.PrintLast
def pc (a : Int) : ByteArray := (⟨#[48, 49, 50, 51, 52, 53, 54, 55, 56, 57, 97, 98, 99, 100, 101, 102]⟩ : ByteArray).extract a.toNat (a + 1).toNat
end Go.Proofs.YtgadhmoifhoilaaDoor.Md5
