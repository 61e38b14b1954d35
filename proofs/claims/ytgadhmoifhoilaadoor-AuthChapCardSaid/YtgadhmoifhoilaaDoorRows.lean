/-
  NARROWER THAN 'FOR EVERY INPUT', by the rows' own cells (each row's printed sentence says how): Md5Sums: laid · Md5Pads: laid · ChapPuts: laid · ChapReads: laid · ChapAnswers: laid · ChapRight: laid · ChapBack: laid · ChapKeeps: laid · AuthAnswers: laid · AuthChap: laid.
  DERIVED. THE GIVEN ROWS OF THIS SEAT. 10 by the template 'for every input the law returns true; each argument reads behind the call as it read before'; 0 by the template 'total and deterministic' (their statements: YtgadhmoifhoilaaDoorTotals.lean).
  GIVEN WITH THE SEED: the statements are not yours to turn. If you find one false, say at which input.
  Laid BY PROGRAM, IN A SANDBOX (cutbox-rows.mjs): the forced cells as the released guide's own fill.sh prints them over the translation f78635dee5d79bcf… (all of the seat's roots in one cut). By AI agents, Wed Nov 11 2026. No macro, syntax, notation, axiom, sorry.
-/
import Derived.Test.YtgadhmoifhoilaaDoorChecked
import GoSem.Claim
import GoSem.ClaimJoined
import GoSem.ClaimMapViews
import Derived.JoinedTies
import Derived.KernelRfl
namespace Go.Proofs.YtgadhmoifhoilaaDoor
/- THE CELL 'sum', in the pinned program and in every row, IS THE sha256 OF THE DUMP (.gsa) THAT YtgadhmoifhoilaaDoorProg.lean LOADS. Nothing in Lean hashes anything: it is a label: what it is worth is what the hold of that sum in a sandbox is worth. -/
noncomputable def Tryd.pinned : Pinned := { name := "ytgadhmoifhoilaadoor", sum := "f78635dee5d79bcfe4b6cd73da80f2bcf4ec60e825b335d051adb9d71053d78a", checked := Tryd.checked }
namespace Rows
def none {H : Type} : Left H := { results := [], args := [] }

/- WHAT THE LISTED PACKAGE-LEVEL VARIABLES READ AS WHEN THE CALL BEGINS. Each datum BY PROGRAM (the guide's laid-datum.mjs) off the statement by which the dump's own 'gosem.cut.vars' lays the variable. In a bare row this is a premise. The card (YtgadhmoifhoilaaDoorCards.lean) ties it to the program's text. -/
def laid_math_sin {H : Type} : DataW H := .agg [.lit (.float .f64 4460209587652500685), .lit (.float .f64 13716528389658582877), .lit (.float .f64 4523617212962785441), .lit (.float .f64 13774824197404483331), .lit (.float .f64 4575957461383575504), .lit (.float .f64 13818544856648471880)]
def laid_math_cos {H : Type} : DataW H := .agg [.lit (.float .f64 13666448263388469915), .lit (.float .f64 4477121864728985349), .lit (.float .f64 13732177093698800582), .lit (.float .f64 4537941361668146421), .lit (.float .f64 13787419979223748497), .lit (.float .f64 4586165620538955083)]
def laid_math_mPi4 {H : Type} : DataW H := .agg [.lit (.int .u64 1), .lit (.int .u64 5040379952546458195), .lit (.int .u64 17892431488136887169), .lit (.int .u64 13169980181085364355), .lit (.int .u64 18204331823439776451), .lit (.int .u64 7946843935494350272), .lit (.int .u64 905889640498799673), .lit (.int .u64 18175356263134875261), .lit (.int .u64 15061281708168349961), .lit (.int .u64 15220161563773041794), .lit (.int .u64 8296664548579374057), .lit (.int .u64 4109744767560208502), .lit (.int .u64 4607516669194743839), .lit (.int .u64 16023283104648321598), .lit (.int .u64 15739233654134936430), .lit (.int .u64 11424645774684705882), .lit (.int .u64 16883842788696515318), .lit (.int .u64 8795094592981902804), .lit (.int .u64 15561835991111744016), .lit (.int .u64 12395701187267450711)]

/-- 'umpirelaw03.Md5Sums': WHATEVER THE INPUT: true; the input reads as it did. -/
def md5SumsSpec : ChangeSpec := { name := "md5Sums", fn := fun _ => fun
  | [d] => { results := [.lit (.bool true)], args := [d] }
  | _ => none }
def md5SumsRow : OpenClaim := { program := "ytgadhmoifhoilaadoor", sum := "f78635dee5d79bcfe4b6cd73da80f2bcf4ec60e825b335d051adb9d71053d78a", func := "umpire/umpirelaw03.Md5Sums", spec := "md5Sums", inPlace := ["math.Float64bits", "math.Float64frombits", "math/bits.Add64"], unfollowed := true, recurses := true, named := ["math._cos", "math._sin", "math.mPi4"], apart := false, laid := [("math._sin", laid_math_sin), ("math._cos", laid_math_cos), ("math.mPi4", laid_math_mPi4)] }
def Md5SumsSaid : Prop := md5SumsRow.holds Tryd.pinned (OpenSpec.ofChange md5SumsSpec)

/-- ITS FALSE NEIGHBOUR: 'it returns false'. Refute it at one input. -/
def md5SumsWrong : ChangeSpec := { name := "md5Sums", fn := fun _ => fun
  | [d] => { results := [.lit (.bool false)], args := [d] }
  | _ => none }
def Md5SumsWrongFalsely : Prop := md5SumsRow.holds Tryd.pinned (OpenSpec.ofChange md5SumsWrong)

/-- 'umpirelaw03.Md5Pads': WHATEVER THE INPUT: true; the input reads as it did. -/
def md5PadsSpec : ChangeSpec := { name := "md5Pads", fn := fun _ => fun
  | [d1, d2] => { results := [.lit (.bool true)], args := [d1, d2] }
  | _ => none }
def md5PadsRow : OpenClaim := { program := "ytgadhmoifhoilaadoor", sum := "f78635dee5d79bcfe4b6cd73da80f2bcf4ec60e825b335d051adb9d71053d78a", func := "umpire/umpirelaw03.Md5Pads", spec := "md5Pads", inPlace := ["math.Float64bits", "math.Float64frombits", "math/bits.Add64"], unfollowed := true, recurses := true, named := ["math._cos", "math._sin", "math.mPi4"], apart := false, laid := [("math._sin", laid_math_sin), ("math._cos", laid_math_cos), ("math.mPi4", laid_math_mPi4)] }
def Md5PadsSaid : Prop := md5PadsRow.holds Tryd.pinned (OpenSpec.ofChange md5PadsSpec)

/-- ITS FALSE NEIGHBOUR: 'it returns false'. Refute it at one input. -/
def md5PadsWrong : ChangeSpec := { name := "md5Pads", fn := fun _ => fun
  | [d1, d2] => { results := [.lit (.bool false)], args := [d1, d2] }
  | _ => none }
def Md5PadsWrongFalsely : Prop := md5PadsRow.holds Tryd.pinned (OpenSpec.ofChange md5PadsWrong)

/-- 'umpirelaw17.ChapPuts': WHATEVER THE INPUT: true; the input reads as it did. -/
def chapPutsSpec : ChangeSpec := { name := "chapPuts", fn := fun _ => fun
  | [d] => { results := [.lit (.bool true)], args := [d] }
  | _ => none }
def chapPutsRow : OpenClaim := { program := "ytgadhmoifhoilaadoor", sum := "f78635dee5d79bcfe4b6cd73da80f2bcf4ec60e825b335d051adb9d71053d78a", func := "umpire/umpirelaw17.ChapPuts", spec := "chapPuts", inPlace := ["math.Float64bits", "math.Float64frombits", "math/bits.Add64"], unfollowed := true, recurses := true, named := ["math._cos", "math._sin", "math.mPi4"], apart := false, laid := [("math._sin", laid_math_sin), ("math._cos", laid_math_cos), ("math.mPi4", laid_math_mPi4)] }
def ChapPutsSaid : Prop := chapPutsRow.holds Tryd.pinned (OpenSpec.ofChange chapPutsSpec)

/-- ITS FALSE NEIGHBOUR: 'it returns false'. Refute it at one input. -/
def chapPutsWrong : ChangeSpec := { name := "chapPuts", fn := fun _ => fun
  | [d] => { results := [.lit (.bool false)], args := [d] }
  | _ => none }
def ChapPutsWrongFalsely : Prop := chapPutsRow.holds Tryd.pinned (OpenSpec.ofChange chapPutsWrong)

/-- 'umpirelaw17.ChapReads': WHATEVER THE INPUT: true; the input reads as it did. -/
def chapReadsSpec : ChangeSpec := { name := "chapReads", fn := fun _ => fun
  | [d] => { results := [.lit (.bool true)], args := [d] }
  | _ => none }
def chapReadsRow : OpenClaim := { program := "ytgadhmoifhoilaadoor", sum := "f78635dee5d79bcfe4b6cd73da80f2bcf4ec60e825b335d051adb9d71053d78a", func := "umpire/umpirelaw17.ChapReads", spec := "chapReads", inPlace := ["math.Float64bits", "math.Float64frombits", "math/bits.Add64"], unfollowed := true, recurses := true, named := ["math._cos", "math._sin", "math.mPi4"], apart := false, laid := [("math._sin", laid_math_sin), ("math._cos", laid_math_cos), ("math.mPi4", laid_math_mPi4)] }
def ChapReadsSaid : Prop := chapReadsRow.holds Tryd.pinned (OpenSpec.ofChange chapReadsSpec)

/-- ITS FALSE NEIGHBOUR: 'it returns false'. Refute it at one input. -/
def chapReadsWrong : ChangeSpec := { name := "chapReads", fn := fun _ => fun
  | [d] => { results := [.lit (.bool false)], args := [d] }
  | _ => none }
def ChapReadsWrongFalsely : Prop := chapReadsRow.holds Tryd.pinned (OpenSpec.ofChange chapReadsWrong)

/-- 'umpirelaw17.ChapAnswers': WHATEVER THE INPUT: true; the input reads as it did. -/
def chapAnswersSpec : ChangeSpec := { name := "chapAnswers", fn := fun _ => fun
  | [d1, d2, d3, d4] => { results := [.lit (.bool true)], args := [d1, d2, d3, d4] }
  | _ => none }
def chapAnswersRow : OpenClaim := { program := "ytgadhmoifhoilaadoor", sum := "f78635dee5d79bcfe4b6cd73da80f2bcf4ec60e825b335d051adb9d71053d78a", func := "umpire/umpirelaw17.ChapAnswers", spec := "chapAnswers", inPlace := ["math.Float64bits", "math.Float64frombits", "math/bits.Add64"], unfollowed := true, recurses := true, named := ["math._cos", "math._sin", "math.mPi4"], apart := false, laid := [("math._sin", laid_math_sin), ("math._cos", laid_math_cos), ("math.mPi4", laid_math_mPi4)] }
def ChapAnswersSaid : Prop := chapAnswersRow.holds Tryd.pinned (OpenSpec.ofChange chapAnswersSpec)

/-- ITS FALSE NEIGHBOUR: 'it returns false'. Refute it at one input. -/
def chapAnswersWrong : ChangeSpec := { name := "chapAnswers", fn := fun _ => fun
  | [d1, d2, d3, d4] => { results := [.lit (.bool false)], args := [d1, d2, d3, d4] }
  | _ => none }
def ChapAnswersWrongFalsely : Prop := chapAnswersRow.holds Tryd.pinned (OpenSpec.ofChange chapAnswersWrong)

/-- 'umpirelaw17.ChapRight': WHATEVER THE INPUT: true; the input reads as it did. -/
def chapRightSpec : ChangeSpec := { name := "chapRight", fn := fun _ => fun
  | [d1, d2, d3, d4, d5] => { results := [.lit (.bool true)], args := [d1, d2, d3, d4, d5] }
  | _ => none }
def chapRightRow : OpenClaim := { program := "ytgadhmoifhoilaadoor", sum := "f78635dee5d79bcfe4b6cd73da80f2bcf4ec60e825b335d051adb9d71053d78a", func := "umpire/umpirelaw17.ChapRight", spec := "chapRight", inPlace := ["math.Float64bits", "math.Float64frombits", "math/bits.Add64"], unfollowed := true, recurses := true, named := ["math._cos", "math._sin", "math.mPi4"], apart := false, laid := [("math._sin", laid_math_sin), ("math._cos", laid_math_cos), ("math.mPi4", laid_math_mPi4)] }
def ChapRightSaid : Prop := chapRightRow.holds Tryd.pinned (OpenSpec.ofChange chapRightSpec)

/-- ITS FALSE NEIGHBOUR: 'it returns false'. Refute it at one input. -/
def chapRightWrong : ChangeSpec := { name := "chapRight", fn := fun _ => fun
  | [d1, d2, d3, d4, d5] => { results := [.lit (.bool false)], args := [d1, d2, d3, d4, d5] }
  | _ => none }
def ChapRightWrongFalsely : Prop := chapRightRow.holds Tryd.pinned (OpenSpec.ofChange chapRightWrong)

/-- 'umpirelaw17.ChapBack': WHATEVER THE INPUT: true; the input reads as it did. -/
def chapBackSpec : ChangeSpec := { name := "chapBack", fn := fun _ => fun
  | [d1, d2] => { results := [.lit (.bool true)], args := [d1, d2] }
  | _ => none }
def chapBackRow : OpenClaim := { program := "ytgadhmoifhoilaadoor", sum := "f78635dee5d79bcfe4b6cd73da80f2bcf4ec60e825b335d051adb9d71053d78a", func := "umpire/umpirelaw17.ChapBack", spec := "chapBack", inPlace := ["math.Float64bits", "math.Float64frombits", "math/bits.Add64"], unfollowed := true, recurses := true, named := ["math._cos", "math._sin", "math.mPi4"], apart := false, laid := [("math._sin", laid_math_sin), ("math._cos", laid_math_cos), ("math.mPi4", laid_math_mPi4)] }
def ChapBackSaid : Prop := chapBackRow.holds Tryd.pinned (OpenSpec.ofChange chapBackSpec)

/-- ITS FALSE NEIGHBOUR: 'it returns false'. Refute it at one input. -/
def chapBackWrong : ChangeSpec := { name := "chapBack", fn := fun _ => fun
  | [d1, d2] => { results := [.lit (.bool false)], args := [d1, d2] }
  | _ => none }
def ChapBackWrongFalsely : Prop := chapBackRow.holds Tryd.pinned (OpenSpec.ofChange chapBackWrong)

/-- 'umpirelaw17.ChapKeeps': WHATEVER THE INPUT: true; the input reads as it did. -/
def chapKeepsSpec : ChangeSpec := { name := "chapKeeps", fn := fun _ => fun
  | [d] => { results := [.lit (.bool true)], args := [d] }
  | _ => none }
def chapKeepsRow : OpenClaim := { program := "ytgadhmoifhoilaadoor", sum := "f78635dee5d79bcfe4b6cd73da80f2bcf4ec60e825b335d051adb9d71053d78a", func := "umpire/umpirelaw17.ChapKeeps", spec := "chapKeeps", inPlace := ["math.Float64bits", "math.Float64frombits", "math/bits.Add64"], unfollowed := true, recurses := true, named := ["math._cos", "math._sin", "math.mPi4"], apart := false, laid := [("math._sin", laid_math_sin), ("math._cos", laid_math_cos), ("math.mPi4", laid_math_mPi4)] }
def ChapKeepsSaid : Prop := chapKeepsRow.holds Tryd.pinned (OpenSpec.ofChange chapKeepsSpec)

/-- ITS FALSE NEIGHBOUR: 'it returns false'. Refute it at one input. -/
def chapKeepsWrong : ChangeSpec := { name := "chapKeeps", fn := fun _ => fun
  | [d] => { results := [.lit (.bool false)], args := [d] }
  | _ => none }
def ChapKeepsWrongFalsely : Prop := chapKeepsRow.holds Tryd.pinned (OpenSpec.ofChange chapKeepsWrong)

/-- 'umpirelaw21.AuthAnswers': WHATEVER THE INPUT: true; the input reads as it did. -/
def authAnswersSpec : ChangeSpec := { name := "authAnswers", fn := fun _ => fun
  | [d1, d2, d3, d4, d5, d6] => { results := [.lit (.bool true)], args := [d1, d2, d3, d4, d5, d6] }
  | _ => none }
def authAnswersRow : OpenClaim := { program := "ytgadhmoifhoilaadoor", sum := "f78635dee5d79bcfe4b6cd73da80f2bcf4ec60e825b335d051adb9d71053d78a", func := "umpire/umpirelaw21.AuthAnswers", spec := "authAnswers", inPlace := ["math.Float64bits", "math.Float64frombits", "math/bits.Add64"], unfollowed := true, recurses := true, named := ["math._cos", "math._sin", "math.mPi4"], apart := false, laid := [("math._sin", laid_math_sin), ("math._cos", laid_math_cos), ("math.mPi4", laid_math_mPi4)] }
def AuthAnswersSaid : Prop := authAnswersRow.holds Tryd.pinned (OpenSpec.ofChange authAnswersSpec)

/-- ITS FALSE NEIGHBOUR: 'it returns false'. Refute it at one input. -/
def authAnswersWrong : ChangeSpec := { name := "authAnswers", fn := fun _ => fun
  | [d1, d2, d3, d4, d5, d6] => { results := [.lit (.bool false)], args := [d1, d2, d3, d4, d5, d6] }
  | _ => none }
def AuthAnswersWrongFalsely : Prop := authAnswersRow.holds Tryd.pinned (OpenSpec.ofChange authAnswersWrong)

/-- 'umpirelaw21.AuthChap': WHATEVER THE INPUT: true; the input reads as it did. -/
def authChapSpec : ChangeSpec := { name := "authChap", fn := fun _ => fun
  | [d1, d2, d3, d4, d5] => { results := [.lit (.bool true)], args := [d1, d2, d3, d4, d5] }
  | _ => none }
def authChapRow : OpenClaim := { program := "ytgadhmoifhoilaadoor", sum := "f78635dee5d79bcfe4b6cd73da80f2bcf4ec60e825b335d051adb9d71053d78a", func := "umpire/umpirelaw21.AuthChap", spec := "authChap", inPlace := ["math.Float64bits", "math.Float64frombits", "math/bits.Add64"], unfollowed := true, recurses := true, named := ["math._cos", "math._sin", "math.mPi4"], apart := false, laid := [("math._sin", laid_math_sin), ("math._cos", laid_math_cos), ("math.mPi4", laid_math_mPi4)] }
def AuthChapSaid : Prop := authChapRow.holds Tryd.pinned (OpenSpec.ofChange authChapSpec)

/-- ITS FALSE NEIGHBOUR: 'it returns false'. Refute it at one input. -/
def authChapWrong : ChangeSpec := { name := "authChap", fn := fun _ => fun
  | [d1, d2, d3, d4, d5] => { results := [.lit (.bool false)], args := [d1, d2, d3, d4, d5] }
  | _ => none }
def AuthChapWrongFalsely : Prop := authChapRow.holds Tryd.pinned (OpenSpec.ofChange authChapWrong)

/- THE SECOND FORM. 'bulk': how many values and letters a reading holds, each counted each time it is reached (what is shared counts as often as it is met; a slice's spare places count too). A statement '..UptoSaid' is the law's where the arguments, and the package variables that the reading takes, are together of bulk at most 1048576: NARROWER than '..Said'. Prove '..Said' where nothing that the law and all that it calls make is longer than what came in: it says more and counts as full. Else prove '..UptoSaid'. A law counts once. -/
mutual
def uptoBulk {H : Type} : DataW H → Nat
  | .lit (.string bytes) => bytes.length + 1
  | .lit _ => 1
  | .nil => 1
  | .ptr d => uptoBulk d + 1
  | .slice elems spare => uptoBulkAll elems + uptoBulkAll spare + 1
  | .agg parts => uptoBulkAll parts + 1
  | .iface _ d => uptoBulk d + 1
  | .map entries => uptoBulkEntries entries + 1
  | .held _ => 1
def uptoBulkAll {H : Type} : List (DataW H) → Nat
  | [] => 0
  | d :: r => uptoBulk d + uptoBulkAll r
def uptoBulkEntries {H : Type} : List (Lit × DataW H) → Nat
  | [] => 0
  | x :: r => uptoBulkEntry x + uptoBulkEntries r
def uptoBulkEntry {H : Type} : Lit × DataW H → Nat
  | (.string bytes, d) => bytes.length + uptoBulk d + 1
  | (_, d) => uptoBulk d + 1
 end
def uptoSmall : (H : Type) → List (DataW H) → Bool := fun _ ds => decide (uptoBulkAll ds ≤ 1048576)
def OpenSpec.upto (s : _root_.Go.ChangeSpec) : _root_.Go.OpenSpec := { _root_.Go.OpenSpec.ofChange s with cond := some uptoSmall }

/-- 'umpirelaw03.Md5Sums', WHERE WHAT IT READS IS OF BULK AT MOST 1048576: true; the input reads as it did. -/
def md5SumsUptoRow : OpenClaim := { program := "ytgadhmoifhoilaadoor", sum := "f78635dee5d79bcfe4b6cd73da80f2bcf4ec60e825b335d051adb9d71053d78a", func := "umpire/umpirelaw03.Md5Sums", spec := "md5Sums", inPlace := ["math.Float64bits", "math.Float64frombits", "math/bits.Add64"], unfollowed := true, recurses := true, named := ["math._cos", "math._sin", "math.mPi4"], apart := false, laid := [("math._sin", laid_math_sin), ("math._cos", laid_math_cos), ("math.mPi4", laid_math_mPi4)], narrowed := true }
def Md5SumsUptoSaid : Prop := md5SumsUptoRow.holds Tryd.pinned (OpenSpec.upto md5SumsSpec)

/-- 'umpirelaw03.Md5Pads', WHERE WHAT IT READS IS OF BULK AT MOST 1048576: true; the input reads as it did. -/
def md5PadsUptoRow : OpenClaim := { program := "ytgadhmoifhoilaadoor", sum := "f78635dee5d79bcfe4b6cd73da80f2bcf4ec60e825b335d051adb9d71053d78a", func := "umpire/umpirelaw03.Md5Pads", spec := "md5Pads", inPlace := ["math.Float64bits", "math.Float64frombits", "math/bits.Add64"], unfollowed := true, recurses := true, named := ["math._cos", "math._sin", "math.mPi4"], apart := false, laid := [("math._sin", laid_math_sin), ("math._cos", laid_math_cos), ("math.mPi4", laid_math_mPi4)], narrowed := true }
def Md5PadsUptoSaid : Prop := md5PadsUptoRow.holds Tryd.pinned (OpenSpec.upto md5PadsSpec)

/-- 'umpirelaw17.ChapPuts', WHERE WHAT IT READS IS OF BULK AT MOST 1048576: true; the input reads as it did. -/
def chapPutsUptoRow : OpenClaim := { program := "ytgadhmoifhoilaadoor", sum := "f78635dee5d79bcfe4b6cd73da80f2bcf4ec60e825b335d051adb9d71053d78a", func := "umpire/umpirelaw17.ChapPuts", spec := "chapPuts", inPlace := ["math.Float64bits", "math.Float64frombits", "math/bits.Add64"], unfollowed := true, recurses := true, named := ["math._cos", "math._sin", "math.mPi4"], apart := false, laid := [("math._sin", laid_math_sin), ("math._cos", laid_math_cos), ("math.mPi4", laid_math_mPi4)], narrowed := true }
def ChapPutsUptoSaid : Prop := chapPutsUptoRow.holds Tryd.pinned (OpenSpec.upto chapPutsSpec)

/-- 'umpirelaw17.ChapReads', WHERE WHAT IT READS IS OF BULK AT MOST 1048576: true; the input reads as it did. -/
def chapReadsUptoRow : OpenClaim := { program := "ytgadhmoifhoilaadoor", sum := "f78635dee5d79bcfe4b6cd73da80f2bcf4ec60e825b335d051adb9d71053d78a", func := "umpire/umpirelaw17.ChapReads", spec := "chapReads", inPlace := ["math.Float64bits", "math.Float64frombits", "math/bits.Add64"], unfollowed := true, recurses := true, named := ["math._cos", "math._sin", "math.mPi4"], apart := false, laid := [("math._sin", laid_math_sin), ("math._cos", laid_math_cos), ("math.mPi4", laid_math_mPi4)], narrowed := true }
def ChapReadsUptoSaid : Prop := chapReadsUptoRow.holds Tryd.pinned (OpenSpec.upto chapReadsSpec)

/-- 'umpirelaw17.ChapAnswers', WHERE WHAT IT READS IS OF BULK AT MOST 1048576: true; the input reads as it did. -/
def chapAnswersUptoRow : OpenClaim := { program := "ytgadhmoifhoilaadoor", sum := "f78635dee5d79bcfe4b6cd73da80f2bcf4ec60e825b335d051adb9d71053d78a", func := "umpire/umpirelaw17.ChapAnswers", spec := "chapAnswers", inPlace := ["math.Float64bits", "math.Float64frombits", "math/bits.Add64"], unfollowed := true, recurses := true, named := ["math._cos", "math._sin", "math.mPi4"], apart := false, laid := [("math._sin", laid_math_sin), ("math._cos", laid_math_cos), ("math.mPi4", laid_math_mPi4)], narrowed := true }
def ChapAnswersUptoSaid : Prop := chapAnswersUptoRow.holds Tryd.pinned (OpenSpec.upto chapAnswersSpec)

/-- 'umpirelaw17.ChapRight', WHERE WHAT IT READS IS OF BULK AT MOST 1048576: true; the input reads as it did. -/
def chapRightUptoRow : OpenClaim := { program := "ytgadhmoifhoilaadoor", sum := "f78635dee5d79bcfe4b6cd73da80f2bcf4ec60e825b335d051adb9d71053d78a", func := "umpire/umpirelaw17.ChapRight", spec := "chapRight", inPlace := ["math.Float64bits", "math.Float64frombits", "math/bits.Add64"], unfollowed := true, recurses := true, named := ["math._cos", "math._sin", "math.mPi4"], apart := false, laid := [("math._sin", laid_math_sin), ("math._cos", laid_math_cos), ("math.mPi4", laid_math_mPi4)], narrowed := true }
def ChapRightUptoSaid : Prop := chapRightUptoRow.holds Tryd.pinned (OpenSpec.upto chapRightSpec)

/-- 'umpirelaw17.ChapBack', WHERE WHAT IT READS IS OF BULK AT MOST 1048576: true; the input reads as it did. -/
def chapBackUptoRow : OpenClaim := { program := "ytgadhmoifhoilaadoor", sum := "f78635dee5d79bcfe4b6cd73da80f2bcf4ec60e825b335d051adb9d71053d78a", func := "umpire/umpirelaw17.ChapBack", spec := "chapBack", inPlace := ["math.Float64bits", "math.Float64frombits", "math/bits.Add64"], unfollowed := true, recurses := true, named := ["math._cos", "math._sin", "math.mPi4"], apart := false, laid := [("math._sin", laid_math_sin), ("math._cos", laid_math_cos), ("math.mPi4", laid_math_mPi4)], narrowed := true }
def ChapBackUptoSaid : Prop := chapBackUptoRow.holds Tryd.pinned (OpenSpec.upto chapBackSpec)

/-- 'umpirelaw17.ChapKeeps', WHERE WHAT IT READS IS OF BULK AT MOST 1048576: true; the input reads as it did. -/
def chapKeepsUptoRow : OpenClaim := { program := "ytgadhmoifhoilaadoor", sum := "f78635dee5d79bcfe4b6cd73da80f2bcf4ec60e825b335d051adb9d71053d78a", func := "umpire/umpirelaw17.ChapKeeps", spec := "chapKeeps", inPlace := ["math.Float64bits", "math.Float64frombits", "math/bits.Add64"], unfollowed := true, recurses := true, named := ["math._cos", "math._sin", "math.mPi4"], apart := false, laid := [("math._sin", laid_math_sin), ("math._cos", laid_math_cos), ("math.mPi4", laid_math_mPi4)], narrowed := true }
def ChapKeepsUptoSaid : Prop := chapKeepsUptoRow.holds Tryd.pinned (OpenSpec.upto chapKeepsSpec)

/-- 'umpirelaw21.AuthAnswers', WHERE WHAT IT READS IS OF BULK AT MOST 1048576: true; the input reads as it did. -/
def authAnswersUptoRow : OpenClaim := { program := "ytgadhmoifhoilaadoor", sum := "f78635dee5d79bcfe4b6cd73da80f2bcf4ec60e825b335d051adb9d71053d78a", func := "umpire/umpirelaw21.AuthAnswers", spec := "authAnswers", inPlace := ["math.Float64bits", "math.Float64frombits", "math/bits.Add64"], unfollowed := true, recurses := true, named := ["math._cos", "math._sin", "math.mPi4"], apart := false, laid := [("math._sin", laid_math_sin), ("math._cos", laid_math_cos), ("math.mPi4", laid_math_mPi4)], narrowed := true }
def AuthAnswersUptoSaid : Prop := authAnswersUptoRow.holds Tryd.pinned (OpenSpec.upto authAnswersSpec)

/-- 'umpirelaw21.AuthChap', WHERE WHAT IT READS IS OF BULK AT MOST 1048576: true; the input reads as it did. -/
def authChapUptoRow : OpenClaim := { program := "ytgadhmoifhoilaadoor", sum := "f78635dee5d79bcfe4b6cd73da80f2bcf4ec60e825b335d051adb9d71053d78a", func := "umpire/umpirelaw21.AuthChap", spec := "authChap", inPlace := ["math.Float64bits", "math.Float64frombits", "math/bits.Add64"], unfollowed := true, recurses := true, named := ["math._cos", "math._sin", "math.mPi4"], apart := false, laid := [("math._sin", laid_math_sin), ("math._cos", laid_math_cos), ("math.mPi4", laid_math_mPi4)], narrowed := true }
def AuthChapUptoSaid : Prop := authChapUptoRow.holds Tryd.pinned (OpenSpec.upto authChapSpec)

end Rows
end Go.Proofs.YtgadhmoifhoilaaDoor
