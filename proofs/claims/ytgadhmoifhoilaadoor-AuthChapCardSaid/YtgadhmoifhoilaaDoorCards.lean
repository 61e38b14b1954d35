/-
  DERIVED. GIVEN WITH THE SEED: THE CARDS: each row of YtgadhmoifhoilaaDoorRows.lean that lists a variable, with what it lists TIED to the program's text (the seventh form; the later family's looks); each row that meets fmt, with fmt's text TOLD by the authors' own Lean function (tested against real Go, not proved from fmt's source: count such statements apart). THE CARD IS WHAT COUNTS. Prove the row's statement (the work); the ties are given (YtgadhmoifhoilaaDoorTie.lean); close each card by the builder's one call (the guide's Derived/Test/ToyasCard.lean, 'card_holds'). Laid BY PROGRAM, IN A SANDBOX (cutbox-door.mjs). By AI agents, Wed Nov 11 2026. No macro, syntax, notation, axiom, sorry.
-/
import Derived.Test.YtgadhmoifhoilaaDoorRows
import GoSem.ClaimSeven
namespace Go.Proofs.YtgadhmoifhoilaaDoor
namespace Rows

/-- THE TIED CARD OF 'umpirelaw03.Md5Sums'. -/
def md5SumsCard : Claim7 := { stood := { row := md5SumsRow, standIns := [], harness := (true, "220ca6543b09ef0d99bcd2b7543822d035ab652dccf2366e4af4189883e46dd0"), looks := false }, kinds := [], alts := [], laidByText := true, laidKinds := [.data, .data, .data], laidTests := true, laidLooks := .later }
def Md5SumsCardSaid : Prop := Claim7.holds Tryd.pinned (.plain (OpenSpec.ofChange md5SumsSpec)) md5SumsCard

/-- THE TIED CARD OF 'umpirelaw03.Md5Pads'. -/
def md5PadsCard : Claim7 := { stood := { row := md5PadsRow, standIns := [], harness := (true, "220ca6543b09ef0d99bcd2b7543822d035ab652dccf2366e4af4189883e46dd0"), looks := false }, kinds := [], alts := [], laidByText := true, laidKinds := [.data, .data, .data], laidTests := true, laidLooks := .later }
def Md5PadsCardSaid : Prop := Claim7.holds Tryd.pinned (.plain (OpenSpec.ofChange md5PadsSpec)) md5PadsCard

/-- THE TIED CARD OF 'umpirelaw17.ChapPuts'. -/
def chapPutsCard : Claim7 := { stood := { row := chapPutsRow, standIns := [], harness := (true, "220ca6543b09ef0d99bcd2b7543822d035ab652dccf2366e4af4189883e46dd0"), looks := false }, kinds := [], alts := [], laidByText := true, laidKinds := [.data, .data, .data], laidTests := true, laidLooks := .later }
def ChapPutsCardSaid : Prop := Claim7.holds Tryd.pinned (.plain (OpenSpec.ofChange chapPutsSpec)) chapPutsCard

/-- THE TIED CARD OF 'umpirelaw17.ChapReads'. -/
def chapReadsCard : Claim7 := { stood := { row := chapReadsRow, standIns := [], harness := (true, "220ca6543b09ef0d99bcd2b7543822d035ab652dccf2366e4af4189883e46dd0"), looks := false }, kinds := [], alts := [], laidByText := true, laidKinds := [.data, .data, .data], laidTests := true, laidLooks := .later }
def ChapReadsCardSaid : Prop := Claim7.holds Tryd.pinned (.plain (OpenSpec.ofChange chapReadsSpec)) chapReadsCard

/-- THE TIED CARD OF 'umpirelaw17.ChapAnswers'. -/
def chapAnswersCard : Claim7 := { stood := { row := chapAnswersRow, standIns := [], harness := (true, "220ca6543b09ef0d99bcd2b7543822d035ab652dccf2366e4af4189883e46dd0"), looks := false }, kinds := [], alts := [], laidByText := true, laidKinds := [.data, .data, .data], laidTests := true, laidLooks := .later }
def ChapAnswersCardSaid : Prop := Claim7.holds Tryd.pinned (.plain (OpenSpec.ofChange chapAnswersSpec)) chapAnswersCard

/-- THE TIED CARD OF 'umpirelaw17.ChapRight'. -/
def chapRightCard : Claim7 := { stood := { row := chapRightRow, standIns := [], harness := (true, "220ca6543b09ef0d99bcd2b7543822d035ab652dccf2366e4af4189883e46dd0"), looks := false }, kinds := [], alts := [], laidByText := true, laidKinds := [.data, .data, .data], laidTests := true, laidLooks := .later }
def ChapRightCardSaid : Prop := Claim7.holds Tryd.pinned (.plain (OpenSpec.ofChange chapRightSpec)) chapRightCard

/-- THE TIED CARD OF 'umpirelaw17.ChapBack'. -/
def chapBackCard : Claim7 := { stood := { row := chapBackRow, standIns := [], harness := (true, "220ca6543b09ef0d99bcd2b7543822d035ab652dccf2366e4af4189883e46dd0"), looks := false }, kinds := [], alts := [], laidByText := true, laidKinds := [.data, .data, .data], laidTests := true, laidLooks := .later }
def ChapBackCardSaid : Prop := Claim7.holds Tryd.pinned (.plain (OpenSpec.ofChange chapBackSpec)) chapBackCard

/-- THE TIED CARD OF 'umpirelaw17.ChapKeeps'. -/
def chapKeepsCard : Claim7 := { stood := { row := chapKeepsRow, standIns := [], harness := (true, "220ca6543b09ef0d99bcd2b7543822d035ab652dccf2366e4af4189883e46dd0"), looks := false }, kinds := [], alts := [], laidByText := true, laidKinds := [.data, .data, .data], laidTests := true, laidLooks := .later }
def ChapKeepsCardSaid : Prop := Claim7.holds Tryd.pinned (.plain (OpenSpec.ofChange chapKeepsSpec)) chapKeepsCard

/-- THE TIED CARD OF 'umpirelaw21.AuthAnswers'. -/
def authAnswersCard : Claim7 := { stood := { row := authAnswersRow, standIns := [], harness := (true, "220ca6543b09ef0d99bcd2b7543822d035ab652dccf2366e4af4189883e46dd0"), looks := false }, kinds := [], alts := [], laidByText := true, laidKinds := [.data, .data, .data], laidTests := true, laidLooks := .later }
def AuthAnswersCardSaid : Prop := Claim7.holds Tryd.pinned (.plain (OpenSpec.ofChange authAnswersSpec)) authAnswersCard

/-- THE TIED CARD OF 'umpirelaw21.AuthChap'. -/
def authChapCard : Claim7 := { stood := { row := authChapRow, standIns := [], harness := (true, "220ca6543b09ef0d99bcd2b7543822d035ab652dccf2366e4af4189883e46dd0"), looks := false }, kinds := [], alts := [], laidByText := true, laidKinds := [.data, .data, .data], laidTests := true, laidLooks := .later }
def AuthChapCardSaid : Prop := Claim7.holds Tryd.pinned (.plain (OpenSpec.ofChange authChapSpec)) authChapCard

/-- THE SECOND FORM's CARD OF 'umpirelaw03.Md5Sums'. -/
def md5SumsUptoCard : Claim7 := { stood := { row := md5SumsUptoRow, standIns := [], harness := (true, "220ca6543b09ef0d99bcd2b7543822d035ab652dccf2366e4af4189883e46dd0"), looks := false }, kinds := [], alts := [], laidByText := true, laidKinds := [.data, .data, .data], laidTests := true, laidLooks := .later }
def Md5SumsUptoCardSaid : Prop := Claim7.holds Tryd.pinned (.plain (OpenSpec.upto md5SumsSpec)) md5SumsUptoCard

/-- THE SECOND FORM's CARD OF 'umpirelaw03.Md5Pads'. -/
def md5PadsUptoCard : Claim7 := { stood := { row := md5PadsUptoRow, standIns := [], harness := (true, "220ca6543b09ef0d99bcd2b7543822d035ab652dccf2366e4af4189883e46dd0"), looks := false }, kinds := [], alts := [], laidByText := true, laidKinds := [.data, .data, .data], laidTests := true, laidLooks := .later }
def Md5PadsUptoCardSaid : Prop := Claim7.holds Tryd.pinned (.plain (OpenSpec.upto md5PadsSpec)) md5PadsUptoCard

/-- THE SECOND FORM's CARD OF 'umpirelaw17.ChapPuts'. -/
def chapPutsUptoCard : Claim7 := { stood := { row := chapPutsUptoRow, standIns := [], harness := (true, "220ca6543b09ef0d99bcd2b7543822d035ab652dccf2366e4af4189883e46dd0"), looks := false }, kinds := [], alts := [], laidByText := true, laidKinds := [.data, .data, .data], laidTests := true, laidLooks := .later }
def ChapPutsUptoCardSaid : Prop := Claim7.holds Tryd.pinned (.plain (OpenSpec.upto chapPutsSpec)) chapPutsUptoCard

/-- THE SECOND FORM's CARD OF 'umpirelaw17.ChapReads'. -/
def chapReadsUptoCard : Claim7 := { stood := { row := chapReadsUptoRow, standIns := [], harness := (true, "220ca6543b09ef0d99bcd2b7543822d035ab652dccf2366e4af4189883e46dd0"), looks := false }, kinds := [], alts := [], laidByText := true, laidKinds := [.data, .data, .data], laidTests := true, laidLooks := .later }
def ChapReadsUptoCardSaid : Prop := Claim7.holds Tryd.pinned (.plain (OpenSpec.upto chapReadsSpec)) chapReadsUptoCard

/-- THE SECOND FORM's CARD OF 'umpirelaw17.ChapAnswers'. -/
def chapAnswersUptoCard : Claim7 := { stood := { row := chapAnswersUptoRow, standIns := [], harness := (true, "220ca6543b09ef0d99bcd2b7543822d035ab652dccf2366e4af4189883e46dd0"), looks := false }, kinds := [], alts := [], laidByText := true, laidKinds := [.data, .data, .data], laidTests := true, laidLooks := .later }
def ChapAnswersUptoCardSaid : Prop := Claim7.holds Tryd.pinned (.plain (OpenSpec.upto chapAnswersSpec)) chapAnswersUptoCard

/-- THE SECOND FORM's CARD OF 'umpirelaw17.ChapRight'. -/
def chapRightUptoCard : Claim7 := { stood := { row := chapRightUptoRow, standIns := [], harness := (true, "220ca6543b09ef0d99bcd2b7543822d035ab652dccf2366e4af4189883e46dd0"), looks := false }, kinds := [], alts := [], laidByText := true, laidKinds := [.data, .data, .data], laidTests := true, laidLooks := .later }
def ChapRightUptoCardSaid : Prop := Claim7.holds Tryd.pinned (.plain (OpenSpec.upto chapRightSpec)) chapRightUptoCard

/-- THE SECOND FORM's CARD OF 'umpirelaw17.ChapBack'. -/
def chapBackUptoCard : Claim7 := { stood := { row := chapBackUptoRow, standIns := [], harness := (true, "220ca6543b09ef0d99bcd2b7543822d035ab652dccf2366e4af4189883e46dd0"), looks := false }, kinds := [], alts := [], laidByText := true, laidKinds := [.data, .data, .data], laidTests := true, laidLooks := .later }
def ChapBackUptoCardSaid : Prop := Claim7.holds Tryd.pinned (.plain (OpenSpec.upto chapBackSpec)) chapBackUptoCard

/-- THE SECOND FORM's CARD OF 'umpirelaw17.ChapKeeps'. -/
def chapKeepsUptoCard : Claim7 := { stood := { row := chapKeepsUptoRow, standIns := [], harness := (true, "220ca6543b09ef0d99bcd2b7543822d035ab652dccf2366e4af4189883e46dd0"), looks := false }, kinds := [], alts := [], laidByText := true, laidKinds := [.data, .data, .data], laidTests := true, laidLooks := .later }
def ChapKeepsUptoCardSaid : Prop := Claim7.holds Tryd.pinned (.plain (OpenSpec.upto chapKeepsSpec)) chapKeepsUptoCard

/-- THE SECOND FORM's CARD OF 'umpirelaw21.AuthAnswers'. -/
def authAnswersUptoCard : Claim7 := { stood := { row := authAnswersUptoRow, standIns := [], harness := (true, "220ca6543b09ef0d99bcd2b7543822d035ab652dccf2366e4af4189883e46dd0"), looks := false }, kinds := [], alts := [], laidByText := true, laidKinds := [.data, .data, .data], laidTests := true, laidLooks := .later }
def AuthAnswersUptoCardSaid : Prop := Claim7.holds Tryd.pinned (.plain (OpenSpec.upto authAnswersSpec)) authAnswersUptoCard

/-- THE SECOND FORM's CARD OF 'umpirelaw21.AuthChap'. -/
def authChapUptoCard : Claim7 := { stood := { row := authChapUptoRow, standIns := [], harness := (true, "220ca6543b09ef0d99bcd2b7543822d035ab652dccf2366e4af4189883e46dd0"), looks := false }, kinds := [], alts := [], laidByText := true, laidKinds := [.data, .data, .data], laidTests := true, laidLooks := .later }
def AuthChapUptoCardSaid : Prop := Claim7.holds Tryd.pinned (.plain (OpenSpec.upto authChapSpec)) authChapUptoCard
end Rows
end Go.Proofs.YtgadhmoifhoilaaDoor
