/-
  DERIVED. GIVEN WITH THE SEED: THE CARDS: each row of YtjjndkenddigiaaDoorRows.lean that lists a variable, with what it lists TIED to the program's text (the seventh form; the later family's looks); each row that meets fmt, with fmt's text TOLD by the authors' own Lean function (tested against real Go, not proved from fmt's source: count such statements apart). THE CARD IS WHAT COUNTS. Prove the row's statement (the work); the ties are given (YtjjndkenddigiaaDoorTie.lean); close each card by the builder's one call (the guide's Derived/Test/ToyasCard.lean, 'card_holds'). Laid BY PROGRAM, IN A SANDBOX (cutbox-door.mjs). By AI agents, Wed Nov 11 2026. No macro, syntax, notation, axiom, sorry.
-/
import Derived.Test.YtjjndkenddigiaaDoorRows
import GoSem.ClaimSeven
namespace Go.Proofs.YtjjndkenddigiaaDoor
namespace Rows

/-- THE TIED CARD OF 'staddlelaw11.BookParses'. -/
def bookParsesCard : Claim7 := { stood := { row := bookParsesRow, standIns := [], harness := (true, "73cf7568409bca0c2ae3e3a0042a9bfc61f6a2ed69490f38c043b69ea7996590"), looks := false }, kinds := [], alts := [], laidByText := true, laidKinds := [.data, .data, .data], laidTests := true, laidLooks := .later }
def BookParsesCardSaid : Prop := Claim7.holds Tryd.pinned (.plain (OpenSpec.ofChange bookParsesSpec)) bookParsesCard

/-- THE TIED CARD OF 'staddlelaw11.BookTold'. -/
def bookToldCard : Claim7 := { stood := { row := bookToldRow, standIns := [], harness := (true, "73cf7568409bca0c2ae3e3a0042a9bfc61f6a2ed69490f38c043b69ea7996590"), looks := false }, kinds := [], alts := [], laidByText := true, laidKinds := [.data, .data, .data], laidTests := true, laidLooks := .later }
def BookToldCardSaid : Prop := Claim7.holds Tryd.pinned (.plain (OpenSpec.ofChange bookToldSpec)) bookToldCard

/-- THE TIED CARD OF 'staddlelaw11.BookChanged'. -/
def bookChangedCard : Claim7 := { stood := { row := bookChangedRow, standIns := [], harness := (true, "73cf7568409bca0c2ae3e3a0042a9bfc61f6a2ed69490f38c043b69ea7996590"), looks := false }, kinds := [], alts := [], laidByText := true, laidKinds := [.data, .data, .data], laidTests := true, laidLooks := .later }
def BookChangedCardSaid : Prop := Claim7.holds Tryd.pinned (.plain (OpenSpec.ofChange bookChangedSpec)) bookChangedCard

/-- THE TIED CARD OF 'staddlelaw11.BookBegun'. -/
def bookBegunCard : Claim7 := { stood := { row := bookBegunRow, standIns := [], harness := (true, "73cf7568409bca0c2ae3e3a0042a9bfc61f6a2ed69490f38c043b69ea7996590"), looks := false }, kinds := [], alts := [], laidByText := true, laidKinds := [.data, .data, .data], laidTests := true, laidLooks := .later }
def BookBegunCardSaid : Prop := Claim7.holds Tryd.pinned (.plain (OpenSpec.ofChange bookBegunSpec)) bookBegunCard

/-- THE TIED CARD OF 'staddlelaw11.BookDiffers'. -/
def bookDiffersCard : Claim7 := { stood := { row := bookDiffersRow, standIns := [], harness := (true, "73cf7568409bca0c2ae3e3a0042a9bfc61f6a2ed69490f38c043b69ea7996590"), looks := false }, kinds := [], alts := [], laidByText := true, laidKinds := [.data, .data, .data], laidTests := true, laidLooks := .later }
def BookDiffersCardSaid : Prop := Claim7.holds Tryd.pinned (.plain (OpenSpec.ofChange bookDiffersSpec)) bookDiffersCard

/-- THE TIED CARD OF 'staddlelaw11.BookTears'. -/
def bookTearsCard : Claim7 := { stood := { row := bookTearsRow, standIns := [], harness := (true, "73cf7568409bca0c2ae3e3a0042a9bfc61f6a2ed69490f38c043b69ea7996590"), looks := false }, kinds := [], alts := [], laidByText := true, laidKinds := [.data, .data, .data], laidTests := true, laidLooks := .later }
def BookTearsCardSaid : Prop := Claim7.holds Tryd.pinned (.plain (OpenSpec.ofChange bookTearsSpec)) bookTearsCard

/-- THE TIED CARD OF 'staddlelaw11.BookMerged'. -/
def bookMergedCard : Claim7 := { stood := { row := bookMergedRow, standIns := [], harness := (true, "73cf7568409bca0c2ae3e3a0042a9bfc61f6a2ed69490f38c043b69ea7996590"), looks := false }, kinds := [], alts := [], laidByText := true, laidKinds := [.data, .data, .data], laidTests := true, laidLooks := .later }
def BookMergedCardSaid : Prop := Claim7.holds Tryd.pinned (.plain (OpenSpec.ofChange bookMergedSpec)) bookMergedCard

/-- THE SECOND FORM's CARD OF 'staddlelaw11.BookParses'. -/
def bookParsesUptoCard : Claim7 := { stood := { row := bookParsesUptoRow, standIns := [], harness := (true, "73cf7568409bca0c2ae3e3a0042a9bfc61f6a2ed69490f38c043b69ea7996590"), looks := false }, kinds := [], alts := [], laidByText := true, laidKinds := [.data, .data, .data], laidTests := true, laidLooks := .later }
def BookParsesUptoCardSaid : Prop := Claim7.holds Tryd.pinned (.plain (OpenSpec.upto bookParsesSpec)) bookParsesUptoCard

/-- THE SECOND FORM's CARD OF 'staddlelaw11.BookTold'. -/
def bookToldUptoCard : Claim7 := { stood := { row := bookToldUptoRow, standIns := [], harness := (true, "73cf7568409bca0c2ae3e3a0042a9bfc61f6a2ed69490f38c043b69ea7996590"), looks := false }, kinds := [], alts := [], laidByText := true, laidKinds := [.data, .data, .data], laidTests := true, laidLooks := .later }
def BookToldUptoCardSaid : Prop := Claim7.holds Tryd.pinned (.plain (OpenSpec.upto bookToldSpec)) bookToldUptoCard

/-- THE SECOND FORM's CARD OF 'staddlelaw11.BookChanged'. -/
def bookChangedUptoCard : Claim7 := { stood := { row := bookChangedUptoRow, standIns := [], harness := (true, "73cf7568409bca0c2ae3e3a0042a9bfc61f6a2ed69490f38c043b69ea7996590"), looks := false }, kinds := [], alts := [], laidByText := true, laidKinds := [.data, .data, .data], laidTests := true, laidLooks := .later }
def BookChangedUptoCardSaid : Prop := Claim7.holds Tryd.pinned (.plain (OpenSpec.upto bookChangedSpec)) bookChangedUptoCard

/-- THE SECOND FORM's CARD OF 'staddlelaw11.BookBegun'. -/
def bookBegunUptoCard : Claim7 := { stood := { row := bookBegunUptoRow, standIns := [], harness := (true, "73cf7568409bca0c2ae3e3a0042a9bfc61f6a2ed69490f38c043b69ea7996590"), looks := false }, kinds := [], alts := [], laidByText := true, laidKinds := [.data, .data, .data], laidTests := true, laidLooks := .later }
def BookBegunUptoCardSaid : Prop := Claim7.holds Tryd.pinned (.plain (OpenSpec.upto bookBegunSpec)) bookBegunUptoCard

/-- THE SECOND FORM's CARD OF 'staddlelaw11.BookDiffers'. -/
def bookDiffersUptoCard : Claim7 := { stood := { row := bookDiffersUptoRow, standIns := [], harness := (true, "73cf7568409bca0c2ae3e3a0042a9bfc61f6a2ed69490f38c043b69ea7996590"), looks := false }, kinds := [], alts := [], laidByText := true, laidKinds := [.data, .data, .data], laidTests := true, laidLooks := .later }
def BookDiffersUptoCardSaid : Prop := Claim7.holds Tryd.pinned (.plain (OpenSpec.upto bookDiffersSpec)) bookDiffersUptoCard

/-- THE SECOND FORM's CARD OF 'staddlelaw11.BookTears'. -/
def bookTearsUptoCard : Claim7 := { stood := { row := bookTearsUptoRow, standIns := [], harness := (true, "73cf7568409bca0c2ae3e3a0042a9bfc61f6a2ed69490f38c043b69ea7996590"), looks := false }, kinds := [], alts := [], laidByText := true, laidKinds := [.data, .data, .data], laidTests := true, laidLooks := .later }
def BookTearsUptoCardSaid : Prop := Claim7.holds Tryd.pinned (.plain (OpenSpec.upto bookTearsSpec)) bookTearsUptoCard

/-- THE SECOND FORM's CARD OF 'staddlelaw11.BookMerged'. -/
def bookMergedUptoCard : Claim7 := { stood := { row := bookMergedUptoRow, standIns := [], harness := (true, "73cf7568409bca0c2ae3e3a0042a9bfc61f6a2ed69490f38c043b69ea7996590"), looks := false }, kinds := [], alts := [], laidByText := true, laidKinds := [.data, .data, .data], laidTests := true, laidLooks := .later }
def BookMergedUptoCardSaid : Prop := Claim7.holds Tryd.pinned (.plain (OpenSpec.upto bookMergedSpec)) bookMergedUptoCard
end Rows
end Go.Proofs.YtjjndkenddigiaaDoor
