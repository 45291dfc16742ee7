/-
  DERIVED. GIVEN WITH THE SEED: THE CARDS: each row of YtjjndkenddigiaaGreatDoorRows.lean that lists a variable, with what it lists TIED to the program's text (the seventh form; the later family's looks); each row that meets fmt, with fmt's text TOLD by the authors' own Lean function (tested against real Go, not proved from fmt's source: count such statements apart). THE CARD IS WHAT COUNTS. Prove the row's statement (the work); the ties are given (YtjjndkenddigiaaGreatDoorTie.lean); close each card by the builder's one call (the guide's Derived/Test/ToyasCard.lean, 'card_holds'). Laid BY PROGRAM, IN A SANDBOX (cutbox-door.mjs). By AI agents, Wed Nov 11 2026. No macro, syntax, notation, axiom, sorry.
-/
import Derived.Test.YtjjndkenddigiaaGreatDoorRows
import GoSem.ClaimSeven
namespace Go.Proofs.YtjjndkenddigiaaGreatDoor
namespace Rows

/-- THE TIED CARD OF 'staddlelaw11.BookPrints'. -/
def bookPrintsCard : Claim7 := { stood := { row := bookPrintsRow, standIns := [], harness := (true, "4be867bdfceaa90f319d379361a75da55ed052c1d62f3e097915cc6ddf543406"), looks := false }, kinds := [], alts := [], laidByText := true, laidKinds := [.data, .data, .data], laidTests := true, laidLooks := .later }
def BookPrintsCardSaid : Prop := Claim7.holds Tryz.pinned (.plain (OpenSpec.ofChange bookPrintsSpec)) bookPrintsCard

/-- THE TIED CARD OF 'staddlelaw11.BookFills'. -/
def bookFillsCard : Claim7 := { stood := { row := bookFillsRow, standIns := [], harness := (true, "4be867bdfceaa90f319d379361a75da55ed052c1d62f3e097915cc6ddf543406"), looks := false }, kinds := [], alts := [], laidByText := true, laidKinds := [.data, .data, .data], laidTests := true, laidLooks := .later }
def BookFillsCardSaid : Prop := Claim7.holds Tryz.pinned (.plain (OpenSpec.ofChange bookFillsSpec)) bookFillsCard

/-- THE TIED CARD OF 'staddlelaw11.BookChecks'. -/
def bookChecksCard : Claim7 := { stood := { row := bookChecksRow, standIns := [], harness := (true, "4be867bdfceaa90f319d379361a75da55ed052c1d62f3e097915cc6ddf543406"), looks := false }, kinds := [], alts := [], laidByText := true, laidKinds := [.data, .data, .data], laidTests := true, laidLooks := .later }
def BookChecksCardSaid : Prop := Claim7.holds Tryz.pinned (.plain (OpenSpec.ofChange bookChecksSpec)) bookChecksCard

/-- THE TIED CARD OF 'staddlelaw11.BookStruck'. -/
def bookStruckCard : Claim7 := { stood := { row := bookStruckRow, standIns := [], harness := (true, "4be867bdfceaa90f319d379361a75da55ed052c1d62f3e097915cc6ddf543406"), looks := false }, kinds := [], alts := [], laidByText := true, laidKinds := [.data, .data, .data], laidTests := true, laidLooks := .later }
def BookStruckCardSaid : Prop := Claim7.holds Tryz.pinned (.plain (OpenSpec.ofChange bookStruckSpec)) bookStruckCard

/-- THE TIED CARD OF 'staddlelaw11.BookSmall'. -/
def bookSmallCard : Claim7 := { stood := { row := bookSmallRow, standIns := [], harness := (true, "4be867bdfceaa90f319d379361a75da55ed052c1d62f3e097915cc6ddf543406"), looks := false }, kinds := [], alts := [], laidByText := true, laidKinds := [.data, .data, .data], laidTests := true, laidLooks := .later }
def BookSmallCardSaid : Prop := Claim7.holds Tryz.pinned (.plain (OpenSpec.ofChange bookSmallSpec)) bookSmallCard

/-- THE TIED CARD OF 'staddlelaw11.BookLines'. -/
def bookLinesCard : Claim7 := { stood := { row := bookLinesRow, standIns := [], harness := (true, "4be867bdfceaa90f319d379361a75da55ed052c1d62f3e097915cc6ddf543406"), looks := false }, kinds := [], alts := [], laidByText := true, laidKinds := [.data, .data, .data, .data, .pinned], laidTests := true, laidLooks := .later }
def BookLinesCardSaid : Prop := Claim7.holds Tryz.pinned (.plain (OpenSpec.ofChange bookLinesSpec)) bookLinesCard

/-- THE SECOND FORM's CARD OF 'staddlelaw11.BookPrints'. -/
def bookPrintsUptoCard : Claim7 := { stood := { row := bookPrintsUptoRow, standIns := [], harness := (true, "4be867bdfceaa90f319d379361a75da55ed052c1d62f3e097915cc6ddf543406"), looks := false }, kinds := [], alts := [], laidByText := true, laidKinds := [.data, .data, .data], laidTests := true, laidLooks := .later }
def BookPrintsUptoCardSaid : Prop := Claim7.holds Tryz.pinned (.plain (OpenSpec.upto bookPrintsSpec)) bookPrintsUptoCard

/-- THE SECOND FORM's CARD OF 'staddlelaw11.BookFills'. -/
def bookFillsUptoCard : Claim7 := { stood := { row := bookFillsUptoRow, standIns := [], harness := (true, "4be867bdfceaa90f319d379361a75da55ed052c1d62f3e097915cc6ddf543406"), looks := false }, kinds := [], alts := [], laidByText := true, laidKinds := [.data, .data, .data], laidTests := true, laidLooks := .later }
def BookFillsUptoCardSaid : Prop := Claim7.holds Tryz.pinned (.plain (OpenSpec.upto bookFillsSpec)) bookFillsUptoCard

/-- THE SECOND FORM's CARD OF 'staddlelaw11.BookChecks'. -/
def bookChecksUptoCard : Claim7 := { stood := { row := bookChecksUptoRow, standIns := [], harness := (true, "4be867bdfceaa90f319d379361a75da55ed052c1d62f3e097915cc6ddf543406"), looks := false }, kinds := [], alts := [], laidByText := true, laidKinds := [.data, .data, .data], laidTests := true, laidLooks := .later }
def BookChecksUptoCardSaid : Prop := Claim7.holds Tryz.pinned (.plain (OpenSpec.upto bookChecksSpec)) bookChecksUptoCard

/-- THE SECOND FORM's CARD OF 'staddlelaw11.BookStruck'. -/
def bookStruckUptoCard : Claim7 := { stood := { row := bookStruckUptoRow, standIns := [], harness := (true, "4be867bdfceaa90f319d379361a75da55ed052c1d62f3e097915cc6ddf543406"), looks := false }, kinds := [], alts := [], laidByText := true, laidKinds := [.data, .data, .data], laidTests := true, laidLooks := .later }
def BookStruckUptoCardSaid : Prop := Claim7.holds Tryz.pinned (.plain (OpenSpec.upto bookStruckSpec)) bookStruckUptoCard

/-- THE SECOND FORM's CARD OF 'staddlelaw11.BookSmall'. -/
def bookSmallUptoCard : Claim7 := { stood := { row := bookSmallUptoRow, standIns := [], harness := (true, "4be867bdfceaa90f319d379361a75da55ed052c1d62f3e097915cc6ddf543406"), looks := false }, kinds := [], alts := [], laidByText := true, laidKinds := [.data, .data, .data], laidTests := true, laidLooks := .later }
def BookSmallUptoCardSaid : Prop := Claim7.holds Tryz.pinned (.plain (OpenSpec.upto bookSmallSpec)) bookSmallUptoCard

/-- THE SECOND FORM's CARD OF 'staddlelaw11.BookLines'. -/
def bookLinesUptoCard : Claim7 := { stood := { row := bookLinesUptoRow, standIns := [], harness := (true, "4be867bdfceaa90f319d379361a75da55ed052c1d62f3e097915cc6ddf543406"), looks := false }, kinds := [], alts := [], laidByText := true, laidKinds := [.data, .data, .data, .data, .pinned], laidTests := true, laidLooks := .later }
def BookLinesUptoCardSaid : Prop := Claim7.holds Tryz.pinned (.plain (OpenSpec.upto bookLinesSpec)) bookLinesUptoCard
end Rows
end Go.Proofs.YtjjndkenddigiaaGreatDoor
