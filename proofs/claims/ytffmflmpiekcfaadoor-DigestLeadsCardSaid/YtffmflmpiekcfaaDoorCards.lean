/-
  DERIVED. GIVEN WITH THE SEED: THE CARDS: each row of YtffmflmpiekcfaaDoorRows.lean that lists a variable, with what it lists TIED to the program's text (the seventh form; the later family's looks); each row that meets fmt, with fmt's text TOLD by the authors' own Lean function (tested against real Go, not proved from fmt's source: count such statements apart). THE CARD IS WHAT COUNTS. Prove the row's statement (the work); the ties are given (YtffmflmpiekcfaaDoorTie.lean); close each card by the builder's one call (the guide's Derived/Test/ToyasCard.lean, 'card_holds'). Laid BY PROGRAM, IN A SANDBOX (cutbox-door.mjs). By AI agents, Wed Nov 11 2026. No macro, syntax, notation, axiom, sorry.
-/
import Derived.Test.YtffmflmpiekcfaaDoorRows
import GoSem.ClaimSeven
namespace Go.Proofs.YtffmflmpiekcfaaDoor
namespace Rows

/-- THE TIED CARD OF 'formelaw04.DigestMatchesReference'. -/
def digestMatchesReferenceCard : Claim7 := { stood := { row := digestMatchesReferenceRow, standIns := [], harness := (true, "812b7caff88636b70dfeed5e76bb9ace244683ba31d0f8283d0c8fb41216e46f"), looks := false }, kinds := [], alts := [], laidByText := true, laidKinds := [.data, .data, .data], laidTests := true, laidLooks := .later }
def DigestMatchesReferenceCardSaid : Prop := Claim7.holds Tryd.pinned (.plain (OpenSpec.ofChange digestMatchesReferenceSpec)) digestMatchesReferenceCard

/-- THE TIED CARD OF 'formelaw04.DigestOneByte'. -/
def digestOneByteCard : Claim7 := { stood := { row := digestOneByteRow, standIns := [], harness := (true, "812b7caff88636b70dfeed5e76bb9ace244683ba31d0f8283d0c8fb41216e46f"), looks := false }, kinds := [], alts := [], laidByText := true, laidKinds := [.data, .data, .data], laidTests := true, laidLooks := .later }
def DigestOneByteCardSaid : Prop := Claim7.holds Tryd.pinned (.plain (OpenSpec.ofChange digestOneByteSpec)) digestOneByteCard

/-- THE TIED CARD OF 'formelaw04.DigestTexts'. -/
def digestTextsCard : Claim7 := { stood := { row := digestTextsRow, standIns := [], harness := (true, "812b7caff88636b70dfeed5e76bb9ace244683ba31d0f8283d0c8fb41216e46f"), looks := false }, kinds := [], alts := [], laidByText := true, laidKinds := [.data, .data, .data], laidTests := true, laidLooks := .later }
def DigestTextsCardSaid : Prop := Claim7.holds Tryd.pinned (.plain (OpenSpec.ofChange digestTextsSpec)) digestTextsCard

/-- THE TIED CARD OF 'formelaw04.DigestSplits'. -/
def digestSplitsCard : Claim7 := { stood := { row := digestSplitsRow, standIns := [], harness := (true, "812b7caff88636b70dfeed5e76bb9ace244683ba31d0f8283d0c8fb41216e46f"), looks := false }, kinds := [], alts := [], laidByText := true, laidKinds := [.data, .data, .data], laidTests := true, laidLooks := .later }
def DigestSplitsCardSaid : Prop := Claim7.holds Tryd.pinned (.plain (OpenSpec.ofChange digestSplitsSpec)) digestSplitsCard

/-- THE TIED CARD OF 'formelaw04.DigestLeads'. -/
def digestLeadsCard : Claim7 := { stood := { row := digestLeadsRow, standIns := [], harness := (true, "812b7caff88636b70dfeed5e76bb9ace244683ba31d0f8283d0c8fb41216e46f"), looks := false }, kinds := [], alts := [], laidByText := true, laidKinds := [.data, .data, .data], laidTests := true, laidLooks := .later }
def DigestLeadsCardSaid : Prop := Claim7.holds Tryd.pinned (.plain (OpenSpec.ofChange digestLeadsSpec)) digestLeadsCard

/-- THE TIED CARD OF 'formelaw04.DigestOthers'. -/
def digestOthersCard : Claim7 := { stood := { row := digestOthersRow, standIns := [], harness := (true, "812b7caff88636b70dfeed5e76bb9ace244683ba31d0f8283d0c8fb41216e46f"), looks := false }, kinds := [], alts := [], laidByText := true, laidKinds := [.data, .data, .data], laidTests := true, laidLooks := .later }
def DigestOthersCardSaid : Prop := Claim7.holds Tryd.pinned (.plain (OpenSpec.ofChange digestOthersSpec)) digestOthersCard

/-- THE SECOND FORM's CARD OF 'formelaw04.DigestMatchesReference'. -/
def digestMatchesReferenceUptoCard : Claim7 := { stood := { row := digestMatchesReferenceUptoRow, standIns := [], harness := (true, "812b7caff88636b70dfeed5e76bb9ace244683ba31d0f8283d0c8fb41216e46f"), looks := false }, kinds := [], alts := [], laidByText := true, laidKinds := [.data, .data, .data], laidTests := true, laidLooks := .later }
def DigestMatchesReferenceUptoCardSaid : Prop := Claim7.holds Tryd.pinned (.plain (OpenSpec.upto digestMatchesReferenceSpec)) digestMatchesReferenceUptoCard

/-- THE SECOND FORM's CARD OF 'formelaw04.DigestOneByte'. -/
def digestOneByteUptoCard : Claim7 := { stood := { row := digestOneByteUptoRow, standIns := [], harness := (true, "812b7caff88636b70dfeed5e76bb9ace244683ba31d0f8283d0c8fb41216e46f"), looks := false }, kinds := [], alts := [], laidByText := true, laidKinds := [.data, .data, .data], laidTests := true, laidLooks := .later }
def DigestOneByteUptoCardSaid : Prop := Claim7.holds Tryd.pinned (.plain (OpenSpec.upto digestOneByteSpec)) digestOneByteUptoCard

/-- THE SECOND FORM's CARD OF 'formelaw04.DigestTexts'. -/
def digestTextsUptoCard : Claim7 := { stood := { row := digestTextsUptoRow, standIns := [], harness := (true, "812b7caff88636b70dfeed5e76bb9ace244683ba31d0f8283d0c8fb41216e46f"), looks := false }, kinds := [], alts := [], laidByText := true, laidKinds := [.data, .data, .data], laidTests := true, laidLooks := .later }
def DigestTextsUptoCardSaid : Prop := Claim7.holds Tryd.pinned (.plain (OpenSpec.upto digestTextsSpec)) digestTextsUptoCard

/-- THE SECOND FORM's CARD OF 'formelaw04.DigestSplits'. -/
def digestSplitsUptoCard : Claim7 := { stood := { row := digestSplitsUptoRow, standIns := [], harness := (true, "812b7caff88636b70dfeed5e76bb9ace244683ba31d0f8283d0c8fb41216e46f"), looks := false }, kinds := [], alts := [], laidByText := true, laidKinds := [.data, .data, .data], laidTests := true, laidLooks := .later }
def DigestSplitsUptoCardSaid : Prop := Claim7.holds Tryd.pinned (.plain (OpenSpec.upto digestSplitsSpec)) digestSplitsUptoCard

/-- THE SECOND FORM's CARD OF 'formelaw04.DigestLeads'. -/
def digestLeadsUptoCard : Claim7 := { stood := { row := digestLeadsUptoRow, standIns := [], harness := (true, "812b7caff88636b70dfeed5e76bb9ace244683ba31d0f8283d0c8fb41216e46f"), looks := false }, kinds := [], alts := [], laidByText := true, laidKinds := [.data, .data, .data], laidTests := true, laidLooks := .later }
def DigestLeadsUptoCardSaid : Prop := Claim7.holds Tryd.pinned (.plain (OpenSpec.upto digestLeadsSpec)) digestLeadsUptoCard

/-- THE SECOND FORM's CARD OF 'formelaw04.DigestOthers'. -/
def digestOthersUptoCard : Claim7 := { stood := { row := digestOthersUptoRow, standIns := [], harness := (true, "812b7caff88636b70dfeed5e76bb9ace244683ba31d0f8283d0c8fb41216e46f"), looks := false }, kinds := [], alts := [], laidByText := true, laidKinds := [.data, .data, .data], laidTests := true, laidLooks := .later }
def DigestOthersUptoCardSaid : Prop := Claim7.holds Tryd.pinned (.plain (OpenSpec.upto digestOthersSpec)) digestOthersUptoCard
end Rows
end Go.Proofs.YtffmflmpiekcfaaDoor
