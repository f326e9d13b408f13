/-
  DERIVED. GIVEN WITH THE SEED: THE CARDS: each row of YtkoeiednpbedlaaDoorRows.lean that lists a variable, with what it lists TIED to the program's text (the seventh form; the later family's looks); each row that meets fmt, with fmt's text TOLD by the authors' own Lean function (tested against real Go, not proved from fmt's source: count such statements apart). THE CARD IS WHAT COUNTS. Prove the row's statement (the work); the ties are given (YtkoeiednpbedlaaDoorTie.lean); close each card by the builder's one call (the guide's Derived/Test/ToyasCard.lean, 'card_holds'). Laid BY PROGRAM, IN A SANDBOX (cutbox-door.mjs). By AI agents, Wed Nov 11 2026. No macro, syntax, notation, axiom, sorry.
-/
import Derived.Test.YtkoeiednpbedlaaDoorRows
import GoSem.ClaimSeven
namespace Go.Proofs.YtkoeiednpbedlaaDoor
namespace Rows

/-- THE TIED CARD OF 'pidginlaw07.ZilogForms'. -/
def zilogFormsCard : Claim7 := { stood := { row := zilogFormsRow, standIns := [], harness := (true, "d84b243b06e9491c71822e570214048d52a5a1d737b721702ba45d8290990f2f"), looks := false }, kinds := [], alts := [], laidByText := true, laidKinds := [.data, .listed, .data, .pinned], laidTests := true, laidLooks := .later }
def ZilogFormsCardSaid : Prop := Claim7.holds Tryd.pinned (.plain (OpenSpec.ofChange zilogFormsSpec)) zilogFormsCard

/-- THE TIED CARD OF 'pidginlaw07.ZilogNames'. -/
def zilogNamesCard : Claim7 := { stood := { row := zilogNamesRow, standIns := [], harness := (true, "d84b243b06e9491c71822e570214048d52a5a1d737b721702ba45d8290990f2f"), looks := false }, kinds := [], alts := [], laidByText := true, laidKinds := [.data, .listed, .data, .pinned], laidTests := true, laidLooks := .later }
def ZilogNamesCardSaid : Prop := Claim7.holds Tryd.pinned (.plain (OpenSpec.ofChange zilogNamesSpec)) zilogNamesCard

/-- THE TIED CARD OF 'pidginlaw07.ZilogApart'. -/
def zilogApartCard : Claim7 := { stood := { row := zilogApartRow, standIns := [], harness := (true, "d84b243b06e9491c71822e570214048d52a5a1d737b721702ba45d8290990f2f"), looks := false }, kinds := [], alts := [], laidByText := true, laidKinds := [.data, .listed, .data, .pinned], laidTests := true, laidLooks := .later }
def ZilogApartCardSaid : Prop := Claim7.holds Tryd.pinned (.plain (OpenSpec.ofChange zilogApartSpec)) zilogApartCard

/-- THE TIED CARD OF 'pidginlaw07.ZilogKinds'. -/
def zilogKindsCard : Claim7 := { stood := { row := zilogKindsRow, standIns := [], harness := (true, "d84b243b06e9491c71822e570214048d52a5a1d737b721702ba45d8290990f2f"), looks := false }, kinds := [], alts := [], laidByText := true, laidKinds := [.data, .listed, .data, .pinned], laidTests := true, laidLooks := .later }
def ZilogKindsCardSaid : Prop := Claim7.holds Tryd.pinned (.plain (OpenSpec.ofChange zilogKindsSpec)) zilogKindsCard

/-- THE TIED CARD OF 'pidginlaw07.ZilogBoth'. -/
def zilogBothCard : Claim7 := { stood := { row := zilogBothRow, standIns := [], harness := (true, "d84b243b06e9491c71822e570214048d52a5a1d737b721702ba45d8290990f2f"), looks := false }, kinds := [], alts := [], laidByText := true, laidKinds := [.data, .listed, .data, .pinned], laidTests := true, laidLooks := .later }
def ZilogBothCardSaid : Prop := Claim7.holds Tryd.pinned (.plain (OpenSpec.ofChange zilogBothSpec)) zilogBothCard

/-- THE SECOND FORM's CARD OF 'pidginlaw07.ZilogForms'. -/
def zilogFormsUptoCard : Claim7 := { stood := { row := zilogFormsUptoRow, standIns := [], harness := (true, "d84b243b06e9491c71822e570214048d52a5a1d737b721702ba45d8290990f2f"), looks := false }, kinds := [], alts := [], laidByText := true, laidKinds := [.data, .listed, .data, .pinned], laidTests := true, laidLooks := .later }
def ZilogFormsUptoCardSaid : Prop := Claim7.holds Tryd.pinned (.plain (OpenSpec.upto zilogFormsSpec)) zilogFormsUptoCard

/-- THE SECOND FORM's CARD OF 'pidginlaw07.ZilogNames'. -/
def zilogNamesUptoCard : Claim7 := { stood := { row := zilogNamesUptoRow, standIns := [], harness := (true, "d84b243b06e9491c71822e570214048d52a5a1d737b721702ba45d8290990f2f"), looks := false }, kinds := [], alts := [], laidByText := true, laidKinds := [.data, .listed, .data, .pinned], laidTests := true, laidLooks := .later }
def ZilogNamesUptoCardSaid : Prop := Claim7.holds Tryd.pinned (.plain (OpenSpec.upto zilogNamesSpec)) zilogNamesUptoCard

/-- THE SECOND FORM's CARD OF 'pidginlaw07.ZilogApart'. -/
def zilogApartUptoCard : Claim7 := { stood := { row := zilogApartUptoRow, standIns := [], harness := (true, "d84b243b06e9491c71822e570214048d52a5a1d737b721702ba45d8290990f2f"), looks := false }, kinds := [], alts := [], laidByText := true, laidKinds := [.data, .listed, .data, .pinned], laidTests := true, laidLooks := .later }
def ZilogApartUptoCardSaid : Prop := Claim7.holds Tryd.pinned (.plain (OpenSpec.upto zilogApartSpec)) zilogApartUptoCard

/-- THE SECOND FORM's CARD OF 'pidginlaw07.ZilogKinds'. -/
def zilogKindsUptoCard : Claim7 := { stood := { row := zilogKindsUptoRow, standIns := [], harness := (true, "d84b243b06e9491c71822e570214048d52a5a1d737b721702ba45d8290990f2f"), looks := false }, kinds := [], alts := [], laidByText := true, laidKinds := [.data, .listed, .data, .pinned], laidTests := true, laidLooks := .later }
def ZilogKindsUptoCardSaid : Prop := Claim7.holds Tryd.pinned (.plain (OpenSpec.upto zilogKindsSpec)) zilogKindsUptoCard

/-- THE SECOND FORM's CARD OF 'pidginlaw07.ZilogBoth'. -/
def zilogBothUptoCard : Claim7 := { stood := { row := zilogBothUptoRow, standIns := [], harness := (true, "d84b243b06e9491c71822e570214048d52a5a1d737b721702ba45d8290990f2f"), looks := false }, kinds := [], alts := [], laidByText := true, laidKinds := [.data, .listed, .data, .pinned], laidTests := true, laidLooks := .later }
def ZilogBothUptoCardSaid : Prop := Claim7.holds Tryd.pinned (.plain (OpenSpec.upto zilogBothSpec)) zilogBothUptoCard
end Rows
end Go.Proofs.YtkoeiednpbedlaaDoor
