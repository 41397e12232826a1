/-
  DERIVED. GIVEN WITH THE SEED: THE CARDS: each row of YtpijgeijflbmhaaDoorRows.lean that lists a variable, with what it lists TIED to the program's text (the seventh form; the later family's looks); each row that meets fmt, with fmt's text TOLD by the authors' own Lean function (tested against real Go, not proved from fmt's source: count such statements apart). THE CARD IS WHAT COUNTS. Prove the row's statement (the work); the ties are given (YtpijgeijflbmhaaDoorTie.lean); close each card by the builder's one call (the guide's Derived/Test/ToyasCard.lean, 'card_holds'). Laid BY PROGRAM, IN A SANDBOX (cutbox-door.mjs). By AI agents, Wed Nov 11 2026. No macro, syntax, notation, axiom, sorry.
-/
import Derived.Test.YtpijgeijflbmhaaDoorRows
import GoSem.ClaimSeven
namespace Go.Proofs.YtpijgeijflbmhaaDoor
namespace Rows

/-- THE TIED CARD OF 'lamplighterlaw15.PpredBack'. -/
def ppredBackCard : Claim7 := { stood := { row := ppredBackRow, standIns := [], harness := (true, "9e8a413c664d87c9377098e2c9af7f60accc99a0e040eec980f774eab2c6e035"), looks := true }, kinds := [], alts := [], laidByText := true, laidKinds := [.data, .widerDeep, .data, .pinned], laidTests := true, laidLooks := .later }
def PpredBackCardSaid : Prop := Claim7.holds Tryd.pinned (.plain (OpenSpec.ofChange ppredBackSpec)) ppredBackCard

/-- THE TIED CARD OF 'lamplighterlaw15.PpredStrength'. -/
def ppredStrengthCard : Claim7 := { stood := { row := ppredStrengthRow, standIns := [], harness := (true, "9e8a413c664d87c9377098e2c9af7f60accc99a0e040eec980f774eab2c6e035"), looks := true }, kinds := [], alts := [], laidByText := true, laidKinds := [.data, .widerDeep, .data, .pinned], laidTests := true, laidLooks := .later }
def PpredStrengthCardSaid : Prop := Claim7.holds Tryd.pinned (.plain (OpenSpec.ofChange ppredStrengthSpec)) ppredStrengthCard

/-- THE TIED CARD OF 'lamplighterlaw15.PpredBad'. -/
def ppredBadCard : Claim7 := { stood := { row := ppredBadRow, standIns := [], harness := (true, "9e8a413c664d87c9377098e2c9af7f60accc99a0e040eec980f774eab2c6e035"), looks := true }, kinds := [], alts := [], laidByText := true, laidKinds := [.data, .widerDeep, .data, .pinned], laidTests := true, laidLooks := .later }
def PpredBadCardSaid : Prop := Claim7.holds Tryd.pinned (.plain (OpenSpec.ofChange ppredBadSpec)) ppredBadCard

/-- THE TIED CARD OF 'lamplighterlaw17.PpatBack'. -/
def ppatBackCard : Claim7 := { stood := { row := ppatBackRow, standIns := [], harness := (true, "9e8a413c664d87c9377098e2c9af7f60accc99a0e040eec980f774eab2c6e035"), looks := true }, kinds := [], alts := [], laidByText := true, laidKinds := [.data, .widerDeep, .data, .pinned], laidTests := true, laidLooks := .later }
def PpatBackCardSaid : Prop := Claim7.holds Tryd.pinned (.plain (OpenSpec.ofChange ppatBackSpec)) ppatBackCard

/-- THE TIED CARD OF 'lamplighterlaw17.PpatBent'. -/
def ppatBentCard : Claim7 := { stood := { row := ppatBentRow, standIns := [], harness := (true, "9e8a413c664d87c9377098e2c9af7f60accc99a0e040eec980f774eab2c6e035"), looks := true }, kinds := [], alts := [], laidByText := true, laidKinds := [.data, .widerDeep, .data, .pinned], laidTests := true, laidLooks := .later }
def PpatBentCardSaid : Prop := Claim7.holds Tryd.pinned (.plain (OpenSpec.ofChange ppatBentSpec)) ppatBentCard

/-- THE TIED CARD OF 'lamplighterlaw17.PpatBad'. -/
def ppatBadCard : Claim7 := { stood := { row := ppatBadRow, standIns := [], harness := (true, "9e8a413c664d87c9377098e2c9af7f60accc99a0e040eec980f774eab2c6e035"), looks := true }, kinds := [], alts := [], laidByText := true, laidKinds := [.data, .widerDeep, .data, .pinned], laidTests := true, laidLooks := .later }
def PpatBadCardSaid : Prop := Claim7.holds Tryd.pinned (.plain (OpenSpec.ofChange ppatBadSpec)) ppatBadCard

/-- THE SECOND FORM's CARD OF 'lamplighterlaw15.PpredBack'. -/
def ppredBackUptoCard : Claim7 := { stood := { row := ppredBackUptoRow, standIns := [], harness := (true, "9e8a413c664d87c9377098e2c9af7f60accc99a0e040eec980f774eab2c6e035"), looks := true }, kinds := [], alts := [], laidByText := true, laidKinds := [.data, .widerDeep, .data, .pinned], laidTests := true, laidLooks := .later }
def PpredBackUptoCardSaid : Prop := Claim7.holds Tryd.pinned (.plain (OpenSpec.upto ppredBackSpec)) ppredBackUptoCard

/-- THE SECOND FORM's CARD OF 'lamplighterlaw15.PpredStrength'. -/
def ppredStrengthUptoCard : Claim7 := { stood := { row := ppredStrengthUptoRow, standIns := [], harness := (true, "9e8a413c664d87c9377098e2c9af7f60accc99a0e040eec980f774eab2c6e035"), looks := true }, kinds := [], alts := [], laidByText := true, laidKinds := [.data, .widerDeep, .data, .pinned], laidTests := true, laidLooks := .later }
def PpredStrengthUptoCardSaid : Prop := Claim7.holds Tryd.pinned (.plain (OpenSpec.upto ppredStrengthSpec)) ppredStrengthUptoCard

/-- THE SECOND FORM's CARD OF 'lamplighterlaw15.PpredBad'. -/
def ppredBadUptoCard : Claim7 := { stood := { row := ppredBadUptoRow, standIns := [], harness := (true, "9e8a413c664d87c9377098e2c9af7f60accc99a0e040eec980f774eab2c6e035"), looks := true }, kinds := [], alts := [], laidByText := true, laidKinds := [.data, .widerDeep, .data, .pinned], laidTests := true, laidLooks := .later }
def PpredBadUptoCardSaid : Prop := Claim7.holds Tryd.pinned (.plain (OpenSpec.upto ppredBadSpec)) ppredBadUptoCard

/-- THE SECOND FORM's CARD OF 'lamplighterlaw17.PpatBack'. -/
def ppatBackUptoCard : Claim7 := { stood := { row := ppatBackUptoRow, standIns := [], harness := (true, "9e8a413c664d87c9377098e2c9af7f60accc99a0e040eec980f774eab2c6e035"), looks := true }, kinds := [], alts := [], laidByText := true, laidKinds := [.data, .widerDeep, .data, .pinned], laidTests := true, laidLooks := .later }
def PpatBackUptoCardSaid : Prop := Claim7.holds Tryd.pinned (.plain (OpenSpec.upto ppatBackSpec)) ppatBackUptoCard

/-- THE SECOND FORM's CARD OF 'lamplighterlaw17.PpatBent'. -/
def ppatBentUptoCard : Claim7 := { stood := { row := ppatBentUptoRow, standIns := [], harness := (true, "9e8a413c664d87c9377098e2c9af7f60accc99a0e040eec980f774eab2c6e035"), looks := true }, kinds := [], alts := [], laidByText := true, laidKinds := [.data, .widerDeep, .data, .pinned], laidTests := true, laidLooks := .later }
def PpatBentUptoCardSaid : Prop := Claim7.holds Tryd.pinned (.plain (OpenSpec.upto ppatBentSpec)) ppatBentUptoCard

/-- THE SECOND FORM's CARD OF 'lamplighterlaw17.PpatBad'. -/
def ppatBadUptoCard : Claim7 := { stood := { row := ppatBadUptoRow, standIns := [], harness := (true, "9e8a413c664d87c9377098e2c9af7f60accc99a0e040eec980f774eab2c6e035"), looks := true }, kinds := [], alts := [], laidByText := true, laidKinds := [.data, .widerDeep, .data, .pinned], laidTests := true, laidLooks := .later }
def PpatBadUptoCardSaid : Prop := Claim7.holds Tryd.pinned (.plain (OpenSpec.upto ppatBadSpec)) ppatBadUptoCard
end Rows
end Go.Proofs.YtpijgeijflbmhaaDoor
