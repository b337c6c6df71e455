/-
  DERIVED. GIVEN WITH THE SEED: THE CARDS: each row of YtlgadaapokcmcaaGreatDoorRows.lean that lists a variable, with what it lists TIED to the program's text (the seventh form; the later family's looks); each row that meets fmt, with fmt's text TOLD by the authors' own Lean function (tested against real Go, not proved from fmt's source: count such statements apart). THE CARD IS WHAT COUNTS. Prove the row's statement (the work); the ties are given (YtlgadaapokcmcaaGreatDoorTie.lean); close each card by the builder's one call (the guide's Derived/Test/ToyasCard.lean, 'card_holds'). Laid BY PROGRAM, IN A SANDBOX (cutbox-door.mjs). By AI agents, Wed Nov 11 2026. No macro, syntax, notation, axiom, sorry.
-/
import Derived.Test.YtlgadaapokcmcaaGreatDoorRows
import GoSem.ClaimSeven
namespace Go.Proofs.YtlgadaapokcmcaaGreatDoor
namespace Rows

/-- THE TIED CARD OF 'alumlaw44.SessionNewMatchesSpec'. -/
def sessionNewMatchesSpecCard : Claim7 := { stood := { row := sessionNewMatchesSpecRow, standIns := [], harness := (true, "936e41386e784042985cacb3f6bf367a15a22cc1a16fc0a08c4b29b59d7b8cca"), looks := true }, kinds := [], alts := [], laidByText := true, laidKinds := [.data, .data, .data, .data, .sentinel, .sentinel, .data, .mapped, .pinned, .pinned, .pinned], laidTests := true, laidLooks := .later }
def SessionNewMatchesSpecCardSaid : Prop := Claim7.holds Tryz.pinned (.plain (OpenSpec.ofChange sessionNewMatchesSpecSpec)) sessionNewMatchesSpecCard

/-- THE TIED CARD OF 'alumlaw44.SessionMatchesSpec'. -/
def sessionMatchesSpecCard : Claim7 := { stood := { row := sessionMatchesSpecRow, standIns := [], harness := (true, "936e41386e784042985cacb3f6bf367a15a22cc1a16fc0a08c4b29b59d7b8cca"), looks := true }, kinds := [], alts := [], laidByText := true, laidKinds := [.data, .data, .data, .data, .sentinel, .sentinel, .data, .mapped, .pinned, .pinned, .pinned], laidTests := true, laidLooks := .later }
def SessionMatchesSpecCardSaid : Prop := Claim7.holds Tryz.pinned (.plain (OpenSpec.ofChange sessionMatchesSpecSpec)) sessionMatchesSpecCard

/-- THE SECOND FORM's CARD OF 'alumlaw44.SessionNewMatchesSpec'. -/
def sessionNewMatchesSpecUptoCard : Claim7 := { stood := { row := sessionNewMatchesSpecUptoRow, standIns := [], harness := (true, "936e41386e784042985cacb3f6bf367a15a22cc1a16fc0a08c4b29b59d7b8cca"), looks := true }, kinds := [], alts := [], laidByText := true, laidKinds := [.data, .data, .data, .data, .sentinel, .sentinel, .data, .mapped, .pinned, .pinned, .pinned], laidTests := true, laidLooks := .later }
def SessionNewMatchesSpecUptoCardSaid : Prop := Claim7.holds Tryz.pinned (.plain (OpenSpec.upto sessionNewMatchesSpecSpec)) sessionNewMatchesSpecUptoCard

/-- THE SECOND FORM's CARD OF 'alumlaw44.SessionMatchesSpec'. -/
def sessionMatchesSpecUptoCard : Claim7 := { stood := { row := sessionMatchesSpecUptoRow, standIns := [], harness := (true, "936e41386e784042985cacb3f6bf367a15a22cc1a16fc0a08c4b29b59d7b8cca"), looks := true }, kinds := [], alts := [], laidByText := true, laidKinds := [.data, .data, .data, .data, .sentinel, .sentinel, .data, .mapped, .pinned, .pinned, .pinned], laidTests := true, laidLooks := .later }
def SessionMatchesSpecUptoCardSaid : Prop := Claim7.holds Tryz.pinned (.plain (OpenSpec.upto sessionMatchesSpecSpec)) sessionMatchesSpecUptoCard
end Rows
end Go.Proofs.YtlgadaapokcmcaaGreatDoor
