/-
  DERIVED. GIVEN WITH THE SEED: THE CARDS: each row of YtpgjecknkmmnhaaDoorRows.lean that lists a variable, with what it lists TIED to the program's text (the seventh form; the later family's looks); each row that meets fmt, with fmt's text TOLD by the authors' own Lean function (tested against real Go, not proved from fmt's source: count such statements apart). THE CARD IS WHAT COUNTS. Prove the row's statement (the work); the ties are given (YtpgjecknkmmnhaaDoorTie.lean); close each card by the builder's one call (the guide's Derived/Test/ToyasCard.lean, 'card_holds'). Laid BY PROGRAM, IN A SANDBOX (cutbox-door.mjs). By AI agents, Wed Nov 11 2026. No macro, syntax, notation, axiom, sorry.
-/
import Derived.Test.YtpgjecknkmmnhaaDoorRows
import GoSem.ClaimSeven
namespace Go.Proofs.YtpgjecknkmmnhaaDoor
namespace Rows

/-- THE TIED CARD OF 'laws.FnExactOpenTab'. -/
def fnExactOpenTabCard : Claim7 := { stood := { row := fnExactOpenTabRow, standIns := [], harness := (true, "c2bd4a7c664ac203ce3d7e9830f20b97dec18e1610217b2695ea17bf4f893047"), looks := false }, kinds := [], alts := [], laidByText := true, laidKinds := [.data, .pinned], laidTests := true, laidLooks := .later }
def FnExactOpenTabCardSaid : Prop := Claim7.holds Tryd.pinned (.plain (OpenSpec.ofChange fnExactOpenTabSpec)) fnExactOpenTabCard

/-- THE TIED CARD OF 'laws.FnExactNavigateTab'. -/
def fnExactNavigateTabCard : Claim7 := { stood := { row := fnExactNavigateTabRow, standIns := [], harness := (true, "c2bd4a7c664ac203ce3d7e9830f20b97dec18e1610217b2695ea17bf4f893047"), looks := false }, kinds := [], alts := [], laidByText := true, laidKinds := [.data, .pinned], laidTests := true, laidLooks := .later }
def FnExactNavigateTabCardSaid : Prop := Claim7.holds Tryd.pinned (.plain (OpenSpec.ofChange fnExactNavigateTabSpec)) fnExactNavigateTabCard

/-- THE SECOND FORM's CARD OF 'laws.FnExactOpenTab'. -/
def fnExactOpenTabUptoCard : Claim7 := { stood := { row := fnExactOpenTabUptoRow, standIns := [], harness := (true, "c2bd4a7c664ac203ce3d7e9830f20b97dec18e1610217b2695ea17bf4f893047"), looks := false }, kinds := [], alts := [], laidByText := true, laidKinds := [.data, .pinned], laidTests := true, laidLooks := .later }
def FnExactOpenTabUptoCardSaid : Prop := Claim7.holds Tryd.pinned (.plain (OpenSpec.upto fnExactOpenTabSpec)) fnExactOpenTabUptoCard

/-- THE SECOND FORM's CARD OF 'laws.FnExactNavigateTab'. -/
def fnExactNavigateTabUptoCard : Claim7 := { stood := { row := fnExactNavigateTabUptoRow, standIns := [], harness := (true, "c2bd4a7c664ac203ce3d7e9830f20b97dec18e1610217b2695ea17bf4f893047"), looks := false }, kinds := [], alts := [], laidByText := true, laidKinds := [.data, .pinned], laidTests := true, laidLooks := .later }
def FnExactNavigateTabUptoCardSaid : Prop := Claim7.holds Tryd.pinned (.plain (OpenSpec.upto fnExactNavigateTabSpec)) fnExactNavigateTabUptoCard
end Rows
end Go.Proofs.YtpgjecknkmmnhaaDoor
