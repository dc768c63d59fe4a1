/-
  DERIVED. GIVEN WITH THE SEED: THE CARDS: each row of YtboodcekjooehaaDoorRows.lean that lists a variable, with what it lists TIED to the program's text (the seventh form; the later family's looks); each row that meets fmt, with fmt's text TOLD by the authors' own Lean function (tested against real Go, not proved from fmt's source: count such statements apart). THE CARD IS WHAT COUNTS. Prove the row's statement (the work); the ties are given (YtboodcekjooehaaDoorTie.lean); close each card by the builder's one call (the guide's Derived/Test/ToyasCard.lean, 'card_holds'). Laid BY PROGRAM, IN A SANDBOX (cutbox-door.mjs). By AI agents, Wed Nov 11 2026. No macro, syntax, notation, axiom, sorry.
-/
import Derived.Test.YtboodcekjooehaaDoorRows
import GoSem.ClaimSeven
namespace Go.Proofs.YtboodcekjooehaaDoor
namespace Rows

/-- THE TIED CARD OF 'isochronlaw02.RatMakes'. -/
def ratMakesCard : Claim7 := { stood := { row := ratMakesRow, standIns := [], harness := (true, "2784fcc885c48b46913c8ff6e9070fd1d4de13794d95b1ecc0d96ddcea515bef"), looks := false }, kinds := [], alts := [], laidByText := true, laidKinds := [.data], laidTests := true, laidLooks := .later }
def RatMakesCardSaid : Prop := Claim7.holds Tryd.pinned (.plain (OpenSpec.ofChange ratMakesSpec)) ratMakesCard

/-- THE TIED CARD OF 'isochronlaw02.RatSums'. -/
def ratSumsCard : Claim7 := { stood := { row := ratSumsRow, standIns := [], harness := (true, "2784fcc885c48b46913c8ff6e9070fd1d4de13794d95b1ecc0d96ddcea515bef"), looks := false }, kinds := [], alts := [], laidByText := true, laidKinds := [.data], laidTests := true, laidLooks := .later }
def RatSumsCardSaid : Prop := Claim7.holds Tryd.pinned (.plain (OpenSpec.ofChange ratSumsSpec)) ratSumsCard

/-- THE TIED CARD OF 'isochronlaw02.RatField'. -/
def ratFieldCard : Claim7 := { stood := { row := ratFieldRow, standIns := [], harness := (true, "2784fcc885c48b46913c8ff6e9070fd1d4de13794d95b1ecc0d96ddcea515bef"), looks := false }, kinds := [], alts := [], laidByText := true, laidKinds := [.data], laidTests := true, laidLooks := .later }
def RatFieldCardSaid : Prop := Claim7.holds Tryd.pinned (.plain (OpenSpec.ofChange ratFieldSpec)) ratFieldCard

/-- THE TIED CARD OF 'isochronlaw02.RatOrder'. -/
def ratOrderCard : Claim7 := { stood := { row := ratOrderRow, standIns := [], harness := (true, "2784fcc885c48b46913c8ff6e9070fd1d4de13794d95b1ecc0d96ddcea515bef"), looks := false }, kinds := [], alts := [], laidByText := true, laidKinds := [.data], laidTests := true, laidLooks := .later }
def RatOrderCardSaid : Prop := Claim7.holds Tryd.pinned (.plain (OpenSpec.ofChange ratOrderSpec)) ratOrderCard

/-- THE TIED CARD OF 'isochronlaw02.RatScales'. -/
def ratScalesCard : Claim7 := { stood := { row := ratScalesRow, standIns := [], harness := (true, "2784fcc885c48b46913c8ff6e9070fd1d4de13794d95b1ecc0d96ddcea515bef"), looks := false }, kinds := [], alts := [], laidByText := true, laidKinds := [.data], laidTests := true, laidLooks := .later }
def RatScalesCardSaid : Prop := Claim7.holds Tryd.pinned (.plain (OpenSpec.ofChange ratScalesSpec)) ratScalesCard

/-- THE TIED CARD OF 'isochronlaw02.RatKnown'. -/
def ratKnownCard : Claim7 := { stood := { row := ratKnownRow, standIns := [], harness := (true, "2784fcc885c48b46913c8ff6e9070fd1d4de13794d95b1ecc0d96ddcea515bef"), looks := false }, kinds := [], alts := [], laidByText := true, laidKinds := [.data], laidTests := true, laidLooks := .later }
def RatKnownCardSaid : Prop := Claim7.holds Tryd.pinned (.plain (OpenSpec.ofChange ratKnownSpec)) ratKnownCard

/-- THE TIED CARD OF 'isochronlaw02.RatOrders'. -/
def ratOrdersCard : Claim7 := { stood := { row := ratOrdersRow, standIns := [], harness := (true, "2784fcc885c48b46913c8ff6e9070fd1d4de13794d95b1ecc0d96ddcea515bef"), looks := false }, kinds := [], alts := [], laidByText := true, laidKinds := [.data], laidTests := true, laidLooks := .later }
def RatOrdersCardSaid : Prop := Claim7.holds Tryd.pinned (.plain (OpenSpec.ofChange ratOrdersSpec)) ratOrdersCard

/-- THE SECOND FORM's CARD OF 'isochronlaw02.RatMakes'. -/
def ratMakesUptoCard : Claim7 := { stood := { row := ratMakesUptoRow, standIns := [], harness := (true, "2784fcc885c48b46913c8ff6e9070fd1d4de13794d95b1ecc0d96ddcea515bef"), looks := false }, kinds := [], alts := [], laidByText := true, laidKinds := [.data], laidTests := true, laidLooks := .later }
def RatMakesUptoCardSaid : Prop := Claim7.holds Tryd.pinned (.plain (OpenSpec.upto ratMakesSpec)) ratMakesUptoCard

/-- THE SECOND FORM's CARD OF 'isochronlaw02.RatSums'. -/
def ratSumsUptoCard : Claim7 := { stood := { row := ratSumsUptoRow, standIns := [], harness := (true, "2784fcc885c48b46913c8ff6e9070fd1d4de13794d95b1ecc0d96ddcea515bef"), looks := false }, kinds := [], alts := [], laidByText := true, laidKinds := [.data], laidTests := true, laidLooks := .later }
def RatSumsUptoCardSaid : Prop := Claim7.holds Tryd.pinned (.plain (OpenSpec.upto ratSumsSpec)) ratSumsUptoCard

/-- THE SECOND FORM's CARD OF 'isochronlaw02.RatField'. -/
def ratFieldUptoCard : Claim7 := { stood := { row := ratFieldUptoRow, standIns := [], harness := (true, "2784fcc885c48b46913c8ff6e9070fd1d4de13794d95b1ecc0d96ddcea515bef"), looks := false }, kinds := [], alts := [], laidByText := true, laidKinds := [.data], laidTests := true, laidLooks := .later }
def RatFieldUptoCardSaid : Prop := Claim7.holds Tryd.pinned (.plain (OpenSpec.upto ratFieldSpec)) ratFieldUptoCard

/-- THE SECOND FORM's CARD OF 'isochronlaw02.RatOrder'. -/
def ratOrderUptoCard : Claim7 := { stood := { row := ratOrderUptoRow, standIns := [], harness := (true, "2784fcc885c48b46913c8ff6e9070fd1d4de13794d95b1ecc0d96ddcea515bef"), looks := false }, kinds := [], alts := [], laidByText := true, laidKinds := [.data], laidTests := true, laidLooks := .later }
def RatOrderUptoCardSaid : Prop := Claim7.holds Tryd.pinned (.plain (OpenSpec.upto ratOrderSpec)) ratOrderUptoCard

/-- THE SECOND FORM's CARD OF 'isochronlaw02.RatScales'. -/
def ratScalesUptoCard : Claim7 := { stood := { row := ratScalesUptoRow, standIns := [], harness := (true, "2784fcc885c48b46913c8ff6e9070fd1d4de13794d95b1ecc0d96ddcea515bef"), looks := false }, kinds := [], alts := [], laidByText := true, laidKinds := [.data], laidTests := true, laidLooks := .later }
def RatScalesUptoCardSaid : Prop := Claim7.holds Tryd.pinned (.plain (OpenSpec.upto ratScalesSpec)) ratScalesUptoCard

/-- THE SECOND FORM's CARD OF 'isochronlaw02.RatKnown'. -/
def ratKnownUptoCard : Claim7 := { stood := { row := ratKnownUptoRow, standIns := [], harness := (true, "2784fcc885c48b46913c8ff6e9070fd1d4de13794d95b1ecc0d96ddcea515bef"), looks := false }, kinds := [], alts := [], laidByText := true, laidKinds := [.data], laidTests := true, laidLooks := .later }
def RatKnownUptoCardSaid : Prop := Claim7.holds Tryd.pinned (.plain (OpenSpec.upto ratKnownSpec)) ratKnownUptoCard

/-- THE SECOND FORM's CARD OF 'isochronlaw02.RatOrders'. -/
def ratOrdersUptoCard : Claim7 := { stood := { row := ratOrdersUptoRow, standIns := [], harness := (true, "2784fcc885c48b46913c8ff6e9070fd1d4de13794d95b1ecc0d96ddcea515bef"), looks := false }, kinds := [], alts := [], laidByText := true, laidKinds := [.data], laidTests := true, laidLooks := .later }
def RatOrdersUptoCardSaid : Prop := Claim7.holds Tryd.pinned (.plain (OpenSpec.upto ratOrdersSpec)) ratOrdersUptoCard
end Rows
end Go.Proofs.YtboodcekjooehaaDoor
