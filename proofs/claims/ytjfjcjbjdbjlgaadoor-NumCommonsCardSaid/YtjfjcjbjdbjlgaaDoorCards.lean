/-
  DERIVED. GIVEN WITH THE SEED: THE CARDS: each row of YtjfjcjbjdbjlgaaDoorRows.lean that lists a variable, with what it lists TIED to the program's text (the seventh form; the later family's looks); each row that meets fmt, with fmt's text TOLD by the authors' own Lean function (tested against real Go, not proved from fmt's source: count such statements apart). THE CARD IS WHAT COUNTS. Prove the row's statement (the work); the ties are given (YtjfjcjbjdbjlgaaDoorTie.lean); close each card by the builder's one call (the guide's Derived/Test/ToyasCard.lean, 'card_holds'). Laid BY PROGRAM, IN A SANDBOX (cutbox-door.mjs). By AI agents, Wed Nov 11 2026. No macro, syntax, notation, axiom, sorry.
-/
import Derived.Test.YtjfjcjbjdbjlgaaDoorRows
import GoSem.ClaimSeven
namespace Go.Proofs.YtjfjcjbjdbjlgaaDoor
namespace Rows

/-- THE TIED CARD OF 'isochronlaw01.NumDivides'. -/
def numDividesCard : Claim7 := { stood := { row := numDividesRow, standIns := [], harness := (true, "550a3f2c7f4969166d752fd3825b6f3845e50636895c89b86128143f9ef1af14"), looks := false }, kinds := [], alts := [], laidByText := true, laidKinds := [.data], laidTests := true, laidLooks := .later }
def NumDividesCardSaid : Prop := Claim7.holds Tryd.pinned (.plain (OpenSpec.ofChange numDividesSpec)) numDividesCard

/-- THE TIED CARD OF 'isochronlaw01.NumScales'. -/
def numScalesCard : Claim7 := { stood := { row := numScalesRow, standIns := [], harness := (true, "550a3f2c7f4969166d752fd3825b6f3845e50636895c89b86128143f9ef1af14"), looks := false }, kinds := [], alts := [], laidByText := true, laidKinds := [.data], laidTests := true, laidLooks := .later }
def NumScalesCardSaid : Prop := Claim7.holds Tryd.pinned (.plain (OpenSpec.ofChange numScalesSpec)) numScalesCard

/-- THE TIED CARD OF 'isochronlaw01.NumCommons'. -/
def numCommonsCard : Claim7 := { stood := { row := numCommonsRow, standIns := [], harness := (true, "550a3f2c7f4969166d752fd3825b6f3845e50636895c89b86128143f9ef1af14"), looks := false }, kinds := [], alts := [], laidByText := true, laidKinds := [.data], laidTests := true, laidLooks := .later }
def NumCommonsCardSaid : Prop := Claim7.holds Tryd.pinned (.plain (OpenSpec.ofChange numCommonsSpec)) numCommonsCard

/-- THE TIED CARD OF 'isochronlaw01.NumExact'. -/
def numExactCard : Claim7 := { stood := { row := numExactRow, standIns := [], harness := (true, "550a3f2c7f4969166d752fd3825b6f3845e50636895c89b86128143f9ef1af14"), looks := false }, kinds := [], alts := [], laidByText := true, laidKinds := [.data], laidTests := true, laidLooks := .later }
def NumExactCardSaid : Prop := Claim7.holds Tryd.pinned (.plain (OpenSpec.ofChange numExactSpec)) numExactCard

/-- THE TIED CARD OF 'isochronlaw01.NumLarge'. -/
def numLargeCard : Claim7 := { stood := { row := numLargeRow, standIns := [], harness := (true, "550a3f2c7f4969166d752fd3825b6f3845e50636895c89b86128143f9ef1af14"), looks := false }, kinds := [], alts := [], laidByText := true, laidKinds := [.data], laidTests := true, laidLooks := .later }
def NumLargeCardSaid : Prop := Claim7.holds Tryd.pinned (.plain (OpenSpec.ofChange numLargeSpec)) numLargeCard

/-- THE TIED CARD OF 'isochronlaw01.NumShares'. -/
def numSharesCard : Claim7 := { stood := { row := numSharesRow, standIns := [], harness := (true, "550a3f2c7f4969166d752fd3825b6f3845e50636895c89b86128143f9ef1af14"), looks := false }, kinds := [], alts := [], laidByText := true, laidKinds := [.data], laidTests := true, laidLooks := .later }
def NumSharesCardSaid : Prop := Claim7.holds Tryd.pinned (.plain (OpenSpec.ofChange numSharesSpec)) numSharesCard

/-- THE TIED CARD OF 'isochronlaw01.NumSums'. -/
def numSumsCard : Claim7 := { stood := { row := numSumsRow, standIns := [], harness := (true, "550a3f2c7f4969166d752fd3825b6f3845e50636895c89b86128143f9ef1af14"), looks := false }, kinds := [], alts := [], laidByText := true, laidKinds := [.data], laidTests := true, laidLooks := .later }
def NumSumsCardSaid : Prop := Claim7.holds Tryd.pinned (.plain (OpenSpec.ofChange numSumsSpec)) numSumsCard

/-- THE TIED CARD OF 'isochronlaw01.NumKnown'. -/
def numKnownCard : Claim7 := { stood := { row := numKnownRow, standIns := [], harness := (true, "550a3f2c7f4969166d752fd3825b6f3845e50636895c89b86128143f9ef1af14"), looks := false }, kinds := [], alts := [], laidByText := true, laidKinds := [.data], laidTests := true, laidLooks := .later }
def NumKnownCardSaid : Prop := Claim7.holds Tryd.pinned (.plain (OpenSpec.ofChange numKnownSpec)) numKnownCard

/-- THE SECOND FORM's CARD OF 'isochronlaw01.NumDivides'. -/
def numDividesUptoCard : Claim7 := { stood := { row := numDividesUptoRow, standIns := [], harness := (true, "550a3f2c7f4969166d752fd3825b6f3845e50636895c89b86128143f9ef1af14"), looks := false }, kinds := [], alts := [], laidByText := true, laidKinds := [.data], laidTests := true, laidLooks := .later }
def NumDividesUptoCardSaid : Prop := Claim7.holds Tryd.pinned (.plain (OpenSpec.upto numDividesSpec)) numDividesUptoCard

/-- THE SECOND FORM's CARD OF 'isochronlaw01.NumScales'. -/
def numScalesUptoCard : Claim7 := { stood := { row := numScalesUptoRow, standIns := [], harness := (true, "550a3f2c7f4969166d752fd3825b6f3845e50636895c89b86128143f9ef1af14"), looks := false }, kinds := [], alts := [], laidByText := true, laidKinds := [.data], laidTests := true, laidLooks := .later }
def NumScalesUptoCardSaid : Prop := Claim7.holds Tryd.pinned (.plain (OpenSpec.upto numScalesSpec)) numScalesUptoCard

/-- THE SECOND FORM's CARD OF 'isochronlaw01.NumCommons'. -/
def numCommonsUptoCard : Claim7 := { stood := { row := numCommonsUptoRow, standIns := [], harness := (true, "550a3f2c7f4969166d752fd3825b6f3845e50636895c89b86128143f9ef1af14"), looks := false }, kinds := [], alts := [], laidByText := true, laidKinds := [.data], laidTests := true, laidLooks := .later }
def NumCommonsUptoCardSaid : Prop := Claim7.holds Tryd.pinned (.plain (OpenSpec.upto numCommonsSpec)) numCommonsUptoCard

/-- THE SECOND FORM's CARD OF 'isochronlaw01.NumExact'. -/
def numExactUptoCard : Claim7 := { stood := { row := numExactUptoRow, standIns := [], harness := (true, "550a3f2c7f4969166d752fd3825b6f3845e50636895c89b86128143f9ef1af14"), looks := false }, kinds := [], alts := [], laidByText := true, laidKinds := [.data], laidTests := true, laidLooks := .later }
def NumExactUptoCardSaid : Prop := Claim7.holds Tryd.pinned (.plain (OpenSpec.upto numExactSpec)) numExactUptoCard

/-- THE SECOND FORM's CARD OF 'isochronlaw01.NumLarge'. -/
def numLargeUptoCard : Claim7 := { stood := { row := numLargeUptoRow, standIns := [], harness := (true, "550a3f2c7f4969166d752fd3825b6f3845e50636895c89b86128143f9ef1af14"), looks := false }, kinds := [], alts := [], laidByText := true, laidKinds := [.data], laidTests := true, laidLooks := .later }
def NumLargeUptoCardSaid : Prop := Claim7.holds Tryd.pinned (.plain (OpenSpec.upto numLargeSpec)) numLargeUptoCard

/-- THE SECOND FORM's CARD OF 'isochronlaw01.NumShares'. -/
def numSharesUptoCard : Claim7 := { stood := { row := numSharesUptoRow, standIns := [], harness := (true, "550a3f2c7f4969166d752fd3825b6f3845e50636895c89b86128143f9ef1af14"), looks := false }, kinds := [], alts := [], laidByText := true, laidKinds := [.data], laidTests := true, laidLooks := .later }
def NumSharesUptoCardSaid : Prop := Claim7.holds Tryd.pinned (.plain (OpenSpec.upto numSharesSpec)) numSharesUptoCard

/-- THE SECOND FORM's CARD OF 'isochronlaw01.NumSums'. -/
def numSumsUptoCard : Claim7 := { stood := { row := numSumsUptoRow, standIns := [], harness := (true, "550a3f2c7f4969166d752fd3825b6f3845e50636895c89b86128143f9ef1af14"), looks := false }, kinds := [], alts := [], laidByText := true, laidKinds := [.data], laidTests := true, laidLooks := .later }
def NumSumsUptoCardSaid : Prop := Claim7.holds Tryd.pinned (.plain (OpenSpec.upto numSumsSpec)) numSumsUptoCard

/-- THE SECOND FORM's CARD OF 'isochronlaw01.NumKnown'. -/
def numKnownUptoCard : Claim7 := { stood := { row := numKnownUptoRow, standIns := [], harness := (true, "550a3f2c7f4969166d752fd3825b6f3845e50636895c89b86128143f9ef1af14"), looks := false }, kinds := [], alts := [], laidByText := true, laidKinds := [.data], laidTests := true, laidLooks := .later }
def NumKnownUptoCardSaid : Prop := Claim7.holds Tryd.pinned (.plain (OpenSpec.upto numKnownSpec)) numKnownUptoCard
end Rows
end Go.Proofs.YtjfjcjbjdbjlgaaDoor
