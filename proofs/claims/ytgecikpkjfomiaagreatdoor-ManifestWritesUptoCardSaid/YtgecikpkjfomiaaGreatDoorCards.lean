/-
  DERIVED. GIVEN WITH THE SEED: THE CARDS: each row of YtgecikpkjfomiaaGreatDoorRows.lean that lists a variable, with what it lists TIED to the program's text (the seventh form; the later family's looks); each row that meets fmt, with fmt's text TOLD by the authors' own Lean function (tested against real Go, not proved from fmt's source: count such statements apart). THE CARD IS WHAT COUNTS. Prove the row's statement (the work); the ties are given (YtgecikpkjfomiaaGreatDoorTie.lean); close each card by the builder's one call (the guide's Derived/Test/ToyasCard.lean, 'card_holds'). Laid BY PROGRAM, IN A SANDBOX (cutbox-door.mjs). By AI agents, Wed Nov 11 2026. No macro, syntax, notation, axiom, sorry.
-/
import Derived.Test.YtgecikpkjfomiaaGreatDoorRows
import GoSem.ClaimSeven
namespace Go.Proofs.YtgecikpkjfomiaaGreatDoor
namespace Rows

/-- THE TIED CARD OF 'stooklaw26.ManifestBytes'. -/
def manifestBytesCard : Claim7 := { stood := { row := manifestBytesRow, standIns := [], harness := (true, "0a9dcf2080aad61384eda7f6f819f71b5fbffe201fa12271ecf55c6406a5e4ca"), looks := true }, kinds := [], alts := [], laidByText := true, laidKinds := [.data, .data, .data, .sentinel, .sentinel], laidTests := true, laidLooks := .later }
def ManifestBytesCardSaid : Prop := Claim7.holds Tryz.pinned (.plain (OpenSpec.ofChange manifestBytesSpec)) manifestBytesCard

/-- THE TIED CARD OF 'stooklaw26.ManifestWrites'. -/
def manifestWritesCard : Claim7 := { stood := { row := manifestWritesRow, standIns := [], harness := (true, "0a9dcf2080aad61384eda7f6f819f71b5fbffe201fa12271ecf55c6406a5e4ca"), looks := true }, kinds := [], alts := [], laidByText := true, laidKinds := [.data, .data, .data, .sentinel, .sentinel], laidTests := true, laidLooks := .later }
def ManifestWritesCardSaid : Prop := Claim7.holds Tryz.pinned (.plain (OpenSpec.ofChange manifestWritesSpec)) manifestWritesCard

/-- THE TIED CARD OF 'stooklaw26.ManifestFails'. -/
def manifestFailsCard : Claim7 := { stood := { row := manifestFailsRow, standIns := [], harness := (true, "0a9dcf2080aad61384eda7f6f819f71b5fbffe201fa12271ecf55c6406a5e4ca"), looks := true }, kinds := [], alts := [], laidByText := true, laidKinds := [.data, .data, .data, .sentinel, .sentinel], laidTests := true, laidLooks := .later }
def ManifestFailsCardSaid : Prop := Claim7.holds Tryz.pinned (.plain (OpenSpec.ofChange manifestFailsSpec)) manifestFailsCard

/-- THE TIED CARD OF 'stooklaw23.WalBytes'. -/
def walBytesCard : Claim7 := { stood := { row := walBytesRow, standIns := [], harness := (true, "0a9dcf2080aad61384eda7f6f819f71b5fbffe201fa12271ecf55c6406a5e4ca"), looks := true }, kinds := [], alts := [], laidByText := true, laidKinds := [.data, .data, .data, .sentinel, .sentinel], laidTests := true, laidLooks := .later }
def WalBytesCardSaid : Prop := Claim7.holds Tryz.pinned (.plain (OpenSpec.ofChange walBytesSpec)) walBytesCard

/-- THE TIED CARD OF 'stooklaw23.WalOpens'. -/
def walOpensCard : Claim7 := { stood := { row := walOpensRow, standIns := [], harness := (true, "0a9dcf2080aad61384eda7f6f819f71b5fbffe201fa12271ecf55c6406a5e4ca"), looks := true }, kinds := [], alts := [], laidByText := true, laidKinds := [.data, .data, .data, .sentinel, .sentinel], laidTests := true, laidLooks := .later }
def WalOpensCardSaid : Prop := Claim7.holds Tryz.pinned (.plain (OpenSpec.ofChange walOpensSpec)) walOpensCard

/-- THE TIED CARD OF 'stooklaw23.WalNil'. -/
def walNilCard : Claim7 := { stood := { row := walNilRow, standIns := [], harness := (true, "0a9dcf2080aad61384eda7f6f819f71b5fbffe201fa12271ecf55c6406a5e4ca"), looks := true }, kinds := [], alts := [], laidByText := true, laidKinds := [.data, .data, .data, .sentinel, .sentinel], laidTests := true, laidLooks := .later }
def WalNilCardSaid : Prop := Claim7.holds Tryz.pinned (.plain (OpenSpec.ofChange walNilSpec)) walNilCard

/-- THE TIED CARD OF 'stooklaw23.WalPlays'. -/
def walPlaysCard : Claim7 := { stood := { row := walPlaysRow, standIns := [], harness := (true, "0a9dcf2080aad61384eda7f6f819f71b5fbffe201fa12271ecf55c6406a5e4ca"), looks := true }, kinds := [], alts := [], laidByText := true, laidKinds := [.data, .data, .data, .sentinel, .sentinel], laidTests := true, laidLooks := .later }
def WalPlaysCardSaid : Prop := Claim7.holds Tryz.pinned (.plain (OpenSpec.ofChange walPlaysSpec)) walPlaysCard

/-- THE TIED CARD OF 'stooklaw23.WalFails'. -/
def walFailsCard : Claim7 := { stood := { row := walFailsRow, standIns := [], harness := (true, "0a9dcf2080aad61384eda7f6f819f71b5fbffe201fa12271ecf55c6406a5e4ca"), looks := true }, kinds := [], alts := [], laidByText := true, laidKinds := [.data, .data, .data, .sentinel, .sentinel], laidTests := true, laidLooks := .later }
def WalFailsCardSaid : Prop := Claim7.holds Tryz.pinned (.plain (OpenSpec.ofChange walFailsSpec)) walFailsCard

/-- THE SECOND FORM's CARD OF 'stooklaw26.ManifestBytes'. -/
def manifestBytesUptoCard : Claim7 := { stood := { row := manifestBytesUptoRow, standIns := [], harness := (true, "0a9dcf2080aad61384eda7f6f819f71b5fbffe201fa12271ecf55c6406a5e4ca"), looks := true }, kinds := [], alts := [], laidByText := true, laidKinds := [.data, .data, .data, .sentinel, .sentinel], laidTests := true, laidLooks := .later }
def ManifestBytesUptoCardSaid : Prop := Claim7.holds Tryz.pinned (.plain (OpenSpec.upto manifestBytesSpec)) manifestBytesUptoCard

/-- THE SECOND FORM's CARD OF 'stooklaw26.ManifestWrites'. -/
def manifestWritesUptoCard : Claim7 := { stood := { row := manifestWritesUptoRow, standIns := [], harness := (true, "0a9dcf2080aad61384eda7f6f819f71b5fbffe201fa12271ecf55c6406a5e4ca"), looks := true }, kinds := [], alts := [], laidByText := true, laidKinds := [.data, .data, .data, .sentinel, .sentinel], laidTests := true, laidLooks := .later }
def ManifestWritesUptoCardSaid : Prop := Claim7.holds Tryz.pinned (.plain (OpenSpec.upto manifestWritesSpec)) manifestWritesUptoCard

/-- THE SECOND FORM's CARD OF 'stooklaw26.ManifestFails'. -/
def manifestFailsUptoCard : Claim7 := { stood := { row := manifestFailsUptoRow, standIns := [], harness := (true, "0a9dcf2080aad61384eda7f6f819f71b5fbffe201fa12271ecf55c6406a5e4ca"), looks := true }, kinds := [], alts := [], laidByText := true, laidKinds := [.data, .data, .data, .sentinel, .sentinel], laidTests := true, laidLooks := .later }
def ManifestFailsUptoCardSaid : Prop := Claim7.holds Tryz.pinned (.plain (OpenSpec.upto manifestFailsSpec)) manifestFailsUptoCard

/-- THE SECOND FORM's CARD OF 'stooklaw23.WalBytes'. -/
def walBytesUptoCard : Claim7 := { stood := { row := walBytesUptoRow, standIns := [], harness := (true, "0a9dcf2080aad61384eda7f6f819f71b5fbffe201fa12271ecf55c6406a5e4ca"), looks := true }, kinds := [], alts := [], laidByText := true, laidKinds := [.data, .data, .data, .sentinel, .sentinel], laidTests := true, laidLooks := .later }
def WalBytesUptoCardSaid : Prop := Claim7.holds Tryz.pinned (.plain (OpenSpec.upto walBytesSpec)) walBytesUptoCard

/-- THE SECOND FORM's CARD OF 'stooklaw23.WalOpens'. -/
def walOpensUptoCard : Claim7 := { stood := { row := walOpensUptoRow, standIns := [], harness := (true, "0a9dcf2080aad61384eda7f6f819f71b5fbffe201fa12271ecf55c6406a5e4ca"), looks := true }, kinds := [], alts := [], laidByText := true, laidKinds := [.data, .data, .data, .sentinel, .sentinel], laidTests := true, laidLooks := .later }
def WalOpensUptoCardSaid : Prop := Claim7.holds Tryz.pinned (.plain (OpenSpec.upto walOpensSpec)) walOpensUptoCard

/-- THE SECOND FORM's CARD OF 'stooklaw23.WalNil'. -/
def walNilUptoCard : Claim7 := { stood := { row := walNilUptoRow, standIns := [], harness := (true, "0a9dcf2080aad61384eda7f6f819f71b5fbffe201fa12271ecf55c6406a5e4ca"), looks := true }, kinds := [], alts := [], laidByText := true, laidKinds := [.data, .data, .data, .sentinel, .sentinel], laidTests := true, laidLooks := .later }
def WalNilUptoCardSaid : Prop := Claim7.holds Tryz.pinned (.plain (OpenSpec.upto walNilSpec)) walNilUptoCard

/-- THE SECOND FORM's CARD OF 'stooklaw23.WalPlays'. -/
def walPlaysUptoCard : Claim7 := { stood := { row := walPlaysUptoRow, standIns := [], harness := (true, "0a9dcf2080aad61384eda7f6f819f71b5fbffe201fa12271ecf55c6406a5e4ca"), looks := true }, kinds := [], alts := [], laidByText := true, laidKinds := [.data, .data, .data, .sentinel, .sentinel], laidTests := true, laidLooks := .later }
def WalPlaysUptoCardSaid : Prop := Claim7.holds Tryz.pinned (.plain (OpenSpec.upto walPlaysSpec)) walPlaysUptoCard

/-- THE SECOND FORM's CARD OF 'stooklaw23.WalFails'. -/
def walFailsUptoCard : Claim7 := { stood := { row := walFailsUptoRow, standIns := [], harness := (true, "0a9dcf2080aad61384eda7f6f819f71b5fbffe201fa12271ecf55c6406a5e4ca"), looks := true }, kinds := [], alts := [], laidByText := true, laidKinds := [.data, .data, .data, .sentinel, .sentinel], laidTests := true, laidLooks := .later }
def WalFailsUptoCardSaid : Prop := Claim7.holds Tryz.pinned (.plain (OpenSpec.upto walFailsSpec)) walFailsUptoCard
end Rows
end Go.Proofs.YtgecikpkjfomiaaGreatDoor
