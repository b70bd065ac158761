/-
  DERIVED. GIVEN WITH THE SEED: THE CARDS: each row of YtldnpolfcickaaaDoorRows.lean that lists a variable, with what it lists TIED to the program's text (the seventh form; the later family's looks); each row that meets fmt, with fmt's text TOLD by the authors' own Lean function (tested against real Go, not proved from fmt's source: count such statements apart). THE CARD IS WHAT COUNTS. Prove the row's statement (the work); the ties are given (YtldnpolfcickaaaDoorTie.lean); close each card by the builder's one call (the guide's Derived/Test/ToyasCard.lean, 'card_holds'). Laid BY PROGRAM, IN A SANDBOX (cutbox-door.mjs). By AI agents, Wed Nov 11 2026. No macro, syntax, notation, axiom, sorry.
-/
import Derived.Test.YtldnpolfcickaaaDoorRows
import GoSem.ClaimSeven
namespace Go.Proofs.YtldnpolfcickaaaDoor
namespace Rows

/-- THE TIED CARD OF 'wharfagelaw10.CallOne'. -/
def callOneCard : Claim7 := { stood := { row := callOneRow, standIns := [], harness := (true, "6cbc3b8be30cd846fc6c757b14bc11082197b74bd668b88c7d2210c54e6d7f99"), looks := true }, kinds := [], alts := [], laidByText := true, laidKinds := [.data, .pinned], laidTests := true, laidLooks := .later }
def CallOneCardSaid : Prop := Claim7.holds Tryd.pinned (.plain (OpenSpec.ofChange callOneSpec)) callOneCard

/-- THE TIED CARD OF 'wharfagelaw14.BoxBack'. -/
def boxBackCard : Claim7 := { stood := { row := boxBackRow, standIns := [], harness := (true, "6cbc3b8be30cd846fc6c757b14bc11082197b74bd668b88c7d2210c54e6d7f99"), looks := true }, kinds := [], alts := [], laidByText := true, laidKinds := [.data, .pinned], laidTests := true, laidLooks := .later }
def BoxBackCardSaid : Prop := Claim7.holds Tryd.pinned (.plain (OpenSpec.ofChange boxBackSpec)) boxBackCard

/-- THE TIED CARD OF 'wharfagelaw20.RpcOnce'. -/
def rpcOnceCard : Claim7 := { stood := { row := rpcOnceRow, standIns := [], harness := (true, "6cbc3b8be30cd846fc6c757b14bc11082197b74bd668b88c7d2210c54e6d7f99"), looks := true }, kinds := [], alts := [], laidByText := true, laidKinds := [.data, .pinned], laidTests := true, laidLooks := .later }
def RpcOnceCardSaid : Prop := Claim7.holds Tryd.pinned (.plain (OpenSpec.ofChange rpcOnceSpec)) rpcOnceCard

/-- THE TIED CARD OF 'wharfagelaw20.RpcNil'. -/
def rpcNilCard : Claim7 := { stood := { row := rpcNilRow, standIns := [], harness := (true, "6cbc3b8be30cd846fc6c757b14bc11082197b74bd668b88c7d2210c54e6d7f99"), looks := true }, kinds := [], alts := [], laidByText := true, laidKinds := [.data, .pinned], laidTests := true, laidLooks := .later }
def RpcNilCardSaid : Prop := Claim7.holds Tryd.pinned (.plain (OpenSpec.ofChange rpcNilSpec)) rpcNilCard

/-- THE TIED CARD OF 'wharfagelaw13.TreeBytes'. -/
def treeBytesCard : Claim7 := { stood := { row := treeBytesRow, standIns := [], harness := (true, "6cbc3b8be30cd846fc6c757b14bc11082197b74bd668b88c7d2210c54e6d7f99"), looks := true }, kinds := [], alts := [], laidByText := true, laidKinds := [.data, .pinned], laidTests := true, laidLooks := .later }
def TreeBytesCardSaid : Prop := Claim7.holds Tryd.pinned (.plain (OpenSpec.ofChange treeBytesSpec)) treeBytesCard

/-- THE TIED CARD OF 'wharfagelaw13.TreePlays'. -/
def treePlaysCard : Claim7 := { stood := { row := treePlaysRow, standIns := [], harness := (true, "6cbc3b8be30cd846fc6c757b14bc11082197b74bd668b88c7d2210c54e6d7f99"), looks := true }, kinds := [], alts := [], laidByText := true, laidKinds := [.data, .pinned], laidTests := true, laidLooks := .later }
def TreePlaysCardSaid : Prop := Claim7.holds Tryd.pinned (.plain (OpenSpec.ofChange treePlaysSpec)) treePlaysCard

/-- THE SECOND FORM's CARD OF 'wharfagelaw10.CallOne'. -/
def callOneUptoCard : Claim7 := { stood := { row := callOneUptoRow, standIns := [], harness := (true, "6cbc3b8be30cd846fc6c757b14bc11082197b74bd668b88c7d2210c54e6d7f99"), looks := true }, kinds := [], alts := [], laidByText := true, laidKinds := [.data, .pinned], laidTests := true, laidLooks := .later }
def CallOneUptoCardSaid : Prop := Claim7.holds Tryd.pinned (.plain (OpenSpec.upto callOneSpec)) callOneUptoCard

/-- THE SECOND FORM's CARD OF 'wharfagelaw14.BoxBack'. -/
def boxBackUptoCard : Claim7 := { stood := { row := boxBackUptoRow, standIns := [], harness := (true, "6cbc3b8be30cd846fc6c757b14bc11082197b74bd668b88c7d2210c54e6d7f99"), looks := true }, kinds := [], alts := [], laidByText := true, laidKinds := [.data, .pinned], laidTests := true, laidLooks := .later }
def BoxBackUptoCardSaid : Prop := Claim7.holds Tryd.pinned (.plain (OpenSpec.upto boxBackSpec)) boxBackUptoCard

/-- THE SECOND FORM's CARD OF 'wharfagelaw20.RpcOnce'. -/
def rpcOnceUptoCard : Claim7 := { stood := { row := rpcOnceUptoRow, standIns := [], harness := (true, "6cbc3b8be30cd846fc6c757b14bc11082197b74bd668b88c7d2210c54e6d7f99"), looks := true }, kinds := [], alts := [], laidByText := true, laidKinds := [.data, .pinned], laidTests := true, laidLooks := .later }
def RpcOnceUptoCardSaid : Prop := Claim7.holds Tryd.pinned (.plain (OpenSpec.upto rpcOnceSpec)) rpcOnceUptoCard

/-- THE SECOND FORM's CARD OF 'wharfagelaw20.RpcNil'. -/
def rpcNilUptoCard : Claim7 := { stood := { row := rpcNilUptoRow, standIns := [], harness := (true, "6cbc3b8be30cd846fc6c757b14bc11082197b74bd668b88c7d2210c54e6d7f99"), looks := true }, kinds := [], alts := [], laidByText := true, laidKinds := [.data, .pinned], laidTests := true, laidLooks := .later }
def RpcNilUptoCardSaid : Prop := Claim7.holds Tryd.pinned (.plain (OpenSpec.upto rpcNilSpec)) rpcNilUptoCard

/-- THE SECOND FORM's CARD OF 'wharfagelaw13.TreeBytes'. -/
def treeBytesUptoCard : Claim7 := { stood := { row := treeBytesUptoRow, standIns := [], harness := (true, "6cbc3b8be30cd846fc6c757b14bc11082197b74bd668b88c7d2210c54e6d7f99"), looks := true }, kinds := [], alts := [], laidByText := true, laidKinds := [.data, .pinned], laidTests := true, laidLooks := .later }
def TreeBytesUptoCardSaid : Prop := Claim7.holds Tryd.pinned (.plain (OpenSpec.upto treeBytesSpec)) treeBytesUptoCard

/-- THE SECOND FORM's CARD OF 'wharfagelaw13.TreePlays'. -/
def treePlaysUptoCard : Claim7 := { stood := { row := treePlaysUptoRow, standIns := [], harness := (true, "6cbc3b8be30cd846fc6c757b14bc11082197b74bd668b88c7d2210c54e6d7f99"), looks := true }, kinds := [], alts := [], laidByText := true, laidKinds := [.data, .pinned], laidTests := true, laidLooks := .later }
def TreePlaysUptoCardSaid : Prop := Claim7.holds Tryd.pinned (.plain (OpenSpec.upto treePlaysSpec)) treePlaysUptoCard
end Rows
end Go.Proofs.YtldnpolfcickaaaDoor
