/-
  DERIVED. GIVEN WITH THE SEED: THE CARDS: each row of YtpliecbpcmchaaaGreatDoorRows.lean that lists a variable, with what it lists TIED to the program's text (the seventh form; the later family's looks); each row that meets fmt, with fmt's text TOLD by the authors' own Lean function (tested against real Go, not proved from fmt's source: count such statements apart). THE CARD IS WHAT COUNTS. Prove the row's statement (the work); the ties are given (YtpliecbpcmchaaaGreatDoorTie.lean); close each card by the builder's one call (the guide's Derived/Test/ToyasCard.lean, 'card_holds'). Laid BY PROGRAM, IN A SANDBOX (cutbox-door.mjs). By AI agents, Wed Nov 11 2026. No macro, syntax, notation, axiom, sorry.
-/
import Derived.Test.YtpliecbpcmchaaaGreatDoorRows
import GoSem.ClaimSeven
namespace Go.Proofs.YtpliecbpcmchaaaGreatDoor
namespace Rows

/-- THE TIED CARD OF 'earshotlaw05.SoundJoins'. -/
def soundJoinsCard : Claim7 := { stood := { row := soundJoinsRow, standIns := [], harness := (true, "078c8375dd06dff7bfaf85f790418e8d8b917cffdf592fc304271a346642f2ea"), looks := false }, kinds := [], alts := [], laidByText := true, laidKinds := [.data, .data, .data], laidTests := true, laidLooks := .later }
def SoundJoinsCardSaid : Prop := Claim7.holds Tryz.pinned (.plain (OpenSpec.ofChange soundJoinsSpec)) soundJoinsCard

/-- THE TIED CARD OF 'earshotlaw05.SoundReturns'. -/
def soundReturnsCard : Claim7 := { stood := { row := soundReturnsRow, standIns := [], harness := (true, "078c8375dd06dff7bfaf85f790418e8d8b917cffdf592fc304271a346642f2ea"), looks := false }, kinds := [], alts := [], laidByText := true, laidKinds := [.data, .data, .data], laidTests := true, laidLooks := .later }
def SoundReturnsCardSaid : Prop := Claim7.holds Tryz.pinned (.plain (OpenSpec.ofChange soundReturnsSpec)) soundReturnsCard

/-- THE TIED CARD OF 'earshotlaw05.SoundSums'. -/
def soundSumsCard : Claim7 := { stood := { row := soundSumsRow, standIns := [], harness := (true, "078c8375dd06dff7bfaf85f790418e8d8b917cffdf592fc304271a346642f2ea"), looks := false }, kinds := [], alts := [], laidByText := true, laidKinds := [.data, .data, .data], laidTests := true, laidLooks := .later }
def SoundSumsCardSaid : Prop := Claim7.holds Tryz.pinned (.plain (OpenSpec.ofChange soundSumsSpec)) soundSumsCard

/-- THE TIED CARD OF 'earshotlaw05.SoundPrecise'. -/
def soundPreciseCard : Claim7 := { stood := { row := soundPreciseRow, standIns := [], harness := (true, "078c8375dd06dff7bfaf85f790418e8d8b917cffdf592fc304271a346642f2ea"), looks := false }, kinds := [], alts := [], laidByText := true, laidKinds := [.data, .data, .data], laidTests := true, laidLooks := .later }
def SoundPreciseCardSaid : Prop := Claim7.holds Tryz.pinned (.plain (OpenSpec.ofChange soundPreciseSpec)) soundPreciseCard

/-- THE TIED CARD OF 'earshotlaw05.SoundLexicons'. -/
def soundLexiconsCard : Claim7 := { stood := { row := soundLexiconsRow, standIns := [], harness := (true, "078c8375dd06dff7bfaf85f790418e8d8b917cffdf592fc304271a346642f2ea"), looks := false }, kinds := [], alts := [], laidByText := true, laidKinds := [.data, .data, .data], laidTests := true, laidLooks := .later }
def SoundLexiconsCardSaid : Prop := Claim7.holds Tryz.pinned (.plain (OpenSpec.ofChange soundLexiconsSpec)) soundLexiconsCard

/-- THE TIED CARD OF 'earshotlaw05.SoundVariants'. -/
def soundVariantsCard : Claim7 := { stood := { row := soundVariantsRow, standIns := [], harness := (true, "078c8375dd06dff7bfaf85f790418e8d8b917cffdf592fc304271a346642f2ea"), looks := false }, kinds := [], alts := [], laidByText := true, laidKinds := [.data, .data, .data], laidTests := true, laidLooks := .later }
def SoundVariantsCardSaid : Prop := Claim7.holds Tryz.pinned (.plain (OpenSpec.ofChange soundVariantsSpec)) soundVariantsCard

/-- THE TIED CARD OF 'earshotlaw05.SoundHomophones'. -/
def soundHomophonesCard : Claim7 := { stood := { row := soundHomophonesRow, standIns := [], harness := (true, "078c8375dd06dff7bfaf85f790418e8d8b917cffdf592fc304271a346642f2ea"), looks := false }, kinds := [], alts := [], laidByText := true, laidKinds := [.data, .data, .data], laidTests := true, laidLooks := .later }
def SoundHomophonesCardSaid : Prop := Claim7.holds Tryz.pinned (.plain (OpenSpec.ofChange soundHomophonesSpec)) soundHomophonesCard

/-- THE TIED CARD OF 'earshotlaw05.SoundTrees'. -/
def soundTreesCard : Claim7 := { stood := { row := soundTreesRow, standIns := [], harness := (true, "078c8375dd06dff7bfaf85f790418e8d8b917cffdf592fc304271a346642f2ea"), looks := false }, kinds := [], alts := [], laidByText := true, laidKinds := [.data, .data, .data], laidTests := true, laidLooks := .later }
def SoundTreesCardSaid : Prop := Claim7.holds Tryz.pinned (.plain (OpenSpec.ofChange soundTreesSpec)) soundTreesCard

/-- THE TIED CARD OF 'earshotlaw05.SoundWalks'. -/
def soundWalksCard : Claim7 := { stood := { row := soundWalksRow, standIns := [], harness := (true, "078c8375dd06dff7bfaf85f790418e8d8b917cffdf592fc304271a346642f2ea"), looks := false }, kinds := [], alts := [], laidByText := true, laidKinds := [.data, .data, .data], laidTests := true, laidLooks := .later }
def SoundWalksCardSaid : Prop := Claim7.holds Tryz.pinned (.plain (OpenSpec.ofChange soundWalksSpec)) soundWalksCard

/-- THE TIED CARD OF 'earshotlaw05.SoundMakes'. -/
def soundMakesCard : Claim7 := { stood := { row := soundMakesRow, standIns := [], harness := (true, "078c8375dd06dff7bfaf85f790418e8d8b917cffdf592fc304271a346642f2ea"), looks := false }, kinds := [], alts := [], laidByText := true, laidKinds := [.data, .data, .data], laidTests := true, laidLooks := .later }
def SoundMakesCardSaid : Prop := Claim7.holds Tryz.pinned (.plain (OpenSpec.ofChange soundMakesSpec)) soundMakesCard

/-- THE TIED CARD OF 'earshotlaw05.SoundOrders'. -/
def soundOrdersCard : Claim7 := { stood := { row := soundOrdersRow, standIns := [], harness := (true, "078c8375dd06dff7bfaf85f790418e8d8b917cffdf592fc304271a346642f2ea"), looks := false }, kinds := [], alts := [], laidByText := true, laidKinds := [.data, .data, .data], laidTests := true, laidLooks := .later }
def SoundOrdersCardSaid : Prop := Claim7.holds Tryz.pinned (.plain (OpenSpec.ofChange soundOrdersSpec)) soundOrdersCard

/-- THE SECOND FORM's CARD OF 'earshotlaw05.SoundJoins'. -/
def soundJoinsUptoCard : Claim7 := { stood := { row := soundJoinsUptoRow, standIns := [], harness := (true, "078c8375dd06dff7bfaf85f790418e8d8b917cffdf592fc304271a346642f2ea"), looks := false }, kinds := [], alts := [], laidByText := true, laidKinds := [.data, .data, .data], laidTests := true, laidLooks := .later }
def SoundJoinsUptoCardSaid : Prop := Claim7.holds Tryz.pinned (.plain (OpenSpec.upto soundJoinsSpec)) soundJoinsUptoCard

/-- THE SECOND FORM's CARD OF 'earshotlaw05.SoundReturns'. -/
def soundReturnsUptoCard : Claim7 := { stood := { row := soundReturnsUptoRow, standIns := [], harness := (true, "078c8375dd06dff7bfaf85f790418e8d8b917cffdf592fc304271a346642f2ea"), looks := false }, kinds := [], alts := [], laidByText := true, laidKinds := [.data, .data, .data], laidTests := true, laidLooks := .later }
def SoundReturnsUptoCardSaid : Prop := Claim7.holds Tryz.pinned (.plain (OpenSpec.upto soundReturnsSpec)) soundReturnsUptoCard

/-- THE SECOND FORM's CARD OF 'earshotlaw05.SoundSums'. -/
def soundSumsUptoCard : Claim7 := { stood := { row := soundSumsUptoRow, standIns := [], harness := (true, "078c8375dd06dff7bfaf85f790418e8d8b917cffdf592fc304271a346642f2ea"), looks := false }, kinds := [], alts := [], laidByText := true, laidKinds := [.data, .data, .data], laidTests := true, laidLooks := .later }
def SoundSumsUptoCardSaid : Prop := Claim7.holds Tryz.pinned (.plain (OpenSpec.upto soundSumsSpec)) soundSumsUptoCard

/-- THE SECOND FORM's CARD OF 'earshotlaw05.SoundPrecise'. -/
def soundPreciseUptoCard : Claim7 := { stood := { row := soundPreciseUptoRow, standIns := [], harness := (true, "078c8375dd06dff7bfaf85f790418e8d8b917cffdf592fc304271a346642f2ea"), looks := false }, kinds := [], alts := [], laidByText := true, laidKinds := [.data, .data, .data], laidTests := true, laidLooks := .later }
def SoundPreciseUptoCardSaid : Prop := Claim7.holds Tryz.pinned (.plain (OpenSpec.upto soundPreciseSpec)) soundPreciseUptoCard

/-- THE SECOND FORM's CARD OF 'earshotlaw05.SoundLexicons'. -/
def soundLexiconsUptoCard : Claim7 := { stood := { row := soundLexiconsUptoRow, standIns := [], harness := (true, "078c8375dd06dff7bfaf85f790418e8d8b917cffdf592fc304271a346642f2ea"), looks := false }, kinds := [], alts := [], laidByText := true, laidKinds := [.data, .data, .data], laidTests := true, laidLooks := .later }
def SoundLexiconsUptoCardSaid : Prop := Claim7.holds Tryz.pinned (.plain (OpenSpec.upto soundLexiconsSpec)) soundLexiconsUptoCard

/-- THE SECOND FORM's CARD OF 'earshotlaw05.SoundVariants'. -/
def soundVariantsUptoCard : Claim7 := { stood := { row := soundVariantsUptoRow, standIns := [], harness := (true, "078c8375dd06dff7bfaf85f790418e8d8b917cffdf592fc304271a346642f2ea"), looks := false }, kinds := [], alts := [], laidByText := true, laidKinds := [.data, .data, .data], laidTests := true, laidLooks := .later }
def SoundVariantsUptoCardSaid : Prop := Claim7.holds Tryz.pinned (.plain (OpenSpec.upto soundVariantsSpec)) soundVariantsUptoCard

/-- THE SECOND FORM's CARD OF 'earshotlaw05.SoundHomophones'. -/
def soundHomophonesUptoCard : Claim7 := { stood := { row := soundHomophonesUptoRow, standIns := [], harness := (true, "078c8375dd06dff7bfaf85f790418e8d8b917cffdf592fc304271a346642f2ea"), looks := false }, kinds := [], alts := [], laidByText := true, laidKinds := [.data, .data, .data], laidTests := true, laidLooks := .later }
def SoundHomophonesUptoCardSaid : Prop := Claim7.holds Tryz.pinned (.plain (OpenSpec.upto soundHomophonesSpec)) soundHomophonesUptoCard

/-- THE SECOND FORM's CARD OF 'earshotlaw05.SoundTrees'. -/
def soundTreesUptoCard : Claim7 := { stood := { row := soundTreesUptoRow, standIns := [], harness := (true, "078c8375dd06dff7bfaf85f790418e8d8b917cffdf592fc304271a346642f2ea"), looks := false }, kinds := [], alts := [], laidByText := true, laidKinds := [.data, .data, .data], laidTests := true, laidLooks := .later }
def SoundTreesUptoCardSaid : Prop := Claim7.holds Tryz.pinned (.plain (OpenSpec.upto soundTreesSpec)) soundTreesUptoCard

/-- THE SECOND FORM's CARD OF 'earshotlaw05.SoundWalks'. -/
def soundWalksUptoCard : Claim7 := { stood := { row := soundWalksUptoRow, standIns := [], harness := (true, "078c8375dd06dff7bfaf85f790418e8d8b917cffdf592fc304271a346642f2ea"), looks := false }, kinds := [], alts := [], laidByText := true, laidKinds := [.data, .data, .data], laidTests := true, laidLooks := .later }
def SoundWalksUptoCardSaid : Prop := Claim7.holds Tryz.pinned (.plain (OpenSpec.upto soundWalksSpec)) soundWalksUptoCard

/-- THE SECOND FORM's CARD OF 'earshotlaw05.SoundMakes'. -/
def soundMakesUptoCard : Claim7 := { stood := { row := soundMakesUptoRow, standIns := [], harness := (true, "078c8375dd06dff7bfaf85f790418e8d8b917cffdf592fc304271a346642f2ea"), looks := false }, kinds := [], alts := [], laidByText := true, laidKinds := [.data, .data, .data], laidTests := true, laidLooks := .later }
def SoundMakesUptoCardSaid : Prop := Claim7.holds Tryz.pinned (.plain (OpenSpec.upto soundMakesSpec)) soundMakesUptoCard

/-- THE SECOND FORM's CARD OF 'earshotlaw05.SoundOrders'. -/
def soundOrdersUptoCard : Claim7 := { stood := { row := soundOrdersUptoRow, standIns := [], harness := (true, "078c8375dd06dff7bfaf85f790418e8d8b917cffdf592fc304271a346642f2ea"), looks := false }, kinds := [], alts := [], laidByText := true, laidKinds := [.data, .data, .data], laidTests := true, laidLooks := .later }
def SoundOrdersUptoCardSaid : Prop := Claim7.holds Tryz.pinned (.plain (OpenSpec.upto soundOrdersSpec)) soundOrdersUptoCard
end Rows
end Go.Proofs.YtpliecbpcmchaaaGreatDoor
