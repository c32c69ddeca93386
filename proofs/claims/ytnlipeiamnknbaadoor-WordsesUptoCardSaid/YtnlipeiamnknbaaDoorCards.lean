/-
  DERIVED. GIVEN WITH THE SEED: THE CARDS: each row of YtnlipeiamnknbaaDoorRows.lean that lists a variable, with what it lists TIED to the program's text (the seventh form; the later family's looks); each row that meets fmt, with fmt's text TOLD by the authors' own Lean function (tested against real Go, not proved from fmt's source: count such statements apart). THE CARD IS WHAT COUNTS. Prove the row's statement (the work); the ties are given (YtnlipeiamnknbaaDoorTie.lean); close each card by the builder's one call (the guide's Derived/Test/ToyasCard.lean, 'card_holds'). Laid BY PROGRAM, IN A SANDBOX (cutbox-door.mjs). By AI agents, Wed Nov 11 2026. No macro, syntax, notation, axiom, sorry.
-/
import Derived.Test.YtnlipeiamnknbaaDoorRows
import GoSem.ClaimSeven
namespace Go.Proofs.YtnlipeiamnknbaaDoor
namespace Rows

/-- THE TIED CARD OF 'cruciblelaw7.Wordses'. -/
def wordsesCard : Claim7 := { stood := { row := wordsesRow, standIns := [], harness := (true, "0ca9b47bba9df5286708d2d16905f3cd1d1350c85930a8ba60c8fd2ba2d84ea8"), looks := false }, kinds := [], alts := [], laidByText := true, laidKinds := [.data, .pinned], laidTests := true, laidLooks := .later }
def WordsesCardSaid : Prop := Claim7.holds Tryd.pinned (.plain (OpenSpec.ofChange wordsesSpec)) wordsesCard

/-- THE TIED CARD OF 'cruciblelaw7.WordJoin'. -/
def wordJoinCard : Claim7 := { stood := { row := wordJoinRow, standIns := [], harness := (true, "0ca9b47bba9df5286708d2d16905f3cd1d1350c85930a8ba60c8fd2ba2d84ea8"), looks := false }, kinds := [], alts := [], laidByText := true, laidKinds := [.data, .pinned], laidTests := true, laidLooks := .later }
def WordJoinCardSaid : Prop := Claim7.holds Tryd.pinned (.plain (OpenSpec.ofChange wordJoinSpec)) wordJoinCard

/-- THE TIED CARD OF 'cruciblelaw17.Depfiles'. -/
def depfilesCard : Claim7 := { stood := { row := depfilesRow, standIns := [], harness := (true, "0ca9b47bba9df5286708d2d16905f3cd1d1350c85930a8ba60c8fd2ba2d84ea8"), looks := false }, kinds := [], alts := [], laidByText := true, laidKinds := [.data, .pinned], laidTests := true, laidLooks := .later }
def DepfilesCardSaid : Prop := Claim7.holds Tryd.pinned (.plain (OpenSpec.ofChange depfilesSpec)) depfilesCard

/-- THE TIED CARD OF 'cruciblelaw16.Deplogs'. -/
def deplogsCard : Claim7 := { stood := { row := deplogsRow, standIns := [], harness := (true, "0ca9b47bba9df5286708d2d16905f3cd1d1350c85930a8ba60c8fd2ba2d84ea8"), looks := false }, kinds := [], alts := [], laidByText := true, laidKinds := [.data, .pinned], laidTests := true, laidLooks := .later }
def DeplogsCardSaid : Prop := Claim7.holds Tryd.pinned (.plain (OpenSpec.ofChange deplogsSpec)) deplogsCard

/-- THE SECOND FORM's CARD OF 'cruciblelaw7.Wordses'. -/
def wordsesUptoCard : Claim7 := { stood := { row := wordsesUptoRow, standIns := [], harness := (true, "0ca9b47bba9df5286708d2d16905f3cd1d1350c85930a8ba60c8fd2ba2d84ea8"), looks := false }, kinds := [], alts := [], laidByText := true, laidKinds := [.data, .pinned], laidTests := true, laidLooks := .later }
def WordsesUptoCardSaid : Prop := Claim7.holds Tryd.pinned (.plain (OpenSpec.upto wordsesSpec)) wordsesUptoCard

/-- THE SECOND FORM's CARD OF 'cruciblelaw7.WordJoin'. -/
def wordJoinUptoCard : Claim7 := { stood := { row := wordJoinUptoRow, standIns := [], harness := (true, "0ca9b47bba9df5286708d2d16905f3cd1d1350c85930a8ba60c8fd2ba2d84ea8"), looks := false }, kinds := [], alts := [], laidByText := true, laidKinds := [.data, .pinned], laidTests := true, laidLooks := .later }
def WordJoinUptoCardSaid : Prop := Claim7.holds Tryd.pinned (.plain (OpenSpec.upto wordJoinSpec)) wordJoinUptoCard

/-- THE SECOND FORM's CARD OF 'cruciblelaw17.Depfiles'. -/
def depfilesUptoCard : Claim7 := { stood := { row := depfilesUptoRow, standIns := [], harness := (true, "0ca9b47bba9df5286708d2d16905f3cd1d1350c85930a8ba60c8fd2ba2d84ea8"), looks := false }, kinds := [], alts := [], laidByText := true, laidKinds := [.data, .pinned], laidTests := true, laidLooks := .later }
def DepfilesUptoCardSaid : Prop := Claim7.holds Tryd.pinned (.plain (OpenSpec.upto depfilesSpec)) depfilesUptoCard

/-- THE SECOND FORM's CARD OF 'cruciblelaw16.Deplogs'. -/
def deplogsUptoCard : Claim7 := { stood := { row := deplogsUptoRow, standIns := [], harness := (true, "0ca9b47bba9df5286708d2d16905f3cd1d1350c85930a8ba60c8fd2ba2d84ea8"), looks := false }, kinds := [], alts := [], laidByText := true, laidKinds := [.data, .pinned], laidTests := true, laidLooks := .later }
def DeplogsUptoCardSaid : Prop := Claim7.holds Tryd.pinned (.plain (OpenSpec.upto deplogsSpec)) deplogsUptoCard
end Rows
end Go.Proofs.YtnlipeiamnknbaaDoor
