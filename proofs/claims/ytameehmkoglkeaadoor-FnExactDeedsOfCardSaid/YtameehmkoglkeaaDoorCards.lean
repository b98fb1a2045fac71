/-
  DERIVED. GIVEN WITH THE SEED: THE CARDS: each row of YtameehmkoglkeaaDoorRows.lean that lists a variable, with what it lists TIED to the program's text (the seventh form; the later family's looks); each row that meets fmt, with fmt's text TOLD by the authors' own Lean function (tested against real Go, not proved from fmt's source: count such statements apart). THE CARD IS WHAT COUNTS. Prove the row's statement (the work); the ties are given (YtameehmkoglkeaaDoorTie.lean); close each card by the builder's one call (the guide's Derived/Test/ToyasCard.lean, 'card_holds'). Laid BY PROGRAM, IN A SANDBOX (cutbox-door.mjs). By AI agents, Wed Nov 11 2026. No macro, syntax, notation, axiom, sorry.
-/
import Derived.Test.YtameehmkoglkeaaDoorRows
import GoSem.ClaimSeven
namespace Go.Proofs.YtameehmkoglkeaaDoor
namespace Rows

/-- THE TIED CARD OF 'laws.FnExactDeedText'. -/
def fnExactDeedTextCard : Claim7 := { stood := { row := fnExactDeedTextRow, standIns := [], harness := (true, "9cacbfc7475de6e871f66c791b3ab4711d335ca6c2e165952b4bf399add28e3e"), looks := true }, kinds := [], alts := [], laidByText := true, laidKinds := [.data, .data, .data], laidTests := true, laidLooks := .later }
def FnExactDeedTextCardSaid : Prop := Claim7.holds Tryd.pinned (.plain (OpenSpec.ofChange fnExactDeedTextSpec)) fnExactDeedTextCard

/-- THE TIED CARD OF 'laws.FnExactDeedsText'. -/
def fnExactDeedsTextCard : Claim7 := { stood := { row := fnExactDeedsTextRow, standIns := [], harness := (true, "9cacbfc7475de6e871f66c791b3ab4711d335ca6c2e165952b4bf399add28e3e"), looks := true }, kinds := [], alts := [], laidByText := true, laidKinds := [.data, .data, .data], laidTests := true, laidLooks := .later }
def FnExactDeedsTextCardSaid : Prop := Claim7.holds Tryd.pinned (.plain (OpenSpec.ofChange fnExactDeedsTextSpec)) fnExactDeedsTextCard

/-- THE TIED CARD OF 'laws.FnExactMsgText'. -/
def fnExactMsgTextCard : Claim7 := { stood := { row := fnExactMsgTextRow, standIns := [], harness := (true, "9cacbfc7475de6e871f66c791b3ab4711d335ca6c2e165952b4bf399add28e3e"), looks := true }, kinds := [], alts := [], laidByText := true, laidKinds := [.data, .data, .data], laidTests := true, laidLooks := .later }
def FnExactMsgTextCardSaid : Prop := Claim7.holds Tryd.pinned (.plain (OpenSpec.ofChange fnExactMsgTextSpec)) fnExactMsgTextCard

/-- THE TIED CARD OF 'laws.FnExactDeedOf'. -/
def fnExactDeedOfCard : Claim7 := { stood := { row := fnExactDeedOfRow, standIns := [], harness := (true, "9cacbfc7475de6e871f66c791b3ab4711d335ca6c2e165952b4bf399add28e3e"), looks := true }, kinds := [], alts := [], laidByText := true, laidKinds := [.data, .data, .data, .data, .sentinel, .sentinel, .pinned], laidTests := true, laidLooks := .later }
def FnExactDeedOfCardSaid : Prop := Claim7.holds Tryd.pinned (.plain (OpenSpec.ofChange fnExactDeedOfSpec)) fnExactDeedOfCard

/-- THE TIED CARD OF 'laws.FnExactDeedsOf'. -/
def fnExactDeedsOfCard : Claim7 := { stood := { row := fnExactDeedsOfRow, standIns := [], harness := (true, "9cacbfc7475de6e871f66c791b3ab4711d335ca6c2e165952b4bf399add28e3e"), looks := true }, kinds := [], alts := [], laidByText := true, laidKinds := [.data, .data, .data, .data, .sentinel, .sentinel, .pinned], laidTests := true, laidLooks := .later }
def FnExactDeedsOfCardSaid : Prop := Claim7.holds Tryd.pinned (.plain (OpenSpec.ofChange fnExactDeedsOfSpec)) fnExactDeedsOfCard

/-- THE TIED CARD OF 'laws.FnScripts'. -/
def fnScriptsCard : Claim7 := { stood := { row := fnScriptsRow, standIns := [], harness := (true, "9cacbfc7475de6e871f66c791b3ab4711d335ca6c2e165952b4bf399add28e3e"), looks := true }, kinds := [], alts := [], laidByText := true, laidKinds := [.data, .data, .data, .data, .sentinel, .sentinel, .pinned], laidTests := true, laidLooks := .later }
def FnScriptsCardSaid : Prop := Claim7.holds Tryd.pinned (.plain (OpenSpec.ofChange fnScriptsSpec)) fnScriptsCard

/-- THE SECOND FORM's CARD OF 'laws.FnExactDeedText'. -/
def fnExactDeedTextUptoCard : Claim7 := { stood := { row := fnExactDeedTextUptoRow, standIns := [], harness := (true, "9cacbfc7475de6e871f66c791b3ab4711d335ca6c2e165952b4bf399add28e3e"), looks := true }, kinds := [], alts := [], laidByText := true, laidKinds := [.data, .data, .data], laidTests := true, laidLooks := .later }
def FnExactDeedTextUptoCardSaid : Prop := Claim7.holds Tryd.pinned (.plain (OpenSpec.upto fnExactDeedTextSpec)) fnExactDeedTextUptoCard

/-- THE SECOND FORM's CARD OF 'laws.FnExactDeedsText'. -/
def fnExactDeedsTextUptoCard : Claim7 := { stood := { row := fnExactDeedsTextUptoRow, standIns := [], harness := (true, "9cacbfc7475de6e871f66c791b3ab4711d335ca6c2e165952b4bf399add28e3e"), looks := true }, kinds := [], alts := [], laidByText := true, laidKinds := [.data, .data, .data], laidTests := true, laidLooks := .later }
def FnExactDeedsTextUptoCardSaid : Prop := Claim7.holds Tryd.pinned (.plain (OpenSpec.upto fnExactDeedsTextSpec)) fnExactDeedsTextUptoCard

/-- THE SECOND FORM's CARD OF 'laws.FnExactMsgText'. -/
def fnExactMsgTextUptoCard : Claim7 := { stood := { row := fnExactMsgTextUptoRow, standIns := [], harness := (true, "9cacbfc7475de6e871f66c791b3ab4711d335ca6c2e165952b4bf399add28e3e"), looks := true }, kinds := [], alts := [], laidByText := true, laidKinds := [.data, .data, .data], laidTests := true, laidLooks := .later }
def FnExactMsgTextUptoCardSaid : Prop := Claim7.holds Tryd.pinned (.plain (OpenSpec.upto fnExactMsgTextSpec)) fnExactMsgTextUptoCard

/-- THE SECOND FORM's CARD OF 'laws.FnExactDeedOf'. -/
def fnExactDeedOfUptoCard : Claim7 := { stood := { row := fnExactDeedOfUptoRow, standIns := [], harness := (true, "9cacbfc7475de6e871f66c791b3ab4711d335ca6c2e165952b4bf399add28e3e"), looks := true }, kinds := [], alts := [], laidByText := true, laidKinds := [.data, .data, .data, .data, .sentinel, .sentinel, .pinned], laidTests := true, laidLooks := .later }
def FnExactDeedOfUptoCardSaid : Prop := Claim7.holds Tryd.pinned (.plain (OpenSpec.upto fnExactDeedOfSpec)) fnExactDeedOfUptoCard

/-- THE SECOND FORM's CARD OF 'laws.FnExactDeedsOf'. -/
def fnExactDeedsOfUptoCard : Claim7 := { stood := { row := fnExactDeedsOfUptoRow, standIns := [], harness := (true, "9cacbfc7475de6e871f66c791b3ab4711d335ca6c2e165952b4bf399add28e3e"), looks := true }, kinds := [], alts := [], laidByText := true, laidKinds := [.data, .data, .data, .data, .sentinel, .sentinel, .pinned], laidTests := true, laidLooks := .later }
def FnExactDeedsOfUptoCardSaid : Prop := Claim7.holds Tryd.pinned (.plain (OpenSpec.upto fnExactDeedsOfSpec)) fnExactDeedsOfUptoCard

/-- THE SECOND FORM's CARD OF 'laws.FnScripts'. -/
def fnScriptsUptoCard : Claim7 := { stood := { row := fnScriptsUptoRow, standIns := [], harness := (true, "9cacbfc7475de6e871f66c791b3ab4711d335ca6c2e165952b4bf399add28e3e"), looks := true }, kinds := [], alts := [], laidByText := true, laidKinds := [.data, .data, .data, .data, .sentinel, .sentinel, .pinned], laidTests := true, laidLooks := .later }
def FnScriptsUptoCardSaid : Prop := Claim7.holds Tryd.pinned (.plain (OpenSpec.upto fnScriptsSpec)) fnScriptsUptoCard
end Rows
end Go.Proofs.YtameehmkoglkeaaDoor
