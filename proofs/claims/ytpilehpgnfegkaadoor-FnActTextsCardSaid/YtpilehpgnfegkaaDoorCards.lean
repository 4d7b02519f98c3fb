/-
  DERIVED. GIVEN WITH THE SEED: THE CARDS: each row of YtpilehpgnfegkaaDoorRows.lean that lists a variable, with what it lists TIED to the program's text (the seventh form; the later family's looks); each row that meets fmt, with fmt's text TOLD by the authors' own Lean function (tested against real Go, not proved from fmt's source: count such statements apart). THE CARD IS WHAT COUNTS. Prove the row's statement (the work); the ties are given (YtpilehpgnfegkaaDoorTie.lean); close each card by the builder's one call (the guide's Derived/Test/ToyasCard.lean, 'card_holds'). Laid BY PROGRAM, IN A SANDBOX (cutbox-door.mjs). By AI agents, Wed Nov 11 2026. No macro, syntax, notation, axiom, sorry.
-/
import Derived.Test.YtpilehpgnfegkaaDoorRows
import GoSem.ClaimSeven
namespace Go.Proofs.YtpilehpgnfegkaaDoor
namespace Rows

/-- THE TIED CARD OF 'laws.FnExactFormatAct'. -/
def fnExactFormatActCard : Claim7 := { stood := { row := fnExactFormatActRow, standIns := [], harness := (true, "dde89d272eb2b4eacd317156479bcfb3ec2a02e51e2d1fdec8ab95602fa9ff51"), looks := true }, kinds := [], alts := [], laidByText := true, laidKinds := [.data, .data, .data], laidTests := true, laidLooks := .later }
def FnExactFormatActCardSaid : Prop := Claim7.holds Tryd.pinned (.plain (OpenSpec.ofChange fnExactFormatActSpec)) fnExactFormatActCard

/-- THE TIED CARD OF 'laws.FnExactScriptText'. -/
def fnExactScriptTextCard : Claim7 := { stood := { row := fnExactScriptTextRow, standIns := [], harness := (true, "dde89d272eb2b4eacd317156479bcfb3ec2a02e51e2d1fdec8ab95602fa9ff51"), looks := true }, kinds := [], alts := [], laidByText := true, laidKinds := [.data, .data, .data], laidTests := true, laidLooks := .later }
def FnExactScriptTextCardSaid : Prop := Claim7.holds Tryd.pinned (.plain (OpenSpec.ofChange fnExactScriptTextSpec)) fnExactScriptTextCard

/-- THE TIED CARD OF 'laws.FnExactParseAct'. -/
def fnExactParseActCard : Claim7 := { stood := { row := fnExactParseActRow, standIns := [], harness := (true, "dde89d272eb2b4eacd317156479bcfb3ec2a02e51e2d1fdec8ab95602fa9ff51"), looks := true }, kinds := [], alts := [], laidByText := true, laidKinds := [.data, .data, .data, .sentinel, .sentinel], laidTests := true, laidLooks := .later }
def FnExactParseActCardSaid : Prop := Claim7.holds Tryd.pinned (.plain (OpenSpec.ofChange fnExactParseActSpec)) fnExactParseActCard

/-- THE TIED CARD OF 'laws.FnExactFormatWorkshop'. -/
def fnExactFormatWorkshopCard : Claim7 := { stood := { row := fnExactFormatWorkshopRow, standIns := [], harness := (true, "dde89d272eb2b4eacd317156479bcfb3ec2a02e51e2d1fdec8ab95602fa9ff51"), looks := true }, kinds := [], alts := [], laidByText := true, laidKinds := [.data, .data, .data], laidTests := true, laidLooks := .later }
def FnExactFormatWorkshopCardSaid : Prop := Claim7.holds Tryd.pinned (.plain (OpenSpec.ofChange fnExactFormatWorkshopSpec)) fnExactFormatWorkshopCard

/-- THE TIED CARD OF 'laws.FnActTexts'. -/
def fnActTextsCard : Claim7 := { stood := { row := fnActTextsRow, standIns := [], harness := (true, "dde89d272eb2b4eacd317156479bcfb3ec2a02e51e2d1fdec8ab95602fa9ff51"), looks := true }, kinds := [], alts := [], laidByText := true, laidKinds := [.data, .data, .data, .sentinel, .sentinel], laidTests := true, laidLooks := .later }
def FnActTextsCardSaid : Prop := Claim7.holds Tryd.pinned (.plain (OpenSpec.ofChange fnActTextsSpec)) fnActTextsCard

/-- THE TIED CARD OF 'laws.FnSummaries'. -/
def fnSummariesCard : Claim7 := { stood := { row := fnSummariesRow, standIns := [], harness := (true, "dde89d272eb2b4eacd317156479bcfb3ec2a02e51e2d1fdec8ab95602fa9ff51"), looks := true }, kinds := [], alts := [], laidByText := true, laidKinds := [.data, .data, .data], laidTests := true, laidLooks := .later }
def FnSummariesCardSaid : Prop := Claim7.holds Tryd.pinned (.plain (OpenSpec.ofChange fnSummariesSpec)) fnSummariesCard

/-- THE SECOND FORM's CARD OF 'laws.FnExactFormatAct'. -/
def fnExactFormatActUptoCard : Claim7 := { stood := { row := fnExactFormatActUptoRow, standIns := [], harness := (true, "dde89d272eb2b4eacd317156479bcfb3ec2a02e51e2d1fdec8ab95602fa9ff51"), looks := true }, kinds := [], alts := [], laidByText := true, laidKinds := [.data, .data, .data], laidTests := true, laidLooks := .later }
def FnExactFormatActUptoCardSaid : Prop := Claim7.holds Tryd.pinned (.plain (OpenSpec.upto fnExactFormatActSpec)) fnExactFormatActUptoCard

/-- THE SECOND FORM's CARD OF 'laws.FnExactScriptText'. -/
def fnExactScriptTextUptoCard : Claim7 := { stood := { row := fnExactScriptTextUptoRow, standIns := [], harness := (true, "dde89d272eb2b4eacd317156479bcfb3ec2a02e51e2d1fdec8ab95602fa9ff51"), looks := true }, kinds := [], alts := [], laidByText := true, laidKinds := [.data, .data, .data], laidTests := true, laidLooks := .later }
def FnExactScriptTextUptoCardSaid : Prop := Claim7.holds Tryd.pinned (.plain (OpenSpec.upto fnExactScriptTextSpec)) fnExactScriptTextUptoCard

/-- THE SECOND FORM's CARD OF 'laws.FnExactParseAct'. -/
def fnExactParseActUptoCard : Claim7 := { stood := { row := fnExactParseActUptoRow, standIns := [], harness := (true, "dde89d272eb2b4eacd317156479bcfb3ec2a02e51e2d1fdec8ab95602fa9ff51"), looks := true }, kinds := [], alts := [], laidByText := true, laidKinds := [.data, .data, .data, .sentinel, .sentinel], laidTests := true, laidLooks := .later }
def FnExactParseActUptoCardSaid : Prop := Claim7.holds Tryd.pinned (.plain (OpenSpec.upto fnExactParseActSpec)) fnExactParseActUptoCard

/-- THE SECOND FORM's CARD OF 'laws.FnExactFormatWorkshop'. -/
def fnExactFormatWorkshopUptoCard : Claim7 := { stood := { row := fnExactFormatWorkshopUptoRow, standIns := [], harness := (true, "dde89d272eb2b4eacd317156479bcfb3ec2a02e51e2d1fdec8ab95602fa9ff51"), looks := true }, kinds := [], alts := [], laidByText := true, laidKinds := [.data, .data, .data], laidTests := true, laidLooks := .later }
def FnExactFormatWorkshopUptoCardSaid : Prop := Claim7.holds Tryd.pinned (.plain (OpenSpec.upto fnExactFormatWorkshopSpec)) fnExactFormatWorkshopUptoCard

/-- THE SECOND FORM's CARD OF 'laws.FnActTexts'. -/
def fnActTextsUptoCard : Claim7 := { stood := { row := fnActTextsUptoRow, standIns := [], harness := (true, "dde89d272eb2b4eacd317156479bcfb3ec2a02e51e2d1fdec8ab95602fa9ff51"), looks := true }, kinds := [], alts := [], laidByText := true, laidKinds := [.data, .data, .data, .sentinel, .sentinel], laidTests := true, laidLooks := .later }
def FnActTextsUptoCardSaid : Prop := Claim7.holds Tryd.pinned (.plain (OpenSpec.upto fnActTextsSpec)) fnActTextsUptoCard

/-- THE SECOND FORM's CARD OF 'laws.FnSummaries'. -/
def fnSummariesUptoCard : Claim7 := { stood := { row := fnSummariesUptoRow, standIns := [], harness := (true, "dde89d272eb2b4eacd317156479bcfb3ec2a02e51e2d1fdec8ab95602fa9ff51"), looks := true }, kinds := [], alts := [], laidByText := true, laidKinds := [.data, .data, .data], laidTests := true, laidLooks := .later }
def FnSummariesUptoCardSaid : Prop := Claim7.holds Tryd.pinned (.plain (OpenSpec.upto fnSummariesSpec)) fnSummariesUptoCard
end Rows
end Go.Proofs.YtpilehpgnfegkaaDoor
