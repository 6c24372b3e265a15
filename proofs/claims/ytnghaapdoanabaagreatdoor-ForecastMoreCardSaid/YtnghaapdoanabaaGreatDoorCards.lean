/-
  DERIVED. GIVEN WITH THE SEED: THE CARDS: each row of YtnghaapdoanabaaGreatDoorRows.lean that lists a variable, with what it lists TIED to the program's text (the seventh form; the later family's looks); each row that meets fmt, with fmt's text TOLD by the authors' own Lean function (tested against real Go, not proved from fmt's source: count such statements apart). THE CARD IS WHAT COUNTS. Prove the row's statement (the work); the ties are given (YtnghaapdoanabaaGreatDoorTie.lean); close each card by the builder's one call (the guide's Derived/Test/ToyasCard.lean, 'card_holds'). Laid BY PROGRAM, IN A SANDBOX (cutbox-door.mjs). By AI agents, Wed Nov 11 2026. No macro, syntax, notation, axiom, sorry.
-/
import Derived.Test.YtnghaapdoanabaaGreatDoorRows
import GoSem.ClaimSeven
namespace Go.Proofs.YtnghaapdoanabaaGreatDoor
namespace Rows

/-- THE TIED CARD OF 'erewhilelaw65.ForecastKept'. -/
def forecastKeptCard : Claim7 := { stood := { row := forecastKeptRow, standIns := [], harness := (true, "849969cd6586223812e49ce294f2393b2706edb45e5e5d59064a4b23bf4dd5ef"), looks := false }, kinds := [], alts := [], laidByText := true, laidKinds := [.funcs], laidTests := true, laidLooks := .later }
def ForecastKeptCardSaid : Prop := Claim7.holds Tryz.pinned (.plain (OpenSpec.ofChange forecastKeptSpec)) forecastKeptCard

/-- THE TIED CARD OF 'erewhilelaw65.ForecastRefused'. -/
def forecastRefusedCard : Claim7 := { stood := { row := forecastRefusedRow, standIns := [], harness := (true, "849969cd6586223812e49ce294f2393b2706edb45e5e5d59064a4b23bf4dd5ef"), looks := false }, kinds := [], alts := [], laidByText := true, laidKinds := [.funcs], laidTests := true, laidLooks := .later }
def ForecastRefusedCardSaid : Prop := Claim7.holds Tryz.pinned (.plain (OpenSpec.ofChange forecastRefusedSpec)) forecastRefusedCard

/-- THE TIED CARD OF 'erewhilelaw65.ForecastMore'. -/
def forecastMoreCard : Claim7 := { stood := { row := forecastMoreRow, standIns := [], harness := (true, "849969cd6586223812e49ce294f2393b2706edb45e5e5d59064a4b23bf4dd5ef"), looks := false }, kinds := [], alts := [], laidByText := true, laidKinds := [.funcs], laidTests := true, laidLooks := .later }
def ForecastMoreCardSaid : Prop := Claim7.holds Tryz.pinned (.plain (OpenSpec.ofChange forecastMoreSpec)) forecastMoreCard

/-- THE TIED CARD OF 'erewhilelaw65.ForecastFalls'. -/
def forecastFallsCard : Claim7 := { stood := { row := forecastFallsRow, standIns := [], harness := (true, "849969cd6586223812e49ce294f2393b2706edb45e5e5d59064a4b23bf4dd5ef"), looks := false }, kinds := [], alts := [], laidByText := true, laidKinds := [.funcs], laidTests := true, laidLooks := .later }
def ForecastFallsCardSaid : Prop := Claim7.holds Tryz.pinned (.plain (OpenSpec.ofChange forecastFallsSpec)) forecastFallsCard

/-- THE TIED CARD OF 'erewhilelaw65.ForecastStill'. -/
def forecastStillCard : Claim7 := { stood := { row := forecastStillRow, standIns := [], harness := (true, "849969cd6586223812e49ce294f2393b2706edb45e5e5d59064a4b23bf4dd5ef"), looks := false }, kinds := [], alts := [], laidByText := true, laidKinds := [.funcs], laidTests := true, laidLooks := .later }
def ForecastStillCardSaid : Prop := Claim7.holds Tryz.pinned (.plain (OpenSpec.ofChange forecastStillSpec)) forecastStillCard

/-- THE TIED CARD OF 'erewhilelaw65.ForecastNone'. -/
def forecastNoneCard : Claim7 := { stood := { row := forecastNoneRow, standIns := [], harness := (true, "849969cd6586223812e49ce294f2393b2706edb45e5e5d59064a4b23bf4dd5ef"), looks := false }, kinds := [], alts := [], laidByText := true, laidKinds := [.funcs], laidTests := true, laidLooks := .later }
def ForecastNoneCardSaid : Prop := Claim7.holds Tryz.pinned (.plain (OpenSpec.ofChange forecastNoneSpec)) forecastNoneCard

/-- THE SECOND FORM's CARD OF 'erewhilelaw65.ForecastKept'. -/
def forecastKeptUptoCard : Claim7 := { stood := { row := forecastKeptUptoRow, standIns := [], harness := (true, "849969cd6586223812e49ce294f2393b2706edb45e5e5d59064a4b23bf4dd5ef"), looks := false }, kinds := [], alts := [], laidByText := true, laidKinds := [.funcs], laidTests := true, laidLooks := .later }
def ForecastKeptUptoCardSaid : Prop := Claim7.holds Tryz.pinned (.plain (OpenSpec.upto forecastKeptSpec)) forecastKeptUptoCard

/-- THE SECOND FORM's CARD OF 'erewhilelaw65.ForecastRefused'. -/
def forecastRefusedUptoCard : Claim7 := { stood := { row := forecastRefusedUptoRow, standIns := [], harness := (true, "849969cd6586223812e49ce294f2393b2706edb45e5e5d59064a4b23bf4dd5ef"), looks := false }, kinds := [], alts := [], laidByText := true, laidKinds := [.funcs], laidTests := true, laidLooks := .later }
def ForecastRefusedUptoCardSaid : Prop := Claim7.holds Tryz.pinned (.plain (OpenSpec.upto forecastRefusedSpec)) forecastRefusedUptoCard

/-- THE SECOND FORM's CARD OF 'erewhilelaw65.ForecastMore'. -/
def forecastMoreUptoCard : Claim7 := { stood := { row := forecastMoreUptoRow, standIns := [], harness := (true, "849969cd6586223812e49ce294f2393b2706edb45e5e5d59064a4b23bf4dd5ef"), looks := false }, kinds := [], alts := [], laidByText := true, laidKinds := [.funcs], laidTests := true, laidLooks := .later }
def ForecastMoreUptoCardSaid : Prop := Claim7.holds Tryz.pinned (.plain (OpenSpec.upto forecastMoreSpec)) forecastMoreUptoCard

/-- THE SECOND FORM's CARD OF 'erewhilelaw65.ForecastFalls'. -/
def forecastFallsUptoCard : Claim7 := { stood := { row := forecastFallsUptoRow, standIns := [], harness := (true, "849969cd6586223812e49ce294f2393b2706edb45e5e5d59064a4b23bf4dd5ef"), looks := false }, kinds := [], alts := [], laidByText := true, laidKinds := [.funcs], laidTests := true, laidLooks := .later }
def ForecastFallsUptoCardSaid : Prop := Claim7.holds Tryz.pinned (.plain (OpenSpec.upto forecastFallsSpec)) forecastFallsUptoCard

/-- THE SECOND FORM's CARD OF 'erewhilelaw65.ForecastStill'. -/
def forecastStillUptoCard : Claim7 := { stood := { row := forecastStillUptoRow, standIns := [], harness := (true, "849969cd6586223812e49ce294f2393b2706edb45e5e5d59064a4b23bf4dd5ef"), looks := false }, kinds := [], alts := [], laidByText := true, laidKinds := [.funcs], laidTests := true, laidLooks := .later }
def ForecastStillUptoCardSaid : Prop := Claim7.holds Tryz.pinned (.plain (OpenSpec.upto forecastStillSpec)) forecastStillUptoCard

/-- THE SECOND FORM's CARD OF 'erewhilelaw65.ForecastNone'. -/
def forecastNoneUptoCard : Claim7 := { stood := { row := forecastNoneUptoRow, standIns := [], harness := (true, "849969cd6586223812e49ce294f2393b2706edb45e5e5d59064a4b23bf4dd5ef"), looks := false }, kinds := [], alts := [], laidByText := true, laidKinds := [.funcs], laidTests := true, laidLooks := .later }
def ForecastNoneUptoCardSaid : Prop := Claim7.holds Tryz.pinned (.plain (OpenSpec.upto forecastNoneSpec)) forecastNoneUptoCard
end Rows
end Go.Proofs.YtnghaapdoanabaaGreatDoor
