/- Words and tables for the law FnComponentsWalked. -/
import Derived.Test.YtfencncopkeobaaQFnComponentsWalkedx9
import Derived.Test.YtfencncopkeobaaPureFnComponentsWalkedC
import Derived.Test.YtfencncopkeobaaMyPl
namespace Go.Proofs.Ytfencncopkeobaa.Pure
open Go.RowKit Go.Proofs.Ytfencncopkeobaa.QFnComponentsWalked Go.Proofs.YtfencncopkeobaaW.PrintWords Go.Proofs.YtfencncopkeobaaW.PrintLast
open laws_FnComponentsWalked
set_option linter.unusedVariables false
set_option linter.unusedSimpArgs false
theorem cw_tab6_7 : (((Pl.sysList 6).drop (11 * 7)).take 11).all (fun l => (Pl.sysList 6).all fun m => cwOk l m) = true := by decide +kernel
theorem cw_tab6_8 : (((Pl.sysList 6).drop (11 * 8)).take 11).all (fun l => (Pl.sysList 6).all fun m => cwOk l m) = true := by decide +kernel
theorem cw_tab6_9 : (((Pl.sysList 6).drop (11 * 9)).take 11).all (fun l => (Pl.sysList 6).all fun m => cwOk l m) = true := by decide +kernel
theorem cw_tab6_10 : (((Pl.sysList 6).drop (11 * 10)).take 11).all (fun l => (Pl.sysList 6).all fun m => cwOk l m) = true := by decide +kernel
theorem cw_tab6_11 : (((Pl.sysList 6).drop (11 * 11)).take 11).all (fun l => (Pl.sysList 6).all fun m => cwOk l m) = true := by decide +kernel
end Go.Proofs.Ytfencncopkeobaa.Pure
