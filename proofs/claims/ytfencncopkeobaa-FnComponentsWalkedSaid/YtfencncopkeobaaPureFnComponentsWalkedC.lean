/- Words and tables for the law FnComponentsWalked. -/
import Derived.Test.YtfencncopkeobaaQFnComponentsWalkedx9
import Derived.Test.YtfencncopkeobaaPureFnComponentsWalkedB
import Derived.Test.YtfencncopkeobaaMyPl
namespace Go.Proofs.Ytfencncopkeobaa.Pure
open Go.RowKit Go.Proofs.Ytfencncopkeobaa.QFnComponentsWalked Go.Proofs.YtfencncopkeobaaW.PrintWords Go.Proofs.YtfencncopkeobaaW.PrintLast
open laws_FnComponentsWalked
set_option linter.unusedVariables false
set_option linter.unusedSimpArgs false
theorem cw_tab6_3 : (((Pl.sysList 6).drop (11 * 3)).take 11).all (fun l => (Pl.sysList 6).all fun m => cwOk l m) = true := by decide +kernel
theorem cw_tab6_4 : (((Pl.sysList 6).drop (11 * 4)).take 11).all (fun l => (Pl.sysList 6).all fun m => cwOk l m) = true := by decide +kernel
theorem cw_tab6_5 : (((Pl.sysList 6).drop (11 * 5)).take 11).all (fun l => (Pl.sysList 6).all fun m => cwOk l m) = true := by decide +kernel
theorem cw_tab6_6 : (((Pl.sysList 6).drop (11 * 6)).take 11).all (fun l => (Pl.sysList 6).all fun m => cwOk l m) = true := by decide +kernel
end Go.Proofs.Ytfencncopkeobaa.Pure
