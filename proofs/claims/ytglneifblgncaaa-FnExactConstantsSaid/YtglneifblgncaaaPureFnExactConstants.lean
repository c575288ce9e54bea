/- The law FnExactConstants answers true at every input that its guards let in. -/
import Derived.Test.YtglneifblgncaaaPFnExactConstantsx1
namespace Go.Proofs.Ytglneifblgncaaa.Pure
open Go.RowKit Go.Proofs.Ytglneifblgncaaa.PFnExactConstants Go.Proofs.YtglneifblgncaaaW.PrintWords Go.Proofs.YtglneifblgncaaaW.PrintLast
set_option linter.unusedVariables false
set_option linter.unusedSimpArgs false

theorem FnExactConstants : laws_FnExactConstants.Pure := rfl

end Go.Proofs.Ytglneifblgncaaa.Pure
