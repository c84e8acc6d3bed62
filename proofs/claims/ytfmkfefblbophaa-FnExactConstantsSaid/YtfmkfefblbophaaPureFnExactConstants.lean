/- The program's Constants are the document's: the law returns true, for all arguments (there are none). No condition. -/
import Derived.Test.YtfmkfefblbophaaPFnExactConstantsx1
namespace Go.Proofs.Ytfmkfefblbophaa.Pure
open Go.RowKit Go.Proofs.Ytfmkfefblbophaa.PFnExactConstants Go.Proofs.YtfmkfefblbophaaW.PrintWords Go.Proofs.YtfmkfefblbophaaW.PrintLast

theorem FnExactConstants : laws_FnExactConstants.Pure := rfl

end Go.Proofs.Ytfmkfefblbophaa.Pure
