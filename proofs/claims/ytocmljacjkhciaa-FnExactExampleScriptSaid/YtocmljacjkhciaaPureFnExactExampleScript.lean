/- ExampleScript of the program returns what the reference's returns, in memory of its own. No condition. -/
import Derived.Test.YtocmljacjkhciaaPFnExactExampleScriptx2
namespace Go.Proofs.Ytocmljacjkhciaa.Pure
open Go.RowKit Go.Proofs.Ytocmljacjkhciaa.PFnExactExampleScript Go.Proofs.YtocmljacjkhciaaW.PrintWords Go.Proofs.YtocmljacjkhciaaW.PrintLast

theorem FnExactExampleScript : laws_FnExactExampleScript.Pure := ⟨100, by decide +kernel⟩

end Go.Proofs.Ytocmljacjkhciaa.Pure
