-- A copy, made by trim.py (its own words shortened): not an official print.
import Derived.Test.YtmgmaflfednngaaZExactTellerNewPFnExactTellerNewx0
import Derived.Test.YtmgmaflfednngaaZExactTellerNewPFnExactTellerNewx1
import Derived.Test.YtmgmaflfednngaaZExactTellerNewPFnExactTellerNewx2
import Derived.Test.YtmgmaflfednngaaZExactTellerNewPFnExactTellerNewx3
import Derived.Test.YtmgmaflfednngaaZExactTellerNewPFnExactTellerNewx4
import Derived.Test.YtmgmaflfednngaaZExactTellerNewPFnExactTellerNewx5
import Derived.Test.YtmgmaflfednngaaZExactTellerNewPFnExactTellerNewx6
import Derived.Test.YtmgmaflfednngaaZExactTellerNewPFnExactTellerNewx7
import Derived.Test.YtmgmaflfednngaaZExactTellerNewPFnExactTellerNewx8
import Derived.Test.YtmgmaflfednngaaZExactTellerNewPFnExactTellerNewx9
import Derived.Test.YtmgmaflfednngaaZExactTellerNewPFnExactTellerNewx10
import Derived.Test.YtmgmaflfednngaaZExactTellerNewPFnExactTellerNewx950
import Derived.Test.YtmgmaflfednngaaZExactTellerNewPFnExactTellerNewx951
import Derived.Test.YtmgmaflfednngaaZExactTellerNewPFnExactTellerNewx952
import Derived.Test.YtmgmaflfednngaaZExactTellerNewPFnExactTellerNewx953
import Derived.Test.YtmgmaflfednngaaZExactTellerNewBase
set_option linter.unusedSimpArgs false
set_option linter.unusedVariables false
namespace Go.Proofs.Ytmgmaflfednngaa.fnExactTellerNewRow.Pure
open Go.RowKit Go.Proofs.YtmgmaflfednngaaW.PrintWords Go.Proofs.YtmgmaflfednngaaW.PrintLast Go.Proofs.Ytmgmaflfednngaa.PFnExactTellerNew Go.Proofs.Ytmgmaflfednngaa.Base
theorem FnExactTellerNew : ∀ (a0 a1 a2 : Int), (Lit.int .i64 a0).wf = true → (Lit.int .i64 a1).wf = true → (Lit.int .i64 a2).wf = true → ∃ k, laws_FnExactTellerNew.f k a0 a1 a2 = some true := fun _ _ _ _ _ _ => ⟨0, rfl⟩
end Go.Proofs.Ytmgmaflfednngaa.fnExactTellerNewRow.Pure
