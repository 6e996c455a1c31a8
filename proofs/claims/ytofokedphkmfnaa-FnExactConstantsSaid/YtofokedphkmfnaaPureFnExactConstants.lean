/- The law of the constants tells true. No condition beyond the row's own. -/
import Derived.Test.YtofokedphkmfnaaPFnExactConstantsx1
import Derived.Test.YtofokedphkmfnaaLib1
namespace Go.Proofs.Ytofokedphkmfnaa.Pure
open Go.RowKit Go.Proofs.Ytofokedphkmfnaa.Lib Go.Proofs.Ytofokedphkmfnaa.PFnExactConstants Go.Proofs.YtofokedphkmfnaaW.PrintWords Go.Proofs.YtofokedphkmfnaaW.PrintLast Go.Proofs.YtofokedphkmfnaaW.PrintMore

theorem FnExactConstants : laws_FnExactConstants.Pure := by
  unfold laws_FnExactConstants.Pure laws_FnExactConstants.f
  first
    | rfl
    | exact ⟨0, rfl⟩
    | simp

end Go.Proofs.Ytofokedphkmfnaa.Pure
