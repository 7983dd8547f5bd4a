/-
  WHAT AN OPERATION OF A REGION SAYS: that its value is a number.
-/
import Derived.Test.YtkcagkcphobmfaaZl
import Derived.Test.YtkcagkcphobmfaaReg
set_option linter.unusedVariables false
set_option linter.unusedSimpArgs false
namespace Go.Proofs.Ytkcagkcphobmfaa
open Go.RowKit

theorem trans_drew {w w' : World} (h : Below w.drew.heap.size w.drew w') : Below w.heap.size w w' := ext_trans ((Below.refl _ _).drew) h

def PV.zn (K : Nat) (z : Int) : PV := ⟨fun v w => ∃ r o n c, v = .agg #[.bool r, .slice o n c] ∧ Zn K w r o n c z, fun v w w' hb ⟨r, o, n, c, e, h⟩ => ⟨r, o, n, c, e, h.ext hb⟩⟩
def PV.rn (K : Nat) (z : Int) : PV := ⟨fun v w => ∃ o n c r, v = .agg #[.slice o n c, .bool r] ∧ Rn K w o n c r z, fun v w w' hb ⟨o, n, c, r, e, h⟩ => ⟨o, n, c, r, e, h.ext hb⟩⟩
def PV.ln (K M : Nat) : PV := ⟨fun v w => ∃ o n c, v = .slice o n c ∧ Ln K w o n c M, fun v w w' hb ⟨o, n, c, e, h⟩ => ⟨o, n, c, e, h.ext hb⟩⟩
def PV.dg (K M : Nat) : PV := ⟨fun v w => ∃ o n c, v = .slice o n c ∧ Dg K w o n c M, fun v w w' hb ⟨o, n, c, e, h⟩ => ⟨o, n, c, e, h.ext hb⟩⟩

end Go.Proofs.Ytkcagkcphobmfaa
