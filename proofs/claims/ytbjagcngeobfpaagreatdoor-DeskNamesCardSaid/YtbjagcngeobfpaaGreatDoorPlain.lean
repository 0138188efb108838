/-
  The plain laws: what the models of a session come to.
-/
import Derived.Test.YtbjagcngeobfpaaGreatDoorMade
set_option linter.all false
set_option maxRecDepth 100000
set_option maxHeartbeats 4000000
namespace T12
open Go Go.Proofs Pk
theorem aEp:m4=some true:=by kernel_rfl
end T12
