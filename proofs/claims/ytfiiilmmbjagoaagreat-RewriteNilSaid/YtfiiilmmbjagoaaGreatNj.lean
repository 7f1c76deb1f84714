/-
  The closed facts of the row RewriteNil. No conditions.
-/
import Derived.Test.YtfiiilmmbjagoaaGreatRows
import Derived.JoinedOf
namespace Go.Proofs.YtfiiilmmbjagoaaGreat
theorem nil_joined : joinedFacts Tryz.prog 9 Tryz.f9 Rows.rewriteNilSpec Rows.rewriteNilRow = true := by kernel_rfl
end Go.Proofs.YtfiiilmmbjagoaaGreat
