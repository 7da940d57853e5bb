/-
  The closed facts of the row ReplicaNames, each in a declaration of its own. No condition.
-/
import Derived.Test.YtblfaajbjnihcaaGreatRows
import Derived.ProofKit
namespace Go.Proofs.YtblfaajbjnihcaaGreat.replicaNames
set_option maxHeartbeats 4000000 in
theorem facts : joinedFacts Tryz.prog 3 Tryz.f3 Rows.replicaNamesSpec Rows.replicaNamesRow = true := by
  unfold joinedFacts
  simp only [Bool.and_eq_true]
  repeat' (refine And.intro ?_ ?_)
  all_goals (as_aux_lemma => kernel_rfl)
theorem nm : Tryz.pinned.checked.prog.funcNamed Rows.replicaNamesRow.func = some 3 := by kernel_rfl
theorem inst : Tryz.f3.isInstance Tryz.pinned.checked.prog Rows.replicaNamesRow.origin Rows.replicaNamesRow.targs := of_decide_eq_true (by kernel_rfl)
theorem wrap : Tryz.f3.isWrapper Tryz.pinned.checked.prog Rows.replicaNamesRow.wrapper Rows.replicaNamesRow.mainSum := by unfold Func.isWrapper; rw [if_neg (by decide +kernel)]; exact ⟨rfl, rfl⟩
end Go.Proofs.YtblfaajbjnihcaaGreat.replicaNames
