/-
  The plain law of QueueNobody: both queues, empty, tell the same of one call.
-/
import Derived.Test.YtllhegccpknncaaQh
set_option linter.unusedVariables false
set_option linter.unusedSimpArgs false
set_option linter.unusedSectionVars false
namespace Go.Proofs.Ytllhegccpknncaa
open Go.Tr
theorem sameC_self (l : List Ch) : sameC l l = true := by
  unfold sameC
  have : ∀ l : List Ch, sameC.sameG l l = true := fun l => by
    induction l with
    | nil => rfl
    | cons x l ih => simp [sameC.sameG, ih]
  simp [this]
theorem law_nobody (x : QO) (hk0 : 0 ≤ x.kind) (hk6 : x.kind ≤ 6) : (callQO ⟨[], [], 0⟩ x).1 = (modelRO ⟨[], [], 0⟩ x).1 ∧ (callQO ⟨[], [], 0⟩ x).2.1 = (modelRO ⟨[], [], 0⟩ x).2.1 ∧ (callQO ⟨[], [], 0⟩ x).2.2.1 = (modelRO ⟨[], [], 0⟩ x).2.2.1 := by
  have hroom : roomQ ⟨[], [], 0⟩ = 16 := by rfl
  have hroomR : roomR ⟨[], [], 0⟩ = 16 := by rfl
  have hfit : fitQ ⟨[], [], 0⟩ x.work = mayR ⟨[], [], 0⟩ x.work := by rfl
  have hright : rightQ ⟨[], [], 0⟩ x.L = rightR ⟨[], [], 0⟩ x.L := by
    have hg : ∀ l : List Ch, rightG l [] = rightRG [] l [] := fun l => by
      induction l with
      | nil => rfl
      | cons c l ih =>
        simp only [rightG, rightRG, ih]
        by_cases h3 : c.kind = 3 <;> by_cases h4 : c.kind = 4 <;> by_cases h0 : c.key = 0 <;> simp [h3, h4, h0] <;> omega
    unfold rightQ rightR
    rw [hroom, hroomR, hg]
    congr 1
    rw [Bool.eq_iff_iff]
    simp
    have := putsQ_le x.L
    omega
  unfold callQO modelRO
  repeat' split
  all_goals first
    | exact ⟨rfl, rfl, rfl⟩
    | skip
  · simp only [putQ, putR, hfit, hroom, hroomR]
    split <;> simp
  · simp only [takeQ, takeR, hfit, otherQ, takeG]
    split <;> simp
  · simp only [prepQ, prepR, hfit, findQ]
    split <;> simp
  · simp only [commitQ, commitR, findQ, true_and]
    split <;> rfl
  · simp only [backQ, backR, true_and]
    split <;> rfl
  · simp only [restQ, restR, hright, findQ, true_and]
    split
    · rfl
    · split <;> rfl
  · simp only [loadQ, loadR, true_and]
    simp
    split <;> rfl
end Go.Proofs.Ytllhegccpknncaa
