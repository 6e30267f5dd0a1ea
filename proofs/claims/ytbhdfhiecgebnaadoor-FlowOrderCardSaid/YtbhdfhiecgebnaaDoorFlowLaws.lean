/- Blocks, of any function: plain laws. -/
import Derived.Test.YtbhdfhiecgebnaaDoorFlowReach
import Derived.Test.YtbhdfhiecgebnaaDoorAmU
namespace Go.Proofs.YtbhdfhiecgebnaaDoor
open Go.Am
set_option linter.unusedVariables false
set_option linter.unusedSimpArgs false

theorem next_err {T : List LType} {F : List LFn} {f b : Int} : (NextL T F f b).2 = (blocksL T F f b).2 := by
  unfold NextL; split
  · rfl
  · rename_i h; simp only [ne_eq, Decidable.not_not] at h; exact h.symm
theorem round_err {T : List LType} {F : List LFn} {f b : Int} : (RoundL T F f b).2 = (blocksL T F f b).2 := by
  unfold RoundL; split
  · rfl
  · rename_i h; simp only [ne_eq, Decidable.not_not] at h; exact h.symm
theorem round_no {T : List LType} {F : List LFn} {f b : Int} (h : (blocksL T F f b).2 ≠ 0) : (RoundL T F f b).1 = false := by
  unfold RoundL; rw [if_pos h]
theorem blocks_other {T : List LType} {F : List LFn} {f b : Int} (h : (blocksL T F f b).2 = 0) {c : Int} (hc : 0 ≤ c ∧ c < ((blocksL T F f b).1.length : Int)) : blocksL T F f c = blocksL T F f b := by
  obtain ⟨h1, h2, h3, h4⟩ := blocks_in h
  rw [h3] at h2 hc
  unfold blocksL
  rw [if_neg (by rw [h4]; exact fun e => e rfl), if_neg (by omega), if_neg (by rw [h4]; exact fun e => e rfl), if_neg (by omega)]
theorem next_nx {T : List LType} {F : List LFn} {f b : Int} (h : (blocksL T F f b).2 = 0) {c : Int} (hc : 0 ≤ c ∧ c < ((blocksL T F f b).1.length : Int)) : (NextL T F f c).1 = nxL (blocksL T F f b).1 c := by
  unfold NextL
  rw [blocks_other h hc, if_neg (by rw [h]; exact fun e => e rfl)]
  rfl
end Go.Proofs.YtbhdfhiecgebnaaDoor
