/- What the small functions on lists of numbers answer. -/
import Derived.Test.YtejedlpnejjnbaaSMKit
import Derived.Test.YtejedlpnejjnbaaSDR02
namespace Go.Proofs.YtejedlpnejjnbaaSV
set_option linter.unusedVariables false
set_option linter.unusedSimpArgs false
open Go.RowKit
namespace lists0
theorem same_eq (xs ys : List Int) (hl : xs.length ≤ 140737488355328) : R02_Same xs ys = some (decide (xs = ys)) := by
  unfold R02_Same
  by_cases hn : (xs.length : Int) = (ys.length : Int)
  · rw [bnot_pos hn]
    refine (loop_up (fun j => j) xs.length (fun j => 0 ≤ j) (fun j => some (decide (xs.drop j.toNat = ys.drop j.toNat))) (by simp) (by simp; omega) ?_).trans (by simp)
    intro k j (h0 : 0 ≤ j) hk
    unfold R02_Same_L1
    by_cases hj : j < (xs.length : Int)
    · have hk := hk hj (j + 1) (by omega) rfl
      rw [bif_pos hj, chk_at h0 hj, chk_at h0 (by omega), drop_at (d := 0) h0 hj, drop_at (xs := ys) (d := 0) h0 (by omega), w64 (by omega) (by omega), hk]
      by_cases e : xs.getD j.toNat 0 = ys.getD j.toNat 0
      · rw [bnot_pos e, e]
        congr 1
        rw [decide_eq_decide]
        simp
      · rw [bnot_neg e, decide_eq_false (fun h => e (List.cons.inj h).1)]
    · rw [bif_neg hj, drop_end hj, List.drop_of_length_le (by omega)]; rfl
  · rw [bnot_neg hn, decide_eq_false (fun h => hn (by rw [h]))]
end lists0
end Go.Proofs.YtejedlpnejjnbaaSV
