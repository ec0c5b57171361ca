/- BitsetTwo: what is made of two sets. -/
import Derived.Test.YtejedlpnejjnbaaDoorBMsets4
import Derived.Test.YtejedlpnejjnbaaDoorBDL04
import Derived.Test.YtejedlpnejjnbaaDoorBDBitsetTwo
namespace Go.Proofs.YtejedlpnejjnbaaDoorBV
set_option linter.unusedVariables false
set_option linter.unusedSimpArgs false
theorem alive04 : L04_alive = some true := by decide +kernel
namespace BS
theorem two (a b : List Int) (ha : a.length ≤ 140737488355328) (hb : b.length ≤ 140737488355328) : L04_BitsetTwo a b = some true := by
  unfold L04_BitsetTwo
  by_cases h1 : (a.length : Int) > 60
  · rw [bif_pos h1, alive04]; rfl
  rw [bif_neg h1]
  by_cases h2 : (b.length : Int) > 60
  · rw [bif_pos h2, alive04]; rfl
  rw [bif_neg h2]
  obtain ⟨s, s1, s2, s3⟩ := Of_eq a ha
  obtain ⟨t, t1, t2, t3⟩ := Of_eq b hb
  obtain ⟨u, u1, u2, u3⟩ := Union_eq s2 t2
  obtain ⟨v, v1, v2, v3⟩ := Inter_eq s2 t2
  obtain ⟨w, w1, w2, w3⟩ := Less_eq s2 t2
  rw [s1, t1, rOf_eq a ha, rOf_eq b hb]
  simp only [Option.bind_some]
  have lp := ids_len fun i => decide ((i : Int) ∈ a)
  have lq := ids_len fun i => decide ((i : Int) ∈ b)
  have e1 : ids (mem u) = ids fun i => decide ((i : Int) ∈ (ids fun i => decide ((i : Int) ∈ a)) ++ ids fun i => decide ((i : Int) ∈ b)) := by
    refine ids_congr fun i hi => ?_
    rw [u3 i hi, s3 i hi, t3 i hi, Bool.eq_iff_iff]
    simp [List.mem_append, ids_mem_nat, hi]
  have e2 : ids (mem v) = (ids fun i => decide ((i : Int) ∈ a)).filter fun x => decide (x ∈ ids fun i => decide ((i : Int) ∈ b)) := by
    rw [ids_filter]
    refine ids_congr fun i hi => ?_
    rw [v3 i hi, s3 i hi, t3 i hi, Bool.eq_iff_iff]
    simp [ids_mem_nat, hi]
  have e3 : ids (mem w) = (ids fun i => decide ((i : Int) ∈ a)).filter fun x => !decide (x ∈ ids fun i => decide ((i : Int) ∈ b)) := by
    rw [ids_filter]
    refine ids_congr fun i hi => ?_
    rw [w3 i hi, s3 i hi, t3 i hi, Bool.eq_iff_iff]
    simp [ids_mem_nat, hi]
  have lu := ids_len (mem u)
  have lv := ids_len (mem v)
  have lw := ids_len (mem w)
  rw [u1, rUnion_eq _ _ (by omega) (by omega)]
  simp only [Option.bind_some]
  rw [List_eq u2]
  simp only [Option.bind_some]
  rw [← e1, same_eq _ _ (by omega) (by omega), decide_eq_true rfl]
  simp only [Option.bind_some, cond_true]
  rw [v1, rInter_eq _ _ (by omega) (by omega)]
  simp only [Option.bind_some]
  rw [List_eq v2]
  simp only [Option.bind_some]
  rw [← e2, same_eq _ _ (by omega) (by omega), decide_eq_true rfl]
  simp only [Option.bind_some, cond_true]
  rw [w1, rLess_eq _ _ (by omega) (by omega)]
  simp only [Option.bind_some]
  rw [List_eq w2]
  simp only [Option.bind_some]
  rw [← e3, same_eq _ _ (by omega) (by omega), decide_eq_true rfl]
  simp only [Option.bind_some, cond_true]
  rw [Sub_eq s2 t2]
  simp only [Option.bind_some]
  have e4 : sub s t = decide (((ids (mem w)).length : Int) = 0) := by
    rw [Bool.eq_iff_iff, sub_iff, decide_eq_true_iff]
    constructor
    · intro h
      have : ids (mem w) = [] := by
        rw [List.eq_nil_iff_forall_not_mem]
        intro x hx
        rw [ids_mem] at hx
        rw [w3 _ (by omega)] at hx
        obtain ⟨_, hx1, hx2⟩ := hx
        rw [Bool.and_eq_true] at hx2
        rw [h _ (by omega) hx2.1] at hx2
        simp at hx2
      rw [this]; rfl
    · intro h i hi hm
      have : ids (mem w) = [] := List.eq_nil_of_length_eq_zero (by omega)
      cases ht : mem t i with
      | true => rfl
      | false =>
        have hx : (i : Int) ∈ ids (mem w) := ids_mem_nat.2 ⟨hi, by rw [w3 i hi, hm, ht]; rfl⟩
        rw [this] at hx; cases hx
  rw [e4, beq_self_eq_true, cond_true, alive04]; rfl
end BS
theorem law_L04_BitsetTwo : ∀ x : ((.pair (.sl (.int .i64)) (.pair (.sl (.int .i64)) .unit)) : Ty).den, wfD (.pair (.sl (.int .i64)) (.pair (.sl (.int .i64)) .unit)) x → L04_BitsetTwo x.1 x.2.1 = some true :=
  fun x hx => BS.two x.1 x.2.1 (wfl hx.1).1 (wfl hx.2.1).1
end Go.Proofs.YtejedlpnejjnbaaDoorBV
