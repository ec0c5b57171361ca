/- The law ChoiceBack. -/
import Derived.Test.YtoihmfgkmndjfaaMchoices
import Derived.Test.YtoihmfgkmndjfaaDChoiceBack
namespace Go.Proofs.YtoihmfgkmndjfaaV
open Go.RowKit choices
theorem back_tail (s : ByteArray) (hs : s.size ≤ 1000) (X : Option Bool) (hX : X = (Option.bind (choice_Read s 0) fun r14 =>
          bif !decide (r14.2.2.1 = 0) then
            Option.bind (L33_alive) fun r15 =>
            some r15
          else
            chk (0 ≤ (0 : Int) ∧ (0 : Int) ≤ r14.2.1 ∧ r14.2.1 ≤ (s.size : Int)) <|
            Option.bind (choice_Bytes r14.1) fun r16 =>
            bif r16.toList == (s.extract (0 : Int).toNat r14.2.1.toNat).toList then
              Option.bind (L33_alive) fun r17 =>
              some r17
            else
              some false)) : X = some true := by
  subst hX
  rw [read_eq s 0 (by omega), Option.bind_some, cond_nd]
  split
  · rename_i h
    obtain ⟨m, e, h1, h2, h3, h4, h5⟩ := read_back s h
    rw [h1]
    rw [chk_pos ⟨Int.le_refl 0, h3, h4⟩, bytes_eq, if_pos (allR_ok.2 h2), Option.bind_some, h5]
    show cond ((s.extract 0 e.toNat).toList == (s.extract 0 e.toNat).toList) _ _ = _
    rw [beq_self_eq_true, cond_t, alive]
    rfl
  · rw [alive]; rfl
theorem law_L33_ChoiceBack : ∀ x : ((.pair (.sl (.pair (.int .i64) (.pair (.int .i64) (.pair (.int .i64) .unit)))) (.pair .str (.pair .str .unit))) : Ty).den, wfD (.pair (.sl (.pair (.int .i64) (.pair (.int .i64) (.pair (.int .i64) .unit)))) (.pair .str (.pair .str .unit))) x → L33_ChoiceBack x.1 x.2.1 x.2.2.1 = some true := by
  intro x hx
  obtain ⟨a, t, s, _⟩ := x
  show L33_ChoiceBack a t s = some true
  have key : ∀ (a : List C) (t s : ByteArray), L33_ChoiceBack a t s = some true := by
    intro a t s
    unfold L33_ChoiceBack
    rw [cond_d]
    split
    · rw [alive]; rfl
    · rw [cond_d]
      split
      · rw [alive]; rfl
      · rw [cond_d]
        split
        · rw [alive]; rfl
        · rename_i g1 g2 g3
          rw [to_eq a (.inl (by omega)), Option.bind_some, all_eq, Option.bind_some, cond_d]
          split
          · rename_i h
            have hO := allR_ok.1 h
            rw [bytes_eq, if_pos h, Option.bind_some]
            have hsz : (strOfNums (choices.bytes a)).size = 2 + 3 * a.length := by rw [strOfNums_size, bytes_len]
            rw [chk_pos (by omega), read_eq _ _ (by rw [ByteArray.size_append]; omega), Option.bind_some, read_bytes hO]
            rw [bnot_pos rfl, w64 (x := (t.size : Int) + 2) (by omega) (by omega), w64 (x := 3 * (a.length : Int)) (by omega) (by omega), w64 (by omega) (by omega), bnot_pos rfl]
            rw [back_eq a (by omega), Option.bind_some, same_eq a (by omega), Option.bind_some, cond_tt]
            exact back_tail s (by omega) _ rfl
          · exact back_tail s (by omega) _ rfl
  exact key a t s
end Go.Proofs.YtoihmfgkmndjfaaV
