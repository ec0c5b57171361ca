/- The laws of opcode. -/
import Derived.Test.YtdddmgbbjifkdaaDoorMKit
import Derived.Test.YtdddmgbbjifkdaaDoorDL09
import Derived.Test.YtdddmgbbjifkdaaDoorDOpcodeTells
import Derived.Test.YtdddmgbbjifkdaaDoorDOpcodeFinds
import Derived.Test.YtdddmgbbjifkdaaDoorDOpcodeBack
namespace Go.Proofs.YtdddmgbbjifkdaaDoorV
set_option linter.unusedVariables false
set_option linter.unusedSimpArgs false
theorem alive09 : L09_alive = some true := by decide +kernel
namespace L09
theorem table : R09_Table = some gl_becket_opcode_kinds := by unfold R09_Table; rw [letv_eq]; rfl
theorem len : (gl_becket_opcode_kinds.length : Int) = 48 := by decide +kernel
def okTells (n : Nat) : Bool := L09_OpcodeTells (n : Int) == some true
theorem tells_in : (List.range 48).all okTells = true := by decide +kernel
theorem fine_in {a : Int} (h0 : 0 ≤ a) (h1 : a < 48) : opcode_fine a = some true := by
  unfold opcode_fine; rw [bif_pos h0, decide_eq_true h1]
theorem fine_out {a : Int} (h : a < 0 ∨ 48 ≤ a) : opcode_fine a = some false := by
  unfold opcode_fine
  rcases h with h | h
  · rw [bif_neg (by omega)]
  · rw [bif_pos (by omega), decide_eq_false (by omega)]
theorem name_out {a : Int} (h : a < 0 ∨ 48 ≤ a) : opcode_Name a = some ⟨#[]⟩ := by unfold opcode_Name; rw [fine_out h]; rfl
theorem form_out {a : Int} (h : a < 0 ∨ 48 ≤ a) : opcode_Form a = some ⟨#[]⟩ := by unfold opcode_Form; rw [fine_out h]; rfl
theorem class_out {a : Int} (h : a < 0 ∨ 48 ≤ a) : opcode_Class a = some (-1) := by unfold opcode_Class; rw [fine_out h]; rfl
theorem of_out {a : Int} (h : a < 0 ∨ 48 ≤ a) : R09_Of a = some (⟨#[]⟩, ⟨#[]⟩, -1, ()) := by
  unfold R09_Of
  rw [table, Option.bind_some, len]
  rcases h with h | h
  · rw [bif_pos h]
  · rw [bif_neg (by omega), bif_pos (by omega)]
theorem tells (a : Int) : L09_OpcodeTells a = some true := by
  by_cases h : 0 ≤ a ∧ a < 48
  · have := List.all_eq_true.1 tells_in a.toNat (List.mem_range.2 (by omega))
    have e : ((a.toNat : Nat) : Int) = a := by omega
    unfold okTells at this
    rw [e] at this
    exact eq_of_beq this
  · have h : a < 0 ∨ 48 ≤ a := by omega
    unfold L09_OpcodeTells
    rw [of_out h, name_out h, form_out h, class_out h, alive09]
    decide +kernel
theorem find_eq (s : ByteArray) : R09_Find s = opcode_Find s := by
  unfold R09_Find opcode_Find
  rw [table, Option.bind_some]
  have : R09_Find_L1 gl_becket_opcode_kinds s = opcode_Find_L1 s := by
    funext k x
    unfold R09_Find_L1 opcode_Find_L1
    rw [len]; rfl
  rw [this]
theorem find_some (s : ByteArray) : ∃ r, opcode_Find s = some r := by
  have key : ∃ spec : Int → Option (Int × Bool × Unit), (∀ i, ∃ r, spec i = some r) ∧ loop (opcode_Find_L1 s) 0 = spec 0 := by
    let rest : Nat → Option (Int × Bool × Unit) := fun n => Nat.rec (some (0, false, ())) (fun m r => bif (gl_becket_opcode_kinds.getD (47 - m) (⟨#[]⟩, ⟨#[]⟩, 0, ())).1.toList == s.toList then some (((47 - m : Nat) : Int), true, ()) else r) n
    have hr : ∀ n, ∃ r, rest n = some r := by
      intro n
      induction n with
      | zero => exact ⟨_, rfl⟩
      | succ m ih =>
        show ∃ r, (bif _ then some _ else rest m) = some r
        cases (gl_becket_opcode_kinds.getD (47 - m) (⟨#[]⟩, ⟨#[]⟩, 0, ())).1.toList == s.toList with
        | true => exact ⟨_, rfl⟩
        | false => exact ih
    refine ⟨fun i => rest (48 - i).toNat, fun i => hr _, ?_⟩
    refine loop_up (fun i => i) 48 (fun i => 0 ≤ i ∧ i ≤ 48) (fun i => rest (48 - i).toNat) ⟨Int.le_refl _, by decide⟩ (by decide) fun k i hi hk => ?_
    unfold opcode_Find_L1
    by_cases h : i < 48
    · rw [bif_pos h, chk_pos (by omega), w64 (x := i + 1) (by omega) (by omega), hk h (i + 1) (by omega) rfl]
      obtain ⟨m, hm⟩ : ∃ m : Nat, (48 - i).toNat = m + 1 := ⟨(47 - i).toNat, by omega⟩
      have e1 : (48 - (i + 1)).toNat = m := by omega
      have e2 : i.toNat = 47 - m := by omega
      have e3 : ((47 - m : Nat) : Int) = i := by omega
      show _ = rest (48 - i).toNat
      rw [hm, e1, e2]
      show _ = (bif _ then some (((47 - m : Nat) : Int), true, ()) else rest m)
      rw [e3]
    · rw [bif_neg h]
      have : (48 - i).toNat = 0 := by omega
      show _ = rest (48 - i).toNat
      rw [this]; rfl
  obtain ⟨spec, h1, h2⟩ := key
  obtain ⟨r, hr⟩ := h1 0
  exact ⟨r, by unfold opcode_Find; rw [h2, hr]⟩
theorem finds (s : ByteArray) : L09_OpcodeFinds s = some true := by
  unfold L09_OpcodeFinds
  by_cases h : (s.size : Int) > 100
  · rw [bif_pos h, alive09]; rfl
  · rw [bif_neg h, find_eq]
    obtain ⟨r, hr⟩ := find_some s
    rw [hr]
    simp only [Option.bind_some, decide_true, cond_true, beq_self_eq_true]
    rw [alive09]; rfl
def okBack (n : Nat) : Bool := opcode_Find ((opcode_Name (n : Int)).getD ⟨#[]⟩) == some ((n : Int), true, ()) && (opcode_Name (n : Int)).isSome && (opcode_Form (n : Int)).isSome && decide (((opcode_Form (n : Int)).getD ⟨#[]⟩).size = 3) && !(((opcode_Name (n : Int)).getD ⟨#[]⟩).toList == (⟨#[]⟩ : ByteArray).toList)
theorem back_in : (List.range 48).all okBack = true := by decide +kernel
def okTwo (n : Nat) : Bool := (List.range 48).all fun m => (((opcode_Name (n : Int)).getD ⟨#[]⟩).toList == ((opcode_Name (m : Int)).getD ⟨#[]⟩).toList) == decide ((n : Int) = (m : Int))
theorem two_in : (List.range 48).all okTwo = true := by decide +kernel
theorem back (a b : Int) (ha : 0 ≤ a ∧ a ≤ 255) (hb : 0 ≤ b ∧ b ≤ 255) : L09_OpcodeBack a b = some true := by
  unfold L09_OpcodeBack
  rw [chk_pos (by omega), chk_pos (by omega)]
  have ea : Int.tmod a 48 = a % 48 := Int.tmod_eq_emod_of_nonneg ha.1
  have eb : Int.tmod b 48 = b % 48 := Int.tmod_eq_emod_of_nonneg hb.1
  rw [ea, eb, w64 (x := a % 48) (by omega) (by omega), w64 (x := b % 48) (by omega) (by omega)]
  obtain ⟨n, hn⟩ : ∃ n : Nat, a % 48 = (n : Int) := ⟨(a % 48).toNat, by omega⟩
  obtain ⟨m, hm⟩ : ∃ m : Nat, b % 48 = (m : Int) := ⟨(b % 48).toNat, by omega⟩
  rw [hn, hm]
  have h1 := List.all_eq_true.1 back_in n (List.mem_range.2 (by omega))
  have h1m := List.all_eq_true.1 back_in m (List.mem_range.2 (by omega))
  have h2 := List.all_eq_true.1 (List.all_eq_true.1 two_in n (List.mem_range.2 (by omega))) m (List.mem_range.2 (by omega))
  unfold okBack at h1 h1m
  simp only [Bool.and_eq_true] at h1 h1m
  obtain ⟨⟨⟨⟨g1, g2⟩, g3⟩, g4⟩, g5⟩ := h1
  obtain ⟨⟨⟨⟨_, g2m⟩, _⟩, _⟩, _⟩ := h1m
  obtain ⟨x, hx⟩ := Option.isSome_iff_exists.1 g2
  obtain ⟨y, hy⟩ := Option.isSome_iff_exists.1 g3
  obtain ⟨z, hz⟩ := Option.isSome_iff_exists.1 g2m
  rw [hx] at g1 g5 h2
  rw [hy] at g4
  rw [hz] at h2
  simp only [Option.getD_some] at g1 g4 g5 h2
  rw [hx, hy, hz, Option.bind_some, eq_of_beq g1]
  have g4 := of_decide_eq_true g4
  simp only [Option.bind_some, decide_true, cond_true]
  rw [bif_pos (by omega)]
  rw [h2, g5]
  simp only [cond_true]
  rw [alive09]; rfl
end L09
theorem law_L09_OpcodeTells : ∀ x : ((.pair (.int .i64) .unit) : Ty).den, wfD (.pair (.int .i64) .unit) x → L09_OpcodeTells x.1 = some true := fun x _ => L09.tells x.1
theorem law_L09_OpcodeFinds : ∀ x : ((.pair .str .unit) : Ty).den, wfD (.pair .str .unit) x → L09_OpcodeFinds x.1 = some true := fun x _ => L09.finds x.1
theorem law_L09_OpcodeBack : ∀ x : ((.pair (.int .u8) (.pair (.int .u8) .unit)) : Ty).den, wfD (.pair (.int .u8) (.pair (.int .u8) .unit)) x → L09_OpcodeBack x.1 x.2.1 = some true := fun x hx => L09.back x.1 x.2.1 (wfu8 hx.1) (wfu8 hx.2.1)
end Go.Proofs.YtdddmgbbjifkdaaDoorV
