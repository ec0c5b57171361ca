/- The law of alt. -/
import Derived.Test.YtoihmfgkmndjfaaMKit
import Derived.Test.YtoihmfgkmndjfaaDL30
namespace Go.Proofs.YtoihmfgkmndjfaaV
open Go.RowKit
namespace L30
def once (v1 p1 : Int) : Option Bool :=
  Option.bind (alt_Begin v1) fun r1 =>
  bif !decide (r1.2.1 = 0) then
    some false
  else
    loop (L30_AltOnce_L2 v1 p1) (0, r1.1.1, r1.1.2.1, r1.1.2.2.1, r1.1.2.2.2.1)
theorem all : ∀ n : Fin 6, ∀ k : Fin 6, k.val < n.val + 1 → once ((n.val + 1 : Nat) : Int) (k.val : Int) = some true := by decide +kernel
theorem law (a b : Int) (ha : 0 ≤ a ∧ a ≤ 255) (hb : 0 ≤ b ∧ b ≤ 255) : L30_AltOnce a b = some true := by
  have hn : IntKind.i64.wrap (1 + IntKind.i64.wrap (Int.tmod a 6)) = 1 + a % 6 := by
    rw [Int.tmod_eq_emod_of_nonneg ha.1, w64 (x := _ % 6) (by omega) (by omega), w64 (by omega) (by omega)]
  have hk : Int.tmod (IntKind.i64.wrap b) (1 + a % 6) = b % (1 + a % 6) := by
    rw [w64 (by omega) (by omega), Int.tmod_eq_emod_of_nonneg hb.1]
  have h := all ⟨(a % 6).toNat, by omega⟩ ⟨(b % (1 + a % 6)).toNat, by
    have := Int.emod_nonneg b (show 1 + a % 6 ≠ 0 by omega)
    have := Int.emod_lt_of_pos b (show 0 < 1 + a % 6 by omega)
    omega⟩ (by
    have := Int.emod_nonneg b (show 1 + a % 6 ≠ 0 by omega)
    have := Int.emod_lt_of_pos b (show 0 < 1 + a % 6 by omega)
    simp only; omega)
  have e1 : ((((a % 6).toNat + 1 : Nat)) : Int) = 1 + a % 6 := by omega
  have e2 : (((b % (1 + a % 6)).toNat : Nat) : Int) = b % (1 + a % 6) := Int.toNat_of_nonneg (Int.emod_nonneg b (show 1 + a % 6 ≠ 0 by omega))
  simp only [e1, e2] at h
  unfold L30_AltOnce
  rw [chk_pos (by decide), hn, letv_eq, chk_pos (by omega), hk]
  exact h
end L30
open L30
theorem law_L30_AltOnce : ∀ x : ((.pair (.int .u8) (.pair (.int .u8) .unit)) : Ty).den, wfD (.pair (.int .u8) (.pair (.int .u8) .unit)) x → L30_AltOnce x.1 x.2.1 = some true :=
  fun x hx => law x.1 x.2.1 (wfu8 hx.1) (wfu8 hx.2.1)
end Go.Proofs.YtoihmfgkmndjfaaV
