/- Functions of Go's library in this program, as the shelf numbers them. -/
import Derived.Test.YtoihmfgkmndjfaaVcTab
import Derived.Test.YtoihmfgkmndjfaaVcCp
namespace Go.Proofs.YtoihmfgkmndjfaaV
open Go.Proofs Go.Shelf
def renCp : Ren := ⟨fun x => if x = 240 then 84 else 86, fun x => if x = 0 then 0 else if x = 4 then 4 else if x = 9 then 9 else if x = 20 then 20 else if x = 70 then 130 else if x = 72 then 132 else if x = 164 then 145 else x, fun x => x⟩
theorem lays_cp : Lays.n240 Go.Proofs.Try.prog renCp where
  mixed := mixed_ok
  f240 := by kernel_rfl
  f276 := by kernel_rfl
  t0 := Try.underlying0
  a0 := Try.isAgg0
  z0 := Try.sizeOf0
  v0 := Try.zeroValue0
  t4 := Try.underlying4
  a4 := Try.isAgg4
  z4 := Try.sizeOf4
  v4 := Try.zeroValue4
  t9 := Try.underlying9
  a9 := Try.isAgg9
  z9 := Try.sizeOf9
  v9 := Try.zeroValue9
  t20 := Try.underlying20
  a20 := Try.isAgg20
  z20 := Try.sizeOf20
  v20 := Try.zeroValue20
  t70 := Try.underlying130
  a70 := Try.isAgg130
  z70 := Try.sizeOf130
  v70 := Try.zeroValue130
  t72 := Try.underlying132
  a72 := Try.isAgg132
  z72 := Try.sizeOf132
  v72 := Try.zeroValue132
  t164 := Try.underlying145
  a164 := Try.isAgg145
  z164 := Try.sizeOf145
  v164 := Try.zeroValue145
theorem x72_cp : Builder.X72 Go.Proofs.Try.prog renCp where
  sizeBuilder := by kernel_rfl
  liesBuilder := by kernel_rfl
end Go.Proofs.YtoihmfgkmndjfaaV
