/- slices.Delete at []int in this program. -/
import Derived.Test.YtbkccpddkpclaaaVcTab
import Derived.Test.YtbkccpddkpclaaaVcDel
namespace Go.Proofs.YtbkccpddkpclaaaV
open Go.Proofs Go.Shelf
def renDel : Ren := ⟨fun _ => 86, fun x => if x = 22 then 24 else x, fun x => x⟩
theorem lays_del : Lays2.n23 Go.Proofs.Try.prog renDel where
  mixed := mixed_ok
  f23 := by kernel_rfl
  t0 := Try.underlying0
  a0 := Try.isAgg0
  z0 := Try.sizeOf0
  v0 := Try.zeroValue0
  t3 := Try.underlying3
  a3 := Try.isAgg3
  z3 := Try.sizeOf3
  v3 := Try.zeroValue3
  t4 := Try.underlying4
  a4 := Try.isAgg4
  z4 := Try.sizeOf4
  v4 := Try.zeroValue4
  t22 := Try.underlying24
  a22 := Try.isAgg24
  z22 := Try.sizeOf24
  v22 := Try.zeroValue24
  i3 := by kernel_rfl
end Go.Proofs.YtbkccpddkpclaaaV
