/- Small lemmas of this seat's own, over the printed words alone: rounds (Ev), sums that do not wrap, reading a list. No statement. -/
import Derived.Test.YtdddmgbbjifkdaaWMore
import Derived.Test.YtdddmgbbjifkdaaWWords
import Derived.Test.YtdddmgbbjifkdaaWSized
import Derived.OpenShut
/- The printed rows name 'PrintWords.sized_ints' from inside the seat's namespace; the printed words lie under another one. -/
namespace Go.Proofs.Ytdddmgbbjifkdaa.PrintWords
abbrev sized_ints := @Go.Proofs.YtdddmgbbjifkdaaW.PrintWords.sized_ints
end Go.Proofs.Ytdddmgbbjifkdaa.PrintWords
namespace Go.Proofs.Ytdddmgbbjifkdaa.Kit
open Go.RowKit Go.Proofs.YtdddmgbbjifkdaaW.PrintWords Go.Proofs.YtdddmgbbjifkdaaW.PrintLast Go.Proofs.YtdddmgbbjifkdaaW.PrintMore

theorem wr {x : Int} (h : -9223372036854775808 ≤ x ∧ x ≤ 9223372036854775807) : wrap64 x = x := by unfold wrap64; omega

theorem mx_max (a b : Int) : mx a b = max a b := by unfold mx; split <;> omega
theorem mn_min (a b : Int) : mn a b = min a b := by unfold mn; split <;> omega

theorem ev_succ {α : Type} {g : Nat → Option α} {r : α} (h : Ev (fun k => g (k + 1)) r) : Ev g r := Ev.step (fun _ => rfl) h

theorem ev_bind {α β : Type} {g : Nat → Option α} {f : Nat → α → Option β} {a : α} {r : β} (h : Ev g a) (k : Ev (fun n => f n a) r) : Ev (fun n => (g n).bind (f n)) r := Ev.bind h k

theorem ev_const {α : Type} {g : Option α} {r : α} (h : g = some r) : Ev (fun _ => g) r := ⟨0, fun _ _ => h⟩

theorem ev_if_pos {α : Type} {c : Prop} [Decidable c] {A B : Nat → Option α} {r : α} (h : c) (k : Ev A r) : Ev (fun n => if c then A n else B n) r := by simpa only [if_pos h] using k

theorem ev_if_neg {α : Type} {c : Prop} [Decidable c] {A B : Nat → Option α} {r : α} (h : ¬ c) (k : Ev B r) : Ev (fun n => if c then A n else B n) r := by simpa only [if_neg h] using k

theorem ev_imp {α : Type} {g : Nat → Option α} {r : α} (K : Nat) (h : ∀ k, K ≤ k → g k = some r) : Ev g r := ⟨K, h⟩

theorem rd_at {xs : List Int} {i : Int} (h : i.toNat < xs.length) : rd xs i = xs[i.toNat] := by
  unfold rd; rw [List.getD_eq_getElem?_getD, List.getElem?_eq_getElem h]; rfl

theorem rd_nat {xs : List Int} {i : Nat} (h : i < xs.length) : rd xs (i : Int) = xs[i] := by
  have := rd_at (xs := xs) (i := (i : Int)) (by simpa using h)
  simpa using this

theorem rd_mid (pre : List Int) (y : Int) (rest : List Int) : rd (pre ++ y :: rest) (pre.length : Int) = y := by
  unfold rd; simp [List.getD_eq_getElem?_getD]

theorem rd_mem {xs : List Int} {i : Int} (h0 : 0 ≤ i) (h : i < (xs.length : Int)) : rd xs i ∈ xs := by
  rw [rd_at (by omega)]; exact List.getElem_mem _

end Go.Proofs.Ytdddmgbbjifkdaa.Kit
