/- Methods by contract, or looked into. -/
import Derived.Test.YtoihmfgkmndjfaaVcSm
import Derived.Test.YtoihmfgkmndjfaaVcG1
set_option linter.unusedVariables false
set_option linter.unusedSimpArgs false
namespace Go.Proofs.YtoihmfgkmndjfaaV
open Go.RowKit

/-! ### A method: by its contract where the receiver's rows are its own, else looked into -/
def isS (fs rk : List FK) (off : Nat) (hp : List (Nat × Blk)) : List AV → Bool
  | .ptr id [] :: rest => match lkb hp id with
    | .var e (.agg l) false => decide (e = stT fs) && (match getS hp fs l with
      | some (_, ids) => distN (id :: (ids ++ newN off rk)) && pureAV.pures rest
      | none => false)
    | _ => false
  | _ => false
noncomputable def sumOr (fs rk : List FK) (G : (stT fs).den → List AV → Option ((stT fs).den × (stT rk).den)) (T0 : Proc) : Proc := fun off hp vs k =>
  cond (isS fs rk off hp vs) (sumT fs rk G off hp vs k) (T0 off hp vs k)
theorem sumOr_con {P : Program} {g : FuncId} {fs rk : List FK} {T0 : Proc} {G : (stT fs).den → List AV → Option ((stT fs).den × (stT rk).den)} (h1 : SCon P g (sumT fs rk G)) (h0 : SCon P g T0) : SCon P g (sumOr fs rk G T0) := by
  intro off X ρ hp w vs xs a0 K hXP R hok hargs h
  unfold sumOr at h
  cases hb : isS fs rk off hp vs with
  | true => rw [hb] at h; exact h1 off X ρ hp w vs xs a0 K hXP R hok hargs h
  | false => rw [hb] at h; exact h0 off X ρ hp w vs xs a0 K hXP R hok hargs h
def liftM {fs rk : List FK} (T : Ty) (N : (stT fs).den → T.den → Option ((stT fs).den × (stT rk).den)) : (stT fs).den → List AV → Option ((stT fs).den × (stT rk).den) := fun x vs =>
  match pks T vs with
  | some a => N x a
  | none => none
theorem liftM_elim {fs rk : List FK} {T : Ty} {N : (stT fs).den → T.den → Option ((stT fs).den × (stT rk).den)} {x : (stT fs).den} {vs : List AV} {r : (stT fs).den × (stT rk).den} (h : liftM T N x vs = some r) : ∃ a, vs = fieldsOf T a ∧ N x a = some r := by
  unfold liftM at h
  split at h
  · rename_i a ha; exact ⟨a, pks_eq T vs a ha, h⟩
  · cases h
theorem meth_con {P : Program} {g : FuncId} {fs rk : List FK} {T : Ty} {T0 : Proc} {N : (stT fs).den → T.den → Option ((stT fs).den × (stT rk).den)} (hfs : fs.all FK.ok = true) (hrk : rk.all FK.ok = true) (hrw : rk.all FK.wf = true) (hT : SCon P g T0)
    (hG : ∀ x a x' y, N x a = some (x', y) → T0 1024 (hpC fs x) (.ptr 0 [] :: fieldsOf T a) (finS fs rk x' y)) : SCon P g (sumT fs rk (liftM T N)) := by
  refine sum_con hfs hrk hrw hT ?_
  intro x rest x' y h
  obtain ⟨a, rfl, h2⟩ := liftM_elim h
  exact hG x a x' y h2
/-- Never looked into. -/
def noP : Proc := fun _ _ _ _ => False
theorem no_con {P : Program} {g : FuncId} : SCon P g noP := fun _ _ _ _ _ _ _ _ _ _ _ _ _ h => h.elim
theorem callM_mk {fs rk : List FK} {T : Ty} {N : (stT fs).den → T.den → Option ((stT fs).den × (stT rk).den)} {x : (stT fs).den} {vs : List AV} {a : T.den} {k : (stT fs).den → (stT rk).den → Prop} {r : (stT fs).den × (stT rk).den} (h1 : pks T vs = some a) (h2 : N x a = some r) (h3 : k r.1 r.2) : callS (liftM T N x vs) k := by
  refine callS_mk (x := r.1) (r := r.2) ?_ h3
  unfold liftM; rw [h1]; exact h2
def valsOf : List FK → AV → List AV
  | [_], v => [v]
  | _, .tup l => l
  | _, _ => []
theorem fin_m {fs rk : List FK} {X x' : (stT fs).den} {Y y : (stT rk).den} {hp : List (Nat × Blk)} {kl : List Nat} {p : Nat} {v : AV} {l' : List AV} {ids js : List Nat} (h : some (X, Y) = some (x', y)) (h0 : below 1000000000000000000000000000000000000000000000000 hp = true) (ho : okVs (valsOf rk v) = true) (h1 : lkb (convH rk (valsOf rk v) 1000000000000000000000000000000000000000000000000 hp) 0 = .var (stT fs) (.agg l') false) (h2 : getS (convH rk (valsOf rk v) 1000000000000000000000000000000000000000000000000 hp) fs l' = some (X, ids)) (h3 : v = tupOf (valsOf rk v)) (h4 : getS (convH rk (valsOf rk v) 1000000000000000000000000000000000000000000000000 hp) rk (convL rk (valsOf rk v) 1000000000000000000000000000000000000000000000000) = some (Y, js)) (h5 : distN (0 :: (ids ++ js)) = true) (h6 : memN kl 0 = false) : finS fs rk x' y hp (some (kl, p)) v := by
  cases h
  exact ⟨_, l', ids, valsOf rk v, js, kl, p, h0, ho, h1, h2, h3, h4, h5, rfl, h6⟩
end Go.Proofs.YtoihmfgkmndjfaaV
