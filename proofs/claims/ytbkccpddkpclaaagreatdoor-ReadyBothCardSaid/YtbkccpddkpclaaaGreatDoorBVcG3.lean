import Derived.Test.YtbkccpddkpclaaaGreatDoorBVcG2
import Derived.LaidMore
import Derived.Lay
set_option linter.unusedVariables false
set_option linter.unusedSimpArgs false
namespace Go.Proofs.YtbkccpddkpclaaaGreatDoorV
open Go.RowKit
mutual
def dat : (e : Ty) → DataW Unit → Option e.den
  | .int k, .lit (.int k' n) => if k' = k then some n else none
  | .bool, .lit (.bool b) => some b
  | .str, .lit (.string bs) => some (⟨bs.toArray⟩ : ByteArray)
  | .unit, .agg [] => some ()
  | .pair a b, .agg (d :: ds) => match dat a d with
    | some x => match dats b ds with
      | some y => some (x, y)
      | none => none
    | none => none
  | .arr n e, .agg ds => datL (dat e) ds
  | _, _ => none
def dats : (e : Ty) → List (DataW Unit) → Option e.den
  | .pair a b, d :: ds => match dat a d with
    | some x => match dats b ds with
      | some y => some (x, y)
      | none => none
    | none => none
  | .unit, [] => some ()
  | _, _ => none
def datL {α : Type} (f : DataW Unit → Option α) : List (DataW Unit) → Option (List α)
  | [] => some []
  | d :: ds => match f d with
    | some x => match datL f ds with
      | some y => some (x :: y)
      | none => none
    | none => none
end
section
variable {P : Program} {w : World} {sp : Nat → Bool} {held : Bool} {ok : Nat → Prop}
theorem datL_get {α : Type} {f : DataW Unit → Option α} : ∀ {ds : List (DataW Unit)} {ys : List α}, datL f ds = some ys → ys.length = ds.length ∧ ∀ i (h : i < ys.length) d, ds[i]? = some d → f d = some ys[i]
  | [], ys, h => by cases h; exact ⟨rfl, fun i h => by simp at h⟩
  | d :: ds, ys, h => by
    unfold datL at h
    split at h
    · rename_i x hx
      split at h
      · rename_i l hl
        cases h
        obtain ⟨g1, g2⟩ := datL_get hl
        refine ⟨by simp [g1], fun i hi d' hd => ?_⟩
        cases i with
        | zero => simp at hd; subst hd; exact hx
        | succ i => simp at hd; exact g2 i (by simpa using hi) d' hd
      · cases h
    · cases h
theorem trod_dat : ∀ (n : Nat) (e : Ty), dT e ≤ n → ∀ (t : TypeId) (fuel : Nat) (cs : List Value) (x : DataW Unit × List MemPlace) (y : e.den), TyOk P e t → DataW.trod (fun _ => ()) P w 0 sp held fuel t cs = some x → dat e x.1 = some y → Enc ok w e y cs := by
  intro n
  induction n with
  | zero => intro e h; cases e <;> simp only [dT] at h <;> omega
  | succ n ih =>
    intro e hn t fuel cs x y hT h hd
    cases e with
    | int k =>
      obtain ⟨m, rfl, rfl, hwf⟩ := DataW.trod_int hT.2 h
      simp only [dat] at hd
      split at hd
      · cases hd; exact ⟨rfl, hwf⟩
      · cases hd
    | bool =>
      obtain ⟨b, rfl, rfl⟩ := DataW.trod_bool hT.2 h
      cases hd; rfl
    | str =>
      obtain ⟨s, rfl, rfl, hs⟩ := DataW.trod_string hT.2 h
      simp only [dat, Option.some.injEq] at hd
      have hy : y = s := by rw [← hd]
      subst hy
      exact ⟨rfl, hs⟩
    | opq z => simp [dat] at hd
    | sl e => simp [dat] at hd
    | unit =>
      obtain ⟨_, fs, g1, g2, g3⟩ := id hT
      obtain ⟨xs, m, _, rfl, hl, _⟩ := DataW.trod_struct g1 h
      rw [cellsOf_ty hT] at hl
      exact List.eq_nil_of_length_eq_zero hl
    | pair a b =>
      obtain ⟨_, fs, g1, g2, f, r, g3, g4, g5, g6, g7⟩ := id hT
      obtain ⟨xs, m, _, rfl, hl, hlen, hf⟩ := DataW.trod_struct g1 h
      rw [cellsOf_ty hT] at hl
      have hF : FsOk P (.pair a b) fs.toList 0 := ⟨f, r, g3, g4, g5, g6, by rw [Nat.zero_add]; exact g7⟩
      have sub : ∀ (e : Ty) (fs' : List Field) (off : Nat) (cs : List Value) (xs : List (DataW Unit × List MemPlace)) (y : e.den), dT e ≤ n + 1 → FsOk P e fs' off → cs.length = e.size →
          (∀ (i : Nat) (f : Field), fs'[i]? = some f → DataW.trod (fun _ => ()) P w 0 sp held m f.type ((cs.drop (f.offset - off)).take (P.cellsOf f.type)) = xs[i]?) → dats e (xs.map (·.1)) = some y → Enc ok w e y cs := by
        intro e
        induction e with
        | unit => intro fs' off cs xs y _ hF hl _ _; exact List.eq_nil_of_length_eq_zero hl
        | pair a b _ ihb =>
          intro fs' off cs xs y hn hF hl hx hd
          obtain ⟨f, r, rfl, g1, g2, g3, g4⟩ := hF
          have hl : cs.length = a.size + b.size := hl
          have hc := cellsOf_ty g3
          have hna : dT a ≤ n := by simp only [dT] at hn; omega
          cases xs with
          | nil => simp [dats] at hd
          | cons x0 xr =>
            simp only [List.map_cons, dats] at hd
            split at hd
            · rename_i y1 h1
              split at hd
              · rename_i y2 h2
                cases hd
                have h0 := hx 0 f rfl
                rw [g1, Nat.sub_self, List.drop_zero, hc] at h0
                have h0 : DataW.trod (fun _ => ()) P w 0 sp held m f.type (cs.take a.size) = some x0 := h0
                have e1 := ih a hna f.type m _ x0 y1 g3 h0 h1
                have e2 := ihb r (off + a.size) (cs.drop a.size) xr y2 (by simp only [dT] at hn; omega) g4 (by rw [List.length_drop, hl]; omega) (fun i f' hi => by
                  have := hx (i + 1) f' (by simpa using hi)
                  have ho : off + a.size ≤ f'.offset := offs b r (off + a.size) g4 i f' hi
                  rw [List.drop_drop, show a.size + (f'.offset - (off + a.size)) = f'.offset - off by omega]
                  simpa using this) h2
                exact ⟨cs.take a.size, cs.drop a.size, (List.take_append_drop _ _).symm, e1, e2⟩
              · cases hd
            · cases hd
        | _ => intro fs' off cs xs y _ hF; exact hF.elim
      have hd : dats (.pair a b) (xs.map (·.1)) = some y := by
        cases hxs : xs.map (·.1) with
        | nil => simp [hxs, dat] at hd
        | cons d ds => simp only [hxs, dat] at hd; simp only [dats]; exact hd
      exact sub (.pair a b) fs.toList 0 cs xs y hn hF hl (fun i f hi => by simpa using hf i f (by simpa using hi)) hd
    | arr m e =>
      obtain ⟨_, te, g1, g2⟩ := id hT
      obtain ⟨xs, k, _, rfl, hl, hlen, hf⟩ := DataW.trod_array g1 h
      rw [cellsOf_ty hT] at hl
      have hl : cs.length = m * e.size := hl
      simp only [dat] at hd
      obtain ⟨d1, d2⟩ := datL_get hd
      have hyl : y.length = m := by rw [d1, List.length_map, hlen]
      refine ⟨hyl, EncL_pieces (m := e.size) y cs (by rw [hl, hyl]) fun i hi => ?_⟩
      have := hf i (by omega)
      rw [cellsOf_ty g2] at this
      obtain ⟨z, hz⟩ : ∃ z, xs[i]? = some z := ⟨xs[i]'(by omega), List.getElem?_eq_getElem (by omega)⟩
      rw [hz] at this
      exact ih e (by simp only [dT] at hn; omega) te k _ z _ g2 this (d2 i hi z.1 (by rw [List.getElem?_map, hz]; rfl))
theorem laid_get : ∀ {laid : List (String × DataW Unit)} {ps : List MemPlace} {n : String} {d : DataW Unit}, DataW.LaidVars P w laid ps → (n, d) ∈ laid →
    ∃ g t cs fuel p, P.globalNamed n = some g ∧ (P.globals[g]?).map (·.type) = some t ∧ w.var? P n = some cs ∧ DataW.trod (fun _ => ()) P w 0 (fun _ => true) false fuel t cs.toList = some (d, p)
  | [], _, _, _, _, h => by cases h
  | (n0, d0) :: r, ps, n, d, hl, h => by
    obtain ⟨g, t, cs, fuel, p, q, h1, h2, h3, h4, h5, _⟩ := hl
    rcases List.mem_cons.1 h with h | h
    · cases h; exact ⟨g, t, cs, fuel, p, h1, h2, h3, h4⟩
    · exact laid_get h5 h
def GlAll (P : Program) (laid : List (String × DataW Unit)) : List (Nat × Sigma Ty.den) → Prop
  | [] => True
  | (g, ⟨e, x⟩) :: l => (∃ n d t, (n, d) ∈ laid ∧ P.globalNamed n = some g ∧ (P.globals[g]?).map (·.type) = some t ∧ tyB P e t = true ∧ Nat.ble 1 e.size = true ∧ dat e d = some x) ∧ GlAll P laid l
theorem glOk_of {laid : List (String × DataW Unit)} (hm : laidMet P laid w) : ∀ (G : List (Nat × Sigma Ty.den)), GlAll P laid G → ∀ g e x, lkG G g = some ⟨e, x⟩ → (g < w.heap.size) ∧ ∃ cs : List Value, cs.length = e.size ∧ (∀ j, j < e.size → w.cell? ⟨g, 0 + j, none⟩ = cs[j]?) ∧ Enc (fun b => b < w.heap.size) w e x cs
  | [], _, g, e, x, h => by cases h
  | (g0, ⟨e0, x0⟩) :: G, hG, g, e, x, h => by
    obtain ⟨⟨n, d, t, k1, k2, k3, k4, k5, k6⟩, hG⟩ := hG
    by_cases hg : g0 = g
    · subst hg
      have h : cond (Nat.beq g0 g0) (some (⟨e0, x0⟩ : Sigma Ty.den)) (lkG G g0) = some ⟨e, x⟩ := h
      rw [Nat.beq_refl] at h
      cases h
      obtain ⟨ps, hl, _, _⟩ := hm
      obtain ⟨g, t', cs, fuel, p, h1, h2, h3, h4⟩ := laid_get hl k1
      obtain rfl := Option.some.inj (k2.symm.trans h1)
      obtain rfl := Option.some.inj (k3.symm.trans h2)
      have hT := tyB_ok e0 t k4
      have hE := trod_dat (ok := fun b => b < w.heap.size) (dT e0) e0 (Nat.le_refl _) t fuel cs.toList (d, p) x0 hT h4 k6
      have hc : ∀ j, w.cell? ⟨g0, j, none⟩ = cs.toList[j]? := fun j => by
        rw [World.var?_cell h1 h3 j]; simp
      have hlen := Enc_length _ _ _ hE
      refine ⟨?_, cs.toList, hlen, fun j hj => by rw [Nat.zero_add]; exact hc j, hE⟩
      have h5 := Nat.le_of_ble_eq_true k5
      have h0 := hc 0
      rw [List.getElem?_eq_getElem (by omega)] at h0
      rcases Nat.lt_or_ge g0 w.heap.size with hlt | hge
      · exact hlt
      · exfalso
        simp only [World.cell?] at h0
        rw [Array.getElem?_eq_none hge] at h0
        cases h0
    · have h : cond (Nat.beq g0 g) (some (⟨e0, x0⟩ : Sigma Ty.den)) (lkG G g) = some ⟨e, x⟩ := h
      have hb : Nat.beq g0 g = false := by
        cases hb : Nat.beq g0 g with
        | false => rfl
        | true => exact absurd (Nat.eq_of_beq_eq_true hb) hg
      rw [hb] at h
      exact glOk_of hm G hG g e x h
theorem gl_door {laid : List (String × DataW Unit)} (hp : (laid.filter fun x => x.2.handleName?.isSome) = []) (hm : laidMetH P laid w) (hG : GlAll P laid GL) : GlOk (fun b => b < w.heap.size) w := by
  unfold laidMetH at hm
  rw [hp] at hm
  exact glOk_of hm GL hG
end
end Go.Proofs.YtbkccpddkpclaaaGreatDoorV
