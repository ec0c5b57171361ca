/- A law's row, out of the contract of its function and what its Lean function answers. -/
import Derived.Test.YtoihmfgkmndjfaaVcG1
import Derived.OpenShut
import Derived.ChangeOld
import Derived.SizedLaws
import Derived.ProofKit
import Derived.WalkKit
set_option linter.unusedVariables false
set_option linter.unusedSimpArgs false
namespace Go.Proofs.YtoihmfgkmndjfaaV
open Go.RowKit Go.ChangeShapes Go.WideShapes Go.ChangeAt

mutual
/-- Slices' elements take cells and bytes. -/
def posB (P : Program) : Ty → TypeId → Bool
  | .sl e, t => match P.underlying t with
    | some (.slice te) => Nat.ble 1 e.size && Nat.ble 1 (P.bytesOf te) && posB P e te
    | _ => false
  | .arr _ e, t => match P.underlying t with
    | some (.array _ te) => posB P e te
    | _ => false
  | .pair a b, t => match P.underlying t with
    | some (.struct fs) => (match fs.toList with
      | f :: r => posB P a f.type && posFs P b r
      | [] => false)
    | _ => false
  | .opq _, _ => false
  | _, _ => true
def posFs (P : Program) : Ty → List Field → Bool
  | .pair a b, f :: r => posB P a f.type && posFs P b r
  | .unit, _ => true
  | _, _ => false
end

theorem cellsOf_ty {P : Program} {e : Ty} {t : TypeId} (h : TyOk P e t) : P.cellsOf t = e.size := by
  obtain ⟨i, h1, h2, _⟩ := h.base
  simp [Program.cellsOf, h1, h2]

section
variable {H : Type} {enc : TypeId × Value → H} {P : Program} {w : World} {sp : Nat → Bool}

def Weigh (P : Program) (t : TypeId) (d : DataW H) : Prop := ∀ n ∈ d.weights P t, n ≤ reachBytes

theorem weightsAll_mem {e : TypeId} : ∀ {l : List (DataW H)} {d : DataW H}, d ∈ l → ∀ n ∈ d.weights P e, n ∈ DataW.weightsAll P e l
  | [], d, h, n, hn => by cases h
  | x :: l, d, h, n, hn => by
    simp only [DataW.weightsAll, List.mem_append]
    cases h with
    | head => exact .inl hn
    | tail _ h => exact .inr (weightsAll_mem h n hn)
theorem weightsEach_get : ∀ (ts : List TypeId) (ds : List (DataW H)) (i : Nat) (t : TypeId) (d : DataW H), ts[i]? = some t → ds[i]? = some d → ∀ n ∈ d.weights P t, n ∈ DataW.weightsEach P ts ds
  | [], _, i, t, d, h, _, n, _ => by simp at h
  | _ :: _, [], i, t, d, _, h, n, _ => by simp at h
  | t0 :: ts, d0 :: ds, 0, t, d, h1, h2, n, hn => by
    simp at h1 h2; subst h1; subst h2
    simp only [DataW.weightsEach, List.mem_append]; exact .inl hn
  | t0 :: ts, d0 :: ds, i + 1, t, d, h1, h2, n, hn => by
    simp only [DataW.weightsEach, List.mem_append]
    exact .inr (weightsEach_get ts ds i t d (by simpa using h1) (by simpa using h2) n hn)

def TrodE (P : Program) (enc : TypeId × Value → H) (w : World) (sp : Nat → Bool) (e : Ty) : Prop :=
  ∀ (t : TypeId) (fuel : Nat) (cs : List Value) (x : DataW H × List MemPlace), TyOk P e t → posB P e t = true → DataW.trod enc P w 0 sp true fuel t cs = some x → Weigh P t x.1 →
    ∃ y : e.den, Enc (fun b => b < w.heap.size) w e y cs

theorem choose_list {β : Type} {Q : Nat → β → Prop} (n : Nat) (h : ∀ i, i < n → ∃ y, Q i y) : ∃ l : List β, l.length = n ∧ ∀ i (hi : i < l.length), Q i l[i] := by
  induction n with
  | zero => exact ⟨[], rfl, fun i hi => by simp at hi⟩
  | succ n ih =>
    obtain ⟨l, h1, h2⟩ := ih (fun i hi => h i (by omega))
    obtain ⟨y, hy⟩ := h n (by omega)
    refine ⟨l ++ [y], by simp [h1], fun i hi => ?_⟩
    by_cases hc : i < l.length
    · rw [List.getElem_append_left hc]; exact h2 i hc
    · have : i = l.length := by simp at hi; omega
      subst this
      simp [h1]; exact hy
theorem EncL_pieces {α : Type} {E : α → List Value → Prop} {m : Nat} : ∀ (xs : List α) (cs : List Value), cs.length = xs.length * m → (∀ i (hi : i < xs.length), E xs[i] ((cs.drop (i * m)).take m)) → EncL E xs cs
  | [], cs, hl, h => by
    simp at hl
    exact hl
  | x :: xs, cs, hl, h => by
    refine ⟨cs.take m, cs.drop m, (List.take_append_drop _ _).symm, ?_, EncL_pieces (m := m) xs (cs.drop m) ?_ fun i hi => ?_⟩
    · have := h 0 (by simp); simpa using this
    · rw [List.length_drop, hl, List.length_cons, Nat.add_mul]; omega
    · have := h (i + 1) (by simp; omega)
      rw [List.drop_drop]
      simpa [Nat.add_mul, Nat.add_comm] using this

theorem offs : ∀ (b : Ty) (fs : List Field) (off : Nat), FsOk P b fs off → ∀ (i : Nat) (f : Field), fs[i]? = some f → off ≤ f.offset
  | .unit, fs, off, h, i, f, hi => by have h : fs = [] := h; subst h; simp at hi
  | .pair a b, fs, off, h, i, f, hi => by
    obtain ⟨f0, r, rfl, g1, g2, g3, g4⟩ := h
    cases i with
    | zero => simp at hi; subst hi; omega
    | succ i => have := offs b r _ g4 i f (by simpa using hi); omega
  | .int _, _, _, h, _, _, _ => h.elim
  | .bool, _, _, h, _, _, _ => h.elim
  | .str, _, _, h, _, _, _ => h.elim
  | .sl _, _, _, h, _, _, _ => h.elim
  | .arr _ _, _, _, h, _, _, _ => h.elim
  | .opq _, _, _, h, _, _, _ => h.elim

def dT : Ty → Nat
  | .pair a b => dT a + dT b + 1
  | .sl e => dT e + 1
  | .arr _ e => dT e + 1
  | _ => 1
theorem Addr_add_none {a : Addr} {b o : Nat} (h : a = ⟨b, o, none⟩) (n : Nat) : a.add n = ⟨b, o + n, none⟩ := by
  subst h
  unfold Addr.add
  split
  · rename_i h; subst h; rfl
  · rfl
theorem trod_enc : ∀ (e : Ty), TrodE P enc w sp e := by
  have hsz : ∀ {e : Ty} (a : Addr) (te : TypeId) (y : DataW H × List MemPlace) (n : Nat), TyOk P e te → (w.cells? 0 a (P.cellsOf te)).bind (DataW.trod enc P w 0 sp true n te) = some y →
      ∃ cs, cs.length = e.size ∧ (∀ j, j < e.size → w.cell? (a.add j) = cs[j]?) ∧ DataW.trod enc P w 0 sp true n te cs = some y := by
    intro e a te y n hT h
    rw [Option.bind_eq_some_iff] at h
    obtain ⟨cs, h1, h2⟩ := h
    obtain ⟨_, h3, h4⟩ := World.cells?_some h1
    rw [cellsOf_ty hT] at h3 h4
    exact ⟨cs, h3, h4, h2⟩
  have hrec : ∀ (n : Nat) (e : Ty), dT e ≤ n → TrodE P enc w sp e := by
    intro n
    induction n with
    | zero => intro e h; cases e <;> simp only [dT] at h <;> omega
    | succ n ih =>
      intro e hn t fuel cs x hT hpos h hw
      cases e with
      | int k =>
        obtain ⟨m, rfl, rfl, hwf⟩ := DataW.trod_int hT.2 h
        exact ⟨m, rfl, hwf⟩
      | bool =>
        obtain ⟨b, rfl, rfl⟩ := DataW.trod_bool hT.2 h
        exact ⟨b, rfl⟩
      | str =>
        obtain ⟨s, rfl, rfl, hs⟩ := DataW.trod_string hT.2 h
        exact ⟨s, rfl, hs⟩
      | opq z => simp [posB] at hpos
      | unit =>
        obtain ⟨_, fs, g1, g2, g3⟩ := id hT
        obtain ⟨xs, m, _, rfl, hl, _⟩ := DataW.trod_struct g1 h
        rw [cellsOf_ty hT] at hl
        exact ⟨(), List.eq_nil_of_length_eq_zero hl⟩
      | pair a b =>
        obtain ⟨_, fs, g1, g2, f, r, g3, g4, g5, g6, g7⟩ := id hT
        have hpos : posFs P (.pair a b) fs.toList = true := by
          simp only [posB, g1] at hpos
          rw [g3] at hpos ⊢
          simp only [posFs]; exact hpos
        obtain ⟨xs, m, _, rfl, hl, hlen, hf⟩ := DataW.trod_struct g1 h
        rw [cellsOf_ty hT] at hl
        have hF : FsOk P (.pair a b) fs.toList 0 := ⟨f, r, g3, g4, g5, g6, by rw [Nat.zero_add]; exact g7⟩
        have sub : ∀ (e : Ty) (fs' : List Field) (off : Nat) (cs : List Value) (xs : List (DataW H × List MemPlace)), dT e ≤ n + 1 → FsOk P e fs' off → posFs P e fs' = true → cs.length = e.size →
            (∀ (i : Nat) (f : Field), fs'[i]? = some f → DataW.trod enc P w 0 sp true m f.type ((cs.drop (f.offset - off)).take (P.cellsOf f.type)) = xs[i]?) → (∀ (i : Nat) (f : Field) (y : DataW H × List MemPlace), fs'[i]? = some f → xs[i]? = some y → Weigh P f.type y.1) → xs.length = fs'.length →
            ∃ y : e.den, Enc (fun b => b < w.heap.size) w e y cs := by
          intro e
          induction e with
          | unit => intro fs' off cs xs _ hF _ hl _ _ _; exact ⟨(), List.eq_nil_of_length_eq_zero hl⟩
          | pair a b _ ihb =>
            intro fs' off cs xs hn hF hpos hl hx hw hlen
            obtain ⟨f, r, rfl, g1, g2, g3, g4⟩ := hF
            simp only [posFs, Bool.and_eq_true] at hpos
            have hl : cs.length = a.size + b.size := hl
            have hc := cellsOf_ty g3
            have hna : dT a ≤ n := by simp only [dT] at hn; omega
            obtain ⟨x0, xr, rfl⟩ : ∃ x0 xr, xs = x0 :: xr := by
              cases xs with
              | nil => simp at hlen
              | cons x0 xr => exact ⟨x0, xr, rfl⟩
            have h0 := hx 0 f rfl
            rw [g1, Nat.sub_self, List.drop_zero, hc] at h0
            have h0 : DataW.trod enc P w 0 sp true m f.type (cs.take a.size) = some x0 := h0
            obtain ⟨y1, e1⟩ := ih a hna f.type m _ _ g3 hpos.1 h0 (hw 0 f x0 rfl rfl)
            obtain ⟨y2, e2⟩ := ihb r (off + a.size) (cs.drop a.size) xr (by simp only [dT] at hn; omega) g4 hpos.2 (by rw [List.length_drop, hl]; omega) (fun i f' hi => by
              have := hx (i + 1) f' (by simpa using hi)
              have ho : off + a.size ≤ f'.offset := offs b r (off + a.size) g4 i f' hi
              rw [List.drop_drop, show a.size + (f'.offset - (off + a.size)) = f'.offset - off by omega]
              simpa using this) (fun i f' y hi hy => hw (i + 1) f' y (by simpa using hi) (by simpa using hy)) (by simpa using hlen)
            exact ⟨(y1, y2), cs.take a.size, cs.drop a.size, (List.take_append_drop _ _).symm, e1, e2⟩
          | _ => intro fs' off cs xs _ hF; exact hF.elim
        refine sub (.pair a b) fs.toList 0 cs xs hn hF hpos hl (fun i f hi => by simpa using hf i f (by simpa using hi)) (fun i f y hi hy n hn => ?_) (by simpa using hlen)
        refine hw n ?_
        simp only [DataW.weights, g1]
        refine weightsEach_get _ _ i f.type y.1 (by simp only [List.getElem?_map, hi]; rfl) (by simp only [List.getElem?_map, hy]; rfl) n hn
      | arr m e =>
        obtain ⟨_, te, g1, g2⟩ := id hT
        simp only [posB, g1] at hpos
        obtain ⟨xs, k, _, rfl, hl, hlen, hf⟩ := DataW.trod_array g1 h
        rw [cellsOf_ty hT] at hl
        have hl : cs.length = m * e.size := hl
        obtain ⟨ys, k1, k2⟩ := choose_list (Q := fun i y => Enc (fun b => b < w.heap.size) w e y ((cs.drop (i * e.size)).take e.size)) m (fun i hi => by
          have := hf i hi
          rw [cellsOf_ty g2] at this
          obtain ⟨z, hz⟩ : ∃ z, xs[i]? = some z := ⟨xs[i], List.getElem?_eq_getElem (by omega)⟩
          rw [hz] at this
          refine ih e (by simp only [dT] at hn; omega) te k _ z g2 hpos this (fun n hn => hw n ?_)
          simp only [DataW.weights, g1]
          exact weightsAll_mem (List.mem_map.2 ⟨z, List.mem_of_getElem? hz, rfl⟩) n hn)
        exact ⟨ys, k1, EncL_pieces (m := e.size) ys cs (by rw [hl, k1]) k2⟩
      | sl e =>
        obtain ⟨_, te, g1, g2⟩ := id hT
        simp only [posB, g1] at hpos
        rw [Bool.and_eq_true, Bool.and_eq_true] at hpos
        obtain ⟨⟨p1, p2⟩, p3⟩ := hpos
        have p1 := Nat.le_of_ble_eq_true p1
        have p2 := Nat.le_of_ble_eq_true p2
        rcases DataW.trod_slice g1 h with ⟨rfl, rfl⟩ | ⟨a, len, cap, elems, rest, k, _, rfl, rfl, hb, hlc, hcm, hlen, hel, _, _⟩
        · exact ⟨[], none, 0, rfl, Nat.le_refl _, Nat.zero_le _, Nat.zero_le _, fun _ _ => rfl, fun h => absurd rfl h⟩
        · have elem : ∀ i, i < len → ∃ z : DataW H × List MemPlace, elems[i]? = some z ∧ ∃ cs, cs.length = e.size ∧ (∀ j, j < e.size → w.cell? ((a.add (i * e.size)).add j) = cs[j]?) ∧ DataW.trod enc P w 0 sp true k te cs = some z := by
            intro i hi
            obtain ⟨z, hz⟩ : ∃ z, elems[i]? = some z := ⟨elems[i], List.getElem?_eq_getElem (by omega)⟩
            have := hel i hi
            rw [hz] at this
            obtain ⟨cs, c1, c2, c3⟩ := hsz _ te z k g2 this
            rw [cellsOf_ty g2] at c2
            exact ⟨z, hz, cs, c1, c2, c3⟩
          have hlw : len ≤ 140737488355328 := by
            have := hw ((elems.length + rest.length) * P.bytesOf te) (by simp only [DataW.weights, g1]; simp)
            have h2 : elems.length + rest.length ≤ (elems.length + rest.length) * P.bytesOf te := Nat.le_mul_of_pos_right _ p2
            have h3 : reachBytes = 140737488351232 := rfl
            omega
          obtain ⟨ys, k1, k2⟩ := choose_list (Q := fun i y => ∃ cs : List Value, cs.length = e.size ∧ (∀ j, j < e.size → w.cell? ((a.add (i * e.size)).add j) = cs[j]?) ∧ Enc (fun b => b < w.heap.size) w e y cs) len (fun i hi => by
            obtain ⟨z, hz, cs, c1, c2, c3⟩ := elem i hi
            obtain ⟨y, hy⟩ := ih e (by simp only [dT] at hn; omega) te k cs z g2 p3 c3 (fun n hn => hw n (by
              simp only [DataW.weights, g1]
              refine List.mem_cons_of_mem _ (List.mem_append_left _ ?_)
              exact weightsAll_mem (List.mem_map.2 ⟨z, List.mem_of_getElem? hz, rfl⟩) n hn))
            exact ⟨y, cs, c1, c2, hy⟩)
          refine ⟨ys, some a, cap, by rw [k1], by rw [k1]; exact hlc, hcm, by rw [k1]; exact hlw, (fun _ h => by cases h), fun hne => ?_⟩
          have hpos : 0 < ys.length := by cases ys with
            | nil => exact absurd rfl hne
            | cons _ _ => simp
          have hspot : a.spot = none := by
            obtain ⟨cs, c1, c2, _⟩ := k2 0 hpos
            have := c2 0 (by omega)
            have e0 : (a.add (0 * e.size)).add 0 = a := by simp [Addr.add]
            rw [e0] at this
            cases hs : a.spot with
            | none => rfl
            | some s =>
              exfalso
              have hn : w.cell? a = none := by
                unfold World.cell?
                split
                · simp [hs]
                · rfl
              rw [hn] at this
              have := List.getElem?_eq_none_iff.1 this.symm
              omega
          obtain ⟨b, o, s⟩ := a
          have hs : s = none := hspot
          subst hs
          refine ⟨b, o, rfl, ?_, fun i hi => ?_⟩
          · obtain ⟨cs, c1, c2, _⟩ := k2 0 hpos
            have := c2 0 (by omega)
            have e0 : ((⟨b, o, none⟩ : Addr).add (0 * e.size)).add 0 = ⟨b, o, none⟩ := by simp [Addr.add]
            rw [e0] at this
            obtain ⟨v, hv⟩ : ∃ v, cs[0]? = some v := ⟨cs[0], List.getElem?_eq_getElem (by omega)⟩
            rw [hv] at this
            exact World.block_lt_of_cell? w _ this
          · obtain ⟨cs, c1, c2, c3⟩ := k2 i hi
            refine ⟨cs, c1, fun j hj => ?_, c3⟩
            have := c2 j hj
            rw [Addr_add_none rfl, Addr_add_none rfl] at this
            exact this
  exact fun e => hrec _ e (Nat.le_refl _)

/-- A value of a type of data is an aggregate just if its type is one. -/
theorem vAgg_ok {e : Ty} {t : TypeId} {v : Value} {base : Nat} (hT : TyOk P e t) (hpos : posB P e t = true) (hv : Value.okWide P w .any base t v) : aggTy e = vAgg v := by
  unfold Value.okWide at hv
  cases e with
  | int k =>
    rw [hT.2] at hv
    unfold Cell.okWide Cell.ok at hv
    rw [hT.2] at hv
    cases v <;> first | rfl | (exfalso; exact hv)
  | bool =>
    rw [hT.2] at hv
    unfold Cell.okWide Cell.ok at hv
    rw [hT.2] at hv
    cases v <;> first | rfl | (exfalso; exact hv)
  | str =>
    rw [hT.2] at hv
    unfold Cell.okWide Cell.ok at hv
    rw [hT.2] at hv
    cases v <;> first | rfl | (exfalso; exact hv)
  | sl e =>
    obtain ⟨_, te, g1, _⟩ := hT
    rw [g1] at hv
    unfold Cell.okWide Cell.ok at hv
    rw [g1] at hv
    cases v <;> first | rfl | (exfalso; exact hv)
  | arr n e =>
    obtain ⟨_, te, g1, _⟩ := hT
    rw [g1] at hv
    obtain ⟨cs, rfl, _⟩ := hv
    rfl
  | unit =>
    obtain ⟨_, fs, g1, _⟩ := hT
    rw [g1] at hv
    obtain ⟨cs, rfl, _⟩ := hv
    rfl
  | pair a b =>
    obtain ⟨_, fs, g1, _⟩ := hT
    rw [g1] at hv
    obtain ⟨cs, rfl, _⟩ := hv
    rfl
  | opq z => simp [posB] at hpos

theorem CR_unpk {c : Cx} : ∀ (e : Ty) (y : e.den) (cs : List Value), noOpq e = true → WfT e → Enc c.ok c.w e y cs → CR c (unpack e y) cs ∧ (chain e → CRs c (fieldsOf e y) cs)
  | .int k, y, cs, _, _, h => ⟨h, fun h => h.elim⟩
  | .bool, y, cs, _, _, h => ⟨h, fun h => h.elim⟩
  | .str, y, cs, _, _, h => ⟨h, fun h => h.elim⟩
  | .unit, y, cs, _, _, h => ⟨h, fun _ => h⟩
  | .sl e, y, cs, _, _, h => ⟨h, fun h => h.elim⟩
  | .arr n e, y, cs, _, _, h => ⟨h, fun h => h.elim⟩
  | .opq _, _, _, h, _, _ => by cases h
  | .pair a b, y, cs, hn, hw, h => by
    have hn : (noOpq a && noOpq b) = true := hn
    rw [Bool.and_eq_true] at hn
    obtain ⟨u, v, rfl, h1, h2⟩ := h
    have g1 := (CR_unpk a y.1 u hn.1 hw.1 h1).1
    have g2 := (CR_unpk b y.2 v hn.2 hw.2.2 h2).2 hw.2.1
    exact ⟨⟨u, v, rfl, g1, g2⟩, fun _ => ⟨u, v, rfl, g1, g2⟩⟩
theorem aggAV_unpk (e : Ty) (y : e.den) (h : noOpq e = true) : aggAV (unpack e y) = aggTy e := by
  cases e <;> first | rfl | cases h

/-- How many bytes a slice that is an argument takes, at least. -/
def bulkT : (T : Ty) → T.den → Prop
  | .pair (.sl e) b, x => (x.1 : List e.den).length * e.lb ≤ reachBytes ∧ bulkT b x.2
  | .pair _ b, x => bulkT b x.2
  | _, _ => True
theorem trod_bulk {e : Ty} {t : TypeId} {fuel : Nat} {cs : List Value} {x : DataW H × List MemPlace} {ok : Nat → Prop} {xs : List e.den} (hT : TyOk P (.sl e) t) (h : DataW.trod enc P w 0 sp true fuel t cs = some x) (hw : Weigh P t x.1)
    (hx : Enc ok w (.sl e) xs cs) : xs.length * e.lb ≤ reachBytes := by
  obtain ⟨_, te, g1, g2⟩ := id hT
  obtain ⟨A, c, hcs, _⟩ := hx
  rcases DataW.trod_slice g1 h with ⟨rfl, rfl⟩ | ⟨a, len, cap, elems, rest, k, _, rfl, rfl, hb, hlc, hcm, hlen, hel, _, _⟩
  · simp only [List.cons.injEq, Value.slice.injEq] at hcs
    rw [← hcs.1.2.1, Nat.zero_mul]; exact Nat.zero_le _
  · simp only [List.cons.injEq, Value.slice.injEq] at hcs
    rw [← hcs.1.2.1]
    have := hw ((elems.length + rest.length) * P.bytesOf te) (by simp only [DataW.weights, g1]; simp)
    obtain ⟨i, i1, _, _, _, _, i6⟩ := g2.base
    have hbt : P.bytesOf te = i.bytes := by simp [Program.bytesOf, i1]
    rw [hbt] at this
    refine Nat.le_trans (Nat.mul_le_mul ?_ i6) this
    omega
/-- The arguments' types, in a row. -/
def TsOk (P : Program) : Ty → List TypeId → Prop
  | .pair a b, t :: ts => TyOk P a t ∧ posB P a t = true ∧ TsOk P b ts
  | .unit, [] => True
  | _, _ => False
theorem args_enc : ∀ (T : Ty) (ts : List TypeId) (vs : List Value) (ds : List (DataW H)) (ps : List MemPlace) (base : Nat), TsOk P T ts → noOpq T = true → WfT T → DataW.TrodAll enc P w 0 (fun _ => true) true ts vs ds ps →
    (∀ (j : Nat) (t : TypeId) (v : Value), ts[j]? = some t → vs[j]? = some v → Value.okWide P w .any base t v) → (∀ n ∈ DataW.weightsEach P ts ds, n ≤ reachBytes) →
    ∃ x : T.den, CVs (cx0 (fun b => b < w.heap.size) w) (fieldsOf T x) vs ∧ bulkT T x
  | .unit, ts, vs, ds, ps, base, hT, _, _, h, _, _ => by
    cases ts with
    | cons _ _ => exact hT.elim
    | nil =>
      obtain ⟨rfl, _, _⟩ := trodAll_nil h
      exact ⟨(), rfl, trivial⟩
  | .pair a b, ts, vs, ds, ps, base, hT, hn, hw, h, hok, hwt => by
    cases ts with
    | nil => exact hT.elim
    | cons t ts =>
      obtain ⟨t1, t2, t3⟩ := hT
      have hn : (noOpq a && noOpq b) = true := hn
      rw [Bool.and_eq_true] at hn
      cases vs with
      | nil => exact h.elim
      | cons v vs =>
        cases ds with
        | nil => exact h.elim
        | cons d ds =>
          obtain ⟨p, q, ⟨fuel, hd⟩, hr, _⟩ := h
          obtain ⟨y1, e1⟩ := trod_enc a t fuel _ _ t1 t2 hd (fun n hn => hwt n (by simp only [DataW.weightsEach, List.mem_append]; exact .inl hn))
          obtain ⟨y2, e2, e3⟩ := args_enc b ts vs ds q base t3 hn.2 hw.2.2 hr (fun j t v h1 h2 => hok (j + 1) t v (by simpa using h1) (by simpa using h2)) (fun n hn => hwt n (by simp only [DataW.weightsEach, List.mem_append]; exact .inr hn))
          refine ⟨(y1, y2), ⟨v, vs, rfl, (CR_unpk (c := cx0 (fun b => b < w.heap.size) w) a y1 _ hn.1 hw.1 e1).1, ?_, e2⟩, ?_⟩
          rotate_left
          · cases a with
            | sl e => exact ⟨trod_bulk t1 hd (fun n hn => hwt n (by simp only [DataW.weightsEach, List.mem_append]; exact .inl hn)) e1, e3⟩
            | _ => exact e3
          rw [aggAV_unpk a y1 hn.1]
          exact vAgg_ok t1 t2 (hok 0 t v rfl rfl)
  | .int _, ts, _, _, _, _, hT, _, _, _, _, _ => by cases ts <;> exact hT.elim
  | .bool, ts, _, _, _, _, hT, _, _, _, _, _ => by cases ts <;> exact hT.elim
  | .str, ts, _, _, _, _, hT, _, _, _, _, _ => by cases ts <;> exact hT.elim
  | .sl _, ts, _, _, _, _, hT, _, _, _, _, _ => by cases ts <;> exact hT.elim
  | .arr _ _, ts, _, _, _, _, hT, _, _, _, _, _ => by cases ts <;> exact hT.elim
  | .opq _, ts, _, _, _, _, hT, _, _, _, _, _ => by cases ts <;> exact hT.elim
end

def tsB (P : Program) : Ty → List TypeId → Bool
  | .pair a b, t :: ts => tyB P a t && posB P a t && P.readableRec t && decide (t < P.types.size) && tsB P b ts
  | .unit, [] => true
  | _, _ => false
theorem tsB_ok {P : Program} : ∀ {T : Ty} {ts : List TypeId}, tsB P T ts = true → TsOk P T ts ∧ ∀ t ∈ ts, P.readableRec t = true ∧ t < P.types.size
  | .unit, [], _ => ⟨trivial, fun t h => by cases h⟩
  | .unit, _ :: _, h => by cases h
  | .pair a b, [], h => by cases h
  | .pair a b, t :: ts, h => by
    have h : (tyB P a t && posB P a t && P.readableRec t && decide (t < P.types.size) && tsB P b ts) = true := h
    simp only [Bool.and_eq_true] at h
    obtain ⟨⟨⟨⟨h1, h2⟩, h3⟩, h4⟩, h5⟩ := h
    obtain ⟨g1, g2⟩ := tsB_ok h5
    refine ⟨⟨tyB_ok a t h1, h2, g1⟩, fun u hu => ?_⟩
    cases hu with
    | head => exact ⟨h3, of_decide_eq_true h4⟩
    | tail _ hu => exact g2 u hu
  | .int _, ts, h => by cases ts <;> cases h
  | .bool, ts, h => by cases ts <;> cases h
  | .str, ts, h => by cases ts <;> cases h
  | .sl _, ts, h => by cases ts <;> cases h
  | .arr _ _, ts, h => by cases ts <;> cases h
  | .opq _, ts, h => by cases ts <;> cases h

theorem again_all {H : Type} {enc : TypeId × Value → H} {P : Program} (hl : laidOutB P = true) {W W' : World} (hb : Below W.heap.size W W') : ∀ (ts : List TypeId) (vs : List Value) (ds : List (DataW H)) (ps : List MemPlace), (∀ t ∈ ts, P.readableRec t = true ∧ t < P.types.size) →
    DataW.TrodAll enc P W 0 (fun _ => true) true ts vs ds ps → DataW.TrodAll enc P W' 0 (fun b => decide (b < W.heap.size)) true ts vs ds ps
  | [], [], [], ps, _, h => h
  | t :: ts, v :: vs, d :: ds, ps, ht, h => by
    have hlt := DataW.TrodAll.lt h
    obtain ⟨p, q, h1, h2, rfl⟩ := h
    exact ⟨p, q, Below.trod hl (ht t List.mem_cons_self).1 (ht t List.mem_cons_self).2 h1 hb (fun x hx => hlt x (List.mem_append_left _ hx)), again_all hl hb ts vs ds q (fun t h => ht t (List.mem_cons_of_mem _ h)) h2, rfl⟩
  | [], _ :: _, _, _, _, h => h.elim
  | [], [], _ :: _, _, _, h => h.elim
  | _ :: _, [], _, _, _, h => h.elim
  | _ :: _, _ :: _, [], _, _, h => h.elim

theorem trod_len {H : Type} {enc : TypeId × Value → H} {P : Program} {w : World} {sp : Nat → Bool} : ∀ (ts : List TypeId) (vs : List Value) (ds : List (DataW H)) (ps : List MemPlace), DataW.TrodAll enc P w 0 sp true ts vs ds ps → ds.length = ts.length
  | [], [], [], _, _ => rfl
  | t :: ts, v :: vs, d :: ds, ps, h => by
    obtain ⟨p, q, _, h2, _⟩ := h
    simp [trod_len ts vs ds q h2]
  | [], _ :: _, _, _, h => h.elim
  | [], [], _ :: _, _, h => h.elim
  | _ :: _, [], _, _, h => h.elim
  | _ :: _, _ :: _, [], _, h => h.elim
theorem Inv.calls {P : Program} {g : FuncId} {xs : Array Value} {w : World} {Q : Value → World → Prop} (h : Inv P g xs w Q) (he : (callFunc g xs).run P w = .ok (.enter g xs) w) : Calls P g xs w fun e w' => ∃ z, e = .returned z ∧ Q z w' := by
  rcases h with ⟨z, w', h1, _⟩ | h
  · rw [he] at h1; cases h1
  · exact h.2

mutual
theorem pks_fields : ∀ (T : Ty) (x : T.den), chain T → noOpq T = true → WfT T → pks T (fieldsOf T x) = some x
  | .unit, _, _, _, _ => rfl
  | .pair a b, x, _, hn, hw => by
    have hn : (noOpq a && noOpq b) = true := hn
    rw [Bool.and_eq_true] at hn
    show pks (.pair a b) (unpack a x.1 :: fieldsOf b x.2) = _
    simp only [pks, pk_unpack a x.1 hn.1 hw.1, pks_fields b x.2 hw.2.1 hn.2 hw.2.2]
theorem pk_unpack : ∀ (e : Ty) (x : e.den), noOpq e = true → WfT e → pk e (unpack e x) = some x
  | .int _, _, _, _ => by simp [pk, unpack]
  | .bool, _, _, _ => rfl
  | .str, _, _, _ => rfl
  | .unit, _, _, _ => rfl
  | .sl _, _, _, _ => by simp [pk, unpack]; rfl
  | .arr _ _, _, _, _ => by simp [pk, unpack]; rfl
  | .opq _, _, h, _ => by cases h
  | .pair a b, x, hn, hw => by
    have hn : (noOpq a && noOpq b) = true := hn
    rw [Bool.and_eq_true] at hn
    show pk (.pair a b) (.agg (unpack a x.1 :: fieldsOf b x.2)) = _
    simp only [pk, pk_unpack a x.1 hn.1 hw.1, pks_fields b x.2 hw.2.1 hn.2 hw.2.2]
end
/-- A law's row, where the package-level variables hold what's told. -/
theorem row_of_b {H : Type} {enc : TypeId × Value → H} {C : Checked} {s : ChangeSpec} {f : FuncId} {fn : Func} {c : Code} {T : Ty} {F : T.den → Option Bool} (hcon : PCon C.prog f (liftF T (unpack .bool) F)) (hfn : C.prog.funcs[f]? = some fn) (hb : fn.body = some c) (hnm : (fn.name == "runtime.NumGoroutine") = false)
    (hl : laidOutB C.prog = true) (hT : tsB C.prog T fn.params.toList = true) (hno : (noOpq T && wfTB T) = true) {tr : TypeId} (hr : fn.resultTypes = #[tr]) (htr : C.prog.underlying tr = some .bool) (hvars : s.vars = [])
    (hs : ∀ ds : List (DataW H), ds.length = fn.params.toList.length → (s.fn H ds).results = [.lit (.bool true)] ∧ (s.fn H ds).args = ds ∧ (s.fn H ds).vars = [])
    (law : ∀ x : T.den, wfD T x → bulkT T x → F x = some true)
    (W : World) (hgl : GlOk (fun b => b < W.heap.size) W) (base : Nat) (args : Array Value) (ds gs : List (DataW H)) (before : List MemPlace)
    (hval : ∀ (j : Nat) t v, fn.params[j]? = some t → args[j]? = some v → Value.okWide C.prog W .any base t v)
    (hW : DataW.Whole enc C.prog fn.params.toList s.vars false W args.toList ds gs before)
    (hsz : (DataW.weightsEach C.prog (fn.params.toList ++ s.plain.varTypes C.prog) (ds ++ gs)).all (· ≤ reachBytes) = true) :
    Calls C.prog f args W fun e W' => ∃ v, e = .returned v ∧ s.post enc C.prog fn false true false false W args v W' := by
  obtain ⟨hTs, hread⟩ := tsB_ok hT
  rw [Bool.and_eq_true] at hno
  have hwfT := wfTB_ok hno.2
  have hW' := hW
  obtain ⟨p, q, hA, hV, hbe, hfz, hnd⟩ := hW
  rw [hvars] at hV
  have hgs : gs = [] ∧ q = [] := by
    cases gs with
    | nil => exact ⟨rfl, hV⟩
    | cons _ _ => exact hV.elim
  obtain ⟨rfl, rfl⟩ := hgs
  have hlen := trod_len _ _ _ _ hA
  have hwt : ∀ n ∈ DataW.weightsEach C.prog fn.params.toList ds, n ≤ reachBytes := by
    intro n hn
    rw [List.all_eq_true] at hsz
    have := hsz n (by
      rw [List.append_nil]
      have key : ∀ (ts us : List TypeId) (ds : List (DataW H)), n ∈ DataW.weightsEach C.prog ts ds → n ∈ DataW.weightsEach C.prog (ts ++ us) ds := by
        intro ts
        induction ts with
        | nil => intro us ds h; simp [DataW.weightsEach] at h
        | cons t ts ih =>
          intro us ds h
          cases ds with
          | nil => simp [DataW.weightsEach] at h
          | cons d ds =>
            simp only [DataW.weightsEach, List.cons_append, List.mem_append] at h ⊢
            rcases h with h | h
            · exact .inl h
            · exact .inr (ih us ds h)
      exact key _ _ _ hn)
    simpa using this
  obtain ⟨x, hx, hbk⟩ := args_enc T fn.params.toList args.toList ds p base hTs hno.1 hwfT hA (fun j t v h1 h2 => hval j t v (by simpa using h1) (by simpa using h2)) hwt
  have hchain : chain T := by
    cases T with
    | unit => trivial
    | pair _ _ => trivial
    | _ => exfalso; revert hTs; cases fn.params.toList <;> exact fun h => h.elim
  have hwf := wf_unpack T x hchain (CVs_wf _ _ hx) hwfT
  have hF := law x hwf hbk
  have hpk : pks T (fieldsOf T x) = some x := pks_fields T x hchain hno.1 hwfT
  have hlift : liftF T (unpack .bool) F (fieldsOf T x) = some (.bool true) := by
    unfold liftF
    rw [hpk]
    simp only
    rw [hF]; rfl
  have hcall := (hcon (fun b => b < W.heap.size) W (fieldsOf T x) args (.bool true) (fun b h => h) hgl hlift (pure_unpack T x hno.1).2 hx).calls (run_enter hfn hb hnm args W)
  refine calls_mono hcall fun e W' he => ?_
  obtain ⟨z, rfl, bel, hz⟩ := he
  have hz := VR_bool hz
  subst hz
  obtain ⟨s1, s2, s3⟩ := hs ds hlen
  refine ⟨_, rfl, ds, [], before, [], p, [], hW', ?_, ?_, ?_, bel.frame _, fun h => by cases h⟩
  · rw [List.append_nil, s1, hr]
    exact trodAll_mk1 (shut_bool htr _)
  · rw [List.append_nil, s2]
    exact again_all hl bel _ _ _ _ hread hA
  · rw [List.append_nil, s3, hvars]
    rfl
theorem row_of_gl {H : Type} {enc : TypeId × Value → H} {C : Checked} {s : ChangeSpec} {f : FuncId} {fn : Func} {c : Code} {T : Ty} {F : T.den → Option Bool} (hcon : PCon C.prog f (liftF T (unpack .bool) F)) (hfn : C.prog.funcs[f]? = some fn) (hb : fn.body = some c) (hnm : (fn.name == "runtime.NumGoroutine") = false)
    (hl : laidOutB C.prog = true) (hT : tsB C.prog T fn.params.toList = true) (hno : (noOpq T && wfTB T) = true) {tr : TypeId} (hr : fn.resultTypes = #[tr]) (htr : C.prog.underlying tr = some .bool) (hvars : s.vars = [])
    (hs : ∀ ds : List (DataW H), ds.length = fn.params.toList.length → (s.fn H ds).results = [.lit (.bool true)] ∧ (s.fn H ds).args = ds ∧ (s.fn H ds).vars = [])
    (law : ∀ x : T.den, wfD T x → F x = some true)
    (W : World) (hgl : GlOk (fun b => b < W.heap.size) W) (base : Nat) (args : Array Value) (ds gs : List (DataW H)) (before : List MemPlace)
    (hval : ∀ (j : Nat) t v, fn.params[j]? = some t → args[j]? = some v → Value.okWide C.prog W .any base t v)
    (hW : DataW.Whole enc C.prog fn.params.toList s.vars false W args.toList ds gs before)
    (hsz : (DataW.weightsEach C.prog (fn.params.toList ++ s.plain.varTypes C.prog) (ds ++ gs)).all (· ≤ reachBytes) = true) :
    Calls C.prog f args W fun e W' => ∃ v, e = .returned v ∧ s.post enc C.prog fn false true false false W args v W' :=
  row_of_b hcon hfn hb hnm hl hT hno hr htr hvars hs (fun x h _ => law x h) W hgl base args ds gs before hval hW hsz
/-- A law's row, where the arguments' bulk is known. -/
theorem row_of_bulk {H : Type} {enc : TypeId × Value → H} {C : Checked} {s : ChangeSpec} {f : FuncId} {fn : Func} {c : Code} {T : Ty} {F : T.den → Option Bool} (hcon : PCon C.prog f (liftF T (unpack .bool) F)) (hfn : C.prog.funcs[f]? = some fn) (hb : fn.body = some c) (hnm : (fn.name == "runtime.NumGoroutine") = false)
    (hl : laidOutB C.prog = true) (hT : tsB C.prog T fn.params.toList = true) (hno : (noOpq T && wfTB T) = true) {tr : TypeId} (hr : fn.resultTypes = #[tr]) (htr : C.prog.underlying tr = some .bool) (hvars : s.vars = [])
    (hs : ∀ ds : List (DataW H), ds.length = fn.params.toList.length → (s.fn H ds).results = [.lit (.bool true)] ∧ (s.fn H ds).args = ds ∧ (s.fn H ds).vars = [])
    (law : ∀ x : T.den, wfD T x → bulkT T x → F x = some true) (hGL : GL = [])
    (W : World) (base : Nat) (args : Array Value) (ds gs : List (DataW H)) (before : List MemPlace)
    (hval : ∀ (j : Nat) t v, fn.params[j]? = some t → args[j]? = some v → Value.okWide C.prog W .any base t v)
    (hW : DataW.Whole enc C.prog fn.params.toList s.vars false W args.toList ds gs before)
    (hsz : (DataW.weightsEach C.prog (fn.params.toList ++ s.plain.varTypes C.prog) (ds ++ gs)).all (· ≤ reachBytes) = true) :
    Calls C.prog f args W fun e W' => ∃ v, e = .returned v ∧ s.post enc C.prog fn false true false false W args v W' :=
  row_of_b hcon hfn hb hnm hl hT hno hr htr hvars hs law W (fun g e x hg => by rw [hGL] at hg; cases hg) base args ds gs before hval hW hsz
/-- A law's row. -/
theorem row_of {H : Type} {enc : TypeId × Value → H} {C : Checked} {s : ChangeSpec} {f : FuncId} {fn : Func} {c : Code} {T : Ty} {F : T.den → Option Bool} (hcon : PCon C.prog f (liftF T (unpack .bool) F)) (hfn : C.prog.funcs[f]? = some fn) (hb : fn.body = some c) (hnm : (fn.name == "runtime.NumGoroutine") = false)
    (hl : laidOutB C.prog = true) (hT : tsB C.prog T fn.params.toList = true) (hno : (noOpq T && wfTB T) = true) {tr : TypeId} (hr : fn.resultTypes = #[tr]) (htr : C.prog.underlying tr = some .bool) (hvars : s.vars = [])
    (hs : ∀ ds : List (DataW H), ds.length = fn.params.toList.length → (s.fn H ds).results = [.lit (.bool true)] ∧ (s.fn H ds).args = ds ∧ (s.fn H ds).vars = [])
    (law : ∀ x : T.den, wfD T x → F x = some true) (hGL : GL = [])
    (W : World) (base : Nat) (args : Array Value) (ds gs : List (DataW H)) (before : List MemPlace)
    (hval : ∀ (j : Nat) t v, fn.params[j]? = some t → args[j]? = some v → Value.okWide C.prog W .any base t v)
    (hW : DataW.Whole enc C.prog fn.params.toList s.vars false W args.toList ds gs before)
    (hsz : (DataW.weightsEach C.prog (fn.params.toList ++ s.plain.varTypes C.prog) (ds ++ gs)).all (· ≤ reachBytes) = true) :
    Calls C.prog f args W fun e W' => ∃ v, e = .returned v ∧ s.post enc C.prog fn false true false false W args v W' :=
  row_of_gl hcon hfn hb hnm hl hT hno hr htr hvars hs law W (fun g e x hg => by rw [hGL] at hg; cases hg) base args ds gs before hval hW hsz
end Go.Proofs.YtoihmfgkmndjfaaV
