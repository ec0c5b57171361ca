/- '==' of structs and arrays, as the model tells it. -/
import Derived.Test.YtejedlpnejjnbaaVcW
import Derived.Laws.StructEq
import Derived.ChangeKeysEq
set_option linter.unusedVariables false
set_option linter.unusedSimpArgs false
namespace Go.Proofs.YtejedlpnejjnbaaV
open Go.RowKit

def valOf (e : Ty) (l : List Value) : Value := if aggTy e then .agg l.toArray else l.headD undef

section
variable {P : Program} {w : World} {c : Cx}

theorem run_part_ty {e : Ty} {t : TypeId} (h : TyOk P e t) (cs : Array Value) (A M B : List Value) (hc : cs.toList = A ++ M ++ B) (hM : M.length = e.size) : (part t cs A.length).run P w = .ok (valOf e M) w := by
  unfold part
  rw [Sem.run_bind, run_isAgg_ty h]
  unfold valOf
  cases ha : aggTy e with
  | true =>
    simp only [Result.andThen_ok, if_true, Sem.run_bind, run_sizeOf_ty h, Sem.run_pure]
    congr 2
    apply Array.ext'
    rw [Array.toList_extract, hc, ← hM]
    simp [List.extract_eq_take_drop]
  | false =>
    have hs : e.size = 1 := by cases e <;> first | rfl | cases ha
    rw [hs] at hM
    match M, hM with
    | [v], _ =>
      have : cs[A.length]? = some v := by
        rw [← Array.getElem?_toList, hc, List.append_assoc, List.getElem?_append_right (Nat.le_refl _), Nat.sub_self]; rfl
      simp [this]

theorem eqItems_int {k : IntKind} {te : TypeId} (hT : TyOk P (.int k) te) (cs ds : Array Value) (xs ys : List Int) (hc : cs.toList = xs.map (Value.int k)) (hd : ds.toList = ys.map (Value.int k)) (hl : xs.length = ys.length) (d : Nat) : ∀ (m i : Nat), i + m = xs.length →
    (Op.eqItems (d + 1) te (P.cellsOf te) cs ds (List.range' i m)).run P w = .ok (decide (xs.drop i = ys.drop i)) w
  | 0, i, h => by
    rw [List.drop_of_length_le (by omega), List.drop_of_length_le (by omega)]
    simp [Op.eqItems]
  | m + 1, i, h => by
    have hcell : P.cellsOf te = 1 := by
      obtain ⟨j, j1, j2, _⟩ := hT.base
      unfold Program.cellsOf
      simp [j1, j2, Ty.size]
    have hi : i < xs.length := by omega
    have hi' : i < ys.length := by omega
    have p1 : (part te cs i).run P w = .ok (.int k xs[i]) w := by
      have h1 : (cs.toList.take i).length = i := by rw [List.length_take, hc, List.length_map]; omega
      have := run_part_ty (w := w) hT cs (cs.toList.take i) [.int k xs[i]] (cs.toList.drop (i + 1)) (by
        have h2 : cs.toList[i]? = some (.int k xs[i]) := by rw [hc, List.getElem?_map, List.getElem?_eq_getElem hi]; rfl
        have h3 := List.getElem?_eq_some_iff.1 h2
        obtain ⟨h4, h5⟩ := h3
        conv => lhs; rw [← List.take_append_drop i cs.toList, List.drop_eq_getElem_cons h4, h5]
        simp) rfl
      rw [h1] at this; exact this
    have p2 : (part te ds i).run P w = .ok (.int k ys[i]) w := by
      have h1 : (ds.toList.take i).length = i := by rw [List.length_take, hd, List.length_map]; omega
      have := run_part_ty (w := w) hT ds (ds.toList.take i) [.int k ys[i]] (ds.toList.drop (i + 1)) (by
        have h2 : ds.toList[i]? = some (.int k ys[i]) := by rw [hd, List.getElem?_map, List.getElem?_eq_getElem hi']; rfl
        have h3 := List.getElem?_eq_some_iff.1 h2
        obtain ⟨h4, h5⟩ := h3
        conv => lhs; rw [← List.take_append_drop i ds.toList, List.drop_eq_getElem_cons h4, h5]
        simp) rfl
      rw [h1] at this; exact this
    rw [List.range'_succ]
    simp only [Op.eqItems, Sem.run_bind, hcell, Nat.mul_one, p1, p2, run_equalIn_int w d te k k _ _ hT.2, Result.andThen_ok]
    have ih := eqItems_int hT cs ds xs ys hc hd hl d m (i + 1) (by omega)
    rw [hcell] at ih
    have e : (xs.drop i = ys.drop i) ↔ (xs[i] = ys[i] ∧ xs.drop (i + 1) = ys.drop (i + 1)) := by
      rw [List.drop_eq_getElem_cons hi, List.drop_eq_getElem_cons hi', List.cons.injEq]
    by_cases he : xs[i] = ys[i]
    · have hb : (xs[i] == ys[i]) = true := by rw [he]; simp
      rw [hb]
      simp only [Bool.not_true, Bool.false_eq_true, if_false]
      rw [ih]
      congr 1
      rw [decide_eq_decide, e]
      exact ⟨fun h => ⟨he, h⟩, fun h => h.2⟩
    · have hb : (xs[i] == ys[i]) = false := by simpa using he
      rw [hb]
      simp only [Bool.not_false, if_true, Sem.run_pure]
      congr 1
      symm
      apply decide_eq_false
      rw [e]; exact fun h => he h.1

theorem EncL_ints {ok : Nat → Prop} {k : IntKind} : ∀ (xs : List Int) (l : List Value), EncL (Enc ok w (.int k)) xs l → l = xs.map (Value.int k)
  | [], l, h => h
  | x :: xs, l, h => by
    obtain ⟨u, v, rfl, ⟨rfl, _⟩, h2⟩ := h
    rw [EncL_ints xs v h2]; rfl

theorem fits_int {k : IntKind} {u : AV} (h : fits (.int k) u = true) : ∃ a, u = .int k a := by
  cases u <;> first
    | (have h : (k == _) = true := h; exact ⟨_, by rw [beq_iff_eq.1 h]⟩)
    | (simp [fits] at h)
theorem fits_bool {u : AV} (h : fits .bool u = true) : ∃ a, u = .bool a := by
  cases u <;> first | exact ⟨_, rfl⟩ | (simp [fits] at h)
theorem fits_unit {u : AV} (h : fits .unit u = true) : u = .agg [] := by
  cases u with
  | agg l => cases l with
    | nil => rfl
    | cons _ _ => simp [fits] at h
  | _ => simp [fits] at h
theorem fits_pair {a b : Ty} {u : AV} (h : fits (.pair a b) u = true) : ∃ x l, u = .agg (x :: l) ∧ fits a x = true ∧ fitss b l = true := by
  cases u with
  | agg l => cases l with
    | nil => simp [fits] at h
    | cons x l =>
      have h : (fits a x && fitss b l) = true := h
      rw [Bool.and_eq_true] at h
      exact ⟨x, l, rfl, h⟩
  | _ => simp [fits] at h
theorem fits_arr {n : Nat} {e : Ty} {u : AV} (h : fits (.arr n e) u = true) : ∃ xs, u = .arr n e xs := by
  cases u with
  | arr n' e' xs =>
    have h : (n' == n && decide (e' = e)) = true := h
    rw [Bool.and_eq_true] at h
    obtain rfl := beq_iff_eq.1 h.1
    obtain rfl := of_decide_eq_true h.2
    exact ⟨xs, rfl⟩
  | _ => simp [fits] at h
theorem fitss_pair {a b : Ty} {l : List AV} (h : fitss (.pair a b) l = true) : ∃ x r, l = x :: r ∧ fits a x = true ∧ fitss b r = true := by
  cases l with
  | nil => simp [fitss] at h
  | cons x l =>
    have h : (fits a x && fitss b l) = true := h
    rw [Bool.and_eq_true] at h
    exact ⟨x, l, rfl, h⟩
theorem fitss_unit {l : List AV} (h : fitss .unit l = true) : l = [] := by
  cases l with
  | nil => rfl
  | cons x l => simp [fitss] at h

def EqIn (P : Program) (w : World) (c : Cx) (e : Ty) : Prop := ∀ (u v : AV) (l l' : List Value) (r : Bool) (t : TypeId) (d : Nat), depthT e ≤ d → TyOk P e t → fits e u = true → fits e v = true → CR c u l → CR c v l' → eqAV u v = some r →
    (Op.equalIn (d + 1) t (valOf e l) (valOf e l')).run P w = .ok r w
def EqFs (P : Program) (w : World) (c : Cx) (e : Ty) : Prop := ∀ (us vs : List AV) (l l' : List Value) (r : Bool) (fs : List Field) (A A' : List Value) (d : Nat), depthT e ≤ d → FsOk P e fs A.length → fitss e us = true → fitss e vs = true → CRs c us l → CRs c vs l' → eqAVs us vs = some r →
    ∀ xs ys : Array Value, xs.toList = A ++ l → ys.toList = A' ++ l' → A.length = A'.length → (Op.eqFields d xs ys fs).run P w = .ok r w

theorem eq_ty (e : Ty) : EqIn P w c e ∧ EqFs P w c e := by
  induction e with
  | int k =>
    refine ⟨fun u v l l' r t d hd hT h1 h2 hu hv hr => ?_, fun us vs l l' r fs A A' d hd hF => hF.elim⟩
    obtain ⟨a, rfl⟩ := fits_int h1
    obtain ⟨b, rfl⟩ := fits_int h2
    obtain ⟨rfl, _⟩ := hu
    obtain ⟨rfl, _⟩ := hv
    simp only [eqAV, if_true, Option.some.injEq] at hr
    subst hr
    exact run_equalIn_int w d t k k a b hT.2
  | bool =>
    refine ⟨fun u v l l' r t d hd hT h1 h2 hu hv hr => ?_, fun us vs l l' r fs A A' d hd hF => hF.elim⟩
    obtain ⟨a, rfl⟩ := fits_bool h1
    obtain ⟨b, rfl⟩ := fits_bool h2
    have hu : l = _ := hu
    have hv : l' = _ := hv
    subst hu; subst hv
    simp only [eqAV, Option.some.injEq] at hr
    subst hr
    exact run_equalIn_bool d a b hT.2
  | str =>
    refine ⟨fun u v l l' r t d hd hT h1 h2 hu hv hr => ?_, fun us vs l l' r fs A A' d hd hF => hF.elim⟩
    cases u <;> first | (simp [eqAV] at hr; done) | (simp [fits] at h1; done)
  | unit =>
    refine ⟨fun u v l l' r t d hd hT h1 h2 hu hv hr => ?_, fun us vs l l' r fs A A' d hd hF h1 h2 hu hv hr xs ys hx hy hA => ?_⟩
    · obtain rfl := fits_unit h1
      obtain rfl := fits_unit h2
      obtain ⟨_, fs, g1, g2, g3⟩ := hT
      have hf : P.fieldsOf t = fs := by simp [Program.fieldsOf, g1]
      simp only [eqAV, eqAVs, Option.some.injEq] at hr
      subst hr
      show (Op.equalIn (d + 1) t (.agg l.toArray) (.agg l'.toArray)).run P w = _
      rw [run_equalIn_struct w d t _ _ (by rw [hf]; exact g1) g3, hf, g2]
      simp [Op.eqFields]
    · obtain rfl := fitss_unit h1
      obtain rfl := fitss_unit h2
      have hF : fs = [] := hF
      subst hF
      simp only [eqAVs, Option.some.injEq] at hr
      subst hr
      simp [Op.eqFields]
  | pair a b iha ihb =>
    have main : EqFs P w c (.pair a b) := by
      intro us vs l l' r fs A A' d hd hF h1 h2 hu hv hr xs ys hx hy hA
      obtain ⟨u, us, rfl, j1⟩ := fitss_pair h1
      obtain ⟨v, vs, rfl, j2⟩ := fitss_pair h2
      obtain ⟨f, rr, rfl, g4, g5, g6, g7⟩ := hF
      obtain ⟨m, n, rfl, k1, k2⟩ := hu
      obtain ⟨m', n', rfl, k3, k4⟩ := hv
      have hd : max (depthT a + 1) (depthT b) ≤ d := hd
      simp only [eqAVs] at hr
      split at hr
      · rename_i p q hp hq
        cases hr
        have lm := CR_length a u m (Shp_of_fits a u j1.1) k1
        have lm' := CR_length a v m' (Shp_of_fits a v j2.1) k3
        obtain ⟨d, rfl⟩ : ∃ d', d = d' + 1 := ⟨d - 1, by omega⟩
        have q1 := run_part_ty (w := w) g6 xs A m n (by rw [hx]; simp) lm
        have q2 := run_part_ty (w := w) g6 ys A' m' n' (by rw [hy]; simp) lm'
        have q3 := iha.1 u v m m' p f.type d (by omega) g6 j1.1 j2.1 k1 k3 hp
        have q4 := ihb.2 us vs n n' q rr (A ++ m) (A' ++ m') (d + 1) (by omega) (by rw [List.length_append, lm]; exact g7) j1.2 j2.2 k2 k4 hq xs ys (by rw [hx]; simp) (by rw [hy]; simp) (by simp [hA, lm, lm'])
        rw [← g4] at q1
        rw [← hA, ← g4] at q2
        simp only [Op.eqFields, if_pos g5, Sem.run_bind, q1, q2, q3, Result.andThen_ok]
        cases p
        · simp
        · simpa using q4
      · cases hr
    refine ⟨fun u v l l' r t d hd hT h1 h2 hu hv hr => ?_, main⟩
    obtain ⟨x, us, rfl, j1⟩ := fits_pair h1
    obtain ⟨y, vs, rfl, j2⟩ := fits_pair h2
    obtain ⟨_, fs, g1, g2, f, rr, g3, g4, g5, g6, g7⟩ := hT
    have hf : P.fieldsOf t = fs := by simp [Program.fieldsOf, g1]
    have hF : FsOk P (.pair a b) fs.toList 0 := ⟨f, rr, g3, g4, g5, g6, by rw [Nat.zero_add]; exact g7⟩
    show (Op.equalIn (d + 1) t (.agg l.toArray) (.agg l'.toArray)).run P w = _
    rw [run_equalIn_struct w d t _ _ (by rw [hf]; exact g1) g2, hf]
    refine main (x :: us) (y :: vs) l l' r fs.toList [] [] d hd hF ?_ ?_ hu hv (by simpa only [eqAV] using hr) _ _ rfl rfl rfl
    · show (fits a x && fitss b us) = true
      rw [j1.1, j1.2]; rfl
    · show (fits a y && fitss b vs) = true
      rw [j2.1, j2.2]; rfl
  | sl e _ =>
    refine ⟨fun u v l l' r t d hd hT h1 h2 hu hv hr => ?_, fun us vs l l' r fs A A' d hd hF => hF.elim⟩
    cases u <;> first | (simp [eqAV] at hr; done) | (simp [fits] at h1; done)
  | opq z =>
    refine ⟨fun u v l l' r t d hd hT h1 h2 hu hv hr => ?_, fun us vs l l' r fs A A' d hd hF => hF.elim⟩
    cases u <;> first | (simp [eqAV] at hr; done) | (simp [fits] at h1; done)
  | arr n e _ =>
    refine ⟨fun u v l l' r t d hd hT h1 h2 hu hv hr => ?_, fun us vs l l' r fs A A' d hd hF => hF.elim⟩
    obtain ⟨xs, rfl⟩ := fits_arr h1
    obtain ⟨ys, rfl⟩ := fits_arr h2
    cases e <;> try (simp [eqAV] at hr; done)
    rename_i k
    obtain ⟨_, te, g1, g2⟩ := hT
    obtain ⟨i, i1, i2, _⟩ := g2.base
    obtain ⟨hx, hu⟩ := hu
    obtain ⟨hy, hv⟩ := hv
    have eu := EncL_ints xs l hu
    have ev := EncL_ints ys l' hv
    simp only [eqAV, and_self, if_true, Option.some.injEq] at hr
    show (Op.equalIn (d + 1) t (.agg l.toArray) (.agg l'.toArray)).run P w = _
    rw [run_equalIn_array w d _ _ g1 i1]
    have hd' : 1 ≤ d := hd
    obtain ⟨d, rfl⟩ : ∃ d', d = d' + 1 := ⟨d - 1, by omega⟩
    have hx' : (xs : List Int).length = n := hx
    have hy' : (ys : List Int).length = n := hy
    have := eqItems_int (w := w) g2 l.toArray l'.toArray xs ys eu ev (by rw [hx', hy']) d n 0 (by rw [hx']; omega)
    rw [List.range_eq_range', this, ← hr]
    simp
end

theorem eqLaw (X : Fix) (c : Cx) : EqLaw X c := by
  intro e t u v x y r w hT h1 h2 ha hd hu hv hr
  have val : ∀ {u : AV} {x : Value}, fits e u = true → VR c u x → ∃ l : List Value, CR c u l ∧ x = .agg l.toArray := by
    intro u x hf h
    cases u <;> first
      | (obtain ⟨cs, hx, h'⟩ := VR_agg h; exact ⟨cs.toList, h', by rw [hx]⟩)
      | (obtain ⟨cs, hx, h3, h4⟩ := VR_arr h; exact ⟨cs.toList, ⟨h3, h4⟩, by rw [hx]⟩)
      | (exfalso; cases e <;> first | (cases ha; done) | (cases hf; done) | (simp [fits] at hf; done) | (unfold fits at hf; cases hf; done)  )
  obtain ⟨l, hl, rfl⟩ := val h1 hu
  obtain ⟨l', hl', rfl⟩ := val h2 hv
  refine ⟨?_, fun op p q => run_eqGuard_agg w op t p q _ _ (TyOk.guard hT ha)⟩
  have := (eq_ty (P := X.P) (w := w) (c := c) e).1 u v l l' r t 9999 (by omega) hT h1 h2 hl hl' hr
  unfold valOf at this
  rw [ha] at this
  exact this
theorem PrOk.of {P : Program} (h : P.follows .mixedOrders = true) : PrOk P := ⟨h, fun X _ c => eqLaw X c⟩
end Go.Proofs.YtejedlpnejjnbaaV
