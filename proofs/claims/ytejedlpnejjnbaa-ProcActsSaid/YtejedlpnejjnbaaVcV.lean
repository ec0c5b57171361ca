/- Functions: of data, by what is shown of their code; and such as are looked into. -/
import Derived.Test.YtejedlpnejjnbaaVcT
import Derived.RangeFuncLeaves
set_option linter.unusedVariables false
set_option linter.unusedSimpArgs false
namespace Go.Proofs.YtejedlpnejjnbaaV
open Go.RowKit

def resOne (tmps : Array Value) : ResultVar → Sem Value
  | .tmp t => pure (tmps.getD t undef)
  | .cell d t => do loadVar t (← asAddr (tmps.getD d undef))
theorem results_eq (fn : Func) (tmps : Array Value) : results fn tmps = (do
    let vs ← fn.results.mapM (resOne tmps)
    pure (if h : vs.size = 1 then vs[0] else .tuple vs)) := by
  unfold results
  have : (fun x => match x with | ResultVar.tmp t => (pure (tmps.getD t undef) : Sem Value) | .cell d t => do loadVar t (← asAddr (tmps.getD d undef))) = resOne tmps := by
    funext x; cases x <;> rfl
  rw [← this]
  rfl

section
variable {E : Env} {X : Fix} {ρ : Nat → Nat} {s : St} {a : Act} {w w' : World} {P : Program}

theorem res_list (hE : EnvT E X.P) (R : RR X ρ s a w) : ∀ (rs : List ResultVar) (vs : List AV), resV E s rs = some vs → okVs vs = true →
    ∃ zs : List Value, (rs.mapM (resOne a.tmps)).run X.P w = .ok zs w ∧ CVs (cx X ρ s.hp w) vs zs
  | [], vs, h, _ => by
    simp only [resV, Option.some.injEq] at h
    subst h
    exact ⟨[], rfl, rfl⟩
  | .tmp t :: rs, vs, h, hok => by
    simp only [resV] at h
    split at h
    · rename_i r hr
      cases h
      simp only [okVs, Bool.and_eq_true] at hok
      obtain ⟨zs, h1, h2⟩ := res_list hE R rs r hr hok.2
      have hv := R.fr t
      refine ⟨a.tmps.getD t undef :: zs, by simp only [List.mapM_cons, resOne, Sem.run_bind, Sem.run_pure, Result.andThen_ok, h1], _, _, rfl, ?_, ?_, h2⟩
      · generalize lk s.fr t = v at hv hok
        cases v <;> first | exact hv.1 | cases hok.1
      · generalize lk s.fr t = v at hv hok
        cases v <;> first | exact hv.2 | cases hok.1
    · cases h
  | .cell d t :: rs, vs, h, hok => by
    simp only [resV] at h
    split at h
    · rename_i id p hp
      split at h
      · rename_i v e r hg ht hr
        cases hf : fits e v with
        | false => rw [hf] at h; cases h
        | true =>
          rw [hf] at h
          cases h
          simp only [okVs, Bool.and_eq_true] at hok
          obtain ⟨zs, h1, h2⟩ := res_list hE R rs r hr hok.2
          have hx := R.fr d
          rw [hp] at hx
          obtain ⟨off, t', k1, k2⟩ := VR_ptr hx
          obtain ⟨g1, g2, m, g3, g4, g5⟩ := getB_cells (R.heap id) k1 hg
          have hs := Shp_of_fits _ _ hf
          have hl := CR_length _ _ _ hs g3
          have hrun := run_loadVar_ty (hE.tt t _ ht) w (ρ id) off m hl (fun j hj => g5 j (by omega))
          have hv := VR_of_CR hs g3
          refine ⟨(if aggTy e then .agg m.toArray else m.headD undef) :: zs, by
            simp only [List.mapM_cons, resOne, Sem.run_bind, k2, asAddr, Sem.run_pure, Result.andThen_ok]
            rw [show (cx X ρ s.hp w).ρ id = ρ id from rfl, hrun]
            simp only [Result.andThen_ok, h1], _, _, rfl, ?_, ?_, h2⟩
          · cases v <;> first | exact hv.1 | cases hok.1
          · cases v <;> first | exact hv.2 | cases hok.1
      · cases h
    · cases h

theorem res_sound (hE : EnvT E X.P) (R : RR X ρ s a w) {fn : Func} {rs : List ResultVar} (hrs : fn.results.toList = rs) {k : AV → Prop} (h : resP E rs s k) :
    ∃ z v, (results fn a.tmps).run X.P w = .ok z w ∧ k v ∧ VR (cx X ρ s.hp w) v z := by
  unfold resP at h
  split at h
  · rename_i vs hv
    obtain ⟨hok, hk⟩ := cond_elim h
    obtain ⟨zs, h1, h2⟩ := res_list hE R rs vs hv hok
    have hm : (results fn a.tmps).run X.P w = .ok (if h : zs.toArray.size = 1 then zs.toArray[0] else .tuple zs.toArray) w := by
      rw [results_eq, Array.mapM_eq_mapM_toList, hrs]
      simp only [Sem.run_bind]
      have : (List.toArray <$> rs.mapM (resOne a.tmps)).run X.P w = .ok zs.toArray w := by
        rw [map_eq_pure_bind, Sem.run_bind, h1]; rfl
      erw [this]
      rfl
    refine ⟨_, tupOf vs, hm, hk, ?_⟩
    match vs, zs, h2, hok with
    | [], zs, h2, _ =>
      have h2 : zs = [] := h2
      subst h2
      exact ⟨#[], rfl, rfl⟩
    | [v], zs, h2, hok =>
      obtain ⟨x, ys, rfl, g1, g2, g3⟩ := h2
      have g3 : ys = [] := g3
      subst g3
      show VR _ v x
      cases v <;> first | exact ⟨g1, g2⟩ | cases hok
    | v :: u :: l, zs, h2, _ =>
      obtain ⟨x, ys, rfl, g1, g2, y, r, rfl, g3⟩ := h2
      exact ⟨(x :: y :: r).toArray, by simp, x, y :: r, rfl, g1, g2, y, r, rfl, g3⟩
  · exact h.elim

theorem lk_initF : ∀ (i : Nat) (as : List AV) (d : Nat), lk (initF i as) d = if i ≤ d then (as[d - i]?).getD .dead else .dead
  | i, [], d => by simp [initF, lk]
  | i, v :: l, d => by
    show lk ((i, v) :: initF (i + 1) l) d = _
    rw [lk_cons, lk_initF (i + 1) l d]
    by_cases h : i = d
    · subst h; simp
    · rw [if_neg h]
      by_cases h2 : i ≤ d
      · rw [if_pos h2, if_pos (by omega), show d - i = (d - (i + 1)) + 1 by omega]; rfl
      · rw [if_neg h2, if_neg (by omega)]

theorem init_fr {c : Cx} {n : Nat} : ∀ (as : List AV) (xs : List Value), CVs c as xs → okVs as = true → ∀ d, VR c ((as[d]?).getD .dead) ((xs ++ List.replicate n undef).toArray.getD d undef)
  | [], xs, h, _, d => trivial
  | v :: l, xs, h, hok, d => by
    obtain ⟨x, ys, rfl, g1, g2, g3⟩ := h
    simp only [okVs, Bool.and_eq_true] at hok
    cases d with
    | zero =>
      show VR c v x
      cases v <;> first | exact ⟨g1, g2⟩ | cases hok.1
    | succ d =>
      have := init_fr (n := n) l ys g3 hok.2 d
      simpa [Array.getD_eq_getD_getElem?] using this

theorem run_enter {g : FuncId} {fn : Func} {c : Code} (hf : P.funcs[g]? = some fn) (hb : fn.body = some c) (hnm : (fn.name == "runtime.NumGoroutine") = false) (xs : Array Value) (w : World) : (callFunc g xs).run P w = .ok (.enter g xs) w := by
  have hnm : ¬ fn.name = "runtime.NumGoroutine" := by simpa using hnm
  simp [callFunc, Sem.run_bind, hf, hb, hnm]

theorem CVs_len {c : Cx} : ∀ (as : List AV) (xs : List Value), CVs c as xs → xs.length = as.length
  | [], xs, h => by have h : xs = [] := h; subst h; rfl
  | v :: l, xs, h => by
    obtain ⟨x, ys, rfl, _, _, g3⟩ := h
    simp [CVs_len l ys g3]

/-- The frame at a function's beginning. -/
theorem init_size {nt : Nat} {xs : Array Value} (h : xs.size ≤ nt) : (xs ++ Array.replicate (nt - xs.size) undef).size = nt := by
  simp; omega
theorem init_getD {nt : Nat} {xs : Array Value} (d : Nat) : (xs ++ Array.replicate (nt - xs.size) undef).getD d undef = (xs.toList ++ List.replicate (nt - xs.size) undef).toArray.getD d undef := by
  congr 1
  apply Array.ext'
  simp

theorem EnvC.at (hE : EnvC E P) (off nt : Nat) (yl : Option (Nat × (List Nat → Proc))) : EnvC { E with off := off, nt := nt, yl := yl } P := ⟨⟨hE.t.tt, hE.t.et⟩, hE.fns, hE.prs, hE.its⟩

def noPanic (Q : Exit → Act → World → Prop) : Exit → Act → World → Prop
  | .panic _, _, _ => False
  | e, a, w => Q e a w
theorem noPanic_le {Q : Exit → Act → World → Prop} {e : Exit} {a : Act} {w : World} (h : noPanic Q e a w) : Q e a w := by
  cases e <;> first | exact h | exact h.elim

/-- A frame on its way out, its marks shut. -/
theorem leave_marks {X : Fix} {ρ : Nat → Nat} {s : St} {n : Nat} {fn : Func} {tm : Array Value} {Rp : Ending → World → Prop} : ∀ (l : List Nat) (w : World), RR X ρ s { tmps := tm, defers := l.map mark } w →
    (∀ w', RR X ρ s { tmps := tm, defers := [] } w' → ∃ v, (results fn tm).run X.P w' = .ok v w' ∧ Rp (.returned v) w') → LeavesInM (FW none) n X.P fn tm Rp (l.map mark) .returning w
  | [], w, R, h => h w R
  | D :: l, w, R, h => by
    obtain ⟨l0, q1, q2, q3⟩ := R.defers.1
    have q1 : (D :: l).map mark = l0.map mark := q1
    obtain rfl := mark_inj q1
    obtain ⟨k1, k2⟩ := q3 D List.mem_cons_self
    rw [List.nodup_cons] at q2
    have R' : RR X ρ s { tmps := tm, defers := l.map mark } (w.putObj D (.deferred none)) := by
      refine RR.obj R k2 (fun _ _ _ h => by cases h) (fun _ _ _ h => by cases h) (by omega) rfl rfl rfl rfl rfl rfl ⟨⟨l, rfl, q2.2, fun D' hD' => ?_⟩, fun hh => ?_⟩ (fun k hk => X.spk _ _ _ (KeepsB.obj (by omega)) (by rw [putObj_size]; exact Nat.le_refl _) (R.sp k hk)) R.lim
      · obtain ⟨g1, g2⟩ := q3 D' (List.mem_cons_of_mem _ hD')
        exact ⟨g1, (World.putObj_heap_other (fun e => q2.1 (by rw [← e]; exact hD'))).trans g2⟩
      · have := R.defers.2 hh
        cases this
    exact ⟨by simp, .inl ⟨D, w.putObj D (.deferred none), rfl, run_takeDeferred k2, leave_marks l _ R' h⟩⟩
theorem leaves {X : Fix} {ρ : Nat → Nat} {s : St} {a : Act} {w : World} {n : Nat} {fn : Func} {Rp : Ending → World → Prop} (R : RR X ρ s a w)
    (h : ∀ w', RR X ρ s { a with defers := [] } w' → ∃ v, (results fn a.tmps).run X.P w' = .ok v w' ∧ Rp (.returned v) w') : LeavesInM (FW none) n X.P fn a.tmps Rp a.defers .returning w := by
  obtain ⟨tm, ds⟩ := a
  obtain ⟨l, q1, _⟩ := R.defers.1
  have q1 : ds = l.map mark := q1
  subst q1
  exact leave_marks l w R h

/-- A function that is looked into; an iterator, if it calls a loop's yield. -/
theorem code_con {g : FuncId} {fn : Func} {c : Code} {nt : Nat} {rs : List ResultVar} {yl : Option (Nat × (List Nat → Proc))} (hE : EnvC E P) (hP : PrOk P) (hf : P.funcs[g]? = some fn) (hb : fn.body = some c) (hnt : fn.ntmps = nt) (hrs : fn.results.toList = rs)
    (off : Nat) (X : Fix) (ρ : Nat → Nat) (hp : List (Nat × Blk)) (w : World) (as : List AV) (xs : Array Value) (a0 : Act) (K : List (Nat × Blk) → Option Ks → AV → Prop) (hXP : X.P = P) (hY : ∀ l Y, yl = some (l, Y) → YOk X l Y) (R0 : RR X ρ ⟨[], hp, some ([], 0)⟩ a0 w)
    (hok : okVs as = true) (hargs : CVs (cx X ρ hp w) as xs.toList) (h : procOf { E with yl := yl } nt rs c off hp as K) :
    Calls P g xs w fun e w' => ∃ z, e = .returned z ∧ ∃ ρ' hp' ks r a1, K hp' (some ks) r ∧ RR X ρ' ⟨[], hp', some ks⟩ a1 w' ∧ VR (cx X ρ' hp' w') r z := by
  subst hXP
  obtain ⟨hlen, h⟩ := cond_elim h
  have hlen := Nat.le_of_ble_eq_true hlen
  have hxl : xs.size ≤ nt := by have := CVs_len _ _ hargs; simp at this; omega
  refine (callsIn_wide (n := 0)).1 (callsIn_of_wp_marks (F := Fence.wide) (n := 0) hf hb trivial ?_)
  rw [hnt]
  obtain ⟨X1, hX1⟩ : ∃ X1 : Fix, X1 = { X with nt := nt, nm := yl.isSome } := ⟨_, rfl⟩
  have R1 : RR X1 ρ ⟨initF 0 as, hp, some ([], 0)⟩ { tmps := xs ++ Array.replicate (nt - xs.size) undef, defers := [] } w := by
    subst hX1
    refine ⟨init_size hxl, ⟨Marks.nil _ _, fun _ => rfl⟩, R0.ok0, R0.below, R0.heap, R0.inj, fun d => ?_, R0.stk, R0.sp, R0.lim⟩
    show VR (cx X ρ hp w) (lk (initF 0 as) d) ((xs ++ Array.replicate (nt - xs.size) undef).getD d undef)
    rw [lk_initF, if_pos (Nat.zero_le _), Nat.sub_zero, init_getD]
    exact init_fr as _ hargs hok d
  have hE' := hE.at off nt yl
  refine wpIn_mono (Q := noPanic _) ?_ (fun _ _ _ => noPanic_le)
  refine vc_sound (P := X.P) (E := { E with off := off, nt := nt, yl := yl }) hE' hP c X1 none 0 (by rw [hX1]) (by rw [hX1]) (fun _ => by rw [hX1]) (fun l Y e => ⟨by subst hX1; exact hY l Y e, rfl⟩) (fun h => by cases h) _ ρ _ w _ _ (fun c a w hq => hq) R1 h fun e ρ' s' a' w' hK R' => ?_
  · have fin : resP { E with yl := yl } rs s' (fun r => match s'.ks with | some ks => K s'.hp (some ks) r | none => False) → LeavesInM (FW none) 0 X.P fn a'.tmps (fun e w' => ∃ z, e = .returned z ∧ ∃ ρ' hp' ks r a1, K hp' (some ks) r ∧ RR X ρ' ⟨[], hp', some ks⟩ a1 w' ∧ VR (cx X ρ' hp' w') r z) a'.defers .returning w' := by
      intro hr
      have hPP : X1.P = X.P := by rw [hX1]
      have := leaves (n := 0) (fn := fn) (Rp := fun e w' => ∃ z, e = .returned z ∧ ∃ ρ' hp' ks r a1, K hp' (some ks) r ∧ RR X ρ' ⟨[], hp', some ks⟩ a1 w' ∧ VR (cx X ρ' hp' w') r z) R' fun w2 R2 => ?_
      · rw [hPP] at this; exact this
      obtain ⟨z, v, g1, g2, g3⟩ := res_sound (X := X1) (E := { E with yl := yl }) (by rw [hPP]; exact ⟨hE.t.tt, hE.t.et⟩) R2 hrs hr
      refine ⟨z, g1, z, rfl, ρ', s'.hp, ?_⟩
      cases hks : s'.ks with
      | none =>
        rw [hks] at g2
        exact g2.elim
      | some ks =>
        rw [hks] at g2
        subst hX1
        refine ⟨ks, v, { a0 with defers := [] }, g2, ⟨R0.size, ⟨Marks.nil _ _, fun _ => rfl⟩, R2.ok0, R2.below, R2.heap, R2.inj, fun d => trivial, fun k hk i => ?_, fun k hk => ?_, R2.lim⟩, g3⟩
        · cases hk
          exact R2.stk ks hks i
        · cases hk
          exact R2.sp ks hks
    cases e with
    | normal => exact fin hK
    | ret => exact fin hK
    | exit i => exact hK
    | goto l => exact hK
    | panic ch => exact hK.elim
    | outgrown => exact hK.elim

theorem proc_con {g : FuncId} {fn : Func} {c : Code} {nt : Nat} {rs : List ResultVar} (hE : EnvC E P) (hP : PrOk P) (hf : P.funcs[g]? = some fn) (hb : fn.body = some c) (hnm : (fn.name == "runtime.NumGoroutine") = false) (hnt : fn.ntmps = nt) (hrs : fn.results.toList = rs) :
    SCon P g (procOf { E with yl := none } nt rs c) := fun off X ρ hp w as xs a0 K hXP R0 hok hargs h =>
  .inr ⟨run_enter hf hb hnm xs w, code_con hE hP hf hb hnt hrs off X ρ hp w as xs a0 K hXP (fun _ _ h => by cases h) R0 hok hargs h⟩
theorem it_con {g : FuncId} {fn : Func} {c : Code} {nt : Nat} {rs : List ResultVar} (hE : EnvC E P) (hP : PrOk P) (hf : P.funcs[g]? = some fn) (hb : fn.body = some c) (hnm : (fn.name == "runtime.NumGoroutine") = false) (hnt : fn.ntmps = nt) (hrs : fn.results.toList = rs) :
    ICon P g (itOf E nt rs c) := ⟨fun xs w => run_enter hf hb hnm xs w, fun l Y off X ρ hp w as xs a0 K hXP hY R0 hok hargs h =>
  code_con hE hP hf hb hnt hrs off X ρ hp w as xs a0 K hXP (fun l' Y' e => by cases e; exact hY) R0 hok hargs h⟩

theorem okVs_of_pures : ∀ l : List AV, pureAV.pures l = true → okVs l = true
  | [], _ => rfl
  | v :: l, h => by
    have h : (pureAV v && pureAV.pures l) = true := h
    rw [Bool.and_eq_true] at h
    simp only [okVs, Bool.and_eq_true]
    exact ⟨by cases v <;> first | rfl | (have := h.1; simp [pureAV] at this), okVs_of_pures l h.2⟩
theorem VR_of_pure {c : Cx} {v : AV} {x : Value} (hp : pureAV v = true) (h : CR c v x.cells.toList) (ha : aggAV v = vAgg x) : VR c v x := by
  cases v <;> first | exact ⟨h, ha⟩ | cases hp
theorem norms_map (hp : List (Nat × Blk)) : ∀ l : List AV, norm.norms hp l = l.map (norm hp)
  | [] => rfl
  | v :: l => by show norm hp v :: norm.norms hp l = _; rw [norms_map hp l]; rfl

theorem pureR_canR (tt : List (Nat × Ty)) (ts : List Nat) (v : AV) : pureR (canR tt ts v) = pureR v := by
  have one : ∀ (v : AV) (t : Nat), (∀ l, v ≠ .tup l) → pureR (match lkT tt t with | some e => canT e v | none => v) = pureR v := by
    intro v t hv
    have hp : ∀ u : AV, (∀ l, u ≠ .tup l) → pureR u = pureAV u := by
      intro u hu; cases u <;> first | rfl | exact absurd rfl (hu _)
    split
    · rename_i e _
      have hc : ∀ l, canT e v ≠ .tup l := by
        intro l
        cases e with
        | sl e => rcases canT_sl e v with ⟨_, h1⟩ | h1 <;> rw [h1] <;> first | exact hv l | (intro h; cases h)
        | pair a b =>
          cases v with
          | agg r => cases r <;> (intro h; cases h)
          | tup r => exact absurd rfl (hv r)
          | _ => intro h; cases h
        | _ => unfold canT; exact hv l
      rw [hp _ hc, hp _ hv, pure_canT]
    · rfl
  unfold canR
  split
  · exact pures_canAs tt _ _
  · rename_i h
    exact one _ _ (fun l hl => h l hl)
  · rfl
theorem VR_canR {c : Cx} (tt : List (Nat × Ty)) (ts : List Nat) {v : AV} {z : Value} (hp : pureR v = true) (h : VR c v z) : VR c (canR tt ts v) z := by
  unfold canR
  split
  · obtain ⟨ys, h1, h2⟩ := h
    exact ⟨ys, h1, CVs_canAs tt _ _ _ h2⟩
  · rename_i t hv
    split
    · rename_i e _
      have hpv : pureAV v = true := by cases v <;> first | exact hp | exact (hv _ rfl).elim
      have hc : CR c v z.cells.toList ∧ aggAV v = vAgg z := by cases v <;> first | exact h | cases hpv
      exact VR_of_pure (by rw [pure_canT]; exact hpv) (CR_canT e v _ hc.1) (by rw [aggAV_canT e v _ hc.1]; exact hc.2)
    · exact h
  · exact h

/-- A function of data. -/
theorem fn_con {g : FuncId} {fn : Func} {c : Code} {nt : Nat} {rs : List ResultVar} {ts : List Nat} {F : List AV → Option AV} (hE : EnvC E P) (hP : PrOk P) (hf : P.funcs[g]? = some fn) (hb : fn.body = some c) (hnm : (fn.name == "runtime.NumGoroutine") = false) (hnt : fn.ntmps = nt) (hrs : fn.results.toList = rs)
    (hF : ∀ as r, F as = some r → pureR r = true ∧ fnVC E nt rs ts c as r) : PCon P g F := by
  intro ok0 w as xs r hok0 hgl hFr hpure hargs
  obtain ⟨hr, h⟩ := hF as r hFr
  obtain ⟨hlen, h⟩ := cond_elim h
  have hlen := Nat.le_of_ble_eq_true hlen
  have hxl : xs.size ≤ nt := by have := CVs_len _ _ hargs; simp at this; omega
  have hok : okVs as = true := okVs_of_pures as hpure
  obtain ⟨X, hX⟩ : ∃ X : Fix, X = ⟨P, nt, ok0, w, fun _ => .dead, fun _ => undef, fun _ _ => True, 0, fun _ _ _ _ _ _ => trivial, hgl, false⟩ := ⟨_, rfl⟩
  have hXP : X.P = P := by rw [hX]
  have hXn : X.nt = nt := by rw [hX]
  have hXo : X.ok0 = ok0 := by rw [hX]
  have hXw : X.w0 = w := by rw [hX]
  have hXb : X.base = w.heap.size := by unfold Fix.base; rw [hXw]
  have R1 : RR X (fun _ => 0) ⟨initF 0 as, [], none⟩ { tmps := xs ++ Array.replicate (nt - xs.size) undef, defers := [] } w := by
    refine ⟨by rw [hXn]; exact init_size hxl, ⟨Marks.nil _ _, fun _ => rfl⟩, fun b hb => by rw [hXb]; rw [hXo] at hb; exact hok0 b hb, by rw [hXb, hXw]; exact Below.refl _ _, fun id => trivial, fun _ _ h => h.elim, fun d => ?_, (fun ks hk => by cases hk), (fun ks hk => by cases hk), by rw [hX]; exact Nat.zero_le _⟩
    show VR (cx X (fun _ => 0) [] w) (lk (initF 0 as) d) ((xs ++ Array.replicate (nt - xs.size) undef).getD d undef)
    rw [lk_initF, if_pos (Nat.zero_le _), Nat.sub_zero, init_getD]
    refine init_fr as _ (CVs_pure (c := cx0 ok0 w) (c' := cx X (fun _ => 0) [] w) (fun b hb => ⟨⟨?_, hok0 b hb, fun id hl => hl.elim⟩, .refl _ _⟩) as _ hpure hargs) hok d
    rw [hXo]; exact .inl hb
  refine .inr ⟨run_enter hf hb hnm xs w, (callsIn_wide (n := 0)).1 (callsIn_of_wp_marks (F := Fence.wide) (n := 0) hf hb trivial ?_)⟩
  rw [hnt]
  subst hXP
  refine wpIn_mono (Q := noPanic _) ?_ (fun _ _ _ => noPanic_le)
  refine vc_sound (P := X.P) (E := { E with off := 0, nt := nt, yl := none }) (hE.at 0 nt none) hP c X none 0 rfl hXn.symm (fun _ => by rw [hX]; rfl) (fun _ _ h => by cases h) (fun h => by cases h) _ _ _ w _ _ (fun c a w hq => hq) R1 h fun e ρ' s' a' w' hK R' => ?_
  · have fin : ∀ w', RR X ρ' s' { a' with defers := [] } w' → resP E rs s' (fun v => forceD (canR E.tt ts (norm s'.hp v)) fun v => v = r) → ∃ v, (results fn a'.tmps).run X.P w' = .ok v w' ∧ ∃ z, Ending.returned v = .returned z ∧ Below w.heap.size w w' ∧ VR (cx0 (fun b => (ok0 b ∨ w.heap.size ≤ b) ∧ b < w'.heap.size) w') r z := by
      intro w' R' hres
      obtain ⟨z, v, g1, g2, g3⟩ := res_sound hE.t R' hrs hres
      rw [forceD_eq] at g2
      refine ⟨z, g1, z, rfl, by have := R'.below; rw [hXb, hXw] at this; exact this, ?_⟩
      subst g2
      rw [pureR_canR] at hr
      refine VR_canR E.tt ts hr ?_
      have hsub : ∀ l b, okL X ρ' s'.hp w' l b → (cx0 (fun b => (ok0 b ∨ w.heap.size ≤ b) ∧ b < w'.heap.size) w').ok b ∧ SameC w' w' b := by
        intro l b hb
        refine ⟨?_, .refl _ _⟩
        rcases hb with hb | ⟨id, _, hl, rfl⟩
        · have := hb.1
          rw [hXo, hXb] at this
          exact ⟨this, hb.2.1⟩
        · have := R'.lt hl
          rw [hXb] at this
          exact ⟨.inr this.1, this.2⟩
      cases v with
      | tup l =>
        obtain ⟨ys, rfl, h2⟩ := g3
        have hp : pureAV.pures (norm.norms s'.hp l) = true := hr
        rw [norms_map] at hp
        refine ⟨ys, rfl, ?_⟩
        show CVs _ (norm.norms s'.hp l) _
        rw [norms_map]
        exact CVs_pure (c := cx0 (okL X ρ' s'.hp w' (owns.ownss l)) w') (fun b hb => hsub _ b hb) _ _ hp (norms_CVs R' l _ _ (fun id h => h) hp h2)
      | und => cases hr
      | dead => cases hr
      | int k n =>
        have hp : pureAV (norm s'.hp (.int k n)) = true := by
          have hr := hr
          cases hn : norm s'.hp (.int k n) with
          | tup l => exact absurd hn (by simp only [norm]; intro h; cases h)
          | _ => rw [hn] at hr; exact hr
        exact VR_of_pure hp (CR_pure (c := cx0 (okL X ρ' s'.hp w' (owns (.int k n))) w') (fun b hb => hsub _ b hb) _ _ hp (norm_CR R' _ _ _ (fun id h => h) hp g3.1)) (by rw [aggAV_norm R' g3.1]; exact g3.2)
      | bool b =>
        have hp : pureAV (norm s'.hp (.bool b)) = true := by
          have hr := hr
          cases hn : norm s'.hp (.bool b) with
          | tup l => exact absurd hn (by simp only [norm]; intro h; cases h)
          | _ => rw [hn] at hr; exact hr
        exact VR_of_pure hp (CR_pure (c := cx0 (okL X ρ' s'.hp w' (owns (.bool b))) w') (fun b hb => hsub _ b hb) _ _ hp (norm_CR R' _ _ _ (fun id h => h) hp g3.1)) (by rw [aggAV_norm R' g3.1]; exact g3.2)
      | str t =>
        have hp : pureAV (norm s'.hp (.str t)) = true := by
          have hr := hr
          cases hn : norm s'.hp (.str t) with
          | tup l => exact absurd hn (by simp only [norm]; intro h; cases h)
          | _ => rw [hn] at hr; exact hr
        exact VR_of_pure hp (CR_pure (c := cx0 (okL X ρ' s'.hp w' (owns (.str t))) w') (fun b hb => hsub _ b hb) _ _ hp (norm_CR R' _ _ _ (fun id h => h) hp g3.1)) (by rw [aggAV_norm R' g3.1]; exact g3.2)
      | ro e xs =>
        have hp : pureAV (norm s'.hp (.ro e xs)) = true := by
          have hr := hr
          cases hn : norm s'.hp (.ro e xs) with
          | tup l => exact absurd hn (by simp only [norm]; intro h; cases h)
          | _ => rw [hn] at hr; exact hr
        exact VR_of_pure hp (CR_pure (c := cx0 (okL X ρ' s'.hp w' (owns (.ro e xs))) w') (fun b hb => hsub _ b hb) _ _ hp (norm_CR R' _ _ _ (fun id h => h) hp g3.1)) (by rw [aggAV_norm R' g3.1]; exact g3.2)
      | arr n e xs =>
        have hp : pureAV (norm s'.hp (.arr n e xs)) = true := by
          have hr := hr
          cases hn : norm s'.hp (.arr n e xs) with
          | tup l => exact absurd hn (by simp only [norm]; intro h; cases h)
          | _ => rw [hn] at hr; exact hr
        exact VR_of_pure hp (CR_pure (c := cx0 (okL X ρ' s'.hp w' (owns (.arr n e xs))) w') (fun b hb => hsub _ b hb) _ _ hp (norm_CR R' _ _ _ (fun id h => h) hp g3.1)) (by rw [aggAV_norm R' g3.1]; exact g3.2)
      | agg l =>
        have hp : pureAV (norm s'.hp (.agg l)) = true := by
          have hr := hr
          cases hn : norm s'.hp (.agg l) with
          | tup l => exact absurd hn (by simp only [norm]; intro h; cases h)
          | _ => rw [hn] at hr; exact hr
        exact VR_of_pure hp (CR_pure (c := cx0 (okL X ρ' s'.hp w' (owns (.agg l))) w') (fun b hb => hsub _ b hb) _ _ hp (norm_CR R' _ _ _ (fun id h => h) hp g3.1)) (by rw [aggAV_norm R' g3.1]; exact g3.2)
      | own id =>
        have hp : pureAV (norm s'.hp (.own id)) = true := by
          have hr := hr
          cases hn : norm s'.hp (.own id) with
          | tup l => exact absurd hn (by simp only [norm]; split <;> (intro h; cases h))
          | _ => rw [hn] at hr; exact hr
        exact VR_of_pure hp (CR_pure (c := cx0 (okL X ρ' s'.hp w' (owns (.own id))) w') (fun b hb => hsub _ b hb) _ _ hp (norm_CR R' _ _ _ (fun id h => h) hp g3.1)) (by rw [aggAV_norm R' g3.1]; exact g3.2)
      | ptr id p =>
        have hp : pureAV (norm s'.hp (.ptr id p)) = true := by
          have hr := hr
          cases hn : norm s'.hp (.ptr id p) with
          | tup l => exact absurd hn (by simp only [norm]; intro h; cases h)
          | _ => rw [hn] at hr; exact hr
        exact VR_of_pure hp (CR_pure (c := cx0 (okL X ρ' s'.hp w' (owns (.ptr id p))) w') (fun b hb => hsub _ b hb) _ _ hp (norm_CR R' _ _ _ (fun id h => h) hp g3.1)) (by rw [aggAV_norm R' g3.1]; exact g3.2)
      | vsl id n => have hr : false = true := hr; cases hr
      | rop e y =>
        have hp : pureAV (norm s'.hp (.rop e y)) = true := by
          have hr := hr
          cases hn : norm s'.hp (.rop e y) with
          | tup l => exact absurd hn (by simp only [norm]; intro h; cases h)
          | _ => rw [hn] at hr; exact hr
        exact VR_of_pure hp (CR_pure (c := cx0 (okL X ρ' s'.hp w' (owns (.rop e y))) w') (fun b hb => hsub _ b hb) _ _ hp (norm_CR R' _ _ _ (fun id h => h) hp g3.1)) (by rw [aggAV_norm R' g3.1]; exact g3.2)
      | con u =>
        have hp : pureAV (norm s'.hp (.con u)) = true := by
          have hr := hr
          cases hn : norm s'.hp (.con u) with
          | tup l => exact absurd hn (by simp only [norm]; intro h; cases h)
          | _ => rw [hn] at hr; exact hr
        exact VR_of_pure hp (CR_pure (c := cx0 (okL X ρ' s'.hp w' (owns (.con u))) w') (fun b hb => hsub _ b hb) _ _ hp (norm_CR R' _ _ _ (fun id h => h) hp g3.1)) (by rw [aggAV_norm R' g3.1]; exact g3.2)
      | fn f x y =>
        have hp : pureAV (norm s'.hp (.fn f x y)) = true := by
          have hr := hr
          cases hn : norm s'.hp (.fn f x y) with
          | tup l => exact absurd hn (by simp only [norm]; intro h; cases h)
          | _ => rw [hn] at hr; exact hr
        exact VR_of_pure hp (CR_pure (c := cx0 (okL X ρ' s'.hp w' (owns (.fn f x y))) w') (fun b hb => hsub _ b hb) _ _ hp (norm_CR R' _ _ _ (fun id h => h) hp g3.1)) (by rw [aggAV_norm R' g3.1]; exact g3.2)
    cases e with
    | normal => exact leaves R' fun w2 R2 => fin w2 R2 hK
    | ret => exact leaves R' fun w2 R2 => fin w2 R2 hK
    | exit i => exact hK
    | goto l => exact hK
    | panic ch => exact hK.elim
    | outgrown => exact hK.elim
end

/-! ### For the walks -/
@[irreducible] def Side (p : Prop) : Prop := p
theorem Side.out {p : Prop} (h : Side p) : p := by unfold Side at h; exact h
theorem Side.mk {p : Prop} (h : p) : Side p := by unfold Side; exact h
theorem br_bool {b : Bool} {A B : Prop} (h1 : b = true → A) (h2 : b = false → B) : br b A B := by
  cases b with
  | true => exact h1 rfl
  | false => exact h2 rfl
theorem side_and {p A : Prop} (h : Side p) (h2 : A) : p ∧ A := ⟨h.out, h2⟩
end Go.Proofs.YtejedlpnejjnbaaV
