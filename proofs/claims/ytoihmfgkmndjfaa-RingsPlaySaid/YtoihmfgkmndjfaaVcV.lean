/- Functions: of data, by what is shown of their code; and such as are looked into. -/
import Derived.Test.YtoihmfgkmndjfaaVcR
import Derived.RangeFuncLeaves
import Derived.Laws.StructEq
import Derived.ChangeKeysEq
/- Functions: of data, by what is shown of their code; and such as are looked into. -/
set_option linter.unusedVariables false
set_option linter.unusedSimpArgs false
namespace Go.Proofs.YtoihmfgkmndjfaaV
open Go.RowKit

def resOne (tmps : Array Value) : ResultVar → Sem Value
  | .tmp t => pure (tmps.getD t undef)
  | .cell d t => do loadVar t (← asAddr (tmps.getD d undef))
theorem results_eq (fn : Func) (tmps : Array Value) : results fn tmps = (do
    let vs ← fn.results.mapM (resOne tmps)
    pure (if h : vs.size = 1 then vs[0] else .tuple vs)) := by
  unfold results
  have : (fun x => match x with | ResultVar.tmp t => (pure (tmps.getD t undef) : Sem Value) | .cell d t => do loadVar t (← asAddr (tmps.getD d undef))) = resOne tmps := by
    funext x; cases x <;> rfl
  rw [← this]
  rfl

section
variable {E : Env} {X : Fix} {ρ : Nat → Nat} {s : St} {a : Act} {w w' : World} {P : Program}

theorem res_list (hE : EnvT E X.P) (R : RR X ρ s a w) : ∀ (rs : List ResultVar) (vs : List AV), resV E s rs = some vs → okVs vs = true →
    ∃ zs : List Value, (rs.mapM (resOne a.tmps)).run X.P w = .ok zs w ∧ CVs (cx X ρ s.hp w) vs zs
  | [], vs, h, _ => by
    simp only [resV, Option.some.injEq] at h
    subst h
    exact ⟨[], rfl, rfl⟩
  | .tmp t :: rs, vs, h, hok => by
    simp only [resV] at h
    split at h
    · rename_i r hr
      cases h
      simp only [okVs, Bool.and_eq_true] at hok
      obtain ⟨zs, h1, h2⟩ := res_list hE R rs r hr hok.2
      have hv := R.fr t
      refine ⟨a.tmps.getD t undef :: zs, by simp only [List.mapM_cons, resOne, Sem.run_bind, Sem.run_pure, Result.andThen_ok, h1], _, _, rfl, ?_, ?_, h2⟩
      · generalize lk s.fr t = v at hv hok
        cases v <;> first | exact hv.1 | cases hok.1
      · generalize lk s.fr t = v at hv hok
        cases v <;> first | exact hv.2 | cases hok.1
    · cases h
  | .cell d t :: rs, vs, h, hok => by
    simp only [resV] at h
    split at h
    · rename_i id p hp
      split at h
      · rename_i v e r hg ht hr
        cases hf : fits e v with
        | false => rw [hf] at h; cases h
        | true =>
          rw [hf] at h
          cases h
          simp only [okVs, Bool.and_eq_true] at hok
          obtain ⟨zs, h1, h2⟩ := res_list hE R rs r hr hok.2
          have hx := R.fr d
          rw [hp] at hx
          obtain ⟨off, t', k1, k2⟩ := VR_ptr hx
          obtain ⟨g1, g2, m, g3, g4, g5⟩ := getB_cells (R.heap id) k1 hg
          have hs := Shp_of_fits _ _ hf
          have hl := CR_length _ _ _ hs g3
          have hrun := run_loadVar_ty (hE.tt t _ ht) w (ρ id) off m hl (fun j hj => g5 j (by omega))
          have hv := VR_of_CR hs g3
          refine ⟨(if aggTy e then .agg m.toArray else m.headD undef) :: zs, by
            simp only [List.mapM_cons, resOne, Sem.run_bind, k2, asAddr, Sem.run_pure, Result.andThen_ok]
            rw [show (cx X ρ s.hp w).ρ id = ρ id from rfl, hrun]
            simp only [Result.andThen_ok, h1], _, _, rfl, ?_, ?_, h2⟩
          · cases v <;> first | exact hv.1 | cases hok.1
          · cases v <;> first | exact hv.2 | cases hok.1
      · cases h
    · cases h

theorem res_sound (hE : EnvT E X.P) (R : RR X ρ s a w) {fn : Func} {rs : List ResultVar} (hrs : fn.results.toList = rs) {k : AV → Prop} (h : resP E rs s k) :
    ∃ z v, (results fn a.tmps).run X.P w = .ok z w ∧ k v ∧ VR (cx X ρ s.hp w) v z := by
  unfold resP at h
  split at h
  · rename_i vs hv
    obtain ⟨hok, hk⟩ := cond_elim h
    obtain ⟨zs, h1, h2⟩ := res_list hE R rs vs hv hok
    have hm : (results fn a.tmps).run X.P w = .ok (if h : zs.toArray.size = 1 then zs.toArray[0] else .tuple zs.toArray) w := by
      rw [results_eq, Array.mapM_eq_mapM_toList, hrs]
      simp only [Sem.run_bind]
      have : (List.toArray <$> rs.mapM (resOne a.tmps)).run X.P w = .ok zs.toArray w := by
        rw [map_eq_pure_bind, Sem.run_bind, h1]; rfl
      erw [this]
      rfl
    refine ⟨_, tupOf vs, hm, hk, ?_⟩
    match vs, zs, h2, hok with
    | [], zs, h2, _ =>
      have h2 : zs = [] := h2
      subst h2
      exact ⟨#[], rfl, rfl⟩
    | [v], zs, h2, hok =>
      obtain ⟨x, ys, rfl, g1, g2, g3⟩ := h2
      have g3 : ys = [] := g3
      subst g3
      show VR _ v x
      cases v <;> first | exact ⟨g1, g2⟩ | cases hok
    | v :: u :: l, zs, h2, _ =>
      obtain ⟨x, ys, rfl, g1, g2, y, r, rfl, g3⟩ := h2
      exact ⟨(x :: y :: r).toArray, by simp, x, y :: r, rfl, g1, g2, y, r, rfl, g3⟩
  · exact h.elim

theorem lk_initF : ∀ (i : Nat) (as : List AV) (d : Nat), lk (initF i as) d = if i ≤ d then (as[d - i]?).getD .dead else .dead
  | i, [], d => by simp [initF, lk]
  | i, v :: l, d => by
    show lk ((i, v) :: initF (i + 1) l) d = _
    rw [lk_cons, lk_initF (i + 1) l d]
    by_cases h : i = d
    · subst h; simp
    · rw [if_neg h]
      by_cases h2 : i ≤ d
      · rw [if_pos h2, if_pos (by omega), show d - i = (d - (i + 1)) + 1 by omega]; rfl
      · rw [if_neg h2, if_neg (by omega)]

theorem init_fr {c : Cx} {n : Nat} : ∀ (as : List AV) (xs : List Value), CVs c as xs → okVs as = true → ∀ d, VR c ((as[d]?).getD .dead) ((xs ++ List.replicate n undef).toArray.getD d undef)
  | [], xs, h, _, d => trivial
  | v :: l, xs, h, hok, d => by
    obtain ⟨x, ys, rfl, g1, g2, g3⟩ := h
    simp only [okVs, Bool.and_eq_true] at hok
    cases d with
    | zero =>
      show VR c v x
      cases v <;> first | exact ⟨g1, g2⟩ | cases hok.1
    | succ d =>
      have := init_fr (n := n) l ys g3 hok.2 d
      simpa [Array.getD_eq_getD_getElem?] using this

theorem run_enter {g : FuncId} {fn : Func} {c : Code} (hf : P.funcs[g]? = some fn) (hb : fn.body = some c) (hnm : (fn.name == "runtime.NumGoroutine") = false) (xs : Array Value) (w : World) : (callFunc g xs).run P w = .ok (.enter g xs) w := by
  have hnm : ¬ fn.name = "runtime.NumGoroutine" := by simpa using hnm
  simp [callFunc, Sem.run_bind, hf, hb, hnm]

theorem CVs_len {c : Cx} : ∀ (as : List AV) (xs : List Value), CVs c as xs → xs.length = as.length
  | [], xs, h => by have h : xs = [] := h; subst h; rfl
  | v :: l, xs, h => by
    obtain ⟨x, ys, rfl, _, _, g3⟩ := h
    simp [CVs_len l ys g3]

/-- The frame at a function's beginning. -/
theorem init_size {nt : Nat} {xs : Array Value} (h : xs.size ≤ nt) : (xs ++ Array.replicate (nt - xs.size) undef).size = nt := by
  simp; omega
theorem init_getD {nt : Nat} {xs : Array Value} (d : Nat) : (xs ++ Array.replicate (nt - xs.size) undef).getD d undef = (xs.toList ++ List.replicate (nt - xs.size) undef).toArray.getD d undef := by
  congr 1
  apply Array.ext'
  simp

theorem EnvC.at (hE : EnvC E P) (off nt : Nat) (yl : Option (Nat × (List Nat → Proc))) : EnvC { E with off := off, nt := nt, yl := yl } P := ⟨⟨hE.t.tt, hE.t.et, hE.t.tag⟩, hE.fns, hE.prs, hE.its⟩

def noPanic (Q : Exit → Act → World → Prop) : Exit → Act → World → Prop
  | .panic _, _, _ => False
  | e, a, w => Q e a w
theorem noPanic_le {Q : Exit → Act → World → Prop} {e : Exit} {a : Act} {w : World} (h : noPanic Q e a w) : Q e a w := by
  cases e <;> first | exact h | exact h.elim

/-- A frame on its way out, its marks shut. -/
theorem leave_marks {X : Fix} {ρ : Nat → Nat} {s : St} {n : Nat} {fn : Func} {tm : Array Value} {Rp : Ending → World → Prop} : ∀ (l : List Nat) (w : World), RR X ρ s { tmps := tm, defers := l.map mark } w →
    (∀ w', RR X ρ s { tmps := tm, defers := [] } w' → ∃ v, (results fn tm).run X.P w' = .ok v w' ∧ Rp (.returned v) w') → LeavesInM (FW none) n X.P fn tm Rp (l.map mark) .returning w
  | [], w, R, h => h w R
  | D :: l, w, R, h => by
    obtain ⟨l0, q1, q2, q3⟩ := R.defers.1
    have q1 : (D :: l).map mark = l0.map mark := q1
    obtain rfl := mark_inj q1
    obtain ⟨k1, k2⟩ := q3 D List.mem_cons_self
    rw [List.nodup_cons] at q2
    have R' : RR X ρ s { tmps := tm, defers := l.map mark } (w.putObj D (.deferred none)) := by
      refine RR.obj R k2 (fun _ _ _ h => by cases h) (fun _ _ _ h => by cases h) (by omega) rfl rfl rfl rfl rfl rfl ⟨⟨l, rfl, q2.2, fun D' hD' => ?_⟩, fun hh => ?_⟩ (fun k hk => X.spk _ _ _ (KeepsB.obj (by omega)) (by rw [putObj_size]; exact Nat.le_refl _) (R.sp k hk)) R.lim
      · obtain ⟨g1, g2⟩ := q3 D' (List.mem_cons_of_mem _ hD')
        exact ⟨g1, (World.putObj_heap_other (fun e => q2.1 (by rw [← e]; exact hD'))).trans g2⟩
      · have := R.defers.2 hh
        cases this
    exact ⟨by simp, .inl ⟨D, w.putObj D (.deferred none), rfl, run_takeDeferred k2, leave_marks l _ R' h⟩⟩
theorem leaves {X : Fix} {ρ : Nat → Nat} {s : St} {a : Act} {w : World} {n : Nat} {fn : Func} {Rp : Ending → World → Prop} (R : RR X ρ s a w)
    (h : ∀ w', RR X ρ s { a with defers := [] } w' → ∃ v, (results fn a.tmps).run X.P w' = .ok v w' ∧ Rp (.returned v) w') : LeavesInM (FW none) n X.P fn a.tmps Rp a.defers .returning w := by
  obtain ⟨tm, ds⟩ := a
  obtain ⟨l, q1, _⟩ := R.defers.1
  have q1 : ds = l.map mark := q1
  subst q1
  exact leave_marks l w R h

/-- A function that is looked into; an iterator, if it calls a loop's yield. -/
theorem code_con {g : FuncId} {fn : Func} {c : Code} {nt : Nat} {rs : List ResultVar} {yl : Option (Nat × (List Nat → Proc))} (hE : EnvC E P) (hP : PrOk P) (hf : P.funcs[g]? = some fn) (hb : fn.body = some c) (hnt : fn.ntmps = nt) (hrs : fn.results.toList = rs)
    (off : Nat) (X : Fix) (ρ : Nat → Nat) (hp : List (Nat × Blk)) (w : World) (as : List AV) (xs : Array Value) (a0 : Act) (K : List (Nat × Blk) → Option Ks → AV → Prop) (hXP : X.P = P) (hY : ∀ l Y, yl = some (l, Y) → YOk X l Y) (R0 : RR X ρ ⟨[], hp, some ([], 0)⟩ a0 w)
    (hok : okVs as = true) (hargs : CVs (cx X ρ hp w) as xs.toList) (h : procOf { E with yl := yl } nt rs c off hp as K) :
    Calls P g xs w fun e w' => ∃ z, e = .returned z ∧ ∃ ρ' hp' ks r a1, K hp' (some ks) r ∧ RR X ρ' ⟨[], hp', some ks⟩ a1 w' ∧ VR (cx X ρ' hp' w') r z := by
  subst hXP
  obtain ⟨hlen, h⟩ := cond_elim h
  have hlen := Nat.le_of_ble_eq_true hlen
  have hxl : xs.size ≤ nt := by have := CVs_len _ _ hargs; simp at this; omega
  refine (callsIn_wide (n := 0)).1 (callsIn_of_wp_marks (F := Fence.wide) (n := 0) hf hb trivial ?_)
  rw [hnt]
  obtain ⟨X1, hX1⟩ : ∃ X1 : Fix, X1 = { X with nt := nt, nm := yl.isSome } := ⟨_, rfl⟩
  have R1 : RR X1 ρ ⟨initF 0 as, hp, some ([], 0)⟩ { tmps := xs ++ Array.replicate (nt - xs.size) undef, defers := [] } w := by
    subst hX1
    refine ⟨init_size hxl, ⟨Marks.nil _ _, fun _ => rfl⟩, R0.ok0, R0.below, R0.heap, R0.inj, fun d => ?_, R0.stk, R0.sp, R0.lim⟩
    show VR (cx X ρ hp w) (lk (initF 0 as) d) ((xs ++ Array.replicate (nt - xs.size) undef).getD d undef)
    rw [lk_initF, if_pos (Nat.zero_le _), Nat.sub_zero, init_getD]
    exact init_fr as _ hargs hok d
  have hE' := hE.at off nt yl
  refine wpIn_mono (Q := noPanic _) ?_ (fun _ _ _ => noPanic_le)
  refine vc_sound (P := X.P) (E := { E with off := off, nt := nt, yl := yl }) hE' hP c X1 none 0 (by rw [hX1]) (by rw [hX1]) (fun _ => by rw [hX1]) (fun l Y e => ⟨by subst hX1; exact hY l Y e, rfl⟩) (fun h => by cases h) _ ρ _ w _ _ (fun c a w hq => hq) R1 h fun e ρ' s' a' w' hK R' => ?_
  · have fin : resP { E with yl := yl } rs s' (fun r => match s'.ks with | some ks => K s'.hp (some ks) r | none => False) → LeavesInM (FW none) 0 X.P fn a'.tmps (fun e w' => ∃ z, e = .returned z ∧ ∃ ρ' hp' ks r a1, K hp' (some ks) r ∧ RR X ρ' ⟨[], hp', some ks⟩ a1 w' ∧ VR (cx X ρ' hp' w') r z) a'.defers .returning w' := by
      intro hr
      have hPP : X1.P = X.P := by rw [hX1]
      have := leaves (n := 0) (fn := fn) (Rp := fun e w' => ∃ z, e = .returned z ∧ ∃ ρ' hp' ks r a1, K hp' (some ks) r ∧ RR X ρ' ⟨[], hp', some ks⟩ a1 w' ∧ VR (cx X ρ' hp' w') r z) R' fun w2 R2 => ?_
      · rw [hPP] at this; exact this
      obtain ⟨z, v, g1, g2, g3⟩ := res_sound (X := X1) (E := { E with yl := yl }) (by rw [hPP]; exact ⟨hE.t.tt, hE.t.et, hE.t.tag⟩) R2 hrs hr
      refine ⟨z, g1, z, rfl, ρ', s'.hp, ?_⟩
      cases hks : s'.ks with
      | none =>
        rw [hks] at g2
        exact g2.elim
      | some ks =>
        rw [hks] at g2
        subst hX1
        refine ⟨ks, v, { a0 with defers := [] }, g2, ⟨R0.size, ⟨Marks.nil _ _, fun _ => rfl⟩, R2.ok0, R2.below, R2.heap, R2.inj, fun d => trivial, fun k hk i => ?_, fun k hk => ?_, R2.lim⟩, g3⟩
        · cases hk
          exact R2.stk ks hks i
        · cases hk
          exact R2.sp ks hks
    cases e with
    | normal => exact fin hK
    | ret => exact fin hK
    | exit i => exact hK
    | goto l => exact hK
    | panic ch => exact hK.elim
    | outgrown => exact hK.elim

theorem proc_con {g : FuncId} {fn : Func} {c : Code} {nt : Nat} {rs : List ResultVar} (hE : EnvC E P) (hP : PrOk P) (hf : P.funcs[g]? = some fn) (hb : fn.body = some c) (hnm : (fn.name == "runtime.NumGoroutine") = false) (hnt : fn.ntmps = nt) (hrs : fn.results.toList = rs) :
    SCon P g (procOf { E with yl := none } nt rs c) := fun off X ρ hp w as xs a0 K hXP R0 hok hargs h =>
  .inr ⟨run_enter hf hb hnm xs w, code_con hE hP hf hb hnt hrs off X ρ hp w as xs a0 K hXP (fun _ _ h => by cases h) R0 hok hargs h⟩
theorem it_con {g : FuncId} {fn : Func} {c : Code} {nt : Nat} {rs : List ResultVar} (hE : EnvC E P) (hP : PrOk P) (hf : P.funcs[g]? = some fn) (hb : fn.body = some c) (hnm : (fn.name == "runtime.NumGoroutine") = false) (hnt : fn.ntmps = nt) (hrs : fn.results.toList = rs) :
    ICon P g (itOf E nt rs c) := ⟨fun xs w => run_enter hf hb hnm xs w, fun l Y off X ρ hp w as xs a0 K hXP hY R0 hok hargs h =>
  code_con hE hP hf hb hnt hrs off X ρ hp w as xs a0 K hXP (fun l' Y' e => by cases e; exact hY) R0 hok hargs h⟩

theorem okVs_of_pures : ∀ l : List AV, pureAV.pures l = true → okVs l = true
  | [], _ => rfl
  | v :: l, h => by
    have h : (pureAV v && pureAV.pures l) = true := h
    rw [Bool.and_eq_true] at h
    simp only [okVs, Bool.and_eq_true]
    exact ⟨by cases v <;> first | rfl | (have := h.1; simp [pureAV] at this), okVs_of_pures l h.2⟩
theorem VR_of_pure {c : Cx} {v : AV} {x : Value} (hp : pureAV v = true) (h : CR c v x.cells.toList) (ha : aggAV v = vAgg x) : VR c v x := by
  cases v <;> first | exact ⟨h, ha⟩ | cases hp
theorem norms_map (hp : List (Nat × Blk)) : ∀ l : List AV, norm.norms hp l = l.map (norm hp)
  | [] => rfl
  | v :: l => by show norm hp v :: norm.norms hp l = _; rw [norms_map hp l]; rfl

theorem pureR_canR (tt : List (Nat × Ty)) (ts : List Nat) (v : AV) : pureR (canR tt ts v) = pureR v := by
  have one : ∀ (v : AV) (t : Nat), (∀ l, v ≠ .tup l) → pureR (match lkT tt t with | some e => canT e v | none => v) = pureR v := by
    intro v t hv
    have hp : ∀ u : AV, (∀ l, u ≠ .tup l) → pureR u = pureAV u := by
      intro u hu; cases u <;> first | rfl | exact absurd rfl (hu _)
    split
    · rename_i e _
      have hc : ∀ l, canT e v ≠ .tup l := by
        intro l
        cases e with
        | sl e => rcases canT_sl e v with ⟨_, h1⟩ | h1 <;> rw [h1] <;> first | exact hv l | (intro h; cases h)
        | pair a b =>
          cases v with
          | agg r => cases r <;> (intro h; cases h)
          | tup r => exact absurd rfl (hv r)
          | _ => intro h; cases h
        | _ => unfold canT; exact hv l
      rw [hp _ hc, hp _ hv, pure_canT]
    · rfl
  unfold canR
  split
  · exact pures_canAs tt _ _
  · rename_i h
    exact one _ _ (fun l hl => h l hl)
  · rfl
theorem VR_canR {c : Cx} (tt : List (Nat × Ty)) (ts : List Nat) {v : AV} {z : Value} (hp : pureR v = true) (h : VR c v z) : VR c (canR tt ts v) z := by
  unfold canR
  split
  · obtain ⟨ys, h1, h2⟩ := h
    exact ⟨ys, h1, CVs_canAs tt _ _ _ h2⟩
  · rename_i t hv
    split
    · rename_i e _
      have hpv : pureAV v = true := by cases v <;> first | exact hp | exact (hv _ rfl).elim
      have hc : CR c v z.cells.toList ∧ aggAV v = vAgg z := by cases v <;> first | exact h | cases hpv
      exact VR_of_pure (by rw [pure_canT]; exact hpv) (CR_canT e v _ hc.1) (by rw [aggAV_canT e v _ hc.1]; exact hc.2)
    · exact h
  · exact h

/-- A function of data. -/
theorem fn_con {g : FuncId} {fn : Func} {c : Code} {nt : Nat} {rs : List ResultVar} {ts : List Nat} {F : List AV → Option AV} (hE : EnvC E P) (hP : PrOk P) (hf : P.funcs[g]? = some fn) (hb : fn.body = some c) (hnm : (fn.name == "runtime.NumGoroutine") = false) (hnt : fn.ntmps = nt) (hrs : fn.results.toList = rs)
    (hF : ∀ as r, F as = some r → pureR r = true ∧ fnVC E nt rs ts c as r) : PCon P g F := by
  intro ok0 w as xs r hok0 hgl hFr hpure hargs
  obtain ⟨hr, h⟩ := hF as r hFr
  obtain ⟨hlen, h⟩ := cond_elim h
  have hlen := Nat.le_of_ble_eq_true hlen
  have hxl : xs.size ≤ nt := by have := CVs_len _ _ hargs; simp at this; omega
  have hok : okVs as = true := okVs_of_pures as hpure
  obtain ⟨X, hX⟩ : ∃ X : Fix, X = ⟨P, nt, ok0, w, fun _ => .dead, fun _ => undef, fun _ _ => True, 0, fun _ _ _ _ _ _ => trivial, hgl, false⟩ := ⟨_, rfl⟩
  have hXP : X.P = P := by rw [hX]
  have hXn : X.nt = nt := by rw [hX]
  have hXo : X.ok0 = ok0 := by rw [hX]
  have hXw : X.w0 = w := by rw [hX]
  have hXb : X.base = w.heap.size := by unfold Fix.base; rw [hXw]
  have R1 : RR X (fun _ => 0) ⟨initF 0 as, [], none⟩ { tmps := xs ++ Array.replicate (nt - xs.size) undef, defers := [] } w := by
    refine ⟨by rw [hXn]; exact init_size hxl, ⟨Marks.nil _ _, fun _ => rfl⟩, fun b hb => by rw [hXb]; rw [hXo] at hb; exact hok0 b hb, by rw [hXb, hXw]; exact Below.refl _ _, fun id => trivial, fun _ _ h => h.elim, fun d => ?_, (fun ks hk => by cases hk), (fun ks hk => by cases hk), by rw [hX]; exact Nat.zero_le _⟩
    show VR (cx X (fun _ => 0) [] w) (lk (initF 0 as) d) ((xs ++ Array.replicate (nt - xs.size) undef).getD d undef)
    rw [lk_initF, if_pos (Nat.zero_le _), Nat.sub_zero, init_getD]
    refine init_fr as _ (CVs_pure (c := cx0 ok0 w) (c' := cx X (fun _ => 0) [] w) (fun b hb => ⟨⟨?_, hok0 b hb, fun id hl => hl.elim⟩, .refl _ _⟩) as _ hpure hargs) hok d
    rw [hXo]; exact .inl hb
  refine .inr ⟨run_enter hf hb hnm xs w, (callsIn_wide (n := 0)).1 (callsIn_of_wp_marks (F := Fence.wide) (n := 0) hf hb trivial ?_)⟩
  rw [hnt]
  subst hXP
  refine wpIn_mono (Q := noPanic _) ?_ (fun _ _ _ => noPanic_le)
  refine vc_sound (P := X.P) (E := { E with off := 0, nt := nt, yl := none }) (hE.at 0 nt none) hP c X none 0 rfl hXn.symm (fun _ => by rw [hX]; rfl) (fun _ _ h => by cases h) (fun h => by cases h) _ _ _ w _ _ (fun c a w hq => hq) R1 h fun e ρ' s' a' w' hK R' => ?_
  · have fin : ∀ w', RR X ρ' s' { a' with defers := [] } w' → resP E rs s' (fun v => forceD (canR E.tt ts (norm s'.hp v)) fun v => v = r) → ∃ v, (results fn a'.tmps).run X.P w' = .ok v w' ∧ ∃ z, Ending.returned v = .returned z ∧ Below w.heap.size w w' ∧ VR (cx0 (fun b => (ok0 b ∨ w.heap.size ≤ b) ∧ b < w'.heap.size) w') r z := by
      intro w' R' hres
      obtain ⟨z, v, g1, g2, g3⟩ := res_sound hE.t R' hrs hres
      rw [forceD_eq] at g2
      refine ⟨z, g1, z, rfl, by have := R'.below; rw [hXb, hXw] at this; exact this, ?_⟩
      subst g2
      rw [pureR_canR] at hr
      refine VR_canR E.tt ts hr ?_
      have hsub : ∀ l b, okL X ρ' s'.hp w' l b → (cx0 (fun b => (ok0 b ∨ w.heap.size ≤ b) ∧ b < w'.heap.size) w').ok b ∧ SameC w' w' b := by
        intro l b hb
        refine ⟨?_, .refl _ _⟩
        rcases hb with hb | ⟨id, _, hl, rfl⟩
        · have := hb.1
          rw [hXo, hXb] at this
          exact ⟨this, hb.2.1⟩
        · have := R'.lt hl
          rw [hXb] at this
          exact ⟨.inr this.1, this.2⟩
      cases v with
      | tup l =>
        obtain ⟨ys, rfl, h2⟩ := g3
        have hp : pureAV.pures (norm.norms s'.hp l) = true := hr
        rw [norms_map] at hp
        refine ⟨ys, rfl, ?_⟩
        show CVs _ (norm.norms s'.hp l) _
        rw [norms_map]
        exact CVs_pure (c := cx0 (okL X ρ' s'.hp w' (owns.ownss l)) w') (fun b hb => hsub _ b hb) _ _ hp (norms_CVs R' l _ _ (fun id h => h) hp h2)
      | und => cases hr
      | dead => cases hr
      | int k n =>
        have hp : pureAV (norm s'.hp (.int k n)) = true := by
          have hr := hr
          cases hn : norm s'.hp (.int k n) with
          | tup l => exact absurd hn (by simp only [norm]; intro h; cases h)
          | _ => rw [hn] at hr; exact hr
        exact VR_of_pure hp (CR_pure (c := cx0 (okL X ρ' s'.hp w' (owns (.int k n))) w') (fun b hb => hsub _ b hb) _ _ hp (norm_CR R' _ _ _ (fun id h => h) hp g3.1)) (by rw [aggAV_norm R' g3.1]; exact g3.2)
      | bool b =>
        have hp : pureAV (norm s'.hp (.bool b)) = true := by
          have hr := hr
          cases hn : norm s'.hp (.bool b) with
          | tup l => exact absurd hn (by simp only [norm]; intro h; cases h)
          | _ => rw [hn] at hr; exact hr
        exact VR_of_pure hp (CR_pure (c := cx0 (okL X ρ' s'.hp w' (owns (.bool b))) w') (fun b hb => hsub _ b hb) _ _ hp (norm_CR R' _ _ _ (fun id h => h) hp g3.1)) (by rw [aggAV_norm R' g3.1]; exact g3.2)
      | str t =>
        have hp : pureAV (norm s'.hp (.str t)) = true := by
          have hr := hr
          cases hn : norm s'.hp (.str t) with
          | tup l => exact absurd hn (by simp only [norm]; intro h; cases h)
          | _ => rw [hn] at hr; exact hr
        exact VR_of_pure hp (CR_pure (c := cx0 (okL X ρ' s'.hp w' (owns (.str t))) w') (fun b hb => hsub _ b hb) _ _ hp (norm_CR R' _ _ _ (fun id h => h) hp g3.1)) (by rw [aggAV_norm R' g3.1]; exact g3.2)
      | ro e xs =>
        have hp : pureAV (norm s'.hp (.ro e xs)) = true := by
          have hr := hr
          cases hn : norm s'.hp (.ro e xs) with
          | tup l => exact absurd hn (by simp only [norm]; intro h; cases h)
          | _ => rw [hn] at hr; exact hr
        exact VR_of_pure hp (CR_pure (c := cx0 (okL X ρ' s'.hp w' (owns (.ro e xs))) w') (fun b hb => hsub _ b hb) _ _ hp (norm_CR R' _ _ _ (fun id h => h) hp g3.1)) (by rw [aggAV_norm R' g3.1]; exact g3.2)
      | arr n e xs =>
        have hp : pureAV (norm s'.hp (.arr n e xs)) = true := by
          have hr := hr
          cases hn : norm s'.hp (.arr n e xs) with
          | tup l => exact absurd hn (by simp only [norm]; intro h; cases h)
          | _ => rw [hn] at hr; exact hr
        exact VR_of_pure hp (CR_pure (c := cx0 (okL X ρ' s'.hp w' (owns (.arr n e xs))) w') (fun b hb => hsub _ b hb) _ _ hp (norm_CR R' _ _ _ (fun id h => h) hp g3.1)) (by rw [aggAV_norm R' g3.1]; exact g3.2)
      | agg l =>
        have hp : pureAV (norm s'.hp (.agg l)) = true := by
          have hr := hr
          cases hn : norm s'.hp (.agg l) with
          | tup l => exact absurd hn (by simp only [norm]; intro h; cases h)
          | _ => rw [hn] at hr; exact hr
        exact VR_of_pure hp (CR_pure (c := cx0 (okL X ρ' s'.hp w' (owns (.agg l))) w') (fun b hb => hsub _ b hb) _ _ hp (norm_CR R' _ _ _ (fun id h => h) hp g3.1)) (by rw [aggAV_norm R' g3.1]; exact g3.2)
      | own id =>
        have hp : pureAV (norm s'.hp (.own id)) = true := by
          have hr := hr
          cases hn : norm s'.hp (.own id) with
          | tup l => exact absurd hn (by simp only [norm]; split <;> (intro h; cases h))
          | _ => rw [hn] at hr; exact hr
        exact VR_of_pure hp (CR_pure (c := cx0 (okL X ρ' s'.hp w' (owns (.own id))) w') (fun b hb => hsub _ b hb) _ _ hp (norm_CR R' _ _ _ (fun id h => h) hp g3.1)) (by rw [aggAV_norm R' g3.1]; exact g3.2)
      | ptr id p =>
        have hp : pureAV (norm s'.hp (.ptr id p)) = true := by
          have hr := hr
          cases hn : norm s'.hp (.ptr id p) with
          | tup l => exact absurd hn (by simp only [norm]; intro h; cases h)
          | _ => rw [hn] at hr; exact hr
        exact VR_of_pure hp (CR_pure (c := cx0 (okL X ρ' s'.hp w' (owns (.ptr id p))) w') (fun b hb => hsub _ b hb) _ _ hp (norm_CR R' _ _ _ (fun id h => h) hp g3.1)) (by rw [aggAV_norm R' g3.1]; exact g3.2)
      | vsl id n => have hr : false = true := hr; cases hr
      | vw id l h => have hr : false = true := hr; cases hr
      | raw b w1 => have hr : false = true := hr; cases hr
      | rop e y =>
        have hp : pureAV (norm s'.hp (.rop e y)) = true := by
          have hr := hr
          cases hn : norm s'.hp (.rop e y) with
          | tup l => exact absurd hn (by simp only [norm]; intro h; cases h)
          | _ => rw [hn] at hr; exact hr
        exact VR_of_pure hp (CR_pure (c := cx0 (okL X ρ' s'.hp w' (owns (.rop e y))) w') (fun b hb => hsub _ b hb) _ _ hp (norm_CR R' _ _ _ (fun id h => h) hp g3.1)) (by rw [aggAV_norm R' g3.1]; exact g3.2)
      | con u =>
        have hp : pureAV (norm s'.hp (.con u)) = true := by
          have hr := hr
          cases hn : norm s'.hp (.con u) with
          | tup l => exact absurd hn (by simp only [norm]; intro h; cases h)
          | _ => rw [hn] at hr; exact hr
        exact VR_of_pure hp (CR_pure (c := cx0 (okL X ρ' s'.hp w' (owns (.con u))) w') (fun b hb => hsub _ b hb) _ _ hp (norm_CR R' _ _ _ (fun id h => h) hp g3.1)) (by rw [aggAV_norm R' g3.1]; exact g3.2)
      | fn f x y =>
        have hp : pureAV (norm s'.hp (.fn f x y)) = true := by
          have hr := hr
          cases hn : norm s'.hp (.fn f x y) with
          | tup l => exact absurd hn (by simp only [norm]; intro h; cases h)
          | _ => rw [hn] at hr; exact hr
        exact VR_of_pure hp (CR_pure (c := cx0 (okL X ρ' s'.hp w' (owns (.fn f x y))) w') (fun b hb => hsub _ b hb) _ _ hp (norm_CR R' _ _ _ (fun id h => h) hp g3.1)) (by rw [aggAV_norm R' g3.1]; exact g3.2)
    cases e with
    | normal => exact leaves R' fun w2 R2 => fin w2 R2 hK
    | ret => exact leaves R' fun w2 R2 => fin w2 R2 hK
    | exit i => exact hK
    | goto l => exact hK
    | panic ch => exact hK.elim
    | outgrown => exact hK.elim
end

/-! ### For the walks -/
@[irreducible] def Side (p : Prop) : Prop := p
theorem Side.out {p : Prop} (h : Side p) : p := by unfold Side at h; exact h
theorem Side.mk {p : Prop} (h : p) : Side p := by unfold Side; exact h
theorem br_bool {b : Bool} {A B : Prop} (h1 : b = true → A) (h2 : b = false → B) : br b A B := by
  cases b with
  | true => exact h1 rfl
  | false => exact h2 rfl
theorem side_and {p A : Prop} (h : Side p) (h2 : A) : p ∧ A := ⟨h.out, h2⟩
end Go.Proofs.YtoihmfgkmndjfaaV
/- A program's types, as the tables of the VC evaluator hold them: told by reckoning. -/
set_option linter.unusedVariables false
set_option linter.unusedSimpArgs false
namespace Go.Proofs.YtoihmfgkmndjfaaV
open Go.RowKit

/-- Are these two zero values the same (true: they are). -/
def eqZ1 : Value → Value → Bool
  | .int k n, .int k' n' => decide (k = k') && decide (n = n')
  | .bool a, .bool b => a == b
  | .string a, .string b => Nat.beq a.size 0 && Nat.beq b.size 0
  | .slice none 0 0, .slice none 0 0 => true
  | .pointer none, .pointer none => true
  | .nilFunc, .nilFunc => true
  | .nilIface, .nilIface => true
  | _, _ => false
theorem eqZ1_eq {a b : Value} (h : eqZ1 a b = true) : a = b := by
  unfold eqZ1 at h
  split at h
  · rw [Bool.and_eq_true] at h
    obtain ⟨h1, h2⟩ := h
    have h1 := of_decide_eq_true h1
    have h2 := of_decide_eq_true h2
    subst h1; subst h2; rfl
  · rename_i x y
    have : x = y := by simpa using h
    rw [this]
  · rename_i x y
    rw [Bool.and_eq_true] at h
    have h1 := Nat.eq_of_beq_eq_true h.1
    have h2 := Nat.eq_of_beq_eq_true h.2
    have e : ∀ z : ByteArray, z.size = 0 → z = ⟨#[]⟩ := by
      intro z hz
      cases z with
      | mk data => 
        have : data.size = 0 := hz
        have := Array.eq_empty_of_size_eq_zero this
        rw [this]
    rw [e x h1, e y h2]
  all_goals first | rfl | cases h
def eqZs : List Value → List Value → Bool
  | [], [] => true
  | a :: l, b :: l' => eqZ1 a b && eqZs l l'
  | _, _ => false
theorem eqZs_eq : ∀ {l l' : List Value}, eqZs l l' = true → l = l'
  | [], [], _ => rfl
  | a :: l, b :: l', h => by
    have h : (eqZ1 a b && eqZs l l') = true := h
    rw [Bool.and_eq_true] at h
    rw [eqZ1_eq h.1, eqZs_eq h.2]
  | [], _ :: _, h => by cases h
  | _ :: _, [], h => by cases h
def eqZ (e : Ty) (v : Value) : Bool :=
  match aggTy e, v with
  | true, .agg cs => eqZs cs.toList (zcs e)
  | false, v => match zcs e with
    | [u] => eqZ1 v u
    | _ => false
  | _, _ => false
theorem eqZ_eq {e : Ty} {v : Value} (h : eqZ e v = true) : v = zval e := by
  unfold eqZ at h
  unfold zval
  split at h
  · rename_i cs ha
    rw [ha, if_pos rfl]
    congr 1
    apply Array.ext'
    simpa using eqZs_eq h
  · rename_i v' ha
    rw [ha]
    split at h
    · rename_i u hu
      rw [hu]; simpa using eqZ1_eq h
    · cases h
  · cases h

def baseB (P : Program) (e : Ty) (t : TypeId) : Bool :=
  match P.info? t with
  | some i => Nat.beq i.size e.size && (match i.zero with | some z => eqZ e z | none => false) && Nat.ble i.bytes 32768 && (Nat.ble i.bytes e.ub && Nat.ble e.lb i.bytes) && (!aggTy e || !P.eqGuardType P.depth t)
  | none => false
theorem baseB_ok {P : Program} {e : Ty} {t : TypeId} (h : baseB P e t = true) : TyBase P e t := by
  unfold baseB at h
  split at h
  · rename_i i hi
    rw [Bool.and_eq_true, Bool.and_eq_true, Bool.and_eq_true, Bool.and_eq_true, Bool.and_eq_true] at h
    obtain ⟨⟨⟨⟨h1, h2⟩, h3⟩, h5, h6⟩, h4⟩ := h
    refine ⟨⟨i, hi, Nat.eq_of_beq_eq_true h1, ?_, Nat.le_of_ble_eq_true h3, Nat.le_of_ble_eq_true h5, Nat.le_of_ble_eq_true h6⟩, fun ha => by rw [ha] at h4; simpa using h4⟩
    split at h2
    · rename_i z hz
      rw [hz, eqZ_eq h2]
    · cases h2
  · cases h

mutual
/-- Is this type what the table says. -/
def tyB (P : Program) : Ty → TypeId → Bool
  | .int k, t => baseB P (.int k) t && (match P.underlying t with | some (.int k') => decide (k' = k) | _ => false)
  | .bool, t => baseB P .bool t && (match P.underlying t with | some .bool => true | _ => false)
  | .str, t => baseB P .str t && (match P.underlying t with | some .string => true | _ => false)
  | .sl e, t => baseB P (.sl e) t && (match P.underlying t with | some (.slice te) => tyB P e te | _ => false)
  | .arr n e, t => baseB P (.arr n e) t && (match P.underlying t with | some (.array m te) => Nat.beq m n && tyB P e te | _ => false)
  | .unit, t => baseB P .unit t && (match P.underlying t with | some (.struct fs) => fs.toList.isEmpty && !P.stoodInHeld t | _ => false)
  | .pair a b, t => baseB P (.pair a b) t && (match P.underlying t with
    | some (.struct fs) => !P.stoodInHeld t && (match fs.toList with
      | f :: r => Nat.beq f.offset 0 && !(f.name == "_") && tyB P a f.type && fsB P b r a.size
      | [] => false)
    | _ => false)
  | .opq z, t => baseB P (.opq z) t && (match P.underlying t with
    | some (.pointer u) => !Nat.beq z 1 && (!Nat.beq z 4 || (Nat.beq u UB && Nat.beq (P.cellsOf UB) 1))
    | some (.func _ _ _) => !Nat.beq z 0 && !Nat.beq z 4
    | some (.interface _) => !Nat.beq z 0 && !Nat.beq z 1 && !Nat.beq z 4
    | _ => false)
def fsB (P : Program) : Ty → List Field → Nat → Bool
  | .pair a b, f :: r, o => Nat.beq f.offset o && !(f.name == "_") && tyB P a f.type && fsB P b r (o + a.size)
  | .unit, [], _ => true
  | _, _, _ => false
end
mutual
theorem tyB_ok {P : Program} : ∀ (e : Ty) (t : TypeId), tyB P e t = true → TyOk P e t
  | .int k, t, h => by
    simp only [tyB, Bool.and_eq_true] at h
    refine ⟨baseB_ok h.1, ?_⟩
    have h2 := h.2
    split at h2
    · rename_i k' hu; rw [hu, of_decide_eq_true h2]
    · cases h2
  | .bool, t, h => by
    simp only [tyB, Bool.and_eq_true] at h
    refine ⟨baseB_ok h.1, ?_⟩
    have h2 := h.2
    split at h2
    · rename_i hu; exact hu
    · cases h2
  | .str, t, h => by
    simp only [tyB, Bool.and_eq_true] at h
    refine ⟨baseB_ok h.1, ?_⟩
    have h2 := h.2
    split at h2
    · rename_i hu; exact hu
    · cases h2
  | .sl e, t, h => by
    simp only [tyB, Bool.and_eq_true] at h
    refine ⟨baseB_ok h.1, ?_⟩
    have h2 := h.2
    split at h2
    · rename_i te hu; exact ⟨te, hu, tyB_ok e te h2⟩
    · cases h2
  | .arr n e, t, h => by
    simp only [tyB, Bool.and_eq_true] at h
    refine ⟨baseB_ok h.1, ?_⟩
    have h2 := h.2
    split at h2
    · rename_i m te hu
      rw [Bool.and_eq_true] at h2
      exact ⟨te, by rw [hu, Nat.eq_of_beq_eq_true h2.1], tyB_ok e te h2.2⟩
    · cases h2
  | .unit, t, h => by
    simp only [tyB, Bool.and_eq_true] at h
    refine ⟨baseB_ok h.1, ?_⟩
    have h2 := h.2
    split at h2
    · rename_i fs hu
      rw [Bool.and_eq_true] at h2
      exact ⟨fs, hu, List.isEmpty_iff.1 h2.1, by simpa using h2.2⟩
    · cases h2
  | .pair a b, t, h => by
    simp only [tyB, Bool.and_eq_true] at h
    refine ⟨baseB_ok h.1, ?_⟩
    have h2 := h.2
    split at h2
    · rename_i fs hu
      rw [Bool.and_eq_true] at h2
      obtain ⟨h2, h3⟩ := h2
      split at h3
      · rename_i f r hfs
        simp only [Bool.and_eq_true] at h3
        obtain ⟨⟨⟨g1, g2⟩, g3⟩, g4⟩ := h3
        exact ⟨fs, hu, by simpa using h2, f, r, hfs, Nat.eq_of_beq_eq_true g1, by simpa using g2, tyB_ok a _ g3, fsB_ok b r _ g4⟩
      · cases h3
    · cases h2
  | .opq z, t, h => by
    simp only [tyB, Bool.and_eq_true] at h
    refine ⟨baseB_ok h.1, ?_⟩
    have h2 := h.2
    split at h2
    · rename_i u hu; exact ⟨_, hu, rfl, fun _ => ⟨u, rfl⟩, (fun hz => by subst hz; simp at h2), (fun hz => by
        subst hz
        simp only [Bool.and_eq_true] at h2
        have h3 := h2.2
        rw [show (!Nat.beq 4 4) = false from rfl, Bool.false_or, Bool.and_eq_true] at h3
        exact ⟨by rw [Nat.eq_of_beq_eq_true h3.1], Nat.eq_of_beq_eq_true h3.2⟩)⟩
    · rename_i hu; exact ⟨_, hu, rfl, (fun hz => by subst hz; simp at h2), (fun _ => ⟨_, _, _, rfl⟩), (fun hz => by subst hz; simp at h2)⟩
    · rename_i hu; exact ⟨_, hu, rfl, (fun hz => by subst hz; simp at h2), (fun hz => by subst hz; simp at h2), (fun hz => by subst hz; simp at h2)⟩
    · cases h2
theorem fsB_ok {P : Program} : ∀ (e : Ty) (fs : List Field) (o : Nat), fsB P e fs o = true → FsOk P e fs o
  | .pair a b, f :: r, o, h => by
    simp only [fsB, Bool.and_eq_true] at h
    obtain ⟨⟨⟨g1, g2⟩, g3⟩, g4⟩ := h
    exact ⟨f, r, rfl, Nat.eq_of_beq_eq_true g1, by simpa using g2, tyB_ok a _ g3, fsB_ok b r _ g4⟩
  | .unit, [], o, h => rfl
end

def ttB (P : Program) : List (Nat × Ty) → Bool
  | [] => true
  | (t, e) :: l => (tyB P e t && tagB e t) && ttB P l
def etB (P : Program) : List (Nat × Nat) → Bool
  | [] => true
  | (t, te) :: l => (match P.underlying t with | some (.slice u) => Nat.beq u te | _ => false) && etB P l
theorem ttB_ok {P : Program} : ∀ {tt : List (Nat × Ty)}, ttB P tt = true → ∀ t e, lkT tt t = some e → TyOk P e t
  | [], _, t, e, h => by cases h
  | (k, v) :: l, hb, t, e, h => by
    have hb : ((tyB P v k && tagB v k) && ttB P l) = true := hb
    rw [Bool.and_eq_true, Bool.and_eq_true] at hb
    simp only [lkT] at h
    cases hk : Nat.beq k t with
    | true =>
      rw [hk] at h
      have := Nat.eq_of_beq_eq_true hk
      subst this
      have h : some v = some e := h
      cases h
      exact tyB_ok _ _ hb.1.1
    | false => rw [hk] at h; exact ttB_ok hb.2 t e h
theorem tagB_ok : ∀ {e : Ty} {t : Nat}, tagB e t = true → TagOk e t
  | .pair (.opq 3) _, t, h => Nat.eq_of_beq_eq_true h
  | e, t, h => by
    unfold TagOk
    split
    · exact Nat.eq_of_beq_eq_true h
    · trivial
theorem ttB_tag {P : Program} : ∀ {tt : List (Nat × Ty)}, ttB P tt = true → ∀ t e, lkT tt t = some e → TagOk e t
  | [], _, t, e, h => by cases h
  | (k, v) :: l, hb, t, e, h => by
    have hb : ((tyB P v k && tagB v k) && ttB P l) = true := hb
    rw [Bool.and_eq_true, Bool.and_eq_true] at hb
    simp only [lkT] at h
    cases hk : Nat.beq k t with
    | true =>
      rw [hk] at h
      have := Nat.eq_of_beq_eq_true hk
      subst this
      have h : some v = some e := h
      cases h
      exact tagB_ok hb.1.2
    | false => rw [hk] at h; exact ttB_tag hb.2 t e h
theorem etB_ok {P : Program} : ∀ {et : List (Nat × Nat)}, etB P et = true → ∀ t e, lkE et t = some e → P.underlying t = some (.slice e)
  | [], _, t, e, h => by cases h
  | (k, v) :: l, hb, t, e, h => by
    simp only [etB, Bool.and_eq_true] at hb
    simp only [lkE] at h
    cases hk : Nat.beq k t with
    | true =>
      rw [hk] at h
      have := Nat.eq_of_beq_eq_true hk
      subst this
      have h : some v = some e := h
      cases h
      have h1 := hb.1
      split at h1
      · rename_i u hu; rw [hu, Nat.eq_of_beq_eq_true h1]
      · cases h1
    | false => rw [hk] at h; exact etB_ok hb.2 t e h

/-- What a type is, by reckoning: for whoever prints the tables. -/
def tyOf (P : Program) : Nat → TypeId → Option Ty
  | 0, _ => none
  | f + 1, t => match P.underlying t with
    | some (.int k) => some (.int k)
    | some .bool => some .bool
    | some .string => some .str
    | some (.slice te) => (tyOf P f te).map .sl
    | some (.array n te) => (tyOf P f te).map (.arr n)
    | some (.struct fs) => fs.toList.foldr (fun fd r => match tyOf P f fd.type, r with | some a, some b => some (.pair a b) | _, _ => none) (some .unit)
    | some (.pointer _) => some (.opq 0)
    | some (.func _ _ _) => some (.opq 1)
    | some (.interface _) => some (.opq 2)
    | _ => none
end Go.Proofs.YtoihmfgkmndjfaaV
/- '==' of structs and arrays, as the model tells it. -/
set_option linter.unusedVariables false
set_option linter.unusedSimpArgs false
namespace Go.Proofs.YtoihmfgkmndjfaaV
open Go.RowKit

def valOf (e : Ty) (l : List Value) : Value := if aggTy e then .agg l.toArray else l.headD undef

section
variable {P : Program} {w : World} {c : Cx}

theorem run_part_ty {e : Ty} {t : TypeId} (h : TyOk P e t) (cs : Array Value) (A M B : List Value) (hc : cs.toList = A ++ M ++ B) (hM : M.length = e.size) : (part t cs A.length).run P w = .ok (valOf e M) w := by
  unfold part
  rw [Sem.run_bind, run_isAgg_ty h]
  unfold valOf
  cases ha : aggTy e with
  | true =>
    simp only [Result.andThen_ok, if_true, Sem.run_bind, run_sizeOf_ty h, Sem.run_pure]
    congr 2
    apply Array.ext'
    rw [Array.toList_extract, hc, ← hM]
    simp [List.extract_eq_take_drop]
  | false =>
    have hs : e.size = 1 := by cases e <;> first | rfl | cases ha
    rw [hs] at hM
    match M, hM with
    | [v], _ =>
      have : cs[A.length]? = some v := by
        rw [← Array.getElem?_toList, hc, List.append_assoc, List.getElem?_append_right (Nat.le_refl _), Nat.sub_self]; rfl
      simp [this]

theorem eqItems_int {k : IntKind} {te : TypeId} (hT : TyOk P (.int k) te) (cs ds : Array Value) (xs ys : List Int) (hc : cs.toList = xs.map (Value.int k)) (hd : ds.toList = ys.map (Value.int k)) (hl : xs.length = ys.length) (d : Nat) : ∀ (m i : Nat), i + m = xs.length →
    (Op.eqItems (d + 1) te (P.cellsOf te) cs ds (List.range' i m)).run P w = .ok (decide (xs.drop i = ys.drop i)) w
  | 0, i, h => by
    rw [List.drop_of_length_le (by omega), List.drop_of_length_le (by omega)]
    simp [Op.eqItems]
  | m + 1, i, h => by
    have hcell : P.cellsOf te = 1 := by
      obtain ⟨j, j1, j2, _⟩ := hT.base
      unfold Program.cellsOf
      simp [j1, j2, Ty.size]
    have hi : i < xs.length := by omega
    have hi' : i < ys.length := by omega
    have p1 : (part te cs i).run P w = .ok (.int k xs[i]) w := by
      have h1 : (cs.toList.take i).length = i := by rw [List.length_take, hc, List.length_map]; omega
      have := run_part_ty (w := w) hT cs (cs.toList.take i) [.int k xs[i]] (cs.toList.drop (i + 1)) (by
        have h2 : cs.toList[i]? = some (.int k xs[i]) := by rw [hc, List.getElem?_map, List.getElem?_eq_getElem hi]; rfl
        have h3 := List.getElem?_eq_some_iff.1 h2
        obtain ⟨h4, h5⟩ := h3
        conv => lhs; rw [← List.take_append_drop i cs.toList, List.drop_eq_getElem_cons h4, h5]
        simp) rfl
      rw [h1] at this; exact this
    have p2 : (part te ds i).run P w = .ok (.int k ys[i]) w := by
      have h1 : (ds.toList.take i).length = i := by rw [List.length_take, hd, List.length_map]; omega
      have := run_part_ty (w := w) hT ds (ds.toList.take i) [.int k ys[i]] (ds.toList.drop (i + 1)) (by
        have h2 : ds.toList[i]? = some (.int k ys[i]) := by rw [hd, List.getElem?_map, List.getElem?_eq_getElem hi']; rfl
        have h3 := List.getElem?_eq_some_iff.1 h2
        obtain ⟨h4, h5⟩ := h3
        conv => lhs; rw [← List.take_append_drop i ds.toList, List.drop_eq_getElem_cons h4, h5]
        simp) rfl
      rw [h1] at this; exact this
    rw [List.range'_succ]
    simp only [Op.eqItems, Sem.run_bind, hcell, Nat.mul_one, p1, p2, run_equalIn_int w d te k k _ _ hT.2, Result.andThen_ok]
    have ih := eqItems_int hT cs ds xs ys hc hd hl d m (i + 1) (by omega)
    rw [hcell] at ih
    have e : (xs.drop i = ys.drop i) ↔ (xs[i] = ys[i] ∧ xs.drop (i + 1) = ys.drop (i + 1)) := by
      rw [List.drop_eq_getElem_cons hi, List.drop_eq_getElem_cons hi', List.cons.injEq]
    by_cases he : xs[i] = ys[i]
    · have hb : (xs[i] == ys[i]) = true := by rw [he]; simp
      rw [hb]
      simp only [Bool.not_true, Bool.false_eq_true, if_false]
      rw [ih]
      congr 1
      rw [decide_eq_decide, e]
      exact ⟨fun h => ⟨he, h⟩, fun h => h.2⟩
    · have hb : (xs[i] == ys[i]) = false := by simpa using he
      rw [hb]
      simp only [Bool.not_false, if_true, Sem.run_pure]
      congr 1
      symm
      apply decide_eq_false
      rw [e]; exact fun h => he h.1

theorem EncL_ints {ok : Nat → Prop} {k : IntKind} : ∀ (xs : List Int) (l : List Value), EncL (Enc ok w (.int k)) xs l → l = xs.map (Value.int k)
  | [], l, h => h
  | x :: xs, l, h => by
    obtain ⟨u, v, rfl, ⟨rfl, _⟩, h2⟩ := h
    rw [EncL_ints xs v h2]; rfl

theorem fits_int {k : IntKind} {u : AV} (h : fits (.int k) u = true) : ∃ a, u = .int k a := by
  cases u <;> first
    | (have h : (k == _) = true := h; exact ⟨_, by rw [beq_iff_eq.1 h]⟩)
    | (simp [fits] at h)
theorem fits_bool {u : AV} (h : fits .bool u = true) : ∃ a, u = .bool a := by
  cases u <;> first | exact ⟨_, rfl⟩ | (simp [fits] at h)
theorem fits_unit {u : AV} (h : fits .unit u = true) : u = .agg [] := by
  cases u with
  | agg l => cases l with
    | nil => rfl
    | cons _ _ => simp [fits] at h
  | _ => simp [fits] at h
theorem fits_pair {a b : Ty} {u : AV} (h : fits (.pair a b) u = true) : ∃ x l, u = .agg (x :: l) ∧ fits a x = true ∧ fitss b l = true := by
  cases u with
  | agg l => cases l with
    | nil => simp [fits] at h
    | cons x l =>
      have h : (fits a x && fitss b l) = true := h
      rw [Bool.and_eq_true] at h
      exact ⟨x, l, rfl, h⟩
  | _ => simp [fits] at h
theorem fits_arr {n : Nat} {e : Ty} {u : AV} (h : fits (.arr n e) u = true) : ∃ xs, u = .arr n e xs := by
  cases u with
  | arr n' e' xs =>
    have h : (n' == n && decide (e' = e)) = true := h
    rw [Bool.and_eq_true] at h
    obtain rfl := beq_iff_eq.1 h.1
    obtain rfl := of_decide_eq_true h.2
    exact ⟨xs, rfl⟩
  | _ => simp [fits] at h
theorem fitss_pair {a b : Ty} {l : List AV} (h : fitss (.pair a b) l = true) : ∃ x r, l = x :: r ∧ fits a x = true ∧ fitss b r = true := by
  cases l with
  | nil => simp [fitss] at h
  | cons x l =>
    have h : (fits a x && fitss b l) = true := h
    rw [Bool.and_eq_true] at h
    exact ⟨x, l, rfl, h⟩
theorem fitss_unit {l : List AV} (h : fitss .unit l = true) : l = [] := by
  cases l with
  | nil => rfl
  | cons x l => simp [fitss] at h

def EqIn (P : Program) (w : World) (c : Cx) (e : Ty) : Prop := ∀ (u v : AV) (l l' : List Value) (r : Bool) (t : TypeId) (d : Nat), depthT e ≤ d → TyOk P e t → fits e u = true → fits e v = true → CR c u l → CR c v l' → eqAV u v = some r →
    (Op.equalIn (d + 1) t (valOf e l) (valOf e l')).run P w = .ok r w
def EqFs (P : Program) (w : World) (c : Cx) (e : Ty) : Prop := ∀ (us vs : List AV) (l l' : List Value) (r : Bool) (fs : List Field) (A A' : List Value) (d : Nat), depthT e ≤ d → FsOk P e fs A.length → fitss e us = true → fitss e vs = true → CRs c us l → CRs c vs l' → eqAVs us vs = some r →
    ∀ xs ys : Array Value, xs.toList = A ++ l → ys.toList = A' ++ l' → A.length = A'.length → (Op.eqFields d xs ys fs).run P w = .ok r w

theorem eq_ty (e : Ty) : EqIn P w c e ∧ EqFs P w c e := by
  induction e with
  | int k =>
    refine ⟨fun u v l l' r t d hd hT h1 h2 hu hv hr => ?_, fun us vs l l' r fs A A' d hd hF => hF.elim⟩
    obtain ⟨a, rfl⟩ := fits_int h1
    obtain ⟨b, rfl⟩ := fits_int h2
    obtain ⟨rfl, _⟩ := hu
    obtain ⟨rfl, _⟩ := hv
    simp only [eqAV, if_true, Option.some.injEq] at hr
    subst hr
    exact run_equalIn_int w d t k k a b hT.2
  | bool =>
    refine ⟨fun u v l l' r t d hd hT h1 h2 hu hv hr => ?_, fun us vs l l' r fs A A' d hd hF => hF.elim⟩
    obtain ⟨a, rfl⟩ := fits_bool h1
    obtain ⟨b, rfl⟩ := fits_bool h2
    have hu : l = _ := hu
    have hv : l' = _ := hv
    subst hu; subst hv
    simp only [eqAV, Option.some.injEq] at hr
    subst hr
    exact run_equalIn_bool d a b hT.2
  | str =>
    refine ⟨fun u v l l' r t d hd hT h1 h2 hu hv hr => ?_, fun us vs l l' r fs A A' d hd hF => hF.elim⟩
    cases u <;> first | (simp [eqAV] at hr; done) | (simp [fits] at h1; done)
  | unit =>
    refine ⟨fun u v l l' r t d hd hT h1 h2 hu hv hr => ?_, fun us vs l l' r fs A A' d hd hF h1 h2 hu hv hr xs ys hx hy hA => ?_⟩
    · obtain rfl := fits_unit h1
      obtain rfl := fits_unit h2
      obtain ⟨_, fs, g1, g2, g3⟩ := hT
      have hf : P.fieldsOf t = fs := by simp [Program.fieldsOf, g1]
      simp only [eqAV, eqAVs, Option.some.injEq] at hr
      subst hr
      show (Op.equalIn (d + 1) t (.agg l.toArray) (.agg l'.toArray)).run P w = _
      rw [run_equalIn_struct w d t _ _ (by rw [hf]; exact g1) g3, hf, g2]
      simp [Op.eqFields]
    · obtain rfl := fitss_unit h1
      obtain rfl := fitss_unit h2
      have hF : fs = [] := hF
      subst hF
      simp only [eqAVs, Option.some.injEq] at hr
      subst hr
      simp [Op.eqFields]
  | pair a b iha ihb =>
    have main : EqFs P w c (.pair a b) := by
      intro us vs l l' r fs A A' d hd hF h1 h2 hu hv hr xs ys hx hy hA
      obtain ⟨u, us, rfl, j1⟩ := fitss_pair h1
      obtain ⟨v, vs, rfl, j2⟩ := fitss_pair h2
      obtain ⟨f, rr, rfl, g4, g5, g6, g7⟩ := hF
      obtain ⟨m, n, rfl, k1, k2⟩ := hu
      obtain ⟨m', n', rfl, k3, k4⟩ := hv
      have hd : max (depthT a + 1) (depthT b) ≤ d := hd
      simp only [eqAVs] at hr
      split at hr
      · rename_i p q hp hq
        cases hr
        have lm := CR_length a u m (Shp_of_fits a u j1.1) k1
        have lm' := CR_length a v m' (Shp_of_fits a v j2.1) k3
        obtain ⟨d, rfl⟩ : ∃ d', d = d' + 1 := ⟨d - 1, by omega⟩
        have q1 := run_part_ty (w := w) g6 xs A m n (by rw [hx]; simp) lm
        have q2 := run_part_ty (w := w) g6 ys A' m' n' (by rw [hy]; simp) lm'
        have q3 := iha.1 u v m m' p f.type d (by omega) g6 j1.1 j2.1 k1 k3 hp
        have q4 := ihb.2 us vs n n' q rr (A ++ m) (A' ++ m') (d + 1) (by omega) (by rw [List.length_append, lm]; exact g7) j1.2 j2.2 k2 k4 hq xs ys (by rw [hx]; simp) (by rw [hy]; simp) (by simp [hA, lm, lm'])
        rw [← g4] at q1
        rw [← hA, ← g4] at q2
        simp only [Op.eqFields, if_pos g5, Sem.run_bind, q1, q2, q3, Result.andThen_ok]
        cases p
        · simp
        · simpa using q4
      · cases hr
    refine ⟨fun u v l l' r t d hd hT h1 h2 hu hv hr => ?_, main⟩
    obtain ⟨x, us, rfl, j1⟩ := fits_pair h1
    obtain ⟨y, vs, rfl, j2⟩ := fits_pair h2
    obtain ⟨_, fs, g1, g2, f, rr, g3, g4, g5, g6, g7⟩ := hT
    have hf : P.fieldsOf t = fs := by simp [Program.fieldsOf, g1]
    have hF : FsOk P (.pair a b) fs.toList 0 := ⟨f, rr, g3, g4, g5, g6, by rw [Nat.zero_add]; exact g7⟩
    show (Op.equalIn (d + 1) t (.agg l.toArray) (.agg l'.toArray)).run P w = _
    rw [run_equalIn_struct w d t _ _ (by rw [hf]; exact g1) g2, hf]
    refine main (x :: us) (y :: vs) l l' r fs.toList [] [] d hd hF ?_ ?_ hu hv (by simpa only [eqAV] using hr) _ _ rfl rfl rfl
    · show (fits a x && fitss b us) = true
      rw [j1.1, j1.2]; rfl
    · show (fits a y && fitss b vs) = true
      rw [j2.1, j2.2]; rfl
  | sl e _ =>
    refine ⟨fun u v l l' r t d hd hT h1 h2 hu hv hr => ?_, fun us vs l l' r fs A A' d hd hF => hF.elim⟩
    cases u <;> first | (simp [eqAV] at hr; done) | (simp [fits] at h1; done)
  | opq z =>
    refine ⟨fun u v l l' r t d hd hT h1 h2 hu hv hr => ?_, fun us vs l l' r fs A A' d hd hF => hF.elim⟩
    cases u <;> first | (simp [eqAV] at hr; done) | (simp [fits] at h1; done)
  | arr n e _ =>
    refine ⟨fun u v l l' r t d hd hT h1 h2 hu hv hr => ?_, fun us vs l l' r fs A A' d hd hF => hF.elim⟩
    obtain ⟨xs, rfl⟩ := fits_arr h1
    obtain ⟨ys, rfl⟩ := fits_arr h2
    cases e <;> try (simp [eqAV] at hr; done)
    rename_i k
    obtain ⟨_, te, g1, g2⟩ := hT
    obtain ⟨i, i1, i2, _⟩ := g2.base
    obtain ⟨hx, hu⟩ := hu
    obtain ⟨hy, hv⟩ := hv
    have eu := EncL_ints xs l hu
    have ev := EncL_ints ys l' hv
    simp only [eqAV, and_self, if_true, Option.some.injEq] at hr
    show (Op.equalIn (d + 1) t (.agg l.toArray) (.agg l'.toArray)).run P w = _
    rw [run_equalIn_array w d _ _ g1 i1]
    have hd' : 1 ≤ d := hd
    obtain ⟨d, rfl⟩ : ∃ d', d = d' + 1 := ⟨d - 1, by omega⟩
    have hx' : (xs : List Int).length = n := hx
    have hy' : (ys : List Int).length = n := hy
    have := eqItems_int (w := w) g2 l.toArray l'.toArray xs ys eu ev (by rw [hx', hy']) d n 0 (by rw [hx']; omega)
    rw [List.range_eq_range', this, ← hr]
    simp
end

theorem eqLaw (X : Fix) (c : Cx) : EqLaw X c := by
  intro e t u v x y r w hT h1 h2 ha hd hu hv hr
  have val : ∀ {u : AV} {x : Value}, fits e u = true → VR c u x → ∃ l : List Value, CR c u l ∧ x = .agg l.toArray := by
    intro u x hf h
    cases u <;> first
      | (obtain ⟨cs, hx, h'⟩ := VR_agg h; exact ⟨cs.toList, h', by rw [hx]⟩)
      | (obtain ⟨cs, hx, h3, h4⟩ := VR_arr h; exact ⟨cs.toList, ⟨h3, h4⟩, by rw [hx]⟩)
      | (exfalso; cases e <;> first | (cases ha; done) | (cases hf; done) | (simp [fits] at hf; done) | (unfold fits at hf; cases hf; done)  )
  obtain ⟨l, hl, rfl⟩ := val h1 hu
  obtain ⟨l', hl', rfl⟩ := val h2 hv
  refine ⟨?_, fun op p q => run_eqGuard_agg w op t p q _ _ (TyOk.guard hT ha)⟩
  have := (eq_ty (P := X.P) (w := w) (c := c) e).1 u v l l' r t 9999 (by omega) hT h1 h2 hl hl' hr
  unfold valOf at this
  rw [ha] at this
  exact this
theorem PrOk.of {P : Program} (h : P.follows .mixedOrders = true) : PrOk P := ⟨h, fun X _ c => eqLaw X c⟩
end Go.Proofs.YtoihmfgkmndjfaaV
/- What is known of arguments; environments. -/
set_option linter.unusedVariables false
set_option linter.unusedSimpArgs false
namespace Go.Proofs.YtoihmfgkmndjfaaV
open Go.RowKit

/-- Data within what their types hold. -/
def wfD : (e : Ty) → e.den → Prop
  | .int k, n => (Lit.int k n).wf = true
  | .bool, _ => True
  | .str, s => s.size ≤ 9223372036854775807
  | .unit, _ => True
  | .pair a b, x => wfD a x.1 ∧ wfD b x.2
  | .sl e, xs => xs.length ≤ 140737488355328 ∧ ∀ x ∈ xs, wfD e x
  | .arr n e, xs => xs.length = n ∧ ∀ x ∈ xs, wfD e x
  | .opq _, _ => True
mutual
def wfAV : AV → Prop
  | .int k n => (Lit.int k n).wf = true
  | .str s => s.size ≤ 9223372036854775807
  | .ro e xs => wfD (.sl e) xs
  | .arr n e xs => wfD (.arr n e) xs
  | .agg l => wfs l
  | _ => True
def wfs : List AV → Prop
  | [] => True
  | v :: l => wfAV v ∧ wfs l
end

theorem EncL_all {α : Type} {E : α → List Value → Prop} {Q : α → Prop} (h : ∀ x vs, E x vs → Q x) : ∀ (xs : List α) (vs : List Value), EncL E xs vs → ∀ x ∈ xs, Q x
  | [], vs, _, x, hx => by cases hx
  | y :: xs, vs, e, x, hx => by
    obtain ⟨u, v, _, h1, h2⟩ := e
    cases hx with
    | head => exact h _ _ h1
    | tail _ hx => exact EncL_all h xs v h2 x hx
theorem Enc_wf {ok : Nat → Prop} {w : World} : ∀ (e : Ty) (x : e.den) (vs : List Value), Enc ok w e x vs → wfD e x
  | .int k, n, vs, h => h.2
  | .bool, _, _, _ => trivial
  | .str, s, vs, h => h.2
  | .unit, _, _, _ => trivial
  | .pair a b, x, vs, h => by
    obtain ⟨u, v, _, h1, h2⟩ := h
    exact ⟨Enc_wf a _ _ h1, Enc_wf b _ _ h2⟩
  | .sl e, xs, vs, h => by
    obtain ⟨A, c, _, h1, h2, h3, h4, h5⟩ := h
    refine ⟨h3, fun x hx => ?_⟩
    have hne : xs ≠ [] := fun h0 => by rw [h0] at hx; cases hx
    obtain ⟨b, o, _, _, h6⟩ := h5 hne
    obtain ⟨i, hi, rfl⟩ := List.getElem_of_mem hx
    obtain ⟨cs, _, _, h7⟩ := h6 i hi
    exact Enc_wf e _ _ h7
  | .arr n e, xs, vs, h => ⟨h.1, EncL_all (fun x vs h => Enc_wf e x vs h) xs vs h.2⟩
  | .opq _, _, _, h => h.elim
mutual
theorem CR_wf {c : Cx} : ∀ (v : AV) (l : List Value), CR c v l → wfAV v
  | .int k n, l, h => h.2
  | .str s, l, h => h.2
  | .ro e xs, l, h => Enc_wf (.sl e) xs l h
  | .arr n e xs, l, h => Enc_wf (.arr n e) xs l h
  | .agg r, l, h => CRs_wf r l h
  | .bool _, _, _ => trivial
  | .own _, _, _ => trivial
  | .ptr _ _, _, _ => trivial
  | .vsl _ _, _, _ => trivial
  | .vw _ _ _, _, _ => trivial
  | .rop _ _, _, _ => trivial
  | .raw _ _, _, _ => trivial
  | .con _, _, _ => trivial
  | .fn _ _ _, _, _ => trivial
  | .tup _, _, _ => trivial
  | .und, _, _ => trivial
  | .dead, _, _ => trivial
theorem CRs_wf {c : Cx} : ∀ (r : List AV) (l : List Value), CRs c r l → wfs r
  | [], _, _ => trivial
  | v :: r, l, h => by
    obtain ⟨a, b, _, h1, h2⟩ := h
    exact ⟨CR_wf v a h1, CRs_wf r b h2⟩
end
theorem CVs_wf {c : Cx} : ∀ (r : List AV) (l : List Value), CVs c r l → wfs r
  | [], _, _ => trivial
  | v :: r, l, h => by
    obtain ⟨x, ys, _, h1, _, h2⟩ := h
    exact ⟨CR_wf v _ h1, CVs_wf r ys h2⟩

theorem wf_i64 {n : Int} (h : (Lit.int .i64 n).wf = true) : -9223372036854775808 ≤ n ∧ n ≤ 9223372036854775807 := by
  simp [Lit.wf, IntKind.min, IntKind.max, IntKind.signed, IntKind.bits] at h
  omega

open Classical in
/-- A function of data, with what is known of its arguments. -/
theorem fn_con_wf {P : Program} {E : Env} {g : FuncId} {fn : Func} {c : Code} {nt : Nat} {rs : List ResultVar} {ts : List Nat} {F : List AV → Option AV} (hE : EnvC E P) (hP : PrOk P) (hf : P.funcs[g]? = some fn) (hb : fn.body = some c) (hnm : (fn.name == "runtime.NumGoroutine") = false) (hnt : fn.ntmps = nt) (hrs : fn.results.toList = rs)
    (hF : ∀ as r, wfs as → F as = some r → pureR r = true ∧ fnVC E nt rs ts c as r) : PCon P g F := by
  intro ok0 w as xs r h1 hg h2 h3 h4
  have hw := CVs_wf _ _ h4
  refine fn_con (ts := ts) (F := fun as => if wfs as then F as else none) hE hP hf hb hnm hnt hrs (fun as r h => ?_) ok0 w as xs r h1 hg (by show (if wfs as then F as else none) = _; rw [if_pos hw]; exact h2) h3 h4
  have h : (if wfs as then F as else none) = some r := h
  by_cases hw : wfs as
  · rw [if_pos hw] at h; exact hF as r hw h
  · rw [if_neg hw] at h; cases h

/-! ### Environments, function by function -/
def FnsOk (P : Program) (l : List (Nat × (List AV → Option AV))) : Prop := ∀ g F, lkF l g = some F → PCon P g F
def ItsOk (P : Program) (l : List (Nat × (Nat → (List Nat → Proc) → Proc))) : Prop := ∀ g I, lkI l g = some I → ICon P g I
theorem ItsOk.nil (P : Program) : ItsOk P [] := fun g F h => by cases h
theorem ItsOk.cons {P : Program} {l : List (Nat × (Nat → (List Nat → Proc) → Proc))} {g : Nat} {T : Nat → (List Nat → Proc) → Proc} (h1 : ICon P g T) (h2 : ItsOk P l) : ItsOk P ((g, T) :: l) := fun g' T' h => by
  simp only [lkI] at h
  cases hk : Nat.beq g g' with
  | true =>
    rw [hk] at h
    have := Nat.eq_of_beq_eq_true hk
    subst this
    have h : some T = some T' := h
    cases h; exact h1
  | false => rw [hk] at h; exact h2 g' T' h
def PrsOk (P : Program) (l : List (Nat × Proc)) : Prop := ∀ g T, lkP l g = some T → SCon P g T
theorem FnsOk.nil (P : Program) : FnsOk P [] := fun g F h => by cases h
theorem PrsOk.nil (P : Program) : PrsOk P [] := fun g F h => by cases h
theorem FnsOk.cons {P : Program} {l : List (Nat × (List AV → Option AV))} {g : Nat} {F : List AV → Option AV} (h1 : PCon P g F) (h2 : FnsOk P l) : FnsOk P ((g, F) :: l) := fun g' F' h => by
  simp only [lkF] at h
  cases hk : Nat.beq g g' with
  | true =>
    rw [hk] at h
    have := Nat.eq_of_beq_eq_true hk
    subst this
    have h : some F = some F' := h
    cases h; exact h1
  | false => rw [hk] at h; exact h2 g' F' h
theorem PrsOk.cons {P : Program} {l : List (Nat × Proc)} {g : Nat} {T : Proc} (h1 : SCon P g T) (h2 : PrsOk P l) : PrsOk P ((g, T) :: l) := fun g' T' h => by
  simp only [lkP] at h
  cases hk : Nat.beq g g' with
  | true =>
    rw [hk] at h
    have := Nat.eq_of_beq_eq_true hk
    subst this
    have h : some T = some T' := h
    cases h; exact h1
  | false => rw [hk] at h; exact h2 g' T' h
end Go.Proofs.YtoihmfgkmndjfaaV
/- The same evaluator once more, by recursors alone: what whnf makes of it is, sign by sign, what the kernel makes of it. -/
set_option linter.unusedVariables false
set_option linter.unusedSimpArgs false
namespace Go.Proofs.YtoihmfgkmndjfaaV

/-! ### Operations in their order -/
def opsStep (E : Env) (all : List Oper) (o : Oper) (ih : St → (St → Prop) → Prop) (s : St) (K : St → Prop) : Prop :=
  match o.guard with
  | none => vc1 E o s fun s' => ih s' K
  | some (g, want) => match guardSlot all g with
    | some c => match lk s.fr c with
      | .bool t => br t
        (putF E.nt (some c) s (.bool true) fun s => cond want (vc1 E o s fun s' => ih s' K) (putF E.nt o.dst s .und fun s' => ih s' K))
        (putF E.nt (some c) s (.bool false) fun s => cond want (putF E.nt o.dst s .und fun s' => ih s' K) (vc1 E o s fun s' => ih s' K))
      | .und => putF E.nt o.dst s .und fun s' => ih s' K
      | _ => False
    | none => False
def opsNil (s : St) (K : St → Prop) : Prop := K s
noncomputable def vcOpsR (E : Env) (all : List Oper) (l : List Oper) : St → (St → Prop) → Prop :=
  List.rec (motive := fun _ => St → (St → Prop) → Prop) opsNil (fun o _ ih => opsStep E all o ih) l
theorem vcOpsR_eq (E : Env) (all : List Oper) : ∀ (l : List Oper), vcOpsR E all l = vcOps E all l
  | [] => rfl
  | o :: rest => by
    show opsStep E all o (vcOpsR E all rest) = _
    rw [vcOpsR_eq E all rest]
    rfl

/-! ### Regions that draw -/
def ordNil (_ : Bool) (_ : List Nat) (s : St) (K : St → Prop) : Prop := K s
def ordOne (E : Env) (all : List Oper) (md : Md) (i : Nat) (ih : Bool → List Nat → St → (St → Prop) → Prop) (f : Bool) (G : List Nat) (s : St) (K : St → Prop) : Prop :=
  match all[idxO i]? with
    | none => False
    | some o => match o.guard with
      | none => vcD E md f (isBar i) (isLone i) o s fun s' => ih (f && pureO o) G s' K
      | some (g, want) => match guardSlot all g with
        | some c => match lk s.fr c with
          | .bool t => br t
            (putF E.nt (some c) s (.bool true) fun s => cond want (vcD E md f (isBar i) (isLone i) o s fun s' => ih (f && pureO o) G s' K) (putF E.nt o.dst s .und fun s' => ih (f && pureO o) G s' K))
            (putF E.nt (some c) s (.bool false) fun s => cond want (putF E.nt o.dst s .und fun s' => ih (f && pureO o) G s' K) (vcD E md f (isBar i) (isLone i) o s fun s' => ih (f && pureO o) G s' K))
          | .und => putF E.nt o.dst s .und fun s' => ih (f && pureO o) G s' K
          | _ => False
        | none => False
def ordAlt (ih : List Nat → St → (St → Prop) → Prop) (_ : Bool) (G : List Nat) (s : St) (K : St → Prop) : Prop := ih G s K
def altNil (_ : List Nat) (_ : St) (_ : St → Prop) : Prop := True
def altCons (E : Env) (all : List Oper) (md : Md) (i : Nat) (l : Alts) (ih : Bool → List Nat → St → (St → Prop) → Prop) (il : List Nat → St → (St → Prop) → Prop) (G : List Nat) (s : St) (K : St → Prop) : Prop :=
  conj2 l (match all[i]? with
    | some o => cond md.c (vcW E all o s fun s' => ih false G s' K) (vcSG E all md G o s fun G' s' => ih false G' s' K)
    | none => False) (il G s K)
noncomputable def vcOrdR (E : Env) (all : List Oper) (md : Md) (r : Ord) : Bool → List Nat → St → (St → Prop) → Prop :=
  Ord.rec (motive_1 := fun _ => Bool → List Nat → St → (St → Prop) → Prop) (motive_2 := fun _ => List Nat → St → (St → Prop) → Prop) ordNil (fun i _ ih => ordOne E all md i ih) (fun _ il => ordAlt il) altNil (fun i _ l ih il => altCons E all md i l ih il) r
noncomputable def vcAltsR (E : Env) (all : List Oper) (md : Md) (l : Alts) : List Nat → St → (St → Prop) → Prop :=
  Alts.rec (motive_1 := fun _ => Bool → List Nat → St → (St → Prop) → Prop) (motive_2 := fun _ => List Nat → St → (St → Prop) → Prop) ordNil (fun i _ ih => ordOne E all md i ih) (fun _ il => ordAlt il) altNil (fun i _ l ih il => altCons E all md i l ih il) l
mutual
theorem vcOrdR_eq (E : Env) (all : List Oper) (md : Md) : ∀ (r : Ord), vcOrdR E all md r = vcOrd E all md r
  | .nil => by funext f G s K; rfl
  | .one i r => by
    funext f G s K
    show ordOne E all md i (vcOrdR E all md r) f G s K = _
    rw [vcOrdR_eq E all md r]; rfl
  | .alt l => by
    funext f G s K
    show vcAltsR E all md l G s K = _
    rw [vcAltsR_eq E all md l]; rfl
theorem vcAltsR_eq (E : Env) (all : List Oper) (md : Md) : ∀ (l : Alts), vcAltsR E all md l = vcAlts E all md l
  | .nil => by funext G s K; rfl
  | .cons i r l => by
    funext G s K
    show altCons E all md i l (vcOrdR E all md r) (vcAltsR E all md l) G s K = _
    rw [vcOrdR_eq E all md r, vcAltsR_eq E all md l]; rfl
end
noncomputable def vcDrawR (E : Env) (id : Nat) (l : List Oper) (s : St) (K : St → Prop) : Prop :=
  match lkR E.ords id with
  | some ord => drawOk l ord = true ∧ match mdOf E id with
    | ⟨b, ids, F, c⟩ => cond (idsOk F s.hp ids) (cutP c (fun J => vcOrdR E l ⟨b, ids, F, c⟩ ord true [] s (pruneK E id J)) K) False
  | none => False
theorem vcDrawR_eq (E : Env) (id : Nat) (l : List Oper) (s : St) (K : St → Prop) : vcDrawR E id l s K = vcDraw E id l s K := by
  unfold vcDrawR vcDraw
  simp only [vcOrdR_eq]
  rfl

/-! ### Loops, round by round -/
def unrS (f : St → (Exit → St → Prop) → Prop) (ih : St → (Exit → St → Prop) → Prop) (s : St) (K : Exit → St → Prop) : Prop := f s (seqK ih K)
def unr0 (_ : St) (_ : Exit → St → Prop) : Prop := False
noncomputable def unrR (f : St → (Exit → St → Prop) → Prop) (n : Nat) : St → (Exit → St → Prop) → Prop :=
  Nat.rec (motive := fun _ => St → (Exit → St → Prop) → Prop) unr0 (fun _ ih => unrS f ih) n
theorem unrR_eq (f : St → (Exit → St → Prop) → Prop) : ∀ n, unrR f n = unr f n
  | 0 => rfl
  | n + 1 => by
    funext s K
    show f s (seqK (unrR f n) K) = _
    rw [unrR_eq f n]; rfl

/-! ### Code -/
abbrev Vc : Type := St → (Exit → St → Prop) → Prop
def skipV (s : St) (K : Exit → St → Prop) : Prop := K .normal s
noncomputable def regV (E : Env) (id : Nat) (ops : Array Oper) (dr : Bool) (s : St) (K : Exit → St → Prop) : Prop := match ops with
  | ⟨l⟩ => cond dr (vcDrawR E.noY id l s (K .normal)) (cutP (cutQ E id) (fun J => vcOpsR E l l s (pruneK E id J)) (K .normal))
def seqV (a b : Vc) (s : St) (K : Exit → St → Prop) : Prop := a s (seqK b K)
def condV (E : Env) (c : Operand) (a b : Vc) (s : St) (K : Exit → St → Prop) : Prop := match opn s.fr c with
  | .bool t => br t
    (putF E.nt (slotOf c) s (.bool true) fun s => a s K)
    (putF E.nt (slotOf c) s (.bool false) fun s => b s K)
  | _ => False
def blkV (E : Env) (id : Nat) (c : Vc) (s : St) (K : Exit → St → Prop) : Prop := blkP (cutQ E (7000000 + id)) E id c s K
def lpK (E : Env) (M : Msk) (J : St → Prop) (K : Exit → St → Prop) (e : Exit) (s'' : St) : Prop := match e with
  | .normal => maskK E M s'' J
  | e => K e s''
/-- A loop; an evaluation stops here. -/
def loopI (E : Env) (c : Vc) (s : St) (K : Exit → St → Prop) : Prop :=
  (∃ (I : St → Prop) (μ : St → Nat) (M : Msk), maskK E M s I ∧ ∀ s', I s' → c s' (lpK E M (fun s3 => I s3 ∧ μ s3 < μ s') K)) ∨ ∃ n, unrR c n s K
theorem loopI_eq (E : Env) (c : Vc) (s : St) (K : Exit → St → Prop) : loopI E c s K = ((∃ (I : St → Prop) (μ : St → Nat) (M : Msk), maskK E M s I ∧ ∀ s', I s' → c s' fun e s'' => match e with
    | .normal => maskK E M s'' fun s3 => I s3 ∧ μ s3 < μ s'
    | e => K e s'') ∨ ∃ n, unr c n s K) := by
  unfold loopI
  simp only [unrR_eq]; rfl
theorem loopI_mk {E : Env} {c : Vc} {s : St} {K : Exit → St → Prop} (h : ∃ (I : St → Prop) (μ : St → Nat) (M : Msk), maskK E M s I ∧ ∀ s', I s' → c s' (lpK E M (fun s3 => I s3 ∧ μ s3 < μ s') K)) : loopI E c s K := .inl h
theorem loopI_unr {E : Env} {c : Vc} {s : St} {K : Exit → St → Prop} (n : Nat) (h : unrR c n s K) : loopI E c s K := .inr ⟨n, h⟩
attribute [irreducible] loopI
def rangeV (E : Env) (g : Operand) (ps : Array Tmp) (asg body : Code) (va vb : Vc) (s : St) (K : Exit → St → Prop) : Prop := match s with
    | ⟨fr, hp, ks⟩ => (match opn fr g, E.yl with
      | .fn (.func gf) [] cs, none => (match lkI E.its gf with
        | some I => cond (okVs cs && roundOk asg && roundOk body) (∀ l : Nat, forceN E.off fun o => forceN ((o + 999) * 1024) fun o => I l (bodyY E ps.toList fr va vb) o hp (.fn (.yield l) [] [] :: cs) fun hp' ks' _ => afterY fr ks K hp' ks') False
        | none => False)
      | _, _ => False)
def exitV (i : Nat) (s : St) (K : Exit → St → Prop) : Prop := K (.exit i) s
def retV (s : St) (K : Exit → St → Prop) : Prop := K .ret s
def gotoV (l : Nat) (s : St) (K : Exit → St → Prop) : Prop := K (.goto l) s
def noV (_ : St) (_ : Exit → St → Prop) : Prop := False
noncomputable def vcR (E : Env) (c : Code) : Vc :=
  Code.rec (motive := fun _ => Vc) skipV (fun id ops dr => regV E id ops dr) (fun _ _ a b => seqV a b) (fun c _ _ a b => condV E c a b) (fun id _ c => blkV E id c) (fun _ c => loopI E c)
    (fun g ps asg body va vb => rangeV E g ps asg body va vb) exitV (fun c _ => vc E (.scope c)) (fun _ => skipV) gotoV retV (fun _ => noV) c
theorem vcR_eq (E : Env) : ∀ (c : Code), vcR E c = vc E c
  | .skip => rfl
  | .region id ⟨l⟩ dr => by
    funext s K
    show cond dr (vcDrawR E.noY id l s (K .normal)) (cutP (cutQ E id) (fun J => vcOpsR E l l s (pruneK E id J)) (K .normal)) = _
    rw [vcDrawR_eq, vcOpsR_eq]; rfl
  | .seq a b => by
    show seqV (vcR E a) (vcR E b) = _
    rw [vcR_eq E a, vcR_eq E b]; rfl
  | .cond c a b => by
    show condV E c (vcR E a) (vcR E b) = _
    rw [vcR_eq E a, vcR_eq E b]; rfl
  | .block id c => by
    show blkV E id (vcR E c) = _
    rw [vcR_eq E c]; rfl
  | .loop c => by
    funext s K
    show loopI E (vcR E c) s K = _
    rw [vcR_eq E c, loopI_eq]; rfl
  | .rangeFunc g ps asg body => by
    show rangeV E g ps asg body (vcR E asg) (vcR E body) = _
    rw [vcR_eq E asg, vcR_eq E body]; rfl
  | .exit i => rfl
  | .scope c => rfl
  | .label l => rfl
  | .goto l => rfl
  | .ret => rfl
  | .refuse w => rfl

/-! ### Functions -/
noncomputable def procR (E : Env) (nt : Nat) (rs : List ResultVar) (c : Code) : Proc := fun off hp vs k =>
  cond (Nat.ble vs.length nt) (vcR (E.for off nt) c ⟨initF 0 vs, hp, some ([], 0)⟩ (retK E rs k)) False
theorem procR_eq (E : Env) (nt : Nat) (rs : List ResultVar) (c : Code) : procR E nt rs c = procOf E nt rs c := by
  funext off hp vs k
  unfold procR procOf
  rw [vcR_eq]
noncomputable def itR (E : Env) (nt : Nat) (rs : List ResultVar) (c : Code) : Nat → (List Nat → Proc) → Proc := fun l Y => procR (E.yld l Y) nt rs c
theorem itR_eq (E : Env) (nt : Nat) (rs : List ResultVar) (c : Code) : itR E nt rs c = itOf E nt rs c := by
  funext l Y
  unfold itR itOf
  rw [procR_eq]
/-- Behind a function of data. -/
def finK (E : Env) (rs : List ResultVar) (ts : List Nat) (r : AV) (e : Exit) (s : St) : Prop :=
  cond (isRet e) (resP E rs s fun v => forceD (canR E.tt ts (norm s.hp v)) fun v => v = r) False
noncomputable def fnR (E : Env) (nt : Nat) (rs : List ResultVar) (ts : List Nat) (c : Code) (vs : List AV) (r : AV) : Prop :=
  cond (Nat.ble vs.length nt) (vcR (E.noY.for 0 nt) c ⟨initF 0 vs, [], none⟩ (finK E rs ts r)) False
theorem fnR_eq (E : Env) (nt : Nat) (rs : List ResultVar) (ts : List Nat) (c : Code) (vs : List AV) (r : AV) : fnR E nt rs ts c vs r = fnVC E nt rs ts c vs r := by
  unfold fnR fnVC
  rw [vcR_eq]
  have : finK E rs ts r = fun e s => match e with
    | .normal | .ret => resP E rs s fun v => forceD (canR E.tt ts (norm s.hp v)) fun v => v = r
    | _ => False := by
    funext e s
    cases e <;> rfl
  rw [this]
  rfl
end Go.Proofs.YtoihmfgkmndjfaaV
