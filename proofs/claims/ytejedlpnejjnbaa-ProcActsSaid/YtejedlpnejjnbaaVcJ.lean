/- State changes: references that go, blocks that are made, cells that are written. -/
import Derived.Test.YtejedlpnejjnbaaVcI
set_option linter.unusedVariables false
set_option linter.unusedSimpArgs false
namespace Go.Proofs.YtejedlpnejjnbaaV
open Go.RowKit

def killB (d : Nat) : Blk → Blk
  | .var e v f => .var e (kill d v) f
  | b => b
theorem lk_killF (d : Nat) : ∀ (fr : List (Nat × AV)) (i : Nat), lk (killF d fr) i = kill d (lk fr i)
  | [], i => rfl
  | (k, v) :: t, i => by
    show lk ((k, kill d v) :: killF d t) i = _
    rw [lk_cons, lk_cons, lk_killF d t i]
    split <;> rfl
theorem lkb_killH (d : Nat) : ∀ (hp : List (Nat × Blk)) (i : Nat), lkb (killH d hp) i = killB d (lkb hp i)
  | [], i => rfl
  | (k, b) :: t, i => by
    have : killH d ((k, b) :: t) = (k, killB d b) :: killH d t := by cases b <;> rfl
    rw [this, lkb_cons, lkb_cons, lkb_killH d t i]
    split <;> rfl
theorem live_killB (d : Nat) (b : Blk) : live (killB d b) = live b ∧ liveW (killB d b) = liveW b := by
  cases b with
  | var e v f => cases f <;> exact ⟨rfl, rfl⟩
  | _ => exact ⟨rfl, rfl⟩

mutual
theorem Shp_kill (d : Nat) : ∀ (e : Ty) (v : AV), Shp e v → Shp e (kill d v)
  | .int k, .int k' n, h => h
  | .bool, .bool b, h => h
  | .str, .str s, h => h
  | .sl e, .ro e' xs, h => h
  | .sl e, .con _, h => h
  | .sl e, .own id, _ => by
    show Shp (.sl e) (cond (Nat.beq id d) .dead (.own id))
    cases Nat.beq id d <;> exact trivial
  | .sl e, .vsl id n, _ => by
    show Shp (.sl e) (cond (Nat.beq id d) .dead (.vsl id n))
    cases Nat.beq id d <;> exact trivial
  | .sl e, .dead, h => h
  | .unit, .agg [], h => h
  | .pair a b, .agg (v :: l), h => ⟨Shp_kill d a v h.1, Shps_kill d b l h.2⟩
  | .arr n e, .arr n' e' _, h => h
  | .opq z, .ptr id p, _ => by
    show Shp (.opq z) (cond (Nat.beq id d) .dead (.ptr id p))
    cases Nat.beq id d <;> exact trivial
  | .opq _, .fn _ _ _, h => h
  | .opq _, .con _, h => h
  | .opq _, .dead, h => h
theorem Shps_kill (d : Nat) : ∀ (e : Ty) (l : List AV), Shps e l → Shps e (kills d l)
  | .pair a b, v :: l, h => ⟨Shp_kill d a v h.1, Shps_kill d b l h.2⟩
  | .unit, [], h => h
end

mutual
theorem Free_mono {K K' : Nat → Prop} (h : ∀ i, K i → K' i) : ∀ v : AV, Free K' v → Free K v
  | .own id, hf => fun hk => hf (h _ hk)
  | .ptr id p, hf => fun hk => hf (h _ hk)
  | .vsl id n, hf => fun hk => hf (h _ hk)
  | .agg l, hf => Frees_mono h l hf
  | .tup l, hf => Frees_mono h l hf
  | .fn f a c, hf => ⟨Frees_mono h a hf.1, Frees_mono h c hf.2⟩
  | .int _ _, _ | .bool _, _ | .str _, _ | .ro _ _, _ | .arr _ _ _, _ | .rop _ _, _ | .con _, _ | .und, _ | .dead, _ => trivial
theorem Frees_mono {K K' : Nat → Prop} (h : ∀ i, K i → K' i) : ∀ l : List AV, Frees K' l → Frees K l
  | [], _ => trivial
  | v :: l, hf => ⟨Free_mono h v hf.1, Frees_mono h l hf.2⟩
end
mutual
theorem Free_no : ∀ v : AV, Free (fun _ => False) v
  | .own id => fun hk => hk
  | .ptr id p => fun hk => hk
  | .vsl id n => fun hk => hk
  | .agg l => Frees_no l
  | .tup l => Frees_no l
  | .fn f a c => ⟨Frees_no a, Frees_no c⟩
  | .int _ _ | .bool _ | .str _ | .ro _ _ | .arr _ _ _ | .rop _ _ | .con _ | .und | .dead => trivial
theorem Frees_no : ∀ l : List AV, Frees (fun _ => False) l
  | [] => trivial
  | v :: l => ⟨Free_no v, Frees_no l⟩
end

section
variable {X : Fix} {ρ ρ' : Nat → Nat} {s s' : St} {a a' : Act} {w w' : World}

theorem HB_ext {K : Nat → Prop} {c c' : Cx} {id d : Nat} {b : Blk} (hx : Ext K c c') (hK : ∀ i, K i → i = d) (h1 : c'.ρ id = c.ρ id) (h2 : live b → c'.w.heap[c.ρ id]? = c.w.heap[c.ρ id]?) (h : HB X c id b) : HB X c' id (killB d b) := by
  cases b with
  | none => trivial
  | var e v f =>
    obtain ⟨g1, cs, T, g2, g3, g4, g5⟩ := h
    refine ⟨by rw [h1]; exact g1, cs, T, by rw [h1, h2 trivial]; exact g2, CR_ext hx _ _ ?_ (CR_kill c d v _ g3), Shp_kill d e v g4, g5⟩
    exact Free_mono hK _ (kill_free d v)
  | row te e xs f =>
    obtain ⟨g0, h⟩ := h
    refine ⟨g0, fun hne => ?_⟩
    obtain ⟨g1, cs, g2, g3, g4⟩ := h hne
    exact ⟨by rw [h1]; exact g1, cs, by rw [h1, h2 hne]; exact g2, g3, EncL_mono (fun x vs h => Enc_mono hx.ok e x vs h) _ _ g4⟩

/-- A live block lies in the heap. -/
theorem RR.lt (R : RR X ρ s a w) {id : Nat} (h : live (lkb s.hp id)) : X.base ≤ ρ id ∧ ρ id < w.heap.size := by
  have hb := R.heap id
  cases hk : lkb s.hp id with
  | none => rw [hk] at h; exact h.elim
  | var e v f =>
    rw [hk] at hb
    obtain ⟨g1, cs, T, g2, _⟩ := hb
    have g2 : w.heap[ρ id]? = some (.cells cs T (0, 0)) := g2
    exact ⟨g1, (Array.getElem?_eq_some_iff.1 g2).1⟩
  | row te e xs f =>
    rw [hk] at hb h
    obtain ⟨_, hb⟩ := hb
    obtain ⟨g1, cs, g2, _⟩ := hb h
    have g2 : w.heap[ρ id]? = some (.cells cs te (0, 0)) := g2
    exact ⟨g1, (Array.getElem?_eq_some_iff.1 g2).1⟩

mutual
/-- Where there is no such block, nothing refers to it. -/
theorem CR_none {c : Cx} {d : Nat} (hz : lkb c.hp d = .none) : ∀ (v : AV) (vs : List Value), CR c v vs → Free (· = d) v
  | .own id, vs, h => fun he => by
    have he : id = d := he
    subst he
    have h : OwnV c id vs := h
    unfold OwnV at h
    rw [hz] at h; exact h
  | .ptr id p, vs, h => fun he => by
    have he : id = d := he
    subst he
    obtain ⟨off, t, h1, _⟩ := h
    rw [hz] at h1; simp [pathB] at h1
  | .vsl id n, vs, h => fun he => by
    have he : id = d := he
    subst he
    obtain ⟨⟨v, f, h1⟩, _, _⟩ := h
    rw [hz] at h1; cases h1
  | .agg l, vs, h => CRs_none hz l vs h
  | .tup l, vs, h => h.elim
  | .fn f a b, vs, h => by
    obtain ⟨a', d', _, h1, h2⟩ := h
    exact ⟨CVs_none hz a _ h1, CVs_none hz b _ h2⟩
  | .int _ _, _, _ => trivial
  | .bool _, _, _ => trivial
  | .str _, _, _ => trivial
  | .ro _ _, _, _ => trivial
  | .arr _ _ _, _, _ => trivial
  | .rop _ _, _, _ => trivial
  | .con _, _, _ => trivial
  | .und, _, _ => trivial
  | .dead, _, _ => trivial
theorem CRs_none {c : Cx} {d : Nat} (hz : lkb c.hp d = .none) : ∀ (l : List AV) (vs : List Value), CRs c l vs → Frees (· = d) l
  | [], _, _ => trivial
  | v :: l, vs, h => by
    obtain ⟨a, b, _, h1, h2⟩ := h
    exact ⟨CR_none hz v a h1, CRs_none hz l b h2⟩
theorem CVs_none {c : Cx} {d : Nat} (hz : lkb c.hp d = .none) : ∀ (l : List AV) (xs : List Value), CVs c l xs → Frees (· = d) l
  | [], _, _ => trivial
  | v :: l, xs, h => by
    obtain ⟨x, ys, _, h1, _, h2⟩ := h
    exact ⟨CR_none hz v _ h1, CVs_none hz l ys h2⟩
end
theorem VR_none {c : Cx} {d : Nat} (hz : lkb c.hp d = .none) (v : AV) (x : Value) (h : VR c v x) : Free (· = d) v := by
  cases v <;> first
    | exact trivial
    | exact CR_none hz _ _ h.1
    | (obtain ⟨xs, _, h2⟩ := h; exact CVs_none hz _ _ h2)

theorem HB_ext0 {c c' : Cx} {id d : Nat} {b : Blk} (hx : Ext (· = d) c c') (h1 : c'.ρ id = c.ρ id) (h2 : live b → c'.w.heap[c.ρ id]? = c.w.heap[c.ρ id]?) (hf : ∀ v vs, CR c v vs → Free (· = d) v) (h : HB X c id b) : HB X c' id b := by
  cases b with
  | none => trivial
  | var e v f =>
    obtain ⟨g1, cs, T, g2, g3, g4, g5⟩ := h
    exact ⟨by rw [h1]; exact g1, cs, T, by rw [h1, h2 trivial]; exact g2, CR_ext hx _ _ (hf _ _ g3) g3, g4, g5⟩
  | row te e xs f =>
    obtain ⟨g0, h⟩ := h
    refine ⟨g0, fun hne => ?_⟩
    obtain ⟨g1, cs, g2, g3, g4⟩ := h hne
    exact ⟨by rw [h1]; exact g1, cs, by rw [h1, h2 hne]; exact g2, g3, EncL_mono (fun x vs h => Enc_mono hx.ok e x vs h) _ _ g4⟩

theorem RR.keeps (R : RR X ρ s a w) (d : Nat) (h : ∀ k, k < w.heap.size → (liveW (lkb s.hp d) → k ≠ ρ d) → w'.heap[k]? = w.heap[k]?) : Keeps w w' := by
  intro k o hk ho
  refine (h k (Array.getElem?_eq_some_iff.1 hk).1 fun hl he => ?_).trans hk
  subst he
  have hh := R.heap d
  cases hb : lkb s.hp d with
  | none => rw [hb] at hl; exact hl
  | var e v f =>
    rw [hb] at hh
    obtain ⟨_, cs, T, h2, _⟩ := hh
    have h2 : w.heap[ρ d]? = some (.cells cs T (0, 0)) := h2
    rw [h2] at hk; cases hk; exact ho _ _ _ rfl
  | row te e xs f =>
    rw [hb] at hh hl
    obtain ⟨_, cs, h2, _⟩ := hh.2 (liveW_live hl)
    have h2 : w.heap[ρ d]? = some (.cells cs te (0, 0)) := h2
    rw [h2] at hk; cases hk; exact ho _ _ _ rfl

/-- The general step: block d is another one now (or what it was), all others stay; references to it are gone where 'kd'. -/
theorem RR.turn (R : RR X ρ s a w) (d : Nat) (b : Blk) (hρ : ∀ id, id ≠ d → ρ' id = ρ id)
    (hw : Below X.base X.w0 w') (hsz : w.heap.size ≤ w'.heap.size)
    (hblk : ∀ k, k < w.heap.size → (∀ id, id = d → liveW (lkb s.hp id) → k ≠ ρ id) → w'.heap[k]? = w.heap[k]?)
    (hnew : live b → ρ' d = ρ d ∧ liveW (lkb s.hp d) ∨ w.heap.size ≤ ρ' d)
    (hlive : live b → ρ' d < w'.heap.size)
    (hb : ∀ c', c' = cx X ρ' ((d, b) :: killH d s.hp) w' → Ext (· = d) (cx X ρ s.hp w) c' → HB X c' d b) :
    Ext (· = d) (cx X ρ s.hp w) (cx X ρ' ((d, b) :: killH d s.hp) w') ∧
    RR X ρ' ((s.kill d).putb d b) a w' := by
  have hlk : ∀ id, id ≠ d → lkb ((d, b) :: killH d s.hp) id = killB d (lkb s.hp id) := fun id h => by
    rw [lkb_cons, if_neg (fun e => h e.symm), lkb_killH]
  have hlkd : lkb ((d, b) :: killH d s.hp) d = b := by rw [lkb_cons, if_pos rfl]
  have hother : ∀ id, id ≠ d → live (lkb s.hp id) → w'.heap[ρ id]? = w.heap[ρ id]? := fun id hd hl => by
    refine hblk _ (R.lt hl).2 (fun i hi hlw he => ?_)
    subst hi
    exact hd (R.inj id i hl (liveW_live hlw) he)
  have hext : Ext (· = d) (cx X ρ s.hp w) (cx X ρ' ((d, b) :: killH d s.hp) w') := by
    refine ⟨fun k hk => ?_, fun id e v f hne hv => ?_, fun id te e xs f hne hv => ?_⟩
    · obtain ⟨k1, k2, k3⟩ := hk
      refine ⟨⟨k1, Nat.lt_of_lt_of_le k2 hsz, fun id hl => ?_⟩, .of (hblk k k2 (fun id hi hl he => k3 id hl he.symm))⟩
      by_cases hd : id = d
      · subst hd
        rw [hlkd] at hl
        rcases hnew (liveW_live hl) with ⟨e1, e2⟩ | h
        · rw [e1]; exact k3 id e2
        · omega
      · rw [hρ id hd]
        refine k3 id ?_
        rw [hlk id hd, (live_killB d _).2] at hl
        exact hl
    · have hv : lkb s.hp id = .var e v f := hv
      refine ⟨hρ id hne, kill d v, f, ?_⟩
      show lkb ((d, b) :: killH d s.hp) id = _
      rw [hlk id hne, hv]; rfl
    · have hv : lkb s.hp id = .row te e xs f := hv
      refine ⟨xs, f, ?_, rfl, fun hx => ⟨hρ id hne, ?_⟩⟩
      · show lkb ((d, b) :: killH d s.hp) id = _
        rw [hlk id hne, hv]; rfl
      · show cellsN w' (ρ id) = cellsN w (ρ id)
        unfold cellsN
        rw [hother id hne (by rw [hv]; exact hx)]
  have hkp : Keeps w w' := R.keeps d fun k hk h => hblk k hk fun id hi hl => by subst hi; exact h hl
  refine ⟨hext, ⟨R.size, R.defers.keep hkp, R.ok0, hw, fun id => ?_, fun id id' h1 h2 he => ?_, fun i => ?_, fun ks hks i => ?_, fun ks hks => ?_, Nat.le_trans R.lim hsz⟩⟩
  · show HB X _ id (lkb ((d, b) :: killH d s.hp) id)
    by_cases hd : id = d
    · subst hd
      rw [hlkd]
      exact hb _ rfl hext
    · rw [hlk id hd]
      exact HB_ext (d := d) hext (fun i h => h) (hρ id hd) (fun hl => hother id hd hl) (R.heap id)
  · have h1 : live (lkb ((d, b) :: killH d s.hp) id) := h1
    have h2 : live (lkb ((d, b) :: killH d s.hp) id') := h2
    by_cases e1 : id = d <;> by_cases e2 : id' = d
    · rw [e1, e2]
    · exfalso
      subst e1
      rw [hlkd] at h1
      rw [hlk id' e2, (live_killB _ _).1] at h2
      rw [hρ id' e2] at he
      rcases hnew h1 with ⟨e3, e4⟩ | h
      · exact e2 (R.inj id id' (liveW_live e4) h2 (by rw [← e3, he])).symm
      · have := (R.lt h2).2; omega
    · exfalso
      subst e2
      rw [hlkd] at h2
      rw [hlk id e1, (live_killB _ _).1] at h1
      rw [hρ id e1] at he
      rcases hnew h2 with ⟨e3, e4⟩ | h
      · exact e1 (R.inj id id' h1 (liveW_live e4) (by rw [← e3, he]))
      · have := (R.lt h1).2; omega
    · rw [hlk id e1, (live_killB _ _).1] at h1
      rw [hlk id' e2, (live_killB _ _).1] at h2
      rw [hρ id e1, hρ id' e2] at he
      exact R.inj id id' h1 h2 he
  · show VR _ (lk (killF d s.fr) i) _
    rw [lk_killF]
    exact VR_ext hext _ _ (kill_free d _) (VR_kill _ d _ _ (R.fr i))
  · have hks : consK d s.ks = some ks := hks
    cases hk : s.ks with
    | none => rw [hk] at hks; cases hks
    | some l =>
      obtain ⟨l, p⟩ := l
      rw [hk] at hks
      cases hks
      exact VR_ext hext _ _ (kill_free d _) (VR_kill _ d _ _ (R.stk (l, p) hk i))
  · have hks : consK d s.ks = some ks := hks
    cases hk : s.ks with
    | none => rw [hk] at hks; cases hks
    | some l =>
      obtain ⟨l, p⟩ := l
      rw [hk] at hks
      cases hks
      exact X.spk _ _ _ (hkp.b _) hsz (R.sp (l, p) hk)

/-- The general step: block d is another one now (or what it was), all others stay; references to it are gone where 'kd'. -/
theorem RR.turn0 (R : RR X ρ s a w) (d : Nat) (b : Blk) (hz : lkb s.hp d = .none) (hρ : ∀ id, id ≠ d → ρ' id = ρ id)
    (hw : Below X.base X.w0 w') (hsz : w.heap.size ≤ w'.heap.size)
    (hblk : ∀ k, k < w.heap.size → (∀ id, id = d → liveW (lkb s.hp id) → k ≠ ρ id) → w'.heap[k]? = w.heap[k]?)
    (hnew : live b → ρ' d = ρ d ∧ liveW (lkb s.hp d) ∨ w.heap.size ≤ ρ' d)
    (hlive : live b → ρ' d < w'.heap.size)
    (hb : ∀ c', c' = cx X ρ' ((d, b) :: s.hp) w' → Ext (· = d) (cx X ρ s.hp w) c' → HB X c' d b) :
    Ext (· = d) (cx X ρ s.hp w) (cx X ρ' ((d, b) :: s.hp) w') ∧
    RR X ρ' (s.putb d b) a w' := by
  have hlk : ∀ id, id ≠ d → lkb ((d, b) :: s.hp) id = (lkb s.hp id) := fun id h => by
    rw [lkb_cons, if_neg (fun e => h e.symm)]
  have hlkd : lkb ((d, b) :: s.hp) d = b := by rw [lkb_cons, if_pos rfl]
  have hother : ∀ id, id ≠ d → live (lkb s.hp id) → w'.heap[ρ id]? = w.heap[ρ id]? := fun id hd hl => by
    refine hblk _ (R.lt hl).2 (fun i hi hlw he => ?_)
    subst hi
    exact hd (R.inj id i hl (liveW_live hlw) he)
  have hext : Ext (· = d) (cx X ρ s.hp w) (cx X ρ' ((d, b) :: s.hp) w') := by
    refine ⟨fun k hk => ?_, fun id e v f hne hv => ?_, fun id te e xs f hne hv => ?_⟩
    · obtain ⟨k1, k2, k3⟩ := hk
      refine ⟨⟨k1, Nat.lt_of_lt_of_le k2 hsz, fun id hl => ?_⟩, .of (hblk k k2 (fun id hi hl he => k3 id hl he.symm))⟩
      by_cases hd : id = d
      · subst hd
        rw [hlkd] at hl
        rcases hnew (liveW_live hl) with ⟨e1, e2⟩ | h
        · rw [e1]; exact k3 id e2
        · omega
      · rw [hρ id hd]
        refine k3 id ?_
        rw [hlk id hd] at hl
        exact hl
    · have hv : lkb s.hp id = .var e v f := hv
      refine ⟨hρ id hne, v, f, ?_⟩
      show lkb ((d, b) :: s.hp) id = _
      rw [hlk id hne, hv]
    · have hv : lkb s.hp id = .row te e xs f := hv
      refine ⟨xs, f, ?_, rfl, fun hx => ⟨hρ id hne, ?_⟩⟩
      · show lkb ((d, b) :: s.hp) id = _
        rw [hlk id hne, hv]
      · show cellsN w' (ρ id) = cellsN w (ρ id)
        unfold cellsN
        rw [hother id hne (by rw [hv]; exact hx)]
  have hkp : Keeps w w' := R.keeps d fun k hk h => hblk k hk fun id hi hl => by subst hi; exact h hl
  refine ⟨hext, ⟨R.size, R.defers.keep hkp, R.ok0, hw, fun id => ?_, fun id id' h1 h2 he => ?_, fun i => ?_, fun ks hks i => ?_, fun ks hks => X.spk _ _ _ (hkp.b _) hsz (R.sp ks hks), Nat.le_trans R.lim hsz⟩⟩
  · show HB X _ id (lkb ((d, b) :: s.hp) id)
    by_cases hd : id = d
    · subst hd
      rw [hlkd]
      exact hb _ rfl hext
    · rw [hlk id hd]
      exact HB_ext0 hext (hρ id hd) (fun hl => hother id hd hl) (fun v vs h => CR_none (by exact hz) v vs h) (R.heap id)
  · have h1 : live (lkb ((d, b) :: s.hp) id) := h1
    have h2 : live (lkb ((d, b) :: s.hp) id') := h2
    by_cases e1 : id = d <;> by_cases e2 : id' = d
    · rw [e1, e2]
    · exfalso
      subst e1
      rw [hlkd] at h1
      rw [hlk id' e2] at h2
      rw [hρ id' e2] at he
      rcases hnew h1 with ⟨e3, e4⟩ | h
      · exact e2 (R.inj id id' (liveW_live e4) h2 (by rw [← e3, he])).symm
      · have := (R.lt h2).2; omega
    · exfalso
      subst e2
      rw [hlkd] at h2
      rw [hlk id e1] at h1
      rw [hρ id e1] at he
      rcases hnew h2 with ⟨e3, e4⟩ | h
      · exact e1 (R.inj id id' h1 (liveW_live e4) (by rw [← e3, he]))
      · have := (R.lt h1).2; omega
    · rw [hlk id e1] at h1
      rw [hlk id' e2] at h2
      rw [hρ id e1, hρ id' e2] at he
      exact R.inj id id' h1 h2 he
  · exact VR_ext hext _ _ (VR_none (by exact hz) _ _ (R.fr i)) (R.fr i)
  · exact VR_ext hext _ _ (VR_none (by exact hz) _ _ (R.stk ks hks i)) (R.stk ks hks i)

theorem RR.turnC (R : RR X ρ s a w) (d : Nat) (b : Blk) (hρ : ∀ id, id ≠ d → ρ' id = ρ id)
    (hw : Below X.base X.w0 w') (hsz : w.heap.size ≤ w'.heap.size)
    (hblk : ∀ k, k < w.heap.size → (∀ id, id = d → liveW (lkb s.hp id) → k ≠ ρ id) → w'.heap[k]? = w.heap[k]?)
    (hnew : live b → ρ' d = ρ d ∧ liveW (lkb s.hp d) ∨ w.heap.size ≤ ρ' d)
    (hlive : live b → ρ' d < w'.heap.size)
    (hb : ∀ c', c' = cx X ρ' ((d, b) :: (s.clr d).hp) w' → Ext (· = d) (cx X ρ s.hp w) c' → HB X c' d b) :
    Ext (· = d) (cx X ρ s.hp w) (cx X ρ' ((d, b) :: (s.clr d).hp) w') ∧
    RR X ρ' ((s.clr d).putb d b) a w' := by
  cases hz : lkb s.hp d with
  | none =>
    have e : s.clr d = s := by unfold St.clr; rw [hz]
    rw [e] at hb ⊢
    exact RR.turn0 R d b hz hρ hw hsz hblk hnew hlive hb
  | var _ _ _ =>
    have e : s.clr d = s.kill d := by unfold St.clr; rw [hz]
    rw [e] at hb ⊢
    exact RR.turn R d b hρ hw hsz hblk hnew hlive hb
  | row _ _ _ _ =>
    have e : s.clr d = s.kill d := by unfold St.clr; rw [hz]
    rw [e] at hb ⊢
    exact RR.turn R d b hρ hw hsz hblk hnew hlive hb

/-- Block d holds something else of its kind now (or isn't written any more); nothing else has changed. -/
theorem RR.write (R : RR X ρ s a w) (d : Nat) (b : Blk)
    (hk : ∀ e v f, lkb s.hp d = .var e v f → ∃ v' f', b = .var e v' f')
    (hr : ∀ te e xs f, lkb s.hp d = .row te e xs f → ∃ ys : List e.den, ∃ f', b = .row te e ys f' ∧ ys.length = xs.length ∧ (xs ≠ [] → cellsN w' (ρ d) = cellsN w (ρ d)))
    (hl : liveW b → liveW (lkb s.hp d)) (hl2 : live b → live (lkb s.hp d))
    (hw : Below X.base X.w0 w') (hsz : w.heap.size ≤ w'.heap.size)
    (hblk : ∀ k, (liveW (lkb s.hp d) → k ≠ ρ d) → w'.heap[k]? = w.heap[k]?)
    (hb : ∀ c', c' = cx X ρ ((d, b) :: s.hp) w' → Ext (fun _ => False) (cx X ρ s.hp w) c' → HB X c' d b) :
    Ext (fun _ => False) (cx X ρ s.hp w) (cx X ρ ((d, b) :: s.hp) w') ∧ RR X ρ (s.putb d b) a w' := by
  have hlk : ∀ id, id ≠ d → lkb ((d, b) :: s.hp) id = lkb s.hp id := fun id h => by rw [lkb_cons, if_neg (fun e => h e.symm)]
  have hlkd : lkb ((d, b) :: s.hp) d = b := by rw [lkb_cons, if_pos rfl]
  have hother : ∀ id, id ≠ d → live (lkb s.hp id) → w'.heap[ρ id]? = w.heap[ρ id]? := fun id hd hlv =>
    hblk _ (fun hlw he => hd (R.inj id d hlv (liveW_live hlw) he))
  have hext : Ext (fun _ => False) (cx X ρ s.hp w) (cx X ρ ((d, b) :: s.hp) w') := by
    refine ⟨fun k hk => ?_, fun id e v f _ hv => ?_, fun id te e xs f _ hv => ?_⟩
    · obtain ⟨k1, k2, k3⟩ := hk
      refine ⟨⟨k1, Nat.lt_of_lt_of_le k2 hsz, fun id hlv => ?_⟩, .of (hblk k (fun h he => k3 d h he.symm))⟩
      by_cases hd : id = d
      · subst hd; rw [hlkd] at hlv; exact k3 id (hl hlv)
      · rw [hlk id hd] at hlv; exact k3 id hlv
    · have hv : lkb s.hp id = .var e v f := hv
      by_cases hd : id = d
      · subst hd
        obtain ⟨v', f', e1⟩ := hk e v f hv
        exact ⟨rfl, v', f', by show lkb ((id, b) :: s.hp) id = _; rw [hlkd, e1]⟩
      · exact ⟨rfl, v, f, by show lkb ((d, b) :: s.hp) id = _; rw [hlk id hd, hv]⟩
    · have hv : lkb s.hp id = .row te e xs f := hv
      by_cases hd : id = d
      · subst hd
        obtain ⟨ys, f', e1, e2, e3⟩ := hr te e xs f hv
        exact ⟨ys, f', by show lkb ((id, b) :: s.hp) id = _; rw [hlkd, e1], e2, fun hx => ⟨rfl, e3 hx⟩⟩
      · refine ⟨xs, f, by show lkb ((d, b) :: s.hp) id = _; rw [hlk id hd, hv], rfl, fun hx => ⟨rfl, ?_⟩⟩
        show cellsN w' (ρ id) = cellsN w (ρ id)
        unfold cellsN
        rw [hother id hd (by rw [hv]; exact hx)]
  have hkp : Keeps w w' := R.keeps d fun k _ h => hblk k h
  refine ⟨hext, ⟨R.size, R.defers.keep hkp, R.ok0, hw, fun id => ?_, fun id id' h1 h2 he => ?_, fun i => ?_, fun ks hks i => VR_ext hext _ _ (Free_no _) (R.stk ks hks i), fun ks hks => X.spk _ _ _ (hkp.b _) hsz (R.sp ks hks), Nat.le_trans R.lim hsz⟩⟩
  · show HB X _ id (lkb ((d, b) :: s.hp) id)
    by_cases hd : id = d
    · subst hd
      rw [hlkd]
      exact hb _ rfl hext
    · rw [hlk id hd]
      have hb := R.heap id
      cases hv : lkb s.hp id with
      | none => trivial
      | var e v f =>
        rw [hv] at hb
        obtain ⟨g1, cs, T, g2, g3, g4, g5⟩ := hb
        exact ⟨g1, cs, T, (hother id hd (by rw [hv]; trivial)).trans g2, CR_ext hext _ _ (Free_no _) g3, g4, g5⟩
      | row te e xs f =>
        rw [hv] at hb
        obtain ⟨g0, hb⟩ := hb
        refine ⟨g0, fun hne => ?_⟩
        obtain ⟨g1, cs, g2, g3, g4⟩ := hb hne
        exact ⟨g1, cs, (hother id hd (by rw [hv]; exact hne)).trans g2, g3, EncL_mono (fun x vs h => Enc_mono hext.ok e x vs h) _ _ g4⟩
  · have h1 : live (lkb ((d, b) :: s.hp) id) := h1
    have h2 : live (lkb ((d, b) :: s.hp) id') := h2
    refine R.inj id id' ?_ ?_ he
    · by_cases hd : id = d
      · subst hd; rw [hlkd] at h1; exact hl2 h1
      · rw [hlk id hd] at h1; exact h1
    · by_cases hd : id' = d
      · subst hd; rw [hlkd] at h2; exact hl2 h2
      · rw [hlk id' hd] at h2; exact h2
  · exact VR_ext hext _ _ (Free_no _) (R.fr i)

/-- A block isn't written any more. -/
theorem RR.freeze1 (R : RR X ρ s a w) (d : Nat) : Ext (fun _ => False) (cx X ρ s.hp w) (cx X ρ ((d, fzB (lkb s.hp d)) :: s.hp) w) ∧ RR X ρ ⟨s.fr, (d, fzB (lkb s.hp d)) :: s.hp, s.ks⟩ a w := by
  refine RR.write R d (fzB (lkb s.hp d)) (fun e v f h => ⟨v, true, by rw [h]; rfl⟩) (fun te e xs f h => ⟨xs, true, by rw [h]; rfl, rfl, fun _ => rfl⟩) ?_ ?_ R.below (Nat.le_refl _) (fun _ _ => rfl) ?_
  · intro h
    cases hv : lkb s.hp d <;> rw [hv] at h <;> exact h.elim
  · intro h
    cases hv : lkb s.hp d <;> rw [hv] at h <;> exact h
  · intro c' hc hext
    have hb := R.heap d
    subst hc
    cases hv : lkb s.hp d with
    | none => trivial
    | var e v f =>
      rw [hv] at hb
      obtain ⟨g1, cs, T, g2, g3, g4, g5⟩ := hb
      rw [hv] at hext
      exact ⟨g1, cs, T, g2, CR_ext hext _ _ (Free_no _) g3, g4, g5⟩
    | row te e xs f =>
      rw [hv] at hb
      obtain ⟨g0, hb⟩ := hb
      rw [hv] at hext
      refine ⟨g0, fun hne => ?_⟩
      obtain ⟨g1, cs, g2, g3, g4⟩ := hb hne
      exact ⟨g1, cs, g2, g3, EncL_mono (fun x vs h => Enc_mono hext.ok e x vs h) _ _ g4⟩

theorem Ext.refl (c : Cx) : Ext (fun _ => False) c c :=
  ⟨fun b h => ⟨h, .refl _ _⟩, fun id e v f _ h => ⟨rfl, v, f, h⟩, fun id te e xs f _ h => ⟨xs, f, h, rfl, fun _ => ⟨rfl, rfl⟩⟩⟩
theorem Ext.trans {c1 c2 c3 : Cx} (h1 : Ext (fun _ => False) c1 c2) (h2 : Ext (fun _ => False) c2 c3) : Ext (fun _ => False) c1 c3 := by
  refine ⟨fun b h => ?_, fun id e v f _ h => ?_, fun id te e xs f _ h => ?_⟩
  · obtain ⟨k1, k2⟩ := h1.ok b h
    obtain ⟨k3, k4⟩ := h2.ok b k1
    exact ⟨k3, k2.trans k4⟩
  · obtain ⟨e1, v', f', g1⟩ := h1.var id e v f (fun h => h) h
    obtain ⟨e2, v2, f2, g2⟩ := h2.var id e v' f' (fun h => h) g1
    exact ⟨e2.trans e1, v2, f2, g2⟩
  · obtain ⟨ys, f', g1, g2, g3⟩ := h1.row id te e xs f (fun h => h) h
    obtain ⟨zs, f2, k1, k2, k3⟩ := h2.row id te e ys f' (fun h => h) g1
    refine ⟨zs, f2, k1, k2.trans g2, fun hx => ?_⟩
    obtain ⟨a1, a2⟩ := g3 hx
    obtain ⟨b1, b2⟩ := k3 (fun e => hx (List.eq_nil_of_length_eq_zero (by rw [← g2, e]; rfl)))
    exact ⟨b1.trans a1, by rw [a1] at b2; exact b2.trans a2⟩

theorem RR.freezes (ids : List Nat) : ∀ {s : St}, RR X ρ s a w → Ext (fun _ => False) (cx X ρ s.hp w) (cx X ρ (fzs s.hp ids) w) ∧ RR X ρ ⟨s.fr, fzs s.hp ids, s.ks⟩ a w := by
  induction ids with
  | nil => intro s R; exact ⟨Ext.refl _, R⟩
  | cons d ids ih =>
    intro s R
    obtain ⟨e1, R1⟩ := R.freeze1 d
    obtain ⟨e2, R2⟩ := ih R1
    exact ⟨e1.trans e2, R2⟩
end
end Go.Proofs.YtejedlpnejjnbaaV
