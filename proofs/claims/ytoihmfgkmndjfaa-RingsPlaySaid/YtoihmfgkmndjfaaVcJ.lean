/- State changes: references that go, blocks that are made, cells that are written. -/
import Derived.Test.YtoihmfgkmndjfaaVcB
import Derived.Deep.AppendSrc
import Derived.Great.BuildSlice
import Derived.Laws.CopyRow
import Derived.Laws.MakeOwn
import Derived.RangeFuncIn
/- State changes: references that go, blocks that are made, cells that are written. -/
set_option linter.unusedVariables false
set_option linter.unusedSimpArgs false
namespace Go.Proofs.YtoihmfgkmndjfaaV
open Go.RowKit

def killB (d : Nat) : Blk → Blk
  | .var e v f => .var e (kill d v) f
  | b => b
theorem lk_killF (d : Nat) : ∀ (fr : List (Nat × AV)) (i : Nat), lk (killF d fr) i = kill d (lk fr i)
  | [], i => rfl
  | (k, v) :: t, i => by
    show lk ((k, kill d v) :: killF d t) i = _
    rw [lk_cons, lk_cons, lk_killF d t i]
    split <;> rfl
theorem lkb_killH (d : Nat) : ∀ (hp : List (Nat × Blk)) (i : Nat), lkb (killH d hp) i = killB d (lkb hp i)
  | [], i => rfl
  | (k, b) :: t, i => by
    have : killH d ((k, b) :: t) = (k, killB d b) :: killH d t := by cases b <;> rfl
    rw [this, lkb_cons, lkb_cons, lkb_killH d t i]
    split <;> rfl
theorem live_killB (d : Nat) (b : Blk) : live (killB d b) = live b ∧ liveW (killB d b) = liveW b := by
  cases b with
  | var e v f => cases f <;> exact ⟨rfl, rfl⟩
  | _ => exact ⟨rfl, rfl⟩

mutual
theorem Shp_kill (d : Nat) : ∀ (e : Ty) (v : AV), Shp e v → Shp e (kill d v)
  | .int k, .int k' n, h => h
  | .bool, .bool b, h => h
  | .str, .str s, h => h
  | .sl e, .ro e' xs, h => h
  | .sl e, .con _, h => h
  | .sl e, .own id, _ => by
    show Shp (.sl e) (cond (Nat.beq id d) .dead (.own id))
    cases Nat.beq id d <;> exact trivial
  | .sl e, .vsl id n, _ => by
    show Shp (.sl e) (cond (Nat.beq id d) .dead (.vsl id n))
    cases Nat.beq id d <;> exact trivial
  | .sl e, .vw id l h, _ => by
    show Shp (.sl e) (cond (Nat.beq id d) .dead (.vw id l h))
    cases Nat.beq id d <;> exact trivial
  | .sl e, .dead, h => h
  | .unit, .agg [], h => h
  | .pair a b, .agg (v :: l), h => ⟨Shp_kill d a v h.1, Shps_kill d b l h.2⟩
  | .arr n e, .arr n' e' _, h => h
  | .opq z, .ptr id p, _ => by
    show Shp (.opq z) (cond (Nat.beq id d) .dead (.ptr id p))
    cases Nat.beq id d <;> exact trivial
  | .opq _, .fn _ _ _, h => h
  | .opq _, .con _, h => h
  | .opq _, .dead, h => h
theorem Shps_kill (d : Nat) : ∀ (e : Ty) (l : List AV), Shps e l → Shps e (kills d l)
  | .pair a b, v :: l, h => ⟨Shp_kill d a v h.1, Shps_kill d b l h.2⟩
  | .unit, [], h => h
end

mutual
theorem Free_mono {K K' : Nat → Prop} (h : ∀ i, K i → K' i) : ∀ v : AV, Free K' v → Free K v
  | .own id, hf => fun hk => hf (h _ hk)
  | .ptr id p, hf => fun hk => hf (h _ hk)
  | .vsl id n, hf => fun hk => hf (h _ hk)
  | .vw id l h', hf => fun hk => hf (h _ hk)
  | .agg l, hf => Frees_mono h l hf
  | .tup l, hf => Frees_mono h l hf
  | .fn f a c, hf => ⟨Frees_mono h a hf.1, Frees_mono h c hf.2⟩
  | .int _ _, _ | .bool _, _ | .str _, _ | .ro _ _, _ | .arr _ _ _, _ | .rop _ _, _ | .raw _ _, _ | .con _, _ | .und, _ | .dead, _ => trivial
theorem Frees_mono {K K' : Nat → Prop} (h : ∀ i, K i → K' i) : ∀ l : List AV, Frees K' l → Frees K l
  | [], _ => trivial
  | v :: l, hf => ⟨Free_mono h v hf.1, Frees_mono h l hf.2⟩
end
mutual
theorem Free_no : ∀ v : AV, Free (fun _ => False) v
  | .own id => fun hk => hk
  | .ptr id p => fun hk => hk
  | .vsl id n => fun hk => hk
  | .vw id l h => fun hk => hk
  | .agg l => Frees_no l
  | .tup l => Frees_no l
  | .fn f a c => ⟨Frees_no a, Frees_no c⟩
  | .int _ _ | .bool _ | .str _ | .ro _ _ | .arr _ _ _ | .rop _ _ | .raw _ _ | .con _ | .und | .dead => trivial
theorem Frees_no : ∀ l : List AV, Frees (fun _ => False) l
  | [] => trivial
  | v :: l => ⟨Free_no v, Frees_no l⟩
end

section
variable {X : Fix} {ρ ρ' : Nat → Nat} {s s' : St} {a a' : Act} {w w' : World}

theorem HB_ext {K : Nat → Prop} {c c' : Cx} {id d : Nat} {b : Blk} (hx : Ext K c c') (hK : ∀ i, K i → i = d) (h1 : c'.ρ id = c.ρ id) (h2 : live b → c'.w.heap[c.ρ id]? = c.w.heap[c.ρ id]?) (h : HB X c id b) : HB X c' id (killB d b) := by
  cases b with
  | none => trivial
  | var e v f =>
    obtain ⟨g1, cs, T, g2, g3, g4, g5⟩ := h
    refine ⟨by rw [h1]; exact g1, cs, T, by rw [h1, h2 trivial]; exact g2, CR_ext hx _ _ ?_ (CR_kill c d v _ g3), Shp_kill d e v g4, g5⟩
    exact Free_mono hK _ (kill_free d v)
  | row te e xs f =>
    obtain ⟨g0, h⟩ := h
    refine ⟨g0, fun hne => ?_⟩
    obtain ⟨g1, cs, g2, g3, g4⟩ := h hne
    exact ⟨by rw [h1]; exact g1, cs, by rw [h1, h2 hne]; exact g2, g3, EncL_mono (fun x vs h => Enc_mono hx.ok e x vs h) _ _ g4⟩

/-- A live block lies in the heap. -/
theorem RR.lt (R : RR X ρ s a w) {id : Nat} (h : live (lkb s.hp id)) : X.base ≤ ρ id ∧ ρ id < w.heap.size := by
  have hb := R.heap id
  cases hk : lkb s.hp id with
  | none => rw [hk] at h; exact h.elim
  | var e v f =>
    rw [hk] at hb
    obtain ⟨g1, cs, T, g2, _⟩ := hb
    have g2 : w.heap[ρ id]? = some (.cells cs T (0, 0)) := g2
    exact ⟨g1, (Array.getElem?_eq_some_iff.1 g2).1⟩
  | row te e xs f =>
    rw [hk] at hb h
    obtain ⟨_, hb⟩ := hb
    obtain ⟨g1, cs, g2, _⟩ := hb h
    have g2 : w.heap[ρ id]? = some (.cells cs te (0, 0)) := g2
    exact ⟨g1, (Array.getElem?_eq_some_iff.1 g2).1⟩

mutual
/-- Where there is no such block, nothing refers to it. -/
theorem CR_none {c : Cx} {d : Nat} (hz : lkb c.hp d = .none) : ∀ (v : AV) (vs : List Value), CR c v vs → Free (· = d) v
  | .own id, vs, h => fun he => by
    have he : id = d := he
    subst he
    have h : OwnV c id vs := h
    unfold OwnV at h
    rw [hz] at h; exact h
  | .ptr id p, vs, h => fun he => by
    have he : id = d := he
    subst he
    obtain ⟨off, t, h1, _⟩ := h
    rw [hz] at h1; simp [pathB] at h1
  | .vsl id n, vs, h => fun he => by
    have he : id = d := he
    subst he
    obtain ⟨⟨v, f, h1⟩, _, _⟩ := h
    rw [hz] at h1; cases h1
  | .vw id l hi, vs, h => fun he => by
    have he : id = d := he
    subst he
    have h : VwV c id l hi vs := h
    unfold VwV at h
    rw [hz] at h; exact h
  | .agg l, vs, h => CRs_none hz l vs h
  | .tup l, vs, h => h.elim
  | .fn f a b, vs, h => by
    obtain ⟨a', d', _, h1, h2⟩ := h
    exact ⟨CVs_none hz a _ h1, CVs_none hz b _ h2⟩
  | .int _ _, _, _ => trivial
  | .bool _, _, _ => trivial
  | .str _, _, _ => trivial
  | .ro _ _, _, _ => trivial
  | .arr _ _ _, _, _ => trivial
  | .rop _ _, _, _ => trivial
  | .raw _ _, _, _ => trivial
  | .con _, _, _ => trivial
  | .und, _, _ => trivial
  | .dead, _, _ => trivial
theorem CRs_none {c : Cx} {d : Nat} (hz : lkb c.hp d = .none) : ∀ (l : List AV) (vs : List Value), CRs c l vs → Frees (· = d) l
  | [], _, _ => trivial
  | v :: l, vs, h => by
    obtain ⟨a, b, _, h1, h2⟩ := h
    exact ⟨CR_none hz v a h1, CRs_none hz l b h2⟩
theorem CVs_none {c : Cx} {d : Nat} (hz : lkb c.hp d = .none) : ∀ (l : List AV) (xs : List Value), CVs c l xs → Frees (· = d) l
  | [], _, _ => trivial
  | v :: l, xs, h => by
    obtain ⟨x, ys, _, h1, _, h2⟩ := h
    exact ⟨CR_none hz v _ h1, CVs_none hz l ys h2⟩
end
theorem VR_none {c : Cx} {d : Nat} (hz : lkb c.hp d = .none) (v : AV) (x : Value) (h : VR c v x) : Free (· = d) v := by
  cases v <;> first
    | exact trivial
    | exact CR_none hz _ _ h.1
    | (obtain ⟨xs, _, h2⟩ := h; exact CVs_none hz _ _ h2)

theorem HB_ext0 {c c' : Cx} {id d : Nat} {b : Blk} (hx : Ext (· = d) c c') (h1 : c'.ρ id = c.ρ id) (h2 : live b → c'.w.heap[c.ρ id]? = c.w.heap[c.ρ id]?) (hf : ∀ v vs, CR c v vs → Free (· = d) v) (h : HB X c id b) : HB X c' id b := by
  cases b with
  | none => trivial
  | var e v f =>
    obtain ⟨g1, cs, T, g2, g3, g4, g5⟩ := h
    exact ⟨by rw [h1]; exact g1, cs, T, by rw [h1, h2 trivial]; exact g2, CR_ext hx _ _ (hf _ _ g3) g3, g4, g5⟩
  | row te e xs f =>
    obtain ⟨g0, h⟩ := h
    refine ⟨g0, fun hne => ?_⟩
    obtain ⟨g1, cs, g2, g3, g4⟩ := h hne
    exact ⟨by rw [h1]; exact g1, cs, by rw [h1, h2 hne]; exact g2, g3, EncL_mono (fun x vs h => Enc_mono hx.ok e x vs h) _ _ g4⟩

theorem RR.keeps (R : RR X ρ s a w) (d : Nat) (h : ∀ k, k < w.heap.size → (liveW (lkb s.hp d) → k ≠ ρ d) → w'.heap[k]? = w.heap[k]?) : Keeps w w' := by
  intro k o hk ho
  refine (h k (Array.getElem?_eq_some_iff.1 hk).1 fun hl he => ?_).trans hk
  subst he
  have hh := R.heap d
  cases hb : lkb s.hp d with
  | none => rw [hb] at hl; exact hl
  | var e v f =>
    rw [hb] at hh
    obtain ⟨_, cs, T, h2, _⟩ := hh
    have h2 : w.heap[ρ d]? = some (.cells cs T (0, 0)) := h2
    rw [h2] at hk; cases hk; exact ho _ _ _ rfl
  | row te e xs f =>
    rw [hb] at hh hl
    obtain ⟨_, cs, h2, _⟩ := hh.2 (liveW_live hl)
    have h2 : w.heap[ρ d]? = some (.cells cs te (0, 0)) := h2
    rw [h2] at hk; cases hk; exact ho _ _ _ rfl

/-- The general step: block d is another one now (or what it was), all others stay; references to it are gone where 'kd'. -/
theorem RR.turn (R : RR X ρ s a w) (d : Nat) (b : Blk) (hρ : ∀ id, id ≠ d → ρ' id = ρ id)
    (hw : Below X.base X.w0 w') (hsz : w.heap.size ≤ w'.heap.size)
    (hblk : ∀ k, k < w.heap.size → (∀ id, id = d → liveW (lkb s.hp id) → k ≠ ρ id) → w'.heap[k]? = w.heap[k]?)
    (hnew : live b → ρ' d = ρ d ∧ liveW (lkb s.hp d) ∨ w.heap.size ≤ ρ' d)
    (hlive : live b → ρ' d < w'.heap.size)
    (hb : ∀ c', c' = cx X ρ' ((d, b) :: killH d s.hp) w' → Ext (· = d) (cx X ρ s.hp w) c' → HB X c' d b) :
    Ext (· = d) (cx X ρ s.hp w) (cx X ρ' ((d, b) :: killH d s.hp) w') ∧
    RR X ρ' ((s.kill d).putb d b) a w' := by
  have hlk : ∀ id, id ≠ d → lkb ((d, b) :: killH d s.hp) id = killB d (lkb s.hp id) := fun id h => by
    rw [lkb_cons, if_neg (fun e => h e.symm), lkb_killH]
  have hlkd : lkb ((d, b) :: killH d s.hp) d = b := by rw [lkb_cons, if_pos rfl]
  have hother : ∀ id, id ≠ d → live (lkb s.hp id) → w'.heap[ρ id]? = w.heap[ρ id]? := fun id hd hl => by
    refine hblk _ (R.lt hl).2 (fun i hi hlw he => ?_)
    subst hi
    exact hd (R.inj id i hl (liveW_live hlw) he)
  have hext : Ext (· = d) (cx X ρ s.hp w) (cx X ρ' ((d, b) :: killH d s.hp) w') := by
    refine ⟨fun k hk => ?_, fun id e v f hne hv => ?_, fun id te e xs f hne hv => ?_⟩
    · obtain ⟨k1, k2, k3⟩ := hk
      refine ⟨⟨k1, Nat.lt_of_lt_of_le k2 hsz, fun id hl => ?_⟩, .of (hblk k k2 (fun id hi hl he => k3 id hl he.symm))⟩
      by_cases hd : id = d
      · subst hd
        rw [hlkd] at hl
        rcases hnew (liveW_live hl) with ⟨e1, e2⟩ | h
        · rw [e1]; exact k3 id e2
        · omega
      · rw [hρ id hd]
        refine k3 id ?_
        rw [hlk id hd, (live_killB d _).2] at hl
        exact hl
    · have hv : lkb s.hp id = .var e v f := hv
      refine ⟨hρ id hne, kill d v, f, ?_⟩
      show lkb ((d, b) :: killH d s.hp) id = _
      rw [hlk id hne, hv]; rfl
    · have hv : lkb s.hp id = .row te e xs f := hv
      refine ⟨xs, f, ?_, rfl, fun hx => ⟨hρ id hne, ?_⟩⟩
      · show lkb ((d, b) :: killH d s.hp) id = _
        rw [hlk id hne, hv]; rfl
      · show cellsN w' (ρ id) = cellsN w (ρ id)
        unfold cellsN
        rw [hother id hne (by rw [hv]; exact hx)]
  have hkp : Keeps w w' := R.keeps d fun k hk h => hblk k hk fun id hi hl => by subst hi; exact h hl
  refine ⟨hext, ⟨R.size, R.defers.keep hkp, R.ok0, hw, fun id => ?_, fun id id' h1 h2 he => ?_, fun i => ?_, fun ks hks i => ?_, fun ks hks => ?_, Nat.le_trans R.lim hsz⟩⟩
  · show HB X _ id (lkb ((d, b) :: killH d s.hp) id)
    by_cases hd : id = d
    · subst hd
      rw [hlkd]
      exact hb _ rfl hext
    · rw [hlk id hd]
      exact HB_ext (d := d) hext (fun i h => h) (hρ id hd) (fun hl => hother id hd hl) (R.heap id)
  · have h1 : live (lkb ((d, b) :: killH d s.hp) id) := h1
    have h2 : live (lkb ((d, b) :: killH d s.hp) id') := h2
    by_cases e1 : id = d <;> by_cases e2 : id' = d
    · rw [e1, e2]
    · exfalso
      subst e1
      rw [hlkd] at h1
      rw [hlk id' e2, (live_killB _ _).1] at h2
      rw [hρ id' e2] at he
      rcases hnew h1 with ⟨e3, e4⟩ | h
      · exact e2 (R.inj id id' (liveW_live e4) h2 (by rw [← e3, he])).symm
      · have := (R.lt h2).2; omega
    · exfalso
      subst e2
      rw [hlkd] at h2
      rw [hlk id e1, (live_killB _ _).1] at h1
      rw [hρ id e1] at he
      rcases hnew h2 with ⟨e3, e4⟩ | h
      · exact e1 (R.inj id id' h1 (liveW_live e4) (by rw [← e3, he]))
      · have := (R.lt h1).2; omega
    · rw [hlk id e1, (live_killB _ _).1] at h1
      rw [hlk id' e2, (live_killB _ _).1] at h2
      rw [hρ id e1, hρ id' e2] at he
      exact R.inj id id' h1 h2 he
  · show VR _ (lk (killF d s.fr) i) _
    rw [lk_killF]
    exact VR_ext hext _ _ (kill_free d _) (VR_kill _ d _ _ (R.fr i))
  · have hks : consK d s.ks = some ks := hks
    cases hk : s.ks with
    | none => rw [hk] at hks; cases hks
    | some l =>
      obtain ⟨l, p⟩ := l
      rw [hk] at hks
      cases hks
      exact VR_ext hext _ _ (kill_free d _) (VR_kill _ d _ _ (R.stk (l, p) hk i))
  · have hks : consK d s.ks = some ks := hks
    cases hk : s.ks with
    | none => rw [hk] at hks; cases hks
    | some l =>
      obtain ⟨l, p⟩ := l
      rw [hk] at hks
      cases hks
      exact X.spk _ _ _ (hkp.b _) hsz (R.sp (l, p) hk)

/-- The general step: block d is another one now (or what it was), all others stay; references to it are gone where 'kd'. -/
theorem RR.turn0 (R : RR X ρ s a w) (d : Nat) (b : Blk) (hz : lkb s.hp d = .none) (hρ : ∀ id, id ≠ d → ρ' id = ρ id)
    (hw : Below X.base X.w0 w') (hsz : w.heap.size ≤ w'.heap.size)
    (hblk : ∀ k, k < w.heap.size → (∀ id, id = d → liveW (lkb s.hp id) → k ≠ ρ id) → w'.heap[k]? = w.heap[k]?)
    (hnew : live b → ρ' d = ρ d ∧ liveW (lkb s.hp d) ∨ w.heap.size ≤ ρ' d)
    (hlive : live b → ρ' d < w'.heap.size)
    (hb : ∀ c', c' = cx X ρ' ((d, b) :: s.hp) w' → Ext (· = d) (cx X ρ s.hp w) c' → HB X c' d b) :
    Ext (· = d) (cx X ρ s.hp w) (cx X ρ' ((d, b) :: s.hp) w') ∧
    RR X ρ' (s.putb d b) a w' := by
  have hlk : ∀ id, id ≠ d → lkb ((d, b) :: s.hp) id = (lkb s.hp id) := fun id h => by
    rw [lkb_cons, if_neg (fun e => h e.symm)]
  have hlkd : lkb ((d, b) :: s.hp) d = b := by rw [lkb_cons, if_pos rfl]
  have hother : ∀ id, id ≠ d → live (lkb s.hp id) → w'.heap[ρ id]? = w.heap[ρ id]? := fun id hd hl => by
    refine hblk _ (R.lt hl).2 (fun i hi hlw he => ?_)
    subst hi
    exact hd (R.inj id i hl (liveW_live hlw) he)
  have hext : Ext (· = d) (cx X ρ s.hp w) (cx X ρ' ((d, b) :: s.hp) w') := by
    refine ⟨fun k hk => ?_, fun id e v f hne hv => ?_, fun id te e xs f hne hv => ?_⟩
    · obtain ⟨k1, k2, k3⟩ := hk
      refine ⟨⟨k1, Nat.lt_of_lt_of_le k2 hsz, fun id hl => ?_⟩, .of (hblk k k2 (fun id hi hl he => k3 id hl he.symm))⟩
      by_cases hd : id = d
      · subst hd
        rw [hlkd] at hl
        rcases hnew (liveW_live hl) with ⟨e1, e2⟩ | h
        · rw [e1]; exact k3 id e2
        · omega
      · rw [hρ id hd]
        refine k3 id ?_
        rw [hlk id hd] at hl
        exact hl
    · have hv : lkb s.hp id = .var e v f := hv
      refine ⟨hρ id hne, v, f, ?_⟩
      show lkb ((d, b) :: s.hp) id = _
      rw [hlk id hne, hv]
    · have hv : lkb s.hp id = .row te e xs f := hv
      refine ⟨xs, f, ?_, rfl, fun hx => ⟨hρ id hne, ?_⟩⟩
      · show lkb ((d, b) :: s.hp) id = _
        rw [hlk id hne, hv]
      · show cellsN w' (ρ id) = cellsN w (ρ id)
        unfold cellsN
        rw [hother id hne (by rw [hv]; exact hx)]
  have hkp : Keeps w w' := R.keeps d fun k hk h => hblk k hk fun id hi hl => by subst hi; exact h hl
  refine ⟨hext, ⟨R.size, R.defers.keep hkp, R.ok0, hw, fun id => ?_, fun id id' h1 h2 he => ?_, fun i => ?_, fun ks hks i => ?_, fun ks hks => X.spk _ _ _ (hkp.b _) hsz (R.sp ks hks), Nat.le_trans R.lim hsz⟩⟩
  · show HB X _ id (lkb ((d, b) :: s.hp) id)
    by_cases hd : id = d
    · subst hd
      rw [hlkd]
      exact hb _ rfl hext
    · rw [hlk id hd]
      exact HB_ext0 hext (hρ id hd) (fun hl => hother id hd hl) (fun v vs h => CR_none (by exact hz) v vs h) (R.heap id)
  · have h1 : live (lkb ((d, b) :: s.hp) id) := h1
    have h2 : live (lkb ((d, b) :: s.hp) id') := h2
    by_cases e1 : id = d <;> by_cases e2 : id' = d
    · rw [e1, e2]
    · exfalso
      subst e1
      rw [hlkd] at h1
      rw [hlk id' e2] at h2
      rw [hρ id' e2] at he
      rcases hnew h1 with ⟨e3, e4⟩ | h
      · exact e2 (R.inj id id' (liveW_live e4) h2 (by rw [← e3, he])).symm
      · have := (R.lt h2).2; omega
    · exfalso
      subst e2
      rw [hlkd] at h2
      rw [hlk id e1] at h1
      rw [hρ id e1] at he
      rcases hnew h2 with ⟨e3, e4⟩ | h
      · exact e1 (R.inj id id' h1 (liveW_live e4) (by rw [← e3, he]))
      · have := (R.lt h1).2; omega
    · rw [hlk id e1] at h1
      rw [hlk id' e2] at h2
      rw [hρ id e1, hρ id' e2] at he
      exact R.inj id id' h1 h2 he
  · exact VR_ext hext _ _ (VR_none (by exact hz) _ _ (R.fr i)) (R.fr i)
  · exact VR_ext hext _ _ (VR_none (by exact hz) _ _ (R.stk ks hks i)) (R.stk ks hks i)

theorem RR.turnC (R : RR X ρ s a w) (d : Nat) (b : Blk) (hρ : ∀ id, id ≠ d → ρ' id = ρ id)
    (hw : Below X.base X.w0 w') (hsz : w.heap.size ≤ w'.heap.size)
    (hblk : ∀ k, k < w.heap.size → (∀ id, id = d → liveW (lkb s.hp id) → k ≠ ρ id) → w'.heap[k]? = w.heap[k]?)
    (hnew : live b → ρ' d = ρ d ∧ liveW (lkb s.hp d) ∨ w.heap.size ≤ ρ' d)
    (hlive : live b → ρ' d < w'.heap.size)
    (hb : ∀ c', c' = cx X ρ' ((d, b) :: (s.clr d).hp) w' → Ext (· = d) (cx X ρ s.hp w) c' → HB X c' d b) :
    Ext (· = d) (cx X ρ s.hp w) (cx X ρ' ((d, b) :: (s.clr d).hp) w') ∧
    RR X ρ' ((s.clr d).putb d b) a w' := by
  cases hz : lkb s.hp d with
  | none =>
    have e : s.clr d = s := by unfold St.clr; rw [hz]
    rw [e] at hb ⊢
    exact RR.turn0 R d b hz hρ hw hsz hblk hnew hlive hb
  | var _ _ _ =>
    have e : s.clr d = s.kill d := by unfold St.clr; rw [hz]
    rw [e] at hb ⊢
    exact RR.turn R d b hρ hw hsz hblk hnew hlive hb
  | row _ _ _ _ =>
    have e : s.clr d = s.kill d := by unfold St.clr; rw [hz]
    rw [e] at hb ⊢
    exact RR.turn R d b hρ hw hsz hblk hnew hlive hb

/-- Block d holds something else of its kind now (or isn't written any more); nothing else has changed. -/
theorem RR.write (R : RR X ρ s a w) (d : Nat) (b : Blk)
    (hk : ∀ e v f, lkb s.hp d = .var e v f → ∃ v' f', b = .var e v' f')
    (hr : ∀ te e xs f, lkb s.hp d = .row te e xs f → ∃ ys : List e.den, ∃ f', b = .row te e ys f' ∧ ys.length = xs.length ∧ (xs ≠ [] → cellsN w' (ρ d) = cellsN w (ρ d)))
    (hl : liveW b → liveW (lkb s.hp d)) (hl2 : live b → live (lkb s.hp d))
    (hw : Below X.base X.w0 w') (hsz : w.heap.size ≤ w'.heap.size)
    (hblk : ∀ k, (liveW (lkb s.hp d) → k ≠ ρ d) → w'.heap[k]? = w.heap[k]?)
    (hb : ∀ c', c' = cx X ρ ((d, b) :: s.hp) w' → Ext (fun _ => False) (cx X ρ s.hp w) c' → HB X c' d b) :
    Ext (fun _ => False) (cx X ρ s.hp w) (cx X ρ ((d, b) :: s.hp) w') ∧ RR X ρ (s.putb d b) a w' := by
  have hlk : ∀ id, id ≠ d → lkb ((d, b) :: s.hp) id = lkb s.hp id := fun id h => by rw [lkb_cons, if_neg (fun e => h e.symm)]
  have hlkd : lkb ((d, b) :: s.hp) d = b := by rw [lkb_cons, if_pos rfl]
  have hother : ∀ id, id ≠ d → live (lkb s.hp id) → w'.heap[ρ id]? = w.heap[ρ id]? := fun id hd hlv =>
    hblk _ (fun hlw he => hd (R.inj id d hlv (liveW_live hlw) he))
  have hext : Ext (fun _ => False) (cx X ρ s.hp w) (cx X ρ ((d, b) :: s.hp) w') := by
    refine ⟨fun k hk => ?_, fun id e v f _ hv => ?_, fun id te e xs f _ hv => ?_⟩
    · obtain ⟨k1, k2, k3⟩ := hk
      refine ⟨⟨k1, Nat.lt_of_lt_of_le k2 hsz, fun id hlv => ?_⟩, .of (hblk k (fun h he => k3 d h he.symm))⟩
      by_cases hd : id = d
      · subst hd; rw [hlkd] at hlv; exact k3 id (hl hlv)
      · rw [hlk id hd] at hlv; exact k3 id hlv
    · have hv : lkb s.hp id = .var e v f := hv
      by_cases hd : id = d
      · subst hd
        obtain ⟨v', f', e1⟩ := hk e v f hv
        exact ⟨rfl, v', f', by show lkb ((id, b) :: s.hp) id = _; rw [hlkd, e1]⟩
      · exact ⟨rfl, v, f, by show lkb ((d, b) :: s.hp) id = _; rw [hlk id hd, hv]⟩
    · have hv : lkb s.hp id = .row te e xs f := hv
      by_cases hd : id = d
      · subst hd
        obtain ⟨ys, f', e1, e2, e3⟩ := hr te e xs f hv
        exact ⟨ys, f', by show lkb ((id, b) :: s.hp) id = _; rw [hlkd, e1], e2, fun hx => ⟨rfl, e3 hx⟩⟩
      · refine ⟨xs, f, by show lkb ((d, b) :: s.hp) id = _; rw [hlk id hd, hv], rfl, fun hx => ⟨rfl, ?_⟩⟩
        show cellsN w' (ρ id) = cellsN w (ρ id)
        unfold cellsN
        rw [hother id hd (by rw [hv]; exact hx)]
  have hkp : Keeps w w' := R.keeps d fun k _ h => hblk k h
  refine ⟨hext, ⟨R.size, R.defers.keep hkp, R.ok0, hw, fun id => ?_, fun id id' h1 h2 he => ?_, fun i => ?_, fun ks hks i => VR_ext hext _ _ (Free_no _) (R.stk ks hks i), fun ks hks => X.spk _ _ _ (hkp.b _) hsz (R.sp ks hks), Nat.le_trans R.lim hsz⟩⟩
  · show HB X _ id (lkb ((d, b) :: s.hp) id)
    by_cases hd : id = d
    · subst hd
      rw [hlkd]
      exact hb _ rfl hext
    · rw [hlk id hd]
      have hb := R.heap id
      cases hv : lkb s.hp id with
      | none => trivial
      | var e v f =>
        rw [hv] at hb
        obtain ⟨g1, cs, T, g2, g3, g4, g5⟩ := hb
        exact ⟨g1, cs, T, (hother id hd (by rw [hv]; trivial)).trans g2, CR_ext hext _ _ (Free_no _) g3, g4, g5⟩
      | row te e xs f =>
        rw [hv] at hb
        obtain ⟨g0, hb⟩ := hb
        refine ⟨g0, fun hne => ?_⟩
        obtain ⟨g1, cs, g2, g3, g4⟩ := hb hne
        exact ⟨g1, cs, (hother id hd (by rw [hv]; exact hne)).trans g2, g3, EncL_mono (fun x vs h => Enc_mono hext.ok e x vs h) _ _ g4⟩
  · have h1 : live (lkb ((d, b) :: s.hp) id) := h1
    have h2 : live (lkb ((d, b) :: s.hp) id') := h2
    refine R.inj id id' ?_ ?_ he
    · by_cases hd : id = d
      · subst hd; rw [hlkd] at h1; exact hl2 h1
      · rw [hlk id hd] at h1; exact h1
    · by_cases hd : id' = d
      · subst hd; rw [hlkd] at h2; exact hl2 h2
      · rw [hlk id' hd] at h2; exact h2
  · exact VR_ext hext _ _ (Free_no _) (R.fr i)

/-- A block isn't written any more. -/
theorem RR.freeze1 (R : RR X ρ s a w) (d : Nat) : Ext (fun _ => False) (cx X ρ s.hp w) (cx X ρ ((d, fzB (lkb s.hp d)) :: s.hp) w) ∧ RR X ρ ⟨s.fr, (d, fzB (lkb s.hp d)) :: s.hp, s.ks⟩ a w := by
  refine RR.write R d (fzB (lkb s.hp d)) (fun e v f h => ⟨v, true, by rw [h]; rfl⟩) (fun te e xs f h => ⟨xs, true, by rw [h]; rfl, rfl, fun _ => rfl⟩) ?_ ?_ R.below (Nat.le_refl _) (fun _ _ => rfl) ?_
  · intro h
    cases hv : lkb s.hp d <;> rw [hv] at h <;> exact h.elim
  · intro h
    cases hv : lkb s.hp d <;> rw [hv] at h <;> exact h
  · intro c' hc hext
    have hb := R.heap d
    subst hc
    cases hv : lkb s.hp d with
    | none => trivial
    | var e v f =>
      rw [hv] at hb
      obtain ⟨g1, cs, T, g2, g3, g4, g5⟩ := hb
      rw [hv] at hext
      exact ⟨g1, cs, T, g2, CR_ext hext _ _ (Free_no _) g3, g4, g5⟩
    | row te e xs f =>
      rw [hv] at hb
      obtain ⟨g0, hb⟩ := hb
      rw [hv] at hext
      refine ⟨g0, fun hne => ?_⟩
      obtain ⟨g1, cs, g2, g3, g4⟩ := hb hne
      exact ⟨g1, cs, g2, g3, EncL_mono (fun x vs h => Enc_mono hext.ok e x vs h) _ _ g4⟩

theorem Ext.refl (c : Cx) : Ext (fun _ => False) c c :=
  ⟨fun b h => ⟨h, .refl _ _⟩, fun id e v f _ h => ⟨rfl, v, f, h⟩, fun id te e xs f _ h => ⟨xs, f, h, rfl, fun _ => ⟨rfl, rfl⟩⟩⟩
theorem Ext.trans {c1 c2 c3 : Cx} (h1 : Ext (fun _ => False) c1 c2) (h2 : Ext (fun _ => False) c2 c3) : Ext (fun _ => False) c1 c3 := by
  refine ⟨fun b h => ?_, fun id e v f _ h => ?_, fun id te e xs f _ h => ?_⟩
  · obtain ⟨k1, k2⟩ := h1.ok b h
    obtain ⟨k3, k4⟩ := h2.ok b k1
    exact ⟨k3, k2.trans k4⟩
  · obtain ⟨e1, v', f', g1⟩ := h1.var id e v f (fun h => h) h
    obtain ⟨e2, v2, f2, g2⟩ := h2.var id e v' f' (fun h => h) g1
    exact ⟨e2.trans e1, v2, f2, g2⟩
  · obtain ⟨ys, f', g1, g2, g3⟩ := h1.row id te e xs f (fun h => h) h
    obtain ⟨zs, f2, k1, k2, k3⟩ := h2.row id te e ys f' (fun h => h) g1
    refine ⟨zs, f2, k1, k2.trans g2, fun hx => ?_⟩
    obtain ⟨a1, a2⟩ := g3 hx
    obtain ⟨b1, b2⟩ := k3 (fun e => hx (List.eq_nil_of_length_eq_zero (by rw [← g2, e]; rfl)))
    exact ⟨b1.trans a1, by rw [a1] at b2; exact b2.trans a2⟩

theorem RR.freezes (ids : List Nat) : ∀ {s : St}, RR X ρ s a w → Ext (fun _ => False) (cx X ρ s.hp w) (cx X ρ (fzs s.hp ids) w) ∧ RR X ρ ⟨s.fr, fzs s.hp ids, s.ks⟩ a w := by
  induction ids with
  | nil => intro s R; exact ⟨Ext.refl _, R⟩
  | cons d ids ih =>
    intro s R
    obtain ⟨e1, R1⟩ := R.freeze1 d
    obtain ⟨e2, R2⟩ := ih R1
    exact ⟨e1.trans e2, R2⟩
end
end Go.Proofs.YtoihmfgkmndjfaaV
/- Typed data out of values, and what is written: the words that the operations that write lean on. -/
set_option linter.unusedVariables false
set_option linter.unusedSimpArgs false
namespace Go.Proofs.YtoihmfgkmndjfaaV
open Go.RowKit

theorem castL_eq {a : Ty} (h : a = a) (xs : List a.den) : castL h xs = xs := rfl

/-- Values of one cell. -/
theorem Enc_one {ok : Nat → Prop} {w : World} : ∀ (e : Ty) (x : e.den) (vs : List Value), Enc ok w e x vs → ∀ u ∈ vs, u.oneCell' = true
  | .int k, n, vs, h, u, hu => by obtain ⟨rfl, _⟩ := h; simp at hu; subst hu; rfl
  | .bool, b, vs, h, u, hu => by have h : vs = _ := h; subst h; simp at hu; subst hu; rfl
  | .str, s, vs, h, u, hu => by obtain ⟨rfl, _⟩ := h; simp at hu; subst hu; rfl
  | .unit, _, vs, h, u, hu => by have h : vs = [] := h; subst h; simp at hu
  | .pair a b, x, vs, h, u, hu => by
    obtain ⟨p, q, rfl, h1, h2⟩ := h
    rcases List.mem_append.1 hu with h | h
    · exact Enc_one a _ _ h1 u h
    · exact Enc_one b _ _ h2 u h
  | .sl e, xs, vs, h, u, hu => by obtain ⟨A, c, rfl, _⟩ := h; simp at hu; subst hu; rfl
  | .arr n e, xs, vs, h, u, hu => by
    have key : ∀ (l : List e.den) (vs : List Value), EncL (Enc ok w e) l vs → ∀ u ∈ vs, u.oneCell' = true := by
      intro l
      induction l with
      | nil => intro vs h u hu; have h : vs = [] := h; subst h; simp at hu
      | cons x l ih =>
        intro vs h u hu
        obtain ⟨p, q, rfl, h1, h2⟩ := h
        rcases List.mem_append.1 hu with h | h
        · exact Enc_one e _ _ h1 u h
        · exact ih _ h2 u h
    exact key _ _ h.2 u hu
  | .opq _, _, vs, h, u, hu => h.elim
theorem EncL_one {ok : Nat → Prop} {w : World} {e : Ty} : ∀ (l : List e.den) (vs : List Value), EncL (Enc ok w e) l vs → ∀ u ∈ vs, u.oneCell' = true
  | [], vs, h, u, hu => by have h : vs = [] := h; subst h; simp at hu
  | x :: l, vs, h, u, hu => by
    obtain ⟨p, q, rfl, h1, h2⟩ := h
    rcases List.mem_append.1 hu with h | h
    · exact Enc_one e _ _ h1 u h
    · exact EncL_one l _ h2 u h
theorem EncL_append {α : Type} {E : α → List Value → Prop} : ∀ (xs ys : List α) (u v : List Value), EncL E xs u → EncL E ys v → EncL E (xs ++ ys) (u ++ v)
  | [], ys, u, v, h1, h2 => by have h1 : u = [] := h1; subst h1; exact h2
  | x :: xs, ys, u, v, h1, h2 => by
    obtain ⟨p, q, rfl, h3, h4⟩ := h1
    exact ⟨p, q ++ v, by simp, h3, EncL_append xs ys q v h4 h2⟩
/-- From element by element to the whole. -/
theorem EncL_of {α : Type} {E : α → List Value → Prop} {m : Nat} : ∀ (xs : List α) (cell : Nat → Option Value), (∀ i (h : i < xs.length), ∃ cs : List Value, cs.length = m ∧ (∀ j, j < m → cell (i * m + j) = cs[j]?) ∧ E xs[i] cs) →
    ∃ vs : List Value, EncL E xs vs ∧ vs.length = xs.length * m ∧ ∀ j, j < vs.length → cell j = vs[j]?
  | [], cell, h => ⟨[], rfl, by simp, fun j hj => by simp at hj⟩
  | x :: xs, cell, h => by
    obtain ⟨cs, h1, h2, h3⟩ := h 0 (by simp)
    obtain ⟨vs, g1, g2, g3⟩ := EncL_of xs (fun k => cell (m + k)) (fun i hi => by
      obtain ⟨cs, h1, h2, h3⟩ := h (i + 1) (by simpa using hi)
      exact ⟨cs, h1, fun j hj => by rw [← h2 j hj]; congr 1; rw [Nat.add_mul]; omega, h3⟩)
    refine ⟨cs ++ vs, ⟨cs, vs, rfl, h3, g1⟩, by rw [List.length_append, h1, g2, List.length_cons, Nat.add_mul]; omega, fun j hj => ?_⟩
    rcases Nat.lt_or_ge j m with hjm | hjm
    · rw [List.getElem?_append_left (by omega), ← h2 j hjm]; congr 1; omega
    · rw [List.getElem?_append_right (by omega), h1, ← g3 (j - m) (by rw [List.length_append] at hj; omega)]
      congr 1; omega

section
variable {X : Fix} {ρ : Nat → Nat} {s : St} {a : Act} {w : World}

/-- A frozen block may be read by anybody. -/
theorem RR.ok_frozen (R : RR X ρ s a w) {id te : Nat} {e : Ty} {xs : List e.den} (hb : lkb s.hp id = .row te e xs true) (hne : xs ≠ []) : okC X ρ s.hp w (ρ id) := by
  have hl : live (lkb s.hp id) := by rw [hb]; exact hne
  obtain ⟨h1, h2⟩ := R.lt hl
  refine ⟨.inr h1, h2, fun id' hlw he => ?_⟩
  have := R.inj id' id (liveW_live hlw) hl he
  subst this
  rw [hb] at hlw; exact hlw

theorem own_sl (R : RR X ρ s a w) {id te : Nat} {e : Ty} {xs : List e.den} {f : Bool} (hb : lkb s.hp id = .row te e xs f) {l : List Value} (h : OwnV (cx X ρ s.hp w) id l) {ok : Nat → Prop}
    (hok : xs ≠ [] → ok (ρ id)) (hsub : ∀ b, okC X ρ s.hp w b → ok b) : ∃ A n, l = [.slice A xs.length n] ∧ Sl ok w e.size (Enc ok w e) xs A n := by
  unfold OwnV at h
  rw [show (cx X ρ s.hp w).hp = s.hp from rfl, hb] at h
  obtain ⟨A, n, g1, g2, g3, g4, g5⟩ := h
  refine ⟨A, n, g1, ?_, g2, g3, fun h1 _ => g4 h1, fun hne => ?_⟩
  · by_cases hx : xs = []
    · subst hx; simp
    · exact (g5 hx).2.1
  · obtain ⟨k1, k2, k3⟩ := g5 hne
    have hh := R.heap id
    rw [hb] at hh
    obtain ⟨_, hh⟩ := hh
    obtain ⟨q1, cs, q2, q3, q4⟩ := hh hne
    have q2 : w.heap[ρ id]? = some (.cells cs te (0, 0)) := q2
    have q4 : EncL (Enc (okC X ρ s.hp w) w e) xs (cs.toList.take (xs.length * e.size)) := q4
    refine ⟨ρ id, 0, k1, hok hne, fun i hi => ?_⟩
    obtain ⟨m, m1, m2, m3⟩ := EncL_at (fun x vs h => Enc_length e x vs h) xs _ q4 i hi
    refine ⟨m, m2, fun j hj => ?_, Enc_mono (fun b hb => ⟨hsub b hb, .refl _ _⟩) e _ _ m1⟩
    rw [← m3 j hj, cell_of_block q2, List.getElem?_take, if_pos (by
      have : i * e.size + e.size ≤ xs.length * e.size := by rw [← Nat.succ_mul]; exact Nat.mul_le_mul_right _ (by omega)
      omega)]
    simp

mutual
theorem pack_enc (R : RR X ρ s a w) : ∀ (e : Ty) (v : AV) (y : e.den) (l : List Value), pack s.hp e v = some y → CR (cx X ρ s.hp w) v l → Enc (okC X ρ s.hp w) w e y l
  | .int k, .int k' n, y, l, hp, h => by
    simp only [pack] at hp
    split at hp
    · rename_i hk; subst hk; cases hp; exact h
    · cases hp
  | .bool, .bool b, y, l, hp, h => by simp only [pack, Option.some.injEq] at hp; subst hp; exact h
  | .str, .str b, y, l, hp, h => by simp only [pack, Option.some.injEq] at hp; subst hp; exact h
  | .unit, .agg [], y, l, hp, h => h
  | .pair p q, .agg (v :: r), y, l, hp, h => by
    simp only [pack] at hp
    split at hp
    · rename_i x hx
      split at hp
      · rename_i z hz
        cases hp
        obtain ⟨u, t, rfl, h1, h2⟩ := h
        exact ⟨u, t, rfl, pack_enc R p v x u hx h1, packs_enc R q r z t hz h2⟩
      · cases hp
    · cases hp
  | .sl e, .ro e' xs, y, l, hp, h => by
    simp only [pack] at hp
    split at hp
    · rename_i he; subst he; cases hp; exact h
    · cases hp
  | .sl e, .con v, y, l, hp, h => by
    have hv : v = .slice none 0 0 ∧ y = [] := by
      cases v with
      | slice A n c =>
        cases A with
        | some A => simp [pack] at hp
        | none => cases n with
          | succ n => simp [pack] at hp
          | zero => cases c with
            | succ c => simp [pack] at hp
            | zero => simp only [pack, Option.some.injEq] at hp; exact ⟨rfl, hp.symm⟩
      | _ => simp [pack] at hp
    obtain ⟨rfl, rfl⟩ := hv
    obtain ⟨rfl, _⟩ := h
    exact ⟨none, 0, rfl, Nat.le_refl _, Nat.zero_le _, Nat.zero_le _, fun _ _ => rfl, fun hne => absurd rfl hne⟩
  | .sl e, .own id, y, l, hp, h => by
    simp only [pack] at hp
    split at hp
    · rename_i te e' xs hb
      split at hp
      · rename_i he
        subst he
        cases hp
        obtain ⟨A, n, g1, g2⟩ := own_sl R hb h (ok := okC X ρ s.hp w) (fun hne => R.ok_frozen hb hne) (fun _ h => h)
        exact ⟨A, n, g1, g2⟩
      · cases hp
    · cases hp
  | .arr n e, .arr n' e' xs, y, l, hp, h => by
    simp only [pack] at hp
    split at hp
    · rename_i he
      subst he
      split at hp
      · rename_i hn; subst hn; cases hp; exact h
      · cases hp
    · cases hp
theorem packs_enc (R : RR X ρ s a w) : ∀ (e : Ty) (vs : List AV) (y : e.den) (l : List Value), packs s.hp e vs = some y → CRs (cx X ρ s.hp w) vs l → Enc (okC X ρ s.hp w) w e y l
  | .pair p q, v :: r, y, l, hp, h => by
    simp only [packs] at hp
    split at hp
    · rename_i x hx
      split at hp
      · rename_i z hz
        cases hp
        obtain ⟨u, t, rfl, h1, h2⟩ := h
        exact ⟨u, t, rfl, pack_enc R p v x u hx h1, packs_enc R q r z t hz h2⟩
      · cases hp
    · cases hp
  | .unit, [], y, l, hp, h => h
end
end
end Go.Proofs.YtoihmfgkmndjfaaV
/- Zero values; a value at a path's end replaced; cells written over. -/
set_option linter.unusedVariables false
set_option linter.unusedSimpArgs false
namespace Go.Proofs.YtoihmfgkmndjfaaV
open Go.RowKit

/-! ### Zero values -/
theorem EncL_replicate {α : Type} {E : α → List Value → Prop} {x : α} {vs : List Value} (h : E x vs) : ∀ n : Nat, EncL E (List.replicate n x) (List.replicate n vs).flatten
  | 0 => by simp [EncL]
  | n + 1 => by
    rw [List.replicate_succ, List.replicate_succ, List.flatten_cons]
    exact ⟨vs, _, rfl, h, EncL_replicate h n⟩
theorem Enc_dfl (ok : Nat → Prop) (w : World) : ∀ e : Ty, plainTy e = true → Enc ok w e e.dfl (zcs e)
  | .int k, _ => ⟨rfl, by cases k <;> decide⟩
  | .bool, _ => rfl
  | .str, _ => ⟨rfl, by show (0 : Nat) ≤ maxLen; omega⟩
  | .unit, _ => rfl
  | .pair a b, h => by
    have h : (plainTy a && plainTy b) = true := h
    rw [Bool.and_eq_true] at h
    exact ⟨_, _, rfl, Enc_dfl ok w a h.1, Enc_dfl ok w b h.2⟩
  | .sl e, _ => ⟨none, 0, rfl, Nat.le_refl _, Nat.zero_le _, Nat.zero_le _, fun _ _ => rfl, fun hne => absurd rfl hne⟩
  | .arr n e, h => ⟨List.length_replicate .., EncL_replicate (Enc_dfl ok w e h) n⟩
  | .opq _, h => by cases h

mutual
theorem CR_zero (c : Cx) : ∀ e : Ty, zok e = true → WfT e → CR c (zeroAV e) (zcs e)
  | .int k, _, _ => ⟨rfl, by cases k <;> decide⟩
  | .bool, _, _ => rfl
  | .str, _, _ => ⟨rfl, by show (0 : Nat) ≤ maxLen; omega⟩
  | .unit, _, _ => rfl
  | .pair a b, h, hw => by
    have h : (zok a && zok b) = true := h
    rw [Bool.and_eq_true] at h
    exact ⟨_, _, rfl, CR_zero c a h.1 hw.1, CRs_zero c b h.2 hw.2.1 hw.2.2⟩
  | .sl e, _, _ => ⟨rfl, trivial⟩
  | .arr n e, h, _ => ⟨List.length_replicate .., EncL_replicate (Enc_dfl c.ok c.w e h) n⟩
  | .opq 0, _, _ => ⟨rfl, trivial⟩
  | .opq 1, _, _ => ⟨rfl, trivial⟩
  | .opq 2, _, _ => ⟨_, rfl⟩
  | .opq 3, _, _ => ⟨rfl, trivial⟩
  | .opq 4, _, _ => ⟨rfl, trivial⟩
  | .opq (n + 5), _, _ => ⟨_, rfl⟩
theorem CRs_zero (c : Cx) : ∀ e : Ty, zok e = true → chain e → WfT e → CRs c (zeroAV.zeroFs e) (zcs e)
  | .pair a b, h, _, hw => by
    have h : (zok a && zok b) = true := h
    rw [Bool.and_eq_true] at h
    exact ⟨_, _, rfl, CR_zero c a h.1 hw.1, CRs_zero c b h.2 hw.2.1 hw.2.2⟩
  | .unit, _, _, _ => rfl
end
mutual
theorem Shp_zero : ∀ e : Ty, WfT e → Shp e (zeroAV e)
  | .int k, _ => rfl
  | .bool, _ => trivial
  | .str, _ => trivial
  | .unit, _ => trivial
  | .pair a b, hw => ⟨Shp_zero a hw.1, Shps_zero b hw.2.1 hw.2.2⟩
  | .sl e, _ => trivial
  | .arr n e, _ => ⟨rfl, rfl⟩
  | .opq 0, _ => trivial
  | .opq 1, _ => trivial
  | .opq 2, _ => trivial
  | .opq 3, _ => trivial
  | .opq 4, _ => trivial
  | .opq (n + 5), _ => trivial
theorem Shps_zero : ∀ e : Ty, chain e → WfT e → Shps e (zeroAV.zeroFs e)
  | .pair a b, _, hw => ⟨Shp_zero a hw.1, Shps_zero b hw.2.1 hw.2.2⟩
  | .unit, _, _ => trivial
end
theorem zcs_length : ∀ e : Ty, (zcs e).length = e.size
  | .int _ => rfl
  | .bool => rfl
  | .str => rfl
  | .sl _ => rfl
  | .unit => rfl
  | .pair a b => by show (zcs a ++ zcs b).length = a.size + b.size; rw [List.length_append, zcs_length a, zcs_length b]
  | .arr n e => by
    show (List.replicate n (zcs e)).flatten.length = n * e.size
    rw [List.length_flatten, List.map_replicate, List.sum_replicate_nat, zcs_length e]
  | .opq 0 => rfl
  | .opq 1 => rfl
  | .opq 2 => rfl
  | .opq 3 => rfl
  | .opq 4 => rfl
  | .opq (n + 5) => rfl
theorem zval_cells (e : Ty) : (zval e).cells = (zcs e).toArray := by
  unfold zval
  cases h : aggTy e with
  | true => rfl
  | false =>
    cases e with
    | pair _ _ => cases h
    | unit => cases h
    | arr _ _ => cases h
    | opq z => match z with
      | 0 => rfl
      | 1 => rfl
      | 2 => rfl
      | 3 => rfl
      | 4 => rfl
      | n + 5 => rfl
    | _ => rfl

/-! ### Replacing -/
theorem EncL_split {α : Type} {E : α → List Value → Prop} {m : Nat} (h : ∀ x vs, E x vs → vs.length = m) : ∀ (xs : List α) (cs : List Value), EncL E xs cs → ∀ i (hi : i < xs.length),
    ∃ A M B, cs = A ++ M ++ B ∧ A.length = i * m ∧ E xs[i] M ∧ ∀ y vs, E y vs → EncL E (xs.set i y) (A ++ vs ++ B)
  | [], cs, e, i, hi => by simp at hi
  | x :: xs, cs, e, 0, hi => by
    obtain ⟨u, v, rfl, hu, hv⟩ := e
    exact ⟨[], u, v, rfl, by simp, hu, fun y vs hy => ⟨vs, v, rfl, hy, hv⟩⟩
  | x :: xs, cs, e, i + 1, hi => by
    obtain ⟨u, v, rfl, hu, hv⟩ := e
    obtain ⟨A, M, B, rfl, h1, h2, h3⟩ := EncL_split h xs v hv i (by simpa using hi)
    exact ⟨u ++ A, M, B, by simp, by rw [List.length_append, h _ _ hu, h1, Nat.add_mul]; omega, h2, fun y vs hy => ⟨u, A ++ vs ++ B, by simp, hu, h3 y vs hy⟩⟩

theorem flds_split {c : Cx} : ∀ (e : Ty) (l : List AV) (cs : List Value) (i o : Nat) (t : Ty) (v : AV), Shps e l → WfT e → CRs c l cs → fldT e i = some (o, t) → l[i]? = some v →
    Shp t v ∧ WfT t ∧ ∃ A M B, cs = A ++ M ++ B ∧ A.length = o ∧ CR c v M ∧ ∀ v' vs, Shp t v' → CR c v' vs → Shps e (l.set i v') ∧ CRs c (l.set i v') (A ++ vs ++ B)
  | .pair a b, u :: l, cs, 0, o, t, v, hs, hw, hc, hf, hv => by
    have hf : some (0, a) = some (o, t) := hf
    have hv : some u = some v := hv
    cases hf; cases hv
    obtain ⟨p, q, rfl, h1, h2⟩ := hc
    exact ⟨hs.1, hw.1, [], p, q, rfl, rfl, h1, fun v' vs hs' hc' => ⟨⟨hs', hs.2⟩, vs, q, rfl, hc', h2⟩⟩
  | .pair a b, u :: l, cs, i + 1, o, t, v, hs, hw, hc, hf, hv => by
    obtain ⟨p, q, rfl, h1, h2⟩ := hc
    have hl := CR_length _ _ _ hs.1 h1
    simp only [fldT] at hf
    split at hf
    · rename_i o' t' hf'
      cases hf
      obtain ⟨g1, g2, A, M, B, rfl, g3, g4, g5⟩ := flds_split b l q i o' t v hs.2 hw.2.2 h2 hf' (by simpa using hv)
      refine ⟨g1, g2, p ++ A, M, B, by simp, by rw [List.length_append, hl, g3], g4, fun v' vs hs' hc' => ?_⟩
      obtain ⟨k1, k2⟩ := g5 v' vs hs' hc'
      exact ⟨⟨hs.1, k1⟩, p, A ++ vs ++ B, by simp, h1, k2⟩
    · cases hf
  | .unit, [], vs, i, o, t, v, hs, hw, hc, hf, hv => by cases hv

theorem CR_arr_of {c : Cx} {n : Nat} {e : Ty} {xs : List e.den} {cs : List Value} (h1 : xs.length = n) (h2 : EncL (Enc c.ok c.w e) xs cs) : CR c (.arr n e xs) cs := ⟨h1, h2⟩

section
variable {X : Fix} {ρ : Nat → Nat} {s : St} {a : Act} {w : World}

theorem setA_cells (R : RR X ρ s a w) : ∀ (p : List Step) (e : Ty) (v : AV) (cs : List Value) (off : Nat) (t : Ty) (u v' : AV) (vs : List Value),
    Shp e v → WfT e → CR (cx X ρ s.hp w) v cs → pathT e p = some (off, t) → setA s.hp v p u = some v' → Shp t u → CR (cx X ρ s.hp w) u vs →
    ∃ A M B, cs = A ++ M ++ B ∧ A.length = off ∧ M.length = t.size ∧ Shp e v' ∧ CR (cx X ρ s.hp w) v' (A ++ vs ++ B)
  | [], e, v, cs, off, t, u, v', vs, hs, hw, hc, hp, hg, hsu, hcu => by
    simp only [pathT, Option.some.injEq, Prod.mk.injEq] at hp
    obtain ⟨rfl, rfl⟩ := hp
    have hg : some u = some v' := by unfold setA at hg; exact hg
    cases hg
    exact ⟨[], cs, [], by simp, rfl, CR_length _ _ _ hs hc, hsu, by simpa using hcu⟩
  | .fld i :: p, e, v, cs, off, t, u, v', vs, hs, hw, hc, hp, hg, hsu, hcu => by
    simp only [pathT] at hp
    split at hp
    · rename_i o1 t1 hf
      split at hp
      · rename_i o2 t2 hp2
        simp only [Option.some.injEq, Prod.mk.injEq] at hp
        obtain ⟨rfl, rfl⟩ := hp
        cases v <;> simp only [setA] at hg <;> try cases hg
        rename_i l
        split at hg
        · rename_i v1 hv1
          split at hg
          · rename_i v2 hv2
            cases hg
            have hss : Shps e l := by
              cases e <;> cases l <;> first | exact hs | (simp [fldT] at hf; done) | exact hs.elim
            obtain ⟨g1, g2, A, M, B, rfl, g3, g4, g5⟩ := flds_split e l cs i o1 t1 v1 hss hw hc hf hv1
            obtain ⟨A', M', B', rfl, k1, k2, k3, k4⟩ := setA_cells R p t1 v1 M o2 _ u v2 vs g1 g2 g4 hp2 hv2 hsu hcu
            obtain ⟨q1, q2⟩ := g5 v2 _ k3 k4
            refine ⟨A ++ A', M', B' ++ B, by simp, by rw [List.length_append, g3, k1], k2, ?_, ?_⟩
            · cases e <;> first
                | (simp [fldT] at hf; done)
                | skip
              cases hl2 : l.set i v2 with
              | nil => rw [hl2] at q1; exact q1.elim
              | cons z r => rw [hl2] at q1; exact q1
            · have : A ++ A' ++ vs ++ (B' ++ B) = A ++ (A' ++ vs ++ B') ++ B := by simp
              rw [this]; exact q2
          · cases hg
        · cases hg
      · cases hp
    · cases hp
  | .at i :: p, e, v, cs, off, t, u, v', vs, hs, hw, hc, hp, hg, hsu, hcu => by
    cases e <;> simp only [pathT] at hp <;> try cases hp
    rename_i n e
    split at hp
    · rename_i hr
      split at hp
      · rename_i o2 t2 hp2
        simp only [Option.some.injEq, Prod.mk.injEq] at hp
        obtain ⟨rfl, rfl⟩ := hp
        cases v <;> simp only [setA] at hg <;> try cases hg
        rename_i n' e' xs
        obtain ⟨rfl, rfl⟩ := hs
        obtain ⟨hn, hE⟩ := hc
        have hi : i.toNat < xs.length := by omega
        split at hg
        · rename_i v1 hv1
          split at hg
          · rename_i y hy
            cases hg
            obtain ⟨A, M, B, rfl, h1, h2, h3⟩ := EncL_split (fun x vs h => Enc_length e' x vs h) xs cs hE i.toNat hi
            have hx : xs.getD i.toNat e'.dfl = xs[i.toNat] := by simp [List.getD_eq_getElem?_getD, List.getElem?_eq_getElem hi]
            rw [hx] at hv1
            obtain ⟨A', M', B', rfl, k1, k2, k3, k4⟩ := setA_cells R p e' _ M o2 _ u v1 vs (Shp_unpack e' _ hw) hw (CR_unpack _ e' _ M hw h2) hp2 hv1 hsu hcu
            have k5 := pack_enc R e' v1 y _ hy k4
            refine ⟨A ++ A', M', B' ++ B, by simp, by rw [List.length_append, h1, k1], k2, ⟨rfl, rfl⟩, ?_⟩
            have : A ++ A' ++ vs ++ (B' ++ B) = A ++ (A' ++ vs ++ B') ++ B := by simp
            rw [this]
            exact ⟨by rw [List.length_set]; exact hn, h3 y _ k5⟩
          · cases hg
        · cases hg
      · cases hp
    · cases hp

/-! ### Cells written over -/
theorem cellsN_of {b : Nat} {cs : Array Value} {T : TypeId} {fz : Nat × Nat} (h : w.heap[b]? = some (.cells cs T fz)) : cellsN w b = cs.size := by
  unfold cellsN; rw [h]
theorem setCells_eq {g : Nat} {T : TypeId} {fz : Nat × Nat} : ∀ (vs M A B : List Value) (w : World) (cur : Array Value), w.heap[g]? = some (.cells cur T fz) → cur.toList = A ++ M ++ B → vs.length = M.length →
    w.setCells g A.length vs = w.setRow g (A ++ vs ++ B).toArray
  | [], M, A, B, w, cur, hg, hc, hl => by
    obtain rfl : M = [] := List.eq_nil_of_length_eq_zero hl.symm
    show w = _
    have : (A ++ [] ++ B).toArray = cur := by rw [← hc]
    rw [this]
    have hlt : g < w.heap.size := (Array.getElem?_eq_some_iff.1 hg).1
    have hv : w.heap[g] = .cells cur T fz := (Array.getElem?_eq_some_iff.1 hg).2
    have : (w.setRow g cur).heap = w.heap := by
      apply Array.ext
      · simp
      · intro i h1 h2
        by_cases he : i = g
        · subst he
          have := setRow_heap w i cur cur T fz hg
          rw [(Array.getElem?_eq_some_iff.1 this).2, hv]
        · have := setRow_other w g i cur he
          rw [Array.getElem?_eq_getElem h1, Array.getElem?_eq_getElem h2] at this
          exact Option.some.inj this
    have h2 : w.setRow g cur = { w with heap := (w.setRow g cur).heap } := rfl
    rw [h2, this]
  | v :: vs, [], A, B, w, cur, hg, hc, hl => by simp at hl
  | v :: vs, m :: M, A, B, w, cur, hg, hc, hl => by
    show (w.setCell ⟨g, A.length, none⟩ v).setCells g (A.length + 1) vs = _
    rw [setCell_eq_setRow w g A.length cur T fz v hg]
    have hg' := setRow_heap w g cur (cur.setIfInBounds A.length v) T fz hg
    have hc' : (cur.setIfInBounds A.length v).toList = (A ++ [v]) ++ M ++ B := by
      rw [Array.toList_setIfInBounds, hc]
      simp [List.set_append]
    have ih := setCells_eq vs M (A ++ [v]) B _ _ hg' hc' (by simpa using hl)
    rw [List.length_append, List.length_singleton] at ih
    rw [ih, setRow_setRow]
    congr 2
    simp

theorem Below_setRow {B : Nat} {w0 : World} (h : Below B w0 w) {g : Nat} (hB : B ≤ g) (cs : Array Value) : Below B w0 (w.setRow g cs) :=
  ⟨h.os, h.tape, h.output, by rw [setRow_size]; exact h.size, fun k hk => by rw [setRow_other w g k cs (by omega)]; exact h.block k hk⟩

mutual
/-- Cells of what fits are one cell each. -/
theorem CR_one (c : Cx) : ∀ (e : Ty) (v : AV) (vs : List Value), fits e v = true → CR c v vs → ∀ u ∈ vs, u.oneCell' = true
  | .int k, .int k' n, vs, _, h, u, hu => by obtain ⟨rfl, _⟩ := h; simp at hu; subst hu; rfl
  | .bool, .bool b, vs, _, h, u, hu => by have h : vs = _ := h; subst h; simp at hu; subst hu; rfl
  | .str, .str s, vs, _, h, u, hu => by obtain ⟨rfl, _⟩ := h; simp at hu; subst hu; rfl
  | .sl e, .ro e' xs, vs, _, h, u, hu => Enc_one (.sl e') xs vs h u hu
  | .sl e, .con v, vs, hf, h, u, hu => by
    obtain ⟨rfl, hv⟩ := h
    simp at hu; subst hu
    cases u <;> first | rfl | exact hv.elim
  | .sl e, .own id, vs, _, h, u, hu => by
    have h : OwnV c id vs := h
    unfold OwnV at h
    split at h
    · obtain ⟨A, n, rfl, _⟩ := h; simp at hu; subst hu; rfl
    · exact h.elim
  | .sl e, .vsl id n, vs, _, h, u, hu => by obtain ⟨_, _, rfl⟩ := h; simp at hu; subst hu; rfl
  | .sl e, .vw id l hi, vs, _, h, u, hu => by
    have h : VwV c id l hi vs := h
    unfold VwV at h
    split at h
    · obtain ⟨_, A, n, rfl, _⟩ := h; simp at hu; subst hu; rfl
    · exact h.elim
  | .unit, .agg [], vs, _, h, u, hu => by have h : vs = [] := h; subst h; simp at hu
  | .pair a b, .agg (v :: l), vs, hf, h, u, hu => by
    have hf : (fits a v && fitss b l) = true := hf
    rw [Bool.and_eq_true] at hf
    obtain ⟨p, q, rfl, h1, h2⟩ := h
    rcases List.mem_append.1 hu with h | h
    · exact CR_one c a v p hf.1 h1 u h
    · exact CRs_one c b l q hf.2 h2 u h
  | .arr n e, .arr n' e' xs, vs, _, h, u, hu => EncL_one xs vs h.2 u hu
  | .opq _, .ptr _ _, vs, _, h, u, hu => by obtain ⟨off, t, _, rfl⟩ := h; simp at hu; subst hu; rfl
  | .opq _, .fn _ _ _, vs, _, h, u, hu => by obtain ⟨a, d, rfl, _⟩ := h; simp at hu; subst hu; rfl
  | .opq _, .con v, vs, _, h, u, hu => by
    obtain ⟨rfl, hv⟩ := h
    simp at hu; subst hu
    cases u <;> first | rfl | exact hv.elim
theorem CRs_one (c : Cx) : ∀ (e : Ty) (l : List AV) (vs : List Value), fitss e l = true → CRs c l vs → ∀ u ∈ vs, u.oneCell' = true
  | .pair a b, v :: l, vs, hf, h, u, hu => by
    have hf : (fits a v && fitss b l) = true := hf
    rw [Bool.and_eq_true] at hf
    obtain ⟨p, q, rfl, h1, h2⟩ := h
    rcases List.mem_append.1 hu with h | h
    · exact CR_one c a v p hf.1 h1 u h
    · exact CRs_one c b l q hf.2 h2 u h
  | .unit, [], vs, _, h, u, hu => by have h : vs = [] := h; subst h; simp at hu
end
end
end Go.Proofs.YtoihmfgkmndjfaaV
/- The operations of the VC evaluator that make a block. -/
set_option linter.unusedVariables false
set_option linter.unusedSimpArgs false
namespace Go.Proofs.YtoihmfgkmndjfaaV
open Go.RowKit

section
variable {E : Env} {X : Fix} {ρ : Nat → Nat} {s : St} {a : Act} {w : World} {C : St → AV → Prop} {o : Oper} {d : Nat}

def upd (ρ : Nat → Nat) (d b : Nat) (i : Nat) : Nat := if i = d then b else ρ i
theorem upd_same (ρ : Nat → Nat) (d b : Nat) : upd ρ d b d = b := if_pos rfl
theorem upd_other {ρ : Nat → Nat} {d b i : Nat} (h : i ≠ d) : upd ρ d b i = ρ i := if_neg h

theorem heap_alloc_new (w : World) (ob : Obj) : (w.alloc ob).heap[w.heap.size]? = some ob := by
  show (w.heap.push ob)[w.heap.size]? = _
  simp

theorem RR.base_le (R : RR X ρ s a w) : X.base ≤ w.heap.size := R.below.size

/-- A block that is new: the step. -/
theorem RR.fresh (R : RR X ρ s a w) (d : Nat) (b : Blk) (ob : Obj) (w1 : World) (h1 : w1.heap = w.heap) (hB : Below X.base X.w0 w1)
    (hb : ∀ c', c' = cx X (upd ρ d w.heap.size) ((d, b) :: (s.clr d).hp) (w1.alloc ob) → Ext (· = d) (cx X ρ s.hp w) c' → (w1.alloc ob).heap[c'.ρ d]? = some ob → HB X c' d b) :
    Ext (· = d) (cx X ρ s.hp w) (cx X (upd ρ d w.heap.size) ((d, b) :: (s.clr d).hp) (w1.alloc ob)) ∧
    RR X (upd ρ d w.heap.size) ((s.clr d).putb d b) a (w1.alloc ob) := by
  have hsz : (w1.alloc ob).heap.size = w.heap.size + 1 := by
    show (w1.heap.push ob).size = _
    rw [h1]; simp
  refine RR.turnC (w' := w1.alloc ob) R d b (fun id h => upd_other h) (hB.alloc (by rw [h1]; exact R.base_le) ob) (by omega) (fun k hk _ => ?_) (fun _ => .inr (by rw [upd_same]; exact Nat.le_refl _)) (fun _ => by rw [upd_same, hsz]; omega) (fun c' hc hx => hb c' hc hx ?_)
  · rw [Below.heap_alloc w1 ob k (by rw [h1]; exact hk), h1]
  · subst hc
    show (w1.alloc ob).heap[upd ρ d w.heap.size d]? = _
    rw [upd_same, ← h1]; exact heap_alloc_new w1 ob

theorem ex_alloc {t : TypeId} (hE : EnvT E X.P) (R : RR X ρ s a w) (ho : o.op = .alloc t) (h : av E s (opn s.fr) d (.alloc t) C) :
    ∃ s' v z w' ρ', C s' v ∧ (execOp a.eval o).run X.P w = .ok (.value z) w' ∧ RR X ρ' s' a w' ∧ VR (cx X ρ' s'.hp w') v z ∧ (cls o = 2 → Below w.heap.size w w') := by
  simp only [av, clrK_eq, putbK_eq, frzK_eq] at h
  split at h
  · rename_i e ht
    obtain ⟨h1, hC⟩ := cond_elim h
    have hT := hE.tt t _ ht
    have hW := TyOk.wf _ _ hT
    obtain ⟨i, i1, i2, i3, i4, i5, _⟩ := hT.base
    obtain ⟨hx, R'⟩ := R.fresh d (.var e (zeroAV e) false) (.cells (zval e).cells t) w rfl R.below (by
      intro c' hc hx hh
      subst hc
      refine ⟨?_, _, t, hh, ?_, Shp_zero e hW, hW, hE.tag _ _ ht⟩
      · show X.base ≤ upd ρ d w.heap.size d
        rw [upd_same]; exact R.base_le
      · rw [zval_cells]; exact CR_zero _ e h1 hW)
    refine ⟨_, _, .pointer (some ⟨w.heap.size, 0, none⟩), _, _, hC, ?_, R', ?_, fun _ => (Below.refl _ _).alloc (Nat.le_refl _) _⟩
    · simp [execOp, ho, Instr.alloc, Sem.run_bind, zeroValue, typeInfo, i1, i3, newVar, newRow]
    · refine ⟨⟨0, e, ?_, ?_⟩, rfl⟩
      · show pathB (lkb ((d, _) :: _) d) [] = _
        rw [lkb_cons, if_pos rfl]; rfl
      · show [_] = [Value.pointer (some ⟨upd ρ d w.heap.size d, 0, none⟩)]
        rw [upd_same]
  · exact h.elim

theorem isVar_killB (d : Nat) (b : Blk) : isVar (killB d b) = isVar b := by
  cases b with
  | none => rfl
  | var e v f => cases f <;> rfl
  | row te e xs f => rfl
theorem clr_lkb (s : St) (d i : Nat) (b : Blk) (h : i ≠ d) : live (lkb ((s.clr d).putb d b).hp i) = live (lkb s.hp i) ∧ isVar (lkb ((s.clr d).putb d b).hp i) = isVar (lkb s.hp i) := by
  have h1 : lkb ((s.clr d).putb d b).hp i = lkb (s.clr d).hp i := by
    show lkb ((d, b) :: (s.clr d).hp) i = _
    rw [lkb_cons, if_neg (fun e => h e.symm)]
  rw [h1]
  unfold St.clr
  split
  · exact ⟨rfl, rfl⟩
  · rw [show (s.kill d).hp = killH d s.hp from rfl, lkb_killH]
    exact ⟨(live_killB _ _).1, isVar_killB _ _⟩
/-- A variable that is new: what else is there stays. -/
theorem ex_alloc2 {t : TypeId} (hE : EnvT E X.P) (R : RR X ρ s a w) (ho : o.op = .alloc t) (h : av E s (opn s.fr) d (.alloc t) C) :
    ∃ s' v z w', C s' v ∧ (execOp a.eval o).run X.P w = .ok (.value z) w' ∧ RR X (upd ρ d w.heap.size) s' a w' ∧ VR (cx X (upd ρ d w.heap.size) s'.hp w') v z ∧ Below w.heap.size w w' ∧ ∀ i, i ≠ d → live (lkb s'.hp i) = live (lkb s.hp i) ∧ isVar (lkb s'.hp i) = isVar (lkb s.hp i) := by
  simp only [av, clrK_eq, putbK_eq, frzK_eq] at h
  split at h
  · rename_i e ht
    obtain ⟨h1, hC⟩ := cond_elim h
    have hT := hE.tt t _ ht
    have hW := TyOk.wf _ _ hT
    obtain ⟨i, i1, i2, i3, i4, i5, _⟩ := hT.base
    obtain ⟨hx, R'⟩ := R.fresh d (.var e (zeroAV e) false) (.cells (zval e).cells t) w rfl R.below (by
      intro c' hc hx hh
      subst hc
      refine ⟨?_, _, t, hh, ?_, Shp_zero e hW, hW, hE.tag _ _ ht⟩
      · show X.base ≤ upd ρ d w.heap.size d
        rw [upd_same]; exact R.base_le
      · rw [zval_cells]; exact CR_zero _ e h1 hW)
    refine ⟨_, _, .pointer (some ⟨w.heap.size, 0, none⟩), _, hC, ?_, R', ?_, (Below.refl _ _).alloc (Nat.le_refl _) _, fun i hi => clr_lkb s d i _ hi⟩
    · simp [execOp, ho, Instr.alloc, Sem.run_bind, zeroValue, typeInfo, i1, i3, newVar, newRow]
    · refine ⟨⟨0, e, ?_, ?_⟩, rfl⟩
      · show pathB (lkb ((d, _) :: _) d) [] = _
        rw [lkb_cons, if_pos rfl]; rfl
      · show [_] = [Value.pointer (some ⟨upd ρ d w.heap.size d, 0, none⟩)]
        rw [upd_same]
  · exact h.elim

theorem cells_of_VR {c : Cx} {e : Ty} {v : AV} {x : Value} (hf : fits e v = true) (h : VR c v x) : CR c v x.cells.toList := by
  cases v <;> first | exact h.1 | (cases e <;> cases hf)

theorem ex_box {t : TypeId} {y : Operand} (hE : EnvT E X.P) (R : RR X ρ s a w) (ho : o.op = .box t y) (h : av E s (opn s.fr) d (.box t y) C) :
    ∃ s' v z w' ρ', C s' v ∧ (execOp a.eval o).run X.P w = .ok (.value z) w' ∧ RR X ρ' s' a w' ∧ VR (cx X ρ' s'.hp w') v z ∧ (cls o = 2 → Below w.heap.size w w') := by
  simp only [av, clrK_eq, putbK_eq, frzK_eq] at h
  split at h
  · rename_i e ht
    obtain ⟨h1, hC⟩ := cond_elim h
    have hT := hE.tt t _ ht
    have hW := TyOk.wf _ _ hT
    have hv := cells_of_VR h1 (VR_opn R y)
    obtain ⟨hx, R'⟩ := R.fresh d (.var e (kill d (opn s.fr y)) false) (.cells (a.eval y).cells t) w rfl R.below (by
      intro c' hc hx hh
      refine ⟨?_, _, t, by subst hc; exact hh, CR_ext hx _ _ (kill_free d _) (CR_kill _ d _ _ hv), Shp_kill d e _ (Shp_of_fits e _ h1), hW, hE.tag _ _ ht⟩
      subst hc
      show X.base ≤ upd ρ d w.heap.size d
      rw [upd_same]; exact R.base_le)
    refine ⟨_, _, .pointer (some ⟨w.heap.size, 0, none⟩), _, _, hC, ?_, R', ?_, fun _ => (Below.refl _ _).alloc (Nat.le_refl _) _⟩
    · simp only [execOp, ho, Instr.box, Sem.run_bind, Sem.run_pure, Result.andThen_ok, newVar, newRow, run_newObj_alloc]
    · refine ⟨⟨0, e, ?_, ?_⟩, rfl⟩
      · show pathB (lkb ((d, _) :: _) d) [] = _
        rw [lkb_cons, if_pos rfl]; rfl
      · show [_] = [Value.pointer (some ⟨upd ρ d w.heap.size d, 0, none⟩)]
        rw [upd_same]
  · exact h.elim

theorem heap_cx {c' : Cx} {ρ' : Nat → Nat} {hp : List (Nat × Blk)} {w' : World} {d : Nat} {cs : Array Value} {te : TypeId} (hc : c' = cx X ρ' hp w') (hh : w'.heap[c'.ρ d]? = some (.cells cs te)) : c'.w.heap[c'.ρ d]? = some (.cells cs te (0, 0)) := by
  subst hc; exact hh

/-- The slice over a row that is known. -/
theorem VR_own_of {c : Cx} {d te n : Nat} {e : Ty} {xs : List e.den} {f : Bool} {A : Option Addr} (hb : lkb c.hp d = .row te e xs f) (h1 : n ≤ maxLen) (h2 : xs.length ≤ 140737488355328) (h3 : xs = [] → n = 0)
    (h4 : xs ≠ [] → A = some ⟨c.ρ d, 0, none⟩ ∧ xs.length ≤ n ∧ cellsN c.w (c.ρ d) = n * e.size) : VR c (.own d) (.slice A xs.length n) := by
  refine ⟨?_, rfl⟩
  show OwnV c d _
  unfold OwnV
  rw [hb]
  exact ⟨A, n, rfl, h1, h2, h3, h4⟩

/-- A row that is new, and the slice over it. -/
theorem RR.newRow (R : RR X ρ s a w) (d te : Nat) (e : Ty) (xs : List e.den) (cells : Array Value) (w1 : World) (h1 : w1.heap = w.heap) (hB : Below X.base X.w0 w1) (hW : WfT e) (n : Nat)
    (hn : xs.length ≤ n) (hm : n ≤ maxLen) (hl : xs.length ≤ 140737488355328) (h0 : xs = [] → n = 0) (hsz : cells.size = n * e.size)
    (hE : EncL (Enc (okC X ρ s.hp w) w e) xs (cells.toList.take (xs.length * e.size))) :
    RR X (upd ρ d w.heap.size) ((s.clr d).putb d (.row te e xs false)) a (w1.alloc (.cells cells te)) ∧
    VR (cx X (upd ρ d w.heap.size) ((s.clr d).putb d (.row te e xs false)).hp (w1.alloc (.cells cells te))) (.own d) (.slice (some ⟨w.heap.size, 0, none⟩) xs.length n) := by
  obtain ⟨hx, R'⟩ := R.fresh d (.row te e xs false) (.cells cells te) w1 h1 hB (by
    intro c' hc hx hh
    refine ⟨hW, fun _ => ⟨?_, _, heap_cx hc hh, ?_, ?_⟩⟩
    · subst hc
      show X.base ≤ upd ρ d w.heap.size d
      rw [upd_same]; exact R.base_le
    · rw [hsz]; exact Nat.mul_le_mul_right _ hn
    · exact EncL_mono (fun x vs h => Enc_mono hx.ok e x vs h) _ _ hE)
  refine ⟨R', ?_⟩
  have hlk : lkb ((d, Blk.row te e xs false) :: (s.clr d).hp) d = .row te e xs false := by rw [lkb_cons, if_pos rfl]
  refine VR_own_of (c := cx X (upd ρ d w.heap.size) ((d, Blk.row te e xs false) :: (s.clr d).hp) (w1.alloc (.cells cells te))) hlk hm hl h0 (fun hne => ⟨?_, hn, ?_⟩)
  · show _ = some (⟨upd ρ d w.heap.size d, 0, none⟩ : Addr); rw [upd_same]
  · show cellsN (w1.alloc (.cells cells te)) (upd ρ d w.heap.size d) = _
    rw [upd_same, ← h1, cellsN_of (heap_alloc_new w1 _), hsz]

theorem madeCells_rep (z : List Value) (m n : Nat) (hz : z.length = m) : (madeCells z.toArray (n * m)).toList = (List.replicate n z).flatten := by
  apply List.ext_getElem?
  intro j
  unfold madeCells
  rw [Array.toList_map, List.getElem?_map, Array.toList_range]
  have hlen : (List.replicate n z).flatten.length = n * m := by rw [List.length_flatten, List.map_replicate, List.sum_replicate_nat, hz]
  by_cases hj : j < n * m
  · rw [List.getElem?_range hj]
    have hm : 0 < m := by
      rcases Nat.eq_zero_or_pos m with h | h
      · subst h; simp at hj
      · exact h
    have key : ∀ (n j : Nat), j < n * m → (List.replicate n z).flatten[j]? = z[j % m]? := by
      intro n
      induction n with
      | zero => intro j hj; simp at hj
      | succ n ih =>
        intro j hj
        rw [List.replicate_succ, List.flatten_cons]
        by_cases h : j < m
        · rw [List.getElem?_append_left (by omega), Nat.mod_eq_of_lt h]
        · rw [List.getElem?_append_right (by omega), hz, ih (j - m) (by rw [Nat.add_mul] at hj; omega)]
          congr 1
          exact (Nat.mod_eq_sub_mod (by omega)).symm
    rw [key n j hj]
    have hlt : j % m < z.length := by rw [hz]; exact Nat.mod_lt _ hm
    simp [hz, List.getElem?_eq_getElem hlt, getElem!_pos, hlt]
  · rw [List.getElem?_eq_none (by simp; omega), List.getElem?_eq_none (by omega)]; rfl

theorem ex_makeSlice {t : TypeId} {l c : Operand} (hE : EnvT E X.P) (R : RR X ρ s a w) (ho : o.op = .makeSlice t l c) (h : av E s (opn s.fr) d (.makeSlice t l c) C) :
    ∃ s' v z w' ρ', C s' v ∧ (execOp a.eval o).run X.P w = .ok (.value z) w' ∧ RR X ρ' s' a w' ∧ VR (cx X ρ' s'.hp w') v z ∧ (cls o = 2 → Below w.heap.size w w') := by
  simp only [av, clrK_eq, putbK_eq, frzK_eq] at h
  have hl := VR_opn R l
  have hc := VR_opn R c
  generalize opn s.fr l = vl at h hl
  generalize opn s.fr c = vc at h hc
  split at h
  · rename_i e te k n k' m ht het
    obtain ⟨h1, ⟨rfl, h2, h3⟩, hC⟩ := cond_elim h
    rw [Bool.and_eq_true] at h1
    obtain ⟨h1, hp⟩ := h1
    obtain ⟨el, wl⟩ := VR_int hl
    obtain ⟨ec, wc⟩ := VR_int hc
    obtain ⟨te', hu, hT⟩ := TyOk_sl (hE.tt t _ ht)
    have hu2 := hE.et t te het
    obtain rfl : te' = te := by rw [hu] at hu2; cases hu2; rfl
    have hW := TyOk.wf _ _ hT
    obtain ⟨i, i1, i2, i3, i4, i5, _⟩ := hT.base
    have hb : (i.bytes : Int) * n ≤ 281474976710656 := by
      have : (i.bytes : Int) * n ≤ 32768 * 4294967296 := Int.mul_le_mul (by omega) h3 h2 (by omega)
      omega
    have hr := run_make (P := X.P) w t te' i (zval e) hu i1 i3 k k' n n h2 (Int.le_refl _) hb (by omega)
    have hcells : (madeCells (zval e).cells (n.toNat * i.size)).toList = (List.replicate n.toNat (zcs e)).flatten := by
      rw [zval_cells, i2]; exact madeCells_rep _ _ _ (zcs_length e)
    have hsize : (madeCells (zval e).cells (n.toNat * i.size)).size = n.toNat * e.size := by rw [size_madeCells, i2]
    have hlen : (List.replicate n.toNat e.dfl).length = n.toNat := List.length_replicate ..
    obtain ⟨R', hv⟩ := R.newRow d te' e (List.replicate n.toNat e.dfl) (madeCells (zval e).cells (n.toNat * i.size)) w rfl R.below hW n.toNat (by omega) (by have : maxLen = 9223372036854775807 := rfl; omega) (by omega)
      (fun h0 => by have := congrArg List.length h0; rw [hlen] at this; exact this) hsize (by
        rw [hcells, hlen, List.take_of_length_le (by rw [List.length_flatten, List.map_replicate, List.sum_replicate_nat, zcs_length]; exact Nat.le_refl _)]
        exact EncL_replicate (Enc_dfl _ _ e hp) _)
    rw [hlen] at hv
    refine ⟨_, _, .slice (some ⟨w.heap.size, 0, none⟩) n.toNat n.toNat, _, _, hC, ?_, R', hv, fun _ => (Below.refl _ _).alloc (Nat.le_refl _) _⟩
    simp only [execOp, ho, el, ec, Sem.run_bind, hr, Result.andThen_ok, Sem.run_pure]
  · exact h.elim
end
end Go.Proofs.YtoihmfgkmndjfaaV
/- The operations of the VC evaluator that make a block, more: slices out of parts; what is appended. -/
set_option linter.unusedVariables false
set_option linter.unusedSimpArgs false
namespace Go.Proofs.YtoihmfgkmndjfaaV
open Go.RowKit

theorem flatten_at {α : Type} (m : Nat) (hm : 0 < m) : ∀ (l : List (List α)), (∀ x ∈ l, x.length = m) → ∀ k, k < l.length * m → l.flatten[k]? = (l[k / m]?).bind (fun x => x[k % m]?)
  | [], _, k, hk => by simp at hk
  | x :: l, h, k, hk => by
    have hx := h x (by simp)
    rw [List.flatten_cons]
    by_cases hlt : k < m
    · rw [List.getElem?_append_left (by omega), Nat.div_eq_of_lt hlt, Nat.mod_eq_of_lt hlt]; rfl
    · have ih := flatten_at m hm l (fun y hy => h y (by simp [hy])) (k - m) (by rw [List.length_cons, Nat.add_mul] at hk; omega)
      rw [List.getElem?_append_right (by omega), hx, ih]
      have e1 : k / m = (k - m) / m + 1 := by
        have : k = (k - m) + m := by omega
        conv => lhs; rw [this]
        exact Nat.add_div_right _ hm
      have e2 : k % m = (k - m) % m := Nat.mod_eq_sub_mod (by omega)
      rw [e1, List.getElem?_cons_succ, e2]

theorem zip_parts {α β : Type} (f : α → β) : ∀ (l : List (Nat × α)) (i n : Nat), l.map (·.1) = List.range' i n → l.map (fun p => (p.1, f p.2)) = ((l.map fun p => f p.2).zipIdx i).map fun x => (x.2, x.1)
  | [], _, _, _ => rfl
  | (j, y) :: l, i, 0, h => by simp at h
  | (j, y) :: l, i, n + 1, h => by
    rw [List.range'_succ] at h
    simp only [List.map_cons, List.cons.injEq] at h
    obtain ⟨rfl, h⟩ := h
    simp only [List.map_cons, List.zipIdx_cons]
    rw [← zip_parts f l (j + 1) n h]

section
variable {E : Env} {X : Fix} {ρ : Nat → Nat} {s : St} {a : Act} {w : World} {C : St → AV → Prop} {o : Oper} {d : Nat}

theorem pack_cells (R : RR X ρ s a w) {e : Ty} {v : AV} {y : e.den} {x : Value} (h : pack s.hp e v = some y) (hv : VR (cx X ρ s.hp w) v x) : Enc (okC X ρ s.hp w) w e y x.cells.toList := by
  refine pack_enc R e v y _ h ?_
  cases v <;> first
    | exact hv.1
    | (cases e <;> simp [pack] at h)

theorem packAll_enc (R : RR X ρ s a w) {e : Ty} (f : Operand → AV) (g : Operand → Value) (hfg : ∀ q, VR (cx X ρ s.hp w) (f q) (g q)) : ∀ (l : List Operand) (ys : List e.den), packAll s.hp e (l.map f) = some ys →
    ys.length = l.length ∧ EncL (Enc (okC X ρ s.hp w) w e) ys (l.map fun q => (g q).cells.toList).flatten
  | [], ys, h => by
    simp only [List.map_nil, packAll, Option.some.injEq] at h
    subst h; exact ⟨rfl, rfl⟩
  | q :: l, ys, h => by
    simp only [List.map_cons, packAll] at h
    split at h
    · rename_i y hy
      split at h
      · rename_i zs hz
        cases h
        obtain ⟨h1, h2⟩ := packAll_enc R f g hfg l zs hz
        exact ⟨by simp [h1], _, _, by rw [List.map_cons, List.flatten_cons], pack_cells R hy (hfg q), h2⟩
      · cases h
    · cases h

theorem run_buildSlice_nil {P : Program} (w : World) (t e : TypeId) (i : TypeInfo) (hu : P.underlying t = some (.slice e)) (hi : P.info? e = some i) :
    (Instr.buildSlice t 0 #[]).run P w = .ok (.slice (some ⟨w.heap.size, 0, none⟩) 0 0) (w.alloc (.cells #[] e)) := by
  simp [Instr.buildSlice, run_underlying hu, sizeOf, typeInfo, hi, newRow, Instr.fill, Array.range_zero']

theorem buildSlice_run {P : Program} {w : World} {t te' : TypeId} {len : Nat} {parts : Array (Nat × Operand)} {ev : Operand → Value} {e : Ty} (hu : P.underlying t = some (.slice te')) (hT : TyOk P e te')
    (h1 : parts.toList.map (·.1) = List.range len) (h2 : len * e.size ≤ 65536) (h3 : 1 ≤ e.size) (hcs : ∀ v ∈ (parts.toList.map (·.2)).map ev, v.cells.size = e.size) :
    ∃ cells : Array Value, (Instr.buildSlice t len (parts.map fun (i, x) => (i, ev x))).run P w = .ok (.slice (some ⟨w.heap.size, 0, none⟩) len len) (w.alloc (.cells cells te')) ∧
      cells.size = len * e.size ∧ cells.toList = ((parts.toList.map (·.2)).map fun q => (ev q).cells.toList).flatten := by
  obtain ⟨i, i1, i2, i3, i4, i5, _⟩ := hT.base
  have hpl0 : (parts.toList.map (·.2)).length = len := by
    rw [List.length_map]
    have := congrArg List.length h1
    simpa using this
  have hpe : (parts.map fun (i, x) => (i, ev x)).toList = (((parts.toList.map (·.2)).map ev).zipIdx 0).map fun x => (x.2, x.1) := by
    rw [Array.toList_map, List.map_map]
    have := zip_parts ev parts.toList 0 len (by rw [h1, List.range_eq_range'])
    exact this
  have hvl : ((parts.toList.map (·.2)).map ev).length = len := by rw [List.length_map, hpl0]
  by_cases hz : len = 0
  · subst hz
    have hpn : parts.toList = [] := by
      have := congrArg List.length h1
      exact List.eq_nil_of_length_eq_zero (by simpa using this)
    have hpn' : parts = #[] := by apply Array.ext'; exact hpn
    subst hpn'
    exact ⟨#[], by rw [Array.map_empty]; exact run_buildSlice_nil w t te' i hu i1, by simp, rfl⟩
  · have hfd := Great.fill_dense (s := e.size) (by omega) ((parts.toList.map (·.2)).map ev) 0 ((Array.range (len * i.size)).map ((zval e).cells[· % (zval e).cells.size]!)) hcs (by rw [hvl, i2]; simp)
    obtain ⟨r, r1, r2, r3⟩ := hfd
    refine ⟨r, ?_, by rw [r2, i2]; simp, ?_⟩
    · refine run_buildSlice w t te' len _ r i (zval e) hu i1 i3 ?_ ?_ ?_
      · rw [i2]; omega
      · rw [i2]
        intro h0
        rcases Nat.mul_eq_zero.1 h0 with h0 | h0 <;> omega
      · rw [hpe, i2]
        rw [i2] at r1
        exact r1
    · have hl2 : ((parts.toList.map (·.2)).map fun q => (ev q).cells.toList).length = len := by rw [List.length_map, hpl0]
      apply List.ext_getElem?
      intro k
      have hrk := r3 k
      rw [hvl] at hrk
      rw [Array.getElem?_toList, hrk]
      by_cases hk : k < len * e.size
      · rw [if_pos ⟨by omega, by rw [Nat.zero_add]; exact hk⟩, flatten_at e.size (by omega) _ (by
          intro x hx
          obtain ⟨q, hq, rfl⟩ := List.mem_map.1 hx
          have := hcs (ev q) (List.mem_map.2 ⟨q, hq, rfl⟩)
          simpa using this) k (by rw [hl2]; exact hk)]
        rw [Nat.sub_zero]
        have e1 : ((parts.toList.map (·.2)).map ev)[k / e.size]? = ((parts.toList.map (·.2))[k / e.size]?).map ev := List.getElem?_map ..
        have e2 : ((parts.toList.map (·.2)).map fun q => (ev q).cells.toList)[k / e.size]? = ((parts.toList.map (·.2))[k / e.size]?).map fun q => (ev q).cells.toList := List.getElem?_map ..
        rw [e1, e2]
        cases hq : (parts.toList.map (·.2))[k / e.size]? with
        | none => rfl
        | some q => show (ev q).cells[k % e.size]? = (ev q).cells.toList[k % e.size]?; simp
      · rw [if_neg (by rw [Nat.zero_add]; omega), Array.getElem?_eq_none (by simp [i2]; omega), List.getElem?_eq_none]
        rw [List.length_flatten]
        have : (((parts.toList.map (·.2)).map fun q => (ev q).cells.toList).map List.length) = List.replicate len e.size := by
          apply List.eq_replicate_iff.2
          refine ⟨by rw [List.length_map, hl2], fun x hx => ?_⟩
          obtain ⟨y, hy, rfl⟩ := List.mem_map.1 hx
          obtain ⟨q, hq, rfl⟩ := List.mem_map.1 hy
          have := hcs (ev q) (List.mem_map.2 ⟨q, hq, rfl⟩)
          simpa using this
        rw [this, List.sum_replicate_nat]
        omega
  theorem ptrs_cells {c : Cx} (f : Operand → AV) (g : Operand → Value) (hfg : ∀ q, VR c (f q) (g q)) : ∀ (l : List Operand), ptrsOk (l.map f) = true →
    CRs c (l.map f) (l.map fun q => (g q).cells.toList).flatten ∧ Shps (opqs l.length) (l.map f) ∧ ∀ v ∈ l.map g, v.cells.size = 1
  | [], _ => ⟨rfl, trivial, fun v h => by cases h⟩
  | q :: l, h => by
    have h : ((match f q with | .ptr _ _ => true | .con (.pointer none) => true | _ => false) && ptrsOk (l.map f)) = true := h
    rw [Bool.and_eq_true] at h
    obtain ⟨h1, h2⟩ := h
    obtain ⟨g1, g2, g3⟩ := ptrs_cells f g hfg l h2
    have hv := hfg q
    have key : CR c (f q) (g q).cells.toList ∧ Shp (.opq 0) (f q) ∧ (g q).cells.size = 1 := by
      split at h1
      · rename_i id p hq
        rw [hq] at hv ⊢
        obtain ⟨off, u, k1, k2⟩ := VR_ptr hv
        exact ⟨hv.1, trivial, by rw [k2]; rfl⟩
      · rename_i hq
        rw [hq] at hv ⊢
        obtain ⟨k1, _⟩ := VR_con hv
        exact ⟨hv.1, trivial, by rw [k1]; rfl⟩
      · cases h1
    refine ⟨⟨_, _, by rw [List.map_cons, List.flatten_cons], key.1, g1⟩, ⟨key.2.1, g2⟩, fun v hv => ?_⟩
    rcases List.mem_cons.1 hv with rfl | hv
    · exact key.2.2
    · exact g3 v hv
theorem wf_opqs : ∀ n, WfT (opqs n) ∧ chain (opqs n)
  | 0 => ⟨trivial, trivial⟩
  | n + 1 => ⟨⟨trivial, (wf_opqs n).2, (wf_opqs n).1⟩, trivial⟩
theorem ex_buildSlice {t : TypeId} {len : Nat} {parts : Array (Nat × Operand)} (hE : EnvT E X.P) (R : RR X ρ s a w) (ho : o.op = .buildSlice t len parts) (h : av E s (opn s.fr) d (.buildSlice t len parts) C) :
    ∃ s' v z w' ρ', C s' v ∧ (execOp a.eval o).run X.P w = .ok (.value z) w' ∧ RR X ρ' s' a w' ∧ VR (cx X ρ' s'.hp w') v z ∧ (cls o = 2 → Below w.heap.size w w') := by
  simp only [av, clrK_eq, putbK_eq, frzK_eq] at h
  split at h
  · rename_i e te ht het
    obtain ⟨te', hu, hT⟩ := TyOk_sl (hE.tt t _ ht)
    have hu2 := hE.et t te het
    obtain rfl : te' = te := by rw [hu] at hu2; cases hu2; rfl
    have hW := TyOk.wf _ _ hT
    obtain ⟨i, i1, i2, i3, i4, i5, _⟩ := hT.base
    split at h
    · rename_i xs hx
      obtain ⟨h1, hC⟩ := cond_elim h
      rw [Bool.and_eq_true, Bool.and_eq_true] at h1
      obtain ⟨⟨h1, h2⟩, h3⟩ := h1
      have h1 := of_decide_eq_true h1
      have h2 := Nat.le_of_ble_eq_true h2
      have h3 := Nat.le_of_ble_eq_true h3
      have h4 : len ≤ 65536 := Nat.le_trans (Nat.le_mul_of_pos_right len (by omega)) h2
      obtain ⟨hext, R1⟩ := R.freezes (owns.ownss (parts.toList.map fun p => opn s.fr p.2))
      have hfg : ∀ q, VR (cx X ρ (fzs s.hp (owns.ownss (parts.toList.map fun p => opn s.fr p.2))) w) (opn s.fr q) (a.eval q) := fun q => VR_opn R1 q
      have hpl : (parts.toList.map fun p => opn s.fr p.2) = (parts.toList.map (·.2)).map (opn s.fr) := by rw [List.map_map]; rfl
      rw [show packAll (fzs s.hp (owns.ownss (parts.toList.map fun p => opn s.fr p.2))) e (parts.toList.map fun p => opn s.fr p.2) = packAll (fzs s.hp (owns.ownss (parts.toList.map fun p => opn s.fr p.2))) e ((parts.toList.map (·.2)).map (opn s.fr)) by rw [← hpl]] at hx
      obtain ⟨g1, g2⟩ := packAll_enc R1 (opn s.fr) a.eval hfg _ xs hx
      have hlen : xs.length = len := by
        rw [g1, List.length_map]
        have := congrArg List.length h1
        simpa using this
      have hpe : (parts.map fun (i, x) => (i, a.eval x)).toList = (((parts.toList.map (·.2)).map a.eval).zipIdx 0).map fun x => (x.2, x.1) := by
        rw [Array.toList_map, List.map_map]
        have := zip_parts a.eval parts.toList 0 len (by rw [h1, List.range_eq_range'])
        exact this
      have hvl : ((parts.toList.map (·.2)).map a.eval).length = len := by rw [List.length_map, ← g1, hlen]
      have hcs : ∀ v ∈ (parts.toList.map (·.2)).map a.eval, v.cells.size = e.size := by
        have key : ∀ (l : List Operand) (ys : List e.den), packAll (fzs s.hp (owns.ownss (parts.toList.map fun p => opn s.fr p.2))) e (l.map (opn s.fr)) = some ys → ∀ v ∈ l.map a.eval, v.cells.size = e.size := by
          intro l
          induction l with
          | nil => intro ys _ v hv; simp at hv
          | cons q l ih =>
            intro ys hp v hv
            simp only [List.map_cons, packAll] at hp
            split at hp
            · rename_i y hy
              split at hp
              · rename_i zs hz
                simp only [List.map_cons, List.mem_cons] at hv
                rcases hv with rfl | hv
                · have := Enc_length _ _ _ (pack_cells R1 hy (hfg q))
                  simpa using this
                · exact ih zs hz v hv
              · cases hp
            · cases hp
        exact key _ _ hx
      -- the machine's row
      obtain ⟨cells, hrun, hsz, hcells⟩ := buildSlice_run (P := X.P) (w := w) (ev := a.eval) hu hT h1 h2 h3 hcs
      obtain ⟨R', hv⟩ := RR.newRow R1 d te' e xs cells w rfl R1.below hW len (by omega) (by have : maxLen = 9223372036854775807 := rfl; omega) (by omega) (fun h0 => by rw [← hlen, h0]; rfl) hsz (by
        rw [hcells, List.take_of_length_le]
        · exact g2
        · rw [EncL_length (fun x vs h => Enc_length e x vs h) xs _ g2]; exact Nat.le_refl _)
      rw [hlen] at hv
      refine ⟨_, _, .slice (some ⟨w.heap.size, 0, none⟩) len len, _, _, hC, ?_, R', hv, fun _ => (Below.refl _ _).alloc (Nat.le_refl _) _⟩
      simp only [execOp, ho, Sem.run_bind, hrun, Result.andThen_ok, Sem.run_pure]
    · obtain ⟨h0, h⟩ := cond_elim h
      obtain ⟨h1, hC⟩ := cond_elim h
      obtain rfl := of_decide_eq_true h0
      simp only [Bool.and_eq_true] at h1
      obtain ⟨⟨⟨h1, h2⟩, h3⟩, h4⟩ := h1
      have h1 := of_decide_eq_true h1
      have h2 := Nat.le_of_ble_eq_true h2
      have h3 := Nat.le_of_ble_eq_true h3
      have hpl : (parts.toList.map fun p => opn s.fr p.2) = (parts.toList.map (·.2)).map (opn s.fr) := by rw [List.map_map]; rfl
      have hpl0 : (parts.toList.map (·.2)).length = len := by
        rw [List.length_map]
        have := congrArg List.length h1
        simpa using this
      rw [hpl] at h4
      obtain ⟨g1, g2, g3⟩ := ptrs_cells (opn s.fr) a.eval (fun q => VR_opn R q) _ h4
      rw [hpl0] at g2
      obtain ⟨cells, hrun, hsz, hcells⟩ := buildSlice_run (P := X.P) (w := w) (ev := a.eval) hu hT h1 (by simp only [Ty.size]; omega) (by simp [Ty.size]) g3
      rw [hpl] at hC
      obtain ⟨hx, R'⟩ := R.fresh d (.var (opqs len) (.agg (kills d ((parts.toList.map (·.2)).map (opn s.fr)))) false) (.cells cells te') w rfl R.below (by
        intro c' hc hx hh
        refine ⟨?_, _, te', by subst hc; exact hh, CR_ext hx (.agg _) _ (kills_free d _) (CRs_kill _ d _ _ (by rw [hcells]; exact g1)), ?_, (wf_opqs len).1, by cases len <;> trivial⟩
        · subst hc
          show X.base ≤ upd ρ d w.heap.size d
          rw [upd_same]; exact R.base_le
        · have := Shps_kill d _ _ g2
          match len, h2, this with
          | n + 1, _, this =>
            cases hl : kills d ((parts.toList.map (·.2)).map (opn s.fr)) with
            | nil => rw [hl] at this; exact this.elim
            | cons v l => rw [hl] at this; exact this)
      refine ⟨_, _, .slice (some ⟨w.heap.size, 0, none⟩) len len, _, _, hC, ?_, R', ?_, fun _ => (Below.refl _ _).alloc (Nat.le_refl _) _⟩
      · simp only [execOp, ho, Sem.run_bind, hrun, Result.andThen_ok, Sem.run_pure]
      · refine ⟨⟨⟨.agg (kills d ((parts.toList.map (·.2)).map (opn s.fr))), false, ?_⟩, h3, ?_⟩, rfl⟩
        · show lkb ((d, _) :: _) d = _
          rw [lkb_cons, if_pos rfl]
        · show [_] = [Value.slice (some ⟨upd ρ d w.heap.size d, 0, none⟩) len len]
          rw [upd_same]
  · exact h.elim
end
end Go.Proofs.YtoihmfgkmndjfaaV
/- What is appended. -/
set_option linter.unusedVariables false
set_option linter.unusedSimpArgs false
namespace Go.Proofs.YtoihmfgkmndjfaaV
open Go.RowKit

theorem run_append_none {P : Program} (w : World) (t tx ty e : TypeId) (i : TypeInfo) (ht : P.underlying t = some (.slice e)) (hi : P.info? e = some i) (A : Option Addr) (sLen sCap : Nat) (x : Value)
    (hs : Src P i.size tx x 0 [] w) (h : sLen ≤ sCap) : (Builtin.append_ #[t, tx] ty #[.slice A sLen sCap, x]).run P w = .ok (.slice A sLen sCap) w := by
  rcases hs.kind with ⟨e', hk⟩ | hk <;> cases A <;> simp [Builtin.append_, run_underlying ht, run_underlying hk, sizeOf, typeInfo, hi, hs.len, hs.cells, h, storeCells]

section
variable {E : Env} {X : Fix} {ρ : Nat → Nat} {s : St} {a : Act} {w : World} {C : St → AV → Prop} {o : Oper} {d : Nat}

theorem rowOf_cells (R : RR X ρ s a w) {e : Ty} {v : AV} {ys : List e.den} {x : Value} (h : rowOf s.hp e v = some ys) (hv : VR (cx X ρ s.hp w) v x) :
    ∃ A c, x = .slice A ys.length c ∧ (ys = [] → A = none → c = 0) ∧ ∃ news : List Value, EncL (Enc (okC X ρ s.hp w) w e) ys news ∧ news.length = ys.length * e.size ∧
      (ys ≠ [] → ∃ b o, A = some ⟨b, o, none⟩ ∧ ∀ j, j < news.length → w.cell? ⟨b, o + j, none⟩ = news[j]?) := by
  cases v with
  | ro e' xs =>
    simp only [rowOf] at h
    split at h
    · rename_i he; subst he
      cases h
      obtain ⟨A, n, ex, s1, s2, s3, s4, s5⟩ := VR_ro hv
      refine ⟨A, n, ex, s4, ?_⟩
      by_cases hne : xs = []
      · subst hne; exact ⟨[], rfl, by simp [castL_eq], fun h => absurd rfl h⟩
      · obtain ⟨b, o, hA, hb, hc⟩ := s5 hne
        obtain ⟨vs, g1, g2, g3⟩ := EncL_of (m := e'.size) (E := Enc (okC X ρ s.hp w) w e') xs (fun k => w.cell? ⟨b, o + k, none⟩) (fun i hi => by
          obtain ⟨cs, k1, k2, k3⟩ := hc i hi
          exact ⟨cs, k1, fun j hj => by rw [← k2 j hj, Nat.add_assoc]; rfl, k3⟩)
        exact ⟨vs, g1, g2, fun _ => ⟨b, o, hA, g3⟩⟩
    · cases h
  | con u =>
    have hu : u = .slice none 0 0 ∧ ys = [] := by
      cases u with
      | slice A n c =>
        cases A with
        | some A => simp [rowOf] at h
        | none => cases n with
          | succ n => simp [rowOf] at h
          | zero => cases c with
            | succ c => simp [rowOf] at h
            | zero => simp only [rowOf, Option.some.injEq] at h; exact ⟨rfl, h.symm⟩
      | _ => simp [rowOf] at h
    obtain ⟨rfl, rfl⟩ := hu
    obtain ⟨ex, _⟩ := VR_con hv
    exact ⟨none, 0, ex, fun _ _ => rfl, [], rfl, by simp, fun h => absurd rfl h⟩
  | own id =>
    simp only [rowOf] at h
    split at h
    · rename_i te e' xs f hb
      split at h
      · rename_i he; subst he
        cases h
        have hO := VR_own hv
        unfold OwnV at hO
        rw [show (cx X ρ s.hp w).hp = s.hp from rfl, hb] at hO
        obtain ⟨A, m, g1, g2, g2', g3, g4⟩ := hO
        refine ⟨A, m, by simpa [castL_eq] using g1, fun h _ => g3 h, ?_⟩
        by_cases hne : xs = []
        · subst hne; exact ⟨[], rfl, by simp [castL_eq], fun h => absurd rfl h⟩
        · have hh := R.heap id
          rw [hb] at hh
          obtain ⟨_, hh⟩ := hh
          obtain ⟨q1, cs, q2, q3, q4⟩ := hh hne
          have q2 : w.heap[ρ id]? = some (.cells cs te (0, 0)) := q2
          refine ⟨_, q4, by rw [List.length_take, castL_eq]; have : cs.toList.length = cs.size := Array.length_toList; omega, fun _ => ⟨ρ id, 0, (g4 hne).1, fun j hj => ?_⟩⟩
          rw [cell_of_block q2, List.getElem?_take, if_pos (by rw [List.length_take] at hj; omega)]
          simp
      · cases h
    · cases h
  | vw id l hi =>
    simp only [rowOf] at h
    split at h
    · rename_i te e' xs f hb
      split at h
      · rename_i he; subst he
        cases h
        have hV := VR_vw hv
        unfold VwV at hV
        rw [show (cx X ρ s.hp w).hp = s.hp from rfl, hb] at hV
        obtain ⟨h0, A, m, g1, g2, g2', g2'', g3, g4⟩ := hV
        have ex : x = .slice A (hi - l).toNat m := by simpa using g1
        have hl : (((castL rfl xs).take hi.toNat).drop l.toNat).length = (hi - l).toNat := by rw [castL_eq]; simp; omega
        refine ⟨A, m, by rw [hl]; exact ex, fun h hA => g3 (by rw [← hl, h]; rfl) hA, ?_⟩
        simp only [castL_eq] at hl ⊢
        by_cases hne : (xs.take hi.toNat).drop l.toNat = []
        · rw [hne]; exact ⟨[], rfl, by simp, fun h => absurd rfl h⟩
        · have hpos : 0 < (hi - l).toNat := by
            rw [← hl]; exact List.length_pos_iff.2 hne
          have hxn : xs ≠ [] := fun e => by subst e; simp at h0; omega
          have hh := R.heap id
          rw [hb] at hh
          obtain ⟨_, hh⟩ := hh
          obtain ⟨q1, cs, q2, q3, q4⟩ := hh hxn
          have q2 : w.heap[ρ id]? = some (.cells cs te (0, 0)) := q2
          have q4 : EncL (Enc (okC X ρ s.hp w) w e') xs (cs.toList.take (xs.length * e'.size)) := q4
          obtain ⟨vs, k1, k2, k3⟩ := EncL_of (m := e'.size) (E := Enc (okC X ρ s.hp w) w e') ((xs.take hi.toNat).drop l.toNat) (fun k => w.cell? ⟨ρ id, l.toNat * e'.size + k, none⟩) (fun i hi' => by
            have hi2 : l.toNat + i < xs.length := by rw [hl] at hi'; omega
            obtain ⟨m', m1, m2, m3⟩ := EncL_at (fun x vs h => Enc_length e' x vs h) xs _ q4 (l.toNat + i) hi2
            refine ⟨m', m2, fun j hj => ?_, ?_⟩
            · rw [← m3 j hj, cell_of_block q2, List.getElem?_take, if_pos (by
                have : (l.toNat + i) * e'.size + e'.size ≤ xs.length * e'.size := by rw [← Nat.succ_mul]; exact Nat.mul_le_mul_right _ (by omega)
                omega)]
              rw [Array.getElem?_toList]
              congr 1
              rw [Nat.add_mul]; omega
            · have : ((xs.take hi.toNat).drop l.toNat)[i] = xs[l.toNat + i] := by simp
              rw [this]; exact m1)
          exact ⟨vs, k1, k2, fun _ => ⟨ρ id, l.toNat * e'.size, g4 hpos, k3⟩⟩
      · cases h
    · cases h
  | _ => simp [rowOf] at h

theorem rowOf_src (R : RR X ρ s a w) {e : Ty} {v : AV} {ys : List e.den} {x : Value} (h : rowOf s.hp e v = some ys) (hv : VR (cx X ρ s.hp w) v x) {tx te' : TypeId} (hk : X.P.underlying tx = some (.slice te')) :
    ∃ news : List Value, EncL (Enc (okC X ρ s.hp w) w e) ys news ∧ news.length = ys.length * e.size ∧ Src X.P e.size tx x ys.length news w := by
  obtain ⟨A, c, rfl, h1, news, h2, h3, h4⟩ := rowOf_cells R h hv
  refine ⟨news, h2, h3, ?_⟩
  by_cases hne : ys = []
  · subst hne
    obtain rfl : news = [] := h2
    cases A with
    | none => exact Src.ofNil w hk c
    | some q => exact Src.ofSlice w hk q 0 c [] (by simp) (fun j u hj => by simp at hj) (fun u hu => by simp at hu)
  · obtain ⟨b, o, rfl, h5⟩ := h4 hne
    refine Src.ofSlice w hk ⟨b, o, none⟩ _ c news h3 (fun j u hj => ?_) (EncL_one ys news h2)
    have hlt : j < news.length := by
      rcases Nat.lt_or_ge j news.length with h | h
      · exact h
      · rw [List.getElem?_eq_none h] at hj; cases hj
    rw [Addr.add_mid, h5 j hlt]; exact hj

theorem ub_pos : ∀ e : Ty, 1 ≤ e.size → 1 ≤ e.ub
  | .int _, _ => by show 1 ≤ 8; omega
  | .bool, _ => by show 1 ≤ 8; omega
  | .str, _ => by show 1 ≤ 16; omega
  | .opq _, _ => by show 1 ≤ 16; omega
  | .sl _, _ => by show 1 ≤ 24; omega
  | .unit, h => by cases h
  | .pair a b, h => by
    have h : 1 ≤ a.size + b.size := h
    show 1 ≤ a.ub + b.ub
    by_cases ha : 1 ≤ a.size
    · have := ub_pos a ha; omega
    · have := ub_pos b (by omega); omega
  | .arr n e, h => by
    have h : 1 ≤ n * e.size := h
    show 1 ≤ n * e.ub
    have h1 : 0 < n := Nat.pos_of_ne_zero (fun h0 => by rw [h0, Nat.zero_mul] at h; omega)
    have h2 : 1 ≤ e.size := Nat.pos_of_ne_zero (fun h0 => by rw [h0, Nat.mul_zero] at h; omega)
    exact Nat.mul_pos h1 (ub_pos e h2)
theorem room47 {e : Ty} {n : Nat} (h1 : 1 ≤ e.ub) (h : n ≤ 4294967296 ∨ n * e.ub ≤ 140737488355328) : n ≤ 140737488355328 := by
  rcases h with h | h
  · omega
  · have := Nat.le_mul_of_pos_right n h1
    omega
theorem strOf_src {e : Ty} {v : AV} {ys : List e.den} {x : Value} {c : Cx} (h : strOf e v = some ys) (hv : VR c v x) {P : Program} {tx : TypeId} (hk : P.underlying tx = some .string) (ok : Nat → Prop) (w : World) :
    ∃ news : List Value, EncL (Enc ok w e) ys news ∧ news.length = ys.length * e.size ∧ Src P e.size tx x ys.length news w := by
  unfold strOf at h
  split at h
  · rename_i s
    split at h
    · rename_i he; subst he
      obtain ⟨zs, hzs⟩ : ∃ zs : List Int, zs = s.data.toList.map fun b => (b.toNat : Int) := ⟨_, rfl⟩
      have h : some zs = some ys := by rw [hzs]; exact h
      cases h
      obtain ⟨rfl, _⟩ := VR_str hv
      have hl : List.length (α := Int) ys = s.size := by
        rw [hzs, List.length_map, Array.length_toList]; rfl
      refine ⟨byteCells s, ?_, ?_, ?_⟩
      · have key : ∀ l : List UInt8, EncL (Enc ok w (.int .u8)) (l.map fun b => (b.toNat : Int)) (l.map fun b => Value.int .u8 b.toNat) := by
          intro l
          induction l with
          | nil => rfl
          | cons b l ih => exact ⟨[.int .u8 b.toNat], _, rfl, ⟨rfl, by
              have := b.toNat_lt
              simp [Lit.wf, IntKind.min, IntKind.max, IntKind.signed, IntKind.bits]; omega⟩, ih⟩
        rw [hzs]; exact key _
      · rw [byteCells_length]; show _ = List.length _ * 1; rw [Nat.mul_one]; exact hl.symm
      · have := Src.ofString (P := P) w hk s
        rw [← hl] at this; exact this
    · cases h
  · cases h
theorem srcOf_src (hE : EnvT E X.P) (R : RR X ρ s a w) {e : Ty} {v : AV} {ys : List e.den} {x : Value} {t2 : TypeId} (h : srcOf s.hp e (lkT E.tt t2) v = some ys) (hv : VR (cx X ρ s.hp w) v x) :
    ∃ news : List Value, EncL (Enc (okC X ρ s.hp w) w e) ys news ∧ news.length = ys.length * e.size ∧ Src X.P e.size t2 x ys.length news w := by
  unfold srcOf at h
  split at h
  · rename_i e2 ht2
    obtain ⟨te2, hu3, _⟩ := TyOk_sl (hE.tt t2 _ ht2)
    cases hd : decide (e2 = e) with
    | false => rw [hd] at h; cases h
    | true => rw [hd] at h; exact rowOf_src R h hv hu3
  · rename_i ht2
    exact strOf_src h hv (hE.tt t2 _ ht2).2 _ _
  · cases h

theorem grow_size {e : Ty} {l : List Value} {n m : Nat} (hl : l.length = n * e.size) (hm : n ≤ m) : (l.toArray ++ Builtin.zeroCells (zval e).cells (m - n)).size = m * e.size := by
  have : (Builtin.zeroCells (zval e).cells (m - n)).size = (m - n) * e.size := by
    unfold Builtin.zeroCells
    rw [Array.size_map, Array.size_range, zval_cells]
    simp [zcs_length]
  rw [Array.size_append, this]
  have : l.toArray.size = n * e.size := by simpa using hl
  rw [this, ← Nat.add_mul]
  congr 1; omega

theorem ofVal_own (v : Value) (id : Nat) (h : ofVal v = .own id) : False := by
  unfold ofVal at h
  split at h
  · cases h
  rotate_right
  · cases h
  · rename_i k n
    cases hw : (Lit.int k n).wf <;> rw [hw] at h <;> cases h
  · rename_i s
    cases hw : Nat.ble s.size 9223372036854775807 <;> rw [hw] at h <;> cases h
  · cases h
  · cases h
  · cases h
  · cases h
theorem ex_append {c : Call} (hE : EnvT E X.P) (R : RR X ρ s a w) (ho : o.op = .call c) (hc : c.callee = .builtin .append) (h : av E s (opn s.fr) d (.call c) C) :
    ∃ s' v z w' ρ', C s' v ∧ (execOp a.eval o).run X.P w = .ok (.value z) w' ∧ RR X ρ' s' a w' ∧ VR (cx X ρ' s'.hp w') v z ∧ (cls o = 2 → Below w.heap.size w w') := by
  simp only [av, clrK_eq, putbK_eq, frzK_eq] at h
  split at h
  · rename_i x y t t2 hcc hargs htys
    have hx := VR_opn R x
    have hy := VR_opn R y
    have hargs' : c.args.map a.eval = #[a.eval x, a.eval y] := by
      have : c.args = #[x, y] := by apply Array.ext'; simpa using hargs
      simp [this]
    have htys' : c.argTypes = #[t, t2] := by apply Array.ext'; simpa using htys
    have key : ∀ z w', (Builtin.append_ #[t, t2] o.type #[a.eval x, a.eval y]).run X.P w = .ok z w' → (execOp a.eval o).run X.P w = .ok (.value z) w' := by
      intro z w' hz
      simp only [execOp, ho, resolve, hc, invoke, builtin, Sem.run_bind, Sem.run_pure, Result.andThen_ok, htys', hargs', hz]
    have hcl : cls o = 2 → ∀ id, opn s.fr x ≠ .own id := by
      intro h2 id he
      unfold cls at h2
      rw [ho] at h2
      simp only [hc, hargs] at h2
      cases x with
      | const v => exact ofVal_own v id he
      | _ => simp at h2
    generalize opn s.fr x = va at h hx hcl
    generalize opn s.fr y = vb at h hy
    have hm : maxLen = 9223372036854775807 := rfl
    split at h
    · rename_i e te ht het
      split at h
      · rename_i ys hys
        obtain ⟨h3, h⟩ := cond_elim h
        have h3 := Nat.le_of_ble_eq_true h3
        obtain ⟨te', hu, hT⟩ := TyOk_sl (hE.tt t _ ht)
        have hu2 := hE.et t te het
        obtain rfl : te' = te := by rw [hu] at hu2; cases hu2; rfl
        have hW := TyOk.wf _ _ hT
        obtain ⟨i, i1, i2, i3, i4, i5, _⟩ := hT.base
        obtain ⟨news, n1, n2, n3⟩ := srcOf_src hE R hys hy
        have n3' : Src X.P i.size t2 (a.eval y) ys.length news w := by rw [i2]; exact n3
        have hub := ub_pos e h3
        have hfit : ∀ k old, old < k → (k ≤ 4294967296 ∨ k * e.ub ≤ 140737488355328) → Builtin.nextslicecap k old * i.bytes ≤ 281474976710656 := by
          intro k old hlt hk
          have h1 := nextslicecap_le hlt
          rcases hk with hk | hk
          rotate_left
          · have : Builtin.nextslicecap k old * i.bytes ≤ (2 * k) * e.ub := Nat.mul_le_mul h1 i5
            rw [Nat.mul_assoc] at this
            omega
          have : Builtin.nextslicecap k old * i.bytes ≤ 8589934592 * 32768 := Nat.mul_le_mul (by omega) i4
          omega
        split at h
        · -- onto nil
          obtain ⟨h4, hC⟩ := roomK_out h
          have h47 := room47 hub h4
          obtain ⟨ex, _⟩ := VR_con hx
          by_cases hne : ys = []
          · subst hne
            obtain rfl : news = [] := n1
            have hr := run_append_none w t t2 o.type te' i hu i1 none 0 0 (a.eval y) n3' (Nat.le_refl _)
            obtain ⟨hx', R'⟩ := RR.turnC (ρ' := ρ) (w' := w) R d (.row te' e [] false) (fun _ _ => rfl) R.below (Nat.le_refl _) (fun _ _ _ => rfl) (fun hl => absurd rfl hl) (fun hl => absurd rfl hl) (fun c' _ _ => ⟨hW, fun hl => absurd rfl hl⟩)
            refine ⟨_, _, _, _, _, hC, key _ _ (by rw [ex]; exact hr), R', ?_, fun _ => Below.refl _ _⟩
            exact VR_own_of (xs := ([] : List e.den)) (show lkb ((d, Blk.row te' e [] false) :: (s.clr d).hp) d = .row te' e [] false by rw [lkb_cons, if_pos rfl]) (Nat.zero_le _) (Nat.zero_le _) (fun _ => rfl) (fun hl => absurd rfl hl)
          · have hpos : 0 < ys.length := by cases ys with | nil => exact absurd rfl hne | cons _ _ => simp
            have hr := run_append_grow_src (P := X.P) w t t2 o.type te' i (zval e) hu i1 i3 none 0 0 [] (run_firstCells_none _ _ _ _ _) (a.eval y) ys.length news n3' (by omega) (by omega) (hfit _ _ (by omega) (by rw [Nat.zero_add]; exact h4))
            simp only [Nat.zero_add, List.nil_append] at hr
            have hge := grownCap_ge w ys.length 0 te'
            obtain ⟨R', hv⟩ := RR.newRow R d te' e ys (news.toArray ++ Builtin.zeroCells (zval e).cells (grownCap w ys.length 0 te' - ys.length)) w.drew rfl R.below.drew hW (grownCap w ys.length 0 te') hge
              (grownCap_le_maxLen w _ _ _ (by omega)) (by omega) (fun h0 => absurd h0 hne) (grow_size n2 hge) (by
                rw [Array.toList_append, List.take_append_of_le_length (by simp [n2]), List.take_of_length_le (by simp [n2])]
                exact n1)
            exact ⟨_, _, _, _, _, hC, key _ _ (by rw [ex]; exact hr), R', hv, fun _ => (Below.refl _ _).drew.alloc (Nat.le_refl _) _⟩
        · -- onto a row of its own
          rename_i id _
          split at h
          · rename_i te2' e' xs hb
            split at h
            · rename_i zs hzs
              obtain ⟨h5, h⟩ := cond_elim h
              obtain ⟨h4, hC⟩ := roomK_out h
              obtain rfl := Nat.eq_of_beq_eq_true h5
              simp only [rowOf, hb] at hzs
              split at hzs
              · rename_i he; subst he
                cases hzs
                simp only [castL_eq] at h4 hC
                have h47 := room47 hub h4
                have hO := VR_own hx
                unfold OwnV at hO
                rw [show (cx X ρ s.hp w).hp = s.hp from rfl, hb] at hO
                obtain ⟨A, m, g1, g2, g2', g3, g4⟩ := hO
                have ex : a.eval x = .slice A xs.length m := by simpa using g1
                have hlm : xs.length ≤ m := by
                  by_cases hx : xs = []
                  · subst hx; simp
                  · exact (g4 hx).2.1
                have hlk : lkb ((id, Blk.row te2' e' (xs ++ ys) false) :: (s.clr id).hp) id = .row te2' e' (xs ++ ys) false := by rw [lkb_cons, if_pos rfl]
                by_cases hne : ys = []
                · subst hne
                  obtain rfl : news = [] := n1
                  have hr := run_append_none w t t2 o.type te2' i hu i1 A xs.length m (a.eval y) n3' hlm
                  obtain ⟨hx', R'⟩ := RR.turnC (ρ' := ρ) (w' := w) R id (.row te2' e' (xs ++ []) false) (fun _ _ => rfl) R.below (Nat.le_refl _) (fun _ _ _ => rfl)
                    (fun hl => .inl ⟨rfl, by rw [hb]; simpa [live, liveW] using hl⟩) (fun hl => (R.lt (by rw [hb]; simpa [live] using hl)).2) (fun c' hc hx' => by
                      have hh := R.heap id
                      rw [hb] at hh
                      refine ⟨hW, fun hl => ?_⟩
                      obtain ⟨q1, cs, q2, q3, q4⟩ := hh.2 (by simpa using hl)
                      refine ⟨by subst hc; exact q1, cs, by subst hc; exact q2, by simpa using q3, ?_⟩
                      rw [List.append_nil]
                      exact EncL_mono (fun x vs h => Enc_mono hx'.ok e' x vs h) _ _ q4)
                  refine ⟨_, _, _, _, _, hC, key _ _ (by rw [ex]; exact hr), R', ?_, fun h2 => absurd rfl (hcl h2 _)⟩
                  have := VR_own_of (c := cx X ρ ((id, Blk.row te2' e' (xs ++ []) false) :: (s.clr id).hp) w) (A := A) (n := m) hlk (by omega) (by simpa using g2') (fun h0 => g3 (by simpa using h0)) (fun hl => by
                    obtain ⟨k1, k2, k3⟩ := g4 (by simpa using hl)
                    exact ⟨k1, by simpa using k2, k3⟩)
                  rw [List.length_append, List.length_nil, Nat.add_zero] at this
                  exact this
                · have hpos : 0 < ys.length := by cases ys with | nil => exact absurd rfl hne | cons _ _ => simp
                  have hne2 : xs ++ ys ≠ [] := by simp [hne]
                  by_cases hroom : xs.length + ys.length ≤ m
                  · -- there is room
                    have hxn : xs ≠ [] := fun h0 => by have := g3 h0; omega
                    obtain ⟨k1, k2, k3⟩ := g4 hxn
                    have hh := R.heap id
                    rw [hb] at hh
                    obtain ⟨q1, cs, q2, q3, q4⟩ := hh.2 hxn
                    have q2 : w.heap[ρ id]? = some (.cells cs te2' (0, 0)) := q2
                    have k3 : cellsN w (ρ id) = m * e'.size := k3
                    have q4 : EncL (Enc (okC X ρ s.hp w) w e') xs (cs.toList.take (xs.length * e'.size)) := q4
                    have hcs : cs.size = m * e'.size := by rw [← cellsN_of q2, k3]
                    have hsz : xs.length * e'.size + news.length ≤ cs.size := by
                      rw [hcs, n2, ← Nat.add_mul]; exact Nat.mul_le_mul_right _ hroom
                    have hr := run_append_room_src (P := X.P) w t t2 o.type te2' i hu i1 (ρ id) 0 xs.length m (a.eval y) ys.length news n3' hroom
                      (fun j hj => by
                        rw [cell_of_block q2, i2, Array.getElem?_eq_getElem (by omega)]; rfl)
                      (fun j hj => by simp [World.frozen?, q2])
                    rw [i2, Nat.zero_add] at hr
                    have hA : (cs.toList.take (xs.length * e'.size)).length = xs.length * e'.size := by rw [List.length_take]; simp; omega
                    have hse := setCells_eq news ((cs.toList.drop (xs.length * e'.size)).take news.length) (cs.toList.take (xs.length * e'.size)) ((cs.toList.drop (xs.length * e'.size)).drop news.length) w cs q2
                      (by rw [List.append_assoc, List.take_append_drop, List.take_append_drop]) (by rw [List.length_take, List.length_drop]; simp; omega)
                    rw [hA] at hse
                    rw [hse] at hr
                    have hsz2 : (cs.toList.take (xs.length * e'.size) ++ news ++ (cs.toList.drop (xs.length * e'.size)).drop news.length).toArray.size = cs.size := by
                      simp; omega
                    obtain ⟨hx', R'⟩ := RR.turnC (ρ' := ρ) (w' := w.setRow (ρ id) (cs.toList.take (xs.length * e'.size) ++ news ++ (cs.toList.drop (xs.length * e'.size)).drop news.length).toArray) R id (.row te2' e' (xs ++ ys) false) (fun _ _ => rfl)
                      (Below_setRow R.below q1 _) (by rw [setRow_size]; exact Nat.le_refl _) (fun k _ hk => setRow_other w _ k _ (hk id rfl (by rw [hb]; exact hxn)))
                      (fun hl => .inl ⟨rfl, by rw [hb]; exact hxn⟩) (fun hl => by rw [setRow_size]; exact (R.lt (by rw [hb]; exact hxn)).2) (fun c' hc hx' => by
                        refine ⟨hW, fun hl => ⟨by subst hc; exact q1, _, by subst hc; exact setRow_heap w _ cs _ te2' (0, 0) q2, by rw [hsz2, List.length_append, Nat.add_mul, ← n2]; omega, ?_⟩⟩
                        have : ((cs.toList.take (xs.length * e'.size) ++ news ++ (cs.toList.drop (xs.length * e'.size)).drop news.length).toArray.toList.take ((xs ++ ys).length * e'.size)) = cs.toList.take (xs.length * e'.size) ++ news := by
                          rw [List.length_append, Nat.add_mul, ← n2]
                          rw [List.take_append_of_le_length (by rw [List.length_append, hA]; omega), List.take_of_length_le (by rw [List.length_append, hA]; omega)]
                        rw [this]
                        exact EncL_append _ _ _ _ (EncL_mono (fun x vs h => Enc_mono hx'.ok e' x vs h) _ _ q4) (EncL_mono (fun x vs h => Enc_mono hx'.ok e' x vs h) _ _ n1))
                    refine ⟨_, _, _, _, _, hC, key _ _ (by rw [ex, k1]; exact hr), R', ?_, fun h2 => absurd rfl (hcl h2 _)⟩
                    have := VR_own_of (c := cx X ρ ((id, Blk.row te2' e' (xs ++ ys) false) :: (s.clr id).hp) (w.setRow (ρ id) (cs.toList.take (xs.length * e'.size) ++ news ++ (cs.toList.drop (xs.length * e'.size)).drop news.length).toArray)) (A := some ⟨ρ id, 0, none⟩) (n := m) hlk (by omega) (by rw [List.length_append]; omega) (fun h0 => absurd h0 hne2) (fun hl => ⟨rfl, by rw [List.length_append]; exact hroom, by
                      show cellsN (w.setRow _ _) (ρ id) = _
                      rw [cellsN_of (setRow_heap w _ cs _ te2' (0, 0) q2), hsz2, hcs]⟩)
                    rw [List.length_append] at this
                    exact this
                  · -- there is none
                    obtain ⟨olds, hold, hol, hoE⟩ : ∃ olds : List Value, (Builtin.firstCells i.size xs.length (.slice A xs.length m)).run X.P w.drew = .ok olds.toArray w.drew ∧ olds.length = xs.length * e'.size ∧ EncL (Enc (okC X ρ s.hp w) w e') xs olds := by
                      have hrow : rowOf s.hp e' (.own id) = some xs := by simp [rowOf, hb, castL_eq]
                      rw [ex] at hx
                      obtain ⟨olds, o1, o2, o3⟩ := rowOf_src R hrow hx hu
                      exact ⟨olds, by rw [i2]; exact o3.cellsD, o2, o1⟩
                    have hr := run_append_grow_src (P := X.P) w t t2 o.type te2' i (zval e') hu i1 i3 A xs.length m olds hold (a.eval y) ys.length news n3' (by omega) (by omega) (hfit _ _ (by omega) h4)
                    have hge := grownCap_ge w (xs.length + ys.length) m te2'
                    have hll : (olds ++ news).length = (xs.length + ys.length) * e'.size := by rw [List.length_append, hol, n2, Nat.add_mul]
                    obtain ⟨R', hv⟩ := RR.newRow R id te2' e' (xs ++ ys) ((olds ++ news).toArray ++ Builtin.zeroCells (zval e').cells (grownCap w (xs.length + ys.length) m te2' - (xs.length + ys.length))) w.drew rfl R.below.drew hW (grownCap w (xs.length + ys.length) m te2') (by rw [List.length_append]; exact hge)
                      (grownCap_le_maxLen w _ _ _ (by omega)) (by rw [List.length_append]; omega) (fun h0 => absurd h0 hne2) (grow_size hll hge) (by
                        rw [Array.toList_append, List.length_append, ← hll, List.take_append_of_le_length (by simp), List.take_of_length_le (by simp)]
                        exact EncL_append _ _ _ _ hoE n1)
                    rw [List.length_append] at hv
                    exact ⟨_, _, _, _, _, hC, key _ _ (by rw [ex]; exact hr), R', hv, fun h2 => absurd rfl (hcl h2 _)⟩
              · cases hzs
            · exact h.elim
          · exact h.elim
        · exact h.elim
      · exact h.elim
    · exact h.elim
  · exact h.elim
end
end Go.Proofs.YtoihmfgkmndjfaaV
/- What writes into a block that is there. -/
set_option linter.unusedVariables false
set_option linter.unusedSimpArgs false
namespace Go.Proofs.YtoihmfgkmndjfaaV
open Go.RowKit

theorem run_storeAt_any {P : Program} (w : World) (b o : Nat) (ty : TypeId) (v : Value) (ht : w.there b o v.cells.size) (hi : (P.info? ty).map (·.size) = some v.cells.size) (h1 : ∀ u ∈ v.cells.toList, u.oneCell' = true) :
    (Instr.storeAt ty (.pointer (some ⟨b, o, none⟩)) v).run P w = .ok () (w.setCells b o v.cells.toList) := by
  have := run_storeCells_cells (P := P) b o v.cells.toList 0 w (fun j hj => by simpa using (ht j (by simpa using hj)).1) (fun j hj => by simpa using (ht j (by simpa using hj)).2) h1
  cases hq : P.info? ty with
  | none => simp [hq] at hi
  | some i =>
    have hs : v.cells.size = i.size := by simp [hq] at hi; omega
    simp only [Nat.add_zero] at this
    simp [Instr.storeAt, Instr.sureAddr, storeVar, sizeOf, typeInfo, hq, hs, this]

section
variable {E : Env} {X : Fix} {ρ : Nat → Nat} {s : St} {a : Act} {w : World} {C : St → AV → Prop} {o : Oper} {d : Nat}

/-- A block of the call's own whose cells are these is written over. -/
theorem RR.over (R : RR X ρ s a w) (d : Nat) (b : Blk) {cur : Array Value} {T : TypeId} (A M B vs : List Value) (hcur : w.heap[ρ d]? = some (.cells cur T (0, 0))) (hl : cur.toList = A ++ M ++ B) (hv : vs.length = M.length)
    (hlw : liveW (lkb s.hp d)) (hbase : X.base ≤ ρ d)
    (hk : ∀ e v f, lkb s.hp d = .var e v f → ∃ v' f', b = .var e v' f')
    (hr : ∀ te e xs f, lkb s.hp d = .row te e xs f → ∃ ys : List e.den, ∃ f', b = .row te e ys f' ∧ ys.length = xs.length)
    (hb : ∀ c', c' = cx X ρ ((d, b) :: s.hp) (w.setCells (ρ d) A.length vs) → Ext (fun _ => False) (cx X ρ s.hp w) c' → c'.w.heap[c'.ρ d]? = some (.cells (A ++ vs ++ B).toArray T (0, 0)) → HB X c' d b) :
    RR X ρ (s.putb d b) a (w.setCells (ρ d) A.length vs) := by
  have he := setCells_eq vs M A B w cur hcur hl hv
  have hh := setRow_heap w (ρ d) cur (A ++ vs ++ B).toArray T (0, 0) hcur
  have hsz : (A ++ vs ++ B).toArray.size = cur.size := by
    have : cur.toList.length = cur.size := Array.length_toList
    rw [hl] at this
    simp at this ⊢
    omega
  rw [he] at hb ⊢
  refine (RR.write (w' := w.setRow (ρ d) (A ++ vs ++ B).toArray) R d b hk (fun te e xs f hx => ?_) (fun _ => hlw) (fun _ => liveW_live hlw) (Below_setRow R.below hbase _) (by rw [setRow_size]; exact Nat.le_refl _) (fun k hk => setRow_other w _ k _ (hk hlw)) (fun c' hc hx => hb c' hc hx (by subst hc; exact hh))).2
  obtain ⟨ys, f', h1, h2⟩ := hr te e xs f hx
  exact ⟨ys, f', h1, h2, fun _ => by rw [cellsN_of hh, cellsN_of hcur, hsz]⟩

theorem setCells_only {w : World} {b : Nat} {cur : Array Value} {T : TypeId} {A M B vs : List Value} (hcur : w.heap[b]? = some (.cells cur T (0, 0))) (hl : cur.toList = A ++ M ++ B) (hv : vs.length = M.length) :
    (w.setCells b A.length vs).heap.size = w.heap.size ∧ ∀ k, k ≠ b → (w.setCells b A.length vs).heap[k]? = w.heap[k]? := by
  rw [setCells_eq vs M A B w cur hcur hl hv]
  exact ⟨by rw [setRow_size], fun k hk => setRow_other w _ k _ hk⟩
theorem var_putb {s : St} {id i : Nat} {e : Ty} {v : AV} (hi : isVar (lkb s.hp i) = true) : isVar (lkb (s.putb id (.var e v false)).hp i) = true := by
  show isVar (lkb ((id, .var e v false) :: s.hp) i) = true
  rw [lkb_cons]
  split
  · rfl
  · exact hi
theorem live_putb {s : St} {id i : Nat} {b : Blk} (h : live (lkb s.hp id)) (hi : live (lkb (s.putb id b).hp i)) : live (lkb s.hp i) := by
  have hi : live (lkb ((id, b) :: s.hp) i) := hi
  rw [lkb_cons] at hi
  split at hi
  · rename_i e; rw [← e]; exact h
  · exact hi
theorem notvar_putb {s : St} {id i te : Nat} {e : Ty} {xs : List e.den} {f : Bool} {b : Blk} (hb : lkb s.hp id = .row te e xs f) (hi : isVar (lkb s.hp i) = true) : isVar (lkb (s.putb id b).hp i) = true := by
  have hne : id ≠ i := fun e => by subst e; rw [hb] at hi; cases hi
  show isVar (lkb ((id, b) :: s.hp) i) = true
  rw [lkb_cons, if_neg hne]; exact hi
theorem ex_store {t : TypeId} {x y : Operand} (hE : EnvT E X.P) (R : RR X ρ s a w) (ho : o.op = .store t x y) (h : wv E s (opn s.fr) (.store t x y) C) :
    ∃ s' w', C s' .dead ∧ (execOp a.eval o).run X.P w = .ok .skip w' ∧ RR X ρ s' a w' ∧ (∃ id p, opn s.fr x = .ptr id p ∧ w'.heap.size = w.heap.size ∧ ∀ k, k ≠ ρ id → w'.heap[k]? = w.heap[k]?) ∧ ∀ i, (isVar (lkb s.hp i) = true → isVar (lkb s'.hp i) = true) ∧ (live (lkb s'.hp i) → live (lkb s.hp i)) := by
  simp only [wv, putbK_eq] at h
  have hx := VR_opn R x
  obtain ⟨va, hva⟩ : ∃ va, opn s.fr x = va := ⟨_, rfl⟩
  rw [hva] at h hx ⊢
  have hy := VR_opn R y
  generalize opn s.fr y = vb at h hy
  split at h
  · rename_i id p
    split at h
    · rename_i e ht
      have hT := hE.tt t _ ht
      split at h
      · rename_i b hset
        obtain ⟨h1, hC⟩ := cond_elim h
        rw [Bool.and_eq_true] at h1
        obtain ⟨h1, h2⟩ := h1
        have h2 := of_decide_eq_true h2
        obtain ⟨off, t', k1, ex⟩ := VR_ptr hx
        have k1 : pathB (lkb s.hp id) p = some (off, t') := k1
        have := ptyB_of_pathB k1
        rw [h2] at this; cases this
        have hvs := cells_of_VR h1 hy
        have hsh := Shp_of_fits e vb h1
        have hone := CR_one _ e vb _ h1 hvs
        have hlen := CR_length e vb _ hsh hvs
        have hh := R.heap id
        have key : ∀ (cur : Array Value) (T : TypeId) (A M B : List Value), w.heap[ρ id]? = some (.cells cur T (0, 0)) → cur.toList = A ++ M ++ B → A.length = off → M.length = e.size →
            (execOp a.eval o).run X.P w = .ok .skip (w.setCells (ρ id) A.length (a.eval y).cells.toList) := by
          intro cur T A M B g1 g2 g3 g4
          have hsz : cur.size = A.length + M.length + B.length := by
            have : cur.toList.length = cur.size := Array.length_toList
            rw [g2] at this; simp at this; omega
          have hl2 : (a.eval y).cells.size = e.size := by rw [← hlen]; simp
          have hr := run_storeAt_any (P := X.P) w (ρ id) off t (a.eval y) (fun j hj => ⟨by rw [cell_of_block g1, Array.getElem?_eq_getElem (by omega)]; rfl, by simp [World.frozen?, g1]⟩) (by rw [info_size hT, hl2]) hone
          simp only [execOp, ho, ex, Sem.run_bind]
          rw [show (cx X ρ s.hp w).ρ id = ρ id from rfl, hr, g3]
          rfl
        cases hbk : lkb s.hp id with
        | none => rw [hbk] at hset; simp [setB] at hset
        | var e0 v0 f =>
          rw [hbk] at hset hh k1
          cases f with
          | true => simp [setB] at hset
          | false =>
            simp only [setB] at hset
            split at hset
            · rename_i v' hv'
              cases hset
              obtain ⟨g1, cs, T, g2, g3, g4, g5⟩ := hh
              have g2 : w.heap[ρ id]? = some (.cells cs T (0, 0)) := g2
              obtain ⟨A, M, B, q1, q2, q3, q4, q5⟩ := setA_cells R p e0 v0 _ off e vb v' _ g4 g5.1 g3 k1 hv' hsh hvs
              refine ⟨_, _, hC, key cs T A M B g2 q1 q2 q3, RR.over R id _ A M B _ g2 q1 (by rw [hlen, q3]) (by rw [hbk]; trivial) g1 (fun e v f he => ?_) (fun te e xs f he => ?_) (fun c' hc hx hc2 => ?_), ⟨id, p, rfl, setCells_only g2 q1 (by rw [hlen, q3])⟩, fun i => ⟨fun hi => var_putb hi, fun hi => live_putb (by rw [hbk]; trivial) hi⟩⟩
              · rw [hbk] at he; cases he; exact ⟨v', false, rfl⟩
              · rw [hbk] at he; cases he
              · exact ⟨by subst hc; exact g1, _, T, hc2, by
                  have := CR_ext hx _ _ (Free_no _) q5
                  simpa using this, q4, g5⟩
            · cases hset
        | row te e0 xs f =>
          rw [hbk] at hset hh k1
          cases f with
          | true => cases p <;> simp [setB] at hset
          | false =>
            cases p with
            | nil => simp [setB] at hset
            | cons st p =>
              cases st with
              | fld i => simp [setB] at hset
              | «at» i =>
                simp only [setB] at hset
                split at hset
                · rename_i v' hv'
                  split at hset
                  · rename_i z hz
                    cases hset
                    obtain ⟨hW, hh⟩ := hh
                    simp only [pathB] at k1
                    split at k1
                    · rename_i hr
                      split at k1
                      · rename_i o2 t2 hp2
                        simp only [Option.some.injEq, Prod.mk.injEq] at k1
                        obtain ⟨rfl, rfl⟩ := k1
                        have hi : i.toNat < xs.length := by omega
                        have hne : xs ≠ [] := fun h0 => by subst h0; simp at hi
                        obtain ⟨g1, cs, g2, g3, g4⟩ := hh hne
                        have g2 : w.heap[ρ id]? = some (.cells cs te (0, 0)) := g2
                        have g4 : EncL (Enc (okC X ρ s.hp w) w e0) xs (cs.toList.take (xs.length * e0.size)) := g4
                        obtain ⟨A, M, B, q1, q2, q3, q4⟩ := EncL_split (fun x vs h => Enc_length e0 x vs h) xs _ g4 i.toNat hi
                        have hxg : xs.getD i.toNat e0.dfl = xs[i.toNat] := by simp [List.getD_eq_getElem?_getD, List.getElem?_eq_getElem hi]
                        rw [hxg] at hv'
                        obtain ⟨A', M', B', rfl, m2, m3, m4, m5⟩ := setA_cells R p e0 _ M o2 _ vb v' _ (Shp_unpack e0 _ hW) hW (CR_unpack _ e0 _ M hW q3) hp2 hv' hsh hvs
                        have m6 := pack_enc R e0 v' z _ hz m5
                        have hcur : cs.toList = (A ++ A') ++ M' ++ (B' ++ B ++ cs.toList.drop (xs.length * e0.size)) := by
                          conv => lhs; rw [← List.take_append_drop (xs.length * e0.size) cs.toList, q1]
                          simp
                        refine ⟨_, _, hC, key cs te (A ++ A') M' _ g2 hcur (by rw [List.length_append, q2, m2]) m3, RR.over R id _ (A ++ A') M' _ _ g2 hcur (by rw [hlen, m3]) (by rw [hbk]; exact hne) g1 (fun e v f he => ?_) (fun te e ys f he => ?_) (fun c' hc hx hc2 => ?_), ⟨id, _, rfl, setCells_only g2 hcur (by rw [hlen, m3])⟩, fun i => ⟨fun hi => notvar_putb hbk hi, fun hi => live_putb (by rw [hbk]; exact hne) hi⟩⟩
                        · rw [hbk] at he; cases he
                        · rw [hbk] at he; cases he; exact ⟨_, _, rfl, List.length_set⟩
                        · refine ⟨hW, fun _ => ⟨by subst hc; exact g1, _, hc2, ?_, ?_⟩⟩
                          · have e1 := congrArg List.length hcur
                            rw [Array.length_toList] at e1
                            rw [List.length_set]
                            simp only [List.length_append, List.size_toArray, hlen, m3] at e1 ⊢
                            omega
                          · have m7 := q4 z _ m6
                            have m8 := EncL_mono (E' := Enc c'.ok c'.w e0) (fun x vs h => Enc_mono hx.ok e0 x vs h) _ _ m7
                            have e2 : ((A ++ A' ++ (a.eval y).cells.toList ++ (B' ++ B ++ cs.toList.drop (xs.length * e0.size))).toArray.toList.take ((xs.set i.toNat z).length * e0.size)) = A ++ (A' ++ (a.eval y).cells.toList ++ B') ++ B := by
                              have e3 : A ++ A' ++ (a.eval y).cells.toList ++ (B' ++ B ++ cs.toList.drop (xs.length * e0.size)) = (A ++ (A' ++ (a.eval y).cells.toList ++ B') ++ B) ++ cs.toList.drop (xs.length * e0.size) := by simp
                              have e4 : (A ++ (A' ++ (a.eval y).cells.toList ++ B') ++ B).length = (xs.set i.toNat z).length * e0.size :=
                                EncL_length (fun x vs h => Enc_length e0 x vs h) _ _ m7
                              rw [e3]
                              show List.take _ (_ ++ _) = _
                              rw [List.take_append_of_le_length (by omega), List.take_of_length_le (by omega)]
                            rw [e2]; exact m8
                      · cases k1
                    · cases k1
                  · cases hset
                · cases hset
      · exact h.elim
    · exact h.elim
  · exact h.elim

theorem ex_copy {c : Call} (hE : EnvT E X.P) (R : RR X ρ s a w) (ho : o.op = .call c) (hc : c.callee = .builtin .copy) (h : wv E s (opn s.fr) (.call c) C) :
    ∃ s' v z w', C s' v ∧ (execOp a.eval o).run X.P w = .ok (.value z) w' ∧ RR X ρ s' a w' ∧ VR (cx X ρ s'.hp w') v z := by
  simp only [wv, putbK_eq] at h
  split at h
  · rename_i x y t t2 hcc hargs htys
    have hx := VR_opn R x
    have hy := VR_opn R y
    have hargs' : c.args.map a.eval = #[a.eval x, a.eval y] := by
      have : c.args = #[x, y] := by apply Array.ext'; simpa using hargs
      simp [this]
    have htys' : c.argTypes = #[t, t2] := by apply Array.ext'; simpa using htys
    have key : ∀ z w', (Builtin.copy_ #[t, t2] o.type #[a.eval x, a.eval y]).run X.P w = .ok z w' → (execOp a.eval o).run X.P w = .ok (.value z) w' := by
      intro z w' hz
      simp only [execOp, ho, resolve, hc, invoke, builtin, Sem.run_bind, Sem.run_pure, Result.andThen_ok, htys', hargs', hz]
    generalize opn s.fr x = va at h hx
    generalize opn s.fr y = vb at h hy
    have hm : maxLen = 9223372036854775807 := rfl
    split at h
    · rename_i e e2 ht ht2
      obtain ⟨te, hu, hT⟩ := TyOk_sl (hE.tt t _ ht)
      have hW := TyOk.wf _ _ hT
      obtain ⟨i, i1, i2, i3, i4, i5, _⟩ := hT.base
      split at h
      · rename_i id ys hys
        split at h
        · rename_i te' e' xs hb
          split at h
          · rename_i zs hzs
            obtain ⟨_, hC⟩ := cond_elim h
            simp only [rowOf, hb] at hzs
            split at hzs
            · rename_i he; subst he
              cases hzs
              simp only [castL_eq] at hC
              obtain ⟨Ay, cy, ey, y1, news, y2, y3, y4⟩ := rowOf_cells R hys hy
              have hO := VR_own hx
              unfold OwnV at hO
              rw [show (cx X ρ s.hp w).hp = s.hp from rfl, hb] at hO
              obtain ⟨A, m, g1, g2, g2', g3, g4⟩ := hO
              have ex : a.eval x = .slice A xs.length m := by simpa using g1
              have hg : ∀ n : Nat, n ≤ 140737488355328 → VR (cx X ρ (s.putb id (Blk.row te' e' (ys.take xs.length ++ xs.drop ys.length) false)).hp w) (.int .i64 n) (goInt n) := fun n hn => mkVR_int (nat_wf (by omega))
              by_cases hn : min ys.length xs.length = 0
              · have hys' : ys.take xs.length ++ xs.drop ys.length = xs := by
                  rcases Nat.eq_zero_or_pos ys.length with h0 | h0
                  · rw [List.eq_nil_of_length_eq_zero h0]; simp
                  · have : xs.length = 0 := by omega
                    rw [List.eq_nil_of_length_eq_zero this]; simp
                have hf : (Builtin.firstCells i.size 0 (.slice Ay ys.length cy)).run X.P w = .ok #[] w := by
                  cases Ay with
                  | none => exact run_firstCells_none _ _ _ _ _
                  | some q => exact run_firstCells_some w i.size 0 q _ _ [] (by simp) (fun j v hj => by simp at hj)
                have hr : (Builtin.copy_ #[t, t2] o.type #[a.eval x, a.eval y]).run X.P w = .ok (goInt 0) w := by
                  have hn' : Nat.min ys.length xs.length = 0 := hn
                  cases A <;> simp [Builtin.copy_, run_underlying hu, ex, ey, Builtin.lenOf, sizeOf, typeInfo, i1, hn', hf, storeCells]
                have hn2 : min (ys.length : Int) (xs.length : Int) = 0 := by omega
                rw [hys', hn2] at hC
                obtain ⟨_, R'⟩ := RR.write (w' := w) R id (.row te' e' xs false) (fun e v f he => by rw [hb] at he; cases he) (fun te e zs f he => by rw [hb] at he; cases he; exact ⟨xs, false, rfl, rfl, fun _ => rfl⟩) (fun hl => by rw [hb]; exact hl) (fun hl => by rw [hb]; exact hl) R.below (Nat.le_refl _) (fun _ _ => rfl)
                  (fun c' hc hx => by
                    have hh := R.heap id
                    rw [hb] at hh
                    refine ⟨hh.1, fun hne => ?_⟩
                    obtain ⟨q1, cs, q2, q3, q4⟩ := hh.2 hne
                    exact ⟨by subst hc; exact q1, cs, by subst hc; exact q2, q3, EncL_mono (fun x vs h => Enc_mono hx.ok e' x vs h) _ _ q4⟩)
                exact ⟨_, _, _, _, hC, key _ _ hr, R', mkVR_int (nat_wf (n := 0) (by omega))⟩
              · have hxn : xs ≠ [] := fun h0 => by subst h0; simp at hn
                have hyn : ys ≠ [] := fun h0 => by subst h0; simp at hn
                obtain ⟨k1, k2, k3⟩ := g4 hxn
                have hh := R.heap id
                rw [hb] at hh
                obtain ⟨q1, cs, q2, q3, q4⟩ := hh.2 hxn
                have q2 : w.heap[ρ id]? = some (.cells cs te' (0, 0)) := q2
                have q4 : EncL (Enc (okC X ρ s.hp w) w e') xs (cs.toList.take (xs.length * e'.size)) := q4
                obtain ⟨b, oo, rfl, y5⟩ := y4 hyn
                have hEn : ∀ (l : List e'.den) (vs : List Value) (n : Nat), EncL (Enc (okC X ρ s.hp w) w e') l vs → EncL (Enc (okC X ρ s.hp w) w e') (l.take n) (vs.take (n * e'.size)) ∧ EncL (Enc (okC X ρ s.hp w) w e') (l.drop n) (vs.drop (n * e'.size)) := by
                  intro l
                  induction l with
                  | nil => intro vs n h; obtain rfl : vs = [] := h; simp [EncL]
                  | cons z l ih =>
                    intro vs n h
                    obtain ⟨u, v, rfl, h1, h2⟩ := h
                    have hl := Enc_length _ _ _ h1
                    cases n with
                    | zero => rw [Nat.zero_mul]; exact ⟨by simp [EncL], u, v, rfl, h1, h2⟩
                    | succ n =>
                      obtain ⟨j1, j2⟩ := ih v n h2
                      have e1 : (u ++ v).take ((n + 1) * e'.size) = u ++ v.take (n * e'.size) := by
                        rw [List.take_append, List.take_of_length_le (by rw [hl, Nat.add_mul]; omega), hl]
                        congr 2; rw [Nat.add_mul]; omega
                      have e2 : (u ++ v).drop ((n + 1) * e'.size) = v.drop (n * e'.size) := by
                        rw [List.drop_append, List.drop_of_length_le (by rw [hl, Nat.add_mul]; omega), hl, List.nil_append]
                        congr 1; rw [Nat.add_mul]; omega
                      rw [e1, e2]
                      exact ⟨⟨u, _, rfl, h1, j1⟩, j2⟩
                obtain ⟨n, hnE⟩ : ∃ n, n = min ys.length xs.length := ⟨_, rfl⟩
                have hnl : (news.take (n * e'.size)).length = n * e'.size := by
                  rw [List.length_take, y3]
                  exact Nat.min_eq_left (Nat.mul_le_mul_right _ (by omega))
                have hf : (Builtin.firstCells i.size n (.slice (some ⟨b, oo, none⟩) ys.length cy)).run X.P w = .ok (news.take (n * e'.size)).toArray w :=
                  run_firstCells_some w i.size n ⟨b, oo, none⟩ _ _ _ (by rw [hnl, i2]) (fun j v hj => by
                    have hlt : j < (news.take (n * e'.size)).length := by
                      rcases Nat.lt_or_ge j (news.take (n * e'.size)).length with h | h
                      · exact h
                      · rw [List.getElem?_eq_none h] at hj; cases hj
                    rw [List.length_take] at hlt
                    rw [List.getElem?_take, if_pos (by omega)] at hj
                    rw [Addr.add_mid, y5 j (by omega)]; exact hj)
                have hsc : n * e'.size ≤ cs.size := Nat.le_trans (Nat.mul_le_mul_right _ (by omega)) q3
                have hst := run_storeCells_cells (P := X.P) (ρ id) 0 (news.take (n * e'.size)) 0 w (fun j hj => by rw [cell_of_block q2, Array.getElem?_eq_getElem (by omega)]; rfl) (fun j hj => by simp [World.frozen?, q2]) (fun u hu => EncL_one ys news y2 u (List.mem_of_mem_take hu))
                have hr : (Builtin.copy_ #[t, t2] o.type #[a.eval x, a.eval y]).run X.P w = .ok (goInt n) (w.setCells (ρ id) 0 (news.take (n * e'.size))) := by
                  have hn' : Nat.min ys.length xs.length = n := hnE.symm
                  have k1' : A = some ⟨ρ id, 0, none⟩ := k1
                  subst k1'
                  simp only [Nat.add_zero] at hst
                  simp [Builtin.copy_, run_underlying hu, ex, ey, Builtin.lenOf, sizeOf, typeInfo, i1, hn', hf, hst]
                have hcur : cs.toList = [] ++ cs.toList.take (n * e'.size) ++ cs.toList.drop (n * e'.size) := by simp
                have hlen2 : (ys.take xs.length ++ xs.drop ys.length).length = xs.length := by simp; omega
                have R' := RR.over R id (.row te' e' (ys.take xs.length ++ xs.drop ys.length) false) [] _ _ (news.take (n * e'.size)) q2 hcur (by rw [hnl, List.length_take]; simp; omega) (by rw [hb]; exact hxn) q1 (fun e v f he => by rw [hb] at he; cases he) (fun te e zs f he => by rw [hb] at he; cases he; exact ⟨_, false, rfl, hlen2⟩)
                  (fun c' hc hx hc2 => by
                    refine ⟨hW, fun _ => ⟨by subst hc; exact q1, _, hc2, ?_, ?_⟩⟩
                    · rw [hlen2]
                      simp only [List.nil_append, List.size_toArray, List.length_append, hnl, List.length_drop, Array.length_toList]
                      omega
                    · rw [hlen2]
                      have t1 : ys.take xs.length = ys.take n := by
                        rcases Nat.le_total ys.length xs.length with h | h
                        · rw [List.take_of_length_le h, List.take_of_length_le (by omega)]
                        · congr 1; omega
                      have t2 : xs.drop ys.length = xs.drop n := by
                        rcases Nat.le_total ys.length xs.length with h | h
                        · congr 1; omega
                        · rw [List.drop_of_length_le h, List.drop_of_length_le (by omega)]
                      have hnx : n * e'.size ≤ xs.length * e'.size := Nat.mul_le_mul_right _ (by omega)
                      have e1 : (([] ++ news.take (n * e'.size) ++ cs.toList.drop (n * e'.size)).toArray.toList.take (xs.length * e'.size)) = news.take (n * e'.size) ++ (cs.toList.take (xs.length * e'.size)).drop (n * e'.size) := by
                        show List.take _ (([] ++ news.take (n * e'.size)) ++ cs.toList.drop (n * e'.size)) = _
                        rw [List.nil_append, List.take_append, List.take_of_length_le (by omega), hnl, List.drop_take]
                      rw [e1, t1, t2]
                      exact EncL_append _ _ _ _ (EncL_mono (fun x vs h => Enc_mono hx.ok e' x vs h) _ _ (hEn ys news n y2).1) (EncL_mono (fun x vs h => Enc_mono hx.ok e' x vs h) _ _ (hEn xs _ n q4).2))
                have hn2 : min (ys.length : Int) (xs.length : Int) = (n : Int) := by omega
                rw [hn2] at hC
                exact ⟨_, _, _, _, hC, key _ _ hr, R', mkVR_int (nat_wf (by omega))⟩
            · cases hzs
          · exact h.elim
        · exact h.elim
      · exact h.elim
    · exact h.elim
  · rename_i hcc _ _
    rw [hc] at hcc; cases hcc
  · exact h.elim

/-- clear, of a row of the call's own. -/
theorem ex_clear {c : Call} (hE : EnvT E X.P) (R : RR X ρ s a w) (ho : o.op = .call c) (hc : c.callee = .builtin .clear) (h : wv E s (opn s.fr) (.call c) C) :
    ∃ s' v z w', C s' v ∧ (execOp a.eval o).run X.P w = .ok (.value z) w' ∧ RR X ρ s' a w' ∧ VR (cx X ρ s'.hp w') v z := by
  simp only [wv, putbK_eq] at h
  split at h
  · rename_i hcc _ _
    rw [hc] at hcc; cases hcc
  · rename_i x t hcc hargs htys
    have hx := VR_opn R x
    have hargs' : c.args.map a.eval = #[a.eval x] := by
      have : c.args = #[x] := by apply Array.ext'; simpa using hargs
      simp [this]
    have htys' : c.argTypes = #[t] := by apply Array.ext'; simpa using htys
    have key : ∀ z w', (Builtin.clear_ #[t] o.type #[a.eval x]).run X.P w = .ok z w' → (execOp a.eval o).run X.P w = .ok (.value z) w' := by
      intro z w' hz
      simp only [execOp, ho, resolve, hc, invoke, builtin, Sem.run_bind, Sem.run_pure, Result.andThen_ok, htys', hargs', hz]
    generalize opn s.fr x = va at h hx
    split at h
    · rename_i e ht
      obtain ⟨te, hu, hT⟩ := TyOk_sl (hE.tt t _ ht)
      have hW := TyOk.wf _ _ hT
      obtain ⟨i, i1, i2, i3, i4, i5, _⟩ := hT.base
      split at h
      · rename_i id
        split at h
        · rename_i te' e' xs hb
          split at h
          · rename_i zs hzs
            obtain ⟨hp, hC⟩ := cond_elim h
            rw [Bool.and_eq_true] at hp
            obtain ⟨hp, _⟩ := hp
            simp only [rowOf, hb] at hzs
            split at hzs
            · rename_i he; subst he
              cases hzs
              simp only [castL_eq] at hC
              have hO := VR_own hx
              unfold OwnV at hO
              rw [show (cx X ρ s.hp w).hp = s.hp from rfl, hb] at hO
              obtain ⟨A, m, g1, g2, g2', g3, g4⟩ := hO
              have ex : a.eval x = .slice A xs.length m := by simpa using g1
              by_cases hn : xs = []
              · subst hn
                have hr : (Builtin.clear_ #[t] o.type #[a.eval x]).run X.P w = .ok (.tuple #[]) w := by
                  rw [ex]
                  cases A <;> simp [Builtin.clear_, run_underlying hu]
                have hrep : List.replicate ([] : List e'.den).length e'.dfl = [] := rfl
                rw [hrep] at hC
                obtain ⟨_, R'⟩ := RR.write (w' := w) R id (.row te' e' [] false) (fun e v f he => by rw [hb] at he; cases he) (fun te e zs f he => by rw [hb] at he; cases he; exact ⟨[], false, rfl, rfl, fun _ => rfl⟩) (fun hl => by rw [hb]; exact hl) (fun hl => by rw [hb]; exact hl) R.below (Nat.le_refl _) (fun _ _ => rfl)
                  (fun c' hc hx => by
                    have hh := R.heap id
                    rw [hb] at hh
                    exact ⟨hh.1, fun hne => absurd rfl hne⟩)
                exact ⟨_, _, _, _, hC, key _ _ hr, R', trivial⟩
              · obtain ⟨k1, k2, k3⟩ := g4 hn
                have hh := R.heap id
                rw [hb] at hh
                obtain ⟨q1, cs, q2, q3, q4⟩ := hh.2 hn
                have q2 : w.heap[ρ id]? = some (.cells cs te' (0, 0)) := q2
                have hzl : (Builtin.zeroCells (zval e').cells xs.length).toList = (List.replicate xs.length (zcs e')).flatten := by
                  have := madeCells_rep (zcs e') e'.size xs.length (zcs_length e')
                  rw [← this, zval_cells]
                  have hz : (zcs e').toArray.size = e'.size := by simp [zcs_length]
                  rw [← hz]
                  rfl
                have hzE : EncL (Enc (okC X ρ s.hp w) w e') (List.replicate xs.length e'.dfl) (List.replicate xs.length (zcs e')).flatten := EncL_replicate (Enc_dfl _ _ e' hp) _
                have hlen : (List.replicate xs.length (zcs e')).flatten.length = xs.length * e'.size := by
                  rw [List.length_flatten, List.map_replicate, List.sum_replicate_nat, zcs_length]
                have hst := run_storeCells_cells (P := X.P) (ρ id) 0 (List.replicate xs.length (zcs e')).flatten 0 w (fun j hj => by rw [cell_of_block q2, Array.getElem?_eq_getElem (by omega)]; rfl) (fun j hj => by simp [World.frozen?, q2]) (fun u hu => EncL_one _ _ hzE u hu)
                have hr : (Builtin.clear_ #[t] o.type #[a.eval x]).run X.P w = .ok (.tuple #[]) (w.setCells (ρ id) 0 (List.replicate xs.length (zcs e')).flatten) := by
                  have k1' : A = some ⟨ρ id, 0, none⟩ := k1
                  subst k1'
                  have hl0 : xs.length ≠ 0 := fun h0 => hn (List.eq_nil_of_length_eq_zero h0)
                  obtain ⟨n, hn2⟩ : ∃ n, xs.length = n + 1 := ⟨xs.length - 1, by omega⟩
                  simp only [Nat.add_zero] at hst
                  rw [ex]
                  simp only [hn2] at hzl hst ⊢
                  simp [Builtin.clear_, run_underlying hu, zeroValue, typeInfo, i1, i3, hzl, hst]
                have hcur : cs.toList = [] ++ cs.toList.take (xs.length * e'.size) ++ cs.toList.drop (xs.length * e'.size) := by simp
                have R' := RR.over R id (.row te' e' (List.replicate xs.length e'.dfl) false) [] _ _ (List.replicate xs.length (zcs e')).flatten q2 hcur (by rw [hlen, List.length_take]; simp; omega) (by rw [hb]; exact hn) q1 (fun e v f he => by rw [hb] at he; cases he) (fun te e zs f he => by rw [hb] at he; cases he; exact ⟨_, false, rfl, List.length_replicate ..⟩)
                  (fun c' hc hx hc2 => by
                    refine ⟨hW, fun _ => ⟨by subst hc; exact q1, _, hc2, ?_, ?_⟩⟩
                    · rw [List.length_replicate]
                      simp only [List.nil_append, List.size_toArray, List.length_append, hlen, List.length_drop, Array.length_toList]
                      omega
                    · rw [List.length_replicate]
                      have e1 : (([] ++ (List.replicate xs.length (zcs e')).flatten ++ cs.toList.drop (xs.length * e'.size)).toArray.toList.take (xs.length * e'.size)) = (List.replicate xs.length (zcs e')).flatten := by
                        show List.take _ (([] ++ (List.replicate xs.length (zcs e')).flatten) ++ cs.toList.drop (xs.length * e'.size)) = _
                        rw [List.nil_append, List.take_append_of_le_length (by omega), List.take_of_length_le (by omega)]
                      rw [e1]
                      exact EncL_mono (fun x vs h => Enc_mono hx.ok e' x vs h) _ _ hzE)
                exact ⟨_, _, _, _, hC, key _ _ hr, R', trivial⟩
            · cases hzs
          · exact h.elim
        · exact h.elim
      · exact h.elim
    · exact h.elim
  · exact h.elim
end
end Go.Proofs.YtoihmfgkmndjfaaV
/- Calls: by contract, and of functions that are looked into. -/
set_option linter.unusedVariables false
set_option linter.unusedSimpArgs false
namespace Go.Proofs.YtoihmfgkmndjfaaV
open Go.RowKit

/-- What a call comes to. -/
def Inv (P : Program) (g : FuncId) (xs : Array Value) (w : World) (Q : Value → World → Prop) : Prop :=
  (∃ z w', (callFunc g xs).run P w = .ok (.value z) w' ∧ Q z w') ∨
  ((callFunc g xs).run P w = .ok (.enter g xs) w ∧ Calls P g xs w fun e w' => ∃ z, e = .returned z ∧ Q z w')

def cx0 (ok : Nat → Prop) (w : World) : Cx := ⟨fun _ => 0, ok, w, []⟩
/-- A function of data: it reads what it's given, writes nothing that was there, and gives data back. -/
def PCon (P : Program) (g : FuncId) (F : List AV → Option AV) : Prop :=
  ∀ (ok0 : Nat → Prop) (w : World) (as : List AV) (xs : Array Value) (r : AV), (∀ b, ok0 b → b < w.heap.size) → GlOk ok0 w → F as = some r → pureAV.pures as = true → CVs (cx0 ok0 w) as xs.toList →
    Inv P g xs w fun z w' => Below w.heap.size w w' ∧ VR (cx0 (fun b => (ok0 b ∨ w.heap.size ≤ b) ∧ b < w'.heap.size) w') r z
/-- A function that is looked into at its call. -/
def SCon (P : Program) (g : FuncId) (T : Proc) : Prop :=
  ∀ (off : Nat) (X : Fix) (ρ : Nat → Nat) (hp : List (Nat × Blk)) (w : World) (as : List AV) (xs : Array Value) (a0 : Act) (K : List (Nat × Blk) → Option Ks → AV → Prop), X.P = P → RR X ρ ⟨[], hp, some ([], 0)⟩ a0 w →
    okVs as = true → CVs (cx X ρ hp w) as xs.toList → T off hp as K →
    Inv P g xs w fun z w' => ∃ ρ' hp' ks r a1, K hp' (some ks) r ∧ RR X ρ' ⟨[], hp', some ks⟩ a1 w' ∧ VR (cx X ρ' hp' w') r z

/-- What calling a loop's 'yield' comes to. -/
def YOk (X : Fix) (l : Nat) (Y : List Nat → Proc) : Prop :=
  ∀ (S : List Nat) (off : Nat) (X1 : Fix) (ρ : Nat → Nat) (hp : List (Nat × Blk)) (w : World) (as : List AV) (xs : Array Value) (a0 : Act) (K : List (Nat × Blk) → Option Ks → AV → Prop),
    X1.P = X.P → X1.ok0 = X.ok0 → X1.w0 = X.w0 → X1.sp = X.sp → (∀ i, ∃ j, X1.stk j = killAll S (X.stk i) ∧ X1.stv j = X.stv i) →
    RR X1 ρ ⟨[], hp, some ([], 0)⟩ a0 w → okVs as = true → CVs (cx X1 ρ hp w) as xs.toList → Y S off hp as K →
    ∃ fn tmps asg body, (Instr.yield l xs).run X.P w = .ok (.round l fn tmps asg body) w ∧
      RoundIn Fence.wide 0 X.P l fn tmps asg body w fun e w' => ∃ z, e = .returned z ∧ ∃ ρ' hp' ks r a1, K hp' (some ks) r ∧ RR X1 ρ' ⟨[], hp', some ks⟩ a1 w' ∧ VR (cx X1 ρ' hp' w') r z
/-- An iterator. -/
def ICon (P : Program) (g : FuncId) (I : Nat → (List Nat → Proc) → Proc) : Prop :=
  (∀ xs w, (callFunc g xs).run P w = .ok (.enter g xs) w) ∧
  ∀ (l : Nat) (Y : List Nat → Proc) (off : Nat) (X : Fix) (ρ : Nat → Nat) (hp : List (Nat × Blk)) (w : World) (as : List AV) (xs : Array Value) (a0 : Act) (K : List (Nat × Blk) → Option Ks → AV → Prop), X.P = P → YOk X l Y → RR X ρ ⟨[], hp, some ([], 0)⟩ a0 w →
    okVs as = true → CVs (cx X ρ hp w) as xs.toList → I l Y off hp as K →
    Calls P g xs w fun e w' => ∃ z, e = .returned z ∧ ∃ ρ' hp' ks r a1, K hp' (some ks) r ∧ RR X ρ' ⟨[], hp', some ks⟩ a1 w' ∧ VR (cx X ρ' hp' w') r z

structure EnvC (E : Env) (P : Program) : Prop where
  t : EnvT E P
  fns : ∀ g F, lkF E.fns g = some F → PCon P g F
  prs : ∀ g T, lkP E.prs g = some T → SCon P g T
  its : ∀ g I, lkI E.its g = some I → ICon P g I

theorem killAll_append : ∀ (l l' : List Nat) (v : AV), killAll (l ++ l') v = killAll l (killAll l' v)
  | [], _, _ => rfl
  | k :: l, l', v => by show kill k (killAll (l ++ l') v) = kill k _; rw [killAll_append l l' v]
theorem lk_killAllF : ∀ (l : List Nat) (fr : List (Nat × AV)) (d : Nat), lk (killAllF l fr) d = killAll l (lk fr d)
  | [], _, _ => rfl
  | k :: l, fr, d => by show lk (killF k (killAllF l fr)) d = _; rw [lk_killF, lk_killAllF l fr d]; rfl

theorem calls_mono {P : Program} {f : FuncId} {args : Array Value} {w : World} {R R' : Ending → World → Prop} (h : Calls P f args w R) (hr : ∀ e w', R e w' → R' e w') : Calls P f args w R' := fun cs => by
  obtain ⟨e, w', fr, h1, h2⟩ := h cs
  exact ⟨e, w', fr, hr _ _ h1, h2⟩

/-! ### Data, wherever they are looked at from -/
mutual
theorem CR_pure {c c' : Cx} (hok : ∀ b, c.ok b → c'.ok b ∧ SameC c.w c'.w b) : ∀ (v : AV) (vs : List Value), pureAV v = true → CR c v vs → CR c' v vs
  | .int _ _, _, _, h => h
  | .bool _, _, _, h => h
  | .str _, _, _, h => h
  | .ro e xs, vs, _, h => Enc_mono hok (.sl e) xs vs h
  | .arr n e xs, vs, _, h => Enc_mono hok (.arr n e) xs vs h
  | .con _, _, _, h => h
  | .agg l, vs, hp, h => CRs_pure hok l vs hp h
  | .fn f a d, vs, hp, h => by
    have hp : (pureAV.pures a && pureAV.pures d) = true := hp
    rw [Bool.and_eq_true] at hp
    obtain ⟨a', d', e, h1, h2⟩ := h
    exact ⟨a', d', e, CVs_pure hok a _ hp.1 h1, CVs_pure hok d _ hp.2 h2⟩
theorem CRs_pure {c c' : Cx} (hok : ∀ b, c.ok b → c'.ok b ∧ SameC c.w c'.w b) : ∀ (l : List AV) (vs : List Value), pureAV.pures l = true → CRs c l vs → CRs c' l vs
  | [], _, _, h => h
  | v :: l, vs, hp, h => by
    have hp : (pureAV v && pureAV.pures l) = true := hp
    rw [Bool.and_eq_true] at hp
    obtain ⟨a, b, e, h1, h2⟩ := h
    exact ⟨a, b, e, CR_pure hok v a hp.1 h1, CRs_pure hok l b hp.2 h2⟩
theorem CVs_pure {c c' : Cx} (hok : ∀ b, c.ok b → c'.ok b ∧ SameC c.w c'.w b) : ∀ (l : List AV) (xs : List Value), pureAV.pures l = true → CVs c l xs → CVs c' l xs
  | [], _, _, h => h
  | v :: l, xs, hp, h => by
    have hp : (pureAV v && pureAV.pures l) = true := hp
    rw [Bool.and_eq_true] at hp
    obtain ⟨x, ys, e, h1, h3, h2⟩ := h
    exact ⟨x, ys, e, CR_pure hok v _ hp.1 h1, h3, CVs_pure hok l ys hp.2 h2⟩
end
theorem VR_pureR {c c' : Cx} (hok : ∀ b, c.ok b → c'.ok b ∧ SameC c.w c'.w b) (v : AV) (x : Value) (hp : pureR v = true) (h : VR c v x) : VR c' v x := by
  cases v <;> first
    | exact ⟨CR_pure hok _ _ hp h.1, h.2⟩
    | (obtain ⟨xs, e, h2⟩ := h; exact ⟨xs, e, CVs_pure hok _ _ hp h2⟩)
    | exact h
mutual
theorem CR_nolead {c c' : Cx} : ∀ (v : AV) (vs : List Value), leads v = false → CR c v vs → CR c' v vs
  | .int _ _, _, _, h => h
  | .bool _, _, _, h => h
  | .str _, _, _, h => h
  | .con _, _, _, h => h
  | .agg l, vs, hp, h => CRs_nolead l vs hp h
theorem CRs_nolead {c c' : Cx} : ∀ (l : List AV) (vs : List Value), leads.leadss l = false → CRs c l vs → CRs c' l vs
  | [], _, _, h => h
  | v :: l, vs, hp, h => by
    have hp : (leads v || leads.leadss l) = false := hp
    rw [Bool.or_eq_false_iff] at hp
    obtain ⟨a, b, e, h1, h2⟩ := h
    exact ⟨a, b, e, CR_nolead v a hp.1 h1, CRs_nolead l b hp.2 h2⟩
theorem CVs_nolead {c c' : Cx} : ∀ (l : List AV) (xs : List Value), leads.leadss l = false → CVs c l xs → CVs c' l xs
  | [], _, _, h => h
  | v :: l, xs, hp, h => by
    have hp : (leads v || leads.leadss l) = false := hp
    rw [Bool.or_eq_false_iff] at hp
    obtain ⟨x, ys, e, h1, h3, h2⟩ := h
    exact ⟨x, ys, e, CR_nolead v _ hp.1 h1, h3, CVs_nolead l ys hp.2 h2⟩
end
theorem VR_nolead {c c' : Cx} (v : AV) (x : Value) (hp : leads v = false) (h : VR c v x) : VR c' v x := by
  cases v <;> first
    | exact ⟨CR_nolead _ _ hp h.1, h.2⟩
    | (obtain ⟨xs, e, h2⟩ := h; exact ⟨xs, e, CVs_nolead _ _ hp h2⟩)
    | exact h
    | cases hp

section
variable {E : Env} {X : Fix} {ρ : Nat → Nat} {s : St} {a : Act} {w w' : World} {o : Oper}

/-! ### What a slice of its own is to whom it's handed -/
def okL (X : Fix) (ρ : Nat → Nat) (hp : List (Nat × Blk)) (w : World) (l : List Nat) (b : Nat) : Prop := okC X ρ hp w b ∨ ∃ id, id ∈ l ∧ live (lkb hp id) ∧ b = ρ id

mutual
theorem norm_CR (R : RR X ρ s a w) : ∀ (v : AV) (vs : List Value) (l : List Nat), (∀ id ∈ owns v, id ∈ l) → pureAV (norm s.hp v) = true → CR (cx X ρ s.hp w) v vs → CR (cx0 (okL X ρ s.hp w l) w) (norm s.hp v) vs
  | .own id, vs, l, hl, hp, h => by
    have h' : OwnV (cx X ρ s.hp w) id vs := h
    unfold OwnV at h'
    cases hb : lkb s.hp id with
    | none => rw [show (cx X ρ s.hp w).hp = s.hp from rfl, hb] at h'; exact h'.elim
    | var e v f => rw [show (cx X ρ s.hp w).hp = s.hp from rfl, hb] at h'; exact h'.elim
    | row te e xs f =>
      have hn : norm s.hp (.own id) = .ro e xs := by simp only [norm, hb]
      rw [hn]
      exact own_sl R hb h (fun hne => .inr ⟨id, hl id (by simp [owns]), by rw [hb]; exact hne, rfl⟩) (fun b hb => .inl hb)
  | .agg r, vs, l, hl, hp, h => norms_CRs R r vs l hl hp h
  | .int _ _, _, _, _, _, h => h
  | .bool _, _, _, _, _, h => h
  | .str _, _, _, _, _, h => h
  | .ro e xs, vs, _, _, _, h => Enc_mono (fun b hb => ⟨.inl hb, .refl _ _⟩) (.sl e) xs vs h
  | .arr n e xs, vs, _, _, _, h => Enc_mono (fun b hb => ⟨.inl hb, .refl _ _⟩) (.arr n e) xs vs h
  | .con _, _, _, _, _, h => h
  | .fn f b d, vs, l, _, hp, h => CR_pure (c := cx X ρ s.hp w) (c' := cx0 (okL X ρ s.hp w l) w) (fun b hb => ⟨Or.inl hb, .refl _ _⟩) (.fn f b d) vs hp h
theorem norms_CRs (R : RR X ρ s a w) : ∀ (r : List AV) (vs : List Value) (l : List Nat), (∀ id ∈ owns.ownss r, id ∈ l) → pureAV.pures (norm.norms s.hp r) = true → CRs (cx X ρ s.hp w) r vs → CRs (cx0 (okL X ρ s.hp w l) w) (norm.norms s.hp r) vs
  | [], _, _, _, _, h => h
  | v :: r, vs, l, hl, hp, h => by
    have hp : (pureAV (norm s.hp v) && pureAV.pures (norm.norms s.hp r)) = true := hp
    rw [Bool.and_eq_true] at hp
    obtain ⟨p, q, e, h1, h2⟩ := h
    have hl : ∀ id ∈ owns v ++ owns.ownss r, id ∈ l := hl
    exact ⟨p, q, e, norm_CR R v p l (fun id h => hl id (List.mem_append_left _ h)) hp.1 h1, norms_CRs R r q l (fun id h => hl id (List.mem_append_right _ h)) hp.2 h2⟩
end
theorem aggAV_norm (R : RR X ρ s a w) {v : AV} {vs : List Value} (h : CR (cx X ρ s.hp w) v vs) : aggAV (norm s.hp v) = aggAV v := by
  cases v with
  | own id =>
    have h' : OwnV (cx X ρ s.hp w) id vs := h
    unfold OwnV at h'
    cases hb : lkb s.hp id with
    | none => rw [show (cx X ρ s.hp w).hp = s.hp from rfl, hb] at h'; exact h'.elim
    | var e v f => rw [show (cx X ρ s.hp w).hp = s.hp from rfl, hb] at h'; exact h'.elim
    | row te e xs f => simp only [norm, hb]; rfl
  | _ => first | rfl | exact h.elim
theorem norms_CVs (R : RR X ρ s a w) : ∀ (r : List AV) (xs : List Value) (l : List Nat), (∀ id ∈ owns.ownss r, id ∈ l) → pureAV.pures (r.map (norm s.hp)) = true → CVs (cx X ρ s.hp w) r xs → CVs (cx0 (okL X ρ s.hp w l) w) (r.map (norm s.hp)) xs
  | [], _, _, _, _, h => h
  | v :: r, xs, l, hl, hp, h => by
    have hp : (pureAV (norm s.hp v) && pureAV.pures (r.map (norm s.hp))) = true := hp
    rw [Bool.and_eq_true] at hp
    obtain ⟨x, ys, e, h1, h3, h2⟩ := h
    have hl : ∀ id ∈ owns v ++ owns.ownss r, id ∈ l := hl
    exact ⟨x, ys, e, norm_CR R v _ l (fun id h => hl id (List.mem_append_left _ h)) hp.1 h1, by rw [aggAV_norm R h1]; exact h3, norms_CVs R r ys l (fun id h => hl id (List.mem_append_right _ h)) hp.2 h2⟩

/-- The world is another one, above. -/
theorem RR.world (R : RR X ρ s a w) (hB : Below w.heap.size w w') : Ext (fun _ => False) (cx X ρ s.hp w) (cx X ρ s.hp w') ∧ RR X ρ s a w' := by
  have hblk : ∀ id, live (lkb s.hp id) → w'.heap[ρ id]? = w.heap[ρ id]? := fun id hl => hB.block _ (R.lt hl).2
  have hext : Ext (fun _ => False) (cx X ρ s.hp w) (cx X ρ s.hp w') := by
    refine ⟨fun b hb => ⟨⟨hb.1, Nat.lt_of_lt_of_le hb.2.1 hB.size, hb.2.2⟩, .of (hB.block b hb.2.1)⟩, fun id e v f _ h => ⟨rfl, v, f, h⟩, fun id te e xs f _ h => ⟨xs, f, h, rfl, fun hx => ⟨rfl, ?_⟩⟩⟩
    have h : lkb s.hp id = .row te e xs f := h
    show cellsN w' (ρ id) = cellsN w (ρ id)
    unfold cellsN
    rw [hblk id (by rw [h]; exact hx)]
  refine ⟨hext, ⟨R.size, R.defers.keep (.of_below hB), R.ok0, R.below.trans (hB.mono R.base_le), fun id => ?_, R.inj, fun d => VR_ext hext _ _ (Free_no _) (R.fr d), fun ks hks i => VR_ext hext _ _ (Free_no _) (R.stk ks hks i), fun ks hks => X.spk _ _ _ ((Keeps.of_below hB).b _) hB.size (R.sp ks hks), Nat.le_trans R.lim hB.size⟩⟩
  have hh := R.heap id
  cases hb : lkb s.hp id with
  | none => trivial
  | var e v f =>
    rw [hb] at hh
    obtain ⟨g1, cs, T, g2, g3, g4, g5⟩ := hh
    exact ⟨g1, cs, T, (hblk id (by rw [hb]; trivial)).trans g2, CR_ext hext _ _ (Free_no _) g3, g4, g5⟩
  | row te e xs f =>
    rw [hb] at hh
    obtain ⟨g0, hh⟩ := hh
    refine ⟨g0, fun hne => ?_⟩
    obtain ⟨g1, cs, g2, g3, g4⟩ := hh hne
    exact ⟨g1, cs, (hblk id (by rw [hb]; exact hne)).trans g2, g3, EncL_mono (fun x vs h => Enc_mono hext.ok e x vs h) _ _ g4⟩

theorem CVs_append {c : Cx} : ∀ (l l' : List AV) (xs ys : List Value), CVs c l xs → CVs c l' ys → CVs c (l ++ l') (xs ++ ys)
  | [], l', xs, ys, h1, h2 => by
    have h1 : xs = [] := h1
    subst h1; exact h2
  | v :: l, l', xs, ys, h1, h2 => by
    obtain ⟨x, zs, rfl, g1, g2, g3⟩ := h1
    exact ⟨x, zs ++ ys, rfl, g1, g2, CVs_append l l' zs ys g3 h2⟩
theorem CVs_of_VR {c : Cx} (f : Operand → AV) (g : Operand → Value) (hfg : ∀ q, VR c (f q) (g q)) : ∀ l : List Operand, okVs (l.map f) = true → CVs c (l.map f) (l.map g)
  | [], _ => rfl
  | q :: l, h => by
    simp only [List.map_cons, okVs, Bool.and_eq_true] at h
    have hq := hfg q
    refine ⟨g q, l.map g, rfl, ?_, ?_, CVs_of_VR f g hfg l h.2⟩
    · cases hv : f q <;> rw [hv] at hq h <;> first | exact hq.1 | (cases h.1)
    · cases hv : f q <;> rw [hv] at hq h <;> first | exact hq.2 | (cases h.1)
theorem okVs_append : ∀ l l' : List AV, okVs (l ++ l') = (okVs l && okVs l')
  | [], l' => by simp [okVs]
  | v :: l, l' => by rw [List.cons_append]; simp only [okVs]; rw [okVs_append l l', Bool.and_assoc]
theorem okVs_pure (hp : List (Nat × Blk)) : ∀ l : List AV, pureAV.pures (l.map (norm hp)) = true → okVs l = true
  | [], _ => rfl
  | v :: l, h => by
    have h : (pureAV (norm hp v) && pureAV.pures (l.map (norm hp))) = true := h
    rw [Bool.and_eq_true] at h
    simp only [okVs, Bool.and_eq_true]
    refine ⟨?_, okVs_pure hp l h.2⟩
    cases v <;> first | rfl | (have := h.1; simp [norm, pureAV] at this)

theorem canT_sl (e : Ty) (v : AV) : (v = .con (.slice none 0 0) ∧ canT (.sl e) v = .ro e []) ∨ canT (.sl e) v = v := by
  cases v with
  | con u =>
    cases u with
    | slice A n c =>
      cases A with
      | some A => exact .inr rfl
      | none => cases n with
        | succ n => exact .inr rfl
        | zero => cases c with
          | succ c => exact .inr rfl
          | zero => exact .inl ⟨rfl, rfl⟩
    | _ => exact .inr rfl
  | _ => exact .inr rfl
mutual
theorem CR_canT {c : Cx} : ∀ (e : Ty) (v : AV) (l : List Value), CR c v l → CR c (canT e v) l
  | .sl e, v, l, h => by
    rcases canT_sl e v with ⟨rfl, h1⟩ | h1
    · rw [h1]
      obtain ⟨rfl, _⟩ := h
      exact ⟨none, 0, rfl, Nat.le_refl _, Nat.zero_le _, Nat.zero_le _, fun _ _ => rfl, fun hne => absurd rfl hne⟩
    · rw [h1]; exact h
  | .pair a b, .agg (u :: r), l, h => by
    obtain ⟨p, q, rfl, h2, h3⟩ := h
    exact ⟨p, q, rfl, CR_canT a u p h2, CRs_canTs b r q h3⟩
  | .pair a b, .agg [], l, h => h
  | .pair a b, .int _ _, l, h => h
  | .pair a b, .bool _, l, h => h
  | .pair a b, .str _, l, h => h
  | .pair a b, .ro _ _, l, h => h
  | .pair a b, .arr _ _ _, l, h => h
  | .pair a b, .own _, l, h => h
  | .pair a b, .ptr _ _, l, h => h
  | .pair a b, .vsl _ _, l, h => h
  | .pair a b, .vw _ _ _, l, h => h
  | .pair a b, .rop _ _, l, h => h
  | .pair a b, .raw _ _, l, h => h
  | .pair a b, .con _, l, h => h
  | .pair a b, .fn _ _ _, l, h => h
  | .pair a b, .tup _, l, h => h
  | .pair a b, .und, l, h => h
  | .pair a b, .dead, l, h => h
  | .int _, v, l, h => by unfold canT; exact h
  | .bool, v, l, h => by unfold canT; exact h
  | .str, v, l, h => by unfold canT; exact h
  | .unit, v, l, h => by unfold canT; exact h
  | .arr _ _, v, l, h => by unfold canT; exact h
  | .opq _, v, l, h => by unfold canT; exact h
theorem CRs_canTs {c : Cx} : ∀ (e : Ty) (r : List AV) (l : List Value), CRs c r l → CRs c (canTs e r) l
  | .pair a b, u :: r, l, h => by
    obtain ⟨p, q, rfl, h2, h3⟩ := h
    exact ⟨p, q, rfl, CR_canT a u p h2, CRs_canTs b r q h3⟩
  | .pair a b, [], l, h => h
  | .int _, v, l, h => by unfold canTs; exact h
  | .bool, v, l, h => by unfold canTs; exact h
  | .str, v, l, h => by unfold canTs; exact h
  | .unit, v, l, h => by unfold canTs; exact h
  | .sl _, v, l, h => by unfold canTs; exact h
  | .arr _ _, v, l, h => by unfold canTs; exact h
  | .opq _, v, l, h => by unfold canTs; exact h
end
theorem aggAV_canT {c : Cx} : ∀ (e : Ty) (v : AV) (l : List Value), CR c v l → aggAV (canT e v) = aggAV v := by
  intro e v l h
  cases e with
  | sl e =>
    rcases canT_sl e v with ⟨rfl, h1⟩ | h1
    · rw [h1]; rfl
    · rw [h1]
  | pair a b =>
    cases v with
    | agg r => cases r <;> rfl
    | _ => rfl
  | _ => unfold canT; rfl
theorem CVs_canAs {c : Cx} (tt : List (Nat × Ty)) : ∀ (r : List AV) (ts : List Nat) (xs : List Value), CVs c r xs → CVs c (canAs tt r ts) xs
  | [], ts, xs, h => by unfold canAs; exact h
  | v :: r, [], xs, h => by unfold canAs; exact h
  | v :: r, t :: ts, xs, h => by
    obtain ⟨x, ys, rfl, h1, h2, h3⟩ := h
    unfold canAs
    refine ⟨x, ys, rfl, ?_, ?_, CVs_canAs tt r ts ys h3⟩
    · split
      · exact CR_canT _ v _ h1
      · exact h1
    · split
      · rw [aggAV_canT _ v _ h1]; exact h2
      · exact h2
theorem pures_append : ∀ l l' : List AV, pureAV.pures (l ++ l') = (pureAV.pures l && pureAV.pures l')
  | [], l' => by simp [pureAV.pures]
  | v :: l, l' => by rw [List.cons_append]; simp only [pureAV.pures]; rw [pures_append l l', Bool.and_assoc]
theorem ownss_append : ∀ l l' : List AV, owns.ownss (l ++ l') = owns.ownss l ++ owns.ownss l'
  | [], l' => by simp [owns.ownss]
  | v :: l, l' => by rw [List.cons_append]; simp only [owns.ownss]; rw [ownss_append l l', List.append_assoc]
mutual
theorem pure_canT : ∀ (e : Ty) (v : AV), pureAV (canT e v) = pureAV v
  | .sl e, v => by
    rcases canT_sl e v with ⟨rfl, h1⟩ | h1
    · rw [h1]; rfl
    · rw [h1]
  | .pair a b, .agg (u :: r) => by
    show (pureAV (canT a u) && pureAV.pures (canTs b r)) = (pureAV u && pureAV.pures r)
    rw [pure_canT a u, pures_canTs b r]
  | .pair a b, .agg [] => rfl
  | .pair a b, .int _ _ => rfl
  | .pair a b, .bool _ => rfl
  | .pair a b, .str _ => rfl
  | .pair a b, .ro _ _ => rfl
  | .pair a b, .arr _ _ _ => rfl
  | .pair a b, .own _ => rfl
  | .pair a b, .ptr _ _ => rfl
  | .pair a b, .vsl _ _ => rfl
  | .pair a b, .vw _ _ _ => rfl
  | .pair a b, .rop _ _ => rfl
  | .pair a b, .raw _ _ => rfl
  | .pair a b, .con _ => rfl
  | .pair a b, .fn _ _ _ => rfl
  | .pair a b, .tup _ => rfl
  | .pair a b, .und => rfl
  | .pair a b, .dead => rfl
  | .int _, v => by unfold canT; rfl
  | .bool, v => by unfold canT; rfl
  | .str, v => by unfold canT; rfl
  | .unit, v => by unfold canT; rfl
  | .arr _ _, v => by unfold canT; rfl
  | .opq _, v => by unfold canT; rfl
theorem pures_canTs : ∀ (e : Ty) (r : List AV), pureAV.pures (canTs e r) = pureAV.pures r
  | .pair a b, u :: r => by
    show (pureAV (canT a u) && pureAV.pures (canTs b r)) = (pureAV u && pureAV.pures r)
    rw [pure_canT a u, pures_canTs b r]
  | .pair a b, [] => rfl
  | .int _, v => by unfold canTs; rfl
  | .bool, v => by unfold canTs; rfl
  | .str, v => by unfold canTs; rfl
  | .unit, v => by unfold canTs; rfl
  | .sl _, v => by unfold canTs; rfl
  | .arr _ _, v => by unfold canTs; rfl
  | .opq _, v => by unfold canTs; rfl
end
theorem pures_canAs (tt : List (Nat × Ty)) : ∀ (r : List AV) (ts : List Nat), pureAV.pures (canAs tt r ts) = pureAV.pures r
  | [], ts => by unfold canAs; rfl
  | v :: r, [] => by unfold canAs; rfl
  | v :: r, t :: ts => by
    unfold canAs
    show (pureAV _ && pureAV.pures (canAs tt r ts)) = (pureAV v && pureAV.pures r)
    rw [pures_canAs tt r ts]
    split
    · rw [pure_canT]
    · rfl
theorem exec_call {c : Call} {f : Operand} {g : FuncId} {fs cs : Array Value} (ho : o.op = .call c) (hc : c.callee = .value f) (hf : a.eval f = .func (.func g) fs cs) (P : Program) (w : World) :
    (execOp a.eval o).run P w = (callFunc g (fs ++ c.args.map a.eval ++ cs)).run P w := by
  simp only [execOp, ho, resolve, hc, Deferred.ofValue, hf, invoke, Sem.run_bind, Sem.run_pure, Result.andThen_ok]

theorem upon_Inv {P : Program} {g : FuncId} {xs : Array Value} {next : Act → World → Prop} {Q : Exit → Act → World → Prop} {D : Value → World → Prop} (h : Inv P g xs w D) (hn : ∀ z w', D z w' → next (a.put o.dst z) w') :
    o.upon P a next Q ((callFunc g xs).run P w) := by
  rcases h with ⟨z, w', h1, h2⟩ | ⟨h1, h2⟩
  · rw [h1, Oper.upon_value]; exact hn _ _ h2
  · rw [h1, Oper.upon_enter]
    refine calls_mono h2 fun e w' h => ?_
    obtain ⟨z, rfl, h⟩ := h
    exact hn z w' h

theorem allFz_spec {hp : List (Nat × Blk)} : ∀ {l : List Nat}, allFz hp l = true → ∀ id ∈ l, ∃ te e xs, lkb hp id = .row te e xs true
  | i :: l, h, id, hm => by
    unfold allFz at h
    rw [Bool.and_eq_true] at h
    rcases List.mem_cons.1 hm with rfl | hm
    · have h := h.1
      split at h
      · rename_i te e xs hb; exact ⟨te, e, xs, hb⟩
      · cases h
    · exact allFz_spec h.2 id hm
theorem okC_fz (R : RR X ρ s a w) {id te : Nat} {e : Ty} {xs : List e.den} (hb : lkb s.hp id = .row te e xs true) (hl : live (lkb s.hp id)) : okC X ρ s.hp w (ρ id) := by
  have hh := R.heap id
  rw [hb] at hh hl
  obtain ⟨g0, hh⟩ := hh
  obtain ⟨g1, _⟩ := hh hl
  refine ⟨.inr g1, (R.lt (by rw [hb]; exact hl)).2, fun i hi he => ?_⟩
  have := R.inj i id (liveW_live hi) (by rw [hb]; exact hl) he
  subst this
  rw [hb] at hi; exact hi
/-- By contract. -/
theorem ex_callC {c : Call} {f : Operand} {next : Act → World → Prop} {Q : Exit → Act → World → Prop} {C : AV → Prop} (hE : EnvC E X.P) (R : RR X ρ s a w) (ho : o.op = .call c) (hc : c.callee = .value f) (h : pv E s.hp (opn s.fr) (.call c) C)
    (hn : ∀ v z w', C v → Below w.heap.size w w' → RR X ρ s a w' → VR (cx X ρ s.hp w') v z → next (a.put o.dst z) w') : o.wp X.P a w next Q := by
  simp only [pv] at h
  rw [hc] at h; simp only at h
  have hf := VR_opn R f
  generalize opn s.fr f = vf at h hf
  split at h
  · rename_i g fs cs
    split at h
    · rename_i F hF
      obtain ⟨r, hr, h⟩ := callK_elim h
      · obtain ⟨h1, hC⟩ := cond_elim h
        rw [Bool.and_eq_true, Bool.and_eq_true] at h1
        obtain ⟨⟨h1, h2⟩, h3⟩ := h1
        obtain ⟨fs', cs', ef, hfs, hcs⟩ := VR_fn hf
        have hok := okVs_pure s.hp _ h1
        rw [okVs_append, okVs_append, Bool.and_eq_true, Bool.and_eq_true] at hok
        have hargs : CVs (cx X ρ s.hp w) (c.args.toList.map (opn s.fr)) (c.args.toList.map a.eval) := CVs_of_VR _ _ (fun q => VR_opn R q) _ hok.1.2
        have hown := fun id (h : id ∈ owns.ownss fs ++ owns.ownss (c.args.toList.map (opn s.fr)) ++ owns.ownss cs) => h
        rw [List.map_append, List.map_append, pures_append, pures_append, Bool.and_eq_true, Bool.and_eq_true] at h1
        have hsub : ∀ id, id ∈ owns.ownss fs ∨ id ∈ owns.ownss (c.args.toList.map (opn s.fr)) ∨ id ∈ owns.ownss cs → id ∈ owns.ownss (fs ++ c.args.toList.map (opn s.fr) ++ cs) := by
          intro id h
          rw [ownss_append, ownss_append, List.mem_append, List.mem_append]
          rcases h with h | h | h
          · exact .inl (.inl h)
          · exact .inl (.inr h)
          · exact .inr h
        have hN1 := norms_CVs R _ _ (owns.ownss (fs ++ c.args.toList.map (opn s.fr) ++ cs)) (fun id h => hsub id (.inl h)) h1.1.1 hfs
        have hN2 := norms_CVs R _ _ (owns.ownss (fs ++ c.args.toList.map (opn s.fr) ++ cs)) (fun id h => hsub id (.inr (.inl h))) h1.1.2 hargs
        have hN3 := norms_CVs R _ _ (owns.ownss (fs ++ c.args.toList.map (opn s.fr) ++ cs)) (fun id h => hsub id (.inr (.inr h))) h1.2 hcs
        have hN := CVs_append _ _ _ _ (CVs_append _ _ _ _ hN1 (CVs_canAs E.tt _ c.argTypes.toList _ hN2)) hN3
        have hP : pureAV.pures (callArgs E.tt s.hp fs (c.args.toList.map (opn s.fr)) cs c.argTypes.toList) = true := by
          unfold callArgs
          rw [pures_append, pures_append, h1.1.1, h1.2, pures_canAs, h1.1.2]; rfl
        have hcon := hE.fns g F hF (okL X ρ s.hp w (owns.ownss (fs ++ c.args.toList.map (opn s.fr) ++ cs))) w _ (fs' ++ c.args.map a.eval ++ cs') r (fun b hb => by
          rcases hb with hb | ⟨id, _, hl, rfl⟩
          · exact hb.2.1
          · exact (R.lt hl).2) (R.gl.mono fun b hb => ⟨.inl hb, .refl _ _⟩) hr hP (by rw [Array.toList_append, Array.toList_append, Array.toList_map]; exact hN)
        unfold Oper.wp
        rw [exec_call ho hc ef]
        refine upon_Inv hcon fun z w' ⟨hB, hv⟩ => ?_
        obtain ⟨_, R'⟩ := R.world hB
        refine hn r z w' hC hB R' ?_
        rw [Bool.or_eq_true] at h3
        rcases h3 with h3 | h3
        · exact VR_nolead r z (by simpa using h3) hv
        · have hsub : ∀ b, (cx0 (fun b => (okL X ρ s.hp w (owns.ownss (fs ++ c.args.toList.map (opn s.fr) ++ cs)) b ∨ w.heap.size ≤ b) ∧ b < w'.heap.size) w').ok b → (cx X ρ s.hp w').ok b ∧ SameC w' w' b := fun b hb => ⟨?_, .refl _ _⟩
          · exact VR_pureR hsub r z h2 hv
          have hb : (okL X ρ s.hp w (owns.ownss (fs ++ c.args.toList.map (opn s.fr) ++ cs)) b ∨ w.heap.size ≤ b) ∧ b < w'.heap.size := hb
          obtain ⟨hb, hlt⟩ := hb
          rcases hb with (hb | ⟨id, hm, hlv, heq⟩) | hb
          · exact ⟨hb.1, hlt, hb.2.2⟩
          · obtain ⟨te, e, xs, hrow⟩ := allFz_spec h3 id hm
            rw [heq]
            have := okC_fz R hrow hlv
            exact ⟨this.1, by rw [← heq]; exact hlt, this.2.2⟩
          · exact ⟨.inr (Nat.le_trans R.base_le hb), hlt, fun id hl he => by have := (R.lt (liveW_live hl)).2; omega⟩
    · exact h.elim
  · exact h.elim

/-- A call that is looked into: what the caller's frame comes to. -/
def stkOf (X : Fix) (s : St) (i : Nat) : AV := if i % 2 = 0 then lk s.fr (i / 2) else match s.ks with
  | some ks => killAll ks.1 (X.stk (i / 2))
  | none => .dead
def stvOf (X : Fix) (a : Act) (i : Nat) : Value := if i % 2 = 0 then a.tmps.getD (i / 2) undef else X.stv (i / 2)

/-- Behind a call that was looked into: the caller's frame. -/
theorem back_up {X1 : Fix} {ρ' : Nat → Nat} {hp' : List (Nat × Blk)} {ks : Ks} {a1 a' : Act} (h0 : X1.ok0 = X.ok0) (hw : X1.w0 = X.w0) (hs : X1.stk = stkOf X s) (hv : X1.stv = stvOf X a)
    (R : RR X ρ s a w) (R2 : RR X1 ρ' ⟨[], hp', some ks⟩ a1 w') (ha : a'.tmps = a.tmps) (hsp : ∀ ks, s.ks = some ks → X.sp ks.2 w') (hdf : DefOk X.nm (max X.base X.lim) a'.defers w') (hlim : X.lim ≤ w'.heap.size) :
    RR X ρ' ⟨killAllF ks.1 s.fr, hp', appK (some ks) s.ks⟩ a' w' := by
  have hb : X1.base = X.base := by unfold Fix.base; rw [hw]
  have hc : ∀ hp w, cx X1 ρ' hp w = cx X ρ' hp w := by
    intro hp w
    unfold cx okC
    rw [h0, hb]
  have hstk := R2.stk
  rw [show (⟨[], hp', some ks⟩ : St).hp = hp' from rfl, hc, hs, hv] at hstk
  have hheap := R2.heap
  rw [show (⟨[], hp', some ks⟩ : St).hp = hp' from rfl, hc] at hheap
  refine ⟨by rw [ha]; exact R.size, hdf, fun b hb' => R.ok0 b hb', by have := R2.below; rw [hb, hw] at this; exact this, fun id => ?_, R2.inj, fun d => ?_, fun ks' hks' i => ?_, fun ks' hks' => ?_, hlim⟩
  · have hh := hheap id
    show HB X _ id (lkb hp' id)
    cases hk : lkb hp' id with
    | none => trivial
    | var e v f => rw [hk] at hh; unfold HB at hh ⊢; rw [hb] at hh; exact hh
    | row te e xs f => rw [hk] at hh; unfold HB at hh ⊢; rw [hb] at hh; exact hh
  · have := hstk ks rfl (2 * d)
    have e1 : stkOf X s (2 * d) = lk s.fr d := by
      unfold stkOf
      rw [if_pos (by omega)]; congr 1; omega
    have e2 : stvOf X a (2 * d) = a.tmps.getD d undef := by
      unfold stvOf
      rw [if_pos (by omega)]; congr 1; omega
    show VR (cx X ρ' hp' w') (lk (killAllF ks.1 s.fr) d) _
    rw [lk_killAllF, ha]
    rw [e1, e2] at this
    exact this
  · cases hk : s.ks with
    | none => rw [hk] at hks'; obtain ⟨_, _⟩ := ks; cases hks'
    | some l =>
      rw [hk] at hks'
      obtain ⟨k1, p1⟩ := ks
      obtain ⟨l, p⟩ := l
      have hks' : some (k1 ++ l, p) = some ks' := hks'
      cases hks'
      have this := hstk (k1, p1) rfl (2 * i + 1)
      have e1 : stkOf X s (2 * i + 1) = killAll l (X.stk i) := by
        unfold stkOf
        rw [if_neg (by omega), hk]
        have : (2 * i + 1) / 2 = i := by omega
        rw [this]
      have e2 : stvOf X a (2 * i + 1) = X.stv i := by
        unfold stvOf
        rw [if_neg (by omega)]; congr 1; omega
      rw [e1, e2] at this
      show VR _ (killAll (k1 ++ l) (X.stk i)) _
      rw [killAll_append]; exact this
  · cases hk : s.ks with
    | none => rw [hk] at hks'; obtain ⟨_, _⟩ := ks; cases hks'
    | some l =>
      rw [hk] at hks'
      obtain ⟨k1, p1⟩ := ks
      obtain ⟨l, p⟩ := l
      have hks' : some (k1 ++ l, p) = some ks' := hks'
      cases hks'
      exact hsp (l, p) hk

theorem ex_callS {c : Call} {f : Operand} {next : Act → World → Prop} {Q : Exit → Act → World → Prop} {g : FuncId} {fs cs : List AV} {T : Proc} {off : Nat} {D : List (Nat × Blk) → Option Ks → AV → Prop} (hE : EnvC E X.P) (R : RR X ρ s a w) (ho : o.op = .call c) (hc : c.callee = .value f)
    (hf : opn s.fr f = .fn (.func g) fs cs) (hT : lkP E.prs g = some T) (hok : okVs (fs ++ c.args.toList.map (opn s.fr) ++ cs) = true) (h : T off s.hp (fs ++ c.args.toList.map (opn s.fr) ++ cs) D)
    (hn : ∀ ρ' hp' ks r z w', D hp' (some ks) r → RR X ρ' ⟨killAllF ks.1 s.fr, hp', appK (some ks) s.ks⟩ a w' → VR (cx X ρ' hp' w') r z → next (a.put o.dst z) w') : o.wp X.P a w next Q := by
  have hfv := VR_opn R f
  rw [hf] at hfv
  obtain ⟨fs', cs', ef, hfs, hcs⟩ := VR_fn hfv
  have hok' := hok
  rw [okVs_append, okVs_append, Bool.and_eq_true, Bool.and_eq_true] at hok'
  have hargs : CVs (cx X ρ s.hp w) (c.args.toList.map (opn s.fr)) (c.args.toList.map a.eval) := CVs_of_VR _ _ (fun q => VR_opn R q) _ hok'.1.2
  have hall := CVs_append _ _ _ _ (CVs_append _ _ _ _ hfs hargs) hcs
  obtain ⟨X1, hX1⟩ : ∃ X1 : Fix, X1 = { X with stk := stkOf X s, stv := stvOf X a, lim := w.heap.size, sp := fun _ w' => (∀ ks, s.ks = some ks → X.sp ks.2 w') ∧ DefOk X.nm (max X.base X.lim) a.defers w', spk := fun _ w1 w2 hk hz h => ⟨fun ks hks => X.spk _ _ _ (hk.mono R.lim) hz (h.1 ks hks), h.2.keepB R.defers.1 hk⟩ } := ⟨_, rfl⟩
  have R1 : RR X1 ρ ⟨[], s.hp, some ([], 0)⟩ { a with defers := [] } w := by
    subst hX1
    refine ⟨R.size, ⟨Marks.nil _ _, fun _ => rfl⟩, R.ok0, R.below, R.heap, R.inj, fun d => trivial, fun ks hks i => ?_, fun ks hks => ⟨R.sp, R.defers⟩, Nat.le_refl _⟩
    cases hks
    show VR (cx X ρ s.hp w) (stkOf X s i) (stvOf X a i)
    unfold stkOf stvOf
    by_cases hi : i % 2 = 0
    · rw [if_pos hi, if_pos hi]; exact R.fr _
    · rw [if_neg hi, if_neg hi]
      cases hk : s.ks with
      | none => trivial
      | some ks => exact R.stk ks hk _
  have hcon := hE.prs g T hT off X1 ρ s.hp w _ (fs' ++ c.args.map a.eval ++ cs') { a with defers := [] } D (by rw [hX1]) R1 hok (by subst hX1; rw [Array.toList_append, Array.toList_append, Array.toList_map]; exact hall) h
  unfold Oper.wp
  rw [exec_call ho hc ef]
  refine upon_Inv hcon fun z w' ⟨ρ', hp', ks, r, a1, hD, R2, hv⟩ => ?_
  obtain ⟨k1, k2⟩ : (∀ ks, s.ks = some ks → X.sp ks.2 w') ∧ DefOk X.nm (max X.base X.lim) a.defers w' := by have := R2.sp ks rfl; rw [hX1] at this; exact this
  have k3 : w.heap.size ≤ w'.heap.size := by have := R2.lim; rw [hX1] at this; exact this
  have R3 := back_up (X := X) (a' := a) (by rw [hX1]) (by rw [hX1]) (by rw [hX1]) (by rw [hX1]) R R2 rfl k1 k2 (Nat.le_trans R.lim k3)
  exact hn ρ' hp' ks r z w' hD R3 (by rw [hX1] at hv; exact hv)

/-- The fence of a frame: of a function's; of a round's of loop l. -/
def FW (ro : Option Nat) : Fence := { fn := fun _ => True, depth := none, alive := false, round := ro }

theorem ex_callY {c : Call} {f : Operand} {next : Act → World → Prop} {Q : Exit → Act → World → Prop} {l : Nat} {Y : List Nat → Proc} {S : List Nat} {off n : Nat} {D : List (Nat × Blk) → Option Ks → AV → Prop} (hY : YOk X l Y) (hnm : X.nm = true) (R : RR X ρ s a w) (ho : o.op = .call c) (hc : c.callee = .value f)
    (hf : opn s.fr f = .fn (.yield l) [] []) (hks : s.ks = some (S, 0)) (hok : okVs (c.args.toList.map (opn s.fr)) = true) (h : Y S off s.hp (c.args.toList.map (opn s.fr)) D)
    (hn : ∀ ρ' hp' ks r z w', D hp' (some ks) r → RR X ρ' ⟨killAllF ks.1 s.fr, hp', appY (some ks) s.ks⟩ a w' → VR (cx X ρ' hp' w') r z → next (a.put o.dst z) w') : o.wpIn (FW none) n X.P a w next Q := by
  have hfv := VR_opn R f
  rw [hf] at hfv
  obtain ⟨fs', cs', ef, hfs, hcs⟩ := VR_fn hfv
  obtain rfl : fs' = #[] := by
    have : fs'.toList = [] := hfs
    simpa using this
  obtain rfl : cs' = #[] := by
    have : cs'.toList = [] := hcs
    simpa using this
  have hargs : CVs (cx X ρ s.hp w) (c.args.toList.map (opn s.fr)) (c.args.toList.map a.eval) := CVs_of_VR _ _ (fun q => VR_opn R q) _ hok
  have hd := R.defers.2 hnm
  obtain ⟨X1, hX1⟩ : ∃ X1 : Fix, X1 = { X with stk := stkOf X s, stv := stvOf X a } := ⟨_, rfl⟩
  have R1 : RR X1 ρ ⟨[], s.hp, some ([], 0)⟩ a w := by
    subst hX1
    refine ⟨R.size, R.defers, R.ok0, R.below, R.heap, R.inj, fun d => trivial, fun ks hks i => ?_, fun ks hks' => ?_, R.lim⟩
    · cases hks
      show VR (cx X ρ s.hp w) (stkOf X s i) (stvOf X a i)
      unfold stkOf stvOf
      by_cases hi : i % 2 = 0
      · rw [if_pos hi, if_pos hi]; exact R.fr _
      · rw [if_neg hi, if_neg hi]
        cases hk : s.ks with
        | none => trivial
        | some ks => exact R.stk ks hk _
    · cases hks'
      exact R.sp (S, 0) hks
  obtain ⟨fn, tmps, asg, body, hy, hround⟩ := hY S off X1 ρ s.hp w _ (c.args.map a.eval) a D (by rw [hX1]) (by rw [hX1]) (by rw [hX1]) (by rw [hX1]) (fun i => ⟨2 * i + 1, by
      subst hX1
      show stkOf X s (2 * i + 1) = _
      unfold stkOf
      rw [if_neg (by omega), hks]
      have : (2 * i + 1) / 2 = i := by omega
      rw [this], by
      subst hX1
      show stvOf X a (2 * i + 1) = _
      unfold stvOf
      rw [if_neg (by omega)]; congr 1; omega⟩) R1 hok (by subst hX1; rw [Array.toList_map]; exact hargs) h
  refine ⟨fun _ _ => trivial, ?_⟩
  have hrun : (o.semAt (FW none).round a.eval).run X.P w = .ok (.round l fn tmps asg body) w := by
    rw [Oper.semAt_eq _ _ _ (by intro c' hc'; rw [ho] at hc'; cases hc')]
    simp only [execOp, ho, resolve, hc, Deferred.ofValue, ef, invoke, Sem.run_bind, Sem.run_pure, Result.andThen_ok]
    simpa using hy
  rw [hrun, Oper.uponIn_round]
  refine ⟨(fun h => by cases h), ?_⟩
  refine RoundIn.mono (R := fun e w' => ∃ z, e = .returned z ∧ ∃ ρ' hp' ks r a1, D hp' (some ks) r ∧ RR X1 ρ' ⟨[], hp', some ks⟩ a1 w' ∧ VR (cx X1 ρ' hp' w') r z) ⟨trivial, fun c cs _ => hround.2 c cs (room_wide _)⟩ ?_
  rintro e w' ⟨z, rfl, ρ', hp', ks, r, a1, hD, R2, hv⟩
  subst hX1
  refine hn ρ' hp' ks r z w' hD ⟨R.size, ⟨by rw [hd]; exact Marks.nil _ _, fun _ => hd⟩, R.ok0, R2.below, R2.heap, R2.inj, fun d => ?_, fun ks' hks' i => ?_, fun ks' hks' => ?_, R2.lim⟩ hv
  · have := R2.stk ks rfl (2 * d)
    have e1 : stkOf X s (2 * d) = lk s.fr d := by
      unfold stkOf
      rw [if_pos (by omega)]; congr 1; omega
    have e2 : stvOf X a (2 * d) = a.tmps.getD d undef := by
      unfold stvOf
      rw [if_pos (by omega)]; congr 1; omega
    show VR (cx X ρ' hp' w') (lk (killAllF ks.1 s.fr) d) _
    rw [lk_killAllF]
    have this : VR (cx X ρ' hp' w') (killAll ks.1 (stkOf X s (2 * d))) (stvOf X a (2 * d)) := this
    rw [e1, e2] at this
    exact this
  · rw [hks] at hks'
    obtain ⟨k1, p1⟩ := ks
    have hks' : some (k1 ++ S, p1) = some ks' := hks'
    cases hks'
    have := R2.stk (k1, p1) rfl (2 * i + 1)
    have this : VR (cx X ρ' hp' w') (killAll k1 (stkOf X s (2 * i + 1))) (stvOf X a (2 * i + 1)) := this
    have e1 : stkOf X s (2 * i + 1) = killAll S (X.stk i) := by
      unfold stkOf
      rw [if_neg (by omega), hks]
      have : (2 * i + 1) / 2 = i := by omega
      rw [this]
    have e2 : stvOf X a (2 * i + 1) = X.stv i := by
      unfold stvOf
      rw [if_neg (by omega)]; congr 1; omega
    rw [e1, e2] at this
    show VR _ (killAll (k1 ++ S) (X.stk i)) _
    rw [killAll_append]; exact this
  · rw [hks] at hks'
    obtain ⟨k1, p1⟩ := ks
    have hks' : some (k1 ++ S, p1) = some ks' := hks'
    cases hks'
    exact R2.sp (k1, p1) rfl
end
end Go.Proofs.YtoihmfgkmndjfaaV
