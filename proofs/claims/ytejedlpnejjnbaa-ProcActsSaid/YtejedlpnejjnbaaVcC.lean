/- The relation between a state of the VC evaluator and a frame in a world; types' tables; puts, operands. -/
import Derived.Test.YtejedlpnejjnbaaVcB
set_option linter.unusedVariables false
namespace Go.Proofs.YtejedlpnejjnbaaV
open Go.RowKit

/-- What is no cells lies as it lay. -/
def Keeps (w w' : World) : Prop := ∀ (k : Nat) (o : Obj), w.heap[k]? = some o → (∀ cs T z, o ≠ .cells cs T z) → w'.heap[k]? = some o
theorem Keeps.refl (w : World) : Keeps w w := fun _ _ h _ => h
theorem Keeps.trans {w w' w'' : World} (h : Keeps w w') (h' : Keeps w' w'') : Keeps w w'' := fun k o hk ho => h' k o (h k o hk ho) ho
theorem Keeps.of_below {w w' : World} (h : Below w.heap.size w w') : Keeps w w' := fun k o hk _ => by
  have hlt : k < w.heap.size := (Array.getElem?_eq_some_iff.1 hk).1
  exact (h.block k hlt).trans hk
/-- The same, of the blocks below a bound. -/
def KeepsB (n : Nat) (w w' : World) : Prop := ∀ (k : Nat) (o : Obj), k < n → w.heap[k]? = some o → (∀ cs T z, o ≠ .cells cs T z) → w'.heap[k]? = some o
theorem Keeps.b {w w' : World} (h : Keeps w w') (n : Nat) : KeepsB n w w' := fun k o _ => h k o
theorem KeepsB.mono {n m : Nat} {w w' : World} (h : KeepsB n w w') (hm : m ≤ n) : KeepsB m w w' := fun k o hk => h k o (Nat.lt_of_lt_of_le hk hm)
/-- sp: what is known besides (of an iterator: of its loop's record), by the jump of the round that came last. nm: it ranges over no function. -/
structure Fix where
  P : Program
  nt : Nat
  ok0 : Nat → Prop
  w0 : World
  stk : Nat → AV
  stv : Nat → Value
  sp : Nat → World → Prop
  lim : Nat
  spk : ∀ p w w', KeepsB lim w w' → w.heap.size ≤ w'.heap.size → sp p w → sp p w'
  gl : GlOk ok0 w0
  nm : Bool
def Fix.base (X : Fix) : Nat := X.w0.heap.size

def liveW : Blk → Prop
  | .var _ _ false => True
  | .row _ _ xs false => xs ≠ []
  | _ => False
def live : Blk → Prop
  | .var _ _ _ => True
  | .row _ _ xs _ => xs ≠ []
  | .none => False
theorem liveW_live {b : Blk} (h : liveW b) : live b := by
  cases b with
  | none => exact h
  | var e v f => trivial
  | row te e xs f => cases f with
    | false => exact h
    | true => exact h.elim

def okC (X : Fix) (ρ : Nat → Nat) (hp : List (Nat × Blk)) (w : World) (b : Nat) : Prop :=
  (X.ok0 b ∨ X.base ≤ b) ∧ b < w.heap.size ∧ ∀ id, liveW (lkb hp id) → ρ id ≠ b
def cx (X : Fix) (ρ : Nat → Nat) (hp : List (Nat × Blk)) (w : World) : Cx := ⟨ρ, okC X ρ hp w, w, hp⟩

mutual
def Shp : Ty → AV → Prop
  | .int k, .int k' _ => k' = k
  | .bool, .bool _ => True
  | .str, .str _ => True
  | .sl e, .ro e' _ => e' = e
  | .sl _, .con _ => True
  | .sl _, .own _ => True
  | .sl _, .vsl _ _ => True
  | .sl _, .dead => True
  | .unit, .agg [] => True
  | .pair a b, .agg (v :: l) => Shp a v ∧ Shps b l
  | .arr n e, .arr n' e' _ => n' = n ∧ e' = e
  | .opq _, .ptr _ _ => True
  | .opq _, .fn _ _ _ => True
  | .opq _, .con _ => True
  | .opq _, .dead => True
  | _, _ => False
def Shps : Ty → List AV → Prop
  | .pair a b, v :: l => Shp a v ∧ Shps b l
  | .unit, [] => True
  | _, _ => False
end

def HB (X : Fix) (c : Cx) (id : Nat) : Blk → Prop
  | .none => True
  | .var e v f => X.base ≤ c.ρ id ∧ ∃ cs T, c.w.heap[c.ρ id]? = some (.cells cs T (0, 0)) ∧ CR c v cs.toList ∧ Shp e v ∧ WfT e
  | .row te e xs f => WfT e ∧ (xs ≠ [] → X.base ≤ c.ρ id ∧ ∃ cs, c.w.heap[c.ρ id]? = some (.cells cs te (0, 0)) ∧
      xs.length * e.size ≤ cs.size ∧ EncL (Enc c.ok c.w e) xs (cs.toList.take (xs.length * e.size)))

/-- The marks of the loops over functions that the activation has come through. -/
def mark (D : Nat) : Deferred := { target := .collected D, args := #[] }
def Marks (base : Nat) (ds : List Deferred) (w : World) : Prop := ∃ l : List Nat, ds = l.map mark ∧ l.Nodup ∧ ∀ D ∈ l, base ≤ D ∧ w.heap[D]? = some (.deferred (some []))
theorem Marks.keep {base : Nat} {ds : List Deferred} {w w' : World} (h : Marks base ds w) (hk : Keeps w w') : Marks base ds w' := by
  obtain ⟨l, h1, h2, h3⟩ := h
  exact ⟨l, h1, h2, fun D hD => ⟨(h3 D hD).1, hk D _ (h3 D hD).2 (fun _ _ _ h => by cases h)⟩⟩
def DefOk (nm : Bool) (base : Nat) (ds : List Deferred) (w : World) : Prop := Marks base ds w ∧ (nm = true → ds = [])
theorem DefOk.keep {nm : Bool} {base : Nat} {ds : List Deferred} {w w' : World} (h : DefOk nm base ds w) (hk : Keeps w w') : DefOk nm base ds w' := ⟨h.1.keep hk, h.2⟩
theorem mark_inj : ∀ {l l' : List Nat}, l.map mark = l'.map mark → l = l'
  | [], [], _ => rfl
  | [], _ :: _, h => by cases h
  | _ :: _, [], h => by cases h
  | x :: l, y :: l', h => by
    simp only [List.map_cons, List.cons.injEq] at h
    obtain ⟨h1, h2⟩ := h
    have h1 : x = y := by simpa [mark] using h1
    rw [h1, mark_inj h2]
theorem Marks.keepB {base base0 : Nat} {ds : List Deferred} {w0 w w' : World} (h0 : Marks base0 ds w0) (h : Marks base ds w) (hk : KeepsB w0.heap.size w w') : Marks base ds w' := by
  obtain ⟨l0, e0, _, k0⟩ := h0
  obtain ⟨l, h1, h2, h3⟩ := h
  obtain rfl : l0 = l := mark_inj (e0.symm.trans h1)
  exact ⟨l0, h1, h2, fun D hD => ⟨(h3 D hD).1, hk D _ (Array.getElem?_eq_some_iff.1 (k0 D hD).2).1 (h3 D hD).2 (fun _ _ _ h => by cases h)⟩⟩
theorem DefOk.keepB {nm : Bool} {base base0 : Nat} {ds : List Deferred} {w0 w w' : World} (h0 : Marks base0 ds w0) (h : DefOk nm base ds w) (hk : KeepsB w0.heap.size w w') : DefOk nm base ds w' := ⟨h0.keepB h.1 hk, h.2⟩
theorem Marks.nil (base : Nat) (w : World) : Marks base [] w := ⟨[], rfl, List.nodup_nil, fun _ h => by cases h⟩

structure RR (X : Fix) (ρ : Nat → Nat) (s : St) (a : Act) (w : World) : Prop where
  size : a.tmps.size = X.nt
  defers : DefOk X.nm (max X.base X.lim) a.defers w
  ok0 : ∀ b, X.ok0 b → b < X.base
  below : Below X.base X.w0 w
  heap : ∀ id, HB X (cx X ρ s.hp w) id (lkb s.hp id)
  inj : ∀ id id', live (lkb s.hp id) → live (lkb s.hp id') → ρ id = ρ id' → id = id'
  fr : ∀ d, VR (cx X ρ s.hp w) (lk s.fr d) (a.tmps.getD d undef)
  stk : ∀ ks, s.ks = some ks → ∀ i, VR (cx X ρ s.hp w) (killAll ks.1 (X.stk i)) (X.stv i)
  sp : ∀ ks, s.ks = some ks → X.sp ks.2 w
  lim : X.lim ≤ w.heap.size

/-- The package-level variables, still. -/
theorem RR.gl {X : Fix} {ρ : Nat → Nat} {s : St} {a : Act} {w : World} (R : RR X ρ s a w) : GlOk (okC X ρ s.hp w) w := by
  refine X.gl.mono fun b hb => ?_
  have hlt := R.ok0 b hb
  have hsz : X.w0.heap.size ≤ w.heap.size := R.below.size
  have hlt' : b < X.w0.heap.size := hlt
  refine ⟨⟨.inl hb, by omega, fun id hl he => ?_⟩, .of (R.below.block b hlt)⟩
  have hh := R.heap id
  cases hk : lkb s.hp id with
  | none => rw [hk] at hl; exact hl
  | var e v f =>
    rw [hk] at hh
    have : X.base ≤ ρ id := hh.1
    omega
  | row te e xs f =>
    rw [hk] at hh hl
    have : X.base ≤ ρ id := (hh.2 (liveW_live hl)).1
    omega

theorem RR.put {X : Fix} {ρ : Nat → Nat} {s : St} {a : Act} {w : World} (R : RR X ρ s a w) {dst : Option Nat} (hd : ∀ d, dst = some d → d < X.nt) {v : AV} {x : Value}
    (hv : VR (cx X ρ s.hp w) v x) : RR X ρ (s.put dst v) (a.put dst x) w := by
  cases dst with
  | none => exact R
  | some d =>
    have hlt := hd d rfl
    refine ⟨by simp [Act.put, R.size], R.defers, R.ok0, R.below, R.heap, R.inj, fun i => ?_, R.stk, R.sp, R.lim⟩
    show VR _ (lk ((d, v) :: s.fr) i) ((a.tmps.setIfInBounds d x).getD i undef)
    rw [lk_cons]
    have hs : d < a.tmps.size := by rw [R.size]; exact hlt
    by_cases h : d = i
    · subst h
      rw [if_pos rfl]
      have : (a.tmps.setIfInBounds d x).getD d undef = x := by
        simp [Array.getD, hs]
      rw [this]; exact hv
    · rw [if_neg h]
      have : (a.tmps.setIfInBounds d x).getD i undef = a.tmps.getD i undef := by
        simp only [Array.getD_eq_getD_getElem?, Array.getElem?_setIfInBounds]
        rw [if_neg h]
      rw [this]; exact R.fr i

/-! ### Values looked into -/
theorem cells_one {x y : Value} (h : x.cells.toList = [y]) (ha : vAgg x = false) : x = y := by
  cases x <;> first | (simp [Value.cells] at h; exact h) | cases ha

theorem VR_int {c : Cx} {k : IntKind} {n : Int} {x : Value} (h : VR c (.int k n) x) : x = .int k n ∧ (Lit.int k n).wf = true :=
  ⟨cells_one h.1.1 h.2.symm, h.1.2⟩
theorem VR_bool {c : Cx} {b : Bool} {x : Value} (h : VR c (.bool b) x) : x = .bool b := cells_one h.1 h.2.symm
theorem VR_str {c : Cx} {s : ByteArray} {x : Value} (h : VR c (.str s) x) : x = .string s ∧ s.size ≤ maxLen := ⟨cells_one h.1.1 h.2.symm, h.1.2⟩
theorem VR_con {c : Cx} {v x : Value} (h : VR c (.con v) x) : x = v ∧ simpleV v := ⟨cells_one h.1.1 h.2.symm, h.1.2⟩
theorem VR_ptr {c : Cx} {id : Nat} {p : List Step} {x : Value} (h : VR c (.ptr id p) x) : ∃ off t, pathB (lkb c.hp id) p = some (off, t) ∧ x = .pointer (some ⟨c.ρ id, off, none⟩) := by
  obtain ⟨⟨off, t, h1, h2⟩, h3⟩ := h
  exact ⟨off, t, h1, cells_one h2 h3.symm⟩
theorem VR_vsl {c : Cx} {id n : Nat} {x : Value} (h : VR c (.vsl id n) x) : (∃ v f, lkb c.hp id = .var (opqs n) v f) ∧ n ≤ 65536 ∧ x = .slice (some ⟨c.ρ id, 0, none⟩) n n := by
  obtain ⟨⟨h1, h4, h2⟩, h3⟩ := h
  exact ⟨h1, h4, cells_one h2 h3.symm⟩
theorem VR_ro {c : Cx} {e : Ty} {xs : List e.den} {x : Value} (h : VR c (.ro e xs) x) : ∃ A n, x = .slice A xs.length n ∧ Sl c.ok c.w e.size (Enc c.ok c.w e) xs A n := by
  obtain ⟨⟨A, n, h1, h2⟩, h3⟩ := h
  exact ⟨A, n, cells_one h1 h3.symm, h2⟩
theorem VR_fn {c : Cx} {f : Fn} {as ds : List AV} {x : Value} (h : VR c (.fn f as ds) x) : ∃ a' d', x = .func f a' d' ∧ CVs c as a'.toList ∧ CVs c ds d'.toList := by
  obtain ⟨⟨a', d', h1, h2, h3⟩, h4⟩ := h
  exact ⟨a', d', cells_one h1 h4.symm, h2, h3⟩
theorem VR_agg {c : Cx} {l : List AV} {x : Value} (h : VR c (.agg l) x) : ∃ cs, x = .agg cs ∧ CRs c l cs.toList := by
  obtain ⟨h1, h2⟩ := h
  cases x <;> first | (exact ⟨_, rfl, h1⟩) | cases h2
theorem VR_arr {c : Cx} {n : Nat} {e : Ty} {xs : List e.den} {x : Value} (h : VR c (.arr n e xs) x) : ∃ cs, x = .agg cs ∧ xs.length = n ∧ EncL (Enc c.ok c.w e) xs cs.toList := by
  obtain ⟨h1, h2⟩ := h
  cases x <;> first | (exact ⟨_, rfl, h1.1, h1.2⟩) | cases h2
theorem VR_own {c : Cx} {id : Nat} {x : Value} (h : VR c (.own id) x) : OwnV c id [x] := by
  obtain ⟨h1, h2⟩ := h
  have h1 : OwnV c id x.cells.toList := h1
  unfold OwnV at h1
  split at h1
  · rename_i te e xs f hb
    obtain ⟨A, n, h3, h4⟩ := h1
    have := cells_one h3 h2.symm
    subst this
    unfold OwnV
    rw [hb]; exact ⟨A, n, rfl, h4⟩
  · exact h1.elim
theorem VR_rop {c : Cx} {e : Ty} {y : e.den} {x : Value} (h : VR c (.rop e y) x) :
    ∃ b o, x = .pointer (some ⟨b, o, none⟩) ∧ c.ok b ∧ ∃ cs : List Value, cs.length = e.size ∧ (∀ j, j < e.size → c.w.cell? ⟨b, o + j, none⟩ = cs[j]?) ∧ Enc c.ok c.w e y cs := by
  obtain ⟨⟨b, o, h1, h2⟩, h3⟩ := h
  exact ⟨b, o, cells_one h1 h3.symm, h2⟩

theorem mkVR_int {c : Cx} {k : IntKind} {n : Int} (h : (Lit.int k n).wf = true) : VR c (.int k n) (.int k n) := ⟨⟨rfl, h⟩, rfl⟩
theorem mkVR_bool {c : Cx} (b : Bool) : VR c (.bool b) (.bool b) := ⟨rfl, rfl⟩

theorem VR_ofVal (c : Cx) (v : Value) : VR c (ofVal v) v := by
  unfold ofVal
  split
  · exact ⟨rfl, rfl⟩
  · rename_i k n
    cases h : (Lit.int k n).wf with
    | true => exact ⟨⟨rfl, h⟩, rfl⟩
    | false => exact trivial
  · rename_i s
    cases h : Nat.ble s.size 9223372036854775807 with
    | true => exact ⟨⟨rfl, Nat.le_of_ble_eq_true h⟩, rfl⟩
    | false => exact trivial
  all_goals first | exact ⟨⟨rfl, trivial⟩, rfl⟩ | exact trivial

theorem VR_opn {X : Fix} {ρ : Nat → Nat} {s : St} {a : Act} {w : World} (R : RR X ρ s a w) (o : Operand) : VR (cx X ρ s.hp w) (opn s.fr o) (a.eval o) := by
  cases o with
  | tmp t => exact R.fr t
  | const v => exact VR_ofVal _ v
  | global g =>
    show VR _ (match lkG GL g with | some ⟨e, x⟩ => .rop e x | none => .dead) (.pointer (some ⟨g, 0, none⟩))
    cases hg : lkG GL g with
    | none => trivial
    | some y =>
      obtain ⟨e, x⟩ := y
      obtain ⟨h1, cs, h2, h3, h4⟩ := R.gl g e x hg
      exact ⟨⟨g, 0, rfl, h1, cs, h2, h3, h4⟩, rfl⟩
  | func f => exact ⟨⟨#[], #[], rfl, rfl, rfl⟩, rfl⟩
end Go.Proofs.YtejedlpnejjnbaaV
