/- A program's types, as the tables of the VC evaluator hold them: told by reckoning. -/
import Derived.Test.YtejedlpnejjnbaaVcV
set_option linter.unusedVariables false
set_option linter.unusedSimpArgs false
namespace Go.Proofs.YtejedlpnejjnbaaV
open Go.RowKit

/-- Are these two zero values the same (true: they are). -/
def eqZ1 : Value → Value → Bool
  | .int k n, .int k' n' => decide (k = k') && decide (n = n')
  | .bool a, .bool b => a == b
  | .string a, .string b => Nat.beq a.size 0 && Nat.beq b.size 0
  | .slice none 0 0, .slice none 0 0 => true
  | .pointer none, .pointer none => true
  | .nilFunc, .nilFunc => true
  | .nilIface, .nilIface => true
  | _, _ => false
theorem eqZ1_eq {a b : Value} (h : eqZ1 a b = true) : a = b := by
  unfold eqZ1 at h
  split at h
  · rw [Bool.and_eq_true] at h
    obtain ⟨h1, h2⟩ := h
    have h1 := of_decide_eq_true h1
    have h2 := of_decide_eq_true h2
    subst h1; subst h2; rfl
  · rename_i x y
    have : x = y := by simpa using h
    rw [this]
  · rename_i x y
    rw [Bool.and_eq_true] at h
    have h1 := Nat.eq_of_beq_eq_true h.1
    have h2 := Nat.eq_of_beq_eq_true h.2
    have e : ∀ z : ByteArray, z.size = 0 → z = ⟨#[]⟩ := by
      intro z hz
      cases z with
      | mk data => 
        have : data.size = 0 := hz
        have := Array.eq_empty_of_size_eq_zero this
        rw [this]
    rw [e x h1, e y h2]
  all_goals first | rfl | cases h
def eqZs : List Value → List Value → Bool
  | [], [] => true
  | a :: l, b :: l' => eqZ1 a b && eqZs l l'
  | _, _ => false
theorem eqZs_eq : ∀ {l l' : List Value}, eqZs l l' = true → l = l'
  | [], [], _ => rfl
  | a :: l, b :: l', h => by
    have h : (eqZ1 a b && eqZs l l') = true := h
    rw [Bool.and_eq_true] at h
    rw [eqZ1_eq h.1, eqZs_eq h.2]
  | [], _ :: _, h => by cases h
  | _ :: _, [], h => by cases h
def eqZ (e : Ty) (v : Value) : Bool :=
  match aggTy e, v with
  | true, .agg cs => eqZs cs.toList (zcs e)
  | false, v => match zcs e with
    | [u] => eqZ1 v u
    | _ => false
  | _, _ => false
theorem eqZ_eq {e : Ty} {v : Value} (h : eqZ e v = true) : v = zval e := by
  unfold eqZ at h
  unfold zval
  split at h
  · rename_i cs ha
    rw [ha, if_pos rfl]
    congr 1
    apply Array.ext'
    simpa using eqZs_eq h
  · rename_i v' ha
    rw [ha]
    split at h
    · rename_i u hu
      rw [hu]; simpa using eqZ1_eq h
    · cases h
  · cases h

def baseB (P : Program) (e : Ty) (t : TypeId) : Bool :=
  match P.info? t with
  | some i => Nat.beq i.size e.size && (match i.zero with | some z => eqZ e z | none => false) && Nat.ble i.bytes 32768 && (!aggTy e || !P.eqGuardType P.depth t)
  | none => false
theorem baseB_ok {P : Program} {e : Ty} {t : TypeId} (h : baseB P e t = true) : TyBase P e t := by
  unfold baseB at h
  split at h
  · rename_i i hi
    rw [Bool.and_eq_true, Bool.and_eq_true, Bool.and_eq_true] at h
    obtain ⟨⟨⟨h1, h2⟩, h3⟩, h4⟩ := h
    refine ⟨⟨i, hi, Nat.eq_of_beq_eq_true h1, ?_, Nat.le_of_ble_eq_true h3⟩, fun ha => by rw [ha] at h4; simpa using h4⟩
    split at h2
    · rename_i z hz
      rw [hz, eqZ_eq h2]
    · cases h2
  · cases h

mutual
/-- Is this type what the table says. -/
def tyB (P : Program) : Ty → TypeId → Bool
  | .int k, t => baseB P (.int k) t && (match P.underlying t with | some (.int k') => decide (k' = k) | _ => false)
  | .bool, t => baseB P .bool t && (match P.underlying t with | some .bool => true | _ => false)
  | .str, t => baseB P .str t && (match P.underlying t with | some .string => true | _ => false)
  | .sl e, t => baseB P (.sl e) t && (match P.underlying t with | some (.slice te) => tyB P e te | _ => false)
  | .arr n e, t => baseB P (.arr n e) t && (match P.underlying t with | some (.array m te) => Nat.beq m n && tyB P e te | _ => false)
  | .unit, t => baseB P .unit t && (match P.underlying t with | some (.struct fs) => fs.toList.isEmpty && !P.stoodInHeld t | _ => false)
  | .pair a b, t => baseB P (.pair a b) t && (match P.underlying t with
    | some (.struct fs) => !P.stoodInHeld t && (match fs.toList with
      | f :: r => Nat.beq f.offset 0 && !(f.name == "_") && tyB P a f.type && fsB P b r a.size
      | [] => false)
    | _ => false)
  | .opq z, t => baseB P (.opq z) t && (match P.underlying t with
    | some (.pointer _) => !Nat.beq z 1
    | some (.func _ _ _) => !Nat.beq z 0
    | some (.interface _) => !Nat.beq z 0 && !Nat.beq z 1
    | _ => false)
def fsB (P : Program) : Ty → List Field → Nat → Bool
  | .pair a b, f :: r, o => Nat.beq f.offset o && !(f.name == "_") && tyB P a f.type && fsB P b r (o + a.size)
  | .unit, [], _ => true
  | _, _, _ => false
end
mutual
theorem tyB_ok {P : Program} : ∀ (e : Ty) (t : TypeId), tyB P e t = true → TyOk P e t
  | .int k, t, h => by
    simp only [tyB, Bool.and_eq_true] at h
    refine ⟨baseB_ok h.1, ?_⟩
    have h2 := h.2
    split at h2
    · rename_i k' hu; rw [hu, of_decide_eq_true h2]
    · cases h2
  | .bool, t, h => by
    simp only [tyB, Bool.and_eq_true] at h
    refine ⟨baseB_ok h.1, ?_⟩
    have h2 := h.2
    split at h2
    · rename_i hu; exact hu
    · cases h2
  | .str, t, h => by
    simp only [tyB, Bool.and_eq_true] at h
    refine ⟨baseB_ok h.1, ?_⟩
    have h2 := h.2
    split at h2
    · rename_i hu; exact hu
    · cases h2
  | .sl e, t, h => by
    simp only [tyB, Bool.and_eq_true] at h
    refine ⟨baseB_ok h.1, ?_⟩
    have h2 := h.2
    split at h2
    · rename_i te hu; exact ⟨te, hu, tyB_ok e te h2⟩
    · cases h2
  | .arr n e, t, h => by
    simp only [tyB, Bool.and_eq_true] at h
    refine ⟨baseB_ok h.1, ?_⟩
    have h2 := h.2
    split at h2
    · rename_i m te hu
      rw [Bool.and_eq_true] at h2
      exact ⟨te, by rw [hu, Nat.eq_of_beq_eq_true h2.1], tyB_ok e te h2.2⟩
    · cases h2
  | .unit, t, h => by
    simp only [tyB, Bool.and_eq_true] at h
    refine ⟨baseB_ok h.1, ?_⟩
    have h2 := h.2
    split at h2
    · rename_i fs hu
      rw [Bool.and_eq_true] at h2
      exact ⟨fs, hu, List.isEmpty_iff.1 h2.1, by simpa using h2.2⟩
    · cases h2
  | .pair a b, t, h => by
    simp only [tyB, Bool.and_eq_true] at h
    refine ⟨baseB_ok h.1, ?_⟩
    have h2 := h.2
    split at h2
    · rename_i fs hu
      rw [Bool.and_eq_true] at h2
      obtain ⟨h2, h3⟩ := h2
      split at h3
      · rename_i f r hfs
        simp only [Bool.and_eq_true] at h3
        obtain ⟨⟨⟨g1, g2⟩, g3⟩, g4⟩ := h3
        exact ⟨fs, hu, by simpa using h2, f, r, hfs, Nat.eq_of_beq_eq_true g1, by simpa using g2, tyB_ok a _ g3, fsB_ok b r _ g4⟩
      · cases h3
    · cases h2
  | .opq z, t, h => by
    simp only [tyB, Bool.and_eq_true] at h
    refine ⟨baseB_ok h.1, ?_⟩
    have h2 := h.2
    split at h2
    · rename_i u hu; exact ⟨_, hu, rfl, fun _ => ⟨u, rfl⟩, fun hz => by subst hz; simp at h2⟩
    · rename_i hu; exact ⟨_, hu, rfl, (fun hz => by subst hz; simp at h2), fun _ => ⟨_, _, _, rfl⟩⟩
    · rename_i hu; exact ⟨_, hu, rfl, (fun hz => by subst hz; simp at h2), fun hz => by subst hz; simp at h2⟩
    · cases h2
theorem fsB_ok {P : Program} : ∀ (e : Ty) (fs : List Field) (o : Nat), fsB P e fs o = true → FsOk P e fs o
  | .pair a b, f :: r, o, h => by
    simp only [fsB, Bool.and_eq_true] at h
    obtain ⟨⟨⟨g1, g2⟩, g3⟩, g4⟩ := h
    exact ⟨f, r, rfl, Nat.eq_of_beq_eq_true g1, by simpa using g2, tyB_ok a _ g3, fsB_ok b r _ g4⟩
  | .unit, [], o, h => rfl
end

def ttB (P : Program) : List (Nat × Ty) → Bool
  | [] => true
  | (t, e) :: l => tyB P e t && ttB P l
def etB (P : Program) : List (Nat × Nat) → Bool
  | [] => true
  | (t, te) :: l => (match P.underlying t with | some (.slice u) => Nat.beq u te | _ => false) && etB P l
theorem ttB_ok {P : Program} : ∀ {tt : List (Nat × Ty)}, ttB P tt = true → ∀ t e, lkT tt t = some e → TyOk P e t
  | [], _, t, e, h => by cases h
  | (k, v) :: l, hb, t, e, h => by
    have hb : (tyB P v k && ttB P l) = true := hb
    rw [Bool.and_eq_true] at hb
    simp only [lkT] at h
    cases hk : Nat.beq k t with
    | true =>
      rw [hk] at h
      have := Nat.eq_of_beq_eq_true hk
      subst this
      have h : some v = some e := h
      cases h
      exact tyB_ok _ _ hb.1
    | false => rw [hk] at h; exact ttB_ok hb.2 t e h
theorem etB_ok {P : Program} : ∀ {et : List (Nat × Nat)}, etB P et = true → ∀ t e, lkE et t = some e → P.underlying t = some (.slice e)
  | [], _, t, e, h => by cases h
  | (k, v) :: l, hb, t, e, h => by
    simp only [etB, Bool.and_eq_true] at hb
    simp only [lkE] at h
    cases hk : Nat.beq k t with
    | true =>
      rw [hk] at h
      have := Nat.eq_of_beq_eq_true hk
      subst this
      have h : some v = some e := h
      cases h
      have h1 := hb.1
      split at h1
      · rename_i u hu; rw [hu, Nat.eq_of_beq_eq_true h1]
      · cases h1
    | false => rw [hk] at h; exact etB_ok hb.2 t e h

/-- What a type is, by reckoning: for whoever prints the tables. -/
def tyOf (P : Program) : Nat → TypeId → Option Ty
  | 0, _ => none
  | f + 1, t => match P.underlying t with
    | some (.int k) => some (.int k)
    | some .bool => some .bool
    | some .string => some .str
    | some (.slice te) => (tyOf P f te).map .sl
    | some (.array n te) => (tyOf P f te).map (.arr n)
    | some (.struct fs) => fs.toList.foldr (fun fd r => match tyOf P f fd.type, r with | some a, some b => some (.pair a b) | _, _ => none) (some .unit)
    | some (.pointer _) => some (.opq 0)
    | some (.func _ _ _) => some (.opq 1)
    | some (.interface _) => some (.opq 2)
    | _ => none
end Go.Proofs.YtejedlpnejjnbaaV
