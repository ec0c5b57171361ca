/- Queues in a pool of nodes: paths, and what hanging and taking makes of them. No program stands here. -/
import Derived.Test.YtiicmhholjpcbaaMKit
namespace Go.Proofs.YtiicmhholjpcbaaV
set_option linter.unusedVariables false
set_option linter.unusedSimpArgs false
open Go.RowKit
namespace QT
abbrev Nd : Type := Int × Int × Unit
abbrev Ln : Type := Int × Int × Int × Unit
def nx (ns : List Nd) (i : Int) : Int := (ns.getD i.toNat (0, 0, ())).2.1
def vl (ns : List Nd) (i : Int) : Int := (ns.getD i.toNat (0, 0, ())).1
theorem at_set {ns : List Nd} {i j : Int} (x : Nd) (hi : 0 ≤ i ∧ i < (ns.length : Int)) (hj : 0 ≤ j) : (ns.set i.toNat x).getD j.toNat (0, 0, ()) = if j = i then x else ns.getD j.toNat (0, 0, ()) := by
  rw [List.getD_eq_getElem?_getD, List.getD_eq_getElem?_getD, List.getElem?_set]
  by_cases h : j = i
  · subst h
    rw [if_pos rfl, if_pos rfl, if_pos (by omega)]; rfl
  · rw [if_neg (by omega), if_neg h]
theorem nx_set {ns : List Nd} {i j : Int} (x : Nd) (hi : 0 ≤ i ∧ i < (ns.length : Int)) (hj : 0 ≤ j) : nx (ns.set i.toNat x) j = if j = i then x.2.1 else nx ns j := by
  unfold nx; rw [at_set x hi hj]; split <;> rfl
theorem vl_set {ns : List Nd} {i j : Int} (x : Nd) (hi : 0 ≤ i ∧ i < (ns.length : Int)) (hj : 0 ≤ j) : vl (ns.set i.toNat x) j = if j = i then x.1 else vl ns j := by
  unfold vl; rw [at_set x hi hj]; split <;> rfl
def Chain (ns : List Nd) : List Int → Prop
  | [] => True
  | [a] => nx ns a = -1
  | a :: b :: l => nx ns a = b ∧ Chain ns (b :: l)
theorem Chain.congr {ns ns' : List Nd} : ∀ {p : List Int}, (∀ a ∈ p, nx ns' a = nx ns a) → Chain ns p → Chain ns' p
  | [], _, _ => trivial
  | [a], h, hc => by
    show nx ns' a = -1
    rw [h a (by simp)]; exact hc
  | a :: b :: l, h, hc => ⟨by rw [h a (by simp)]; exact hc.1, Chain.congr (fun x hx => h x (List.mem_cons_of_mem _ hx)) hc.2⟩
theorem Chain.tail {ns : List Nd} {a : Int} {p : List Int} (h : Chain ns (a :: p)) : Chain ns p := by
  cases p with
  | nil => trivial
  | cons b l => exact h.2
/-- One more at the end. -/
theorem Chain.snoc {ns ns' : List Nd} {i : Int} : ∀ {p : List Int} {z : Int}, p.Nodup → p.getLast? = some z → (∀ a ∈ p, a ≠ z → nx ns' a = nx ns a) → nx ns' z = i → nx ns' i = -1 → Chain ns p → Chain ns' (p ++ [i])
  | [], z, _, hz, _, _, _, _ => by cases hz
  | [a], z, _, hz, h, h1, h2, hc => by
    cases hz
    exact ⟨h1, h2⟩
  | a :: b :: l, z, hn, hz, h, h1, h2, hc => by
    have hz' : (b :: l).getLast? = some z := by rw [← hz]; rfl
    have hm : z ∈ b :: l := List.mem_of_getLast? hz'
    have hne : a ≠ z := fun e => (List.nodup_cons.1 hn).1 (e ▸ hm)
    refine ⟨by rw [h a (by simp) hne]; exact hc.1, ?_⟩
    exact Chain.snoc (List.nodup_cons.1 hn).2 hz' (fun x hx => h x (List.mem_cons_of_mem _ hx)) h1 h2 hc.2

/-- A line is a path through the nodes. -/
structure Rep (ns : List Nd) (p : List Int) (l : Ln) : Prop where
  many : l.2.2.1 = p.length
  nil : p = [] → l.1 = -1
  first : ∀ a, p.head? = some a → l.1 = a
  last : ∀ a, p.getLast? = some a → l.2.1 = a
  chain : Chain ns p
  rng : ∀ a ∈ p, 0 ≤ a ∧ a < (ns.length : Int)
  nodup : p.Nodup
theorem Rep.keep {ns ns' : List Nd} {p : List Int} {l : Ln} (h : Rep ns p l) (hl : ns'.length = ns.length) (hx : ∀ a ∈ p, nx ns' a = nx ns a) : Rep ns' p l :=
  ⟨h.many, h.nil, h.first, h.last, h.chain.congr hx, by rw [hl]; exact h.rng, h.nodup⟩
def hangN (ns : List Nd) (l : Ln) (i : Int) : List Nd :=
  let ns1 := ns.set i.toNat (vl ns i, -1, ())
  if l.2.2.1 = 0 then ns1 else ns1.set l.2.1.toNat (vl ns1 l.2.1, i, ())
def hangL (l : Ln) (i : Int) : Ln := (if l.2.2.1 = 0 then i else l.1, i, l.2.2.1 + 1, ())
theorem hang_len (ns : List Nd) (l : Ln) (i : Int) : (hangN ns l i).length = ns.length := by
  unfold hangN; simp only; split <;> simp
theorem Rep.last_mem {ns : List Nd} {p : List Int} {l : Ln} (h : Rep ns p l) (hp : p ≠ []) : l.2.1 ∈ p ∧ p.getLast? = some l.2.1 := by
  cases hz : p.getLast? with
  | none => exact absurd (List.getLast?_eq_none_iff.1 hz) hp
  | some z => rw [h.last z hz]; exact ⟨List.mem_of_getLast? hz, rfl⟩
theorem hang_nx {ns : List Nd} {p : List Int} {l : Ln} (h : Rep ns p l) {i : Int} (hi : 0 ≤ i ∧ i < (ns.length : Int)) {a : Int} (ha : 0 ≤ a) (h1 : a ≠ i) (h2 : a ∉ p) : nx (hangN ns l i) a = nx ns a := by
  unfold hangN
  simp only
  split
  · rw [nx_set _ hi ha, if_neg h1]
  · rename_i hm
    have hp : p ≠ [] := fun e => hm (by rw [h.many, e]; rfl)
    have hl := (h.last_mem hp).1
    have hr := h.rng _ hl
    rw [nx_set _ (by simpa using hr) ha, if_neg (fun e => h2 (by rw [e]; exact hl)), nx_set _ hi ha, if_neg h1]
theorem hang_vl {ns : List Nd} {p : List Int} {l : Ln} (h : Rep ns p l) {i : Int} (hi : 0 ≤ i ∧ i < (ns.length : Int)) {a : Int} (ha : 0 ≤ a) : vl (hangN ns l i) a = vl ns a := by
  unfold hangN
  simp only
  have e : ∀ a, 0 ≤ a → vl (ns.set i.toNat (vl ns i, -1, ())) a = vl ns a := fun a ha => by
    rw [vl_set _ hi ha]; split
    · rename_i e; rw [e]
    · rfl
  split
  · exact e a ha
  · rename_i hm
    have hp : p ≠ [] := fun e => hm (by rw [h.many, e]; rfl)
    have hr := h.rng _ (h.last_mem hp).1
    rw [vl_set _ (by simpa using hr) ha, e _ hr.1]
    split
    · rename_i q; rw [q]
    · exact e a ha
theorem hang_rep {ns : List Nd} {p : List Int} {l : Ln} (h : Rep ns p l) {i : Int} (hi : 0 ≤ i ∧ i < (ns.length : Int)) (hn : i ∉ p) : Rep (hangN ns l i) (p ++ [i]) (hangL l i) := by
  have hnd : (p ++ [i]).Nodup := by
    rw [List.nodup_append]
    refine ⟨h.nodup, by simp, fun a ha b hb => ?_⟩
    rw [List.mem_singleton.1 hb]
    exact fun e => hn (e ▸ ha)
  refine ⟨?_, fun e => by simp at e, ?_, ?_, ?_, ?_, hnd⟩
  · show l.2.2.1 + 1 = _
    rw [h.many]; simp
  · intro a ha
    show (if l.2.2.1 = 0 then i else l.1) = a
    cases p with
    | nil =>
      have : l.2.2.1 = 0 := by rw [h.many]; rfl
      rw [if_pos this]; simpa using ha
    | cons b q =>
      have : ¬ l.2.2.1 = 0 := by rw [h.many]; simp; omega
      rw [if_neg this]
      exact h.first a (by simpa using ha)
  · intro a ha
    show i = a
    rw [List.getLast?_append] at ha
    simpa using ha
  · cases p with
    | nil =>
      have h0 : l.2.2.1 = 0 := by rw [h.many]; rfl
      show nx (hangN ns l i) i = -1
      unfold hangN
      simp only
      rw [if_pos h0, nx_set _ hi hi.1, if_pos rfl]
    | cons b q =>
      have h0 : ¬ l.2.2.1 = 0 := by rw [h.many]; simp; omega
      obtain ⟨m1, m2⟩ := h.last_mem (by simp)
      have hr := h.rng _ m1
      have hne : l.2.1 ≠ i := fun e => hn (e ▸ m1)
      have hr' : 0 ≤ l.2.1 ∧ l.2.1 < ((ns.set i.toNat (vl ns i, -1, ())).length : Int) := by simpa using hr
      refine Chain.snoc (ns := ns) h.nodup m2 (fun a ha hz => ?_) ?_ ?_ h.chain
      · have hra := h.rng a ha
        unfold hangN
        simp only
        rw [if_neg h0, nx_set _ hr' hra.1, if_neg hz, nx_set _ hi hra.1, if_neg (fun e => hn (by rw [← e]; exact ha))]
      · unfold hangN
        simp only
        rw [if_neg h0, nx_set _ hr' hr.1, if_pos rfl]
      · unfold hangN
        simp only
        rw [if_neg h0, nx_set _ hr' hi.1, if_neg (Ne.symm hne), nx_set _ hi hi.1, if_pos rfl]
  · intro a ha
    rw [hang_len]
    rcases List.mem_append.1 ha with ha | ha
    · exact h.rng a ha
    · rw [List.mem_singleton.1 ha]; exact hi
/-- The first one goes. -/
def takeL (ns : List Nd) (l : Ln) : Ln := (nx ns l.1, if l.2.1 = l.1 then -1 else l.2.1, l.2.2.1 - 1, ())
theorem take_rep {ns : List Nd} {a : Int} {p : List Int} {l : Ln} (h : Rep ns (a :: p) l) : l.1 = a ∧ Rep ns p (takeL ns l) := by
  have h1 := h.first a rfl
  refine ⟨h1, ?_, fun e => ?_, ?_, ?_, h.chain.tail, fun x hx => h.rng x (List.mem_cons_of_mem _ hx), (List.nodup_cons.1 h.nodup).2⟩
  · show l.2.2.1 - 1 = _
    rw [h.many]; simp
  · show nx ns l.1 = -1
    subst e
    rw [h1]; exact h.chain
  · intro b hb
    show nx ns l.1 = b
    rw [h1]
    cases p with
    | nil => cases hb
    | cons c q => cases hb; exact h.chain.1
  · intro z hz
    show (if l.2.1 = l.1 then -1 else l.2.1) = z
    have hm : z ∈ p := List.mem_of_getLast? hz
    have hl : l.2.1 = z := h.last z (by
      cases p with
      | nil => cases hz
      | cons c q => rw [← hz]; rfl)
    rw [h1, hl, if_neg (fun e => (List.nodup_cons.1 h.nodup).1 (by rw [← e]; exact hm))]
/-- One in the middle goes. -/
def takeM (ns : List Nd) (l : Ln) (z i : Int) : Ln := (l.1, if l.2.1 = i then z else l.2.1, l.2.2.1 - 1, ())
theorem Chain.cut {ns ns' : List Nd} {i : Int} : ∀ {pa pb : List Int} {z : Int}, pa.getLast? = some z → (pa ++ i :: pb).Nodup → (∀ a ∈ pa ++ pb, a ≠ z → nx ns' a = nx ns a) → nx ns' z = nx ns i → Chain ns (pa ++ i :: pb) → Chain ns' (pa ++ pb)
  | [], pb, z, hz, _, _, _, _ => by cases hz
  | [a], pb, z, hz, hn, h, h1, hc => by
    cases hz
    have hc2 : Chain ns (i :: pb) := hc.2
    have hne : ∀ x ∈ pb, x ≠ a := fun x hx e => by
      have := (List.nodup_cons.1 hn).1
      exact this (List.mem_cons_of_mem _ (e ▸ hx))
    cases pb with
    | nil => exact h1.trans hc2
    | cons c q => exact ⟨h1.trans hc2.1, Chain.congr (fun x hx => h x (by simp; simp at hx; exact .inr hx) (hne x hx)) hc2.2⟩
  | a :: b :: l, pb, z, hz, hn, h, h1, hc => by
    have hz' : (b :: l).getLast? = some z := by rw [← hz]; rfl
    have hm : z ∈ b :: l := List.mem_of_getLast? hz'
    have hne : a ≠ z := fun e => (List.nodup_cons.1 hn).1 (by rw [e]; exact List.mem_append_left _ hm)
    refine ⟨by rw [h a (by simp) hne]; exact hc.1, ?_⟩
    exact Chain.cut hz' (List.nodup_cons.1 hn).2 (fun x hx => h x (List.mem_cons_of_mem _ hx)) h1 hc.2
theorem cut_rep {ns : List Nd} {pa pb : List Int} {i z : Int} {l : Ln} (h : Rep ns (pa ++ i :: pb) l) (hz : pa.getLast? = some z) : Rep (ns.set z.toNat (vl ns z, nx ns i, ())) (pa ++ pb) (takeM ns l z i) := by
  have hzm : z ∈ pa := List.mem_of_getLast? hz
  have hr := h.rng z (List.mem_append_left _ hzm)
  have hpa : pa ≠ [] := fun e => by rw [e] at hzm; cases hzm
  have hnd : (pa ++ pb).Nodup := by
    have := h.nodup
    rw [List.nodup_append] at this ⊢
    exact ⟨this.1, (List.nodup_cons.1 this.2.1).2, fun a ha b hb => this.2.2 a ha b (List.mem_cons_of_mem _ hb)⟩
  refine ⟨?_, fun e => absurd (List.append_eq_nil_iff.1 e).1 hpa, ?_, ?_, ?_, ?_, hnd⟩
  · show l.2.2.1 - 1 = _
    rw [h.many]; simp; omega
  · intro a ha
    refine h.first a ?_
    cases pa with
    | nil => exact absurd rfl hpa
    | cons c q => exact ha
  · intro a ha
    show (if l.2.1 = i then z else l.2.1) = a
    cases pb with
    | nil =>
      have : l.2.1 = i := h.last i (by simp)
      rw [if_pos this]
      rw [List.append_nil, hz] at ha
      cases ha; rfl
    | cons c q =>
      have e1 : (pa ++ i :: c :: q).getLast? = (c :: q).getLast? := by rw [List.getLast?_append, show (i :: c :: q).getLast? = (c :: q).getLast? from rfl]; cases h : (c :: q).getLast? with
        | none => simp at h
        | some y => rfl
      have e2 : (pa ++ c :: q).getLast? = (c :: q).getLast? := by rw [List.getLast?_append]; cases h : (c :: q).getLast? with
        | none => simp at h
        | some y => rfl
      rw [e2] at ha
      have hl : l.2.1 = a := h.last a (by rw [e1]; exact ha)
      have hm : a ∈ c :: q := List.mem_of_getLast? ha
      have hni : a ≠ i := fun e => by
        have := h.nodup
        rw [List.nodup_append] at this
        exact (List.nodup_cons.1 this.2.1).1 (e ▸ hm)
      rw [hl, if_neg hni]
  · refine Chain.cut hz h.nodup (fun a ha hne => ?_) ?_ h.chain
    · have hra : 0 ≤ a := by
        rcases List.mem_append.1 ha with ha | ha
        · exact (h.rng a (List.mem_append_left _ ha)).1
        · exact (h.rng a (List.mem_append_right _ (List.mem_cons_of_mem _ ha))).1
      rw [nx_set _ hr hra, if_neg hne]
    · rw [nx_set _ hr hr.1, if_pos rfl]
  · intro a ha
    rw [List.length_set]
    rcases List.mem_append.1 ha with ha | ha
    · exact h.rng a (List.mem_append_left _ ha)
    · exact h.rng a (List.mem_append_right _ (List.mem_cons_of_mem _ ha))
end QT
end Go.Proofs.YtiicmhholjpcbaaV
