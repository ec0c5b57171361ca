/- Pools of queues: every line is a path, no node is in two, and all are somewhere; what the methods make of the values. -/
import Derived.Test.YtiicmhholjpcbaaMqueues
namespace Go.Proofs.YtiicmhholjpcbaaV
set_option linter.unusedVariables false
set_option linter.unusedSimpArgs false
open Go.RowKit
namespace Qu
open QT
def All2 {α β : Type} (R : α → β → Prop) : List α → List β → Prop
  | [], [] => True
  | a :: as, b :: bs => R a b ∧ All2 R as bs
  | _, _ => False
theorem All2.len {α β : Type} {R : α → β → Prop} : ∀ {as : List α} {bs : List β}, All2 R as bs → as.length = bs.length
  | [], [], _ => rfl
  | a :: as, b :: bs, h => by rw [List.length_cons, List.length_cons, All2.len h.2]
  | [], _ :: _, h => h.elim
  | _ :: _, [], h => h.elim
theorem All2.mono {α β : Type} {R R' : α → β → Prop} : ∀ {as : List α} {bs : List β}, (∀ a ∈ as, ∀ b, R a b → R' a b) → All2 R as bs → All2 R' as bs
  | [], [], _, _ => trivial
  | a :: as, b :: bs, h, h2 => ⟨h a List.mem_cons_self b h2.1, All2.mono (fun x hx => h x (List.mem_cons_of_mem _ hx)) h2.2⟩
  | [], _ :: _, _, h => h.elim
  | _ :: _, [], _, h => h.elim
theorem All2.split {α β : Type} {R : α → β → Prop} : ∀ {a : List α} {x : α} {b : List α} {bs : List β}, All2 R (a ++ x :: b) bs → ∃ la y lb, bs = la ++ y :: lb ∧ la.length = a.length ∧ All2 R a la ∧ R x y ∧ All2 R b lb
  | [], x, b, y :: bs, h => ⟨[], y, bs, rfl, rfl, trivial, h.1, h.2⟩
  | c :: a, x, b, y :: bs, h => by
    obtain ⟨la, z, lb, rfl, e, h1, h2, h3⟩ := All2.split (a := a) h.2
    exact ⟨y :: la, z, lb, rfl, by rw [List.length_cons, List.length_cons, e], ⟨h.1, h1⟩, h2, h3⟩
  | [], _, _, [], h => h.elim
  | _ :: _, _, _, [], h => h.elim
theorem All2.join {α β : Type} {R : α → β → Prop} : ∀ {a : List α} {x : α} {b : List α} {la : List β} {y : β} {lb : List β}, All2 R a la → R x y → All2 R b lb → All2 R (a ++ x :: b) (la ++ y :: lb)
  | [], x, b, [], y, lb, _, h2, h3 => ⟨h2, h3⟩
  | c :: a, x, b, d :: la, y, lb, h1, h2, h3 => ⟨h1.1, All2.join h1.2 h2 h3⟩
  | [], _, _, _ :: _, _, _, h, _, _ => h.elim
  | _ :: _, _, _, [], _, _, h, _, _ => h.elim
structure Fit (x : Pl) (ps : List (List Int)) (po : List Int) : Prop where
  reps : All2 (Rep x.1) ps x.2.1
  op : Rep x.1 po x.2.2.1
  nd : (po ++ ps.flatten).Nodup
  all : (po ++ ps.flatten).length = x.1.length
  n : x.1.length ≤ 1024
  q1 : 1 ≤ ps.length
  q2 : ps.length ≤ 64
def vals (x : Pl) (ps : List (List Int)) : List (List Int) := ps.map (·.map (vl x.1))
theorem Fit.l1 {x : Pl} {ps : List (List Int)} {po : List Int} (h : Fit x ps po) : 1 ≤ x.2.1.length := by rw [← h.reps.len]; exact h.q1
/-- A line, with what is around it. -/
structure At (x : Pl) (pa : List (List Int)) (p : List Int) (pb : List (List Int)) (po : List Int) (la : List Ln) (l : Ln) (lb : List Ln) : Prop where
  ls : x.2.1 = la ++ l :: lb
  len : la.length = pa.length
  ra : All2 (Rep x.1) pa la
  r : Rep x.1 p l
  rb : All2 (Rep x.1) pb lb
  op : Rep x.1 po x.2.2.1
  d1 : ∀ a ∈ p, a ∉ po
  d2 : ∀ y ∈ pa, ∀ a ∈ y, a ∉ p ∧ a ∉ po
  d3 : ∀ y ∈ pb, ∀ a ∈ y, a ∉ p ∧ a ∉ po
  n : p.length ≤ 1024
  m : po.length ≤ 1024
theorem Fit.at {x : Pl} {pa pb : List (List Int)} {p po : List Int} (h : Fit x (pa ++ p :: pb) po) : ∃ la l lb, At x pa p pb po la l lb := by
  obtain ⟨la, l, lb, e, e2, h1, h2, h3⟩ := h.reps.split
  have nd := h.nd
  rw [List.flatten_append, List.flatten_cons, List.nodup_append] at nd
  obtain ⟨n1, n2, n3⟩ := nd
  rw [List.nodup_append] at n2
  obtain ⟨m1, m2, m3⟩ := n2
  rw [List.nodup_append] at m2
  obtain ⟨k1, k2, k3⟩ := m2
  have al := h.all
  rw [List.flatten_append, List.flatten_cons] at al
  simp only [List.length_append] at al
  have hn := h.n
  refine ⟨la, l, lb, e, e2, h1, h2, h3, h.op, fun a ha hb => ?_, fun y hy a ha => ⟨fun hb => ?_, fun hb => ?_⟩, fun y hy a ha => ⟨fun hb => ?_, fun hb => ?_⟩, by omega, by omega⟩
  · exact n3 a hb a (List.mem_append_right _ (List.mem_append_left _ ha)) rfl
  · exact m3 a (List.mem_flatten.2 ⟨y, hy, ha⟩) a (List.mem_append_left _ hb) rfl
  · exact n3 a hb a (List.mem_append_left _ (List.mem_flatten.2 ⟨y, hy, ha⟩)) rfl
  · exact k3 a hb a (List.mem_flatten.2 ⟨y, hy, ha⟩) rfl
  · exact n3 a hb a (List.mem_append_right _ (List.mem_append_right _ (List.mem_flatten.2 ⟨y, hy, ha⟩))) rfl
theorem All2.keep {ns ns' : List Nd} {ps : List (List Int)} {ls : List Ln} (h : All2 (Rep ns) ps ls) (hl : ns'.length = ns.length) (hx : ∀ y ∈ ps, ∀ a ∈ y, nx ns' a = nx ns a) : All2 (Rep ns') ps ls :=
  h.mono fun y hy b hb => hb.keep hl (hx y hy)
theorem Fit.perm {x x' : Pl} {ps ps' : List (List Int)} {po po' : List Int} (h : Fit x ps po) (h1 : All2 (Rep x'.1) ps' x'.2.1) (h2 : Rep x'.1 po' x'.2.2.1) (hp : (po' ++ ps'.flatten).Perm (po ++ ps.flatten)) (hl : x'.1.length = x.1.length) (hq : ps'.length = ps.length) : Fit x' ps' po' :=
  ⟨h1, h2, hp.nodup_iff.2 h.nd, by rw [hp.length_eq, hl]; exact h.all, by rw [hl]; exact h.n, by rw [hq]; exact h.q1, by rw [hq]; exact h.q2⟩
theorem many_of {ns : List Nd} {p : List Int} {l : Ln} (h : Rep ns p l) (hn : p.length ≤ 1024) : (0 ≤ l.2.2.1 ∧ l.2.2.1 ≤ 1024) ∧ (l.2.2.1 ≠ 0 ↔ p ≠ []) ∧ (l.2.2.1 ≠ 0 → 0 ≤ l.2.1 ∧ l.2.1 < (ns.length : Int)) ∧ (l.2.2.1 ≠ 0 → 0 ≤ l.1 ∧ l.1 < (ns.length : Int)) := by
  have hm := h.many
  have hne : l.2.2.1 ≠ 0 ↔ p ≠ [] := by
    rw [hm]
    constructor
    · intro q e; rw [e] at q; exact q rfl
    · intro q e; exact q (List.eq_nil_of_length_eq_zero (by omega))
  refine ⟨by omega, hne, fun q => h.rng _ (h.last_mem (hne.1 q)).1, fun q => ?_⟩
  have := hne.1 q
  cases p with
  | nil => exact absurd rfl this
  | cons a p => rw [h.first a rfl]; exact h.rng a List.mem_cons_self
/-- The pool behind a push. -/
theorem push_fit {x : Pl} {pa pb : List (List Int)} {p po : List Int} {i v q : Int} (h : Fit x (pa ++ p :: pb) (i :: po)) (hq : (pa.length : Int) = q) :
    ∃ x', queue_Pool_Push x q v = some (x', (0, ())) ∧ Fit x' (pa ++ (p ++ [i]) :: pb) po ∧ x'.1.length = x.1.length ∧ ∀ a, 0 ≤ a → vl x'.1 a = if a = i then v else vl x.1 a := by
  obtain ⟨ns, ls, o, _⟩ := x
  obtain ⟨la, l, lb, e1, e2, ra, rp, rb, op, d1, d2, d3, hn, hm⟩ := h.at
  dsimp only at e1 ra rp rb op
  subst e1
  obtain ⟨a1, a2, a3, a4⟩ := many_of rp hn
  obtain ⟨b1, b2, b3, b4⟩ := many_of op hm
  have hne : o.2.2.1 ≠ 0 := b2.2 (by simp)
  obtain ⟨t1, t2⟩ := take_rep op
  have hi := b4 hne
  rw [push_eq (by omega) hne b1 hi a3 a1, t1]
  rw [t1] at hi
  obtain ⟨N, hN⟩ : ∃ N, ns.set i.toNat (v, nx ns i, ()) = N := ⟨_, rfl⟩
  have hNl : N.length = ns.length := by rw [← hN, List.length_set]
  have hNx : ∀ a, 0 ≤ a → nx N a = nx ns a := fun a ha => by
    rw [← hN, nx_set _ hi ha]; split
    · rename_i e; rw [e]
    · rfl
  have hNv : ∀ a, 0 ≤ a → vl N a = if a = i then v else vl ns a := fun a ha => by rw [← hN, vl_set _ hi ha]
  rw [hN]
  have hip : i ∉ p := fun hm => d1 i hm List.mem_cons_self
  have rN : Rep N p l := rp.keep hNl (fun a ha => hNx a (rp.rng a ha).1)
  have hiN : 0 ≤ i ∧ i < (N.length : Int) := by omega
  have hop := op.nodup
  have k2 : ∀ y, All2 (Rep ns) pa y → True := fun _ _ => trivial
  have hx : ∀ a, 0 ≤ a → a ≠ i → a ∉ p → nx (hangN N l i) a = nx ns a := fun a ha h1 h2 => by rw [hang_nx rN hiN ha h1 h2, hNx a ha]
  have rng2 : ∀ {ps : List (List Int)} {ls : List Ln}, All2 (Rep ns) ps ls → ∀ y ∈ ps, ∀ a ∈ y, 0 ≤ a := by
    intro ps
    induction ps with
    | nil => intro ls _ y hy; cases hy
    | cons c ps ih =>
      intro ls h y hy a ha
      cases ls with
      | nil => exact h.elim
      | cons d ls =>
        rcases List.mem_cons.1 hy with rfl | hy
        · exact (h.1.rng a ha).1
        · exact ih h.2 y hy a ha
  refine ⟨_, rfl, ?_, by show (hangN N l i).length = _; rw [hang_len, hNl], fun a ha => by show vl (hangN N l i) a = _; rw [hang_vl rN hiN ha, hNv a ha]⟩
  refine h.perm ?_ ?_ ?_ (by show (hangN N l i).length = _; rw [hang_len, hNl]) (by simp)
  · refine All2.join (ra.keep (by rw [hang_len, hNl]) fun y hy a ha => hx a (rng2 ra y hy a ha) (fun e => (d2 y hy a ha).2 (by rw [e]; exact List.mem_cons_self)) (d2 y hy a ha).1) (hang_rep rN hiN hip) (rb.keep (by rw [hang_len, hNl]) fun y hy a ha => hx a (rng2 rb y hy a ha) (fun e => (d3 y hy a ha).2 (by rw [e]; exact List.mem_cons_self)) (d3 y hy a ha).1)
  · refine t2.keep (by show (hangN N l i).length = _; rw [hang_len, hNl]) fun a ha => hx a (op.rng a (List.mem_cons_of_mem _ ha)).1 (fun e => (List.nodup_cons.1 hop).1 (by rw [← e]; exact ha)) (fun hp => d1 a hp (List.mem_cons_of_mem _ ha))
  · rw [List.perm_iff_count]
    intro a
    simp only [List.flatten_append, List.flatten_cons, List.count_append, List.count_cons, List.count_nil]
    generalize (if (i == a) = true then 1 else 0) = c
    omega
/-- The pool behind a node's going from a line to the free ones; the line without it has been made already. -/
theorem free_fit {ns N : List Nd} {la lb : List Ln} {l' l o : Ln} {pa pb : List (List Int)} {p p' po : List Int} {i : Int} (h : Fit (ns, la ++ l :: lb, o, ()) (pa ++ p :: pb) po) (hle : la.length = pa.length) (hA : At (ns, la ++ l :: lb, o, ()) pa p pb po la l lb)
    (hp : p.Perm (i :: p')) (hNl : N.length = ns.length) (hNx : ∀ a, 0 ≤ a → a ∉ p → nx N a = nx ns a) (hNv : ∀ a, 0 ≤ a → vl N a = vl ns a) (hr : Rep N p' l') (hoi : o.2.2.1 ≠ 0 → True) :
    Fit (hangN N o i, la ++ l' :: lb, hangL o i, ()) (pa ++ p' :: pb) (po ++ [i]) ∧ ∀ a, 0 ≤ a → vl (hangN N o i) a = vl ns a := by
  obtain ⟨e1, e2, ra, rp, rb, op, d1, d2, d3, hn, hm⟩ := hA
  dsimp only at e1 ra rp rb op
  have hmem : ∀ a, a ∈ p ↔ a = i ∨ a ∈ p' := fun a => by rw [hp.mem_iff, List.mem_cons]
  have hi : 0 ≤ i ∧ i < (ns.length : Int) := rp.rng i ((hmem i).2 (.inl rfl))
  have hiN : 0 ≤ i ∧ i < (N.length : Int) := by omega
  have hio : i ∉ po := d1 i ((hmem i).2 (.inl rfl))
  have hip : i ∉ p' := (List.nodup_cons.1 (hp.nodup_iff.1 rp.nodup)).1
  have oN : Rep N po o := op.keep hNl fun a ha => hNx a (op.rng a ha).1 (fun hq => d1 a hq ha)
  have hx : ∀ a, 0 ≤ a → a ∉ p → a ∉ po → nx (hangN N o i) a = nx ns a := fun a ha h1 h2 => by rw [hang_nx oN hiN ha (fun e => h1 ((hmem a).2 (.inl e))) h2, hNx a ha h1]
  have rng2 : ∀ {ps : List (List Int)} {ls : List Ln}, All2 (Rep ns) ps ls → ∀ y ∈ ps, ∀ a ∈ y, 0 ≤ a := by
    intro ps
    induction ps with
    | nil => intro ls _ y hy; cases hy
    | cons c ps ih =>
      intro ls h y hy a ha
      cases ls with
      | nil => exact h.elim
      | cons d ls =>
        rcases List.mem_cons.1 hy with rfl | hy
        · exact (h.1.rng a ha).1
        · exact ih h.2 y hy a ha
  refine ⟨?_, fun a ha => by rw [hang_vl oN hiN ha, hNv a ha]⟩
  refine h.perm ?_ ?_ ?_ (by show (hangN N o i).length = _; rw [hang_len, hNl]) (by simp)
  · refine All2.join (ra.keep (by rw [hang_len, hNl]) fun y hy a ha => hx a (rng2 ra y hy a ha) (d2 y hy a ha).1 (d2 y hy a ha).2) (hr.keep (by rw [hang_len]) fun a ha => hang_nx oN hiN (hr.rng a ha).1 (fun e => hip (e ▸ ha)) (d1 a ((hmem a).2 (.inr ha)))) (rb.keep (by rw [hang_len, hNl]) fun y hy a ha => hx a (rng2 rb y hy a ha) (d3 y hy a ha).1 (d3 y hy a ha).2)
  · exact hang_rep oN hiN hio
  · rw [List.perm_iff_count]
    intro a
    have := List.perm_iff_count.1 hp a
    simp only [List.flatten_append, List.flatten_cons, List.count_append, List.count_cons, List.count_nil] at this ⊢
    generalize (if (i == a) = true then 1 else 0) = c at this ⊢
    omega
theorem pop_fit {x : Pl} {pa pb : List (List Int)} {p po : List Int} {i q : Int} (h : Fit x (pa ++ (i :: p) :: pb) po) (hq : (pa.length : Int) = q) :
    ∃ x', queue_Pool_Pop x q = some (x', (vl x.1 i, 0, ())) ∧ Fit x' (pa ++ p :: pb) (po ++ [i]) ∧ x'.1.length = x.1.length ∧ ∀ a, 0 ≤ a → vl x'.1 a = vl x.1 a := by
  obtain ⟨ns, ls, o, _⟩ := x
  obtain ⟨la, l, lb, hA⟩ := h.at
  have e1 := hA.ls
  have rp := hA.r
  have op := hA.op
  dsimp only at e1 rp op
  subst e1
  obtain ⟨a1, a2, a3, a4⟩ := many_of rp hA.n
  obtain ⟨b1, b2, b3, b4⟩ := many_of op hA.m
  have hne : l.2.2.1 ≠ 0 := a2.2 (by simp)
  obtain ⟨t1, t2⟩ := take_rep rp
  have hl := hA.len
  obtain ⟨f1, f2⟩ := free_fit (N := ns) (i := i) (p' := p) h hl hA (List.Perm.refl _) rfl (fun _ _ _ => rfl) (fun _ _ => rfl) t2 (fun _ => trivial)
  have hp := pop_eq (ns := ns) (la := la) (lb := lb) (l := l) (o := o) (q := q) (by omega) hne a1 (a4 hne) b3 b1
  rw [t1] at hp
  exact ⟨_, hp, f1, hang_len _ _ _, f2⟩
theorem first_rem {x : Pl} {pa pb : List (List Int)} {p po : List Int} {i q : Int} (h : Fit x (pa ++ (i :: p) :: pb) po) (hq : (pa.length : Int) = q) (b : Bool) :
    ∃ x', queue_Pool_Remove_C1 (-1, i) (x, (b, ())) q queue_Pool_Remove_R1 = some (x', (true, ())) ∧ Fit x' (pa ++ p :: pb) (po ++ [i]) ∧ x'.1.length = x.1.length ∧ ∀ a, 0 ≤ a → vl x'.1 a = vl x.1 a := by
  obtain ⟨ns, ls, o, _⟩ := x
  obtain ⟨la, l, lb, hA⟩ := h.at
  have e1 := hA.ls
  have rp := hA.r
  have op := hA.op
  dsimp only at e1 rp op
  subst e1
  obtain ⟨a1, a2, a3, a4⟩ := many_of rp hA.n
  obtain ⟨b1, b2, b3, b4⟩ := many_of op hA.m
  have hne : l.2.2.1 ≠ 0 := a2.2 (by simp)
  obtain ⟨t1, t2⟩ := take_rep rp
  have hl := hA.len
  obtain ⟨f1, f2⟩ := free_fit (N := ns) (i := i) (p' := p) h hl hA (List.Perm.refl _) rfl (fun _ _ _ => rfl) (fun _ _ => rfl) t2 (fun _ => trivial)
  have hp := rem_first (ns := ns) (la := la) (lb := lb) (l := l) (o := o) (q := q) (by omega) (by omega) (a4 hne) b3 b1 i b
  rw [t1] at hp
  exact ⟨_, hp, f1, hang_len _ _ _, f2⟩
theorem chain_next {ns : List Nd} {i z : Int} : ∀ {p1 p2 : List Int}, p1.getLast? = some z → Chain ns (p1 ++ i :: p2) → nx ns z = i
  | [], _, hz, _ => by cases hz
  | [a], _, hz, hc => by cases hz; exact hc.1
  | a :: c :: p1, _, hz, hc => chain_next (p1 := c :: p1) (by rw [← hz]; rfl) hc.2
theorem mid_rem {x : Pl} {pa pb : List (List Int)} {p1 p2 po : List Int} {i z q : Int} (h : Fit x (pa ++ (p1 ++ i :: p2) :: pb) po) (hz : p1.getLast? = some z) (hq : (pa.length : Int) = q) (b : Bool) :
    ∃ x', queue_Pool_Remove_C1 (z, i) (x, (b, ())) q queue_Pool_Remove_R1 = some (x', (true, ())) ∧ Fit x' (pa ++ (p1 ++ p2) :: pb) (po ++ [i]) ∧ x'.1.length = x.1.length ∧ ∀ a, 0 ≤ a → vl x'.1 a = vl x.1 a := by
  obtain ⟨ns, ls, o, _⟩ := x
  obtain ⟨la, l, lb, hA⟩ := h.at
  have e1 := hA.ls
  have rp := hA.r
  have op := hA.op
  dsimp only at e1 rp op
  subst e1
  obtain ⟨a1, a2, a3, a4⟩ := many_of rp hA.n
  obtain ⟨b1, b2, b3, b4⟩ := many_of op hA.m
  have hne : l.2.2.1 ≠ 0 := a2.2 (by simp)
  have hl := hA.len
  have hzm : z ∈ p1 := List.mem_of_getLast? hz
  have hzr := rp.rng z (List.mem_append_left _ hzm)
  have hir := rp.rng i (List.mem_append_right _ List.mem_cons_self)
  have hni : nx ns z = i := chain_next hz rp.chain
  obtain ⟨f1, f2⟩ := free_fit (N := ns.set z.toNat (vl ns z, nx ns i, ())) (i := i) (p' := p1 ++ p2) h hl hA (List.perm_middle) (by rw [List.length_set]) (fun a ha hp => by
      rw [nx_set _ hzr ha, if_neg (fun e => hp (by rw [e]; exact List.mem_append_left _ hzm))]) (fun a ha => by
      rw [vl_set _ hzr ha]; split
      · rename_i e; rw [e]
      · rfl) (cut_rep rp hz) (fun _ => trivial)
  have hp := rem_mid (ns := ns) (la := la) (lb := lb) (l := l) (o := o) (q := q) (by omega) hzr hni (by omega) hir b3 b1 i b
  exact ⟨_, hp, f1, by show (hangN _ _ _).length = _; rw [hang_len, List.length_set], f2⟩
end Qu
end Go.Proofs.YtiicmhholjpcbaaV
