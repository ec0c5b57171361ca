/- What the functions of channel and of becketref18 answer. -/
import Derived.Test.YtbkccpddkpclaaaMclaims
import Derived.Test.YtbkccpddkpclaaaDchannel
import Derived.Test.YtbkccpddkpclaaaDR18
namespace Go.Proofs.YtbkccpddkpclaaaV
set_option linter.unusedVariables false
set_option linter.unusedSimpArgs false
open Go.RowKit lists
theorem and_some1 {b x : Bool} : cond (!b) (some false) (some x) = some (b && x) := by cases b <;> rfl
theorem and_some2 {b x : Bool} : cond b (some x) (some false) = some (b && x) := by cases b <;> rfl
theorem and_some3 {b x : Bool} : cond b (some false) (some x) = some (!b && x) := by cases b <;> rfl
theorem dec_ite {p : Prop} [Decidable p] {α : Type} {x y : α} : cond (decide p) x y = if p then x else y := by by_cases h : p <;> simp [h]
namespace channel
abbrev Conf := Int × Int × Int × Int × Unit
abbrev Ch := Conf × Int × List Int × claims.Line × List Int × claims.Line × Unit
def pf (n : Int) : Bool := decide (0 ≤ n ∧ n ≤ 255)
def word (n : Int) : Bool := decide (-2147483648 ≤ n ∧ n ≤ 2147483647)
def check (f : Conf) : Int :=
  if f.1 < 0 then 12 else if f.1 > 3 then 12 else if f.2.1 < 0 then 8 else if f.2.1 > 8 then 8 else if pf f.2.2.1 = false then 8 else if pf f.2.2.2.1 = false then 8 else 0
def so (k : Int) : Bool := decide (k = 1 ∨ k = 3)
def si (k : Int) : Bool := decide (2 ≤ k)
def fine (c : Ch) : Bool :=
  decide (check c.1 = 0) && (pf c.2.1 && (!decide ((c.2.2.1.length : Int) > c.1.2.1) && (c.2.2.1.all word && (c.2.2.2.2.1.all word && ((c.2.2.2.1.1 == so c.1.1) && ((c.2.2.2.2.2.1.1 == si c.1.1) && (claims.fine c.2.2.2.1 && (claims.fine c.2.2.2.2.2.1 && decide ((c.2.2.2.2.1.length : Int) = (c.2.2.2.1.2.1.length : Int))))))))))
def hit (l e : Int) : Bool := pf l && (pf e && decide (e < l))
def raise (n b : Int) : Int × Int × Unit := if pf n = false then (0, 8, ()) else if 1 ≤ b ∧ b ≤ 255 then (max n b, 0, ()) else (0, 8, ())

theorem pfine_eq (n : Int) : poison_Fine n = some (pf n) := by
  unfold poison_Fine pf
  by_cases h : n ≥ 0
  · rw [bif_pos h]; congr 1; rw [decide_eq_decide]; omega
  · rw [bif_neg h, decide_eq_false (by omega)]
theorem rpfine_eq (n : Int) : R16_Fine n = some (pf n) := by
  unfold R16_Fine pf
  by_cases h : n ≥ 0
  · rw [bif_pos h]; congr 1; rw [decide_eq_decide]; omega
  · rw [bif_neg h, decide_eq_false (by omega)]
theorem word_eq (n : Int) : word_Fine n = some (word n) := by
  unfold word_Fine word
  by_cases h : n ≥ -2147483648
  · rw [bif_pos h]; congr 1; rw [decide_eq_decide]; omega
  · rw [bif_neg h, decide_eq_false (by omega)]
theorem rword_eq (n : Int) : R08_Fine n = some (word n) := by
  unfold R08_Fine word
  by_cases h : n ≥ -2147483648
  · rw [bif_pos h]; congr 1; rw [decide_eq_decide]; omega
  · rw [bif_neg h, decide_eq_false (by omega)]
theorem hit_eq (l e : Int) : poison_Hit l e = some (hit l e) := by
  unfold poison_Hit hit
  simp only [pfine_eq, Option.bind_some, and_some2]
theorem rhit_eq (l e : Int) : R16_Hit l e = some (hit l e) := by
  unfold R16_Hit hit
  simp only [rpfine_eq, Option.bind_some, and_some2]
theorem raise_eq (n b : Int) : poison_Raise n b = some (raise n b) := by
  unfold poison_Raise raise
  simp only [pfine_eq, Option.bind_some]
  cases h : pf n with
  | false => rfl
  | true =>
    simp only [Bool.not_true, cond_false, Bool.true_eq_false, if_false]
    by_cases h1 : 0 ≤ b ∧ b ≤ 255
    · rw [show pf b = true from decide_eq_true h1]
      simp only [Bool.not_true, cond_false]
      by_cases h2 : b = 0
      · rw [bif_pos h2, if_neg (by omega)]
      · rw [bif_neg h2, if_pos (by omega)]
    · rw [show pf b = false from decide_eq_false h1, if_neg (by omega)]; rfl
theorem rraise_eq (n b : Int) : R16_Raise n b = some (raise n b) := by
  unfold R16_Raise raise
  simp only [rpfine_eq, Option.bind_some]
  cases h : pf n with
  | false => rfl
  | true =>
    simp only [Bool.not_true, cond_false, Bool.true_eq_false, if_false]
    by_cases h1 : b < 1
    · rw [bif_pos h1, if_neg (by omega)]
    · rw [bif_neg h1]
      by_cases h2 : b > 255
      · rw [bif_pos h2, if_neg (by omega)]
      · rw [bif_neg h2, if_pos (by omega)]
        by_cases h3 : b > n
        · rw [bif_pos h3, Int.max_eq_right (by omega)]
        · rw [bif_neg h3, Int.max_eq_left (by omega)]
theorem check_eq (f : Conf) : channel_Check f = some (check f) := by
  unfold channel_Check check
  simp only [pfine_eq, Option.bind_some, dec_ite]
  cases pf f.2.2.1 <;> cases pf f.2.2.2.1 <;> (repeat' split) <;> first | rfl | simp_all
theorem rcheck_eq (f : Conf) : R18_Check f = some (check f) := by
  unfold R18_Check check
  simp only [rpfine_eq, Option.bind_some, dec_ite]
  cases pf f.2.2.1 <;> cases pf f.2.2.2.1 <;> (repeat' split) <;> first | rfl | simp_all
theorem kind_of {f : Conf} (h : check f = 0) : 0 ≤ f.1 ∧ f.1 ≤ 3 ∧ 0 ≤ f.2.1 ∧ f.2.1 ≤ 8 := by
  unfold check at h
  repeat' split at h
  all_goals omega
theorem shares1 {f : Conf} (h : 0 ≤ f.1 ∧ f.1 ≤ 3) : channel_shares f 1 = some (so f.1) := by
  unfold channel_shares so
  generalize f.1 = k at h
  rcases (by omega : k = 0 ∨ k = 1 ∨ k = 2 ∨ k = 3) with rfl | rfl | rfl | rfl <;> decide
theorem shares2 {f : Conf} (h : 0 ≤ f.1 ∧ f.1 ≤ 3) : channel_shares f 2 = some (si f.1) := by
  unfold channel_shares si
  generalize f.1 = k at h
  rcases (by omega : k = 0 ∨ k = 1 ∨ k = 2 ∨ k = 3) with rfl | rfl | rfl | rfl <;> decide
theorem words_eq (xs : List Int) (hl : xs.length ≤ 140737488355328) : channel_words xs = some (xs.all word) := by
  unfold channel_words
  refine (loop_up (fun j => j) xs.length (fun j => 0 ≤ j) (fun j => some ((xs.drop j.toNat).all word)) (by simp) (by simp; omega) ?_).trans (by simp)
  intro k j (h0 : 0 ≤ j) hk
  unfold channel_words_L1 channel_words_1
  by_cases hj : j < (xs.length : Int)
  · have hk := hk hj (j + 1) (by omega) rfl
    rw [bif_pos hj, chk_at h0 hj, drop_at (d := 0) h0 hj, w64 (by omega) (by omega), hk, word_eq, List.all_cons, decide_eq_true h0]
    simp only [Option.bind_some]
    cases word (xs.getD j.toNat 0) <;> rfl
  · rw [bif_neg hj, drop_end hj]; rfl
theorem rwords_eq (xs : List Int) (hl : xs.length ≤ 140737488355328) : R18_words xs = some (xs.all word) := by
  unfold R18_words
  refine (loop_up (fun j => j) xs.length (fun j => 0 ≤ j) (fun j => some ((xs.drop j.toNat).all word)) (by simp) (by simp; omega) ?_).trans (by simp)
  intro k j (h0 : 0 ≤ j) hk
  unfold R18_words_L1
  by_cases hj : j < (xs.length : Int)
  · have hk := hk hj (j + 1) (by omega) rfl
    rw [bif_pos hj, chk_at h0 hj, drop_at (d := 0) h0 hj, w64 (by omega) (by omega), hk, rword_eq, List.all_cons]
    simp only [Option.bind_some]
    cases word (xs.getD j.toNat 0) <;> rfl
  · rw [bif_neg hj, drop_end hj]; rfl
def new (f : Conf) : Ch × Int × Unit :=
  if check f = 0 then ((f, 0, [], (so f.1, [], ()), [], (si f.1, [], ()), ()), 0, ()) else (((0, 0, 0, 0, ()), 0, [], (false, [], ()), [], (false, [], ()), ()), check f, ())
theorem new_eq (f : Conf) : channel_New f = some (new f) := by
  unfold channel_New new
  rw [check_eq]
  simp only [Option.bind_some]
  by_cases h : check f = 0
  · rw [bnot_pos h, if_pos h, shares1 ⟨(kind_of h).1, (kind_of h).2.1⟩, shares2 ⟨(kind_of h).1, (kind_of h).2.1⟩]; rfl
  · rw [bnot_neg h, if_neg h]
theorem rnew_eq (f : Conf) : R18_New f = some (new f) := by
  unfold R18_New new
  rw [rcheck_eq]
  simp only [Option.bind_some]
  by_cases h : check f = 0
  · rw [bnot_pos h, if_pos h]
    have hk := kind_of h
    have h2 : decide (f.1 ≥ 2) = si f.1 := rfl
    by_cases h1 : f.1 = 1
    · rw [bif_pos h1, show so f.1 = true from decide_eq_true (.inl h1)]; rfl
    · rw [bif_neg h1, show so f.1 = decide (f.1 = 3) from decide_eq_decide.2 ⟨fun h => h.resolve_left h1, .inr⟩]; rfl
  · rw [bnot_neg h, if_neg h]
structure Small (c : Ch) : Prop where
  a : c.2.2.1.length ≤ 20
  b : c.2.2.2.1.2.1.length ≤ 20
  d : c.2.2.2.2.1.length ≤ 20
  e : c.2.2.2.2.2.1.2.1.length ≤ 20
theorem fine_eq (c : Ch) (hs : Small c) : channel_Fine c = some (fine c) := by
  unfold channel_Fine fine
  rw [check_eq]
  simp only [Option.bind_some]
  by_cases h : check c.1 = 0
  · have hk := kind_of h
    have := hs.a; have := hs.b; have := hs.d; have := hs.e
    rw [bnot_pos h, decide_eq_true h, shares1 ⟨hk.1, hk.2.1⟩, shares2 ⟨hk.1, hk.2.1⟩, words_eq _ (by omega), words_eq _ (by omega), claims.fine_eq _ (by omega), claims.fine_eq _ (by omega), pfine_eq]
    simp only [Option.bind_some, letv_eq, and_some1, and_some2, and_some3, Bool.true_and, Bool.not_not]
  · rw [bnot_neg h, decide_eq_false h]; rfl
theorem rfine_eq (c : Ch) (hs : Small c) : R18_Fine c = some (fine c) := by
  unfold R18_Fine fine
  rw [rnew_eq]
  simp only [Option.bind_some]
  have := hs.a; have := hs.b; have := hs.d; have := hs.e
  by_cases h : check c.1 = 0
  · rw [decide_eq_true h, rwords_eq _ (by omega), rwords_eq _ (by omega), claims.rfine_eq _ (by omega), claims.rfine_eq _ (by omega), rpfine_eq]
    unfold new
    rw [if_pos h]
    simp only [Option.bind_some, letv_eq, and_some1, and_some2, and_some3, Bool.true_and, decide_true, Bool.not_not]
    congr 1
    ac_rfl
  · unfold new
    rw [if_neg h, bnot_neg h, decide_eq_false h]; rfl
def send (c : Ch) (p v : Int) : Ch × Int × Unit :=
  if fine c = false then (c, 1, ()) else if word v = false then (c, 8, ()) else
  if (claims.join c.2.2.2.1 p).2.1 = 0 then ((c.1, c.2.1, c.2.2.1, (claims.join c.2.2.2.1 p).1, c.2.2.2.2.1 ++ [v], c.2.2.2.2.2.1, ()), 0, ()) else (c, (claims.join c.2.2.2.1 p).2.1, ())
theorem behind_eq (xs : List Int) (v : Int) (hl : xs.length ≤ 1000000) : channel_behind xs v = some (xs ++ [v]) := by
  unfold channel_behind
  rw [w64 (by omega) (by omega), chk_pos ⟨rfl, by omega, by omega⟩]
  simp only [letv_eq]
  rw [show ((xs.length : Int) + 1).toNat = xs.length + 1 by omega]
  have e2 : xs.take (List.replicate (xs.length + 1) (0 : Int)).length ++ (List.replicate (xs.length + 1) (0 : Int)).drop xs.length = xs ++ [0] := by
    rw [List.length_replicate, List.take_of_length_le (by omega), List.drop_replicate, show xs.length + 1 - xs.length = 1 by omega]; rfl
  rw [e2, chk_pos ⟨by omega, by simp; omega⟩]
  simp
theorem send_eq (c : Ch) (p v : Int) (hs : Small c) : channel_Send c p v = some (send c p v) := by
  have := hs.b; have := hs.d
  unfold channel_Send send
  rw [fine_eq c hs, word_eq, claims.join_eq _ _ (by omega), behind_eq _ _ (by omega)]
  simp only [Option.bind_some]
  cases fine c with
  | false => rfl
  | true =>
    cases word v with
    | false => rfl
    | true =>
      simp only [Bool.not_true, cond_false, Bool.true_eq_false, if_false]
      by_cases h : (claims.join c.2.2.2.1 p).2.1 = 0
      · rw [bif_pos h, if_pos h, h]
      · rw [bif_neg h, if_neg h]
theorem rsend_eq (c : Ch) (p v : Int) (hs : Small c) : R18_Send c p v = some (send c p v) := by
  have := hs.b; have := hs.d
  unfold R18_Send send
  rw [rfine_eq c hs, rword_eq, claims.rjoin_eq _ _ (by omega)]
  simp only [Option.bind_some]
  cases fine c with
  | false => rfl
  | true =>
    cases word v with
    | false => rfl
    | true =>
      simp only [Bool.not_true, cond_false, Bool.true_eq_false, if_false]
      by_cases h : (claims.join c.2.2.2.1 p).2.1 = 0
      · rw [bnot_pos h, if_pos h, chk_pos (by omega), chk_pos (by simp; omega)]
      · rw [bnot_neg h, if_neg h]
def recv (c : Ch) (p : Int) : Ch × Int × Unit :=
  if fine c = false then (c, 1, ()) else
  if (claims.join c.2.2.2.2.2.1 p).2.1 = 0 then ((c.1, c.2.1, c.2.2.1, c.2.2.2.1, c.2.2.2.2.1, (claims.join c.2.2.2.2.2.1 p).1, ()), 0, ()) else (c, (claims.join c.2.2.2.2.2.1 p).2.1, ())
theorem recv_eq (c : Ch) (p : Int) (hs : Small c) : channel_Recv c p = some (recv c p) := by
  have := hs.e
  unfold channel_Recv recv
  rw [fine_eq c hs, claims.join_eq _ _ (by omega)]
  simp only [Option.bind_some]
  cases fine c with
  | false => rfl
  | true =>
    simp only [Bool.not_true, cond_false, Bool.true_eq_false, if_false]
    by_cases h : (claims.join c.2.2.2.2.2.1 p).2.1 = 0
    · rw [bif_pos h, if_pos h, h]
    · rw [bif_neg h, if_neg h]
theorem rrecv_eq (c : Ch) (p : Int) (hs : Small c) : R18_Recv c p = some (recv c p) := by
  have := hs.e
  unfold R18_Recv recv
  rw [rfine_eq c hs, claims.rjoin_eq _ _ (by omega)]
  simp only [Option.bind_some]
  cases fine c with
  | false => rfl
  | true =>
    simp only [Bool.not_true, cond_false, Bool.true_eq_false, if_false]
    by_cases h : (claims.join c.2.2.2.2.2.1 p).2.1 = 0
    · rw [bnot_pos h, if_pos h]
    · rw [bnot_neg h, if_neg h]
def poison (c : Ch) (v : Int) : Ch × Int × Unit :=
  if fine c = false then (c, 1, ()) else
  if (raise c.2.1 v).2.1 = 0 then ((c.1, (raise c.2.1 v).1, c.2.2.1, c.2.2.2.1, c.2.2.2.2.1, c.2.2.2.2.2.1, ()), 0, ()) else (c, (raise c.2.1 v).2.1, ())
theorem poison_eq (c : Ch) (v : Int) (hs : Small c) : channel_Poison c v = some (poison c v) := by
  unfold channel_Poison poison
  rw [fine_eq c hs, raise_eq]
  simp only [Option.bind_some]
  cases fine c with
  | false => rfl
  | true =>
    simp only [Bool.not_true, cond_false, Bool.true_eq_false, if_false]
    by_cases h : (raise c.2.1 v).2.1 = 0
    · rw [bif_pos h, if_pos h, h]
    · rw [bif_neg h, if_neg h]
theorem rpoison_eq (c : Ch) (v : Int) (hs : Small c) : R18_Poison c v = some (poison c v) := by
  unfold R18_Poison poison
  rw [rfine_eq c hs, rraise_eq]
  simp only [Option.bind_some]
  cases fine c with
  | false => rfl
  | true =>
    simp only [Bool.not_true, cond_false, Bool.true_eq_false, if_false]
    by_cases h : (raise c.2.1 v).2.1 = 0
    · rw [bnot_pos h, if_pos h]
    · rw [bnot_neg h, if_neg h]
/-- What holds of a channel that may be. -/
structure Ok (c : Ch) : Prop where
  conf : check c.1 = 0
  room : (c.2.2.1.length : Int) ≤ c.1.2.1
  out : claims.fine c.2.2.2.1 = true
  inn : claims.fine c.2.2.2.2.2.1 = true
  len : c.2.2.2.2.1.length = c.2.2.2.1.2.1.length
theorem Ok.of {c : Ch} (h : fine c = true) : Ok c := by
  unfold fine at h
  simp only [Bool.and_eq_true, decide_eq_true_eq, Bool.not_eq_true', decide_eq_false_iff_not] at h
  obtain ⟨h1, _, h3, _, _, _, _, h8, h9, h10⟩ := h
  exact ⟨h1, by omega, h8, h9, by omega⟩
def hitP (c : Ch) (p : Int) : Bool :=
  fine c && ((decide (p ∈ c.2.2.2.1.2.1) && hit c.2.1 c.1.2.2.2.1) || (decide (p ∈ c.2.2.2.2.2.1.2.1) && hit c.2.1 c.1.2.2.1))
theorem ahead_is {l : claims.Line} {p : Int} (h : claims.fine l = true) : (claims.ahead l p).2.1 = decide (p ∈ l.2.1) := by
  unfold claims.ahead
  by_cases hp : p ∈ l.2.1
  · rw [if_pos ⟨h, hp⟩, decide_eq_true hp]
  · rw [if_neg (fun h => hp h.2), decide_eq_false hp]
theorem hitP_eq (c : Ch) (p : Int) (hs : Small c) : channel_Hit c p = some (hitP c p) := by
  have := hs.b; have := hs.e
  unfold channel_Hit hitP
  rw [fine_eq c hs, claims.ahead_eq _ _ (by omega), claims.ahead_eq _ _ (by omega), hit_eq, hit_eq]
  simp only [Option.bind_some]
  cases hf : fine c with
  | false => rfl
  | true =>
    have ok := Ok.of hf
    rw [ahead_is ok.out, ahead_is ok.inn]
    cases decide (p ∈ c.2.2.2.1.2.1) <;> cases decide (p ∈ c.2.2.2.2.2.1.2.1) <;> cases hit c.2.1 c.1.2.2.2.1 <;> cases hit c.2.1 c.1.2.2.1 <;> rfl
theorem ge_dec (xs : List Int) (p : Int) : decide (ixf xs p 0 ≥ 0) = decide (p ∈ xs) := decide_eq_decide.2 ixf_ge
theorem rhitP_eq (c : Ch) (p : Int) (hs : Small c) : R18_Hit c p = some (hitP c p) := by
  have := hs.b; have := hs.e
  unfold R18_Hit hitP R18_OutHit R18_InHit
  rw [rfine_eq c hs, claims.at_eq _ _ (by omega), claims.at_eq _ _ (by omega), rhit_eq, rhit_eq]
  simp only [Option.bind_some, ge_dec]
  cases fine c <;> cases decide (p ∈ c.2.2.2.1.2.1) <;> cases decide (p ∈ c.2.2.2.2.2.1.2.1) <;> cases hit c.2.1 c.1.2.2.2.1 <;> cases hit c.2.1 c.1.2.2.1 <;> rfl
def leave (c : Ch) (p : Int) : Ch :=
  if fine c = false then c else
  (c.1, c.2.1, c.2.2.1, (claims.leave c.2.2.2.1 p).1, if p ∈ c.2.2.2.1.2.1 then c.2.2.2.2.1.take (ixf c.2.2.2.1.2.1 p 0).toNat ++ c.2.2.2.2.1.drop ((ixf c.2.2.2.1.2.1 p 0).toNat + 1) else c.2.2.2.2.1, (claims.leave c.2.2.2.2.2.1 p).1, ())
theorem without_eq (xs : List Int) (i : Int) (h0 : 0 ≤ i) (h1 : i < (xs.length : Int)) (hl : xs.length ≤ 1000000) : channel_without xs i = some (xs.take i.toNat ++ xs.drop (i.toNat + 1)) := by
  unfold channel_without
  rw [nilq_eq (fun h => by subst h; simp at h1; omega)]
  simp only [cond_false, List.nil_append, List.length_nil, letv_eq]
  rw [w64 (by omega) (by omega), chk_pos (by omega), chk_pos ⟨h0, by omega, by omega⟩, show (i + 1).toNat = i.toNat + 1 by omega]
theorem leave_eq (c : Ch) (p : Int) (hs : Small c) : channel_Leave c p = some (leave c p) := by
  have := hs.b; have := hs.d; have := hs.e
  unfold channel_Leave leave
  rw [fine_eq c hs, claims.ahead_eq _ _ (by omega), claims.leave_eq _ _ (by omega), claims.leave_eq _ _ (by omega)]
  simp only [Option.bind_some]
  cases hf : fine c with
  | false => rfl
  | true =>
    have ok := Ok.of hf
    simp only [Bool.not_true, cond_false, Bool.true_eq_false, if_false]
    rw [ahead_is ok.out]
    by_cases hp : p ∈ c.2.2.2.1.2.1
    · rw [bif_pos hp, if_pos hp]
      have h1 := ixf_mem hp 0
      have h2 : (claims.ahead c.2.2.2.1 p).1 = ixf c.2.2.2.1.2.1 p 0 := by unfold claims.ahead; rw [if_pos ⟨ok.out, hp⟩]
      rw [h2, without_eq _ _ h1.1 (by rw [ok.len]; omega) (by omega)]; rfl
    · rw [bif_neg hp, if_neg hp]
theorem rleave_eq (c : Ch) (p : Int) (hs : Small c) : R18_Leave c p = some (leave c p) := by
  have := hs.b; have := hs.d; have := hs.e
  unfold R18_Leave leave
  rw [rfine_eq c hs, claims.at_eq _ _ (by omega), claims.at_eq _ _ (by omega), claims.rleave_eq _ _ (by omega), claims.rleave_eq _ _ (by omega)]
  simp only [Option.bind_some, ge_dec]
  cases hf : fine c with
  | false => rfl
  | true =>
    have ok := Ok.of hf
    simp only [Bool.not_true, cond_false, Bool.true_eq_false, if_false]
    have hin : ∀ l : claims.Line, p ∉ l.2.1 → (claims.leave l p).1 = l := fun l h => by unfold claims.leave; rw [if_neg (fun h2 => h h2.2)]
    have hsame : ∀ x : claims.Line, cond (decide (p ∈ c.2.2.2.2.2.1.2.1)) (claims.leave c.2.2.2.2.2.1 p).1 c.2.2.2.2.2.1 = (claims.leave c.2.2.2.2.2.1 p).1 := fun _ => by
      by_cases h : p ∈ c.2.2.2.2.2.1.2.1
      · rw [bif_pos h]
      · rw [bif_neg h, hin _ h]
    by_cases hp : p ∈ c.2.2.2.1.2.1
    · rw [bif_pos hp, if_pos hp]
      have h1 := ixf_mem hp 0
      have hl := ok.len
      rw [w64 (by omega) (by omega), chk_pos ⟨by omega, h1.1, by omega⟩, chk_pos ⟨by omega, by omega, by omega⟩, chk_pos (by simp; omega)]
      simp only [letv_eq]
      rw [chk_pos (by simp; omega), show (ixf c.2.2.2.1.2.1 p 0 + 1).toNat = (ixf c.2.2.2.1.2.1 p 0).toNat + 1 by omega]
      by_cases h : p ∈ c.2.2.2.2.2.1.2.1
      · rw [bif_pos h]; simp
      · rw [bif_neg h, hin _ h]; simp
    · rw [bif_neg hp, if_neg hp, hin _ hp]
      by_cases h : p ∈ c.2.2.2.2.2.1.2.1
      · rw [bif_pos h]
      · rw [bif_neg h, hin _ h]
/-- Whether a move may happen, of a channel that may be. -/
def mayB (c : Ch) (m : Int) : Bool :=
  bif decide (m = 1) then decide (c.1.2.1 = 0) && ((decide ((c.2.2.2.1.2.1.length : Int) > 0) && !hit c.2.1 c.1.2.2.2.1) && (decide ((c.2.2.2.2.2.1.2.1.length : Int) > 0) && !hit c.2.1 c.1.2.2.1))
  else bif decide (m = 2) then decide ((c.2.2.1.length : Int) < c.1.2.1) && (decide ((c.2.2.2.1.2.1.length : Int) > 0) && !hit c.2.1 c.1.2.2.2.1)
  else bif decide (m = 3) then decide ((c.2.2.1.length : Int) > 0) && (decide ((c.2.2.2.2.2.1.2.1.length : Int) > 0) && !hit c.2.1 c.1.2.2.1)
  else false
theorem head_is {l : claims.Line} (h : claims.fine l = true) : (claims.head l).2.1 = decide ((l.2.1.length : Int) > 0) := by
  unfold claims.head
  by_cases hp : l.2.1 = []
  · rw [if_neg (fun h => h.2 hp), hp]; rfl
  · rw [if_pos ⟨h, hp⟩, decide_eq_true]
    have := List.length_pos_iff.2 hp
    omega
theorem may_eq (c : Ch) (m : Int) (hs : Small c) (ok : Ok c) : channel_may c m = some (mayB c m) := by
  have := hs.b; have := hs.e
  unfold channel_may mayB
  rw [claims.head_eq _ (by omega), claims.head_eq _ (by omega), hit_eq, hit_eq]
  simp only [Option.bind_some]
  rw [head_is ok.out, head_is ok.inn]
  generalize decide ((c.2.2.2.1.2.1.length : Int) > 0) = b1
  generalize decide ((c.2.2.2.2.2.1.2.1.length : Int) > 0) = b2
  generalize hit c.2.1 c.1.2.2.2.1 = b3
  generalize hit c.2.1 c.1.2.2.1 = b4
  generalize decide (c.1.2.1 = 0) = b5
  generalize decide ((c.2.2.1.length : Int) < c.1.2.1) = b6
  generalize decide ((c.2.2.1.length : Int) > 0) = b7
  generalize decide (m = 1) = m1
  generalize decide (m = 2) = m2
  generalize decide (m = 3) = m3
  cases b1 <;> cases b2 <;> cases m1 <;> cases m2 <;> cases m3 <;> cases b5 <;> cases b6 <;> cases b7 <;> cases b3 <;> cases b4 <;> rfl
def one_ (c : Ch) (m : Int) : List Int := bif mayB c m then [m] else []
def what (c : Ch) : List Int := if fine c = false then [] else one_ c 1 ++ (one_ c 2 ++ one_ c 3)
theorem one_len (c : Ch) (m : Int) : (one_ c m).length ≤ 1 := by
  unfold one_
  cases mayB c m <;> simp
theorem what_eq (c : Ch) (hs : Small c) : channel_What c = some (what c) := by
  unfold channel_What what
  rw [fine_eq c hs]
  simp only [Option.bind_some]
  cases hf : fine c with
  | false => rfl
  | true =>
    have ok := Ok.of hf
    simp only [Bool.not_true, cond_false, Bool.true_eq_false, if_false]
    refine (loop_up (fun x => x.1) 4 (fun x : Int × List Int => 1 ≤ x.1 ∧ x.1 ≤ 4 ∧ (x.2.length : Int) ≤ x.1) (fun x => some (x.2 ++ ((if x.1 ≤ 1 then one_ c 1 else []) ++ ((if x.1 ≤ 2 then one_ c 2 else []) ++ (if x.1 ≤ 3 then one_ c 3 else []))))) (by simp) (by simp) ?_).trans (by simp)
    rintro k ⟨i, out⟩ ⟨i1, i2, i3⟩ hk
    simp only at i1 i2 i3 hk
    unfold channel_What_L1
    simp only
    by_cases h4 : i = 4
    · subst h4
      rw [bif_neg (by omega)]
      simp [channel_What_J1]
    · rw [bif_pos (by omega), may_eq c i hs ok]
      simp only [Option.bind_some]
      rw [w64 (by omega) (by omega), chk_pos (by simp; omega), hk (by omega) (i + 1, out ++ [i]) ⟨by simp only; omega, by simp only; omega, by simp; omega⟩ rfl, hk (by omega) (i + 1, out) ⟨by simp only; omega, by simp only; omega, by simp only; omega⟩ rfl]
      rcases (by omega : i = 1 ∨ i = 2 ∨ i = 3) with rfl | rfl | rfl
      · cases hm : mayB c 1 <;> simp [one_, hm]
      · cases hm : mayB c 2 <;> simp [one_, hm]
      · cases hm : mayB c 3 <;> simp [one_, hm]
theorem rwhat_eq (c : Ch) (hs : Small c) : R18_What c = some (what c) := by
  unfold R18_What what R18_OutHit R18_InHit
  rw [rfine_eq c hs, rhit_eq, rhit_eq]
  simp only [Option.bind_some]
  cases hf : fine c with
  | false => rfl
  | true =>
    have ok := Ok.of hf
    have hk := kind_of ok.conf
    have hroom := ok.room
    simp only [Bool.not_true, cond_false, Bool.true_eq_false, if_false]
    unfold one_ mayB
    simp only [show decide ((1 : Int) = 1) = true from rfl, show decide ((2 : Int) = 1) = false from rfl, show decide ((2 : Int) = 2) = true from rfl, show decide ((3 : Int) = 1) = false from rfl, show decide ((3 : Int) = 2) = false from rfl, show decide ((3 : Int) = 3) = true from rfl, cond_true, cond_false]
    by_cases h0 : c.1.2.1 = 0
    · rw [decide_eq_true h0, decide_eq_false (show ¬ c.1.2.1 > 0 by omega), decide_eq_false (show ¬ (c.2.2.1.length : Int) < c.1.2.1 by omega), decide_eq_false (show ¬ (c.2.2.1.length : Int) > 0 by omega)]
      generalize decide ((c.2.2.2.1.2.1.length : Int) > 0) = b1
      generalize decide ((c.2.2.2.2.2.1.2.1.length : Int) > 0) = b2
      generalize hit c.2.1 c.1.2.2.2.1 = b3
      generalize hit c.2.1 c.1.2.2.1 = b4
      cases b1 <;> cases b2 <;> cases b3 <;> cases b4 <;> simp [chk]
    · rw [decide_eq_false h0, decide_eq_true (show c.1.2.1 > 0 by omega)]
      generalize decide ((c.2.2.2.1.2.1.length : Int) > 0) = b1
      generalize decide ((c.2.2.2.2.2.1.2.1.length : Int) > 0) = b2
      generalize hit c.2.1 c.1.2.2.2.1 = b3
      generalize hit c.2.1 c.1.2.2.1 = b4
      generalize decide ((c.2.2.1.length : Int) < c.1.2.1) = b6
      generalize decide ((c.2.2.1.length : Int) > 0) = b7
      cases b1 <;> cases b2 <;> cases b3 <;> cases b4 <;> cases b6 <;> cases b7 <;> simp [chk]
theorem mem_what {c : Ch} (hf : fine c = true) (m : Int) : m ∈ what c ↔ mayB c m = true := by
  unfold what
  rw [if_neg (by rw [hf]; simp)]
  have key : ∀ k : Int, m ∈ one_ c k ↔ m = k ∧ mayB c k = true := by
    intro k
    unfold one_
    cases mayB c k <;> simp
  simp only [List.mem_append, key]
  constructor
  · rintro (⟨rfl, h⟩ | ⟨rfl, h⟩ | ⟨rfl, h⟩) <;> exact h
  · intro h
    by_cases h1 : m = 1
    · subst h1; exact .inl ⟨rfl, h⟩
    · by_cases h2 : m = 2
      · subst h2; exact .inr (.inl ⟨rfl, h⟩)
      · by_cases h3 : m = 3
        · subst h3; exact .inr (.inr ⟨rfl, h⟩)
        · unfold mayB at h
          rw [decide_eq_false h1, decide_eq_false h2, decide_eq_false h3] at h
          cases h
def do_ (c : Ch) (m : Int) : Ch × (Int × Int × Int × Unit) × Int × Unit :=
  if fine c = false then (c, (0, 0, 0, ()), 1, ())
  else if mayB c m = false then (c, (0, 0, 0, ()), 13, ())
  else if m = 1 then ((c.1, c.2.1, c.2.2.1, (c.2.2.2.1.1, c.2.2.2.1.2.1.drop 1, ()), c.2.2.2.2.1.drop 1, (c.2.2.2.2.2.1.1, c.2.2.2.2.2.1.2.1.drop 1, ()), ()), (c.2.2.2.1.2.1.getD 0 0, c.2.2.2.2.2.1.2.1.getD 0 0, c.2.2.2.2.1.getD 0 0, ()), 0, ())
  else if m = 2 then ((c.1, c.2.1, c.2.2.1 ++ [c.2.2.2.2.1.getD 0 0], (c.2.2.2.1.1, c.2.2.2.1.2.1.drop 1, ()), c.2.2.2.2.1.drop 1, c.2.2.2.2.2.1, ()), (c.2.2.2.1.2.1.getD 0 0, -1, c.2.2.2.2.1.getD 0 0, ()), 0, ())
  else ((c.1, c.2.1, c.2.2.1.drop 1, c.2.2.2.1, c.2.2.2.2.1, (c.2.2.2.2.2.1.1, c.2.2.2.2.2.1.2.1.drop 1, ()), ()), (-1, c.2.2.2.2.2.1.2.1.getD 0 0, c.2.2.1.getD 0 0, ()), 0, ())
/-- The first of a line goes. -/
theorem first_goes {l : claims.Line} (h : claims.fine l = true) (hn : 0 < l.2.1.length) : (claims.head l).1 = l.2.1.getD 0 0 ∧ (claims.leave l (l.2.1.getD 0 0)).1 = (l.1, l.2.1.drop 1, ()) := by
  obtain ⟨sh, xs, u⟩ := l
  cases xs with
  | nil => simp at hn
  | cons x xs =>
    refine ⟨by unfold claims.head; rw [if_pos ⟨h, by simp⟩], ?_⟩
    unfold claims.leave
    rw [if_pos ⟨h, by simp⟩]
    simp [ixf]
theorem sent_eq (c : Ch) (hs : Small c) (ok : Ok c) (hn : 0 < c.2.2.2.1.2.1.length) : channel_sent c = some ((c.1, c.2.1, c.2.2.1, (c.2.2.2.1.1, c.2.2.2.1.2.1.drop 1, ()), c.2.2.2.2.1.drop 1, c.2.2.2.2.2.1, ()), c.2.2.2.1.2.1.getD 0 0, c.2.2.2.2.1.getD 0 0, ()) := by
  have := hs.b; have := hs.d; have hl := ok.len
  obtain ⟨h1, h2⟩ := first_goes ok.out hn
  unfold channel_sent
  rw [claims.head_eq _ (by omega)]
  simp only [Option.bind_some]
  rw [chk_pos ⟨by omega, by omega⟩, h1, claims.leave_eq _ _ (by omega), without_eq _ _ (by omega) (by omega) (by omega)]
  simp only [Option.bind_some]
  rw [h2]
  simp
theorem got_eq (c : Ch) (h : claims.fine c.2.2.2.2.2.1 = true) (hn : 0 < c.2.2.2.2.2.1.2.1.length) (hl : c.2.2.2.2.2.1.2.1.length ≤ 20) : channel_got c = some ((c.1, c.2.1, c.2.2.1, c.2.2.2.1, c.2.2.2.2.1, (c.2.2.2.2.2.1.1, c.2.2.2.2.2.1.2.1.drop 1, ()), ()), c.2.2.2.2.2.1.2.1.getD 0 0, ()) := by
  obtain ⟨h1, h2⟩ := first_goes h hn
  unfold channel_got
  rw [claims.head_eq _ (by omega)]
  simp only [Option.bind_some]
  rw [h1, claims.leave_eq _ _ (by omega)]
  simp only [Option.bind_some]
  rw [h2]
theorem may1 {c : Ch} (h : mayB c 1 = true) : 0 < c.2.2.2.1.2.1.length ∧ 0 < c.2.2.2.2.2.1.2.1.length := by
  unfold mayB at h
  simp at h
  omega
theorem may2 {c : Ch} (h : mayB c 2 = true) : 0 < c.2.2.2.1.2.1.length := by
  unfold mayB at h
  simp at h
  omega
theorem may3 {c : Ch} (h : mayB c 3 = true) : 0 < c.2.2.1.length ∧ 0 < c.2.2.2.2.2.1.2.1.length := by
  unfold mayB at h
  simp at h
  omega
theorem may_m {c : Ch} {m : Int} (h : mayB c m = true) : m = 1 ∨ m = 2 ∨ m = 3 := by
  by_cases h1 : m = 1
  · exact .inl h1
  · by_cases h2 : m = 2
    · exact .inr (.inl h2)
    · by_cases h3 : m = 3
      · exact .inr (.inr h3)
      · unfold mayB at h
        rw [decide_eq_false h1, decide_eq_false h2, decide_eq_false h3] at h
        cases h
theorem do_eq (c : Ch) (m : Int) (hs : Small c) : channel_Do c m = some (do_ c m) := by
  have := hs.a; have := hs.b; have := hs.d; have := hs.e
  unfold channel_Do do_
  rw [fine_eq c hs]
  simp only [Option.bind_some]
  cases hf : fine c with
  | false => rfl
  | true =>
    have ok := Ok.of hf
    have hl := ok.len
    simp only [Bool.not_true, cond_false, Bool.true_eq_false, if_false]
    rw [may_eq c m hs ok]
    simp only [Option.bind_some]
    cases hm : mayB c m with
    | false => rfl
    | true =>
      simp only [Bool.not_true, cond_false, Bool.true_eq_false, if_false]
      rcases may_m hm with rfl | rfl | rfl
      · obtain ⟨m1, m2⟩ := may1 hm
        rw [bnot_neg (by omega), sent_eq c hs ok m1]
        simp only [Option.bind_some]
        rw [bif_neg (by omega), bif_neg (by omega), got_eq (c.1, c.2.1, c.2.2.1, (c.2.2.2.1.1, c.2.2.2.1.2.1.drop 1, ()), c.2.2.2.2.1.drop 1, c.2.2.2.2.2.1, ()) ok.inn m2 hs.e, if_pos (by trivial)]; rfl
      · have m1 := may2 hm
        rw [bnot_neg (by omega), sent_eq c hs ok m1]
        simp only [Option.bind_some]
        rw [bif_pos (by trivial), behind_eq _ _ (show c.2.2.1.length ≤ 1000000 by omega), if_neg (by omega), if_pos (by trivial)]; rfl
      · obtain ⟨m1, m2⟩ := may3 hm
        rw [bnot_pos (by trivial), bif_neg (by omega), bif_pos (by trivial), chk_pos ⟨by omega, by omega⟩, without_eq _ _ (by omega) (by omega) (by omega)]
        simp only [Option.bind_some]
        rw [got_eq (c.1, c.2.1, c.2.2.1.take (0 : Int).toNat ++ c.2.2.1.drop ((0 : Int).toNat + 1), c.2.2.2.1, c.2.2.2.2.1, c.2.2.2.2.2.1, ()) ok.inn m2 hs.e, if_neg (by omega), if_neg (by omega)]
        simp
theorem rdo_eq (c : Ch) (m : Int) (hs : Small c) : R18_Do c m = some (do_ c m) := by
  have := hs.a; have := hs.b; have := hs.d; have := hs.e
  unfold R18_Do do_
  rw [rfine_eq c hs]
  simp only [Option.bind_some]
  cases hf : fine c with
  | false => rfl
  | true =>
    have ok := Ok.of hf
    have hl := ok.len
    have hw : (what c).length ≤ 3 := by
      unfold what
      split
      · simp
      · have := one_len c 1; have := one_len c 2; have := one_len c 3
        simp only [List.length_append]; omega
    simp only [Bool.not_true, cond_false, Bool.true_eq_false, if_false]
    rw [rwhat_eq c hs]
    simp only [Option.bind_some]
    rw [claims.at_eq _ _ (by omega)]
    simp only [Option.bind_some]
    cases hm : mayB c m with
    | false => rw [bif_pos (by rw [ixf_not (fun h => by rw [(mem_what hf m).1 h] at hm; cases hm)]; omega)]; rfl
    | true =>
      have := ixf_ge.2 ((mem_what hf m).2 hm)
      rw [bif_neg (by omega)]
      simp only [Bool.true_eq_false, if_false]
      rcases may_m hm with rfl | rfl | rfl
      · obtain ⟨m1, m2⟩ := may1 hm
        rw [bif_pos (by trivial), chk_pos (by omega), chk_pos (by omega), chk_pos (by omega), chk_pos (by omega), bif_neg (by omega), bif_neg (by omega), bif_pos (by trivial), chk_pos (by omega), chk_pos (by omega), if_pos (by trivial)]
        simp
      · have m1 := may2 hm
        rw [bif_neg (by omega), bif_pos (by trivial), chk_pos (by omega), chk_pos (by omega), chk_pos (by omega), chk_pos (by omega), bif_pos (by trivial), chk_pos (by omega), chk_pos (by simp; omega)]
        simp only [letv_eq]
        rw [bif_neg (by omega), bif_neg (by omega), bif_neg (by omega), if_neg (by omega), if_pos (by trivial)]
        simp
      · obtain ⟨m1, m2⟩ := may3 hm
        rw [bif_neg (by omega), bif_neg (by omega), bif_neg (by omega), bif_pos (by trivial), chk_pos (by omega), chk_pos (by omega), bif_neg (by omega), bif_pos (by trivial), chk_pos (by omega), chk_pos (by omega), if_neg (by omega), if_neg (by omega)]
        simp
end channel
end Go.Proofs.YtbkccpddkpclaaaV
