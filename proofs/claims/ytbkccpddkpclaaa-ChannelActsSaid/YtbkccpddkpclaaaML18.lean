/- The laws of channel. -/
import Derived.Test.YtbkccpddkpclaaaMchannel
import Derived.Test.YtbkccpddkpclaaaDL18
namespace Go.Proofs.YtbkccpddkpclaaaV
set_option linter.unusedVariables false
set_option linter.unusedSimpArgs false
open Go.RowKit lists channel
theorem alive18 : L18_alive = some true := by decide +kernel
namespace L18
structure Big (c : Ch) : Prop where
  a : c.2.2.1.length ≤ 1000000
  b : c.2.2.2.1.2.1.length ≤ 1000000
  d : c.2.2.2.2.1.length ≤ 1000000
  e : c.2.2.2.2.2.1.2.1.length ≤ 1000000
theorem same_self (c : Ch) (h : Big c) : L18_Same c c = some true := by
  have := h.a; have := h.b; have := h.d; have := h.e
  unfold L18_Same
  rw [same_eq _ _ (by omega), same_eq _ _ (by omega), same_eq _ _ (by omega), same_eq _ _ (by omega)]
  simp
theorem join_len (c : claims.Line) (p : Int) : (claims.join c p).1.2.1.length ≤ c.2.1.length + 1 := by
  unfold claims.join
  repeat' split
  all_goals simp
theorem leave_len (c : claims.Line) (p : Int) : (claims.leave c p).1.2.1.length ≤ c.2.1.length := by
  unfold claims.leave
  split
  · simp; omega
  · simp
theorem big {c : Ch} (h : Small c) : Big c := ⟨by have := h.a; omega, by have := h.b; omega, by have := h.d; omega, by have := h.e; omega⟩
theorem big_send {c : Ch} (h : Small c) (p v : Int) : Big (send c p v).1 := by
  have := h.a; have := h.b; have := h.d; have := h.e; have := join_len c.2.2.2.1 p
  unfold send
  repeat' split
  all_goals first | exact big h | exact ⟨by simp only; omega, by simp only; omega, by simp; omega, by simp only; omega⟩
theorem big_recv {c : Ch} (h : Small c) (p : Int) : Big (recv c p).1 := by
  have := h.a; have := h.b; have := h.d; have := h.e; have := join_len c.2.2.2.2.2.1 p
  unfold recv
  repeat' split
  all_goals first | exact big h | exact ⟨by simp only; omega, by simp only; omega, by simp only; omega, by simp only; omega⟩
theorem big_poison {c : Ch} (h : Small c) (v : Int) : Big (poison c v).1 := by
  have := h.a; have := h.b; have := h.d; have := h.e
  unfold poison
  repeat' split
  all_goals first | exact big h | exact ⟨by simp only; omega, by simp only; omega, by simp only; omega, by simp only; omega⟩
theorem big_leave {c : Ch} (h : Small c) (p : Int) : Big (leave c p) := by
  have := h.a; have := h.b; have := h.d; have := h.e; have := leave_len c.2.2.2.1 p; have := leave_len c.2.2.2.2.2.1 p
  unfold leave
  repeat' split
  all_goals first | exact big h | exact ⟨by simp only; omega, by simp only; omega, by simp; omega, by simp only; omega⟩
theorem big_new (f : Conf) : Big (new f).1 := by
  unfold new
  split <;> exact ⟨by simp, by simp, by simp, by simp⟩
theorem big_do {c : Ch} (h : Small c) (m : Int) : Big (do_ c m).1 := by
  have := h.a; have := h.b; have := h.d; have := h.e
  unfold do_
  repeat' split
  all_goals first | exact big h | exact ⟨by simp; omega, by simp; omega, by simp; omega, by simp; omega⟩
theorem small_of {c : Ch} (h : L18_small c = some true) : Small c := by
  unfold L18_small at h
  simp only [letv_eq, dec_ite] at h
  repeat' split at h
  · rename_i h1 h2 h3
    simp at h
    exact ⟨by omega, by omega, by omega, by omega⟩
  all_goals simp at h
theorem small_some (c : Ch) : ∃ b, L18_small c = some b := by
  unfold L18_small
  simp only [letv_eq, dec_ite]
  repeat' split
  all_goals exact ⟨_, rfl⟩
theorem tells (c : Ch) (p : Int) : L18_ChannelTells c p = some true := by
  unfold L18_ChannelTells
  obtain ⟨b, hb⟩ := small_some c
  rw [hb]
  simp only [Option.bind_some]
  cases b with
  | false => rw [alive18]; rfl
  | true =>
    have hs := small_of hb
    simp only [L18_To, L18_From, Option.bind_some, Bool.not_true, cond_false, new_eq, rnew_eq, check_eq, rcheck_eq, fine_eq c hs, rfine_eq c hs, hitP_eq c p hs, rhitP_eq c p hs, what_eq c hs, rwhat_eq c hs, leave_eq c p hs, rleave_eq c p hs, decide_true, cond_true, beq_self_eq_true]
    have hw : (what c).length ≤ 3 := by
      unfold what
      split
      · simp
      · have := one_len c 1; have := one_len c 2; have := one_len c 3
        simp only [List.length_append]; omega
    rw [same_self _ (big_new c.1), same_eq _ _ (by omega), same_self _ (big_leave hs p), alive18]
    simp
theorem acts (c : Ch) (p v : Int) : L18_ChannelActs c p v = some true := by
  unfold L18_ChannelActs
  obtain ⟨b, hb⟩ := small_some c
  rw [hb]
  simp only [Option.bind_some]
  cases b with
  | false => rw [alive18]; rfl
  | true =>
    have hs := small_of hb
    simp only [L18_To, L18_From, Option.bind_some, Bool.not_true, cond_false, send_eq c p v hs, rsend_eq c p v hs, recv_eq c p hs, rrecv_eq c p hs, poison_eq c v hs, rpoison_eq c v hs, same_self _ (big_send hs p v), same_self _ (big_recv hs p), same_self _ (big_poison hs v), decide_true]
    refine loop_up (fun x => x) 5 (fun x => 0 ≤ x) (fun _ => some true) (by omega) (by omega) ?_
    intro k x (x0 : 0 ≤ x) hk
    unfold L18_ChannelActs_L1
    by_cases h5 : x < 5
    · rw [bif_pos h5, do_eq c x hs, rdo_eq c x hs]
      simp only [L18_From, Option.bind_some, same_self _ (big_do hs x), Bool.not_true, cond_false, decide_true, Bool.and_self]
      rw [w64 (by omega) (by omega)]
      exact hk h5 (x + 1) (by omega) rfl
    · rw [bif_neg h5]
      unfold L18_ChannelActs_J1
      rw [alive18]; rfl
end L18
theorem law_L18_ChannelActs : ∀ x : ((.pair (.pair (.pair (.int .i64) (.pair (.int .i64) (.pair (.int .i64) (.pair (.int .i64) .unit)))) (.pair (.int .i64) (.pair (.sl (.int .i64)) (.pair (.pair .bool (.pair (.sl (.int .i64)) .unit)) (.pair (.sl (.int .i64)) (.pair (.pair .bool (.pair (.sl (.int .i64)) .unit)) .unit)))))) (.pair (.int .i64) (.pair (.int .i64) .unit))) : Ty).den, wfD (.pair (.pair (.pair (.int .i64) (.pair (.int .i64) (.pair (.int .i64) (.pair (.int .i64) .unit)))) (.pair (.int .i64) (.pair (.sl (.int .i64)) (.pair (.pair .bool (.pair (.sl (.int .i64)) .unit)) (.pair (.sl (.int .i64)) (.pair (.pair .bool (.pair (.sl (.int .i64)) .unit)) .unit)))))) (.pair (.int .i64) (.pair (.int .i64) .unit))) x → L18_ChannelActs x.1 x.2.1 x.2.2.1 = some true :=
  fun x _ => L18.acts x.1 x.2.1 x.2.2.1
theorem law_L18_ChannelTells : ∀ x : ((.pair (.pair (.pair (.int .i64) (.pair (.int .i64) (.pair (.int .i64) (.pair (.int .i64) .unit)))) (.pair (.int .i64) (.pair (.sl (.int .i64)) (.pair (.pair .bool (.pair (.sl (.int .i64)) .unit)) (.pair (.sl (.int .i64)) (.pair (.pair .bool (.pair (.sl (.int .i64)) .unit)) .unit)))))) (.pair (.int .i64) .unit)) : Ty).den, wfD (.pair (.pair (.pair (.int .i64) (.pair (.int .i64) (.pair (.int .i64) (.pair (.int .i64) .unit)))) (.pair (.int .i64) (.pair (.sl (.int .i64)) (.pair (.pair .bool (.pair (.sl (.int .i64)) .unit)) (.pair (.sl (.int .i64)) (.pair (.pair .bool (.pair (.sl (.int .i64)) .unit)) .unit)))))) (.pair (.int .i64) .unit)) x → L18_ChannelTells x.1 x.2.1 = some true :=
  fun x _ => L18.tells x.1 x.2.1
end Go.Proofs.YtbkccpddkpclaaaV
