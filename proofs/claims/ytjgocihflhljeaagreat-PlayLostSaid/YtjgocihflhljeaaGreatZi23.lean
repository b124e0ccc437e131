/- What the claim's law needs, many texts in one (Vl). No conditions of its own. -/
import Derived.Test.YtjgocihflhljeaaGreatZi21
set_option linter.unusedVariables false
set_option linter.unusedSimpArgs false
namespace Go.Proofs.YtjgocihflhljeaaGreat.P
open Go.RowKit Go.Shelf Go.Proofs.YtjgocihflhljeaaGreatW.PrintWords Go.Proofs.YtjgocihflhljeaaGreatW.PrintLast Go.Proofs.YtjgocihflhljeaaGreatW.PrintMore
structure Tk.InvL (t : Tk) : Prop where
 z0 : 0 < t.opn.length → (t.mv (t.opn.getD 0 0)).f0 = 0
 fo : t.force = true → t.opn ≠ []
 ls : t.lost = true → 0 < t.word.length ∧ isEscB (t.mv ((t.word.length : Int) - 1)) = true
theorem Tk.InvL.empty : Tk.empty.InvL := ⟨fun h => by simp [Tk.empty] at h, fun h => by simp [Tk.empty] at h, fun h => by simp [Tk.empty] at h⟩
theorem Tk.InvL.say {t : Tk} {jb : Bool} {m : Mv} (h : t.InvL) (hA : t.InvA) (hw : Way t jb m) : (t.say m).InvL := by
 have hls : (t.say m).lost = true → 0 < (t.say m).word.length ∧ isEscB ((t.say m).mv (((t.say m).word.length : Int) - 1)) = true := by
  intro hl
  have e : (((t.say m).word.length : Nat) : Int) - 1 = (t.word.length : Int) := by rw [say_len]; omega
  rw [e, say_mv_new, say_len]
  refine ⟨by omega, ?_⟩
  have hl' : (t.lost || (isEscB m && isIdent m && !t.force)) = true := hl
  rw [Bool.or_eq_true] at hl'
  rcases hl' with hl' | hl'
  ·cases hw with
   | root h0 _ _ _ _ => have := (h.ls hl').1; omega
   | ident _ _ _ _ _ _ hlo => rw [hl'] at hlo; cases hlo
   | param _ _ _ _ _ _ _ hlo => rw [hl'] at hlo; cases hlo
   | answer q ht _ _ _ hn => exact answers_esc hn (.inr hl')
  simp only [Bool.and_eq_true] at hl'
  exact hl'.1.1
 cases ha : isAns m with
 | true =>
  have eo := say_opn_ans (t := t) ha
  have hlen : (t.say m).opn.length = t.opn.length - 1 := by rw [eo]; simp
  refine ⟨?_, ?_, hls⟩
  ·intro hp
   rw [hlen] at hp
   have e : (t.say m).opn.getD 0 0 = t.opn.getD 0 0 := by rw [eo]; exact getD_dropLast _ _ _ (by omega)
   rw [e, say_mv_old (hA.lo 0 (by omega)).1 (hA.lo 0 (by omega)).2]
   exact h.z0 (by omega)
  intro hf hn
  have hf' : (isEscB m && isPar m) = true := hf
  rw [Bool.and_eq_true] at hf'
  rw [hn] at hlen
  simp at hlen
  cases hw with
  | root _ _ ha' _ _ => rw [ha] at ha'; cases ha'
  | ident _ _ _ ha' _ _ _ => rw [ha] at ha'; cases ha'
  | param _ _ _ ha' _ _ _ _ => rw [ha] at ha'; cases ha'
  | answer q ht _ h0 h1 hn =>
   obtain ⟨hp, hq⟩ := top_get ht
   have e : t.opn.length - 1 = 0 := by omega
   rw [e] at hq
   have hz := h.z0 hp
   rw [hq, ← h0] at hz
   have := hf'.2
   simp [isPar, hz] at this
 | false =>
  have eo := say_opn_ask (t := t) ha
  have hes : isEscB m = false := by
   unfold isAns at ha
   unfold isEscB
   rw [ha]
   rfl
  refine ⟨?_, ?_, hls⟩
  ·intro _
   have hg : (t.say m).opn.getD 0 0 = if 0 < t.opn.length then t.opn.getD 0 0 else if 0 = t.opn.length then (t.word.length : Int) else 0 := by
    rw [eo]
    exact getD_snoc _ _ _ _
   rw [hg]
   by_cases hp : 0 < t.opn.length
   ·rw [if_pos hp, say_mv_old (hA.lo 0 hp).1 (hA.lo 0 hp).2]
    exact h.z0 hp
   rw [if_neg hp, if_pos (by omega), say_mv_new]
   cases hw with
   | root _ _ _ h1 _ => exact h1
   | ident q ht _ _ _ _ _ => exact absurd (top_get ht).1 hp
   | param q ht _ _ _ _ _ _ => exact absurd (top_get ht).1 hp
   | answer q ht _ _ _ _ => exact absurd (top_get ht).1 hp
  intro hf
  have hf' : (isEscB m && isPar m) = true := hf
  rw [hes] at hf'
  cases hf'
section
variable {ids : List S68} {rc : Bool} {rn : Int} {jb : Bool}
theorem walkL_invL (l : List Mv) : ∀ t : Tk, t.Inv ids rc rn jb → t.InvL → t.word.length + l.length ≤ 1048576 → (walkL ids rc rn jb t l).InvL := by
 induction l with
 | nil => intro t h h' _; rw [walkL]; exact h'
 | cons m ms ih =>
  intro t h h' hl
  rw [List.length_cons] at hl
  rw [walkL]
  split
  ·rename_i hm
   obtain ⟨h1, h2, h3⟩ := may_way h.l.ok hm
   exact ih _ (h.say hm (by omega)) (h'.say h.a h3) (by rw [say_len]; omega)
  exact h'
theorem talk_invL (l : List Mv) (hl : l.length ≤ 1000000) : (talkL ids rc rn jb l).InvL :=
 walkL_invL l _ Tk.Inv.empty Tk.InvL.empty (by simp [Tk.empty]; omega)
theorem esc_only {t : Tk} (hc : checkE ids rn = 0) (h : t.Inv ids rc rn jb) (hL : t.InvL) (hf : t.force = true ∨ t.lost = true) {m : Mv} (hm : m ∈ nextL jb t (movesA ids rc rn jb)) : isEscB m = true ∧ ∃ q, t.top = some q ∧ m.f0 = (t.mv q).f0 ∧ m.f1 = (t.mv q).f1 := by
 obtain ⟨h1, h2, h3⟩ := may_way h.l.ok ((mem_next hc).1 hm)
 cases h3 with
 | root h0 _ _ _ _ =>
  rcases hf with hf | hf
  ·have := h.l.fo
   rw [hf, decide_eq_false (show ¬ 0 < t.word.length by omega)] at this
   cases this
  have := (hL.ls hf).1
  omega
 | ident _ _ _ _ _ hff hlo =>
  rcases hf with hf | hf
  ·rw [hf] at hff; cases hff
  rw [hf] at hlo; cases hlo
 | param _ _ _ _ _ _ hff hlo =>
  rcases hf with hf | hf
  ·rw [hf] at hff; cases hff
  rw [hf] at hlo; cases hlo
 | answer q ht _ h0 h1 hn => exact ⟨answers_esc hn hf, q, ht, h0, h1⟩
theorem esc_next {t : Tk} (hc : checkE ids rn = 0) (h : t.Inv ids rc rn jb) (hL : t.InvL) (hf : t.force = true ∨ t.lost = true) : nextL jb t (movesA ids rc rn jb) = [] ∨ ∃ x, nextL jb t (movesA ids rc rn jb) = [x] ∧ isEscB x = true := by
 have ha := asc_next ids rc rn jb t
 have he := fun m hm => esc_only (rc := rc) hc h hL hf (m := m) hm
 revert ha he
 generalize nextL jb t (movesA ids rc rn jb) = nx
 intro ha he
 match nx with
 | [] => exact .inl rfl
 | [x] => exact .inr ⟨x, rfl, (he x mc).1⟩
 | x :: y :: r =>
  exfalso
  have h1 := (List.pairwise_cons.1 ha).1 y mc
  obtain ⟨ex, q, hq, x0, x1⟩ := he x mc
  obtain ⟨ey, q', hq', y0, y1⟩ := he y (List.mem_cons_of_mem _ mc)
  rw [hq] at hq'
  cases hq'
  unfold isEscB at ex ey
  simp only [Bool.and_eq_true, beq_iff_eq] at ex ey
  unfold LessM at h1
  omega
theorem force_next {t : Tk} (hc : checkE ids rn = 0) (h : t.Inv ids rc rn jb) (hE : t.InvE ids rc rn jb) (hL : t.InvL) (hf : t.force = true) : ∃ x, nextL jb t (movesA ids rc rn jb) = [x] ∧ isEscB x = true := by
 rcases esc_next hc h hL (.inl hf) with h0 | h0
 ·exfalso
  have := (next_nil hc h hE).1 h0
  unfold Tk.over at this
  simp only [Bool.and_eq_true, decide_eq_true_eq, beq_iff_eq] at this
  exact hL.fo hf (List.length_eq_zero_iff.1 (by omega))
 exact h0
theorem lost_step {l : List Mv} (hE : tellE ids rc rn jb l = 0) (hl : l.length ≤ 80) (k : Nat) (hk : k < l.length) (h : (talkL ids rc rn jb (l.take k)).lost = true) : (talkL ids rc rn jb (l.take (k + 1))).lost = true := by
 have hm := may_at hE hl k hk
 have hw := (tell_take hE k (by omega)).2
 have e : talkL ids rc rn jb (l.take (k + 1)) = (talkL ids rc rn jb (l.take k)).say l[k] := by
  rw [List.take_succ_eq_append_getElem hk]
  show walkL ids rc rn jb Tk.empty (l.take k ++ [l[k]]) = _
  rw [walkL_append, if_pos (by show (talkL ids rc rn jb (l.take k)).word.length = _; rw [hw]; simp [Tk.empty]), walkL, if_pos hm, walkL]
 rw [e]
 show ((talkL ids rc rn jb (l.take k)).lost || _) = true
 rw [h]
 rfl
end
end Go.Proofs.YtjgocihflhljeaaGreat.P
