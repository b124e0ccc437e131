/- What the claim's law needs, many texts in one (Vn). No conditions of its own. -/
import Derived.Test.YtjgocihflhljeaaGreatZk21
set_option linter.unusedVariables false
set_option linter.unusedSimpArgs false
namespace Go.Proofs.YtjgocihflhljeaaGreat.P
open Go.RowKit Go.Shelf Go.Proofs.YtjgocihflhljeaaGreatW.PrintWords Go.Proofs.YtjgocihflhljeaaGreatW.PrintLast Go.Proofs.YtjgocihflhljeaaGreatW.PrintMore
section
variable {ids : List S68} {rc : Bool} {rn : Int} {jb : Bool}
structure Tk.InvW (ids : List S68) (rc : Bool) (rn : Int) (jb : Bool) (t : Tk) : Prop where
 i : t.Inv ids rc rn jb
 e : t.InvE ids rc rn jb
 b : t.InvB
 w : talkL ids rc rn jb t.word = t
theorem Tk.InvW.say {t : Tk} {m : Mv} (h : t.InvW ids rc rn jb) (hm : t.may ids rc rn jb m = true) (hl : t.word.length < 1048576) : (t.say m).InvW ids rc rn jb := by
 obtain ⟨h1, h2, h3⟩ := may_way h.i.l.ok hm
 refine ⟨h.i.say hm hl, h.e.say h.i.a h1 h3, h.b.say h.i.a h.i.l.ok h3, ?_⟩
 have hw := h.w
 show walkL ids rc rn jb Tk.empty (t.word ++ [m]) = t.say m
 rw [walkL_append]
 have e : walkL ids rc rn jb Tk.empty t.word = t := hw
 rw [e, if_pos (by simp [Tk.empty]), walkL, if_pos hm, walkL]
theorem talk_invW {l : List Mv} (hE : tellE ids rc rn jb l = 0) (hl : l.length ≤ 1000000) : (talkL ids rc rn jb l).InvW ids rc rn jb := by
 have hw := talk_all (tellE_zero hE).2.2
 exact ⟨talk_inv ids rc rn jb l hl, talk_invE l hl, talk_invB l hl, by rw [hw]⟩
theorem closeS_all (hc : checkE ids rn = 0) : ∀ (k : Nat) (t : Tk), t.InvW ids rc rn jb → t.opn.length = k → t.word.length + k ≤ 1000 → (closeS k t).InvW ids rc rn jb ∧ (closeS k t).opn = [] ∧ (∃ r, (closeS k t).word = t.word ++ r) ∧ (∀ i : Nat, i < t.word.length → (i : Int) ∉ t.opn → (closeS k t).prt i = t.prt i) ∧ ∀ i : Nat, i < k → ∃ q : Nat, t.opn.getD i 0 = q ∧ q < t.word.length ∧ (closeS k t).prt q = (t.word.length : Int) + k - 1 - i := by
 intro k
 induction k with
 | zero =>
  intro t h ho hl
  exact ⟨h, List.length_eq_zero_iff.1 ho, ⟨[], (List.append_nil _).symm⟩, fun i _ _ => rfl, fun i hi => by omega⟩
 | succ k ih =>
  intro t h ho hl
  have hn : t.opn ≠ [] := by intro hn; rw [hn] at ho; simp at ho
  obtain ⟨n, ht⟩ : ∃ n, t.top = some n := by
   cases ht : t.top with
   | none => exact absurd (List.getLast?_eq_none_iff.1 ht) hn
   | some n => exact ⟨n, rfl⟩
  have hti := topI_of ht
  have hm := closeM_may hc h.i h.e hn
  have ha := closeM_ans t
  have hs := opn_split ht
  obtain ⟨q0, q1, _⟩ := h.i.a.top ht
  obtain ⟨j, rfl⟩ : ∃ j : Nat, n = j := ⟨n.toNat, by omega⟩
  have eo := say_opn_ans (t := t) ha
  have hsl := say_len t t.closeM
  have hdl : (t.say t.closeM).opn.length = k := by rw [eo, List.length_dropLast]; omega
  have hasc := h.b.asc
  rw [hs, List.pairwise_append] at hasc
  have hlt : ∀ x ∈ t.opn.dropLast, x < (j : Int) := fun x hx => hasc.2.2 x hx j (List.mem_singleton.2 rfl)
  obtain ⟨h1, h2, ⟨r, h3⟩, h4, h5⟩ := ih (t.say t.closeM) (h.say hm (by omega)) hdl (by rw [hsl]; omega)
  have hj : j < t.word.length := by omega
  have hpj : (t.say t.closeM).prt j = t.word.length := by
   rw [say_prt _ _ h.i.l.ok _ (by omega), if_neg (by omega), if_pos ⟨ha, by rw [hti, Int.toNat_natCast]⟩]
  rw [closeS]
  refine ⟨h1, h2, ⟨t.closeM :: r, ?_⟩, ?_, ?_⟩
  ·rw [h3]
   show (t.word ++ [t.closeM]) ++ r = _
   rw [List.append_assoc]
   rfl
  ·intro i hi hmem
   rw [h4 i (by rw [hsl]; omega) (by rw [eo]; intro h6; exact hmem (by rw [hs]; exact List.mem_append.2 (.inl h6))), say_prt _ _ h.i.l.ok _ (by omega), if_neg (by omega), if_neg]
   rintro ⟨_, h7⟩
   rw [hti, Int.toNat_natCast] at h7
   subst h7
   exact hmem (by rw [hs]; exact List.mem_append.2 (.inr (List.mem_singleton.2 rfl)))
  intro i hi
  by_cases hik : i = k
  ·subst hik
   have hg := (top_get ht).2
   refine ⟨j, by rw [← hg]; congr 1; omega, hj, ?_⟩
   rw [h4 j (by rw [hsl]; omega) (by rw [eo]; intro h6; have := hlt _ h6; omega), hpj]
   omega
  obtain ⟨q, g1, g2, g3⟩ := h5 i (by omega)
  have e : (t.say t.closeM).opn.getD i 0 = t.opn.getD i 0 := by rw [eo]; exact getD_dropLast _ _ _ (by omega)
  rw [e] at g1
  rw [hsl] at g2 g3
  have hm1 := (h.i.a.lo i (by omega)).2
  refine ⟨q, g1, by omega, ?_⟩
  rw [g3]
  omega
theorem askM_may (hc : checkE ids rn = 0) : Tk.empty.may ids rc rn jb askM = true := by
 unfold Tk.may Tk.can Tk.top
 rw [hc, askM_has hc]
 rfl
theorem closed_facts {l C : List Mv} {T K : Tk} (hE : tellE ids rc rn jb l = 0) (hl : l.length ≤ 80) (hT : talkL ids rc rn jb l = T) (hK : closedT T = K) (hC : K.word = C) :
  T.word = l ∧ T.opn.length ≤ l.length ∧ tellE ids rc rn jb C = 0 ∧ talkL ids rc rn jb C = K ∧ K.turn = 3 ∧ l.length ≤ C.length ∧ C.length ≤ 2 * l.length + 2 ∧ C.take l.length = l ∧ (0 < l.length → C.length = l.length + T.opn.length) ∧ closeE T = 0 ∧ closeL T = C ∧ closeE K = 0 ∧ closeL K = C ∧ K.part.length = C.length ∧ (∀ i : Nat, i < C.length → -1 ≤ K.prt i ∧ K.prt i < C.length) ∧ ∀ i : Nat, i < T.opn.length → 0 < l.length → ∃ q : Nat, T.opn.getD i 0 = q ∧ q < l.length ∧ K.prt q = (C.length : Int) - 1 - i := by
 have hc := (tellE_zero hE).1
 have hTW := talk_invW hE (by omega)
 have hw := talk_all (tellE_zero hE).2.2
 rw [hT] at hTW hw
 have hol : T.opn.length ≤ l.length := by have := hTW.i.l.ok.hl; rw [hw] at this; exact this
 obtain ⟨O, hO⟩ : ∃ O, openT T = O := ⟨_, rfl⟩
 have hOf : O.InvW ids rc rn jb ∧ (∃ r, O.word = l ++ r) ∧ O.word.length + O.opn.length ≤ 2 * l.length + 2 ∧ (0 < l.length → O = T) ∧ 0 < O.word.length := by
  unfold openT at hO
  by_cases h0 : T.word.length = 0
  ·rw [if_pos h0] at hO
   have hl0 : l = [] := by rw [hw] at h0; exact List.length_eq_zero_iff.1 h0
   have hT0 : T = Tk.empty := by rw [← hT, hl0]; rfl
   subst hO
   rw [hT0]
   have hE0 := hTW
   rw [hT0] at hE0
   refine ⟨hE0.say (askM_may hc) (by simp [Tk.empty]), ⟨[askM], by rw [hl0]; rfl⟩, ?_, fun h => by rw [hl0] at h; simp at h, ?_⟩
   ·rw [say_len, say_opn_ask (by rfl)]
    simp [Tk.empty, hl0]
   rw [say_len]; omega
  rw [if_neg h0] at hO
  subst hO
  rw [hw] at h0 ⊢
  exact ⟨hTW, ⟨[], (List.append_nil _).symm⟩, by omega, fun _ => rfl, by omega⟩
 obtain ⟨hOW, ⟨r, hr⟩, hOl, hOT, hO0⟩ := hOf
 obtain ⟨h1, h2, ⟨r2, h3⟩, h4, h5⟩ := closeS_all hc O.opn.length O hOW rfl (by omega)
 have hKe : closeS O.opn.length O = K := by rw [← hK, closedT, hO]
 have hlen := closeS_len O.opn.length O
 rw [hKe] at h1 h2 h3 h4 h5 hlen
 rw [hC] at h3 hlen
 have hKl : K.word.length ≤ 400 := by rw [hC]; omega
 have hKW : talkL ids rc rn jb C = K := by rw [← hC]; exact h1.w
 have hCO : closedT K = K := by
  unfold closedT openT
  rw [if_neg (by rw [hC]; omega), h2]
  rfl
 have hce := close_ok (t := T) (by rw [hw]; omega) (by rw [hK]; exact hKl)
 have hck := close_ok (t := K) hKl (by rw [hCO]; exact hKl)
 rw [hK, hC] at hce
 rw [hCO, hC] at hck
 have hKp : K.part.length = C.length := by rw [← hC]; exact h1.i.l.ok.hp
 refine ⟨hw, hol, ?_, hKW, ?_, ?_, by omega, ?_, ?_, hce.1, hce.2, hck.1, hck.2, hKp, ?_, ?_⟩
 ·exact tellE_ok hc (by omega) (by rw [hKW, hC]; omega)
 ·refine (turn_of h1.i.a).1.2 ?_
  unfold Tk.over
  rw [h2, decide_eq_true (by rw [hC]; omega)]
  rfl
 ·rw [h3, hr]; simp
 ·rw [h3, hr, List.append_assoc]
  exact List.take_left
 ·intro h0
  have := hOT h0
  subst this
  rw [hlen, hw]
 ·intro i hi
  by_cases hn : K.prt i = -1
  ·omega
  obtain ⟨k, g1, g2, _⟩ := h1.b.par i (by rw [hC]; exact hi) hn
  rw [hC] at g2
  omega
 intro i hi h0
 have := hOT h0
 subst this
 obtain ⟨q, g1, g2, g3⟩ := h5 i hi
 rw [hw] at g2 g3 hlen
 exact ⟨q, g1, g2, by rw [g3, hlen]; omega⟩
end
end Go.Proofs.YtjgocihflhljeaaGreat.P
