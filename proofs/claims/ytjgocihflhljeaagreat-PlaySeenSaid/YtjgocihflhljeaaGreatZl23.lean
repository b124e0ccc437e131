/- What the claim's law needs, many texts in one (Dh Vn Vo). No conditions of its own. -/
import Derived.Test.YtjgocihflhljeaaGreatZl21
set_option linter.unusedVariables false
set_option linter.unusedSimpArgs false
namespace Go.Proofs.YtjgocihflhljeaaGreat.P
open Go.RowKit Go.Shelf Go.Proofs.YtjgocihflhljeaaGreatW.PrintWords Go.Proofs.YtjgocihflhljeaaGreatW.PrintLast Go.Proofs.YtjgocihflhljeaaGreatW.PrintMore
section
variable {w W W' : World} {I : List (Option Addr × List S68)} {Y : List (Option Addr × List Mv)} {X : List (Option Addr × List Int)} {G : List (Nat × Array Value × TypeId)}
variable (h : Lw w W I Y X G) {A A1 : Option Addr} {c c1 : Nat} {ids : List S68} {l : List Mv} (rc : Bool) (rn : Int) (jb : Bool) (hi : (A, ids) ∈ I) (hy : (A1, l) ∈ Y) (hl : l.length ≤ 1000000)
include h hi hy hl
theorem Lw.view : Calls Tryz.prog 25 #[.agg #[.slice A ids.length c, .bool rc, .int .i64 rn, .bool jb], .slice A1 l.length c1] W fun e w' => ∃ B k, e = .returned (.tuple #[.slice B (okL (viewE ids rc rn jb true l) (viewL (talkL ids rc rn jb l))).length k, .int .i64 (viewE ids rc rn jb true l)]) ∧ (okL (viewE ids rc rn jb true l) (viewL (talkL ids rc rn jb l))).length ≤ k ∧ Lw w w' I Y ((B, okL (viewE ids rc rn jb true l) (viewL (talkL ids rc rn jb l))) :: X) G :=
 (pView_any A c ids rc rn jb A1 c1 l W (h.i _ hi) (h.y _ hy) hl (viewL (talkL ids rc rn jb l)).reverse (fun h0 => by obtain ⟨L, h1, h2, h3⟩ := view_ok h0; unfold viewL; rw [h3]; exact ⟨by rw [h1]; simp, by simpa using h2⟩)).mono (by
  rintro e w' ⟨r, rfl, hR, hb⟩
  rw [List.reverse_reverse] at hR
  obtain ⟨B, k, rfl, hk, hC⟩ := Kd.R_reads hR
  exact ⟨B, k, rfl, hk, (h.below hb).addx hC⟩)
end
section
variable {ids : List S68} {rc : Bool} {rn : Int} {jb : Bool}
structure Tk.InvW (ids : List S68) (rc : Bool) (rn : Int) (jb : Bool) (t : Tk) : Prop where
 i : t.Inv ids rc rn jb
 e : t.InvE ids rc rn jb
 b : t.InvB
 w : talkL ids rc rn jb t.word = t
theorem Tk.InvW.say {t : Tk} {m : Mv} (h : t.InvW ids rc rn jb) (hm : t.may ids rc rn jb m = true) (hl : t.word.length < 1048576) : (t.say m).InvW ids rc rn jb := by
 obtain ⟨h1, h2, h3⟩ := may_way h.i.l.ok hm
 refine ⟨h.i.say hm hl, h.e.say h.i.a h1 h3, h.b.say h.i.a h.i.l.ok h3, ?_⟩
 have hw := h.w
 show walkL ids rc rn jb Tk.empty (t.word ++ [m]) = t.say m
 rw [walkL_append]
 have e : walkL ids rc rn jb Tk.empty t.word = t := hw
 rw [e, if_pos (by simp [Tk.empty]), walkL, if_pos hm, walkL]
theorem talk_invW {l : List Mv} (hE : tellE ids rc rn jb l = 0) (hl : l.length ≤ 1000000) : (talkL ids rc rn jb l).InvW ids rc rn jb := by
 have hw := talk_all (tellE_zero hE).2.2
 exact ⟨talk_inv ids rc rn jb l hl, talk_invE l hl, talk_invB l hl, by rw [hw]⟩
end
structure Sim (S T : Tk) : Prop where
 op : S.opn.map S.mv = T.opn.map T.mv
 fo : S.force = T.force
 lo : S.lost = T.lost
 em : S.word.length = 0 ↔ T.word.length = 0
theorem Sim.refl (T : Tk) : Sim T T := ⟨rfl, rfl, rfl, Iff.rfl⟩
theorem Sim.trans {A B C : Tk} (h : Sim A B) (g : Sim B C) : Sim A C := ⟨h.op.trans g.op, h.fo.trans g.fo, h.lo.trans g.lo, h.em.trans g.em⟩
theorem Sim.len {S T : Tk} (h : Sim S T) : S.opn.length = T.opn.length := by have := congrArg List.length h.op; simpa using this
theorem Sim.top {S T : Tk} (h : Sim S T) : S.top.map S.mv = T.top.map T.mv := by
 have := congrArg List.getLast? h.op
 rw [List.getLast?_map, List.getLast?_map] at this
 exact this
theorem Sim.can {S T : Tk} (h : Sim S T) (jb : Bool) (m : Mv) : S.can jb m = T.can jb m := by
 have ht := h.top
 have hl := h.len
 have hover : S.over = T.over := by
  unfold Tk.over
  rw [hl]
  by_cases h0 : T.word.length = 0
  ·rw [h0, h.em.2 h0]
  rw [decide_eq_true (show 0 < T.word.length by omega), decide_eq_true (show 0 < S.word.length by have := h.em; omega)]
 unfold Tk.can
 cases hs : S.top with
 | none =>
  rw [hs] at ht
  cases hq : T.top with
  | some q => rw [hq] at ht; cases ht
  | none =>
   simp only
   by_cases h0 : T.word.length = 0
   ·rw [h0, h.em.2 h0]
   rw [beq_false_of_ne (show (T.word.length : Int) ≠ 0 by omega), beq_false_of_ne (show (S.word.length : Int) ≠ 0 by have := h.em; omega)]
 | some p =>
  rw [hs] at ht
  cases hq : T.top with
  | none => rw [hq] at ht; cases ht
  | some q =>
   rw [hq] at ht
   have hm : S.mv p = T.mv q := Option.some.inj ht
   have htu : S.turn = T.turn := by
    unfold Tk.turn
    rw [hover, hs, hq]
    simp only
    rw [hm]
   have han : ∀ x, S.answers jb x m = T.answers jb x m := fun x => by unfold Tk.answers; rw [h.fo, h.lo]
   simp only
   rw [hm, htu, h.fo, h.lo, han]
theorem Sim.may {S T : Tk} (h : Sim S T) {ids : List S68} {rc : Bool} {rn : Int} {jb : Bool} (m : Mv) : S.may ids rc rn jb m = T.may ids rc rn jb m := by unfold Tk.may; rw [h.can]
theorem say_map {t : Tk} (ho : t.Ok) (m : Mv) : (t.say m).opn.map (t.say m).mv = if isAns m then (t.opn.map t.mv).dropLast else t.opn.map t.mv ++ [m] := by
 have e : t.opn.map (t.say m).mv = t.opn.map t.mv := List.map_congr_left fun x hx => say_mv_old (ho.ho x hx).1 (ho.ho x hx).2
 cases ha : isAns m with
 | true => rw [say_opn_ans ha, List.map_dropLast, e, if_pos rfl]
 | false => rw [say_opn_ask ha, List.map_append, e, if_neg Bool.false_ne_true, List.map_singleton, say_mv_new]
theorem Sim.say {S T : Tk} (h : Sim S T) (hs : S.Ok) (ht : T.Ok) (m : Mv) : Sim (S.say m) (T.say m) := by
 refine ⟨by rw [say_map hs, say_map ht, h.op], rfl, ?_, ?_⟩
 ·show (S.lost || (isEscB m && isIdent m && !S.force)) = (T.lost || (isEscB m && isIdent m && !T.force))
  rw [h.lo, h.fo]
 rw [say_len, say_len]
 omega
section
variable {ids : List S68} {rc : Bool} {rn : Int} {jb : Bool}
theorem walkL_old (l : List Mv) (i : Nat) : ∀ t : Tk, t.Inv ids rc rn jb → t.word.length + l.length ≤ 1048576 → i < t.word.length → (walkL ids rc rn jb t l).jus i = t.jus i ∧ (walkL ids rc rn jb t l).frd i = t.frd i := by
 induction l with
 | nil => intro t h _ _; rw [walkL]; exact ⟨rfl, rfl⟩
 | cons m ms ih =>
  intro t h hl hi
  rw [List.length_cons] at hl
  rw [walkL]
  split
  ·rename_i hm
   obtain ⟨h1, h2⟩ := ih (t.say m) (h.say hm (by omega)) (by rw [say_len]; omega) (by rw [say_len]; omega)
   rw [h1, h2, say_jus _ _ h.l.ok _ (by omega), say_frd _ _ h.l.ok _ (by omega), if_neg (by omega), if_neg (by omega)]
   exact ⟨rfl, rfl⟩
  exact ⟨rfl, rfl⟩
structure Beg (ids : List S68) (rc : Bool) (rn : Int) (jb : Bool) (l : List Mv) (B : Nat → Tk) : Prop where
 z : B 0 = Tk.empty
 inv : ∀ k, k ≤ l.length → (B k).InvW ids rc rn jb ∧ (B k).InvL
 w : ∀ k, k ≤ l.length → (B k).word = l.take k
 may : ∀ k (h : k < l.length), (B k).may ids rc rn jb l[k] = true
 say : ∀ k (h : k < l.length), B (k + 1) = (B k).say l[k]
 jus : ∀ k (h : k < l.length), (B l.length).jus k = (B k).justOf l[k] ∧ (B l.length).frd k = (B k).force
theorem beg_of {l : List Mv} (hE : tellE ids rc rn jb l = 0) (hl : l.length ≤ 80) : Beg ids rc rn jb l (fun k => talkL ids rc rn jb (l.take k)) := by
 have hstep : ∀ k (h : k < l.length), talkL ids rc rn jb (l.take (k + 1)) = (talkL ids rc rn jb (l.take k)).say l[k] := by
  intro k hk
  have hm := may_at hE hl k hk
  have hw := (tell_take hE k (by omega)).2
  rw [List.take_succ_eq_append_getElem hk]
  show walkL ids rc rn jb Tk.empty (l.take k ++ [l[k]]) = _
  rw [walkL_append, if_pos (by show (talkL ids rc rn jb (l.take k)).word.length = _; rw [hw]; simp [Tk.empty]), walkL, if_pos hm, walkL]
 have hin : ∀ k, k ≤ l.length → (talkL ids rc rn jb (l.take k)).InvW ids rc rn jb ∧ (talkL ids rc rn jb (l.take k)).InvL := fun k hk => ⟨talk_invW (tell_take hE k hk).1 (by rw [List.length_take]; omega), talk_invL _ (by rw [List.length_take]; omega)⟩
 refine ⟨rfl, hin, fun k hk => (tell_take hE k hk).2, fun k hk => may_at hE hl k hk, hstep, ?_⟩
 intro k hk
 simp only [List.take_length]
 have hI := (hin (k + 1) (by omega)).1.i
 have hw := (tell_take hE (k + 1) (by omega)).2
 have hwl : (talkL ids rc rn jb (l.take (k + 1))).word.length = k + 1 := by rw [hw, List.length_take]; omega
 have hwk : (talkL ids rc rn jb (l.take k)).word.length = k := by rw [(tell_take hE k (by omega)).2, List.length_take]; omega
 have e : talkL ids rc rn jb l = walkL ids rc rn jb (talkL ids rc rn jb (l.take (k + 1))) (l.drop (k + 1)) := by
  have h := walkL_append (ids := ids) (rc := rc) (rn := rn) (jb := jb) (l.drop (k + 1)) (l.take (k + 1)) Tk.empty
  rw [List.take_append_drop, if_pos (by show (talkL ids rc rn jb (l.take (k + 1))).word.length = _; rw [hw]; simp [Tk.empty])] at h
  exact h
 obtain ⟨h1, h2⟩ := walkL_old (l.drop (k + 1)) k _ hI (by rw [hwl, List.length_drop]; omega) (by rw [hwl]; omega)
 have ho := (hin k (by omega)).1.i.l.ok
 rw [e, h1, h2, hstep k hk, say_jus _ _ ho _ (by omega), say_frd _ _ ho _ (by omega), if_pos hwk.symm, if_pos hwk.symm]
 exact ⟨rfl, rfl⟩
theorem Beg.len {l : List Mv} {B : Nat → Tk} (h : Beg ids rc rn jb l B) (k : Nat) (hk : k ≤ l.length) : (B k).word.length = k := by rw [h.w k hk, List.length_take]; omega
theorem Beg.mv {l : List Mv} {B : Nat → Tk} (h : Beg ids rc rn jb l B) (k i : Nat) (hk : k ≤ l.length) (hi : i < k) : (B k).mv i = (l[i]'(by omega)) := by
 unfold Tk.mv
 rw [h.w k hk, Int.toNat_natCast, getD_get _ _ _ (by rw [List.length_take]; omega), List.getElem_take]
theorem Beg.mono {l : List Mv} {B : Nat → Tk} (h : Beg ids rc rn jb l B) (i : Nat) : ∀ d, i + d ≤ l.length → (B i).lost = true → (B (i + d)).lost = true := by
 intro d
 induction d with
 | zero => intro _ h1; exact h1
 | succ d ih =>
  intro hd h1
  have := ih (by omega) h1
  rw [← Nat.add_assoc, h.say (i + d) (by omega)]
  show ((B (i + d)).lost || _) = true
  rw [this]
  rfl
theorem Beg.stack {l : List Mv} {B : Nat → Tk} (h : Beg ids rc rn jb l B) : ∀ n, n ≤ l.length → ∀ k, k < (B n).opn.length → (B (((B n).opn.getD k 0).toNat + 1)).opn = (B n).opn.take (k + 1) := by
 intro n
 induction n with
 | zero => intro _ k hk; rw [h.z] at hk; simp [Tk.empty] at hk
 | succ n ih =>
  intro hn k hk
  have ih := ih (by omega)
  have hs := h.say n (by omega)
  cases ha : isAns (l[n]'(by omega)) with
  | true =>
   have eo := say_opn_ans (t := B n) ha
   rw [hs, eo] at hk ⊢
   rw [List.length_dropLast] at hk
   rw [getD_dropLast _ _ _ (by omega), ih k (by omega), List.dropLast_eq_take, List.take_take, Nat.min_eq_left (by omega)]
  | false =>
   have eo := say_opn_ask (t := B n) ha
   rw [hs, eo] at hk ⊢
   rw [List.length_append, List.length_singleton] at hk
   rw [getD_snoc]
   by_cases hk2 : k < (B n).opn.length
   ·rw [if_pos hk2, ih k hk2, List.take_append_of_le_length (by omega)]
   have hke : k = (B n).opn.length := by omega
   rw [if_neg hk2, if_pos hke, h.len n (by omega), Int.toNat_natCast, hs, eo, List.take_of_length_le (by rw [List.length_append, List.length_singleton]; omega), h.len n (by omega)]
theorem lost_force {t : Tk} (h : t.InvW ids rc rn jb) (hL : t.InvL) (hl : t.lost = true) (hn : t.opn ≠ []) (he : t.word.length % 2 = 0) : t.force = true := by
 obtain ⟨h0, h1⟩ := hL.ls hl
 have hfo := h.i.l.fo
 obtain ⟨n, hn1⟩ : ∃ n, t.word.length = n + 1 := ⟨t.word.length - 1, by omega⟩
 have e : (t.word.length : Int) - 1 = (n : Int) := by omega
 rw [e] at h1 hfo
 rw [hfo, h1, decide_eq_true h0, Bool.true_and, Bool.true_and]
 have hok := h.i.a.mvs n (by omega)
 have ho := h.i.a.oth n (by omega)
 have ha : isAns (t.mv n) = true := by
  unfold isEscB at h1
  rw [Bool.and_eq_true] at h1
  exact h1.1
 unfold isOB at ho
 rw [ask_ans hok, ha, decide_eq_false (by omega)] at ho
 have hid : isIdent (t.mv n) = false := by
  cases hx : isIdent (t.mv n) with
  | false => rfl
  | true => rw [hx] at ho; cases ho
 have hi := hok.i
 by_cases hf1 : 0 < (t.mv n).f1
 ·exact decide_eq_true hf1
 exfalso
 have hz1 : (t.mv n).f1 = 0 := by omega
 have hz0 : (t.mv n).f0 = 0 := by
  unfold isIdent at hid
  rw [hz1] at hid
  by_cases hp : 0 < (t.mv n).f0
  ·rw [decide_eq_true hp] at hid; cases hid
  omega
 obtain ⟨j, hj, hp, _, hja, hj0, _⟩ := h.i.c.ans n (by omega) ha
 have hjz : j = 0 := h.i.a.root j (by omega) hja (by rw [hj0, hz0])
 subst hjz
 have hol := List.length_pos_iff.2 hn
 have hz := hL.z0 hol
 have hlo := h.i.a.lo 0 hol
 have hak := h.i.a.ask 0 hol
 obtain ⟨q, hq⟩ : ∃ q : Nat, t.opn.getD 0 0 = q := ⟨(t.opn.getD 0 0).toNat, by omega⟩
 rw [hq] at hz hlo hak
 have hqz : q = 0 := h.i.a.root q (by omega) hak hz
 subst hqz
 have hm : ((0 : Nat) : Int) ∈ t.opn := by
  rw [← hq, getD_get _ _ _ hol]
  exact List.getElem_mem hol
 have h5 := (h.b.iff 0 (by omega)).2 hm
 obtain ⟨k, g1, g2, g3, g4, _⟩ := h.b.par n (by omega) (by omega)
 have : k = 0 := by omega
 subst this
 omega
theorem bef_old {t : Tk} (ho : t.Ok) (m : Mv) (i : Nat) (hi : i < t.word.length) : (t.say m).bef (i : Int) = t.bef (i : Int) := by
 rw [bef_eq, bef_eq, say_mvN _ _ _ hi, say_frd _ _ ho _ (by omega), say_jus _ _ ho _ (by omega), if_neg (show ¬ i = t.word.length by omega), if_neg (show ¬ i = t.word.length by omega)]
structure SeenAt (ids : List S68) (rc : Bool) (rn : Int) (jb : Bool) (l : List Mv) (B : Nat → Tk) (V : List Int) (n : Nat) (S : Tk) : Prop where
 odd : V.length % 2 = 1
 lo : ∀ i, i < V.length → 0 ≤ V.getD i 0 ∧ V.getD i 0 ≤ n
 asc : ∀ i, i + 1 < V.length → V.getD i 0 < V.getD (i + 1) 0
 hd : V.getD 0 0 = 0
 lst : V.getD (V.length - 1) 0 = n
 pty : ∀ i : Nat, i < V.length → V.getD i 0 % 2 = (i : Int) % 2
 jus : ∀ i, i < V.length → i % 2 = 1 → (B l.length).jus (V.getD i 0).toNat ∈ V
 sw : S.word = V.map (B l.length).mv
 inv : S.InvW ids rc rn jb
 sim : Sim S (B (n + 1))
 opn : ∀ x ∈ (B (n + 1)).opn, x ∈ V
 bef0 : S.bef 0 < 0
 bef : ∀ i : Nat, 0 < i → 2 * i < V.length → S.bef ((2 * i : Nat) : Int) = 2 * (i : Int) - 1
theorem getD_mem {V : List Int} {i : Nat} (h : i < V.length) : V.getD i 0 ∈ V := by rw [getD_get _ _ _ h]; exact List.getElem_mem h
theorem Beg.before {l : List Mv} {B : Nat → Tk} (h : Beg ids rc rn jb l B) (n : Nat) (hn : n < l.length) (he : n % 2 = 0) (h0 : 0 < n) :
  ∃ b : Nat, b < n ∧ b % 2 = 1 ∧ (B l.length).bef n = b ∧ Sim (B (b + 1)) (B n) ∧ (B (b + 1)).opn = (B n).opn ∧ ((isAns l[n] = true ∧ (B n).force = true) ∨ ((isAns l[n] && (B n).force) = false ∧ (isAns l[n] = true ∨ isIdent l[n] = false ∧ isPar l[n] = true) ∧ ∃ hb : b < l.length, isAns l[b] = false)) := by
 obtain ⟨hI, hL⟩ := h.inv n (by omega)
 have hwl := h.len n (by omega)
 obtain ⟨h1, h2, h3⟩ := may_way hI.i.l.ok (h.may n hn)
 have hj := h.jus n hn
 have hmv := h.mv l.length n (Nat.le_refl _) hn
 have hbf : (B l.length).bef n = if isAns l[n] && (B n).force then (n : Int) - 1 else (B n).justOf l[n] := by rw [bef_eq, hj.1, hj.2, hmv]
 have hoth := way_oth hI.i.a h2 h3
 rw [hwl, decide_eq_true he] at hoth
 unfold isOB at hoth
 rw [ask_ans h2] at hoth
 have main : ∀ q : Int, (B n).top = some q → (B n).force = false → (B n).lost = false → (isAns l[n] = true ∨ isIdent l[n] = false ∧ isPar l[n] = true) → ∃ b : Nat, b < n ∧ b % 2 = 1 ∧ (B l.length).bef n = b ∧ Sim (B (b + 1)) (B n) ∧ (B (b + 1)).opn = (B n).opn ∧ ((isAns l[n] = true ∧ (B n).force = true) ∨ ((isAns l[n] && (B n).force) = false ∧ (isAns l[n] = true ∨ isIdent l[n] = false ∧ isPar l[n] = true) ∧ ∃ hb : b < l.length, isAns l[b] = false)) := by
  intro q ht hf hl hk
  obtain ⟨q0, q1, q2, q3, q4⟩ := hI.i.a.top ht
  obtain ⟨b, rfl⟩ : ∃ b : Nat, q = b := ⟨q.toNat, by omega⟩
  have hbn : b < n := by omega
  have hg := (top_get ht).2
  have hst := h.stack n (by omega) ((B n).opn.length - 1) (by omega)
  rw [hg, Int.toNat_natCast, List.take_of_length_le (by omega)] at hst
  have hpt := hI.i.a.pty ((B n).opn.length - 1) (by omega)
  rw [hg] at hpt
  have hpar := hI.i.a.par
  rw [hwl] at hpar
  have hbm : (B n).mv b = l[b]'(by omega) := h.mv n b (by omega) hbn
  rw [hbm] at q2
  refine ⟨b, hbn, by omega, ?_, ⟨?_, ?_, ?_, ?_⟩, hst, .inr ⟨by rw [hf, Bool.and_false], hk, by omega, q2⟩⟩
  ·rw [hbf, hf, Bool.and_false, if_neg Bool.false_ne_true, Tk.justOf, topI_of ht]
   rcases hk with hk | ⟨hk1, hk2⟩
   ·rw [if_pos hk]
   rw [hk1, hk2]
   split <;> rfl
  ·rw [hst]
   refine List.map_congr_left fun x hx => ?_
   have hx1 := mem_opn hI.i.a hx
   have hx2 := hx
   rw [← hst] at hx2
   have hx3 := mem_opn (h.inv (b + 1) (by omega)).1.i.a hx2
   rw [h.len (b + 1) (by omega)] at hx3
   rw [hwl] at hx1
   obtain ⟨y, rfl⟩ : ∃ y : Nat, x = y := ⟨x.toNat, by omega⟩
   rw [h.mv (b + 1) y (by omega) (by omega), h.mv n y (by omega) (by omega)]
  ·rw [hf, h.say b (by omega)]
   show (isEscB _ && isPar _) = false
   unfold isEscB
   unfold isAns at q2
   rw [q2]
   rfl
  ·rw [hl]
   cases hx : (B (b + 1)).lost with
   | false => rfl
   | true =>
    have := h.mono (b + 1) (n - (b + 1)) (by omega) hx
    rw [show b + 1 + (n - (b + 1)) = n by omega, hl] at this
    cases this
  rw [h.len (b + 1) (by omega), hwl]
  omega
 cases h3 with
 | root hz _ _ _ _ => omega
 | ident q ht hq ha hi hf hl => rw [hi, ha] at hoth; cases hoth
 | param q ht hq ha hp h0' hf hl => exact main q ht hf hl (.inr ⟨par_ident hp, hp⟩)
 | answer q ht ha h0' h1' hnn =>
  cases hf : (B n).force with
  | true =>
   refine ⟨n - 1, by omega, by omega, ?_, ?_, ?_, .inl ⟨ha, rfl⟩⟩
   ·rw [hbf, ha, hf, Bool.true_and, if_pos rfl]; omega
   ·rw [show n - 1 + 1 = n by omega]; exact Sim.refl _
   rw [show n - 1 + 1 = n by omega]
  | false =>
   have hl : (B n).lost = false := by
    cases hx : (B n).lost with
    | false => rfl
    | true =>
     have := lost_force hI hL hx (by intro hz; rw [Tk.top, hz] at ht; cases ht) (by rw [hwl]; exact he)
     rw [hf] at this
     cases this
   have := main q ht hf hl (.inl ha)
   rw [hf] at this
   exact this
theorem seen_main {l : List Mv} {B : Nat → Tk} (h : Beg ids rc rn jb l B) (hl80 : l.length ≤ 80) : ∀ (k n : Nat), n < k → n < l.length → n % 2 = 0 → ∃ V S, backL (B l.length) k n = some V.reverse ∧ SeenAt ids rc rn jb l B V n S := by
 intro k
 induction k with
 | zero => intro n hk; omega
 | succ k ih =>
  intro n hk hn he
  have hT := (h.inv l.length (Nat.le_refl _)).1
  have hTl := h.len l.length (Nat.le_refl _)
  rw [backL_step _ k n (by omega) (by rw [hTl]; omega)]
  by_cases h0 : n = 0
  ·subst h0
   have hm0 := h.mv l.length 0 (Nat.le_refl _) hn
   have hz := hT.i.c.zer (by omega)
   have hoth := hT.i.a.oth 0 (by omega)
   have hmo := hT.i.a.mvs 0 (by omega)
   unfold isOB at hoth
   rw [ask_ans hmo] at hoth
   have hid : isIdent ((B l.length).mv ((0 : Nat) : Int)) = false := by
    have hz' : ((B l.length).mv ((0 : Nat) : Int)).f0 = 0 := hz
    unfold isIdent; rw [hz', decide_eq_false (by decide), Bool.false_and]
   have ha : isAns ((B l.length).mv ((0 : Nat) : Int)) = false := by
    rw [hid] at hoth
    cases hx : isAns ((B l.length).mv ((0 : Nat) : Int)) with
    | false => rfl
    | true => rw [hx] at hoth; cases hoth
   have hjr := hT.i.c.rot 0 (by omega) ha hz
   have hbf : (B l.length).bef ((0 : Nat) : Int) = -1 := by rw [bef_eq, ha, Bool.false_and, if_neg Bool.false_ne_true, hjr]
   rw [hbf, if_pos (by decide)]
   have hs1 := h.say 0 hn
   have hI1 := h.inv 1 (by omega)
   rw [hm0] at ha
   have hop : (B 1).opn = [0] := by
    rw [hs1, say_opn_ask ha, h.z]
    rfl
   have e1 : ∀ i, i < [(0 : Int)].length → i = 0 := fun i hi => by simpa using hi
   refine ⟨[0], B 1, rfl, ⟨rfl, ?_, ?_, rfl, rfl, ?_, ?_, ?_, hI1.1, Sim.refl _, ?_, ?_, ?_⟩⟩
   ·intro i hi; rw [e1 i hi]; exact ⟨by decide, by decide⟩
   ·intro i hi; simp at hi
   ·intro i hi; rw [e1 i hi]; rfl
   ·intro i hi ho; rw [e1 i hi] at ho; cases ho
   ·have e2 : (B l.length).mv (0 : Int) = l[0] := hm0
    rw [h.w 1 (by omega), List.map_singleton, e2, List.take_succ_eq_append_getElem hn]
    rfl
   ·intro x hx; rw [hop] at hx; exact hx
   ·have e3 := bef_eq (B 1) 0
    have e4 : (B 1).mv ((0 : Nat) : Int) = l[0] := h.mv 1 0 (by omega) (by omega)
    have e5 : (B 1).jus 0 = -1 := hI1.1.i.c.rot 0 (by rw [h.len 1 (by omega)]; omega) (by rw [e4]; exact ha) (hI1.1.i.c.zer (by rw [h.len 1 (by omega)]; omega))
    rw [e4, ha, Bool.false_and, if_neg Bool.false_ne_true, e5] at e3
    have e6 : (B 1).bef (0 : Int) = -1 := e3
    rw [e6]
    decide
   intro i hi hi2; simp at hi2; omega
  obtain ⟨b, hb, hbo, hbf, hsim, hopn, hk2⟩ := h.before n hn he (by omega)
  obtain ⟨V, S, hV, hS⟩ := ih (b - 1) (by omega) (by omega) (by omega)
  have eb : ((b - 1 : Nat) : Int) = (b : Int) - 1 := by omega
  have eb2 : b - 1 + 1 = b := by omega
  rw [eb] at hV
  rw [hbf, if_neg (by omega), hV]
  have hodd := hS.odd
  have hlst := hS.lst
  have hsl : S.word.length = V.length := by rw [hS.sw, List.length_map]
  have hsimb := hS.sim
  have hopb := hS.opn
  rw [eb2] at hsimb hopb
  have hVl : V.length ≤ 90 := by
   have hasc := hS.asc
   have : ∀ i : Nat, i < V.length → (i : Int) ≤ V.getD i 0 := by
    intro i
    induction i with
    | zero => intro h1; have := (hS.lo 0 h1).1; omega
    | succ i ihh => intro h1; have := ihh (by omega); have := hasc i h1; omega
   have h1 := this (V.length - 1) (by omega)
   omega
  have hbl : b < l.length := by omega
  have hIb := (h.inv b (by omega)).1
  have hIb1 := (h.inv (b + 1) (by omega)).1
  have hIn := (h.inv n (by omega)).1
  have hmb : S.may ids rc rn jb l[b] = true := by rw [hsimb.may]; exact h.may b hbl
  have hS1 := hS.inv.say hmb (by omega)
  have hsim1 : Sim (S.say l[b]) (B n) := (by
   have := hsimb.say hS.inv.i.l.ok hIb.i.l.ok l[b]
   rw [← h.say b hbl] at this
   exact this.trans hsim)
  have hmn : (S.say l[b]).may ids rc rn jb l[n] = true := by rw [hsim1.may]; exact h.may n hn
  have hl1 : (S.say l[b]).word.length = V.length + 1 := by rw [say_len, hsl]
  have hS2 := hS1.say hmn (by omega)
  have hsim2 : Sim ((S.say l[b]).say l[n]) (B (n + 1)) := by
   rw [h.say n hn]
   exact hsim1.say hS1.i.l.ok hIn.i.l.ok l[n]
  have hgl : (V ++ [(b : Int), (n : Int)]).length = V.length + 2 := by simp
  have hgd : ∀ i, (V ++ [(b : Int), (n : Int)]).getD i 0 = if i < V.length then V.getD i 0 else if i = V.length then (b : Int) else if i = V.length + 1 then (n : Int) else 0 := by
   intro i
   have e : V ++ [(b : Int), (n : Int)] = (V ++ [(b : Int)]) ++ [(n : Int)] := by simp
   rw [e, getD_snoc, List.length_append, List.length_singleton]
   by_cases h1 : i < V.length
   ·rw [if_pos (by omega), getD_snoc, if_pos h1, if_pos h1]
   rw [if_neg h1]
   by_cases h2 : i = V.length
   ·rw [if_pos (by omega), getD_snoc, if_neg h1, if_pos h2, if_pos h2]
   rw [if_neg (by omega), if_neg h2]
  have hmem : ∀ x, x ∈ V → x ∈ V ++ [(b : Int), (n : Int)] := fun x hx => List.mem_append.2 (.inl hx)
  refine ⟨V ++ [(b : Int), (n : Int)], (S.say l[b]).say l[n], by simp, ⟨by omega, ?_, ?_, ?_, ?_, ?_, ?_, ?_, hS2, hsim2, ?_, ?_, ?_⟩⟩
  ·intro i hi
   rw [hgl] at hi
   rw [hgd]
   split
   ·have := hS.lo i (by assumption); omega
   split
   ·omega
   rw [if_pos (by omega)]; omega
  ·intro i hi
   rw [hgl] at hi
   rw [hgd, hgd]
   by_cases h1 : i + 1 < V.length
   ·rw [if_pos (by omega), if_pos h1]
    exact hS.asc i h1
   rw [if_neg h1]
   by_cases h2 : i + 1 = V.length
   ·have e : i = V.length - 1 := by omega
    rw [if_pos (by omega), if_pos h2, e, hlst]
    omega
   rw [if_neg (by omega), if_pos (by omega), if_neg h2, if_pos (by omega)]
   omega
  ·rw [hgd, if_pos (by omega)]; exact hS.hd
  ·rw [hgl, hgd, if_neg (by omega), if_neg (by omega), if_pos (by omega)]
  ·intro i hi
   rw [hgl] at hi
   rw [hgd]
   split
   ·exact hS.pty i (by assumption)
   split
   ·omega
   rw [if_pos (by omega)]; omega
  ·intro i hi ho
   rw [hgl] at hi
   rw [hgd]
   split
   ·exact hmem _ (hS.jus i (by assumption) ho)
   rw [if_pos (by omega), Int.toNat_natCast, (h.jus b hbl).1]
   obtain ⟨g1, g2, g3⟩ := may_way hIb.i.l.ok (h.may b hbl)
   have hoth := way_oth hIb.i.a g2 g3
   rw [h.len b (by omega), decide_eq_false (by omega)] at hoth
   unfold isOB at hoth
   rw [ask_ans g2] at hoth
   unfold Tk.justOf
   cases g3 with
   | root hz _ _ _ _ => rw [h.len b (by omega)] at hz; omega
   | ident q _ _ ha' hi' _ _ =>
    rw [ha', hi', if_neg Bool.false_ne_true, if_pos rfl]
    have := getD_mem (V := V) (i := 0) (by omega)
    rw [hS.hd] at this
    exact hmem _ this
   | param q _ _ ha' hp' _ _ _ => rw [par_ident hp', ha'] at hoth; cases hoth
   | answer q ht ha' _ _ _ =>
    rw [if_pos ha', topI_of ht]
    exact hmem _ (hopb _ (List.mem_of_getLast? ht))
  ·show (S.word ++ [l[b]]) ++ [l[n]] = _
   rw [hS.sw, List.map_append, List.append_assoc]
   have e1 := h.mv l.length b (Nat.le_refl _) hbl
   have e2 := h.mv l.length n (Nat.le_refl _) hn
   simp [e1, e2]
  ·intro x hx
   rw [h.say n hn] at hx
   have hx2 : x ∈ (B n).opn ∨ x = n := by
    cases ha : isAns l[n] with
    | true => rw [say_opn_ans ha] at hx; exact .inl ((List.dropLast_sublist _).mem hx)
    | false =>
     rw [say_opn_ask ha, List.mem_append, List.mem_singleton, h.len n (by omega)] at hx
     exact hx
   rcases hx2 with hx2 | rfl
   ·rw [← hopn, h.say b hbl] at hx2
    have hx3 : x ∈ (B b).opn ∨ x = b := by
     cases ha : isAns l[b] with
     | true => rw [say_opn_ans ha] at hx2; exact .inl ((List.dropLast_sublist _).mem hx2)
     | false =>
      rw [say_opn_ask ha, List.mem_append, List.mem_singleton, h.len b (by omega)] at hx2
      exact hx2
    rcases hx3 with hx3 | rfl
    ·exact hmem _ (hopb _ hx3)
    simp
   simp
  ·have e1 := bef_old hS1.i.l.ok l[n] 0 (by omega)
   have e2 := bef_old hS.inv.i.l.ok l[b] 0 (by omega)
   rw [e2] at e1
   have e3 : ((S.say l[b]).say l[n]).bef (0 : Int) = S.bef (0 : Int) := e1
   rw [e3]
   exact hS.bef0
  intro i hi0 hi
  rw [hgl] at hi
  by_cases h1 : 2 * i < V.length
  ·rw [bef_old hS1.i.l.ok _ _ (by omega), bef_old hS.inv.i.l.ok _ _ (by omega)]
   exact hS.bef i hi0 h1
  have e : 2 * i = (S.say l[b]).word.length := by omega
  rw [bef_eq, e, say_mv_new, say_frd _ _ hS1.i.l.ok _ (Nat.le_refl _), say_jus _ _ hS1.i.l.ok _ (Nat.le_refl _), if_pos rfl, if_pos rfl, hsim1.fo]
  rcases hk2 with ⟨g1, g2⟩ | ⟨g1, g2, _, g3⟩
  ·rw [g1, g2, Bool.true_and, if_pos rfl]; omega
  rw [g1, if_neg Bool.false_ne_true, Tk.justOf]
  have htop : (S.say l[b]).topI = S.word.length := by
   unfold Tk.topI Tk.top
   rw [say_opn_ask g3, List.getLast?_concat]
   rfl
  rw [htop]
  rcases g2 with g2 | ⟨g2, g4⟩
  ·rw [if_pos g2]; omega
  rw [g2, g4]
  split
  ·omega
  rw [if_neg Bool.false_ne_true, if_pos rfl]; omega
theorem back_all {S : Tk} (h0 : S.bef 0 < 0) (h : ∀ i : Nat, 0 < i → 2 * i < S.word.length → S.bef ((2 * i : Nat) : Int) = 2 * (i : Int) - 1) : ∀ (i k : Nat), i < k → 2 * i < S.word.length → backL S k ((2 * i : Nat) : Int) = some ((List.range (2 * i + 1)).map (fun x : Nat => (x : Int))).reverse := by
 intro i
 induction i with
 | zero =>
  intro k hk hi
  obtain ⟨k, rfl⟩ : ∃ k', k = k' + 1 := ⟨k - 1, by omega⟩
  have e : (((2 * 0 : Nat) : Nat) : Int) = 0 := rfl
  rw [e, backL_step S k 0 (by omega) (by omega), if_pos h0]
  rfl
 | succ i ih =>
  intro k hk hi
  obtain ⟨k, rfl⟩ : ∃ k', k = k' + 1 := ⟨k - 1, by omega⟩
  have hb := h (i + 1) (by omega) hi
  rw [backL_step S k _ (by omega) (by omega), hb, if_neg (show ¬ (2 * ((i + 1 : Nat) : Int) - 1 < 0) by omega)]
  have e : 2 * ((i + 1 : Nat) : Int) - 1 - 1 = ((2 * i : Nat) : Int) := by omega
  rw [e, ih k (by omega) (by omega)]
  have e2 : 2 * (i + 1) + 1 = (2 * i + 1) + 1 + 1 := by omega
  rw [e2, (List.range_succ : List.range (2 * i + 1 + 1 + 1) = _), (List.range_succ : List.range (2 * i + 1 + 1) = _), List.map_append, List.map_append, List.reverse_append, List.reverse_append]
  show some _ = some _
  congr 1
  show ((2 * (i + 1) : Nat) : Int) :: (2 * ((i + 1 : Nat) : Int) - 1) :: _ = ((2 * i + 1 + 1 : Nat) : Int) :: ((2 * i + 1 : Nat) : Int) :: _
  rw [show ((2 * (i + 1) : Nat) : Int) = ((2 * i + 1 + 1 : Nat) : Int) by omega, show (2 * ((i + 1 : Nat) : Int) - 1) = ((2 * i + 1 : Nat) : Int) by omega]
  rfl
theorem seen_facts {l : List Mv} {T : Tk} (hE : tellE ids rc rn jb l = 0) (hl : l.length ≤ 80) (hT : talkL ids rc rn jb l = T) (ho : l.length % 2 = 1) :
  ∃ (V : List Int) (S : Tk), viewL T = V ∧ viewE ids rc rn jb true l = 0 ∧ 0 < V.length ∧ V.length ≤ l.length ∧ V.getD 0 0 = 0 ∧ V.getD (V.length - 1) 0 = (l.length : Int) - 1 ∧ T.just.length = l.length
   ∧ (∀ i : Nat, i < V.length → ∃ q : Nat, ∃ hq : q < l.length, V.getD i 0 = q ∧ T.mv q = l[q] ∧ isOB l[q] = decide (i % 2 = 0) ∧ (i % 2 = 1 → T.jus q ∈ V)) ∧ (∀ i : Nat, i + 1 < V.length → V.getD i 0 < V.getD (i + 1) 0)
   ∧ tellE ids rc rn jb (V.map T.mv) = 0 ∧ talkL ids rc rn jb (V.map T.mv) = S ∧ viewE ids rc rn jb true (V.map T.mv) = 0 ∧ viewL S = (List.range V.length).map (fun x : Nat => (x : Int)) := by
 have hB := beg_of hE hl
 obtain ⟨B, hBd⟩ : ∃ B, B = fun k => talkL ids rc rn jb (l.take k) := ⟨_, rfl⟩
 rw [← hBd] at hB
 have hBT : B l.length = T := by rw [hBd]; simp only [List.take_length]; exact hT
 obtain ⟨V, S, hV, hS⟩ := seen_main hB hl (l.length + 1) (l.length - 1) (by omega) (by omega) (by omega)
 have hI := (hB.inv l.length (Nat.le_refl _)).1
 have hlen := hB.len l.length (Nat.le_refl _)
 have hmv := hB.mv l.length
 have hjus := hS.jus
 have hsw := hS.sw
 rw [hBT] at hV hI hlen hmv hjus hsw
 have hc := (tellE_zero hE).1
 have eL : (((l.length - 1 : Nat) : Nat) : Int) = (l.length : Int) - 1 := by omega
 have hview : viewL T = V := by
  obtain ⟨L, h1, h2, h3⟩ := back_seen hI.i.a hI.i.c (l.length + 1) (l.length - 1) (by omega) (by omega) (by omega)
  rw [hV] at h1
  have h4 := Option.some.inj h1
  rw [show (((l.length - 1 : Nat) : Nat) : Int) + 1 = (l.length : Int) by omega] at h2
  unfold viewL
  rw [hlen, h2, ← h4]
  simp
 have hoV := hS.odd
 have hlst := hS.lst
 have hVle : V.length ≤ l.length := by
  have hasc := hS.asc
  have : ∀ i : Nat, i < V.length → (i : Int) ≤ V.getD i 0 := by
   intro i
   induction i with
   | zero => intro h1; have := (hS.lo 0 h1).1; omega
   | succ i ihh => intro h1; have := ihh (by omega); have := hasc i h1; omega
  have h1 := this (V.length - 1) (by omega)
  omega
 have hSl : S.word.length = V.length := by rw [hsw, List.length_map]
 have hST : talkL ids rc rn jb (V.map T.mv) = S := by rw [← hsw]; exact hS.inv.w
 have hEv : tellE ids rc rn jb (V.map T.mv) = 0 := tellE_ok hc (by rw [List.length_map]; omega) (by rw [hST, hSl, List.length_map]; omega)
 have hvE : ∀ (x : List Mv) (K : Tk), tellE ids rc rn jb x = 0 → talkL ids rc rn jb x = K → K.InvA → x.length % 2 = 1 → viewE ids rc rn jb true x = 0 := by
  intro x K h1 h2 h3 h4
  rw [viewE_eq, if_neg (by simpa using h1), if_neg (by omega), if_pos]
  have hw := talk_all (tellE_zero h1).2.2
  rw [h2] at hw
  have h5 := h3.oth (x.length - 1) (by rw [hw]; omega)
  unfold Tk.mv at h5
  rw [hw, Int.toNat_natCast] at h5
  rw [h5, decide_eq_true (by omega)]
 refine ⟨V, S, hview, hvE l T hE hT hI.i.a ho, by omega, hVle, hS.hd, by rw [hlst]; omega, ?_, ?_, hS.asc, hEv, hST, hvE _ S hEv hST hS.inv.i.a (by rw [List.length_map]; exact hoV), ?_⟩
 ·have := hI.i.l.ok.hj; omega
 ·intro i hi
  have h1 := hS.lo i hi
  have h2 := hS.pty i hi
  obtain ⟨q, hq⟩ : ∃ q : Nat, V.getD i 0 = q := ⟨(V.getD i 0).toNat, by omega⟩
  have hql : q < l.length := by omega
  have hm := hmv q (Nat.le_refl _) hql
  refine ⟨q, hql, hq, hm, ?_, ?_⟩
  ·have h3 := hI.i.a.oth q (by omega)
   rw [hm] at h3
   rw [h3, decide_eq_decide]
   omega
  intro ho'
  have h3 := hjus i hi ho'
  rw [hq, Int.toNat_natCast] at h3
  exact h3
 obtain ⟨j, hj⟩ : ∃ j, V.length = 2 * j + 1 := ⟨V.length / 2, by omega⟩
 have h1 := back_all hS.bef0 (fun i h1 h2 => hS.bef i h1 (by omega)) j (S.word.length + 1) (by omega) (by omega)
 obtain ⟨L, h2, h3, _⟩ := back_seen hS.inv.i.a hS.inv.i.c (S.word.length + 1) (2 * j) (by omega) (by omega) (by omega)
 rw [h1] at h2
 have h4 := Option.some.inj h2
 rw [show (((2 * j : Nat) : Nat) : Int) + 1 = (S.word.length : Int) by omega] at h3
 unfold viewL
 rw [h3, ← h4, List.reverse_reverse, hj]
 rfl
end
end Go.Proofs.YtjgocihflhljeaaGreat.P
