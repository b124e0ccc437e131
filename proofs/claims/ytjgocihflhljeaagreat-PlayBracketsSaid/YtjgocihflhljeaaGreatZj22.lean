/- What the claim's law needs, many texts in one (Dn). No conditions of its own. -/
import Derived.Test.YtjgocihflhljeaaGreatZj21
set_option linter.unusedVariables false
set_option linter.unusedSimpArgs false
namespace Go.Proofs.YtjgocihflhljeaaGreat.P
open Go.RowKit Go.Shelf Go.Proofs.YtjgocihflhljeaaGreatW.PrintWords Go.Proofs.YtjgocihflhljeaaGreatW.PrintLast Go.Proofs.YtjgocihflhljeaaGreatW.PrintMore
attribute [local go_sem] Oper.semAt_some
theorem part_bound {t : Tk} (hB : t.InvB) (i : Nat) (hi : i < t.word.length) : -1 ≤ t.prt i ∧ t.prt i < t.word.length := by
 by_cases h : t.prt i = -1
 ·omega
 obtain ⟨k, h1, h2, _⟩ := hB.par i hi h
 omega
theorem rd_prt {t : Tk} {P : List Int} (hP : t.part = P) (i : Nat) : rd P (i : Int) = t.prt i := by
 subst hP
 unfold rd Tk.prt
 rw [Int.toNat_natCast]
section
variable {w W W' : World} {I : List (Option Addr × List S68)} {Y : List (Option Addr × List Mv)} {X : List (Option Addr × List Int)} {G : List (Nat × Array Value × TypeId)}
theorem Lw.partnersE (h : Lw w W I Y X G) {A A1 : Option Addr} {c c1 : Nat} {ids : List S68} {l : List Mv} {T : Tk} {P : List Int} (rc : Bool) (rn : Int) (jb : Bool) (hi : (A, ids) ∈ I) (hy : (A1, l) ∈ Y) (hl : l.length ≤ 1000000) (hE : tellE ids rc rn jb l = 0) (hT : talkL ids rc rn jb l = T) (hP : T.part = P) :
  Calls Tryz.prog 42 #[.agg #[.slice A ids.length c, .bool rc, .int .i64 rn, .bool jb], .slice A1 l.length c1] W fun e w' => ∃ B k, e = .returned (.tuple #[.slice B P.length k, .int .i64 0]) ∧ P.length ≤ k ∧ Lw w w' I Y ((B, P) :: X) G := by
 have hs := h.partners (c := c) (c1 := c1) rc rn jb hi hy hl
 rw [hE, okL_ok _ rfl, hT, hP] at hs
 exact hs
end
set_option maxRecDepth 8000 in
set_option maxHeartbeats 4000000 in
theorem partners_law (A : Option Addr) (c : Nat) (ids : List S68) (rc : Bool) (rn : Int) (jb : Bool) (A1 : Option Addr) (c1 : Nat) (l : List Mv) (P : List Int) (w : World) (hr : Kd.C k68 w A ids.length ids) (hlc : ids.length ≤ c) (hr1 : Kd.C k52 w A1 l.length l) (hlc1 : l.length ≤ c1) (hl : l.length ≤ 400) (ht8' : ids.length ≤ 12 ∧ ∀ x ∈ ids, x.f0.length ≤ 8) (hE : tellE ids rc rn jb l = 0) (hP : (talkL ids rc rn jb l).part = P) :
  Calls Tryz.prog 36 #[.agg #[.slice A ids.length c, .bool rc, .int .i64 rn, .bool jb], .slice A1 l.length c1] w fun e w' => ∃ B k, e = .returned (.tuple #[.slice B P.length k, .bool true]) ∧ P.length ≤ k ∧ Kd.C (Kd.int .i64) w' B P.length P ∧ Below w.heap.size w w' := by
 have H1 := am ((Lw.start hr hr1).new #[.slice A ids.length c, .bool rc, .int .i64 rn, .bool jb] 26)
 clear hr hr1
 have ht8 := am ht8'
 have hl6 : l.length ≤ 1000000 := by omega
 have hB := talk_invB (ids := ids) (rc := rc) (rn := rn) (jb := jb) l hl6
 have hI := talk_inv ids rc rn jb l hl6
 have hw := talk_all (tellE_zero hE).2.2
 have hpl := hI.l.ok.hp
 rw [hw, hP] at hpl
 have HBD := am (fun (i : Nat) (hi : i < l.length) => (by
  have := part_bound hB i (by rw [hw]; exact hi)
  rw [hw, ← rd_prt hP] at this
  exact this : -1 ≤ rd P (i : Int) ∧ rd P (i : Int) < l.length))
 have hpb : ((P.length : Int) != (l.length : Int)) = false := bne_eq_false_iff_eq.2 (by omega)
 have hpb2 : (P.length != l.length) = false := bne_eq_false_iff_eq.2 (by omega)
 have hp4 : P.length ≤ 400 := by omega
 have HPL := am hpl
 have HE := am hE
 have HP := am hP
 clear hpl hB hI hw hE ht8' hP
 have hg1 : w.heap.size < (w.alloc (.cells #[.slice A ids.length c, .bool rc, .int .i64 rn, .bool jb] 26)).heap.size := blk_lt (H1.out.g _ mc)
 go_enter Tryz.func36, Tryz.ntmps36
 go_upto_region 2 with (first
  | (go_at_call 16; refine (H1.out.copyA rc rn jb mc hlc ht8.out).mono ?_; rintro e wa ⟨Ba, ka, rfl, hka, ha⟩; have Ha := am ha; clear ha)
  | (go_at_call 17; refine (Ha.out.copyW mc hlc1 hl6).mono ?_; rintro e wb ⟨Bb, kb, rfl, hkb, hb⟩; have Hb := am hb; clear hb)
  | (go_at_call 42; refine (Hb.out.partnersE rc rn jb mc mc hl6 HE.out rfl HP.out).mono ?_; rintro e wc ⟨Bc, kc, rfl, hkc, hc⟩; have Hc := am hc.popi.popy; clear hc Ha Hb))
 clear hg1 H1
 go_wp2_with fail
 go_loopg [8] (P.length + 1) (fun gg s8 wr => ∃ (kk : Nat), kk ≤ P.length ∧ P.length - kk ≤ gg ∧ s8 = .int .i64 kk ∧ Aside0 (Lw w wr [(A, ids)] [(A1, l)] [(Bc, P)] [(w.heap.size, #[.slice A ids.length c, .bool rc, .int .i64 rn, .bool jb], 26)]))
 case atStart => exact ⟨0, Nat.zero_le _, by omega, rfl, Hc⟩
 case round =>
  clear Hc
  obtain ⟨kk, hkk, hg, rfl, HW⟩ := hrel
  by_cases hlt : kk < P.length
  ·have cb : decide ((kk : Int) < (P.length : Int)) = true := decide_eq_true (by omega)
   have cbn : decide (kk < P.length) = true := decide_eq_true hlt
   have hbd := HBD.out kk (by have := HPL.out; omega)
   obtain ⟨ad, e0, m0⟩ := Kd.at_int (HW.out.x _ mc) (kk : Int) (by omega) (show (kk : Int) < (P.length : Int) by omega)
   cases e0
   rw [Int.toNat_natCast] at m0
   generalize rd P (kk : Int) = v at *
   have c1b : decide (v < -1) = false := decide_eq_false (by omega)
   have c2b : decide ((l.length : Int) ≤ v) = false := decide_eq_false (by omega)
   clear hbd
   go_wp2_with fail
   go_roundg (P.length - (kk + 1))
   case measure => omega
   case rel => exact ⟨kk + 1, by omega, by omega, by go_num, HW⟩
  have cb : decide ((kk : Int) < (P.length : Int)) = false := decide_eq_false (by omega)
  have cbn : decide (kk < P.length) = false := decide_eq_false hlt
  go_wp2_with fail
  go_ret2
  exact ⟨_, _, rfl, hkc, HW.out.x _ mc, HW.out.b⟩
section
variable {w W W' : World} {I : List (Option Addr × List S68)} {Y : List (Option Addr × List Mv)} {X : List (Option Addr × List Int)} {G : List (Nat × Array Value × TypeId)}
theorem Lw.partnersL (h : Lw w W I Y X G) {A A1 : Option Addr} {c c1 : Nat} {ids : List S68} {l : List Mv} {P : List Int} (rc : Bool) (rn : Int) (jb : Bool) (hi : (A, ids) ∈ I) (hy : (A1, l) ∈ Y) (hc : ids.length ≤ c) (hc1 : l.length ≤ c1) (hl : l.length ≤ 400) (ht8 : ids.length ≤ 12 ∧ ∀ x ∈ ids, x.f0.length ≤ 8) (hE : tellE ids rc rn jb l = 0) (hP : (talkL ids rc rn jb l).part = P) :
  Calls Tryz.prog 36 #[.agg #[.slice A ids.length c, .bool rc, .int .i64 rn, .bool jb], .slice A1 l.length c1] W fun e w' => ∃ B k, e = .returned (.tuple #[.slice B P.length k, .bool true]) ∧ P.length ≤ k ∧ Lw w w' I Y ((B, P) :: X) G :=
 (partners_law A c ids rc rn jb A1 c1 l P W (h.i _ hi) hc (h.y _ hy) hc1 hl ht8 hE hP).mono (by
  rintro e w' ⟨B, k, rfl, hk, hC, hb⟩
  exact ⟨B, k, rfl, hk, (h.below hb).addx hC⟩)
end
theorem rAsk_eq (m : Mv) (b : Bool) (h : askB m = b) (w : World) : Calls Tryz.prog 37 #[.agg #[.int .i64 m.f0, .int .i64 m.f1, .int .u8 m.f2, .int .i64 m.f3]] w fun e w' => e = .returned (.bool b) ∧ Below w.heap.size w w' := h ▸ rAsk_any m w
theorem rAsk_eq2 (a b : Int) (m : Mv) (z : Bool) (h : askB m = z) (w : World) : Calls Tryz.prog 37 #[.agg #[.int .i64 a, .int .i64 b, .int .u8 m.f2, .int .i64 m.f3]] w fun e w' => e = .returned (.bool z) ∧ Below w.heap.size w w' := rAsk_eq ⟨a, b, m.f2, m.f3⟩ z h w
theorem take_count (P : List Int) (kk : Nat) (hk : kk < P.length) : (P.take (kk + 1)).countP neg1 = (P.take kk).countP neg1 + if rd P (kk : Int) < 0 then 1 else 0 := by
 rw [List.take_succ_eq_append_getElem hk, List.countP_append, List.countP_singleton]
 have e : rd P (kk : Int) = P[kk] := by unfold rd; rw [Int.toNat_natCast]; first | exact getD_get P _ kk hk | simp [hk]
 rw [e]
 unfold neg1
 by_cases h : P[kk] < 0
 ·rw [if_pos h, decide_eq_true h]; rfl
 rw [if_neg h, decide_eq_false h]; rfl
set_option maxRecDepth 8000 in
set_option maxHeartbeats 8000000 in
theorem playBrackets_any (A : Option Addr) (c : Nat) (ids : List S68) (rc : Bool) (rn : Int) (jb : Bool) (A1 : Option Addr) (c1 : Nat) (l : List Mv) (w : World) (hr : Kd.C k68 w A ids.length ids) (hlc : ids.length ≤ c) (hr1 : Kd.C k52 w A1 l.length l) (hlc1 : l.length ≤ c1) :
  Calls Tryz.prog 7 #[.agg #[.slice A ids.length c, .bool rc, .int .i64 rn, .bool jb], .slice A1 l.length c1] w fun e w' => e = .returned (.bool true) ∧ Below w.heap.size w w' := by
 have H0 := am ((Lw.start hr hr1).new #[.slice A ids.length c, .bool rc, .int .i64 rn, .bool jb] 26)
 clear hr hr1
 cases ht : legalB ids rc rn jb l with
 | false =>
  have HT := am ht
  clear ht
  go_enter Tryz.func7, Tryz.ntmps7
  go_wp2_with (first
   | (go_at_call 30; refine (H0.out.legal rc rn jb mc mc hlc).mono ?_; rw [HT.out]; rintro e w1 ⟨rfl, h1⟩; have H1 := am h1; clear h1; have hg1 : w.heap.size < w1.heap.size := blk_lt (H1.out.g _ mc); have a0 : w1.cell? ⟨w.heap.size, 0, none⟩ = some (.slice A ids.length c) := H1.out.cell mc 0 rfl; have a1 : w1.cell? ⟨w.heap.size, 1, none⟩ = some (.bool rc) := H1.out.cell mc 1 rfl; have a2 : w1.cell? ⟨w.heap.size, 2, none⟩ = some (.int .i64 rn) := H1.out.cell mc 2 rfl; have a3 : w1.cell? ⟨w.heap.size, 3, none⟩ = some (.bool jb) := H1.out.cell mc 3 rfl)
   | (go_at_call 15; refine H1.out.awake.mono ?_; rintro e w2 ⟨rfl, h2⟩))
  go_ret
  exact ⟨rfl, h2.b⟩
 | true =>
  have HT := am ht
  obtain ⟨ht8', hl80, hE⟩ := legal_of ht
  have ht8 := am ht8'
  have hlx : l.length ≤ 1000000 := by omega
  have hl4 : l.length ≤ 400 := by omega
  have hI := talk_inv ids rc rn jb l hlx
  have hB := talk_invB (ids := ids) (rc := rc) (rn := rn) (jb := jb) l hlx
  have hw := talk_all (tellE_zero hE).2.2
  have hpl := hI.l.ok.hp
  obtain ⟨T, hTT⟩ : ∃ T, talkL ids rc rn jb l = T := ⟨_, rfl⟩
  rw [hTT] at hI hB hw hpl
  have hto := (turn_of hI.a).1
  have hcp := hB.cnt
  have hol := hI.l.ok.hl
  obtain ⟨P, hP⟩ : ∃ P, T.part = P := ⟨_, rfl⟩
  rw [hw, hP] at hpl
  rw [hP] at hcp
  have hmv : ∀ i : Nat, T.mv i = rd_T52 l (i : Int) := by intro i; unfold Tk.mv rd_T52; rw [hw]
  have HOP := am (show ∀ i : Nat, i < l.length → rd P (i : Int) < 0 → askB (rd_T52 l (i : Int)) = true from fun i hi h => by
   rw [← hmv]
   exact brk_open hI.a hB i (by rw [hw]; exact hi) (by rw [← rd_prt hP]; exact h))
  have HPR := am (show ∀ i : Nat, i < l.length → ¬ rd P (i : Int) < 0 → ∃ k : Nat, rd P (i : Int) = k ∧ k < l.length ∧ k ≠ i ∧ rd P (k : Int) = i ∧ (rd_T52 l (i : Int)).f0 = (rd_T52 l (k : Int)).f0 ∧ (rd_T52 l (i : Int)).f1 = (rd_T52 l (k : Int)).f1 ∧ askB (rd_T52 l (i : Int)) = decide (i < k) ∧ askB (rd_T52 l (k : Int)) = decide (k < i) ∧ ∀ n : Nat, min i k < n → n < max i k → ((min i k : Nat) : Int) < rd P (n : Int) ∧ rd P (n : Int) < ((max i k : Nat) : Int) from fun i hi h => by
   obtain ⟨k, g⟩ := brk_pair hI.a hB i (by rw [hw]; exact hi) (by rw [← rd_prt hP]; exact h)
   rw [hw] at g
   simp only [hmv, ← rd_prt hP] at g
   exact ⟨k, g⟩)
  obtain ⟨on, hon⟩ : ∃ on, T.opn.length = on := ⟨_, rfl⟩
  rw [hon] at hcp hol
  have hpt : P.take P.length = P := List.take_length
  have HCP := am hcp
  have hover : T.over = (decide (0 < l.length) && ((on : Int) == 0)) := by unfold Tk.over; rw [hw, hon]
  have HTO := am (And.intro hto hover)
  have HPL := am hpl
  have hpl4 : P.length ≤ 80 := by omega
  have hpl5 : P.length ≤ l.length := by omega
  have HE := am hE
  have HTT := am hTT
  have HON := am hon
  have HPP := am (show (talkL ids rc rn jb l).part = P by rw [hTT]; exact hP)
  clear ht ht8' hE hI hB hw hpl hto hcp hmv hover hon hP hTT hol
  go_enter Tryz.func7, Tryz.ntmps7
  go_upto_region 4 with (first
   | (go_at_call 30; refine (H0.out.legal rc rn jb mc mc hlc).mono ?_; rw [HT.out]; rintro e w1 ⟨rfl, h1⟩; have H1 := am h1; clear h1; have hg1 : w.heap.size < w1.heap.size := blk_lt (H1.out.g _ mc); have a0 : w1.cell? ⟨w.heap.size, 0, none⟩ = some (.slice A ids.length c) := H1.out.cell mc 0 rfl; have a1 : w1.cell? ⟨w.heap.size, 1, none⟩ = some (.bool rc) := H1.out.cell mc 1 rfl; have a2 : w1.cell? ⟨w.heap.size, 2, none⟩ = some (.int .i64 rn) := H1.out.cell mc 2 rfl; have a3 : w1.cell? ⟨w.heap.size, 3, none⟩ = some (.bool jb) := H1.out.cell mc 3 rfl)
   | (go_at_call 36; refine (H1.out.partnersL rc rn jb mc mc hlc hlc1 hl4 ht8.out HE.out HPP.out).mono ?_; rintro e w2 ⟨Bc, kc, rfl, hkc, h2⟩; have H2 := am h2; clear h2))
  clear a0 a1 a2 a3 hg1 H1 H0
  go_wp2_with fail
  go_loopg [7, 8] (l.length + 1) (fun gg s7 s8 wr => ∃ (kk cn : Nat), kk ≤ P.length ∧ cn ≤ kk ∧ l.length - kk ≤ gg ∧ s8 = .int .i64 kk ∧ s7 = .int .i64 cn ∧ Aside0 (cn = (P.take kk).countP neg1) ∧ Aside0 (Lw w wr [(A, ids)] [(A1, l)] [(Bc, P)] [(w.heap.size, #[.slice A ids.length c, .bool rc, .int .i64 rn, .bool jb], 26)]))
  case atStart => exact ⟨0, 0, Nat.zero_le _, Nat.le_refl _, by omega, rfl, rfl, ⟨rfl⟩, H2⟩
  case round =>
   clear H2
   obtain ⟨kk, cn, hkk, hck, hg, rfl, rfl, HCN, HW⟩ := hrel
   by_cases hlt : kk < P.length
   ·have cb : decide ((kk : Int) < (P.length : Int)) = true := decide_eq_true (by omega)
    have cbn : decide (kk < P.length) = true := decide_eq_true hlt
    have hkl : kk < l.length := by omega
    have cbl : decide (kk < l.length) = true := decide_eq_true hkl
    have hop := HOP.out kk hkl
    have hpr := HPR.out kk hkl
    have htc := take_count P kk hlt
    obtain ⟨ad, e0, v0⟩ := Kd.at_int (HW.out.x _ mc) (kk : Int) (by omega) (show (kk : Int) < (P.length : Int) by omega)
    cases e0
    rw [Int.toNat_natCast] at v0
    by_cases hv : rd P (kk : Int) < 0
    ·have hv1 : decide (rd P (kk : Int) < 0) = true := decide_eq_true hv
     have HX := am (hop hv)
     rw [if_pos hv] at htc
     have HTC := am htc
     clear hop hpr htc
     obtain ⟨ad1, e0, m0, m1, m2, m3⟩ := at_T52 (HW.out.y _ mc) (kk : Int) (by omega) (show (kk : Int) < (l.length : Int) by omega)
     cases e0
     rw [Int.toNat_natCast] at m0 m1 m2 m3
     generalize rd P (kk : Int) = v at *
     generalize rd_T52 l (kk : Int) = x at *
     go_wp2_with (refine (rAsk_eq x true HX.out _).mono ?_; rintro e w12 ⟨rfl, hb12⟩; have HV := am (HW.out.below hb12))
     go_roundg (l.length - (kk + 1))
     case measure => omega
     case rel => exact ⟨kk + 1, cn + 1, by omega, by omega, by omega, by go_num, by go_num, ⟨by rw [HTC.out, ← HCN.out]⟩, HV⟩
    have hv1 : decide (rd P (kk : Int) < 0) = false := decide_eq_false hv
    obtain ⟨k, hvk, hk1, hk2, hk3, hk4, hk5, hk6, hk7, hbt⟩ := hpr (by omega)
    rw [if_neg hv] at htc
    have HTC := am htc
    have HBT0 := am hbt
    clear hop hpr htc hbt
    have hkp : k < P.length := by rw [HPL.out]; exact hk1
    rw [hvk] at hv1 hv
    go_upto_region 15 with fail
    clear v0 hvk
    have ckp : decide (k < P.length) = true := decide_eq_true hkp
    have ckl : decide (k < l.length) = true := decide_eq_true hk1
    rcases Nat.lt_or_gt_of_ne hk2 with hlk | hlk
    ·have HX := am (hk6.trans (decide_eq_false (by omega)))
     have HY := am (hk7.trans (decide_eq_true hlk))
     have HBT := am (show ∀ n : Nat, k < n → n < kk → (k : Int) < rd P (n : Int) ∧ rd P (n : Int) < (kk : Int) from by have h := HBT0.out; rw [Nat.min_eq_right (by omega), Nat.max_eq_left (by omega)] at h; exact h)
     have clk : decide ((kk : Int) < (k : Int)) = false := decide_eq_false (by omega)
     have clk2 : decide (kk < k) = false := decide_eq_false (by omega)
     have hmi : min (kk : Int) (k : Int) = (k : Int) := by omega
     have hma : max (kk : Int) (k : Int) = (kk : Int) := by omega
     clear HBT0 hk6 hk7
     go_cut [104] (fun x104 wx => x104 = .bool false ∧ Aside0 (Lw w wx [(A, ids)] [(A1, l)] [(some ad, P)] [(w.heap.size, #[.slice A ids.length c, .bool rc, .int .i64 rn, .bool jb], 26)]))
     case first =>
      clear HBT
      obtain ⟨adu, e0, u0⟩ := Kd.at_int (HW.out.x _ mc) (k : Int) (by omega) (show (k : Int) < (P.length : Int) by omega)
      cases e0
      obtain ⟨ad1, e0, m0, m1, m2, m3⟩ := at_T52 (HW.out.y _ mc) (kk : Int) (by omega) (show (kk : Int) < (l.length : Int) by omega)
      cases e0
      obtain ⟨ad3, e0, n0, n1, n2, n3⟩ := at_T52 (HW.out.y _ mc) (k : Int) (by omega) (show (k : Int) < (l.length : Int) by omega)
      cases e0
      rw [Int.toNat_natCast] at u0 m0 m1 m2 m3 n0 n1 n2 n3
      rw [hk3] at u0
      rw [← hk4] at n0
      rw [← hk5] at n1
      clear hk3 hk4 hk5
      generalize rd_T52 l (kk : Int) = x at *
      generalize rd_T52 l (k : Int) = y at *
      have HL3 := am (HW.out.below ((Below.refl _ wr).drew))
      have HDR := am ((Below.refl wr.heap.size wr).drew)
      refine start_ (n := 56) (S := fun w' => w'.cell? (ad.add k) = some (.int .i64 (kk : Int)) ∧ w'.cell? (ad1.add (kk * 4)) = some (.int .i64 x.f0) ∧ w'.cell? ⟨(ad1.add (kk * 4)).block, (ad1.add (kk * 4)).off + 1, none⟩ = some (.int .i64 x.f1) ∧ w'.cell? ⟨(ad1.add (kk * 4)).block, (ad1.add (kk * 4)).off + 2, none⟩ = some (.int .u8 x.f2) ∧ w'.cell? ⟨(ad1.add (kk * 4)).block, (ad1.add (kk * 4)).off + 3, none⟩ = some (.int .i64 x.f3) ∧ w'.cell? (ad1.add (k * 4)) = some (.int .i64 x.f0) ∧ w'.cell? ⟨(ad1.add (k * 4)).block, (ad1.add (k * 4)).off + 1, none⟩ = some (.int .i64 x.f1) ∧ w'.cell? ⟨(ad1.add (k * 4)).block, (ad1.add (k * 4)).off + 2, none⟩ = some (.int .u8 y.f2) ∧ w'.cell? ⟨(ad1.add (k * 4)).block, (ad1.add (k * 4)).off + 3, none⟩ = some (.int .i64 y.f3)) (ds := []) #[Z,Z,Z,Z,Z,Z,Z,Z,Z,Z,Z,Z,Z,Z,Z,Z,Z,Z,Z,Z,Z,Z,Z,Z,Z,Z,Z,Z,Z,Z,Z,Z,Z,Z,Z,Z,Z,Z,Z,Z,Z,Z,Z,Z,Z,Z,Z,Z,Z,Z,Z,Z,Z,Z,Z,Z] (by kernel_rfl) rfl rfl ⟨pw_cell_below HDR.out u0, pw_cell_below HDR.out m0, pw_cell_below HDR.out m1, pw_cell_below HDR.out m2, pw_cell_below HDR.out m3, pw_cell_below HDR.out n0, pw_cell_below HDR.out n1, pw_cell_below HDR.out n2, pw_cell_below HDR.out n3⟩ (fun hHeld => ?_)
      generalize wr.drew = wd2 at HL3 HDR hHeld ⊢
      refine pure_ (i := 0) (N := some 49) (v := ?_) (a' := ?_) #[Y,Z,Z,Z,Z,Z,Z,Z,Z,Z,Z,Z,Z,Z,Z,Z,Z,Z,Z,Z,Z,Z,Z,Z,Z,Z,Z,Z,Z,Z,Z,Z,Z,Z,Z,Z,Z,Z,Z,Z,Z,Z,Z,Z,Z,Z,Z,Z,Z,Z,Z,Z,Z,Z,Z,Z] rfl rfl (by kernel_rfl) (fun _ _ _ h => h) (Or.inl ⟨by rfl, ?_⟩) ?_ ?_;rotate_left;(intro w';go_simp;with_reducible rfl);rotate_left;(simp only [Act.put, sn1, sn2, sn3, i64_w];rfl)
      refine pure_ (i := 1) (N := some 50) (v := ?_) (a' := ?_) #[Y,Y,Z,Z,Z,Z,Z,Z,Z,Z,Z,Z,Z,Z,Z,Z,Z,Z,Z,Z,Z,Z,Z,Z,Z,Z,Z,Z,Z,Z,Z,Z,Z,Z,Z,Z,Z,Z,Z,Z,Z,Z,Z,Z,Z,Z,Z,Z,Z,Z,Z,Z,Z,Z,Z,Z] rfl rfl (by kernel_rfl) (fun _ _ _ h => h) (Or.inl ⟨by rfl, ?_⟩) ?_ ?_;rotate_left;(intro w';go_simp;with_reducible rfl);rotate_left;(simp only [Act.put, sn1, sn2, sn3, i64_w];rfl)
      refine pure_ (i := 2) (N := some 51) (v := ?_) (a' := ?_) #[Y,Y,Y,Z,Z,Z,Z,Z,Z,Z,Z,Z,Z,Z,Z,Z,Z,Z,Z,Z,Z,Z,Z,Z,Z,Z,Z,Z,Z,Z,Z,Z,Z,Z,Z,Z,Z,Z,Z,Z,Z,Z,Z,Z,Z,Z,Z,Z,Z,Z,Z,Z,Z,Z,Z,Z] rfl rfl (by kernel_rfl) (fun _ _ _ h => h) (Or.inl ⟨by rfl, ?_⟩) ?_ ?_;rotate_left;(intro w';go_simp;with_reducible rfl);rotate_left;(simp only [Act.put, sn1, sn2, sn3, i64_w];rfl)
      refine pure_ (i := 4) (N := some 53) (v := ?_) (a' := ?_) #[Y,Y,Y,Z,Y,Z,Z,Z,Z,Z,Z,Z,Z,Z,Z,Z,Z,Z,Z,Z,Z,Z,Z,Z,Z,Z,Z,Z,Z,Z,Z,Z,Z,Z,Z,Z,Z,Z,Z,Z,Z,Z,Z,Z,Z,Z,Z,Z,Z,Z,Z,Z,Z,Z,Z,Z] rfl rfl (by kernel_rfl) (fun _ _ _ h => h) (Or.inl ⟨by rfl, ?_⟩) ?_ ?_;rotate_left;(intro w';go_simp;with_reducible rfl);rotate_left;(simp only [Act.put, sn1, sn2, sn3, i64_w];rfl)
      refine take_ (i := 3) (N := some 52) (v := ?_) (a' := ?_) #[Y,Y,Y,Y,Y,Z,Z,Z,Z,Z,Z,Z,Z,Z,Z,Z,Z,Z,Z,Z,Z,Z,Z,Z,Z,Z,Z,Z,Z,Z,Z,Z,Z,Z,Z,Z,Z,Z,Z,Z,Z,Z,Z,Z,Z,Z,Z,Z,Z,Z,Z,Z,Z,Z,Z,Z] rfl rfl (by kernel_rfl) (fun _ _ _ h => h) (Or.inl ⟨by rfl, ?_⟩) hHeld ?_ ?_
      rotate_left
      ·rintro w' ⟨s0, s1, s2, s3, s4, s5, s6, s7, s8⟩
       go_simp
       with_reducible rfl
      rotate_left
      ·simp only [Act.put, sn1, sn2, sn3, i64_w]
       rfl
      refine pure_ (i := 5) (N := some 54) (v := ?_) (a' := ?_) #[Y,Y,Y,Y,Y,Y,Z,Z,Z,Z,Z,Z,Z,Z,Z,Z,Z,Z,Z,Z,Z,Z,Z,Z,Z,Z,Z,Z,Z,Z,Z,Z,Z,Z,Z,Z,Z,Z,Z,Z,Z,Z,Z,Z,Z,Z,Z,Z,Z,Z,Z,Z,Z,Z,Z,Z] rfl rfl (by kernel_rfl) (fun _ _ _ h => h) (Or.inl ⟨by rfl, ?_⟩) ?_ ?_;rotate_left;(intro w';go_simp;with_reducible rfl);rotate_left;(simp only [Act.put, sn1, sn2, sn3, i64_w];rfl)
      refine pure_ (i := 6) (N := some 55) (v := ?_) (a' := ?_) #[Y,Y,Y,Y,Y,Y,Y,Z,Z,Z,Z,Z,Z,Z,Z,Z,Z,Z,Z,Z,Z,Z,Z,Z,Z,Z,Z,Z,Z,Z,Z,Z,Z,Z,Z,Z,Z,Z,Z,Z,Z,Z,Z,Z,Z,Z,Z,Z,Z,Z,Z,Z,Z,Z,Z,Z] rfl rfl (by kernel_rfl) (fun _ _ _ h => h) (Or.inl ⟨by rfl, ?_⟩) ?_ ?_;rotate_left;(intro w';go_simp;with_reducible rfl);rotate_left;(simp only [Act.put, sn1, sn2, sn3, i64_w];rfl)
      refine pure_ (i := 7) (N := some 56) (v := ?_) (a' := ?_) #[Y,Y,Y,Y,Y,Y,Y,Y,Z,Z,Z,Z,Z,Z,Z,Z,Z,Z,Z,Z,Z,Z,Z,Z,Z,Z,Z,Z,Z,Z,Z,Z,Z,Z,Z,Z,Z,Z,Z,Z,Z,Z,Z,Z,Z,Z,Z,Z,Z,Z,Z,Z,Z,Z,Z,Z] rfl rfl (by kernel_rfl) (fun _ _ _ h => h) (Or.inl ⟨by rfl, ?_⟩) ?_ ?_;rotate_left;(intro w';go_simp;with_reducible rfl);rotate_left;(simp only [Act.put, sn1, sn2, sn3, i64_w];rfl)
      refine pure_ (i := 8) (N := some 57) (v := ?_) (a' := ?_) #[Y,Y,Y,Y,Y,Y,Y,Y,Y,Z,Z,Z,Z,Z,Z,Z,Z,Z,Z,Z,Z,Z,Z,Z,Z,Z,Z,Z,Z,Z,Z,Z,Z,Z,Z,Z,Z,Z,Z,Z,Z,Z,Z,Z,Z,Z,Z,Z,Z,Z,Z,Z,Z,Z,Z,Z] rfl rfl (by kernel_rfl) (fun _ _ _ h => h) (Or.inl ⟨by rfl, ?_⟩) ?_ ?_;rotate_left;(intro w';go_simp;with_reducible rfl);rotate_left;(simp only [Act.put, sn1, sn2, sn3, i64_w];rfl)
      refine pure_ (i := 9) (N := some 58) (v := ?_) (a' := ?_) #[Y,Y,Y,Y,Y,Y,Y,Y,Y,Y,Z,Z,Z,Z,Z,Z,Z,Z,Z,Z,Z,Z,Z,Z,Z,Z,Z,Z,Z,Z,Z,Z,Z,Z,Z,Z,Z,Z,Z,Z,Z,Z,Z,Z,Z,Z,Z,Z,Z,Z,Z,Z,Z,Z,Z,Z] rfl rfl (by kernel_rfl) (fun _ _ _ h => h) (Or.inl ⟨by rfl, ?_⟩) ?_ ?_;rotate_left;(intro w';go_simp;with_reducible rfl);rotate_left;(simp only [Act.put, sn1, sn2, sn3, i64_w];rfl)
      refine pure_ (i := 10) (N := some 59) (v := ?_) (a' := ?_) #[Y,Y,Y,Y,Y,Y,Y,Y,Y,Y,Y,Z,Z,Z,Z,Z,Z,Z,Z,Z,Z,Z,Z,Z,Z,Z,Z,Z,Z,Z,Z,Z,Z,Z,Z,Z,Z,Z,Z,Z,Z,Z,Z,Z,Z,Z,Z,Z,Z,Z,Z,Z,Z,Z,Z,Z] rfl rfl (by kernel_rfl) (fun _ _ _ h => h) (Or.inl ⟨by rfl, ?_⟩) ?_ ?_;rotate_left;(intro w';go_simp;with_reducible rfl);rotate_left;(simp only [Act.put, sn1, sn2, sn3, i64_w];rfl)
      refine pure_ (i := 12) (N := some 61) (v := ?_) (a' := ?_) #[Y,Y,Y,Y,Y,Y,Y,Y,Y,Y,Y,Z,Y,Z,Z,Z,Z,Z,Z,Z,Z,Z,Z,Z,Z,Z,Z,Z,Z,Z,Z,Z,Z,Z,Z,Z,Z,Z,Z,Z,Z,Z,Z,Z,Z,Z,Z,Z,Z,Z,Z,Z,Z,Z,Z,Z] rfl rfl (by kernel_rfl) (fun _ _ _ h => h) (Or.inl ⟨by rfl, ?_⟩) ?_ ?_;rotate_left;(intro w';go_simp;with_reducible rfl);rotate_left;(simp only [Act.put, sn1, sn2, sn3, i64_w];rfl)
      refine pure_ (i := 13) (N := some 62) (v := ?_) (a' := ?_) #[Y,Y,Y,Y,Y,Y,Y,Y,Y,Y,Y,Z,Y,Y,Z,Z,Z,Z,Z,Z,Z,Z,Z,Z,Z,Z,Z,Z,Z,Z,Z,Z,Z,Z,Z,Z,Z,Z,Z,Z,Z,Z,Z,Z,Z,Z,Z,Z,Z,Z,Z,Z,Z,Z,Z,Z] rfl rfl (by kernel_rfl) (fun _ _ _ h => h) (Or.inl ⟨by rfl, ?_⟩) ?_ ?_;rotate_left;(intro w';go_simp;with_reducible rfl);rotate_left;(simp only [Act.put, sn1, sn2, sn3, i64_w];rfl)
      refine pure_ (i := 14) (N := some 63) (v := ?_) (a' := ?_) #[Y,Y,Y,Y,Y,Y,Y,Y,Y,Y,Y,Z,Y,Y,Y,Z,Z,Z,Z,Z,Z,Z,Z,Z,Z,Z,Z,Z,Z,Z,Z,Z,Z,Z,Z,Z,Z,Z,Z,Z,Z,Z,Z,Z,Z,Z,Z,Z,Z,Z,Z,Z,Z,Z,Z,Z] rfl rfl (by kernel_rfl) (fun _ _ _ h => h) (Or.inl ⟨by rfl, ?_⟩) ?_ ?_;rotate_left;(intro w';go_simp;with_reducible rfl);rotate_left;(simp only [Act.put, sn1, sn2, sn3, i64_w];rfl)
      refine pure_ (i := 15) (N := some 64) (v := ?_) (a' := ?_) #[Y,Y,Y,Y,Y,Y,Y,Y,Y,Y,Y,Z,Y,Y,Y,Y,Z,Z,Z,Z,Z,Z,Z,Z,Z,Z,Z,Z,Z,Z,Z,Z,Z,Z,Z,Z,Z,Z,Z,Z,Z,Z,Z,Z,Z,Z,Z,Z,Z,Z,Z,Z,Z,Z,Z,Z] rfl rfl (by kernel_rfl) (fun _ _ _ h => h) (Or.inl ⟨by rfl, ?_⟩) ?_ ?_;rotate_left;(intro w';go_simp;with_reducible rfl);rotate_left;(simp only [Act.put, sn1, sn2, sn3, i64_w];rfl)
      refine take_ (i := 11) (N := some 60) (v := ?_) (a' := ?_) #[Y,Y,Y,Y,Y,Y,Y,Y,Y,Y,Y,Y,Y,Y,Y,Y,Z,Z,Z,Z,Z,Z,Z,Z,Z,Z,Z,Z,Z,Z,Z,Z,Z,Z,Z,Z,Z,Z,Z,Z,Z,Z,Z,Z,Z,Z,Z,Z,Z,Z,Z,Z,Z,Z,Z,Z] rfl rfl (by kernel_rfl) (fun _ _ _ h => h) (Or.inl ⟨by rfl, ?_⟩) hHeld ?_ ?_
      rotate_left
      ·rintro w' ⟨s0, s1, s2, s3, s4, s5, s6, s7, s8⟩
       go_simp
       with_reducible rfl
      rotate_left
      ·simp only [Act.put, sn1, sn2, sn3, i64_w]
       rfl
      refine take_ (i := 16) (N := some 65) (v := ?_) (a' := ?_) #[Y,Y,Y,Y,Y,Y,Y,Y,Y,Y,Y,Y,Y,Y,Y,Y,Y,Z,Z,Z,Z,Z,Z,Z,Z,Z,Z,Z,Z,Z,Z,Z,Z,Z,Z,Z,Z,Z,Z,Z,Z,Z,Z,Z,Z,Z,Z,Z,Z,Z,Z,Z,Z,Z,Z,Z] rfl rfl (by kernel_rfl) (fun _ _ _ h => h) (Or.inl ⟨by rfl, ?_⟩) hHeld ?_ ?_
      rotate_left
      ·rintro w' ⟨s0, s1, s2, s3, s4, s5, s6, s7, s8⟩
       go_simp
       with_reducible rfl
      rotate_left
      ·simp only [Act.put, sn1, sn2, sn3, i64_w]
       rfl
      refine pure_ (i := 17) (N := some 66) (v := ?_) (a' := ?_) #[Y,Y,Y,Y,Y,Y,Y,Y,Y,Y,Y,Y,Y,Y,Y,Y,Y,Y,Z,Z,Z,Z,Z,Z,Z,Z,Z,Z,Z,Z,Z,Z,Z,Z,Z,Z,Z,Z,Z,Z,Z,Z,Z,Z,Z,Z,Z,Z,Z,Z,Z,Z,Z,Z,Z,Z] rfl rfl (by kernel_rfl) (fun _ _ _ h => h) (Or.inl ⟨by rfl, ?_⟩) ?_ ?_;rotate_left;(intro w';go_simp;with_reducible rfl);rotate_left;(simp only [Act.put, sn1, sn2, sn3, i64_w];rfl)
      refine pure_ (i := 18) (N := some 67) (v := ?_) (a' := ?_) #[Y,Y,Y,Y,Y,Y,Y,Y,Y,Y,Y,Y,Y,Y,Y,Y,Y,Y,Y,Z,Z,Z,Z,Z,Z,Z,Z,Z,Z,Z,Z,Z,Z,Z,Z,Z,Z,Z,Z,Z,Z,Z,Z,Z,Z,Z,Z,Z,Z,Z,Z,Z,Z,Z,Z,Z] rfl rfl (by kernel_rfl) (fun _ _ _ h => h) (Or.inl ⟨by rfl, ?_⟩) ?_ ?_;rotate_left;(intro w';go_simp;with_reducible rfl);rotate_left;(simp only [Act.put, sn1, sn2, sn3, i64_w];rfl)
      refine pure_ (i := 19) (N := some 68) (v := ?_) (a' := ?_) #[Y,Y,Y,Y,Y,Y,Y,Y,Y,Y,Y,Y,Y,Y,Y,Y,Y,Y,Y,Y,Z,Z,Z,Z,Z,Z,Z,Z,Z,Z,Z,Z,Z,Z,Z,Z,Z,Z,Z,Z,Z,Z,Z,Z,Z,Z,Z,Z,Z,Z,Z,Z,Z,Z,Z,Z] rfl rfl (by kernel_rfl) (fun _ _ _ h => h) (Or.inl ⟨by rfl, ?_⟩) ?_ ?_;rotate_left;(intro w';go_simp;with_reducible rfl);rotate_left;(simp only [Act.put, sn1, sn2, sn3, i64_w];rfl)
      refine pure_ (i := 20) (N := some 69) (v := ?_) (a' := ?_) #[Y,Y,Y,Y,Y,Y,Y,Y,Y,Y,Y,Y,Y,Y,Y,Y,Y,Y,Y,Y,Y,Z,Z,Z,Z,Z,Z,Z,Z,Z,Z,Z,Z,Z,Z,Z,Z,Z,Z,Z,Z,Z,Z,Z,Z,Z,Z,Z,Z,Z,Z,Z,Z,Z,Z,Z] rfl rfl (by kernel_rfl) (fun _ _ _ h => h) (Or.inl ⟨by rfl, ?_⟩) ?_ ?_;rotate_left;(intro w';go_simp;with_reducible rfl);rotate_left;(simp only [Act.put, sn1, sn2, sn3, i64_w];rfl)
      refine pure_ (i := 21) (N := some 70) (v := ?_) (a' := ?_) #[Y,Y,Y,Y,Y,Y,Y,Y,Y,Y,Y,Y,Y,Y,Y,Y,Y,Y,Y,Y,Y,Y,Z,Z,Z,Z,Z,Z,Z,Z,Z,Z,Z,Z,Z,Z,Z,Z,Z,Z,Z,Z,Z,Z,Z,Z,Z,Z,Z,Z,Z,Z,Z,Z,Z,Z] rfl rfl (by kernel_rfl) (fun _ _ _ h => h) (Or.inl ⟨by rfl, ?_⟩) ?_ ?_;rotate_left;(intro w';go_simp;with_reducible rfl);rotate_left;(simp only [Act.put, sn1, sn2, sn3, i64_w];rfl)
      refine pure_ (i := 22) (N := some 71) (v := ?_) (a' := ?_) #[Y,Y,Y,Y,Y,Y,Y,Y,Y,Y,Y,Y,Y,Y,Y,Y,Y,Y,Y,Y,Y,Y,Y,Z,Z,Z,Z,Z,Z,Z,Z,Z,Z,Z,Z,Z,Z,Z,Z,Z,Z,Z,Z,Z,Z,Z,Z,Z,Z,Z,Z,Z,Z,Z,Z,Z] rfl rfl (by kernel_rfl) (fun _ _ _ h => h) (Or.inl ⟨by rfl, ?_⟩) ?_ ?_;rotate_left;(intro w';go_simp;with_reducible rfl);rotate_left;(simp only [Act.put, sn1, sn2, sn3, i64_w];rfl)
      refine pure_ (i := 23) (N := some 72) (v := ?_) (a' := ?_) #[Y,Y,Y,Y,Y,Y,Y,Y,Y,Y,Y,Y,Y,Y,Y,Y,Y,Y,Y,Y,Y,Y,Y,Y,Z,Z,Z,Z,Z,Z,Z,Z,Z,Z,Z,Z,Z,Z,Z,Z,Z,Z,Z,Z,Z,Z,Z,Z,Z,Z,Z,Z,Z,Z,Z,Z] rfl rfl (by kernel_rfl) (fun _ _ _ h => h) (Or.inl ⟨by rfl, ?_⟩) ?_ ?_;rotate_left;(intro w';go_simp;with_reducible rfl);rotate_left;(simp only [Act.put, sn1, sn2, sn3, i64_w];rfl)
      refine pure_ (i := 25) (N := some 74) (v := ?_) (a' := ?_) #[Y,Y,Y,Y,Y,Y,Y,Y,Y,Y,Y,Y,Y,Y,Y,Y,Y,Y,Y,Y,Y,Y,Y,Y,Z,Y,Z,Z,Z,Z,Z,Z,Z,Z,Z,Z,Z,Z,Z,Z,Z,Z,Z,Z,Z,Z,Z,Z,Z,Z,Z,Z,Z,Z,Z,Z] rfl rfl (by kernel_rfl) (fun _ _ _ h => h) (Or.inl ⟨by rfl, ?_⟩) ?_ ?_;rotate_left;(intro w';go_simp;with_reducible rfl);rotate_left;(simp only [Act.put, sn1, sn2, sn3, i64_w];rfl)
      refine pure_ (i := 26) (N := some 75) (v := ?_) (a' := ?_) #[Y,Y,Y,Y,Y,Y,Y,Y,Y,Y,Y,Y,Y,Y,Y,Y,Y,Y,Y,Y,Y,Y,Y,Y,Z,Y,Y,Z,Z,Z,Z,Z,Z,Z,Z,Z,Z,Z,Z,Z,Z,Z,Z,Z,Z,Z,Z,Z,Z,Z,Z,Z,Z,Z,Z,Z] rfl rfl (by kernel_rfl) (fun _ _ _ h => h) (Or.inl ⟨by rfl, ?_⟩) ?_ ?_;rotate_left;(intro w';go_simp;with_reducible rfl);rotate_left;(simp only [Act.put, sn1, sn2, sn3, i64_w];rfl)
      refine pure_ (i := 27) (N := some 76) (v := ?_) (a' := ?_) #[Y,Y,Y,Y,Y,Y,Y,Y,Y,Y,Y,Y,Y,Y,Y,Y,Y,Y,Y,Y,Y,Y,Y,Y,Z,Y,Y,Y,Z,Z,Z,Z,Z,Z,Z,Z,Z,Z,Z,Z,Z,Z,Z,Z,Z,Z,Z,Z,Z,Z,Z,Z,Z,Z,Z,Z] rfl rfl (by kernel_rfl) (fun _ _ _ h => h) (Or.inl ⟨by rfl, ?_⟩) ?_ ?_;rotate_left;(intro w';go_simp;with_reducible rfl);rotate_left;(simp only [Act.put, sn1, sn2, sn3, i64_w];rfl)
      refine pure_ (i := 28) (N := some 77) (v := ?_) (a' := ?_) #[Y,Y,Y,Y,Y,Y,Y,Y,Y,Y,Y,Y,Y,Y,Y,Y,Y,Y,Y,Y,Y,Y,Y,Y,Z,Y,Y,Y,Y,Z,Z,Z,Z,Z,Z,Z,Z,Z,Z,Z,Z,Z,Z,Z,Z,Z,Z,Z,Z,Z,Z,Z,Z,Z,Z,Z] rfl rfl (by kernel_rfl) (fun _ _ _ h => h) (Or.inl ⟨by rfl, ?_⟩) ?_ ?_;rotate_left;(intro w';go_simp;with_reducible rfl);rotate_left;(simp only [Act.put, sn1, sn2, sn3, i64_w];rfl)
      refine take_ (i := 24) (N := some 73) (v := ?_) (a' := ?_) #[Y,Y,Y,Y,Y,Y,Y,Y,Y,Y,Y,Y,Y,Y,Y,Y,Y,Y,Y,Y,Y,Y,Y,Y,Y,Y,Y,Y,Y,Z,Z,Z,Z,Z,Z,Z,Z,Z,Z,Z,Z,Z,Z,Z,Z,Z,Z,Z,Z,Z,Z,Z,Z,Z,Z,Z] rfl rfl (by kernel_rfl) (fun _ _ _ h => h) (Or.inl ⟨by rfl, ?_⟩) hHeld ?_ ?_
      rotate_left
      ·rintro w' ⟨s0, s1, s2, s3, s4, s5, s6, s7, s8⟩
       go_simp
       with_reducible rfl
      rotate_left
      ·simp only [Act.put, sn1, sn2, sn3, i64_w]
       rfl
      refine take_ (i := 29) (N := some 78) (v := ?_) (a' := ?_) #[Y,Y,Y,Y,Y,Y,Y,Y,Y,Y,Y,Y,Y,Y,Y,Y,Y,Y,Y,Y,Y,Y,Y,Y,Y,Y,Y,Y,Y,Y,Z,Z,Z,Z,Z,Z,Z,Z,Z,Z,Z,Z,Z,Z,Z,Z,Z,Z,Z,Z,Z,Z,Z,Z,Z,Z] rfl rfl (by kernel_rfl) (fun _ _ _ h => h) (Or.inl ⟨by rfl, ?_⟩) hHeld ?_ ?_
      rotate_left
      ·rintro w' ⟨s0, s1, s2, s3, s4, s5, s6, s7, s8⟩
       go_simp
       with_reducible rfl
      rotate_left
      ·simp only [Act.put, sn1, sn2, sn3, i64_w]
       rfl
      refine pure_ (i := 30) (N := some 79) (v := ?_) (a' := ?_) #[Y,Y,Y,Y,Y,Y,Y,Y,Y,Y,Y,Y,Y,Y,Y,Y,Y,Y,Y,Y,Y,Y,Y,Y,Y,Y,Y,Y,Y,Y,Y,Z,Z,Z,Z,Z,Z,Z,Z,Z,Z,Z,Z,Z,Z,Z,Z,Z,Z,Z,Z,Z,Z,Z,Z,Z] rfl rfl (by kernel_rfl) (fun _ _ _ h => h) (Or.inl ⟨by rfl, ?_⟩) ?_ ?_;rotate_left;(intro w';go_simp;with_reducible rfl);rotate_left;(simp only [Act.put, sn1, sn2, sn3, i64_w];rfl)
      refine pure_ (i := 31) (N := some 80) (v := ?_) (a' := ?_) #[Y,Y,Y,Y,Y,Y,Y,Y,Y,Y,Y,Y,Y,Y,Y,Y,Y,Y,Y,Y,Y,Y,Y,Y,Y,Y,Y,Y,Y,Y,Y,Y,Z,Z,Z,Z,Z,Z,Z,Z,Z,Z,Z,Z,Z,Z,Z,Z,Z,Z,Z,Z,Z,Z,Z,Z] rfl rfl (by kernel_rfl) (fun _ _ _ h => h) (Or.inl ⟨by rfl, ?_⟩) ?_ ?_;rotate_left;(intro w';go_simp;with_reducible rfl);rotate_left;(simp only [Act.put, sn1, sn2, sn3, i64_w];rfl)
      refine pure_ (i := 32) (N := some 81) (v := ?_) (a' := ?_) #[Y,Y,Y,Y,Y,Y,Y,Y,Y,Y,Y,Y,Y,Y,Y,Y,Y,Y,Y,Y,Y,Y,Y,Y,Y,Y,Y,Y,Y,Y,Y,Y,Y,Z,Z,Z,Z,Z,Z,Z,Z,Z,Z,Z,Z,Z,Z,Z,Z,Z,Z,Z,Z,Z,Z,Z] rfl rfl (by kernel_rfl) (fun _ _ _ h => h) (Or.inl ⟨by rfl, ?_⟩) ?_ ?_;rotate_left;(intro w';go_simp;with_reducible rfl);rotate_left;(simp only [Act.put, sn1, sn2, sn3, i64_w];rfl)
      refine pure_ (i := 33) (N := some 82) (v := ?_) (a' := ?_) #[Y,Y,Y,Y,Y,Y,Y,Y,Y,Y,Y,Y,Y,Y,Y,Y,Y,Y,Y,Y,Y,Y,Y,Y,Y,Y,Y,Y,Y,Y,Y,Y,Y,Y,Z,Z,Z,Z,Z,Z,Z,Z,Z,Z,Z,Z,Z,Z,Z,Z,Z,Z,Z,Z,Z,Z] rfl rfl (by kernel_rfl) (fun _ _ _ h => h) (Or.inl ⟨by rfl, ?_⟩) ?_ ?_;rotate_left;(intro w';go_simp;with_reducible rfl);rotate_left;(simp only [Act.put, sn1, sn2, sn3, i64_w];rfl)
      refine pure_ (i := 34) (N := some 83) (v := ?_) (a' := ?_) #[Y,Y,Y,Y,Y,Y,Y,Y,Y,Y,Y,Y,Y,Y,Y,Y,Y,Y,Y,Y,Y,Y,Y,Y,Y,Y,Y,Y,Y,Y,Y,Y,Y,Y,Y,Z,Z,Z,Z,Z,Z,Z,Z,Z,Z,Z,Z,Z,Z,Z,Z,Z,Z,Z,Z,Z] rfl rfl (by kernel_rfl) (fun _ _ _ h => h) (Or.inl ⟨by rfl, ?_⟩) ?_ ?_;rotate_left;(intro w';go_simp;with_reducible rfl);rotate_left;(simp only [Act.put, sn1, sn2, sn3, i64_w];rfl)
      refine pure_ (i := 35) (N := some 84) (v := ?_) (a' := ?_) #[Y,Y,Y,Y,Y,Y,Y,Y,Y,Y,Y,Y,Y,Y,Y,Y,Y,Y,Y,Y,Y,Y,Y,Y,Y,Y,Y,Y,Y,Y,Y,Y,Y,Y,Y,Y,Z,Z,Z,Z,Z,Z,Z,Z,Z,Z,Z,Z,Z,Z,Z,Z,Z,Z,Z,Z] rfl rfl (by kernel_rfl) (fun _ _ _ h => h) (Or.inl ⟨by rfl, ?_⟩) ?_ ?_;rotate_left;(intro w';go_simp;with_reducible rfl);rotate_left;(simp only [Act.put, sn1, sn2, sn3, i64_w];rfl)
      refine pure_ (i := 38) (N := some 87) (v := ?_) (a' := ?_) #[Y,Y,Y,Y,Y,Y,Y,Y,Y,Y,Y,Y,Y,Y,Y,Y,Y,Y,Y,Y,Y,Y,Y,Y,Y,Y,Y,Y,Y,Y,Y,Y,Y,Y,Y,Y,Z,Z,Y,Z,Z,Z,Z,Z,Z,Z,Z,Z,Z,Z,Z,Z,Z,Z,Z,Z] rfl rfl (by kernel_rfl) (fun _ _ _ h => h) (Or.inl ⟨by rfl, ?_⟩) ?_ ?_;rotate_left;(intro w';go_simp;with_reducible rfl);rotate_left;(simp only [Act.put, sn1, sn2, sn3, i64_w];rfl)
      refine pure_ (i := 39) (N := some 88) (v := ?_) (a' := ?_) #[Y,Y,Y,Y,Y,Y,Y,Y,Y,Y,Y,Y,Y,Y,Y,Y,Y,Y,Y,Y,Y,Y,Y,Y,Y,Y,Y,Y,Y,Y,Y,Y,Y,Y,Y,Y,Z,Z,Y,Y,Z,Z,Z,Z,Z,Z,Z,Z,Z,Z,Z,Z,Z,Z,Z,Z] rfl rfl (by kernel_rfl) (fun _ _ _ h => h) (Or.inl ⟨by rfl, ?_⟩) ?_ ?_;rotate_left;(intro w';go_simp;with_reducible rfl);rotate_left;(simp only [Act.put, sn1, sn2, sn3, i64_w];rfl)
      refine pure_ (i := 40) (N := some 89) (v := ?_) (a' := ?_) #[Y,Y,Y,Y,Y,Y,Y,Y,Y,Y,Y,Y,Y,Y,Y,Y,Y,Y,Y,Y,Y,Y,Y,Y,Y,Y,Y,Y,Y,Y,Y,Y,Y,Y,Y,Y,Z,Z,Y,Y,Y,Z,Z,Z,Z,Z,Z,Z,Z,Z,Z,Z,Z,Z,Z,Z] rfl rfl (by kernel_rfl) (fun _ _ _ h => h) (Or.inl ⟨by rfl, ?_⟩) ?_ ?_;rotate_left;(intro w';go_simp;with_reducible rfl);rotate_left;(simp only [Act.put, sn1, sn2, sn3, i64_w];rfl)
      refine take_ (i := 36) (N := some 85) (v := ?_) (a' := ?_) #[Y,Y,Y,Y,Y,Y,Y,Y,Y,Y,Y,Y,Y,Y,Y,Y,Y,Y,Y,Y,Y,Y,Y,Y,Y,Y,Y,Y,Y,Y,Y,Y,Y,Y,Y,Y,Y,Z,Y,Y,Y,Z,Z,Z,Z,Z,Z,Z,Z,Z,Z,Z,Z,Z,Z,Z] rfl rfl (by kernel_rfl) (fun _ _ _ h => h) (Or.inl ⟨by rfl, ?_⟩) hHeld ?_ ?_
      rotate_left
      ·rintro w' ⟨s0, s1, s2, s3, s4, s5, s6, s7, s8⟩
       go_simp
       with_reducible rfl
      rotate_left
      ·simp only [Act.put, sn1, sn2, sn3, i64_w]
       rfl
      refine one_ (i := 37) (N := some 86) #[Y,Y,Y,Y,Y,Y,Y,Y,Y,Y,Y,Y,Y,Y,Y,Y,Y,Y,Y,Y,Y,Y,Y,Y,Y,Y,Y,Y,Y,Y,Y,Y,Y,Y,Y,Y,Y,Y,Y,Y,Y,Z,Z,Z,Z,Z,Z,Z,Z,Z,Z,Z,Z,Z,Z,Z] rfl rfl (by kernel_rfl) (by decide) (fun K hK => ?_)
      refine goes_ Tryz.func37 (by kernel_rfl) rfl #[.agg #[.int .i64 x.f0, .int .i64 x.f1, .int .u8 x.f2, .int .i64 x.f3]] (by rfl) rfl rfl (by simp only [List.map_toArray, List.map_cons, List.map_nil]; rfl) ?_
      with_reducible refine (rAsk_eq x _ HX.out wd2).mono ?_
      rintro e w13 ⟨rfl, hb13⟩
      refine ⟨_, rfl, ?_⟩
      have HL4 := am (HL3.out.below hb13)
      have HDR2 := am (HDR.out.trans (hb13.mono HDR.out.size))
      refine hK.out _ _ ⟨pw_cell_below HDR2.out u0, pw_cell_below HDR2.out m0, pw_cell_below HDR2.out m1, pw_cell_below HDR2.out m2, pw_cell_below HDR2.out m3, pw_cell_below HDR2.out n0, pw_cell_below HDR2.out n1, pw_cell_below HDR2.out n2, pw_cell_below HDR2.out n3⟩ (fun hHeld => ?_)
      clear hK K
      refine norm_ (a' := ?_) ?_ ?_
      rotate_left
      ·show Act.put _ (some 86) _ = _
       simp only [Act.put, sn1, sn2, sn3, i64_w]
       rfl
      refine pure_ (i := 41) (N := some 90) (v := ?_) (a' := ?_) #[Y,Y,Y,Y,Y,Y,Y,Y,Y,Y,Y,Y,Y,Y,Y,Y,Y,Y,Y,Y,Y,Y,Y,Y,Y,Y,Y,Y,Y,Y,Y,Y,Y,Y,Y,Y,Y,Y,Y,Y,Y,Y,Z,Z,Z,Z,Z,Z,Z,Z,Z,Z,Z,Z,Z,Z] rfl rfl (by kernel_rfl) (fun _ _ _ h => h) (Or.inl ⟨by rfl, ?_⟩) ?_ ?_;rotate_left;(intro w';go_simp;with_reducible rfl);rotate_left;(simp only [Act.put, sn1, sn2, sn3, i64_w];rfl)
      refine pure_ (i := 42) (N := some 91) (v := ?_) (a' := ?_) #[Y,Y,Y,Y,Y,Y,Y,Y,Y,Y,Y,Y,Y,Y,Y,Y,Y,Y,Y,Y,Y,Y,Y,Y,Y,Y,Y,Y,Y,Y,Y,Y,Y,Y,Y,Y,Y,Y,Y,Y,Y,Y,Y,Z,Z,Z,Z,Z,Z,Z,Z,Z,Z,Z,Z,Z] rfl rfl (by kernel_rfl) (fun _ _ _ h => h) (Or.inl ⟨by rfl, ?_⟩) ?_ ?_;rotate_left;(intro w';go_simp;with_reducible rfl);rotate_left;(simp only [Act.put, sn1, sn2, sn3, i64_w];rfl)
      refine pure_ (i := 43) (N := some 92) (v := ?_) (a' := ?_) #[Y,Y,Y,Y,Y,Y,Y,Y,Y,Y,Y,Y,Y,Y,Y,Y,Y,Y,Y,Y,Y,Y,Y,Y,Y,Y,Y,Y,Y,Y,Y,Y,Y,Y,Y,Y,Y,Y,Y,Y,Y,Y,Y,Y,Z,Z,Z,Z,Z,Z,Z,Z,Z,Z,Z,Z] rfl rfl (by kernel_rfl) (fun _ _ _ h => h) (Or.inl ⟨by rfl, ?_⟩) ?_ ?_;rotate_left;(intro w';go_simp;with_reducible rfl);rotate_left;(simp only [Act.put, sn1, sn2, sn3, i64_w];rfl)
      refine pure_ (i := 44) (N := some 93) (v := ?_) (a' := ?_) #[Y,Y,Y,Y,Y,Y,Y,Y,Y,Y,Y,Y,Y,Y,Y,Y,Y,Y,Y,Y,Y,Y,Y,Y,Y,Y,Y,Y,Y,Y,Y,Y,Y,Y,Y,Y,Y,Y,Y,Y,Y,Y,Y,Y,Y,Z,Z,Z,Z,Z,Z,Z,Z,Z,Z,Z] rfl rfl (by kernel_rfl) (fun _ _ _ h => h) (Or.inl ⟨by rfl, ?_⟩) ?_ ?_;rotate_left;(intro w';go_simp;with_reducible rfl);rotate_left;(simp only [Act.put, sn1, sn2, sn3, i64_w];rfl)
      refine pure_ (i := 45) (N := some 94) (v := ?_) (a' := ?_) #[Y,Y,Y,Y,Y,Y,Y,Y,Y,Y,Y,Y,Y,Y,Y,Y,Y,Y,Y,Y,Y,Y,Y,Y,Y,Y,Y,Y,Y,Y,Y,Y,Y,Y,Y,Y,Y,Y,Y,Y,Y,Y,Y,Y,Y,Y,Z,Z,Z,Z,Z,Z,Z,Z,Z,Z] rfl rfl (by kernel_rfl) (fun _ _ _ h => h) (Or.inl ⟨by rfl, ?_⟩) ?_ ?_;rotate_left;(intro w';go_simp;with_reducible rfl);rotate_left;(simp only [Act.put, sn1, sn2, sn3, i64_w];rfl)
      refine pure_ (i := 46) (N := some 95) (v := ?_) (a' := ?_) #[Y,Y,Y,Y,Y,Y,Y,Y,Y,Y,Y,Y,Y,Y,Y,Y,Y,Y,Y,Y,Y,Y,Y,Y,Y,Y,Y,Y,Y,Y,Y,Y,Y,Y,Y,Y,Y,Y,Y,Y,Y,Y,Y,Y,Y,Y,Y,Z,Z,Z,Z,Z,Z,Z,Z,Z] rfl rfl (by kernel_rfl) (fun _ _ _ h => h) (Or.inl ⟨by rfl, ?_⟩) ?_ ?_;rotate_left;(intro w';go_simp;with_reducible rfl);rotate_left;(simp only [Act.put, sn1, sn2, sn3, i64_w];rfl)
      refine pure_ (i := 49) (N := some 98) (v := ?_) (a' := ?_) #[Y,Y,Y,Y,Y,Y,Y,Y,Y,Y,Y,Y,Y,Y,Y,Y,Y,Y,Y,Y,Y,Y,Y,Y,Y,Y,Y,Y,Y,Y,Y,Y,Y,Y,Y,Y,Y,Y,Y,Y,Y,Y,Y,Y,Y,Y,Y,Z,Z,Y,Z,Z,Z,Z,Z,Z] rfl rfl (by kernel_rfl) (fun _ _ _ h => h) (Or.inl ⟨by rfl, ?_⟩) ?_ ?_;rotate_left;(intro w';go_simp;with_reducible rfl);rotate_left;(simp only [Act.put, sn1, sn2, sn3, i64_w];rfl)
      refine pure_ (i := 50) (N := some 99) (v := ?_) (a' := ?_) #[Y,Y,Y,Y,Y,Y,Y,Y,Y,Y,Y,Y,Y,Y,Y,Y,Y,Y,Y,Y,Y,Y,Y,Y,Y,Y,Y,Y,Y,Y,Y,Y,Y,Y,Y,Y,Y,Y,Y,Y,Y,Y,Y,Y,Y,Y,Y,Z,Z,Y,Y,Z,Z,Z,Z,Z] rfl rfl (by kernel_rfl) (fun _ _ _ h => h) (Or.inl ⟨by rfl, ?_⟩) ?_ ?_;rotate_left;(intro w';go_simp;with_reducible rfl);rotate_left;(simp only [Act.put, sn1, sn2, sn3, i64_w];rfl)
      refine pure_ (i := 51) (N := some 100) (v := ?_) (a' := ?_) #[Y,Y,Y,Y,Y,Y,Y,Y,Y,Y,Y,Y,Y,Y,Y,Y,Y,Y,Y,Y,Y,Y,Y,Y,Y,Y,Y,Y,Y,Y,Y,Y,Y,Y,Y,Y,Y,Y,Y,Y,Y,Y,Y,Y,Y,Y,Y,Z,Z,Y,Y,Y,Z,Z,Z,Z] rfl rfl (by kernel_rfl) (fun _ _ _ h => h) (Or.inl ⟨by rfl, ?_⟩) ?_ ?_;rotate_left;(intro w';go_simp;with_reducible rfl);rotate_left;(simp only [Act.put, sn1, sn2, sn3, i64_w];rfl)
      refine take_ (i := 47) (N := some 96) (v := ?_) (a' := ?_) #[Y,Y,Y,Y,Y,Y,Y,Y,Y,Y,Y,Y,Y,Y,Y,Y,Y,Y,Y,Y,Y,Y,Y,Y,Y,Y,Y,Y,Y,Y,Y,Y,Y,Y,Y,Y,Y,Y,Y,Y,Y,Y,Y,Y,Y,Y,Y,Y,Z,Y,Y,Y,Z,Z,Z,Z] rfl rfl (by kernel_rfl) (fun _ _ _ h => h) (Or.inl ⟨by rfl, ?_⟩) hHeld ?_ ?_
      rotate_left
      ·rintro w' ⟨s0, s1, s2, s3, s4, s5, s6, s7, s8⟩
       go_simp
       with_reducible rfl
      rotate_left
      ·simp only [Act.put, sn1, sn2, sn3, i64_w]
       rfl
      refine take_ (i := 52) (N := some 101) (v := ?_) (a' := ?_) #[Y,Y,Y,Y,Y,Y,Y,Y,Y,Y,Y,Y,Y,Y,Y,Y,Y,Y,Y,Y,Y,Y,Y,Y,Y,Y,Y,Y,Y,Y,Y,Y,Y,Y,Y,Y,Y,Y,Y,Y,Y,Y,Y,Y,Y,Y,Y,Y,Z,Y,Y,Y,Y,Z,Z,Z] rfl rfl (by kernel_rfl) (fun _ _ _ h => h) (Or.inl ⟨by rfl, ?_⟩) hHeld ?_ ?_
      rotate_left
      ·rintro w' ⟨s0, s1, s2, s3, s4, s5, s6, s7, s8⟩
       go_simp
       with_reducible rfl
      rotate_left
      ·simp only [Act.put, sn1, sn2, sn3, i64_w]
       rfl
      refine one_ (i := 48) (N := some 97) #[Y,Y,Y,Y,Y,Y,Y,Y,Y,Y,Y,Y,Y,Y,Y,Y,Y,Y,Y,Y,Y,Y,Y,Y,Y,Y,Y,Y,Y,Y,Y,Y,Y,Y,Y,Y,Y,Y,Y,Y,Y,Y,Y,Y,Y,Y,Y,Y,Y,Y,Y,Y,Y,Z,Z,Z] rfl rfl (by kernel_rfl) (by decide) (fun K hK => ?_)
      refine goes_ Tryz.func37 (by kernel_rfl) rfl #[.agg #[.int .i64 x.f0, .int .i64 x.f1, .int .u8 x.f2, .int .i64 x.f3]] (by rfl) rfl rfl (by simp only [List.map_toArray, List.map_cons, List.map_nil]; rfl) ?_
      with_reducible refine (rAsk_eq x _ HX.out w13).mono ?_
      rintro e w14 ⟨rfl, hb14⟩
      refine ⟨_, rfl, ?_⟩
      have HL5 := am (HL4.out.below hb14)
      have HDR3 := am (HDR2.out.trans (hb14.mono HDR2.out.size))
      refine hK.out _ _ ⟨pw_cell_below HDR3.out u0, pw_cell_below HDR3.out m0, pw_cell_below HDR3.out m1, pw_cell_below HDR3.out m2, pw_cell_below HDR3.out m3, pw_cell_below HDR3.out n0, pw_cell_below HDR3.out n1, pw_cell_below HDR3.out n2, pw_cell_below HDR3.out n3⟩ (fun hHeld => ?_)
      clear hK K
      refine norm_ (a' := ?_) ?_ ?_
      rotate_left
      ·show Act.put _ (some 97) _ = _
       simp only [Act.put, sn1, sn2, sn3, i64_w]
       rfl
      refine one_ (i := 53) (N := some 102) #[Y,Y,Y,Y,Y,Y,Y,Y,Y,Y,Y,Y,Y,Y,Y,Y,Y,Y,Y,Y,Y,Y,Y,Y,Y,Y,Y,Y,Y,Y,Y,Y,Y,Y,Y,Y,Y,Y,Y,Y,Y,Y,Y,Y,Y,Y,Y,Y,Y,Y,Y,Y,Y,Y,Z,Z] rfl rfl (by kernel_rfl) (by decide) (fun K hK => ?_)
      refine goes_ Tryz.func37 (by kernel_rfl) rfl #[.agg #[.int .i64 x.f0, .int .i64 x.f1, .int .u8 y.f2, .int .i64 y.f3]] (by rfl) rfl rfl (by simp only [List.map_toArray, List.map_cons, List.map_nil]; rfl) ?_
      with_reducible refine (rAsk_eq2 x.f0 x.f1 y _ HY.out w14).mono ?_
      rintro e w15 ⟨rfl, hb15⟩
      refine ⟨_, rfl, ?_⟩
      have HL6 := am (HL5.out.below hb15)
      have HDR4 := am (HDR3.out.trans (hb15.mono HDR3.out.size))
      refine hK.out _ _ ⟨pw_cell_below HDR4.out u0, pw_cell_below HDR4.out m0, pw_cell_below HDR4.out m1, pw_cell_below HDR4.out m2, pw_cell_below HDR4.out m3, pw_cell_below HDR4.out n0, pw_cell_below HDR4.out n1, pw_cell_below HDR4.out n2, pw_cell_below HDR4.out n3⟩ (fun hHeld => ?_)
      clear hK K
      refine norm_ (a' := ?_) ?_ ?_
      rotate_left
      ·show Act.put _ (some 102) _ = _
       simp only [Act.put, sn1, sn2, sn3, i64_w]
       rfl
      refine pure_ (i := 54) (N := some 103) (v := ?_) (a' := ?_) #[Y,Y,Y,Y,Y,Y,Y,Y,Y,Y,Y,Y,Y,Y,Y,Y,Y,Y,Y,Y,Y,Y,Y,Y,Y,Y,Y,Y,Y,Y,Y,Y,Y,Y,Y,Y,Y,Y,Y,Y,Y,Y,Y,Y,Y,Y,Y,Y,Y,Y,Y,Y,Y,Y,Y,Z] rfl rfl (by kernel_rfl) (fun _ _ _ h => h) (Or.inl ⟨by rfl, ?_⟩) ?_ ?_;rotate_left;(intro w';go_simp;with_reducible rfl);rotate_left;(simp only [Act.put, sn1, sn2, sn3, i64_w];rfl)
      refine pure_ (i := 55) (N := some 104) (v := ?_) (a' := ?_) #[Y,Y,Y,Y,Y,Y,Y,Y,Y,Y,Y,Y,Y,Y,Y,Y,Y,Y,Y,Y,Y,Y,Y,Y,Y,Y,Y,Y,Y,Y,Y,Y,Y,Y,Y,Y,Y,Y,Y,Y,Y,Y,Y,Y,Y,Y,Y,Y,Y,Y,Y,Y,Y,Y,Y,Y] rfl rfl (by kernel_rfl) (fun _ _ _ h => h) (Or.inl ⟨by rfl, ?_⟩) ?_ ?_;rotate_left;(intro w';go_simp;with_reducible rfl);rotate_left;(simp only [Act.put, sn1, sn2, sn3, i64_w];rfl)
      refine done_ (by kernel_rfl) ?_
      go_wp2_with fail
      go_meet
      case rel => exact ⟨rfl, HL6⟩
     case rest =>
      obtain ⟨rfl, HC⟩ := hcut
      clear HW hk3 hk4 hk5
      go_wp2_with fail
      go_loopg [10] (kk + 1) (fun gg s10 wr2 => ∃ (nn : Nat), k < nn ∧ nn ≤ kk ∧ kk - nn ≤ gg ∧ s10 = .int .i64 nn ∧ Aside0 (Lw w wr2 [(A, ids)] [(A1, l)] [(some ad, P)] [(w.heap.size, #[.slice A ids.length c, .bool rc, .int .i64 rn, .bool jb], 26)]))
      case atStart => exact ⟨k + 1, by omega, by omega, by omega, by go_num, HC⟩
      case round =>
       clear HC
       obtain ⟨nn, hn1, hn2, hg2, rfl, HV⟩ := hrel
       by_cases hnn : nn < kk
       ·have dn : decide ((nn : Int) < (kk : Int)) = true := decide_eq_true (by omega)
        have dn2 : decide (nn < kk) = true := decide_eq_true hnn
        have hbt := HBT.out nn hn1 hnn
        obtain ⟨ad3, e3, r0⟩ := Kd.at_int (HV.out.x _ mc) (nn : Int) (by omega) (show (nn : Int) < (P.length : Int) by omega)
        cases e3
        rw [Int.toNat_natCast] at r0
        generalize rd P (nn : Int) = z at *
        have z1 : decide (z ≤ (k : Int)) = false := decide_eq_false (by omega)
        have z2 : decide ((kk : Int) ≤ z) = false := decide_eq_false (by omega)
        clear hbt
        go_wp2_with fail
        go_roundg (kk - (nn + 1))
        case measure => omega
        case rel => exact ⟨nn + 1, by omega, by omega, by omega, by go_num, HV⟩
       have dn : decide ((nn : Int) < (kk : Int)) = false := decide_eq_false (by omega)
       have dn2 : decide (nn < kk) = false := decide_eq_false hnn
       go_wp2_with fail
       go_roundg (l.length - (kk + 1))
       case measure => omega
       case rel => exact ⟨kk + 1, cn, by omega, by omega, by omega, by go_num, rfl, ⟨by rw [HTC.out, ← HCN.out]; rfl⟩, HV⟩
    have HX := am (hk6.trans (decide_eq_true hlk))
    have HY := am (hk7.trans (decide_eq_false (by omega)))
    have HBT := am (show ∀ n : Nat, kk < n → n < k → (kk : Int) < rd P (n : Int) ∧ rd P (n : Int) < (k : Int) from by have h := HBT0.out; rw [Nat.min_eq_left (by omega), Nat.max_eq_right (by omega)] at h; exact h)
    have clk : decide ((kk : Int) < (k : Int)) = true := decide_eq_true (by omega)
    have clk2 : decide (kk < k) = true := decide_eq_true hlk
    have hmi : min (kk : Int) (k : Int) = (kk : Int) := by omega
    have hma : max (kk : Int) (k : Int) = (k : Int) := by omega
    clear HBT0 hk6 hk7
    go_cut [104] (fun x104 wx => x104 = .bool false ∧ Aside0 (Lw w wx [(A, ids)] [(A1, l)] [(some ad, P)] [(w.heap.size, #[.slice A ids.length c, .bool rc, .int .i64 rn, .bool jb], 26)]))
    case first =>
     clear HBT
     obtain ⟨adu, e0, u0⟩ := Kd.at_int (HW.out.x _ mc) (k : Int) (by omega) (show (k : Int) < (P.length : Int) by omega)
     cases e0
     obtain ⟨ad1, e0, m0, m1, m2, m3⟩ := at_T52 (HW.out.y _ mc) (kk : Int) (by omega) (show (kk : Int) < (l.length : Int) by omega)
     cases e0
     obtain ⟨ad3, e0, n0, n1, n2, n3⟩ := at_T52 (HW.out.y _ mc) (k : Int) (by omega) (show (k : Int) < (l.length : Int) by omega)
     cases e0
     rw [Int.toNat_natCast] at u0 m0 m1 m2 m3 n0 n1 n2 n3
     rw [hk3] at u0
     rw [← hk4] at n0
     rw [← hk5] at n1
     clear hk3 hk4 hk5
     generalize rd_T52 l (kk : Int) = x at *
     generalize rd_T52 l (k : Int) = y at *
     have HL3 := am (HW.out.below ((Below.refl _ wr).drew))
     have HDR := am ((Below.refl wr.heap.size wr).drew)
     refine start_ (n := 56) (S := fun w' => w'.cell? (ad.add k) = some (.int .i64 (kk : Int)) ∧ w'.cell? (ad1.add (kk * 4)) = some (.int .i64 x.f0) ∧ w'.cell? ⟨(ad1.add (kk * 4)).block, (ad1.add (kk * 4)).off + 1, none⟩ = some (.int .i64 x.f1) ∧ w'.cell? ⟨(ad1.add (kk * 4)).block, (ad1.add (kk * 4)).off + 2, none⟩ = some (.int .u8 x.f2) ∧ w'.cell? ⟨(ad1.add (kk * 4)).block, (ad1.add (kk * 4)).off + 3, none⟩ = some (.int .i64 x.f3) ∧ w'.cell? (ad1.add (k * 4)) = some (.int .i64 x.f0) ∧ w'.cell? ⟨(ad1.add (k * 4)).block, (ad1.add (k * 4)).off + 1, none⟩ = some (.int .i64 x.f1) ∧ w'.cell? ⟨(ad1.add (k * 4)).block, (ad1.add (k * 4)).off + 2, none⟩ = some (.int .u8 y.f2) ∧ w'.cell? ⟨(ad1.add (k * 4)).block, (ad1.add (k * 4)).off + 3, none⟩ = some (.int .i64 y.f3)) (ds := []) #[Z,Z,Z,Z,Z,Z,Z,Z,Z,Z,Z,Z,Z,Z,Z,Z,Z,Z,Z,Z,Z,Z,Z,Z,Z,Z,Z,Z,Z,Z,Z,Z,Z,Z,Z,Z,Z,Z,Z,Z,Z,Z,Z,Z,Z,Z,Z,Z,Z,Z,Z,Z,Z,Z,Z,Z] (by kernel_rfl) rfl rfl ⟨pw_cell_below HDR.out u0, pw_cell_below HDR.out m0, pw_cell_below HDR.out m1, pw_cell_below HDR.out m2, pw_cell_below HDR.out m3, pw_cell_below HDR.out n0, pw_cell_below HDR.out n1, pw_cell_below HDR.out n2, pw_cell_below HDR.out n3⟩ (fun hHeld => ?_)
     generalize wr.drew = wd2 at HL3 HDR hHeld ⊢
     refine pure_ (i := 0) (N := some 49) (v := ?_) (a' := ?_) #[Y,Z,Z,Z,Z,Z,Z,Z,Z,Z,Z,Z,Z,Z,Z,Z,Z,Z,Z,Z,Z,Z,Z,Z,Z,Z,Z,Z,Z,Z,Z,Z,Z,Z,Z,Z,Z,Z,Z,Z,Z,Z,Z,Z,Z,Z,Z,Z,Z,Z,Z,Z,Z,Z,Z,Z] rfl rfl (by kernel_rfl) (fun _ _ _ h => h) (Or.inl ⟨by rfl, ?_⟩) ?_ ?_;rotate_left;(intro w';go_simp;with_reducible rfl);rotate_left;(simp only [Act.put, sn1, sn2, sn3, i64_w];rfl)
     refine pure_ (i := 1) (N := some 50) (v := ?_) (a' := ?_) #[Y,Y,Z,Z,Z,Z,Z,Z,Z,Z,Z,Z,Z,Z,Z,Z,Z,Z,Z,Z,Z,Z,Z,Z,Z,Z,Z,Z,Z,Z,Z,Z,Z,Z,Z,Z,Z,Z,Z,Z,Z,Z,Z,Z,Z,Z,Z,Z,Z,Z,Z,Z,Z,Z,Z,Z] rfl rfl (by kernel_rfl) (fun _ _ _ h => h) (Or.inl ⟨by rfl, ?_⟩) ?_ ?_;rotate_left;(intro w';go_simp;with_reducible rfl);rotate_left;(simp only [Act.put, sn1, sn2, sn3, i64_w];rfl)
     refine pure_ (i := 2) (N := some 51) (v := ?_) (a' := ?_) #[Y,Y,Y,Z,Z,Z,Z,Z,Z,Z,Z,Z,Z,Z,Z,Z,Z,Z,Z,Z,Z,Z,Z,Z,Z,Z,Z,Z,Z,Z,Z,Z,Z,Z,Z,Z,Z,Z,Z,Z,Z,Z,Z,Z,Z,Z,Z,Z,Z,Z,Z,Z,Z,Z,Z,Z] rfl rfl (by kernel_rfl) (fun _ _ _ h => h) (Or.inl ⟨by rfl, ?_⟩) ?_ ?_;rotate_left;(intro w';go_simp;with_reducible rfl);rotate_left;(simp only [Act.put, sn1, sn2, sn3, i64_w];rfl)
     refine pure_ (i := 4) (N := some 53) (v := ?_) (a' := ?_) #[Y,Y,Y,Z,Y,Z,Z,Z,Z,Z,Z,Z,Z,Z,Z,Z,Z,Z,Z,Z,Z,Z,Z,Z,Z,Z,Z,Z,Z,Z,Z,Z,Z,Z,Z,Z,Z,Z,Z,Z,Z,Z,Z,Z,Z,Z,Z,Z,Z,Z,Z,Z,Z,Z,Z,Z] rfl rfl (by kernel_rfl) (fun _ _ _ h => h) (Or.inl ⟨by rfl, ?_⟩) ?_ ?_;rotate_left;(intro w';go_simp;with_reducible rfl);rotate_left;(simp only [Act.put, sn1, sn2, sn3, i64_w];rfl)
     refine take_ (i := 3) (N := some 52) (v := ?_) (a' := ?_) #[Y,Y,Y,Y,Y,Z,Z,Z,Z,Z,Z,Z,Z,Z,Z,Z,Z,Z,Z,Z,Z,Z,Z,Z,Z,Z,Z,Z,Z,Z,Z,Z,Z,Z,Z,Z,Z,Z,Z,Z,Z,Z,Z,Z,Z,Z,Z,Z,Z,Z,Z,Z,Z,Z,Z,Z] rfl rfl (by kernel_rfl) (fun _ _ _ h => h) (Or.inl ⟨by rfl, ?_⟩) hHeld ?_ ?_
     rotate_left
     ·rintro w' ⟨s0, s1, s2, s3, s4, s5, s6, s7, s8⟩
      go_simp
      with_reducible rfl
     rotate_left
     ·simp only [Act.put, sn1, sn2, sn3, i64_w]
      rfl
     refine pure_ (i := 5) (N := some 54) (v := ?_) (a' := ?_) #[Y,Y,Y,Y,Y,Y,Z,Z,Z,Z,Z,Z,Z,Z,Z,Z,Z,Z,Z,Z,Z,Z,Z,Z,Z,Z,Z,Z,Z,Z,Z,Z,Z,Z,Z,Z,Z,Z,Z,Z,Z,Z,Z,Z,Z,Z,Z,Z,Z,Z,Z,Z,Z,Z,Z,Z] rfl rfl (by kernel_rfl) (fun _ _ _ h => h) (Or.inl ⟨by rfl, ?_⟩) ?_ ?_;rotate_left;(intro w';go_simp;with_reducible rfl);rotate_left;(simp only [Act.put, sn1, sn2, sn3, i64_w];rfl)
     refine pure_ (i := 6) (N := some 55) (v := ?_) (a' := ?_) #[Y,Y,Y,Y,Y,Y,Y,Z,Z,Z,Z,Z,Z,Z,Z,Z,Z,Z,Z,Z,Z,Z,Z,Z,Z,Z,Z,Z,Z,Z,Z,Z,Z,Z,Z,Z,Z,Z,Z,Z,Z,Z,Z,Z,Z,Z,Z,Z,Z,Z,Z,Z,Z,Z,Z,Z] rfl rfl (by kernel_rfl) (fun _ _ _ h => h) (Or.inl ⟨by rfl, ?_⟩) ?_ ?_;rotate_left;(intro w';go_simp;with_reducible rfl);rotate_left;(simp only [Act.put, sn1, sn2, sn3, i64_w];rfl)
     refine pure_ (i := 7) (N := some 56) (v := ?_) (a' := ?_) #[Y,Y,Y,Y,Y,Y,Y,Y,Z,Z,Z,Z,Z,Z,Z,Z,Z,Z,Z,Z,Z,Z,Z,Z,Z,Z,Z,Z,Z,Z,Z,Z,Z,Z,Z,Z,Z,Z,Z,Z,Z,Z,Z,Z,Z,Z,Z,Z,Z,Z,Z,Z,Z,Z,Z,Z] rfl rfl (by kernel_rfl) (fun _ _ _ h => h) (Or.inl ⟨by rfl, ?_⟩) ?_ ?_;rotate_left;(intro w';go_simp;with_reducible rfl);rotate_left;(simp only [Act.put, sn1, sn2, sn3, i64_w];rfl)
     refine pure_ (i := 8) (N := some 57) (v := ?_) (a' := ?_) #[Y,Y,Y,Y,Y,Y,Y,Y,Y,Z,Z,Z,Z,Z,Z,Z,Z,Z,Z,Z,Z,Z,Z,Z,Z,Z,Z,Z,Z,Z,Z,Z,Z,Z,Z,Z,Z,Z,Z,Z,Z,Z,Z,Z,Z,Z,Z,Z,Z,Z,Z,Z,Z,Z,Z,Z] rfl rfl (by kernel_rfl) (fun _ _ _ h => h) (Or.inl ⟨by rfl, ?_⟩) ?_ ?_;rotate_left;(intro w';go_simp;with_reducible rfl);rotate_left;(simp only [Act.put, sn1, sn2, sn3, i64_w];rfl)
     refine pure_ (i := 9) (N := some 58) (v := ?_) (a' := ?_) #[Y,Y,Y,Y,Y,Y,Y,Y,Y,Y,Z,Z,Z,Z,Z,Z,Z,Z,Z,Z,Z,Z,Z,Z,Z,Z,Z,Z,Z,Z,Z,Z,Z,Z,Z,Z,Z,Z,Z,Z,Z,Z,Z,Z,Z,Z,Z,Z,Z,Z,Z,Z,Z,Z,Z,Z] rfl rfl (by kernel_rfl) (fun _ _ _ h => h) (Or.inl ⟨by rfl, ?_⟩) ?_ ?_;rotate_left;(intro w';go_simp;with_reducible rfl);rotate_left;(simp only [Act.put, sn1, sn2, sn3, i64_w];rfl)
     refine pure_ (i := 10) (N := some 59) (v := ?_) (a' := ?_) #[Y,Y,Y,Y,Y,Y,Y,Y,Y,Y,Y,Z,Z,Z,Z,Z,Z,Z,Z,Z,Z,Z,Z,Z,Z,Z,Z,Z,Z,Z,Z,Z,Z,Z,Z,Z,Z,Z,Z,Z,Z,Z,Z,Z,Z,Z,Z,Z,Z,Z,Z,Z,Z,Z,Z,Z] rfl rfl (by kernel_rfl) (fun _ _ _ h => h) (Or.inl ⟨by rfl, ?_⟩) ?_ ?_;rotate_left;(intro w';go_simp;with_reducible rfl);rotate_left;(simp only [Act.put, sn1, sn2, sn3, i64_w];rfl)
     refine pure_ (i := 12) (N := some 61) (v := ?_) (a' := ?_) #[Y,Y,Y,Y,Y,Y,Y,Y,Y,Y,Y,Z,Y,Z,Z,Z,Z,Z,Z,Z,Z,Z,Z,Z,Z,Z,Z,Z,Z,Z,Z,Z,Z,Z,Z,Z,Z,Z,Z,Z,Z,Z,Z,Z,Z,Z,Z,Z,Z,Z,Z,Z,Z,Z,Z,Z] rfl rfl (by kernel_rfl) (fun _ _ _ h => h) (Or.inl ⟨by rfl, ?_⟩) ?_ ?_;rotate_left;(intro w';go_simp;with_reducible rfl);rotate_left;(simp only [Act.put, sn1, sn2, sn3, i64_w];rfl)
     refine pure_ (i := 13) (N := some 62) (v := ?_) (a' := ?_) #[Y,Y,Y,Y,Y,Y,Y,Y,Y,Y,Y,Z,Y,Y,Z,Z,Z,Z,Z,Z,Z,Z,Z,Z,Z,Z,Z,Z,Z,Z,Z,Z,Z,Z,Z,Z,Z,Z,Z,Z,Z,Z,Z,Z,Z,Z,Z,Z,Z,Z,Z,Z,Z,Z,Z,Z] rfl rfl (by kernel_rfl) (fun _ _ _ h => h) (Or.inl ⟨by rfl, ?_⟩) ?_ ?_;rotate_left;(intro w';go_simp;with_reducible rfl);rotate_left;(simp only [Act.put, sn1, sn2, sn3, i64_w];rfl)
     refine pure_ (i := 14) (N := some 63) (v := ?_) (a' := ?_) #[Y,Y,Y,Y,Y,Y,Y,Y,Y,Y,Y,Z,Y,Y,Y,Z,Z,Z,Z,Z,Z,Z,Z,Z,Z,Z,Z,Z,Z,Z,Z,Z,Z,Z,Z,Z,Z,Z,Z,Z,Z,Z,Z,Z,Z,Z,Z,Z,Z,Z,Z,Z,Z,Z,Z,Z] rfl rfl (by kernel_rfl) (fun _ _ _ h => h) (Or.inl ⟨by rfl, ?_⟩) ?_ ?_;rotate_left;(intro w';go_simp;with_reducible rfl);rotate_left;(simp only [Act.put, sn1, sn2, sn3, i64_w];rfl)
     refine pure_ (i := 15) (N := some 64) (v := ?_) (a' := ?_) #[Y,Y,Y,Y,Y,Y,Y,Y,Y,Y,Y,Z,Y,Y,Y,Y,Z,Z,Z,Z,Z,Z,Z,Z,Z,Z,Z,Z,Z,Z,Z,Z,Z,Z,Z,Z,Z,Z,Z,Z,Z,Z,Z,Z,Z,Z,Z,Z,Z,Z,Z,Z,Z,Z,Z,Z] rfl rfl (by kernel_rfl) (fun _ _ _ h => h) (Or.inl ⟨by rfl, ?_⟩) ?_ ?_;rotate_left;(intro w';go_simp;with_reducible rfl);rotate_left;(simp only [Act.put, sn1, sn2, sn3, i64_w];rfl)
     refine take_ (i := 11) (N := some 60) (v := ?_) (a' := ?_) #[Y,Y,Y,Y,Y,Y,Y,Y,Y,Y,Y,Y,Y,Y,Y,Y,Z,Z,Z,Z,Z,Z,Z,Z,Z,Z,Z,Z,Z,Z,Z,Z,Z,Z,Z,Z,Z,Z,Z,Z,Z,Z,Z,Z,Z,Z,Z,Z,Z,Z,Z,Z,Z,Z,Z,Z] rfl rfl (by kernel_rfl) (fun _ _ _ h => h) (Or.inl ⟨by rfl, ?_⟩) hHeld ?_ ?_
     rotate_left
     ·rintro w' ⟨s0, s1, s2, s3, s4, s5, s6, s7, s8⟩
      go_simp
      with_reducible rfl
     rotate_left
     ·simp only [Act.put, sn1, sn2, sn3, i64_w]
      rfl
     refine take_ (i := 16) (N := some 65) (v := ?_) (a' := ?_) #[Y,Y,Y,Y,Y,Y,Y,Y,Y,Y,Y,Y,Y,Y,Y,Y,Y,Z,Z,Z,Z,Z,Z,Z,Z,Z,Z,Z,Z,Z,Z,Z,Z,Z,Z,Z,Z,Z,Z,Z,Z,Z,Z,Z,Z,Z,Z,Z,Z,Z,Z,Z,Z,Z,Z,Z] rfl rfl (by kernel_rfl) (fun _ _ _ h => h) (Or.inl ⟨by rfl, ?_⟩) hHeld ?_ ?_
     rotate_left
     ·rintro w' ⟨s0, s1, s2, s3, s4, s5, s6, s7, s8⟩
      go_simp
      with_reducible rfl
     rotate_left
     ·simp only [Act.put, sn1, sn2, sn3, i64_w]
      rfl
     refine pure_ (i := 17) (N := some 66) (v := ?_) (a' := ?_) #[Y,Y,Y,Y,Y,Y,Y,Y,Y,Y,Y,Y,Y,Y,Y,Y,Y,Y,Z,Z,Z,Z,Z,Z,Z,Z,Z,Z,Z,Z,Z,Z,Z,Z,Z,Z,Z,Z,Z,Z,Z,Z,Z,Z,Z,Z,Z,Z,Z,Z,Z,Z,Z,Z,Z,Z] rfl rfl (by kernel_rfl) (fun _ _ _ h => h) (Or.inl ⟨by rfl, ?_⟩) ?_ ?_;rotate_left;(intro w';go_simp;with_reducible rfl);rotate_left;(simp only [Act.put, sn1, sn2, sn3, i64_w];rfl)
     refine pure_ (i := 18) (N := some 67) (v := ?_) (a' := ?_) #[Y,Y,Y,Y,Y,Y,Y,Y,Y,Y,Y,Y,Y,Y,Y,Y,Y,Y,Y,Z,Z,Z,Z,Z,Z,Z,Z,Z,Z,Z,Z,Z,Z,Z,Z,Z,Z,Z,Z,Z,Z,Z,Z,Z,Z,Z,Z,Z,Z,Z,Z,Z,Z,Z,Z,Z] rfl rfl (by kernel_rfl) (fun _ _ _ h => h) (Or.inl ⟨by rfl, ?_⟩) ?_ ?_;rotate_left;(intro w';go_simp;with_reducible rfl);rotate_left;(simp only [Act.put, sn1, sn2, sn3, i64_w];rfl)
     refine pure_ (i := 19) (N := some 68) (v := ?_) (a' := ?_) #[Y,Y,Y,Y,Y,Y,Y,Y,Y,Y,Y,Y,Y,Y,Y,Y,Y,Y,Y,Y,Z,Z,Z,Z,Z,Z,Z,Z,Z,Z,Z,Z,Z,Z,Z,Z,Z,Z,Z,Z,Z,Z,Z,Z,Z,Z,Z,Z,Z,Z,Z,Z,Z,Z,Z,Z] rfl rfl (by kernel_rfl) (fun _ _ _ h => h) (Or.inl ⟨by rfl, ?_⟩) ?_ ?_;rotate_left;(intro w';go_simp;with_reducible rfl);rotate_left;(simp only [Act.put, sn1, sn2, sn3, i64_w];rfl)
     refine pure_ (i := 20) (N := some 69) (v := ?_) (a' := ?_) #[Y,Y,Y,Y,Y,Y,Y,Y,Y,Y,Y,Y,Y,Y,Y,Y,Y,Y,Y,Y,Y,Z,Z,Z,Z,Z,Z,Z,Z,Z,Z,Z,Z,Z,Z,Z,Z,Z,Z,Z,Z,Z,Z,Z,Z,Z,Z,Z,Z,Z,Z,Z,Z,Z,Z,Z] rfl rfl (by kernel_rfl) (fun _ _ _ h => h) (Or.inl ⟨by rfl, ?_⟩) ?_ ?_;rotate_left;(intro w';go_simp;with_reducible rfl);rotate_left;(simp only [Act.put, sn1, sn2, sn3, i64_w];rfl)
     refine pure_ (i := 21) (N := some 70) (v := ?_) (a' := ?_) #[Y,Y,Y,Y,Y,Y,Y,Y,Y,Y,Y,Y,Y,Y,Y,Y,Y,Y,Y,Y,Y,Y,Z,Z,Z,Z,Z,Z,Z,Z,Z,Z,Z,Z,Z,Z,Z,Z,Z,Z,Z,Z,Z,Z,Z,Z,Z,Z,Z,Z,Z,Z,Z,Z,Z,Z] rfl rfl (by kernel_rfl) (fun _ _ _ h => h) (Or.inl ⟨by rfl, ?_⟩) ?_ ?_;rotate_left;(intro w';go_simp;with_reducible rfl);rotate_left;(simp only [Act.put, sn1, sn2, sn3, i64_w];rfl)
     refine pure_ (i := 22) (N := some 71) (v := ?_) (a' := ?_) #[Y,Y,Y,Y,Y,Y,Y,Y,Y,Y,Y,Y,Y,Y,Y,Y,Y,Y,Y,Y,Y,Y,Y,Z,Z,Z,Z,Z,Z,Z,Z,Z,Z,Z,Z,Z,Z,Z,Z,Z,Z,Z,Z,Z,Z,Z,Z,Z,Z,Z,Z,Z,Z,Z,Z,Z] rfl rfl (by kernel_rfl) (fun _ _ _ h => h) (Or.inl ⟨by rfl, ?_⟩) ?_ ?_;rotate_left;(intro w';go_simp;with_reducible rfl);rotate_left;(simp only [Act.put, sn1, sn2, sn3, i64_w];rfl)
     refine pure_ (i := 23) (N := some 72) (v := ?_) (a' := ?_) #[Y,Y,Y,Y,Y,Y,Y,Y,Y,Y,Y,Y,Y,Y,Y,Y,Y,Y,Y,Y,Y,Y,Y,Y,Z,Z,Z,Z,Z,Z,Z,Z,Z,Z,Z,Z,Z,Z,Z,Z,Z,Z,Z,Z,Z,Z,Z,Z,Z,Z,Z,Z,Z,Z,Z,Z] rfl rfl (by kernel_rfl) (fun _ _ _ h => h) (Or.inl ⟨by rfl, ?_⟩) ?_ ?_;rotate_left;(intro w';go_simp;with_reducible rfl);rotate_left;(simp only [Act.put, sn1, sn2, sn3, i64_w];rfl)
     refine pure_ (i := 25) (N := some 74) (v := ?_) (a' := ?_) #[Y,Y,Y,Y,Y,Y,Y,Y,Y,Y,Y,Y,Y,Y,Y,Y,Y,Y,Y,Y,Y,Y,Y,Y,Z,Y,Z,Z,Z,Z,Z,Z,Z,Z,Z,Z,Z,Z,Z,Z,Z,Z,Z,Z,Z,Z,Z,Z,Z,Z,Z,Z,Z,Z,Z,Z] rfl rfl (by kernel_rfl) (fun _ _ _ h => h) (Or.inl ⟨by rfl, ?_⟩) ?_ ?_;rotate_left;(intro w';go_simp;with_reducible rfl);rotate_left;(simp only [Act.put, sn1, sn2, sn3, i64_w];rfl)
     refine pure_ (i := 26) (N := some 75) (v := ?_) (a' := ?_) #[Y,Y,Y,Y,Y,Y,Y,Y,Y,Y,Y,Y,Y,Y,Y,Y,Y,Y,Y,Y,Y,Y,Y,Y,Z,Y,Y,Z,Z,Z,Z,Z,Z,Z,Z,Z,Z,Z,Z,Z,Z,Z,Z,Z,Z,Z,Z,Z,Z,Z,Z,Z,Z,Z,Z,Z] rfl rfl (by kernel_rfl) (fun _ _ _ h => h) (Or.inl ⟨by rfl, ?_⟩) ?_ ?_;rotate_left;(intro w';go_simp;with_reducible rfl);rotate_left;(simp only [Act.put, sn1, sn2, sn3, i64_w];rfl)
     refine pure_ (i := 27) (N := some 76) (v := ?_) (a' := ?_) #[Y,Y,Y,Y,Y,Y,Y,Y,Y,Y,Y,Y,Y,Y,Y,Y,Y,Y,Y,Y,Y,Y,Y,Y,Z,Y,Y,Y,Z,Z,Z,Z,Z,Z,Z,Z,Z,Z,Z,Z,Z,Z,Z,Z,Z,Z,Z,Z,Z,Z,Z,Z,Z,Z,Z,Z] rfl rfl (by kernel_rfl) (fun _ _ _ h => h) (Or.inl ⟨by rfl, ?_⟩) ?_ ?_;rotate_left;(intro w';go_simp;with_reducible rfl);rotate_left;(simp only [Act.put, sn1, sn2, sn3, i64_w];rfl)
     refine pure_ (i := 28) (N := some 77) (v := ?_) (a' := ?_) #[Y,Y,Y,Y,Y,Y,Y,Y,Y,Y,Y,Y,Y,Y,Y,Y,Y,Y,Y,Y,Y,Y,Y,Y,Z,Y,Y,Y,Y,Z,Z,Z,Z,Z,Z,Z,Z,Z,Z,Z,Z,Z,Z,Z,Z,Z,Z,Z,Z,Z,Z,Z,Z,Z,Z,Z] rfl rfl (by kernel_rfl) (fun _ _ _ h => h) (Or.inl ⟨by rfl, ?_⟩) ?_ ?_;rotate_left;(intro w';go_simp;with_reducible rfl);rotate_left;(simp only [Act.put, sn1, sn2, sn3, i64_w];rfl)
     refine take_ (i := 24) (N := some 73) (v := ?_) (a' := ?_) #[Y,Y,Y,Y,Y,Y,Y,Y,Y,Y,Y,Y,Y,Y,Y,Y,Y,Y,Y,Y,Y,Y,Y,Y,Y,Y,Y,Y,Y,Z,Z,Z,Z,Z,Z,Z,Z,Z,Z,Z,Z,Z,Z,Z,Z,Z,Z,Z,Z,Z,Z,Z,Z,Z,Z,Z] rfl rfl (by kernel_rfl) (fun _ _ _ h => h) (Or.inl ⟨by rfl, ?_⟩) hHeld ?_ ?_
     rotate_left
     ·rintro w' ⟨s0, s1, s2, s3, s4, s5, s6, s7, s8⟩
      go_simp
      with_reducible rfl
     rotate_left
     ·simp only [Act.put, sn1, sn2, sn3, i64_w]
      rfl
     refine take_ (i := 29) (N := some 78) (v := ?_) (a' := ?_) #[Y,Y,Y,Y,Y,Y,Y,Y,Y,Y,Y,Y,Y,Y,Y,Y,Y,Y,Y,Y,Y,Y,Y,Y,Y,Y,Y,Y,Y,Y,Z,Z,Z,Z,Z,Z,Z,Z,Z,Z,Z,Z,Z,Z,Z,Z,Z,Z,Z,Z,Z,Z,Z,Z,Z,Z] rfl rfl (by kernel_rfl) (fun _ _ _ h => h) (Or.inl ⟨by rfl, ?_⟩) hHeld ?_ ?_
     rotate_left
     ·rintro w' ⟨s0, s1, s2, s3, s4, s5, s6, s7, s8⟩
      go_simp
      with_reducible rfl
     rotate_left
     ·simp only [Act.put, sn1, sn2, sn3, i64_w]
      rfl
     refine pure_ (i := 30) (N := some 79) (v := ?_) (a' := ?_) #[Y,Y,Y,Y,Y,Y,Y,Y,Y,Y,Y,Y,Y,Y,Y,Y,Y,Y,Y,Y,Y,Y,Y,Y,Y,Y,Y,Y,Y,Y,Y,Z,Z,Z,Z,Z,Z,Z,Z,Z,Z,Z,Z,Z,Z,Z,Z,Z,Z,Z,Z,Z,Z,Z,Z,Z] rfl rfl (by kernel_rfl) (fun _ _ _ h => h) (Or.inl ⟨by rfl, ?_⟩) ?_ ?_;rotate_left;(intro w';go_simp;with_reducible rfl);rotate_left;(simp only [Act.put, sn1, sn2, sn3, i64_w];rfl)
     refine pure_ (i := 31) (N := some 80) (v := ?_) (a' := ?_) #[Y,Y,Y,Y,Y,Y,Y,Y,Y,Y,Y,Y,Y,Y,Y,Y,Y,Y,Y,Y,Y,Y,Y,Y,Y,Y,Y,Y,Y,Y,Y,Y,Z,Z,Z,Z,Z,Z,Z,Z,Z,Z,Z,Z,Z,Z,Z,Z,Z,Z,Z,Z,Z,Z,Z,Z] rfl rfl (by kernel_rfl) (fun _ _ _ h => h) (Or.inl ⟨by rfl, ?_⟩) ?_ ?_;rotate_left;(intro w';go_simp;with_reducible rfl);rotate_left;(simp only [Act.put, sn1, sn2, sn3, i64_w];rfl)
     refine pure_ (i := 32) (N := some 81) (v := ?_) (a' := ?_) #[Y,Y,Y,Y,Y,Y,Y,Y,Y,Y,Y,Y,Y,Y,Y,Y,Y,Y,Y,Y,Y,Y,Y,Y,Y,Y,Y,Y,Y,Y,Y,Y,Y,Z,Z,Z,Z,Z,Z,Z,Z,Z,Z,Z,Z,Z,Z,Z,Z,Z,Z,Z,Z,Z,Z,Z] rfl rfl (by kernel_rfl) (fun _ _ _ h => h) (Or.inl ⟨by rfl, ?_⟩) ?_ ?_;rotate_left;(intro w';go_simp;with_reducible rfl);rotate_left;(simp only [Act.put, sn1, sn2, sn3, i64_w];rfl)
     refine pure_ (i := 33) (N := some 82) (v := ?_) (a' := ?_) #[Y,Y,Y,Y,Y,Y,Y,Y,Y,Y,Y,Y,Y,Y,Y,Y,Y,Y,Y,Y,Y,Y,Y,Y,Y,Y,Y,Y,Y,Y,Y,Y,Y,Y,Z,Z,Z,Z,Z,Z,Z,Z,Z,Z,Z,Z,Z,Z,Z,Z,Z,Z,Z,Z,Z,Z] rfl rfl (by kernel_rfl) (fun _ _ _ h => h) (Or.inl ⟨by rfl, ?_⟩) ?_ ?_;rotate_left;(intro w';go_simp;with_reducible rfl);rotate_left;(simp only [Act.put, sn1, sn2, sn3, i64_w];rfl)
     refine pure_ (i := 34) (N := some 83) (v := ?_) (a' := ?_) #[Y,Y,Y,Y,Y,Y,Y,Y,Y,Y,Y,Y,Y,Y,Y,Y,Y,Y,Y,Y,Y,Y,Y,Y,Y,Y,Y,Y,Y,Y,Y,Y,Y,Y,Y,Z,Z,Z,Z,Z,Z,Z,Z,Z,Z,Z,Z,Z,Z,Z,Z,Z,Z,Z,Z,Z] rfl rfl (by kernel_rfl) (fun _ _ _ h => h) (Or.inl ⟨by rfl, ?_⟩) ?_ ?_;rotate_left;(intro w';go_simp;with_reducible rfl);rotate_left;(simp only [Act.put, sn1, sn2, sn3, i64_w];rfl)
     refine pure_ (i := 35) (N := some 84) (v := ?_) (a' := ?_) #[Y,Y,Y,Y,Y,Y,Y,Y,Y,Y,Y,Y,Y,Y,Y,Y,Y,Y,Y,Y,Y,Y,Y,Y,Y,Y,Y,Y,Y,Y,Y,Y,Y,Y,Y,Y,Z,Z,Z,Z,Z,Z,Z,Z,Z,Z,Z,Z,Z,Z,Z,Z,Z,Z,Z,Z] rfl rfl (by kernel_rfl) (fun _ _ _ h => h) (Or.inl ⟨by rfl, ?_⟩) ?_ ?_;rotate_left;(intro w';go_simp;with_reducible rfl);rotate_left;(simp only [Act.put, sn1, sn2, sn3, i64_w];rfl)
     refine pure_ (i := 38) (N := some 87) (v := ?_) (a' := ?_) #[Y,Y,Y,Y,Y,Y,Y,Y,Y,Y,Y,Y,Y,Y,Y,Y,Y,Y,Y,Y,Y,Y,Y,Y,Y,Y,Y,Y,Y,Y,Y,Y,Y,Y,Y,Y,Z,Z,Y,Z,Z,Z,Z,Z,Z,Z,Z,Z,Z,Z,Z,Z,Z,Z,Z,Z] rfl rfl (by kernel_rfl) (fun _ _ _ h => h) (Or.inl ⟨by rfl, ?_⟩) ?_ ?_;rotate_left;(intro w';go_simp;with_reducible rfl);rotate_left;(simp only [Act.put, sn1, sn2, sn3, i64_w];rfl)
     refine pure_ (i := 39) (N := some 88) (v := ?_) (a' := ?_) #[Y,Y,Y,Y,Y,Y,Y,Y,Y,Y,Y,Y,Y,Y,Y,Y,Y,Y,Y,Y,Y,Y,Y,Y,Y,Y,Y,Y,Y,Y,Y,Y,Y,Y,Y,Y,Z,Z,Y,Y,Z,Z,Z,Z,Z,Z,Z,Z,Z,Z,Z,Z,Z,Z,Z,Z] rfl rfl (by kernel_rfl) (fun _ _ _ h => h) (Or.inl ⟨by rfl, ?_⟩) ?_ ?_;rotate_left;(intro w';go_simp;with_reducible rfl);rotate_left;(simp only [Act.put, sn1, sn2, sn3, i64_w];rfl)
     refine pure_ (i := 40) (N := some 89) (v := ?_) (a' := ?_) #[Y,Y,Y,Y,Y,Y,Y,Y,Y,Y,Y,Y,Y,Y,Y,Y,Y,Y,Y,Y,Y,Y,Y,Y,Y,Y,Y,Y,Y,Y,Y,Y,Y,Y,Y,Y,Z,Z,Y,Y,Y,Z,Z,Z,Z,Z,Z,Z,Z,Z,Z,Z,Z,Z,Z,Z] rfl rfl (by kernel_rfl) (fun _ _ _ h => h) (Or.inl ⟨by rfl, ?_⟩) ?_ ?_;rotate_left;(intro w';go_simp;with_reducible rfl);rotate_left;(simp only [Act.put, sn1, sn2, sn3, i64_w];rfl)
     refine take_ (i := 36) (N := some 85) (v := ?_) (a' := ?_) #[Y,Y,Y,Y,Y,Y,Y,Y,Y,Y,Y,Y,Y,Y,Y,Y,Y,Y,Y,Y,Y,Y,Y,Y,Y,Y,Y,Y,Y,Y,Y,Y,Y,Y,Y,Y,Y,Z,Y,Y,Y,Z,Z,Z,Z,Z,Z,Z,Z,Z,Z,Z,Z,Z,Z,Z] rfl rfl (by kernel_rfl) (fun _ _ _ h => h) (Or.inl ⟨by rfl, ?_⟩) hHeld ?_ ?_
     rotate_left
     ·rintro w' ⟨s0, s1, s2, s3, s4, s5, s6, s7, s8⟩
      go_simp
      with_reducible rfl
     rotate_left
     ·simp only [Act.put, sn1, sn2, sn3, i64_w]
      rfl
     refine one_ (i := 37) (N := some 86) #[Y,Y,Y,Y,Y,Y,Y,Y,Y,Y,Y,Y,Y,Y,Y,Y,Y,Y,Y,Y,Y,Y,Y,Y,Y,Y,Y,Y,Y,Y,Y,Y,Y,Y,Y,Y,Y,Y,Y,Y,Y,Z,Z,Z,Z,Z,Z,Z,Z,Z,Z,Z,Z,Z,Z,Z] rfl rfl (by kernel_rfl) (by decide) (fun K hK => ?_)
     refine goes_ Tryz.func37 (by kernel_rfl) rfl #[.agg #[.int .i64 x.f0, .int .i64 x.f1, .int .u8 x.f2, .int .i64 x.f3]] (by rfl) rfl rfl (by simp only [List.map_toArray, List.map_cons, List.map_nil]; rfl) ?_
     with_reducible refine (rAsk_eq x _ HX.out wd2).mono ?_
     rintro e w13 ⟨rfl, hb13⟩
     refine ⟨_, rfl, ?_⟩
     have HL4 := am (HL3.out.below hb13)
     have HDR2 := am (HDR.out.trans (hb13.mono HDR.out.size))
     refine hK.out _ _ ⟨pw_cell_below HDR2.out u0, pw_cell_below HDR2.out m0, pw_cell_below HDR2.out m1, pw_cell_below HDR2.out m2, pw_cell_below HDR2.out m3, pw_cell_below HDR2.out n0, pw_cell_below HDR2.out n1, pw_cell_below HDR2.out n2, pw_cell_below HDR2.out n3⟩ (fun hHeld => ?_)
     clear hK K
     refine norm_ (a' := ?_) ?_ ?_
     rotate_left
     ·show Act.put _ (some 86) _ = _
      simp only [Act.put, sn1, sn2, sn3, i64_w]
      rfl
     refine pure_ (i := 41) (N := some 90) (v := ?_) (a' := ?_) #[Y,Y,Y,Y,Y,Y,Y,Y,Y,Y,Y,Y,Y,Y,Y,Y,Y,Y,Y,Y,Y,Y,Y,Y,Y,Y,Y,Y,Y,Y,Y,Y,Y,Y,Y,Y,Y,Y,Y,Y,Y,Y,Z,Z,Z,Z,Z,Z,Z,Z,Z,Z,Z,Z,Z,Z] rfl rfl (by kernel_rfl) (fun _ _ _ h => h) (Or.inl ⟨by rfl, ?_⟩) ?_ ?_;rotate_left;(intro w';go_simp;with_reducible rfl);rotate_left;(simp only [Act.put, sn1, sn2, sn3, i64_w];rfl)
     refine pure_ (i := 42) (N := some 91) (v := ?_) (a' := ?_) #[Y,Y,Y,Y,Y,Y,Y,Y,Y,Y,Y,Y,Y,Y,Y,Y,Y,Y,Y,Y,Y,Y,Y,Y,Y,Y,Y,Y,Y,Y,Y,Y,Y,Y,Y,Y,Y,Y,Y,Y,Y,Y,Y,Z,Z,Z,Z,Z,Z,Z,Z,Z,Z,Z,Z,Z] rfl rfl (by kernel_rfl) (fun _ _ _ h => h) (Or.inl ⟨by rfl, ?_⟩) ?_ ?_;rotate_left;(intro w';go_simp;with_reducible rfl);rotate_left;(simp only [Act.put, sn1, sn2, sn3, i64_w];rfl)
     refine pure_ (i := 43) (N := some 92) (v := ?_) (a' := ?_) #[Y,Y,Y,Y,Y,Y,Y,Y,Y,Y,Y,Y,Y,Y,Y,Y,Y,Y,Y,Y,Y,Y,Y,Y,Y,Y,Y,Y,Y,Y,Y,Y,Y,Y,Y,Y,Y,Y,Y,Y,Y,Y,Y,Y,Z,Z,Z,Z,Z,Z,Z,Z,Z,Z,Z,Z] rfl rfl (by kernel_rfl) (fun _ _ _ h => h) (Or.inl ⟨by rfl, ?_⟩) ?_ ?_;rotate_left;(intro w';go_simp;with_reducible rfl);rotate_left;(simp only [Act.put, sn1, sn2, sn3, i64_w];rfl)
     refine pure_ (i := 44) (N := some 93) (v := ?_) (a' := ?_) #[Y,Y,Y,Y,Y,Y,Y,Y,Y,Y,Y,Y,Y,Y,Y,Y,Y,Y,Y,Y,Y,Y,Y,Y,Y,Y,Y,Y,Y,Y,Y,Y,Y,Y,Y,Y,Y,Y,Y,Y,Y,Y,Y,Y,Y,Z,Z,Z,Z,Z,Z,Z,Z,Z,Z,Z] rfl rfl (by kernel_rfl) (fun _ _ _ h => h) (Or.inl ⟨by rfl, ?_⟩) ?_ ?_;rotate_left;(intro w';go_simp;with_reducible rfl);rotate_left;(simp only [Act.put, sn1, sn2, sn3, i64_w];rfl)
     refine pure_ (i := 45) (N := some 94) (v := ?_) (a' := ?_) #[Y,Y,Y,Y,Y,Y,Y,Y,Y,Y,Y,Y,Y,Y,Y,Y,Y,Y,Y,Y,Y,Y,Y,Y,Y,Y,Y,Y,Y,Y,Y,Y,Y,Y,Y,Y,Y,Y,Y,Y,Y,Y,Y,Y,Y,Y,Z,Z,Z,Z,Z,Z,Z,Z,Z,Z] rfl rfl (by kernel_rfl) (fun _ _ _ h => h) (Or.inl ⟨by rfl, ?_⟩) ?_ ?_;rotate_left;(intro w';go_simp;with_reducible rfl);rotate_left;(simp only [Act.put, sn1, sn2, sn3, i64_w];rfl)
     refine pure_ (i := 46) (N := some 95) (v := ?_) (a' := ?_) #[Y,Y,Y,Y,Y,Y,Y,Y,Y,Y,Y,Y,Y,Y,Y,Y,Y,Y,Y,Y,Y,Y,Y,Y,Y,Y,Y,Y,Y,Y,Y,Y,Y,Y,Y,Y,Y,Y,Y,Y,Y,Y,Y,Y,Y,Y,Y,Z,Z,Z,Z,Z,Z,Z,Z,Z] rfl rfl (by kernel_rfl) (fun _ _ _ h => h) (Or.inl ⟨by rfl, ?_⟩) ?_ ?_;rotate_left;(intro w';go_simp;with_reducible rfl);rotate_left;(simp only [Act.put, sn1, sn2, sn3, i64_w];rfl)
     refine pure_ (i := 49) (N := some 98) (v := ?_) (a' := ?_) #[Y,Y,Y,Y,Y,Y,Y,Y,Y,Y,Y,Y,Y,Y,Y,Y,Y,Y,Y,Y,Y,Y,Y,Y,Y,Y,Y,Y,Y,Y,Y,Y,Y,Y,Y,Y,Y,Y,Y,Y,Y,Y,Y,Y,Y,Y,Y,Z,Z,Y,Z,Z,Z,Z,Z,Z] rfl rfl (by kernel_rfl) (fun _ _ _ h => h) (Or.inl ⟨by rfl, ?_⟩) ?_ ?_;rotate_left;(intro w';go_simp;with_reducible rfl);rotate_left;(simp only [Act.put, sn1, sn2, sn3, i64_w];rfl)
     refine pure_ (i := 50) (N := some 99) (v := ?_) (a' := ?_) #[Y,Y,Y,Y,Y,Y,Y,Y,Y,Y,Y,Y,Y,Y,Y,Y,Y,Y,Y,Y,Y,Y,Y,Y,Y,Y,Y,Y,Y,Y,Y,Y,Y,Y,Y,Y,Y,Y,Y,Y,Y,Y,Y,Y,Y,Y,Y,Z,Z,Y,Y,Z,Z,Z,Z,Z] rfl rfl (by kernel_rfl) (fun _ _ _ h => h) (Or.inl ⟨by rfl, ?_⟩) ?_ ?_;rotate_left;(intro w';go_simp;with_reducible rfl);rotate_left;(simp only [Act.put, sn1, sn2, sn3, i64_w];rfl)
     refine pure_ (i := 51) (N := some 100) (v := ?_) (a' := ?_) #[Y,Y,Y,Y,Y,Y,Y,Y,Y,Y,Y,Y,Y,Y,Y,Y,Y,Y,Y,Y,Y,Y,Y,Y,Y,Y,Y,Y,Y,Y,Y,Y,Y,Y,Y,Y,Y,Y,Y,Y,Y,Y,Y,Y,Y,Y,Y,Z,Z,Y,Y,Y,Z,Z,Z,Z] rfl rfl (by kernel_rfl) (fun _ _ _ h => h) (Or.inl ⟨by rfl, ?_⟩) ?_ ?_;rotate_left;(intro w';go_simp;with_reducible rfl);rotate_left;(simp only [Act.put, sn1, sn2, sn3, i64_w];rfl)
     refine take_ (i := 47) (N := some 96) (v := ?_) (a' := ?_) #[Y,Y,Y,Y,Y,Y,Y,Y,Y,Y,Y,Y,Y,Y,Y,Y,Y,Y,Y,Y,Y,Y,Y,Y,Y,Y,Y,Y,Y,Y,Y,Y,Y,Y,Y,Y,Y,Y,Y,Y,Y,Y,Y,Y,Y,Y,Y,Y,Z,Y,Y,Y,Z,Z,Z,Z] rfl rfl (by kernel_rfl) (fun _ _ _ h => h) (Or.inl ⟨by rfl, ?_⟩) hHeld ?_ ?_
     rotate_left
     ·rintro w' ⟨s0, s1, s2, s3, s4, s5, s6, s7, s8⟩
      go_simp
      with_reducible rfl
     rotate_left
     ·simp only [Act.put, sn1, sn2, sn3, i64_w]
      rfl
     refine take_ (i := 52) (N := some 101) (v := ?_) (a' := ?_) #[Y,Y,Y,Y,Y,Y,Y,Y,Y,Y,Y,Y,Y,Y,Y,Y,Y,Y,Y,Y,Y,Y,Y,Y,Y,Y,Y,Y,Y,Y,Y,Y,Y,Y,Y,Y,Y,Y,Y,Y,Y,Y,Y,Y,Y,Y,Y,Y,Z,Y,Y,Y,Y,Z,Z,Z] rfl rfl (by kernel_rfl) (fun _ _ _ h => h) (Or.inl ⟨by rfl, ?_⟩) hHeld ?_ ?_
     rotate_left
     ·rintro w' ⟨s0, s1, s2, s3, s4, s5, s6, s7, s8⟩
      go_simp
      with_reducible rfl
     rotate_left
     ·simp only [Act.put, sn1, sn2, sn3, i64_w]
      rfl
     refine one_ (i := 48) (N := some 97) #[Y,Y,Y,Y,Y,Y,Y,Y,Y,Y,Y,Y,Y,Y,Y,Y,Y,Y,Y,Y,Y,Y,Y,Y,Y,Y,Y,Y,Y,Y,Y,Y,Y,Y,Y,Y,Y,Y,Y,Y,Y,Y,Y,Y,Y,Y,Y,Y,Y,Y,Y,Y,Y,Z,Z,Z] rfl rfl (by kernel_rfl) (by decide) (fun K hK => ?_)
     refine goes_ Tryz.func37 (by kernel_rfl) rfl #[.agg #[.int .i64 x.f0, .int .i64 x.f1, .int .u8 x.f2, .int .i64 x.f3]] (by rfl) rfl rfl (by simp only [List.map_toArray, List.map_cons, List.map_nil]; rfl) ?_
     with_reducible refine (rAsk_eq x _ HX.out w13).mono ?_
     rintro e w14 ⟨rfl, hb14⟩
     refine ⟨_, rfl, ?_⟩
     have HL5 := am (HL4.out.below hb14)
     have HDR3 := am (HDR2.out.trans (hb14.mono HDR2.out.size))
     refine hK.out _ _ ⟨pw_cell_below HDR3.out u0, pw_cell_below HDR3.out m0, pw_cell_below HDR3.out m1, pw_cell_below HDR3.out m2, pw_cell_below HDR3.out m3, pw_cell_below HDR3.out n0, pw_cell_below HDR3.out n1, pw_cell_below HDR3.out n2, pw_cell_below HDR3.out n3⟩ (fun hHeld => ?_)
     clear hK K
     refine norm_ (a' := ?_) ?_ ?_
     rotate_left
     ·show Act.put _ (some 97) _ = _
      simp only [Act.put, sn1, sn2, sn3, i64_w]
      rfl
     refine one_ (i := 53) (N := some 102) #[Y,Y,Y,Y,Y,Y,Y,Y,Y,Y,Y,Y,Y,Y,Y,Y,Y,Y,Y,Y,Y,Y,Y,Y,Y,Y,Y,Y,Y,Y,Y,Y,Y,Y,Y,Y,Y,Y,Y,Y,Y,Y,Y,Y,Y,Y,Y,Y,Y,Y,Y,Y,Y,Y,Z,Z] rfl rfl (by kernel_rfl) (by decide) (fun K hK => ?_)
     refine goes_ Tryz.func37 (by kernel_rfl) rfl #[.agg #[.int .i64 x.f0, .int .i64 x.f1, .int .u8 y.f2, .int .i64 y.f3]] (by rfl) rfl rfl (by simp only [List.map_toArray, List.map_cons, List.map_nil]; rfl) ?_
     with_reducible refine (rAsk_eq2 x.f0 x.f1 y _ HY.out w14).mono ?_
     rintro e w15 ⟨rfl, hb15⟩
     refine ⟨_, rfl, ?_⟩
     have HL6 := am (HL5.out.below hb15)
     have HDR4 := am (HDR3.out.trans (hb15.mono HDR3.out.size))
     refine hK.out _ _ ⟨pw_cell_below HDR4.out u0, pw_cell_below HDR4.out m0, pw_cell_below HDR4.out m1, pw_cell_below HDR4.out m2, pw_cell_below HDR4.out m3, pw_cell_below HDR4.out n0, pw_cell_below HDR4.out n1, pw_cell_below HDR4.out n2, pw_cell_below HDR4.out n3⟩ (fun hHeld => ?_)
     clear hK K
     refine norm_ (a' := ?_) ?_ ?_
     rotate_left
     ·show Act.put _ (some 102) _ = _
      simp only [Act.put, sn1, sn2, sn3, i64_w]
      rfl
     refine pure_ (i := 54) (N := some 103) (v := ?_) (a' := ?_) #[Y,Y,Y,Y,Y,Y,Y,Y,Y,Y,Y,Y,Y,Y,Y,Y,Y,Y,Y,Y,Y,Y,Y,Y,Y,Y,Y,Y,Y,Y,Y,Y,Y,Y,Y,Y,Y,Y,Y,Y,Y,Y,Y,Y,Y,Y,Y,Y,Y,Y,Y,Y,Y,Y,Y,Z] rfl rfl (by kernel_rfl) (fun _ _ _ h => h) (Or.inl ⟨by rfl, ?_⟩) ?_ ?_;rotate_left;(intro w';go_simp;with_reducible rfl);rotate_left;(simp only [Act.put, sn1, sn2, sn3, i64_w];rfl)
     refine pure_ (i := 55) (N := some 104) (v := ?_) (a' := ?_) #[Y,Y,Y,Y,Y,Y,Y,Y,Y,Y,Y,Y,Y,Y,Y,Y,Y,Y,Y,Y,Y,Y,Y,Y,Y,Y,Y,Y,Y,Y,Y,Y,Y,Y,Y,Y,Y,Y,Y,Y,Y,Y,Y,Y,Y,Y,Y,Y,Y,Y,Y,Y,Y,Y,Y,Y] rfl rfl (by kernel_rfl) (fun _ _ _ h => h) (Or.inl ⟨by rfl, ?_⟩) ?_ ?_;rotate_left;(intro w';go_simp;with_reducible rfl);rotate_left;(simp only [Act.put, sn1, sn2, sn3, i64_w];rfl)
     refine done_ (by kernel_rfl) ?_
     go_wp2_with fail
     go_meet
     case rel => exact ⟨rfl, HL6⟩
    case rest =>
     obtain ⟨rfl, HC⟩ := hcut
     clear HW hk3 hk4 hk5
     go_wp2_with fail
     go_loopg [10] (k + 1) (fun gg s10 wr2 => ∃ (nn : Nat), kk < nn ∧ nn ≤ k ∧ k - nn ≤ gg ∧ s10 = .int .i64 nn ∧ Aside0 (Lw w wr2 [(A, ids)] [(A1, l)] [(some ad, P)] [(w.heap.size, #[.slice A ids.length c, .bool rc, .int .i64 rn, .bool jb], 26)]))
     case atStart => exact ⟨kk + 1, by omega, by omega, by omega, by go_num, HC⟩
     case round =>
      clear HC
      obtain ⟨nn, hn1, hn2, hg2, rfl, HV⟩ := hrel
      by_cases hnn : nn < k
      ·have dn : decide ((nn : Int) < (k : Int)) = true := decide_eq_true (by omega)
       have dn2 : decide (nn < k) = true := decide_eq_true hnn
       have hbt := HBT.out nn hn1 hnn
       obtain ⟨ad3, e3, r0⟩ := Kd.at_int (HV.out.x _ mc) (nn : Int) (by omega) (show (nn : Int) < (P.length : Int) by omega)
       cases e3
       rw [Int.toNat_natCast] at r0
       generalize rd P (nn : Int) = z at *
       have z1 : decide (z ≤ (kk : Int)) = false := decide_eq_false (by omega)
       have z2 : decide ((k : Int) ≤ z) = false := decide_eq_false (by omega)
       clear hbt
       go_wp2_with fail
       go_roundg (k - (nn + 1))
       case measure => omega
       case rel => exact ⟨nn + 1, by omega, by omega, by omega, by go_num, HV⟩
      have dn : decide ((nn : Int) < (k : Int)) = false := decide_eq_false (by omega)
      have dn2 : decide (nn < k) = false := decide_eq_false hnn
      go_wp2_with fail
      go_roundg (l.length - (kk + 1))
      case measure => omega
      case rel => exact ⟨kk + 1, cn, by omega, by omega, by omega, by go_num, rfl, ⟨by rw [HTC.out, ← HCN.out]; rfl⟩, HV⟩
   have hke : kk = P.length := by omega
   have cb : decide ((kk : Int) < (P.length : Int)) = false := decide_eq_false (by omega)
   have cbn : decide (kk < P.length) = false := decide_eq_false hlt
   have hce : cn = on := by rw [HCN.out, hke, hpt, HCP.out]
   subst hce
   have hgr : w.heap.size < wr.heap.size := blk_lt (HW.out.g _ mc)
   have a0 : wr.cell? ⟨w.heap.size, 0, none⟩ = some (.slice A ids.length c) := HW.out.cell mc 0 rfl; have a1 : wr.cell? ⟨w.heap.size, 1, none⟩ = some (.bool rc) := HW.out.cell mc 1 rfl; have a2 : wr.cell? ⟨w.heap.size, 2, none⟩ = some (.int .i64 rn) := HW.out.cell mc 2 rfl; have a3 : wr.cell? ⟨w.heap.size, 3, none⟩ = some (.bool jb) := HW.out.cell mc 3 rfl
   go_upto_region 23 with (first
    | (go_at_call 16; refine (HW.out.copyA rc rn jb mc hlc ht8.out).mono ?_; rintro e wa ⟨Ba, ka, rfl, hka, ha⟩; have Ha := am ha; clear ha)
    | (go_at_call 17; refine (Ha.out.copyW mc hlc1 hlx).mono ?_; rintro e wb ⟨Bb, kb, rfl, hkb, hb⟩; have Hb := am hb; clear hb)
    | (go_at_call 19; refine (Hb.out.standE rc rn jb mc mc hlx HE.out HTT.out).mono ?_; rintro e w6 ⟨Bs, ks, rfl, hks, h6⟩; have H6 := am (h6.popi.popy.new #[.int .u8 T.turn, .slice Bs T.opn.length ks, .bool T.force, .bool T.lost] 38); clear h6 Ha Hb))
   generalize w6.alloc (.cells #[.int .u8 T.turn, .slice Bs T.opn.length ks, .bool T.force, .bool T.lost] 38) = W6 at *
   generalize w6.heap.size = gk at *
   clear a0 a1 a2 a3 hgr HW
   have hgk : gk < W6.heap.size := blk_lt (H6.out.g _ mc)
   have s1 : W6.cell? ⟨gk, 1, none⟩ = some (.slice Bs cn ks) := H6.out.cell mc 1 (v := .slice Bs cn ks) (by rw [HON.out]; rfl)
   obtain ⟨hto, hover⟩ := HTO.out
   obtain ⟨b1, hb1⟩ : ∃ b, ((cn : Int) == 0) = b := ⟨_, rfl⟩
   obtain ⟨b2, hb2⟩ : ∃ b, decide (0 < l.length) = b := ⟨_, rfl⟩
   have hb3 : decide ((0 : Int) < (l.length : Int)) = b2 := by rw [← hb2, decide_eq_decide]; omega
   have hb4 : (cn == 0) = b1 := by
    rw [← hb1]
    by_cases h : cn = 0
    ·rw [h]; rfl
    rw [beq_false_of_ne h, beq_false_of_ne (show (cn : Int) ≠ 0 by omega)]
   rw [hb1, hb2] at hover
   cases hov : (b2 && b1) with
   | true =>
    have s0 : W6.cell? ⟨gk, 0, none⟩ = some (.int .u8 3) := H6.out.cell mc 0 (v := .int .u8 3) (by rw [hto.2 (hover.trans hov)]; rfl)
    rw [Bool.and_eq_true] at hov
    obtain ⟨rfl, rfl⟩ := hov
    clear hto hover HCN hke hpt
    go_wp2_with (go_at_call 15; refine H6.out.awake.mono ?_; rintro e w7 ⟨rfl, h7⟩)
    go_ret
    exact ⟨rfl, h7.b⟩
   | false =>
    have s0 : W6.cell? ⟨gk, 0, none⟩ = some (.int .u8 T.turn) := H6.out.cell mc 0 rfl
    have h3n : (T.turn == 3) = false := beq_false_of_ne (fun h => by have := hto.1 h; rw [hover, hov] at this; cases this)
    generalize T.turn = tu at *
    clear hto hover HCN hke hpt
    cases b2 <;> cases b1 <;> first | (cases hov; done) | skip
    all_goals
     go_wp2_with (go_at_call 15; refine H6.out.awake.mono ?_; rintro e w7 ⟨rfl, h7⟩)
     go_ret
     exact ⟨rfl, h7.b⟩
end Go.Proofs.YtjgocihflhljeaaGreat.P
