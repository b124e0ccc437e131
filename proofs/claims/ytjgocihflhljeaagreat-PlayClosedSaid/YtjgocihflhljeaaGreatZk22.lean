/- What the claim's law needs, many texts in one (Dn). No conditions of its own. -/
import Derived.Test.YtjgocihflhljeaaGreatZk21
set_option linter.unusedVariables false
set_option linter.unusedSimpArgs false
namespace Go.Proofs.YtjgocihflhljeaaGreat.P
open Go.RowKit Go.Shelf Go.Proofs.YtjgocihflhljeaaGreatW.PrintWords Go.Proofs.YtjgocihflhljeaaGreatW.PrintLast Go.Proofs.YtjgocihflhljeaaGreatW.PrintMore
attribute [local go_sem] Oper.semAt_some
theorem part_bound {t : Tk} (hB : t.InvB) (i : Nat) (hi : i < t.word.length) : -1 ≤ t.prt i ∧ t.prt i < t.word.length := by
 by_cases h : t.prt i = -1
 ·omega
 obtain ⟨k, h1, h2, _⟩ := hB.par i hi h
 omega
theorem rd_prt {t : Tk} {P : List Int} (hP : t.part = P) (i : Nat) : rd P (i : Int) = t.prt i := by
 subst hP
 unfold rd Tk.prt
 rw [Int.toNat_natCast]
section
variable {w W W' : World} {I : List (Option Addr × List S68)} {Y : List (Option Addr × List Mv)} {X : List (Option Addr × List Int)} {G : List (Nat × Array Value × TypeId)}
theorem Lw.partnersE (h : Lw w W I Y X G) {A A1 : Option Addr} {c c1 : Nat} {ids : List S68} {l : List Mv} {T : Tk} {P : List Int} (rc : Bool) (rn : Int) (jb : Bool) (hi : (A, ids) ∈ I) (hy : (A1, l) ∈ Y) (hl : l.length ≤ 1000000) (hE : tellE ids rc rn jb l = 0) (hT : talkL ids rc rn jb l = T) (hP : T.part = P) :
  Calls Tryz.prog 42 #[.agg #[.slice A ids.length c, .bool rc, .int .i64 rn, .bool jb], .slice A1 l.length c1] W fun e w' => ∃ B k, e = .returned (.tuple #[.slice B P.length k, .int .i64 0]) ∧ P.length ≤ k ∧ Lw w w' I Y ((B, P) :: X) G := by
 have hs := h.partners (c := c) (c1 := c1) rc rn jb hi hy hl
 rw [hE, okL_ok _ rfl, hT, hP] at hs
 exact hs
end
set_option maxRecDepth 8000 in
set_option maxHeartbeats 4000000 in
theorem partners_law (A : Option Addr) (c : Nat) (ids : List S68) (rc : Bool) (rn : Int) (jb : Bool) (A1 : Option Addr) (c1 : Nat) (l : List Mv) (P : List Int) (w : World) (hr : Kd.C k68 w A ids.length ids) (hlc : ids.length ≤ c) (hr1 : Kd.C k52 w A1 l.length l) (hlc1 : l.length ≤ c1) (hl : l.length ≤ 400) (ht8' : ids.length ≤ 12 ∧ ∀ x ∈ ids, x.f0.length ≤ 8) (hE : tellE ids rc rn jb l = 0) (hP : (talkL ids rc rn jb l).part = P) :
  Calls Tryz.prog 36 #[.agg #[.slice A ids.length c, .bool rc, .int .i64 rn, .bool jb], .slice A1 l.length c1] w fun e w' => ∃ B k, e = .returned (.tuple #[.slice B P.length k, .bool true]) ∧ P.length ≤ k ∧ Kd.C (Kd.int .i64) w' B P.length P ∧ Below w.heap.size w w' := by
 have H1 := am ((Lw.start hr hr1).new #[.slice A ids.length c, .bool rc, .int .i64 rn, .bool jb] 26)
 clear hr hr1
 have ht8 := am ht8'
 have hl6 : l.length ≤ 1000000 := by omega
 have hB := talk_invB (ids := ids) (rc := rc) (rn := rn) (jb := jb) l hl6
 have hI := talk_inv ids rc rn jb l hl6
 have hw := talk_all (tellE_zero hE).2.2
 have hpl := hI.l.ok.hp
 rw [hw, hP] at hpl
 have HBD := am (fun (i : Nat) (hi : i < l.length) => (by
  have := part_bound hB i (by rw [hw]; exact hi)
  rw [hw, ← rd_prt hP] at this
  exact this : -1 ≤ rd P (i : Int) ∧ rd P (i : Int) < l.length))
 have hpb : ((P.length : Int) != (l.length : Int)) = false := bne_eq_false_iff_eq.2 (by omega)
 have hpb2 : (P.length != l.length) = false := bne_eq_false_iff_eq.2 (by omega)
 have hp4 : P.length ≤ 400 := by omega
 have HPL := am hpl
 have HE := am hE
 have HP := am hP
 clear hpl hB hI hw hE ht8' hP
 have hg1 : w.heap.size < (w.alloc (.cells #[.slice A ids.length c, .bool rc, .int .i64 rn, .bool jb] 26)).heap.size := blk_lt (H1.out.g _ mc)
 go_enter Tryz.func36, Tryz.ntmps36
 go_upto_region 2 with (first
  | (go_at_call 16; refine (H1.out.copyA rc rn jb mc hlc ht8.out).mono ?_; rintro e wa ⟨Ba, ka, rfl, hka, ha⟩; have Ha := am ha; clear ha)
  | (go_at_call 17; refine (Ha.out.copyW mc hlc1 hl6).mono ?_; rintro e wb ⟨Bb, kb, rfl, hkb, hb⟩; have Hb := am hb; clear hb)
  | (go_at_call 42; refine (Hb.out.partnersE rc rn jb mc mc hl6 HE.out rfl HP.out).mono ?_; rintro e wc ⟨Bc, kc, rfl, hkc, hc⟩; have Hc := am hc.popi.popy; clear hc Ha Hb))
 clear hg1 H1
 go_wp2_with fail
 go_loopg [8] (P.length + 1) (fun gg s8 wr => ∃ (kk : Nat), kk ≤ P.length ∧ P.length - kk ≤ gg ∧ s8 = .int .i64 kk ∧ Aside0 (Lw w wr [(A, ids)] [(A1, l)] [(Bc, P)] [(w.heap.size, #[.slice A ids.length c, .bool rc, .int .i64 rn, .bool jb], 26)]))
 case atStart => exact ⟨0, Nat.zero_le _, by omega, rfl, Hc⟩
 case round =>
  clear Hc
  obtain ⟨kk, hkk, hg, rfl, HW⟩ := hrel
  by_cases hlt : kk < P.length
  ·have cb : decide ((kk : Int) < (P.length : Int)) = true := decide_eq_true (by omega)
   have cbn : decide (kk < P.length) = true := decide_eq_true hlt
   have hbd := HBD.out kk (by have := HPL.out; omega)
   obtain ⟨ad, e0, m0⟩ := Kd.at_int (HW.out.x _ mc) (kk : Int) (by omega) (show (kk : Int) < (P.length : Int) by omega)
   cases e0
   rw [Int.toNat_natCast] at m0
   generalize rd P (kk : Int) = v at *
   have c1b : decide (v < -1) = false := decide_eq_false (by omega)
   have c2b : decide ((l.length : Int) ≤ v) = false := decide_eq_false (by omega)
   clear hbd
   go_wp2_with fail
   go_roundg (P.length - (kk + 1))
   case measure => omega
   case rel => exact ⟨kk + 1, by omega, by omega, by go_num, HW⟩
  have cb : decide ((kk : Int) < (P.length : Int)) = false := decide_eq_false (by omega)
  have cbn : decide (kk < P.length) = false := decide_eq_false hlt
  go_wp2_with fail
  go_ret2
  exact ⟨_, _, rfl, hkc, HW.out.x _ mc, HW.out.b⟩
section
variable {w W W' : World} {I : List (Option Addr × List S68)} {Y : List (Option Addr × List Mv)} {X : List (Option Addr × List Int)} {G : List (Nat × Array Value × TypeId)}
theorem Lw.partnersL (h : Lw w W I Y X G) {A A1 : Option Addr} {c c1 : Nat} {ids : List S68} {l : List Mv} {P : List Int} (rc : Bool) (rn : Int) (jb : Bool) (hi : (A, ids) ∈ I) (hy : (A1, l) ∈ Y) (hc : ids.length ≤ c) (hc1 : l.length ≤ c1) (hl : l.length ≤ 400) (ht8 : ids.length ≤ 12 ∧ ∀ x ∈ ids, x.f0.length ≤ 8) (hE : tellE ids rc rn jb l = 0) (hP : (talkL ids rc rn jb l).part = P) :
  Calls Tryz.prog 36 #[.agg #[.slice A ids.length c, .bool rc, .int .i64 rn, .bool jb], .slice A1 l.length c1] W fun e w' => ∃ B k, e = .returned (.tuple #[.slice B P.length k, .bool true]) ∧ P.length ≤ k ∧ Lw w w' I Y ((B, P) :: X) G :=
 (partners_law A c ids rc rn jb A1 c1 l P W (h.i _ hi) hc (h.y _ hy) hc1 hl ht8 hE hP).mono (by
  rintro e w' ⟨B, k, rfl, hk, hC, hb⟩
  exact ⟨B, k, rfl, hk, (h.below hb).addx hC⟩)
end
end Go.Proofs.YtjgocihflhljeaaGreat.P
