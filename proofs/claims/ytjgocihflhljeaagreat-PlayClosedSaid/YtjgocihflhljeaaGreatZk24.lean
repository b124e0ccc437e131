/- What the claim's law needs, many texts in one (Do). No conditions of its own. -/
import Derived.Test.YtjgocihflhljeaaGreatZk22
import Derived.Test.YtjgocihflhljeaaGreatZk21
import Derived.Test.YtjgocihflhljeaaGreatZk23
set_option linter.unusedVariables false
set_option linter.unusedSimpArgs false
namespace Go.Proofs.YtjgocihflhljeaaGreat.P
open Go.RowKit Go.Shelf Go.Proofs.YtjgocihflhljeaaGreatW.PrintWords Go.Proofs.YtjgocihflhljeaaGreatW.PrintLast Go.Proofs.YtjgocihflhljeaaGreatW.PrintMore
attribute [local go_sem] Oper.semAt_some
section
variable {w W W' : World} {I : List (Option Addr × List S68)} {Y : List (Option Addr × List Mv)} {X : List (Option Addr × List Int)} {G : List (Nat × Array Value × TypeId)}
theorem Lw.closeE (h : Lw w W I Y X G) {A A1 : Option Addr} {c c1 : Nat} {ids : List S68} {l C : List Mv} {T : Tk} (rc : Bool) (rn : Int) (jb : Bool) (hi : (A, ids) ∈ I) (hy : (A1, l) ∈ Y) (hl : l.length ≤ 1000000) (hE : tellE ids rc rn jb l = 0) (hT : talkL ids rc rn jb l = T) (hc : closeE T = 0) (hC : closeL T = C) :
  Calls Tryz.prog 39 #[.agg #[.slice A ids.length c, .bool rc, .int .i64 rn, .bool jb], .slice A1 l.length c1] W fun e w' => ∃ B k, e = .returned (.tuple #[.slice B C.length k, .int .i64 0]) ∧ C.length ≤ k ∧ Lw w w' I ((B, C) :: Y) X G := by
 have hs := h.close (c := c) (c1 := c1) rc rn jb hi hy hl
 have e : clsE ids rc rn jb l = 0 := by unfold clsE; rw [hE, hT, hc]; rfl
 rw [e, okL_ok _ rfl, hT, hC] at hs
 exact hs
theorem Lw.sameT (h : Lw w W I Y X G) {A B : Option Addr} {c k : Nat} {l C : List Mv} (h1 : (B, C) ∈ Y) (h2 : (A, l) ∈ Y) (hn : l.length ≤ C.length) (hq : C.take l.length = l) (hk : C.length ≤ k) (hc : l.length ≤ c) (hl : l.length ≤ 1000000) :
  Calls Tryz.prog 24 #[.slice B l.length k, .slice A l.length c] W fun e w' => e = .returned (.bool true) ∧ Lw w w' I Y X G := by
 have hC := Kd.C_take (h.y _ h1) hn
 rw [hq] at hC
 exact (riposteref04_SameWord.calls (l.length + 1) B k l A c l true W hC (by omega) (h.y _ h2) hc (sameWord_f _ l hl (by omega))).mono (by
  rintro e w' ⟨rfl, hd⟩
  obtain ⟨n, rfl⟩ := hd.out
  exact ⟨rfl, h.below (pw_below_drewN (Below.refl _ _) n)⟩)
end
set_option maxRecDepth 8000 in
set_option maxHeartbeats 8000000 in
theorem playClosed_any (A : Option Addr) (c : Nat) (ids : List S68) (rc : Bool) (rn : Int) (jb : Bool) (A1 : Option Addr) (c1 : Nat) (l : List Mv) (w : World) (hr : Kd.C k68 w A ids.length ids) (hlc : ids.length ≤ c) (hr1 : Kd.C k52 w A1 l.length l) (hlc1 : l.length ≤ c1) :
  Calls Tryz.prog 9 #[.agg #[.slice A ids.length c, .bool rc, .int .i64 rn, .bool jb], .slice A1 l.length c1] w fun e w' => e = .returned (.bool true) ∧ Below w.heap.size w w' := by
 have H0 := am ((Lw.start hr hr1).new #[.slice A ids.length c, .bool rc, .int .i64 rn, .bool jb] 26)
 clear hr hr1
 cases ht : legalB ids rc rn jb l with
 | false =>
  have HT := am ht
  clear ht
  go_enter Tryz.func9, Tryz.ntmps9
  go_wp2_with (first
   | (go_at_call 30; refine (H0.out.legal rc rn jb mc mc hlc).mono ?_; rw [HT.out]; rintro e w1 ⟨rfl, h1⟩; have H1 := am h1; clear h1; have hg1 : w.heap.size < w1.heap.size := blk_lt (H1.out.g _ mc); have a0 : w1.cell? ⟨w.heap.size, 0, none⟩ = some (.slice A ids.length c) := H1.out.cell mc 0 rfl; have a1 : w1.cell? ⟨w.heap.size, 1, none⟩ = some (.bool rc) := H1.out.cell mc 1 rfl; have a2 : w1.cell? ⟨w.heap.size, 2, none⟩ = some (.int .i64 rn) := H1.out.cell mc 2 rfl; have a3 : w1.cell? ⟨w.heap.size, 3, none⟩ = some (.bool jb) := H1.out.cell mc 3 rfl)
   | (go_at_call 15; refine H1.out.awake.mono ?_; rintro e w2 ⟨rfl, h2⟩))
  go_ret
  exact ⟨rfl, h2.b⟩
 | true =>
  have HT := am ht
  obtain ⟨ht8', hl80, hE⟩ := legal_of ht
  have ht8 := am ht8'
  have hlx : l.length ≤ 1000000 := by omega
  obtain ⟨T, hT⟩ : ∃ T, talkL ids rc rn jb l = T := ⟨_, rfl⟩
  obtain ⟨K, hK⟩ : ∃ K, closedT T = K := ⟨_, rfl⟩
  obtain ⟨C, hC⟩ : ∃ C, K.word = C := ⟨_, rfl⟩
  obtain ⟨f1, f2, f3, f4, f5, f6, f7, f8, f9, f10, f11, f12, f13, f14, f15, f16⟩ := closed_facts hE hl80 hT hK hC
  obtain ⟨P, hP⟩ : ∃ P, K.part = P := ⟨_, rfl⟩
  rw [hP] at f14
  have hPr : ∀ i : Nat, rd P (i : Int) = K.prt i := fun i => rd_prt hP i
  have hOr : ∀ i : Nat, rd T.opn (i : Int) = T.opn.getD i 0 := fun i => by unfold rd; rw [Int.toNat_natCast]
  have F16 := am (show ∀ i : Nat, i < T.opn.length → 0 < l.length → ∃ q : Nat, rd T.opn (i : Int) = q ∧ q < l.length ∧ rd P (q : Int) = (C.length : Int) - 1 - i from fun i h1 h2 => by
   obtain ⟨q, g1, g2, g3⟩ := f16 i h1 h2
   exact ⟨q, by rw [hOr]; exact g1, g2, by rw [hPr]; exact g3⟩)
  have hPt : (talkL ids rc rn jb C).part = P := by rw [f4, hP]
  have FS := am (And.intro hE (And.intro hT (And.intro f3 (And.intro f4 (And.intro f10 (And.intro f11 (And.intro f12 (And.intro f13 hPt))))))))
  have F5 := am f5
  have F8 := am f8
  have F9 := am f9
  have F14 := am f14
  have hCx : C.length ≤ 1000000 := by omega
  have hC2 : C.length ≤ 162 := by omega
  have hC4 : C.length ≤ 400 := by omega
  have k1 : decide ((C.length : Int) < (l.length : Int)) = false := decide_eq_false (by omega)
  have k2 : decide (C.length < l.length) = false := decide_eq_false (by omega)
  have k3 : decide (2 * (l.length : Int) + 2 < (C.length : Int)) = false := decide_eq_false (by omega)
  have k4 : decide (2 * l.length + 2 < C.length) = false := decide_eq_false (by omega)
  clear ht ht8' hE hT hK hC f1 f3 f4 f5 f8 f9 f10 f11 f12 f13 f14 f15 f16 hP hPr hOr hPt
  go_enter Tryz.func9, Tryz.ntmps9
  go_upto_region 4 with (first
   | (go_at_call 30; refine (H0.out.legal rc rn jb mc mc hlc).mono ?_; rw [HT.out]; rintro e w1 ⟨rfl, h1⟩; have H1 := am h1; clear h1; have hg1 : w.heap.size < w1.heap.size := blk_lt (H1.out.g _ mc); have a0 : w1.cell? ⟨w.heap.size, 0, none⟩ = some (.slice A ids.length c) := H1.out.cell mc 0 rfl; have a1 : w1.cell? ⟨w.heap.size, 1, none⟩ = some (.bool rc) := H1.out.cell mc 1 rfl; have a2 : w1.cell? ⟨w.heap.size, 2, none⟩ = some (.int .i64 rn) := H1.out.cell mc 2 rfl; have a3 : w1.cell? ⟨w.heap.size, 3, none⟩ = some (.bool jb) := H1.out.cell mc 3 rfl)
   | (go_at_call 16; refine (H1.out.copyA rc rn jb mc hlc ht8.out).mono ?_; rintro e wa ⟨Ba, ka, rfl, hka, ha⟩; have Ha := am ha; clear ha)
   | (go_at_call 17; refine (Ha.out.copyW mc hlc1 hlx).mono ?_; rintro e wb ⟨Bb, kb, rfl, hkb, hb⟩; have Hb := am hb; clear hb)
   | (go_at_call 39; refine (Hb.out.closeE rc rn jb mc mc hlx FS.out.1 FS.out.2.1 FS.out.2.2.2.2.1 FS.out.2.2.2.2.2.1).mono ?_; rintro e w3 ⟨Bc, kc, rfl, hkc, h3⟩; have H3 := am (show Lw w w3 [(A, ids)] [(Bc, C), (A1, l)] [] [(w.heap.size, #[.slice A ids.length c, .bool rc, .int .i64 rn, .bool jb], 26)] from ⟨h3.b, h3.popi.i, fun p hp => by rcases List.mem_cons.1 hp with rfl | hp <;> first | exact h3.y _ mc | exact h3.y _ (List.mem_cons_of_mem _ (List.mem_cons_of_mem _ hp)), h3.x, h3.g⟩); clear h3 Ha Hb))
  clear a0 a1 a2 a3 hg1 H1 H0
  have hg3 : w.heap.size < w3.heap.size := blk_lt (H3.out.g _ mc)
  have hkci : (l.length : Int) ≤ (kc : Int) := by omega
  have hcl : (l.length : Int) ≤ (C.length : Int) := by omega
  go_upto_region 6 with (with_reducible refine (H3.out.sameT mc (List.mem_cons_of_mem _ mc) f6 F8.out hkc hlc1 hlx).mono ?_; rintro e w4 ⟨rfl, h4⟩; have H4 := am h4; clear h4)
  have hg4 : w.heap.size < w4.heap.size := blk_lt (H4.out.g _ mc)
  have a0 : w4.cell? ⟨w.heap.size, 0, none⟩ = some (.slice A ids.length c) := H4.out.cell mc 0 rfl; have a1 : w4.cell? ⟨w.heap.size, 1, none⟩ = some (.bool rc) := H4.out.cell mc 1 rfl; have a2 : w4.cell? ⟨w.heap.size, 2, none⟩ = some (.int .i64 rn) := H4.out.cell mc 2 rfl; have a3 : w4.cell? ⟨w.heap.size, 3, none⟩ = some (.bool jb) := H4.out.cell mc 3 rfl
  go_upto_region 7 with (first
   | (go_at_call 16; refine (H4.out.copyA rc rn jb mc hlc ht8.out).mono ?_; rintro e wa ⟨Ba, ka, rfl, hka, ha⟩; have Ha := am ha; clear ha)
   | (go_at_call 17; refine (Ha.out.copyW mc hkc hCx).mono ?_; rintro e wb ⟨Bb, kb, rfl, hkb, hb⟩; have Hb := am hb; clear hb)
   | (go_at_call 19; refine (Hb.out.standE rc rn jb mc mc hCx FS.out.2.2.1 FS.out.2.2.2.1).mono ?_; rintro e w6 ⟨Bs, ks, rfl, hks, h6⟩; have H6 := am (h6.popi.popy.popx.new #[.int .u8 K.turn, .slice Bs K.opn.length ks, .bool K.force, .bool K.lost] 38); clear h6 Ha Hb))
  generalize w6.alloc (.cells #[.int .u8 K.turn, .slice Bs K.opn.length ks, .bool K.force, .bool K.lost] 38) = W6 at *
  generalize w6.heap.size = gk at *
  clear a0 a1 a2 a3 hg4 H4 H3 hg3
  have hg6 : w.heap.size < W6.heap.size := blk_lt (H6.out.g _ (List.mem_cons_of_mem _ mc))
  have hgk6 : gk < W6.heap.size := blk_lt (H6.out.g _ mc)
  have a0 : W6.cell? ⟨w.heap.size, 0, none⟩ = some (.slice A ids.length c) := H6.out.cell (List.mem_cons_of_mem _ mc) 0 rfl; have a1 : W6.cell? ⟨w.heap.size, 1, none⟩ = some (.bool rc) := H6.out.cell (List.mem_cons_of_mem _ mc) 1 rfl; have a2 : W6.cell? ⟨w.heap.size, 2, none⟩ = some (.int .i64 rn) := H6.out.cell (List.mem_cons_of_mem _ mc) 2 rfl; have a3 : W6.cell? ⟨w.heap.size, 3, none⟩ = some (.bool jb) := H6.out.cell (List.mem_cons_of_mem _ mc) 3 rfl
  go_upto_region 8 with (first
   | (go_at_call 16; refine (H6.out.copyA rc rn jb mc hlc ht8.out).mono ?_; rintro e wa ⟨Ba, ka, rfl, hka, ha⟩; have Ha := am ha; clear ha)
   | (go_at_call 17; refine (Ha.out.copyW (List.mem_cons_of_mem _ mc) hlc1 hlx).mono ?_; rintro e wb ⟨Bb, kb, rfl, hkb, hb⟩; have Hb := am hb; clear hb)
   | (go_at_call 19; refine (Hb.out.standE rc rn jb mc mc hlx FS.out.1 FS.out.2.1).mono ?_; rintro e w7 ⟨Bt, kt, rfl, hkt, h7⟩; have H7 := am (h7.popi.popy.new #[.int .u8 T.turn, .slice Bt T.opn.length kt, .bool T.force, .bool T.lost] 38); clear h7 Ha Hb))
  generalize w7.alloc (.cells #[.int .u8 T.turn, .slice Bt T.opn.length kt, .bool T.force, .bool T.lost] 38) = W7 at *
  generalize w7.heap.size = gt at *
  clear a0 a1 a2 a3 hg6 hgk6 H6
  have hg7 : w.heap.size < W7.heap.size := blk_lt (H7.out.g _ (List.mem_cons_of_mem _ (List.mem_cons_of_mem _ mc)))
  have a0 : W7.cell? ⟨w.heap.size, 0, none⟩ = some (.slice A ids.length c) := H7.out.cell (List.mem_cons_of_mem _ (List.mem_cons_of_mem _ mc)) 0 rfl; have a1 : W7.cell? ⟨w.heap.size, 1, none⟩ = some (.bool rc) := H7.out.cell (List.mem_cons_of_mem _ (List.mem_cons_of_mem _ mc)) 1 rfl; have a2 : W7.cell? ⟨w.heap.size, 2, none⟩ = some (.int .i64 rn) := H7.out.cell (List.mem_cons_of_mem _ (List.mem_cons_of_mem _ mc)) 2 rfl; have a3 : W7.cell? ⟨w.heap.size, 3, none⟩ = some (.bool jb) := H7.out.cell (List.mem_cons_of_mem _ (List.mem_cons_of_mem _ mc)) 3 rfl
  go_upto_region 9 with (go_at_call 36; refine (H7.out.partnersL rc rn jb mc mc hlc hkc hC4 ht8.out FS.out.2.2.1 FS.out.2.2.2.2.2.2.2.2).mono ?_; rintro e w8 ⟨Bp, kp, rfl, hkp, h8⟩; have H8 := am h8; clear h8)
  clear a0 a1 a2 a3 hg7 H7
  have hg8 : w.heap.size < w8.heap.size := blk_lt (H8.out.g _ (List.mem_cons_of_mem _ (List.mem_cons_of_mem _ mc)))
  have a0 : w8.cell? ⟨w.heap.size, 0, none⟩ = some (.slice A ids.length c) := H8.out.cell (List.mem_cons_of_mem _ (List.mem_cons_of_mem _ mc)) 0 rfl; have a1 : w8.cell? ⟨w.heap.size, 1, none⟩ = some (.bool rc) := H8.out.cell (List.mem_cons_of_mem _ (List.mem_cons_of_mem _ mc)) 1 rfl; have a2 : w8.cell? ⟨w.heap.size, 2, none⟩ = some (.int .i64 rn) := H8.out.cell (List.mem_cons_of_mem _ (List.mem_cons_of_mem _ mc)) 2 rfl; have a3 : w8.cell? ⟨w.heap.size, 3, none⟩ = some (.bool jb) := H8.out.cell (List.mem_cons_of_mem _ (List.mem_cons_of_mem _ mc)) 3 rfl
  go_upto_region 10 with (first
   | (go_at_call 16; refine (H8.out.copyA rc rn jb mc hlc ht8.out).mono ?_; rintro e wa ⟨Ba, ka, rfl, hka, ha⟩; have Ha := am ha; clear ha)
   | (go_at_call 17; refine (Ha.out.copyW mc hkc hCx).mono ?_; rintro e wb ⟨Bb, kb, rfl, hkb, hb⟩; have Hb := am hb; clear hb)
   | (go_at_call 39; refine (Hb.out.closeE rc rn jb mc mc hCx FS.out.2.2.1 FS.out.2.2.2.1 FS.out.2.2.2.2.2.2.1 FS.out.2.2.2.2.2.2.2.1).mono ?_; rintro e w9 ⟨Bd, kd, rfl, hkd, h9⟩; have H9 := am (show Lw w w9 [(A, ids)] [(Bd, C), (Bc, C), (A1, l)] [(Bp, P), (Bt, T.opn)] [(gt, #[.int .u8 T.turn, .slice Bt T.opn.length kt, .bool T.force, .bool T.lost], 38), (gk, #[.int .u8 K.turn, .slice Bs K.opn.length ks, .bool K.force, .bool K.lost], 38), (w.heap.size, #[.slice A ids.length c, .bool rc, .int .i64 rn, .bool jb], 26)] from ⟨h9.b, h9.popi.i, fun p hp => by rcases List.mem_cons.1 hp with rfl | hp <;> first | exact h9.y _ mc | exact h9.y _ (List.mem_cons_of_mem _ (List.mem_cons_of_mem _ hp)), h9.x, h9.g⟩); clear h9 Ha Hb))
  clear a0 a1 a2 a3 hg8 H8
  have s0 : w9.cell? ⟨gk, 0, none⟩ = some (.int .u8 3) := H9.out.cell (List.mem_cons_of_mem _ mc) 0 (v := .int .u8 3) (by rw [F5.out]; rfl)
  have t1 : w9.cell? ⟨gt, 1, none⟩ = some (.slice Bt T.opn.length kt) := H9.out.cell mc 1 rfl
  have hgk : gk < w9.heap.size := blk_lt (H9.out.g _ (List.mem_cons_of_mem _ mc))
  have hgt : gt < w9.heap.size := blk_lt (H9.out.g _ mc)
  go_cut [127] (fun x127 wx => x127 = .bool false ∧ Aside0 (Lw w wx [(A, ids)] [(Bd, C), (Bc, C), (A1, l)] [(Bp, P), (Bt, T.opn)] [(gt, #[.int .u8 T.turn, .slice Bt T.opn.length kt, .bool T.force, .bool T.lost], 38), (gk, #[.int .u8 K.turn, .slice Bs K.opn.length ks, .bool K.force, .bool K.lost], 38), (w.heap.size, #[.slice A ids.length c, .bool rc, .int .i64 rn, .bool jb], 26)]))
  case first =>
   by_cases hl0 : 0 < l.length
   ·have b1 : decide ((0 : Int) < (l.length : Int)) = true := decide_eq_true (by omega)
    have b2 : decide (0 < l.length) = true := decide_eq_true hl0
    have h9 := F9.out hl0
    have b3 : ((C.length : Int) != (l.length : Int) + (T.opn.length : Int)) = false := bne_eq_false_iff_eq.2 (by omega)
    clear h9
    go_wp2_with (with_reducible refine (H9.out.sameW mc (List.mem_cons_of_mem _ mc) hkd hkc hCx).mono ?_; rintro e w10 ⟨rfl, h10⟩; have H10 := am h10; have t2 : w10.cell? ⟨gt, 1, none⟩ = some (.slice Bt T.opn.length kt) := H10.out.cell mc 1 rfl; have hgt2 : gt < w10.heap.size := blk_lt (H10.out.g _ mc); clear h10)
    go_meet
    case rel => exact ⟨rfl, H10⟩
   have b1 : decide ((0 : Int) < (l.length : Int)) = false := decide_eq_false (by omega)
   have b2 : decide (0 < l.length) = false := decide_eq_false hl0
   go_wp2_with (with_reducible refine (H9.out.sameW mc (List.mem_cons_of_mem _ mc) hkd hkc hCx).mono ?_; rintro e w10 ⟨rfl, h10⟩; have H10 := am h10; clear h10)
   go_meet
   case rel => exact ⟨rfl, H10⟩
  case rest =>
   obtain ⟨rfl, HC⟩ := hcut
   clear H9 s0 t1 hgk hgt
   go_wp2_with fail
   go_loopg [15] (T.opn.length + 1) (fun gg s15 wr => ∃ (kk : Nat), kk ≤ T.opn.length ∧ T.opn.length - kk ≤ gg ∧ s15 = .int .i64 kk ∧ Aside0 (Lw w wr [(A, ids)] [(Bd, C), (Bc, C), (A1, l)] [(Bp, P), (Bt, T.opn)] [(gt, #[.int .u8 T.turn, .slice Bt T.opn.length kt, .bool T.force, .bool T.lost], 38), (gk, #[.int .u8 K.turn, .slice Bs K.opn.length ks, .bool K.force, .bool K.lost], 38), (w.heap.size, #[.slice A ids.length c, .bool rc, .int .i64 rn, .bool jb], 26)]))
   case atStart => exact ⟨0, Nat.zero_le _, by omega, rfl, HC⟩
   case round =>
    clear HC
    obtain ⟨kk, hkk, hg, rfl, HW⟩ := hrel
    have t1 : wr.cell? ⟨gt, 1, none⟩ = some (.slice Bt T.opn.length kt) := HW.out.cell mc 1 rfl
    have hgt : gt < wr.heap.size := blk_lt (HW.out.g _ mc)
    by_cases hlt : kk < T.opn.length
    ·have cb : decide ((kk : Int) < (T.opn.length : Int)) = true := decide_eq_true (by omega)
     have cbn : decide (kk < T.opn.length) = true := decide_eq_true hlt
     have b1 : decide ((0 : Int) < (l.length : Int)) = true := decide_eq_true (by omega)
     have b2 : decide (0 < l.length) = true := decide_eq_true (by omega)
     obtain ⟨q, g1, g2, g3⟩ := F16.out kk hlt (by omega)
     obtain ⟨ad, e0, v0⟩ := Kd.at_int (HW.out.x _ (List.mem_cons_of_mem _ mc)) (kk : Int) (by omega) (show (kk : Int) < (T.opn.length : Int) by omega)
     cases e0
     rw [Int.toNat_natCast, g1] at v0
     have hqp : q < P.length := by rw [F14.out]; omega
     obtain ⟨ad2, e0, u0⟩ := Kd.at_int (HW.out.x _ mc) (q : Int) (by omega) (show (q : Int) < (P.length : Int) by omega)
     cases e0
     rw [Int.toNat_natCast, g3] at u0
     have c1 : decide ((q : Int) < 0) = false := decide_eq_false (by omega)
     have c2 : decide ((l.length : Int) ≤ (q : Int)) = false := decide_eq_false (by omega)
     have c3 : decide (l.length ≤ q) = false := decide_eq_false (by omega)
     have c4 : decide (q < P.length) = true := decide_eq_true hqp
     clear g1 g3
     go_wp2_with fail
     go_roundg (T.opn.length - (kk + 1))
     case measure => omega
     case rel => exact ⟨kk + 1, by omega, by omega, by go_num, HW⟩
    have cb : decide ((kk : Int) < (T.opn.length : Int)) = false := decide_eq_false (by omega)
    have cbn : decide (kk < T.opn.length) = false := decide_eq_false hlt
    go_wp2_with (go_at_call 15; refine HW.out.awake.mono ?_; rintro e w11 ⟨rfl, h11⟩)
    go_ret
    exact ⟨rfl, h11.b⟩
end Go.Proofs.YtjgocihflhljeaaGreat.P
