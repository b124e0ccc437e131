/- What the claim's law needs, many texts in one (Df). No conditions of its own. -/
import Derived.Test.YtjgocihflhljeaaGreatZm21
set_option linter.unusedVariables false
set_option linter.unusedSimpArgs false
namespace Go.Proofs.YtjgocihflhljeaaGreat.P
open Go.RowKit Go.Shelf Go.Proofs.YtjgocihflhljeaaGreatW.PrintWords Go.Proofs.YtjgocihflhljeaaGreatW.PrintLast Go.Proofs.YtjgocihflhljeaaGreatW.PrintMore
attribute [local go_sem] Oper.semAt_some
theorem infoI : (Tryz.prog.info? 3).map (fun i => (i.zero, i.size, i.bytes)) = some (some (.int .i64 0), 1, 8) := by kernel_rfl
section
variable {w W W' : World} {I : List (Option Addr × List S68)} {Y : List (Option Addr × List Mv)} {X : List (Option Addr × List Int)} {G : List (Nat × Array Value × TypeId)}
variable (h : Lw w W I Y X G) {A A1 A2 : Option Addr} {c c1 c2 : Nat} {ids : List S68} {l F : List Mv} {xs : List Int} (rc : Bool) (rn : Int) (jb : Bool) (hi : (A, ids) ∈ I) (hy : (A1, l) ∈ Y) (hx : (A2, xs) ∈ X) (hl : l.length ≤ 1000000) (hxl : xs.length ≤ 1000000)
include h hi hy hx hl hxl
theorem Lw.partP (hid : ids.length ≤ 1000000) (hwf : ∀ x ∈ xs, (Lit.int .i64 x).wf = true) (hF : okL (tellE ids rc rn jb l) (partL xs (talkL ids rc rn jb l).word) = F) : Calls Tryz.prog 51 #[.agg #[.slice A ids.length c, .bool rc, .int .i64 rn, .bool jb], .slice A1 l.length c1, .slice A2 xs.length c2] W fun e w' => ∃ B k, e = .returned (.tuple #[.slice B F.length k, .int .i64 (tellE ids rc rn jb l)]) ∧ F.length ≤ k ∧ Lw w w' I ((B, F) :: Y) X G := by
 have hs := pPart_any A c ids rc rn jb A1 c1 l A2 c2 xs W (h.i _ hi) (h.y _ hy) (h.x _ hx) hl hxl hid hwf
 rw [hF] at hs
 refine hs.mono ?_
 rintro e w' ⟨B, k, rfl, hk, hC, hb⟩
 exact ⟨B, k, rfl, hk, (h.below hb).addy hC⟩
theorem Lw.rpartP (hc : ids.length ≤ c) (hxc : xs.length ≤ c2) (hF : okL (tellE ids rc rn jb l) (partL xs l) = F) : Calls Tryz.prog 52 #[.agg #[.slice A ids.length c, .bool rc, .int .i64 rn, .bool jb], .slice A1 l.length c1, .slice A2 xs.length c2] W fun e w' => ∃ B k, e = .returned (.tuple #[.slice B F.length k, .int .i64 (tellE ids rc rn jb l)]) ∧ F.length ≤ k ∧ Lw w w' I ((B, F) :: Y) X G := by
 have hs := rPart_any A c ids rc rn jb A1 c1 l A2 c2 xs W (h.i _ hi) hc (h.y _ hy) hl (h.x _ hx) hxc hxl
 rw [hF] at hs
 refine hs.mono ?_
 rintro e w' ⟨r, rfl, hR, hb⟩
 obtain ⟨B, k, rfl, hk, hC⟩ := Kd.R_reads hR
 exact ⟨B, k, rfl, hk, (h.below hb).addy hC⟩
end
theorem part_same (ids : List S68) (rc : Bool) (rn : Int) (jb : Bool) (l : List Mv) (xs : List Int) : okL (tellE ids rc rn jb l) (partL xs (talkL ids rc rn jb l).word) = okL (tellE ids rc rn jb l) (partL xs l) := by
 by_cases hE : tellE ids rc rn jb l = 0
 ·rw [talk_all (tellE_zero hE).2.2]
 rw [okL_no _ hE, okL_no _ hE]
set_option maxRecDepth 8000 in
set_option maxHeartbeats 4000000 in
theorem playParts_any (A : Option Addr) (c : Nat) (ids : List S68) (rc : Bool) (rn : Int) (jb : Bool) (A1 : Option Addr) (c1 : Nat) (l : List Mv) (A2 : Option Addr) (c2 : Nat) (xs : List Int) (w : World) (hr : Kd.C k68 w A ids.length ids) (hlc : ids.length ≤ c) (hr1 : Kd.C k52 w A1 l.length l) (hlc1 : l.length ≤ c1) (hr2 : Kd.C (Kd.int .i64) w A2 xs.length xs) (hlc2 : xs.length ≤ c2) (hwf : ∀ x ∈ xs, (Lit.int .i64 x).wf = true) :
  Calls Tryz.prog 13 #[.agg #[.slice A ids.length c, .bool rc, .int .i64 rn, .bool jb], .slice A1 l.length c1, .slice A2 xs.length c2] w fun e w' => e = .returned (.bool true) ∧ Below w.heap.size w w' := by
 have H0 := am (((Lw.start hr hr1).addx hr2).new #[.slice A ids.length c, .bool rc, .int .i64 rn, .bool jb] 26)
 have HWF := am hwf
 clear hr hr1 hr2 hwf
 cases ht : thinB ids l with
 | false =>
  have HT := am ht
  clear ht
  go_enter Tryz.func13, Tryz.ntmps13
  go_wp2_with (first
   | (go_at_call 14; refine (H0.out.thin rc rn jb mc mc hlc hlc1).mono ?_; rw [HT.out]; rintro e w1 ⟨rfl, h1⟩; have H1 := am h1; clear h1; have hg1 : w.heap.size < w1.heap.size := blk_lt (H1.out.g _ mc); have a0 : w1.cell? ⟨w.heap.size, 0, none⟩ = some (.slice A ids.length c) := H1.out.cell mc 0 rfl; have a1 : w1.cell? ⟨w.heap.size, 1, none⟩ = some (.bool rc) := H1.out.cell mc 1 rfl; have a2 : w1.cell? ⟨w.heap.size, 2, none⟩ = some (.int .i64 rn) := H1.out.cell mc 2 rfl; have a3 : w1.cell? ⟨w.heap.size, 3, none⟩ = some (.bool jb) := H1.out.cell mc 3 rfl)
   | (go_at_call 15; refine H1.out.awake.mono ?_; rintro e w2 ⟨rfl, h2⟩))
  go_ret
  exact ⟨rfl, h2.b⟩
 | true =>
  have HT := am ht
  have hth := thinB_ids ht
  have ht8 := am (And.intro hth.1 hth.2.1)
  have hl := hth.2.2
  have hl6 : l.length ≤ 1000000 := by omega
  have hid : ids.length ≤ 1000000 := by have := hth.1; omega
  clear ht hth
  by_cases h12 : 12 < xs.length
  ·have k12 : decide ((12 : Int) < (xs.length : Int)) = true := decide_eq_true (by omega)
   have k13 : decide (12 < xs.length) = true := decide_eq_true h12
   go_enter Tryz.func13, Tryz.ntmps13
   go_wp2_with (first
    | (go_at_call 14; refine (H0.out.thin rc rn jb mc mc hlc hlc1).mono ?_; rw [HT.out]; rintro e w1 ⟨rfl, h1⟩; have H1 := am h1; clear h1; have hg1 : w.heap.size < w1.heap.size := blk_lt (H1.out.g _ mc); have a0 : w1.cell? ⟨w.heap.size, 0, none⟩ = some (.slice A ids.length c) := H1.out.cell mc 0 rfl; have a1 : w1.cell? ⟨w.heap.size, 1, none⟩ = some (.bool rc) := H1.out.cell mc 1 rfl; have a2 : w1.cell? ⟨w.heap.size, 2, none⟩ = some (.int .i64 rn) := H1.out.cell mc 2 rfl; have a3 : w1.cell? ⟨w.heap.size, 3, none⟩ = some (.bool jb) := H1.out.cell mc 3 rfl)
    | (go_at_call 15; refine H1.out.awake.mono ?_; rintro e w2 ⟨rfl, h2⟩))
   go_ret
   exact ⟨rfl, h2.b⟩
  have k12 : decide ((12 : Int) < (xs.length : Int)) = false := decide_eq_false (by omega)
  have k13 : decide (12 < xs.length) = false := decide_eq_false h12
  have hxl : xs.length ≤ 1000000 := by omega
  obtain ⟨F, hF⟩ : ∃ F, okL (tellE ids rc rn jb l) (partL xs l) = F := ⟨_, rfl⟩
  have hFl : F.length ≤ 1000000 := by
   rw [← hF]
   have h1 := okL_len (tellE ids rc rn jb l) (partL xs l)
   have h2 : (partL xs l).length ≤ l.length := List.length_filter_le _ _
   omega
  have HF := am hF
  have HF2 := am ((part_same ids rc rn jb l xs).trans hF)
  clear hF
  obtain ⟨E, hE⟩ : ∃ E, tellE ids rc rn jb l = E := ⟨_, rfl⟩
  have HEE := am hE
  clear hE
  go_enter Tryz.func13, Tryz.ntmps13
  go_upto_region 4 with (first
   | (go_at_call 14; refine (H0.out.thin rc rn jb mc mc hlc hlc1).mono ?_; rw [HT.out]; rintro e w1 ⟨rfl, h1⟩; have H1 := am h1; clear h1; have hg1 : w.heap.size < w1.heap.size := blk_lt (H1.out.g _ mc); have a0 : w1.cell? ⟨w.heap.size, 0, none⟩ = some (.slice A ids.length c) := H1.out.cell mc 0 rfl; have a1 : w1.cell? ⟨w.heap.size, 1, none⟩ = some (.bool rc) := H1.out.cell mc 1 rfl; have a2 : w1.cell? ⟨w.heap.size, 2, none⟩ = some (.int .i64 rn) := H1.out.cell mc 2 rfl; have a3 : w1.cell? ⟨w.heap.size, 3, none⟩ = some (.bool jb) := H1.out.cell mc 3 rfl)
   | ((with_reducible refine gate_dst (N := 22) rfl ?_); refine Kd.R_lit (Kd.int .i64) (w0 := w1) w1.heap.size 3 ?hg (N := 22) ?hd (xs := ([] : List Int)) (inner := []) (ok := fun _ => True) (okp := fun _ => True) ?hr ?hp (fun _ hk => hk) trivial (Below.refl _ _) (Nat.le_refl _) (by simp) ?_; (case hd => rfl); (case hg => rfl); (case hr => go_simp); (case hp => exact (Reps.none _ _)); intro v201 w3 ho4 hb3 hg_ hnew_; have HV := am ho4; have HB3 := am hb3; clear hg_ hnew_ ho4 hb3)
   | ((with_reducible refine gate_builtin (b := .append) (xs := #[.tmp 22, .tmp 23]) rfl ?_); at_builtin; refine Kd.R_append_rows (Kd.int .i64) (w0 := w1) w1.heap.size rfl (.tmp 22) (.tmp 23) 36 3 (.int .i64 0) 8 rfl Tryz.underlying36 infoI rfl (by decide) (by omega) v201 [] xs _ _ _ (fun _ => True) (fun _ => False) rfl rfl ?aO ?aR (fun _ _ h => h) (fun _ h => h.elim) ?aF ?aB ?aS ?aL ?_; (case aR => exact Kd.C_below (H1.out.x (A2, xs) mc) HB3.out); (case aB => exact HB3.out); (case aF => exact (fun _ _ => trivial)); (case aO => exact HV.out); (case aS => exact HB3.out.size); (case aL => simp; omega); intro v204 w5 ho5 hb5 hg5 hat5; rw [List.nil_append] at ho5; obtain ⟨Bk, kk, rfl, hkk, hCk⟩ := Kd.R_reads ho5; have H2 := am ((H1.out.below hb5).addx hCk); clear ho5 hb5 hg5 hat5 hCk))
  clear a0 a1 a2 a3 hg1 H1 H0 HV HB3
  have hg5 : w.heap.size < w5.heap.size := blk_lt (H2.out.g _ mc)
  have a0 : w5.cell? ⟨w.heap.size, 0, none⟩ = some (.slice A ids.length c) := H2.out.cell mc 0 rfl; have a1 : w5.cell? ⟨w.heap.size, 1, none⟩ = some (.bool rc) := H2.out.cell mc 1 rfl; have a2 : w5.cell? ⟨w.heap.size, 2, none⟩ = some (.int .i64 rn) := H2.out.cell mc 2 rfl; have a3 : w5.cell? ⟨w.heap.size, 3, none⟩ = some (.bool jb) := H2.out.cell mc 3 rfl
  go_upto_region 5 with (first
   | (go_at_call 16; refine (H2.out.copyA rc rn jb mc hlc ht8.out).mono ?_; rintro e wa ⟨Ba, ka, rfl, hka, ha⟩; have Ha := am ha; clear ha)
   | (go_at_call 17; refine (Ha.out.copyW mc hlc1 hl6).mono ?_; rintro e wb ⟨Bb, kb, rfl, hkb, hb⟩; have Hb := am hb; clear hb)
   | (go_at_call 51; refine (Hb.out.partP rc rn jb mc mc mc hl6 hxl hid HWF.out HF2.out).mono ?_; rw [HEE.out]; rintro e w6 ⟨Bp, kp, rfl, hkp, h6⟩; have H6 := am h6.popi; clear h6 Ha))
  clear a0 a1 a2 a3 hg5 H2 Hb
  have hg6 : w.heap.size < w6.heap.size := blk_lt (H6.out.g _ mc)
  have a0 : w6.cell? ⟨w.heap.size, 0, none⟩ = some (.slice A ids.length c) := H6.out.cell mc 0 rfl; have a1 : w6.cell? ⟨w.heap.size, 1, none⟩ = some (.bool rc) := H6.out.cell mc 1 rfl; have a2 : w6.cell? ⟨w.heap.size, 2, none⟩ = some (.int .i64 rn) := H6.out.cell mc 2 rfl; have a3 : w6.cell? ⟨w.heap.size, 3, none⟩ = some (.bool jb) := H6.out.cell mc 3 rfl
  go_upto_region 6 with (go_at_call 52; refine (H6.out.rpartP rc rn jb mc (List.mem_cons_of_mem _ (List.mem_cons_of_mem _ mc)) (List.mem_cons_of_mem _ mc) hl6 hxl hlc hlc2 HF.out).mono ?_; rw [HEE.out]; rintro e w7 ⟨Bq, kq, rfl, hkq, h7⟩; have H7 := am h7; clear h7)
  clear a0 a1 a2 a3 hg6 H6
  go_wp2_with (first
   | (go_at_call 24; refine (H7.out.sameW (List.mem_cons_of_mem _ mc) mc hkp hkq hFl).mono ?_; rintro e w8 ⟨rfl, h8⟩; have H8 := am h8; clear h8)
   | (go_at_call 29; refine (H8.out.sameI mc (List.mem_cons_of_mem _ mc) hkk hlc2 hxl).mono ?_; rintro e w9 ⟨rfl, h9⟩; have H9 := am h9; clear h9)
   | (go_at_call 15; refine H9.out.awake.mono ?_; rintro e w10 ⟨rfl, h10⟩))
  go_ret
  exact ⟨rfl, h10.b⟩
end Go.Proofs.YtjgocihflhljeaaGreat.P
