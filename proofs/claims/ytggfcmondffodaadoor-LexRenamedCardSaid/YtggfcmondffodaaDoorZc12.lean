/- What the claim's law needs, many texts in one (Xq Xy Xz). No conditions of its own. -/
import Derived.Test.YtggfcmondffodaaDoorZc11
import Derived.Test.YtggfcmondffodaaDoorZc10
import Derived.Deep.QuietTactic
import Derived.BigQuiet
import Derived.Test.YtggfcmondffodaaDoorRows
import Derived.Test.YtggfcmondffodaaDoorZc4
import Derived.LaidMore
import Derived.Lay
import Derived.Lib.LaidTab
import Derived.Stop.Joined
set_option linter.unusedVariables false
set_option linter.unusedSimpArgs false
namespace Go.Proofs.YtggfcmondffodaaDoor.P
open Go.RowKit Go.Shelf Go.Maps Go.Proofs.YtggfcmondffodaaDoorW.PrintWords Go.Proofs.YtggfcmondffodaaDoorW.PrintLast Go.Proofs.YtggfcmondffodaaDoorW.PrintMore
set_option linter.unusedVariables false
set_option linter.unusedSimpArgs false
set_option maxHeartbeats 2000000 in
theorem Apply_ok (s : ByteArray) (A : Option Addr) (c : Nat) (l : List Sp) (k : Nat) (w : World) (hr : Kd.C k48 w A l.length l) (hc : l.length ≤ c) (hs : s.size ≤ 1000000000) (hll : l.length ≤ 1000000000) (h : lex_splices.f k s l = some 0) (ho : OrdS s.size l 0) (hb : (splB s l 0).length ≤ 1000000000) :
    Calls Tryd.prog 27 #[.string s, .slice A l.length c] w fun e w' => e = .returned (.tuple #[.string (splM s l), .int .i64 0]) ∧ Below w.heap.size w w' := by
  have h1 := lex_splices.calls k s A c l 0 w hr hc h
  have h2 := fun W (h : Below w.heap.size w W) => spliced_any s A c l W (Kd.C_below hr h) hs hll ho hb
  generalize splM s l = out at *
  clear hr ho hb h
  go_enter Tryd.func27, Tryd.ntmps27
  go_wp2_with (first | (go_at_call 56; refine h1.mono ?_; rintro e w1 ⟨rfl, hb1⟩) | (go_at_call 51; refine (h2 _ hb1).mono ?_; rintro e w2 ⟨rfl, hb2⟩))
  go_ret2
  exact ⟨rfl, hb1.trans (hb2.mono hb1.size)⟩
/-! ### The document's examples -/
def eT1 : ByteArray := ⟨#[120, 58, 61, 49, 32, 126, 97]⟩
def eT2 : ByteArray := ⟨#[120, 32, 126, 97]⟩
def eT3 : ByteArray := ⟨#[97, 98, 99]⟩
def eT4 : ByteArray := ⟨#[120, 32, 43, 32, 120, 115]⟩
def eL1 : List Tk := [⟨1, ⟨#[120]⟩, 0⟩, ⟨4, ⟨#[58, 61]⟩, 1⟩, ⟨2, ⟨#[49]⟩, 3⟩]
def eL2 : List Tk := [⟨5, ⟨#[97]⟩, 2⟩]
def eS : List Sp := [⟨1, 2, ⟨#[120, 121]⟩⟩]
theorem ex1 : toksM kwM eT1 = (eL1, 0, 0) := by kernel_rfl
theorem ex2 : notesM eT2 = (eL2, 0) := by kernel_rfl
theorem ex3 : lex_splices.f 60 eT3 eS = some 0 := by kernel_rfl
theorem ex4 : splM eT3 eS = ⟨#[97, 120, 121, 99]⟩ := by kernel_rfl
theorem ex5 : renM eT4 ⟨#[120]⟩ ⟨#[121]⟩ = (⟨#[121, 32, 43, 32, 120, 115]⟩, 0) := by kernel_rfl
set_option maxRecDepth 8000 in
set_option maxHeartbeats 8000000 in
theorem awake_any (w : World) (hg : Gl w) : Calls Tryd.prog 15 #[] w fun e w' => e = .returned (.bool true) ∧ Below w.heap.size w w' := by
  have HG := Aside0.mk hg
  have hT := Tokens_any eT1 w hg (by decide)
  rw [ex1] at hT
  have hN := Aside0.mk (fun W => Notes_any eT2 W (by decide))
  rw [ex2] at hN
  have hA := Aside0.mk (fun (A : Option Addr) (c : Nat) (W : World) (h : Kd.C k48 W A eS.length eS) (hc : eS.length ≤ c) => Apply_ok eT3 A c eS 60 W h hc (by decide) (by decide) ex3 (by unfold eS OrdS OrdS; decide) (by rw [show splB eT3 eS 0 = (splM eT3 eS).data.toList from rfl, ex4]; decide))
  rw [ex4] at hA
  have hR := Aside0.mk (fun (W : World) (h : Gl W) => Rename_any eT4 ⟨#[120]⟩ ⟨#[121]⟩ W h (by decide) (by decide) (by decide))
  rw [ex5] at hR
  have hS1 := Aside0.mk (fun (A0 A1 : Option Addr) (c0 c1 : Nat) (W : World) (h0 : Kd.C k35 W A0 eL1.length eL1) (hc0 : eL1.length ≤ c0) (h1 : Kd.C k35 W A1 eL1.length eL1) (hc1 : eL1.length ≤ c1) => riposteref01_SameTokens.calls 20 A0 c0 eL1 A1 c1 eL1 true W h0 hc0 h1 hc1 (rSame eL1 (by decide) 20 (by decide)))
  have hS2 := Aside0.mk (fun (A0 A1 : Option Addr) (c0 c1 : Nat) (W : World) (h0 : Kd.C k35 W A0 eL2.length eL2) (hc0 : eL2.length ≤ c0) (h1 : Kd.C k35 W A1 eL2.length eL2) (hc1 : eL2.length ≤ c1) => riposteref01_SameTokens.calls 20 A0 c0 eL2 A1 c1 eL2 true W h0 hc0 h1 hc1 (rSame eL2 (by decide) 20 (by decide)))
  clear hg
  go_enter Tryd.func15, Tryd.ntmps15
  go_wp2_with (first | (go_at_call 16; refine hT.mono ?_; rintro e w1 ⟨tv, rfl, hrt, hb1'⟩; have HB1 := Aside0.mk hb1'; have HT1 := Aside0.mk hrt; obtain ⟨TA, TC, rfl⟩ := Kd.R_slice hrt; clear hrt hb1') | (go_at_call 18; refine (hN.out _).mono ?_; rintro e w2 ⟨nv, rfl, hrn, hb2'⟩; have HB2 := Aside0.mk (HB1.out.trans (hb2'.mono HB1.out.size)); have HT2 := Aside0.mk (Kd.C_below (Kd.R_reads' HT1.out).2.2 hb2'); have HN2 := Aside0.mk hrn; obtain ⟨NA, NC, rfl⟩ := Kd.R_slice hrn; clear hrn hb2') | ((with_reducible refine gate_dst (N := 21) rfl ?_); refine Kd.R_lit k48 _ 48 ?hg (N := 21) ?hd (xs := eS) (inner := [.int .i64 1, .int .i64 2, .string ⟨#[120, 121]⟩]) (ok := fun _ => True) (okp := fun _ => True) ?hr ?hp (fun _ hk => hk) trivial (Below.refl _ _) (Nat.le_refl _) (by decide) ?_; (case hd => rfl); (case hg => rfl); (case hr => first | (go_simp; done) | (go_simp; rfl)); (case hp => exact (Reps.c3 (k48_mkM _ _ _ _) (Reps.none _ _))); intro v3 w3 ho3 hb3 hg_ hnew_; clear hg_ hnew_; have HB3 := Aside0.mk (HB2.out.trans (hb3.mono HB2.out.size)); have HT3 := Aside0.mk (Kd.C_below HT2.out hb3); have HN3 := Aside0.mk (Kd.C_below (Kd.R_reads' HN2.out).2.2 hb3); have HO3 := Aside0.mk ho3; obtain ⟨SA, SC, rfl⟩ := Kd.R_slice ho3; clear ho3 hb3) | (go_at_call 27; refine (hA.out SA SC _ (Kd.R_reads' HO3.out).2.2 (Kd.R_reads' HO3.out).2.1).mono ?_; rintro e w4 ⟨rfl, hb4⟩; have HB4 := Aside0.mk (HB3.out.trans (hb4.mono HB3.out.size)); have HT4 := Aside0.mk (Kd.C_below HT3.out hb4); have HN4 := Aside0.mk (Kd.C_below HN3.out hb4); clear hb4) | (go_at_call 21; refine (hR.out _ (HG.out.mono HB4.out)).mono ?_; rintro e w5 ⟨rfl, hb5⟩; have HB5 := Aside0.mk (HB4.out.trans (hb5.mono HB4.out.size)); have HT5 := Aside0.mk (Kd.C_below HT4.out hb5); have HN5 := Aside0.mk (Kd.C_below HN4.out hb5); clear hb5) | ((with_reducible refine gate_dst (N := 36) rfl ?_); (try (refine gate_guard (by rfl) ?_; dsimp only)); refine Kd.R_lit k35 _ 35 ?hg (N := 36) ?hd (xs := eL1) (inner := [.int .u8 1, .string ⟨#[120]⟩, .int .i64 0, .int .u8 4, .string ⟨#[58, 61]⟩, .int .i64 1, .int .u8 2, .string ⟨#[49]⟩, .int .i64 3]) (ok := fun _ => True) (okp := fun _ => True) ?hr ?hp (fun _ hk => hk) trivial (Below.refl _ _) (Nat.le_refl _) (by decide) ?_; (case hd => rfl); (case hg => rfl); (case hr => first | (go_simp; done) | (go_simp; rfl)); (case hp => exact (Reps.c3 (k35_mkM _ _ _ _) (Reps.c3 (k35_mkM _ _ _ _) (Reps.c3 (k35_mkM _ _ _ _) (Reps.none _ _))))); intro v6 w6 ho6 hb6 hg_ hnew_; clear hg_ hnew_; have HB6 := Aside0.mk (HB5.out.trans (hb6.mono HB5.out.size)); have HT6 := Aside0.mk (Kd.C_below HT5.out hb6); have HN6 := Aside0.mk (Kd.C_below HN5.out hb6); have HO6 := Aside0.mk ho6; obtain ⟨LA, LC, rfl⟩ := Kd.R_slice ho6; clear ho6 hb6) | (go_at_call 20; (with_reducible refine (hS1.out TA LA TC LC _ HT6.out (Kd.R_reads' HT1.out).2.1 (Kd.R_reads' HO6.out).2.2 (Kd.R_reads' HO6.out).2.1).mono ?_); rintro e w' ⟨rfl, ⟨nd7, rfl⟩⟩; have HB7 := Aside0.mk (pw_below_drewN HB6.out nd7); have HN7 := Aside0.mk (Kd.C_drewN HN6.out nd7)) | ((with_reducible refine gate_dst (N := 46) rfl ?_); (try (refine gate_guard (by rfl) ?_; dsimp only)); refine Kd.R_lit k35 _ 35 ?hg (N := 46) ?hd (xs := eL2) (inner := [.int .u8 5, .string ⟨#[97]⟩, .int .i64 2]) (ok := fun _ => True) (okp := fun _ => True) ?hr ?hp (fun _ hk => hk) trivial (Below.refl _ _) (Nat.le_refl _) (by decide) ?_; (case hd => rfl); (case hg => rfl); (case hr => first | (go_simp; done) | (go_simp; rfl)); (case hp => exact (Reps.c3 (k35_mkM _ _ _ _) (Reps.none _ _))); intro v8 w8 ho8 hb8 hg_ hnew_; clear hg_ hnew_; have HB8 := Aside0.mk (HB7.out.trans (hb8.mono HB7.out.size)); have HN8 := Aside0.mk (Kd.C_below HN7.out hb8); have HO8 := Aside0.mk ho8; obtain ⟨MA, MC, rfl⟩ := Kd.R_slice ho8; clear ho8 hb8) | (go_at_call 20; refine (hS2.out NA MA NC MC _ HN8.out (Kd.R_reads' HN2.out).2.1 (Kd.R_reads' HO8.out).2.2 (Kd.R_reads' HO8.out).2.1).mono ?_; rintro e w' ⟨rfl, ⟨nd9, rfl⟩⟩; have HB9 := Aside0.mk (pw_below_drewN HB8.out nd9)))
  go_ret
  exact ⟨rfl, HB9.out⟩
end Go.Proofs.YtggfcmondffodaaDoor.P
namespace Go.Proofs.YtggfcmondffodaaDoor.P
open Go.RowKit Go.Shelf Go.Maps Go.Proofs.YtggfcmondffodaaDoorW.PrintWords Go.Proofs.YtggfcmondffodaaDoorW.PrintLast Go.Proofs.YtggfcmondffodaaDoorW.PrintMore
set_option linter.unusedVariables false
set_option linter.unusedSimpArgs false
theorem Bl_ne (s t : ByteArray) : (s.toList != t.toList) = !decide (s = t) := by
  rw [bne, Bl]
set_option maxRecDepth 8000 in
set_option maxHeartbeats 8000000 in
theorem lexRenamed_any (s old name : ByteArray) (w : World) (hg : Gl w) : Calls Tryd.prog 5 #[.string s, .string old, .string name] w fun e w' => e = .returned (.bool true) ∧ Below w.heap.size w w' := by
  have HG := Aside0.mk hg
  by_cases hs : 3000 < s.size ∨ 100 < old.size ∨ 100 < name.size
  · have hA := awake_any w hg
    clear hg
    have main : ∀ b1 b2 b3 : Bool, decide (3000 < s.size) = b1 → decide ((3000 : Int) < (s.size : Int)) = b1 → decide (100 < old.size) = b2 → decide ((100 : Int) < (old.size : Int)) = b2 → decide (100 < name.size) = b3 → decide ((100 : Int) < (name.size : Int)) = b3 → (b1 || b2 || b3) = true → Calls Tryd.prog 5 #[.string s, .string old, .string name] w fun e w' => e = .returned (.bool true) ∧ Below w.heap.size w w' := by
      intro b1 b2 b3 g1 g2 g3 g4 g5 g6 hb
      clear hs
      cases b1 <;> cases b2 <;> cases b3 <;> first
      | (exact absurd hb (by decide))
      | (clear hb
         go_enter Tryd.func5, Tryd.ntmps5
         go_wp2_with (go_at_call 15; refine hA.mono ?_; rintro e w1 ⟨rfl, hb1⟩)
         go_ret
         exact ⟨rfl, hb1⟩)
    refine main _ _ _ rfl (decide_eq_decide.2 (by omega)) rfl (decide_eq_decide.2 (by omega)) rfl (decide_eq_decide.2 (by omega)) ?_
    rcases hs with h | h | h <;> simp [h]
  · have hs1 : ¬ 3000 < s.size := fun h => hs (.inl h)
    have hs2 : ¬ 100 < old.size := fun h => hs (.inr (.inl h))
    have hs3 : ¬ 100 < name.size := fun h => hs (.inr (.inr h))
    have g1 : decide (3000 < s.size) = false := decide_eq_false hs1
    have g2 : decide ((3000 : Int) < (s.size : Int)) = false := decide_eq_false (by omega)
    have g3 : decide (100 < old.size) = false := decide_eq_false hs2
    have g4 : decide ((100 : Int) < (old.size : Int)) = false := decide_eq_false (by omega)
    have g5 : decide (100 < name.size) = false := decide_eq_false hs3
    have g6 : decide ((100 : Int) < (name.size : Int)) = false := decide_eq_false (by omega)
    have hT := Rename_any s old name w hg (by omega) (by omega) (by omega)
    have hA := Aside0.mk (fun (W : World) (h : Gl W) => awake_any W h)
    obtain ⟨U, hU⟩ : ∃ U, renM s old name = U := ⟨_, rfl⟩
    rw [hU] at hT
    obtain ⟨t, e⟩ := U
    simp only at hT
    by_cases he : e = 0
    · subst he
      obtain ⟨m1, m2, m3, m4⟩ := renamed s old name t hU
      have hts := (toks_ord t m3).2.2
      have hal := (toks_ord s m2).2.1
      have hlen := m4.length
      have hat := Aside0.mk m4.at
      have hT2 := Aside0.mk (fun (W : World) (h : Gl W) => Rename_any t name old W h (by omega) (by omega) (by omega))
      rw [m1] at hT2
      have hK1 := Aside0.mk (fun (W : World) (h : Gl W) => Tokens_any s W h (by omega))
      have hK2 := Aside0.mk (fun (W : World) (h : Gl W) => Tokens_any t W h (by omega))
      clear m1 m4 hU
      generalize toksM kwM s = T1 at *
      generalize toksM kwM t = T2 at *
      obtain ⟨al, ap, ae⟩ := T1
      obtain ⟨bl, bp, be⟩ := T2
      simp only at hT2 hK1 hK2 m2 m3 hal hlen hat
      subst m2
      subst m3
      have hl1 : ((al.length : Int) != (bl.length : Int)) = false := by rw [hlen]; exact bne_self_eq_false _
      have hl2 : (al.length != bl.length) = false := by rw [hlen]; exact bne_self_eq_false _
      have HLEN := Aside0.mk hlen
      clear hg hs hs1 hs2 hs3 hlen
      go_enter Tryd.func5, Tryd.ntmps5
      go_wp2_with (first | (go_at_call 21; with_reducible refine hT.mono ?_; rintro e' w1 ⟨rfl, hb1'⟩; have HB1 := Aside0.mk hb1'; clear hb1' hT) | (go_at_call 21; refine (hT2.out _ (HG.out.mono HB1.out)).mono ?_; rintro e' w2 ⟨rfl, hb2'⟩; have HB2 := Aside0.mk (HB1.out.trans (hb2'.mono HB1.out.size)); clear hb2') | (go_at_call 16; with_reducible refine (hK1.out _ (HG.out.mono HB2.out)).mono ?_; rintro e' w3 ⟨tv, rfl, hrt, hb3'⟩; have HB3 := Aside0.mk (HB2.out.trans (hb3'.mono HB2.out.size)); have HT3 := Aside0.mk hrt; obtain ⟨TA, TC, rfl⟩ := Kd.R_slice hrt; clear hrt hb3') | (go_at_call 16; refine (hK2.out _ (HG.out.mono HB3.out)).mono ?_; rintro e' w4 ⟨tv2, rfl, hrt2, hb4'⟩; have HB4 := Aside0.mk (HB3.out.trans (hb4'.mono HB3.out.size)); have HT4 := Aside0.mk (Kd.C_below (Kd.R_reads' HT3.out).2.2 hb4'); have HRT4 := Aside0.mk hrt2; obtain ⟨RA, RC, rfl⟩ := Kd.R_slice hrt2; have HR4 := Aside0.mk (Kd.R_reads' HRT4.out).2.2; clear hrt2 hb4'))
      go_loopg [17, 18] al.length (fun gg s17 s18 wr => ∃ (i : Nat) (v : Value), s17 = .int .i64 i ∧ s18 = v ∧ i ≤ al.length ∧ al.length - i ≤ gg ∧ Aside0 (Below w4.heap.size w4 wr))
      case atStart => exact ⟨0, _, rfl, rfl, Nat.zero_le _, by omega, ⟨Below.refl _ _⟩⟩
      case round =>
        obtain ⟨i, v, rfl, rfl, hi, hgk, HBW⟩ := hrel
        by_cases hlt : i < al.length
        · have hltz : (i : Int) < (al.length : Int) := by omega
          have hltz2 : (i : Int) < (bl.length : Int) := by have := HLEN.out; omega
          obtain ⟨ad, e0, x0, x1, x2⟩ := at_T35 HT4.out (i : Int) (by omega) hltz
          obtain ⟨bd, e1, y0, y1, y2⟩ := at_T35 HR4.out (i : Int) (by omega) hltz2
          have hp := hat.out i hlt
          rw [Int.toNat_natCast] at x0 x1 x2 y0 y1 y2
          generalize rd_T35 al (i : Int) = y at *
          generalize rd_T35 bl (i : Int) = z at *
          obtain ⟨yk, yx, ya⟩ := y
          obtain ⟨zk, zx, za⟩ := z
          simp only at x0 x1 x2 y0 y1 y2
          obtain ⟨hk, hp⟩ := hp
          simp only at hk hp
          subst hk
          replace x0 := (HBW.out.cell (World.block_lt_of_cell? w4 _ x0)).trans x0
          replace x1 := (HBW.out.cell (World.block_lt_of_cell? w4 _ x1)).trans x1
          replace y0 := (HBW.out.cell (World.block_lt_of_cell? w4 _ y0)).trans y0
          replace y1 := (HBW.out.cell (World.block_lt_of_cell? w4 _ y1)).trans y1
          clear x2 y2
          subst e0 e1
          rcases hp with ⟨rfl, hp⟩ | ⟨rfl, rfl, rfl⟩
          · have q1 : (yx.toList != old.toList) = true := by rw [Bl_ne, decide_eq_false hp]; rfl
            have q2 : (yx.toList == old.toList) = false := by rw [Bl, decide_eq_false hp]
            clear hp
            go_wp2
            go_quiet (fail)
            go_wp2
            go_quiet (fail)
            go_wp2
            go_roundg (al.length - (i + 1))
            case measure => omega
            case rel => exact ⟨i + 1, _, by go_num, rfl, by omega, by omega, ⟨by first | exact HBW.out | exact pw_below_drewN HBW.out _ | exact HBW.out.drew⟩⟩
          · have q1 : (yx.toList == zx.toList) = decide (yx = zx) := Bl _ _
            have q2 : (yx.toList != yx.toList) = false := bne_self_eq_false _
            have q3 : (yx.toList == yx.toList) = true := beq_self_eq_true _
            generalize decide (yx = zx) = b at *
            cases b with
            | true =>
              go_wp2
              go_quiet (fail)
              go_wp2
              go_quiet (fail)
              go_wp2
              go_roundg (al.length - (i + 1))
              case measure => omega
              case rel => exact ⟨i + 1, _, by go_num, rfl, by omega, by omega, ⟨by first | exact HBW.out | exact pw_below_drewN HBW.out _ | exact HBW.out.drew⟩⟩
            | false =>
              go_wp2
              go_quiet (fail)
              go_wp2
              go_quiet (fail)
              go_wp2
              go_roundg (al.length - (i + 1))
              case measure => omega
              case rel => exact ⟨i + 1, _, by go_num, rfl, by omega, by omega, ⟨by first | exact HBW.out | exact pw_below_drewN HBW.out _ | exact HBW.out.drew⟩⟩
        · have hlt2 : decide ((i : Int) < (al.length : Int)) = false := decide_eq_false (by omega)
          have hlt3 : decide (i < al.length) = false := decide_eq_false hlt
          have HB5 := Aside0.mk (HB4.out.trans (HBW.out.mono HB4.out.size))
          go_wp2_with (go_at_call 15; refine (hA.out _ (HG.out.mono HB5.out)).mono ?_; rintro e' w6 ⟨rfl, hb6⟩; have HB6 := Aside0.mk (HB5.out.trans (hb6.mono HB5.out.size)); clear hb6)
          go_ret
          exact ⟨rfl, HB6.out⟩
    · have hb1 : (e == 0) = false := beq_false_of_ne he
      have hb2 : (e != 0) = true := bne_iff_ne.2 he
      clear hU hg hs hs1 hs2 hs3
      go_enter Tryd.func5, Tryd.ntmps5
      go_wp2_with (first | (go_at_call 21; refine hT.mono ?_; rintro e' w1 ⟨rfl, hb1'⟩; have HB1 := Aside0.mk hb1'; clear hb1') | (go_at_call 15; refine (hA.out _ (HG.out.mono HB1.out)).mono ?_; rintro e' w3 ⟨rfl, hb3⟩; have HB3 := Aside0.mk (HB1.out.trans (hb3.mono HB1.out.size)); clear hb3))
      go_ret
      exact ⟨rfl, HB3.out⟩
end Go.Proofs.YtggfcmondffodaaDoor.P
namespace Go.Proofs.YtggfcmondffodaaDoor.P
open Go.RowKit
set_option linter.unusedVariables false
/-- The four listed variables, as each row lists them. -/
def laidL : List (String × DataW Unit) := [("unicode/utf8.acceptRanges", Rows.laid_unicode_utf8_acceptRanges), ("unicode.White_Space", Rows.laid_unicode_White_Space), ("strings.asciiSpace", Rows.laid_strings_asciiSpace), ("unicode/utf8.first", Rows.laid_unicode_utf8_first)]
def aspT : List Int := (List.range 256).map fun (i : Nat) => if aspB (i : Int) = true then 1 else 0
theorem aspT_len : aspT.length = 256 := by simp [aspT]
theorem aspT_at (c : Nat) (h : c < 256) : aspT.getD c 0 = if aspB (c : Int) = true then 1 else 0 := by
  unfold aspT
  rw [List.getD_eq_getElem?_getD, List.getElem?_map, List.getElem?_range h]
  rfl
theorem asp_data : (Rows.laid_strings_asciiSpace : DataW Unit) = Lib.tabData .u8 aspT := by kernel_rfl
theorem gl_of_laid {W : World} (h : laidMetH Tryd.prog laidL W) : Gl W := by
  rw [MakeChecks.laidMetH_plain _ _ _ (by kernel_rfl)] at h
  obtain ⟨ps, ⟨g0, t0, cs0, f0, p0, q0, hg0, ht0, hv0, hd0, ⟨g1, t1, cs1, f1, p1, q1, hg1, ht1, hv1, hd1, ⟨g2, t2, cs2, f2, p2, q2, hg2, ht2, hv2, hd2, _, _⟩, _⟩, _⟩, _, _⟩ := h
  obtain rfl := Option.some.inj ((show Tryd.prog.globalNamed "strings.asciiSpace" = some 0 by kernel_rfl).symm.trans hg2)
  obtain rfl := Option.some.inj ((show (Tryd.prog.globals[0]?).map (·.type) = some 121 by kernel_rfl).symm.trans ht2)
  rw [asp_data] at hd2
  have hcs := Lib.cells_of_tab Tryd.underlying121 Tryd.underlying5 (by kernel_rfl) (by kernel_rfl) hd2
  intro c hc
  rw [World.var?_cell hg2 hv2 c]
  have h1 : cs2[c]? = some (.int .u8 (aspT.getD c 0)) := by
    have : cs2.toList[c]? = some (.int .u8 (aspT.getD c 0)) := by
      rw [hcs, List.getElem?_map, List.getElem?_eq_getElem (by rw [aspT_len]; exact hc)]
      simp [List.getD, List.getElem?_eq_getElem (show c < aspT.length by rw [aspT_len]; exact hc)]
    simpa using this
  rw [h1, aspT_at c hc]
end Go.Proofs.YtggfcmondffodaaDoor.P
