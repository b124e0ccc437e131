/- What the claim's law needs, many texts in one (Xq P15 Ys Yt Yu Yv Yw Yc Yx Xz). No conditions of its own. -/
import Derived.Test.YtggfcmondffodaaDoorZk11
import Derived.Test.YtggfcmondffodaaDoorZk2
import Derived.Test.YtggfcmondffodaaDoorZk3
import Derived.Test.YtggfcmondffodaaDoorZk10
import Derived.StillTailTactics
import Derived.Deep.QuietTactic
import Derived.BigQuiet
import Derived.Deep.RegionWith
import Derived.BigCall
import Derived.Deep.Slices
import Derived.Lib.SmallJoins
import Derived.OpenShut
import Derived.ChangeOld
import Derived.WideShapes
import Derived.ProofKit
import Derived.SizedLaws
import Derived.Test.YtggfcmondffodaaDoorRows
import Derived.Test.YtggfcmondffodaaDoorZk4
import Derived.LaidMore
import Derived.Lay
import Derived.Lib.LaidTab
import Derived.Stop.Joined
set_option linter.unusedVariables false
set_option linter.unusedSimpArgs false
namespace Go.Proofs.YtggfcmondffodaaDoor.P
open Go.RowKit Go.Shelf Go.Maps Go.Proofs.YtggfcmondffodaaDoorW.PrintWords Go.Proofs.YtggfcmondffodaaDoorW.PrintLast Go.Proofs.YtggfcmondffodaaDoorW.PrintMore
set_option linter.unusedVariables false
set_option linter.unusedSimpArgs false
set_option maxHeartbeats 2000000 in
theorem Apply_ok (s : ByteArray) (A : Option Addr) (c : Nat) (l : List Sp) (k : Nat) (w : World) (hr : Kd.C k48 w A l.length l) (hc : l.length ≤ c) (hs : s.size ≤ 1000000000) (hll : l.length ≤ 1000000000) (h : lex_splices.f k s l = some 0) (ho : OrdS s.size l 0) (hb : (splB s l 0).length ≤ 1000000000) :
    Calls Tryd.prog 27 #[.string s, .slice A l.length c] w fun e w' => e = .returned (.tuple #[.string (splM s l), .int .i64 0]) ∧ Below w.heap.size w w' := by
  have h1 := lex_splices.calls k s A c l 0 w hr hc h
  have h2 := fun W (h : Below w.heap.size w W) => spliced_any s A c l W (Kd.C_below hr h) hs hll ho hb
  generalize splM s l = out at *
  clear hr ho hb h
  go_enter Tryd.func27, Tryd.ntmps27
  go_wp2_with (first | (go_at_call 56; refine h1.mono ?_; rintro e w1 ⟨rfl, hb1⟩) | (go_at_call 51; refine (h2 _ hb1).mono ?_; rintro e w2 ⟨rfl, hb2⟩))
  go_ret2
  exact ⟨rfl, hb1.trans (hb2.mono hb1.size)⟩
/-! ### The document's examples -/
def eT1 : ByteArray := ⟨#[120, 58, 61, 49, 32, 126, 97]⟩
def eT2 : ByteArray := ⟨#[120, 32, 126, 97]⟩
def eT3 : ByteArray := ⟨#[97, 98, 99]⟩
def eT4 : ByteArray := ⟨#[120, 32, 43, 32, 120, 115]⟩
def eL1 : List Tk := [⟨1, ⟨#[120]⟩, 0⟩, ⟨4, ⟨#[58, 61]⟩, 1⟩, ⟨2, ⟨#[49]⟩, 3⟩]
def eL2 : List Tk := [⟨5, ⟨#[97]⟩, 2⟩]
def eS : List Sp := [⟨1, 2, ⟨#[120, 121]⟩⟩]
theorem ex1 : toksM kwM eT1 = (eL1, 0, 0) := by kernel_rfl
theorem ex2 : notesM eT2 = (eL2, 0) := by kernel_rfl
theorem ex3 : lex_splices.f 60 eT3 eS = some 0 := by kernel_rfl
theorem ex4 : splM eT3 eS = ⟨#[97, 120, 121, 99]⟩ := by kernel_rfl
theorem ex5 : renM eT4 ⟨#[120]⟩ ⟨#[121]⟩ = (⟨#[121, 32, 43, 32, 120, 115]⟩, 0) := by kernel_rfl
set_option maxRecDepth 8000 in
set_option maxHeartbeats 8000000 in
theorem awake_any (w : World) (hg : Gl w) : Calls Tryd.prog 15 #[] w fun e w' => e = .returned (.bool true) ∧ Below w.heap.size w w' := by
  have HG := Aside0.mk hg
  have hT := Tokens_any eT1 w hg (by decide)
  rw [ex1] at hT
  have hN := Aside0.mk (fun W => Notes_any eT2 W (by decide))
  rw [ex2] at hN
  have hA := Aside0.mk (fun (A : Option Addr) (c : Nat) (W : World) (h : Kd.C k48 W A eS.length eS) (hc : eS.length ≤ c) => Apply_ok eT3 A c eS 60 W h hc (by decide) (by decide) ex3 (by unfold eS OrdS OrdS; decide) (by rw [show splB eT3 eS 0 = (splM eT3 eS).data.toList from rfl, ex4]; decide))
  rw [ex4] at hA
  have hR := Aside0.mk (fun (W : World) (h : Gl W) => Rename_any eT4 ⟨#[120]⟩ ⟨#[121]⟩ W h (by decide) (by decide) (by decide))
  rw [ex5] at hR
  have hS1 := Aside0.mk (fun (A0 A1 : Option Addr) (c0 c1 : Nat) (W : World) (h0 : Kd.C k35 W A0 eL1.length eL1) (hc0 : eL1.length ≤ c0) (h1 : Kd.C k35 W A1 eL1.length eL1) (hc1 : eL1.length ≤ c1) => riposteref01_SameTokens.calls 20 A0 c0 eL1 A1 c1 eL1 true W h0 hc0 h1 hc1 (rSame eL1 (by decide) 20 (by decide)))
  have hS2 := Aside0.mk (fun (A0 A1 : Option Addr) (c0 c1 : Nat) (W : World) (h0 : Kd.C k35 W A0 eL2.length eL2) (hc0 : eL2.length ≤ c0) (h1 : Kd.C k35 W A1 eL2.length eL2) (hc1 : eL2.length ≤ c1) => riposteref01_SameTokens.calls 20 A0 c0 eL2 A1 c1 eL2 true W h0 hc0 h1 hc1 (rSame eL2 (by decide) 20 (by decide)))
  clear hg
  go_enter Tryd.func15, Tryd.ntmps15
  go_wp2_with (first | (go_at_call 16; refine hT.mono ?_; rintro e w1 ⟨tv, rfl, hrt, hb1'⟩; have HB1 := Aside0.mk hb1'; have HT1 := Aside0.mk hrt; obtain ⟨TA, TC, rfl⟩ := Kd.R_slice hrt; clear hrt hb1') | (go_at_call 18; refine (hN.out _).mono ?_; rintro e w2 ⟨nv, rfl, hrn, hb2'⟩; have HB2 := Aside0.mk (HB1.out.trans (hb2'.mono HB1.out.size)); have HT2 := Aside0.mk (Kd.C_below (Kd.R_reads' HT1.out).2.2 hb2'); have HN2 := Aside0.mk hrn; obtain ⟨NA, NC, rfl⟩ := Kd.R_slice hrn; clear hrn hb2') | ((with_reducible refine gate_dst (N := 21) rfl ?_); refine Kd.R_lit k48 _ 48 ?hg (N := 21) ?hd (xs := eS) (inner := [.int .i64 1, .int .i64 2, .string ⟨#[120, 121]⟩]) (ok := fun _ => True) (okp := fun _ => True) ?hr ?hp (fun _ hk => hk) trivial (Below.refl _ _) (Nat.le_refl _) (by decide) ?_; (case hd => rfl); (case hg => rfl); (case hr => first | (go_simp; done) | (go_simp; rfl)); (case hp => exact (Reps.c3 (k48_mkM _ _ _ _) (Reps.none _ _))); intro v3 w3 ho3 hb3 hg_ hnew_; clear hg_ hnew_; have HB3 := Aside0.mk (HB2.out.trans (hb3.mono HB2.out.size)); have HT3 := Aside0.mk (Kd.C_below HT2.out hb3); have HN3 := Aside0.mk (Kd.C_below (Kd.R_reads' HN2.out).2.2 hb3); have HO3 := Aside0.mk ho3; obtain ⟨SA, SC, rfl⟩ := Kd.R_slice ho3; clear ho3 hb3) | (go_at_call 27; refine (hA.out SA SC _ (Kd.R_reads' HO3.out).2.2 (Kd.R_reads' HO3.out).2.1).mono ?_; rintro e w4 ⟨rfl, hb4⟩; have HB4 := Aside0.mk (HB3.out.trans (hb4.mono HB3.out.size)); have HT4 := Aside0.mk (Kd.C_below HT3.out hb4); have HN4 := Aside0.mk (Kd.C_below HN3.out hb4); clear hb4) | (go_at_call 21; refine (hR.out _ (HG.out.mono HB4.out)).mono ?_; rintro e w5 ⟨rfl, hb5⟩; have HB5 := Aside0.mk (HB4.out.trans (hb5.mono HB4.out.size)); have HT5 := Aside0.mk (Kd.C_below HT4.out hb5); have HN5 := Aside0.mk (Kd.C_below HN4.out hb5); clear hb5) | ((with_reducible refine gate_dst (N := 36) rfl ?_); (try (refine gate_guard (by rfl) ?_; dsimp only)); refine Kd.R_lit k35 _ 35 ?hg (N := 36) ?hd (xs := eL1) (inner := [.int .u8 1, .string ⟨#[120]⟩, .int .i64 0, .int .u8 4, .string ⟨#[58, 61]⟩, .int .i64 1, .int .u8 2, .string ⟨#[49]⟩, .int .i64 3]) (ok := fun _ => True) (okp := fun _ => True) ?hr ?hp (fun _ hk => hk) trivial (Below.refl _ _) (Nat.le_refl _) (by decide) ?_; (case hd => rfl); (case hg => rfl); (case hr => first | (go_simp; done) | (go_simp; rfl)); (case hp => exact (Reps.c3 (k35_mkM _ _ _ _) (Reps.c3 (k35_mkM _ _ _ _) (Reps.c3 (k35_mkM _ _ _ _) (Reps.none _ _))))); intro v6 w6 ho6 hb6 hg_ hnew_; clear hg_ hnew_; have HB6 := Aside0.mk (HB5.out.trans (hb6.mono HB5.out.size)); have HT6 := Aside0.mk (Kd.C_below HT5.out hb6); have HN6 := Aside0.mk (Kd.C_below HN5.out hb6); have HO6 := Aside0.mk ho6; obtain ⟨LA, LC, rfl⟩ := Kd.R_slice ho6; clear ho6 hb6) | (go_at_call 20; (with_reducible refine (hS1.out TA LA TC LC _ HT6.out (Kd.R_reads' HT1.out).2.1 (Kd.R_reads' HO6.out).2.2 (Kd.R_reads' HO6.out).2.1).mono ?_); rintro e w' ⟨rfl, ⟨nd7, rfl⟩⟩; have HB7 := Aside0.mk (pw_below_drewN HB6.out nd7); have HN7 := Aside0.mk (Kd.C_drewN HN6.out nd7)) | ((with_reducible refine gate_dst (N := 46) rfl ?_); (try (refine gate_guard (by rfl) ?_; dsimp only)); refine Kd.R_lit k35 _ 35 ?hg (N := 46) ?hd (xs := eL2) (inner := [.int .u8 5, .string ⟨#[97]⟩, .int .i64 2]) (ok := fun _ => True) (okp := fun _ => True) ?hr ?hp (fun _ hk => hk) trivial (Below.refl _ _) (Nat.le_refl _) (by decide) ?_; (case hd => rfl); (case hg => rfl); (case hr => first | (go_simp; done) | (go_simp; rfl)); (case hp => exact (Reps.c3 (k35_mkM _ _ _ _) (Reps.none _ _))); intro v8 w8 ho8 hb8 hg_ hnew_; clear hg_ hnew_; have HB8 := Aside0.mk (HB7.out.trans (hb8.mono HB7.out.size)); have HN8 := Aside0.mk (Kd.C_below HN7.out hb8); have HO8 := Aside0.mk ho8; obtain ⟨MA, MC, rfl⟩ := Kd.R_slice ho8; clear ho8 hb8) | (go_at_call 20; refine (hS2.out NA MA NC MC _ HN8.out (Kd.R_reads' HN2.out).2.1 (Kd.R_reads' HO8.out).2.2 (Kd.R_reads' HO8.out).2.1).mono ?_; rintro e w' ⟨rfl, ⟨nd9, rfl⟩⟩; have HB9 := Aside0.mk (pw_below_drewN HB8.out nd9)))
  go_ret
  exact ⟨rfl, HB9.out⟩
end Go.Proofs.YtggfcmondffodaaDoor.P
namespace Go.Proofs.YtggfcmondffodaaDoor.P
open Go.RowKit Go.Proofs.YtggfcmondffodaaDoorW.PrintWords Go.Proofs.YtggfcmondffodaaDoorW.PrintLast Go.Proofs.YtggfcmondffodaaDoorW.PrintMore
attribute [local go_sem] min2_int min_two -- for this text's walks alone
set_option linter.unusedVariables false
set_option linter.unusedSimpArgs false

-- NOT PRINTED: function 8 (ripostelaw01_LexKeeps)

-- NOT PRINTED: function 9 (ripostelaw01_LexFar)

-- NOT PRINTED: function 10 (ripostelaw01_LexUndone)

/-! ### ripostelaw01_short: function 35 -/
def ripostelaw01_short.l0 : Nat → List (S35) → Int → Option (Bool)
  | 0, _, _ => none
  | k + 1, x0, x3 => if x3 < (x0.length : Int) then (if 0 ≤ x3 then (if (((rd_T35 x0 x3).f1).size : Int) > 100 then (some false) else (ripostelaw01_short.l0 k x0 (wrap64 (x3 + 1)))) else (none)) else (some (decide ((x0.length : Int) ≤ 1000)))
def ripostelaw01_short.f (k : Nat) (l0 : List (S35)) : Option (Bool) := ripostelaw01_short.l0 k l0 0
set_option maxHeartbeats 8000000 in
set_option maxRecDepth 100000 in
theorem ripostelaw01_short.calls (k : Nat) (A0 : Option Addr) (c0 : Nat) (l0 : List (S35)) (r : Bool) (w : World) (hr0 : Kd.C k35 w A0 l0.length l0) (hc0 : l0.length ≤ c0) (h : ripostelaw01_short.f k l0 = some r) :
    Calls Tryd.prog 35 #[.slice A0 l0.length c0] w fun e w' => e = .returned (.bool r) ∧ Drawn0 w w' := by
  have HR0 := Aside0.mk hr0
  have HC0 := Aside0.mk hc0
  clear hr0 hc0
  have H : (ripostelaw01_short.l0 k l0 0) = some r := h
  clear h
  have H' := Aside0.mk H
  clear H
  go_enter Tryd.func35, Tryd.ntmps35
  go_wp2
  go_loopg [3] k (fun kq v3 w' => ∃ (x3_1 : Int), v3 = .int .i64 x3_1 ∧ Aside0 (ripostelaw01_short.l0 kq l0 x3_1 = some r) ∧ Aside0 (kq ≤ k) ∧ Drawn0 w w')
  case atStart => exact ⟨(0), (by first | rfl | (simp; done) | (simp [*]; done)), H', ⟨Nat.le_refl _⟩, by repeat (first | exact Drawn0.refl _ | apply Drawn0.step)⟩
  case round =>
    clear H'
    obtain ⟨x3_1, rfl, HA, HK1, ⟨m1, rfl⟩⟩ := hrel
    cases gk with
    | zero => exact absurd HA.out (by simp [ripostelaw01_short.l0])
    | succ k1 =>
      have H := HA.out
      clear HA
      simp only [ripostelaw01_short.l0] at H
      by_cases c2 : x3_1 < (l0.length : Int)
      · rw [if_pos c2] at H
        have c2b0 : decide (x3_1 < (l0.length : Int)) = true := decide_eq_true c2
        clear c2
        by_cases c3 : 0 ≤ x3_1
        · rw [if_pos c3] at H
          have c3b0 : decide (0 ≤ x3_1) = true := decide_eq_true c3
          clear c3
          by_cases c4 : (((rd_T35 l0 x3_1).f1).size : Int) > 100
          · rw [if_pos c4] at H
            have c4b0 : decide (100 < (((rd_T35 l0 x3_1).f1).size : Int)) = true := decide_eq_true c4
            have c4b1 : decide (100 < ((rd_T35 l0 x3_1).f1).size) = true := decide_eq_true (by omega)
            clear c4
            obtain rfl := Option.some.inj H
            have p320 : 0 ≤ (x3_1 : Int) := of_decide_eq_true (by first | (with_reducible assumption) | assumption)
            have q320 : x3_1 < (l0.length : Int) := of_decide_eq_true (by first | (with_reducible assumption) | assumption)
            obtain ⟨ad320, e320, hx320_0, hx320_1, hx320_2⟩ := at_T35 HR0.out x3_1 p320 q320
            cases e320
            replace p320 := eq_true p320
            replace q320 := eq_true q320
            go_wp2
            go_ret
            exact ⟨by first | rfl | (simp; done) | (simp [*]; done), by repeat (first | exact Drawn0.refl _ | apply Drawn0.step)⟩
          · rw [if_neg c4] at H
            have c4b0 : decide (100 < (((rd_T35 l0 x3_1).f1).size : Int)) = false := decide_eq_false c4
            have c4b1 : decide (100 < ((rd_T35 l0 x3_1).f1).size) = false := decide_eq_false (by omega)
            clear c4
            have H' := Aside0.mk H
            clear H
            have p320 : 0 ≤ (x3_1 : Int) := of_decide_eq_true (by first | (with_reducible assumption) | assumption)
            have q320 : x3_1 < (l0.length : Int) := of_decide_eq_true (by first | (with_reducible assumption) | assumption)
            obtain ⟨ad320, e320, hx320_0, hx320_1, hx320_2⟩ := at_T35 HR0.out x3_1 p320 q320
            cases e320
            replace p320 := eq_true p320
            replace q320 := eq_true q320
            go_wp2
            go_roundg k1
            case measure => have := HK1.out; omega
            case rel => exact ⟨(wrap64 (x3_1 + 1)), (by first | rfl | (simp; done) | (simp [*]; done)), H', ⟨by have := HK1.out; omega⟩, by repeat (first | exact Drawn0.refl _ | apply Drawn0.step)⟩
        · rw [if_neg c3] at H
          exact absurd H (by simp)
      · rw [if_neg c2] at H
        have c2b0 : decide (x3_1 < (l0.length : Int)) = false := decide_eq_false c2
        clear c2
        obtain rfl := Option.some.inj H
        go_wp2
        go_ret
        exact ⟨by first | rfl | (simp; done) | (simp [*]; done), by repeat (first | exact Drawn0.refl _ | apply Drawn0.step)⟩

-- NOT PRINTED: function 64 (lex_tokens)

/-! ### lex_isApart: function 65 -/
def lex_isApart.f (a0_0 : Int) (a0_1 : ByteArray) (a0_2 : Int) (a1_0 : Int) (a1_1 : ByteArray) (a1_2 : Int) : Option (Bool) := if a0_0 = 4 then (if a0_1.toList = ([58] : List UInt8) then (some (a1_1.toList == ([61] : List UInt8))) else (some false)) else (if a1_0 = 4 then (if a0_1.toList = ([58] : List UInt8) then (some (a1_1.toList == ([61] : List UInt8))) else (some false)) else (some true))
set_option maxHeartbeats 8000000 in
set_option maxRecDepth 100000 in
theorem lex_isApart.calls (a0_0 : Int) (a0_1 : ByteArray) (a0_2 : Int) (a1_0 : Int) (a1_1 : ByteArray) (a1_2 : Int) (r : Bool) (w : World) (h : lex_isApart.f a0_0 a0_1 a0_2 a1_0 a1_1 a1_2 = some r) :
    Calls Tryd.prog 65 #[.agg #[.int .u8 a0_0, .string a0_1, .int .i64 a0_2], .agg #[.int .u8 a1_0, .string a1_1, .int .i64 a1_2]] w fun e w' => e = .returned (.bool r) ∧ Below w.heap.size w w' := by
  have hu35 := Tryd.underlying35
  have HB := Aside0.mk (Below.refl w.heap.size w)
  have H : (if a0_0 = 4 then (if a0_1.toList = ([58] : List UInt8) then (some (a1_1.toList == ([61] : List UInt8))) else (some false)) else (if a1_0 = 4 then (if a0_1.toList = ([58] : List UInt8) then (some (a1_1.toList == ([61] : List UInt8))) else (some false)) else (some true))) = some r := h
  clear h
  by_cases c3 : a0_0 = 4
  · rw [if_pos c3] at H
    have c3b0 : (a0_0 == 4) = true := beq_iff_eq.mpr c3
    have c3b1 : (a0_0 != 4) = false := bne_eq_false_iff_eq.mpr c3
    clear c3
    by_cases c4 : a0_1.toList = ([58] : List UInt8)
    · rw [if_pos c4] at H
      have c4b0 : (a0_1.toList == ([58] : List UInt8)) = true := beq_iff_eq.mpr c4
      have c4b1 : (a0_1.toList != ([58] : List UInt8)) = false := bne_eq_false_iff_eq.mpr c4
      clear c4
      obtain rfl := Option.some.inj H
      go_enter Tryd.func65, Tryd.ntmps65
      go_wp2_with (first | ((with_reducible refine gate_dst (N := 2) rfl ?_); refine box_event ?hg (N := 2) ?hd (cs := #[.int .u8 a0_0, .string a0_1, .int .i64 a0_2]) (t := 35) ?hr ?_; (case hd => rfl); (case hg => rfl); (case hr => first | (go_simp; done) | (go_simp; rfl)); intro gb323 hg w5 hbox hb; have n0_ := Aside0.mk (below_step (by repeat (first | (with_reducible first | exact HB.out | apply below_alloc | apply pw_below_drewN | apply below_drew1) | exact HB.out)) hb); have n1_ := Aside0.mk (hbox); have n2_ := Aside0.mk ((by rw [hg]; exact (below_size (by repeat (first | (with_reducible first | exact HB.out | apply below_alloc | apply pw_below_drewN | apply below_drew1) | exact HB.out))) : w.heap.size ≤ gb323)); have n3_ := Aside0.mk ((by rw [hg]; exact (below_size (by repeat (first | (with_reducible first | exact HB.out | apply below_alloc | apply pw_below_drewN | apply below_drew1) | exact HB.out))) : w.heap.size ≤ gb323)); clear HB; have HB := n0_; have BK323 := n1_; have GW323 := n2_; have GE323 := n3_; clear n0_ n1_ n2_ n3_; clear hb hbox hg) | ((with_reducible refine gate_dst (N := 3) rfl ?_); refine box_event ?hg (N := 3) ?hd (cs := #[.int .u8 a1_0, .string a1_1, .int .i64 a1_2]) (t := 35) ?hr ?_; (case hd => rfl); (case hg => rfl); (case hr => first | (go_simp; done) | (go_simp; rfl)); intro gb324 hg w6 hbox hb; have n0_ := Aside0.mk (blk_below (g := gb323) (o := .cells #[.int .u8 a0_0, .string a0_1, .int .i64 a0_2] 35 (0, 0)) (by (with_reducible repeat (first | refine blk_drewN ?_ _ | refine blk_drew ?_ | refine blk_alloc ?_ _)); exact BK323.out) hb); have n1_ := Aside0.mk (below_step (by repeat (first | (with_reducible first | exact HB.out | apply below_alloc | apply pw_below_drewN | apply below_drew1 | refine below_set ?_ GE323.out) | exact HB.out)) hb); have n2_ := Aside0.mk (hbox); have n3_ := Aside0.mk ((by rw [hg]; exact (below_size (by repeat (first | (with_reducible first | exact HB.out | apply below_alloc | apply pw_below_drewN | apply below_drew1 | refine below_set ?_ GE323.out) | exact HB.out))) : w.heap.size ≤ gb324)); have n4_ := Aside0.mk ((by rw [hg]; exact (below_size (by repeat (first | (with_reducible first | exact HB.out | apply below_alloc | apply pw_below_drewN | apply below_drew1 | refine below_set ?_ GE323.out) | exact HB.out))) : w.heap.size ≤ gb324)); have n5_ := Aside0.mk ((by rw [hg]; exact Nat.ne_of_lt (blk_lt (g := gb323) (o := .cells #[.int .u8 a0_0, .string a0_1, .int .i64 a0_2] 35 (0, 0)) (by (with_reducible repeat (first | refine blk_drewN ?_ _ | refine blk_drew ?_ | refine blk_alloc ?_ _)); exact BK323.out)) : gb323 ≠ gb324)); have n6_ := Aside0.mk ((by rw [hg]; exact Nat.ne_of_gt (blk_lt (g := gb323) (o := .cells #[.int .u8 a0_0, .string a0_1, .int .i64 a0_2] 35 (0, 0)) (by (with_reducible repeat (first | refine blk_drewN ?_ _ | refine blk_drew ?_ | refine blk_alloc ?_ _)); exact BK323.out)) : gb324 ≠ gb323)); clear BK323; clear HB; have BK323 := n0_; have HB := n1_; have BK324 := n2_; have GW324 := n3_; have GE324 := n4_; have NB323_324 := n5_; have NB324_323 := n6_; clear n0_ n1_ n2_ n3_ n4_ n5_ n6_; clear hb hbox hg; have hnb7 := NB323_324.out; have hnc7 := NB324_323.out; have hcz8_0 : w6.cell? ⟨gb323, 0, none⟩ = some (.int .u8 a0_0) := (blk_cell BK323.out 0).trans rfl; have hcz8_1 : w6.cell? ⟨gb323, 1, none⟩ = some (.string a0_1) := (blk_cell BK323.out 1).trans rfl; have hcz8_2 : w6.cell? ⟨gb323, 2, none⟩ = some (.int .i64 a0_2) := (blk_cell BK323.out 2).trans rfl; have hfz8_0 := blk_frozen BK323.out 0; have hfz8_1 := blk_frozen BK323.out 1; have hfz8_2 := blk_frozen BK323.out 2; have hcz9_0 : w6.cell? ⟨gb324, 0, none⟩ = some (.int .u8 a1_0) := (blk_cell BK324.out 0).trans rfl; have hcz9_1 : w6.cell? ⟨gb324, 1, none⟩ = some (.string a1_1) := (blk_cell BK324.out 1).trans rfl; have hcz9_2 : w6.cell? ⟨gb324, 2, none⟩ = some (.int .i64 a1_2) := (blk_cell BK324.out 2).trans rfl; have hfz9_0 := blk_frozen BK324.out 0; have hfz9_1 := blk_frozen BK324.out 1; have hfz9_2 := blk_frozen BK324.out 2))
      go_ret
      exact ⟨by first | rfl | (simp [errW_none, errW_some] <;> rfl) | (simp [*, errW_none, errW_some] <;> rfl), by repeat (first | (with_reducible first | exact HB.out | apply below_alloc | apply pw_below_drewN | apply below_drew1 | refine below_set ?_ GE323.out | refine below_set ?_ GE324.out) | exact HB.out)⟩
    · rw [if_neg c4] at H
      have c4b0 : (a0_1.toList == ([58] : List UInt8)) = false := beq_eq_false_iff_ne.mpr c4
      have c4b1 : (a0_1.toList != ([58] : List UInt8)) = true := bne_iff_ne.mpr c4
      obtain rfl := Option.some.inj H
      go_enter Tryd.func65, Tryd.ntmps65
      go_wp2_with (first | ((with_reducible refine gate_dst (N := 2) rfl ?_); refine box_event ?hg (N := 2) ?hd (cs := #[.int .u8 a0_0, .string a0_1, .int .i64 a0_2]) (t := 35) ?hr ?_; (case hd => rfl); (case hg => rfl); (case hr => first | (go_simp; done) | (go_simp; rfl)); intro gb323 hg w10 hbox hb; have n0_ := Aside0.mk (below_step (by repeat (first | (with_reducible first | exact HB.out | apply below_alloc | apply pw_below_drewN | apply below_drew1) | exact HB.out)) hb); have n1_ := Aside0.mk (hbox); have n2_ := Aside0.mk ((by rw [hg]; exact (below_size (by repeat (first | (with_reducible first | exact HB.out | apply below_alloc | apply pw_below_drewN | apply below_drew1) | exact HB.out))) : w.heap.size ≤ gb323)); have n3_ := Aside0.mk ((by rw [hg]; exact (below_size (by repeat (first | (with_reducible first | exact HB.out | apply below_alloc | apply pw_below_drewN | apply below_drew1) | exact HB.out))) : w.heap.size ≤ gb323)); clear HB; have HB := n0_; have BK323 := n1_; have GW323 := n2_; have GE323 := n3_; clear n0_ n1_ n2_ n3_; clear hb hbox hg) | ((with_reducible refine gate_dst (N := 3) rfl ?_); refine box_event ?hg (N := 3) ?hd (cs := #[.int .u8 a1_0, .string a1_1, .int .i64 a1_2]) (t := 35) ?hr ?_; (case hd => rfl); (case hg => rfl); (case hr => first | (go_simp; done) | (go_simp; rfl)); intro gb324 hg w11 hbox hb; have n0_ := Aside0.mk (blk_below (g := gb323) (o := .cells #[.int .u8 a0_0, .string a0_1, .int .i64 a0_2] 35 (0, 0)) (by (with_reducible repeat (first | refine blk_drewN ?_ _ | refine blk_drew ?_ | refine blk_alloc ?_ _)); exact BK323.out) hb); have n1_ := Aside0.mk (below_step (by repeat (first | (with_reducible first | exact HB.out | apply below_alloc | apply pw_below_drewN | apply below_drew1 | refine below_set ?_ GE323.out) | exact HB.out)) hb); have n2_ := Aside0.mk (hbox); have n3_ := Aside0.mk ((by rw [hg]; exact (below_size (by repeat (first | (with_reducible first | exact HB.out | apply below_alloc | apply pw_below_drewN | apply below_drew1 | refine below_set ?_ GE323.out) | exact HB.out))) : w.heap.size ≤ gb324)); have n4_ := Aside0.mk ((by rw [hg]; exact (below_size (by repeat (first | (with_reducible first | exact HB.out | apply below_alloc | apply pw_below_drewN | apply below_drew1 | refine below_set ?_ GE323.out) | exact HB.out))) : w.heap.size ≤ gb324)); have n5_ := Aside0.mk ((by rw [hg]; exact Nat.ne_of_lt (blk_lt (g := gb323) (o := .cells #[.int .u8 a0_0, .string a0_1, .int .i64 a0_2] 35 (0, 0)) (by (with_reducible repeat (first | refine blk_drewN ?_ _ | refine blk_drew ?_ | refine blk_alloc ?_ _)); exact BK323.out)) : gb323 ≠ gb324)); have n6_ := Aside0.mk ((by rw [hg]; exact Nat.ne_of_gt (blk_lt (g := gb323) (o := .cells #[.int .u8 a0_0, .string a0_1, .int .i64 a0_2] 35 (0, 0)) (by (with_reducible repeat (first | refine blk_drewN ?_ _ | refine blk_drew ?_ | refine blk_alloc ?_ _)); exact BK323.out)) : gb324 ≠ gb323)); clear BK323; clear HB; have BK323 := n0_; have HB := n1_; have BK324 := n2_; have GW324 := n3_; have GE324 := n4_; have NB323_324 := n5_; have NB324_323 := n6_; clear n0_ n1_ n2_ n3_ n4_ n5_ n6_; clear hb hbox hg; have hnb12 := NB323_324.out; have hnc12 := NB324_323.out; have hcz13_0 : w11.cell? ⟨gb323, 0, none⟩ = some (.int .u8 a0_0) := (blk_cell BK323.out 0).trans rfl; have hcz13_1 : w11.cell? ⟨gb323, 1, none⟩ = some (.string a0_1) := (blk_cell BK323.out 1).trans rfl; have hcz13_2 : w11.cell? ⟨gb323, 2, none⟩ = some (.int .i64 a0_2) := (blk_cell BK323.out 2).trans rfl; have hfz13_0 := blk_frozen BK323.out 0; have hfz13_1 := blk_frozen BK323.out 1; have hfz13_2 := blk_frozen BK323.out 2))
      go_ret
      exact ⟨by first | rfl | (simp [errW_none, errW_some] <;> rfl) | (simp [*, errW_none, errW_some] <;> rfl), by repeat (first | (with_reducible first | exact HB.out | apply below_alloc | apply pw_below_drewN | apply below_drew1 | refine below_set ?_ GE323.out | refine below_set ?_ GE324.out) | exact HB.out)⟩
  · rw [if_neg c3] at H
    have c3b0 : (a0_0 == 4) = false := beq_eq_false_iff_ne.mpr c3
    have c3b1 : (a0_0 != 4) = true := bne_iff_ne.mpr c3
    by_cases c14 : a1_0 = 4
    · rw [if_pos c14] at H
      have c14b0 : (a1_0 == 4) = true := beq_iff_eq.mpr c14
      have c14b1 : (a1_0 != 4) = false := bne_eq_false_iff_eq.mpr c14
      clear c14
      by_cases c15 : a0_1.toList = ([58] : List UInt8)
      · rw [if_pos c15] at H
        have c15b0 : (a0_1.toList == ([58] : List UInt8)) = true := beq_iff_eq.mpr c15
        have c15b1 : (a0_1.toList != ([58] : List UInt8)) = false := bne_eq_false_iff_eq.mpr c15
        clear c15
        obtain rfl := Option.some.inj H
        go_enter Tryd.func65, Tryd.ntmps65
        go_wp2_with (first | ((with_reducible refine gate_dst (N := 2) rfl ?_); refine box_event ?hg (N := 2) ?hd (cs := #[.int .u8 a0_0, .string a0_1, .int .i64 a0_2]) (t := 35) ?hr ?_; (case hd => rfl); (case hg => rfl); (case hr => first | (go_simp; done) | (go_simp; rfl)); intro gb323 hg w16 hbox hb; have n0_ := Aside0.mk (below_step (by repeat (first | (with_reducible first | exact HB.out | apply below_alloc | apply pw_below_drewN | apply below_drew1) | exact HB.out)) hb); have n1_ := Aside0.mk (hbox); have n2_ := Aside0.mk ((by rw [hg]; exact (below_size (by repeat (first | (with_reducible first | exact HB.out | apply below_alloc | apply pw_below_drewN | apply below_drew1) | exact HB.out))) : w.heap.size ≤ gb323)); have n3_ := Aside0.mk ((by rw [hg]; exact (below_size (by repeat (first | (with_reducible first | exact HB.out | apply below_alloc | apply pw_below_drewN | apply below_drew1) | exact HB.out))) : w.heap.size ≤ gb323)); clear HB; have HB := n0_; have BK323 := n1_; have GW323 := n2_; have GE323 := n3_; clear n0_ n1_ n2_ n3_; clear hb hbox hg) | ((with_reducible refine gate_dst (N := 3) rfl ?_); refine box_event ?hg (N := 3) ?hd (cs := #[.int .u8 a1_0, .string a1_1, .int .i64 a1_2]) (t := 35) ?hr ?_; (case hd => rfl); (case hg => rfl); (case hr => first | (go_simp; done) | (go_simp; rfl)); intro gb324 hg w17 hbox hb; have n0_ := Aside0.mk (blk_below (g := gb323) (o := .cells #[.int .u8 a0_0, .string a0_1, .int .i64 a0_2] 35 (0, 0)) (by (with_reducible repeat (first | refine blk_drewN ?_ _ | refine blk_drew ?_ | refine blk_alloc ?_ _)); exact BK323.out) hb); have n1_ := Aside0.mk (below_step (by repeat (first | (with_reducible first | exact HB.out | apply below_alloc | apply pw_below_drewN | apply below_drew1 | refine below_set ?_ GE323.out) | exact HB.out)) hb); have n2_ := Aside0.mk (hbox); have n3_ := Aside0.mk ((by rw [hg]; exact (below_size (by repeat (first | (with_reducible first | exact HB.out | apply below_alloc | apply pw_below_drewN | apply below_drew1 | refine below_set ?_ GE323.out) | exact HB.out))) : w.heap.size ≤ gb324)); have n4_ := Aside0.mk ((by rw [hg]; exact (below_size (by repeat (first | (with_reducible first | exact HB.out | apply below_alloc | apply pw_below_drewN | apply below_drew1 | refine below_set ?_ GE323.out) | exact HB.out))) : w.heap.size ≤ gb324)); have n5_ := Aside0.mk ((by rw [hg]; exact Nat.ne_of_lt (blk_lt (g := gb323) (o := .cells #[.int .u8 a0_0, .string a0_1, .int .i64 a0_2] 35 (0, 0)) (by (with_reducible repeat (first | refine blk_drewN ?_ _ | refine blk_drew ?_ | refine blk_alloc ?_ _)); exact BK323.out)) : gb323 ≠ gb324)); have n6_ := Aside0.mk ((by rw [hg]; exact Nat.ne_of_gt (blk_lt (g := gb323) (o := .cells #[.int .u8 a0_0, .string a0_1, .int .i64 a0_2] 35 (0, 0)) (by (with_reducible repeat (first | refine blk_drewN ?_ _ | refine blk_drew ?_ | refine blk_alloc ?_ _)); exact BK323.out)) : gb324 ≠ gb323)); clear BK323; clear HB; have BK323 := n0_; have HB := n1_; have BK324 := n2_; have GW324 := n3_; have GE324 := n4_; have NB323_324 := n5_; have NB324_323 := n6_; clear n0_ n1_ n2_ n3_ n4_ n5_ n6_; clear hb hbox hg; have hnb18 := NB323_324.out; have hnc18 := NB324_323.out; have hcz19_0 : w17.cell? ⟨gb323, 0, none⟩ = some (.int .u8 a0_0) := (blk_cell BK323.out 0).trans rfl; have hcz19_1 : w17.cell? ⟨gb323, 1, none⟩ = some (.string a0_1) := (blk_cell BK323.out 1).trans rfl; have hcz19_2 : w17.cell? ⟨gb323, 2, none⟩ = some (.int .i64 a0_2) := (blk_cell BK323.out 2).trans rfl; have hfz19_0 := blk_frozen BK323.out 0; have hfz19_1 := blk_frozen BK323.out 1; have hfz19_2 := blk_frozen BK323.out 2; have hcz20_0 : w17.cell? ⟨gb324, 0, none⟩ = some (.int .u8 a1_0) := (blk_cell BK324.out 0).trans rfl; have hcz20_1 : w17.cell? ⟨gb324, 1, none⟩ = some (.string a1_1) := (blk_cell BK324.out 1).trans rfl; have hcz20_2 : w17.cell? ⟨gb324, 2, none⟩ = some (.int .i64 a1_2) := (blk_cell BK324.out 2).trans rfl; have hfz20_0 := blk_frozen BK324.out 0; have hfz20_1 := blk_frozen BK324.out 1; have hfz20_2 := blk_frozen BK324.out 2))
        go_ret
        exact ⟨by first | rfl | (simp [errW_none, errW_some] <;> rfl) | (simp [*, errW_none, errW_some] <;> rfl), by repeat (first | (with_reducible first | exact HB.out | apply below_alloc | apply pw_below_drewN | apply below_drew1 | refine below_set ?_ GE323.out | refine below_set ?_ GE324.out) | exact HB.out)⟩
      · rw [if_neg c15] at H
        have c15b0 : (a0_1.toList == ([58] : List UInt8)) = false := beq_eq_false_iff_ne.mpr c15
        have c15b1 : (a0_1.toList != ([58] : List UInt8)) = true := bne_iff_ne.mpr c15
        obtain rfl := Option.some.inj H
        go_enter Tryd.func65, Tryd.ntmps65
        go_wp2_with (first | ((with_reducible refine gate_dst (N := 2) rfl ?_); refine box_event ?hg (N := 2) ?hd (cs := #[.int .u8 a0_0, .string a0_1, .int .i64 a0_2]) (t := 35) ?hr ?_; (case hd => rfl); (case hg => rfl); (case hr => first | (go_simp; done) | (go_simp; rfl)); intro gb323 hg w21 hbox hb; have n0_ := Aside0.mk (below_step (by repeat (first | (with_reducible first | exact HB.out | apply below_alloc | apply pw_below_drewN | apply below_drew1) | exact HB.out)) hb); have n1_ := Aside0.mk (hbox); have n2_ := Aside0.mk ((by rw [hg]; exact (below_size (by repeat (first | (with_reducible first | exact HB.out | apply below_alloc | apply pw_below_drewN | apply below_drew1) | exact HB.out))) : w.heap.size ≤ gb323)); have n3_ := Aside0.mk ((by rw [hg]; exact (below_size (by repeat (first | (with_reducible first | exact HB.out | apply below_alloc | apply pw_below_drewN | apply below_drew1) | exact HB.out))) : w.heap.size ≤ gb323)); clear HB; have HB := n0_; have BK323 := n1_; have GW323 := n2_; have GE323 := n3_; clear n0_ n1_ n2_ n3_; clear hb hbox hg) | ((with_reducible refine gate_dst (N := 3) rfl ?_); refine box_event ?hg (N := 3) ?hd (cs := #[.int .u8 a1_0, .string a1_1, .int .i64 a1_2]) (t := 35) ?hr ?_; (case hd => rfl); (case hg => rfl); (case hr => first | (go_simp; done) | (go_simp; rfl)); intro gb324 hg w22 hbox hb; have n0_ := Aside0.mk (blk_below (g := gb323) (o := .cells #[.int .u8 a0_0, .string a0_1, .int .i64 a0_2] 35 (0, 0)) (by (with_reducible repeat (first | refine blk_drewN ?_ _ | refine blk_drew ?_ | refine blk_alloc ?_ _)); exact BK323.out) hb); have n1_ := Aside0.mk (below_step (by repeat (first | (with_reducible first | exact HB.out | apply below_alloc | apply pw_below_drewN | apply below_drew1 | refine below_set ?_ GE323.out) | exact HB.out)) hb); have n2_ := Aside0.mk (hbox); have n3_ := Aside0.mk ((by rw [hg]; exact (below_size (by repeat (first | (with_reducible first | exact HB.out | apply below_alloc | apply pw_below_drewN | apply below_drew1 | refine below_set ?_ GE323.out) | exact HB.out))) : w.heap.size ≤ gb324)); have n4_ := Aside0.mk ((by rw [hg]; exact (below_size (by repeat (first | (with_reducible first | exact HB.out | apply below_alloc | apply pw_below_drewN | apply below_drew1 | refine below_set ?_ GE323.out) | exact HB.out))) : w.heap.size ≤ gb324)); have n5_ := Aside0.mk ((by rw [hg]; exact Nat.ne_of_lt (blk_lt (g := gb323) (o := .cells #[.int .u8 a0_0, .string a0_1, .int .i64 a0_2] 35 (0, 0)) (by (with_reducible repeat (first | refine blk_drewN ?_ _ | refine blk_drew ?_ | refine blk_alloc ?_ _)); exact BK323.out)) : gb323 ≠ gb324)); have n6_ := Aside0.mk ((by rw [hg]; exact Nat.ne_of_gt (blk_lt (g := gb323) (o := .cells #[.int .u8 a0_0, .string a0_1, .int .i64 a0_2] 35 (0, 0)) (by (with_reducible repeat (first | refine blk_drewN ?_ _ | refine blk_drew ?_ | refine blk_alloc ?_ _)); exact BK323.out)) : gb324 ≠ gb323)); clear BK323; clear HB; have BK323 := n0_; have HB := n1_; have BK324 := n2_; have GW324 := n3_; have GE324 := n4_; have NB323_324 := n5_; have NB324_323 := n6_; clear n0_ n1_ n2_ n3_ n4_ n5_ n6_; clear hb hbox hg; have hnb23 := NB323_324.out; have hnc23 := NB324_323.out; have hcz24_0 : w22.cell? ⟨gb323, 0, none⟩ = some (.int .u8 a0_0) := (blk_cell BK323.out 0).trans rfl; have hcz24_1 : w22.cell? ⟨gb323, 1, none⟩ = some (.string a0_1) := (blk_cell BK323.out 1).trans rfl; have hcz24_2 : w22.cell? ⟨gb323, 2, none⟩ = some (.int .i64 a0_2) := (blk_cell BK323.out 2).trans rfl; have hfz24_0 := blk_frozen BK323.out 0; have hfz24_1 := blk_frozen BK323.out 1; have hfz24_2 := blk_frozen BK323.out 2; have hcz25_0 : w22.cell? ⟨gb324, 0, none⟩ = some (.int .u8 a1_0) := (blk_cell BK324.out 0).trans rfl; have hcz25_1 : w22.cell? ⟨gb324, 1, none⟩ = some (.string a1_1) := (blk_cell BK324.out 1).trans rfl; have hcz25_2 : w22.cell? ⟨gb324, 2, none⟩ = some (.int .i64 a1_2) := (blk_cell BK324.out 2).trans rfl; have hfz25_0 := blk_frozen BK324.out 0; have hfz25_1 := blk_frozen BK324.out 1; have hfz25_2 := blk_frozen BK324.out 2))
        go_ret
        exact ⟨by first | rfl | (simp [errW_none, errW_some] <;> rfl) | (simp [*, errW_none, errW_some] <;> rfl), by repeat (first | (with_reducible first | exact HB.out | apply below_alloc | apply pw_below_drewN | apply below_drew1 | refine below_set ?_ GE323.out | refine below_set ?_ GE324.out) | exact HB.out)⟩
    · rw [if_neg c14] at H
      have c14b0 : (a1_0 == 4) = false := beq_eq_false_iff_ne.mpr c14
      have c14b1 : (a1_0 != 4) = true := bne_iff_ne.mpr c14
      obtain rfl := Option.some.inj H
      go_enter Tryd.func65, Tryd.ntmps65
      go_wp2_with (first | ((with_reducible refine gate_dst (N := 2) rfl ?_); refine box_event ?hg (N := 2) ?hd (cs := #[.int .u8 a0_0, .string a0_1, .int .i64 a0_2]) (t := 35) ?hr ?_; (case hd => rfl); (case hg => rfl); (case hr => first | (go_simp; done) | (go_simp; rfl)); intro gb323 hg w26 hbox hb; have n0_ := Aside0.mk (below_step (by repeat (first | (with_reducible first | exact HB.out | apply below_alloc | apply pw_below_drewN | apply below_drew1) | exact HB.out)) hb); have n1_ := Aside0.mk (hbox); have n2_ := Aside0.mk ((by rw [hg]; exact (below_size (by repeat (first | (with_reducible first | exact HB.out | apply below_alloc | apply pw_below_drewN | apply below_drew1) | exact HB.out))) : w.heap.size ≤ gb323)); have n3_ := Aside0.mk ((by rw [hg]; exact (below_size (by repeat (first | (with_reducible first | exact HB.out | apply below_alloc | apply pw_below_drewN | apply below_drew1) | exact HB.out))) : w.heap.size ≤ gb323)); clear HB; have HB := n0_; have BK323 := n1_; have GW323 := n2_; have GE323 := n3_; clear n0_ n1_ n2_ n3_; clear hb hbox hg) | ((with_reducible refine gate_dst (N := 3) rfl ?_); refine box_event ?hg (N := 3) ?hd (cs := #[.int .u8 a1_0, .string a1_1, .int .i64 a1_2]) (t := 35) ?hr ?_; (case hd => rfl); (case hg => rfl); (case hr => first | (go_simp; done) | (go_simp; rfl)); intro gb324 hg w27 hbox hb; have n0_ := Aside0.mk (blk_below (g := gb323) (o := .cells #[.int .u8 a0_0, .string a0_1, .int .i64 a0_2] 35 (0, 0)) (by (with_reducible repeat (first | refine blk_drewN ?_ _ | refine blk_drew ?_ | refine blk_alloc ?_ _)); exact BK323.out) hb); have n1_ := Aside0.mk (below_step (by repeat (first | (with_reducible first | exact HB.out | apply below_alloc | apply pw_below_drewN | apply below_drew1 | refine below_set ?_ GE323.out) | exact HB.out)) hb); have n2_ := Aside0.mk (hbox); have n3_ := Aside0.mk ((by rw [hg]; exact (below_size (by repeat (first | (with_reducible first | exact HB.out | apply below_alloc | apply pw_below_drewN | apply below_drew1 | refine below_set ?_ GE323.out) | exact HB.out))) : w.heap.size ≤ gb324)); have n4_ := Aside0.mk ((by rw [hg]; exact (below_size (by repeat (first | (with_reducible first | exact HB.out | apply below_alloc | apply pw_below_drewN | apply below_drew1 | refine below_set ?_ GE323.out) | exact HB.out))) : w.heap.size ≤ gb324)); have n5_ := Aside0.mk ((by rw [hg]; exact Nat.ne_of_lt (blk_lt (g := gb323) (o := .cells #[.int .u8 a0_0, .string a0_1, .int .i64 a0_2] 35 (0, 0)) (by (with_reducible repeat (first | refine blk_drewN ?_ _ | refine blk_drew ?_ | refine blk_alloc ?_ _)); exact BK323.out)) : gb323 ≠ gb324)); have n6_ := Aside0.mk ((by rw [hg]; exact Nat.ne_of_gt (blk_lt (g := gb323) (o := .cells #[.int .u8 a0_0, .string a0_1, .int .i64 a0_2] 35 (0, 0)) (by (with_reducible repeat (first | refine blk_drewN ?_ _ | refine blk_drew ?_ | refine blk_alloc ?_ _)); exact BK323.out)) : gb324 ≠ gb323)); clear BK323; clear HB; have BK323 := n0_; have HB := n1_; have BK324 := n2_; have GW324 := n3_; have GE324 := n4_; have NB323_324 := n5_; have NB324_323 := n6_; clear n0_ n1_ n2_ n3_ n4_ n5_ n6_; clear hb hbox hg; have hnb28 := NB323_324.out; have hnc28 := NB324_323.out; have hcz29_0 : w27.cell? ⟨gb323, 0, none⟩ = some (.int .u8 a0_0) := (blk_cell BK323.out 0).trans rfl; have hcz29_1 : w27.cell? ⟨gb323, 1, none⟩ = some (.string a0_1) := (blk_cell BK323.out 1).trans rfl; have hcz29_2 : w27.cell? ⟨gb323, 2, none⟩ = some (.int .i64 a0_2) := (blk_cell BK323.out 2).trans rfl; have hfz29_0 := blk_frozen BK323.out 0; have hfz29_1 := blk_frozen BK323.out 1; have hfz29_2 := blk_frozen BK323.out 2; have hcz30_0 : w27.cell? ⟨gb324, 0, none⟩ = some (.int .u8 a1_0) := (blk_cell BK324.out 0).trans rfl; have hcz30_1 : w27.cell? ⟨gb324, 1, none⟩ = some (.string a1_1) := (blk_cell BK324.out 1).trans rfl; have hcz30_2 : w27.cell? ⟨gb324, 2, none⟩ = some (.int .i64 a1_2) := (blk_cell BK324.out 2).trans rfl; have hfz30_0 := blk_frozen BK324.out 0; have hfz30_1 := blk_frozen BK324.out 1; have hfz30_2 := blk_frozen BK324.out 2))
      go_ret
      exact ⟨by first | rfl | (simp [errW_none, errW_some] <;> rfl) | (simp [*, errW_none, errW_some] <;> rfl), by repeat (first | (with_reducible first | exact HB.out | apply below_alloc | apply pw_below_drewN | apply below_drew1 | refine below_set ?_ GE323.out | refine below_set ?_ GE324.out) | exact HB.out)⟩

-- NOT PRINTED: function 66 (strings_Builder_WriteByte)

-- NOT PRINTED: function 68 (strings_Builder_Len)

-- NOT PRINTED: function 36 (lex_Tight)

/-! ### ripostelaw01_sameBut: function 37 -/
def ripostelaw01_sameBut.l0 : Nat → List (S35) → List (S35) → Int → Option (Bool)
  | 0, _, _, _ => none
  | k + 1, x0, x1, x5 => if x5 < (x0.length : Int) then (if 0 ≤ x5 then (if x5 < (x1.length : Int) then (if ((rd_T35 x0 x5).f0) = ((rd_T35 x1 x5).f0) then (if ((rd_T35 x0 x5).f1).toList = ((rd_T35 x1 x5).f1).toList then (ripostelaw01_sameBut.l0 k x0 x1 (wrap64 (x5 + 1))) else (some false)) else (some false)) else (none)) else (none)) else (some true)
def ripostelaw01_sameBut.f (k : Nat) (l0 : List (S35)) (l1 : List (S35)) : Option (Bool) := if (l0.length : Int) = (l1.length : Int) then (ripostelaw01_sameBut.l0 k l0 l1 0) else (some false)
set_option maxHeartbeats 8000000 in
set_option maxRecDepth 100000 in
theorem ripostelaw01_sameBut.calls (k : Nat) (A0 : Option Addr) (c0 : Nat) (l0 : List (S35)) (A1 : Option Addr) (c1 : Nat) (l1 : List (S35)) (r : Bool) (w : World) (hr0 : Kd.C k35 w A0 l0.length l0) (hc0 : l0.length ≤ c0) (hr1 : Kd.C k35 w A1 l1.length l1) (hc1 : l1.length ≤ c1) (h : ripostelaw01_sameBut.f k l0 l1 = some r) :
    Calls Tryd.prog 37 #[.slice A0 l0.length c0, .slice A1 l1.length c1] w fun e w' => e = .returned (.bool r) ∧ Drawn0 w w' := by
  have HR0 := Aside0.mk hr0
  have HC0 := Aside0.mk hc0
  clear hr0 hc0
  have HR1 := Aside0.mk hr1
  have HC1 := Aside0.mk hc1
  clear hr1 hc1
  have H : (if (l0.length : Int) = (l1.length : Int) then (ripostelaw01_sameBut.l0 k l0 l1 0) else (some false)) = some r := h
  clear h
  by_cases c3 : (l0.length : Int) = (l1.length : Int)
  · rw [if_pos c3] at H
    have c3b0 : ((l0.length : Int) == (l1.length : Int)) = true := beq_iff_eq.mpr c3
    have c3b1 : ((l0.length : Int) != (l1.length : Int)) = false := bne_eq_false_iff_eq.mpr c3
    have c3b2 : (l0.length == l1.length) = true := by first | simpa using c3 | (simp at c3 ⊢; omega)
    clear c3
    have H' := Aside0.mk H
    clear H
    go_enter Tryd.func37, Tryd.ntmps37
    go_wp2
    repeat (go_quiet (fail); try go_wp2)
    go_loopg [5] k (fun kq v5 w' => ∃ (x5_1 : Int), v5 = .int .i64 x5_1 ∧ Aside0 (ripostelaw01_sameBut.l0 kq l0 l1 x5_1 = some r) ∧ Aside0 (kq ≤ k) ∧ Drawn0 w w')
    case atStart => exact ⟨(0), (by first | rfl | (simp; done) | (simp [*]; done)), H', ⟨Nat.le_refl _⟩, by repeat (first | exact Drawn0.refl _ | apply Drawn0.step)⟩
    case round =>
      clear H'
      try clear c1
      try clear p2
      try clear c3
      try clear c3b0
      try clear c3b1
      try clear c3b2
      obtain ⟨x5_1, rfl, HA, HK1, ⟨m1, rfl⟩⟩ := hrel
      cases gk with
      | zero => exact absurd HA.out (by simp [ripostelaw01_sameBut.l0])
      | succ k1 =>
        have H := HA.out
        clear HA
        simp only [ripostelaw01_sameBut.l0] at H
        by_cases c4 : x5_1 < (l0.length : Int)
        · rw [if_pos c4] at H
          have c4b0 : decide (x5_1 < (l0.length : Int)) = true := decide_eq_true c4
          clear c4
          by_cases c5 : 0 ≤ x5_1
          · rw [if_pos c5] at H
            have c5b0 : decide (0 ≤ x5_1) = true := decide_eq_true c5
            clear c5
            by_cases c6 : x5_1 < (l1.length : Int)
            · rw [if_pos c6] at H
              have c6b0 : decide (x5_1 < (l1.length : Int)) = true := decide_eq_true c6
              clear c6
              by_cases c7 : ((rd_T35 l0 x5_1).f0) = ((rd_T35 l1 x5_1).f0)
              · rw [if_pos c7] at H
                have c7b0 : (((rd_T35 l0 x5_1).f0) == ((rd_T35 l1 x5_1).f0)) = true := beq_iff_eq.mpr c7
                have c7b1 : (((rd_T35 l0 x5_1).f0) != ((rd_T35 l1 x5_1).f0)) = false := bne_eq_false_iff_eq.mpr c7
                clear c7
                by_cases c8 : ((rd_T35 l0 x5_1).f1).toList = ((rd_T35 l1 x5_1).f1).toList
                · rw [if_pos c8] at H
                  have c8b0 : (((rd_T35 l0 x5_1).f1).toList == ((rd_T35 l1 x5_1).f1).toList) = true := beq_iff_eq.mpr c8
                  have c8b1 : (((rd_T35 l0 x5_1).f1).toList != ((rd_T35 l1 x5_1).f1).toList) = false := bne_eq_false_iff_eq.mpr c8
                  clear c8
                  have H' := Aside0.mk H
                  clear H
                  have p325 : 0 ≤ (x5_1 : Int) := of_decide_eq_true (by first | (with_reducible assumption) | assumption)
                  have q325 : x5_1 < (l0.length : Int) := of_decide_eq_true (by first | (with_reducible assumption) | assumption)
                  obtain ⟨ad325, e325, hx325_0, hx325_1, hx325_2⟩ := at_T35 HR0.out x5_1 p325 q325
                  cases e325
                  replace p325 := eq_true p325
                  replace q325 := eq_true q325
                  have p326 : 0 ≤ (x5_1 : Int) := of_decide_eq_true (by first | (with_reducible assumption) | assumption)
                  have q326 : x5_1 < (l1.length : Int) := of_decide_eq_true (by first | (with_reducible assumption) | assumption)
                  obtain ⟨ad326, e326, hx326_0, hx326_1, hx326_2⟩ := at_T35 HR1.out x5_1 p326 q326
                  cases e326
                  replace p326 := eq_true p326
                  replace q326 := eq_true q326
                  have p327 : 0 ≤ (x5_1 : Int) := of_decide_eq_true (by first | (with_reducible assumption) | assumption)
                  have q327 : x5_1 < (l0.length : Int) := of_decide_eq_true (by first | (with_reducible assumption) | assumption)
                  obtain ⟨ad327, e327, hx327_0, hx327_1, hx327_2⟩ := at_T35 HR0.out x5_1 p327 q327
                  obtain rfl : ad325 = ad327 := (by injection e327)
                  replace p327 := eq_true p327
                  replace q327 := eq_true q327
                  have p328 : 0 ≤ (x5_1 : Int) := of_decide_eq_true (by first | (with_reducible assumption) | assumption)
                  have q328 : x5_1 < (l1.length : Int) := of_decide_eq_true (by first | (with_reducible assumption) | assumption)
                  obtain ⟨ad328, e328, hx328_0, hx328_1, hx328_2⟩ := at_T35 HR1.out x5_1 p328 q328
                  obtain rfl : ad326 = ad328 := (by injection e328)
                  replace p328 := eq_true p328
                  replace q328 := eq_true q328
                  go_wp2
                  repeat (go_quiet (fail); try go_wp2)
                  go_roundg k1
                  case measure => have := HK1.out; omega
                  case rel => exact ⟨(wrap64 (x5_1 + 1)), (by first | rfl | (simp; done) | (simp [*]; done)), H', ⟨by have := HK1.out; omega⟩, by repeat (first | exact Drawn0.refl _ | apply Drawn0.step)⟩
                · rw [if_neg c8] at H
                  have c8b0 : (((rd_T35 l0 x5_1).f1).toList == ((rd_T35 l1 x5_1).f1).toList) = false := beq_eq_false_iff_ne.mpr c8
                  have c8b1 : (((rd_T35 l0 x5_1).f1).toList != ((rd_T35 l1 x5_1).f1).toList) = true := bne_iff_ne.mpr c8
                  obtain rfl := Option.some.inj H
                  have p325 : 0 ≤ (x5_1 : Int) := of_decide_eq_true (by first | (with_reducible assumption) | assumption)
                  have q325 : x5_1 < (l0.length : Int) := of_decide_eq_true (by first | (with_reducible assumption) | assumption)
                  obtain ⟨ad325, e325, hx325_0, hx325_1, hx325_2⟩ := at_T35 HR0.out x5_1 p325 q325
                  cases e325
                  replace p325 := eq_true p325
                  replace q325 := eq_true q325
                  have p326 : 0 ≤ (x5_1 : Int) := of_decide_eq_true (by first | (with_reducible assumption) | assumption)
                  have q326 : x5_1 < (l1.length : Int) := of_decide_eq_true (by first | (with_reducible assumption) | assumption)
                  obtain ⟨ad326, e326, hx326_0, hx326_1, hx326_2⟩ := at_T35 HR1.out x5_1 p326 q326
                  cases e326
                  replace p326 := eq_true p326
                  replace q326 := eq_true q326
                  have p327 : 0 ≤ (x5_1 : Int) := of_decide_eq_true (by first | (with_reducible assumption) | assumption)
                  have q327 : x5_1 < (l0.length : Int) := of_decide_eq_true (by first | (with_reducible assumption) | assumption)
                  obtain ⟨ad327, e327, hx327_0, hx327_1, hx327_2⟩ := at_T35 HR0.out x5_1 p327 q327
                  obtain rfl : ad325 = ad327 := (by injection e327)
                  replace p327 := eq_true p327
                  replace q327 := eq_true q327
                  have p328 : 0 ≤ (x5_1 : Int) := of_decide_eq_true (by first | (with_reducible assumption) | assumption)
                  have q328 : x5_1 < (l1.length : Int) := of_decide_eq_true (by first | (with_reducible assumption) | assumption)
                  obtain ⟨ad328, e328, hx328_0, hx328_1, hx328_2⟩ := at_T35 HR1.out x5_1 p328 q328
                  obtain rfl : ad326 = ad328 := (by injection e328)
                  replace p328 := eq_true p328
                  replace q328 := eq_true q328
                  go_wp2
                  repeat (go_quiet (fail); try go_wp2)
                  go_ret
                  exact ⟨by first | rfl | (simp; done) | (simp [*]; done), by repeat (first | exact Drawn0.refl _ | apply Drawn0.step)⟩
              · rw [if_neg c7] at H
                have c7b0 : (((rd_T35 l0 x5_1).f0) == ((rd_T35 l1 x5_1).f0)) = false := beq_eq_false_iff_ne.mpr c7
                have c7b1 : (((rd_T35 l0 x5_1).f0) != ((rd_T35 l1 x5_1).f0)) = true := bne_iff_ne.mpr c7
                obtain rfl := Option.some.inj H
                have p325 : 0 ≤ (x5_1 : Int) := of_decide_eq_true (by first | (with_reducible assumption) | assumption)
                have q325 : x5_1 < (l0.length : Int) := of_decide_eq_true (by first | (with_reducible assumption) | assumption)
                obtain ⟨ad325, e325, hx325_0, hx325_1, hx325_2⟩ := at_T35 HR0.out x5_1 p325 q325
                cases e325
                replace p325 := eq_true p325
                replace q325 := eq_true q325
                have p326 : 0 ≤ (x5_1 : Int) := of_decide_eq_true (by first | (with_reducible assumption) | assumption)
                have q326 : x5_1 < (l1.length : Int) := of_decide_eq_true (by first | (with_reducible assumption) | assumption)
                obtain ⟨ad326, e326, hx326_0, hx326_1, hx326_2⟩ := at_T35 HR1.out x5_1 p326 q326
                cases e326
                replace p326 := eq_true p326
                replace q326 := eq_true q326
                go_wp2
                repeat (go_quiet (fail); try go_wp2)
                go_ret
                exact ⟨by first | rfl | (simp; done) | (simp [*]; done), by repeat (first | exact Drawn0.refl _ | apply Drawn0.step)⟩
            · rw [if_neg c6] at H
              exact absurd H (by simp)
          · rw [if_neg c5] at H
            exact absurd H (by simp)
        · rw [if_neg c4] at H
          have c4b0 : decide (x5_1 < (l0.length : Int)) = false := decide_eq_false c4
          clear c4
          obtain rfl := Option.some.inj H
          go_wp2
          repeat (go_quiet (fail); try go_wp2)
          go_ret
          exact ⟨by first | rfl | (simp; done) | (simp [*]; done), by repeat (first | exact Drawn0.refl _ | apply Drawn0.step)⟩
  · rw [if_neg c3] at H
    have c3b0 : ((l0.length : Int) == (l1.length : Int)) = false := beq_eq_false_iff_ne.mpr c3
    have c3b1 : ((l0.length : Int) != (l1.length : Int)) = true := bne_iff_ne.mpr c3
    have c3b2 : (l0.length == l1.length) = false := by first | simpa using c3 | (simp at c3 ⊢; omega)
    obtain rfl := Option.some.inj H
    go_enter Tryd.func37, Tryd.ntmps37
    go_wp2
    repeat (go_quiet (fail); try go_wp2)
    go_ret
    exact ⟨by first | rfl | (simp; done) | (simp [*]; done), by repeat (first | exact Drawn0.refl _ | apply Drawn0.step)⟩

-- NOT PRINTED: function 11 (ripostelaw01_LexBack)

-- NOT PRINTED: function 12 (ripostelaw01_LexShorter)

-- NOT PRINTED: function 13 (ripostelaw01_LexDifference)

/-! ### riposteref01_tokensError: function 70 -/

/-! ### riposteref01_apart: function 71 -/

end Go.Proofs.YtggfcmondffodaaDoor.P
namespace Go.Proofs.YtggfcmondffodaaDoor.P
open Go.RowKit Go.Shelf Go.Maps Go.Proofs.YtggfcmondffodaaDoorW.PrintWords Go.Proofs.YtggfcmondffodaaDoorW.PrintLast Go.Proofs.YtggfcmondffodaaDoorW.PrintMore
set_option linter.unusedVariables false
set_option linter.unusedSimpArgs false
/-- Must a blank stand between two tokens? -/
def apM (a b : Tk) : Bool := if a.f0 ≠ 4 ∧ b.f0 ≠ 4 then true else decide (a.f1 = ba [58]) && decide (b.f1 = ba [61])
def rgT (x : Tk) : Bool := rightB x.f0 x.f1
/-- The error of tokens that are handed in. -/
def tkE (l : List Tk) : Int := if 900 < l.length then 5 else if l.all rgT = true then 0 else 2
/-- What stands ahead of a token. -/
def gapT (p : Option Tk) (x : Tk) : List UInt8 := match p with
  | none => []
  | some y => if apM y x = true then [32] else []
/-- The bytes of the shortest text. -/
def tgB (p : Option Tk) : List Tk → List UInt8
  | [] => []
  | x :: r => gapT p x ++ (x.f1.data.toList ++ tgB (some x) r)
/-- lex.Tight. -/
def tightM (l : List Tk) : ByteArray × Int := if tkE l = 0 then (if 2500 < (tgB none l).length then (⟨#[]⟩, 5) else (ba (tgB none l), 0)) else (⟨#[]⟩, tkE l)
theorem apM_eq (a b : Tk) : lex_isApart.f a.f0 a.f1 a.f2 b.f0 b.f1 b.f2 = some (apM a b) := by
  have b1 : (ba [61]).toList = ([61] : List UInt8) := by rw [ByteArray.toList_eq]; rfl
  have b2 : (ba [58]).toList = ([58] : List UInt8) := by rw [ByteArray.toList_eq]; rfl
  have e1 : ∀ t : ByteArray, (t.toList == ([61] : List UInt8)) = decide (t = ba [61]) := fun t => by have h := runRight_aux t (ba [61]); rw [b1] at h; exact h
  have e2 : ∀ t : ByteArray, t.toList = ([58] : List UInt8) ↔ t = ba [58] := fun t => by
    have := runRight_aux t (ba [58])
    constructor
    · intro h
      have h2 : (t.toList == (ba [58]).toList) = true := by rw [b2]; exact beq_iff_eq.2 h
      rw [this] at h2
      exact of_decide_eq_true h2
    · rintro rfl; exact b2
  have key : (if a.f1.toList = ([58] : List UInt8) then (some (b.f1.toList == ([61] : List UInt8))) else (some false)) = some (decide (a.f1 = ba [58]) && decide (b.f1 = ba [61])) := by
    by_cases c : a.f1 = ba [58]
    · rw [if_pos ((e2 _).2 c), e1, decide_eq_true c, Bool.true_and]
    · rw [if_neg fun h => c ((e2 _).1 h), decide_eq_false c, Bool.false_and]
  unfold lex_isApart.f apM
  by_cases c1 : a.f0 = 4
  · rw [if_pos c1, if_neg (show ¬ (a.f0 ≠ 4 ∧ b.f0 ≠ 4) from fun h => h.1 c1)]; exact key
  · rw [if_neg c1]
    by_cases c2 : b.f0 = 4
    · rw [if_pos c2, if_neg (show ¬ (a.f0 ≠ 4 ∧ b.f0 ≠ 4) from fun h => h.2 c2)]; exact key
    · rw [if_neg c2, if_pos ⟨c1, c2⟩]
theorem all_drop (f : Tk → Bool) (l : List Tk) (i : Nat) (h : i < l.length) : (l.drop i).all f = (f (rd_T35 l (i : Int)) && (l.drop (i + 1)).all f) := by rw [tk_drop l i h, List.all_cons]
set_option maxRecDepth 8000 in
set_option maxHeartbeats 8000000 in
theorem tokens_any (l : List Tk) (A : Option Addr) (c : Nat) (w : World) (hg : Gl w) (hC : Kd.C k35 w A l.length l) (hll : l.length ≤ 140737488351232) (hx : ∀ x ∈ l, x.f1.size ≤ 140737488351232) :
    Calls Tryd.prog 64 #[.slice A l.length c] w fun e w' => e = .returned (.int .i64 (tkE l)) ∧ Below w.heap.size w w' := by
  have HG := Aside0.mk hg
  have HC := Aside0.mk hC
  have HX := Aside0.mk hx
  unfold tkE
  by_cases h9 : 900 < l.length
  · rw [if_pos h9]
    have g1 : decide (900 < l.length) = true := decide_eq_true h9
    have g2 : decide ((900 : Int) < (l.length : Int)) = true := decide_eq_true (by omega)
    clear hg hC hx
    go_enter Tryd.func64, Tryd.ntmps64
    go_wp2
    go_ret
    exact ⟨rfl, Below.refl _ _⟩
  · rw [if_neg h9]
    have g1 : decide (900 < l.length) = false := decide_eq_false h9
    have g2 : decide ((900 : Int) < (l.length : Int)) = false := decide_eq_false (by omega)
    obtain ⟨r, hr⟩ : ∃ r, l.all rgT = r := ⟨_, rfl⟩
    rw [hr]
    have HR := Aside0.mk (show (l.drop 0).all rgT = r from hr)
    clear hg hC hx hr
    go_enter Tryd.func64, Tryd.ntmps64
    go_wp2
    go_loopg [10] l.length (fun gg s10 wr => ∃ (i : Nat), s10 = .int .i64 i ∧ i ≤ l.length ∧ l.length - i ≤ gg ∧ Aside0 ((l.drop i).all rgT = r) ∧ Aside0 (Below w.heap.size w wr))
    case atStart => exact ⟨0, rfl, Nat.zero_le _, by omega, HR, ⟨Below.refl _ _⟩⟩
    case round =>
      obtain ⟨i, rfl, hi, hgk, HRi, HBW⟩ := hrel
      by_cases hlt : i < l.length
      · have hltz : (i : Int) < (l.length : Int) := by omega
        have hi0 : (0 : Int) ≤ (i : Int) := by omega
        obtain ⟨ad, rfl, x0, x1, x2⟩ := at_T35 (Kd.C_below HC.out HBW.out) (i : Int) hi0 hltz
        rw [Int.toNat_natCast] at x0 x1 x2
        have hs := HRi.out
        rw [all_drop _ l i hlt] at hs
        have hxs := HX.out _ (rdT_mem l i hlt)
        unfold rgT at hs
        generalize rd_T35 l (i : Int) = yy at *
        have hRt := Aside0.mk (fun (W : World) (h : Gl W) => isRight_any yy.f0 yy.f1 yy.f2 W h hxs)
        generalize rightB yy.f0 yy.f1 = rb at *
        have HS := Aside0.mk hs
        clear hs hxs
        have HBa := Aside0.mk (show Below w.heap.size w (wr.alloc (.cells #[.int .u8 yy.f0, .string yy.f1, .int .i64 yy.f2] 35)) from HBW.out.alloc HBW.out.size _)
        cases rb
        · have hN : false = r := HS.out
          subst hN
          clear HS
          go_wp2_with (go_at_call 83; refine (hRt.out _ (HG.out.mono HBa.out)).mono ?_; rintro e w2 ⟨rfl, hb2⟩; have HB2 := Aside0.mk (HBa.out.trans (hb2.mono HBa.out.size)); clear hb2)
          go_ret
          exact ⟨rfl, HB2.out⟩
        · have HN := Aside0.mk (show (l.drop (i + 1)).all rgT = r by have := HS.out; rw [Bool.true_and] at this; exact this)
          clear HS
          go_wp2_with (go_at_call 83; refine (hRt.out _ (HG.out.mono HBa.out)).mono ?_; rintro e w2 ⟨rfl, hb2⟩; have HB2 := Aside0.mk (HBa.out.trans (hb2.mono HBa.out.size)); clear hb2)
          go_roundg (l.length - (i + 1))
          case measure => omega
          case rel => exact ⟨i + 1, by go_num, by omega, by omega, HN, HB2⟩
      · have hs := HRi.out
        rw [List.drop_eq_nil_of_le (by omega)] at hs
        have hN : true = r := hs
        subst hN
        have hlt2 : decide ((i : Int) < (l.length : Int)) = false := decide_eq_false (by omega)
        have hlt3 : decide (i < l.length) = false := decide_eq_false hlt
        clear hs
        go_wp2
        go_ret
        exact ⟨rfl, HBW.out⟩
theorem bld_below {B b : Nat} {bs : List Value} {W W' : World} (h : Lib.IsBuilderF 85 5 B b bs W) (hb : Below W.heap.size W W') : Lib.IsBuilderF 85 5 B b bs W' := by
  have key : ∀ {p : Value}, Lib.BuilderAtF 85 5 B b p bs W → Lib.BuilderAtF 85 5 B b p bs W' := by
    rintro p h
    have hlt := h.lt
    obtain ⟨a, v, e1, own, e2⟩ := h
    exact ⟨a, v, (hb.block b hlt).trans e1, own.kept (row := none) ⟨hb.os, hb.tape, hb.output, hb.size, fun k hk _ => hb.block k hk⟩ (Classical.em _), e2⟩
  exact h.elim (fun x => .inl (key x)) (fun x => .inr (key x))
/-- The token ahead. -/
def prevT (l : List Tk) (i : Nat) : Option Tk := if i = 0 then none else some (rd_T35 l ((i - 1 : Nat) : Int))
theorem tgB_step (l : List Tk) (i : Nat) (h : i < l.length) : tgB (prevT l i) (l.drop i) = gapT (prevT l i) (rd_T35 l (i : Int)) ++ ((rd_T35 l (i : Int)).f1.data.toList ++ tgB (prevT l (i + 1)) (l.drop (i + 1))) := by
  rw [tk_drop l i h, tgB]
  unfold prevT
  rw [if_neg (Nat.succ_ne_zero i), Nat.add_sub_cancel]
theorem gapT_le (p : Option Tk) (x : Tk) : (gapT p x).length ≤ 1 := by
  unfold gapT
  cases p with
  | none => exact Nat.zero_le _
  | some y => simp only; split <;> decide
set_option maxRecDepth 8000 in
set_option maxHeartbeats 8000000 in
theorem Tight_any (l : List Tk) (A : Option Addr) (c : Nat) (w : World) (hg : Gl w) (hC : Kd.C k35 w A l.length l) (hc : l.length ≤ c) (hll : l.length ≤ 140737488351232) (hx : ∀ x ∈ l, x.f1.size ≤ 3000) :
    Calls Tryd.prog 36 #[.slice A l.length c] w fun e w' => e = .returned (.tuple #[.string (tightM l).1, .int .i64 (tightM l).2]) ∧ Below w.heap.size w w' := by
  have hT := tokens_any l A c w hg hC hll (fun x h => Nat.le_trans (hx x h) (by decide))
  have HC := Aside0.mk hC
  have HX := Aside0.mk hx
  unfold tightM
  by_cases h0 : tkE l = 0
  · rw [if_pos h0]
    rw [h0] at hT
    have h9 : l.length ≤ 900 := by
      unfold tkE at h0
      by_cases h9 : 900 < l.length
      · rw [if_pos h9] at h0; exact absurd h0 (by decide)
      · omega
    obtain ⟨RES, hRES⟩ : ∃ R, tgB none l = R := ⟨_, rfl⟩
    rw [hRES]
    have HS := Aside0.mk (show [] ++ tgB (prevT l 0) (l.drop 0) = RES from hRES)
    obtain ⟨O, hO⟩ : ∃ O : ByteArray × Int, (if 2500 < RES.length then ((⟨#[]⟩ : ByteArray), (5 : Int)) else (ba RES, 0)) = O := ⟨_, rfl⟩
    rw [hO]
    have HO := Aside0.mk hO
    clear hC hx hg h0 hRES hO
    go_enter Tryd.func36, Tryd.ntmps36
    go_wp2_with (go_at_call 64; refine hT.mono ?_; rintro e w1 ⟨rfl, hb1⟩; have HB1 := Aside0.mk hb1; clear hb1)
    have HU0 := Aside0.mk (show Lib.IsBuilderF 85 5 w1.heap.size w1.heap.size (Lib.byteCells []) (w1.alloc (.cells #[.pointer none, .slice none 0 0] 85)) from Lib.IsBuilderF.of (Lib.fresh_isBuilder 85 5 w1))
    have HB0 := Aside0.mk (HB1.out.alloc HB1.out.size (.cells #[.pointer none, .slice none 0 0] 85))
    go_loopg [6, 7, 15] l.length (fun gg s6 s7 s15 wr => ∃ (i : Nat) (acc : List UInt8) (v6 v7 : Value), s6 = v6 ∧ s7 = v7 ∧ s15 = .int .i64 i ∧ i ≤ l.length ∧ l.length - i ≤ gg ∧ acc.length ≤ 3001 * i ∧ Aside0 (acc ++ tgB (prevT l i) (l.drop i) = RES) ∧ Aside0 (Lib.IsBuilderF 85 5 w1.heap.size w1.heap.size (Lib.byteCells acc) wr) ∧ Aside0 (Below w.heap.size w wr) ∧ w1.heap.size + 1 ≤ wr.heap.size)
    case atStart => exact ⟨0, [], _, _, rfl, rfl, rfl, Nat.zero_le _, by omega, Nat.zero_le _, HS, HU0, HB0, by simp⟩
    case round =>
      obtain ⟨i, acc, v6, v7, rfl, rfl, rfl, hi, hgk, hac, HA, HU, HBW, hsz⟩ := hrel
      by_cases hlt : i < l.length
      · have hltz : (i : Int) < (l.length : Int) := by omega
        have hi0 : (0 : Int) ≤ (i : Int) := by omega
        obtain ⟨ad, rfl, x0, x1, x2⟩ := at_T35 (Kd.C_below HC.out HBW.out) (i : Int) hi0 hltz
        rw [Int.toNat_natCast] at x0 x1 x2
        have hA2 := HA.out
        rw [tgB_step l i hlt, ← List.append_assoc] at hA2
        have hgl := gapT_le (prevT l i) (rd_T35 l (i : Int))
        have hxs := HX.out _ (rdT_mem l i hlt)
        by_cases hz : i = 0
        · have c1 : decide ((0 : Int) < (i : Int)) = false := decide_eq_false (by omega)
          have c1n : decide (0 < i) = false := decide_eq_false (by omega)
          have hp : prevT l i = none := by unfold prevT; rw [if_pos hz]
          rw [hp] at hA2 hgl
          generalize rd_T35 l (i : Int) = yy at *
          have HN := Aside0.mk (show (acc ++ yy.f1.data.toList) ++ tgB (prevT l (i + 1)) (l.drop (i + 1)) = RES by rw [← hA2, List.append_assoc]; simp [gapT])
          have hac2 : (acc ++ yy.f1.data.toList).length ≤ 3001 * (i + 1) := by rw [List.length_append, ← size_len]; omega
          clear hA2 hgl hp hz
          go_wp2
          obtain ⟨W2, hW2⟩ : ∃ W2 : World, W2 = wr.alloc (.cells #[.int .u8 yy.f0, .string yy.f1, .int .i64 yy.f2] 35) := ⟨_, rfl⟩
          rw [← hW2]
          have HB2 := Aside0.mk (show Below w.heap.size w W2 by rw [hW2]; exact HBW.out.alloc HBW.out.size _)
          have HBr := Aside0.mk (show Below wr.heap.size wr W2 by rw [hW2]; exact (Below.refl _ _).alloc (Nat.le_refl _) _)
          have HU2 := Aside0.mk (show Lib.IsBuilderF 85 5 w1.heap.size w1.heap.size (Lib.byteCells acc) W2 by rw [hW2]; exact HU.out.alloc _)
          have HK := Aside0.mk (show W2.heap[wr.heap.size]? = some (.cells #[.int .u8 yy.f0, .string yy.f1, .int .i64 yy.f2] 35 (0, 0)) by rw [hW2]; exact heap_alloc_new wr _)
          have hsz2 : W2.heap.size = wr.heap.size + 1 := by rw [hW2]; simp
          clear hW2
          go_quiet (fail)
          obtain ⟨w3, hw3⟩ : ∃ W : World, W = W2.drewN nq := ⟨_, rfl⟩
          rw [← hw3]
          have hb3 : Below W2.heap.size W2 w3 := by rw [hw3]; exact pw_below_drewN (Below.refl _ _) nq
          have hsz3 : wr.heap.size + 1 ≤ w3.heap.size := by have := hb3.size; omega
          have HB3 := Aside0.mk (HB2.out.trans (hb3.mono HB2.out.size))
          have HU3 := Aside0.mk (bld_below HU2.out hb3)
          have HK3 := Aside0.mk ((hb3.block _ (blk_lt HK.out)).trans HK.out)
          have q1 : w3.cell? ⟨wr.heap.size, 1, none⟩ = some (.string yy.f1) := (blk_cell HK3.out 1).trans rfl
          clear hb3
          clear hw3
          go_wp2_with (go_at_call 67; refine (Tryd.Builder_WriteString_k w1.heap.size w1.heap.size _ yy.f1 _ HU3.out (by rw [Lib.byteCells_length]; omega) (show w1.heap.size ≤ (w3).heap.size by omega)).mono ?_; rintro e w5 ⟨rfl, hb5, bb5, ok5⟩; have HU5 := Aside0.mk hb5; have HBB5 := Aside0.mk bb5; have HB5 := Aside0.mk (HB3.out.trans (bb5.mono HB1.out.size)); clear hb5 bb5 ok5)
          go_roundg (l.length - (i + 1))
          case measure => omega
          case rel => exact ⟨i + 1, acc ++ yy.f1.data.toList, _, _, rfl, rfl, by go_num, by omega, by omega, hac2, HN, ⟨.inr (by rw [Lib.byteCells_append]; exact HU5.out)⟩, HB5, by have := HBB5.out.size; omega⟩
        · have c1 : decide ((0 : Int) < (i : Int)) = true := decide_eq_true (by omega)
          have c1n : decide (0 < i) = true := decide_eq_true (by omega)
          obtain ⟨j, hj⟩ : ∃ j, i = j + 1 := ⟨i - 1, by omega⟩
          have hp : prevT l i = some (rd_T35 l (j : Int)) := by unfold prevT; rw [if_neg hz, hj, Nat.add_sub_cancel]
          have hjz : (j : Int) < (l.length : Int) := by omega
          obtain ⟨ad2, e2, y0, y1, y2⟩ := at_T35 (Kd.C_below HC.out HBW.out) (j : Int) (by omega) hjz
          obtain rfl := Option.some.inj e2
          rw [Int.toNat_natCast] at y0 y1 y2
          have u1 : IntKind.i64.wrap ((i : Int) - 1) = (j : Int) := by rw [i64_w, w64 (by omega) (by omega)]; omega
          rw [hp] at hA2 hgl
          have hap0 := apM_eq (rd_T35 l (j : Int)) (rd_T35 l (i : Int))
          unfold gapT at hA2 hgl
          simp only at hA2 hgl
          generalize rd_T35 l (i : Int) = yy at *
          generalize rd_T35 l (j : Int) = pp at *
          generalize apM pp yy = ap at *
          have hIs := Aside0.mk (fun W => lex_isApart.calls pp.f0 pp.f1 pp.f2 yy.f0 yy.f1 yy.f2 ap W hap0)
          clear e2 hap0 hj hz hp
          cases ap
          · have HN := Aside0.mk (show (acc ++ yy.f1.data.toList) ++ tgB (prevT l (i + 1)) (l.drop (i + 1)) = RES by rw [← hA2, if_neg Bool.false_ne_true, List.append_nil, List.append_assoc])
            have hac2 : (acc ++ yy.f1.data.toList).length ≤ 3001 * (i + 1) := by rw [List.length_append, ← size_len]; omega
            clear hA2 hgl
            go_wp2
            obtain ⟨W2, hW2⟩ : ∃ W2 : World, W2 = wr.alloc (.cells #[.int .u8 yy.f0, .string yy.f1, .int .i64 yy.f2] 35) := ⟨_, rfl⟩
            rw [← hW2]
            have HB2 := Aside0.mk (show Below w.heap.size w W2 by rw [hW2]; exact HBW.out.alloc HBW.out.size _)
            have HBr := Aside0.mk (show Below wr.heap.size wr W2 by rw [hW2]; exact (Below.refl _ _).alloc (Nat.le_refl _) _)
            have HU2 := Aside0.mk (show Lib.IsBuilderF 85 5 w1.heap.size w1.heap.size (Lib.byteCells acc) W2 by rw [hW2]; exact HU.out.alloc _)
            have HK := Aside0.mk (show W2.heap[wr.heap.size]? = some (.cells #[.int .u8 yy.f0, .string yy.f1, .int .i64 yy.f2] 35 (0, 0)) by rw [hW2]; exact heap_alloc_new wr _)
            have hsz2 : W2.heap.size = wr.heap.size + 1 := by rw [hW2]; simp
            clear hW2
            replace y0 := (HBr.out.cell (World.block_lt_of_cell? wr _ y0)).trans y0
            replace y1 := (HBr.out.cell (World.block_lt_of_cell? wr _ y1)).trans y1
            replace y2 := (HBr.out.cell (World.block_lt_of_cell? wr _ y2)).trans y2
            have k0 : W2.cell? ⟨wr.heap.size, 0, none⟩ = some (.int .u8 yy.f0) := (blk_cell HK.out 0).trans rfl
            have k1 : W2.cell? ⟨wr.heap.size, 1, none⟩ = some (.string yy.f1) := (blk_cell HK.out 1).trans rfl
            have k2 : W2.cell? ⟨wr.heap.size, 2, none⟩ = some (.int .i64 yy.f2) := (blk_cell HK.out 2).trans rfl
            go_still_tail 9, (by kernel_rfl)
            change wpList _ _ _ _ _ W2.drew
            go_wp2_with (first | (go_at_call 65; refine (hIs.out W2.drew).mono ?_; rintro e w3 ⟨rfl, hb3'⟩; have hb3 : Below W2.heap.size W2 w3 := (Below.refl _ W2).drew.trans hb3'; have hsz3 : wr.heap.size + 1 ≤ w3.heap.size := (by have := hb3.size; omega); have HB3 := Aside0.mk (HB2.out.trans (hb3.mono HB2.out.size)); have HU3 := Aside0.mk (bld_below HU2.out hb3); have HK3 := Aside0.mk ((hb3.block _ (blk_lt HK.out)).trans HK.out); have q1 : w3.cell? ⟨wr.heap.size, 1, none⟩ = some (.string yy.f1) := (blk_cell HK3.out 1).trans rfl; clear hb3 hb3') | (go_at_call 67; refine (Tryd.Builder_WriteString_k w1.heap.size w1.heap.size _ yy.f1 _ HU3.out (by rw [Lib.byteCells_length]; omega) (show w1.heap.size ≤ (w3).heap.size by omega)).mono ?_; rintro e w5 ⟨rfl, hb5, bb5, ok5⟩; have HU5 := Aside0.mk hb5; have HBB5 := Aside0.mk bb5; have HB5 := Aside0.mk (HB3.out.trans (bb5.mono HB1.out.size)); clear hb5 bb5 ok5))
            go_roundg (l.length - (i + 1))
            case measure => omega
            case rel => exact ⟨i + 1, acc ++ yy.f1.data.toList, _, _, rfl, rfl, by go_num, by omega, by omega, hac2, HN, ⟨.inr (by rw [Lib.byteCells_append]; exact HU5.out)⟩, HB5, by have := HBB5.out.size; omega⟩
          · have HN := Aside0.mk (show ((acc ++ [32]) ++ yy.f1.data.toList) ++ tgB (prevT l (i + 1)) (l.drop (i + 1)) = RES by rw [← hA2, if_pos rfl, List.append_assoc, List.append_assoc])
            have hac3 : (acc ++ ([32] : List UInt8)).length ≤ 3001 * i + 1 := by rw [List.length_append, List.length_singleton]; omega
            have hac2 : ((acc ++ [32]) ++ yy.f1.data.toList).length ≤ 3001 * (i + 1) := by rw [List.length_append, List.length_append, ← size_len, List.length_singleton]; omega
            clear hA2 hgl
            go_wp2
            obtain ⟨W2, hW2⟩ : ∃ W2 : World, W2 = wr.alloc (.cells #[.int .u8 yy.f0, .string yy.f1, .int .i64 yy.f2] 35) := ⟨_, rfl⟩
            rw [← hW2]
            have HB2 := Aside0.mk (show Below w.heap.size w W2 by rw [hW2]; exact HBW.out.alloc HBW.out.size _)
            have HBr := Aside0.mk (show Below wr.heap.size wr W2 by rw [hW2]; exact (Below.refl _ _).alloc (Nat.le_refl _) _)
            have HU2 := Aside0.mk (show Lib.IsBuilderF 85 5 w1.heap.size w1.heap.size (Lib.byteCells acc) W2 by rw [hW2]; exact HU.out.alloc _)
            have HK := Aside0.mk (show W2.heap[wr.heap.size]? = some (.cells #[.int .u8 yy.f0, .string yy.f1, .int .i64 yy.f2] 35 (0, 0)) by rw [hW2]; exact heap_alloc_new wr _)
            have hsz2 : W2.heap.size = wr.heap.size + 1 := by rw [hW2]; simp
            clear hW2
            replace y0 := (HBr.out.cell (World.block_lt_of_cell? wr _ y0)).trans y0
            replace y1 := (HBr.out.cell (World.block_lt_of_cell? wr _ y1)).trans y1
            replace y2 := (HBr.out.cell (World.block_lt_of_cell? wr _ y2)).trans y2
            have k0 : W2.cell? ⟨wr.heap.size, 0, none⟩ = some (.int .u8 yy.f0) := (blk_cell HK.out 0).trans rfl
            have k1 : W2.cell? ⟨wr.heap.size, 1, none⟩ = some (.string yy.f1) := (blk_cell HK.out 1).trans rfl
            have k2 : W2.cell? ⟨wr.heap.size, 2, none⟩ = some (.int .i64 yy.f2) := (blk_cell HK.out 2).trans rfl
            go_still_tail 9, (by kernel_rfl)
            change wpList _ _ _ _ _ W2.drew
            go_wp2_with (first | (go_at_call 65; refine (hIs.out W2.drew).mono ?_; rintro e w3 ⟨rfl, hb3'⟩; have hb3 : Below W2.heap.size W2 w3 := (Below.refl _ W2).drew.trans hb3'; have hsz3 : wr.heap.size + 1 ≤ w3.heap.size := (by have := hb3.size; omega); have HB3 := Aside0.mk (HB2.out.trans (hb3.mono HB2.out.size)); have HU3 := Aside0.mk (bld_below HU2.out hb3); have HK3 := Aside0.mk ((hb3.block _ (blk_lt HK.out)).trans HK.out); have q1 : w3.cell? ⟨wr.heap.size, 1, none⟩ = some (.string yy.f1) := (blk_cell HK3.out 1).trans rfl; clear hb3 hb3') | (go_at_call 66; refine (Tryd.Builder_WriteByte_k w1.heap.size w1.heap.size _ 32 _ HU3.out (by rw [Lib.byteCells_length]; omega) (show w1.heap.size ≤ w3.heap.size by omega)).mono ?_; rintro e w4 ⟨rfl, hb4, bb4, ok4⟩; have HU4 := Aside0.mk (show Lib.IsBuilderF 85 5 w1.heap.size w1.heap.size (Lib.byteCells (acc ++ [32])) w4 from .inr (by rw [Lib.byteCells_append]; exact hb4)); have hsz4 := bb4.size; have HB4 := Aside0.mk (HB3.out.trans (bb4.mono HB1.out.size)); have HK4 := Aside0.mk (ok4 _ _ HK3.out (by simp; omega) (by intro c' fz e; cases e)); have r1 : w4.cell? ⟨wr.heap.size, 1, none⟩ = some (.string yy.f1) := (blk_cell HK4.out 1).trans rfl; clear hb4 bb4 ok4) | (go_at_call 67; refine (Tryd.Builder_WriteString_k w1.heap.size w1.heap.size _ yy.f1 _ HU4.out (by rw [Lib.byteCells_length]; omega) (show w1.heap.size ≤ (w4).heap.size by omega)).mono ?_; rintro e w5 ⟨rfl, hb5, bb5, ok5⟩; have HU5 := Aside0.mk hb5; have HBB5 := Aside0.mk bb5; have HB5 := Aside0.mk (HB4.out.trans (bb5.mono HB1.out.size)); clear hb5 bb5 ok5))
            go_roundg (l.length - (i + 1))
            case measure => omega
            case rel => exact ⟨i + 1, (acc ++ [32]) ++ yy.f1.data.toList, _, _, rfl, rfl, by go_num, by omega, by omega, hac2, HN, ⟨.inr (by rw [Lib.byteCells_append]; exact HU5.out)⟩, HB5, by have := HBB5.out.size; omega⟩
      · have hlt2 : decide ((i : Int) < (l.length : Int)) = false := decide_eq_false (by omega)
        have hlt3 : decide (i < l.length) = false := decide_eq_false hlt
        have hA2 := HA.out
        rw [List.drop_eq_nil_of_le (by omega), tgB, List.append_nil] at hA2
        subst hA2
        have hlen := Aside0.mk (Lib.byteCells_length acc)
        have hO := HO.out
        clear hac HO
        by_cases h25 : 2500 < acc.length
        · have d1 : decide ((2500 : Int) < (acc.length : Int)) = true := decide_eq_true (by omega)
          have d2 : decide (2500 < acc.length) = true := decide_eq_true h25
          rw [if_pos h25] at hO
          have HO := Aside0.mk hO.symm
          clear h25 hO
          go_wp2_with (first | (go_at_call 68; refine (Tryd.Builder_Len_f w1.heap.size w1.heap.size _ _ HU.out).mono ?_; rw [hlen.out]; rintro e w5 ⟨rfl, rfl⟩))
          go_ret2
          rw [HO.out]
          exact ⟨rfl, HBW.out⟩
        · have d1 : decide ((2500 : Int) < (acc.length : Int)) = false := decide_eq_false (by omega)
          have d2 : decide (2500 < acc.length) = false := decide_eq_false h25
          rw [if_neg h25] at hO
          have HO := Aside0.mk hO.symm
          clear h25 hO
          go_wp2_with (first | (go_at_call 68; refine (Tryd.Builder_Len_f w1.heap.size w1.heap.size _ _ HU.out).mono ?_; rw [hlen.out]; rintro e w5 ⟨rfl, rfl⟩) | (go_at_call 69; refine (Tryd.Builder_String_any_k w1.heap.size w1.heap.size acc _ HU.out (by omega)).mono ?_; rintro e w6 ⟨rfl, hb6, bb6, ok6⟩; have HB6 := Aside0.mk (HBW.out.trans (bb6.mono HB1.out.size)); clear hb6 bb6 ok6))
          go_ret2
          rw [HO.out]
          exact ⟨rfl, HB6.out⟩
  · rw [if_neg h0]
    have k1 : (tkE l == 0) = false := beq_false_of_ne h0
    have k2 : (tkE l != 0) = true := bne_iff_ne.2 h0
    clear h0 hC hx hg
    generalize tkE l = e0 at *
    go_enter Tryd.func36, Tryd.ntmps36
    go_wp2_with (go_at_call 64; refine hT.mono ?_; rintro e w1 ⟨rfl, hb1⟩; have HB1 := Aside0.mk hb1; clear hb1)
    go_ret2
    exact ⟨rfl, HB1.out⟩
end Go.Proofs.YtggfcmondffodaaDoor.P
namespace Go.Proofs.YtggfcmondffodaaDoor.P
open Go.RowKit Go.Proofs.YtggfcmondffodaaDoorW.PrintWords
set_option linter.unusedVariables false
set_option linter.unusedSimpArgs false
theorem rg_self {x : Tk} (h : rgT x = true) : firstM kwM x.f1 = ((x.f0, x.f1), 0) := by
  have h2 : (decide ((firstM kwM x.f1).2 = 0) && (decide ((firstM kwM x.f1).1.1 = x.f0) && decide ((firstM kwM x.f1).1.2 = x.f1))) = true := h
  simp only [Bool.and_eq_true, decide_eq_true_eq] at h2
  obtain ⟨a, b, c⟩ := h2
  exact Prod.ext (Prod.ext b c) a
/-- The first byte of a token. -/
theorem rg_head {x : Tk} (h : rgT x = true) : 0 < x.f1.size ∧ (x.f0 ≠ 4 → wdB (bt x.f1 0) = true) ∧ (x.f0 = 4 → wdB (bt x.f1 0) = false ∧ bt x.f1 0 ≠ 62 ∧ (bt x.f1 0 = 61 → x.f1 = ba [61]) ∧ spB (bt x.f1 0) = false ∧ bt x.f1 0 ≠ 126) := by
  have h1 := rg_self h
  obtain ⟨-, -, -, h0, h4⟩ := firstM_self kwM h1
  refine ⟨h0, fun hk => ?_, fun hk => ?_⟩
  · have hw : wlen x.f1 ≠ 0 := fun e => hk (h4.2 e)
    have := wlen_in x.f1 0 (by omega)
    exact this
  · rcases tok_sign h1 (h4.1 hk) with e | e | ⟨e1, e2⟩
    · rw [e]; refine ⟨by decide, by decide, fun e => absurd e (by decide), by decide, by decide⟩
    · rw [e]; refine ⟨by decide, by decide, fun e => absurd e (by decide), by decide, by decide⟩
    · have e3 : [61, 60, 43, 45, 42, 33, 40, 41, 123, 125, 44, 59, 58, 46].contains (bt x.f1 0) = true := e2
      simp only [List.contains_cons, List.contains_nil, Bool.or_false, Bool.or_eq_true, beq_iff_eq] at e3
      refine ⟨?_, by omega, fun e => one_ba 61 e1 (by rw [e]; rfl), ?_, by omega⟩
      · rcases e3 with e | e | e | e | e | e | e | e | e | e | e | e | e | e <;> (rw [e]; decide)
      · rcases e3 with e | e | e | e | e | e | e | e | e | e | e | e | e | e <;> (rw [e]; decide)
theorem wd_first {c : Int} (h : wdB c = true) : spB c = false ∧ c ≠ 126 ∧ c ≠ 61 ∧ c ≠ 62 ∧ c ≠ 58 ∧ c ≠ 45 := by
  unfold wdB dgB smB gtB at h
  simp only [Bool.or_eq_true, Bool.and_eq_true, decide_eq_true_eq] at h
  refine ⟨?_, by omega, by omega, by omega, by omega, by omega⟩
  rw [Bool.eq_false_iff]; intro e; rw [spB_iff] at e; omega
theorem rg_first {x : Tk} (h : rgT x = true) : spB (bt x.f1 0) = false ∧ bt x.f1 0 ≠ 126 := by
  obtain ⟨-, h1, h2⟩ := rg_head h
  by_cases c : x.f0 = 4
  · exact ⟨(h2 c).2.2.2.1, (h2 c).2.2.2.2⟩
  · exact ⟨(wd_first (h1 c)).1, (wd_first (h1 c)).2.1⟩
/-- A blank must stand just where the byte behind may not. -/
theorem nx_ap {x y : Tk} (hx : rgT x = true) (hy : rgT y = true) : nxB x.f0 x.f1 (bt y.f1 0) = !apM x y := by
  obtain ⟨-, x1, x2⟩ := rg_head hx
  obtain ⟨-, y1, y2⟩ := rg_head hy
  unfold nxB apM
  by_cases c : x.f0 = 4
  · rw [if_pos c, if_neg (show ¬ (x.f0 ≠ 4 ∧ y.f0 ≠ 4) from fun h => h.1 c)]
    have h62 : bt y.f1 0 ≠ 62 := by
      by_cases d : y.f0 = 4
      · exact (y2 d).2.1
      · exact (wd_first (y1 d)).2.2.2.1
    have h61 : decide (bt y.f1 0 = 61) = decide (y.f1 = ba [61]) := by
      refine decide_eq_decide.2 ⟨fun e => ?_, fun e => by rw [e]; rfl⟩
      by_cases d : y.f0 = 4
      · exact (y2 d).2.2.1 e
      · exact absurd e (wd_first (y1 d)).2.2.1
    rw [decide_eq_false h62, Bool.and_false, h61]; simp
  · rw [if_neg c]
    by_cases d : y.f0 = 4
    · have h58 : x.f1 ≠ ba [58] := fun e => by
        have := (wd_first (x1 c)).2.2.2.2.1
        rw [e] at this; exact this rfl
      rw [if_neg (show ¬ (x.f0 ≠ 4 ∧ y.f0 ≠ 4) from fun h => h.2 d), (y2 d).1, decide_eq_false h58]; rfl
    · rw [if_pos ⟨c, d⟩, y1 d]
/-- Where the tokens stand in the shortest text. -/
def plT (p : Option Tk) (m : Nat) : List Tk → List Tk
  | [] => []
  | x :: r => ⟨x.f0, x.f1, ((m + (gapT p x).length : Nat) : Int)⟩ :: plT (some x) (m + (gapT p x).length + x.f1.size) r
theorem plT_length (l : List Tk) : ∀ (p : Option Tk) (m : Nat), (plT p m l).length = l.length := by
  induction l with
  | nil => intro p m; rfl
  | cons x r ih => intro p m; rw [plT, List.length_cons, List.length_cons, ih]
theorem nx_head {x : Tk} (hx : rgT x = true) (t : ByteArray) (m : Nat) (r : List Tk) (hr : ∀ y ∈ r, rgT y = true) (hL : Lr t m = tgB (some x) r) : nxB x.f0 x.f1 (bt t (m : Int)) = true := by
  cases r with
  | nil =>
    rw [bt_head, hL]
    show nxB x.f0 x.f1 ((0 : Nat) : Int) = true
    unfold nxB
    by_cases c : x.f0 = 4
    · rw [if_pos c]; simp
    · rw [if_neg c]; decide
  | cons y r =>
    have hy := hr y List.mem_cons_self
    have ha := nx_ap hx hy
    unfold tgB gapT at hL
    simp only at hL
    cases hap : apM x y with
    | true =>
      rw [hap, if_pos rfl] at hL
      rw [bt_head, hL]
      show nxB x.f0 x.f1 (((32 : UInt8).toNat : Nat) : Int) = true
      unfold nxB
      by_cases c : x.f0 = 4
      · rw [if_pos c]; simp
      · rw [if_neg c]; decide
    | false =>
      rw [hap, if_neg Bool.false_ne_true, List.nil_append] at hL
      have hz := (rg_head hy).1
      have e : bt t (m : Int) = bt y.f1 0 := by
        rw [bt_head, hL, List.getElem?_append_left (by rw [data_length]; exact hz), show (0 : Int) = ((0 : Nat) : Int) from rfl, bt_list]
      rw [e, ha, hap]; rfl
theorem tight_scan (t : ByteArray) : ∀ (l : List Tk) (p : Option Tk) (m : Nat), (∀ x ∈ l, rgT x = true) → m ≤ t.size → Lr t m = tgB p l → Scan t m (plT p m l) t.size
  | [], p, m, hr, hm, hL => by
    have h1 := Lr_len t m
    rw [hL, tgB] at h1
    have h2 : (0 : Nat) = t.size - m := h1
    obtain rfl : m = t.size := by omega
    exact .done _
  | x :: r, p, m, hr, hm, hL => by
    have hx := hr x List.mem_cons_self
    have hr' := fun y hy => hr y (List.mem_cons_of_mem x hy)
    rw [tgB] at hL
    obtain ⟨h1, h2⟩ := Lr_app hL
    have h3 := h2 hm
    obtain ⟨b1, b2, b3, b4⟩ := begT_Lr h3 h1
    obtain ⟨f1, f2⟩ := rg_first hx
    have hz := (rg_head hx).1
    have hb : bt t ((m + (gapT p x).length : Nat) : Int) = bt x.f1 0 := by
      rw [bt_head, h1, List.getElem?_append_left (by rw [data_length]; exact hz), show (0 : Int) = ((0 : Nat) : Int) from rfl, bt_list]
    have hf := firstM_of kwM (rg_self hx) b1 (by rw [b4]; exact nx_head hx t _ r hr' b3)
    have hS := Scan.tok (s := t) (i := m + (gapT p x).length) (by omega) (by rw [hb]; exact f1) (by rw [hb]; exact f2) hf (tight_scan t r (some x) _ hr' b2 b3)
    rw [plT]
    have hg := gapT_le p x
    by_cases c : (gapT p x).length = 0
    · rw [c, Nat.add_zero] at hS ⊢; exact hS
    · have h32 : gapT p x = [32] := by
        unfold gapT at c ⊢
        cases p with
        | none => exact absurd rfl c
        | some y =>
          simp only at c ⊢
          split at c
          · rename_i h; rw [if_pos h]
          · exact absurd rfl c
      refine .blank (by omega) ?_ ?_
      · rw [bt_head, hL, h32]
        show spB (((32 : UInt8).toNat : Nat) : Int) = true
        decide
      · rw [show m + 1 = m + (gapT p x).length by rw [h32]; rfl]; exact hS
theorem rg_ok {x : Tk} (h : rgT x = true) : ∀ c ∈ x.f1.data.toList, okB (c.toNat : Int) = true := by
  have h1 := rg_self h
  rw [← bt_all]
  intro j hj
  by_cases c : wlen x.f1 = 0
  · rcases tok_sign h1 c with e | e | ⟨e1, e2⟩
    · rw [e] at hj ⊢
      have : j = 0 ∨ j = 1 := by have : (ba [58, 61]).size = 2 := rfl
                                 omega
      rcases this with rfl | rfl <;> decide
    · rw [e] at hj ⊢
      have : j = 0 ∨ j = 1 := by have : (ba [45, 62]).size = 2 := rfl
                                 omega
      rcases this with rfl | rfl <;> decide
    · obtain rfl : j = 0 := by omega
      have e3 : [61, 60, 43, 45, 42, 33, 40, 41, 123, 125, 44, 59, 58, 46].contains (bt x.f1 0) = true := e2
      simp only [List.contains_cons, List.contains_nil, Bool.or_false, Bool.or_eq_true, beq_iff_eq] at e3
      rw [show ((0 : Nat) : Int) = 0 from rfl]
      rcases e3 with e | e | e | e | e | e | e | e | e | e | e | e | e | e <;> (rw [e]; decide)
  · exact wd_ok (wlen_in x.f1 j (by rw [tok_wl h1 c]; exact hj))
theorem tgB_ok : ∀ (l : List Tk) (p : Option Tk), (∀ x ∈ l, rgT x = true) → ∀ c ∈ tgB p l, okB (c.toNat : Int) = true
  | [], _, _, c, hc => by cases hc
  | x :: r, p, hr, c, hc => by
    rw [tgB] at hc
    rcases List.mem_append.1 hc with hc | hc
    · unfold gapT at hc
      cases p with
      | none => cases hc
      | some y =>
        simp only at hc
        split at hc
        · rw [List.mem_singleton.1 hc]; decide
        · cases hc
    · rcases List.mem_append.1 hc with hc | hc
      · exact rg_ok (hr x List.mem_cons_self) c hc
      · exact tgB_ok r (some x) (fun y hy => hr y (List.mem_cons_of_mem _ hy)) c hc
theorem tkE_iff (l : List Tk) : tkE l = 0 ↔ l.length ≤ 900 ∧ ∀ x ∈ l, rgT x = true := by
  unfold tkE
  by_cases h : 900 < l.length
  · rw [if_pos h]; exact iff_of_false (by decide) fun e => by omega
  · rw [if_neg h]
    by_cases c : l.all rgT = true
    · rw [if_pos c]; exact iff_of_true rfl ⟨by omega, List.all_eq_true.1 c⟩
    · rw [if_neg c]; exact iff_of_false (by decide) fun e => c (List.all_eq_true.2 e.2)
/-- The tokens of the shortest text. -/
theorem tight_toks (l : List Tk) (h : tkE l = 0) (hs : (tgB none l).length ≤ 2500) : (toksM kwM (ba (tgB none l))).1 = plT none 0 l ∧ (toksM kwM (ba (tgB none l))).2.2 = 0 := by
  obtain ⟨h1, h2⟩ := (tkE_iff l).1 h
  refine (toks_iff _ _).2 ⟨(chk_iff _).2 ⟨by rw [size_len, ba_data]; exact hs, (bt_all _).2 ?_⟩, ?_, by rw [plT_length]; exact h1⟩
  · rw [ba_data]; exact tgB_ok l none h2
  · exact tight_scan _ l none 0 h2 (Nat.zero_le _) (by unfold Lr; rw [ba_data, List.drop_zero])
end Go.Proofs.YtggfcmondffodaaDoor.P
namespace Go.Proofs.YtggfcmondffodaaDoor.P
open Go.RowKit Go.Shelf Go.Maps Go.Proofs.YtggfcmondffodaaDoorW.PrintWords Go.Proofs.YtggfcmondffodaaDoorW.PrintLast Go.Proofs.YtggfcmondffodaaDoorW.PrintMore
set_option linter.unusedVariables false
set_option linter.unusedSimpArgs false
def keyT (x : Tk) : Int × ByteArray := (x.f0, x.f1)
theorem key_rd {l m : List Tk} (h : l.map keyT = m.map keyT) (i : Nat) (hi : i < l.length) : keyT (rd_T35 l (i : Int)) = keyT (rd_T35 m (i : Int)) := by
  have hl : l.length = m.length := by have := congrArg List.length h; rw [List.length_map, List.length_map] at this; exact this
  have h1 : (l.map keyT)[i]? = (m.map keyT)[i]? := by rw [h]
  rw [List.getElem?_map, List.getElem?_map, List.getElem?_eq_getElem hi, List.getElem?_eq_getElem (by omega)] at h1
  rw [rdT_of (List.getElem?_eq_getElem hi), rdT_of (List.getElem?_eq_getElem (by omega : i < m.length))]
  exact Option.some.inj h1
theorem plT_key (l : List Tk) : ∀ (p : Option Tk) (m : Nat), (plT p m l).map keyT = l.map keyT := by
  induction l with
  | nil => intro p m; rfl
  | cons x r ih => intro p m; rw [plT, List.map_cons, List.map_cons, ih]; rfl
theorem pSame0 (l m : List Tk) (h : l.map keyT = m.map keyT) (hl : l.length ≤ 140737488351232) : ∀ (d i k : Nat), l.length - i = d → i ≤ l.length → d < k → ripostelaw01_sameBut.l0 k l m (i : Int) = some true := by
  have hlen : l.length = m.length := by have := congrArg List.length h; rw [List.length_map, List.length_map] at this; exact this
  intro d
  induction d with
  | zero =>
    intro i k hd hi hk
    obtain ⟨k, rfl, _⟩ := succ_of hk
    rw [ripostelaw01_sameBut.l0.eq_2, if_neg (by omega)]
  | succ d ih =>
    intro i k hd hi hk
    obtain ⟨k, rfl, hk'⟩ := succ_of hk
    have hlt : i < l.length := by omega
    have e := key_rd h i hlt
    have e2 := up1 i l.length hlt hl
    have f0 : (rd_T35 l (i : Int)).f0 = (rd_T35 m (i : Int)).f0 := congrArg Prod.fst e
    have f1 : (rd_T35 l (i : Int)).f1 = (rd_T35 m (i : Int)).f1 := congrArg Prod.snd e
    rw [ripostelaw01_sameBut.l0.eq_2, if_pos (by omega), if_pos (by omega), if_pos (by omega), if_pos f0, f1, if_pos rfl, e2]
    exact ih (i + 1) k (by omega) (by omega) (by omega)
theorem pSameBut (l m : List Tk) (h : l.map keyT = m.map keyT) (hl : l.length ≤ 140737488351232) : ripostelaw01_sameBut.f (l.length + 1) l m = some true := by
  have hlen : l.length = m.length := by have := congrArg List.length h; rw [List.length_map, List.length_map] at this; exact this
  unfold ripostelaw01_sameBut.f
  rw [if_pos (by omega)]
  exact pSame0 l m h hl l.length 0 _ (by omega) (by omega) (by omega)
end Go.Proofs.YtggfcmondffodaaDoor.P
namespace Go.Proofs.YtggfcmondffodaaDoor.P
open Go.RowKit Go.Proofs.YtggfcmondffodaaDoorW.PrintWords
set_option linter.unusedVariables false
set_option linter.unusedSimpArgs false
theorem rg_no32 {x : Tk} (h : rgT x = true) (j : Nat) (hj : j < x.f1.size) : bt x.f1 (j : Int) ≠ 32 := by
  have h1 := rg_self h
  by_cases c : wlen x.f1 = 0
  · rcases tok_sign h1 c with e | e | ⟨e1, e2⟩
    · rw [e] at hj ⊢
      have : j = 0 ∨ j = 1 := by have : (ba [58, 61]).size = 2 := rfl
                                 omega
      rcases this with rfl | rfl <;> decide
    · rw [e] at hj ⊢
      have : j = 0 ∨ j = 1 := by have : (ba [45, 62]).size = 2 := rfl
                                 omega
      rcases this with rfl | rfl <;> decide
    · obtain rfl : j = 0 := by omega
      intro e
      rw [show ((0 : Nat) : Int) = 0 from rfl] at e
      rw [e] at e2
      exact absurd e2 (by decide)
  · intro e
    have := wlen_in x.f1 j (by rw [tok_wl h1 c]; exact hj)
    rw [e] at this
    exact absurd this (by decide)
theorem no32 {x : Tk} (h : rgT x = true) (j : Nat) : x.f1.data.toList[j]? ≠ some 32 := by
  intro e
  have hj : j < x.f1.size := by rw [size_len]; exact (List.getElem?_eq_some_iff.1 e).1
  have := rg_no32 h j hj
  rw [bt_list, e] at this
  exact this rfl
theorem plT_up (l : List Tk) : ∀ (p : Option Tk) (m i : Nat), (∀ x ∈ l, rgT x = true) → i + 1 < l.length → (rd_T35 (plT p m l) (i : Int)).f2 < (rd_T35 (plT p m l) ((i + 1 : Nat) : Int)).f2 := by
  induction l with
  | nil => intro p m i _ h; exact absurd h (Nat.not_lt_zero _)
  | cons x r ih =>
    intro p m i hr h
    rw [List.length_cons] at h
    have hz := (rg_head (hr x List.mem_cons_self)).1
    cases r with
    | nil => exact absurd h (by simp)
    | cons y r =>
      cases i with
      | zero =>
        have e1 : rd_T35 (plT p m (x :: y :: r)) ((0 : Nat) : Int) = ⟨x.f0, x.f1, ((m + (gapT p x).length : Nat) : Int)⟩ := rdT_of (by rw [plT]; rfl)
        have e2 : rd_T35 (plT p m (x :: y :: r)) ((0 + 1 : Nat) : Int) = ⟨y.f0, y.f1, ((m + (gapT p x).length + x.f1.size + (gapT (some x) y).length : Nat) : Int)⟩ := rdT_of (by rw [plT, plT]; rfl)
        rw [e1, e2]
        simp only
        omega
      | succ i =>
        have hi := ih (some x) (m + (gapT p x).length + x.f1.size) i (fun z hz => hr z (List.mem_cons_of_mem _ hz)) (by rw [List.length_cons] at h ⊢; omega)
        have hlen := plT_length (y :: r) (some x) (m + (gapT p x).length + x.f1.size)
        have e : ∀ k : Nat, k < (y :: r).length → rd_T35 (plT p m (x :: y :: r)) ((k + 1 : Nat) : Int) = rd_T35 (plT (some x) (m + (gapT p x).length + x.f1.size) (y :: r)) (k : Int) := fun k hk => by
          have h1 := List.getElem?_eq_getElem (l := plT (some x) (m + (gapT p x).length + x.f1.size) (y :: r)) (i := k) (by rw [hlen]; exact hk)
          rw [rdT_of h1]
          exact rdT_of (by rw [plT, List.getElem?_cons_succ]; exact h1)
        rw [e i (by rw [List.length_cons] at h ⊢; omega), e (i + 1) (by rw [List.length_cons] at h ⊢; omega)]
        exact hi
/-- A text without one of the shortest text's blanks has not these tokens. -/
theorem no_blank (u : ByteArray) : ∀ (l : List Tk) (p : Option Tk) (m i : Nat) (n : List Tk), (∀ x ∈ l, rgT x = true) → (∀ y, p = some y → rgT y = true ∧ nxB y.f0 y.f1 (bt u (m : Int)) = true) → m ≤ u.size → Scan u m n u.size → n.map keyT = l.map keyT → (tgB p l)[i]? = some 32 → Lr u m = (tgB p l).eraseIdx i → False
  | [], p, m, i, n, hr, hp, hm, hS, hk, hi, hL => by rw [tgB] at hi; cases hi
  | x :: r, p, m, i, n, hr, hp, hm, hS, hk, hi, hL => by
    have hx := hr x List.mem_cons_self
    have hr' := fun y hy => hr y (List.mem_cons_of_mem x hy)
    have hz := (rg_head hx).1
    have hg := gapT_le p x
    rw [tgB] at hi hL
    by_cases c : i < (gapT p x).length
    · -- the blank ahead of this token
      have h0 : i = 0 := by omega
      cases p with
      | none => exact absurd c (by unfold gapT; simp)
      | some y =>
        obtain ⟨hy, hn⟩ := hp y rfl
        have hap : apM y x = true := by
          cases hh : apM y x with
          | true => rfl
          | false => exact absurd c (by unfold gapT; simp [hh])
        have hgp : gapT (some y) x = [32] := by unfold gapT; simp [hap]
        rw [h0, hgp] at hL
        have hL2 : Lr u m = x.f1.data.toList ++ tgB (some x) r := hL
        have e : bt u (m : Int) = bt x.f1 0 := by
          rw [bt_head, hL2, List.getElem?_append_left (by rw [data_length]; exact hz), show (0 : Int) = ((0 : Nat) : Int) from rfl, bt_list]
        rw [e, nx_ap hy hx, hap] at hn
        cases hn
    · rw [List.getElem?_append_right (by omega)] at hi
      rw [List.eraseIdx_append_of_length_le (by omega)] at hL
      generalize hi' : i - (gapT p x).length = i' at *
      have c2 : ¬ i' < x.f1.size := fun h => by
        rw [List.getElem?_append_left (by rw [← size_len]; exact h)] at hi
        exact no32 hx i' hi
      rw [List.getElem?_append_right (by rw [← size_len]; omega), ← size_len] at hi
      rw [List.eraseIdx_append_of_length_le (by rw [← size_len]; omega), ← size_len] at hL
      obtain ⟨h1, h2⟩ := Lr_app hL
      have h3 := h2 hm
      obtain ⟨b1, b2, b3, b4⟩ := begT_Lr h3 h1
      obtain ⟨f1, f2⟩ := rg_first hx
      have hb : bt u ((m + (gapT p x).length : Nat) : Int) = bt x.f1 0 := by
        rw [bt_head, h1, List.getElem?_append_left (by rw [data_length]; exact hz), show (0 : Int) = ((0 : Nat) : Int) from rfl, bt_list]
      have hS2 : Scan u (m + (gapT p x).length) n u.size := by
        by_cases c3 : (gapT p x).length = 0
        · rw [c3, Nat.add_zero]; exact hS
        · have h32 : gapT p x = [32] := by
            unfold gapT at c3 ⊢
            cases p with
            | none => exact absurd rfl c3
            | some y =>
              simp only at c3 ⊢
              split at c3
              · rename_i h; rw [if_pos h]
              · exact absurd rfl c3
          rw [h32] at hL ⊢
          have e : bt u (m : Int) = 32 := by rw [bt_head, hL]; rfl
          rcases hS.inv (by rw [h32] at b2; simp only [List.length_singleton] at b2; omega) with ⟨-, g⟩ | ⟨g, -⟩ | ⟨_, _, _, -, g, -⟩
          · exact g
          · rw [e] at g; exact absurd g (by decide)
          · rw [e] at g; exact absurd g (by decide)
      rcases hS2.inv (by omega) with ⟨g, -⟩ | ⟨-, g, -⟩ | ⟨k', z', n', rfl, -, -, g, g2⟩
      · rw [hb, f1] at g; cases g
      · rw [hb] at g; exact f2 g
      · rw [List.map_cons, List.map_cons] at hk
        have hk1 : (k', z') = (x.f0, x.f1) := (List.cons.inj hk).1
        have hk2 := (List.cons.inj hk).2
        obtain rfl : k' = x.f0 := congrArg Prod.fst hk1
        obtain rfl : z' = x.f1 := congrArg Prod.snd hk1
        obtain ⟨-, -, f3, -, -⟩ := firstM_self kwM g
        rw [b4] at f3
        refine no_blank u r (some x) (m + (gapT p x).length + x.f1.size) (i' - x.f1.size) n' hr' (fun y hy => ?_) b2 g2 hk2 hi b3
        obtain rfl := Option.some.inj hy
        exact ⟨hx, f3⟩
theorem back (l : List Tk) (h : tkE l = 0) (i : Nat) (n : List Tk) (hi : bt (ba (tgB none l)) (i : Int) = 32) (hk : n.map keyT = l.map keyT)
    (hn : (toksM kwM ((ba (tgB none l)).extract 0 i ++ (ba (tgB none l)).extract (i + 1) (ba (tgB none l)).size)).1 = n) : (toksM kwM ((ba (tgB none l)).extract 0 i ++ (ba (tgB none l)).extract (i + 1) (ba (tgB none l)).size)).2.2 ≠ 0 := by
  intro h0
  obtain ⟨-, h2⟩ := (tkE_iff l).1 h
  obtain ⟨-, hS, -⟩ := (toks_iff _ n).1 ⟨hn, h0⟩
  have hi2 : (tgB none l)[i]? = some 32 := by
    rw [bt_list, ba_data] at hi
    cases hc : (tgB none l)[i]? with
    | none => rw [hc] at hi; exact absurd hi (by decide)
    | some c =>
      rw [hc] at hi
      have h3 : c.toNat = 32 := by simpa using Int.ofNat.inj hi
      rw [show c = 32 from UInt8.toNat_inj.1 h3]
  refine no_blank _ l none 0 i n h2 (fun y hy => by cases hy) (Nat.zero_le _) hS hk hi2 ?_
  unfold Lr
  rw [List.drop_zero, app_ba, ba_data, data_ex, data_ex, ba_data, List.drop_zero, List.take_of_length_le (show (tgB none l).length ≤ (ba (tgB none l)).size by rw [size_len, ba_data]; exact Nat.le_refl _), List.eraseIdx_eq_take_drop_succ]
theorem pSame0' (l m : List Tk) (hlen : l.length = m.length) (hl : l.length ≤ 140737488351232) : ∀ (d i k : Nat), l.length - i = d → i ≤ l.length → d < k → ripostelaw01_sameBut.l0 k l m (i : Int) = some (decide ((l.drop i).map keyT = (m.drop i).map keyT)) := by
  intro d
  induction d with
  | zero =>
    intro i k hd hi hk
    obtain ⟨k, rfl, _⟩ := succ_of hk
    rw [ripostelaw01_sameBut.l0.eq_2, if_neg (by omega), List.drop_eq_nil_of_le (show l.length ≤ i by omega), List.drop_eq_nil_of_le (show m.length ≤ i by omega), decide_eq_true rfl]
  | succ d ih =>
    intro i k hd hi hk
    obtain ⟨k, rfl, hk'⟩ := succ_of hk
    have hlt : i < l.length := by omega
    have e2 := up1 i l.length hlt hl
    rw [ripostelaw01_sameBut.l0.eq_2, if_pos (by omega), if_pos (by omega), if_pos (by omega), e2, tk_drop l i hlt, tk_drop m i (by omega), List.map_cons, List.map_cons]
    have ih' := ih (i + 1) k (by omega) (by omega) (by omega)
    generalize rd_T35 l (i : Int) = x at *
    generalize rd_T35 m (i : Int) = y at *
    have et : x.f1.toList = y.f1.toList ↔ x.f1 = y.f1 := by
      have := runRight_aux x.f1 y.f1
      constructor
      · intro h
        rw [beq_iff_eq.2 h] at this
        exact of_decide_eq_true this.symm
      · intro h; rw [h]
    by_cases c0 : x.f0 = y.f0
    · rw [if_pos c0]
      by_cases c1 : x.f1 = y.f1
      · rw [if_pos (et.2 c1), ih']
        congr 1
        refine decide_eq_decide.2 ⟨fun h => ?_, fun h => (List.cons.inj h).2⟩
        rw [h]; congr 1; exact Prod.ext c0 c1
      · rw [if_neg fun h => c1 (et.1 h), decide_eq_false fun h => c1 (congrArg Prod.snd (List.cons.inj h).1)]
    · rw [if_neg c0, decide_eq_false fun h => c0 (congrArg Prod.fst (List.cons.inj h).1)]
theorem pSameBut' (l m : List Tk) (hl : l.length ≤ 140737488351232) : ripostelaw01_sameBut.f (l.length + 1) l m = some (decide (l.map keyT = m.map keyT)) := by
  unfold ripostelaw01_sameBut.f
  by_cases c : (l.length : Int) = (m.length : Int)
  · rw [if_pos c]
    exact pSame0' l m (by omega) hl l.length 0 _ (by omega) (by omega) (by omega)
  · rw [if_neg c, decide_eq_false fun h => c (by have := congrArg List.length h; rw [List.length_map, List.length_map] at this; omega)]
end Go.Proofs.YtggfcmondffodaaDoor.P
namespace Go.Proofs.YtggfcmondffodaaDoor.P
open Go Go.RowKit Go.Shelf Go.Maps Go.ChangeShapes Go.WideShapes Go.Proofs.YtggfcmondffodaaDoorW.PrintWords Go.Proofs.YtggfcmondffodaaDoorW.PrintLast Go.Proofs.YtggfcmondffodaaDoorW.PrintMore
set_option linter.unusedVariables false
set_option linter.unusedSimpArgs false
set_option maxRecDepth 100000
section
variable {H : Type} {enc : TypeId × Value → H} {W : World} {base : Nat} {sp : Nat → Bool} {held : Bool} {fuel : Nat} {cs : List Value} {x : DataW H × List MemPlace}
theorem weightsAll_mem {P : Program} {e : TypeId} : ∀ {l : List (DataW H)} {d : DataW H}, d ∈ l → ∀ n ∈ d.weights P e, n ∈ DataW.weightsAll P e l
  | [], d, hd, _, _ => by cases hd
  | d0 :: r, d, hd, n, hn => by
    simp only [DataW.weightsAll, List.mem_append]
    rcases List.mem_cons.1 hd with rfl | h
    · exact Or.inl hn
    · exact Or.inr (weightsAll_mem h n hn)
/-- A slice that reads as data, opened: Q is known of each element, as its weight allows it. -/
theorem opens_sliceQ {α : Type} (d : Kd α) (Q : α → Prop) {t e : TypeId} (ht : Tryd.prog.underlying t = some (.slice e)) (hsz : Tryd.prog.cellsOf e = d.sz)
    (hbytes : 1 ≤ Tryd.prog.bytesOf e)
    (he : ∀ (n : Nat) (c : List Value) (y : DataW H × List MemPlace), DataW.trod enc Tryd.prog W base sp held n e c = some y → (∀ n ∈ y.1.weights Tryd.prog e, n ≤ reachBytes) → ∃ a, d.K W a c ∧ Q a)
    (h : DataW.trod enc Tryd.prog W base sp held fuel t cs = some x) (hw : ∀ n ∈ x.1.weights Tryd.prog t, n ≤ reachBytes) : ∃ A c xs, cs = [.slice A xs.length c] ∧ xs.length ≤ c ∧ d.C W A xs.length xs ∧ xs.length ≤ reachBytes ∧ ∀ a ∈ xs, Q a := by
  rcases Go.Deep.open_slice ht h with ⟨rfl, _⟩ | ⟨a, len, cap, m, n, D, Pl, rfl, hb, hl, hm, hmm, rfl, hx⟩
  · exact ⟨none, 0, [], rfl, Nat.le_refl _, ⟨rfl, by simp, fun h => absurd h (by simp)⟩, Nat.zero_le _, fun a ha => by cases ha⟩
  · have hlm : len ≤ m := by rw [hmm]; split <;> omega
    have hwl : len ≤ reachBytes := by
      have := hw (((List.range len).map D).length + ((List.range (m - len)).map fun j => D (len + j)).length |> (· * Tryd.prog.bytesOf e)) (by simp [DataW.weights, ht])
      simp only [List.length_map, List.length_range] at this
      have h2 : len * 1 ≤ (len + (m - len)) * Tryd.prog.bytesOf e := Nat.mul_le_mul (by omega) hbytes
      omega
    have hex : ∀ i, i < len → ∃ p : α × List Value, W.cells? base (a.add (i * Tryd.prog.cellsOf e)) (Tryd.prog.cellsOf e) = some p.2 ∧ (d.K W p.1 p.2 ∧ Q p.1) := fun i hi => by
      obtain ⟨c, h1, h2⟩ := hx i (by omega)
      obtain ⟨p, hp⟩ := he _ _ _ h2 (fun n hn => hw n (by
        simp only [DataW.weights, ht, List.mem_cons, List.mem_append]
        exact Or.inr (Or.inl (weightsAll_mem (List.mem_map.2 ⟨i, List.mem_range.2 hi, rfl⟩) n hn))))
      exact ⟨(p, c), h1, hp⟩
    rcases Nat.eq_zero_or_pos len with rfl | hpos
    · exact ⟨some a, cap, [], rfl, Nat.zero_le _, ⟨rfl, by simp, fun h => absurd h (by simp)⟩, Nat.zero_le _, fun a ha => by cases ha⟩
    · have : Inhabited (α × List Value) := ⟨Classical.choose (hex 0 hpos)⟩
      obtain ⟨V, hV⟩ := Go.Deep.choose_lt hex
      have hlen : ((List.range len).map fun i => (V i).1).length = len := by simp
      refine ⟨some a, cap, (List.range len).map fun i => (V i).1, by rw [hlen], by rw [hlen]; exact hl, ⟨rfl, by rw [hlen]; simp only [maxLen] at hm; omega, fun _ => ⟨a, rfl, ?_⟩⟩, by rw [hlen]; exact hwl, fun q hq => ?_⟩
      · intro j p hj
        obtain ⟨hjl, rfl⟩ := List.getElem?_eq_some_iff.1 hj
        rw [hlen] at hjl
        obtain ⟨h1, h2, _⟩ := hV j hjl
        rw [hsz] at h1
        obtain ⟨_, h3, h4⟩ := World.cells?_some h1
        refine ⟨(V j).2, h3, by simpa using h2, fun i u hu => ?_⟩
        have hi : i < d.sz := by rw [← h3]; exact (List.getElem?_eq_some_iff.1 hu).1
        have h5 := h4 i hi
        rw [Go.Deep.add_add] at h5
        rw [h5, hu]
      · obtain ⟨i, hi, rfl⟩ := List.mem_map.1 hq
        exact (hV i (List.mem_range.1 hi)).2.2
theorem cells_i : Tryd.prog.cellsOf 3 = 1 := by kernel_rfl
theorem cells_s : Tryd.prog.cellsOf 9 = 1 := by kernel_rfl
theorem cells_k : Tryd.prog.cellsOf 5 = 1 := by kernel_rfl
theorem cells_T : Tryd.prog.cellsOf 35 = 3 := by kernel_rfl
theorem opens_cs_token (h : DataW.trod enc Tryd.prog W base sp held fuel 35 cs = some x) (hw : ∀ n ∈ x.1.weights Tryd.prog 35, n ≤ reachBytes) : ∃ a : Tk, cs = [.int .u8 a.f0, .string a.f1, .int .i64 a.f2] ∧ a.f1.size ≤ 140737488351232 := by
  obtain ⟨y0, y1, y2, n, e, hl, h0, h1, h2⟩ := Go.Deep.trod_struct3 Tryd.underlying35 h
  rw [cells_T] at hl
  match cs, hl with
  | [a, b, c], _ =>
    simp only [cells_i, cells_s, cells_k, List.drop_zero, List.drop_succ_cons, List.take_succ_cons, List.take_zero] at h0 h1 h2
    have ha : DataW.trod enc Tryd.prog W base sp held n 5 [a] = some y0 := h0
    have hb : DataW.trod enc Tryd.prog W base sp held n 9 [b] = some y1 := h1
    have hc : DataW.trod enc Tryd.prog W base sp held n 3 [c] = some y2 := h2
    obtain ⟨b0, e0, _⟩ := DataW.trod_int Tryd.underlying5 ha
    obtain ⟨b1, e1, e3, _⟩ := DataW.trod_string Tryd.underlying9 hb
    obtain ⟨b2, e2, _⟩ := DataW.trod_int Tryd.underlying3 hc
    cases e0
    cases e1
    cases e2
    subst e3
    subst e
    refine ⟨⟨b0, b1, b2⟩, rfl, ?_⟩
    have := hw b1.data.toList.length (by simp [DataW.weights, DataW.weightsEach, Tryd.underlying35])
    rw [data_length] at this
    exact this
theorem bytes_T : 1 ≤ Tryd.prog.bytesOf 35 := of_decide_eq_true (by kernel_rfl)
/-- A row of tokens that reads as data. -/
theorem opens_tokens {r : Reach} {b0 : Nat} {v : Value} {d : DataW H} {p : List MemPlace} (hv : Value.okWide Tryd.prog W r b0 23 v) (h : DataW.Trod enc Tryd.prog W base sp held 23 v d p) (hw : ∀ n ∈ d.weights Tryd.prog 23, n ≤ reachBytes) :
    ∃ A c l, v = .slice A l.length c ∧ l.length ≤ c ∧ k35.C W A l.length l ∧ l.length ≤ 140737488351232 ∧ ∀ x ∈ l, x.f1.size ≤ 140737488351232 := by
  obtain ⟨a, n, c, rfl⟩ := okWide_slice Tryd.underlying23 hv
  obtain ⟨fuel, hf⟩ := h
  obtain ⟨A, cp, xs, e0, hle, hC, hl, hQ⟩ := opens_sliceQ k35 (fun x => x.f1.size ≤ 140737488351232) Tryd.underlying23 cells_T bytes_T (fun n c y hy hn => by obtain ⟨p, rfl, hp⟩ := opens_cs_token hy hn; exact ⟨p, k35_mk W p, hp⟩) hf hw
  have e : (Value.slice a n c).cells.toList = [.slice a n c] := rfl
  rw [e] at e0
  cases e0
  exact ⟨_, _, xs, rfl, hle, hC, hl, hQ⟩
end
end Go.Proofs.YtggfcmondffodaaDoor.P
namespace Go.Proofs.YtggfcmondffodaaDoor.P
open Go.RowKit Go.Shelf Go.Maps Go.Proofs.YtggfcmondffodaaDoorW.PrintWords Go.Proofs.YtggfcmondffodaaDoorW.PrintLast Go.Proofs.YtggfcmondffodaaDoorW.PrintMore
set_option linter.unusedVariables false
set_option linter.unusedSimpArgs false
theorem pShort0 (l : List Tk) (hl : l.length ≤ 140737488351232) (hx : ∀ x ∈ l, x.f1.size ≤ 140737488351232) : ∀ (d i k : Nat), l.length - i = d → i ≤ l.length → d < k → ∃ b, ripostelaw01_short.l0 k l (i : Int) = some b ∧ (b = true → l.length ≤ 1000 ∧ ∀ x ∈ l.drop i, x.f1.size ≤ 100) := by
  intro d
  induction d with
  | zero =>
    intro i k hd hi hk
    obtain ⟨k, rfl, _⟩ := succ_of hk
    rw [ripostelaw01_short.l0.eq_2, if_neg (by omega), List.drop_eq_nil_of_le (show l.length ≤ i by omega)]
    exact ⟨_, rfl, fun h => ⟨by have := of_decide_eq_true h; omega, fun x hx => (by cases hx)⟩⟩
  | succ d ih =>
    intro i k hd hi hk
    obtain ⟨k, rfl, hk'⟩ := succ_of hk
    have hlt : i < l.length := by omega
    have e2 := up1 i l.length hlt hl
    rw [ripostelaw01_short.l0.eq_2, if_pos (by omega), if_pos (by omega), e2, tk_drop l i hlt]
    obtain ⟨b, h1, h2⟩ := ih (i + 1) k (by omega) (by omega) (by omega)
    generalize rd_T35 l (i : Int) = y at *
    by_cases c : (y.f1.size : Int) > 100
    · rw [if_pos c]; exact ⟨false, rfl, fun h => by cases h⟩
    · rw [if_neg c]
      refine ⟨b, h1, fun h => ⟨(h2 h).1, fun x hx => ?_⟩⟩
      rcases List.mem_cons.1 hx with rfl | hx
      · omega
      · exact (h2 h).2 x hx
theorem pShort (l : List Tk) (hl : l.length ≤ 140737488351232) (hx : ∀ x ∈ l, x.f1.size ≤ 140737488351232) : ∃ b, ripostelaw01_short.f (l.length + 1) l = some b ∧ (b = true → l.length ≤ 1000 ∧ ∀ x ∈ l, x.f1.size ≤ 100) := by
  obtain ⟨b, h1, h2⟩ := pShort0 l hl hx l.length 0 (l.length + 1) (by omega) (by omega) (by omega)
  exact ⟨b, h1, h2⟩
theorem tight_ok {l : List Tk} (h : (tightM l).2 = 0) : tkE l = 0 ∧ (tgB none l).length ≤ 2500 ∧ tightM l = (ba (tgB none l), 0) := by
  unfold tightM at h ⊢
  by_cases h0 : tkE l = 0
  · rw [if_pos h0] at h ⊢
    by_cases h1 : 2500 < (tgB none l).length
    · rw [if_pos h1] at h; exact absurd h (by decide)
    · rw [if_neg h1]; exact ⟨h0, by omega, rfl⟩
  · rw [if_neg h0] at h; exact absurd h h0
set_option maxRecDepth 8000 in
set_option maxHeartbeats 8000000 in
theorem lexBack_any (A : Option Addr) (c : Nat) (l : List Tk) (w : World) (hg : Gl w) (hC : Kd.C k35 w A l.length l) (hc : l.length ≤ c) (hll : l.length ≤ 140737488351232) (hx : ∀ x ∈ l, x.f1.size ≤ 140737488351232) :
    Calls Tryd.prog 11 #[.slice A l.length c] w fun e w' => e = .returned (.bool true) ∧ Below w.heap.size w w' := by
  have HG := Aside0.mk hg
  have HC := Aside0.mk hC
  have hA := Aside0.mk (fun (W : World) (h : Gl W) => awake_any W h)
  by_cases h2 : 200 < l.length
  · have g1 : decide (200 < l.length) = true := decide_eq_true h2
    have g2 : decide ((200 : Int) < (l.length : Int)) = true := decide_eq_true (by omega)
    have HB0 := Aside0.mk (Below.refl w.heap.size w)
    clear h2 hg hC hx
    go_enter Tryd.func11, Tryd.ntmps11
    go_wp2_with (go_at_call 15; refine (hA.out _ (HG.out.mono HB0.out)).mono ?_; rintro e wA ⟨rfl, hbA⟩; have HBA := Aside0.mk (HB0.out.trans (hbA.mono HB0.out.size)); clear hbA)
    go_ret
    exact ⟨rfl, HBA.out⟩
  · have g1 : decide (200 < l.length) = false := decide_eq_false h2
    have g2 : decide ((200 : Int) < (l.length : Int)) = false := decide_eq_false (by omega)
    obtain ⟨b, hb1, hb2⟩ := pShort l hll hx
    have hF := ripostelaw01_short.calls (l.length + 1) A c l b w hC hc hb1
    cases b with
    | false =>
      clear hg hC hx hb2 hb1 h2
      go_enter Tryd.func11, Tryd.ntmps11
      go_wp2_with (first | (go_at_call 35; refine hF.mono ?_; rintro e w1 ⟨rfl, ⟨nd, rfl⟩⟩; have HB1 := Aside0.mk (pw_below_drewN (Below.refl w.heap.size w) nd)) | (go_at_call 15; refine (hA.out _ (HG.out.mono HB1.out)).mono ?_; rintro e wA ⟨rfl, hbA⟩; have HBA := Aside0.mk (HB1.out.trans (hbA.mono HB1.out.size)); clear hbA))
      go_ret
      exact ⟨rfl, HBA.out⟩
    | true =>
      obtain ⟨-, hx1⟩ := hb2 rfl
      have hTi := Aside0.mk (fun (B : Option Addr) (k : Nat) (W : World) (hgW : Gl W) (h : Kd.C k35 W B l.length l) (hk : l.length ≤ k) => Tight_any l B k W hgW h hk (by omega) (fun x hx => by have := hx1 x hx; omega))
      by_cases h0 : (tightM l).2 = 0
      · obtain ⟨e1, e2, e3⟩ := tight_ok h0
        obtain ⟨t1, t2⟩ := tight_toks l e1 e2
        obtain ⟨l9, hrg⟩ := (tkE_iff l).1 e1
        have hbk := fun (i : Nat) (n : List Tk) => back l e1 i n
        have hup := fun i h => plT_up l none 0 i hrg h
        have hlen := plT_length l none 0
        have hkey := plT_key l none 0
        have ht : (ba (tgB none l)).size ≤ 2500 := by rw [size_len, ba_data]; exact e2
        have hTt := Aside0.mk (fun (W : World) (h : Gl W) => Tokens_any (ba (tgB none l)) W h (by omega))
        rw [t2, t1] at hTt
        rw [e3] at hTi
        generalize (toksM kwM (ba (tgB none l))).2.1 = tp at *
        generalize plT none 0 l = m at *
        generalize ba (tgB none l) = t at *
        simp only at hTi
        have lm : m.length ≤ 900 := by omega
        have HUP := Aside0.mk (fun (i : Nat) (h : i + 1 < m.length) => hup i (by omega))
        have HBK := Aside0.mk hbk
        have HSm := Aside0.mk (fun (B0 B1 : Option Addr) (c0 c1 : Nat) (W : World) (h0 : Kd.C k35 W B0 l.length l) (hc0 : l.length ≤ c0) (h1 : Kd.C k35 W B1 m.length m) (hc1 : m.length ≤ c1) => ripostelaw01_sameBut.calls (l.length + 1) B0 c0 l B1 c1 m true W h0 hc0 h1 hc1 (pSameBut l m hkey.symm (by omega)))
        have HSn := Aside0.mk (fun (n : List Tk) (B0 B1 : Option Addr) (c0 c1 : Nat) (W : World) (h0 : Kd.C k35 W B0 l.length l) (hc0 : l.length ≤ c0) (h1 : Kd.C k35 W B1 n.length n) (hc1 : n.length ≤ c1) => ripostelaw01_sameBut.calls (l.length + 1) B0 c0 l B1 c1 n (decide (l.map keyT = n.map keyT)) W h0 hc0 h1 hc1 (pSameBut' l n (by omega)))
        clear hg hC hx hb2 hb1 h0 hx1 e1 e2 e3 t1 t2 hrg hbk hup hlen hkey
        go_enter Tryd.func11, Tryd.ntmps11
        go_wp2_with (first | (go_at_call 35; refine hF.mono ?_; rintro e w1 ⟨rfl, ⟨nd, rfl⟩⟩; have HB1 := Aside0.mk (pw_below_drewN (Below.refl w.heap.size w) nd)) | ((with_reducible refine gate_builtin (b := .append) (xs := #[.const (.slice none 0 0), .tmp 23]) rfl ?_); at_builtin; refine Kd.R_append_rows k35 (w0 := w.drewN nd) (w.drewN nd).heap.size rfl (.const (.slice none 0 0)) (.tmp 23) 23 35 (.agg #[(.int .u8 0), (.string ⟨#[]⟩), (.int .i64 0)]) 32 rfl Tryd.underlying23 info35 rfl (by decide) (by omega) (.slice none 0 0) [] l A l.length c (fun _ => True) (fun _ => False) rfl rfl (Kd.R_nil _ _ _ _ _) (Kd.C_below HC.out HB1.out) (fun _ _ h => h) (fun _ h => h.elim) (fun _ _ => trivial) (Below.refl _ _) (Nat.le_refl _) (by simp; omega) ?_; intro v2 w2 ho2 hb2 hg2 hat2; rw [List.nil_append] at ho2; have HO2 := Aside0.mk ho2; have HB2 := Aside0.mk (HB1.out.trans (hb2.mono HB1.out.size)); have HN2 := Aside0.mk hb2; clear ho2 hb2 hg2 hat2; obtain ⟨B2, K2, rfl⟩ := Kd.R_slice HO2.out) | (go_at_call 36; refine (hTi.out B2 K2 _ (HG.out.mono HB2.out) (Kd.R_reads' HO2.out).2.2 (Kd.R_reads' HO2.out).2.1).mono ?_; rintro e w3 ⟨rfl, hb3⟩; have HB3 := Aside0.mk (HB2.out.trans (hb3.mono HB2.out.size)); clear hb3) | (go_at_call 16; with_reducible refine (hTt.out _ (HG.out.mono HB3.out)).mono ?_; rintro e w4 ⟨v4, rfl, ho4, hb4⟩; have HB4 := Aside0.mk (HB3.out.trans (hb4.mono HB3.out.size)); have HO4 := Aside0.mk ho4; obtain ⟨B4, K4, rfl⟩ := Kd.R_slice ho4; clear hb4 ho4) | (go_at_call 37; refine (HSm.out A B4 c K4 _ (Kd.C_below HC.out HB4.out) hc (Kd.R_reads' HO4.out).2.2 (Kd.R_reads' HO4.out).2.1).mono ?_; rintro e w5 ⟨rfl, hd5⟩; have HN5 := Aside0.mk (show Below w4.heap.size w4 w5 from (by obtain ⟨nd, rfl⟩ := hd5; exact pw_below_drewN (Below.refl _ _) nd)); clear hd5))
        have HB5 := Aside0.mk (HB4.out.trans (HN5.out.mono HB4.out.size))
        have HC5 := Aside0.mk (Kd.C_below (Kd.R_reads' HO4.out).2.2 HN5.out)
        clear hTi hTt HSm hF
        go_loopg [8] m.length (fun gg s8 wr => ∃ (i nd : Nat), s8 = .int .i64 i ∧ i ≤ m.length ∧ m.length - i ≤ gg ∧ wr = w5.drewN nd)
        case atStart => exact ⟨0, 0, rfl, Nat.zero_le _, by omega, rfl⟩
        case round =>
          obtain ⟨i, nd, rfl, hi, hgk, rfl⟩ := hrel
          by_cases hlt : i < m.length
          · have hltz : (i : Int) < (m.length : Int) := by omega
            have hi0 : (0 : Int) ≤ (i : Int) := by omega
            by_cases hz : i = 0
            · have c1 : decide ((0 : Int) < (i : Int)) = false := decide_eq_false (by omega)
              have c1n : decide (0 < i) = false := decide_eq_false (by omega)
              clear hz
              go_wp2
              go_quiet (fail)
              go_wp2
              go_roundg (m.length - (i + 1))
              case measure => omega
              case rel => exact ⟨i + 1, nd + nq, by go_num, by omega, by omega, rfl⟩
            · have c1 : decide ((0 : Int) < (i : Int)) = true := decide_eq_true (by omega)
              have c1n : decide (0 < i) = true := decide_eq_true (by omega)
              obtain ⟨j, hj⟩ : ∃ j, i = j + 1 := ⟨i - 1, by omega⟩
              have hjz : (j : Int) < (m.length : Int) := by omega
              obtain ⟨ad, rfl, x0, x1, x2⟩ := at_T35 HC5.out (i : Int) hi0 hltz
              obtain ⟨ad2, e2, y0, y1, y2⟩ := at_T35 HC5.out (j : Int) (by omega) hjz
              obtain rfl := Option.some.inj e2
              rw [Int.toNat_natCast] at x0 x1 x2 y0 y1 y2
              have hup := HUP.out j (by omega)
              rw [← hj] at hup
              have u1 : IntKind.i64.wrap ((i : Int) - 1) = (j : Int) := by rw [i64_w, w64 (by omega) (by omega)]; omega
              have c2 : decide ((rd_T35 m (i : Int)).f2 ≤ (rd_T35 m (j : Int)).f2) = false := decide_eq_false (by omega)
              generalize rd_T35 m (i : Int) = yy at *
              generalize rd_T35 m (j : Int) = pp at *
              clear e2 hj hz hup x0 x1 y0 y1
              go_wp2
              go_quiet (fail)
              go_wp2
              go_roundg (m.length - (i + 1))
              case measure => omega
              case rel => exact ⟨i + 1, nd + nq, by go_num, by omega, by omega, rfl⟩
          · have hlt2 : decide ((i : Int) < (m.length : Int)) = false := decide_eq_false (by omega)
            have hlt3 : decide (i < m.length) = false := decide_eq_false hlt
            obtain ⟨w6, hw6⟩ : ∃ W : World, W = w5.drewN nd := ⟨_, rfl⟩
            have HB6 := Aside0.mk (show Below w.heap.size w w6 by rw [hw6]; exact pw_below_drewN HB5.out nd)
            rw [← hw6]
            clear hw6
            go_wp2
            go_loopg [9] t.size (fun gg s9 wr => ∃ (i : Nat), s9 = .int .i64 i ∧ i ≤ t.size ∧ t.size - i ≤ gg ∧ Aside0 (Below w.heap.size w wr))
            case atStart => exact ⟨0, rfl, Nat.zero_le _, by omega, HB6⟩
            case round =>
              obtain ⟨k, rfl, hk, hgk2, HBW⟩ := hrel
              by_cases hkt : k < t.size
              · have hkz : (k : Int) < (t.size : Int) := by omega
                have hk0 : (0 : Int) ≤ (k : Int) := by omega
                have b2 : ∀ h : k < t.size, ((t[k]'h).toNat : Int) = bt t (k : Int) := fun h => bt_at t (k : Int) h
                have z1 := eq_true hk0
                have z2 := eq_true hkz
                by_cases c3 : bt t (k : Int) = 32
                · have c4 : (bt t (k : Int) != 32) = false := by rw [c3]; rfl
                  obtain ⟨k1, hk1⟩ : ∃ k1 : Nat, k1 = k + 1 := ⟨_, rfl⟩
                  have u1 : IntKind.i64.wrap ((k : Int) + 1) = (k1 : Int) := by rw [i64_w, w64 (by omega) (by omega)]; omega
                  have z3 : (k1 : Int) ≤ (t.size : Int) := by omega
                  have z4 : (k : Int) ≤ (t.size : Int) := by omega
                  have z5 : (0 : Int) ≤ (k1 : Int) := by omega
                  have hbk := HBK.out k
                  rw [← hk1] at hbk
                  have s1 := size_ex t 0 k
                  have s2 := size_ex t k1 t.size
                  have hcat : (t.extract 0 k).size + (t.extract k1 t.size).size ≤ 9223372036854775807 := by omega
                  have hus : (t.extract 0 k ++ t.extract k1 t.size).size ≤ 140737488351232 := by rw [ByteArray.size_append]; omega
                  have hcatr : ∀ W : World, (Op.stringOp .add (t.extract 0 k) (t.extract k1 t.size)).run Tryd.prog W = .ok (.string (t.extract 0 k ++ t.extract k1 t.size)) W := fun W => run_string_add_sum W _ _ hcat
                  have hTu := Aside0.mk (fun (W : World) (h : Gl W) => Tokens_any (t.extract 0 k ++ t.extract k1 t.size) W h hus)
                  generalize hU : toksM kwM (t.extract 0 k ++ t.extract k1 t.size) = U at *
                  obtain ⟨n, up, ue⟩ := U
                  have hb : ue = 0 → decide (l.map keyT = n.map keyT) = false := fun h => decide_eq_false fun hk => hbk n c3 hk.symm rfl h
                  have HSk := HSn.out n
                  generalize decide (l.map keyT = n.map keyT) = db at *
                  have HSK := Aside0.mk HSk
                  simp only at hTu
                  have HK1 := Aside0.mk hk1
                  clear s1 s2 hcat hus hbk hk1 HSk hU
                  by_cases h0 : ue = 0
                  · have hdb := hb h0
                    subst h0 hdb
                    clear hb
                    go_wp2
                    have HBd := Aside0.mk HBW.out.drew
                    refine start_ (n := 16) (S := fun w' => True) (ds := []) #[false, false, false, false, false, false, false, false, false, false, false, false, false, false, false, false] (by kernel_rfl) rfl rfl trivial (fun hHeld => ?_)
                    generalize wr.drew = wd at HBd ⊢
                    refine pure_ (i := 0) (N := some 78) (v := ?_) (a' := ?_) #[true, false, false, false, false, false, false, false, false, false, false, false, false, false, false, false] rfl rfl (by kernel_rfl) (fun _ _ _ h => h) (Or.inl ⟨by rfl, ?_⟩) ?_ ?_
                    rotate_left
                    · intro w'
                      go_simp
                      with_reducible rfl
                    rotate_left
                    · simp only [Act.put, List.setIfInBounds_toArray, List.set_cons_zero, List.set_cons_succ, i64_w, i32_w]
                      rfl
                    refine pure_ (i := 1) (N := some 79) (v := ?_) (a' := ?_) #[true, true, false, false, false, false, false, false, false, false, false, false, false, false, false, false] rfl rfl (by kernel_rfl) (fun _ _ _ h => h) (Or.inl ⟨by rfl, ?_⟩) ?_ ?_
                    rotate_left
                    · intro w'
                      go_simp
                      with_reducible rfl
                    rotate_left
                    · simp only [Act.put, List.setIfInBounds_toArray, List.set_cons_zero, List.set_cons_succ, i64_w, i32_w]
                      rfl
                    refine pure_ (i := 2) (N := some 80) (v := ?_) (a' := ?_) #[true, true, true, false, false, false, false, false, false, false, false, false, false, false, false, false] rfl rfl (by kernel_rfl) (fun _ _ _ h => h) (Or.inl ⟨by rfl, ?_⟩) ?_ ?_
                    rotate_left
                    · intro w'
                      go_simp
                      with_reducible rfl
                    rotate_left
                    · simp only [Act.put, List.setIfInBounds_toArray, List.set_cons_zero, List.set_cons_succ, i64_w, i32_w]
                      rfl
                    refine pure_ (i := 3) (N := some 81) (v := ?_) (a' := ?_) #[true, true, true, true, false, false, false, false, false, false, false, false, false, false, false, false] rfl rfl (by kernel_rfl) (fun _ _ _ h => h) (Or.inl ⟨by rfl, ?_⟩) ?_ ?_
                    rotate_left
                    · intro w'
                      go_simp
                      with_reducible rfl
                    rotate_left
                    · simp only [Act.put, List.setIfInBounds_toArray, List.set_cons_zero, List.set_cons_succ, i64_w, i32_w]
                      rfl
                    refine pure_ (i := 4) (N := some 82) (v := ?_) (a' := ?_) #[true, true, true, true, true, false, false, false, false, false, false, false, false, false, false, false] rfl rfl (by kernel_rfl) (fun _ _ _ h => h) (Or.inl ⟨by rfl, ?_⟩) ?_ ?_
                    rotate_left
                    · intro w'
                      go_simp
                      with_reducible rfl
                    rotate_left
                    · simp only [Act.put, List.setIfInBounds_toArray, List.set_cons_zero, List.set_cons_succ, i64_w, i32_w]
                      rfl
                    refine pure_ (i := 5) (N := some 83) (v := ?_) (a' := ?_) #[true, true, true, true, true, true, false, false, false, false, false, false, false, false, false, false] rfl rfl (by kernel_rfl) (fun _ _ _ h => h) (Or.inl ⟨by rfl, ?_⟩) ?_ ?_
                    rotate_left
                    · intro w'
                      go_simp
                      with_reducible rfl
                    rotate_left
                    · simp only [Act.put, List.setIfInBounds_toArray, List.set_cons_zero, List.set_cons_succ, i64_w, i32_w]
                      rfl
                    refine pure_ (i := 6) (N := some 84) (v := ?_) (a' := ?_) #[true, true, true, true, true, true, true, false, false, false, false, false, false, false, false, false] rfl rfl (by kernel_rfl) (fun _ _ _ h => h) (Or.inl ⟨by rfl, ?_⟩) ?_ ?_
                    rotate_left
                    · intro w'
                      go_simp
                      with_reducible rfl
                    rotate_left
                    · simp only [Act.put, List.setIfInBounds_toArray, List.set_cons_zero, List.set_cons_succ, i64_w, i32_w]
                      rfl
                    refine pure_ (i := 7) (N := some 85) (v := ?_) (a' := ?_) #[true, true, true, true, true, true, true, true, false, false, false, false, false, false, false, false] rfl rfl (by kernel_rfl) (fun _ _ _ h => h) (Or.inl ⟨by rfl, ?_⟩) ?_ ?_
                    rotate_left
                    · intro w'
                      go_simp
                      with_reducible rfl
                    rotate_left
                    · simp only [Act.put, List.setIfInBounds_toArray, List.set_cons_zero, List.set_cons_succ, i64_w, i32_w]
                      rfl
                    refine one_ (i := 8) (N := some 86) #[true, true, true, true, true, true, true, true, true, false, false, false, false, false, false, false] rfl rfl (by kernel_rfl) (by decide) (fun K hK => ?_)
                    refine goes_ Tryd.func16 (by kernel_rfl) rfl #[.string (t.extract 0 k ++ t.extract k1 t.size)] (by rfl) rfl rfl (by simp only [List.map_toArray, List.map_cons, List.map_nil]; rfl) ?_
                    with_reducible refine (hTu.out _ (HG.out.mono HBd.out)).mono ?_
                    rintro e w8 ⟨v8, rfl, ho8, hb8⟩
                    refine ⟨_, rfl, ?_⟩
                    have HB8 := Aside0.mk (HBd.out.trans (hb8.mono HBd.out.size))
                    have HO8 := Aside0.mk ho8
                    obtain ⟨B8, K8, rfl⟩ := Kd.R_slice ho8
                    clear hb8 ho8
                    refine hK.out _ _ trivial (fun hHeld => ?_)
                    clear hK K
                    refine norm_ (a' := ?_) ?_ ?_
                    rotate_left
                    · show Act.put _ (some 86) _ = _
                      simp only [Act.put, List.setIfInBounds_toArray, List.set_cons_zero, List.set_cons_succ, i64_w, i32_w]
                      rfl
                    refine pure_ (i := 9) (N := some 77) (v := ?_) (a' := ?_) #[true, true, true, true, true, true, true, true, true, true, false, false, false, false, false, false] rfl rfl (by kernel_rfl) (fun _ _ _ h => h) (Or.inl ⟨by rfl, ?_⟩) ?_ ?_
                    rotate_left
                    · intro w'
                      go_simp
                      with_reducible rfl
                    rotate_left
                    · simp only [Act.put, List.setIfInBounds_toArray, List.set_cons_zero, List.set_cons_succ, i64_w, i32_w]
                      rfl
                    refine pure_ (i := 10) (N := some 87) (v := ?_) (a' := ?_) #[true, true, true, true, true, true, true, true, true, true, true, false, false, false, false, false] rfl rfl (by kernel_rfl) (fun _ _ _ h => h) (Or.inl ⟨by rfl, ?_⟩) ?_ ?_
                    rotate_left
                    · intro w'
                      go_simp
                      with_reducible rfl
                    rotate_left
                    · simp only [Act.put, List.setIfInBounds_toArray, List.set_cons_zero, List.set_cons_succ, i64_w, i32_w]
                      rfl
                    refine pure_ (i := 11) (N := some 88) (v := ?_) (a' := ?_) #[true, true, true, true, true, true, true, true, true, true, true, true, false, false, false, false] rfl rfl (by kernel_rfl) (fun _ _ _ h => h) (Or.inl ⟨by rfl, ?_⟩) ?_ ?_
                    rotate_left
                    · intro w'
                      go_simp
                      with_reducible rfl
                    rotate_left
                    · simp only [Act.put, List.setIfInBounds_toArray, List.set_cons_zero, List.set_cons_succ, i64_w, i32_w]
                      rfl
                    refine pure_ (i := 12) (N := some 89) (v := ?_) (a' := ?_) #[true, true, true, true, true, true, true, true, true, true, true, true, true, false, false, false] rfl rfl (by kernel_rfl) (fun _ _ _ h => h) (Or.inl ⟨by rfl, ?_⟩) ?_ ?_
                    rotate_left
                    · intro w'
                      go_simp
                      with_reducible rfl
                    rotate_left
                    · simp only [Act.put, List.setIfInBounds_toArray, List.set_cons_zero, List.set_cons_succ, i64_w, i32_w]
                      rfl
                    refine pure_ (i := 13) (N := some 10) (v := ?_) (a' := ?_) #[true, true, true, true, true, true, true, true, true, true, true, true, true, true, false, false] rfl rfl (by kernel_rfl) (fun _ _ _ h => h) (Or.inl ⟨by rfl, ?_⟩) ?_ ?_
                    rotate_left
                    · intro w'
                      go_simp
                      with_reducible rfl
                    rotate_left
                    · simp only [Act.put, List.setIfInBounds_toArray, List.set_cons_zero, List.set_cons_succ, i64_w, i32_w]
                      rfl
                    refine pure_ (i := 14) (N := some 11) (v := ?_) (a' := ?_) #[true, true, true, true, true, true, true, true, true, true, true, true, true, true, true, false] rfl rfl (by kernel_rfl) (fun _ _ _ h => h) (Or.inl ⟨by rfl, ?_⟩) ?_ ?_
                    rotate_left
                    · intro w'
                      go_simp
                      with_reducible rfl
                    rotate_left
                    · simp only [Act.put, List.setIfInBounds_toArray, List.set_cons_zero, List.set_cons_succ, i64_w, i32_w]
                      rfl
                    refine pure_ (i := 15) (N := some 12) (v := ?_) (a' := ?_) #[true, true, true, true, true, true, true, true, true, true, true, true, true, true, true, true] rfl rfl (by kernel_rfl) (fun _ _ _ h => h) (Or.inl ⟨by rfl, ?_⟩) ?_ ?_
                    rotate_left
                    · intro w'
                      go_simp
                      with_reducible rfl
                    rotate_left
                    · simp only [Act.put, List.setIfInBounds_toArray, List.set_cons_zero, List.set_cons_succ, i64_w, i32_w]
                      rfl
                    refine done_ (by kernel_rfl) ?_
                    go_wp2_with (first | (go_at_call 37; refine (HSK.out A B8 c K8 _ (Kd.C_below HC.out HB8.out) hc (Kd.R_reads' HO8.out).2.2 (Kd.R_reads' HO8.out).2.1).mono ?_; rintro e w9 ⟨rfl, hd9⟩; have HB9 := Aside0.mk (show Below w.heap.size w w9 from (by obtain ⟨nd, rfl⟩ := hd9; exact pw_below_drewN HB8.out nd)); clear hd9))
                    have hk1 := HK1.out
                    go_roundg (t.size - (k + 1))
                    case measure => omega
                    case rel => exact ⟨k1, rfl, by omega, by omega, HB9⟩
                  · have k3 : (ue == 0) = false := beq_false_of_ne h0
                    have k4 : (ue != 0) = true := bne_iff_ne.2 h0
                    clear hb h0
                    go_wp2
                    have HBd := Aside0.mk HBW.out.drew
                    refine start_ (n := 16) (S := fun w' => True) (ds := []) #[false, false, false, false, false, false, false, false, false, false, false, false, false, false, false, false] (by kernel_rfl) rfl rfl trivial (fun hHeld => ?_)
                    generalize wr.drew = wd at HBd ⊢
                    refine pure_ (i := 0) (N := some 78) (v := ?_) (a' := ?_) #[true, false, false, false, false, false, false, false, false, false, false, false, false, false, false, false] rfl rfl (by kernel_rfl) (fun _ _ _ h => h) (Or.inl ⟨by rfl, ?_⟩) ?_ ?_
                    rotate_left
                    · intro w'
                      go_simp
                      with_reducible rfl
                    rotate_left
                    · simp only [Act.put, List.setIfInBounds_toArray, List.set_cons_zero, List.set_cons_succ, i64_w, i32_w]
                      rfl
                    refine pure_ (i := 1) (N := some 79) (v := ?_) (a' := ?_) #[true, true, false, false, false, false, false, false, false, false, false, false, false, false, false, false] rfl rfl (by kernel_rfl) (fun _ _ _ h => h) (Or.inl ⟨by rfl, ?_⟩) ?_ ?_
                    rotate_left
                    · intro w'
                      go_simp
                      with_reducible rfl
                    rotate_left
                    · simp only [Act.put, List.setIfInBounds_toArray, List.set_cons_zero, List.set_cons_succ, i64_w, i32_w]
                      rfl
                    refine pure_ (i := 2) (N := some 80) (v := ?_) (a' := ?_) #[true, true, true, false, false, false, false, false, false, false, false, false, false, false, false, false] rfl rfl (by kernel_rfl) (fun _ _ _ h => h) (Or.inl ⟨by rfl, ?_⟩) ?_ ?_
                    rotate_left
                    · intro w'
                      go_simp
                      with_reducible rfl
                    rotate_left
                    · simp only [Act.put, List.setIfInBounds_toArray, List.set_cons_zero, List.set_cons_succ, i64_w, i32_w]
                      rfl
                    refine pure_ (i := 3) (N := some 81) (v := ?_) (a' := ?_) #[true, true, true, true, false, false, false, false, false, false, false, false, false, false, false, false] rfl rfl (by kernel_rfl) (fun _ _ _ h => h) (Or.inl ⟨by rfl, ?_⟩) ?_ ?_
                    rotate_left
                    · intro w'
                      go_simp
                      with_reducible rfl
                    rotate_left
                    · simp only [Act.put, List.setIfInBounds_toArray, List.set_cons_zero, List.set_cons_succ, i64_w, i32_w]
                      rfl
                    refine pure_ (i := 4) (N := some 82) (v := ?_) (a' := ?_) #[true, true, true, true, true, false, false, false, false, false, false, false, false, false, false, false] rfl rfl (by kernel_rfl) (fun _ _ _ h => h) (Or.inl ⟨by rfl, ?_⟩) ?_ ?_
                    rotate_left
                    · intro w'
                      go_simp
                      with_reducible rfl
                    rotate_left
                    · simp only [Act.put, List.setIfInBounds_toArray, List.set_cons_zero, List.set_cons_succ, i64_w, i32_w]
                      rfl
                    refine pure_ (i := 5) (N := some 83) (v := ?_) (a' := ?_) #[true, true, true, true, true, true, false, false, false, false, false, false, false, false, false, false] rfl rfl (by kernel_rfl) (fun _ _ _ h => h) (Or.inl ⟨by rfl, ?_⟩) ?_ ?_
                    rotate_left
                    · intro w'
                      go_simp
                      with_reducible rfl
                    rotate_left
                    · simp only [Act.put, List.setIfInBounds_toArray, List.set_cons_zero, List.set_cons_succ, i64_w, i32_w]
                      rfl
                    refine pure_ (i := 6) (N := some 84) (v := ?_) (a' := ?_) #[true, true, true, true, true, true, true, false, false, false, false, false, false, false, false, false] rfl rfl (by kernel_rfl) (fun _ _ _ h => h) (Or.inl ⟨by rfl, ?_⟩) ?_ ?_
                    rotate_left
                    · intro w'
                      go_simp
                      with_reducible rfl
                    rotate_left
                    · simp only [Act.put, List.setIfInBounds_toArray, List.set_cons_zero, List.set_cons_succ, i64_w, i32_w]
                      rfl
                    refine pure_ (i := 7) (N := some 85) (v := ?_) (a' := ?_) #[true, true, true, true, true, true, true, true, false, false, false, false, false, false, false, false] rfl rfl (by kernel_rfl) (fun _ _ _ h => h) (Or.inl ⟨by rfl, ?_⟩) ?_ ?_
                    rotate_left
                    · intro w'
                      go_simp
                      with_reducible rfl
                    rotate_left
                    · simp only [Act.put, List.setIfInBounds_toArray, List.set_cons_zero, List.set_cons_succ, i64_w, i32_w]
                      rfl
                    refine one_ (i := 8) (N := some 86) #[true, true, true, true, true, true, true, true, true, false, false, false, false, false, false, false] rfl rfl (by kernel_rfl) (by decide) (fun K hK => ?_)
                    refine goes_ Tryd.func16 (by kernel_rfl) rfl #[.string (t.extract 0 k ++ t.extract k1 t.size)] (by rfl) rfl rfl (by simp only [List.map_toArray, List.map_cons, List.map_nil]; rfl) ?_
                    with_reducible refine (hTu.out _ (HG.out.mono HBd.out)).mono ?_
                    rintro e w8 ⟨v8, rfl, ho8, hb8⟩
                    refine ⟨_, rfl, ?_⟩
                    have HB8 := Aside0.mk (HBd.out.trans (hb8.mono HBd.out.size))
                    have HO8 := Aside0.mk ho8
                    obtain ⟨B8, K8, rfl⟩ := Kd.R_slice ho8
                    clear hb8 ho8
                    refine hK.out _ _ trivial (fun hHeld => ?_)
                    clear hK K
                    refine norm_ (a' := ?_) ?_ ?_
                    rotate_left
                    · show Act.put _ (some 86) _ = _
                      simp only [Act.put, List.setIfInBounds_toArray, List.set_cons_zero, List.set_cons_succ, i64_w, i32_w]
                      rfl
                    refine pure_ (i := 9) (N := some 77) (v := ?_) (a' := ?_) #[true, true, true, true, true, true, true, true, true, true, false, false, false, false, false, false] rfl rfl (by kernel_rfl) (fun _ _ _ h => h) (Or.inl ⟨by rfl, ?_⟩) ?_ ?_
                    rotate_left
                    · intro w'
                      go_simp
                      with_reducible rfl
                    rotate_left
                    · simp only [Act.put, List.setIfInBounds_toArray, List.set_cons_zero, List.set_cons_succ, i64_w, i32_w]
                      rfl
                    refine pure_ (i := 10) (N := some 87) (v := ?_) (a' := ?_) #[true, true, true, true, true, true, true, true, true, true, true, false, false, false, false, false] rfl rfl (by kernel_rfl) (fun _ _ _ h => h) (Or.inl ⟨by rfl, ?_⟩) ?_ ?_
                    rotate_left
                    · intro w'
                      go_simp
                      with_reducible rfl
                    rotate_left
                    · simp only [Act.put, List.setIfInBounds_toArray, List.set_cons_zero, List.set_cons_succ, i64_w, i32_w]
                      rfl
                    refine pure_ (i := 11) (N := some 88) (v := ?_) (a' := ?_) #[true, true, true, true, true, true, true, true, true, true, true, true, false, false, false, false] rfl rfl (by kernel_rfl) (fun _ _ _ h => h) (Or.inl ⟨by rfl, ?_⟩) ?_ ?_
                    rotate_left
                    · intro w'
                      go_simp
                      with_reducible rfl
                    rotate_left
                    · simp only [Act.put, List.setIfInBounds_toArray, List.set_cons_zero, List.set_cons_succ, i64_w, i32_w]
                      rfl
                    refine pure_ (i := 12) (N := some 89) (v := ?_) (a' := ?_) #[true, true, true, true, true, true, true, true, true, true, true, true, true, false, false, false] rfl rfl (by kernel_rfl) (fun _ _ _ h => h) (Or.inl ⟨by rfl, ?_⟩) ?_ ?_
                    rotate_left
                    · intro w'
                      go_simp
                      with_reducible rfl
                    rotate_left
                    · simp only [Act.put, List.setIfInBounds_toArray, List.set_cons_zero, List.set_cons_succ, i64_w, i32_w]
                      rfl
                    refine pure_ (i := 13) (N := some 10) (v := ?_) (a' := ?_) #[true, true, true, true, true, true, true, true, true, true, true, true, true, true, false, false] rfl rfl (by kernel_rfl) (fun _ _ _ h => h) (Or.inl ⟨by rfl, ?_⟩) ?_ ?_
                    rotate_left
                    · intro w'
                      go_simp
                      with_reducible rfl
                    rotate_left
                    · simp only [Act.put, List.setIfInBounds_toArray, List.set_cons_zero, List.set_cons_succ, i64_w, i32_w]
                      rfl
                    refine pure_ (i := 14) (N := some 11) (v := ?_) (a' := ?_) #[true, true, true, true, true, true, true, true, true, true, true, true, true, true, true, false] rfl rfl (by kernel_rfl) (fun _ _ _ h => h) (Or.inl ⟨by rfl, ?_⟩) ?_ ?_
                    rotate_left
                    · intro w'
                      go_simp
                      with_reducible rfl
                    rotate_left
                    · simp only [Act.put, List.setIfInBounds_toArray, List.set_cons_zero, List.set_cons_succ, i64_w, i32_w]
                      rfl
                    refine pure_ (i := 15) (N := some 12) (v := ?_) (a' := ?_) #[true, true, true, true, true, true, true, true, true, true, true, true, true, true, true, true] rfl rfl (by kernel_rfl) (fun _ _ _ h => h) (Or.inl ⟨by rfl, ?_⟩) ?_ ?_
                    rotate_left
                    · intro w'
                      go_simp
                      with_reducible rfl
                    rotate_left
                    · simp only [Act.put, List.setIfInBounds_toArray, List.set_cons_zero, List.set_cons_succ, i64_w, i32_w]
                      rfl
                    refine done_ (by kernel_rfl) ?_
                    go_wp2
                    have hk1 := HK1.out
                    go_roundg (t.size - (k + 1))
                    case measure => omega
                    case rel => exact ⟨k1, rfl, by omega, by omega, HB8⟩
                · have c4 : (bt t (k : Int) != 32) = true := bne_iff_ne.2 c3
                  go_wp2
                  go_roundg (t.size - (k + 1))
                  case measure => omega
                  case rel => exact ⟨k + 1, by go_num, by omega, by omega, HBW⟩
              · have hkt2 : decide ((k : Int) < (t.size : Int)) = false := decide_eq_false (by omega)
                have hkt3 : decide (k < t.size) = false := decide_eq_false hkt
                go_wp2_with (go_at_call 15; refine (hA.out _ (HG.out.mono HBW.out)).mono ?_; rintro e wA ⟨rfl, hbA⟩; have HBA := Aside0.mk (HBW.out.trans (hbA.mono HBW.out.size)); clear hbA)
                go_ret
                exact ⟨rfl, HBA.out⟩
      · have k1 : ((tightM l).2 == 0) = false := beq_false_of_ne h0
        have k2 : ((tightM l).2 != 0) = true := bne_iff_ne.2 h0
        generalize tightM l = T at *
        obtain ⟨t, e0⟩ := T
        simp only at hTi k1 k2
        clear hg hC hx hb2 hb1 h0 hx1
        go_enter Tryd.func11, Tryd.ntmps11
        go_wp2_with (first | (go_at_call 35; refine hF.mono ?_; rintro e w1 ⟨rfl, ⟨nd, rfl⟩⟩; have HB1 := Aside0.mk (pw_below_drewN (Below.refl w.heap.size w) nd)) | ((with_reducible refine gate_builtin (b := .append) (xs := #[.const (.slice none 0 0), .tmp 23]) rfl ?_); at_builtin; refine Kd.R_append_rows k35 (w0 := w.drewN nd) (w.drewN nd).heap.size rfl (.const (.slice none 0 0)) (.tmp 23) 23 35 (.agg #[(.int .u8 0), (.string ⟨#[]⟩), (.int .i64 0)]) 32 rfl Tryd.underlying23 info35 rfl (by decide) (by omega) (.slice none 0 0) [] l A l.length c (fun _ => True) (fun _ => False) rfl rfl (Kd.R_nil _ _ _ _ _) (Kd.C_below HC.out HB1.out) (fun _ _ h => h) (fun _ h => h.elim) (fun _ _ => trivial) (Below.refl _ _) (Nat.le_refl _) (by simp; omega) ?_; intro v2 w2 ho2 hb2 hg2 hat2; rw [List.nil_append] at ho2; have HO2 := Aside0.mk ho2; have HB2 := Aside0.mk (HB1.out.trans (hb2.mono HB1.out.size)); have HN2 := Aside0.mk hb2; clear ho2 hb2 hg2 hat2; obtain ⟨B2, K2, rfl⟩ := Kd.R_slice HO2.out) | (go_at_call 36; refine (hTi.out B2 K2 _ (HG.out.mono HB2.out) (Kd.R_reads' HO2.out).2.2 (Kd.R_reads' HO2.out).2.1).mono ?_; rintro e w3 ⟨rfl, hb3⟩; have HB3 := Aside0.mk (HB2.out.trans (hb3.mono HB2.out.size)); clear hb3) | (go_at_call 15; refine (hA.out _ (HG.out.mono HB3.out)).mono ?_; rintro e wA ⟨rfl, hbA⟩; have HBA := Aside0.mk (HB3.out.trans (hbA.mono HB3.out.size)); clear hbA))
        go_ret
        exact ⟨rfl, HBA.out⟩
end Go.Proofs.YtggfcmondffodaaDoor.P
namespace Go.Proofs.YtggfcmondffodaaDoor.P
open Go.RowKit
set_option linter.unusedVariables false
/-- The four listed variables, as each row lists them. -/
def laidL : List (String × DataW Unit) := [("unicode/utf8.acceptRanges", Rows.laid_unicode_utf8_acceptRanges), ("unicode.White_Space", Rows.laid_unicode_White_Space), ("strings.asciiSpace", Rows.laid_strings_asciiSpace), ("unicode/utf8.first", Rows.laid_unicode_utf8_first)]
def aspT : List Int := (List.range 256).map fun (i : Nat) => if aspB (i : Int) = true then 1 else 0
theorem aspT_len : aspT.length = 256 := by simp [aspT]
theorem aspT_at (c : Nat) (h : c < 256) : aspT.getD c 0 = if aspB (c : Int) = true then 1 else 0 := by
  unfold aspT
  rw [List.getD_eq_getElem?_getD, List.getElem?_map, List.getElem?_range h]
  rfl
theorem asp_data : (Rows.laid_strings_asciiSpace : DataW Unit) = Lib.tabData .u8 aspT := by kernel_rfl
theorem gl_of_laid {W : World} (h : laidMetH Tryd.prog laidL W) : Gl W := by
  rw [MakeChecks.laidMetH_plain _ _ _ (by kernel_rfl)] at h
  obtain ⟨ps, ⟨g0, t0, cs0, f0, p0, q0, hg0, ht0, hv0, hd0, ⟨g1, t1, cs1, f1, p1, q1, hg1, ht1, hv1, hd1, ⟨g2, t2, cs2, f2, p2, q2, hg2, ht2, hv2, hd2, _, _⟩, _⟩, _⟩, _, _⟩ := h
  obtain rfl := Option.some.inj ((show Tryd.prog.globalNamed "strings.asciiSpace" = some 0 by kernel_rfl).symm.trans hg2)
  obtain rfl := Option.some.inj ((show (Tryd.prog.globals[0]?).map (·.type) = some 121 by kernel_rfl).symm.trans ht2)
  rw [asp_data] at hd2
  have hcs := Lib.cells_of_tab Tryd.underlying121 Tryd.underlying5 (by kernel_rfl) (by kernel_rfl) hd2
  intro c hc
  rw [World.var?_cell hg2 hv2 c]
  have h1 : cs2[c]? = some (.int .u8 (aspT.getD c 0)) := by
    have : cs2.toList[c]? = some (.int .u8 (aspT.getD c 0)) := by
      rw [hcs, List.getElem?_map, List.getElem?_eq_getElem (by rw [aspT_len]; exact hc)]
      simp [List.getD, List.getElem?_eq_getElem (show c < aspT.length by rw [aspT_len]; exact hc)]
    simpa using this
  rw [h1, aspT_at c hc]
end Go.Proofs.YtggfcmondffodaaDoor.P
