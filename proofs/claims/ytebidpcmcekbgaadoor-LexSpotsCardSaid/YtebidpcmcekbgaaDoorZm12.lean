/- What the claim's law needs, many texts in one (Xq P3 P11 P12 P13 P14 Ya Yb Xx Ye Yg Yh Yi Yn Yc Yj Yo P15 Ys Yt Yu P16 Yy P17 Yz Yta P99 Ytb Gv P90 Sh Xz). No conditions of its own. -/
import Derived.Test.YtebidpcmcekbgaaDoorZm11
import Derived.Test.YtebidpcmcekbgaaDoorZm2
import Derived.Test.YtebidpcmcekbgaaDoorZm4
import Derived.Test.YtebidpcmcekbgaaDoorZm10
import Derived.Deep.QuietTactic
import Derived.BigQuiet
import Derived.BigGuard
import Derived.Laws.IdiomStrings
import Derived.StillTailTactics
import Derived.Deep.Slices
import Derived.Lib.SmallJoins
import Derived.OpenShut
import Derived.ChangeOld
import Derived.WideShapes
import Derived.ProofKit
import Derived.SizedLaws
import Derived.LoopN
import Derived.Deep.RegionWith
import Derived.BigCall
import Derived.Test.YtebidpcmcekbgaaDoorZm9
import Derived.ChangeSame
import Derived.Test.YtebidpcmcekbgaaDoorRows
import Derived.LaidMore
import Derived.Lay
import Derived.Lib.LaidTab
import Derived.Stop.Joined
set_option linter.unusedVariables false
set_option linter.unusedSimpArgs false
namespace Go.Proofs.YtebidpcmcekbgaaDoor.P
open Go.RowKit Go.Shelf Go.Maps Go.Proofs.YtebidpcmcekbgaaDoorW.PrintWords Go.Proofs.YtebidpcmcekbgaaDoorW.PrintLast Go.Proofs.YtebidpcmcekbgaaDoorW.PrintMore
set_option linter.unusedVariables false
set_option linter.unusedSimpArgs false
set_option maxHeartbeats 2000000 in
theorem Apply_ok (s : ByteArray) (A : Option Addr) (c : Nat) (l : List Sp) (k : Nat) (w : World) (hr : Kd.C k60 w A l.length l) (hc : l.length ≤ c) (hs : s.size ≤ 1000000000) (hll : l.length ≤ 1000000000) (h : lex_splices.f k s l = some 0) (ho : OrdS s.size l 0) (hb : (splB s l 0).length ≤ 1000000000) :
    Calls Tryd.prog 23 #[.string s, .slice A l.length c] w fun e w' => e = .returned (.tuple #[.string (splM s l), .int .i64 0]) ∧ Below w.heap.size w w' := by
  have h1 := lex_splices.calls k s A c l 0 w hr hc h
  have h2 := fun W (h : Below w.heap.size w W) => spliced_any s A c l W (Kd.C_below hr h) hs hll ho hb
  generalize splM s l = out at *
  clear hr ho hb h
  go_enter Tryd.func23, Tryd.ntmps23
  go_wp2_with (first | (go_at_call 54; refine h1.mono ?_; rintro e w1 ⟨rfl, hb1⟩) | (go_at_call 49; refine (h2 _ hb1).mono ?_; rintro e w2 ⟨rfl, hb2⟩))
  go_ret2
  exact ⟨rfl, hb1.trans (hb2.mono hb1.size)⟩
/-! ### The document's examples -/
def eT1 : ByteArray := ⟨#[120, 58, 61, 49, 32, 126, 97]⟩
def eT2 : ByteArray := ⟨#[120, 32, 126, 97]⟩
def eT3 : ByteArray := ⟨#[97, 98, 99]⟩
def eT4 : ByteArray := ⟨#[120, 32, 43, 32, 120, 115]⟩
def eL1 : List Tk := [⟨1, ⟨#[120]⟩, 0⟩, ⟨4, ⟨#[58, 61]⟩, 1⟩, ⟨2, ⟨#[49]⟩, 3⟩]
def eL2 : List Tk := [⟨5, ⟨#[97]⟩, 2⟩]
def eS : List Sp := [⟨1, 2, ⟨#[120, 121]⟩⟩]
theorem ex1 : toksM kwM eT1 = (eL1, 0, 0) := by kernel_rfl
theorem ex2 : notesM eT2 = (eL2, 0) := by kernel_rfl
theorem ex3 : lex_splices.f 60 eT3 eS = some 0 := by kernel_rfl
theorem ex4 : splM eT3 eS = ⟨#[97, 120, 121, 99]⟩ := by kernel_rfl
theorem ex5 : renM eT4 ⟨#[120]⟩ ⟨#[121]⟩ = (⟨#[121, 32, 43, 32, 120, 115]⟩, 0) := by kernel_rfl
set_option maxRecDepth 8000 in
set_option maxHeartbeats 8000000 in
theorem awake_any (w : World) (hg : Gl w) : Calls Tryd.prog 11 #[] w fun e w' => e = .returned (.bool true) ∧ Below w.heap.size w w' := by
  have HG := Aside0.mk hg
  have hT := Tokens_any eT1 w hg (by decide)
  rw [ex1] at hT
  have hN := Aside0.mk (fun W => Notes_any eT2 W (by decide))
  rw [ex2] at hN
  have hA := Aside0.mk (fun (A : Option Addr) (c : Nat) (W : World) (h : Kd.C k60 W A eS.length eS) (hc : eS.length ≤ c) => Apply_ok eT3 A c eS 60 W h hc (by decide) (by decide) ex3 (by unfold eS OrdS OrdS; decide) (by rw [show splB eT3 eS 0 = (splM eT3 eS).data.toList from rfl, ex4]; decide))
  rw [ex4] at hA
  have hR := Aside0.mk (fun (W : World) (h : Gl W) => Rename_any eT4 ⟨#[120]⟩ ⟨#[121]⟩ W h (by decide) (by decide) (by decide))
  rw [ex5] at hR
  have hS1 := Aside0.mk (fun (A0 A1 : Option Addr) (c0 c1 : Nat) (W : World) (h0 : Kd.C k58 W A0 eL1.length eL1) (hc0 : eL1.length ≤ c0) (h1 : Kd.C k58 W A1 eL1.length eL1) (hc1 : eL1.length ≤ c1) => riposteref01_SameTokens.calls 20 A0 c0 eL1 A1 c1 eL1 true W h0 hc0 h1 hc1 (rSame eL1 (by decide) 20 (by decide)))
  have hS2 := Aside0.mk (fun (A0 A1 : Option Addr) (c0 c1 : Nat) (W : World) (h0 : Kd.C k58 W A0 eL2.length eL2) (hc0 : eL2.length ≤ c0) (h1 : Kd.C k58 W A1 eL2.length eL2) (hc1 : eL2.length ≤ c1) => riposteref01_SameTokens.calls 20 A0 c0 eL2 A1 c1 eL2 true W h0 hc0 h1 hc1 (rSame eL2 (by decide) 20 (by decide)))
  clear hg
  go_enter Tryd.func11, Tryd.ntmps11
  go_wp2_with (first | (go_at_call 12; refine hT.mono ?_; rintro e w1 ⟨tv, rfl, hrt, hb1'⟩; have HB1 := Aside0.mk hb1'; have HT1 := Aside0.mk hrt; obtain ⟨TA, TC, rfl⟩ := Kd.R_slice hrt; clear hrt hb1') | (go_at_call 14; refine (hN.out _).mono ?_; rintro e w2 ⟨nv, rfl, hrn, hb2'⟩; have HB2 := Aside0.mk (HB1.out.trans (hb2'.mono HB1.out.size)); have HT2 := Aside0.mk (Kd.C_below (Kd.R_reads' HT1.out).2.2 hb2'); have HN2 := Aside0.mk hrn; obtain ⟨NA, NC, rfl⟩ := Kd.R_slice hrn; clear hrn hb2') | ((with_reducible refine gate_dst (N := 21) rfl ?_); refine Kd.R_lit k60 _ 60 ?hg (N := 21) ?hd (xs := eS) (inner := [.int .i64 1, .int .i64 2, .string ⟨#[120, 121]⟩]) (ok := fun _ => True) (okp := fun _ => True) ?hr ?hp (fun _ hk => hk) trivial (Below.refl _ _) (Nat.le_refl _) (by decide) ?_; (case hd => rfl); (case hg => rfl); (case hr => first | (go_simp; done) | (go_simp; rfl)); (case hp => exact (Reps.c3 (k60_mkM _ _ _ _) (Reps.none _ _))); intro v3 w3 ho3 hb3 hg_ hnew_; clear hg_ hnew_; have HB3 := Aside0.mk (HB2.out.trans (hb3.mono HB2.out.size)); have HT3 := Aside0.mk (Kd.C_below HT2.out hb3); have HN3 := Aside0.mk (Kd.C_below (Kd.R_reads' HN2.out).2.2 hb3); have HO3 := Aside0.mk ho3; obtain ⟨SA, SC, rfl⟩ := Kd.R_slice ho3; clear ho3 hb3) | (go_at_call 23; refine (hA.out SA SC _ (Kd.R_reads' HO3.out).2.2 (Kd.R_reads' HO3.out).2.1).mono ?_; rintro e w4 ⟨rfl, hb4⟩; have HB4 := Aside0.mk (HB3.out.trans (hb4.mono HB3.out.size)); have HT4 := Aside0.mk (Kd.C_below HT3.out hb4); have HN4 := Aside0.mk (Kd.C_below HN3.out hb4); clear hb4) | (go_at_call 17; refine (hR.out _ (HG.out.mono HB4.out)).mono ?_; rintro e w5 ⟨rfl, hb5⟩; have HB5 := Aside0.mk (HB4.out.trans (hb5.mono HB4.out.size)); have HT5 := Aside0.mk (Kd.C_below HT4.out hb5); have HN5 := Aside0.mk (Kd.C_below HN4.out hb5); clear hb5) | ((with_reducible refine gate_dst (N := 36) rfl ?_); (try (refine gate_guard (by rfl) ?_; dsimp only)); refine Kd.R_lit k58 _ 58 ?hg (N := 36) ?hd (xs := eL1) (inner := [.int .u8 1, .string ⟨#[120]⟩, .int .i64 0, .int .u8 4, .string ⟨#[58, 61]⟩, .int .i64 1, .int .u8 2, .string ⟨#[49]⟩, .int .i64 3]) (ok := fun _ => True) (okp := fun _ => True) ?hr ?hp (fun _ hk => hk) trivial (Below.refl _ _) (Nat.le_refl _) (by decide) ?_; (case hd => rfl); (case hg => rfl); (case hr => first | (go_simp; done) | (go_simp; rfl)); (case hp => exact (Reps.c3 (k58_mkM _ _ _ _) (Reps.c3 (k58_mkM _ _ _ _) (Reps.c3 (k58_mkM _ _ _ _) (Reps.none _ _))))); intro v6 w6 ho6 hb6 hg_ hnew_; clear hg_ hnew_; have HB6 := Aside0.mk (HB5.out.trans (hb6.mono HB5.out.size)); have HT6 := Aside0.mk (Kd.C_below HT5.out hb6); have HN6 := Aside0.mk (Kd.C_below HN5.out hb6); have HO6 := Aside0.mk ho6; obtain ⟨LA, LC, rfl⟩ := Kd.R_slice ho6; clear ho6 hb6) | (go_at_call 16; (with_reducible refine (hS1.out TA LA TC LC _ HT6.out (Kd.R_reads' HT1.out).2.1 (Kd.R_reads' HO6.out).2.2 (Kd.R_reads' HO6.out).2.1).mono ?_); rintro e w' ⟨rfl, ⟨nd7, rfl⟩⟩; have HB7 := Aside0.mk (pw_below_drewN HB6.out nd7); have HN7 := Aside0.mk (Kd.C_drewN HN6.out nd7)) | ((with_reducible refine gate_dst (N := 46) rfl ?_); (try (refine gate_guard (by rfl) ?_; dsimp only)); refine Kd.R_lit k58 _ 58 ?hg (N := 46) ?hd (xs := eL2) (inner := [.int .u8 5, .string ⟨#[97]⟩, .int .i64 2]) (ok := fun _ => True) (okp := fun _ => True) ?hr ?hp (fun _ hk => hk) trivial (Below.refl _ _) (Nat.le_refl _) (by decide) ?_; (case hd => rfl); (case hg => rfl); (case hr => first | (go_simp; done) | (go_simp; rfl)); (case hp => exact (Reps.c3 (k58_mkM _ _ _ _) (Reps.none _ _))); intro v8 w8 ho8 hb8 hg_ hnew_; clear hg_ hnew_; have HB8 := Aside0.mk (HB7.out.trans (hb8.mono HB7.out.size)); have HN8 := Aside0.mk (Kd.C_below HN7.out hb8); have HO8 := Aside0.mk ho8; obtain ⟨MA, MC, rfl⟩ := Kd.R_slice ho8; clear ho8 hb8) | (go_at_call 16; refine (hS2.out NA MA NC MC _ HN8.out (Kd.R_reads' HN2.out).2.1 (Kd.R_reads' HO8.out).2.2 (Kd.R_reads' HO8.out).2.1).mono ?_; rintro e w' ⟨rfl, ⟨nd9, rfl⟩⟩; have HB9 := Aside0.mk (pw_below_drewN HB8.out nd9)))
  go_ret
  exact ⟨rfl, HB9.out⟩
end Go.Proofs.YtebidpcmcekbgaaDoor.P
namespace Go.Proofs.YtebidpcmcekbgaaDoor.P
open Go.RowKit Go.Proofs.YtebidpcmcekbgaaDoorW.PrintWords Go.Proofs.YtebidpcmcekbgaaDoorW.PrintLast Go.Proofs.YtebidpcmcekbgaaDoorW.PrintMore
attribute [local go_sem] min2_int min_two -- for this text's walks alone
set_option linter.unusedVariables false
set_option linter.unusedSimpArgs false



/-! ### riposteref01_Diff: function 20 -/

/-! ### riposteref01_SameSplices: function 21 -/

-- NOT PRINTED: function 5 (ripostelaw01_LexDiffs)

/-! ### ripostelaw01_few: function 22 -/


/-! ### riposteref01_SplicesError: function 87 -/

/-! ### riposteref01_check: function 55 -/

/-! ### riposteref01_Spliced: function 56 -/

/-! ### riposteref01_Apply: function 24 -/


/-! ### lex_Moved: function 25 -/

/-! ### riposteref01_Moved: function 26 -/

/-! ### lex_splice_moved: function 58 -/


/-! ### lex_Undo: function 27 -/

/-! ### riposteref01_Undo: function 28 -/

-- NOT PRINTED: function 6 (ripostelaw01_LexSplices)

end Go.Proofs.YtebidpcmcekbgaaDoor.P
namespace Go.Proofs.YtebidpcmcekbgaaDoor.P
open Go.RowKit Go.Proofs.YtebidpcmcekbgaaDoorW.PrintWords
set_option linter.unusedVariables false
set_option linter.unusedSimpArgs false
/-- By how much a text grows. -/
def gr (x : Sp) : Int := (x.f2.size : Int) - (x.f1 - x.f0)
def rngB (n : Nat) : List Sp → Int → Bool
  | [], _ => true
  | x :: r, a => decide (a ≤ x.f0) && (decide (x.f0 ≤ x.f1) && (decide (x.f1 ≤ (n : Int)) && rngB n r x.f1))
def tailE : Int → List Sp → Int
  | n, [] => if n > 2500 then 5 else 0
  | n, x :: r => if badAt x.f2 x.f2.size 0 = none then tailE (n + gr x) r else 2
/-- The error of a text and of splices for it. -/
def splE (s : ByteArray) (l : List Sp) : Int :=
  if (chkT s).2 = 0 then (if 40 < l.length then 5 else if rngB s.size l 0 = true then tailE s.size l else 3) else (chkT s).2
theorem rngB_ord {n : Nat} : ∀ {l : List Sp} {a : Int}, rngB n l a = true → 0 ≤ a → a ≤ n → OrdS n l a
  | [], a, _, h0, h1 => ⟨h0, h1⟩
  | x :: r, a, h, h0, h1 => by
    unfold rngB at h
    simp only [Bool.and_eq_true, decide_eq_true_eq] at h
    obtain ⟨a1, a2, a3, a4⟩ := h
    exact ⟨h0, a1, a2, a3, rngB_ord a4 (by omega) a3⟩
theorem ord_rngB {n : Nat} : ∀ {l : List Sp} {a : Int}, OrdS n l a → rngB n l a = true
  | [], a, _ => rfl
  | x :: r, a, h => by
    obtain ⟨h0, h1, h2, h3, h4⟩ := h
    unfold rngB
    rw [decide_eq_true h1, decide_eq_true h2, decide_eq_true h3, ord_rngB h4]; rfl
/-! ### The program's splices -/
/-! ### The reference's -/
theorem splE_ord {s : ByteArray} {l : List Sp} (h : splE s l = 0) : (chkT s).2 = 0 ∧ l.length ≤ 40 ∧ OrdS s.size l 0 ∧ tailE s.size l = 0 := by
  unfold splE at h
  by_cases c : (chkT s).2 = 0
  · rw [if_pos c] at h
    by_cases c2 : 40 < l.length
    · rw [if_pos c2] at h; exact absurd h (by decide)
    · rw [if_neg c2] at h
      by_cases c3 : rngB s.size l 0 = true
      · rw [if_pos c3] at h
        exact ⟨c, by omega, rngB_ord c3 (Int.le_refl _) (by omega), h⟩
      · rw [if_neg c3] at h; exact absurd h (by decide)
  · rw [if_neg c] at h; exact absurd h c

/-! ### Where a byte goes -/
def mvd (p : Int) : List Sp → Int → Int × Int
  | [], n => (n, 0)
  | x :: r, n => if x.f1 ≤ p then mvd p r (n + gr x) else if x.f0 ≤ p then (0, 7) else mvd p r n
/-! ### What leads back -/
def unS (s : ByteArray) : List Sp → Int → List Sp
  | [], _ => []
  | x :: r, m => ⟨x.f0 + m, x.f0 + m + (x.f2.size : Int), s.extract x.f0.toNat x.f1.toNat⟩ :: unS s r (m + gr x)
theorem unS_length (s : ByteArray) : ∀ (l : List Sp) (m : Int), (unS s l m).length = l.length
  | [], _ => rfl
  | x :: r, m => by unfold unS; rw [List.length_cons, List.length_cons, unS_length s r]
theorem OrdS.in {n : Nat} : ∀ {l : List Sp} {a : Int}, OrdS n l a → ∀ x ∈ l, a ≤ x.f0 ∧ x.f0 ≤ x.f1 ∧ x.f1 ≤ (n : Int)
  | [], _, _, x, hx => by cases hx
  | y :: r, a, h, x, hx => by
    obtain ⟨h0, h1, h2, h3, h4⟩ := h
    rcases List.mem_cons.1 hx with rfl | hx
    · exact ⟨h1, h2, h3⟩
    · have := h4.in x hx
      exact ⟨by omega, this.2⟩
/-! ### Lists of splices compared; few -/
theorem copy_step {s t : ByteArray} {R : List Sp} {i n m : Nat} (hO : OrdS s.size R ((i + n : Nat) : Int)) (hm : m ≤ t.size) (h : Lr t m = splB s R (i : Int)) :
    m + n ≤ t.size ∧ Lr t (m + n) = splB s R ((i + n : Nat) : Int) ∧ (∀ k, k < n → bt t ((m + k : Nat) : Int) = bt s ((i + k : Nat) : Int)) ∧ t.extract m (m + n) = s.extract i (i + n) ∧ Lr t m = (s.extract i (i + n)).data.toList ++ splB s R ((i + n : Nat) : Int) := by
  have hle := hO.range.2
  rw [splB_skip s R i n hO] at h
  have hz : (s.extract i (i + n)).size = n := by rw [size_ex]; omega
  obtain ⟨h1, h2, h3, -⟩ := begT_Lr hm h
  rw [hz] at h2 h3
  refine ⟨h2, h3, fun k hk => ?_, ?_, h⟩
  · rw [bt_Lr t m k, h, List.getElem?_append_left (by rw [data_length, hz]; exact hk), ← bt_list, bt_ex s i (i + n) k (by omega)]
  · have := begT_ex h1
    rw [hz, ex_ex t m t.size 0 n (by omega), Nat.add_zero] at this
    exact this
theorem back_step {s t : ByteArray} {R : List Sp} {i n m : Nat} (hi : i + n ≤ s.size) (hO : OrdS t.size R ((m + n : Nat) : Int)) (he : t.extract m (m + n) = s.extract i (i + n)) (h : splB t R ((m + n : Nat) : Int) = Lr s (i + n)) : splB t R (m : Int) = Lr s i := by
  rw [splB_skip t R m n hO, he, h, ← Lr_split s i n hi]
theorem nat_off (i m n : Nat) : ((m + n : Nat) : Int) - ((i + n : Nat) : Int) = (m : Int) - (i : Int) := by omega
set_option maxHeartbeats 1000000 in
theorem scan_ren (s old name : ByteArray) (ho : nameB old = true) (hn : nameB name = true) {i j : Nat} {l : List Tk} (h : Scan s i l j) (hj : j = s.size) (hno : ∀ x ∈ l, x.f1 ≠ name) : ∀ (t : ByteArray) (m : Nat), i ≤ s.size → m ≤ t.size → Lr t m = splB s (renS old name l) (i : Int) →
    Scan t m (mvT old name l ((m : Int) - (i : Int))) t.size ∧ splB t (renS name old (mvT old name l ((m : Int) - (i : Int)))) (m : Int) = Lr s i := by
  induction h with
  | done i =>
    intro t m hi hm hL
    have e : splB s (renS old name []) (i : Int) = Lr s i := by
      rw [show renS old name ([] : List Tk) = [] from rfl, splB, Int.toNat_natCast, Lr_ex]
    rw [e] at hL
    have h1 := Lr_len t m
    have h2 := Lr_len s i
    rw [hL, h2] at h1
    obtain rfl : m = t.size := by omega
    refine ⟨.done _, ?_⟩
    show splB t (renS name old ([] : List Tk)) (t.size : Int) = _
    rw [show renS name old ([] : List Tk) = [] from rfl, splB, Int.toNat_natCast, Lr_ex]
    exact hL
  | @blank i j l h1 h2 h3 ih =>
    intro t m hi hm hL
    have hO := renS_ord s.size old name l _ ((i + 1 : Nat) : Int) (h3.ord (by omega)) (by omega) (Int.le_refl _)
    obtain ⟨c1, c2, c3, c4, -⟩ := copy_step hO hm hL
    obtain ⟨r1, r2⟩ := ih hj hno t (m + 1) (by omega) c1 c2
    rw [nat_off] at r1 r2
    have e : bt t (m : Int) = bt s (i : Int) := c3 0 Nat.one_pos
    refine ⟨.blank (by omega) (by rw [e]; exact h2) r1, back_step (by omega) (renS_ord _ _ _ _ _ _ (r1.ord (Nat.le_refl _)) (by omega) (Int.le_refl _)) c4 r2⟩
  | @note i j l h1 h2 h3 ih =>
    intro t m hi hm hL
    have hp := noteL_pos s i h1 h2
    have hle := noteL_le s i hi
    have hO := renS_ord s.size old name l _ ((i + noteL s i : Nat) : Int) (h3.ord (by omega)) (by omega) (Int.le_refl _)
    obtain ⟨c1, c2, c3, c4, -⟩ := copy_step hO hm hL
    obtain ⟨r1, r2⟩ := ih hj hno t (m + noteL s i) hle c1 c2
    rw [nat_off] at r1 r2
    have e : bt t (m : Int) = bt s (i : Int) := c3 0 hp
    obtain ⟨n1, n2⟩ := noteL_in s i
    have hN : noteL t m = noteL s i := by
      refine noteL_uniq t m _ (fun k hk => ⟨by omega, by rw [c3 k hk]; exact (n1 k hk).2⟩) ?_
      rcases n2 with n2 | n2
      · refine .inl ?_
        have hl := h3.end_nil n2
        subst hl
        rw [show renS old name ([] : List Tk) = [] from rfl, splB, Int.toNat_natCast, Lr_ex] at c2
        have q1 := Lr_len t (m + noteL s i)
        have q2 := Lr_len s (i + noteL s i)
        rw [c2, q2] at q1
        omega
      · refine .inr ?_
        rcases head_spl s old name ho hn h3 hj t (m + noteL s i) c2 with q | ⟨q, -⟩
        · rw [q]; exact n2
        · rw [n2] at q; exact absurd q (by decide)
    refine ⟨.note (by omega) (by rw [e]; exact h2) (by rw [hN]; exact r1), back_step hle (renS_ord _ _ _ _ _ _ (r1.ord (Nat.le_refl _)) (by omega) (Int.le_refl _)) c4 r2⟩
  | @tok i j l k z h1 h2 h3 h4 h5 ih =>
    intro t m hi hm hL
    have hz := tok_size h4
    obtain ⟨f1, f2, f3, f4, f5⟩ := firstM_self kwM h4
    obtain ⟨g1, g2⟩ := Lr_begT hi f2
    rw [(begT_Lr hi g1).2.2.2] at f3
    have hno' : ∀ x ∈ l, x.f1 ≠ name := fun x hx => hno x (List.mem_cons_of_mem _ hx)
    by_cases c : z = old
    · subst c
      have hk1 : k = 1 := congrArg (fun y => y.1.1) (f1.symm.trans (name_self ho))
      subst hk1
      rw [renS_cons_pos z name _ _ rfl, splB] at hL
      simp only [Int.toNat_natCast] at hL
      rw [ex_empty s i i (.inl (Nat.le_refl _))] at hL
      replace hL : Lr t m = name.data.toList ++ splB s (renS z name l) ((i + z.size : Nat) : Int) := hL
      obtain ⟨b1, b2, b3, b4⟩ := begT_Lr hm hL
      obtain ⟨r1, r2⟩ := ih hj hno' t (m + name.size) hz.2 b2 b3
      have hoff : (m : Int) - (i : Int) + ((name.size : Int) - (z.size : Int)) = ((m + name.size : Nat) : Int) - ((i + z.size : Nat) : Int) := by omega
      have hmv : mvT z name (⟨1, z, (i : Int)⟩ :: l) ((m : Int) - (i : Int)) = ⟨1, name, (m : Int)⟩ :: mvT z name l (((m + name.size : Nat) : Int) - ((i + z.size : Nat) : Int)) := by
        rw [mvT]
        simp only [if_true]
        rw [hoff, show (i : Int) + ((m : Int) - (i : Int)) = (m : Int) by omega]
      rw [hmv]
      have hfn := name_self hn
      obtain ⟨-, -, -, hn0, -⟩ := firstM_self kwM hfn
      have hnx : nxB 1 name (bt (t.extract m t.size) (name.size : Int)) = true := by
        rw [b4]
        have : nxB 1 name (bt s ((i + z.size : Nat) : Int)) = true := f3
        exact nx_swap this (head_spl s z name ho hn h5 hj t _ b3)
      have hb0 : bt t (m : Int) = bt name 0 := by
        rw [bt_head, hL, List.getElem?_append_left (by rw [data_length]; exact hn0), show (0 : Int) = ((0 : Nat) : Int) from rfl, bt_list]
      obtain ⟨w1, w2, w3, -⟩ := sm_word (name_small hn).1
      refine ⟨.tok (by omega) (by rw [hb0]; exact w2) (by rw [hb0]; exact w3) (firstM_of kwM hfn b1 hnx) r1, ?_⟩
      rw [renS_cons_pos name z _ _ rfl, splB]
      simp only [Int.toNat_natCast]
      rw [ex_empty t m m (.inl (Nat.le_refl _)), g1]
      show z.data.toList ++ splB t (renS name z (mvT z name l (((m + name.size : Nat) : Int) - ((i + z.size : Nat) : Int)))) ((m + name.size : Nat) : Int) = _
      rw [r2]
    · have hzn : z ≠ name := hno _ List.mem_cons_self
      rw [renS_cons_neg old name _ _ c] at hL
      have hO := renS_ord s.size old name l _ ((i + z.size : Nat) : Int) (h5.ord (by omega)) (by omega) (Int.le_refl _)
      obtain ⟨c1, c2, c3, c4, c5⟩ := copy_step hO hm hL
      have hze : s.extract i (i + z.size) = z := by
        have := begT_ex f2
        rw [ex_ex s i s.size 0 z.size (by omega), Nat.add_zero] at this
        exact this
      rw [hze] at c5
      obtain ⟨b1, b2, b3, b4⟩ := begT_Lr hm c5
      obtain ⟨r1, r2⟩ := ih hj hno' t (m + z.size) hz.2 c1 c2
      rw [nat_off] at r1 r2
      have hmv : mvT old name (⟨k, z, (i : Int)⟩ :: l) ((m : Int) - (i : Int)) = ⟨k, z, (m : Int)⟩ :: mvT old name l ((m : Int) - (i : Int)) := by
        rw [mvT]
        simp only [if_neg c]
        rw [show (i : Int) + ((m : Int) - (i : Int)) = (m : Int) by omega]
      rw [hmv]
      have hnx : nxB k z (bt (t.extract m t.size) (z.size : Int)) = true := by
        rw [b4]
        exact nx_swap f3 (head_spl s old name ho hn h5 hj t _ b3)
      have e : bt t (m : Int) = bt s (i : Int) := c3 0 hz.1
      refine ⟨.tok (by omega) (by rw [e]; exact h2) (by rw [e]; exact h3) (firstM_of kwM f1 b1 hnx) r1, ?_⟩
      rw [renS_cons_neg name old _ _ hzn]
      exact back_step hz.2 (renS_ord _ _ _ _ _ _ (r1.ord (Nat.le_refl _)) (by omega) (Int.le_refl _)) c4 r2
theorem splB_all (P : UInt8 → Prop) (s : ByteArray) (hs : ∀ c ∈ s.data.toList, P c) : ∀ (R : List Sp) (a : Int), (∀ x ∈ R, ∀ c ∈ x.f2.data.toList, P c) → ∀ c ∈ splB s R a, P c
  | [], a, _, c, hc => by
    unfold splB at hc
    rw [data_ex] at hc
    exact hs c (List.mem_of_mem_take (List.mem_of_mem_drop hc))
  | x :: r, a, h, c, hc => by
    unfold splB at hc
    rcases List.mem_append.1 hc with hc | hc
    · rw [data_ex] at hc
      exact hs c (List.mem_of_mem_take (List.mem_of_mem_drop hc))
    · rcases List.mem_append.1 hc with hc | hc
      · exact h x List.mem_cons_self c hc
      · exact splB_all P s hs r x.f1 (fun y hy => h y (List.mem_cons_of_mem _ hy)) c hc
theorem bt_all (s : ByteArray) : (∀ i, i < s.size → okB (bt s (i : Int)) = true) ↔ ∀ c ∈ s.data.toList, okB (c.toNat : Int) = true := by
  constructor
  · intro h c hc
    obtain ⟨i, hi, rfl⟩ := List.getElem_of_mem hc
    have := h i (by rw [← data_length]; exact hi)
    rw [bt_list, List.getElem?_eq_getElem hi] at this
    exact this
  · intro h i hi
    have hi' : i < s.data.toList.length := by rw [data_length]; exact hi
    rw [bt_list, List.getElem?_eq_getElem hi']
    exact h _ (List.getElem_mem hi')
theorem wd_ok {c : Int} (h : wdB c = true) : okB c = true := by
  unfold wdB dgB smB gtB at h
  unfold okB
  simp only [Bool.or_eq_true, Bool.and_eq_true, decide_eq_true_eq] at h ⊢
  omega
/-- What the law LexRenamed compares of two tokens. -/
def ren1 (old name : ByteArray) (x y : Tk) : Prop := x.f0 = y.f0 ∧ ((x.f1 = y.f1 ∧ x.f1 ≠ old) ∨ (x.f0 = 1 ∧ x.f1 = old ∧ y.f1 = name))
inductive Two (P : Tk → Tk → Prop) : List Tk → List Tk → Prop
  | nil : Two P [] []
  | cons {x y : Tk} {a b : List Tk} : P x y → Two P a b → Two P (x :: a) (y :: b)
theorem mvT_two (old name : ByteArray) : ∀ (l : List Tk) (d : Int), (∀ x ∈ l, x.f1 = old → x.f0 = 1) → Two (ren1 old name) l (mvT old name l d)
  | [], _, _ => .nil
  | x :: r, d, h => by
    unfold mvT
    refine .cons ⟨rfl, ?_⟩ (mvT_two old name r _ fun y hy => h y (List.mem_cons_of_mem _ hy))
    by_cases c : x.f1 = old
    · exact .inr ⟨h x List.mem_cons_self c, c, if_pos c⟩
    · exact .inl ⟨(if_neg c).symm, c⟩
theorem mvT_name (old name : ByteArray) (hne : old ≠ name) : ∀ (l : List Tk) (d : Int), (mvT old name l d).any (fun t => decide (t.f1 = old)) = false
  | [], _ => rfl
  | x :: r, d => by
    unfold mvT
    rw [List.any_cons, mvT_name old name hne r, Bool.or_false]
    refine decide_eq_false ?_
    by_cases c : x.f1 = old
    · simp only [if_pos c]; exact fun e => hne e.symm
    · simp only [if_neg c]; exact c
theorem mvT_some (old name : ByteArray) : ∀ (l : List Tk) (d : Int), renS old name l ≠ [] → renS name old (mvT old name l d) ≠ []
  | [], _, h => absurd rfl h
  | x :: r, d, h => by
    unfold mvT
    by_cases c : x.f1 = old
    · rw [if_pos c, renS_cons_pos name old _ _ rfl]; exact List.cons_ne_nil _ _
    · rw [renS_cons_neg old name _ _ c] at h
      rw [if_neg c, if_neg c]
      by_cases c2 : x.f1 = name
      · rw [renS_cons_pos name old ⟨x.f0, x.f1, x.f2 + d⟩ _ c2]; exact List.cons_ne_nil _ _
      · rw [renS_cons_neg name old ⟨x.f0, x.f1, x.f2 + d⟩ _ c2]; exact mvT_some old name r d h
/-- A text that is renamed, and renamed back, is the text before; the kinds of its tokens stay. -/
theorem renamed (s old name t : ByteArray) (h : renM s old name = (t, 0)) : renM t name old = (s, 0) ∧ (toksM kwM s).2.2 = 0 ∧ (toksM kwM t).2.2 = 0 ∧ Two (ren1 old name) (toksM kwM s).1 (toksM kwM t).1 := by
  unfold renM at h
  by_cases c1 : (toksM kwM s).2.2 = 0
  · rw [if_neg (by simpa using c1)] at h
    by_cases c2 : nameB old = false ∨ nameB name = false
    · rw [if_pos c2] at h; exact absurd (show (2 : Int) = 0 from congrArg Prod.snd h) (by decide)
    · rw [if_neg c2] at h
      have ho : nameB old = true := by cases e : nameB old <;> simp_all
      have hn : nameB name = true := by cases e : nameB name <;> simp_all
      by_cases c3 : renS old name (toksM kwM s).1 = []
      · rw [if_pos c3] at h; exact absurd (show (7 : Int) = 0 from congrArg Prod.snd h) (by decide)
      · rw [if_neg c3] at h
        by_cases c4 : ((toksM kwM s).1.any fun t => decide (t.f1 = name)) = true
        · rw [if_pos c4] at h; exact absurd (show (6 : Int) = 0 from congrArg Prod.snd h) (by decide)
        · rw [if_neg c4] at h
          by_cases c5 : 2500 < (splM s (renS old name (toksM kwM s).1)).size
          · rw [if_pos c5] at h; exact absurd (show (5 : Int) = 0 from congrArg Prod.snd h) (by decide)
          · rw [if_neg c5] at h
            have ht : splM s (renS old name (toksM kwM s).1) = t := congrArg Prod.fst h
            obtain ⟨q1, q2, q3⟩ := (toks_iff s _).1 ⟨rfl, c1⟩
            obtain ⟨q4, q5⟩ := (chk_iff s).1 q1
            rw [ht] at c5
            refine ⟨?_, c1, ?_⟩
            all_goals
              generalize hA : (toksM kwM s).1 = a at *
              have hno : ∀ x ∈ a, x.f1 ≠ name := fun x hx e => c4 (List.any_eq_true.2 ⟨x, hx, decide_eq_true e⟩)
              have hLr : Lr t 0 = splB s (renS old name a) ((0 : Nat) : Int) := by rw [← ht]; rfl
              obtain ⟨r1, r2⟩ := scan_ren s old name ho hn q2 rfl hno t 0 (Nat.zero_le _) (Nat.zero_le _) hLr
              have htok : (toksM kwM t).1 = mvT old name a (((0 : Nat) : Int) - ((0 : Nat) : Int)) ∧ (toksM kwM t).2.2 = 0 := by
                refine (toks_iff t _).2 ⟨(chk_iff t).2 ⟨by omega, ?_⟩, r1, by rw [mvT_length]; exact q3⟩
                rw [bt_all]
                rw [bt_all] at q5
                intro c hc
                have hc2 : c ∈ splB s (renS old name a) ((0 : Nat) : Int) := by rw [← hLr]; exact hc
                refine splB_all (fun c => okB (c.toNat : Int) = true) s q5 _ _ (fun x hx c hc => ?_) c hc2
                unfold renS at hx
                obtain ⟨y, -, rfl⟩ := List.mem_map.1 hx
                exact (bt_all name).1 (fun i hi => wd_ok ((name_small hn).2 i hi)) c hc
            · have hone : old ≠ name := by
                intro e
                apply c4
                unfold renS at c3
                have : (a.filter fun t => decide (t.f1 = old)) ≠ [] := fun e => c3 (by rw [e]; rfl)
                obtain ⟨y, hy⟩ := List.exists_mem_of_ne_nil _ this
                have hy2 := List.mem_filter.1 hy
                exact List.any_eq_true.2 ⟨y, hy2.1, by rw [← e]; exact hy2.2⟩
              unfold renM
              rw [htok.1, if_neg (by simpa using htok.2), if_neg (by rw [ho, hn]; simp), if_neg (mvT_some old name a _ c3), mvT_name old name hone a, if_neg (by decide)]
              have hs : splM t (renS name old (mvT old name a (((0 : Nat) : Int) - ((0 : Nat) : Int)))) = s := by
                unfold splM
                apply ba_ext
                rw [ba_data]
                exact r2
              rw [hs, if_neg (by omega)]
            · refine ⟨htok.2, ?_⟩
              rw [htok.1]
              exact mvT_two old name a _ (tok_name q2 ho)
  · rw [if_pos (by simpa using c1)] at h
    exact absurd (congrArg Prod.snd h) c1

def sumG : List Sp → Int
  | [] => 0
  | x :: r => gr x + sumG r
theorem tailE_iff : ∀ (l : List Sp) (n : Int), tailE n l = 0 ↔ (∀ x ∈ l, badAt x.f2 x.f2.size 0 = none) ∧ n + sumG l ≤ 2500
  | [], n => by
    unfold tailE sumG
    by_cases c : n > 2500
    · rw [if_pos c]; exact iff_of_false (by decide) fun h => by have := h.2; omega
    · rw [if_neg c]; exact iff_of_true rfl ⟨fun x hx => (by cases hx), by omega⟩
  | x :: r, n => by
    unfold tailE sumG
    by_cases c : badAt x.f2 x.f2.size 0 = none
    · rw [if_pos c, tailE_iff r]
      constructor
      · rintro ⟨h1, h2⟩
        refine ⟨fun y hy => ?_, by omega⟩
        rcases List.mem_cons.1 hy with rfl | hy
        · exact c
        · exact h1 y hy
      · rintro ⟨h1, h2⟩
        exact ⟨fun y hy => h1 y (List.mem_cons_of_mem _ hy), by omega⟩
    · rw [if_neg c]
      exact iff_of_false (by decide) fun h => c (h.1 x List.mem_cons_self)
theorem bad_iff (s : ByteArray) (hs : s.size ≤ 2500) : badAt s s.size 0 = none ↔ ∀ c ∈ s.data.toList, okB (c.toNat : Int) = true := by
  rw [← bt_all]
  have h := chk_iff s
  rw [chkT_eq, if_neg (by omega)] at h
  constructor
  · intro e
    rw [e] at h
    exact (h.1 rfl).2
  · intro e
    have h2 := h.2 ⟨hs, e⟩
    cases hb : badAt s s.size 0 with
    | none => rfl
    | some j =>
      rw [hb] at h2
      exact absurd h2 (show ¬ (2 : Int) = 0 by decide)
theorem gr_eq (x : Sp) : gr x = (x.f2.size : Int) - (x.f1 - x.f0) := by unfold gr; rfl
theorem splB_length (s : ByteArray) : ∀ (l : List Sp) (a : Int), OrdS s.size l a → ((splB s l a).length : Int) + a = (s.size : Int) + sumG l
  | [], a, h => by
    unfold splB sumG
    rw [← size_len, size_ex]
    have := h.1; have := h.2
    omega
  | x :: r, a, h => by
    obtain ⟨h0, h1, h2, h3, h4⟩ := h
    have ih := splB_length s r x.f1 h4
    have hg := gr_eq x
    unfold splB sumG
    rw [List.length_append, List.length_append, ← size_len, ← size_len, size_ex]
    generalize gr x = g at *
    generalize sumG r = q at *
    generalize (splB s r x.f1).length = n at *
    omega
theorem unS_gr (s : ByteArray) : ∀ (l : List Sp) (a m : Int), OrdS s.size l a → sumG (unS s l m) = - sumG l
  | [], _, _, _ => rfl
  | x :: r, a, m, h => by
    obtain ⟨h0, h1, h2, h3, h4⟩ := h
    unfold unS
    rw [sumG, sumG, unS_gr s r x.f1 _ h4, gr_eq, gr_eq x]
    simp only
    rw [size_ex]
    generalize sumG r = q at *
    omega
theorem Lr_ex2 {s : ByteArray} {i j : Nat} (h : i ≤ j) (hj : j ≤ s.size) : Lr s i = (s.extract i j).data.toList ++ Lr s j := by
  have := Lr_split s i (j - i) (by omega)
  rw [show i + (j - i) = j by omega] at this
  exact this
/-- What stands at a place, and what behind it. -/
theorem Lr_take {t z : ByteArray} {i : Nat} {B : List UInt8} (hi : i ≤ t.size) (h : Lr t i = z.data.toList ++ B) : i + z.size ≤ t.size ∧ t.extract i (i + z.size) = z ∧ Lr t (i + z.size) = B := by
  obtain ⟨h1, h2, h3, -⟩ := begT_Lr hi h
  refine ⟨h2, ?_, h3⟩
  have := begT_ex h1
  rw [ex_ex t i t.size 0 z.size (by omega), Nat.add_zero] at this
  exact this
set_option maxHeartbeats 1000000 in
theorem undo_spl (s t : ByteArray) : ∀ (l : List Sp) (a m : Int), OrdS s.size l a → 0 ≤ a + m → (a + m).toNat ≤ t.size → Lr t (a + m).toNat = splB s l a →
    OrdS t.size (unS s l m) (a + m) ∧ splB t (unS s l m) (a + m) = Lr s a.toNat
  | [], a, m, h, h0, h1, hL => by
    unfold splB at hL
    rw [Lr_ex] at hL
    unfold unS splB
    rw [Lr_ex, hL]
    exact ⟨⟨h0, by omega⟩, rfl⟩
  | x :: r, a, m, h, h0, h1, hL => by
    obtain ⟨g0, g1, g2, g3, g4⟩ := h
    unfold splB at hL
    have hz : (s.extract a.toNat x.f0.toNat).size = x.f0.toNat - a.toNat := by rw [size_ex]; omega
    obtain ⟨k1, k2, k3⟩ := Lr_take h1 hL
    rw [hz] at k1 k2 k3
    have e1 : (a + m).toNat + (x.f0.toNat - a.toNat) = (x.f0 + m).toNat := by omega
    rw [e1] at k1 k2 k3
    obtain ⟨k4, k5, k6⟩ := Lr_take k1 k3
    have e2 : (x.f0 + m).toNat + x.f2.size = (x.f0 + m + (x.f2.size : Int)).toNat := by omega
    have e3 : x.f1 + (m + gr x) = x.f0 + m + (x.f2.size : Int) := by rw [gr_eq]; omega
    rw [e2] at k4 k6
    rw [← e3] at k4 k6
    obtain ⟨i1, i2⟩ := undo_spl s t r x.f1 (m + gr x) g4 (by rw [e3]; omega) k4 k6
    rw [e3] at i1 i2 k4
    unfold unS splB
    refine ⟨⟨h0, by simp only; omega, by simp only; omega, by simp only; omega, i1⟩, ?_⟩
    simp only
    rw [i2, k2, Lr_ex2 (i := a.toNat) (j := x.f0.toNat) (by omega) (by omega), Lr_ex2 (i := x.f0.toNat) (j := x.f1.toNat) (by omega) (by omega)]
theorem mvd_skip (p : Int) : ∀ (r : List Sp) (k : Int), (∀ y ∈ r, p < y.f0 ∧ y.f0 ≤ y.f1) → mvd p r k = (k, 0)
  | [], _, _ => rfl
  | y :: r, k, h => by
    have h1 := h y List.mem_cons_self
    unfold mvd
    rw [if_neg (by omega), if_neg (by omega)]
    exact mvd_skip p r k fun z hz => h z (List.mem_cons_of_mem _ hz)
theorem OrdS.above {n : Nat} {l : List Sp} {a p : Int} (h : OrdS n l a) (hp : p < a) : ∀ y ∈ l, p < y.f0 ∧ y.f0 ≤ y.f1 := fun y hy => by
  have := h.in y hy
  exact ⟨by omega, this.2.1⟩
set_option maxHeartbeats 1000000 in
theorem mvd_back (s t : ByteArray) (p n : Int) : ∀ (l : List Sp) (a m : Int), OrdS s.size l a → 0 ≤ a + m → (a + m).toNat ≤ t.size → Lr t (a + m).toNat = splB s l a → a ≤ p → p < (s.size : Int) → mvd p l (p + m) = (n, 0) →
    a + m ≤ n ∧ n < (t.size : Int) ∧ bt t n = bt s p ∧ mvd n (unS s l m) (n - m) = (p, 0)
  | [], a, m, h, h0, h1, hL, hp, hps, hm => by
    have e : p + m = n := congrArg Prod.fst hm
    unfold splB at hL
    rw [Lr_ex] at hL
    have g0 := h.1
    have l1 := congrArg List.length hL
    rw [Lr_len, Lr_len] at l1
    obtain ⟨q, hq⟩ : ∃ q : Nat, p = a + q := ⟨(p - a).toNat, by omega⟩
    refine ⟨by omega, by omega, ?_, ?_⟩
    · have e1 : n = (((a + m).toNat + q : Nat) : Int) := by omega
      have e2 : p = ((a.toNat + q : Nat) : Int) := by omega
      rw [e1, e2, bt_Lr, bt_Lr, hL]
    · show (n - m, (0 : Int)) = (p, 0)
      rw [show n - m = p by omega]
  | x :: r, a, m, h, h0, h1, hL, hp, hps, hm => by
    obtain ⟨g0, g1, g2, g3, g4⟩ := h
    unfold splB at hL
    have hz : (s.extract a.toNat x.f0.toNat).size = x.f0.toNat - a.toNat := by rw [size_ex]; omega
    obtain ⟨k1, k2, k3⟩ := Lr_take h1 hL
    rw [hz] at k1 k2 k3
    have e1 : (a + m).toNat + (x.f0.toNat - a.toNat) = (x.f0 + m).toNat := by omega
    rw [e1] at k1 k2 k3
    obtain ⟨k4, k5, k6⟩ := Lr_take k1 k3
    have e2 : (x.f0 + m).toNat + x.f2.size = (x.f0 + m + (x.f2.size : Int)).toNat := by omega
    have e3 : x.f1 + (m + gr x) = x.f0 + m + (x.f2.size : Int) := by rw [gr_eq]; omega
    rw [e2] at k4 k6
    rw [← e3] at k4 k6
    have hgy : gr ⟨x.f0 + m, x.f0 + m + (x.f2.size : Int), s.extract x.f0.toNat x.f1.toNat⟩ = - gr x := by
      rw [gr_eq, gr_eq x]
      simp only
      rw [size_ex]
      omega
    unfold mvd at hm
    by_cases c : x.f1 ≤ p
    · rw [if_pos c, show p + m + gr x = p + (m + gr x) by omega] at hm
      obtain ⟨i1, i2, i3, i4⟩ := mvd_back s t p n r x.f1 (m + gr x) g4 (by rw [e3]; omega) k4 k6 c hps hm
      rw [e3] at i1
      refine ⟨by omega, i2, i3, ?_⟩
      unfold unS mvd
      rw [if_pos (by simp only; omega), hgy, show n - m + - gr x = n - (m + gr x) by omega]
      exact i4
    · rw [if_neg c] at hm
      by_cases c2 : x.f0 ≤ p
      · rw [if_pos c2] at hm
        exact absurd (show (7 : Int) = 0 from congrArg Prod.snd hm) (by decide)
      · rw [if_neg c2, mvd_skip p r _ (g4.above (by omega))] at hm
        have e : p + m = n := congrArg Prod.fst hm
        obtain ⟨q, hq⟩ : ∃ q : Nat, p = a + q := ⟨(p - a).toNat, by omega⟩
        have hO := undo_spl s t (x :: r) a m ⟨g0, g1, g2, g3, g4⟩ h0 h1 (by unfold splB; exact hL)
        refine ⟨by omega, by omega, ?_, ?_⟩
        · have e4 : n = (((a + m).toNat + q : Nat) : Int) := by omega
          have e5 : p = ((a.toNat + q : Nat) : Int) := by omega
          have k7 : bt (t.extract (a + m).toNat (x.f0 + m).toNat) (q : Int) = bt (s.extract a.toNat x.f0.toNat) (q : Int) := by rw [k2]
          rw [bt_ex t _ _ q (by omega), bt_ex s _ _ q (by omega)] at k7
          rw [e4, e5]
          exact k7
        · rw [mvd_skip n (unS s (x :: r) m) _ ?_, show n - m = p by omega]
          have h2 := hO.1
          unfold unS at h2 ⊢
          obtain ⟨o0, o1, o2, o3, o4⟩ := h2
          intro y hy
          rcases List.mem_cons.1 hy with rfl | hy
          · exact ⟨by simp only; omega, o2⟩
          · exact o4.above (by simp only; omega) y hy
theorem mvd_mono (n1 n2 p1 p2 : Int) (hp : p1 < p2) {N : Nat} : ∀ (l : List Sp) (a m : Int), OrdS N l a → mvd p1 l (p1 + m) = (n1, 0) → mvd p2 l (p2 + m) = (n2, 0) → n1 < n2
  | [], a, m, h, h1, h2 => by
    have e1 : p1 + m = n1 := congrArg Prod.fst h1
    have e2 : p2 + m = n2 := congrArg Prod.fst h2
    omega
  | x :: r, a, m, h, h1, h2 => by
    obtain ⟨g0, g1, g2, g3, g4⟩ := h
    unfold mvd at h1 h2
    by_cases c1 : x.f1 ≤ p1
    · rw [if_pos c1, show p1 + m + gr x = p1 + (m + gr x) by omega] at h1
      rw [if_pos (show x.f1 ≤ p2 by omega), show p2 + m + gr x = p2 + (m + gr x) by omega] at h2
      exact mvd_mono n1 n2 p1 p2 hp r x.f1 (m + gr x) g4 h1 h2
    · rw [if_neg c1] at h1
      by_cases c2 : x.f0 ≤ p1
      · rw [if_pos c2] at h1
        exact absurd (show (7 : Int) = 0 from congrArg Prod.snd h1) (by decide)
      · rw [if_neg c2, mvd_skip p1 r _ (g4.above (by omega))] at h1
        have e1 : p1 + m = n1 := congrArg Prod.fst h1
        by_cases c3 : x.f1 ≤ p2
        · rw [if_pos c3, show p2 + m + gr x = p2 + (m + gr x) by omega] at h2
          have := mvd_ge n2 p2 r x.f1 (m + gr x) g4 c3 h2
          have hg := gr_eq x
          omega
        · rw [if_neg c3] at h2
          by_cases c4 : x.f0 ≤ p2
          · rw [if_pos c4] at h2
            exact absurd (show (7 : Int) = 0 from congrArg Prod.snd h2) (by decide)
          · rw [if_neg c4, mvd_skip p2 r _ (g4.above (by omega))] at h2
            have e2 : p2 + m = n2 := congrArg Prod.fst h2
            omega
where
  mvd_ge (n p : Int) {N : Nat} : ∀ (l : List Sp) (a m : Int), OrdS N l a → a ≤ p → mvd p l (p + m) = (n, 0) → a + m ≤ n
  | [], a, m, h, hp, h1 => by
    have e1 : p + m = n := congrArg Prod.fst h1
    omega
  | x :: r, a, m, h, hp, h1 => by
    obtain ⟨g0, g1, g2, g3, g4⟩ := h
    unfold mvd at h1
    have hg := gr_eq x
    by_cases c1 : x.f1 ≤ p
    · rw [if_pos c1, show p + m + gr x = p + (m + gr x) by omega] at h1
      have := mvd_ge n p r x.f1 (m + gr x) g4 c1 h1
      omega
    · rw [if_neg c1] at h1
      by_cases c2 : x.f0 ≤ p
      · rw [if_pos c2] at h1
        exact absurd (show (7 : Int) = 0 from congrArg Prod.snd h1) (by decide)
      · rw [if_neg c2, mvd_skip p r _ (g4.above (by omega))] at h1
        have e1 : p + m = n := congrArg Prod.fst h1
        omega
theorem unS_txt (s : ByteArray) : ∀ (l : List Sp) (m : Int), ∀ x ∈ unS s l m, ∃ i j, x.f2 = s.extract i j
  | [], _, x, hx => by cases hx
  | y :: r, m, x, hx => by
    unfold unS at hx
    rcases List.mem_cons.1 hx with rfl | hx
    · exact ⟨_, _, rfl⟩
    · exact unS_txt s r _ x hx
/-- Splices undone: all that the law LexUndone asks. -/
theorem undone (s : ByteArray) (l : List Sp) (h : splE s l = 0) (hx : ∀ x ∈ l, x.f2.size ≤ 3000) : (splM s l).size ≤ 2500 ∧ splE (splM s l) (unS s l 0) = 0 ∧ splM (splM s l) (unS s l 0) = s ∧ (∀ x ∈ unS s l 0, x.f2.size ≤ 3000) ∧
    (∀ p n : Int, 0 ≤ p → p < (s.size : Int) → mvd p l p = (n, 0) → 0 ≤ n ∧ n < ((splM s l).size : Int) ∧ bt (splM s l) n = bt s p ∧ mvd n (unS s l 0) n = (p, 0)) ∧
    (∀ p1 p2 n1 n2 : Int, p1 < p2 → mvd p1 l p1 = (n1, 0) → mvd p2 l p2 = (n2, 0) → n1 < n2) := by
  obtain ⟨h1, h2, h3, h4⟩ := splE_ord h
  obtain ⟨h5, h6⟩ := (chk_iff s).1 h1
  obtain ⟨h7, h8⟩ := (tailE_iff l _).1 h4
  have hlen := splB_length s l 0 h3
  have hsz : (splM s l).size = (splB s l 0).length := by rw [size_len]; rfl
  have hsz2 : ((splM s l).size : Int) = (s.size : Int) + sumG l := by rw [hsz]; omega
  have hL : Lr (splM s l) ((0 : Int) + 0).toNat = splB s l 0 := rfl
  obtain ⟨u1, u2⟩ := undo_spl s (splM s l) l 0 0 h3 (by omega) (Nat.zero_le _) hL
  rw [show (0 : Int) + 0 = 0 from rfl] at u1 u2
  have hug := unS_gr s l 0 0 h3
  have hxs : ∀ x ∈ unS s l 0, x.f2.size ≤ 2500 := fun x hm => by
    obtain ⟨i, j, e⟩ := unS_txt s l 0 x hm
    rw [e, size_ex]; omega
  have hok : ∀ c ∈ (splM s l).data.toList, okB (c.toNat : Int) = true := fun c hc =>
    splB_all (fun c => okB (c.toNat : Int) = true) s ((bt_all s).1 h6) l 0 (fun x hm c hc => by
      by_cases hz : x.f2.size ≤ 2500
      · exact (bad_iff x.f2 hz).1 (h7 x hm) c hc
      · exact bad_iff3 x.f2 (hx x hm) (h7 x hm) c hc) c hc
  refine ⟨by omega, ?_, ?_, fun x hm => Nat.le_trans (hxs x hm) (by decide), ?_, ?_⟩
  · unfold splE
    rw [if_pos ((chk_iff _).2 ⟨by omega, (bt_all _).2 hok⟩), if_neg (by rw [unS_length]; omega), if_pos (ord_rngB u1)]
    refine (tailE_iff _ _).2 ⟨fun x hm => (bad_iff x.f2 (hxs x hm)).2 fun c hc => ?_, by rw [hug]; omega⟩
    obtain ⟨i, j, e⟩ := unS_txt s l 0 x hm
    rw [e, data_ex] at hc
    exact (bt_all s).1 h6 c (List.mem_of_mem_take (List.mem_of_mem_drop hc))
  · unfold splM
    apply ba_ext
    rw [ba_data]
    exact u2
  · intro p n hp0 hp1 hm
    have hm' : mvd p l (p + 0) = (n, 0) := by rw [Int.add_zero]; exact hm
    obtain ⟨r1, r2, r3, r4⟩ := mvd_back s (splM s l) p n l 0 0 h3 (by omega) (Nat.zero_le _) hL hp0 hp1 hm'
    rw [Int.sub_zero] at r4
    exact ⟨by omega, r2, r3, r4⟩
  · intro p1 p2 n1 n2 hp hm1 hm2
    exact mvd_mono n1 n2 p1 p2 hp l 0 0 h3 (by rw [Int.add_zero]; exact hm1) (by rw [Int.add_zero]; exact hm2)
where
  bad_iff3 (s : ByteArray) (hs : s.size ≤ 3000) (h : badAt s s.size 0 = none) : ∀ c ∈ s.data.toList, okB (c.toNat : Int) = true := by
    rw [← bt_all]
    have hb : ∀ d i, s.size - i ≤ d → badAt s d i = none → ∀ j, i ≤ j → j < s.size → okB (bt s (j : Int)) = true := by
      intro d
      induction d with
      | zero => intro i hd _ j h1 h2; omega
      | succ d ih =>
        intro i hd h j h1 h2
        unfold badAt at h
        rw [if_pos (show i < s.size by omega)] at h
        by_cases c2 : okB (bt s (i : Int)) = true
        · rw [if_pos c2] at h
          by_cases e : j = i
          · subst e; exact c2
          · exact ih (i + 1) (by omega) h j (by omega) h2
        · rw [if_neg c2] at h; cases h
    exact fun i hi => hb s.size 0 (by omega) h i (Nat.zero_le _) hi
/-- How far a condition holds, from n on, at most d times. -/
def runF (f : Nat → Bool) : Nat → Nat → Nat
  | 0, n => n
  | d + 1, n => if f n = true then runF f d (n + 1) else n
theorem runF_le (f : Nat → Bool) : ∀ (d n : Nat), n ≤ runF f d n ∧ runF f d n ≤ n + d
  | 0, n => ⟨Nat.le_refl _, Nat.le_refl _⟩
  | d + 1, n => by
    unfold runF
    have := runF_le f d (n + 1)
    split <;> omega
theorem runF_end (f : Nat → Bool) : ∀ (d n : Nat), runF f d n < n + d → f (runF f d n) = false
  | 0, n, h => by unfold runF at h; omega
  | d + 1, n, h => by
    unfold runF at h ⊢
    by_cases c : f n = true
    · rw [if_pos c] at h ⊢; exact runF_end f d (n + 1) (by omega)
    · rw [if_neg c]; exact Bool.eq_false_iff.2 c
theorem Scan.inv {s : ByteArray} {i j : Nat} {l : List Tk} (h : Scan s i l j) (hij : i < j) : (spB (bt s (i : Int)) = true ∧ Scan s (i + 1) l j) ∨ (spB (bt s (i : Int)) = false ∧ bt s (i : Int) = 126 ∧ Scan s (i + noteL s i) l j) ∨
    (∃ k t r, l = ⟨k, t, (i : Int)⟩ :: r ∧ spB (bt s (i : Int)) = false ∧ bt s (i : Int) ≠ 126 ∧ firstM kwM (s.extract i s.size) = ((k, t), 0) ∧ Scan s (i + t.size) r j) := by
  cases h with
  | done => omega
  | blank h1 h2 h3 => exact .inl ⟨h2, h3⟩
  | note h1 h2 h3 => exact .inr (.inl ⟨by rw [h2]; rfl, h2, h3⟩)
  | tok h1 h2 h3 h4 h5 => exact .inr (.inr ⟨_, _, _, rfl, h2, h3, h4, h5⟩)
/-- A word by itself is all of its text. -/
theorem tok_wl {t : ByteArray} {k : Int} (h : firstM kwM t = ((k, t), 0)) (c : wlen t ≠ 0) : wlen t = t.size := by
  have htz : t.extract 0 (wlen t) = t := by
    unfold firstM at h
    rw [if_neg c] at h
    by_cases c2 : dgB (bt t 0) = true
    · rw [if_pos c2] at h; exact congrArg (fun y => y.1.2) h
    · rw [if_neg c2] at h
      by_cases c3 : smB (bt t 0) = false
      · rw [if_pos c3] at h; cases h
      · rw [if_neg c3] at h
        by_cases c4 : kwM (t.extract 0 (wlen t)) = true
        · rw [if_pos c4] at h; exact congrArg (fun y => y.1.2) h
        · rw [if_neg c4] at h
          by_cases c5 : 12 < (t.extract 0 (wlen t)).size
          · rw [if_pos c5] at h; cases h
          · rw [if_neg c5] at h; exact congrArg (fun y => y.1.2) h
  have := congrArg ByteArray.size htz
  have := wlen_le t
  rw [size_ex] at *; omega
/-- The signs. -/
theorem tok_sign {t : ByteArray} {k : Int} (h : firstM kwM t = ((k, t), 0)) (c : wlen t = 0) : t = ba [58, 61] ∨ t = ba [45, 62] ∨ (t.size = 1 ∧ sgB (bt t 0) = true) := by
  obtain ⟨-, -, -, h0, -⟩ := firstM_self kwM h
  have hs : signM t = some t := by
    unfold firstM at h
    rw [if_pos c] at h
    cases hs : signM t with
    | none => rw [hs] at h; cases h
    | some z => rw [hs] at h; exact congrArg some (congrArg (fun y => y.1.2) h)
  unfold signM at hs
  by_cases c1 : 2 ≤ t.size ∧ bt t 0 = 58 ∧ bt t 1 = 61
  · rw [if_pos c1] at hs; exact .inl (Option.some.inj hs).symm
  · rw [if_neg c1] at hs
    by_cases c2 : 2 ≤ t.size ∧ bt t 0 = 45 ∧ bt t 1 = 62
    · rw [if_pos c2] at hs; exact .inr (.inl (Option.some.inj hs).symm)
    · rw [if_neg c2] at hs
      by_cases c3 : 0 < t.size ∧ sgB (bt t 0) = true
      · rw [if_pos c3] at hs
        refine .inr (.inr ⟨?_, c3.2⟩)
        have := congrArg ByteArray.size (Option.some.inj hs)
        rw [size_ex] at this; omega
      · rw [if_neg c3] at hs; cases hs
theorem tok_lf {t : ByteArray} {k : Int} (h : firstM kwM t = ((k, t), 0)) (j : Nat) (hj : j < t.size) : bt t (j : Int) ≠ 10 := by
  by_cases c : wlen t = 0
  · rcases tok_sign h c with rfl | rfl | ⟨h1, h2⟩
    · have : j = 0 ∨ j = 1 := by have : (ba [58, 61]).size = 2 := rfl
                                 omega
      rcases this with rfl | rfl <;> decide
    · have : j = 0 ∨ j = 1 := by have : (ba [45, 62]).size = 2 := rfl
                                 omega
      rcases this with rfl | rfl <;> decide
    · obtain rfl : j = 0 := by omega
      intro e
      rw [show ((0 : Nat) : Int) = 0 from rfl] at e
      rw [e] at h2
      exact absurd h2 (by decide)
  · intro e
    have := wlen_in t j (by rw [tok_wl h c]; exact hj)
    rw [e] at this
    exact absurd this (by decide)
theorem filt_nil {s : ByteArray} {i j : Nat} {l : List Tk} (h : Scan s i l j) {p : Nat} (hp : p ≤ i) : l.filter (fun x => decide (x.f2 + (x.f1.size : Int) < (p : Int))) = [] := by
  refine List.filter_eq_nil_iff.2 fun x hx => ?_
  obtain ⟨n, h1, -, h3, -⟩ := h.mem x hx
  rw [h3]
  simp only [decide_eq_true_eq]
  omega
/-- What two texts that begin alike have in common. -/
theorem scan_pre {s t : ByteArray} {p : Nat} (hp : p ≤ s.size) (hq : p ≤ t.size) (hb : ∀ k, k < p → bt t (k : Int) = bt s (k : Int)) {i j : Nat} {l : List Tk} (h : Scan s i l j) :
    ∀ l', Scan t i l' t.size → ∀ k, k < (l.filter (fun x => decide (x.f2 + (x.f1.size : Int) < (p : Int)))).length → k < l.length ∧ k < l'.length ∧ l[k]? = l'[k]? := by
  induction h with
  | done i => intro l' h' k hk; exact absurd hk (Nat.not_lt_zero _)
  | @blank i j l h1 h2 h3 ih =>
    intro l' h' k hk
    by_cases c : i < p
    · have e := hb i c
      rcases h'.inv (by omega) with ⟨-, g⟩ | ⟨g, -⟩ | ⟨_, _, _, -, g, -⟩
      · exact ih l' g k hk
      · rw [e, h2] at g; cases g
      · rw [e, h2] at g; cases g
    · rw [filt_nil h3 (by omega)] at hk; exact absurd hk (Nat.not_lt_zero _)
  | @note i j l h1 h2 h3 ih =>
    intro l' h' k hk
    by_cases c : i + noteL s i < p
    · have e := hb i (by omega)
      obtain ⟨n1, n2⟩ := noteL_in s i
      have hN : noteL t i = noteL s i := by
        refine noteL_uniq t i _ (fun k hk => ⟨by omega, by rw [hb _ (by omega)]; exact (n1 k hk).2⟩) ?_
        rcases n2 with n2 | n2
        · omega
        · exact .inr (by rw [hb _ c]; exact n2)
      rcases h'.inv (by omega) with ⟨g, -⟩ | ⟨-, -, g⟩ | ⟨_, _, _, -, -, g, -⟩
      · rw [e, h2] at g; exact absurd g (by decide)
      · rw [hN] at g; exact ih l' g k hk
      · rw [e] at g; exact absurd h2 g
    · rw [filt_nil h3 (by omega)] at hk; exact absurd hk (Nat.not_lt_zero _)
  | @tok i j l kd z h1 h2 h3 h4 h5 ih =>
    intro l' h' k hk
    have hz := tok_size h4
    by_cases c : i + z.size < p
    · obtain ⟨f1, f2, f3, f4, f5⟩ := firstM_self kwM h4
      have e := hb i (by omega)
      have b1 : begT (t.extract i t.size) z := ⟨by rw [size_ex]; omega, fun j hj => by rw [bt_ex t i t.size j (by omega), hb _ (by omega), ← bt_ex s i s.size j (by omega)]; exact f2.2 j hj⟩
      have hnx : nxB kd z (bt (t.extract i t.size) (z.size : Int)) = true := by rw [bt_ex t i t.size z.size (by omega), hb _ c, ← bt_ex s i s.size z.size (by omega)]; exact f3
      have hf := firstM_of kwM f1 b1 hnx
      rcases h'.inv (by omega) with ⟨g, -⟩ | ⟨-, g, -⟩ | ⟨k', z', r, rfl, -, -, g, g2⟩
      · rw [e, h2] at g; cases g
      · rw [e] at g; exact absurd g h3
      · rw [hf] at g
        obtain rfl : kd = k' := congrArg (fun y => y.1.1) g
        obtain rfl : z = z' := congrArg (fun y => y.1.2) g
        rw [List.filter_cons_of_pos (by simp only [decide_eq_true_eq]; omega), List.length_cons] at hk
        cases k with
        | zero => exact ⟨Nat.succ_pos _, Nat.succ_pos _, rfl⟩
        | succ k =>
          obtain ⟨a1, a2, a3⟩ := ih r g2 k (by omega)
          exact ⟨by rw [List.length_cons]; omega, by rw [List.length_cons]; omega, by rw [List.getElem?_cons_succ, List.getElem?_cons_succ]; exact a3⟩
    · rw [List.filter_cons_of_neg (by simp only [decide_eq_true_eq]; omega), filt_nil h5 (by omega)] at hk; exact absurd hk (Nat.not_lt_zero _)
/-- No token goes over a line feed. -/
theorem scan_cut {s : ByteArray} {L : Nat} (hL : L ≤ s.size) (h10 : L = s.size ∨ bt s (L : Int) = 10) {i j : Nat} {l : List Tk} (h : Scan s i l j) (hj : j = s.size) : i ≤ L → ∃ l1 l2, l = l1 ++ l2 ∧ (∀ x ∈ l1, x.f2 < (L : Int)) ∧ Scan s L l2 s.size := by
  induction h with
  | done i =>
    intro hi
    obtain rfl : L = s.size := by omega
    exact ⟨[], [], rfl, fun x hx => (by cases hx), .done _⟩
  | @blank i j l h1 h2 h3 ih =>
    intro hi
    subst hj
    by_cases e : i = L
    · subst e; exact ⟨[], l, rfl, fun x hx => (by cases hx), .blank h1 h2 h3⟩
    · exact ih rfl (by omega)
  | @note i j l h1 h2 h3 ih =>
    intro hi
    subst hj
    by_cases e : i = L
    · subst e; exact ⟨[], l, rfl, fun x hx => (by cases hx), .note h1 h2 h3⟩
    · refine ih rfl ?_
      by_cases c : i + noteL s i ≤ L
      · exact c
      · have := (noteL_in s i).1 (L - i) (by omega)
        rw [show i + (L - i) = L by omega] at this
        rcases h10 with h | h
        · omega
        · exact absurd h this.2
  | @tok i j l kd z h1 h2 h3 h4 h5 ih =>
    intro hi
    subst hj
    by_cases e : i = L
    · subst e; exact ⟨[], _, rfl, fun x hx => (by cases hx), .tok h1 h2 h3 h4 h5⟩
    · have hz := tok_size h4
      obtain ⟨f1, f2, -, -, -⟩ := firstM_self kwM h4
      have c : i + z.size ≤ L := by
        by_cases c : i + z.size ≤ L
        · exact c
        · have g := tok_lf f1 (L - i) (by omega)
          rw [← f2.2 (L - i) (by omega), bt_ex s i s.size (L - i) (by omega), show i + (L - i) = L by omega] at g
          rcases h10 with h | h
          · omega
          · exact absurd h g
      obtain ⟨l1, l2, e1, e2, e3⟩ := ih rfl c
      refine ⟨⟨kd, z, (i : Int)⟩ :: l1, l2, by rw [e1]; rfl, fun x hx => ?_, e3⟩
      rcases List.mem_cons.1 hx with rfl | hx
      · simp only; omega
      · exact e2 x hx
theorem Lr_drop (s : ByteArray) (i n : Nat) : Lr s (i + n) = (Lr s i).drop n := by unfold Lr; rw [List.drop_drop]
def shT (d : Int) (x : Tk) : Tk := ⟨x.f0, x.f1, x.f2 + d⟩
theorem scan_shift {s t : ByteArray} {i j : Nat} {l : List Tk} (h : Scan s i l j) (hj : j = s.size) : ∀ m, i ≤ s.size → m ≤ t.size → Lr t m = Lr s i → Scan t m (l.map (shT ((m : Int) - (i : Int)))) t.size := by
  induction h with
  | done i =>
    intro m hi hm hL
    have h1 := Lr_len t m
    have h2 := Lr_len s i
    rw [hL, h2] at h1
    obtain rfl : m = t.size := by omega
    exact .done _
  | @blank i j l h1 h2 h3 ih =>
    intro m hi hm hL
    have g1 := Lr_len t m
    have g2 := Lr_len s i
    rw [hL, g2] at g1
    have e : bt t (m : Int) = bt s (i : Int) := by rw [bt_head, hL, ← bt_head]
    have r := ih hj (m + 1) (by omega) (by omega) (by rw [Lr_drop, Lr_drop, hL])
    rw [nat_off] at r
    exact .blank (by omega) (by rw [e]; exact h2) r
  | @note i j l h1 h2 h3 ih =>
    intro m hi hm hL
    have g1 := Lr_len t m
    have g2 := Lr_len s i
    rw [hL, g2] at g1
    have e : bt t (m : Int) = bt s (i : Int) := by rw [bt_head, hL, ← bt_head]
    have hle := noteL_le s i hi
    obtain ⟨n1, n2⟩ := noteL_in s i
    have hN : noteL t m = noteL s i := by
      refine noteL_uniq t m _ (fun k hk => ⟨by have := (n1 k hk).1; omega, by rw [bt_Lr, hL, ← bt_Lr]; exact (n1 k hk).2⟩) ?_
      rcases n2 with n2 | n2
      · exact .inl (by omega)
      · exact .inr (by rw [bt_Lr, hL, ← bt_Lr]; exact n2)
    have r := ih hj (m + noteL s i) hle (by omega) (by rw [Lr_drop, Lr_drop, hL])
    rw [nat_off] at r
    exact .note (by omega) (by rw [e]; exact h2) (by rw [hN]; exact r)
  | @tok i j l kd z h1 h2 h3 h4 h5 ih =>
    intro m hi hm hL
    have g1 := Lr_len t m
    have g2 := Lr_len s i
    rw [hL, g2] at g1
    have hz := tok_size h4
    have e : bt t (m : Int) = bt s (i : Int) := by rw [bt_head, hL, ← bt_head]
    have ee : t.extract m t.size = s.extract i s.size := ba_ext (by rw [Lr_ex, Lr_ex, hL])
    have r := ih hj (m + z.size) hz.2 (by omega) (by rw [Lr_drop, Lr_drop, hL])
    rw [nat_off] at r
    have := Scan.tok (s := t) (i := m) (by omega) (by rw [e]; exact h2) (by rw [e]; exact h3) (by rw [ee]; exact h4) r
    rw [List.map_cons, shT]
    simp only
    rw [show (i : Int) + ((m : Int) - (i : Int)) = (m : Int) by omega]
    exact this
theorem scan_uniq {s : ByteArray} {i j : Nat} {l : List Tk} (h : Scan s i l j) (hj : j = s.size) : ∀ l', Scan s i l' s.size → l = l' := by
  induction h with
  | done i => intro l' h'; exact (h'.end_nil (by omega)).symm
  | @blank i j l h1 h2 h3 ih =>
    intro l' h'
    rcases h'.inv h1 with ⟨-, g⟩ | ⟨g, -⟩ | ⟨_, _, _, -, g, -⟩
    · exact ih hj l' g
    · rw [h2] at g; cases g
    · rw [h2] at g; cases g
  | @note i j l h1 h2 h3 ih =>
    intro l' h'
    rcases h'.inv h1 with ⟨g, -⟩ | ⟨-, -, g⟩ | ⟨_, _, _, -, -, g, -⟩
    · rw [h2] at g; exact absurd g (by decide)
    · exact ih hj l' g
    · exact absurd h2 g
  | @tok i j l kd z h1 h2 h3 h4 h5 ih =>
    intro l' h'
    rcases h'.inv h1 with ⟨g, -⟩ | ⟨-, g, -⟩ | ⟨k', z', r, rfl, -, -, g, g2⟩
    · rw [h2] at g; cases g
    · exact absurd g h3
    · rw [h4] at g
      obtain rfl : kd = k' := congrArg (fun y => y.1.1) g
      obtain rfl : z = z' := congrArg (fun y => y.1.2) g
      rw [ih hj r g2]
/-- Is a token another one, at a place that is so much greater? -/
def eqT (d : Int) (x y : Tk) : Bool := decide (x.f0 = y.f0) && (decide (x.f1 = y.f1) && decide (x.f2 + d = y.f2))
theorem eqT_self (d : Int) (x : Tk) : eqT d x (shT d x) = true := by
  unfold eqT shT
  rw [decide_eq_true rfl, decide_eq_true rfl, decide_eq_true rfl]; rfl
theorem eqT_zero (x : Tk) : eqT 0 x x = true := by
  unfold eqT
  rw [decide_eq_true rfl, decide_eq_true rfl, decide_eq_true (Int.add_zero _)]; rfl
def hdK (a b : List Tk) : Nat := runF (fun j => eqT 0 (rd_T58 a (j : Int)) (rd_T58 b (j : Int))) (min a.length b.length) 0
def tlK (a b : List Tk) (h : Nat) (d : Int) : Nat := runF (fun j => eqT d (rd_T58 a ((a.length - 1 - j : Nat) : Int)) (rd_T58 b ((b.length - 1 - j : Nat) : Int))) (min (a.length - h) (b.length - h)) 0
theorem rdT_of {l : List Tk} {k : Nat} {x : Tk} (h : l[k]? = some x) : rd_T58 l (k : Int) = x := by
  unfold rd_T58
  simp [List.getD, h]
theorem hdK_le (a b : List Tk) : hdK a b ≤ a.length ∧ hdK a b ≤ b.length := by
  have := (runF_le (fun j => eqT 0 (rd_T58 a (j : Int)) (rd_T58 b (j : Int))) (min a.length b.length) 0).2
  unfold hdK; omega
theorem tlK_le (a b : List Tk) (h : Nat) (d : Int) : tlK a b h d ≤ a.length - h ∧ tlK a b h d ≤ b.length - h := by
  have := (runF_le (fun j => eqT d (rd_T58 a ((a.length - 1 - j : Nat) : Int)) (rd_T58 b ((b.length - 1 - j : Nat) : Int))) (min (a.length - h) (b.length - h)) 0).2
  unfold tlK; omega
theorem far_head {s t : ByteArray} {p : Nat} (hp : p ≤ s.size) (hq : p ≤ t.size) (hb : ∀ k, k < p → bt t (k : Int) = bt s (k : Int)) {a b : List Tk} (ha : Scan s 0 a s.size) (hb2 : Scan t 0 b t.size) :
    (a.filter (fun x => decide (x.f2 + (x.f1.size : Int) < (p : Int)))).length ≤ hdK a b := by
  by_cases c : (a.filter (fun x => decide (x.f2 + (x.f1.size : Int) < (p : Int)))).length ≤ hdK a b
  · exact c
  · obtain ⟨h1, h2, h3⟩ := scan_pre hp hq hb ha b hb2 (hdK a b) (by omega)
    have h4 := runF_end (fun j => eqT 0 (rd_T58 a (j : Int)) (rd_T58 b (j : Int))) (min a.length b.length) 0 (by show hdK a b < _; omega)
    have e1 := List.getElem?_eq_getElem h1
    rw [e1] at h3
    have h5 : eqT 0 (rd_T58 a ((hdK a b : Nat) : Int)) (rd_T58 b ((hdK a b : Nat) : Int)) = false := h4
    rw [rdT_of e1, rdT_of h3.symm, eqT_zero] at h5
    cases h5
theorem far_tail {s t : ByteArray} {L m : Nat} (hL : L ≤ s.size) (hm : m ≤ t.size) (h10 : L = s.size ∨ bt s (L : Int) = 10) (hLr : Lr t m = Lr s L) {a b : List Tk} (ha : Scan s 0 a s.size) (hb : Scan t 0 b t.size) (h : Nat) (d : Int) (hd : d = (m : Int) - (L : Int)) :
    min (a.filter (fun x => decide ((L : Int) < x.f2))).length (min (a.length - h) (b.length - h)) ≤ tlK a b h d := by
  have g1 := Lr_len t m
  have g2 := Lr_len s L
  rw [hLr, g2] at g1
  have h10t : m = t.size ∨ bt t (m : Int) = 10 := by
    rcases h10 with e | e
    · exact .inl (by omega)
    · exact .inr (by rw [bt_head, hLr, ← bt_head]; exact e)
  obtain ⟨a1, a2, rfl, ha1, ha2⟩ := scan_cut hL h10 ha rfl (Nat.zero_le _)
  obtain ⟨b1, b2, rfl, hb1, hb2⟩ := scan_cut hm h10t hb rfl (Nat.zero_le _)
  obtain rfl := scan_uniq (scan_shift ha2 rfl m hL hm hLr) rfl b2 hb2
  rw [← hd] at *
  have hf : ((a1 ++ a2).filter (fun x => decide ((L : Int) < x.f2))).length ≤ a2.length := by
    rw [List.filter_append, List.filter_eq_nil_iff.2 (fun x hx => by have := ha1 x hx; simp only [decide_eq_true_eq]; omega), List.nil_append]
    exact List.length_filter_le _ _
  generalize ((a1 ++ a2).filter (fun x => decide ((L : Int) < x.f2))).length = n at *
  generalize hB : a2.map (shT d) = b2 at *
  have hlb : b2.length = a2.length := by rw [← hB, List.length_map]
  by_cases c : min n (min ((a1 ++ a2).length - h) ((b1 ++ b2).length - h)) ≤ tlK (a1 ++ a2) (b1 ++ b2) h d
  · exact c
  · have h4 := runF_end (fun j => eqT d (rd_T58 (a1 ++ a2) (((a1 ++ a2).length - 1 - j : Nat) : Int)) (rd_T58 (b1 ++ b2) (((b1 ++ b2).length - 1 - j : Nat) : Int))) (min ((a1 ++ a2).length - h) ((b1 ++ b2).length - h)) 0 (by show tlK (a1 ++ a2) (b1 ++ b2) h d < _; omega)
    have h5 : eqT d (rd_T58 (a1 ++ a2) (((a1 ++ a2).length - 1 - tlK (a1 ++ a2) (b1 ++ b2) h d : Nat) : Int)) (rd_T58 (b1 ++ b2) (((b1 ++ b2).length - 1 - tlK (a1 ++ a2) (b1 ++ b2) h d : Nat) : Int)) = false := h4
    generalize tlK (a1 ++ a2) (b1 ++ b2) h d = q at *
    have hq : q < a2.length := by omega
    rw [List.length_append, List.length_append, hlb, show a1.length + a2.length - 1 - q = a1.length + (a2.length - 1 - q) by omega, show b1.length + a2.length - 1 - q = b1.length + (a2.length - 1 - q) by omega] at h5
    obtain ⟨x, hx⟩ : ∃ x, a2[a2.length - 1 - q]? = some x := ⟨_, List.getElem?_eq_getElem (by omega)⟩
    have e1 : (a1 ++ a2)[a1.length + (a2.length - 1 - q)]? = some x := by
      rw [List.getElem?_append_right (by omega), Nat.add_sub_cancel_left]; exact hx
    have e2 : (b1 ++ b2)[b1.length + (a2.length - 1 - q)]? = some (shT d x) := by
      rw [List.getElem?_append_right (by omega), Nat.add_sub_cancel_left, ← hB, List.getElem?_map, hx]; rfl
    rw [rdT_of e1, rdT_of e2, eqT_self] at h5
    cases h5
/-- THE LAW. -/
theorem far (s : ByteArray) (x : Sp) (h0 : splE s [x] = 0) (h1 : (toksM kwM s).2.2 = 0) (h2 : (toksM kwM (splM s [x])).2.2 = 0) (a b : List Tk) (ha : (toksM kwM s).1 = a) (hb : (toksM kwM (splM s [x])).1 = b) :
    0 ≤ x.f1 ∧ x.f1 ≤ (s.size : Int) ∧ 0 ≤ x.f0 ∧
    (a.filter (fun y => decide (y.f2 + (y.f1.size : Int) < x.f0))).length ≤ hdK a b ∧
    (∀ L : Nat, x.f1 ≤ (L : Int) → L ≤ s.size → (L = s.size ∨ bt s (L : Int) = 10) → min (a.filter (fun y => decide ((L : Int) < y.f2))).length (min (a.length - hdK a b) (b.length - hdK a b)) ≤ tlK a b (hdK a b) (gr x)) ∧
    hdK a b + tlK a b (hdK a b) (gr x) ≤ a.length ∧ hdK a b + tlK a b (hdK a b) (gr x) ≤ b.length := by
  obtain ⟨-, -, ⟨o1, o2, o3, o4, o5⟩, -⟩ := splE_ord h0
  obtain ⟨-, sa, -⟩ := (toks_iff s a).1 ⟨ha, h1⟩
  obtain ⟨-, sb, -⟩ := (toks_iff (splM s [x]) b).1 ⟨hb, h2⟩
  have hk := hdK_le a b
  have ht := tlK_le a b (hdK a b) (gr x)
  have hL0 : Lr (splM s [x]) 0 = (s.extract 0 x.f0.toNat).data.toList ++ (x.f2.data.toList ++ Lr s x.f1.toNat) := by
    unfold Lr splM
    rw [ba_data, List.drop_zero]
    unfold splB splB
    rw [Lr_ex]; rfl
  have hz : (s.extract 0 x.f0.toNat).size = x.f0.toNat := by rw [size_ex]; omega
  obtain ⟨k1, k2, k3⟩ := Lr_take (Nat.zero_le _) hL0
  rw [hz, Nat.zero_add] at k1 k2 k3
  obtain ⟨k4, k5, k6⟩ := Lr_take k1 k3
  have hbt : ∀ k, k < x.f0.toNat → bt (splM s [x]) (k : Int) = bt s (k : Int) := fun k hk => by
    have e1 := bt_ex (splM s [x]) 0 x.f0.toNat k (by omega)
    have e2 := bt_ex s 0 x.f0.toNat k (by omega)
    rw [k2, Nat.zero_add] at e1
    rw [Nat.zero_add] at e2
    rw [← e1, e2]
  refine ⟨by omega, o4, by omega, ?_, fun L hL1 hL2 hL3 => ?_, by omega, by omega⟩
  · have := far_head (p := x.f0.toNat) (by omega) k1 hbt sa sb
    rw [show ((x.f0.toNat : Nat) : Int) = x.f0 by omega] at this
    exact this
  · refine far_tail (m := x.f0.toNat + x.f2.size + (L - x.f1.toNat)) hL2 ?_ hL3 ?_ sa sb _ _ ?_
    · have g1 := Lr_len (splM s [x]) (x.f0.toNat + x.f2.size)
      rw [k6, Lr_len] at g1
      omega
    · rw [Lr_drop, k6, ← Lr_drop, show x.f1.toNat + (L - x.f1.toNat) = L by omega]
    · rw [gr_eq]; omega
end Go.Proofs.YtebidpcmcekbgaaDoor.P
namespace Go.Proofs.YtebidpcmcekbgaaDoor.P
open Go.RowKit Go.Shelf Go.Maps Go.Proofs.YtebidpcmcekbgaaDoorW.PrintWords Go.Proofs.YtebidpcmcekbgaaDoorW.PrintLast Go.Proofs.YtebidpcmcekbgaaDoorW.PrintMore
set_option linter.unusedVariables false
set_option linter.unusedSimpArgs false
/-- A text's bytes as numbers. -/
def bl (s : ByteArray) : List Int := s.data.toList.map fun c => (c.toNat : Int)
end Go.Proofs.YtebidpcmcekbgaaDoor.P
namespace Go.Proofs.YtebidpcmcekbgaaDoor.P
open Go Go.RowKit Go.Shelf Go.Maps Go.ChangeShapes Go.WideShapes Go.Proofs.YtebidpcmcekbgaaDoorW.PrintWords Go.Proofs.YtebidpcmcekbgaaDoorW.PrintLast Go.Proofs.YtebidpcmcekbgaaDoorW.PrintMore
set_option linter.unusedVariables false
set_option linter.unusedSimpArgs false
set_option maxRecDepth 100000
section
variable {H : Type} {enc : TypeId × Value → H} {W : World} {base : Nat} {sp : Nat → Bool} {held : Bool} {fuel : Nat} {cs : List Value} {x : DataW H × List MemPlace}
theorem cells_i : Tryd.prog.cellsOf 3 = 1 := by kernel_rfl
theorem opens_int {r : Reach} {b0 : Nat} {v : Value} {d : DataW H} {p : List MemPlace} (hv : Value.okWide Tryd.prog W r b0 3 v) (h : DataW.Trod enc Tryd.prog W base sp held 3 v d p) :
    ∃ i : Int, v = .int .i64 i := by
  obtain ⟨fuel, hf⟩ := h
  obtain ⟨i, e, -, -⟩ := DataW.trod_int Tryd.underlying3 hf
  obtain ⟨n, rfl⟩ := okWide_int Tryd.underlying3 hv
  exact ⟨n, rfl⟩
end
end Go.Proofs.YtebidpcmcekbgaaDoor.P
namespace Go.Proofs.YtebidpcmcekbgaaDoor.P
open Go.RowKit Go.Shelf Go.Maps Go.Proofs.YtebidpcmcekbgaaDoorW.PrintWords Go.Proofs.YtebidpcmcekbgaaDoorW.PrintLast Go.Proofs.YtebidpcmcekbgaaDoorW.PrintMore
set_option linter.unusedVariables false
set_option linter.unusedSimpArgs false
end Go.Proofs.YtebidpcmcekbgaaDoor.P
namespace Go.Proofs.YtebidpcmcekbgaaDoor.P
open Go.RowKit Go.Proofs.YtebidpcmcekbgaaDoorW.PrintWords Go.Proofs.YtebidpcmcekbgaaDoorW.PrintLast Go.Proofs.YtebidpcmcekbgaaDoorW.PrintMore
attribute [local go_sem] min2_int min_two -- for this text's walks alone
set_option linter.unusedVariables false
set_option linter.unusedSimpArgs false

/-! ### ripostelaw01_short: function 29 -/

-- NOT PRINTED: function 59 (lex_tokens)

/-! ### lex_isApart: function 60 -/

-- NOT PRINTED: function 61 (strings_Builder_WriteByte)

-- NOT PRINTED: function 63 (strings_Builder_Len)

-- NOT PRINTED: function 30 (lex_Tight)

/-! ### riposteref01_tokensError: function 65 -/

/-! ### riposteref01_apart: function 66 -/

end Go.Proofs.YtebidpcmcekbgaaDoor.P
namespace Go.Proofs.YtebidpcmcekbgaaDoor.P
open Go.RowKit Go.Shelf Go.Maps Go.Proofs.YtebidpcmcekbgaaDoorW.PrintWords Go.Proofs.YtebidpcmcekbgaaDoorW.PrintLast Go.Proofs.YtebidpcmcekbgaaDoorW.PrintMore
set_option linter.unusedVariables false
set_option linter.unusedSimpArgs false
end Go.Proofs.YtebidpcmcekbgaaDoor.P
namespace Go.Proofs.YtebidpcmcekbgaaDoor.P
open Go.RowKit Go.Proofs.YtebidpcmcekbgaaDoorW.PrintWords
set_option linter.unusedVariables false
set_option linter.unusedSimpArgs false
end Go.Proofs.YtebidpcmcekbgaaDoor.P
namespace Go.Proofs.YtebidpcmcekbgaaDoor.P
open Go.RowKit Go.Proofs.YtebidpcmcekbgaaDoorW.PrintWords Go.Proofs.YtebidpcmcekbgaaDoorW.PrintLast Go.Proofs.YtebidpcmcekbgaaDoorW.PrintMore
attribute [local go_sem] min2_int min_two -- for this text's walks alone
set_option linter.unusedVariables false
set_option linter.unusedSimpArgs false

/-! ### riposteref01_Tight: function 31 -/

-- NOT PRINTED: function 32 (lex_Pairs)

/-! ### riposteref01_closing: function 67 -/

end Go.Proofs.YtebidpcmcekbgaaDoor.P
namespace Go.Proofs.YtebidpcmcekbgaaDoor.P
open Go.RowKit Go.Proofs.YtebidpcmcekbgaaDoorW.PrintWords
set_option linter.unusedVariables false
set_option linter.unusedSimpArgs false
end Go.Proofs.YtebidpcmcekbgaaDoor.P
namespace Go.Proofs.YtebidpcmcekbgaaDoor.P
open Go.RowKit Go.Proofs.YtebidpcmcekbgaaDoorW.PrintWords Go.Proofs.YtebidpcmcekbgaaDoorW.PrintLast Go.Proofs.YtebidpcmcekbgaaDoorW.PrintMore
attribute [local go_sem] min2_int min_two -- for this text's walks alone
set_option linter.unusedVariables false
set_option linter.unusedSimpArgs false

/-! ### riposteref01_Pairs: function 33 -/

end Go.Proofs.YtebidpcmcekbgaaDoor.P
namespace Go.Proofs.YtebidpcmcekbgaaDoor.P
open Go.RowKit Go.Proofs.YtebidpcmcekbgaaDoorW.PrintWords
set_option linter.unusedVariables false
set_option linter.unusedSimpArgs false
end Go.Proofs.YtebidpcmcekbgaaDoor.P
namespace Go.Proofs.YtebidpcmcekbgaaDoor.P
open Go.RowKit Go.Proofs.YtebidpcmcekbgaaDoorW.PrintWords
set_option linter.unusedVariables false
end Go.Proofs.YtebidpcmcekbgaaDoor.P
namespace Go.Proofs.YtebidpcmcekbgaaDoor.P
open Go.RowKit Go.Proofs.YtebidpcmcekbgaaDoorW.PrintWords Go.Proofs.YtebidpcmcekbgaaDoorW.PrintLast Go.Proofs.YtebidpcmcekbgaaDoorW.PrintMore
attribute [local go_sem] min2_int min_two -- for this text's walks alone
set_option linter.unusedVariables false
set_option linter.unusedSimpArgs false

/-! ### lex_Pairs: function 32 -/

end Go.Proofs.YtebidpcmcekbgaaDoor.P
namespace Go.Proofs.YtebidpcmcekbgaaDoor.P
open Go.RowKit Go.Proofs.YtebidpcmcekbgaaDoorW.PrintWords
set_option linter.unusedVariables false
set_option linter.unusedSimpArgs false
end Go.Proofs.YtebidpcmcekbgaaDoor.P
namespace Go.Proofs.YtebidpcmcekbgaaDoor.P
open Go.RowKit Go.Proofs.YtebidpcmcekbgaaDoorW.PrintWords
set_option linter.unusedVariables false
def gSpot.f (k : Nat) (s : ByteArray) (a : Int) : Option (Int × Int × Int) := if s.size ≤ 140737488351232 then some (spotE s a) else none
theorem of_guard {α : Type} {c : Prop} [Decidable c] {x y : α} (h : (if c then some x else none) = some y) : c ∧ x = y := by
  by_cases d : c
  · rw [if_pos d] at h; exact ⟨d, Option.some.inj h⟩
  · rw [if_neg d] at h; cases h
theorem gSpot.calls (k : Nat) (s : ByteArray) (a r1 r2 r3 : Int) (w : World) (h : gSpot.f k s a = some (r1, r2, r3)) :
    Calls Tryd.prog 35 #[.string s, .int .i64 a] w fun e w' => e = .returned (.tuple #[.agg #[.int .i64 r1, .int .i64 r2], .int .i64 r3]) ∧ Below w.heap.size w w' := by
  obtain ⟨hs, e⟩ := of_guard h
  have := Spot_any s a w hs
  rw [e] at this
  exact this
def gAt.f (k : Nat) (s : ByteArray) (p0 p1 : Int) : Option (Int × Int) := if s.size ≤ 140737488351232 then some (atE s (p0, p1)) else none
theorem gAt.calls (k : Nat) (s : ByteArray) (p0 p1 r1 r2 : Int) (w : World) (h : gAt.f k s p0 p1 = some (r1, r2)) :
    Calls Tryd.prog 37 #[.string s, .agg #[.int .i64 p0, .int .i64 p1]] w fun e w' => e = .returned (.tuple #[.int .i64 r1, .int .i64 r2]) ∧ Below w.heap.size w w' := by
  obtain ⟨hs, e⟩ := of_guard h
  have := At_any s p0 p1 w hs
  rw [e] at this
  exact this
def gAwake.f (k : Nat) : Option Bool := some true
theorem gAwake.calls (k : Nat) (r : Bool) (w : World) (h : gAwake.f k = some r) (hg : Gl w) :
    Calls Tryd.prog 11 #[] w fun e w' => e = .returned (.bool r) ∧ Below w.heap.size w w' := by
  obtain rfl : true = r := Option.some.inj h
  exact awake_any w hg
end Go.Proofs.YtebidpcmcekbgaaDoor.P
namespace Go.Proofs.YtebidpcmcekbgaaDoor.P
open Go.RowKit Go.Proofs.YtebidpcmcekbgaaDoorW.PrintWords Go.Proofs.YtebidpcmcekbgaaDoorW.PrintLast Go.Proofs.YtebidpcmcekbgaaDoorW.PrintMore
attribute [local go_sem] min2_int min_two -- for this text's walks alone
set_option linter.unusedVariables false
set_option linter.unusedSimpArgs false
attribute [local go_sem high] eqA52
/-! ### ripostelaw01_LexSpots: function 8 -/
mutual
def ripostelaw01_LexSpots.j0 : Nat → ByteArray → Int → Bool → Int → Int → Option (Bool)
  | 0, _, _, _, _, _ => none
  | k + 1, x0, x1, x25, x149000, x149001 => if x25 = true then ((gAwake.f k).bind fun t149 => (some t149)) else ((gSpot.f k x0 x1).bind fun bt150 => ((riposteref01_Spot.f k x0 x1).bind fun bt154 => (if bt150.2.2 = bt154.2.2 then (ripostelaw01_LexSpots.j1 k x0 (!(bt150.1 == bt154.1) || (!(bt150.2.1 == bt154.2.1))) x149000 x149001) else (ripostelaw01_LexSpots.j1 k x0 true x149000 x149001))))
def ripostelaw01_LexSpots.j1 : Nat → ByteArray → Bool → Int → Int → Option (Bool)
  | 0, _, _, _, _ => none
  | k + 1, x0, x46, x149000, x149001 => if x46 = true then (some false) else (if (x0.size : Int) > 600 then ((gAwake.f k).bind fun t158 => (some t158)) else ((gAt.f k x0 x149000 x149001).bind fun bt159 => ((riposteref01_At.f k x0 x149000 x149001).bind fun bt161 => (if bt159.2 = bt161.2 then (if bt159.1 = bt161.1 then ((gAwake.f k).bind fun t163 => (some t163)) else (some false)) else (some false)))))
end
def ripostelaw01_LexSpots.f (k : Nat) (a0 : ByteArray) (a1 : Int) (a2_0 : Int) (a2_1 : Int) : Option (Bool) := if (a0.size : Int) > 600 then (if (a0.size : Int) ≤ 2490 then (ripostelaw01_LexSpots.j0 k a0 a1 true a2_0 a2_1) else (ripostelaw01_LexSpots.j0 k a0 a1 (decide ((a0.size : Int) > 3000)) a2_0 a2_1)) else (ripostelaw01_LexSpots.j0 k a0 a1 (decide ((a0.size : Int) > 3000)) a2_0 a2_1)
set_option maxHeartbeats 8000000 in
set_option maxRecDepth 100000 in
theorem ripostelaw01_LexSpots.calls (k : Nat) (a0 : ByteArray) (a1 : Int) (a2_0 : Int) (a2_1 : Int) (r : Bool) (w : World) (hgT : Aside0 (Gl w)) (h : ripostelaw01_LexSpots.f k a0 a1 a2_0 a2_1 = some r) :
    Calls Tryd.prog 8 #[.string a0, .int .i64 a1, .agg #[.int .i64 a2_0, .int .i64 a2_1]] w fun e w' => e = .returned (.bool r) ∧ Below w.heap.size w w' := by
  have hu52 := Tryd.underlying52
  have HB := Aside0.mk (Below.refl w.heap.size w)
  have H : (if (a0.size : Int) > 600 then (if (a0.size : Int) ≤ 2490 then (ripostelaw01_LexSpots.j0 k a0 a1 true a2_0 a2_1) else (ripostelaw01_LexSpots.j0 k a0 a1 (decide ((a0.size : Int) > 3000)) a2_0 a2_1)) else (ripostelaw01_LexSpots.j0 k a0 a1 (decide ((a0.size : Int) > 3000)) a2_0 a2_1)) = some r := h
  clear h
  have HC4 := Aside0.mk H
  clear H
  go_enter Tryd.func8, Tryd.ntmps8
  go_upto_region 1 with (first | ((with_reducible refine gate_dst (N := 5) rfl ?_); (try (refine gate_guard (by rfl) ?_; dsimp only)); refine box_event ?hg (N := 5) ?hd (cs := #[.int .i64 a2_0, .int .i64 a2_1]) (t := 52) ?hr ?_; (case hd => rfl); (case hg => rfl); (case hr => first | (go_simp; done) | (go_simp; rfl)); intro gb148 hg w5 hbox hb; have n0_ := Aside0.mk (below_step (by repeat (first | (with_reducible first | exact HB.out | apply below_alloc | apply pw_below_drewN | apply below_drew1) | exact HB.out)) hb); have n1_ := Aside0.mk (hbox); have n2_ := Aside0.mk ((by rw [hg]; exact (below_size (by repeat (first | (with_reducible first | exact HB.out | apply below_alloc | apply pw_below_drewN | apply below_drew1) | exact HB.out))) : w.heap.size ≤ gb148)); have n3_ := Aside0.mk ((by rw [hg]; exact (below_size (by repeat (first | (with_reducible first | exact HB.out | apply below_alloc | apply pw_below_drewN | apply below_drew1) | exact HB.out))) : w.heap.size ≤ gb148)); clear HB; have HB := n0_; have BK148 := n1_; have GW148 := n2_; have GE148 := n3_; clear n0_ n1_ n2_ n3_; clear hb hbox hg))
  (try simp only [Act.put, List.setIfInBounds_toArray, List.set_cons_zero, List.set_cons_succ])
  go_cut [25] (fun v25 wc => ∃ (kq : Nat) (x25_3 : Bool), v25 = .bool x25_3 ∧ Aside0 (ripostelaw01_LexSpots.j0 kq a0 a1 x25_3 a2_0 a2_1 = some r) ∧ Aside0 (kq ≤ k) ∧ Aside0 (wc.heap[gb148]? = some (.cells #[.int .i64 a2_0, .int .i64 a2_1] 52 (0, 0))) ∧ Aside0 (Below w.heap.size w wc))
  case first =>
    have H := HC4.out
    clear HC4
    by_cases c6 : (a0.size : Int) > 600
    · rw [if_pos c6] at H
      have c6b0 : decide (600 < (a0.size : Int)) = true := decide_eq_true c6
      have c6b1 : decide (600 < a0.size) = true := decide_eq_true (by omega)
      clear c6
      (first | rw [c6b0] | (simp only [i64_w, i32_w]; rw [c6b0]) | skip)
      by_cases c7 : (a0.size : Int) ≤ 2490
      · rw [if_pos c7] at H
        have c7b0 : decide ((a0.size : Int) ≤ 2490) = true := decide_eq_true c7
        have c7b1 : decide (a0.size ≤ 2490) = true := decide_eq_true (by omega)
        clear c7
        have H' := Aside0.mk H
        clear H
        go_wp2
        go_meet
        case rel => exact ⟨_, (true), (by first | rfl | (simp; done) | (simp [*]; done)), H', ⟨by first | omega | exact Nat.le_refl _⟩, ⟨by (with_reducible repeat (first | refine blk_drewN ?_ _ | refine blk_drew ?_ | refine blk_alloc ?_ _)); exact BK148.out⟩, ⟨by repeat (first | (with_reducible first | exact HB.out | apply below_alloc | apply pw_below_drewN | apply below_drew1 | refine below_set ?_ GE148.out) | exact HB.out)⟩⟩
      · rw [if_neg c7] at H
        have c7b0 : decide ((a0.size : Int) ≤ 2490) = false := decide_eq_false c7
        have c7b1 : decide (a0.size ≤ 2490) = false := decide_eq_false (by omega)
        clear c7
        have H' := Aside0.mk H
        clear H
        go_wp2
        go_meet
        case rel => exact ⟨_, (decide ((a0.size : Int) > 3000)), (by first | rfl | (simp; done) | (simp [*]; done)), H', ⟨by first | omega | exact Nat.le_refl _⟩, ⟨by (with_reducible repeat (first | refine blk_drewN ?_ _ | refine blk_drew ?_ | refine blk_alloc ?_ _)); exact BK148.out⟩, ⟨by repeat (first | (with_reducible first | exact HB.out | apply below_alloc | apply pw_below_drewN | apply below_drew1 | refine below_set ?_ GE148.out) | exact HB.out)⟩⟩
    · rw [if_neg c6] at H
      have c6b0 : decide (600 < (a0.size : Int)) = false := decide_eq_false c6
      have c6b1 : decide (600 < a0.size) = false := decide_eq_false (by omega)
      clear c6
      (first | rw [c6b0] | (simp only [i64_w, i32_w]; rw [c6b0]) | skip)
      have H' := Aside0.mk H
      clear H
      go_wp2
      go_meet
      case rel => exact ⟨_, (decide ((a0.size : Int) > 3000)), (by first | rfl | (simp; done) | (simp [*]; done)), H', ⟨by first | omega | exact Nat.le_refl _⟩, ⟨by (with_reducible repeat (first | refine blk_drewN ?_ _ | refine blk_drew ?_ | refine blk_alloc ?_ _)); exact BK148.out⟩, ⟨by repeat (first | (with_reducible first | exact HB.out | apply below_alloc | apply pw_below_drewN | apply below_drew1 | refine below_set ?_ GE148.out) | exact HB.out)⟩⟩
  case rest =>
    clear HC4
    try clear p2
    try clear c6
    try clear c6b0
    try clear c6b1
    try clear c7
    try clear c7b0
    try clear c7b1
    obtain ⟨kq, x25_3, rfl, HA, HJ3, BK148, HB⟩ := hcut
    cases kq with
    | zero => exact absurd HA.out (by simp [ripostelaw01_LexSpots.j0])
    | succ kj3 =>
      have H := HA.out
      clear HA
      simp only [ripostelaw01_LexSpots.j0] at H
      by_cases c8 : x25_3 = true
      · subst c8
        have H1 : ((gAwake.f kj3).bind fun t149 => (some t149)) = some r := by rw [if_pos rfl] at H; exact H
        clear H
        have H := H1
        clear H1
        replace H := Option.bind_eq_some_iff.mp H
        obtain ⟨t149, A90, H⟩ := H
        replace H : (some t149) = some r := H
        have A9 := Aside0.mk A90
        clear A90
        obtain rfl := Option.some.inj H
        go_wp2_with (first | ((with_reducible refine gate_callee (f := 11) rfl ?_); refine goesL_ (some 26) rfl rfl Tryd.func11 (by kernel_rfl) rfl #[] rfl (by (try simp only [List.map_toArray, List.map_cons, List.map_nil]); first | done | rfl | (simp only [List.length_drop, List.length_take]; rfl)) ?_; (with_reducible refine (gAwake.calls kj3  t149 _ A9.out (Gl.mono hgT.out (by repeat (first | (with_reducible first | exact HB.out | apply below_alloc | apply pw_below_drewN | apply below_drew1) | exact HB.out | refine below_set ?_ (Aside0.out (by assumption)))))).mono ?_); rintro e w10 ⟨rfl, hb⟩; refine ⟨_, rfl, ?_⟩; have n0_ := Aside0.mk (blk_below (g := gb148) (o := .cells #[.int .i64 a2_0, .int .i64 a2_1] 52 (0, 0)) (by (with_reducible repeat (first | refine blk_drewN ?_ _ | refine blk_drew ?_ | refine blk_alloc ?_ _)); exact BK148.out) hb); have n1_ := Aside0.mk (below_step (by repeat (first | (with_reducible first | exact HB.out | apply below_alloc | apply pw_below_drewN | apply below_drew1 | refine below_set ?_ GE148.out) | exact HB.out)) hb); clear BK148; clear HB; have BK148 := n0_; have HB := n1_; clear n0_ n1_; (try clear hb); (try clear hb2); (try clear hk); (try clear hi)))
        go_ret
        exact ⟨by first | rfl | (simp [errW_none, errW_some] <;> rfl) | (simp [*, errW_none, errW_some] <;> rfl), by repeat (first | (with_reducible first | exact HB.out | apply below_alloc | apply pw_below_drewN | apply below_drew1 | refine below_set ?_ GE148.out) | exact HB.out)⟩
      · replace c8 := Bool.eq_false_iff.mpr c8
        subst c8
        have H1 : ((gSpot.f kj3 a0 a1).bind fun bt150 => ((riposteref01_Spot.f kj3 a0 a1).bind fun bt154 => (if bt150.2.2 = bt154.2.2 then (ripostelaw01_LexSpots.j1 kj3 a0 (!(bt150.1 == bt154.1) || (!(bt150.2.1 == bt154.2.1))) a2_0 a2_1) else (ripostelaw01_LexSpots.j1 kj3 a0 true a2_0 a2_1)))) = some r := by rw [if_neg (show ¬ (false = true) by decide)] at H; exact H
        clear H
        have H := H1
        clear H1
        replace H := Option.bind_eq_some_iff.mp H
        obtain ⟨⟨t150, t151, t152⟩, A110, H⟩ := H
        replace H : ((riposteref01_Spot.f kj3 a0 a1).bind fun bt154 => (if t152 = bt154.2.2 then (ripostelaw01_LexSpots.j1 kj3 a0 (!(t150 == bt154.1) || (!(t151 == bt154.2.1))) a2_0 a2_1) else (ripostelaw01_LexSpots.j1 kj3 a0 true a2_0 a2_1))) = some r := H
        have A11 := Aside0.mk A110
        clear A110
        replace H := Option.bind_eq_some_iff.mp H
        obtain ⟨⟨t154, t155, t156⟩, A120, H⟩ := H
        replace H : (if t152 = t156 then (ripostelaw01_LexSpots.j1 kj3 a0 (!(t150 == t154) || (!(t151 == t155))) a2_0 a2_1) else (ripostelaw01_LexSpots.j1 kj3 a0 true a2_0 a2_1)) = some r := H
        have A12 := Aside0.mk A120
        clear A120
        have HC13 := Aside0.mk H
        clear H
        go_upto_region 5 with (first | ((with_reducible refine gate_callee (f := 35) rfl ?_); refine goesL_ (some 30) rfl rfl Tryd.func35 (by kernel_rfl) rfl #[.string a0, .int .i64 a1] rfl (by (try simp only [List.map_toArray, List.map_cons, List.map_nil]); first | done | rfl | (simp only [List.length_drop, List.length_take]; rfl)) ?_; (with_reducible refine (gSpot.calls kj3 a0 a1 t150 t151 t152 _ A11.out).mono ?_); rintro e w14 ⟨rfl, hb⟩; refine ⟨_, rfl, ?_⟩; have n0_ := Aside0.mk (blk_below (g := gb148) (o := .cells #[.int .i64 a2_0, .int .i64 a2_1] 52 (0, 0)) (by (with_reducible repeat (first | refine blk_drewN ?_ _ | refine blk_drew ?_ | refine blk_alloc ?_ _)); exact BK148.out) hb); have n1_ := Aside0.mk (below_step (by repeat (first | (with_reducible first | exact HB.out | apply below_alloc | apply pw_below_drewN | apply below_drew1 | refine below_set ?_ GE148.out) | exact HB.out)) hb); clear BK148; clear HB; have BK148 := n0_; have HB := n1_; clear n0_ n1_; (try clear hb); (try clear hb2); (try clear hk); (try clear hi)) | ((with_reducible refine gate_dst (N := 7) rfl ?_); (try (refine gate_guard (by rfl) ?_; dsimp only)); refine box_event ?hg (N := 7) ?hd (cs := #[.int .i64 0, .int .i64 0]) (t := 52) ?hr ?_; (case hd => rfl); (case hg => rfl); (case hr => first | (go_simp; done) | (go_simp; rfl)); intro gb153 hg w15 hbox hb; have n0_ := Aside0.mk (blk_below (g := gb148) (o := .cells #[.int .i64 a2_0, .int .i64 a2_1] 52 (0, 0)) (by (with_reducible repeat (first | refine blk_drewN ?_ _ | refine blk_drew ?_ | refine blk_alloc ?_ _)); exact BK148.out) hb); have n1_ := Aside0.mk (below_step (by repeat (first | (with_reducible first | exact HB.out | apply below_alloc | apply pw_below_drewN | apply below_drew1 | refine below_set ?_ GE148.out) | exact HB.out)) hb); have n2_ := Aside0.mk (hbox); have n3_ := Aside0.mk ((by rw [hg]; exact (below_size (by repeat (first | (with_reducible first | exact HB.out | apply below_alloc | apply pw_below_drewN | apply below_drew1 | refine below_set ?_ GE148.out) | exact HB.out))) : w.heap.size ≤ gb153)); have n4_ := Aside0.mk ((by rw [hg]; exact (below_size (by repeat (first | (with_reducible first | exact HB.out | apply below_alloc | apply pw_below_drewN | apply below_drew1 | refine below_set ?_ GE148.out) | exact HB.out))) : w.heap.size ≤ gb153)); have n5_ := Aside0.mk ((by rw [hg]; exact Nat.ne_of_lt (blk_lt (g := gb148) (o := .cells #[.int .i64 a2_0, .int .i64 a2_1] 52 (0, 0)) (by (with_reducible repeat (first | refine blk_drewN ?_ _ | refine blk_drew ?_ | refine blk_alloc ?_ _)); exact BK148.out)) : gb148 ≠ gb153)); have n6_ := Aside0.mk ((by rw [hg]; exact Nat.ne_of_gt (blk_lt (g := gb148) (o := .cells #[.int .i64 a2_0, .int .i64 a2_1] 52 (0, 0)) (by (with_reducible repeat (first | refine blk_drewN ?_ _ | refine blk_drew ?_ | refine blk_alloc ?_ _)); exact BK148.out)) : gb153 ≠ gb148)); clear BK148; clear HB; have BK148 := n0_; have HB := n1_; have BK153 := n2_; have GW153 := n3_; have GE153 := n4_; have NB148_153 := n5_; have NB153_148 := n6_; clear n0_ n1_ n2_ n3_ n4_ n5_ n6_; clear hb hbox hg; have hnb16 := NB153_148.out; have hnc16 := NB148_153.out; have hcz17_0 : w15.cell? ⟨gb153, 0, none⟩ = some (.int .i64 0) := (blk_cell BK153.out 0).trans rfl; have hcz17_1 : w15.cell? ⟨gb153, 1, none⟩ = some (.int .i64 0) := (blk_cell BK153.out 1).trans rfl; have hfz17_0 := blk_frozen BK153.out 0; have hfz17_1 := blk_frozen BK153.out 1) | ((with_reducible refine gate_callee (f := 36) rfl ?_); refine goesL_ (some 36) rfl rfl Tryd.func36 (by kernel_rfl) rfl #[.string a0, .int .i64 a1] rfl (by (try simp only [List.map_toArray, List.map_cons, List.map_nil]); first | done | rfl | (simp only [List.length_drop, List.length_take]; rfl)) ?_; (with_reducible refine (riposteref01_Spot.calls kj3 a0 a1 t154 t155 t156 _ A12.out).mono ?_); rintro e w18 ⟨rfl, hb⟩; refine ⟨_, rfl, ?_⟩; have n0_ := Aside0.mk (blk_below (g := gb148) (o := .cells #[.int .i64 a2_0, .int .i64 a2_1] 52 (0, 0)) (by (with_reducible repeat (first | refine blk_drewN ?_ _ | refine blk_drew ?_ | refine blk_alloc ?_ _)); refine blk_far ?_ NB148_153.out _; (with_reducible repeat (first | refine blk_drewN ?_ _ | refine blk_drew ?_ | refine blk_alloc ?_ _)); refine blk_far ?_ NB148_153.out _; (with_reducible repeat (first | refine blk_drewN ?_ _ | refine blk_drew ?_ | refine blk_alloc ?_ _)); exact BK148.out) hb); have n1_ := Aside0.mk (blk_below (g := gb153) (o := .cells #[.int .i64 t150, .int .i64 t151] 52 (0, 0)) (by (with_reducible repeat (first | refine blk_drewN ?_ _ | refine blk_drew ?_ | refine blk_alloc ?_ _)); refine blk_put (cs := #[.int .i64 t150, .int .i64 0]) ?_ 1 _ rfl; (with_reducible repeat (first | refine blk_drewN ?_ _ | refine blk_drew ?_ | refine blk_alloc ?_ _)); refine blk_put (cs := #[.int .i64 0, .int .i64 0]) ?_ 0 _ rfl; (with_reducible repeat (first | refine blk_drewN ?_ _ | refine blk_drew ?_ | refine blk_alloc ?_ _)); exact BK153.out) hb); have n2_ := Aside0.mk (below_step (by repeat (first | (with_reducible first | exact HB.out | apply below_alloc | apply pw_below_drewN | apply below_drew1 | refine below_set ?_ GE148.out | refine below_set ?_ GE153.out) | exact HB.out)) hb); clear BK148; clear BK153; clear HB; have BK148 := n0_; have BK153 := n1_; have HB := n2_; clear n0_ n1_ n2_; (try clear hb); (try clear hb2); (try clear hk); (try clear hi)) | ((with_reducible refine gate_dst (N := 9) rfl ?_); (try (refine gate_guard (by rfl) ?_; dsimp only)); refine box_event ?hg (N := 9) ?hd (cs := #[.int .i64 0, .int .i64 0]) (t := 52) ?hr ?_; (case hd => rfl); (case hg => rfl); (case hr => first | (go_simp; done) | (go_simp; rfl)); intro gb157 hg w19 hbox hb; have n0_ := Aside0.mk (blk_below (g := gb148) (o := .cells #[.int .i64 a2_0, .int .i64 a2_1] 52 (0, 0)) (by (with_reducible repeat (first | refine blk_drewN ?_ _ | refine blk_drew ?_ | refine blk_alloc ?_ _)); exact BK148.out) hb); have n1_ := Aside0.mk (blk_below (g := gb153) (o := .cells #[.int .i64 t150, .int .i64 t151] 52 (0, 0)) (by (with_reducible repeat (first | refine blk_drewN ?_ _ | refine blk_drew ?_ | refine blk_alloc ?_ _)); exact BK153.out) hb); have n2_ := Aside0.mk (below_step (by repeat (first | (with_reducible first | exact HB.out | apply below_alloc | apply pw_below_drewN | apply below_drew1 | refine below_set ?_ GE148.out | refine below_set ?_ GE153.out) | exact HB.out)) hb); have n3_ := Aside0.mk (hbox); have n4_ := Aside0.mk ((by rw [hg]; exact (below_size (by repeat (first | (with_reducible first | exact HB.out | apply below_alloc | apply pw_below_drewN | apply below_drew1 | refine below_set ?_ GE148.out | refine below_set ?_ GE153.out) | exact HB.out))) : w.heap.size ≤ gb157)); have n5_ := Aside0.mk ((by rw [hg]; exact (below_size (by repeat (first | (with_reducible first | exact HB.out | apply below_alloc | apply pw_below_drewN | apply below_drew1 | refine below_set ?_ GE148.out | refine below_set ?_ GE153.out) | exact HB.out))) : w.heap.size ≤ gb157)); have n6_ := Aside0.mk ((by rw [hg]; exact Nat.ne_of_lt (blk_lt (g := gb148) (o := .cells #[.int .i64 a2_0, .int .i64 a2_1] 52 (0, 0)) (by (with_reducible repeat (first | refine blk_drewN ?_ _ | refine blk_drew ?_ | refine blk_alloc ?_ _)); exact BK148.out)) : gb148 ≠ gb157)); have n7_ := Aside0.mk ((by rw [hg]; exact Nat.ne_of_gt (blk_lt (g := gb148) (o := .cells #[.int .i64 a2_0, .int .i64 a2_1] 52 (0, 0)) (by (with_reducible repeat (first | refine blk_drewN ?_ _ | refine blk_drew ?_ | refine blk_alloc ?_ _)); exact BK148.out)) : gb157 ≠ gb148)); have n8_ := Aside0.mk ((by rw [hg]; exact Nat.ne_of_lt (blk_lt (g := gb153) (o := .cells #[.int .i64 t150, .int .i64 t151] 52 (0, 0)) (by (with_reducible repeat (first | refine blk_drewN ?_ _ | refine blk_drew ?_ | refine blk_alloc ?_ _)); exact BK153.out)) : gb153 ≠ gb157)); have n9_ := Aside0.mk ((by rw [hg]; exact Nat.ne_of_gt (blk_lt (g := gb153) (o := .cells #[.int .i64 t150, .int .i64 t151] 52 (0, 0)) (by (with_reducible repeat (first | refine blk_drewN ?_ _ | refine blk_drew ?_ | refine blk_alloc ?_ _)); exact BK153.out)) : gb157 ≠ gb153)); clear BK148; clear BK153; clear HB; have BK148 := n0_; have BK153 := n1_; have HB := n2_; have BK157 := n3_; have GW157 := n4_; have GE157 := n5_; have NB148_157 := n6_; have NB157_148 := n7_; have NB153_157 := n8_; have NB157_153 := n9_; clear n0_ n1_ n2_ n3_ n4_ n5_ n6_ n7_ n8_ n9_; clear hb hbox hg; have hnb20 := NB157_148.out; have hnc20 := NB148_157.out; have hnb21 := NB157_153.out; have hnc21 := NB153_157.out; have hcz22_0 : w19.cell? ⟨gb157, 0, none⟩ = some (.int .i64 0) := (blk_cell BK157.out 0).trans rfl; have hcz22_1 : w19.cell? ⟨gb157, 1, none⟩ = some (.int .i64 0) := (blk_cell BK157.out 1).trans rfl; have hfz22_0 := blk_frozen BK157.out 0; have hfz22_1 := blk_frozen BK157.out 1))
        (try simp only [Act.put, List.setIfInBounds_toArray, List.set_cons_zero, List.set_cons_succ])
        go_cut [46] (fun v46 wc => ∃ (kq : Nat) (x46_12 : Bool), v46 = .bool x46_12 ∧ Aside0 (ripostelaw01_LexSpots.j1 kq a0 x46_12 a2_0 a2_1 = some r) ∧ Aside0 (kq ≤ kj3) ∧ Aside0 (wc.heap[gb148]? = some (.cells #[.int .i64 a2_0, .int .i64 a2_1] 52 (0, 0))) ∧ Aside0 (wc.heap[gb153]? = some (.cells #[.int .i64 t150, .int .i64 t151] 52 (0, 0))) ∧ Aside0 (wc.heap[gb157]? = some (.cells #[.int .i64 t154, .int .i64 t155] 52 (0, 0))) ∧ Aside0 (Below w.heap.size w wc))
        case first =>
          have H := HC13.out
          clear HC13
          by_cases c23 : t152 = t156
          · rw [if_pos c23] at H
            have c23b0 : (t152 == t156) = true := beq_iff_eq.mpr c23
            have c23b1 : (t152 != t156) = false := bne_eq_false_iff_eq.mpr c23
            clear c23
            (first | rw [c23b0] | (simp only [i64_w, i32_w]; rw [c23b0]) | skip)
            have H' := Aside0.mk H
            clear H
            have hnb24 := NB153_148.out
            have hnc24 := NB148_153.out
            have hnb25 := NB153_157.out
            have hnc25 := NB157_153.out
            have hcz26_0 : w19.cell? ⟨gb153, 0, none⟩ = some (.int .i64 t150) := (blk_cell BK153.out 0).trans rfl
            have hcz26_1 : w19.cell? ⟨gb153, 1, none⟩ = some (.int .i64 t151) := (blk_cell BK153.out 1).trans rfl
            have hfz26_0 := blk_frozen BK153.out 0
            have hfz26_1 := blk_frozen BK153.out 1
            have hnb27 := NB157_148.out
            have hnc27 := NB148_157.out
            have hcz28_0 : w19.cell? ⟨gb157, 0, none⟩ = some (.int .i64 0) := (blk_cell BK157.out 0).trans rfl
            have hcz28_1 : w19.cell? ⟨gb157, 1, none⟩ = some (.int .i64 0) := (blk_cell BK157.out 1).trans rfl
            have hfz28_0 := blk_frozen BK157.out 0
            have hfz28_1 := blk_frozen BK157.out 1
            go_wp2
            go_meet
            case rel => exact ⟨_, ((!(t150 == t154) || (!(t151 == t155)))), (by first | rfl | (simp; done) | (simp [*]; done)), H', ⟨by have := HJ3.out; first | omega | exact Nat.le_refl _⟩, ⟨by (with_reducible repeat (first | refine blk_drewN ?_ _ | refine blk_drew ?_ | refine blk_alloc ?_ _)); refine blk_far ?_ NB148_157.out _; (with_reducible repeat (first | refine blk_drewN ?_ _ | refine blk_drew ?_ | refine blk_alloc ?_ _)); refine blk_far ?_ NB148_157.out _; (with_reducible repeat (first | refine blk_drewN ?_ _ | refine blk_drew ?_ | refine blk_alloc ?_ _)); exact BK148.out⟩, ⟨by (with_reducible repeat (first | refine blk_drewN ?_ _ | refine blk_drew ?_ | refine blk_alloc ?_ _)); refine blk_far ?_ NB153_157.out _; (with_reducible repeat (first | refine blk_drewN ?_ _ | refine blk_drew ?_ | refine blk_alloc ?_ _)); refine blk_far ?_ NB153_157.out _; (with_reducible repeat (first | refine blk_drewN ?_ _ | refine blk_drew ?_ | refine blk_alloc ?_ _)); exact BK153.out⟩, ⟨by (with_reducible repeat (first | refine blk_drewN ?_ _ | refine blk_drew ?_ | refine blk_alloc ?_ _)); refine blk_put (cs := #[.int .i64 t154, .int .i64 0]) ?_ 1 _ rfl; (with_reducible repeat (first | refine blk_drewN ?_ _ | refine blk_drew ?_ | refine blk_alloc ?_ _)); refine blk_put (cs := #[.int .i64 0, .int .i64 0]) ?_ 0 _ rfl; (with_reducible repeat (first | refine blk_drewN ?_ _ | refine blk_drew ?_ | refine blk_alloc ?_ _)); exact BK157.out⟩, ⟨by repeat (first | (with_reducible first | exact HB.out | apply below_alloc | apply pw_below_drewN | apply below_drew1 | refine below_set ?_ GE148.out | refine below_set ?_ GE153.out | refine below_set ?_ GE157.out) | exact HB.out)⟩⟩
          · rw [if_neg c23] at H
            have c23b0 : (t152 == t156) = false := beq_eq_false_iff_ne.mpr c23
            have c23b1 : (t152 != t156) = true := bne_iff_ne.mpr c23
            (first | rw [c23b0] | (simp only [i64_w, i32_w]; rw [c23b0]) | skip)
            have H' := Aside0.mk H
            clear H
            go_wp2
            go_meet
            case rel => exact ⟨_, (true), (by first | rfl | (simp; done) | (simp [*]; done)), H', ⟨by have := HJ3.out; first | omega | exact Nat.le_refl _⟩, ⟨by (with_reducible repeat (first | refine blk_drewN ?_ _ | refine blk_drew ?_ | refine blk_alloc ?_ _)); refine blk_far ?_ NB148_157.out _; (with_reducible repeat (first | refine blk_drewN ?_ _ | refine blk_drew ?_ | refine blk_alloc ?_ _)); refine blk_far ?_ NB148_157.out _; (with_reducible repeat (first | refine blk_drewN ?_ _ | refine blk_drew ?_ | refine blk_alloc ?_ _)); exact BK148.out⟩, ⟨by (with_reducible repeat (first | refine blk_drewN ?_ _ | refine blk_drew ?_ | refine blk_alloc ?_ _)); refine blk_far ?_ NB153_157.out _; (with_reducible repeat (first | refine blk_drewN ?_ _ | refine blk_drew ?_ | refine blk_alloc ?_ _)); refine blk_far ?_ NB153_157.out _; (with_reducible repeat (first | refine blk_drewN ?_ _ | refine blk_drew ?_ | refine blk_alloc ?_ _)); exact BK153.out⟩, ⟨by (with_reducible repeat (first | refine blk_drewN ?_ _ | refine blk_drew ?_ | refine blk_alloc ?_ _)); refine blk_put (cs := #[.int .i64 t154, .int .i64 0]) ?_ 1 _ rfl; (with_reducible repeat (first | refine blk_drewN ?_ _ | refine blk_drew ?_ | refine blk_alloc ?_ _)); refine blk_put (cs := #[.int .i64 0, .int .i64 0]) ?_ 0 _ rfl; (with_reducible repeat (first | refine blk_drewN ?_ _ | refine blk_drew ?_ | refine blk_alloc ?_ _)); exact BK157.out⟩, ⟨by repeat (first | (with_reducible first | exact HB.out | apply below_alloc | apply pw_below_drewN | apply below_drew1 | refine below_set ?_ GE148.out | refine below_set ?_ GE153.out | refine below_set ?_ GE157.out) | exact HB.out)⟩⟩
        case rest =>
          clear HC13
          try clear c1
          try clear c2
          try clear p2
          try clear c3
          try clear c6
          try clear c6b0
          try clear c6b1
          try clear c7
          try clear c7b0
          try clear c7b1
          try clear c8
          try clear c11
          try clear c16
          try clear c20
          try clear c21
          try clear c23
          try clear c23b0
          try clear c23b1
          try clear c24
          try clear c25
          try clear c27
          try clear hcz17_0
          try clear hcz17_1
          try clear hcz22_0
          try clear hcz22_1
          try clear hcz26_0
          try clear hcz26_1
          try clear hcz28_0
          try clear hcz28_1
          try clear hfz17_0
          try clear hfz17_1
          try clear hfz22_0
          try clear hfz22_1
          try clear hfz26_0
          try clear hfz26_1
          try clear hfz28_0
          try clear hfz28_1
          try clear p2
          obtain ⟨kq, x46_12, rfl, HA, HJ12, BK148, BK153, BK157, HB⟩ := hcut
          cases kq with
          | zero => exact absurd HA.out (by simp [ripostelaw01_LexSpots.j1])
          | succ kj12 =>
            have H := HA.out
            clear HA
            simp only [ripostelaw01_LexSpots.j1] at H
            by_cases c29 : x46_12 = true
            · subst c29
              have H1 : (some false) = some r := by rw [if_pos rfl] at H; exact H
              clear H
              have H := H1
              clear H1
              obtain rfl := Option.some.inj H
              go_wp2
              go_ret
              exact ⟨by first | rfl | (simp [errW_none, errW_some] <;> rfl) | (simp [*, errW_none, errW_some] <;> rfl), by repeat (first | (with_reducible first | exact HB.out | apply below_alloc | apply pw_below_drewN | apply below_drew1 | refine below_set ?_ GE148.out | refine below_set ?_ GE153.out | refine below_set ?_ GE157.out) | exact HB.out)⟩
            · replace c29 := Bool.eq_false_iff.mpr c29
              subst c29
              have H1 : (if (a0.size : Int) > 600 then ((gAwake.f kj12).bind fun t158 => (some t158)) else ((gAt.f kj12 a0 a2_0 a2_1).bind fun bt159 => ((riposteref01_At.f kj12 a0 a2_0 a2_1).bind fun bt161 => (if bt159.2 = bt161.2 then (if bt159.1 = bt161.1 then ((gAwake.f kj12).bind fun t163 => (some t163)) else (some false)) else (some false))))) = some r := by rw [if_neg (show ¬ (false = true) by decide)] at H; exact H
              clear H
              have H := H1
              clear H1
              by_cases c30 : (a0.size : Int) > 600
              · rw [if_pos c30] at H
                have c30b0 : decide (600 < (a0.size : Int)) = true := decide_eq_true c30
                have c30b1 : decide (600 < a0.size) = true := decide_eq_true (by omega)
                clear c30
                replace H := Option.bind_eq_some_iff.mp H
                obtain ⟨t158, A310, H⟩ := H
                replace H : (some t158) = some r := H
                have A31 := Aside0.mk A310
                clear A310
                obtain rfl := Option.some.inj H
                go_wp2_with (first | ((with_reducible refine gate_callee (f := 11) rfl ?_); refine goesL_ (some 50) rfl rfl Tryd.func11 (by kernel_rfl) rfl #[] rfl (by (try simp only [List.map_toArray, List.map_cons, List.map_nil]); first | done | rfl | (simp only [List.length_drop, List.length_take]; rfl)) ?_; (with_reducible refine (gAwake.calls kj12  t158 _ A31.out (Gl.mono hgT.out (by repeat (first | (with_reducible first | exact HB.out | apply below_alloc | apply pw_below_drewN | apply below_drew1) | exact HB.out | refine below_set ?_ (Aside0.out (by assumption)))))).mono ?_); rintro e w32 ⟨rfl, hb⟩; refine ⟨_, rfl, ?_⟩; have n0_ := Aside0.mk (blk_below (g := gb148) (o := .cells #[.int .i64 a2_0, .int .i64 a2_1] 52 (0, 0)) (by (with_reducible repeat (first | refine blk_drewN ?_ _ | refine blk_drew ?_ | refine blk_alloc ?_ _)); exact BK148.out) hb); have n1_ := Aside0.mk (blk_below (g := gb153) (o := .cells #[.int .i64 t150, .int .i64 t151] 52 (0, 0)) (by (with_reducible repeat (first | refine blk_drewN ?_ _ | refine blk_drew ?_ | refine blk_alloc ?_ _)); exact BK153.out) hb); have n2_ := Aside0.mk (blk_below (g := gb157) (o := .cells #[.int .i64 t154, .int .i64 t155] 52 (0, 0)) (by (with_reducible repeat (first | refine blk_drewN ?_ _ | refine blk_drew ?_ | refine blk_alloc ?_ _)); exact BK157.out) hb); have n3_ := Aside0.mk (below_step (by repeat (first | (with_reducible first | exact HB.out | apply below_alloc | apply pw_below_drewN | apply below_drew1 | refine below_set ?_ GE148.out | refine below_set ?_ GE153.out | refine below_set ?_ GE157.out) | exact HB.out)) hb); clear BK148; clear BK153; clear BK157; clear HB; have BK148 := n0_; have BK153 := n1_; have BK157 := n2_; have HB := n3_; clear n0_ n1_ n2_ n3_; (try clear hb); (try clear hb2); (try clear hk); (try clear hi)))
                go_ret
                exact ⟨by first | rfl | (simp [errW_none, errW_some] <;> rfl) | (simp [*, errW_none, errW_some] <;> rfl), by repeat (first | (with_reducible first | exact HB.out | apply below_alloc | apply pw_below_drewN | apply below_drew1 | refine below_set ?_ GE148.out | refine below_set ?_ GE153.out | refine below_set ?_ GE157.out) | exact HB.out)⟩
              · rw [if_neg c30] at H
                have c30b0 : decide (600 < (a0.size : Int)) = false := decide_eq_false c30
                have c30b1 : decide (600 < a0.size) = false := decide_eq_false (by omega)
                clear c30
                replace H := Option.bind_eq_some_iff.mp H
                obtain ⟨⟨t159, t160⟩, A330, H⟩ := H
                replace H : ((riposteref01_At.f kj12 a0 a2_0 a2_1).bind fun bt161 => (if t160 = bt161.2 then (if t159 = bt161.1 then ((gAwake.f kj12).bind fun t163 => (some t163)) else (some false)) else (some false))) = some r := H
                have A33 := Aside0.mk A330
                clear A330
                replace H := Option.bind_eq_some_iff.mp H
                obtain ⟨⟨t161, t162⟩, A340, H⟩ := H
                replace H : (if t160 = t162 then (if t159 = t161 then ((gAwake.f kj12).bind fun t163 => (some t163)) else (some false)) else (some false)) = some r := H
                have A34 := Aside0.mk A340
                clear A340
                by_cases c35 : t160 = t162
                · rw [if_pos c35] at H
                  have c35b0 : (t160 == t162) = true := beq_iff_eq.mpr c35
                  have c35b1 : (t160 != t162) = false := bne_eq_false_iff_eq.mpr c35
                  clear c35
                  by_cases c36 : t159 = t161
                  · rw [if_pos c36] at H
                    have c36b0 : (t159 == t161) = true := beq_iff_eq.mpr c36
                    have c36b1 : (t159 != t161) = false := bne_eq_false_iff_eq.mpr c36
                    clear c36
                    replace H := Option.bind_eq_some_iff.mp H
                    obtain ⟨t163, A370, H⟩ := H
                    replace H : (some t163) = some r := H
                    have A37 := Aside0.mk A370
                    clear A370
                    obtain rfl := Option.some.inj H
                    have hnb38 := NB148_153.out
                    have hnc38 := NB153_148.out
                    have hnb39 := NB148_157.out
                    have hnc39 := NB157_148.out
                    have hcz40_0 : wc.cell? ⟨gb148, 0, none⟩ = some (.int .i64 a2_0) := (blk_cell BK148.out 0).trans rfl
                    have hcz40_1 : wc.cell? ⟨gb148, 1, none⟩ = some (.int .i64 a2_1) := (blk_cell BK148.out 1).trans rfl
                    have hfz40_0 := blk_frozen BK148.out 0
                    have hfz40_1 := blk_frozen BK148.out 1
                    go_wp2_with (first | ((with_reducible refine gate_callee (f := 37) rfl ?_); refine goesL_ (some 54) rfl rfl Tryd.func37 (by kernel_rfl) rfl #[.string a0, .agg #[.int .i64 a2_0, .int .i64 a2_1]] rfl (by (try simp only [List.map_toArray, List.map_cons, List.map_nil]); first | done | rfl | (simp only [List.length_drop, List.length_take]; rfl)) ?_; (with_reducible refine (gAt.calls kj12 a0 a2_0 a2_1 t159 t160 _ A33.out).mono ?_); rintro e w41 ⟨rfl, hb⟩; refine ⟨_, rfl, ?_⟩; have n0_ := Aside0.mk (blk_below (g := gb148) (o := .cells #[.int .i64 a2_0, .int .i64 a2_1] 52 (0, 0)) (by (with_reducible repeat (first | refine blk_drewN ?_ _ | refine blk_drew ?_ | refine blk_alloc ?_ _)); exact BK148.out) hb); have n1_ := Aside0.mk (blk_below (g := gb153) (o := .cells #[.int .i64 t150, .int .i64 t151] 52 (0, 0)) (by (with_reducible repeat (first | refine blk_drewN ?_ _ | refine blk_drew ?_ | refine blk_alloc ?_ _)); exact BK153.out) hb); have n2_ := Aside0.mk (blk_below (g := gb157) (o := .cells #[.int .i64 t154, .int .i64 t155] 52 (0, 0)) (by (with_reducible repeat (first | refine blk_drewN ?_ _ | refine blk_drew ?_ | refine blk_alloc ?_ _)); exact BK157.out) hb); have n3_ := Aside0.mk (below_step (by repeat (first | (with_reducible first | exact HB.out | apply below_alloc | apply pw_below_drewN | apply below_drew1 | refine below_set ?_ GE148.out | refine below_set ?_ GE153.out | refine below_set ?_ GE157.out) | exact HB.out)) hb); clear BK148; clear BK153; clear BK157; clear HB; have BK148 := n0_; have BK153 := n1_; have BK157 := n2_; have HB := n3_; clear n0_ n1_ n2_ n3_; (try clear hb); (try clear hb2); (try clear hk); (try clear hi); have hcz42_0 : w41.cell? ⟨gb148, 0, none⟩ = some (.int .i64 a2_0) := (blk_cell BK148.out 0).trans rfl; have hcz42_1 : w41.cell? ⟨gb148, 1, none⟩ = some (.int .i64 a2_1) := (blk_cell BK148.out 1).trans rfl; have hfz42_0 := blk_frozen BK148.out 0; have hfz42_1 := blk_frozen BK148.out 1) | ((with_reducible refine gate_callee (f := 38) rfl ?_); refine goesL_ (some 60) rfl rfl Tryd.func38 (by kernel_rfl) rfl #[.string a0, .agg #[.int .i64 a2_0, .int .i64 a2_1]] rfl (by (try simp only [List.map_toArray, List.map_cons, List.map_nil]); first | done | rfl | (simp only [List.length_drop, List.length_take]; rfl)) ?_; (with_reducible refine (riposteref01_At.calls kj12 a0 a2_0 a2_1 t161 t162 _ A34.out).mono ?_); rintro e w43 ⟨rfl, hb⟩; refine ⟨_, rfl, ?_⟩; have n0_ := Aside0.mk (blk_below (g := gb148) (o := .cells #[.int .i64 a2_0, .int .i64 a2_1] 52 (0, 0)) (by (with_reducible repeat (first | refine blk_drewN ?_ _ | refine blk_drew ?_ | refine blk_alloc ?_ _)); exact BK148.out) hb); have n1_ := Aside0.mk (blk_below (g := gb153) (o := .cells #[.int .i64 t150, .int .i64 t151] 52 (0, 0)) (by (with_reducible repeat (first | refine blk_drewN ?_ _ | refine blk_drew ?_ | refine blk_alloc ?_ _)); exact BK153.out) hb); have n2_ := Aside0.mk (blk_below (g := gb157) (o := .cells #[.int .i64 t154, .int .i64 t155] 52 (0, 0)) (by (with_reducible repeat (first | refine blk_drewN ?_ _ | refine blk_drew ?_ | refine blk_alloc ?_ _)); exact BK157.out) hb); have n3_ := Aside0.mk (below_step (by repeat (first | (with_reducible first | exact HB.out | apply below_alloc | apply pw_below_drewN | apply below_drew1 | refine below_set ?_ GE148.out | refine below_set ?_ GE153.out | refine below_set ?_ GE157.out) | exact HB.out)) hb); clear BK148; clear BK153; clear BK157; clear HB; have BK148 := n0_; have BK153 := n1_; have BK157 := n2_; have HB := n3_; clear n0_ n1_ n2_ n3_; (try clear hb); (try clear hb2); (try clear hk); (try clear hi)) | (go_at_call 11; (with_reducible refine (gAwake.calls kj12  t163 _ A37.out (Gl.mono hgT.out (by repeat (first | (with_reducible first | exact HB.out | apply below_alloc | apply pw_below_drewN | apply below_drew1) | exact HB.out | refine below_set ?_ (Aside0.out (by assumption)))))).mono ?_); rintro e w44 ⟨rfl, hb⟩; have n0_ := Aside0.mk (blk_below (g := gb148) (o := .cells #[.int .i64 a2_0, .int .i64 a2_1] 52 (0, 0)) (by (with_reducible repeat (first | refine blk_drewN ?_ _ | refine blk_drew ?_ | refine blk_alloc ?_ _)); exact BK148.out) hb); have n1_ := Aside0.mk (blk_below (g := gb153) (o := .cells #[.int .i64 t150, .int .i64 t151] 52 (0, 0)) (by (with_reducible repeat (first | refine blk_drewN ?_ _ | refine blk_drew ?_ | refine blk_alloc ?_ _)); exact BK153.out) hb); have n2_ := Aside0.mk (blk_below (g := gb157) (o := .cells #[.int .i64 t154, .int .i64 t155] 52 (0, 0)) (by (with_reducible repeat (first | refine blk_drewN ?_ _ | refine blk_drew ?_ | refine blk_alloc ?_ _)); exact BK157.out) hb); have n3_ := Aside0.mk (below_step (by repeat (first | (with_reducible first | exact HB.out | apply below_alloc | apply pw_below_drewN | apply below_drew1 | refine below_set ?_ GE148.out | refine below_set ?_ GE153.out | refine below_set ?_ GE157.out) | exact HB.out)) hb); clear BK148; clear BK153; clear BK157; clear HB; have BK148 := n0_; have BK153 := n1_; have BK157 := n2_; have HB := n3_; clear n0_ n1_ n2_ n3_; (try clear hb); (try clear hb2); (try clear hk); (try clear hi)))
                    go_ret
                    exact ⟨by first | rfl | (simp [errW_none, errW_some] <;> rfl) | (simp [*, errW_none, errW_some] <;> rfl), by repeat (first | (with_reducible first | exact HB.out | apply below_alloc | apply pw_below_drewN | apply below_drew1 | refine below_set ?_ GE148.out | refine below_set ?_ GE153.out | refine below_set ?_ GE157.out) | exact HB.out)⟩
                  · rw [if_neg c36] at H
                    have c36b0 : (t159 == t161) = false := beq_eq_false_iff_ne.mpr c36
                    have c36b1 : (t159 != t161) = true := bne_iff_ne.mpr c36
                    obtain rfl := Option.some.inj H
                    have hnb45 := NB148_153.out
                    have hnc45 := NB153_148.out
                    have hnb46 := NB148_157.out
                    have hnc46 := NB157_148.out
                    have hcz47_0 : wc.cell? ⟨gb148, 0, none⟩ = some (.int .i64 a2_0) := (blk_cell BK148.out 0).trans rfl
                    have hcz47_1 : wc.cell? ⟨gb148, 1, none⟩ = some (.int .i64 a2_1) := (blk_cell BK148.out 1).trans rfl
                    have hfz47_0 := blk_frozen BK148.out 0
                    have hfz47_1 := blk_frozen BK148.out 1
                    go_wp2_with (first | ((with_reducible refine gate_callee (f := 37) rfl ?_); refine goesL_ (some 54) rfl rfl Tryd.func37 (by kernel_rfl) rfl #[.string a0, .agg #[.int .i64 a2_0, .int .i64 a2_1]] rfl (by (try simp only [List.map_toArray, List.map_cons, List.map_nil]); first | done | rfl | (simp only [List.length_drop, List.length_take]; rfl)) ?_; (with_reducible refine (gAt.calls kj12 a0 a2_0 a2_1 t159 t160 _ A33.out).mono ?_); rintro e w48 ⟨rfl, hb⟩; refine ⟨_, rfl, ?_⟩; have n0_ := Aside0.mk (blk_below (g := gb148) (o := .cells #[.int .i64 a2_0, .int .i64 a2_1] 52 (0, 0)) (by (with_reducible repeat (first | refine blk_drewN ?_ _ | refine blk_drew ?_ | refine blk_alloc ?_ _)); exact BK148.out) hb); have n1_ := Aside0.mk (blk_below (g := gb153) (o := .cells #[.int .i64 t150, .int .i64 t151] 52 (0, 0)) (by (with_reducible repeat (first | refine blk_drewN ?_ _ | refine blk_drew ?_ | refine blk_alloc ?_ _)); exact BK153.out) hb); have n2_ := Aside0.mk (blk_below (g := gb157) (o := .cells #[.int .i64 t154, .int .i64 t155] 52 (0, 0)) (by (with_reducible repeat (first | refine blk_drewN ?_ _ | refine blk_drew ?_ | refine blk_alloc ?_ _)); exact BK157.out) hb); have n3_ := Aside0.mk (below_step (by repeat (first | (with_reducible first | exact HB.out | apply below_alloc | apply pw_below_drewN | apply below_drew1 | refine below_set ?_ GE148.out | refine below_set ?_ GE153.out | refine below_set ?_ GE157.out) | exact HB.out)) hb); clear BK148; clear BK153; clear BK157; clear HB; have BK148 := n0_; have BK153 := n1_; have BK157 := n2_; have HB := n3_; clear n0_ n1_ n2_ n3_; (try clear hb); (try clear hb2); (try clear hk); (try clear hi); have hcz49_0 : w48.cell? ⟨gb148, 0, none⟩ = some (.int .i64 a2_0) := (blk_cell BK148.out 0).trans rfl; have hcz49_1 : w48.cell? ⟨gb148, 1, none⟩ = some (.int .i64 a2_1) := (blk_cell BK148.out 1).trans rfl; have hfz49_0 := blk_frozen BK148.out 0; have hfz49_1 := blk_frozen BK148.out 1) | ((with_reducible refine gate_callee (f := 38) rfl ?_); refine goesL_ (some 60) rfl rfl Tryd.func38 (by kernel_rfl) rfl #[.string a0, .agg #[.int .i64 a2_0, .int .i64 a2_1]] rfl (by (try simp only [List.map_toArray, List.map_cons, List.map_nil]); first | done | rfl | (simp only [List.length_drop, List.length_take]; rfl)) ?_; (with_reducible refine (riposteref01_At.calls kj12 a0 a2_0 a2_1 t161 t162 _ A34.out).mono ?_); rintro e w50 ⟨rfl, hb⟩; refine ⟨_, rfl, ?_⟩; have n0_ := Aside0.mk (blk_below (g := gb148) (o := .cells #[.int .i64 a2_0, .int .i64 a2_1] 52 (0, 0)) (by (with_reducible repeat (first | refine blk_drewN ?_ _ | refine blk_drew ?_ | refine blk_alloc ?_ _)); exact BK148.out) hb); have n1_ := Aside0.mk (blk_below (g := gb153) (o := .cells #[.int .i64 t150, .int .i64 t151] 52 (0, 0)) (by (with_reducible repeat (first | refine blk_drewN ?_ _ | refine blk_drew ?_ | refine blk_alloc ?_ _)); exact BK153.out) hb); have n2_ := Aside0.mk (blk_below (g := gb157) (o := .cells #[.int .i64 t154, .int .i64 t155] 52 (0, 0)) (by (with_reducible repeat (first | refine blk_drewN ?_ _ | refine blk_drew ?_ | refine blk_alloc ?_ _)); exact BK157.out) hb); have n3_ := Aside0.mk (below_step (by repeat (first | (with_reducible first | exact HB.out | apply below_alloc | apply pw_below_drewN | apply below_drew1 | refine below_set ?_ GE148.out | refine below_set ?_ GE153.out | refine below_set ?_ GE157.out) | exact HB.out)) hb); clear BK148; clear BK153; clear BK157; clear HB; have BK148 := n0_; have BK153 := n1_; have BK157 := n2_; have HB := n3_; clear n0_ n1_ n2_ n3_; (try clear hb); (try clear hb2); (try clear hk); (try clear hi)))
                    go_ret
                    exact ⟨by first | rfl | (simp [errW_none, errW_some] <;> rfl) | (simp [*, errW_none, errW_some] <;> rfl), by repeat (first | (with_reducible first | exact HB.out | apply below_alloc | apply pw_below_drewN | apply below_drew1 | refine below_set ?_ GE148.out | refine below_set ?_ GE153.out | refine below_set ?_ GE157.out) | exact HB.out)⟩
                · rw [if_neg c35] at H
                  have c35b0 : (t160 == t162) = false := beq_eq_false_iff_ne.mpr c35
                  have c35b1 : (t160 != t162) = true := bne_iff_ne.mpr c35
                  obtain rfl := Option.some.inj H
                  have hnb51 := NB148_153.out
                  have hnc51 := NB153_148.out
                  have hnb52 := NB148_157.out
                  have hnc52 := NB157_148.out
                  have hcz53_0 : wc.cell? ⟨gb148, 0, none⟩ = some (.int .i64 a2_0) := (blk_cell BK148.out 0).trans rfl
                  have hcz53_1 : wc.cell? ⟨gb148, 1, none⟩ = some (.int .i64 a2_1) := (blk_cell BK148.out 1).trans rfl
                  have hfz53_0 := blk_frozen BK148.out 0
                  have hfz53_1 := blk_frozen BK148.out 1
                  go_wp2_with (first | ((with_reducible refine gate_callee (f := 37) rfl ?_); refine goesL_ (some 54) rfl rfl Tryd.func37 (by kernel_rfl) rfl #[.string a0, .agg #[.int .i64 a2_0, .int .i64 a2_1]] rfl (by (try simp only [List.map_toArray, List.map_cons, List.map_nil]); first | done | rfl | (simp only [List.length_drop, List.length_take]; rfl)) ?_; (with_reducible refine (gAt.calls kj12 a0 a2_0 a2_1 t159 t160 _ A33.out).mono ?_); rintro e w54 ⟨rfl, hb⟩; refine ⟨_, rfl, ?_⟩; have n0_ := Aside0.mk (blk_below (g := gb148) (o := .cells #[.int .i64 a2_0, .int .i64 a2_1] 52 (0, 0)) (by (with_reducible repeat (first | refine blk_drewN ?_ _ | refine blk_drew ?_ | refine blk_alloc ?_ _)); exact BK148.out) hb); have n1_ := Aside0.mk (blk_below (g := gb153) (o := .cells #[.int .i64 t150, .int .i64 t151] 52 (0, 0)) (by (with_reducible repeat (first | refine blk_drewN ?_ _ | refine blk_drew ?_ | refine blk_alloc ?_ _)); exact BK153.out) hb); have n2_ := Aside0.mk (blk_below (g := gb157) (o := .cells #[.int .i64 t154, .int .i64 t155] 52 (0, 0)) (by (with_reducible repeat (first | refine blk_drewN ?_ _ | refine blk_drew ?_ | refine blk_alloc ?_ _)); exact BK157.out) hb); have n3_ := Aside0.mk (below_step (by repeat (first | (with_reducible first | exact HB.out | apply below_alloc | apply pw_below_drewN | apply below_drew1 | refine below_set ?_ GE148.out | refine below_set ?_ GE153.out | refine below_set ?_ GE157.out) | exact HB.out)) hb); clear BK148; clear BK153; clear BK157; clear HB; have BK148 := n0_; have BK153 := n1_; have BK157 := n2_; have HB := n3_; clear n0_ n1_ n2_ n3_; (try clear hb); (try clear hb2); (try clear hk); (try clear hi); have hcz55_0 : w54.cell? ⟨gb148, 0, none⟩ = some (.int .i64 a2_0) := (blk_cell BK148.out 0).trans rfl; have hcz55_1 : w54.cell? ⟨gb148, 1, none⟩ = some (.int .i64 a2_1) := (blk_cell BK148.out 1).trans rfl; have hfz55_0 := blk_frozen BK148.out 0; have hfz55_1 := blk_frozen BK148.out 1) | ((with_reducible refine gate_callee (f := 38) rfl ?_); refine goesL_ (some 60) rfl rfl Tryd.func38 (by kernel_rfl) rfl #[.string a0, .agg #[.int .i64 a2_0, .int .i64 a2_1]] rfl (by (try simp only [List.map_toArray, List.map_cons, List.map_nil]); first | done | rfl | (simp only [List.length_drop, List.length_take]; rfl)) ?_; (with_reducible refine (riposteref01_At.calls kj12 a0 a2_0 a2_1 t161 t162 _ A34.out).mono ?_); rintro e w56 ⟨rfl, hb⟩; refine ⟨_, rfl, ?_⟩; have n0_ := Aside0.mk (blk_below (g := gb148) (o := .cells #[.int .i64 a2_0, .int .i64 a2_1] 52 (0, 0)) (by (with_reducible repeat (first | refine blk_drewN ?_ _ | refine blk_drew ?_ | refine blk_alloc ?_ _)); exact BK148.out) hb); have n1_ := Aside0.mk (blk_below (g := gb153) (o := .cells #[.int .i64 t150, .int .i64 t151] 52 (0, 0)) (by (with_reducible repeat (first | refine blk_drewN ?_ _ | refine blk_drew ?_ | refine blk_alloc ?_ _)); exact BK153.out) hb); have n2_ := Aside0.mk (blk_below (g := gb157) (o := .cells #[.int .i64 t154, .int .i64 t155] 52 (0, 0)) (by (with_reducible repeat (first | refine blk_drewN ?_ _ | refine blk_drew ?_ | refine blk_alloc ?_ _)); exact BK157.out) hb); have n3_ := Aside0.mk (below_step (by repeat (first | (with_reducible first | exact HB.out | apply below_alloc | apply pw_below_drewN | apply below_drew1 | refine below_set ?_ GE148.out | refine below_set ?_ GE153.out | refine below_set ?_ GE157.out) | exact HB.out)) hb); clear BK148; clear BK153; clear BK157; clear HB; have BK148 := n0_; have BK153 := n1_; have BK157 := n2_; have HB := n3_; clear n0_ n1_ n2_ n3_; (try clear hb); (try clear hb2); (try clear hk); (try clear hi)))
                  go_ret
                  exact ⟨by first | rfl | (simp [errW_none, errW_some] <;> rfl) | (simp [*, errW_none, errW_some] <;> rfl), by repeat (first | (with_reducible first | exact HB.out | apply below_alloc | apply pw_below_drewN | apply below_drew1 | refine below_set ?_ GE148.out | refine below_set ?_ GE153.out | refine below_set ?_ GE157.out) | exact HB.out)⟩
end Go.Proofs.YtebidpcmcekbgaaDoor.P
namespace Go.Proofs.YtebidpcmcekbgaaDoor.P
open Go.RowKit Go.Proofs.YtebidpcmcekbgaaDoorW.PrintWords
set_option linter.unusedVariables false
set_option linter.unusedSimpArgs false
theorem pSpots1 (s : ByteArray) (p0 p1 : Int) (hs : s.size ≤ 3000) (k : Nat) (hk : 7000 < k) : ripostelaw01_LexSpots.j1 (k + 1) s false p0 p1 = some true := by
  rw [ripostelaw01_LexSpots.j1.eq_2, if_neg (by decide)]
  by_cases c : (s.size : Int) > 600
  · rw [if_pos c]; rfl
  · rw [if_neg c, show gAt.f k s p0 p1 = some (atE s (p0, p1)) from if_pos (by omega), show riposteref01_At.f k s p0 p1 = some (atE s (p0, p1)) from rAt s (p0, p1) (by omega) k (by omega)]
    simp only [Option.bind_some, if_true]
    rfl
theorem pSpots0 (s : ByteArray) (a p0 p1 : Int) (hs : s.size ≤ 3000) (k : Nat) (hk : 7000 < k) : ripostelaw01_LexSpots.j0 (k + 2) s a false p0 p1 = some true := by
  rw [ripostelaw01_LexSpots.j0.eq_2, if_neg (by decide), show gSpot.f (k + 1) s a = some (spotE s a) from if_pos (by omega), rSpot s a (by omega) (k + 1) (by omega)]
  simp only [Option.bind_some, if_true, beq_self_eq_true, Bool.not_true, Bool.or_false]
  exact pSpots1 s p0 p1 hs k hk
theorem pSpots (s : ByteArray) (a p0 p1 : Int) : ripostelaw01_LexSpots.f 7003 s a p0 p1 = some true := by
  have ht : ripostelaw01_LexSpots.j0 7003 s a true p0 p1 = some true := by rw [ripostelaw01_LexSpots.j0.eq_2, if_pos rfl]; rfl
  have hd : (s.size : Int) ≤ 600 ∨ 2490 < (s.size : Int) → ripostelaw01_LexSpots.j0 7003 s a (decide ((s.size : Int) > 3000)) p0 p1 = some true := fun _ => by
    by_cases c : (s.size : Int) > 3000
    · rw [decide_eq_true c]; exact ht
    · rw [decide_eq_false c]; exact pSpots0 s a p0 p1 (by omega) 7001 (by decide)
  unfold ripostelaw01_LexSpots.f
  by_cases c : (s.size : Int) > 600
  · rw [if_pos c]
    by_cases c2 : (s.size : Int) ≤ 2490
    · rw [if_pos c2]; exact ht
    · rw [if_neg c2]; exact hd (.inr (by omega))
  · rw [if_neg c]; exact hd (.inl (by omega))
theorem lexSpots_any (s : ByteArray) (a p0 p1 : Int) (w : World) (hg : Gl w) : Calls Tryd.prog 8 #[.string s, .int .i64 a, .agg #[.int .i64 p0, .int .i64 p1]] w fun e w' => e = .returned (.bool true) ∧ Below w.heap.size w w' :=
  (ripostelaw01_LexSpots.calls 7003 s a p0 p1 true w ⟨hg⟩ (pSpots s a p0 p1)).mono fun e w' h => h
section
open Go Go.ChangeShapes Go.WideShapes
variable {H : Type} {enc : TypeId × Value → H} {W : World} {base : Nat} {sp : Nat → Bool} {held : Bool} {fuel : Nat} {cs : List Value} {x : DataW H × List MemPlace}
set_option maxRecDepth 100000
theorem cells_P : Tryd.prog.cellsOf 52 = 2 := by kernel_rfl
theorem opens_cs_spot (h : DataW.trod enc Tryd.prog W base sp held fuel 52 cs = some x) : ∃ a b : Int, cs = [.int .i64 a, .int .i64 b] := by
  obtain ⟨y0, y1, n, e, hl, h0, h1⟩ := trod_struct2 Tryd.underlying52 h
  rw [cells_P] at hl
  match cs, hl with
  | [a, b], _ =>
    simp only [cells_i, List.drop_zero, List.drop_succ_cons, List.take_succ_cons, List.take_zero] at h0 h1
    have ha : DataW.trod enc Tryd.prog W base sp held n 3 [a] = some y0 := h0
    have hb : DataW.trod enc Tryd.prog W base sp held n 3 [b] = some y1 := h1
    obtain ⟨b0, e0, _⟩ := DataW.trod_int Tryd.underlying3 ha
    obtain ⟨b1, e1, _⟩ := DataW.trod_int Tryd.underlying3 hb
    cases e0
    cases e1
    exact ⟨b0, b1, rfl⟩
theorem opens_spot {r : Reach} {b0 : Nat} {v : Value} {d : DataW H} {p : List MemPlace} (hv : Value.okWide Tryd.prog W r b0 52 v) (h : DataW.Trod enc Tryd.prog W base sp held 52 v d p) :
    ∃ a b : Int, v = .agg #[.int .i64 a, .int .i64 b] := by
  obtain ⟨cs, rfl, hsz⟩ := okWide_struct Tryd.underlying52 hv
  obtain ⟨fuel, hf⟩ := h
  obtain ⟨a, b, hm⟩ := opens_cs_spot hf
  have e : (Value.agg cs).cells.toList = cs.toList := rfl
  rw [e] at hm
  obtain ⟨l⟩ := cs
  have h1 : l = [.int .i64 a, .int .i64 b] := hm
  subst h1
  exact ⟨a, b, rfl⟩
end
end Go.Proofs.YtebidpcmcekbgaaDoor.P
namespace Go.Proofs.YtebidpcmcekbgaaDoor.P
open Go.RowKit
set_option linter.unusedVariables false
/-- The four listed variables, as each row lists them. -/
def laidL : List (String × DataW Unit) := [("unicode/utf8.acceptRanges", Rows.laid_unicode_utf8_acceptRanges), ("unicode.White_Space", Rows.laid_unicode_White_Space), ("strings.asciiSpace", Rows.laid_strings_asciiSpace), ("unicode/utf8.first", Rows.laid_unicode_utf8_first)]
def aspT : List Int := (List.range 256).map fun (i : Nat) => if aspB (i : Int) = true then 1 else 0
theorem aspT_len : aspT.length = 256 := by simp [aspT]
theorem aspT_at (c : Nat) (h : c < 256) : aspT.getD c 0 = if aspB (c : Int) = true then 1 else 0 := by
  unfold aspT
  rw [List.getD_eq_getElem?_getD, List.getElem?_map, List.getElem?_range h]
  rfl
theorem asp_data : (Rows.laid_strings_asciiSpace : DataW Unit) = Lib.tabData .u8 aspT := by kernel_rfl
theorem gl_of_laid {W : World} (h : laidMetH Tryd.prog laidL W) : Gl W := by
  rw [MakeChecks.laidMetH_plain _ _ _ (by kernel_rfl)] at h
  obtain ⟨ps, ⟨g0, t0, cs0, f0, p0, q0, hg0, ht0, hv0, hd0, ⟨g1, t1, cs1, f1, p1, q1, hg1, ht1, hv1, hd1, ⟨g2, t2, cs2, f2, p2, q2, hg2, ht2, hv2, hd2, _, _⟩, _⟩, _⟩, _, _⟩ := h
  obtain rfl := Option.some.inj ((show Tryd.prog.globalNamed "strings.asciiSpace" = some 1 by kernel_rfl).symm.trans hg2)
  obtain rfl := Option.some.inj ((show (Tryd.prog.globals[1]?).map (·.type) = some 133 by kernel_rfl).symm.trans ht2)
  rw [asp_data] at hd2
  have hcs := Lib.cells_of_tab Tryd.underlying133 Tryd.underlying5 (by kernel_rfl) (by kernel_rfl) hd2
  intro c hc
  rw [World.var?_cell hg2 hv2 c]
  have h1 : cs2[c]? = some (.int .u8 (aspT.getD c 0)) := by
    have : cs2.toList[c]? = some (.int .u8 (aspT.getD c 0)) := by
      rw [hcs, List.getElem?_map, List.getElem?_eq_getElem (by rw [aspT_len]; exact hc)]
      simp [List.getD, List.getElem?_eq_getElem (show c < aspT.length by rw [aspT_len]; exact hc)]
    simpa using this
  rw [h1, aspT_at c hc]
end Go.Proofs.YtebidpcmcekbgaaDoor.P
