/- What the claim's law needs, many texts in one (Xq P11 Ya Yb Xx Ye Yg Yh Yi Yn Yc Yj Yo P15 Ys Yt Yu P16 Yy P17 Yz Yta). No conditions of its own. -/
import Derived.Test.YtebidpcmcekbgaaDoorZo11
import Derived.Test.YtebidpcmcekbgaaDoorZo2
import Derived.Test.YtebidpcmcekbgaaDoorZo4
import Derived.Test.YtebidpcmcekbgaaDoorZo10
import Derived.Deep.QuietTactic
import Derived.BigQuiet
import Derived.BigGuard
import Derived.Laws.IdiomStrings
import Derived.StillTailTactics
import Derived.Deep.Slices
import Derived.Lib.SmallJoins
import Derived.OpenShut
import Derived.ChangeOld
import Derived.WideShapes
import Derived.ProofKit
import Derived.SizedLaws
import Derived.LoopN
import Derived.Deep.RegionWith
import Derived.BigCall
set_option linter.unusedVariables false
set_option linter.unusedSimpArgs false
namespace Go.Proofs.YtebidpcmcekbgaaDoor.P
open Go.RowKit Go.Shelf Go.Maps Go.Proofs.YtebidpcmcekbgaaDoorW.PrintWords Go.Proofs.YtebidpcmcekbgaaDoorW.PrintLast Go.Proofs.YtebidpcmcekbgaaDoorW.PrintMore
set_option linter.unusedVariables false
set_option linter.unusedSimpArgs false
set_option maxHeartbeats 2000000 in
theorem Apply_ok (s : ByteArray) (A : Option Addr) (c : Nat) (l : List Sp) (k : Nat) (w : World) (hr : Kd.C k60 w A l.length l) (hc : l.length ≤ c) (hs : s.size ≤ 1000000000) (hll : l.length ≤ 1000000000) (h : lex_splices.f k s l = some 0) (ho : OrdS s.size l 0) (hb : (splB s l 0).length ≤ 1000000000) :
    Calls Tryd.prog 23 #[.string s, .slice A l.length c] w fun e w' => e = .returned (.tuple #[.string (splM s l), .int .i64 0]) ∧ Below w.heap.size w w' := by
  have h1 := lex_splices.calls k s A c l 0 w hr hc h
  have h2 := fun W (h : Below w.heap.size w W) => spliced_any s A c l W (Kd.C_below hr h) hs hll ho hb
  generalize splM s l = out at *
  clear hr ho hb h
  go_enter Tryd.func23, Tryd.ntmps23
  go_wp2_with (first | (go_at_call 54; refine h1.mono ?_; rintro e w1 ⟨rfl, hb1⟩) | (go_at_call 49; refine (h2 _ hb1).mono ?_; rintro e w2 ⟨rfl, hb2⟩))
  go_ret2
  exact ⟨rfl, hb1.trans (hb2.mono hb1.size)⟩
set_option maxHeartbeats 2000000 in
theorem Apply_bad (s : ByteArray) (A : Option Addr) (c : Nat) (l : List Sp) (k : Nat) (e0 : Int) (w : World) (hr : Kd.C k60 w A l.length l) (hc : l.length ≤ c) (h : lex_splices.f k s l = some e0) (h0 : e0 ≠ 0) :
    Calls Tryd.prog 23 #[.string s, .slice A l.length c] w fun e w' => e = .returned (.tuple #[.string ⟨#[]⟩, .int .i64 e0]) ∧ Below w.heap.size w w' := by
  have h1 := lex_splices.calls k s A c l e0 w hr hc h
  have hb1 : (e0 == 0) = false := beq_false_of_ne h0
  have hb2 : (e0 != 0) = true := bne_iff_ne.2 h0
  clear hr h
  go_enter Tryd.func23, Tryd.ntmps23
  go_wp2_with (go_at_call 54; refine h1.mono ?_; rintro e w1 ⟨rfl, hb1⟩)
  go_ret2
  exact ⟨rfl, hb1⟩
/-! ### The document's examples -/
def eT1 : ByteArray := ⟨#[120, 58, 61, 49, 32, 126, 97]⟩
def eT2 : ByteArray := ⟨#[120, 32, 126, 97]⟩
def eT3 : ByteArray := ⟨#[97, 98, 99]⟩
def eT4 : ByteArray := ⟨#[120, 32, 43, 32, 120, 115]⟩
def eL1 : List Tk := [⟨1, ⟨#[120]⟩, 0⟩, ⟨4, ⟨#[58, 61]⟩, 1⟩, ⟨2, ⟨#[49]⟩, 3⟩]
def eL2 : List Tk := [⟨5, ⟨#[97]⟩, 2⟩]
def eS : List Sp := [⟨1, 2, ⟨#[120, 121]⟩⟩]
theorem ex1 : toksM kwM eT1 = (eL1, 0, 0) := by kernel_rfl
theorem ex2 : notesM eT2 = (eL2, 0) := by kernel_rfl
theorem ex3 : lex_splices.f 60 eT3 eS = some 0 := by kernel_rfl
theorem ex4 : splM eT3 eS = ⟨#[97, 120, 121, 99]⟩ := by kernel_rfl
theorem ex5 : renM eT4 ⟨#[120]⟩ ⟨#[121]⟩ = (⟨#[121, 32, 43, 32, 120, 115]⟩, 0) := by kernel_rfl
set_option maxRecDepth 8000 in
set_option maxHeartbeats 8000000 in
theorem awake_any (w : World) (hg : Gl w) : Calls Tryd.prog 11 #[] w fun e w' => e = .returned (.bool true) ∧ Below w.heap.size w w' := by
  have HG := Aside0.mk hg
  have hT := Tokens_any eT1 w hg (by decide)
  rw [ex1] at hT
  have hN := Aside0.mk (fun W => Notes_any eT2 W (by decide))
  rw [ex2] at hN
  have hA := Aside0.mk (fun (A : Option Addr) (c : Nat) (W : World) (h : Kd.C k60 W A eS.length eS) (hc : eS.length ≤ c) => Apply_ok eT3 A c eS 60 W h hc (by decide) (by decide) ex3 (by unfold eS OrdS OrdS; decide) (by rw [show splB eT3 eS 0 = (splM eT3 eS).data.toList from rfl, ex4]; decide))
  rw [ex4] at hA
  have hR := Aside0.mk (fun (W : World) (h : Gl W) => Rename_any eT4 ⟨#[120]⟩ ⟨#[121]⟩ W h (by decide) (by decide) (by decide))
  rw [ex5] at hR
  have hS1 := Aside0.mk (fun (A0 A1 : Option Addr) (c0 c1 : Nat) (W : World) (h0 : Kd.C k58 W A0 eL1.length eL1) (hc0 : eL1.length ≤ c0) (h1 : Kd.C k58 W A1 eL1.length eL1) (hc1 : eL1.length ≤ c1) => riposteref01_SameTokens.calls 20 A0 c0 eL1 A1 c1 eL1 true W h0 hc0 h1 hc1 (rSame eL1 (by decide) 20 (by decide)))
  have hS2 := Aside0.mk (fun (A0 A1 : Option Addr) (c0 c1 : Nat) (W : World) (h0 : Kd.C k58 W A0 eL2.length eL2) (hc0 : eL2.length ≤ c0) (h1 : Kd.C k58 W A1 eL2.length eL2) (hc1 : eL2.length ≤ c1) => riposteref01_SameTokens.calls 20 A0 c0 eL2 A1 c1 eL2 true W h0 hc0 h1 hc1 (rSame eL2 (by decide) 20 (by decide)))
  clear hg
  go_enter Tryd.func11, Tryd.ntmps11
  go_wp2_with (first | (go_at_call 12; refine hT.mono ?_; rintro e w1 ⟨tv, rfl, hrt, hb1'⟩; have HB1 := Aside0.mk hb1'; have HT1 := Aside0.mk hrt; obtain ⟨TA, TC, rfl⟩ := Kd.R_slice hrt; clear hrt hb1') | (go_at_call 14; refine (hN.out _).mono ?_; rintro e w2 ⟨nv, rfl, hrn, hb2'⟩; have HB2 := Aside0.mk (HB1.out.trans (hb2'.mono HB1.out.size)); have HT2 := Aside0.mk (Kd.C_below (Kd.R_reads' HT1.out).2.2 hb2'); have HN2 := Aside0.mk hrn; obtain ⟨NA, NC, rfl⟩ := Kd.R_slice hrn; clear hrn hb2') | ((with_reducible refine gate_dst (N := 21) rfl ?_); refine Kd.R_lit k60 _ 60 ?hg (N := 21) ?hd (xs := eS) (inner := [.int .i64 1, .int .i64 2, .string ⟨#[120, 121]⟩]) (ok := fun _ => True) (okp := fun _ => True) ?hr ?hp (fun _ hk => hk) trivial (Below.refl _ _) (Nat.le_refl _) (by decide) ?_; (case hd => rfl); (case hg => rfl); (case hr => first | (go_simp; done) | (go_simp; rfl)); (case hp => exact (Reps.c3 (k60_mkM _ _ _ _) (Reps.none _ _))); intro v3 w3 ho3 hb3 hg_ hnew_; clear hg_ hnew_; have HB3 := Aside0.mk (HB2.out.trans (hb3.mono HB2.out.size)); have HT3 := Aside0.mk (Kd.C_below HT2.out hb3); have HN3 := Aside0.mk (Kd.C_below (Kd.R_reads' HN2.out).2.2 hb3); have HO3 := Aside0.mk ho3; obtain ⟨SA, SC, rfl⟩ := Kd.R_slice ho3; clear ho3 hb3) | (go_at_call 23; refine (hA.out SA SC _ (Kd.R_reads' HO3.out).2.2 (Kd.R_reads' HO3.out).2.1).mono ?_; rintro e w4 ⟨rfl, hb4⟩; have HB4 := Aside0.mk (HB3.out.trans (hb4.mono HB3.out.size)); have HT4 := Aside0.mk (Kd.C_below HT3.out hb4); have HN4 := Aside0.mk (Kd.C_below HN3.out hb4); clear hb4) | (go_at_call 17; refine (hR.out _ (HG.out.mono HB4.out)).mono ?_; rintro e w5 ⟨rfl, hb5⟩; have HB5 := Aside0.mk (HB4.out.trans (hb5.mono HB4.out.size)); have HT5 := Aside0.mk (Kd.C_below HT4.out hb5); have HN5 := Aside0.mk (Kd.C_below HN4.out hb5); clear hb5) | ((with_reducible refine gate_dst (N := 36) rfl ?_); (try (refine gate_guard (by rfl) ?_; dsimp only)); refine Kd.R_lit k58 _ 58 ?hg (N := 36) ?hd (xs := eL1) (inner := [.int .u8 1, .string ⟨#[120]⟩, .int .i64 0, .int .u8 4, .string ⟨#[58, 61]⟩, .int .i64 1, .int .u8 2, .string ⟨#[49]⟩, .int .i64 3]) (ok := fun _ => True) (okp := fun _ => True) ?hr ?hp (fun _ hk => hk) trivial (Below.refl _ _) (Nat.le_refl _) (by decide) ?_; (case hd => rfl); (case hg => rfl); (case hr => first | (go_simp; done) | (go_simp; rfl)); (case hp => exact (Reps.c3 (k58_mkM _ _ _ _) (Reps.c3 (k58_mkM _ _ _ _) (Reps.c3 (k58_mkM _ _ _ _) (Reps.none _ _))))); intro v6 w6 ho6 hb6 hg_ hnew_; clear hg_ hnew_; have HB6 := Aside0.mk (HB5.out.trans (hb6.mono HB5.out.size)); have HT6 := Aside0.mk (Kd.C_below HT5.out hb6); have HN6 := Aside0.mk (Kd.C_below HN5.out hb6); have HO6 := Aside0.mk ho6; obtain ⟨LA, LC, rfl⟩ := Kd.R_slice ho6; clear ho6 hb6) | (go_at_call 16; (with_reducible refine (hS1.out TA LA TC LC _ HT6.out (Kd.R_reads' HT1.out).2.1 (Kd.R_reads' HO6.out).2.2 (Kd.R_reads' HO6.out).2.1).mono ?_); rintro e w' ⟨rfl, ⟨nd7, rfl⟩⟩; have HB7 := Aside0.mk (pw_below_drewN HB6.out nd7); have HN7 := Aside0.mk (Kd.C_drewN HN6.out nd7)) | ((with_reducible refine gate_dst (N := 46) rfl ?_); (try (refine gate_guard (by rfl) ?_; dsimp only)); refine Kd.R_lit k58 _ 58 ?hg (N := 46) ?hd (xs := eL2) (inner := [.int .u8 5, .string ⟨#[97]⟩, .int .i64 2]) (ok := fun _ => True) (okp := fun _ => True) ?hr ?hp (fun _ hk => hk) trivial (Below.refl _ _) (Nat.le_refl _) (by decide) ?_; (case hd => rfl); (case hg => rfl); (case hr => first | (go_simp; done) | (go_simp; rfl)); (case hp => exact (Reps.c3 (k58_mkM _ _ _ _) (Reps.none _ _))); intro v8 w8 ho8 hb8 hg_ hnew_; clear hg_ hnew_; have HB8 := Aside0.mk (HB7.out.trans (hb8.mono HB7.out.size)); have HN8 := Aside0.mk (Kd.C_below HN7.out hb8); have HO8 := Aside0.mk ho8; obtain ⟨MA, MC, rfl⟩ := Kd.R_slice ho8; clear ho8 hb8) | (go_at_call 16; refine (hS2.out NA MA NC MC _ HN8.out (Kd.R_reads' HN2.out).2.1 (Kd.R_reads' HO8.out).2.2 (Kd.R_reads' HO8.out).2.1).mono ?_; rintro e w' ⟨rfl, ⟨nd9, rfl⟩⟩; have HB9 := Aside0.mk (pw_below_drewN HB8.out nd9)))
  go_ret
  exact ⟨rfl, HB9.out⟩
end Go.Proofs.YtebidpcmcekbgaaDoor.P
namespace Go.Proofs.YtebidpcmcekbgaaDoor.P
open Go.RowKit Go.Proofs.YtebidpcmcekbgaaDoorW.PrintWords Go.Proofs.YtebidpcmcekbgaaDoorW.PrintLast Go.Proofs.YtebidpcmcekbgaaDoorW.PrintMore
attribute [local go_sem] min2_int min_two -- for this text's walks alone
set_option linter.unusedVariables false
set_option linter.unusedSimpArgs false

attribute [local go_sem high] eqA60
/-! ### riposteref01_Diff: function 20 -/

/-! ### riposteref01_SameSplices: function 21 -/

-- NOT PRINTED: function 5 (ripostelaw01_LexDiffs)

/-! ### ripostelaw01_few: function 22 -/

end Go.Proofs.YtebidpcmcekbgaaDoor.P
namespace Go.Proofs.YtebidpcmcekbgaaDoor.P
open Go.RowKit Go.Proofs.YtebidpcmcekbgaaDoorW.PrintWords
set_option linter.unusedVariables false
set_option linter.unusedSimpArgs false
/-- By how much a text grows. -/
def gr (x : Sp) : Int := (x.f2.size : Int) - (x.f1 - x.f0)
def rngB (n : Nat) : List Sp → Int → Bool
  | [], _ => true
  | x :: r, a => decide (a ≤ x.f0) && (decide (x.f0 ≤ x.f1) && (decide (x.f1 ≤ (n : Int)) && rngB n r x.f1))
def tailE : Int → List Sp → Int
  | n, [] => if n > 2500 then 5 else 0
  | n, x :: r => if badAt x.f2 x.f2.size 0 = none then tailE (n + gr x) r else 2
/-- The error of a text and of splices for it. -/
def splE (s : ByteArray) (l : List Sp) : Int :=
  if (chkT s).2 = 0 then (if 40 < l.length then 5 else if rngB s.size l 0 = true then tailE s.size l else 3) else (chkT s).2
theorem rngB_ord {n : Nat} : ∀ {l : List Sp} {a : Int}, rngB n l a = true → 0 ≤ a → a ≤ n → OrdS n l a
  | [], a, _, h0, h1 => ⟨h0, h1⟩
  | x :: r, a, h, h0, h1 => by
    unfold rngB at h
    simp only [Bool.and_eq_true, decide_eq_true_eq] at h
    obtain ⟨a1, a2, a3, a4⟩ := h
    exact ⟨h0, a1, a2, a3, rngB_ord a4 (by omega) a3⟩
theorem ord_rngB {n : Nat} : ∀ {l : List Sp} {a : Int}, OrdS n l a → rngB n l a = true
  | [], a, _ => rfl
  | x :: r, a, h => by
    obtain ⟨h0, h1, h2, h3, h4⟩ := h
    unfold rngB
    rw [decide_eq_true h1, decide_eq_true h2, decide_eq_true h3, ord_rngB h4]; rfl
/-- What is known of splices in range. -/
def BdS (x : Sp) : Prop := 0 ≤ x.f0 ∧ x.f0 ≤ x.f1 ∧ x.f1 ≤ 3000 ∧ x.f2.size ≤ 3000
theorem OrdS.bd {n : Nat} (hn : n ≤ 3000) : ∀ {l : List Sp} {a : Int}, OrdS n l a → (∀ x ∈ l, x.f2.size ≤ 3000) → ∀ x ∈ l, BdS x
  | [], _, _, _, x, hx => by cases hx
  | y :: r, a, h, hs, x, hx => by
    obtain ⟨h0, h1, h2, h3, h4⟩ := h
    rcases List.mem_cons.1 hx with rfl | hx
    · exact ⟨by omega, h2, by omega, hs _ List.mem_cons_self⟩
    · exact h4.bd hn (fun z hz => hs z (List.mem_cons_of_mem _ hz)) x hx
theorem BdS.gr {x : Sp} (h : BdS x) : -3000 ≤ gr x ∧ gr x ≤ 3000 := by
  obtain ⟨h0, h1, h2, h3⟩ := h
  unfold P.gr; omega
theorem gr_wrap {x : Sp} (h : BdS x) : wrap64 ((x.f2.size : Int) - wrap64 (x.f1 - x.f0)) = gr x := by
  obtain ⟨h0, h1, h2, h3⟩ := h
  unfold gr
  rw [w64 (x := x.f1 - x.f0) (by omega) (by omega), w64 (by omega) (by omega)]
theorem rd48_mem (l : List Sp) (i : Nat) (h : i < l.length) : rd_T60 l (i : Int) ∈ l :=
  List.mem_of_mem_drop (i := i) (by rw [drop_rd l i h]; exact List.mem_cons_self)
theorem up1 (i : Nat) (n : Nat) (h : i < n) (hn : n ≤ 140737488351232) : wrap64 ((i : Int) + 1) = ((i + 1 : Nat) : Int) := by rw [w64 (by omega) (by omega)]; omega
/-! ### The program's splices -/
theorem pGrown {x : Sp} (h : BdS x) : lex_splice_grown.f x.f0 x.f1 x.f2 = some (gr x) := by
  unfold lex_splice_grown.f
  rw [gr_wrap h]
theorem pL2 (n : Int) (l : List Sp) (i : Nat) (x : Sp) (hx : BdS x) (m : Nat) (hm : 6 ≤ m) : ∀ (d j : Nat), x.f2.size - j = d → j ≤ x.f2.size →
    lex_splices.l2 (d + 1 + m) n l (l.length : Int) (i : Int) (x.f2.size : Int) (j : Int) x.f0 x.f1 x.f2 = if badAt x.f2 d j = none then lex_splices.l1 m (wrap64 (n + gr x)) l (l.length : Int) (wrap64 ((i : Int) + 1)) else some 2 := by
  have hs := hx.2.2.2
  intro d
  induction d with
  | zero =>
    intro j hd hj
    rw [show 0 + 1 + m = m + 1 by omega, lex_splices.l2.eq_2, if_neg (by omega), pGrown hx]
    unfold badAt
    rw [if_pos rfl]; rfl
  | succ d ih =>
    intro j hd hj
    have e2 := up1 j x.f2.size (by omega) (by omega)
    rw [show d + 1 + 1 + m = (d + 1 + m) + 1 by omega, lex_splices.l2.eq_2, if_pos (by omega), if_pos (by omega), if_pos (by omega), pIsByte _ _ (by omega)]
    simp only [Option.bind_some]
    unfold badAt
    rw [if_pos (show j < x.f2.size by omega)]
    cases h : okB (bt x.f2 (j : Int)) with
    | true => rw [if_pos rfl, if_pos rfl, e2]; exact ih (j + 1) (by omega) (by omega)
    | false => rw [if_neg Bool.false_ne_true, if_neg Bool.false_ne_true, if_neg (show ¬ (some j = none) from fun e => by cases e)]
/-- The fuel that texts need. -/
def need : List Sp → Nat
  | [] => 0
  | x :: r => x.f2.size + 2 + need r
theorem need_nil : need [] = 0 := rfl
theorem need_cons (x : Sp) (r : List Sp) : need (x :: r) = x.f2.size + 2 + need r := rfl
theorem pL1 (l : List Sp) (hb : ∀ x ∈ l, BdS x) (hl : l.length ≤ 1000) (m : Nat) (hm : 6 ≤ m) : ∀ (d i : Nat) (n : Int), l.length - i = d → i ≤ l.length → -100000000 ≤ n - 3000 * d → n + 3000 * d ≤ 100000000 →
    lex_splices.l1 (need (l.drop i) + 1 + m) n l (l.length : Int) (i : Int) = some (tailE n (l.drop i)) := by
  intro d
  induction d with
  | zero =>
    intro i n hd hi h1 h2
    rw [List.drop_eq_nil_of_le (show l.length ≤ i by omega), show need [] + 1 + m = m + 1 from by first | (rw [need_cons]; omega) | (rw [need_nil]; omega), lex_splices.l1.eq_2, if_neg (by omega)]
    unfold tailE
    split <;> rfl
  | succ d ih =>
    intro i n hd hi h1 h2
    have hlt : i < l.length := by omega
    have hx := hb _ (rd48_mem l i hlt)
    have hg := hx.gr
    have e2 := up1 i l.length hlt (by omega)
    rw [drop_rd l i hlt]
    generalize hy : rd_T60 l (i : Int) = y at *
    rw [show need (y :: l.drop (i + 1)) + 1 + m = (y.f2.size + 1 + (need (l.drop (i + 1)) + 1 + m)) + 1 from by first | (rw [need_cons]; omega) | (rw [need_nil]; omega), lex_splices.l1.eq_2, if_pos (by omega), if_pos (by omega), if_pos (by omega), hy]
    have := pL2 n l i y hx (need (l.drop (i + 1)) + 1 + m) (by omega) y.f2.size 0 (by omega) (by omega)
    rw [show ((0 : Nat) : Int) = 0 from rfl] at this
    rw [this]
    unfold tailE
    by_cases c : badAt y.f2 y.f2.size 0 = none
    · rw [if_pos c, if_pos c, e2, w64 (x := n + gr y) (by omega) (by omega)]
      exact ih (i + 1) _ (by omega) (by omega) (by omega) (by omega)
    · rw [if_neg c, if_neg c]
theorem pL0 (s : ByteArray) (hs : s.size ≤ 140737488351232) (l : List Sp) (hl : l.length ≤ 1000) (m : Nat) : ∀ (d i : Nat) (a : Int), l.length - i = d → i ≤ l.length →
    lex_splices.l0 (d + 1 + m) s l a (s.size : Int) l (l.length : Int) (i : Int) = if rngB s.size (l.drop i) a = true then lex_splices.l1 m (s.size : Int) l (l.length : Int) 0 else some 3 := by
  intro d
  induction d with
  | zero =>
    intro i a hd hi
    rw [List.drop_eq_nil_of_le (show l.length ≤ i by omega), show 0 + 1 + m = m + 1 by omega, lex_splices.l0.eq_2, if_neg (by omega), if_pos (show rngB s.size [] a = true from rfl)]
  | succ d ih =>
    intro i a hd hi
    have hlt : i < l.length := by omega
    have e2 := up1 i l.length hlt (by omega)
    rw [drop_rd l i hlt, show d + 1 + 1 + m = (d + 1 + m) + 1 by omega, lex_splices.l0.eq_2, if_pos (by omega), if_pos (by omega), if_pos (by omega)]
    generalize hy : rd_T60 l (i : Int) = y
    unfold rngB
    by_cases c1 : y.f0 < a
    · rw [if_pos c1, decide_eq_false (show ¬ a ≤ y.f0 by omega)]; rfl
    · rw [if_neg c1, decide_eq_true (show a ≤ y.f0 by omega)]
      by_cases c2 : y.f1 < y.f0
      · rw [if_pos c2, decide_eq_false (show ¬ y.f0 ≤ y.f1 by omega)]; rfl
      · rw [if_neg c2, decide_eq_true (show y.f0 ≤ y.f1 by omega)]
        by_cases c3 : y.f1 > (s.size : Int)
        · rw [if_pos c3, decide_eq_false (show ¬ y.f1 ≤ (s.size : Int) by omega)]; rfl
        · rw [if_neg c3, decide_eq_true (show y.f1 ≤ (s.size : Int) by omega), e2, ih (i + 1) _ (by omega) (by omega)]; rfl
theorem pSplices (s : ByteArray) (l : List Sp) (hs : s.size ≤ 3000) (hl : l.length ≤ 1000) (hx : ∀ x ∈ l, x.f2.size ≤ 3000) : lex_splices.f (l.length + 1 + (need l + 1 + 4000)) s l = some (splE s l) := by
  unfold lex_splices.f splE
  rw [pCheck s (by omega) _ (by omega)]
  simp only [Option.bind_some]
  by_cases c : (chkT s).2 = 0
  · rw [if_pos c, if_pos c]
    by_cases c2 : 40 < l.length
    · rw [if_pos (by omega), if_pos c2]
    · rw [if_neg (by omega), if_neg c2]
      have h0 := pL0 s (by omega) l hl (need l + 1 + 4000) l.length 0 0 (by omega) (by omega)
      rw [List.drop_zero] at h0
      refine h0.trans ?_
      by_cases c3 : rngB s.size l 0 = true
      · rw [if_pos c3, if_pos c3]
        have hO := rngB_ord c3 (Int.le_refl _) (by omega)
        have h1 := pL1 l (hO.bd hs hx) hl 4000 (by omega) l.length 0 (s.size : Int) (by omega) (by omega) (by omega) (by omega)
        rw [List.drop_zero] at h1
        exact h1
      · rw [if_neg c3, if_neg c3]
  · rw [if_neg c, if_neg c]
/-! ### The reference's -/
theorem splE_ord {s : ByteArray} {l : List Sp} (h : splE s l = 0) : (chkT s).2 = 0 ∧ l.length ≤ 40 ∧ OrdS s.size l 0 ∧ tailE s.size l = 0 := by
  unfold splE at h
  by_cases c : (chkT s).2 = 0
  · rw [if_pos c] at h
    by_cases c2 : 40 < l.length
    · rw [if_pos c2] at h; exact absurd h (by decide)
    · rw [if_neg c2] at h
      by_cases c3 : rngB s.size l 0 = true
      · rw [if_pos c3] at h
        exact ⟨c, by omega, rngB_ord c3 (Int.le_refl _) (by omega), h⟩
      · rw [if_neg c3] at h; exact absurd h (by decide)
  · rw [if_neg c] at h; exact absurd h c
end Go.Proofs.YtebidpcmcekbgaaDoor.P
namespace Go.Proofs.YtebidpcmcekbgaaDoor.P
open Go.RowKit Go.Proofs.YtebidpcmcekbgaaDoorW.PrintWords
set_option linter.unusedVariables false
set_option linter.unusedSimpArgs false
attribute [local irreducible] gr
/-- lex.Apply. -/
def appM (s : ByteArray) (l : List Sp) : ByteArray × Int := if splE s l = 0 then (splM s l, 0) else (⟨#[]⟩, splE s l)
/-! ### Where a byte goes -/
def mvd (p : Int) : List Sp → Int → Int × Int
  | [], n => (n, 0)
  | x :: r, n => if x.f1 ≤ p then mvd p r (n + gr x) else if x.f0 ≤ p then (0, 7) else mvd p r n
/-! ### What leads back -/
def unS (s : ByteArray) : List Sp → Int → List Sp
  | [], _ => []
  | x :: r, m => ⟨x.f0 + m, x.f0 + m + (x.f2.size : Int), s.extract x.f0.toNat x.f1.toNat⟩ :: unS s r (m + gr x)
theorem unS_length (s : ByteArray) : ∀ (l : List Sp) (m : Int), (unS s l m).length = l.length
  | [], _ => rfl
  | x :: r, m => by unfold unS; rw [List.length_cons, List.length_cons, unS_length s r]
theorem OrdS.in {n : Nat} : ∀ {l : List Sp} {a : Int}, OrdS n l a → ∀ x ∈ l, a ≤ x.f0 ∧ x.f0 ≤ x.f1 ∧ x.f1 ≤ (n : Int)
  | [], _, _, x, hx => by cases hx
  | y :: r, a, h, x, hx => by
    obtain ⟨h0, h1, h2, h3, h4⟩ := h
    rcases List.mem_cons.1 hx with rfl | hx
    · exact ⟨h1, h2, h3⟩
    · have := h4.in x hx
      exact ⟨by omega, this.2⟩
theorem splE_bd {s : ByteArray} {l : List Sp} (h : splE s l = 0) (hx : ∀ x ∈ l, x.f2.size ≤ 3000) : ∀ x ∈ l, BdS x ∧ x.f1 ≤ (s.size : Int) := by
  obtain ⟨h1, h2, h3, h4⟩ := splE_ord h
  have hs := ((chk_iff s).1 h1).1
  exact fun x hm => ⟨h3.bd (by omega) hx x hm, (h3.in x hm).2.2⟩
/-! ### Lists of splices compared; few -/
end Go.Proofs.YtebidpcmcekbgaaDoor.P
namespace Go.Proofs.YtebidpcmcekbgaaDoor.P
open Go.RowKit Go.Proofs.YtebidpcmcekbgaaDoorW.PrintWords
set_option linter.unusedVariables false
set_option linter.unusedSimpArgs false
theorem copy_step {s t : ByteArray} {R : List Sp} {i n m : Nat} (hO : OrdS s.size R ((i + n : Nat) : Int)) (hm : m ≤ t.size) (h : Lr t m = splB s R (i : Int)) :
    m + n ≤ t.size ∧ Lr t (m + n) = splB s R ((i + n : Nat) : Int) ∧ (∀ k, k < n → bt t ((m + k : Nat) : Int) = bt s ((i + k : Nat) : Int)) ∧ t.extract m (m + n) = s.extract i (i + n) ∧ Lr t m = (s.extract i (i + n)).data.toList ++ splB s R ((i + n : Nat) : Int) := by
  have hle := hO.range.2
  rw [splB_skip s R i n hO] at h
  have hz : (s.extract i (i + n)).size = n := by rw [size_ex]; omega
  obtain ⟨h1, h2, h3, -⟩ := begT_Lr hm h
  rw [hz] at h2 h3
  refine ⟨h2, h3, fun k hk => ?_, ?_, h⟩
  · rw [bt_Lr t m k, h, List.getElem?_append_left (by rw [data_length, hz]; exact hk), ← bt_list, bt_ex s i (i + n) k (by omega)]
  · have := begT_ex h1
    rw [hz, ex_ex t m t.size 0 n (by omega), Nat.add_zero] at this
    exact this
theorem back_step {s t : ByteArray} {R : List Sp} {i n m : Nat} (hi : i + n ≤ s.size) (hO : OrdS t.size R ((m + n : Nat) : Int)) (he : t.extract m (m + n) = s.extract i (i + n)) (h : splB t R ((m + n : Nat) : Int) = Lr s (i + n)) : splB t R (m : Int) = Lr s i := by
  rw [splB_skip t R m n hO, he, h, ← Lr_split s i n hi]
theorem nat_off (i m n : Nat) : ((m + n : Nat) : Int) - ((i + n : Nat) : Int) = (m : Int) - (i : Int) := by omega
set_option maxHeartbeats 1000000 in
theorem scan_ren (s old name : ByteArray) (ho : nameB old = true) (hn : nameB name = true) {i j : Nat} {l : List Tk} (h : Scan s i l j) (hj : j = s.size) (hno : ∀ x ∈ l, x.f1 ≠ name) : ∀ (t : ByteArray) (m : Nat), i ≤ s.size → m ≤ t.size → Lr t m = splB s (renS old name l) (i : Int) →
    Scan t m (mvT old name l ((m : Int) - (i : Int))) t.size ∧ splB t (renS name old (mvT old name l ((m : Int) - (i : Int)))) (m : Int) = Lr s i := by
  induction h with
  | done i =>
    intro t m hi hm hL
    have e : splB s (renS old name []) (i : Int) = Lr s i := by
      rw [show renS old name ([] : List Tk) = [] from rfl, splB, Int.toNat_natCast, Lr_ex]
    rw [e] at hL
    have h1 := Lr_len t m
    have h2 := Lr_len s i
    rw [hL, h2] at h1
    obtain rfl : m = t.size := by omega
    refine ⟨.done _, ?_⟩
    show splB t (renS name old ([] : List Tk)) (t.size : Int) = _
    rw [show renS name old ([] : List Tk) = [] from rfl, splB, Int.toNat_natCast, Lr_ex]
    exact hL
  | @blank i j l h1 h2 h3 ih =>
    intro t m hi hm hL
    have hO := renS_ord s.size old name l _ ((i + 1 : Nat) : Int) (h3.ord (by omega)) (by omega) (Int.le_refl _)
    obtain ⟨c1, c2, c3, c4, -⟩ := copy_step hO hm hL
    obtain ⟨r1, r2⟩ := ih hj hno t (m + 1) (by omega) c1 c2
    rw [nat_off] at r1 r2
    have e : bt t (m : Int) = bt s (i : Int) := c3 0 Nat.one_pos
    refine ⟨.blank (by omega) (by rw [e]; exact h2) r1, back_step (by omega) (renS_ord _ _ _ _ _ _ (r1.ord (Nat.le_refl _)) (by omega) (Int.le_refl _)) c4 r2⟩
  | @note i j l h1 h2 h3 ih =>
    intro t m hi hm hL
    have hp := noteL_pos s i h1 h2
    have hle := noteL_le s i hi
    have hO := renS_ord s.size old name l _ ((i + noteL s i : Nat) : Int) (h3.ord (by omega)) (by omega) (Int.le_refl _)
    obtain ⟨c1, c2, c3, c4, -⟩ := copy_step hO hm hL
    obtain ⟨r1, r2⟩ := ih hj hno t (m + noteL s i) hle c1 c2
    rw [nat_off] at r1 r2
    have e : bt t (m : Int) = bt s (i : Int) := c3 0 hp
    obtain ⟨n1, n2⟩ := noteL_in s i
    have hN : noteL t m = noteL s i := by
      refine noteL_uniq t m _ (fun k hk => ⟨by omega, by rw [c3 k hk]; exact (n1 k hk).2⟩) ?_
      rcases n2 with n2 | n2
      · refine .inl ?_
        have hl := h3.end_nil n2
        subst hl
        rw [show renS old name ([] : List Tk) = [] from rfl, splB, Int.toNat_natCast, Lr_ex] at c2
        have q1 := Lr_len t (m + noteL s i)
        have q2 := Lr_len s (i + noteL s i)
        rw [c2, q2] at q1
        omega
      · refine .inr ?_
        rcases head_spl s old name ho hn h3 hj t (m + noteL s i) c2 with q | ⟨q, -⟩
        · rw [q]; exact n2
        · rw [n2] at q; exact absurd q (by decide)
    refine ⟨.note (by omega) (by rw [e]; exact h2) (by rw [hN]; exact r1), back_step hle (renS_ord _ _ _ _ _ _ (r1.ord (Nat.le_refl _)) (by omega) (Int.le_refl _)) c4 r2⟩
  | @tok i j l k z h1 h2 h3 h4 h5 ih =>
    intro t m hi hm hL
    have hz := tok_size h4
    obtain ⟨f1, f2, f3, f4, f5⟩ := firstM_self kwM h4
    obtain ⟨g1, g2⟩ := Lr_begT hi f2
    rw [(begT_Lr hi g1).2.2.2] at f3
    have hno' : ∀ x ∈ l, x.f1 ≠ name := fun x hx => hno x (List.mem_cons_of_mem _ hx)
    by_cases c : z = old
    · subst c
      have hk1 : k = 1 := congrArg (fun y => y.1.1) (f1.symm.trans (name_self ho))
      subst hk1
      rw [renS_cons_pos z name _ _ rfl, splB] at hL
      simp only [Int.toNat_natCast] at hL
      rw [ex_empty s i i (.inl (Nat.le_refl _))] at hL
      replace hL : Lr t m = name.data.toList ++ splB s (renS z name l) ((i + z.size : Nat) : Int) := hL
      obtain ⟨b1, b2, b3, b4⟩ := begT_Lr hm hL
      obtain ⟨r1, r2⟩ := ih hj hno' t (m + name.size) hz.2 b2 b3
      have hoff : (m : Int) - (i : Int) + ((name.size : Int) - (z.size : Int)) = ((m + name.size : Nat) : Int) - ((i + z.size : Nat) : Int) := by omega
      have hmv : mvT z name (⟨1, z, (i : Int)⟩ :: l) ((m : Int) - (i : Int)) = ⟨1, name, (m : Int)⟩ :: mvT z name l (((m + name.size : Nat) : Int) - ((i + z.size : Nat) : Int)) := by
        rw [mvT]
        simp only [if_true]
        rw [hoff, show (i : Int) + ((m : Int) - (i : Int)) = (m : Int) by omega]
      rw [hmv]
      have hfn := name_self hn
      obtain ⟨-, -, -, hn0, -⟩ := firstM_self kwM hfn
      have hnx : nxB 1 name (bt (t.extract m t.size) (name.size : Int)) = true := by
        rw [b4]
        have : nxB 1 name (bt s ((i + z.size : Nat) : Int)) = true := f3
        exact nx_swap this (head_spl s z name ho hn h5 hj t _ b3)
      have hb0 : bt t (m : Int) = bt name 0 := by
        rw [bt_head, hL, List.getElem?_append_left (by rw [data_length]; exact hn0), show (0 : Int) = ((0 : Nat) : Int) from rfl, bt_list]
      obtain ⟨w1, w2, w3, -⟩ := sm_word (name_small hn).1
      refine ⟨.tok (by omega) (by rw [hb0]; exact w2) (by rw [hb0]; exact w3) (firstM_of kwM hfn b1 hnx) r1, ?_⟩
      rw [renS_cons_pos name z _ _ rfl, splB]
      simp only [Int.toNat_natCast]
      rw [ex_empty t m m (.inl (Nat.le_refl _)), g1]
      show z.data.toList ++ splB t (renS name z (mvT z name l (((m + name.size : Nat) : Int) - ((i + z.size : Nat) : Int)))) ((m + name.size : Nat) : Int) = _
      rw [r2]
    · have hzn : z ≠ name := hno _ List.mem_cons_self
      rw [renS_cons_neg old name _ _ c] at hL
      have hO := renS_ord s.size old name l _ ((i + z.size : Nat) : Int) (h5.ord (by omega)) (by omega) (Int.le_refl _)
      obtain ⟨c1, c2, c3, c4, c5⟩ := copy_step hO hm hL
      have hze : s.extract i (i + z.size) = z := by
        have := begT_ex f2
        rw [ex_ex s i s.size 0 z.size (by omega), Nat.add_zero] at this
        exact this
      rw [hze] at c5
      obtain ⟨b1, b2, b3, b4⟩ := begT_Lr hm c5
      obtain ⟨r1, r2⟩ := ih hj hno' t (m + z.size) hz.2 c1 c2
      rw [nat_off] at r1 r2
      have hmv : mvT old name (⟨k, z, (i : Int)⟩ :: l) ((m : Int) - (i : Int)) = ⟨k, z, (m : Int)⟩ :: mvT old name l ((m : Int) - (i : Int)) := by
        rw [mvT]
        simp only [if_neg c]
        rw [show (i : Int) + ((m : Int) - (i : Int)) = (m : Int) by omega]
      rw [hmv]
      have hnx : nxB k z (bt (t.extract m t.size) (z.size : Int)) = true := by
        rw [b4]
        exact nx_swap f3 (head_spl s old name ho hn h5 hj t _ b3)
      have e : bt t (m : Int) = bt s (i : Int) := c3 0 hz.1
      refine ⟨.tok (by omega) (by rw [e]; exact h2) (by rw [e]; exact h3) (firstM_of kwM f1 b1 hnx) r1, ?_⟩
      rw [renS_cons_neg name old _ _ hzn]
      exact back_step hz.2 (renS_ord _ _ _ _ _ _ (r1.ord (Nat.le_refl _)) (by omega) (Int.le_refl _)) c4 r2
theorem splB_all (P : UInt8 → Prop) (s : ByteArray) (hs : ∀ c ∈ s.data.toList, P c) : ∀ (R : List Sp) (a : Int), (∀ x ∈ R, ∀ c ∈ x.f2.data.toList, P c) → ∀ c ∈ splB s R a, P c
  | [], a, _, c, hc => by
    unfold splB at hc
    rw [data_ex] at hc
    exact hs c (List.mem_of_mem_take (List.mem_of_mem_drop hc))
  | x :: r, a, h, c, hc => by
    unfold splB at hc
    rcases List.mem_append.1 hc with hc | hc
    · rw [data_ex] at hc
      exact hs c (List.mem_of_mem_take (List.mem_of_mem_drop hc))
    · rcases List.mem_append.1 hc with hc | hc
      · exact h x List.mem_cons_self c hc
      · exact splB_all P s hs r x.f1 (fun y hy => h y (List.mem_cons_of_mem _ hy)) c hc
theorem bt_all (s : ByteArray) : (∀ i, i < s.size → okB (bt s (i : Int)) = true) ↔ ∀ c ∈ s.data.toList, okB (c.toNat : Int) = true := by
  constructor
  · intro h c hc
    obtain ⟨i, hi, rfl⟩ := List.getElem_of_mem hc
    have := h i (by rw [← data_length]; exact hi)
    rw [bt_list, List.getElem?_eq_getElem hi] at this
    exact this
  · intro h i hi
    have hi' : i < s.data.toList.length := by rw [data_length]; exact hi
    rw [bt_list, List.getElem?_eq_getElem hi']
    exact h _ (List.getElem_mem hi')
theorem wd_ok {c : Int} (h : wdB c = true) : okB c = true := by
  unfold wdB dgB smB gtB at h
  unfold okB
  simp only [Bool.or_eq_true, Bool.and_eq_true, decide_eq_true_eq] at h ⊢
  omega
/-- What the law LexRenamed compares of two tokens. -/
def ren1 (old name : ByteArray) (x y : Tk) : Prop := x.f0 = y.f0 ∧ ((x.f1 = y.f1 ∧ x.f1 ≠ old) ∨ (x.f0 = 1 ∧ x.f1 = old ∧ y.f1 = name))
inductive Two (P : Tk → Tk → Prop) : List Tk → List Tk → Prop
  | nil : Two P [] []
  | cons {x y : Tk} {a b : List Tk} : P x y → Two P a b → Two P (x :: a) (y :: b)
theorem mvT_two (old name : ByteArray) : ∀ (l : List Tk) (d : Int), (∀ x ∈ l, x.f1 = old → x.f0 = 1) → Two (ren1 old name) l (mvT old name l d)
  | [], _, _ => .nil
  | x :: r, d, h => by
    unfold mvT
    refine .cons ⟨rfl, ?_⟩ (mvT_two old name r _ fun y hy => h y (List.mem_cons_of_mem _ hy))
    by_cases c : x.f1 = old
    · exact .inr ⟨h x List.mem_cons_self c, c, if_pos c⟩
    · exact .inl ⟨(if_neg c).symm, c⟩
theorem mvT_name (old name : ByteArray) (hne : old ≠ name) : ∀ (l : List Tk) (d : Int), (mvT old name l d).any (fun t => decide (t.f1 = old)) = false
  | [], _ => rfl
  | x :: r, d => by
    unfold mvT
    rw [List.any_cons, mvT_name old name hne r, Bool.or_false]
    refine decide_eq_false ?_
    by_cases c : x.f1 = old
    · simp only [if_pos c]; exact fun e => hne e.symm
    · simp only [if_neg c]; exact c
theorem mvT_some (old name : ByteArray) : ∀ (l : List Tk) (d : Int), renS old name l ≠ [] → renS name old (mvT old name l d) ≠ []
  | [], _, h => absurd rfl h
  | x :: r, d, h => by
    unfold mvT
    by_cases c : x.f1 = old
    · rw [if_pos c, renS_cons_pos name old _ _ rfl]; exact List.cons_ne_nil _ _
    · rw [renS_cons_neg old name _ _ c] at h
      rw [if_neg c, if_neg c]
      by_cases c2 : x.f1 = name
      · rw [renS_cons_pos name old ⟨x.f0, x.f1, x.f2 + d⟩ _ c2]; exact List.cons_ne_nil _ _
      · rw [renS_cons_neg name old ⟨x.f0, x.f1, x.f2 + d⟩ _ c2]; exact mvT_some old name r d h
/-- A text that is renamed, and renamed back, is the text before; the kinds of its tokens stay. -/
theorem renamed (s old name t : ByteArray) (h : renM s old name = (t, 0)) : renM t name old = (s, 0) ∧ (toksM kwM s).2.2 = 0 ∧ (toksM kwM t).2.2 = 0 ∧ Two (ren1 old name) (toksM kwM s).1 (toksM kwM t).1 := by
  unfold renM at h
  by_cases c1 : (toksM kwM s).2.2 = 0
  · rw [if_neg (by simpa using c1)] at h
    by_cases c2 : nameB old = false ∨ nameB name = false
    · rw [if_pos c2] at h; exact absurd (show (2 : Int) = 0 from congrArg Prod.snd h) (by decide)
    · rw [if_neg c2] at h
      have ho : nameB old = true := by cases e : nameB old <;> simp_all
      have hn : nameB name = true := by cases e : nameB name <;> simp_all
      by_cases c3 : renS old name (toksM kwM s).1 = []
      · rw [if_pos c3] at h; exact absurd (show (7 : Int) = 0 from congrArg Prod.snd h) (by decide)
      · rw [if_neg c3] at h
        by_cases c4 : ((toksM kwM s).1.any fun t => decide (t.f1 = name)) = true
        · rw [if_pos c4] at h; exact absurd (show (6 : Int) = 0 from congrArg Prod.snd h) (by decide)
        · rw [if_neg c4] at h
          by_cases c5 : 2500 < (splM s (renS old name (toksM kwM s).1)).size
          · rw [if_pos c5] at h; exact absurd (show (5 : Int) = 0 from congrArg Prod.snd h) (by decide)
          · rw [if_neg c5] at h
            have ht : splM s (renS old name (toksM kwM s).1) = t := congrArg Prod.fst h
            obtain ⟨q1, q2, q3⟩ := (toks_iff s _).1 ⟨rfl, c1⟩
            obtain ⟨q4, q5⟩ := (chk_iff s).1 q1
            rw [ht] at c5
            refine ⟨?_, c1, ?_⟩
            all_goals
              generalize hA : (toksM kwM s).1 = a at *
              have hno : ∀ x ∈ a, x.f1 ≠ name := fun x hx e => c4 (List.any_eq_true.2 ⟨x, hx, decide_eq_true e⟩)
              have hLr : Lr t 0 = splB s (renS old name a) ((0 : Nat) : Int) := by rw [← ht]; rfl
              obtain ⟨r1, r2⟩ := scan_ren s old name ho hn q2 rfl hno t 0 (Nat.zero_le _) (Nat.zero_le _) hLr
              have htok : (toksM kwM t).1 = mvT old name a (((0 : Nat) : Int) - ((0 : Nat) : Int)) ∧ (toksM kwM t).2.2 = 0 := by
                refine (toks_iff t _).2 ⟨(chk_iff t).2 ⟨by omega, ?_⟩, r1, by rw [mvT_length]; exact q3⟩
                rw [bt_all]
                rw [bt_all] at q5
                intro c hc
                have hc2 : c ∈ splB s (renS old name a) ((0 : Nat) : Int) := by rw [← hLr]; exact hc
                refine splB_all (fun c => okB (c.toNat : Int) = true) s q5 _ _ (fun x hx c hc => ?_) c hc2
                unfold renS at hx
                obtain ⟨y, -, rfl⟩ := List.mem_map.1 hx
                exact (bt_all name).1 (fun i hi => wd_ok ((name_small hn).2 i hi)) c hc
            · have hone : old ≠ name := by
                intro e
                apply c4
                unfold renS at c3
                have : (a.filter fun t => decide (t.f1 = old)) ≠ [] := fun e => c3 (by rw [e]; rfl)
                obtain ⟨y, hy⟩ := List.exists_mem_of_ne_nil _ this
                have hy2 := List.mem_filter.1 hy
                exact List.any_eq_true.2 ⟨y, hy2.1, by rw [← e]; exact hy2.2⟩
              unfold renM
              rw [htok.1, if_neg (by simpa using htok.2), if_neg (by rw [ho, hn]; simp), if_neg (mvT_some old name a _ c3), mvT_name old name hone a, if_neg (by decide)]
              have hs : splM t (renS name old (mvT old name a (((0 : Nat) : Int) - ((0 : Nat) : Int)))) = s := by
                unfold splM
                apply ba_ext
                rw [ba_data]
                exact r2
              rw [hs, if_neg (by omega)]
            · refine ⟨htok.2, ?_⟩
              rw [htok.1]
              exact mvT_two old name a _ (tok_name q2 ho)
  · rw [if_pos (by simpa using c1)] at h
    exact absurd (congrArg Prod.snd h) c1
end Go.Proofs.YtebidpcmcekbgaaDoor.P
namespace Go.Proofs.YtebidpcmcekbgaaDoor.P
open Go.RowKit Go.Proofs.YtebidpcmcekbgaaDoorW.PrintWords
set_option linter.unusedVariables false
set_option linter.unusedSimpArgs false
attribute [local irreducible] gr
def sumG : List Sp → Int
  | [] => 0
  | x :: r => gr x + sumG r
theorem tailE_iff : ∀ (l : List Sp) (n : Int), tailE n l = 0 ↔ (∀ x ∈ l, badAt x.f2 x.f2.size 0 = none) ∧ n + sumG l ≤ 2500
  | [], n => by
    unfold tailE sumG
    by_cases c : n > 2500
    · rw [if_pos c]; exact iff_of_false (by decide) fun h => by have := h.2; omega
    · rw [if_neg c]; exact iff_of_true rfl ⟨fun x hx => (by cases hx), by omega⟩
  | x :: r, n => by
    unfold tailE sumG
    by_cases c : badAt x.f2 x.f2.size 0 = none
    · rw [if_pos c, tailE_iff r]
      constructor
      · rintro ⟨h1, h2⟩
        refine ⟨fun y hy => ?_, by omega⟩
        rcases List.mem_cons.1 hy with rfl | hy
        · exact c
        · exact h1 y hy
      · rintro ⟨h1, h2⟩
        exact ⟨fun y hy => h1 y (List.mem_cons_of_mem _ hy), by omega⟩
    · rw [if_neg c]
      exact iff_of_false (by decide) fun h => c (h.1 x List.mem_cons_self)
theorem bad_iff (s : ByteArray) (hs : s.size ≤ 2500) : badAt s s.size 0 = none ↔ ∀ c ∈ s.data.toList, okB (c.toNat : Int) = true := by
  rw [← bt_all]
  have h := chk_iff s
  rw [chkT_eq, if_neg (by omega)] at h
  constructor
  · intro e
    rw [e] at h
    exact (h.1 rfl).2
  · intro e
    have h2 := h.2 ⟨hs, e⟩
    cases hb : badAt s s.size 0 with
    | none => rfl
    | some j =>
      rw [hb] at h2
      exact absurd h2 (show ¬ (2 : Int) = 0 by decide)
theorem gr_eq (x : Sp) : gr x = (x.f2.size : Int) - (x.f1 - x.f0) := by unfold gr; rfl
theorem splB_length (s : ByteArray) : ∀ (l : List Sp) (a : Int), OrdS s.size l a → ((splB s l a).length : Int) + a = (s.size : Int) + sumG l
  | [], a, h => by
    unfold splB sumG
    rw [← size_len, size_ex]
    have := h.1; have := h.2
    omega
  | x :: r, a, h => by
    obtain ⟨h0, h1, h2, h3, h4⟩ := h
    have ih := splB_length s r x.f1 h4
    have hg := gr_eq x
    unfold splB sumG
    rw [List.length_append, List.length_append, ← size_len, ← size_len, size_ex]
    generalize gr x = g at *
    generalize sumG r = q at *
    generalize (splB s r x.f1).length = n at *
    omega
theorem unS_gr (s : ByteArray) : ∀ (l : List Sp) (a m : Int), OrdS s.size l a → sumG (unS s l m) = - sumG l
  | [], _, _, _ => rfl
  | x :: r, a, m, h => by
    obtain ⟨h0, h1, h2, h3, h4⟩ := h
    unfold unS
    rw [sumG, sumG, unS_gr s r x.f1 _ h4, gr_eq, gr_eq x]
    simp only
    rw [size_ex]
    generalize sumG r = q at *
    omega
theorem Lr_ex2 {s : ByteArray} {i j : Nat} (h : i ≤ j) (hj : j ≤ s.size) : Lr s i = (s.extract i j).data.toList ++ Lr s j := by
  have := Lr_split s i (j - i) (by omega)
  rw [show i + (j - i) = j by omega] at this
  exact this
/-- What stands at a place, and what behind it. -/
theorem Lr_take {t z : ByteArray} {i : Nat} {B : List UInt8} (hi : i ≤ t.size) (h : Lr t i = z.data.toList ++ B) : i + z.size ≤ t.size ∧ t.extract i (i + z.size) = z ∧ Lr t (i + z.size) = B := by
  obtain ⟨h1, h2, h3, -⟩ := begT_Lr hi h
  refine ⟨h2, ?_, h3⟩
  have := begT_ex h1
  rw [ex_ex t i t.size 0 z.size (by omega), Nat.add_zero] at this
  exact this
set_option maxHeartbeats 1000000 in
theorem undo_spl (s t : ByteArray) : ∀ (l : List Sp) (a m : Int), OrdS s.size l a → 0 ≤ a + m → (a + m).toNat ≤ t.size → Lr t (a + m).toNat = splB s l a →
    OrdS t.size (unS s l m) (a + m) ∧ splB t (unS s l m) (a + m) = Lr s a.toNat
  | [], a, m, h, h0, h1, hL => by
    unfold splB at hL
    rw [Lr_ex] at hL
    unfold unS splB
    rw [Lr_ex, hL]
    exact ⟨⟨h0, by omega⟩, rfl⟩
  | x :: r, a, m, h, h0, h1, hL => by
    obtain ⟨g0, g1, g2, g3, g4⟩ := h
    unfold splB at hL
    have hz : (s.extract a.toNat x.f0.toNat).size = x.f0.toNat - a.toNat := by rw [size_ex]; omega
    obtain ⟨k1, k2, k3⟩ := Lr_take h1 hL
    rw [hz] at k1 k2 k3
    have e1 : (a + m).toNat + (x.f0.toNat - a.toNat) = (x.f0 + m).toNat := by omega
    rw [e1] at k1 k2 k3
    obtain ⟨k4, k5, k6⟩ := Lr_take k1 k3
    have e2 : (x.f0 + m).toNat + x.f2.size = (x.f0 + m + (x.f2.size : Int)).toNat := by omega
    have e3 : x.f1 + (m + gr x) = x.f0 + m + (x.f2.size : Int) := by rw [gr_eq]; omega
    rw [e2] at k4 k6
    rw [← e3] at k4 k6
    obtain ⟨i1, i2⟩ := undo_spl s t r x.f1 (m + gr x) g4 (by rw [e3]; omega) k4 k6
    rw [e3] at i1 i2 k4
    unfold unS splB
    refine ⟨⟨h0, by simp only; omega, by simp only; omega, by simp only; omega, i1⟩, ?_⟩
    simp only
    rw [i2, k2, Lr_ex2 (i := a.toNat) (j := x.f0.toNat) (by omega) (by omega), Lr_ex2 (i := x.f0.toNat) (j := x.f1.toNat) (by omega) (by omega)]
theorem mvd_skip (p : Int) : ∀ (r : List Sp) (k : Int), (∀ y ∈ r, p < y.f0 ∧ y.f0 ≤ y.f1) → mvd p r k = (k, 0)
  | [], _, _ => rfl
  | y :: r, k, h => by
    have h1 := h y List.mem_cons_self
    unfold mvd
    rw [if_neg (by omega), if_neg (by omega)]
    exact mvd_skip p r k fun z hz => h z (List.mem_cons_of_mem _ hz)
theorem OrdS.above {n : Nat} {l : List Sp} {a p : Int} (h : OrdS n l a) (hp : p < a) : ∀ y ∈ l, p < y.f0 ∧ y.f0 ≤ y.f1 := fun y hy => by
  have := h.in y hy
  exact ⟨by omega, this.2.1⟩
set_option maxHeartbeats 1000000 in
theorem mvd_back (s t : ByteArray) (p n : Int) : ∀ (l : List Sp) (a m : Int), OrdS s.size l a → 0 ≤ a + m → (a + m).toNat ≤ t.size → Lr t (a + m).toNat = splB s l a → a ≤ p → p < (s.size : Int) → mvd p l (p + m) = (n, 0) →
    a + m ≤ n ∧ n < (t.size : Int) ∧ bt t n = bt s p ∧ mvd n (unS s l m) (n - m) = (p, 0)
  | [], a, m, h, h0, h1, hL, hp, hps, hm => by
    have e : p + m = n := congrArg Prod.fst hm
    unfold splB at hL
    rw [Lr_ex] at hL
    have g0 := h.1
    have l1 := congrArg List.length hL
    rw [Lr_len, Lr_len] at l1
    obtain ⟨q, hq⟩ : ∃ q : Nat, p = a + q := ⟨(p - a).toNat, by omega⟩
    refine ⟨by omega, by omega, ?_, ?_⟩
    · have e1 : n = (((a + m).toNat + q : Nat) : Int) := by omega
      have e2 : p = ((a.toNat + q : Nat) : Int) := by omega
      rw [e1, e2, bt_Lr, bt_Lr, hL]
    · show (n - m, (0 : Int)) = (p, 0)
      rw [show n - m = p by omega]
  | x :: r, a, m, h, h0, h1, hL, hp, hps, hm => by
    obtain ⟨g0, g1, g2, g3, g4⟩ := h
    unfold splB at hL
    have hz : (s.extract a.toNat x.f0.toNat).size = x.f0.toNat - a.toNat := by rw [size_ex]; omega
    obtain ⟨k1, k2, k3⟩ := Lr_take h1 hL
    rw [hz] at k1 k2 k3
    have e1 : (a + m).toNat + (x.f0.toNat - a.toNat) = (x.f0 + m).toNat := by omega
    rw [e1] at k1 k2 k3
    obtain ⟨k4, k5, k6⟩ := Lr_take k1 k3
    have e2 : (x.f0 + m).toNat + x.f2.size = (x.f0 + m + (x.f2.size : Int)).toNat := by omega
    have e3 : x.f1 + (m + gr x) = x.f0 + m + (x.f2.size : Int) := by rw [gr_eq]; omega
    rw [e2] at k4 k6
    rw [← e3] at k4 k6
    have hgy : gr ⟨x.f0 + m, x.f0 + m + (x.f2.size : Int), s.extract x.f0.toNat x.f1.toNat⟩ = - gr x := by
      rw [gr_eq, gr_eq x]
      simp only
      rw [size_ex]
      omega
    unfold mvd at hm
    by_cases c : x.f1 ≤ p
    · rw [if_pos c, show p + m + gr x = p + (m + gr x) by omega] at hm
      obtain ⟨i1, i2, i3, i4⟩ := mvd_back s t p n r x.f1 (m + gr x) g4 (by rw [e3]; omega) k4 k6 c hps hm
      rw [e3] at i1
      refine ⟨by omega, i2, i3, ?_⟩
      unfold unS mvd
      rw [if_pos (by simp only; omega), hgy, show n - m + - gr x = n - (m + gr x) by omega]
      exact i4
    · rw [if_neg c] at hm
      by_cases c2 : x.f0 ≤ p
      · rw [if_pos c2] at hm
        exact absurd (show (7 : Int) = 0 from congrArg Prod.snd hm) (by decide)
      · rw [if_neg c2, mvd_skip p r _ (g4.above (by omega))] at hm
        have e : p + m = n := congrArg Prod.fst hm
        obtain ⟨q, hq⟩ : ∃ q : Nat, p = a + q := ⟨(p - a).toNat, by omega⟩
        have hO := undo_spl s t (x :: r) a m ⟨g0, g1, g2, g3, g4⟩ h0 h1 (by unfold splB; exact hL)
        refine ⟨by omega, by omega, ?_, ?_⟩
        · have e4 : n = (((a + m).toNat + q : Nat) : Int) := by omega
          have e5 : p = ((a.toNat + q : Nat) : Int) := by omega
          have k7 : bt (t.extract (a + m).toNat (x.f0 + m).toNat) (q : Int) = bt (s.extract a.toNat x.f0.toNat) (q : Int) := by rw [k2]
          rw [bt_ex t _ _ q (by omega), bt_ex s _ _ q (by omega)] at k7
          rw [e4, e5]
          exact k7
        · rw [mvd_skip n (unS s (x :: r) m) _ ?_, show n - m = p by omega]
          have h2 := hO.1
          unfold unS at h2 ⊢
          obtain ⟨o0, o1, o2, o3, o4⟩ := h2
          intro y hy
          rcases List.mem_cons.1 hy with rfl | hy
          · exact ⟨by simp only; omega, o2⟩
          · exact o4.above (by simp only; omega) y hy
theorem mvd_mono (n1 n2 p1 p2 : Int) (hp : p1 < p2) {N : Nat} : ∀ (l : List Sp) (a m : Int), OrdS N l a → mvd p1 l (p1 + m) = (n1, 0) → mvd p2 l (p2 + m) = (n2, 0) → n1 < n2
  | [], a, m, h, h1, h2 => by
    have e1 : p1 + m = n1 := congrArg Prod.fst h1
    have e2 : p2 + m = n2 := congrArg Prod.fst h2
    omega
  | x :: r, a, m, h, h1, h2 => by
    obtain ⟨g0, g1, g2, g3, g4⟩ := h
    unfold mvd at h1 h2
    by_cases c1 : x.f1 ≤ p1
    · rw [if_pos c1, show p1 + m + gr x = p1 + (m + gr x) by omega] at h1
      rw [if_pos (show x.f1 ≤ p2 by omega), show p2 + m + gr x = p2 + (m + gr x) by omega] at h2
      exact mvd_mono n1 n2 p1 p2 hp r x.f1 (m + gr x) g4 h1 h2
    · rw [if_neg c1] at h1
      by_cases c2 : x.f0 ≤ p1
      · rw [if_pos c2] at h1
        exact absurd (show (7 : Int) = 0 from congrArg Prod.snd h1) (by decide)
      · rw [if_neg c2, mvd_skip p1 r _ (g4.above (by omega))] at h1
        have e1 : p1 + m = n1 := congrArg Prod.fst h1
        by_cases c3 : x.f1 ≤ p2
        · rw [if_pos c3, show p2 + m + gr x = p2 + (m + gr x) by omega] at h2
          have := mvd_ge n2 p2 r x.f1 (m + gr x) g4 c3 h2
          have hg := gr_eq x
          omega
        · rw [if_neg c3] at h2
          by_cases c4 : x.f0 ≤ p2
          · rw [if_pos c4] at h2
            exact absurd (show (7 : Int) = 0 from congrArg Prod.snd h2) (by decide)
          · rw [if_neg c4, mvd_skip p2 r _ (g4.above (by omega))] at h2
            have e2 : p2 + m = n2 := congrArg Prod.fst h2
            omega
where
  mvd_ge (n p : Int) {N : Nat} : ∀ (l : List Sp) (a m : Int), OrdS N l a → a ≤ p → mvd p l (p + m) = (n, 0) → a + m ≤ n
  | [], a, m, h, hp, h1 => by
    have e1 : p + m = n := congrArg Prod.fst h1
    omega
  | x :: r, a, m, h, hp, h1 => by
    obtain ⟨g0, g1, g2, g3, g4⟩ := h
    unfold mvd at h1
    have hg := gr_eq x
    by_cases c1 : x.f1 ≤ p
    · rw [if_pos c1, show p + m + gr x = p + (m + gr x) by omega] at h1
      have := mvd_ge n p r x.f1 (m + gr x) g4 c1 h1
      omega
    · rw [if_neg c1] at h1
      by_cases c2 : x.f0 ≤ p
      · rw [if_pos c2] at h1
        exact absurd (show (7 : Int) = 0 from congrArg Prod.snd h1) (by decide)
      · rw [if_neg c2, mvd_skip p r _ (g4.above (by omega))] at h1
        have e1 : p + m = n := congrArg Prod.fst h1
        omega
theorem unS_txt (s : ByteArray) : ∀ (l : List Sp) (m : Int), ∀ x ∈ unS s l m, ∃ i j, x.f2 = s.extract i j
  | [], _, x, hx => by cases hx
  | y :: r, m, x, hx => by
    unfold unS at hx
    rcases List.mem_cons.1 hx with rfl | hx
    · exact ⟨_, _, rfl⟩
    · exact unS_txt s r _ x hx
/-- Splices undone: all that the law LexUndone asks. -/
theorem undone (s : ByteArray) (l : List Sp) (h : splE s l = 0) (hx : ∀ x ∈ l, x.f2.size ≤ 3000) : (splM s l).size ≤ 2500 ∧ splE (splM s l) (unS s l 0) = 0 ∧ splM (splM s l) (unS s l 0) = s ∧ (∀ x ∈ unS s l 0, x.f2.size ≤ 3000) ∧
    (∀ p n : Int, 0 ≤ p → p < (s.size : Int) → mvd p l p = (n, 0) → 0 ≤ n ∧ n < ((splM s l).size : Int) ∧ bt (splM s l) n = bt s p ∧ mvd n (unS s l 0) n = (p, 0)) ∧
    (∀ p1 p2 n1 n2 : Int, p1 < p2 → mvd p1 l p1 = (n1, 0) → mvd p2 l p2 = (n2, 0) → n1 < n2) := by
  obtain ⟨h1, h2, h3, h4⟩ := splE_ord h
  obtain ⟨h5, h6⟩ := (chk_iff s).1 h1
  obtain ⟨h7, h8⟩ := (tailE_iff l _).1 h4
  have hlen := splB_length s l 0 h3
  have hsz : (splM s l).size = (splB s l 0).length := by rw [size_len]; rfl
  have hsz2 : ((splM s l).size : Int) = (s.size : Int) + sumG l := by rw [hsz]; omega
  have hL : Lr (splM s l) ((0 : Int) + 0).toNat = splB s l 0 := rfl
  obtain ⟨u1, u2⟩ := undo_spl s (splM s l) l 0 0 h3 (by omega) (Nat.zero_le _) hL
  rw [show (0 : Int) + 0 = 0 from rfl] at u1 u2
  have hug := unS_gr s l 0 0 h3
  have hxs : ∀ x ∈ unS s l 0, x.f2.size ≤ 2500 := fun x hm => by
    obtain ⟨i, j, e⟩ := unS_txt s l 0 x hm
    rw [e, size_ex]; omega
  have hok : ∀ c ∈ (splM s l).data.toList, okB (c.toNat : Int) = true := fun c hc =>
    splB_all (fun c => okB (c.toNat : Int) = true) s ((bt_all s).1 h6) l 0 (fun x hm c hc => by
      by_cases hz : x.f2.size ≤ 2500
      · exact (bad_iff x.f2 hz).1 (h7 x hm) c hc
      · exact bad_iff3 x.f2 (hx x hm) (h7 x hm) c hc) c hc
  refine ⟨by omega, ?_, ?_, fun x hm => Nat.le_trans (hxs x hm) (by decide), ?_, ?_⟩
  · unfold splE
    rw [if_pos ((chk_iff _).2 ⟨by omega, (bt_all _).2 hok⟩), if_neg (by rw [unS_length]; omega), if_pos (ord_rngB u1)]
    refine (tailE_iff _ _).2 ⟨fun x hm => (bad_iff x.f2 (hxs x hm)).2 fun c hc => ?_, by rw [hug]; omega⟩
    obtain ⟨i, j, e⟩ := unS_txt s l 0 x hm
    rw [e, data_ex] at hc
    exact (bt_all s).1 h6 c (List.mem_of_mem_take (List.mem_of_mem_drop hc))
  · unfold splM
    apply ba_ext
    rw [ba_data]
    exact u2
  · intro p n hp0 hp1 hm
    have hm' : mvd p l (p + 0) = (n, 0) := by rw [Int.add_zero]; exact hm
    obtain ⟨r1, r2, r3, r4⟩ := mvd_back s (splM s l) p n l 0 0 h3 (by omega) (Nat.zero_le _) hL hp0 hp1 hm'
    rw [Int.sub_zero] at r4
    exact ⟨by omega, r2, r3, r4⟩
  · intro p1 p2 n1 n2 hp hm1 hm2
    exact mvd_mono n1 n2 p1 p2 hp l 0 0 h3 (by rw [Int.add_zero]; exact hm1) (by rw [Int.add_zero]; exact hm2)
where
  bad_iff3 (s : ByteArray) (hs : s.size ≤ 3000) (h : badAt s s.size 0 = none) : ∀ c ∈ s.data.toList, okB (c.toNat : Int) = true := by
    rw [← bt_all]
    have hb : ∀ d i, s.size - i ≤ d → badAt s d i = none → ∀ j, i ≤ j → j < s.size → okB (bt s (j : Int)) = true := by
      intro d
      induction d with
      | zero => intro i hd _ j h1 h2; omega
      | succ d ih =>
        intro i hd h j h1 h2
        unfold badAt at h
        rw [if_pos (show i < s.size by omega)] at h
        by_cases c2 : okB (bt s (i : Int)) = true
        · rw [if_pos c2] at h
          by_cases e : j = i
          · subst e; exact c2
          · exact ih (i + 1) (by omega) h j (by omega) h2
        · rw [if_neg c2] at h; cases h
    exact fun i hi => hb s.size 0 (by omega) h i (Nat.zero_le _) hi
end Go.Proofs.YtebidpcmcekbgaaDoor.P
namespace Go.Proofs.YtebidpcmcekbgaaDoor.P
open Go.RowKit Go.Proofs.YtebidpcmcekbgaaDoorW.PrintWords
set_option linter.unusedVariables false
set_option linter.unusedSimpArgs false
/-- How far a condition holds, from n on, at most d times. -/
def runF (f : Nat → Bool) : Nat → Nat → Nat
  | 0, n => n
  | d + 1, n => if f n = true then runF f d (n + 1) else n
theorem runF_le (f : Nat → Bool) : ∀ (d n : Nat), n ≤ runF f d n ∧ runF f d n ≤ n + d
  | 0, n => ⟨Nat.le_refl _, Nat.le_refl _⟩
  | d + 1, n => by
    unfold runF
    have := runF_le f d (n + 1)
    split <;> omega
theorem runF_end (f : Nat → Bool) : ∀ (d n : Nat), runF f d n < n + d → f (runF f d n) = false
  | 0, n, h => by unfold runF at h; omega
  | d + 1, n, h => by
    unfold runF at h ⊢
    by_cases c : f n = true
    · rw [if_pos c] at h ⊢; exact runF_end f d (n + 1) (by omega)
    · rw [if_neg c]; exact Bool.eq_false_iff.2 c
theorem runF_congr {f g : Nat → Bool} : ∀ (d n : Nat), (∀ j, n ≤ j → j < n + d → f j = g j) → runF f d n = runF g d n
  | 0, _, _ => rfl
  | d + 1, n, h => by
    unfold runF
    rw [h n (Nat.le_refl _) (by omega), runF_congr d (n + 1) fun j h1 h2 => h j (by omega) (by omega)]
/-- How many bytes are the same at the beginning, and at the end. -/
def preB (a b : ByteArray) : Nat := runF (fun j => decide (bt a (j : Int) = bt b (j : Int))) (min a.size b.size) 0
def sufB (a b : ByteArray) (k : Nat) : Nat := runF (fun j => decide (bt a ((a.size - 1 - j : Nat) : Int) = bt b ((b.size - 1 - j : Nat) : Int))) (min (a.size - k) (b.size - k)) 0
def difS (a b : ByteArray) : List Sp := if a = b then [] else [⟨(preB a b : Int), ((a.size - sufB a b (preB a b) : Nat) : Int), b.extract (preB a b) (b.size - sufB a b (preB a b))⟩]
def difM (a b : ByteArray) : List Sp × Int := if (chkT a).2 = 0 then (if (chkT b).2 = 0 then (difS a b, 0) else ([], (chkT b).2)) else ([], (chkT a).2)
theorem preB_le (a b : ByteArray) : preB a b ≤ a.size ∧ preB a b ≤ b.size := by
  have := (runF_le (fun j => decide (bt a (j : Int) = bt b (j : Int))) (min a.size b.size) 0).2
  unfold preB; omega
theorem sufB_le (a b : ByteArray) (k : Nat) : sufB a b k ≤ a.size - k ∧ sufB a b k ≤ b.size - k := by
  have := (runF_le (fun j => decide (bt a ((a.size - 1 - j : Nat) : Int) = bt b ((b.size - 1 - j : Nat) : Int))) (min (a.size - k) (b.size - k)) 0).2
  unfold sufB; omega
theorem Scan.inv {s : ByteArray} {i j : Nat} {l : List Tk} (h : Scan s i l j) (hij : i < j) : (spB (bt s (i : Int)) = true ∧ Scan s (i + 1) l j) ∨ (spB (bt s (i : Int)) = false ∧ bt s (i : Int) = 126 ∧ Scan s (i + noteL s i) l j) ∨
    (∃ k t r, l = ⟨k, t, (i : Int)⟩ :: r ∧ spB (bt s (i : Int)) = false ∧ bt s (i : Int) ≠ 126 ∧ firstM kwM (s.extract i s.size) = ((k, t), 0) ∧ Scan s (i + t.size) r j) := by
  cases h with
  | done => omega
  | blank h1 h2 h3 => exact .inl ⟨h2, h3⟩
  | note h1 h2 h3 => exact .inr (.inl ⟨by rw [h2]; rfl, h2, h3⟩)
  | tok h1 h2 h3 h4 h5 => exact .inr (.inr ⟨_, _, _, rfl, h2, h3, h4, h5⟩)
/-- A word by itself is all of its text. -/
theorem tok_wl {t : ByteArray} {k : Int} (h : firstM kwM t = ((k, t), 0)) (c : wlen t ≠ 0) : wlen t = t.size := by
  have htz : t.extract 0 (wlen t) = t := by
    unfold firstM at h
    rw [if_neg c] at h
    by_cases c2 : dgB (bt t 0) = true
    · rw [if_pos c2] at h; exact congrArg (fun y => y.1.2) h
    · rw [if_neg c2] at h
      by_cases c3 : smB (bt t 0) = false
      · rw [if_pos c3] at h; cases h
      · rw [if_neg c3] at h
        by_cases c4 : kwM (t.extract 0 (wlen t)) = true
        · rw [if_pos c4] at h; exact congrArg (fun y => y.1.2) h
        · rw [if_neg c4] at h
          by_cases c5 : 12 < (t.extract 0 (wlen t)).size
          · rw [if_pos c5] at h; cases h
          · rw [if_neg c5] at h; exact congrArg (fun y => y.1.2) h
  have := congrArg ByteArray.size htz
  have := wlen_le t
  rw [size_ex] at *; omega
/-- The signs. -/
theorem tok_sign {t : ByteArray} {k : Int} (h : firstM kwM t = ((k, t), 0)) (c : wlen t = 0) : t = ba [58, 61] ∨ t = ba [45, 62] ∨ (t.size = 1 ∧ sgB (bt t 0) = true) := by
  obtain ⟨-, -, -, h0, -⟩ := firstM_self kwM h
  have hs : signM t = some t := by
    unfold firstM at h
    rw [if_pos c] at h
    cases hs : signM t with
    | none => rw [hs] at h; cases h
    | some z => rw [hs] at h; exact congrArg some (congrArg (fun y => y.1.2) h)
  unfold signM at hs
  by_cases c1 : 2 ≤ t.size ∧ bt t 0 = 58 ∧ bt t 1 = 61
  · rw [if_pos c1] at hs; exact .inl (Option.some.inj hs).symm
  · rw [if_neg c1] at hs
    by_cases c2 : 2 ≤ t.size ∧ bt t 0 = 45 ∧ bt t 1 = 62
    · rw [if_pos c2] at hs; exact .inr (.inl (Option.some.inj hs).symm)
    · rw [if_neg c2] at hs
      by_cases c3 : 0 < t.size ∧ sgB (bt t 0) = true
      · rw [if_pos c3] at hs
        refine .inr (.inr ⟨?_, c3.2⟩)
        have := congrArg ByteArray.size (Option.some.inj hs)
        rw [size_ex] at this; omega
      · rw [if_neg c3] at hs; cases hs
theorem tok_lf {t : ByteArray} {k : Int} (h : firstM kwM t = ((k, t), 0)) (j : Nat) (hj : j < t.size) : bt t (j : Int) ≠ 10 := by
  by_cases c : wlen t = 0
  · rcases tok_sign h c with rfl | rfl | ⟨h1, h2⟩
    · have : j = 0 ∨ j = 1 := by have : (ba [58, 61]).size = 2 := rfl
                                 omega
      rcases this with rfl | rfl <;> decide
    · have : j = 0 ∨ j = 1 := by have : (ba [45, 62]).size = 2 := rfl
                                 omega
      rcases this with rfl | rfl <;> decide
    · obtain rfl : j = 0 := by omega
      intro e
      rw [show ((0 : Nat) : Int) = 0 from rfl] at e
      rw [e] at h2
      exact absurd h2 (by decide)
  · intro e
    have := wlen_in t j (by rw [tok_wl h c]; exact hj)
    rw [e] at this
    exact absurd this (by decide)
theorem filt_nil {s : ByteArray} {i j : Nat} {l : List Tk} (h : Scan s i l j) {p : Nat} (hp : p ≤ i) : l.filter (fun x => decide (x.f2 + (x.f1.size : Int) < (p : Int))) = [] := by
  refine List.filter_eq_nil_iff.2 fun x hx => ?_
  obtain ⟨n, h1, -, h3, -⟩ := h.mem x hx
  rw [h3]
  simp only [decide_eq_true_eq]
  omega
/-- What two texts that begin alike have in common. -/
theorem scan_pre {s t : ByteArray} {p : Nat} (hp : p ≤ s.size) (hq : p ≤ t.size) (hb : ∀ k, k < p → bt t (k : Int) = bt s (k : Int)) {i j : Nat} {l : List Tk} (h : Scan s i l j) :
    ∀ l', Scan t i l' t.size → ∀ k, k < (l.filter (fun x => decide (x.f2 + (x.f1.size : Int) < (p : Int)))).length → k < l.length ∧ k < l'.length ∧ l[k]? = l'[k]? := by
  induction h with
  | done i => intro l' h' k hk; exact absurd hk (Nat.not_lt_zero _)
  | @blank i j l h1 h2 h3 ih =>
    intro l' h' k hk
    by_cases c : i < p
    · have e := hb i c
      rcases h'.inv (by omega) with ⟨-, g⟩ | ⟨g, -⟩ | ⟨_, _, _, -, g, -⟩
      · exact ih l' g k hk
      · rw [e, h2] at g; cases g
      · rw [e, h2] at g; cases g
    · rw [filt_nil h3 (by omega)] at hk; exact absurd hk (Nat.not_lt_zero _)
  | @note i j l h1 h2 h3 ih =>
    intro l' h' k hk
    by_cases c : i + noteL s i < p
    · have e := hb i (by omega)
      obtain ⟨n1, n2⟩ := noteL_in s i
      have hN : noteL t i = noteL s i := by
        refine noteL_uniq t i _ (fun k hk => ⟨by omega, by rw [hb _ (by omega)]; exact (n1 k hk).2⟩) ?_
        rcases n2 with n2 | n2
        · omega
        · exact .inr (by rw [hb _ c]; exact n2)
      rcases h'.inv (by omega) with ⟨g, -⟩ | ⟨-, -, g⟩ | ⟨_, _, _, -, -, g, -⟩
      · rw [e, h2] at g; exact absurd g (by decide)
      · rw [hN] at g; exact ih l' g k hk
      · rw [e] at g; exact absurd h2 g
    · rw [filt_nil h3 (by omega)] at hk; exact absurd hk (Nat.not_lt_zero _)
  | @tok i j l kd z h1 h2 h3 h4 h5 ih =>
    intro l' h' k hk
    have hz := tok_size h4
    by_cases c : i + z.size < p
    · obtain ⟨f1, f2, f3, f4, f5⟩ := firstM_self kwM h4
      have e := hb i (by omega)
      have b1 : begT (t.extract i t.size) z := ⟨by rw [size_ex]; omega, fun j hj => by rw [bt_ex t i t.size j (by omega), hb _ (by omega), ← bt_ex s i s.size j (by omega)]; exact f2.2 j hj⟩
      have hnx : nxB kd z (bt (t.extract i t.size) (z.size : Int)) = true := by rw [bt_ex t i t.size z.size (by omega), hb _ c, ← bt_ex s i s.size z.size (by omega)]; exact f3
      have hf := firstM_of kwM f1 b1 hnx
      rcases h'.inv (by omega) with ⟨g, -⟩ | ⟨-, g, -⟩ | ⟨k', z', r, rfl, -, -, g, g2⟩
      · rw [e, h2] at g; cases g
      · rw [e] at g; exact absurd g h3
      · rw [hf] at g
        obtain rfl : kd = k' := congrArg (fun y => y.1.1) g
        obtain rfl : z = z' := congrArg (fun y => y.1.2) g
        rw [List.filter_cons_of_pos (by simp only [decide_eq_true_eq]; omega), List.length_cons] at hk
        cases k with
        | zero => exact ⟨Nat.succ_pos _, Nat.succ_pos _, rfl⟩
        | succ k =>
          obtain ⟨a1, a2, a3⟩ := ih r g2 k (by omega)
          exact ⟨by rw [List.length_cons]; omega, by rw [List.length_cons]; omega, by rw [List.getElem?_cons_succ, List.getElem?_cons_succ]; exact a3⟩
    · rw [List.filter_cons_of_neg (by simp only [decide_eq_true_eq]; omega), filt_nil h5 (by omega)] at hk; exact absurd hk (Nat.not_lt_zero _)
/-- No token goes over a line feed. -/
theorem scan_cut {s : ByteArray} {L : Nat} (hL : L ≤ s.size) (h10 : L = s.size ∨ bt s (L : Int) = 10) {i j : Nat} {l : List Tk} (h : Scan s i l j) (hj : j = s.size) : i ≤ L → ∃ l1 l2, l = l1 ++ l2 ∧ (∀ x ∈ l1, x.f2 < (L : Int)) ∧ Scan s L l2 s.size := by
  induction h with
  | done i =>
    intro hi
    obtain rfl : L = s.size := by omega
    exact ⟨[], [], rfl, fun x hx => (by cases hx), .done _⟩
  | @blank i j l h1 h2 h3 ih =>
    intro hi
    subst hj
    by_cases e : i = L
    · subst e; exact ⟨[], l, rfl, fun x hx => (by cases hx), .blank h1 h2 h3⟩
    · exact ih rfl (by omega)
  | @note i j l h1 h2 h3 ih =>
    intro hi
    subst hj
    by_cases e : i = L
    · subst e; exact ⟨[], l, rfl, fun x hx => (by cases hx), .note h1 h2 h3⟩
    · refine ih rfl ?_
      by_cases c : i + noteL s i ≤ L
      · exact c
      · have := (noteL_in s i).1 (L - i) (by omega)
        rw [show i + (L - i) = L by omega] at this
        rcases h10 with h | h
        · omega
        · exact absurd h this.2
  | @tok i j l kd z h1 h2 h3 h4 h5 ih =>
    intro hi
    subst hj
    by_cases e : i = L
    · subst e; exact ⟨[], _, rfl, fun x hx => (by cases hx), .tok h1 h2 h3 h4 h5⟩
    · have hz := tok_size h4
      obtain ⟨f1, f2, -, -, -⟩ := firstM_self kwM h4
      have c : i + z.size ≤ L := by
        by_cases c : i + z.size ≤ L
        · exact c
        · have g := tok_lf f1 (L - i) (by omega)
          rw [← f2.2 (L - i) (by omega), bt_ex s i s.size (L - i) (by omega), show i + (L - i) = L by omega] at g
          rcases h10 with h | h
          · omega
          · exact absurd h g
      obtain ⟨l1, l2, e1, e2, e3⟩ := ih rfl c
      refine ⟨⟨kd, z, (i : Int)⟩ :: l1, l2, by rw [e1]; rfl, fun x hx => ?_, e3⟩
      rcases List.mem_cons.1 hx with rfl | hx
      · simp only; omega
      · exact e2 x hx
theorem Lr_drop (s : ByteArray) (i n : Nat) : Lr s (i + n) = (Lr s i).drop n := by unfold Lr; rw [List.drop_drop]
def shT (d : Int) (x : Tk) : Tk := ⟨x.f0, x.f1, x.f2 + d⟩
theorem scan_shift {s t : ByteArray} {i j : Nat} {l : List Tk} (h : Scan s i l j) (hj : j = s.size) : ∀ m, i ≤ s.size → m ≤ t.size → Lr t m = Lr s i → Scan t m (l.map (shT ((m : Int) - (i : Int)))) t.size := by
  induction h with
  | done i =>
    intro m hi hm hL
    have h1 := Lr_len t m
    have h2 := Lr_len s i
    rw [hL, h2] at h1
    obtain rfl : m = t.size := by omega
    exact .done _
  | @blank i j l h1 h2 h3 ih =>
    intro m hi hm hL
    have g1 := Lr_len t m
    have g2 := Lr_len s i
    rw [hL, g2] at g1
    have e : bt t (m : Int) = bt s (i : Int) := by rw [bt_head, hL, ← bt_head]
    have r := ih hj (m + 1) (by omega) (by omega) (by rw [Lr_drop, Lr_drop, hL])
    rw [nat_off] at r
    exact .blank (by omega) (by rw [e]; exact h2) r
  | @note i j l h1 h2 h3 ih =>
    intro m hi hm hL
    have g1 := Lr_len t m
    have g2 := Lr_len s i
    rw [hL, g2] at g1
    have e : bt t (m : Int) = bt s (i : Int) := by rw [bt_head, hL, ← bt_head]
    have hle := noteL_le s i hi
    obtain ⟨n1, n2⟩ := noteL_in s i
    have hN : noteL t m = noteL s i := by
      refine noteL_uniq t m _ (fun k hk => ⟨by have := (n1 k hk).1; omega, by rw [bt_Lr, hL, ← bt_Lr]; exact (n1 k hk).2⟩) ?_
      rcases n2 with n2 | n2
      · exact .inl (by omega)
      · exact .inr (by rw [bt_Lr, hL, ← bt_Lr]; exact n2)
    have r := ih hj (m + noteL s i) hle (by omega) (by rw [Lr_drop, Lr_drop, hL])
    rw [nat_off] at r
    exact .note (by omega) (by rw [e]; exact h2) (by rw [hN]; exact r)
  | @tok i j l kd z h1 h2 h3 h4 h5 ih =>
    intro m hi hm hL
    have g1 := Lr_len t m
    have g2 := Lr_len s i
    rw [hL, g2] at g1
    have hz := tok_size h4
    have e : bt t (m : Int) = bt s (i : Int) := by rw [bt_head, hL, ← bt_head]
    have ee : t.extract m t.size = s.extract i s.size := ba_ext (by rw [Lr_ex, Lr_ex, hL])
    have r := ih hj (m + z.size) hz.2 (by omega) (by rw [Lr_drop, Lr_drop, hL])
    rw [nat_off] at r
    have := Scan.tok (s := t) (i := m) (by omega) (by rw [e]; exact h2) (by rw [e]; exact h3) (by rw [ee]; exact h4) r
    rw [List.map_cons, shT]
    simp only
    rw [show (i : Int) + ((m : Int) - (i : Int)) = (m : Int) by omega]
    exact this
theorem scan_uniq {s : ByteArray} {i j : Nat} {l : List Tk} (h : Scan s i l j) (hj : j = s.size) : ∀ l', Scan s i l' s.size → l = l' := by
  induction h with
  | done i => intro l' h'; exact (h'.end_nil (by omega)).symm
  | @blank i j l h1 h2 h3 ih =>
    intro l' h'
    rcases h'.inv h1 with ⟨-, g⟩ | ⟨g, -⟩ | ⟨_, _, _, -, g, -⟩
    · exact ih hj l' g
    · rw [h2] at g; cases g
    · rw [h2] at g; cases g
  | @note i j l h1 h2 h3 ih =>
    intro l' h'
    rcases h'.inv h1 with ⟨g, -⟩ | ⟨-, -, g⟩ | ⟨_, _, _, -, -, g, -⟩
    · rw [h2] at g; exact absurd g (by decide)
    · exact ih hj l' g
    · exact absurd h2 g
  | @tok i j l kd z h1 h2 h3 h4 h5 ih =>
    intro l' h'
    rcases h'.inv h1 with ⟨g, -⟩ | ⟨-, g, -⟩ | ⟨k', z', r, rfl, -, -, g, g2⟩
    · rw [h2] at g; cases g
    · exact absurd g h3
    · rw [h4] at g
      obtain rfl : kd = k' := congrArg (fun y => y.1.1) g
      obtain rfl : z = z' := congrArg (fun y => y.1.2) g
      rw [ih hj r g2]
/-- Is a token another one, at a place that is so much greater? -/
def eqT (d : Int) (x y : Tk) : Bool := decide (x.f0 = y.f0) && (decide (x.f1 = y.f1) && decide (x.f2 + d = y.f2))
theorem eqT_self (d : Int) (x : Tk) : eqT d x (shT d x) = true := by
  unfold eqT shT
  rw [decide_eq_true rfl, decide_eq_true rfl, decide_eq_true rfl]; rfl
theorem eqT_zero (x : Tk) : eqT 0 x x = true := by
  unfold eqT
  rw [decide_eq_true rfl, decide_eq_true rfl, decide_eq_true (Int.add_zero _)]; rfl
def hdK (a b : List Tk) : Nat := runF (fun j => eqT 0 (rd_T58 a (j : Int)) (rd_T58 b (j : Int))) (min a.length b.length) 0
def tlK (a b : List Tk) (h : Nat) (d : Int) : Nat := runF (fun j => eqT d (rd_T58 a ((a.length - 1 - j : Nat) : Int)) (rd_T58 b ((b.length - 1 - j : Nat) : Int))) (min (a.length - h) (b.length - h)) 0
theorem rdT_of {l : List Tk} {k : Nat} {x : Tk} (h : l[k]? = some x) : rd_T58 l (k : Int) = x := by
  unfold rd_T58
  simp [List.getD, h]
theorem hdK_le (a b : List Tk) : hdK a b ≤ a.length ∧ hdK a b ≤ b.length := by
  have := (runF_le (fun j => eqT 0 (rd_T58 a (j : Int)) (rd_T58 b (j : Int))) (min a.length b.length) 0).2
  unfold hdK; omega
theorem tlK_le (a b : List Tk) (h : Nat) (d : Int) : tlK a b h d ≤ a.length - h ∧ tlK a b h d ≤ b.length - h := by
  have := (runF_le (fun j => eqT d (rd_T58 a ((a.length - 1 - j : Nat) : Int)) (rd_T58 b ((b.length - 1 - j : Nat) : Int))) (min (a.length - h) (b.length - h)) 0).2
  unfold tlK; omega
theorem far_head {s t : ByteArray} {p : Nat} (hp : p ≤ s.size) (hq : p ≤ t.size) (hb : ∀ k, k < p → bt t (k : Int) = bt s (k : Int)) {a b : List Tk} (ha : Scan s 0 a s.size) (hb2 : Scan t 0 b t.size) :
    (a.filter (fun x => decide (x.f2 + (x.f1.size : Int) < (p : Int)))).length ≤ hdK a b := by
  by_cases c : (a.filter (fun x => decide (x.f2 + (x.f1.size : Int) < (p : Int)))).length ≤ hdK a b
  · exact c
  · obtain ⟨h1, h2, h3⟩ := scan_pre hp hq hb ha b hb2 (hdK a b) (by omega)
    have h4 := runF_end (fun j => eqT 0 (rd_T58 a (j : Int)) (rd_T58 b (j : Int))) (min a.length b.length) 0 (by show hdK a b < _; omega)
    have e1 := List.getElem?_eq_getElem h1
    rw [e1] at h3
    have h5 : eqT 0 (rd_T58 a ((hdK a b : Nat) : Int)) (rd_T58 b ((hdK a b : Nat) : Int)) = false := h4
    rw [rdT_of e1, rdT_of h3.symm, eqT_zero] at h5
    cases h5
theorem far_tail {s t : ByteArray} {L m : Nat} (hL : L ≤ s.size) (hm : m ≤ t.size) (h10 : L = s.size ∨ bt s (L : Int) = 10) (hLr : Lr t m = Lr s L) {a b : List Tk} (ha : Scan s 0 a s.size) (hb : Scan t 0 b t.size) (h : Nat) (d : Int) (hd : d = (m : Int) - (L : Int)) :
    min (a.filter (fun x => decide ((L : Int) < x.f2))).length (min (a.length - h) (b.length - h)) ≤ tlK a b h d := by
  have g1 := Lr_len t m
  have g2 := Lr_len s L
  rw [hLr, g2] at g1
  have h10t : m = t.size ∨ bt t (m : Int) = 10 := by
    rcases h10 with e | e
    · exact .inl (by omega)
    · exact .inr (by rw [bt_head, hLr, ← bt_head]; exact e)
  obtain ⟨a1, a2, rfl, ha1, ha2⟩ := scan_cut hL h10 ha rfl (Nat.zero_le _)
  obtain ⟨b1, b2, rfl, hb1, hb2⟩ := scan_cut hm h10t hb rfl (Nat.zero_le _)
  obtain rfl := scan_uniq (scan_shift ha2 rfl m hL hm hLr) rfl b2 hb2
  rw [← hd] at *
  have hf : ((a1 ++ a2).filter (fun x => decide ((L : Int) < x.f2))).length ≤ a2.length := by
    rw [List.filter_append, List.filter_eq_nil_iff.2 (fun x hx => by have := ha1 x hx; simp only [decide_eq_true_eq]; omega), List.nil_append]
    exact List.length_filter_le _ _
  generalize ((a1 ++ a2).filter (fun x => decide ((L : Int) < x.f2))).length = n at *
  generalize hB : a2.map (shT d) = b2 at *
  have hlb : b2.length = a2.length := by rw [← hB, List.length_map]
  by_cases c : min n (min ((a1 ++ a2).length - h) ((b1 ++ b2).length - h)) ≤ tlK (a1 ++ a2) (b1 ++ b2) h d
  · exact c
  · have h4 := runF_end (fun j => eqT d (rd_T58 (a1 ++ a2) (((a1 ++ a2).length - 1 - j : Nat) : Int)) (rd_T58 (b1 ++ b2) (((b1 ++ b2).length - 1 - j : Nat) : Int))) (min ((a1 ++ a2).length - h) ((b1 ++ b2).length - h)) 0 (by show tlK (a1 ++ a2) (b1 ++ b2) h d < _; omega)
    have h5 : eqT d (rd_T58 (a1 ++ a2) (((a1 ++ a2).length - 1 - tlK (a1 ++ a2) (b1 ++ b2) h d : Nat) : Int)) (rd_T58 (b1 ++ b2) (((b1 ++ b2).length - 1 - tlK (a1 ++ a2) (b1 ++ b2) h d : Nat) : Int)) = false := h4
    generalize tlK (a1 ++ a2) (b1 ++ b2) h d = q at *
    have hq : q < a2.length := by omega
    rw [List.length_append, List.length_append, hlb, show a1.length + a2.length - 1 - q = a1.length + (a2.length - 1 - q) by omega, show b1.length + a2.length - 1 - q = b1.length + (a2.length - 1 - q) by omega] at h5
    obtain ⟨x, hx⟩ : ∃ x, a2[a2.length - 1 - q]? = some x := ⟨_, List.getElem?_eq_getElem (by omega)⟩
    have e1 : (a1 ++ a2)[a1.length + (a2.length - 1 - q)]? = some x := by
      rw [List.getElem?_append_right (by omega), Nat.add_sub_cancel_left]; exact hx
    have e2 : (b1 ++ b2)[b1.length + (a2.length - 1 - q)]? = some (shT d x) := by
      rw [List.getElem?_append_right (by omega), Nat.add_sub_cancel_left, ← hB, List.getElem?_map, hx]; rfl
    rw [rdT_of e1, rdT_of e2, eqT_self] at h5
    cases h5
/-- lex.Kept. -/
def kepM (s : ByteArray) (x : Sp) : Int × Int × Int :=
  if splE s [x] = 0 then
    if (toksM kwM s).2.2 = 0 then
      if (toksM kwM (splM s [x])).2.2 = 0 then
        ((hdK (toksM kwM s).1 (toksM kwM (splM s [x])).1 : Nat), (tlK (toksM kwM s).1 (toksM kwM (splM s [x])).1 (hdK (toksM kwM s).1 (toksM kwM (splM s [x])).1) (gr x) : Nat), 0)
      else (0, 0, (toksM kwM (splM s [x])).2.2)
    else (0, 0, (toksM kwM s).2.2)
  else (0, 0, splE s [x])
/-- THE LAW. -/
theorem far (s : ByteArray) (x : Sp) (h0 : splE s [x] = 0) (h1 : (toksM kwM s).2.2 = 0) (h2 : (toksM kwM (splM s [x])).2.2 = 0) (a b : List Tk) (ha : (toksM kwM s).1 = a) (hb : (toksM kwM (splM s [x])).1 = b) :
    0 ≤ x.f1 ∧ x.f1 ≤ (s.size : Int) ∧ 0 ≤ x.f0 ∧
    (a.filter (fun y => decide (y.f2 + (y.f1.size : Int) < x.f0))).length ≤ hdK a b ∧
    (∀ L : Nat, x.f1 ≤ (L : Int) → L ≤ s.size → (L = s.size ∨ bt s (L : Int) = 10) → min (a.filter (fun y => decide ((L : Int) < y.f2))).length (min (a.length - hdK a b) (b.length - hdK a b)) ≤ tlK a b (hdK a b) (gr x)) ∧
    hdK a b + tlK a b (hdK a b) (gr x) ≤ a.length ∧ hdK a b + tlK a b (hdK a b) (gr x) ≤ b.length := by
  obtain ⟨-, -, ⟨o1, o2, o3, o4, o5⟩, -⟩ := splE_ord h0
  obtain ⟨-, sa, -⟩ := (toks_iff s a).1 ⟨ha, h1⟩
  obtain ⟨-, sb, -⟩ := (toks_iff (splM s [x]) b).1 ⟨hb, h2⟩
  have hk := hdK_le a b
  have ht := tlK_le a b (hdK a b) (gr x)
  have hL0 : Lr (splM s [x]) 0 = (s.extract 0 x.f0.toNat).data.toList ++ (x.f2.data.toList ++ Lr s x.f1.toNat) := by
    unfold Lr splM
    rw [ba_data, List.drop_zero]
    unfold splB splB
    rw [Lr_ex]; rfl
  have hz : (s.extract 0 x.f0.toNat).size = x.f0.toNat := by rw [size_ex]; omega
  obtain ⟨k1, k2, k3⟩ := Lr_take (Nat.zero_le _) hL0
  rw [hz, Nat.zero_add] at k1 k2 k3
  obtain ⟨k4, k5, k6⟩ := Lr_take k1 k3
  have hbt : ∀ k, k < x.f0.toNat → bt (splM s [x]) (k : Int) = bt s (k : Int) := fun k hk => by
    have e1 := bt_ex (splM s [x]) 0 x.f0.toNat k (by omega)
    have e2 := bt_ex s 0 x.f0.toNat k (by omega)
    rw [k2, Nat.zero_add] at e1
    rw [Nat.zero_add] at e2
    rw [← e1, e2]
  refine ⟨by omega, o4, by omega, ?_, fun L hL1 hL2 hL3 => ?_, by omega, by omega⟩
  · have := far_head (p := x.f0.toNat) (by omega) k1 hbt sa sb
    rw [show ((x.f0.toNat : Nat) : Int) = x.f0 by omega] at this
    exact this
  · refine far_tail (m := x.f0.toNat + x.f2.size + (L - x.f1.toNat)) hL2 ?_ hL3 ?_ sa sb _ _ ?_
    · have g1 := Lr_len (splM s [x]) (x.f0.toNat + x.f2.size)
      rw [k6, Lr_len] at g1
      omega
    · rw [Lr_drop, k6, ← Lr_drop, show x.f1.toNat + (L - x.f1.toNat) = L by omega]
    · rw [gr_eq]; omega
end Go.Proofs.YtebidpcmcekbgaaDoor.P
namespace Go.Proofs.YtebidpcmcekbgaaDoor.P
open Go.RowKit Go.Shelf Go.Maps Go.Proofs.YtebidpcmcekbgaaDoorW.PrintWords Go.Proofs.YtebidpcmcekbgaaDoorW.PrintLast Go.Proofs.YtebidpcmcekbgaaDoorW.PrintMore
set_option linter.unusedVariables false
set_option linter.unusedSimpArgs false
/-- A text's bytes as numbers. -/
def bl (s : ByteArray) : List Int := s.data.toList.map fun c => (c.toNat : Int)
theorem bl_len (s : ByteArray) : (bl s).length = s.size := by unfold bl; rw [List.length_map, data_length]
theorem rd_bl (s : ByteArray) (i : Nat) : rd (bl s) (i : Int) = bt s (i : Int) := by
  unfold rd bl
  rw [bt_list, List.getD_eq_getElem?_getD, List.getElem?_map, Int.toNat_natCast]
  cases s.data.toList[i]? <;> rfl
theorem sameB_any (x y : Int) (w : World) : Calls Tryd.prog 51 #[.int .u8 x, .int .u8 y] w fun e w' => e = .returned (.bool (x == y)) ∧ w' = w := by
  go_enter Tryd.func51, Tryd.ntmps51
  go_wp2
  go_ret
  exact ⟨rfl, rfl⟩
theorem runF_step (f : Nat → Bool) {m n r : Nat} (h : runF f (m - n) n = r) (hn : n < m) : (f n = true → runF f (m - (n + 1)) (n + 1) = r) ∧ (f n = false → n = r) := by
  rw [show m - n = (m - (n + 1)) + 1 by omega, runF] at h
  exact ⟨fun e => by rw [if_pos e] at h; exact h, fun e => by rw [e, if_neg Bool.false_ne_true] at h; exact h⟩
theorem runF_stop (f : Nat → Bool) {m n r : Nat} (h : runF f (m - n) n = r) (hn : m ≤ n) : n = r := by
  rw [show m - n = 0 by omega, runF] at h; exact h
set_option maxRecDepth 8000 in
set_option maxHeartbeats 4000000 in
theorem commonB_any (a b : ByteArray) (A B : Option Addr) (ca cb : Nat) (w : World) (ha : Kd.C (Kd.int .u8) w A a.size (bl a)) (hb : Kd.C (Kd.int .u8) w B b.size (bl b)) (hsa : a.size ≤ 3000) (hsb : b.size ≤ 3000) :
    Calls Tryd.prog 52 #[.slice A a.size ca, .slice B b.size cb, .func (.func 51) #[] #[]] w fun e w' => e = .returned (.int .i64 (preB a b : Nat)) ∧ ∃ m, w' = w.drewN m := by
  have HA := Aside0.mk ha
  have HB := Aside0.mk hb
  obtain ⟨r, hr⟩ : ∃ r, runF (fun j => decide (bt a (j : Int) = bt b (j : Int))) (min a.size b.size - 0) 0 = r := ⟨_, rfl⟩
  have hr2 : preB a b = r := hr
  rw [hr2]
  have HR := Aside0.mk hr
  clear ha hb hr hr2
  go_enter Tryd.func52, Tryd.ntmps52
  go_wp2
  go_loopg [6] (min a.size b.size) (fun gg s6 wr => ∃ (i nd : Nat), s6 = .int .i64 i ∧ i ≤ a.size ∧ i ≤ b.size ∧ min a.size b.size - i ≤ gg ∧ Aside0 (runF (fun j => decide (bt a (j : Int) = bt b (j : Int))) (min a.size b.size - i) i = r) ∧ wr = w.drewN nd)
  case atStart => exact ⟨0, 0, rfl, Nat.zero_le _, Nat.zero_le _, by omega, HR, rfl⟩
  case round =>
    obtain ⟨i, nd, rfl, hi1, hi2, hg, HRi, rfl⟩ := hrel
    by_cases l1 : i < a.size
    · have c1 : decide ((i : Int) < (a.size : Int)) = true := decide_eq_true (by omega)
      by_cases l2 : i < b.size
      · have c2 : decide ((i : Int) < (b.size : Int)) = true := decide_eq_true (by omega)
        obtain ⟨ad, rfl, x0⟩ := Kd.at_int HA.out (i : Int) (by omega) (by omega)
        obtain ⟨bd, rfl, y0⟩ := Kd.at_int HB.out (i : Int) (by omega) (by omega)
        rw [rd_bl, Int.toNat_natCast] at x0 y0
        have hs := runF_step _ HRi.out (by omega)
        by_cases c3 : bt a (i : Int) = bt b (i : Int)
        · have c4 : (bt a (i : Int) == bt b (i : Int)) = true := beq_iff_eq.2 c3
          have HN := Aside0.mk (hs.1 (decide_eq_true c3))
          clear hs c3
          go_wp2
          go_quiet (exact (sameB_any _ _ _).mono (fun e w1 h => ⟨h.1, _, h.2⟩))
          go_wp2
          go_roundg (min a.size b.size - (i + 1))
          case measure => omega
          case rel => exact ⟨i + 1, nd + nq, by go_num, by omega, by omega, by omega, HN, rfl⟩
        · have c4 : (bt a (i : Int) == bt b (i : Int)) = false := beq_false_of_ne c3
          have hN := hs.2 (decide_eq_false c3)
          subst hN
          clear hs c3
          go_wp2
          go_quiet (exact (sameB_any _ _ _).mono (fun e w1 h => ⟨h.1, _, h.2⟩))
          go_wp2
          go_ret
          exact ⟨rfl, _, World.drewN_drewN _ _ _⟩
      · have c2 : decide ((i : Int) < (b.size : Int)) = false := decide_eq_false (by omega)
        have hN := runF_stop _ HRi.out (by omega)
        subst hN
        go_wp2
        go_quiet (fail)
        go_wp2
        go_ret
        exact ⟨rfl, _, World.drewN_drewN _ _ _⟩
    · have c1 : decide ((i : Int) < (a.size : Int)) = false := decide_eq_false (by omega)
      have hN := runF_stop _ HRi.out (by omega)
      subst hN
      go_wp2
      go_quiet (fail)
      go_wp2
      go_ret
      exact ⟨rfl, _, World.drewN_drewN _ _ _⟩
set_option maxRecDepth 8000 in
set_option maxHeartbeats 4000000 in
theorem endingB_any (a b : ByteArray) (A B : Option Addr) (ca cb : Nat) (w : World) (ha : Kd.C (Kd.int .u8) w A a.size (bl a)) (hb : Kd.C (Kd.int .u8) w B b.size (bl b)) (hsa : a.size ≤ 3000) (hsb : b.size ≤ 3000) :
    Calls Tryd.prog 53 #[.slice A a.size ca, .slice B b.size cb, .func (.func 51) #[] #[]] w fun e w' => e = .returned (.int .i64 (sufB a b 0 : Nat)) ∧ ∃ m, w' = w.drewN m := by
  have HA := Aside0.mk ha
  have HB := Aside0.mk hb
  obtain ⟨r, hr⟩ : ∃ r, runF (fun j => decide (bt a ((a.size - 1 - j : Nat) : Int) = bt b ((b.size - 1 - j : Nat) : Int))) (min a.size b.size - 0) 0 = r := ⟨_, rfl⟩
  have hr2 : sufB a b 0 = r := hr
  rw [hr2]
  have HR := Aside0.mk hr
  clear ha hb hr hr2
  go_enter Tryd.func53, Tryd.ntmps53
  go_wp2
  go_loopg [6] (min a.size b.size) (fun gg s6 wr => ∃ (i nd : Nat), s6 = .int .i64 i ∧ i ≤ a.size ∧ i ≤ b.size ∧ min a.size b.size - i ≤ gg ∧ Aside0 (runF (fun j => decide (bt a ((a.size - 1 - j : Nat) : Int) = bt b ((b.size - 1 - j : Nat) : Int))) (min a.size b.size - i) i = r) ∧ wr = w.drewN nd)
  case atStart => exact ⟨0, 0, rfl, Nat.zero_le _, Nat.zero_le _, by omega, HR, rfl⟩
  case round =>
    obtain ⟨i, nd, rfl, hi1, hi2, hg, HRi, rfl⟩ := hrel
    by_cases l1 : i < a.size
    · have c1 : decide ((i : Int) < (a.size : Int)) = true := decide_eq_true (by omega)
      by_cases l2 : i < b.size
      · have c2 : decide ((i : Int) < (b.size : Int)) = true := decide_eq_true (by omega)
        obtain ⟨ai, hai⟩ : ∃ ai : Nat, ai = a.size - 1 - i := ⟨_, rfl⟩
        obtain ⟨bi, hbi⟩ : ∃ bi : Nat, bi = b.size - 1 - i := ⟨_, rfl⟩
        have ai1 : ai < a.size := by omega
        have bi1 : bi < b.size := by omega
        obtain ⟨ad, rfl, x0⟩ := Kd.at_int HA.out (ai : Int) (by omega) (by omega)
        obtain ⟨bd, rfl, y0⟩ := Kd.at_int HB.out (bi : Int) (by omega) (by omega)
        rw [rd_bl, Int.toNat_natCast] at x0 y0
        have hs := runF_step _ HRi.out (by omega)
        rw [← hai, ← hbi] at hs
        have u1 : IntKind.i64.wrap ((a.size : Int) - 1) = (a.size : Int) - 1 := (i64_w _).trans (w64 (by omega) (by omega))
        have u2 : IntKind.i64.wrap ((a.size : Int) - 1 - (i : Int)) = (ai : Int) := by rw [i64_w, w64 (by omega) (by omega)]; omega
        have u3 : IntKind.i64.wrap ((b.size : Int) - 1) = (b.size : Int) - 1 := (i64_w _).trans (w64 (by omega) (by omega))
        have u4 : IntKind.i64.wrap ((b.size : Int) - 1 - (i : Int)) = (bi : Int) := by rw [i64_w, w64 (by omega) (by omega)]; omega
        clear hai hbi
        by_cases c3 : bt a (ai : Int) = bt b (bi : Int)
        · have c4 : (bt a (ai : Int) == bt b (bi : Int)) = true := beq_iff_eq.2 c3
          have HN := Aside0.mk (hs.1 (decide_eq_true c3))
          clear hs c3
          go_wp2
          go_quiet (exact (sameB_any _ _ _).mono (fun e w1 h => ⟨h.1, _, h.2⟩))
          go_wp2
          go_roundg (min a.size b.size - (i + 1))
          case measure => omega
          case rel => exact ⟨i + 1, nd + nq, by go_num, by omega, by omega, by omega, HN, rfl⟩
        · have c4 : (bt a (ai : Int) == bt b (bi : Int)) = false := beq_false_of_ne c3
          have hN := hs.2 (decide_eq_false c3)
          subst hN
          clear hs c3
          go_wp2
          go_quiet (exact (sameB_any _ _ _).mono (fun e w1 h => ⟨h.1, _, h.2⟩))
          go_wp2
          go_ret
          exact ⟨rfl, _, World.drewN_drewN _ _ _⟩
      · have c2 : decide ((i : Int) < (b.size : Int)) = false := decide_eq_false (by omega)
        have hN := runF_stop _ HRi.out (by omega)
        subst hN
        go_wp2
        go_quiet (fail)
        go_wp2
        go_ret
        exact ⟨rfl, _, World.drewN_drewN _ _ _⟩
    · have c1 : decide ((i : Int) < (a.size : Int)) = false := decide_eq_false (by omega)
      have hN := runF_stop _ HRi.out (by omega)
      subst hN
      go_wp2
      go_quiet (fail)
      go_wp2
      go_ret
      exact ⟨rfl, _, World.drewN_drewN _ _ _⟩
def vTk (x : Tk) : Value := .agg #[.int .u8 x.f0, .string x.f1, .int .i64 x.f2]
theorem eqT_b (d : Int) (x y : Tk) : eqT d x y = ((x.f0 == y.f0) && ((x.f1.toList == y.f1.toList) && (x.f2 + d == y.f2))) := by
  unfold eqT
  rw [runRight_aux]
  rfl
theorem later_any (d : Int) (w : World) : Calls Tryd.prog 73 #[.int .i64 d] w fun e w' => e = .returned (.func (.func 95) #[] #[.pointer (some ⟨w.heap.size, 0, none⟩)]) ∧ w' = w.alloc (.cells #[.int .i64 d] 3) := by
  go_enter Tryd.func73, Tryd.ntmps73
  go_wp2
  go_ret
  exact ⟨rfl, rfl⟩
set_option maxRecDepth 8000 in
set_option maxHeartbeats 2000000 in
theorem later1_any (d : Int) (bp : Nat) (x y : Tk) (w : World) (hc : w.cell? ⟨bp, 0, none⟩ = some (.int .i64 d)) (hd : wrap64 (x.f2 + d) = x.f2 + d) :
    Calls Tryd.prog 95 #[vTk x, vTk y, .pointer (some ⟨bp, 0, none⟩)] w fun e w' => e = .returned (.bool (eqT d x y)) ∧ Below w.heap.size w w' := by
  have hbp := World.block_lt_of_cell? w _ hc
  simp only at hbp
  rw [eqT_b]
  generalize h0 : (x.f0 == y.f0) = b0
  generalize h1 : (x.f1.toList == y.f1.toList) = b1
  generalize h2 : (x.f2 + d == y.f2) = b2
  unfold vTk
  go_enter Tryd.func95, Tryd.ntmps95
  go_upto_region 1 with fail
  obtain ⟨W2, hW2⟩ : ∃ W2, W2 = (w.alloc (.cells #[.int .u8 x.f0, .string x.f1, .int .i64 x.f2] 58)).alloc (.cells #[.int .u8 y.f0, .string y.f1, .int .i64 y.f2] 58) := ⟨_, rfl⟩
  rw [← hW2]
  have HB2 := Aside0.mk (show Below w.heap.size w W2 by rw [hW2]; exact ((Below.refl _ w).alloc (Nat.le_refl _) _).alloc (by simp) _)
  have HX := Aside0.mk (show W2.heap[w.heap.size]? = some (.cells #[.int .u8 x.f0, .string x.f1, .int .i64 x.f2] 58 (0, 0)) by rw [hW2]; exact blk_alloc (heap_alloc_new w _) _)
  have HY := Aside0.mk (show W2.heap[w.heap.size + 1]? = some (.cells #[.int .u8 y.f0, .string y.f1, .int .i64 y.f2] 58 (0, 0)) by rw [hW2]; exact heap_alloc_new' _ _ (by simp))
  have hc2 : W2.cell? ⟨bp, 0, none⟩ = some (.int .i64 d) := (HB2.out.cell (by simpa using hbp)).trans hc
  have k2 : W2.cell? ⟨w.heap.size, 2, none⟩ = some (.int .i64 x.f2) := (blk_cell HX.out 2).trans rfl
  have f2 : W2.frozen? ⟨w.heap.size, 2, none⟩ = false := blk_frozen HX.out 2
  clear hW2 hc
  go_upto_region 2 with fail
  have HX3 := Aside0.mk (blk_set HX.out 2 (.int .i64 (x.f2 + d)))
  have HY3 := Aside0.mk (blk_far HY.out (p := ⟨w.heap.size, 2, none⟩) (by simp) (.int .i64 (x.f2 + d)))
  have HB3 := Aside0.mk (show Below w.heap.size w (W2.setCell ⟨w.heap.size, 2, none⟩ (.int .i64 (x.f2 + d))) from HB2.out.setCell (Nat.le_refl _) _)
  obtain ⟨W3, hW3⟩ : ∃ W3, W3 = W2.setCell ⟨w.heap.size, 2, none⟩ (.int .i64 (x.f2 + d)) := ⟨_, rfl⟩
  rw [← hW3] at HX3 HY3 HB3 ⊢
  have m0 : W3.cell? ⟨w.heap.size, 0, none⟩ = some (.int .u8 x.f0) := (blk_cell HX3.out 0).trans rfl
  have m1 : W3.cell? ⟨w.heap.size, 1, none⟩ = some (.string x.f1) := (blk_cell HX3.out 1).trans rfl
  have m2 : W3.cell? ⟨w.heap.size, 2, none⟩ = some (.int .i64 (x.f2 + d)) := (blk_cell HX3.out 2).trans rfl
  have n0 : W3.cell? ⟨w.heap.size + 1, 0, none⟩ = some (.int .u8 y.f0) := (blk_cell HY3.out 0).trans rfl
  have n1 : W3.cell? ⟨w.heap.size + 1, 1, none⟩ = some (.string y.f1) := (blk_cell HY3.out 1).trans rfl
  have n2 : W3.cell? ⟨w.heap.size + 1, 2, none⟩ = some (.int .i64 y.f2) := (blk_cell HY3.out 2).trans rfl
  clear hW3 hc2 k2 f2
  cases b0 <;> cases b1 <;> cases b2
  all_goals (go_wp2; go_ret; exact ⟨rfl, HB3.out⟩)
theorem rdT_mem (l : List Tk) (i : Nat) (h : i < l.length) : rd_T58 l (i : Int) ∈ l :=
  List.mem_of_mem_drop (i := i) (by rw [tk_drop l i h]; exact List.mem_cons_self)
set_option maxRecDepth 8000 in
set_option maxHeartbeats 8000000 in
theorem commonT_any (a b : List Tk) (A B : Option Addr) (ca cb : Nat) (d : Int) (bp : Nat) (w : World) (ha : Kd.C k58 w A a.length a) (hb : Kd.C k58 w B b.length b) (hc : w.cell? ⟨bp, 0, none⟩ = some (.int .i64 d)) (hla : a.length ≤ 900) (hlb : b.length ≤ 900) (hd : ∀ x ∈ a, wrap64 (x.f2 + d) = x.f2 + d) :
    Calls Tryd.prog 72 #[.slice A a.length ca, .slice B b.length cb, .func (.func 95) #[] #[.pointer (some ⟨bp, 0, none⟩)]] w fun e w' => e = .returned (.int .i64 (runF (fun j => eqT d (rd_T58 a (j : Int)) (rd_T58 b (j : Int))) (min a.length b.length) 0 : Nat)) ∧ Below w.heap.size w w' := by
  have HA := Aside0.mk ha
  have HB := Aside0.mk hb
  have HC := Aside0.mk hc
  have HD := Aside0.mk hd
  have hbp := World.block_lt_of_cell? w _ hc
  have HBP := Aside0.mk hbp
  obtain ⟨r, hr⟩ : ∃ r, runF (fun j => eqT d (rd_T58 a (j : Int)) (rd_T58 b (j : Int))) (min a.length b.length - 0) 0 = r := ⟨_, rfl⟩
  rw [Nat.sub_zero] at hr
  rw [hr]
  have HR := Aside0.mk hr
  clear ha hb hr hc hd hbp
  go_enter Tryd.func72, Tryd.ntmps72
  go_wp2
  go_loopg [6] (min a.length b.length) (fun gg s6 wr => ∃ (i : Nat), s6 = .int .i64 i ∧ i ≤ a.length ∧ i ≤ b.length ∧ min a.length b.length - i ≤ gg ∧ Aside0 (runF (fun j => eqT d (rd_T58 a (j : Int)) (rd_T58 b (j : Int))) (min a.length b.length - i) i = r) ∧ Aside0 (Below w.heap.size w wr))
  case atStart => exact ⟨0, rfl, Nat.zero_le _, Nat.zero_le _, by omega, ⟨by rw [Nat.sub_zero]; exact HR.out⟩, ⟨Below.refl _ _⟩⟩
  case round =>
    obtain ⟨i, rfl, hi1, hi2, hg, HRi, HBW⟩ := hrel
    by_cases l1 : i < a.length
    · have c1 : decide ((i : Int) < (a.length : Int)) = true := decide_eq_true (by omega)
      by_cases l2 : i < b.length
      · have c2 : decide ((i : Int) < (b.length : Int)) = true := decide_eq_true (by omega)
        obtain ⟨ad, rfl, x0, x1, x2⟩ := at_T58 (Kd.C_below HA.out HBW.out) (i : Int) (by omega) (by omega)
        obtain ⟨bd, rfl, y0, y1, y2⟩ := at_T58 (Kd.C_below HB.out HBW.out) (i : Int) (by omega) (by omega)
        rw [Int.toNat_natCast] at x0 x1 x2 y0 y1 y2
        have hL := Aside0.mk (later1_any d bp (rd_T58 a (i : Int)) (rd_T58 b (i : Int)) wr.drew ((HBW.out.cell HBP.out).trans HC.out) (HD.out _ (rdT_mem a i l1)))
        have hs := runF_step _ HRi.out (by omega)
        by_cases c3 : eqT d (rd_T58 a (i : Int)) (rd_T58 b (i : Int)) = true
        · have HN := Aside0.mk (hs.1 c3)
          rw [c3] at hL
          clear hs c3
          unfold vTk at hL
          generalize rd_T58 a (i : Int) = x at *
          generalize rd_T58 b (i : Int) = y at *
          go_wp2
          go_still_tail 20, (by kernel_rfl)
          change wpList _ _ _ _ _ wr.drew
          go_wp2_with (go_at_call 95; refine hL.out.mono ?_; rintro e w1 ⟨rfl, hb1⟩; have HB1 := Aside0.mk (HBW.out.drew.trans (hb1.mono HBW.out.size)); clear hb1)
          go_roundg (min a.length b.length - (i + 1))
          case measure => omega
          case rel => exact ⟨i + 1, by go_num, by omega, by omega, by omega, HN, HB1⟩
        · have c4 : eqT d (rd_T58 a (i : Int)) (rd_T58 b (i : Int)) = false := Bool.eq_false_iff.2 c3
          have hN := hs.2 c4
          subst hN
          rw [c4] at hL
          clear hs c3 c4
          unfold vTk at hL
          generalize rd_T58 a (i : Int) = x at *
          generalize rd_T58 b (i : Int) = y at *
          go_wp2
          go_still_tail 20, (by kernel_rfl)
          change wpList _ _ _ _ _ wr.drew
          go_wp2_with (go_at_call 95; refine hL.out.mono ?_; rintro e w1 ⟨rfl, hb1⟩; have HB1 := Aside0.mk (HBW.out.drew.trans (hb1.mono HBW.out.size)); clear hb1)
          go_ret
          exact ⟨rfl, HB1.out⟩
      · have c2 : decide ((i : Int) < (b.length : Int)) = false := decide_eq_false (by omega)
        have hN := runF_stop _ HRi.out (by omega)
        subst hN
        go_wp2
        go_quiet (fail)
        go_wp2
        go_ret
        exact ⟨rfl, pw_below_drewN HBW.out nq⟩
    · have c1 : decide ((i : Int) < (a.length : Int)) = false := decide_eq_false (by omega)
      have hN := runF_stop _ HRi.out (by omega)
      subst hN
      go_wp2
      go_quiet (fail)
      go_wp2
      go_ret
      exact ⟨rfl, pw_below_drewN HBW.out nq⟩
set_option maxRecDepth 8000 in
set_option maxHeartbeats 8000000 in
theorem endingT_any (a b : List Tk) (A B : Option Addr) (ca cb : Nat) (d : Int) (bp : Nat) (w : World) (ha : Kd.C k58 w A a.length a) (hb : Kd.C k58 w B b.length b) (hc : w.cell? ⟨bp, 0, none⟩ = some (.int .i64 d)) (hla : a.length ≤ 900) (hlb : b.length ≤ 900) (hd : ∀ x ∈ a, wrap64 (x.f2 + d) = x.f2 + d) :
    Calls Tryd.prog 74 #[.slice A a.length ca, .slice B b.length cb, .func (.func 95) #[] #[.pointer (some ⟨bp, 0, none⟩)]] w fun e w' => e = .returned (.int .i64 (runF (fun j => eqT d (rd_T58 a ((a.length - 1 - j : Nat) : Int)) (rd_T58 b ((b.length - 1 - j : Nat) : Int))) (min a.length b.length) 0 : Nat)) ∧ Below w.heap.size w w' := by
  have HA := Aside0.mk ha
  have HB := Aside0.mk hb
  have HC := Aside0.mk hc
  have HD := Aside0.mk hd
  have hbp := World.block_lt_of_cell? w _ hc
  have HBP := Aside0.mk hbp
  obtain ⟨r, hr⟩ : ∃ r, runF (fun j => eqT d (rd_T58 a ((a.length - 1 - j : Nat) : Int)) (rd_T58 b ((b.length - 1 - j : Nat) : Int))) (min a.length b.length - 0) 0 = r := ⟨_, rfl⟩
  rw [Nat.sub_zero] at hr
  rw [hr]
  have HR := Aside0.mk hr
  clear ha hb hr hc hd hbp
  go_enter Tryd.func74, Tryd.ntmps74
  go_wp2
  go_loopg [6] (min a.length b.length) (fun gg s6 wr => ∃ (i : Nat), s6 = .int .i64 i ∧ i ≤ a.length ∧ i ≤ b.length ∧ min a.length b.length - i ≤ gg ∧ Aside0 (runF (fun j => eqT d (rd_T58 a ((a.length - 1 - j : Nat) : Int)) (rd_T58 b ((b.length - 1 - j : Nat) : Int))) (min a.length b.length - i) i = r) ∧ Aside0 (Below w.heap.size w wr))
  case atStart => exact ⟨0, rfl, Nat.zero_le _, Nat.zero_le _, by omega, ⟨by rw [Nat.sub_zero]; exact HR.out⟩, ⟨Below.refl _ _⟩⟩
  case round =>
    obtain ⟨i, rfl, hi1, hi2, hg, HRi, HBW⟩ := hrel
    by_cases l1 : i < a.length
    · have c1 : decide ((i : Int) < (a.length : Int)) = true := decide_eq_true (by omega)
      by_cases l2 : i < b.length
      · have c2 : decide ((i : Int) < (b.length : Int)) = true := decide_eq_true (by omega)
        obtain ⟨ai, hai⟩ : ∃ ai : Nat, ai = a.length - 1 - i := ⟨_, rfl⟩
        obtain ⟨bi, hbi⟩ : ∃ bi : Nat, bi = b.length - 1 - i := ⟨_, rfl⟩
        have ai1 : ai < a.length := by omega
        have bi1 : bi < b.length := by omega
        obtain ⟨ad, rfl, x0, x1, x2⟩ := at_T58 (Kd.C_below HA.out HBW.out) (ai : Int) (by omega) (by omega)
        obtain ⟨bd, rfl, y0, y1, y2⟩ := at_T58 (Kd.C_below HB.out HBW.out) (bi : Int) (by omega) (by omega)
        rw [Int.toNat_natCast] at x0 x1 x2 y0 y1 y2
        have hL := Aside0.mk (later1_any d bp (rd_T58 a (ai : Int)) (rd_T58 b (bi : Int)) wr.drew ((HBW.out.cell HBP.out).trans HC.out) (HD.out _ (rdT_mem a ai ai1)))
        have hs := runF_step _ HRi.out (by omega)
        rw [← hai, ← hbi] at hs
        have u1 : IntKind.i64.wrap ((a.length : Int) - 1) = (a.length : Int) - 1 := (i64_w _).trans (w64 (by omega) (by omega))
        have u2 : IntKind.i64.wrap ((a.length : Int) - 1 - (i : Int)) = (ai : Int) := by rw [i64_w, w64 (by omega) (by omega)]; omega
        have u3 : IntKind.i64.wrap ((b.length : Int) - 1) = (b.length : Int) - 1 := (i64_w _).trans (w64 (by omega) (by omega))
        have u4 : IntKind.i64.wrap ((b.length : Int) - 1 - (i : Int)) = (bi : Int) := by rw [i64_w, w64 (by omega) (by omega)]; omega
        clear hai hbi
        by_cases c3 : eqT d (rd_T58 a (ai : Int)) (rd_T58 b (bi : Int)) = true
        · have HN := Aside0.mk (hs.1 c3)
          rw [c3] at hL
          clear hs c3
          unfold vTk at hL
          generalize rd_T58 a (ai : Int) = x at *
          generalize rd_T58 b (bi : Int) = y at *
          go_wp2
          go_still_tail 28, (by kernel_rfl)
          change wpList _ _ _ _ _ wr.drew
          go_wp2_with (go_at_call 95; refine hL.out.mono ?_; rintro e w1 ⟨rfl, hb1⟩; have HB1 := Aside0.mk (HBW.out.drew.trans (hb1.mono HBW.out.size)); clear hb1)
          go_roundg (min a.length b.length - (i + 1))
          case measure => omega
          case rel => exact ⟨i + 1, by go_num, by omega, by omega, by omega, HN, HB1⟩
        · have c4 : eqT d (rd_T58 a (ai : Int)) (rd_T58 b (bi : Int)) = false := Bool.eq_false_iff.2 c3
          have hN := hs.2 c4
          subst hN
          rw [c4] at hL
          clear hs c3 c4
          unfold vTk at hL
          generalize rd_T58 a (ai : Int) = x at *
          generalize rd_T58 b (bi : Int) = y at *
          go_wp2
          go_still_tail 28, (by kernel_rfl)
          change wpList _ _ _ _ _ wr.drew
          go_wp2_with (go_at_call 95; refine hL.out.mono ?_; rintro e w1 ⟨rfl, hb1⟩; have HB1 := Aside0.mk (HBW.out.drew.trans (hb1.mono HBW.out.size)); clear hb1)
          go_ret
          exact ⟨rfl, HB1.out⟩
      · have c2 : decide ((i : Int) < (b.length : Int)) = false := decide_eq_false (by omega)
        have hN := runF_stop _ HRi.out (by omega)
        subst hN
        go_wp2
        go_quiet (fail)
        go_wp2
        go_ret
        exact ⟨rfl, pw_below_drewN HBW.out nq⟩
    · have c1 : decide ((i : Int) < (a.length : Int)) = false := decide_eq_false (by omega)
      have hN := runF_stop _ HRi.out (by omega)
      subst hN
      go_wp2
      go_quiet (fail)
      go_wp2
      go_ret
      exact ⟨rfl, pw_below_drewN HBW.out nq⟩
end Go.Proofs.YtebidpcmcekbgaaDoor.P
namespace Go.Proofs.YtebidpcmcekbgaaDoor.P
open Go Go.RowKit Go.Shelf Go.Maps Go.ChangeShapes Go.WideShapes Go.Proofs.YtebidpcmcekbgaaDoorW.PrintWords Go.Proofs.YtebidpcmcekbgaaDoorW.PrintLast Go.Proofs.YtebidpcmcekbgaaDoorW.PrintMore
set_option linter.unusedVariables false
set_option linter.unusedSimpArgs false
theorem Apply_any (s : ByteArray) (A : Option Addr) (c : Nat) (l : List Sp) (w : World) (hr : Kd.C k60 w A l.length l) (hc : l.length ≤ c) (hs : s.size ≤ 3000) (hl : l.length ≤ 1000) (hx : ∀ x ∈ l, x.f2.size ≤ 3000) :
    Calls Tryd.prog 23 #[.string s, .slice A l.length c] w fun e w' => e = .returned (.tuple #[.string (appM s l).1, .int .i64 (appM s l).2]) ∧ Below w.heap.size w w' := by
  have h := pSplices s l hs hl hx
  unfold appM
  by_cases c0 : splE s l = 0
  · rw [if_pos c0]
    obtain ⟨h1, h2, h3, h4⟩ := splE_ord c0
    have hb := splB_len s 3000 l 0 hx h3
    exact Apply_ok s A c l _ w hr hc (by omega) (by omega) (by rw [h, c0]) h3 (by omega)
  · rw [if_neg c0]
    exact Apply_bad s A c l _ _ w hr hc h c0
set_option maxRecDepth 100000
end Go.Proofs.YtebidpcmcekbgaaDoor.P
namespace Go.Proofs.YtebidpcmcekbgaaDoor.P
open Go.RowKit Go.Shelf Go.Maps Go.Proofs.YtebidpcmcekbgaaDoorW.PrintWords Go.Proofs.YtebidpcmcekbgaaDoorW.PrintLast Go.Proofs.YtebidpcmcekbgaaDoorW.PrintMore
set_option linter.unusedVariables false
set_option linter.unusedSimpArgs false
theorem C_bytes (s : ByteArray) (W : World) (cap e : Nat) (fr : Nat × Nat) (hs : s.size ≤ 3000) : Kd.C (Kd.int .u8) (W.alloc (.cells (bytesRow s cap) e fr)) (some ⟨W.heap.size, 0, none⟩) s.size (bl s) := by
  refine ⟨bl_len s, by omega, fun _ => ⟨_, rfl, fun j p hj => ⟨[.int .u8 p], rfl, rfl, fun i u hu => ?_⟩⟩⟩
  obtain ⟨hi, rfl⟩ := List.getElem?_eq_some_iff.1 hu
  have hi0 : i = 0 := by simpa using hi
  subst hi0
  have e0 : (⟨W.heap.size, 0, none⟩ : Addr).add (j * (Kd.int .u8).sz + 0) = ⟨W.heap.size, j, none⟩ := by
    show (⟨W.heap.size, 0, none⟩ : Addr).add (j * 1 + 0) = _
    simp [Addr.add]; intro h; exact h.symm
  rw [e0]
  refine (World.cell?_alloc_mark W _ e fr j).trans ?_
  unfold bl at hj
  rw [List.getElem?_map] at hj
  cases hc : s.data.toList[j]? with
  | none => rw [hc] at hj; cases hj
  | some c =>
    rw [hc] at hj
    obtain rfl : (c.toNat : Int) = p := Option.some.inj hj
    unfold bytesRow
    have h1 : s.data[j]? = some c := by rw [← Array.getElem?_toList]; exact hc
    have h2 : j < s.data.size := (Array.getElem?_eq_some_iff.1 h1).1
    rw [Array.getElem?_append_left (by rw [Array.size_map]; exact h2), Array.getElem?_map, h1]
    rfl
set_option maxRecDepth 8000 in
/-- What '[]byte(s)' makes: its room and the world behind it, unnamed. -/
theorem bytes_conv : ∃ (cv : World → ByteArray → Nat) (wv : World → ByteArray → World), (∀ (W : World) (s : ByteArray), (convert 9 77 (.string s)).run Tryd.prog W = .ok (.slice (some ⟨W.heap.size, 0, none⟩) s.size (cv W s)) (wv W s)) ∧
    (∀ (W : World) (s : ByteArray), s.size ≤ 3000 → Kd.C (Kd.int .u8) (wv W s) (some ⟨W.heap.size, 0, none⟩) s.size (bl s)) ∧ (∀ (W : World) (s : ByteArray), Below W.heap.size W (wv W s)) :=
  ⟨fun W s => grownCap W s.size 0 5, fun W s => W.drew.alloc (.cells (bytesRow s (grownCap W s.size 0 5)) 5 ((bytesRow s (grownCap W s.size 0 5)).size, (bytesRow s (grownCap W s.size 0 5)).size + 1)), fun W s => run_bytes_of_string (P := Tryd.prog) W 9 77 5 s rfl rfl rfl, fun W s hs => C_bytes s W.drew _ _ _ hs, fun W s => (Below.refl _ W).drew.alloc (Nat.le_refl _) _⟩
theorem sufB_ex (a b : ByteArray) (p : Nat) (ha : p ≤ a.size) (hb : p ≤ b.size) : sufB (a.extract p a.size) (b.extract p b.size) 0 = sufB a b p := by
  unfold sufB
  have e1 : (a.extract p a.size).size = a.size - p := by rw [size_ex]; omega
  have e2 : (b.extract p b.size).size = b.size - p := by rw [size_ex]; omega
  rw [e1, e2, Nat.sub_zero, Nat.sub_zero]
  refine runF_congr _ _ fun j h1 h2 => ?_
  rw [bt_ex a p a.size _ (by omega), bt_ex b p b.size _ (by omega), show p + (a.size - p - 1 - j) = a.size - 1 - j by omega, show p + (b.size - p - 1 - j) = b.size - 1 - j by omega]
/-- A literal of one splice. -/
theorem R_one (W : World) (base : Nat) (x : Sp) (hb : base ≤ W.heap.size) : Kd.R k60 60 (W.alloc (.cells #[.int .i64 x.f0, .int .i64 x.f1, .string x.f2] 60)) base (fun _ => True) (.slice (some ⟨W.heap.size, 0, none⟩) 1 1) [x] := by
  have hrep : Reps (k60.M W base (fun _ => False)) k60.sz [x] [.int .i64 x.f0, .int .i64 x.f1, .string x.f2] := Reps.c3 (k60_mkM _ _ _ _) (Reps.none _ _)
  refine ⟨fun _ _ => trivial, [.int .i64 x.f0, .int .i64 x.f1, .string x.f2], ?_, ?_⟩
  · have h2 := World.ownsRow_lit (base := base) (e := 60) (size := k60.sz) W #[.int .i64 x.f0, .int .i64 x.f1, .string x.f2] 1 hb (by decide) rfl
    simpa using h2
  · exact hrep.imp_ (fun p c hp => k60.M_mono (fun k hk => hk.elim) (Kd.M_below hp (below_alloc (Below.refl _ _) _)))
set_option maxRecDepth 8000 in
set_option maxHeartbeats 8000000 in
theorem Diff_any (a b : ByteArray) (w : World) (hsa : a.size ≤ 3000) (hsb : b.size ≤ 3000) :
    Calls Tryd.prog 19 #[.string a, .string b] w fun e w' => ∃ v, e = .returned (.tuple #[v, .int .i64 (difM a b).2]) ∧ Kd.R k60 60 w' w.heap.size (fun _ => True) v (difM a b).1 ∧ Below w.heap.size w w' := by
  have hca := Aside0.mk (fun W => check_any a W (by omega))
  have hcb := Aside0.mk (fun W => check_any b W (by omega))
  have i0 : ∀ w : World, (Instr.index 74 (.agg #[.string a, .string b]) (.int .i64 0)).run Tryd.prog w = .ok (.string a) w := fun _ => by kernel_rfl
  have i1 : ∀ w : World, (Instr.index 74 (.agg #[.string a, .string b]) (.int .i64 1)).run Tryd.prog w = .ok (.string b) w := fun _ => by kernel_rfl
  unfold difM
  by_cases e1 : (chkT a).2 = 0
  · by_cases e2 : (chkT b).2 = 0
    · rw [if_pos e1, if_pos e2]
      by_cases e3 : a = b
      · have HS := Aside0.mk (show difS a b = [] from if_pos e3)
        have e4 : (a.toList == b.toList) = true := by rw [e3]; exact beq_self_eq_true _
        generalize difS a b = d at *
        generalize chkT a = ka at *
        generalize chkT b = kb at *
        obtain ⟨ka0, ka1⟩ := ka
        obtain ⟨kb0, kb1⟩ := kb
        simp only at e1 e2 hca hcb
        subst e1 e2
        clear e3
        go_enter Tryd.func19, Tryd.ntmps19
        (go_wp2; refine wp_loop_rounds 3 ?_; rw [rounds_succ]; go_wp2_with (go_at_call 40; refine (hca.out _).mono ?_; rintro e w1 ⟨rfl, hb1⟩; have HB1 := Aside0.mk hb1; clear hb1))
        rw [rounds_succ]
        go_wp2_with (go_at_call 40; refine (hcb.out _).mono ?_; rintro e w2 ⟨rfl, hb2⟩; have HB2 := Aside0.mk (HB1.out.trans (hb2.mono HB1.out.size)); clear hb2)
        rw [rounds_succ]
        go_wp2
        go_ret2
        rw [HS.out]
        exact ⟨_, rfl, Kd.R_nil _ _ _ _ _, HB2.out⟩
      · obtain ⟨cv, wv, hcv, hCV, hBV⟩ := bytes_conv
        have HCV := Aside0.mk hCV
        have HBV := Aside0.mk hBV
        clear hCV hBV
        have e4 : (a.toList == b.toList) = false := by rw [runRight_aux]; exact decide_eq_false e3
        have HS := Aside0.mk (show difS a b = [⟨(preB a b : Int), ((a.size - sufB a b (preB a b) : Nat) : Int), b.extract (preB a b) (b.size - sufB a b (preB a b))⟩] from if_neg e3)
        have hP := Aside0.mk (fun A B ca cb W ha hb => commonB_any a b A B ca cb W ha hb hsa hsb)
        have hp12 := preB_le a b
        have hq12 := sufB_le a b (preB a b)
        have hZ := sufB_ex a b (preB a b) hp12.1 hp12.2
        generalize difS a b = d at *
        generalize chkT a = ka at *
        generalize chkT b = kb at *
        generalize preB a b = p at *
        obtain ⟨ka0, ka1⟩ := ka
        obtain ⟨kb0, kb1⟩ := kb
        obtain ⟨hp1, hp2⟩ := hp12
        have hza : (a.extract p a.size).size = a.size - p := by rw [size_ex]; omega
        have hzb : (b.extract p b.size).size = b.size - p := by rw [size_ex]; omega
        have hQ := fun A B ca cb W ha hb => endingB_any (a.extract p a.size) (b.extract p b.size) A B ca cb W ha hb (by omega) (by omega)
        rw [hZ, hza, hzb] at hQ
        have HQ := Aside0.mk hQ
        have HVA := Aside0.mk (fun W => hza ▸ HCV.out W (a.extract p a.size) (by omega))
        have HVB := Aside0.mk (fun W => hzb ▸ HCV.out W (b.extract p b.size) (by omega))
        clear hQ hZ hza hzb
        generalize sufB a b p = q at *
        obtain ⟨hq1, hq2⟩ := hq12
        simp only at e1 e2 hca hcb
        subst e1 e2
        clear e3
        go_enter Tryd.func19, Tryd.ntmps19
        (go_wp2; refine wp_loop_rounds 3 ?_; rw [rounds_succ]; go_wp2_with (go_at_call 40; refine (hca.out _).mono ?_; rintro e w1 ⟨rfl, hb1⟩; have HB1 := Aside0.mk hb1; clear hb1))
        rw [rounds_succ]
        go_wp2_with (go_at_call 40; refine (hcb.out _).mono ?_; rintro e w2 ⟨rfl, hb2⟩; have HB2 := Aside0.mk (HB1.out.trans (hb2.mono HB1.out.size)); clear hb2)
        rw [rounds_succ]
        go_wp2_with (go_at_call 52; with_reducible refine (hP.out _ _ _ _ _ (Kd.C_below (HCV.out w2 a hsa) (HBV.out (wv w2 a) b)) (HCV.out (wv w2 a) b hsb)).mono ?_; rintro e w3 ⟨rfl, hw3⟩; have HB3 := Aside0.mk (show Below w.heap.size w w3 from (by obtain ⟨nd, rfl⟩ := hw3; exact pw_below_drewN (HB2.out.trans (((HBV.out w2 a).trans ((HBV.out (wv w2 a) b).mono (HBV.out w2 a).size)).mono HB2.out.size)) nd)); clear hw3)
        have HBd := Aside0.mk HB3.out.drew
        have hp1z : (p : Int) ≤ (a.size : Int) := by omega
        have hp2z : (p : Int) ≤ (b.size : Int) := by omega
        have hp0z : (0 : Int) ≤ (p : Int) := by omega
        refine start_ (n := 11) (S := fun w' => True) (ds := []) #[false, false, false, false, false, false, false, false, false, false, false] (by kernel_rfl) rfl rfl trivial (fun hHeld => ?_)
        generalize w3.drew = wd at HBd ⊢
        refine pure_ (i := 0) (N := some 37) (v := ?_) (a' := ?_) #[true, false, false, false, false, false, false, false, false, false, false] rfl rfl (by kernel_rfl) (fun _ _ _ h => h) (Or.inl ⟨by rfl, ?_⟩) ?_ ?_
        rotate_left
        · intro w'
          go_simp
          with_reducible rfl
        rotate_left
        · simp only [Act.put, List.setIfInBounds_toArray, List.set_cons_zero, List.set_cons_succ, i64_w, i32_w]
          rfl
        refine pure_ (i := 1) (N := some 38) (v := ?_) (a' := ?_) #[true, true, false, false, false, false, false, false, false, false, false] rfl rfl (by kernel_rfl) (fun _ _ _ h => h) (Or.inl ⟨by rfl, ?_⟩) ?_ ?_
        rotate_left
        · intro w'
          go_simp
          with_reducible rfl
        rotate_left
        · simp only [Act.put, List.setIfInBounds_toArray, List.set_cons_zero, List.set_cons_succ, i64_w, i32_w]
          rfl
        refine pure_ (i := 2) (N := some 39) (v := ?_) (a' := ?_) #[true, true, true, false, false, false, false, false, false, false, false] rfl rfl (by kernel_rfl) (fun _ _ _ h => h) (Or.inl ⟨by rfl, ?_⟩) ?_ ?_
        rotate_left
        · intro w'
          go_simp
          with_reducible rfl
        rotate_left
        · simp only [Act.put, List.setIfInBounds_toArray, List.set_cons_zero, List.set_cons_succ, i64_w, i32_w]
          rfl
        refine pure_ (i := 4) (N := some 41) (v := ?_) (a' := ?_) #[true, true, true, false, true, false, false, false, false, false, false] rfl rfl (by kernel_rfl) (fun _ _ _ h => h) (Or.inl ⟨by rfl, ?_⟩) ?_ ?_
        rotate_left
        · intro w'
          go_simp
          with_reducible rfl
        rotate_left
        · simp only [Act.put, List.setIfInBounds_toArray, List.set_cons_zero, List.set_cons_succ, i64_w, i32_w]
          rfl
        refine pure_ (i := 5) (N := some 42) (v := ?_) (a' := ?_) #[true, true, true, false, true, true, false, false, false, false, false] rfl rfl (by kernel_rfl) (fun _ _ _ h => h) (Or.inl ⟨by rfl, ?_⟩) ?_ ?_
        rotate_left
        · intro w'
          go_simp
          with_reducible rfl
        rotate_left
        · simp only [Act.put, List.setIfInBounds_toArray, List.set_cons_zero, List.set_cons_succ, i64_w, i32_w]
          rfl
        refine pure_ (i := 6) (N := some 43) (v := ?_) (a' := ?_) #[true, true, true, false, true, true, true, false, false, false, false] rfl rfl (by kernel_rfl) (fun _ _ _ h => h) (Or.inl ⟨by rfl, ?_⟩) ?_ ?_
        rotate_left
        · intro w'
          go_simp
          with_reducible rfl
        rotate_left
        · simp only [Act.put, List.setIfInBounds_toArray, List.set_cons_zero, List.set_cons_succ, i64_w, i32_w]
          rfl
        refine pure_ (i := 8) (N := some 45) (v := ?_) (a' := ?_) #[true, true, true, false, true, true, true, false, true, false, false] rfl rfl (by kernel_rfl) (fun _ _ _ h => h) (Or.inl ⟨by rfl, ?_⟩) ?_ ?_
        rotate_left
        · intro w'
          go_simp
          with_reducible rfl
        rotate_left
        · simp only [Act.put, List.setIfInBounds_toArray, List.set_cons_zero, List.set_cons_succ, i64_w, i32_w]
          rfl
        refine join_ (σ := (Nat × Nat) × (Nat × Nat)) 2 #[true, true, true, true, true, true, true, true, true, false, false] (fun s => [(40, .slice (some ⟨s.1.1, 0, none⟩) (a.size - p) s.1.2), (44, .slice (some ⟨s.2.1, 0, none⟩) (b.size - p) s.2.2)]) (fun s w' => Kd.C (Kd.int .u8) w' (some ⟨s.1.1, 0, none⟩) (a.size - p) (bl (a.extract p a.size)) ∧ Kd.C (Kd.int .u8) w' (some ⟨s.2.1, 0, none⟩) (b.size - p) (bl (b.extract p b.size)) ∧ Below w.heap.size w w') ?_ ?_
        rotate_left
        · intro hCont
          refine two_ (i := 3) (j := 7) (Ni := some 40) (Nj := some 44) #[true, true, true, true, true, true, true, false, true, false, false] #[true, true, true, false, true, true, true, true, true, false, false] rfl rfl rfl rfl (by kernel_rfl) (by decide) (by decide) (fun K hK => ?_) (fun K hK => ?_)
          · skip
            refine value_ (w1 := ?_) (v := ?_) (by rfl) rfl ?_ ?_
            rotate_left 2
            · go_simp
              constructor
              · rfl
              · rfl
            refine hK.out _ _ trivial (fun hHeld => ?_)
            clear hK K
            refine norm_ (a' := ?_) ?_ ?_
            rotate_left
            · show Act.put _ (some 40) _ = _
              simp only [Act.put, List.setIfInBounds_toArray, List.set_cons_zero, List.set_cons_succ, i64_w, i32_w]
              rfl
            refine one_ (i := 7) (N := some 44) #[true, true, true, true, true, true, true, true, true, false, false] rfl rfl (by kernel_rfl) (by decide) (fun K hK => ?_)
            refine value_ (w1 := ?_) (v := ?_) (by rfl) rfl ?_ ?_
            rotate_left 2
            · go_simp
              constructor
              · rfl
              · rfl
            refine hK.out _ _ trivial (fun hHeld => ?_)
            clear hK K
            refine norm_ (a' := ?_) ?_ ?_
            rotate_left
            · show Act.put _ (some 44) _ = _
              simp only [Act.put, List.setIfInBounds_toArray, List.set_cons_zero, List.set_cons_succ, i64_w, i32_w]
              rfl
            exact norm_ (by simp only [putAll, Act.put, List.setIfInBounds_toArray, List.set_cons_zero, List.set_cons_succ]) (hCont ((wd.heap.size, cv wd (a.extract p a.size)), ((wv wd (a.extract p a.size)).heap.size, cv (wv wd (a.extract p a.size)) (b.extract p b.size))) _ ⟨Kd.C_below (HVA.out wd) (HBV.out (wv wd (a.extract p a.size)) (b.extract p b.size)), HVB.out (wv wd (a.extract p a.size)), HBd.out.trans (((HBV.out wd (a.extract p a.size)).trans ((HBV.out (wv wd (a.extract p a.size)) (b.extract p b.size)).mono (HBV.out wd (a.extract p a.size)).size)).mono HBd.out.size)⟩)
          · skip
            refine value_ (w1 := ?_) (v := ?_) (by rfl) rfl ?_ ?_
            rotate_left 2
            · go_simp
              constructor
              · rfl
              · rfl
            refine hK.out _ _ trivial (fun hHeld => ?_)
            clear hK K
            refine norm_ (a' := ?_) ?_ ?_
            rotate_left
            · show Act.put _ (some 44) _ = _
              simp only [Act.put, List.setIfInBounds_toArray, List.set_cons_zero, List.set_cons_succ, i64_w, i32_w]
              rfl
            refine one_ (i := 3) (N := some 40) #[true, true, true, true, true, true, true, true, true, false, false] rfl rfl (by kernel_rfl) (by decide) (fun K hK => ?_)
            refine value_ (w1 := ?_) (v := ?_) (by rfl) rfl ?_ ?_
            rotate_left 2
            · go_simp
              constructor
              · rfl
              · rfl
            refine hK.out _ _ trivial (fun hHeld => ?_)
            clear hK K
            refine norm_ (a' := ?_) ?_ ?_
            rotate_left
            · show Act.put _ (some 40) _ = _
              simp only [Act.put, List.setIfInBounds_toArray, List.set_cons_zero, List.set_cons_succ, i64_w, i32_w]
              rfl
            exact norm_ (by simp only [putAll, Act.put, List.setIfInBounds_toArray, List.set_cons_zero, List.set_cons_succ]) (hCont (((wv wd (b.extract p b.size)).heap.size, cv (wv wd (b.extract p b.size)) (a.extract p a.size)), (wd.heap.size, cv wd (b.extract p b.size))) _ ⟨HVA.out (wv wd (b.extract p b.size)), Kd.C_below (HVB.out wd) (HBV.out (wv wd (b.extract p b.size)) (a.extract p a.size)), HBd.out.trans (((HBV.out wd (b.extract p b.size)).trans ((HBV.out (wv wd (b.extract p b.size)) (a.extract p a.size)).mono (HBV.out wd (b.extract p b.size)).size)).mono HBd.out.size)⟩)
        rintro ⟨⟨ba, ca⟩, ⟨bb, cb⟩⟩ w5 ⟨hCA, hCB, hB5⟩
        have HCA := Aside0.mk hCA
        have HCB := Aside0.mk hCB
        have HB5 := Aside0.mk hB5
        clear hCA hCB hB5
        have hHeld : True := trivial
        refine norm_ (a' := ?_) ?_ ?_
        rotate_left
        · simp only [putAll, Act.put, List.setIfInBounds_toArray, List.set_cons_zero, List.set_cons_succ]
          rfl
        refine one_ (i := 9) (N := some 46) #[true, true, true, true, true, true, true, true, true, true, false] rfl rfl (by kernel_rfl) (by decide) (fun K hK => ?_)
        refine goes_ Tryd.func53 (by kernel_rfl) rfl #[.slice (some ⟨ba, 0, none⟩) (a.size - p) ca, .slice (some ⟨bb, 0, none⟩) (b.size - p) cb, .func (.func 51) #[] #[]] (by rfl) rfl rfl (by simp only [List.map_toArray, List.map_cons, List.map_nil]; rfl) ?_
        with_reducible refine (HQ.out _ _ _ _ w5 HCA.out HCB.out).mono ?_
        rintro e w6 ⟨rfl, hw6⟩
        refine ⟨_, rfl, ?_⟩
        have HB6 := Aside0.mk (show Below w.heap.size w w6 from (by obtain ⟨nd, rfl⟩ := hw6; exact pw_below_drewN HB5.out nd))
        clear hw6
        refine hK.out _ _ trivial (fun hHeld => ?_)
        clear hK K
        refine norm_ (a' := ?_) ?_ ?_
        rotate_left
        · show Act.put _ (some 46) _ = _
          simp only [Act.put, List.setIfInBounds_toArray, List.set_cons_zero, List.set_cons_succ, i64_w, i32_w]
          rfl
        refine pure_ (i := 10) (N := some 12) (v := ?_) (a' := ?_) #[true, true, true, true, true, true, true, true, true, true, true] rfl rfl (by kernel_rfl) (fun _ _ _ h => h) (Or.inl ⟨by rfl, ?_⟩) ?_ ?_
        rotate_left
        · intro w'
          go_simp
          with_reducible rfl
        rotate_left
        · simp only [Act.put, List.setIfInBounds_toArray, List.set_cons_zero, List.set_cons_succ, i64_w, i32_w]
          rfl
        refine done_ (by kernel_rfl) ?_
        have hS := HS.out
        rw [show ((a.size - q : Nat) : Int) = (a.size : Int) - (q : Int) by omega] at hS
        have HS2 := Aside0.mk hS
        have u3 : (p : Int) ≤ (b.size : Int) - (q : Int) := by omega
        have u4 : (b.size : Int) - (q : Int) ≤ (b.size : Int) := by omega
        have u5 : 0 ≤ (b.size : Int) - (q : Int) := by omega
        clear hS
        go_wp2
        go_ret2
        rw [HS2.out]
        exact ⟨_, rfl, R_one w6 w.heap.size ⟨(p : Int), (a.size : Int) - (q : Int), b.extract p (b.size - q)⟩ HB6.out.size, HB6.out.alloc HB6.out.size _⟩
    · rw [if_pos e1, if_neg e2]
      have c1 : ((chkT b).2 == 0) = false := beq_false_of_ne e2
      have c2 : ((chkT b).2 != 0) = true := bne_iff_ne.2 e2
      generalize chkT a = ka at *
      generalize chkT b = kb at *
      obtain ⟨ka0, ka1⟩ := ka
      obtain ⟨kb0, kb1⟩ := kb
      simp only at e1 e2 hca hcb c1 c2
      subst e1
      clear e2
      go_enter Tryd.func19, Tryd.ntmps19
      (go_wp2; refine wp_loop_rounds 3 ?_; rw [rounds_succ]; go_wp2_with (go_at_call 40; refine (hca.out _).mono ?_; rintro e w1 ⟨rfl, hb1⟩; have HB1 := Aside0.mk hb1; clear hb1))
      rw [rounds_succ]
      go_wp2_with (go_at_call 40; refine (hcb.out _).mono ?_; rintro e w2 ⟨rfl, hb2⟩; have HB2 := Aside0.mk (HB1.out.trans (hb2.mono HB1.out.size)); clear hb2)
      go_ret2
      exact ⟨_, rfl, Kd.R_nil _ _ _ _ _, HB2.out⟩
  · rw [if_neg e1]
    have c1 : ((chkT a).2 == 0) = false := beq_false_of_ne e1
    have c2 : ((chkT a).2 != 0) = true := bne_iff_ne.2 e1
    generalize chkT a = ka at *
    obtain ⟨ka0, ka1⟩ := ka
    simp only at e1 hca c1 c2
    clear e1
    go_enter Tryd.func19, Tryd.ntmps19
    (go_wp2; refine wp_loop_rounds 3 ?_; rw [rounds_succ]; go_wp2_with (go_at_call 40; refine (hca.out _).mono ?_; rintro e w1 ⟨rfl, hb1⟩; have HB1 := Aside0.mk hb1; clear hb1))
    go_ret2
    exact ⟨_, rfl, Kd.R_nil _ _ _ _ _, HB1.out⟩
theorem C_one (W : World) (x : Sp) : Kd.C k60 (W.alloc (.cells #[.int .i64 x.f0, .int .i64 x.f1, .string x.f2] 60)) (some ⟨W.heap.size, 0, none⟩) 1 [x] :=
  (Kd.R_reads' (R_one W W.heap.size x (Nat.le_refl _))).2.2
theorem toks_rng {s : ByteArray} (h : (toksM kwM s).2.2 = 0) : ∀ t ∈ (toksM kwM s).1, 0 ≤ t.f2 ∧ t.f2 ≤ 3000 := by
  obtain ⟨h1, h2, h3⟩ := (toks_iff s _).1 ⟨rfl, h⟩
  intro t ht
  obtain ⟨n, h4, h5, h6, -⟩ := h2.mem t ht
  have := (chk_iff s).1 h1
  omega
theorem rdT_drop (l : List Tk) (p j : Nat) : rd_T58 (l.drop p) (j : Int) = rd_T58 l ((p + j : Nat) : Int) := by
  unfold rd_T58
  rw [List.getD_eq_getElem?_getD, List.getD_eq_getElem?_getD, Int.toNat_natCast, Int.toNat_natCast, List.getElem?_drop]
theorem tlK_drop (a b : List Tk) (h : Nat) (d : Int) (ha : h ≤ a.length) (hb : h ≤ b.length) : runF (fun j => eqT d (rd_T58 (a.drop h) (((a.drop h).length - 1 - j : Nat) : Int)) (rd_T58 (b.drop h) (((b.drop h).length - 1 - j : Nat) : Int))) (min (a.drop h).length (b.drop h).length) 0 = tlK a b h d := by
  unfold tlK
  rw [List.length_drop, List.length_drop]
  refine runF_congr _ _ fun j h1 h2 => ?_
  rw [rdT_drop, rdT_drop, show h + (a.length - h - 1 - j) = a.length - 1 - j by omega, show h + (b.length - h - 1 - j) = b.length - 1 - j by omega]
theorem commonH_any (a b : List Tk) (A B : Option Addr) (ca cb : Nat) (bp : Nat) (w : World) (ha : Kd.C k58 w A a.length a) (hb : Kd.C k58 w B b.length b) (hc : w.cell? ⟨bp, 0, none⟩ = some (.int .i64 0)) (hla : a.length ≤ 900) (hlb : b.length ≤ 900) (hd : ∀ x ∈ a, wrap64 (x.f2 + 0) = x.f2 + 0) :
    Calls Tryd.prog 72 #[.slice A a.length ca, .slice B b.length cb, .func (.func 95) #[] #[.pointer (some ⟨bp, 0, none⟩)]] w fun e w' => e = .returned (.int .i64 (hdK a b : Nat)) ∧ Below w.heap.size w w' :=
  commonT_any a b A B ca cb 0 bp w ha hb hc hla hlb hd
theorem cutT (A : Option Addr) (l : List Tk) (c h : Nat) (hc : l.length ≤ c) (hh : h ≤ l.length) : ∃ A' c', (∀ W : World, (Instr.slice 23 (.slice A l.length c) (some (.int .i64 (h : Int))) none none).run Tryd.prog W = .ok (.slice A' (l.length - h) c') W) ∧
    (∀ W, Kd.C k58 W A l.length l → Kd.C k58 W A' (l.length - h) (l.drop h)) := by
  refine ⟨if c = h then A else A.map (·.add (h * 3)), c - h, fun W => ?_, fun W hC => ?_⟩
  · have := cut_from (P := Tryd.prog) 23 58 .i64 (i := (Tryd.prog.info? 58).get!) Tryd.underlying23 (by kernel_rfl) 3 (by kernel_rfl) A l.length c (h : Int) (by omega) (by omega) W
    rw [Int.toNat_natCast] at this
    exact this
  · have := Kd.C_drop hC hh hc
    rw [List.length_drop] at this
    exact this
set_option maxRecDepth 8000 in
set_option maxHeartbeats 8000000 in
theorem Kept_any (s : ByteArray) (x : Sp) (w : World) (hg : Gl w) (hs : s.size ≤ 3000) (hx : x.f2.size ≤ 3000) :
    Calls Tryd.prog 39 #[.string s, .agg #[.int .i64 x.f0, .int .i64 x.f1, .string x.f2]] w fun e w' => e = .returned (.tuple #[.int .i64 (kepM s x).1, .int .i64 (kepM s x).2.1, .int .i64 (kepM s x).2.2]) ∧ Below w.heap.size w w' := by
  have HG := Aside0.mk hg
  have hx3 : ∀ y ∈ [x], y.f2.size ≤ 3000 := fun y hy => by rw [List.mem_singleton.1 hy]; exact hx
  obtain ⟨X, hX⟩ : ∃ X : Obj, X = .cells #[.int .i64 x.f0, .int .i64 x.f1, .string x.f2] 60 := ⟨_, rfl⟩
  have hA0 := Apply_any s (some ⟨(w.alloc X).heap.size, 0, none⟩) 1 [x] ((w.alloc X).alloc X) (by rw [hX]; exact C_one _ x) (Nat.le_refl _) hs (by simp) hx3
  rw [World.size_alloc, List.length_singleton] at hA0
  have hb0 : ∀ W, Below ((w.alloc X).alloc X).heap.size ((w.alloc X).alloc X) W → Below w.heap.size w W ∧ W.heap[w.heap.size]? = some (.cells #[.int .i64 x.f0, .int .i64 x.f1, .string x.f2] 60 (0, 0)) := fun W h => by
    have h1 : Below w.heap.size w ((w.alloc X).alloc X) := ((Below.refl _ w).alloc (Nat.le_refl _) _).alloc (by simp) _
    exact ⟨h1.trans (h.mono h1.size), (h.block _ (by simp; omega)).trans (by rw [hX]; exact blk_alloc (heap_alloc_new w _) _)⟩
  have hAp := Aside0.mk (hA0.mono (fun e W h => And.intro h.1 (hb0 W h.2)))
  clear hA0 hb0
  rw [hX] at hAp
  have hTs := Aside0.mk (fun (W : World) (h : Gl W) => Tokens_any s W h (by omega))
  unfold kepM
  by_cases h0 : splE s [x] = 0
  · have eA : appM s [x] = (splM s [x], 0) := by unfold appM; rw [if_pos h0]
    rw [if_pos h0]
    rw [eA] at hAp
    have hts := (undone s [x] h0 hx3).1
    have hTt := Aside0.mk (fun (W : World) (h : Gl W) => Tokens_any (splM s [x]) W h (by omega))
    by_cases h1 : (toksM kwM s).2.2 = 0
    · rw [if_pos h1]
      by_cases h2 : (toksM kwM (splM s [x])).2.2 = 0
      · rw [if_pos h2]
        obtain ⟨-, la, -⟩ := toks_ord s h1
        obtain ⟨-, lb, -⟩ := toks_ord (splM s [x]) h2
        have hra := toks_rng h1
        have hbd := (splE_bd h0 hx3 x (List.mem_singleton.2 rfl)).1
        have hgr := pGrown hbd
        have hg5 := hbd.gr
        have hle := hdK_le (toksM kwM s).1 (toksM kwM (splM s [x])).1
        rw [h1] at hTs
        rw [h2] at hTt
        clear h0 h1 h2 eA hg hx3 hts hX hbd
        generalize splM s [x] = t at *
        generalize toksM kwM s = ts at *
        generalize toksM kwM t = tt at *
        obtain ⟨a, s1, s2⟩ := ts
        obtain ⟨b, t1, t2⟩ := tt
        simp only at hAp hTs hTt la lb hra hle ⊢
        generalize gr x = g at *
        have hcm := fun A B ca cb bp W ha hb hc => commonH_any a b A B ca cb bp W ha hb hc la lb (fun y hy => by have := hra y hy; rw [w64 (by omega) (by omega)])
        have hen := fun A B ca cb bp W ha hb hc => endingT_any (a.drop (hdK a b)) (b.drop (hdK a b)) A B ca cb g bp W ha hb hc (by rw [List.length_drop]; omega) (by rw [List.length_drop]; omega) (fun y hy => by have := hra y (List.mem_of_mem_drop hy); rw [w64 (by omega) (by omega)])
        rw [tlK_drop a b (hdK a b) g hle.1 hle.2, List.length_drop, List.length_drop] at hen
        have HCM := Aside0.mk hcm
        have HEN := Aside0.mk hen
        have HGR := Aside0.mk (fun W => lex_splice_grown.calls x.f0 x.f1 x.f2 g W hgr)
        clear hcm hen hgr hra
        generalize hh : hdK a b = h at *
        generalize tlK a b h g = q at *
        obtain ⟨hle1, hle2⟩ := hle
        go_enter Tryd.func39, Tryd.ntmps39
        go_wp2_with (first | (go_at_call 23; refine hAp.out.mono ?_; rintro e w1 ⟨rfl, hb1, hk1⟩; have HB1 := Aside0.mk hb1; have HK1 := Aside0.mk hk1; clear hb1 hk1) | (go_at_call 12; with_reducible refine (hTs.out _ (HG.out.mono HB1.out)).mono ?_; rintro e w2 ⟨v2, rfl, ho2, hb2⟩; have HB2 := Aside0.mk (HB1.out.trans (hb2.mono HB1.out.size)); have HK2 := Aside0.mk ((hb2.block _ (blk_lt HK1.out)).trans HK1.out); have HO2 := Aside0.mk ho2; obtain ⟨B2, K2, rfl⟩ := Kd.R_slice ho2; clear hb2 ho2) | (go_at_call 12; with_reducible refine (hTt.out _ (HG.out.mono HB2.out)).mono ?_; rintro e w3 ⟨v3, rfl, ho3, hb3⟩; have HB3 := Aside0.mk (HB2.out.trans (hb3.mono HB2.out.size)); have HK3 := Aside0.mk ((hb3.block _ (blk_lt HK2.out)).trans HK2.out); have HO3 := Aside0.mk ho3; have HC2 := Aside0.mk (Kd.C_below (Kd.R_reads' HO2.out).2.2 hb3); obtain ⟨B3, K3, rfl⟩ := Kd.R_slice ho3; clear hb3 ho3) | (go_at_call 73; refine (later_any 0 _).mono ?_; rintro e w4 ⟨rfl, hw4⟩; have HC4 := Aside0.mk (show w4.cell? ⟨w3.heap.size, 0, none⟩ = some (.int .i64 0) by rw [hw4]; exact (blk_cell (heap_alloc_new w3 _) 0).trans rfl); have HN4 := Aside0.mk (show Below w3.heap.size w3 w4 by rw [hw4]; exact (Below.refl _ _).alloc (Nat.le_refl _) _); clear hw4) | (go_at_call 72; refine (HCM.out _ _ _ _ _ w4 (Kd.C_below HC2.out HN4.out) (Kd.C_below (Kd.R_reads' HO3.out).2.2 HN4.out) HC4.out).mono ?_; rintro e w5 ⟨rfl, hb5⟩; have HN5 := Aside0.mk (HN4.out.trans (hb5.mono HN4.out.size)); clear hb5))
        have HB5 := Aside0.mk (HB3.out.trans (HN5.out.mono HB3.out.size))
        have HK5 := Aside0.mk ((HN5.out.block _ (blk_lt HK3.out)).trans HK3.out)
        obtain ⟨A', ca', hcutA, hCA⟩ := cutT B2 a K2 h (Kd.R_reads' HO2.out).2.1 hle1
        obtain ⟨B', cb', hcutB, hCB⟩ := cutT B3 b K3 h (Kd.R_reads' HO3.out).2.1 hle2
        have HCA := Aside0.mk (hCA _ (Kd.C_below HC2.out HN5.out))
        have HCB := Aside0.mk (hCB _ (Kd.C_below (Kd.R_reads' HO3.out).2.2 HN5.out))
        have HB5d := Aside0.mk HB5.out.drew
        have HK5d := Aside0.mk (show w5.drew.heap[w.heap.size]? = some (.cells #[.int .i64 x.f0, .int .i64 x.f1, .string x.f2] 60 (0, 0)) from HK5.out)
        have HN5d := Aside0.mk (show Below w5.heap.size w5 w5.drew from (Below.refl _ _).drew)
        clear hCA hCB
        refine start_ (n := 15) (S := fun w' => w'.cell? ⟨w.heap.size, 0, none⟩ = some (.int .i64 x.f0) ∧ w'.cell? ⟨w.heap.size, 1, none⟩ = some (.int .i64 x.f1) ∧ w'.cell? ⟨w.heap.size, 2, none⟩ = some (.string x.f2)) (ds := []) #[false, false, false, false, false, false, false, false, false, false, false, false, false, false, false] (by kernel_rfl) rfl rfl ⟨(blk_cell HK5d.out 0).trans rfl, (blk_cell HK5d.out 1).trans rfl, (blk_cell HK5d.out 2).trans rfl⟩ (fun hHeld => ?_)
        generalize w5.drew = wd at HB5d HK5d HN5d hHeld ⊢
        refine pure_ (i := 0) (N := some 44) (v := ?_) (a' := ?_) #[true, false, false, false, false, false, false, false, false, false, false, false, false, false, false] rfl rfl (by kernel_rfl) (fun _ _ _ h => h) (Or.inl ⟨by rfl, ?_⟩) ?_ ?_
        rotate_left
        · intro w'
          go_simp
          with_reducible rfl
        rotate_left
        · simp only [Act.put, List.setIfInBounds_toArray, List.set_cons_zero, List.set_cons_succ, i64_w, i32_w]
          rfl
        refine pure_ (i := 1) (N := some 45) (v := ?_) (a' := ?_) #[true, true, false, false, false, false, false, false, false, false, false, false, false, false, false] rfl rfl (by kernel_rfl) (fun _ _ _ h => h) (Or.inl ⟨by rfl, ?_⟩) ?_ ?_
        rotate_left
        · intro w'
          go_simp
          with_reducible rfl
        rotate_left
        · simp only [Act.put, List.setIfInBounds_toArray, List.set_cons_zero, List.set_cons_succ, i64_w, i32_w]
          rfl
        refine pure_ (i := 2) (N := some 46) (v := ?_) (a' := ?_) #[true, true, true, false, false, false, false, false, false, false, false, false, false, false, false] rfl rfl (by kernel_rfl) (fun _ _ _ h => h) (Or.inl ⟨by rfl, ?_⟩) ?_ ?_
        rotate_left
        · intro w'
          go_simp
          with_reducible rfl
        rotate_left
        · simp only [Act.put, List.setIfInBounds_toArray, List.set_cons_zero, List.set_cons_succ, i64_w, i32_w]
          rfl
        refine pure_ (i := 3) (N := some 47) (v := ?_) (a' := ?_) #[true, true, true, true, false, false, false, false, false, false, false, false, false, false, false] rfl rfl (by kernel_rfl) (fun _ _ _ h => h) (Or.inl ⟨by rfl, ?_⟩) ?_ ?_
        rotate_left
        · intro w'
          go_simp
          with_reducible rfl
        rotate_left
        · simp only [Act.put, List.setIfInBounds_toArray, List.set_cons_zero, List.set_cons_succ, i64_w, i32_w]
          rfl
        refine pure_ (i := 4) (N := some 48) (v := ?_) (a' := ?_) #[true, true, true, true, true, false, false, false, false, false, false, false, false, false, false] rfl rfl (by kernel_rfl) (fun _ _ _ h => h) (Or.inl ⟨by rfl, ?_⟩) ?_ ?_
        rotate_left
        · intro w'
          go_simp
          with_reducible rfl
        rotate_left
        · simp only [Act.put, List.setIfInBounds_toArray, List.set_cons_zero, List.set_cons_succ, i64_w, i32_w]
          rfl
        refine pure_ (i := 5) (N := some 49) (v := ?_) (a' := ?_) #[true, true, true, true, true, true, false, false, false, false, false, false, false, false, false] rfl rfl (by kernel_rfl) (fun _ _ _ h => h) (Or.inl ⟨by rfl, ?_⟩) ?_ ?_
        rotate_left
        · intro w'
          go_simp
          with_reducible rfl
        rotate_left
        · simp only [Act.put, List.setIfInBounds_toArray, List.set_cons_zero, List.set_cons_succ, i64_w, i32_w]
          rfl
        refine pure_ (i := 6) (N := some 50) (v := ?_) (a' := ?_) #[true, true, true, true, true, true, true, false, false, false, false, false, false, false, false] rfl rfl (by kernel_rfl) (fun _ _ _ h => h) (Or.inl ⟨by rfl, ?_⟩) ?_ ?_
        rotate_left
        · intro w'
          go_simp
          with_reducible rfl
        rotate_left
        · simp only [Act.put, List.setIfInBounds_toArray, List.set_cons_zero, List.set_cons_succ, i64_w, i32_w]
          rfl
        refine take_ (i := 7) (N := some 51) (v := ?_) (a' := ?_) #[true, true, true, true, true, true, true, true, false, false, false, false, false, false, false] rfl rfl (by kernel_rfl) (fun _ _ _ h => h) (Or.inl ⟨by rfl, ?_⟩) hHeld ?_ ?_
        rotate_left
        · rintro w' ⟨s0, s1, s2⟩
          go_simp
          with_reducible rfl
        rotate_left
        · simp only [Act.put, List.setIfInBounds_toArray, List.set_cons_zero, List.set_cons_succ, i64_w, i32_w]
          rfl
        refine pure_ (i := 8) (N := some 52) (v := ?_) (a' := ?_) #[true, true, true, true, true, true, true, true, true, false, false, false, false, false, false] rfl rfl (by kernel_rfl) (fun _ _ _ h => h) (Or.inl ⟨by rfl, ?_⟩) ?_ ?_
        rotate_left
        · intro w'
          go_simp
          with_reducible rfl
        rotate_left
        · simp only [Act.put, List.setIfInBounds_toArray, List.set_cons_zero, List.set_cons_succ, i64_w, i32_w]
          rfl
        refine one_ (i := 9) (N := some 53) #[true, true, true, true, true, true, true, true, true, true, false, false, false, false, false] rfl rfl (by kernel_rfl) (by decide) (fun K hK => ?_)
        refine goes_ Tryd.func57 (by kernel_rfl) rfl #[.agg #[.int .i64 x.f0, .int .i64 x.f1, .string x.f2]] (by rfl) rfl rfl (by simp only [List.map_toArray, List.map_cons, List.map_nil]; rfl) ?_
        with_reducible refine (HGR.out _).mono ?_
        rintro e w6 ⟨rfl, hb6⟩
        refine ⟨_, rfl, ?_⟩
        have HK6 := Aside0.mk ((hb6.block _ (blk_lt HK5d.out)).trans HK5d.out)
        have HN6 := Aside0.mk (HN5d.out.trans (hb6.mono HN5d.out.size))
        clear hb6
        refine hK.out _ _ ⟨(blk_cell HK6.out 0).trans rfl, (blk_cell HK6.out 1).trans rfl, (blk_cell HK6.out 2).trans rfl⟩ (fun hHeld => ?_)
        clear hK K
        refine norm_ (a' := ?_) ?_ ?_
        rotate_left
        · show Act.put _ (some 53) _ = _
          simp only [Act.put, List.setIfInBounds_toArray, List.set_cons_zero, List.set_cons_succ, i64_w, i32_w]
          rfl
        refine one_ (i := 10) (N := some 54) #[true, true, true, true, true, true, true, true, true, true, true, false, false, false, false] rfl rfl (by kernel_rfl) (by decide) (fun K hK => ?_)
        refine goes_ Tryd.func73 (by kernel_rfl) rfl #[.int .i64 g] (by rfl) rfl rfl (by simp only [List.map_toArray, List.map_cons, List.map_nil]; rfl) ?_
        with_reducible refine (later_any g _).mono ?_
        rintro e w7 ⟨rfl, hw7⟩
        refine ⟨_, rfl, ?_⟩
        have hb7 : Below w6.heap.size w6 w7 := by rw [hw7]; exact (Below.refl _ _).alloc (Nat.le_refl _) _
        have HC7 := Aside0.mk (show w7.cell? ⟨w6.heap.size, 0, none⟩ = some (.int .i64 g) by rw [hw7]; exact (blk_cell (heap_alloc_new w6 _) 0).trans rfl)
        have HK7 := Aside0.mk ((hb7.block _ (blk_lt HK6.out)).trans HK6.out)
        have HN7 := Aside0.mk (HN6.out.trans (hb7.mono HN6.out.size))
        clear hw7 hb7
        refine hK.out _ _ ⟨(blk_cell HK7.out 0).trans rfl, (blk_cell HK7.out 1).trans rfl, (blk_cell HK7.out 2).trans rfl⟩ (fun hHeld => ?_)
        clear hK K
        refine norm_ (a' := ?_) ?_ ?_
        rotate_left
        · show Act.put _ (some 54) _ = _
          simp only [Act.put, List.setIfInBounds_toArray, List.set_cons_zero, List.set_cons_succ, i64_w, i32_w]
          rfl
        refine one_ (i := 11) (N := some 55) #[true, true, true, true, true, true, true, true, true, true, true, true, false, false, false] rfl rfl (by kernel_rfl) (by decide) (fun K hK => ?_)
        refine goes_ Tryd.func74 (by kernel_rfl) rfl #[.slice A' (a.length - h) ca', .slice B' (b.length - h) cb', .func (.func 95) #[] #[.pointer (some ⟨w6.heap.size, 0, none⟩)]] (by rfl) rfl rfl (by simp only [List.map_toArray, List.map_cons, List.map_nil]; rfl) ?_
        with_reducible refine (HEN.out _ _ _ _ _ w7 (Kd.C_below HCA.out HN7.out) (Kd.C_below HCB.out HN7.out) HC7.out).mono ?_
        rintro e w8 ⟨rfl, hb8⟩
        refine ⟨_, rfl, ?_⟩
        have HN8 := Aside0.mk (HN7.out.trans (hb8.mono HN7.out.size))
        have HK8 := Aside0.mk ((hb8.block _ (blk_lt HK7.out)).trans HK7.out)
        clear hb8
        refine hK.out _ _ ⟨(blk_cell HK8.out 0).trans rfl, (blk_cell HK8.out 1).trans rfl, (blk_cell HK8.out 2).trans rfl⟩ (fun hHeld => ?_)
        clear hK K
        refine norm_ (a' := ?_) ?_ ?_
        rotate_left
        · show Act.put _ (some 55) _ = _
          simp only [Act.put, List.setIfInBounds_toArray, List.set_cons_zero, List.set_cons_succ, i64_w, i32_w]
          rfl
        refine pure_ (i := 12) (N := some 4) (v := ?_) (a' := ?_) #[true, true, true, true, true, true, true, true, true, true, true, true, true, false, false] rfl rfl (by kernel_rfl) (fun _ _ _ h => h) (Or.inl ⟨by rfl, ?_⟩) ?_ ?_
        rotate_left
        · intro w'
          go_simp
          with_reducible rfl
        rotate_left
        · simp only [Act.put, List.setIfInBounds_toArray, List.set_cons_zero, List.set_cons_succ, i64_w, i32_w]
          rfl
        refine pure_ (i := 13) (N := some 5) (v := ?_) (a' := ?_) #[true, true, true, true, true, true, true, true, true, true, true, true, true, true, false] rfl rfl (by kernel_rfl) (fun _ _ _ h => h) (Or.inl ⟨by rfl, ?_⟩) ?_ ?_
        rotate_left
        · intro w'
          go_simp
          with_reducible rfl
        rotate_left
        · simp only [Act.put, List.setIfInBounds_toArray, List.set_cons_zero, List.set_cons_succ, i64_w, i32_w]
          rfl
        refine pure_ (i := 14) (N := some 6) (v := ?_) (a' := ?_) #[true, true, true, true, true, true, true, true, true, true, true, true, true, true, true] rfl rfl (by kernel_rfl) (fun _ _ _ h => h) (Or.inl ⟨by rfl, ?_⟩) ?_ ?_
        rotate_left
        · intro w'
          go_simp
          with_reducible rfl
        rotate_left
        · simp only [Act.put, List.setIfInBounds_toArray, List.set_cons_zero, List.set_cons_succ, i64_w, i32_w]
          rfl
        refine done_ (by kernel_rfl) ?_
        have HB8 := Aside0.mk (HB5.out.trans (HN8.out.mono HB5.out.size))
        go_wp2
        go_ret3
        exact ⟨rfl, HB8.out⟩
      · rw [if_neg h2]
        have k1 : ((toksM kwM (splM s [x])).2.2 == 0) = false := beq_false_of_ne h2
        have k2 : ((toksM kwM (splM s [x])).2.2 != 0) = true := bne_iff_ne.2 h2
        rw [h1] at hTs
        clear h0 h1 eA hg hx3 hts h2 hX
        generalize splM s [x] = t at *
        generalize toksM kwM s = ts at *
        generalize toksM kwM t = tt at *
        obtain ⟨t0, t1, t2⟩ := tt
        simp only at hAp hTt hTs k1 k2
        go_enter Tryd.func39, Tryd.ntmps39
        go_wp2_with (first | (go_at_call 23; refine hAp.out.mono ?_; rintro e w1 ⟨rfl, hb1, hk1⟩; have HB1 := Aside0.mk hb1; have HK1 := Aside0.mk hk1; clear hb1 hk1) | (go_at_call 12; with_reducible refine (hTs.out _ (HG.out.mono HB1.out)).mono ?_; rintro e w2 ⟨v2, rfl, ho2, hb2⟩; have HB2 := Aside0.mk (HB1.out.trans (hb2.mono HB1.out.size)); have HK2 := Aside0.mk ((hb2.block _ (blk_lt HK1.out)).trans HK1.out); have HO2 := Aside0.mk ho2; obtain ⟨B2, K2, rfl⟩ := Kd.R_slice ho2; clear hb2 ho2) | (go_at_call 12; with_reducible refine (hTt.out _ (HG.out.mono HB2.out)).mono ?_; rintro e w3 ⟨v3, rfl, ho3, hb3⟩; have HB3 := Aside0.mk (HB2.out.trans (hb3.mono HB2.out.size)); have HK3 := Aside0.mk ((hb3.block _ (blk_lt HK2.out)).trans HK2.out); have HO3 := Aside0.mk ho3; have HC2 := Aside0.mk (Kd.C_below (Kd.R_reads' HO2.out).2.2 hb3); obtain ⟨B3, K3, rfl⟩ := Kd.R_slice ho3; clear hb3 ho3))
        go_ret3
        exact ⟨rfl, HB3.out⟩
    · rw [if_neg h1]
      have k1 : ((toksM kwM s).2.2 == 0) = false := beq_false_of_ne h1
      have k2 : ((toksM kwM s).2.2 != 0) = true := bne_iff_ne.2 h1
      clear h0 h1 eA hg hx3 hts hTt hX
      generalize splM s [x] = t at *
      generalize toksM kwM s = ts at *
      obtain ⟨t0, t1, t2⟩ := ts
      simp only at hAp hTs k1 k2
      go_enter Tryd.func39, Tryd.ntmps39
      go_wp2_with (first | (go_at_call 23; refine hAp.out.mono ?_; rintro e w1 ⟨rfl, hb1, hk1⟩; have HB1 := Aside0.mk hb1; have HK1 := Aside0.mk hk1; clear hb1 hk1) | (go_at_call 12; with_reducible refine (hTs.out _ (HG.out.mono HB1.out)).mono ?_; rintro e w2 ⟨v2, rfl, ho2, hb2⟩; have HB2 := Aside0.mk (HB1.out.trans (hb2.mono HB1.out.size)); have HK2 := Aside0.mk ((hb2.block _ (blk_lt HK1.out)).trans HK1.out); have HO2 := Aside0.mk ho2; obtain ⟨B2, K2, rfl⟩ := Kd.R_slice ho2; clear hb2 ho2))
      go_ret3
      exact ⟨rfl, HB2.out⟩
  · rw [if_neg h0]
    have eA : appM s [x] = (⟨#[]⟩, splE s [x]) := by unfold appM; rw [if_neg h0]
    rw [eA] at hAp
    have k1 : (splE s [x] == 0) = false := beq_false_of_ne h0
    have k2 : (splE s [x] != 0) = true := bne_iff_ne.2 h0
    clear h0 eA hg hx3 hTs hX
    generalize splE s [x] = e0 at *
    simp only at hAp
    go_enter Tryd.func39, Tryd.ntmps39
    go_wp2_with (go_at_call 23; refine hAp.out.mono ?_; rintro e w1 ⟨rfl, hb1, hk1⟩; have HB1 := Aside0.mk hb1; have HK1 := Aside0.mk hk1; clear hb1 hk1)
    go_ret3
    exact ⟨rfl, HB1.out⟩
end Go.Proofs.YtebidpcmcekbgaaDoor.P
namespace Go.Proofs.YtebidpcmcekbgaaDoor.P
open Go.RowKit Go.Proofs.YtebidpcmcekbgaaDoorW.PrintWords Go.Proofs.YtebidpcmcekbgaaDoorW.PrintLast Go.Proofs.YtebidpcmcekbgaaDoorW.PrintMore
attribute [local go_sem] min2_int min_two -- for this text's walks alone
set_option linter.unusedVariables false
set_option linter.unusedSimpArgs false

/-! ### ripostelaw01_short: function 29 -/

-- NOT PRINTED: function 59 (lex_tokens)

/-! ### lex_isApart: function 60 -/
def lex_isApart.f (a0_0 : Int) (a0_1 : ByteArray) (a0_2 : Int) (a1_0 : Int) (a1_1 : ByteArray) (a1_2 : Int) : Option (Bool) := if a0_0 = 4 then (if a0_1.toList = ([58] : List UInt8) then (some (a1_1.toList == ([61] : List UInt8))) else (some false)) else (if a1_0 = 4 then (if a0_1.toList = ([58] : List UInt8) then (some (a1_1.toList == ([61] : List UInt8))) else (some false)) else (some true))
set_option maxHeartbeats 8000000 in
set_option maxRecDepth 100000 in
theorem lex_isApart.calls (a0_0 : Int) (a0_1 : ByteArray) (a0_2 : Int) (a1_0 : Int) (a1_1 : ByteArray) (a1_2 : Int) (r : Bool) (w : World) (h : lex_isApart.f a0_0 a0_1 a0_2 a1_0 a1_1 a1_2 = some r) :
    Calls Tryd.prog 60 #[.agg #[.int .u8 a0_0, .string a0_1, .int .i64 a0_2], .agg #[.int .u8 a1_0, .string a1_1, .int .i64 a1_2]] w fun e w' => e = .returned (.bool r) ∧ Below w.heap.size w w' := by
  have hu58 := Tryd.underlying58
  have HB := Aside0.mk (Below.refl w.heap.size w)
  have H : (if a0_0 = 4 then (if a0_1.toList = ([58] : List UInt8) then (some (a1_1.toList == ([61] : List UInt8))) else (some false)) else (if a1_0 = 4 then (if a0_1.toList = ([58] : List UInt8) then (some (a1_1.toList == ([61] : List UInt8))) else (some false)) else (some true))) = some r := h
  clear h
  by_cases c3 : a0_0 = 4
  · rw [if_pos c3] at H
    have c3b0 : (a0_0 == 4) = true := beq_iff_eq.mpr c3
    have c3b1 : (a0_0 != 4) = false := bne_eq_false_iff_eq.mpr c3
    clear c3
    by_cases c4 : a0_1.toList = ([58] : List UInt8)
    · rw [if_pos c4] at H
      have c4b0 : (a0_1.toList == ([58] : List UInt8)) = true := beq_iff_eq.mpr c4
      have c4b1 : (a0_1.toList != ([58] : List UInt8)) = false := bne_eq_false_iff_eq.mpr c4
      clear c4
      obtain rfl := Option.some.inj H
      go_enter Tryd.func60, Tryd.ntmps60
      go_wp2_with (first | ((with_reducible refine gate_dst (N := 2) rfl ?_); refine box_event ?hg (N := 2) ?hd (cs := #[.int .u8 a0_0, .string a0_1, .int .i64 a0_2]) (t := 58) ?hr ?_; (case hd => rfl); (case hg => rfl); (case hr => first | (go_simp; done) | (go_simp; rfl)); intro gb291 hg w5 hbox hb; have n0_ := Aside0.mk (below_step (by repeat (first | (with_reducible first | exact HB.out | apply below_alloc | apply pw_below_drewN | apply below_drew1) | exact HB.out)) hb); have n1_ := Aside0.mk (hbox); have n2_ := Aside0.mk ((by rw [hg]; exact (below_size (by repeat (first | (with_reducible first | exact HB.out | apply below_alloc | apply pw_below_drewN | apply below_drew1) | exact HB.out))) : w.heap.size ≤ gb291)); have n3_ := Aside0.mk ((by rw [hg]; exact (below_size (by repeat (first | (with_reducible first | exact HB.out | apply below_alloc | apply pw_below_drewN | apply below_drew1) | exact HB.out))) : w.heap.size ≤ gb291)); clear HB; have HB := n0_; have BK291 := n1_; have GW291 := n2_; have GE291 := n3_; clear n0_ n1_ n2_ n3_; clear hb hbox hg) | ((with_reducible refine gate_dst (N := 3) rfl ?_); refine box_event ?hg (N := 3) ?hd (cs := #[.int .u8 a1_0, .string a1_1, .int .i64 a1_2]) (t := 58) ?hr ?_; (case hd => rfl); (case hg => rfl); (case hr => first | (go_simp; done) | (go_simp; rfl)); intro gb292 hg w6 hbox hb; have n0_ := Aside0.mk (blk_below (g := gb291) (o := .cells #[.int .u8 a0_0, .string a0_1, .int .i64 a0_2] 58 (0, 0)) (by (with_reducible repeat (first | refine blk_drewN ?_ _ | refine blk_drew ?_ | refine blk_alloc ?_ _)); exact BK291.out) hb); have n1_ := Aside0.mk (below_step (by repeat (first | (with_reducible first | exact HB.out | apply below_alloc | apply pw_below_drewN | apply below_drew1 | refine below_set ?_ GE291.out) | exact HB.out)) hb); have n2_ := Aside0.mk (hbox); have n3_ := Aside0.mk ((by rw [hg]; exact (below_size (by repeat (first | (with_reducible first | exact HB.out | apply below_alloc | apply pw_below_drewN | apply below_drew1 | refine below_set ?_ GE291.out) | exact HB.out))) : w.heap.size ≤ gb292)); have n4_ := Aside0.mk ((by rw [hg]; exact (below_size (by repeat (first | (with_reducible first | exact HB.out | apply below_alloc | apply pw_below_drewN | apply below_drew1 | refine below_set ?_ GE291.out) | exact HB.out))) : w.heap.size ≤ gb292)); have n5_ := Aside0.mk ((by rw [hg]; exact Nat.ne_of_lt (blk_lt (g := gb291) (o := .cells #[.int .u8 a0_0, .string a0_1, .int .i64 a0_2] 58 (0, 0)) (by (with_reducible repeat (first | refine blk_drewN ?_ _ | refine blk_drew ?_ | refine blk_alloc ?_ _)); exact BK291.out)) : gb291 ≠ gb292)); have n6_ := Aside0.mk ((by rw [hg]; exact Nat.ne_of_gt (blk_lt (g := gb291) (o := .cells #[.int .u8 a0_0, .string a0_1, .int .i64 a0_2] 58 (0, 0)) (by (with_reducible repeat (first | refine blk_drewN ?_ _ | refine blk_drew ?_ | refine blk_alloc ?_ _)); exact BK291.out)) : gb292 ≠ gb291)); clear BK291; clear HB; have BK291 := n0_; have HB := n1_; have BK292 := n2_; have GW292 := n3_; have GE292 := n4_; have NB291_292 := n5_; have NB292_291 := n6_; clear n0_ n1_ n2_ n3_ n4_ n5_ n6_; clear hb hbox hg; have hnb7 := NB291_292.out; have hnc7 := NB292_291.out; have hcz8_0 : w6.cell? ⟨gb291, 0, none⟩ = some (.int .u8 a0_0) := (blk_cell BK291.out 0).trans rfl; have hcz8_1 : w6.cell? ⟨gb291, 1, none⟩ = some (.string a0_1) := (blk_cell BK291.out 1).trans rfl; have hcz8_2 : w6.cell? ⟨gb291, 2, none⟩ = some (.int .i64 a0_2) := (blk_cell BK291.out 2).trans rfl; have hfz8_0 := blk_frozen BK291.out 0; have hfz8_1 := blk_frozen BK291.out 1; have hfz8_2 := blk_frozen BK291.out 2; have hcz9_0 : w6.cell? ⟨gb292, 0, none⟩ = some (.int .u8 a1_0) := (blk_cell BK292.out 0).trans rfl; have hcz9_1 : w6.cell? ⟨gb292, 1, none⟩ = some (.string a1_1) := (blk_cell BK292.out 1).trans rfl; have hcz9_2 : w6.cell? ⟨gb292, 2, none⟩ = some (.int .i64 a1_2) := (blk_cell BK292.out 2).trans rfl; have hfz9_0 := blk_frozen BK292.out 0; have hfz9_1 := blk_frozen BK292.out 1; have hfz9_2 := blk_frozen BK292.out 2))
      go_ret
      exact ⟨by first | rfl | (simp [errW_none, errW_some] <;> rfl) | (simp [*, errW_none, errW_some] <;> rfl), by repeat (first | (with_reducible first | exact HB.out | apply below_alloc | apply pw_below_drewN | apply below_drew1 | refine below_set ?_ GE291.out | refine below_set ?_ GE292.out) | exact HB.out)⟩
    · rw [if_neg c4] at H
      have c4b0 : (a0_1.toList == ([58] : List UInt8)) = false := beq_eq_false_iff_ne.mpr c4
      have c4b1 : (a0_1.toList != ([58] : List UInt8)) = true := bne_iff_ne.mpr c4
      obtain rfl := Option.some.inj H
      go_enter Tryd.func60, Tryd.ntmps60
      go_wp2_with (first | ((with_reducible refine gate_dst (N := 2) rfl ?_); refine box_event ?hg (N := 2) ?hd (cs := #[.int .u8 a0_0, .string a0_1, .int .i64 a0_2]) (t := 58) ?hr ?_; (case hd => rfl); (case hg => rfl); (case hr => first | (go_simp; done) | (go_simp; rfl)); intro gb291 hg w10 hbox hb; have n0_ := Aside0.mk (below_step (by repeat (first | (with_reducible first | exact HB.out | apply below_alloc | apply pw_below_drewN | apply below_drew1) | exact HB.out)) hb); have n1_ := Aside0.mk (hbox); have n2_ := Aside0.mk ((by rw [hg]; exact (below_size (by repeat (first | (with_reducible first | exact HB.out | apply below_alloc | apply pw_below_drewN | apply below_drew1) | exact HB.out))) : w.heap.size ≤ gb291)); have n3_ := Aside0.mk ((by rw [hg]; exact (below_size (by repeat (first | (with_reducible first | exact HB.out | apply below_alloc | apply pw_below_drewN | apply below_drew1) | exact HB.out))) : w.heap.size ≤ gb291)); clear HB; have HB := n0_; have BK291 := n1_; have GW291 := n2_; have GE291 := n3_; clear n0_ n1_ n2_ n3_; clear hb hbox hg) | ((with_reducible refine gate_dst (N := 3) rfl ?_); refine box_event ?hg (N := 3) ?hd (cs := #[.int .u8 a1_0, .string a1_1, .int .i64 a1_2]) (t := 58) ?hr ?_; (case hd => rfl); (case hg => rfl); (case hr => first | (go_simp; done) | (go_simp; rfl)); intro gb292 hg w11 hbox hb; have n0_ := Aside0.mk (blk_below (g := gb291) (o := .cells #[.int .u8 a0_0, .string a0_1, .int .i64 a0_2] 58 (0, 0)) (by (with_reducible repeat (first | refine blk_drewN ?_ _ | refine blk_drew ?_ | refine blk_alloc ?_ _)); exact BK291.out) hb); have n1_ := Aside0.mk (below_step (by repeat (first | (with_reducible first | exact HB.out | apply below_alloc | apply pw_below_drewN | apply below_drew1 | refine below_set ?_ GE291.out) | exact HB.out)) hb); have n2_ := Aside0.mk (hbox); have n3_ := Aside0.mk ((by rw [hg]; exact (below_size (by repeat (first | (with_reducible first | exact HB.out | apply below_alloc | apply pw_below_drewN | apply below_drew1 | refine below_set ?_ GE291.out) | exact HB.out))) : w.heap.size ≤ gb292)); have n4_ := Aside0.mk ((by rw [hg]; exact (below_size (by repeat (first | (with_reducible first | exact HB.out | apply below_alloc | apply pw_below_drewN | apply below_drew1 | refine below_set ?_ GE291.out) | exact HB.out))) : w.heap.size ≤ gb292)); have n5_ := Aside0.mk ((by rw [hg]; exact Nat.ne_of_lt (blk_lt (g := gb291) (o := .cells #[.int .u8 a0_0, .string a0_1, .int .i64 a0_2] 58 (0, 0)) (by (with_reducible repeat (first | refine blk_drewN ?_ _ | refine blk_drew ?_ | refine blk_alloc ?_ _)); exact BK291.out)) : gb291 ≠ gb292)); have n6_ := Aside0.mk ((by rw [hg]; exact Nat.ne_of_gt (blk_lt (g := gb291) (o := .cells #[.int .u8 a0_0, .string a0_1, .int .i64 a0_2] 58 (0, 0)) (by (with_reducible repeat (first | refine blk_drewN ?_ _ | refine blk_drew ?_ | refine blk_alloc ?_ _)); exact BK291.out)) : gb292 ≠ gb291)); clear BK291; clear HB; have BK291 := n0_; have HB := n1_; have BK292 := n2_; have GW292 := n3_; have GE292 := n4_; have NB291_292 := n5_; have NB292_291 := n6_; clear n0_ n1_ n2_ n3_ n4_ n5_ n6_; clear hb hbox hg; have hnb12 := NB291_292.out; have hnc12 := NB292_291.out; have hcz13_0 : w11.cell? ⟨gb291, 0, none⟩ = some (.int .u8 a0_0) := (blk_cell BK291.out 0).trans rfl; have hcz13_1 : w11.cell? ⟨gb291, 1, none⟩ = some (.string a0_1) := (blk_cell BK291.out 1).trans rfl; have hcz13_2 : w11.cell? ⟨gb291, 2, none⟩ = some (.int .i64 a0_2) := (blk_cell BK291.out 2).trans rfl; have hfz13_0 := blk_frozen BK291.out 0; have hfz13_1 := blk_frozen BK291.out 1; have hfz13_2 := blk_frozen BK291.out 2))
      go_ret
      exact ⟨by first | rfl | (simp [errW_none, errW_some] <;> rfl) | (simp [*, errW_none, errW_some] <;> rfl), by repeat (first | (with_reducible first | exact HB.out | apply below_alloc | apply pw_below_drewN | apply below_drew1 | refine below_set ?_ GE291.out | refine below_set ?_ GE292.out) | exact HB.out)⟩
  · rw [if_neg c3] at H
    have c3b0 : (a0_0 == 4) = false := beq_eq_false_iff_ne.mpr c3
    have c3b1 : (a0_0 != 4) = true := bne_iff_ne.mpr c3
    by_cases c14 : a1_0 = 4
    · rw [if_pos c14] at H
      have c14b0 : (a1_0 == 4) = true := beq_iff_eq.mpr c14
      have c14b1 : (a1_0 != 4) = false := bne_eq_false_iff_eq.mpr c14
      clear c14
      by_cases c15 : a0_1.toList = ([58] : List UInt8)
      · rw [if_pos c15] at H
        have c15b0 : (a0_1.toList == ([58] : List UInt8)) = true := beq_iff_eq.mpr c15
        have c15b1 : (a0_1.toList != ([58] : List UInt8)) = false := bne_eq_false_iff_eq.mpr c15
        clear c15
        obtain rfl := Option.some.inj H
        go_enter Tryd.func60, Tryd.ntmps60
        go_wp2_with (first | ((with_reducible refine gate_dst (N := 2) rfl ?_); refine box_event ?hg (N := 2) ?hd (cs := #[.int .u8 a0_0, .string a0_1, .int .i64 a0_2]) (t := 58) ?hr ?_; (case hd => rfl); (case hg => rfl); (case hr => first | (go_simp; done) | (go_simp; rfl)); intro gb291 hg w16 hbox hb; have n0_ := Aside0.mk (below_step (by repeat (first | (with_reducible first | exact HB.out | apply below_alloc | apply pw_below_drewN | apply below_drew1) | exact HB.out)) hb); have n1_ := Aside0.mk (hbox); have n2_ := Aside0.mk ((by rw [hg]; exact (below_size (by repeat (first | (with_reducible first | exact HB.out | apply below_alloc | apply pw_below_drewN | apply below_drew1) | exact HB.out))) : w.heap.size ≤ gb291)); have n3_ := Aside0.mk ((by rw [hg]; exact (below_size (by repeat (first | (with_reducible first | exact HB.out | apply below_alloc | apply pw_below_drewN | apply below_drew1) | exact HB.out))) : w.heap.size ≤ gb291)); clear HB; have HB := n0_; have BK291 := n1_; have GW291 := n2_; have GE291 := n3_; clear n0_ n1_ n2_ n3_; clear hb hbox hg) | ((with_reducible refine gate_dst (N := 3) rfl ?_); refine box_event ?hg (N := 3) ?hd (cs := #[.int .u8 a1_0, .string a1_1, .int .i64 a1_2]) (t := 58) ?hr ?_; (case hd => rfl); (case hg => rfl); (case hr => first | (go_simp; done) | (go_simp; rfl)); intro gb292 hg w17 hbox hb; have n0_ := Aside0.mk (blk_below (g := gb291) (o := .cells #[.int .u8 a0_0, .string a0_1, .int .i64 a0_2] 58 (0, 0)) (by (with_reducible repeat (first | refine blk_drewN ?_ _ | refine blk_drew ?_ | refine blk_alloc ?_ _)); exact BK291.out) hb); have n1_ := Aside0.mk (below_step (by repeat (first | (with_reducible first | exact HB.out | apply below_alloc | apply pw_below_drewN | apply below_drew1 | refine below_set ?_ GE291.out) | exact HB.out)) hb); have n2_ := Aside0.mk (hbox); have n3_ := Aside0.mk ((by rw [hg]; exact (below_size (by repeat (first | (with_reducible first | exact HB.out | apply below_alloc | apply pw_below_drewN | apply below_drew1 | refine below_set ?_ GE291.out) | exact HB.out))) : w.heap.size ≤ gb292)); have n4_ := Aside0.mk ((by rw [hg]; exact (below_size (by repeat (first | (with_reducible first | exact HB.out | apply below_alloc | apply pw_below_drewN | apply below_drew1 | refine below_set ?_ GE291.out) | exact HB.out))) : w.heap.size ≤ gb292)); have n5_ := Aside0.mk ((by rw [hg]; exact Nat.ne_of_lt (blk_lt (g := gb291) (o := .cells #[.int .u8 a0_0, .string a0_1, .int .i64 a0_2] 58 (0, 0)) (by (with_reducible repeat (first | refine blk_drewN ?_ _ | refine blk_drew ?_ | refine blk_alloc ?_ _)); exact BK291.out)) : gb291 ≠ gb292)); have n6_ := Aside0.mk ((by rw [hg]; exact Nat.ne_of_gt (blk_lt (g := gb291) (o := .cells #[.int .u8 a0_0, .string a0_1, .int .i64 a0_2] 58 (0, 0)) (by (with_reducible repeat (first | refine blk_drewN ?_ _ | refine blk_drew ?_ | refine blk_alloc ?_ _)); exact BK291.out)) : gb292 ≠ gb291)); clear BK291; clear HB; have BK291 := n0_; have HB := n1_; have BK292 := n2_; have GW292 := n3_; have GE292 := n4_; have NB291_292 := n5_; have NB292_291 := n6_; clear n0_ n1_ n2_ n3_ n4_ n5_ n6_; clear hb hbox hg; have hnb18 := NB291_292.out; have hnc18 := NB292_291.out; have hcz19_0 : w17.cell? ⟨gb291, 0, none⟩ = some (.int .u8 a0_0) := (blk_cell BK291.out 0).trans rfl; have hcz19_1 : w17.cell? ⟨gb291, 1, none⟩ = some (.string a0_1) := (blk_cell BK291.out 1).trans rfl; have hcz19_2 : w17.cell? ⟨gb291, 2, none⟩ = some (.int .i64 a0_2) := (blk_cell BK291.out 2).trans rfl; have hfz19_0 := blk_frozen BK291.out 0; have hfz19_1 := blk_frozen BK291.out 1; have hfz19_2 := blk_frozen BK291.out 2; have hcz20_0 : w17.cell? ⟨gb292, 0, none⟩ = some (.int .u8 a1_0) := (blk_cell BK292.out 0).trans rfl; have hcz20_1 : w17.cell? ⟨gb292, 1, none⟩ = some (.string a1_1) := (blk_cell BK292.out 1).trans rfl; have hcz20_2 : w17.cell? ⟨gb292, 2, none⟩ = some (.int .i64 a1_2) := (blk_cell BK292.out 2).trans rfl; have hfz20_0 := blk_frozen BK292.out 0; have hfz20_1 := blk_frozen BK292.out 1; have hfz20_2 := blk_frozen BK292.out 2))
        go_ret
        exact ⟨by first | rfl | (simp [errW_none, errW_some] <;> rfl) | (simp [*, errW_none, errW_some] <;> rfl), by repeat (first | (with_reducible first | exact HB.out | apply below_alloc | apply pw_below_drewN | apply below_drew1 | refine below_set ?_ GE291.out | refine below_set ?_ GE292.out) | exact HB.out)⟩
      · rw [if_neg c15] at H
        have c15b0 : (a0_1.toList == ([58] : List UInt8)) = false := beq_eq_false_iff_ne.mpr c15
        have c15b1 : (a0_1.toList != ([58] : List UInt8)) = true := bne_iff_ne.mpr c15
        obtain rfl := Option.some.inj H
        go_enter Tryd.func60, Tryd.ntmps60
        go_wp2_with (first | ((with_reducible refine gate_dst (N := 2) rfl ?_); refine box_event ?hg (N := 2) ?hd (cs := #[.int .u8 a0_0, .string a0_1, .int .i64 a0_2]) (t := 58) ?hr ?_; (case hd => rfl); (case hg => rfl); (case hr => first | (go_simp; done) | (go_simp; rfl)); intro gb291 hg w21 hbox hb; have n0_ := Aside0.mk (below_step (by repeat (first | (with_reducible first | exact HB.out | apply below_alloc | apply pw_below_drewN | apply below_drew1) | exact HB.out)) hb); have n1_ := Aside0.mk (hbox); have n2_ := Aside0.mk ((by rw [hg]; exact (below_size (by repeat (first | (with_reducible first | exact HB.out | apply below_alloc | apply pw_below_drewN | apply below_drew1) | exact HB.out))) : w.heap.size ≤ gb291)); have n3_ := Aside0.mk ((by rw [hg]; exact (below_size (by repeat (first | (with_reducible first | exact HB.out | apply below_alloc | apply pw_below_drewN | apply below_drew1) | exact HB.out))) : w.heap.size ≤ gb291)); clear HB; have HB := n0_; have BK291 := n1_; have GW291 := n2_; have GE291 := n3_; clear n0_ n1_ n2_ n3_; clear hb hbox hg) | ((with_reducible refine gate_dst (N := 3) rfl ?_); refine box_event ?hg (N := 3) ?hd (cs := #[.int .u8 a1_0, .string a1_1, .int .i64 a1_2]) (t := 58) ?hr ?_; (case hd => rfl); (case hg => rfl); (case hr => first | (go_simp; done) | (go_simp; rfl)); intro gb292 hg w22 hbox hb; have n0_ := Aside0.mk (blk_below (g := gb291) (o := .cells #[.int .u8 a0_0, .string a0_1, .int .i64 a0_2] 58 (0, 0)) (by (with_reducible repeat (first | refine blk_drewN ?_ _ | refine blk_drew ?_ | refine blk_alloc ?_ _)); exact BK291.out) hb); have n1_ := Aside0.mk (below_step (by repeat (first | (with_reducible first | exact HB.out | apply below_alloc | apply pw_below_drewN | apply below_drew1 | refine below_set ?_ GE291.out) | exact HB.out)) hb); have n2_ := Aside0.mk (hbox); have n3_ := Aside0.mk ((by rw [hg]; exact (below_size (by repeat (first | (with_reducible first | exact HB.out | apply below_alloc | apply pw_below_drewN | apply below_drew1 | refine below_set ?_ GE291.out) | exact HB.out))) : w.heap.size ≤ gb292)); have n4_ := Aside0.mk ((by rw [hg]; exact (below_size (by repeat (first | (with_reducible first | exact HB.out | apply below_alloc | apply pw_below_drewN | apply below_drew1 | refine below_set ?_ GE291.out) | exact HB.out))) : w.heap.size ≤ gb292)); have n5_ := Aside0.mk ((by rw [hg]; exact Nat.ne_of_lt (blk_lt (g := gb291) (o := .cells #[.int .u8 a0_0, .string a0_1, .int .i64 a0_2] 58 (0, 0)) (by (with_reducible repeat (first | refine blk_drewN ?_ _ | refine blk_drew ?_ | refine blk_alloc ?_ _)); exact BK291.out)) : gb291 ≠ gb292)); have n6_ := Aside0.mk ((by rw [hg]; exact Nat.ne_of_gt (blk_lt (g := gb291) (o := .cells #[.int .u8 a0_0, .string a0_1, .int .i64 a0_2] 58 (0, 0)) (by (with_reducible repeat (first | refine blk_drewN ?_ _ | refine blk_drew ?_ | refine blk_alloc ?_ _)); exact BK291.out)) : gb292 ≠ gb291)); clear BK291; clear HB; have BK291 := n0_; have HB := n1_; have BK292 := n2_; have GW292 := n3_; have GE292 := n4_; have NB291_292 := n5_; have NB292_291 := n6_; clear n0_ n1_ n2_ n3_ n4_ n5_ n6_; clear hb hbox hg; have hnb23 := NB291_292.out; have hnc23 := NB292_291.out; have hcz24_0 : w22.cell? ⟨gb291, 0, none⟩ = some (.int .u8 a0_0) := (blk_cell BK291.out 0).trans rfl; have hcz24_1 : w22.cell? ⟨gb291, 1, none⟩ = some (.string a0_1) := (blk_cell BK291.out 1).trans rfl; have hcz24_2 : w22.cell? ⟨gb291, 2, none⟩ = some (.int .i64 a0_2) := (blk_cell BK291.out 2).trans rfl; have hfz24_0 := blk_frozen BK291.out 0; have hfz24_1 := blk_frozen BK291.out 1; have hfz24_2 := blk_frozen BK291.out 2; have hcz25_0 : w22.cell? ⟨gb292, 0, none⟩ = some (.int .u8 a1_0) := (blk_cell BK292.out 0).trans rfl; have hcz25_1 : w22.cell? ⟨gb292, 1, none⟩ = some (.string a1_1) := (blk_cell BK292.out 1).trans rfl; have hcz25_2 : w22.cell? ⟨gb292, 2, none⟩ = some (.int .i64 a1_2) := (blk_cell BK292.out 2).trans rfl; have hfz25_0 := blk_frozen BK292.out 0; have hfz25_1 := blk_frozen BK292.out 1; have hfz25_2 := blk_frozen BK292.out 2))
        go_ret
        exact ⟨by first | rfl | (simp [errW_none, errW_some] <;> rfl) | (simp [*, errW_none, errW_some] <;> rfl), by repeat (first | (with_reducible first | exact HB.out | apply below_alloc | apply pw_below_drewN | apply below_drew1 | refine below_set ?_ GE291.out | refine below_set ?_ GE292.out) | exact HB.out)⟩
    · rw [if_neg c14] at H
      have c14b0 : (a1_0 == 4) = false := beq_eq_false_iff_ne.mpr c14
      have c14b1 : (a1_0 != 4) = true := bne_iff_ne.mpr c14
      obtain rfl := Option.some.inj H
      go_enter Tryd.func60, Tryd.ntmps60
      go_wp2_with (first | ((with_reducible refine gate_dst (N := 2) rfl ?_); refine box_event ?hg (N := 2) ?hd (cs := #[.int .u8 a0_0, .string a0_1, .int .i64 a0_2]) (t := 58) ?hr ?_; (case hd => rfl); (case hg => rfl); (case hr => first | (go_simp; done) | (go_simp; rfl)); intro gb291 hg w26 hbox hb; have n0_ := Aside0.mk (below_step (by repeat (first | (with_reducible first | exact HB.out | apply below_alloc | apply pw_below_drewN | apply below_drew1) | exact HB.out)) hb); have n1_ := Aside0.mk (hbox); have n2_ := Aside0.mk ((by rw [hg]; exact (below_size (by repeat (first | (with_reducible first | exact HB.out | apply below_alloc | apply pw_below_drewN | apply below_drew1) | exact HB.out))) : w.heap.size ≤ gb291)); have n3_ := Aside0.mk ((by rw [hg]; exact (below_size (by repeat (first | (with_reducible first | exact HB.out | apply below_alloc | apply pw_below_drewN | apply below_drew1) | exact HB.out))) : w.heap.size ≤ gb291)); clear HB; have HB := n0_; have BK291 := n1_; have GW291 := n2_; have GE291 := n3_; clear n0_ n1_ n2_ n3_; clear hb hbox hg) | ((with_reducible refine gate_dst (N := 3) rfl ?_); refine box_event ?hg (N := 3) ?hd (cs := #[.int .u8 a1_0, .string a1_1, .int .i64 a1_2]) (t := 58) ?hr ?_; (case hd => rfl); (case hg => rfl); (case hr => first | (go_simp; done) | (go_simp; rfl)); intro gb292 hg w27 hbox hb; have n0_ := Aside0.mk (blk_below (g := gb291) (o := .cells #[.int .u8 a0_0, .string a0_1, .int .i64 a0_2] 58 (0, 0)) (by (with_reducible repeat (first | refine blk_drewN ?_ _ | refine blk_drew ?_ | refine blk_alloc ?_ _)); exact BK291.out) hb); have n1_ := Aside0.mk (below_step (by repeat (first | (with_reducible first | exact HB.out | apply below_alloc | apply pw_below_drewN | apply below_drew1 | refine below_set ?_ GE291.out) | exact HB.out)) hb); have n2_ := Aside0.mk (hbox); have n3_ := Aside0.mk ((by rw [hg]; exact (below_size (by repeat (first | (with_reducible first | exact HB.out | apply below_alloc | apply pw_below_drewN | apply below_drew1 | refine below_set ?_ GE291.out) | exact HB.out))) : w.heap.size ≤ gb292)); have n4_ := Aside0.mk ((by rw [hg]; exact (below_size (by repeat (first | (with_reducible first | exact HB.out | apply below_alloc | apply pw_below_drewN | apply below_drew1 | refine below_set ?_ GE291.out) | exact HB.out))) : w.heap.size ≤ gb292)); have n5_ := Aside0.mk ((by rw [hg]; exact Nat.ne_of_lt (blk_lt (g := gb291) (o := .cells #[.int .u8 a0_0, .string a0_1, .int .i64 a0_2] 58 (0, 0)) (by (with_reducible repeat (first | refine blk_drewN ?_ _ | refine blk_drew ?_ | refine blk_alloc ?_ _)); exact BK291.out)) : gb291 ≠ gb292)); have n6_ := Aside0.mk ((by rw [hg]; exact Nat.ne_of_gt (blk_lt (g := gb291) (o := .cells #[.int .u8 a0_0, .string a0_1, .int .i64 a0_2] 58 (0, 0)) (by (with_reducible repeat (first | refine blk_drewN ?_ _ | refine blk_drew ?_ | refine blk_alloc ?_ _)); exact BK291.out)) : gb292 ≠ gb291)); clear BK291; clear HB; have BK291 := n0_; have HB := n1_; have BK292 := n2_; have GW292 := n3_; have GE292 := n4_; have NB291_292 := n5_; have NB292_291 := n6_; clear n0_ n1_ n2_ n3_ n4_ n5_ n6_; clear hb hbox hg; have hnb28 := NB291_292.out; have hnc28 := NB292_291.out; have hcz29_0 : w27.cell? ⟨gb291, 0, none⟩ = some (.int .u8 a0_0) := (blk_cell BK291.out 0).trans rfl; have hcz29_1 : w27.cell? ⟨gb291, 1, none⟩ = some (.string a0_1) := (blk_cell BK291.out 1).trans rfl; have hcz29_2 : w27.cell? ⟨gb291, 2, none⟩ = some (.int .i64 a0_2) := (blk_cell BK291.out 2).trans rfl; have hfz29_0 := blk_frozen BK291.out 0; have hfz29_1 := blk_frozen BK291.out 1; have hfz29_2 := blk_frozen BK291.out 2; have hcz30_0 : w27.cell? ⟨gb292, 0, none⟩ = some (.int .u8 a1_0) := (blk_cell BK292.out 0).trans rfl; have hcz30_1 : w27.cell? ⟨gb292, 1, none⟩ = some (.string a1_1) := (blk_cell BK292.out 1).trans rfl; have hcz30_2 : w27.cell? ⟨gb292, 2, none⟩ = some (.int .i64 a1_2) := (blk_cell BK292.out 2).trans rfl; have hfz30_0 := blk_frozen BK292.out 0; have hfz30_1 := blk_frozen BK292.out 1; have hfz30_2 := blk_frozen BK292.out 2))
      go_ret
      exact ⟨by first | rfl | (simp [errW_none, errW_some] <;> rfl) | (simp [*, errW_none, errW_some] <;> rfl), by repeat (first | (with_reducible first | exact HB.out | apply below_alloc | apply pw_below_drewN | apply below_drew1 | refine below_set ?_ GE291.out | refine below_set ?_ GE292.out) | exact HB.out)⟩

-- NOT PRINTED: function 61 (strings_Builder_WriteByte)

-- NOT PRINTED: function 63 (strings_Builder_Len)

-- NOT PRINTED: function 30 (lex_Tight)

/-! ### riposteref01_tokensError: function 65 -/

/-! ### riposteref01_apart: function 66 -/

end Go.Proofs.YtebidpcmcekbgaaDoor.P
namespace Go.Proofs.YtebidpcmcekbgaaDoor.P
open Go.RowKit Go.Shelf Go.Maps Go.Proofs.YtebidpcmcekbgaaDoorW.PrintWords Go.Proofs.YtebidpcmcekbgaaDoorW.PrintLast Go.Proofs.YtebidpcmcekbgaaDoorW.PrintMore
set_option linter.unusedVariables false
set_option linter.unusedSimpArgs false
/-- Must a blank stand between two tokens? -/
def apM (a b : Tk) : Bool := if a.f0 ≠ 4 ∧ b.f0 ≠ 4 then true else decide (a.f1 = ba [58]) && decide (b.f1 = ba [61])
def rgT (x : Tk) : Bool := rightB x.f0 x.f1
/-- The error of tokens that are handed in. -/
def tkE (l : List Tk) : Int := if 900 < l.length then 5 else if l.all rgT = true then 0 else 2
/-- What stands ahead of a token. -/
def gapT (p : Option Tk) (x : Tk) : List UInt8 := match p with
  | none => []
  | some y => if apM y x = true then [32] else []
/-- The bytes of the shortest text. -/
def tgB (p : Option Tk) : List Tk → List UInt8
  | [] => []
  | x :: r => gapT p x ++ (x.f1.data.toList ++ tgB (some x) r)
/-- lex.Tight. -/
def tightM (l : List Tk) : ByteArray × Int := if tkE l = 0 then (if 2500 < (tgB none l).length then (⟨#[]⟩, 5) else (ba (tgB none l), 0)) else (⟨#[]⟩, tkE l)
theorem apM_eq (a b : Tk) : lex_isApart.f a.f0 a.f1 a.f2 b.f0 b.f1 b.f2 = some (apM a b) := by
  have b1 : (ba [61]).toList = ([61] : List UInt8) := by rw [ByteArray.toList_eq]; rfl
  have b2 : (ba [58]).toList = ([58] : List UInt8) := by rw [ByteArray.toList_eq]; rfl
  have e1 : ∀ t : ByteArray, (t.toList == ([61] : List UInt8)) = decide (t = ba [61]) := fun t => by have h := runRight_aux t (ba [61]); rw [b1] at h; exact h
  have e2 : ∀ t : ByteArray, t.toList = ([58] : List UInt8) ↔ t = ba [58] := fun t => by
    have := runRight_aux t (ba [58])
    constructor
    · intro h
      have h2 : (t.toList == (ba [58]).toList) = true := by rw [b2]; exact beq_iff_eq.2 h
      rw [this] at h2
      exact of_decide_eq_true h2
    · rintro rfl; exact b2
  have key : (if a.f1.toList = ([58] : List UInt8) then (some (b.f1.toList == ([61] : List UInt8))) else (some false)) = some (decide (a.f1 = ba [58]) && decide (b.f1 = ba [61])) := by
    by_cases c : a.f1 = ba [58]
    · rw [if_pos ((e2 _).2 c), e1, decide_eq_true c, Bool.true_and]
    · rw [if_neg fun h => c ((e2 _).1 h), decide_eq_false c, Bool.false_and]
  unfold lex_isApart.f apM
  by_cases c1 : a.f0 = 4
  · rw [if_pos c1, if_neg (show ¬ (a.f0 ≠ 4 ∧ b.f0 ≠ 4) from fun h => h.1 c1)]; exact key
  · rw [if_neg c1]
    by_cases c2 : b.f0 = 4
    · rw [if_pos c2, if_neg (show ¬ (a.f0 ≠ 4 ∧ b.f0 ≠ 4) from fun h => h.2 c2)]; exact key
    · rw [if_neg c2, if_pos ⟨c1, c2⟩]
theorem all_drop (f : Tk → Bool) (l : List Tk) (i : Nat) (h : i < l.length) : (l.drop i).all f = (f (rd_T58 l (i : Int)) && (l.drop (i + 1)).all f) := by rw [tk_drop l i h, List.all_cons]
set_option maxRecDepth 8000 in
set_option maxHeartbeats 8000000 in
theorem tokens_any (l : List Tk) (A : Option Addr) (c : Nat) (w : World) (hg : Gl w) (hC : Kd.C k58 w A l.length l) (hll : l.length ≤ 140737488351232) (hx : ∀ x ∈ l, x.f1.size ≤ 140737488351232) :
    Calls Tryd.prog 59 #[.slice A l.length c] w fun e w' => e = .returned (.int .i64 (tkE l)) ∧ Below w.heap.size w w' := by
  have HG := Aside0.mk hg
  have HC := Aside0.mk hC
  have HX := Aside0.mk hx
  unfold tkE
  by_cases h9 : 900 < l.length
  · rw [if_pos h9]
    have g1 : decide (900 < l.length) = true := decide_eq_true h9
    have g2 : decide ((900 : Int) < (l.length : Int)) = true := decide_eq_true (by omega)
    clear hg hC hx
    go_enter Tryd.func59, Tryd.ntmps59
    go_wp2
    go_ret
    exact ⟨rfl, Below.refl _ _⟩
  · rw [if_neg h9]
    have g1 : decide (900 < l.length) = false := decide_eq_false h9
    have g2 : decide ((900 : Int) < (l.length : Int)) = false := decide_eq_false (by omega)
    obtain ⟨r, hr⟩ : ∃ r, l.all rgT = r := ⟨_, rfl⟩
    rw [hr]
    have HR := Aside0.mk (show (l.drop 0).all rgT = r from hr)
    clear hg hC hx hr
    go_enter Tryd.func59, Tryd.ntmps59
    go_wp2
    go_loopg [10] l.length (fun gg s10 wr => ∃ (i : Nat), s10 = .int .i64 i ∧ i ≤ l.length ∧ l.length - i ≤ gg ∧ Aside0 ((l.drop i).all rgT = r) ∧ Aside0 (Below w.heap.size w wr))
    case atStart => exact ⟨0, rfl, Nat.zero_le _, by omega, HR, ⟨Below.refl _ _⟩⟩
    case round =>
      obtain ⟨i, rfl, hi, hgk, HRi, HBW⟩ := hrel
      by_cases hlt : i < l.length
      · have hltz : (i : Int) < (l.length : Int) := by omega
        have hi0 : (0 : Int) ≤ (i : Int) := by omega
        obtain ⟨ad, rfl, x0, x1, x2⟩ := at_T58 (Kd.C_below HC.out HBW.out) (i : Int) hi0 hltz
        rw [Int.toNat_natCast] at x0 x1 x2
        have hs := HRi.out
        rw [all_drop _ l i hlt] at hs
        have hxs := HX.out _ (rdT_mem l i hlt)
        unfold rgT at hs
        generalize rd_T58 l (i : Int) = yy at *
        have hRt := Aside0.mk (fun (W : World) (h : Gl W) => isRight_any yy.f0 yy.f1 yy.f2 W h hxs)
        generalize rightB yy.f0 yy.f1 = rb at *
        have HS := Aside0.mk hs
        clear hs hxs
        have HBa := Aside0.mk (show Below w.heap.size w (wr.alloc (.cells #[.int .u8 yy.f0, .string yy.f1, .int .i64 yy.f2] 58)) from HBW.out.alloc HBW.out.size _)
        cases rb
        · have hN : false = r := HS.out
          subst hN
          clear HS
          go_wp2_with (go_at_call 85; refine (hRt.out _ (HG.out.mono HBa.out)).mono ?_; rintro e w2 ⟨rfl, hb2⟩; have HB2 := Aside0.mk (HBa.out.trans (hb2.mono HBa.out.size)); clear hb2)
          go_ret
          exact ⟨rfl, HB2.out⟩
        · have HN := Aside0.mk (show (l.drop (i + 1)).all rgT = r by have := HS.out; rw [Bool.true_and] at this; exact this)
          clear HS
          go_wp2_with (go_at_call 85; refine (hRt.out _ (HG.out.mono HBa.out)).mono ?_; rintro e w2 ⟨rfl, hb2⟩; have HB2 := Aside0.mk (HBa.out.trans (hb2.mono HBa.out.size)); clear hb2)
          go_roundg (l.length - (i + 1))
          case measure => omega
          case rel => exact ⟨i + 1, by go_num, by omega, by omega, HN, HB2⟩
      · have hs := HRi.out
        rw [List.drop_eq_nil_of_le (by omega)] at hs
        have hN : true = r := hs
        subst hN
        have hlt2 : decide ((i : Int) < (l.length : Int)) = false := decide_eq_false (by omega)
        have hlt3 : decide (i < l.length) = false := decide_eq_false hlt
        clear hs
        go_wp2
        go_ret
        exact ⟨rfl, HBW.out⟩
theorem bld_below {B b : Nat} {bs : List Value} {W W' : World} (h : Lib.IsBuilderF 86 5 B b bs W) (hb : Below W.heap.size W W') : Lib.IsBuilderF 86 5 B b bs W' := by
  have key : ∀ {p : Value}, Lib.BuilderAtF 86 5 B b p bs W → Lib.BuilderAtF 86 5 B b p bs W' := by
    rintro p h
    have hlt := h.lt
    obtain ⟨a, v, e1, own, e2⟩ := h
    exact ⟨a, v, (hb.block b hlt).trans e1, own.kept (row := none) ⟨hb.os, hb.tape, hb.output, hb.size, fun k hk _ => hb.block k hk⟩ (Classical.em _), e2⟩
  exact h.elim (fun x => .inl (key x)) (fun x => .inr (key x))
/-- The token ahead. -/
def prevT (l : List Tk) (i : Nat) : Option Tk := if i = 0 then none else some (rd_T58 l ((i - 1 : Nat) : Int))
theorem tgB_step (l : List Tk) (i : Nat) (h : i < l.length) : tgB (prevT l i) (l.drop i) = gapT (prevT l i) (rd_T58 l (i : Int)) ++ ((rd_T58 l (i : Int)).f1.data.toList ++ tgB (prevT l (i + 1)) (l.drop (i + 1))) := by
  rw [tk_drop l i h, tgB]
  unfold prevT
  rw [if_neg (Nat.succ_ne_zero i), Nat.add_sub_cancel]
theorem gapT_le (p : Option Tk) (x : Tk) : (gapT p x).length ≤ 1 := by
  unfold gapT
  cases p with
  | none => exact Nat.zero_le _
  | some y => simp only; split <;> decide
set_option maxRecDepth 8000 in
set_option maxHeartbeats 8000000 in
theorem Tight_any (l : List Tk) (A : Option Addr) (c : Nat) (w : World) (hg : Gl w) (hC : Kd.C k58 w A l.length l) (hc : l.length ≤ c) (hll : l.length ≤ 140737488351232) (hx : ∀ x ∈ l, x.f1.size ≤ 3000) :
    Calls Tryd.prog 30 #[.slice A l.length c] w fun e w' => e = .returned (.tuple #[.string (tightM l).1, .int .i64 (tightM l).2]) ∧ Below w.heap.size w w' := by
  have hT := tokens_any l A c w hg hC hll (fun x h => Nat.le_trans (hx x h) (by decide))
  have HC := Aside0.mk hC
  have HX := Aside0.mk hx
  unfold tightM
  by_cases h0 : tkE l = 0
  · rw [if_pos h0]
    rw [h0] at hT
    have h9 : l.length ≤ 900 := by
      unfold tkE at h0
      by_cases h9 : 900 < l.length
      · rw [if_pos h9] at h0; exact absurd h0 (by decide)
      · omega
    obtain ⟨RES, hRES⟩ : ∃ R, tgB none l = R := ⟨_, rfl⟩
    rw [hRES]
    have HS := Aside0.mk (show [] ++ tgB (prevT l 0) (l.drop 0) = RES from hRES)
    obtain ⟨O, hO⟩ : ∃ O : ByteArray × Int, (if 2500 < RES.length then ((⟨#[]⟩ : ByteArray), (5 : Int)) else (ba RES, 0)) = O := ⟨_, rfl⟩
    rw [hO]
    have HO := Aside0.mk hO
    clear hC hx hg h0 hRES hO
    go_enter Tryd.func30, Tryd.ntmps30
    go_wp2_with (go_at_call 59; refine hT.mono ?_; rintro e w1 ⟨rfl, hb1⟩; have HB1 := Aside0.mk hb1; clear hb1)
    have HU0 := Aside0.mk (show Lib.IsBuilderF 86 5 w1.heap.size w1.heap.size (Lib.byteCells []) (w1.alloc (.cells #[.pointer none, .slice none 0 0] 86)) from Lib.IsBuilderF.of (Lib.fresh_isBuilder 86 5 w1))
    have HB0 := Aside0.mk (HB1.out.alloc HB1.out.size (.cells #[.pointer none, .slice none 0 0] 86))
    go_loopg [6, 7, 15] l.length (fun gg s6 s7 s15 wr => ∃ (i : Nat) (acc : List UInt8) (v6 v7 : Value), s6 = v6 ∧ s7 = v7 ∧ s15 = .int .i64 i ∧ i ≤ l.length ∧ l.length - i ≤ gg ∧ acc.length ≤ 3001 * i ∧ Aside0 (acc ++ tgB (prevT l i) (l.drop i) = RES) ∧ Aside0 (Lib.IsBuilderF 86 5 w1.heap.size w1.heap.size (Lib.byteCells acc) wr) ∧ Aside0 (Below w.heap.size w wr) ∧ w1.heap.size + 1 ≤ wr.heap.size)
    case atStart => exact ⟨0, [], _, _, rfl, rfl, rfl, Nat.zero_le _, by omega, Nat.zero_le _, HS, HU0, HB0, by simp⟩
    case round =>
      obtain ⟨i, acc, v6, v7, rfl, rfl, rfl, hi, hgk, hac, HA, HU, HBW, hsz⟩ := hrel
      by_cases hlt : i < l.length
      · have hltz : (i : Int) < (l.length : Int) := by omega
        have hi0 : (0 : Int) ≤ (i : Int) := by omega
        obtain ⟨ad, rfl, x0, x1, x2⟩ := at_T58 (Kd.C_below HC.out HBW.out) (i : Int) hi0 hltz
        rw [Int.toNat_natCast] at x0 x1 x2
        have hA2 := HA.out
        rw [tgB_step l i hlt, ← List.append_assoc] at hA2
        have hgl := gapT_le (prevT l i) (rd_T58 l (i : Int))
        have hxs := HX.out _ (rdT_mem l i hlt)
        by_cases hz : i = 0
        · have c1 : decide ((0 : Int) < (i : Int)) = false := decide_eq_false (by omega)
          have c1n : decide (0 < i) = false := decide_eq_false (by omega)
          have hp : prevT l i = none := by unfold prevT; rw [if_pos hz]
          rw [hp] at hA2 hgl
          generalize rd_T58 l (i : Int) = yy at *
          have HN := Aside0.mk (show (acc ++ yy.f1.data.toList) ++ tgB (prevT l (i + 1)) (l.drop (i + 1)) = RES by rw [← hA2, List.append_assoc]; simp [gapT])
          have hac2 : (acc ++ yy.f1.data.toList).length ≤ 3001 * (i + 1) := by rw [List.length_append, ← size_len]; omega
          clear hA2 hgl hp hz
          go_wp2
          obtain ⟨W2, hW2⟩ : ∃ W2 : World, W2 = wr.alloc (.cells #[.int .u8 yy.f0, .string yy.f1, .int .i64 yy.f2] 58) := ⟨_, rfl⟩
          rw [← hW2]
          have HB2 := Aside0.mk (show Below w.heap.size w W2 by rw [hW2]; exact HBW.out.alloc HBW.out.size _)
          have HBr := Aside0.mk (show Below wr.heap.size wr W2 by rw [hW2]; exact (Below.refl _ _).alloc (Nat.le_refl _) _)
          have HU2 := Aside0.mk (show Lib.IsBuilderF 86 5 w1.heap.size w1.heap.size (Lib.byteCells acc) W2 by rw [hW2]; exact HU.out.alloc _)
          have HK := Aside0.mk (show W2.heap[wr.heap.size]? = some (.cells #[.int .u8 yy.f0, .string yy.f1, .int .i64 yy.f2] 58 (0, 0)) by rw [hW2]; exact heap_alloc_new wr _)
          have hsz2 : W2.heap.size = wr.heap.size + 1 := by rw [hW2]; simp
          clear hW2
          go_quiet (fail)
          obtain ⟨w3, hw3⟩ : ∃ W : World, W = W2.drewN nq := ⟨_, rfl⟩
          rw [← hw3]
          have hb3 : Below W2.heap.size W2 w3 := by rw [hw3]; exact pw_below_drewN (Below.refl _ _) nq
          have hsz3 : wr.heap.size + 1 ≤ w3.heap.size := by have := hb3.size; omega
          have HB3 := Aside0.mk (HB2.out.trans (hb3.mono HB2.out.size))
          have HU3 := Aside0.mk (bld_below HU2.out hb3)
          have HK3 := Aside0.mk ((hb3.block _ (blk_lt HK.out)).trans HK.out)
          have q1 : w3.cell? ⟨wr.heap.size, 1, none⟩ = some (.string yy.f1) := (blk_cell HK3.out 1).trans rfl
          clear hb3
          clear hw3
          go_wp2_with (go_at_call 62; refine (Tryd.Builder_WriteString_k w1.heap.size w1.heap.size _ yy.f1 _ HU3.out (by rw [Lib.byteCells_length]; omega) (show w1.heap.size ≤ (w3).heap.size by omega)).mono ?_; rintro e w5 ⟨rfl, hb5, bb5, ok5⟩; have HU5 := Aside0.mk hb5; have HBB5 := Aside0.mk bb5; have HB5 := Aside0.mk (HB3.out.trans (bb5.mono HB1.out.size)); clear hb5 bb5 ok5)
          go_roundg (l.length - (i + 1))
          case measure => omega
          case rel => exact ⟨i + 1, acc ++ yy.f1.data.toList, _, _, rfl, rfl, by go_num, by omega, by omega, hac2, HN, ⟨.inr (by rw [Lib.byteCells_append]; exact HU5.out)⟩, HB5, by have := HBB5.out.size; omega⟩
        · have c1 : decide ((0 : Int) < (i : Int)) = true := decide_eq_true (by omega)
          have c1n : decide (0 < i) = true := decide_eq_true (by omega)
          obtain ⟨j, hj⟩ : ∃ j, i = j + 1 := ⟨i - 1, by omega⟩
          have hp : prevT l i = some (rd_T58 l (j : Int)) := by unfold prevT; rw [if_neg hz, hj, Nat.add_sub_cancel]
          have hjz : (j : Int) < (l.length : Int) := by omega
          obtain ⟨ad2, e2, y0, y1, y2⟩ := at_T58 (Kd.C_below HC.out HBW.out) (j : Int) (by omega) hjz
          obtain rfl := Option.some.inj e2
          rw [Int.toNat_natCast] at y0 y1 y2
          have u1 : IntKind.i64.wrap ((i : Int) - 1) = (j : Int) := by rw [i64_w, w64 (by omega) (by omega)]; omega
          rw [hp] at hA2 hgl
          have hap0 := apM_eq (rd_T58 l (j : Int)) (rd_T58 l (i : Int))
          unfold gapT at hA2 hgl
          simp only at hA2 hgl
          generalize rd_T58 l (i : Int) = yy at *
          generalize rd_T58 l (j : Int) = pp at *
          generalize apM pp yy = ap at *
          have hIs := Aside0.mk (fun W => lex_isApart.calls pp.f0 pp.f1 pp.f2 yy.f0 yy.f1 yy.f2 ap W hap0)
          clear e2 hap0 hj hz hp
          cases ap
          · have HN := Aside0.mk (show (acc ++ yy.f1.data.toList) ++ tgB (prevT l (i + 1)) (l.drop (i + 1)) = RES by rw [← hA2, if_neg Bool.false_ne_true, List.append_nil, List.append_assoc])
            have hac2 : (acc ++ yy.f1.data.toList).length ≤ 3001 * (i + 1) := by rw [List.length_append, ← size_len]; omega
            clear hA2 hgl
            go_wp2
            obtain ⟨W2, hW2⟩ : ∃ W2 : World, W2 = wr.alloc (.cells #[.int .u8 yy.f0, .string yy.f1, .int .i64 yy.f2] 58) := ⟨_, rfl⟩
            rw [← hW2]
            have HB2 := Aside0.mk (show Below w.heap.size w W2 by rw [hW2]; exact HBW.out.alloc HBW.out.size _)
            have HBr := Aside0.mk (show Below wr.heap.size wr W2 by rw [hW2]; exact (Below.refl _ _).alloc (Nat.le_refl _) _)
            have HU2 := Aside0.mk (show Lib.IsBuilderF 86 5 w1.heap.size w1.heap.size (Lib.byteCells acc) W2 by rw [hW2]; exact HU.out.alloc _)
            have HK := Aside0.mk (show W2.heap[wr.heap.size]? = some (.cells #[.int .u8 yy.f0, .string yy.f1, .int .i64 yy.f2] 58 (0, 0)) by rw [hW2]; exact heap_alloc_new wr _)
            have hsz2 : W2.heap.size = wr.heap.size + 1 := by rw [hW2]; simp
            clear hW2
            replace y0 := (HBr.out.cell (World.block_lt_of_cell? wr _ y0)).trans y0
            replace y1 := (HBr.out.cell (World.block_lt_of_cell? wr _ y1)).trans y1
            replace y2 := (HBr.out.cell (World.block_lt_of_cell? wr _ y2)).trans y2
            have k0 : W2.cell? ⟨wr.heap.size, 0, none⟩ = some (.int .u8 yy.f0) := (blk_cell HK.out 0).trans rfl
            have k1 : W2.cell? ⟨wr.heap.size, 1, none⟩ = some (.string yy.f1) := (blk_cell HK.out 1).trans rfl
            have k2 : W2.cell? ⟨wr.heap.size, 2, none⟩ = some (.int .i64 yy.f2) := (blk_cell HK.out 2).trans rfl
            go_still_tail 9, (by kernel_rfl)
            change wpList _ _ _ _ _ W2.drew
            go_wp2_with (first | (go_at_call 60; refine (hIs.out W2.drew).mono ?_; rintro e w3 ⟨rfl, hb3'⟩; have hb3 : Below W2.heap.size W2 w3 := (Below.refl _ W2).drew.trans hb3'; have hsz3 : wr.heap.size + 1 ≤ w3.heap.size := (by have := hb3.size; omega); have HB3 := Aside0.mk (HB2.out.trans (hb3.mono HB2.out.size)); have HU3 := Aside0.mk (bld_below HU2.out hb3); have HK3 := Aside0.mk ((hb3.block _ (blk_lt HK.out)).trans HK.out); have q1 : w3.cell? ⟨wr.heap.size, 1, none⟩ = some (.string yy.f1) := (blk_cell HK3.out 1).trans rfl; clear hb3 hb3') | (go_at_call 62; refine (Tryd.Builder_WriteString_k w1.heap.size w1.heap.size _ yy.f1 _ HU3.out (by rw [Lib.byteCells_length]; omega) (show w1.heap.size ≤ (w3).heap.size by omega)).mono ?_; rintro e w5 ⟨rfl, hb5, bb5, ok5⟩; have HU5 := Aside0.mk hb5; have HBB5 := Aside0.mk bb5; have HB5 := Aside0.mk (HB3.out.trans (bb5.mono HB1.out.size)); clear hb5 bb5 ok5))
            go_roundg (l.length - (i + 1))
            case measure => omega
            case rel => exact ⟨i + 1, acc ++ yy.f1.data.toList, _, _, rfl, rfl, by go_num, by omega, by omega, hac2, HN, ⟨.inr (by rw [Lib.byteCells_append]; exact HU5.out)⟩, HB5, by have := HBB5.out.size; omega⟩
          · have HN := Aside0.mk (show ((acc ++ [32]) ++ yy.f1.data.toList) ++ tgB (prevT l (i + 1)) (l.drop (i + 1)) = RES by rw [← hA2, if_pos rfl, List.append_assoc, List.append_assoc])
            have hac3 : (acc ++ ([32] : List UInt8)).length ≤ 3001 * i + 1 := by rw [List.length_append, List.length_singleton]; omega
            have hac2 : ((acc ++ [32]) ++ yy.f1.data.toList).length ≤ 3001 * (i + 1) := by rw [List.length_append, List.length_append, ← size_len, List.length_singleton]; omega
            clear hA2 hgl
            go_wp2
            obtain ⟨W2, hW2⟩ : ∃ W2 : World, W2 = wr.alloc (.cells #[.int .u8 yy.f0, .string yy.f1, .int .i64 yy.f2] 58) := ⟨_, rfl⟩
            rw [← hW2]
            have HB2 := Aside0.mk (show Below w.heap.size w W2 by rw [hW2]; exact HBW.out.alloc HBW.out.size _)
            have HBr := Aside0.mk (show Below wr.heap.size wr W2 by rw [hW2]; exact (Below.refl _ _).alloc (Nat.le_refl _) _)
            have HU2 := Aside0.mk (show Lib.IsBuilderF 86 5 w1.heap.size w1.heap.size (Lib.byteCells acc) W2 by rw [hW2]; exact HU.out.alloc _)
            have HK := Aside0.mk (show W2.heap[wr.heap.size]? = some (.cells #[.int .u8 yy.f0, .string yy.f1, .int .i64 yy.f2] 58 (0, 0)) by rw [hW2]; exact heap_alloc_new wr _)
            have hsz2 : W2.heap.size = wr.heap.size + 1 := by rw [hW2]; simp
            clear hW2
            replace y0 := (HBr.out.cell (World.block_lt_of_cell? wr _ y0)).trans y0
            replace y1 := (HBr.out.cell (World.block_lt_of_cell? wr _ y1)).trans y1
            replace y2 := (HBr.out.cell (World.block_lt_of_cell? wr _ y2)).trans y2
            have k0 : W2.cell? ⟨wr.heap.size, 0, none⟩ = some (.int .u8 yy.f0) := (blk_cell HK.out 0).trans rfl
            have k1 : W2.cell? ⟨wr.heap.size, 1, none⟩ = some (.string yy.f1) := (blk_cell HK.out 1).trans rfl
            have k2 : W2.cell? ⟨wr.heap.size, 2, none⟩ = some (.int .i64 yy.f2) := (blk_cell HK.out 2).trans rfl
            go_still_tail 9, (by kernel_rfl)
            change wpList _ _ _ _ _ W2.drew
            go_wp2_with (first | (go_at_call 60; refine (hIs.out W2.drew).mono ?_; rintro e w3 ⟨rfl, hb3'⟩; have hb3 : Below W2.heap.size W2 w3 := (Below.refl _ W2).drew.trans hb3'; have hsz3 : wr.heap.size + 1 ≤ w3.heap.size := (by have := hb3.size; omega); have HB3 := Aside0.mk (HB2.out.trans (hb3.mono HB2.out.size)); have HU3 := Aside0.mk (bld_below HU2.out hb3); have HK3 := Aside0.mk ((hb3.block _ (blk_lt HK.out)).trans HK.out); have q1 : w3.cell? ⟨wr.heap.size, 1, none⟩ = some (.string yy.f1) := (blk_cell HK3.out 1).trans rfl; clear hb3 hb3') | (go_at_call 61; refine (Tryd.Builder_WriteByte_k w1.heap.size w1.heap.size _ 32 _ HU3.out (by rw [Lib.byteCells_length]; omega) (show w1.heap.size ≤ w3.heap.size by omega)).mono ?_; rintro e w4 ⟨rfl, hb4, bb4, ok4⟩; have HU4 := Aside0.mk (show Lib.IsBuilderF 86 5 w1.heap.size w1.heap.size (Lib.byteCells (acc ++ [32])) w4 from .inr (by rw [Lib.byteCells_append]; exact hb4)); have hsz4 := bb4.size; have HB4 := Aside0.mk (HB3.out.trans (bb4.mono HB1.out.size)); have HK4 := Aside0.mk (ok4 _ _ HK3.out (by simp; omega) (by intro c' fz e; cases e)); have r1 : w4.cell? ⟨wr.heap.size, 1, none⟩ = some (.string yy.f1) := (blk_cell HK4.out 1).trans rfl; clear hb4 bb4 ok4) | (go_at_call 62; refine (Tryd.Builder_WriteString_k w1.heap.size w1.heap.size _ yy.f1 _ HU4.out (by rw [Lib.byteCells_length]; omega) (show w1.heap.size ≤ (w4).heap.size by omega)).mono ?_; rintro e w5 ⟨rfl, hb5, bb5, ok5⟩; have HU5 := Aside0.mk hb5; have HBB5 := Aside0.mk bb5; have HB5 := Aside0.mk (HB4.out.trans (bb5.mono HB1.out.size)); clear hb5 bb5 ok5))
            go_roundg (l.length - (i + 1))
            case measure => omega
            case rel => exact ⟨i + 1, (acc ++ [32]) ++ yy.f1.data.toList, _, _, rfl, rfl, by go_num, by omega, by omega, hac2, HN, ⟨.inr (by rw [Lib.byteCells_append]; exact HU5.out)⟩, HB5, by have := HBB5.out.size; omega⟩
      · have hlt2 : decide ((i : Int) < (l.length : Int)) = false := decide_eq_false (by omega)
        have hlt3 : decide (i < l.length) = false := decide_eq_false hlt
        have hA2 := HA.out
        rw [List.drop_eq_nil_of_le (by omega), tgB, List.append_nil] at hA2
        subst hA2
        have hlen := Aside0.mk (Lib.byteCells_length acc)
        have hO := HO.out
        clear hac HO
        by_cases h25 : 2500 < acc.length
        · have d1 : decide ((2500 : Int) < (acc.length : Int)) = true := decide_eq_true (by omega)
          have d2 : decide (2500 < acc.length) = true := decide_eq_true h25
          rw [if_pos h25] at hO
          have HO := Aside0.mk hO.symm
          clear h25 hO
          go_wp2_with (first | (go_at_call 63; refine (Tryd.Builder_Len_f w1.heap.size w1.heap.size _ _ HU.out).mono ?_; rw [hlen.out]; rintro e w5 ⟨rfl, rfl⟩))
          go_ret2
          rw [HO.out]
          exact ⟨rfl, HBW.out⟩
        · have d1 : decide ((2500 : Int) < (acc.length : Int)) = false := decide_eq_false (by omega)
          have d2 : decide (2500 < acc.length) = false := decide_eq_false h25
          rw [if_neg h25] at hO
          have HO := Aside0.mk hO.symm
          clear h25 hO
          go_wp2_with (first | (go_at_call 63; refine (Tryd.Builder_Len_f w1.heap.size w1.heap.size _ _ HU.out).mono ?_; rw [hlen.out]; rintro e w5 ⟨rfl, rfl⟩) | (go_at_call 64; refine (Tryd.Builder_String_any_k w1.heap.size w1.heap.size acc _ HU.out (by omega)).mono ?_; rintro e w6 ⟨rfl, hb6, bb6, ok6⟩; have HB6 := Aside0.mk (HBW.out.trans (bb6.mono HB1.out.size)); clear hb6 bb6 ok6))
          go_ret2
          rw [HO.out]
          exact ⟨rfl, HB6.out⟩
  · rw [if_neg h0]
    have k1 : (tkE l == 0) = false := beq_false_of_ne h0
    have k2 : (tkE l != 0) = true := bne_iff_ne.2 h0
    clear h0 hC hx hg
    generalize tkE l = e0 at *
    go_enter Tryd.func30, Tryd.ntmps30
    go_wp2_with (go_at_call 59; refine hT.mono ?_; rintro e w1 ⟨rfl, hb1⟩; have HB1 := Aside0.mk hb1; clear hb1)
    go_ret2
    exact ⟨rfl, HB1.out⟩
end Go.Proofs.YtebidpcmcekbgaaDoor.P
namespace Go.Proofs.YtebidpcmcekbgaaDoor.P
open Go.RowKit Go.Proofs.YtebidpcmcekbgaaDoorW.PrintWords
set_option linter.unusedVariables false
set_option linter.unusedSimpArgs false
end Go.Proofs.YtebidpcmcekbgaaDoor.P
namespace Go.Proofs.YtebidpcmcekbgaaDoor.P
open Go.RowKit Go.Proofs.YtebidpcmcekbgaaDoorW.PrintWords Go.Proofs.YtebidpcmcekbgaaDoorW.PrintLast Go.Proofs.YtebidpcmcekbgaaDoorW.PrintMore
attribute [local go_sem] min2_int min_two -- for this text's walks alone
set_option linter.unusedVariables false
set_option linter.unusedSimpArgs false

/-! ### riposteref01_Tight: function 31 -/

-- NOT PRINTED: function 32 (lex_Pairs)

/-! ### riposteref01_closing: function 67 -/

end Go.Proofs.YtebidpcmcekbgaaDoor.P
namespace Go.Proofs.YtebidpcmcekbgaaDoor.P
open Go.RowKit Go.Proofs.YtebidpcmcekbgaaDoorW.PrintWords
set_option linter.unusedVariables false
set_option linter.unusedSimpArgs false
end Go.Proofs.YtebidpcmcekbgaaDoor.P
namespace Go.Proofs.YtebidpcmcekbgaaDoor.P
open Go.RowKit Go.Proofs.YtebidpcmcekbgaaDoorW.PrintWords Go.Proofs.YtebidpcmcekbgaaDoorW.PrintLast Go.Proofs.YtebidpcmcekbgaaDoorW.PrintMore
attribute [local go_sem] min2_int min_two -- for this text's walks alone
set_option linter.unusedVariables false
set_option linter.unusedSimpArgs false

/-! ### riposteref01_Pairs: function 33 -/

end Go.Proofs.YtebidpcmcekbgaaDoor.P
namespace Go.Proofs.YtebidpcmcekbgaaDoor.P
open Go.RowKit Go.Proofs.YtebidpcmcekbgaaDoorW.PrintWords
set_option linter.unusedVariables false
set_option linter.unusedSimpArgs false
theorem toL (t : ByteArray) (z : List UInt8) : t.toList = z ↔ t = ba z := by
  rw [ByteArray.toList_eq]
  constructor
  · intro h; apply ba_ext; rw [h]; rfl
  · rintro rfl; rfl
def opB (x : Tk) : Bool := decide (x.f1 = ba [40]) || decide (x.f1 = ba [123])
def clB (x : Tk) : Bool := decide (x.f1 = ba [41]) || decide (x.f1 = ba [125])
/-- A bracket that does not close another one. -/
def misB (y x : Tk) : Bool := decide (y.f1 = ba [40]) != decide (x.f1 = ba [41])
/-- lex.Pairs, from a place on. -/
def prM (l : List Tk) : Nat → Nat → List Int → List Int → List Int × Int × Int
  | 0, i, out, op => if op = [] then (out, 0, 0) else ([], rd op 0, 4)
  | d + 1, i, out, op =>
    if opB (rd_T58 l (i : Int)) = true then prM l d (i + 1) (out ++ [-1]) (op ++ [(i : Int)])
    else if clB (rd_T58 l (i : Int)) = true then
      (if op = [] then ([], (i : Int), 4)
       else if misB (rd_T58 l (rd op ((op.length - 1 : Nat) : Int))) (rd_T58 l (i : Int)) = true then ([], (i : Int), 4)
       else prM l d (i + 1) (((out ++ [-1]).set i (rd op ((op.length - 1 : Nat) : Int))).set (rd op ((op.length - 1 : Nat) : Int)).toNat (i : Int)) (op.take (op.length - 1)))
    else prM l d (i + 1) (out ++ [-1]) op
def pairM (l : List Tk) : List Int × Int × Int := if tkE l = 0 then prM l l.length 0 [] [] else ([], 0, tkE l)
theorem rd_last (op : List Int) (h : op ≠ []) : rd op ((op.length - 1 : Nat) : Int) ∈ op := by
  have hl : 0 < op.length := List.length_pos_iff.2 h
  unfold rd
  rw [Int.toNat_natCast, List.getD_eq_getElem?_getD, List.getElem?_eq_getElem (show op.length - 1 < op.length by omega)]
  exact List.getElem_mem _
end Go.Proofs.YtebidpcmcekbgaaDoor.P
namespace Go.Proofs.YtebidpcmcekbgaaDoor.P
open Go.RowKit Go.Proofs.YtebidpcmcekbgaaDoorW.PrintWords
set_option linter.unusedVariables false
def lex_tokens.f (k : Nat) (l : List Tk) : Option Int := some (tkE l)
theorem lexTokensC (w : World) (hg : Aside0 (Gl w)) (l : List Tk) (hs : Aside0 (l.length ≤ 140737488351232 ∧ ∀ x ∈ l, x.f1.size ≤ 140737488351232)) (k : Nat) (A : Option Addr) (c : Nat) (r : Int) (hr : Kd.C k58 w A l.length l) (hc : l.length ≤ c) (h : lex_tokens.f k l = some r) :
    Calls Tryd.prog 59 #[.slice A l.length c] w fun e w' => e = .returned (.int .i64 r) ∧ Below w.heap.size w w' := by
  have e : tkE l = r := Option.some.inj h
  rw [← e]
  exact tokens_any l A c w hg.out hr hs.out.1 hs.out.2
end Go.Proofs.YtebidpcmcekbgaaDoor.P
