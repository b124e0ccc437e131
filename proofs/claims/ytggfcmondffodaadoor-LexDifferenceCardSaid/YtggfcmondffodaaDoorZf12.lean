/- What the claim's law needs, many texts in one (Xq Yc Yj Yk Yl Ym Xz). No conditions of its own. -/
import Derived.Test.YtggfcmondffodaaDoorZf11
import Derived.Test.YtggfcmondffodaaDoorZf10
import Derived.Deep.Slices
import Derived.Lib.SmallJoins
import Derived.OpenShut
import Derived.ChangeOld
import Derived.WideShapes
import Derived.ProofKit
import Derived.SizedLaws
import Derived.LoopN
import Derived.Deep.QuietTactic
import Derived.BigQuiet
import Derived.Test.YtggfcmondffodaaDoorRows
import Derived.Test.YtggfcmondffodaaDoorZf4
import Derived.LaidMore
import Derived.Lay
import Derived.Lib.LaidTab
import Derived.Stop.Joined
set_option linter.unusedVariables false
set_option linter.unusedSimpArgs false
namespace Go.Proofs.YtggfcmondffodaaDoor.P
open Go.RowKit Go.Shelf Go.Maps Go.Proofs.YtggfcmondffodaaDoorW.PrintWords Go.Proofs.YtggfcmondffodaaDoorW.PrintLast Go.Proofs.YtggfcmondffodaaDoorW.PrintMore
set_option linter.unusedVariables false
set_option linter.unusedSimpArgs false
set_option maxHeartbeats 2000000 in
theorem Apply_ok (s : ByteArray) (A : Option Addr) (c : Nat) (l : List Sp) (k : Nat) (w : World) (hr : Kd.C k48 w A l.length l) (hc : l.length ≤ c) (hs : s.size ≤ 1000000000) (hll : l.length ≤ 1000000000) (h : lex_splices.f k s l = some 0) (ho : OrdS s.size l 0) (hb : (splB s l 0).length ≤ 1000000000) :
    Calls Tryd.prog 27 #[.string s, .slice A l.length c] w fun e w' => e = .returned (.tuple #[.string (splM s l), .int .i64 0]) ∧ Below w.heap.size w w' := by
  have h1 := lex_splices.calls k s A c l 0 w hr hc h
  have h2 := fun W (h : Below w.heap.size w W) => spliced_any s A c l W (Kd.C_below hr h) hs hll ho hb
  generalize splM s l = out at *
  clear hr ho hb h
  go_enter Tryd.func27, Tryd.ntmps27
  go_wp2_with (first | (go_at_call 56; refine h1.mono ?_; rintro e w1 ⟨rfl, hb1⟩) | (go_at_call 51; refine (h2 _ hb1).mono ?_; rintro e w2 ⟨rfl, hb2⟩))
  go_ret2
  exact ⟨rfl, hb1.trans (hb2.mono hb1.size)⟩
set_option maxHeartbeats 2000000 in
theorem Apply_bad (s : ByteArray) (A : Option Addr) (c : Nat) (l : List Sp) (k : Nat) (e0 : Int) (w : World) (hr : Kd.C k48 w A l.length l) (hc : l.length ≤ c) (h : lex_splices.f k s l = some e0) (h0 : e0 ≠ 0) :
    Calls Tryd.prog 27 #[.string s, .slice A l.length c] w fun e w' => e = .returned (.tuple #[.string ⟨#[]⟩, .int .i64 e0]) ∧ Below w.heap.size w w' := by
  have h1 := lex_splices.calls k s A c l e0 w hr hc h
  have hb1 : (e0 == 0) = false := beq_false_of_ne h0
  have hb2 : (e0 != 0) = true := bne_iff_ne.2 h0
  clear hr h
  go_enter Tryd.func27, Tryd.ntmps27
  go_wp2_with (go_at_call 56; refine h1.mono ?_; rintro e w1 ⟨rfl, hb1⟩)
  go_ret2
  exact ⟨rfl, hb1⟩
/-! ### The document's examples -/
def eT1 : ByteArray := ⟨#[120, 58, 61, 49, 32, 126, 97]⟩
def eT2 : ByteArray := ⟨#[120, 32, 126, 97]⟩
def eT3 : ByteArray := ⟨#[97, 98, 99]⟩
def eT4 : ByteArray := ⟨#[120, 32, 43, 32, 120, 115]⟩
def eL1 : List Tk := [⟨1, ⟨#[120]⟩, 0⟩, ⟨4, ⟨#[58, 61]⟩, 1⟩, ⟨2, ⟨#[49]⟩, 3⟩]
def eL2 : List Tk := [⟨5, ⟨#[97]⟩, 2⟩]
def eS : List Sp := [⟨1, 2, ⟨#[120, 121]⟩⟩]
theorem ex1 : toksM kwM eT1 = (eL1, 0, 0) := by kernel_rfl
theorem ex2 : notesM eT2 = (eL2, 0) := by kernel_rfl
theorem ex3 : lex_splices.f 60 eT3 eS = some 0 := by kernel_rfl
theorem ex4 : splM eT3 eS = ⟨#[97, 120, 121, 99]⟩ := by kernel_rfl
theorem ex5 : renM eT4 ⟨#[120]⟩ ⟨#[121]⟩ = (⟨#[121, 32, 43, 32, 120, 115]⟩, 0) := by kernel_rfl
set_option maxRecDepth 8000 in
set_option maxHeartbeats 8000000 in
theorem awake_any (w : World) (hg : Gl w) : Calls Tryd.prog 15 #[] w fun e w' => e = .returned (.bool true) ∧ Below w.heap.size w w' := by
  have HG := Aside0.mk hg
  have hT := Tokens_any eT1 w hg (by decide)
  rw [ex1] at hT
  have hN := Aside0.mk (fun W => Notes_any eT2 W (by decide))
  rw [ex2] at hN
  have hA := Aside0.mk (fun (A : Option Addr) (c : Nat) (W : World) (h : Kd.C k48 W A eS.length eS) (hc : eS.length ≤ c) => Apply_ok eT3 A c eS 60 W h hc (by decide) (by decide) ex3 (by unfold eS OrdS OrdS; decide) (by rw [show splB eT3 eS 0 = (splM eT3 eS).data.toList from rfl, ex4]; decide))
  rw [ex4] at hA
  have hR := Aside0.mk (fun (W : World) (h : Gl W) => Rename_any eT4 ⟨#[120]⟩ ⟨#[121]⟩ W h (by decide) (by decide) (by decide))
  rw [ex5] at hR
  have hS1 := Aside0.mk (fun (A0 A1 : Option Addr) (c0 c1 : Nat) (W : World) (h0 : Kd.C k35 W A0 eL1.length eL1) (hc0 : eL1.length ≤ c0) (h1 : Kd.C k35 W A1 eL1.length eL1) (hc1 : eL1.length ≤ c1) => riposteref01_SameTokens.calls 20 A0 c0 eL1 A1 c1 eL1 true W h0 hc0 h1 hc1 (rSame eL1 (by decide) 20 (by decide)))
  have hS2 := Aside0.mk (fun (A0 A1 : Option Addr) (c0 c1 : Nat) (W : World) (h0 : Kd.C k35 W A0 eL2.length eL2) (hc0 : eL2.length ≤ c0) (h1 : Kd.C k35 W A1 eL2.length eL2) (hc1 : eL2.length ≤ c1) => riposteref01_SameTokens.calls 20 A0 c0 eL2 A1 c1 eL2 true W h0 hc0 h1 hc1 (rSame eL2 (by decide) 20 (by decide)))
  clear hg
  go_enter Tryd.func15, Tryd.ntmps15
  go_wp2_with (first | (go_at_call 16; refine hT.mono ?_; rintro e w1 ⟨tv, rfl, hrt, hb1'⟩; have HB1 := Aside0.mk hb1'; have HT1 := Aside0.mk hrt; obtain ⟨TA, TC, rfl⟩ := Kd.R_slice hrt; clear hrt hb1') | (go_at_call 18; refine (hN.out _).mono ?_; rintro e w2 ⟨nv, rfl, hrn, hb2'⟩; have HB2 := Aside0.mk (HB1.out.trans (hb2'.mono HB1.out.size)); have HT2 := Aside0.mk (Kd.C_below (Kd.R_reads' HT1.out).2.2 hb2'); have HN2 := Aside0.mk hrn; obtain ⟨NA, NC, rfl⟩ := Kd.R_slice hrn; clear hrn hb2') | ((with_reducible refine gate_dst (N := 21) rfl ?_); refine Kd.R_lit k48 _ 48 ?hg (N := 21) ?hd (xs := eS) (inner := [.int .i64 1, .int .i64 2, .string ⟨#[120, 121]⟩]) (ok := fun _ => True) (okp := fun _ => True) ?hr ?hp (fun _ hk => hk) trivial (Below.refl _ _) (Nat.le_refl _) (by decide) ?_; (case hd => rfl); (case hg => rfl); (case hr => first | (go_simp; done) | (go_simp; rfl)); (case hp => exact (Reps.c3 (k48_mkM _ _ _ _) (Reps.none _ _))); intro v3 w3 ho3 hb3 hg_ hnew_; clear hg_ hnew_; have HB3 := Aside0.mk (HB2.out.trans (hb3.mono HB2.out.size)); have HT3 := Aside0.mk (Kd.C_below HT2.out hb3); have HN3 := Aside0.mk (Kd.C_below (Kd.R_reads' HN2.out).2.2 hb3); have HO3 := Aside0.mk ho3; obtain ⟨SA, SC, rfl⟩ := Kd.R_slice ho3; clear ho3 hb3) | (go_at_call 27; refine (hA.out SA SC _ (Kd.R_reads' HO3.out).2.2 (Kd.R_reads' HO3.out).2.1).mono ?_; rintro e w4 ⟨rfl, hb4⟩; have HB4 := Aside0.mk (HB3.out.trans (hb4.mono HB3.out.size)); have HT4 := Aside0.mk (Kd.C_below HT3.out hb4); have HN4 := Aside0.mk (Kd.C_below HN3.out hb4); clear hb4) | (go_at_call 21; refine (hR.out _ (HG.out.mono HB4.out)).mono ?_; rintro e w5 ⟨rfl, hb5⟩; have HB5 := Aside0.mk (HB4.out.trans (hb5.mono HB4.out.size)); have HT5 := Aside0.mk (Kd.C_below HT4.out hb5); have HN5 := Aside0.mk (Kd.C_below HN4.out hb5); clear hb5) | ((with_reducible refine gate_dst (N := 36) rfl ?_); (try (refine gate_guard (by rfl) ?_; dsimp only)); refine Kd.R_lit k35 _ 35 ?hg (N := 36) ?hd (xs := eL1) (inner := [.int .u8 1, .string ⟨#[120]⟩, .int .i64 0, .int .u8 4, .string ⟨#[58, 61]⟩, .int .i64 1, .int .u8 2, .string ⟨#[49]⟩, .int .i64 3]) (ok := fun _ => True) (okp := fun _ => True) ?hr ?hp (fun _ hk => hk) trivial (Below.refl _ _) (Nat.le_refl _) (by decide) ?_; (case hd => rfl); (case hg => rfl); (case hr => first | (go_simp; done) | (go_simp; rfl)); (case hp => exact (Reps.c3 (k35_mkM _ _ _ _) (Reps.c3 (k35_mkM _ _ _ _) (Reps.c3 (k35_mkM _ _ _ _) (Reps.none _ _))))); intro v6 w6 ho6 hb6 hg_ hnew_; clear hg_ hnew_; have HB6 := Aside0.mk (HB5.out.trans (hb6.mono HB5.out.size)); have HT6 := Aside0.mk (Kd.C_below HT5.out hb6); have HN6 := Aside0.mk (Kd.C_below HN5.out hb6); have HO6 := Aside0.mk ho6; obtain ⟨LA, LC, rfl⟩ := Kd.R_slice ho6; clear ho6 hb6) | (go_at_call 20; (with_reducible refine (hS1.out TA LA TC LC _ HT6.out (Kd.R_reads' HT1.out).2.1 (Kd.R_reads' HO6.out).2.2 (Kd.R_reads' HO6.out).2.1).mono ?_); rintro e w' ⟨rfl, ⟨nd7, rfl⟩⟩; have HB7 := Aside0.mk (pw_below_drewN HB6.out nd7); have HN7 := Aside0.mk (Kd.C_drewN HN6.out nd7)) | ((with_reducible refine gate_dst (N := 46) rfl ?_); (try (refine gate_guard (by rfl) ?_; dsimp only)); refine Kd.R_lit k35 _ 35 ?hg (N := 46) ?hd (xs := eL2) (inner := [.int .u8 5, .string ⟨#[97]⟩, .int .i64 2]) (ok := fun _ => True) (okp := fun _ => True) ?hr ?hp (fun _ hk => hk) trivial (Below.refl _ _) (Nat.le_refl _) (by decide) ?_; (case hd => rfl); (case hg => rfl); (case hr => first | (go_simp; done) | (go_simp; rfl)); (case hp => exact (Reps.c3 (k35_mkM _ _ _ _) (Reps.none _ _))); intro v8 w8 ho8 hb8 hg_ hnew_; clear hg_ hnew_; have HB8 := Aside0.mk (HB7.out.trans (hb8.mono HB7.out.size)); have HN8 := Aside0.mk (Kd.C_below HN7.out hb8); have HO8 := Aside0.mk ho8; obtain ⟨MA, MC, rfl⟩ := Kd.R_slice ho8; clear ho8 hb8) | (go_at_call 20; refine (hS2.out NA MA NC MC _ HN8.out (Kd.R_reads' HN2.out).2.1 (Kd.R_reads' HO8.out).2.2 (Kd.R_reads' HO8.out).2.1).mono ?_; rintro e w' ⟨rfl, ⟨nd9, rfl⟩⟩; have HB9 := Aside0.mk (pw_below_drewN HB8.out nd9)))
  go_ret
  exact ⟨rfl, HB9.out⟩
end Go.Proofs.YtggfcmondffodaaDoor.P
namespace Go.Proofs.YtggfcmondffodaaDoor.P
open Go Go.RowKit Go.Shelf Go.Maps Go.ChangeShapes Go.WideShapes Go.Proofs.YtggfcmondffodaaDoorW.PrintWords Go.Proofs.YtggfcmondffodaaDoorW.PrintLast Go.Proofs.YtggfcmondffodaaDoorW.PrintMore
set_option linter.unusedVariables false
set_option linter.unusedSimpArgs false
theorem Apply_any (s : ByteArray) (A : Option Addr) (c : Nat) (l : List Sp) (w : World) (hr : Kd.C k48 w A l.length l) (hc : l.length ≤ c) (hs : s.size ≤ 3000) (hl : l.length ≤ 1000) (hx : ∀ x ∈ l, x.f2.size ≤ 3000) :
    Calls Tryd.prog 27 #[.string s, .slice A l.length c] w fun e w' => e = .returned (.tuple #[.string (appM s l).1, .int .i64 (appM s l).2]) ∧ Below w.heap.size w w' := by
  have h := pSplices s l hs hl hx
  unfold appM
  by_cases c0 : splE s l = 0
  · rw [if_pos c0]
    obtain ⟨h1, h2, h3, h4⟩ := splE_ord c0
    have hb := splB_len s 3000 l 0 hx h3
    exact Apply_ok s A c l _ w hr hc (by omega) (by omega) (by rw [h, c0]) h3 (by omega)
  · rw [if_neg c0]
    exact Apply_bad s A c l _ _ w hr hc h c0
set_option maxRecDepth 100000
end Go.Proofs.YtggfcmondffodaaDoor.P
namespace Go.Proofs.YtggfcmondffodaaDoor.P
open Go.RowKit Go.Shelf Go.Maps Go.Proofs.YtggfcmondffodaaDoorW.PrintWords Go.Proofs.YtggfcmondffodaaDoorW.PrintLast Go.Proofs.YtggfcmondffodaaDoorW.PrintMore
set_option linter.unusedVariables false
set_option linter.unusedSimpArgs false
theorem C_bytes (s : ByteArray) (W : World) (cap e : Nat) (fr : Nat × Nat) (hs : s.size ≤ 3000) : Kd.C (Kd.int .u8) (W.alloc (.cells (bytesRow s cap) e fr)) (some ⟨W.heap.size, 0, none⟩) s.size (bl s) := by
  refine ⟨bl_len s, by omega, fun _ => ⟨_, rfl, fun j p hj => ⟨[.int .u8 p], rfl, rfl, fun i u hu => ?_⟩⟩⟩
  obtain ⟨hi, rfl⟩ := List.getElem?_eq_some_iff.1 hu
  have hi0 : i = 0 := by simpa using hi
  subst hi0
  have e0 : (⟨W.heap.size, 0, none⟩ : Addr).add (j * (Kd.int .u8).sz + 0) = ⟨W.heap.size, j, none⟩ := by
    show (⟨W.heap.size, 0, none⟩ : Addr).add (j * 1 + 0) = _
    simp [Addr.add]; intro h; exact h.symm
  rw [e0]
  refine (World.cell?_alloc_mark W _ e fr j).trans ?_
  unfold bl at hj
  rw [List.getElem?_map] at hj
  cases hc : s.data.toList[j]? with
  | none => rw [hc] at hj; cases hj
  | some c =>
    rw [hc] at hj
    obtain rfl : (c.toNat : Int) = p := Option.some.inj hj
    unfold bytesRow
    have h1 : s.data[j]? = some c := by rw [← Array.getElem?_toList]; exact hc
    have h2 : j < s.data.size := (Array.getElem?_eq_some_iff.1 h1).1
    rw [Array.getElem?_append_left (by rw [Array.size_map]; exact h2), Array.getElem?_map, h1]
    rfl
set_option maxRecDepth 8000 in
/-- What '[]byte(s)' makes: its room and the world behind it, unnamed. -/
theorem bytes_conv : ∃ (cv : World → ByteArray → Nat) (wv : World → ByteArray → World), (∀ (W : World) (s : ByteArray), (convert 9 73 (.string s)).run Tryd.prog W = .ok (.slice (some ⟨W.heap.size, 0, none⟩) s.size (cv W s)) (wv W s)) ∧
    (∀ (W : World) (s : ByteArray), s.size ≤ 3000 → Kd.C (Kd.int .u8) (wv W s) (some ⟨W.heap.size, 0, none⟩) s.size (bl s)) ∧ (∀ (W : World) (s : ByteArray), Below W.heap.size W (wv W s)) :=
  ⟨fun W s => grownCap W s.size 0 5, fun W s => W.drew.alloc (.cells (bytesRow s (grownCap W s.size 0 5)) 5 ((bytesRow s (grownCap W s.size 0 5)).size, (bytesRow s (grownCap W s.size 0 5)).size + 1)), fun W s => run_bytes_of_string (P := Tryd.prog) W 9 73 5 s rfl rfl rfl, fun W s hs => C_bytes s W.drew _ _ _ hs, fun W s => (Below.refl _ W).drew.alloc (Nat.le_refl _) _⟩
theorem sufB_ex (a b : ByteArray) (p : Nat) (ha : p ≤ a.size) (hb : p ≤ b.size) : sufB (a.extract p a.size) (b.extract p b.size) 0 = sufB a b p := by
  unfold sufB
  have e1 : (a.extract p a.size).size = a.size - p := by rw [size_ex]; omega
  have e2 : (b.extract p b.size).size = b.size - p := by rw [size_ex]; omega
  rw [e1, e2, Nat.sub_zero, Nat.sub_zero]
  refine runF_congr _ _ fun j h1 h2 => ?_
  rw [bt_ex a p a.size _ (by omega), bt_ex b p b.size _ (by omega), show p + (a.size - p - 1 - j) = a.size - 1 - j by omega, show p + (b.size - p - 1 - j) = b.size - 1 - j by omega]
/-- A literal of one splice. -/
theorem R_one (W : World) (base : Nat) (x : Sp) (hb : base ≤ W.heap.size) : Kd.R k48 48 (W.alloc (.cells #[.int .i64 x.f0, .int .i64 x.f1, .string x.f2] 48)) base (fun _ => True) (.slice (some ⟨W.heap.size, 0, none⟩) 1 1) [x] := by
  have hrep : Reps (k48.M W base (fun _ => False)) k48.sz [x] [.int .i64 x.f0, .int .i64 x.f1, .string x.f2] := Reps.c3 (k48_mkM _ _ _ _) (Reps.none _ _)
  refine ⟨fun _ _ => trivial, [.int .i64 x.f0, .int .i64 x.f1, .string x.f2], ?_, ?_⟩
  · have h2 := World.ownsRow_lit (base := base) (e := 48) (size := k48.sz) W #[.int .i64 x.f0, .int .i64 x.f1, .string x.f2] 1 hb (by decide) rfl
    simpa using h2
  · exact hrep.imp_ (fun p c hp => k48.M_mono (fun k hk => hk.elim) (Kd.M_below hp (below_alloc (Below.refl _ _) _)))
set_option maxRecDepth 8000 in
set_option maxHeartbeats 8000000 in
theorem Diff_any (a b : ByteArray) (w : World) (hsa : a.size ≤ 3000) (hsb : b.size ≤ 3000) :
    Calls Tryd.prog 23 #[.string a, .string b] w fun e w' => ∃ v, e = .returned (.tuple #[v, .int .i64 (difM a b).2]) ∧ Kd.R k48 48 w' w.heap.size (fun _ => True) v (difM a b).1 ∧ Below w.heap.size w w' := by
  have hca := Aside0.mk (fun W => check_any a W (by omega))
  have hcb := Aside0.mk (fun W => check_any b W (by omega))
  have i0 : ∀ w : World, (Instr.index 70 (.agg #[.string a, .string b]) (.int .i64 0)).run Tryd.prog w = .ok (.string a) w := fun _ => by kernel_rfl
  have i1 : ∀ w : World, (Instr.index 70 (.agg #[.string a, .string b]) (.int .i64 1)).run Tryd.prog w = .ok (.string b) w := fun _ => by kernel_rfl
  unfold difM
  by_cases e1 : (chkT a).2 = 0
  · by_cases e2 : (chkT b).2 = 0
    · rw [if_pos e1, if_pos e2]
      by_cases e3 : a = b
      · have HS := Aside0.mk (show difS a b = [] from if_pos e3)
        have e4 : (a.toList == b.toList) = true := by rw [e3]; exact beq_self_eq_true _
        generalize difS a b = d at *
        generalize chkT a = ka at *
        generalize chkT b = kb at *
        obtain ⟨ka0, ka1⟩ := ka
        obtain ⟨kb0, kb1⟩ := kb
        simp only at e1 e2 hca hcb
        subst e1 e2
        clear e3
        go_enter Tryd.func23, Tryd.ntmps23
        (go_wp2; refine wp_loop_rounds 3 ?_; rw [rounds_succ]; go_wp2_with (go_at_call 42; refine (hca.out _).mono ?_; rintro e w1 ⟨rfl, hb1⟩; have HB1 := Aside0.mk hb1; clear hb1))
        rw [rounds_succ]
        go_wp2_with (go_at_call 42; refine (hcb.out _).mono ?_; rintro e w2 ⟨rfl, hb2⟩; have HB2 := Aside0.mk (HB1.out.trans (hb2.mono HB1.out.size)); clear hb2)
        rw [rounds_succ]
        go_wp2
        go_ret2
        rw [HS.out]
        exact ⟨_, rfl, Kd.R_nil _ _ _ _ _, HB2.out⟩
      · obtain ⟨cv, wv, hcv, hCV, hBV⟩ := bytes_conv
        have HCV := Aside0.mk hCV
        have HBV := Aside0.mk hBV
        clear hCV hBV
        have e4 : (a.toList == b.toList) = false := by rw [runRight_aux]; exact decide_eq_false e3
        have HS := Aside0.mk (show difS a b = [⟨(preB a b : Int), ((a.size - sufB a b (preB a b) : Nat) : Int), b.extract (preB a b) (b.size - sufB a b (preB a b))⟩] from if_neg e3)
        have hP := Aside0.mk (fun A B ca cb W ha hb => commonB_any a b A B ca cb W ha hb hsa hsb)
        have hp12 := preB_le a b
        have hq12 := sufB_le a b (preB a b)
        have hZ := sufB_ex a b (preB a b) hp12.1 hp12.2
        generalize difS a b = d at *
        generalize chkT a = ka at *
        generalize chkT b = kb at *
        generalize preB a b = p at *
        obtain ⟨ka0, ka1⟩ := ka
        obtain ⟨kb0, kb1⟩ := kb
        obtain ⟨hp1, hp2⟩ := hp12
        have hza : (a.extract p a.size).size = a.size - p := by rw [size_ex]; omega
        have hzb : (b.extract p b.size).size = b.size - p := by rw [size_ex]; omega
        have hQ := fun A B ca cb W ha hb => endingB_any (a.extract p a.size) (b.extract p b.size) A B ca cb W ha hb (by omega) (by omega)
        rw [hZ, hza, hzb] at hQ
        have HQ := Aside0.mk hQ
        have HVA := Aside0.mk (fun W => hza ▸ HCV.out W (a.extract p a.size) (by omega))
        have HVB := Aside0.mk (fun W => hzb ▸ HCV.out W (b.extract p b.size) (by omega))
        clear hQ hZ hza hzb
        generalize sufB a b p = q at *
        obtain ⟨hq1, hq2⟩ := hq12
        simp only at e1 e2 hca hcb
        subst e1 e2
        clear e3
        go_enter Tryd.func23, Tryd.ntmps23
        (go_wp2; refine wp_loop_rounds 3 ?_; rw [rounds_succ]; go_wp2_with (go_at_call 42; refine (hca.out _).mono ?_; rintro e w1 ⟨rfl, hb1⟩; have HB1 := Aside0.mk hb1; clear hb1))
        rw [rounds_succ]
        go_wp2_with (go_at_call 42; refine (hcb.out _).mono ?_; rintro e w2 ⟨rfl, hb2⟩; have HB2 := Aside0.mk (HB1.out.trans (hb2.mono HB1.out.size)); clear hb2)
        rw [rounds_succ]
        go_wp2_with (go_at_call 54; with_reducible refine (hP.out _ _ _ _ _ (Kd.C_below (HCV.out w2 a hsa) (HBV.out (wv w2 a) b)) (HCV.out (wv w2 a) b hsb)).mono ?_; rintro e w3 ⟨rfl, hw3⟩; have HB3 := Aside0.mk (show Below w.heap.size w w3 from (by obtain ⟨nd, rfl⟩ := hw3; exact pw_below_drewN (HB2.out.trans (((HBV.out w2 a).trans ((HBV.out (wv w2 a) b).mono (HBV.out w2 a).size)).mono HB2.out.size)) nd)); clear hw3)
        have HBd := Aside0.mk HB3.out.drew
        have hp1z : (p : Int) ≤ (a.size : Int) := by omega
        have hp2z : (p : Int) ≤ (b.size : Int) := by omega
        have hp0z : (0 : Int) ≤ (p : Int) := by omega
        refine start_ (n := 11) (S := fun w' => True) (ds := []) #[false, false, false, false, false, false, false, false, false, false, false] (by kernel_rfl) rfl rfl trivial (fun hHeld => ?_)
        generalize w3.drew = wd at HBd ⊢
        refine pure_ (i := 0) (N := some 37) (v := ?_) (a' := ?_) #[true, false, false, false, false, false, false, false, false, false, false] rfl rfl (by kernel_rfl) (fun _ _ _ h => h) (Or.inl ⟨by rfl, ?_⟩) ?_ ?_
        rotate_left
        · intro w'
          go_simp
          with_reducible rfl
        rotate_left
        · simp only [Act.put, List.setIfInBounds_toArray, List.set_cons_zero, List.set_cons_succ, i64_w, i32_w]
          rfl
        refine pure_ (i := 1) (N := some 38) (v := ?_) (a' := ?_) #[true, true, false, false, false, false, false, false, false, false, false] rfl rfl (by kernel_rfl) (fun _ _ _ h => h) (Or.inl ⟨by rfl, ?_⟩) ?_ ?_
        rotate_left
        · intro w'
          go_simp
          with_reducible rfl
        rotate_left
        · simp only [Act.put, List.setIfInBounds_toArray, List.set_cons_zero, List.set_cons_succ, i64_w, i32_w]
          rfl
        refine pure_ (i := 2) (N := some 39) (v := ?_) (a' := ?_) #[true, true, true, false, false, false, false, false, false, false, false] rfl rfl (by kernel_rfl) (fun _ _ _ h => h) (Or.inl ⟨by rfl, ?_⟩) ?_ ?_
        rotate_left
        · intro w'
          go_simp
          with_reducible rfl
        rotate_left
        · simp only [Act.put, List.setIfInBounds_toArray, List.set_cons_zero, List.set_cons_succ, i64_w, i32_w]
          rfl
        refine pure_ (i := 4) (N := some 41) (v := ?_) (a' := ?_) #[true, true, true, false, true, false, false, false, false, false, false] rfl rfl (by kernel_rfl) (fun _ _ _ h => h) (Or.inl ⟨by rfl, ?_⟩) ?_ ?_
        rotate_left
        · intro w'
          go_simp
          with_reducible rfl
        rotate_left
        · simp only [Act.put, List.setIfInBounds_toArray, List.set_cons_zero, List.set_cons_succ, i64_w, i32_w]
          rfl
        refine pure_ (i := 5) (N := some 42) (v := ?_) (a' := ?_) #[true, true, true, false, true, true, false, false, false, false, false] rfl rfl (by kernel_rfl) (fun _ _ _ h => h) (Or.inl ⟨by rfl, ?_⟩) ?_ ?_
        rotate_left
        · intro w'
          go_simp
          with_reducible rfl
        rotate_left
        · simp only [Act.put, List.setIfInBounds_toArray, List.set_cons_zero, List.set_cons_succ, i64_w, i32_w]
          rfl
        refine pure_ (i := 6) (N := some 43) (v := ?_) (a' := ?_) #[true, true, true, false, true, true, true, false, false, false, false] rfl rfl (by kernel_rfl) (fun _ _ _ h => h) (Or.inl ⟨by rfl, ?_⟩) ?_ ?_
        rotate_left
        · intro w'
          go_simp
          with_reducible rfl
        rotate_left
        · simp only [Act.put, List.setIfInBounds_toArray, List.set_cons_zero, List.set_cons_succ, i64_w, i32_w]
          rfl
        refine pure_ (i := 8) (N := some 45) (v := ?_) (a' := ?_) #[true, true, true, false, true, true, true, false, true, false, false] rfl rfl (by kernel_rfl) (fun _ _ _ h => h) (Or.inl ⟨by rfl, ?_⟩) ?_ ?_
        rotate_left
        · intro w'
          go_simp
          with_reducible rfl
        rotate_left
        · simp only [Act.put, List.setIfInBounds_toArray, List.set_cons_zero, List.set_cons_succ, i64_w, i32_w]
          rfl
        refine join_ (σ := (Nat × Nat) × (Nat × Nat)) 2 #[true, true, true, true, true, true, true, true, true, false, false] (fun s => [(40, .slice (some ⟨s.1.1, 0, none⟩) (a.size - p) s.1.2), (44, .slice (some ⟨s.2.1, 0, none⟩) (b.size - p) s.2.2)]) (fun s w' => Kd.C (Kd.int .u8) w' (some ⟨s.1.1, 0, none⟩) (a.size - p) (bl (a.extract p a.size)) ∧ Kd.C (Kd.int .u8) w' (some ⟨s.2.1, 0, none⟩) (b.size - p) (bl (b.extract p b.size)) ∧ Below w.heap.size w w') ?_ ?_
        rotate_left
        · intro hCont
          refine two_ (i := 3) (j := 7) (Ni := some 40) (Nj := some 44) #[true, true, true, true, true, true, true, false, true, false, false] #[true, true, true, false, true, true, true, true, true, false, false] rfl rfl rfl rfl (by kernel_rfl) (by decide) (by decide) (fun K hK => ?_) (fun K hK => ?_)
          · skip
            refine value_ (w1 := ?_) (v := ?_) (by rfl) rfl ?_ ?_
            rotate_left 2
            · go_simp
              constructor
              · rfl
              · rfl
            refine hK.out _ _ trivial (fun hHeld => ?_)
            clear hK K
            refine norm_ (a' := ?_) ?_ ?_
            rotate_left
            · show Act.put _ (some 40) _ = _
              simp only [Act.put, List.setIfInBounds_toArray, List.set_cons_zero, List.set_cons_succ, i64_w, i32_w]
              rfl
            refine one_ (i := 7) (N := some 44) #[true, true, true, true, true, true, true, true, true, false, false] rfl rfl (by kernel_rfl) (by decide) (fun K hK => ?_)
            refine value_ (w1 := ?_) (v := ?_) (by rfl) rfl ?_ ?_
            rotate_left 2
            · go_simp
              constructor
              · rfl
              · rfl
            refine hK.out _ _ trivial (fun hHeld => ?_)
            clear hK K
            refine norm_ (a' := ?_) ?_ ?_
            rotate_left
            · show Act.put _ (some 44) _ = _
              simp only [Act.put, List.setIfInBounds_toArray, List.set_cons_zero, List.set_cons_succ, i64_w, i32_w]
              rfl
            exact norm_ (by simp only [putAll, Act.put, List.setIfInBounds_toArray, List.set_cons_zero, List.set_cons_succ]) (hCont ((wd.heap.size, cv wd (a.extract p a.size)), ((wv wd (a.extract p a.size)).heap.size, cv (wv wd (a.extract p a.size)) (b.extract p b.size))) _ ⟨Kd.C_below (HVA.out wd) (HBV.out (wv wd (a.extract p a.size)) (b.extract p b.size)), HVB.out (wv wd (a.extract p a.size)), HBd.out.trans (((HBV.out wd (a.extract p a.size)).trans ((HBV.out (wv wd (a.extract p a.size)) (b.extract p b.size)).mono (HBV.out wd (a.extract p a.size)).size)).mono HBd.out.size)⟩)
          · skip
            refine value_ (w1 := ?_) (v := ?_) (by rfl) rfl ?_ ?_
            rotate_left 2
            · go_simp
              constructor
              · rfl
              · rfl
            refine hK.out _ _ trivial (fun hHeld => ?_)
            clear hK K
            refine norm_ (a' := ?_) ?_ ?_
            rotate_left
            · show Act.put _ (some 44) _ = _
              simp only [Act.put, List.setIfInBounds_toArray, List.set_cons_zero, List.set_cons_succ, i64_w, i32_w]
              rfl
            refine one_ (i := 3) (N := some 40) #[true, true, true, true, true, true, true, true, true, false, false] rfl rfl (by kernel_rfl) (by decide) (fun K hK => ?_)
            refine value_ (w1 := ?_) (v := ?_) (by rfl) rfl ?_ ?_
            rotate_left 2
            · go_simp
              constructor
              · rfl
              · rfl
            refine hK.out _ _ trivial (fun hHeld => ?_)
            clear hK K
            refine norm_ (a' := ?_) ?_ ?_
            rotate_left
            · show Act.put _ (some 40) _ = _
              simp only [Act.put, List.setIfInBounds_toArray, List.set_cons_zero, List.set_cons_succ, i64_w, i32_w]
              rfl
            exact norm_ (by simp only [putAll, Act.put, List.setIfInBounds_toArray, List.set_cons_zero, List.set_cons_succ]) (hCont (((wv wd (b.extract p b.size)).heap.size, cv (wv wd (b.extract p b.size)) (a.extract p a.size)), (wd.heap.size, cv wd (b.extract p b.size))) _ ⟨HVA.out (wv wd (b.extract p b.size)), Kd.C_below (HVB.out wd) (HBV.out (wv wd (b.extract p b.size)) (a.extract p a.size)), HBd.out.trans (((HBV.out wd (b.extract p b.size)).trans ((HBV.out (wv wd (b.extract p b.size)) (a.extract p a.size)).mono (HBV.out wd (b.extract p b.size)).size)).mono HBd.out.size)⟩)
        rintro ⟨⟨ba, ca⟩, ⟨bb, cb⟩⟩ w5 ⟨hCA, hCB, hB5⟩
        have HCA := Aside0.mk hCA
        have HCB := Aside0.mk hCB
        have HB5 := Aside0.mk hB5
        clear hCA hCB hB5
        have hHeld : True := trivial
        refine norm_ (a' := ?_) ?_ ?_
        rotate_left
        · simp only [putAll, Act.put, List.setIfInBounds_toArray, List.set_cons_zero, List.set_cons_succ]
          rfl
        refine one_ (i := 9) (N := some 46) #[true, true, true, true, true, true, true, true, true, true, false] rfl rfl (by kernel_rfl) (by decide) (fun K hK => ?_)
        refine goes_ Tryd.func55 (by kernel_rfl) rfl #[.slice (some ⟨ba, 0, none⟩) (a.size - p) ca, .slice (some ⟨bb, 0, none⟩) (b.size - p) cb, .func (.func 53) #[] #[]] (by rfl) rfl rfl (by simp only [List.map_toArray, List.map_cons, List.map_nil]; rfl) ?_
        with_reducible refine (HQ.out _ _ _ _ w5 HCA.out HCB.out).mono ?_
        rintro e w6 ⟨rfl, hw6⟩
        refine ⟨_, rfl, ?_⟩
        have HB6 := Aside0.mk (show Below w.heap.size w w6 from (by obtain ⟨nd, rfl⟩ := hw6; exact pw_below_drewN HB5.out nd))
        clear hw6
        refine hK.out _ _ trivial (fun hHeld => ?_)
        clear hK K
        refine norm_ (a' := ?_) ?_ ?_
        rotate_left
        · show Act.put _ (some 46) _ = _
          simp only [Act.put, List.setIfInBounds_toArray, List.set_cons_zero, List.set_cons_succ, i64_w, i32_w]
          rfl
        refine pure_ (i := 10) (N := some 12) (v := ?_) (a' := ?_) #[true, true, true, true, true, true, true, true, true, true, true] rfl rfl (by kernel_rfl) (fun _ _ _ h => h) (Or.inl ⟨by rfl, ?_⟩) ?_ ?_
        rotate_left
        · intro w'
          go_simp
          with_reducible rfl
        rotate_left
        · simp only [Act.put, List.setIfInBounds_toArray, List.set_cons_zero, List.set_cons_succ, i64_w, i32_w]
          rfl
        refine done_ (by kernel_rfl) ?_
        have hS := HS.out
        rw [show ((a.size - q : Nat) : Int) = (a.size : Int) - (q : Int) by omega] at hS
        have HS2 := Aside0.mk hS
        have u3 : (p : Int) ≤ (b.size : Int) - (q : Int) := by omega
        have u4 : (b.size : Int) - (q : Int) ≤ (b.size : Int) := by omega
        have u5 : 0 ≤ (b.size : Int) - (q : Int) := by omega
        clear hS
        go_wp2
        go_ret2
        rw [HS2.out]
        exact ⟨_, rfl, R_one w6 w.heap.size ⟨(p : Int), (a.size : Int) - (q : Int), b.extract p (b.size - q)⟩ HB6.out.size, HB6.out.alloc HB6.out.size _⟩
    · rw [if_pos e1, if_neg e2]
      have c1 : ((chkT b).2 == 0) = false := beq_false_of_ne e2
      have c2 : ((chkT b).2 != 0) = true := bne_iff_ne.2 e2
      generalize chkT a = ka at *
      generalize chkT b = kb at *
      obtain ⟨ka0, ka1⟩ := ka
      obtain ⟨kb0, kb1⟩ := kb
      simp only at e1 e2 hca hcb c1 c2
      subst e1
      clear e2
      go_enter Tryd.func23, Tryd.ntmps23
      (go_wp2; refine wp_loop_rounds 3 ?_; rw [rounds_succ]; go_wp2_with (go_at_call 42; refine (hca.out _).mono ?_; rintro e w1 ⟨rfl, hb1⟩; have HB1 := Aside0.mk hb1; clear hb1))
      rw [rounds_succ]
      go_wp2_with (go_at_call 42; refine (hcb.out _).mono ?_; rintro e w2 ⟨rfl, hb2⟩; have HB2 := Aside0.mk (HB1.out.trans (hb2.mono HB1.out.size)); clear hb2)
      go_ret2
      exact ⟨_, rfl, Kd.R_nil _ _ _ _ _, HB2.out⟩
  · rw [if_neg e1]
    have c1 : ((chkT a).2 == 0) = false := beq_false_of_ne e1
    have c2 : ((chkT a).2 != 0) = true := bne_iff_ne.2 e1
    generalize chkT a = ka at *
    obtain ⟨ka0, ka1⟩ := ka
    simp only at e1 hca c1 c2
    clear e1
    go_enter Tryd.func23, Tryd.ntmps23
    (go_wp2; refine wp_loop_rounds 3 ?_; rw [rounds_succ]; go_wp2_with (go_at_call 42; refine (hca.out _).mono ?_; rintro e w1 ⟨rfl, hb1⟩; have HB1 := Aside0.mk hb1; clear hb1))
    go_ret2
    exact ⟨_, rfl, Kd.R_nil _ _ _ _ _, HB1.out⟩
end Go.Proofs.YtggfcmondffodaaDoor.P
namespace Go.Proofs.YtggfcmondffodaaDoor.P
open Go.RowKit Go.Proofs.YtggfcmondffodaaDoorW.PrintWords
set_option linter.unusedVariables false
set_option linter.unusedSimpArgs false
end Go.Proofs.YtggfcmondffodaaDoor.P
namespace Go.Proofs.YtggfcmondffodaaDoor.P
open Go.RowKit Go.Shelf Go.Maps Go.Proofs.YtggfcmondffodaaDoorW.PrintWords Go.Proofs.YtggfcmondffodaaDoorW.PrintLast Go.Proofs.YtggfcmondffodaaDoorW.PrintMore
set_option linter.unusedVariables false
set_option linter.unusedSimpArgs false
theorem difS_len (a b : ByteArray) : (difS a b).length = (difS b a).length := by
  unfold difS
  by_cases c : a = b
  · rw [if_pos c, if_pos c.symm]
  · rw [if_neg c, if_neg fun e => c e.symm, List.length_singleton, List.length_singleton]
set_option maxRecDepth 8000 in
set_option maxHeartbeats 8000000 in
theorem lexDifference_any (a b : ByteArray) (w : World) (hg : Gl w) : Calls Tryd.prog 13 #[.string a, .string b] w fun e w' => e = .returned (.bool true) ∧ Below w.heap.size w w' := by
  have HG := Aside0.mk hg
  by_cases hs : 3000 < a.size ∨ 3000 < b.size
  · have hA := awake_any w hg
    clear hg
    have main : ∀ b1 b2 : Bool, decide (3000 < a.size) = b1 → decide ((3000 : Int) < (a.size : Int)) = b1 → decide (3000 < b.size) = b2 → decide ((3000 : Int) < (b.size : Int)) = b2 → (b1 || b2) = true → Calls Tryd.prog 13 #[.string a, .string b] w fun e w' => e = .returned (.bool true) ∧ Below w.heap.size w w' := by
      intro b1 b2 g1 g2 g3 g4 hb
      clear hs
      cases b1 <;> cases b2 <;> first
      | (exact absurd hb (by decide))
      | (clear hb
         go_enter Tryd.func13, Tryd.ntmps13
         go_wp2_with (go_at_call 15; refine hA.mono ?_; rintro e w1 ⟨rfl, hb1⟩)
         go_ret
         exact ⟨rfl, hb1⟩)
    refine main _ _ rfl (decide_eq_decide.2 (by omega)) rfl (decide_eq_decide.2 (by omega)) ?_
    rcases hs with h | h <;> simp [h]
  · have hs1 : ¬ 3000 < a.size := fun h => hs (.inl h)
    have hs2 : ¬ 3000 < b.size := fun h => hs (.inr h)
    have g1 : decide (3000 < a.size) = false := decide_eq_false hs1
    have g2 : decide ((3000 : Int) < (a.size : Int)) = false := decide_eq_false (by omega)
    have g3 : decide (3000 < b.size) = false := decide_eq_false hs2
    have g4 : decide ((3000 : Int) < (b.size : Int)) = false := decide_eq_false (by omega)
    have hD := Diff_any a b w (by omega) (by omega)
    have hA := Aside0.mk (fun (W : World) (h : Gl W) => awake_any W h)
    by_cases h0 : (difM a b).2 = 0
    · have hab : (chkT a).2 = 0 ∧ (chkT b).2 = 0 := by
        unfold difM at h0
        by_cases e1 : (chkT a).2 = 0
        · rw [if_pos e1] at h0
          by_cases e2 : (chkT b).2 = 0
          · exact ⟨e1, e2⟩
          · rw [if_neg e2] at h0; exact absurd h0 e2
        · rw [if_neg e1] at h0; exact absurd h0 e1
      have e1 : difM a b = (difS a b, 0) := by unfold difM; rw [if_pos hab.1, if_pos hab.2]
      have e2 : difM b a = (difS b a, 0) := by unfold difM; rw [if_pos hab.2, if_pos hab.1]
      have e3 : appM a (difS a b) = (b, 0) := by unfold appM; rw [if_pos (dif_ord hab.1 hab.2), dif_spl]
      have e4 : unM a (difS a b) = (difS b a, 0) := by unfold unM; rw [if_pos (dif_ord hab.1 hab.2), dif_un]
      have hDb := Aside0.mk (fun W => Diff_any b a W (by omega) (by omega))
      have hl := difS_length a b
      have hx := difS_size (a := a) (b := b) (by omega)
      have hlen := difS_len a b
      have hAp := Aside0.mk (fun (B : Option Addr) (k : Nat) (W : World) (h : Kd.C k48 W B (difS a b).length (difS a b)) (hk : (difS a b).length ≤ k) => Apply_any a B k (difS a b) W h hk (by omega) (by omega) hx)
      have hUn := Aside0.mk (fun (B : Option Addr) (k : Nat) (W : World) (h : Kd.C k48 W B (difS a b).length (difS a b)) (hk : (difS a b).length ≤ k) => lex_Undo.calls (fuS (difS a b)) a B k (difS a b) (difS b a) 0 W h hk (by rw [pUndo a (difS a b) (by omega) (by omega) hx, e4]))
      rw [e1] at hD
      rw [e2] at hDb
      rw [e3] at hAp
      have hm : (difS b a).length ≤ 1 := by omega
      have n1 : (((difS b a).length : Int) != ((difS b a).length : Int)) = false := bne_self_eq_false _
      have n2 : (((difS a b).length : Int) != ((difS b a).length : Int)) = false := by rw [hlen]; exact bne_self_eq_false _
      have n3 : ((difS a b).length != (difS b a).length) = false := by rw [hlen]; exact bne_self_eq_false _
      have n4 : ((difS b a).length != (difS b a).length) = false := bne_self_eq_false _
      have n5 : (b.toList != b.toList) = false := bne_self_eq_false _
      clear hlen e1 e2 e3 e4 h0 hab hx hg hs
      generalize difS a b = l at *
      generalize difS b a = m at *
      simp only at hD hAp
      go_enter Tryd.func13, Tryd.ntmps13
      go_wp2_with (first | (go_at_call 23; with_reducible refine hD.mono ?_; rintro e' w1 ⟨v1, rfl, ho1, hb1⟩; have HB1 := Aside0.mk hb1; have HO1 := Aside0.mk ho1; obtain ⟨B1, K1, rfl⟩ := Kd.R_slice ho1; clear ho1 hb1) | ((with_reducible refine gate_builtin (b := .append) (xs := #[.const (.slice none 0 0), .tmp 34]) rfl ?_); at_builtin; refine Kd.R_append_rows k48 (w0 := w1) (w1).heap.size rfl (.const (.slice none 0 0)) (.tmp 34) 36 48 (.agg #[(.int .i64 0), (.int .i64 0), (.string ⟨#[]⟩)]) 32 rfl Tryd.underlying36 info48 rfl (by decide) (by omega) (.slice none 0 0) [] l B1 l.length K1 (fun _ => True) (fun _ => False) rfl rfl (Kd.R_nil _ _ _ _ _) (Kd.R_reads' HO1.out).2.2 (fun _ _ h => h) (fun _ h => h.elim) (fun _ _ => trivial) (Below.refl _ _) (Nat.le_refl _) (by simp; omega) ?_; intro v2 w2 ho2 hb2 hg2 hat2; rw [List.nil_append] at ho2; have HO2 := Aside0.mk ho2; have HB2 := Aside0.mk (HB1.out.trans (hb2.mono HB1.out.size)); have HN2 := Aside0.mk hb2; clear ho2 hb2 hg2 hat2; obtain ⟨B2, K2, rfl⟩ := Kd.R_slice HO2.out) | (go_at_call 27; with_reducible refine (hAp.out B2 K2 _ (Kd.R_reads' HO2.out).2.2 (Kd.R_reads' HO2.out).2.1).mono ?_; rintro e w3 ⟨rfl, hb3⟩; have HB3 := Aside0.mk (HB2.out.trans (hb3.mono HB2.out.size)); have HC3 := Aside0.mk (Kd.C_below (Kd.C_below (Kd.R_reads' HO1.out).2.2 HN2.out) hb3); clear hb3) | ((with_reducible refine gate_builtin (b := .append) (xs := #[.const (.slice none 0 0), .tmp 41]) rfl ?_); at_builtin; refine Kd.R_append_rows k48 (w0 := w3) (w3).heap.size rfl (.const (.slice none 0 0)) (.tmp 41) 36 48 (.agg #[(.int .i64 0), (.int .i64 0), (.string ⟨#[]⟩)]) 32 rfl Tryd.underlying36 info48 rfl (by decide) (by omega) (.slice none 0 0) [] l B1 l.length K1 (fun _ => True) (fun _ => False) rfl rfl (Kd.R_nil _ _ _ _ _) HC3.out (fun _ _ h => h) (fun _ h => h.elim) (fun _ _ => trivial) (Below.refl _ _) (Nat.le_refl _) (by simp; omega) ?_; intro v4 w4 ho4 hb4 hg4 hat4; rw [List.nil_append] at ho4; have HO4 := Aside0.mk ho4; have HB4 := Aside0.mk (HB3.out.trans (hb4.mono HB3.out.size)); have HN4 := Aside0.mk hb4; clear ho4 hb4 hg4 hat4; obtain ⟨B4, K4, rfl⟩ := Kd.R_slice HO4.out) | (go_at_call 31; refine (hUn.out B4 K4 _ (Kd.R_reads' HO4.out).2.2 (Kd.R_reads' HO4.out).2.1).mono ?_; rintro e w5 ⟨v5, rfl, ho5, hb5⟩; have HB5 := Aside0.mk (HB4.out.trans (hb5.mono HB4.out.size)); have HO5 := Aside0.mk ho5; obtain ⟨B5, K5, rfl⟩ := Kd.R_slice ho5; clear ho5 hb5) | (go_at_call 23; with_reducible refine (hDb.out _).mono ?_; rintro e' w6 ⟨v6, rfl, ho6, hb6⟩; have HB6 := Aside0.mk (HB5.out.trans (hb6.mono HB5.out.size)); have HC6 := Aside0.mk (Kd.C_below (Kd.R_reads' HO5.out).2.2 hb6); have HO6 := Aside0.mk ho6; obtain ⟨B6, K6, rfl⟩ := Kd.R_slice ho6; clear ho6 hb6))
      have HL5 := Aside0.mk HC6.out
      have HL6 := Aside0.mk (Kd.R_reads' HO6.out).2.2
      clear hAp hUn hD hDb
      go_loopg [13] m.length (fun gg s13 wr => ∃ (i nd : Nat), s13 = .int .i64 i ∧ i ≤ m.length ∧ m.length - i ≤ gg ∧ wr = w6.drewN nd)
      case atStart => exact ⟨0, 0, rfl, Nat.zero_le _, by omega, rfl⟩
      case round =>
        obtain ⟨i, nd, rfl, hi, hgk, rfl⟩ := hrel
        by_cases hlt : i < m.length
        · have hltz : (i : Int) < (m.length : Int) := by omega
          have hi0 : (0 : Int) ≤ (i : Int) := by omega
          obtain ⟨ad, rfl, x0, x1, x2⟩ := at_T48 HL5.out (i : Int) hi0 hltz
          obtain ⟨bd, rfl, y0, y1, y2⟩ := at_T48 HL6.out (i : Int) hi0 hltz
          rw [Int.toNat_natCast] at x0 x1 x2 y0 y1 y2
          generalize rd_T48 m (i : Int) = y at *
          go_wp2
          go_quiet (fail)
          go_wp2
          go_roundg (m.length - (i + 1))
          case measure => omega
          case rel => exact ⟨i + 1, nd + nq, by go_num, by omega, by omega, rfl⟩
        · have hlt2 : decide ((i : Int) < (m.length : Int)) = false := decide_eq_false (by omega)
          have hlt3 : decide (i < m.length) = false := decide_eq_false hlt
          have HB7 := Aside0.mk (pw_below_drewN HB6.out nd)
          go_wp2_with (go_at_call 15; refine (hA.out _ (HG.out.mono HB7.out)).mono ?_; rintro e' w8 ⟨rfl, hb8⟩; have HB8 := Aside0.mk (HB7.out.trans (hb8.mono HB7.out.size)); clear hb8)
          go_ret
          exact ⟨rfl, HB8.out⟩
    · have k1 : ((difM a b).2 == 0) = false := beq_false_of_ne h0
      have k2 : ((difM a b).2 != 0) = true := bne_iff_ne.2 h0
      generalize difM a b = U at *
      obtain ⟨l, e0⟩ := U
      simp only at hD k1 k2
      clear hg hs h0
      go_enter Tryd.func13, Tryd.ntmps13
      go_wp2_with (first | (go_at_call 23; with_reducible refine hD.mono ?_; rintro e' w1 ⟨v1, rfl, ho1, hb1⟩; have HB1 := Aside0.mk hb1; clear ho1 hb1) | (go_at_call 15; refine (hA.out _ (HG.out.mono HB1.out)).mono ?_; rintro e' w4 ⟨rfl, hb4⟩; have HB4 := Aside0.mk (HB1.out.trans (hb4.mono HB1.out.size)); clear hb4))
      go_ret
      exact ⟨rfl, HB4.out⟩
end Go.Proofs.YtggfcmondffodaaDoor.P
namespace Go.Proofs.YtggfcmondffodaaDoor.P
open Go.RowKit
set_option linter.unusedVariables false
/-- The four listed variables, as each row lists them. -/
def laidL : List (String × DataW Unit) := [("unicode/utf8.acceptRanges", Rows.laid_unicode_utf8_acceptRanges), ("unicode.White_Space", Rows.laid_unicode_White_Space), ("strings.asciiSpace", Rows.laid_strings_asciiSpace), ("unicode/utf8.first", Rows.laid_unicode_utf8_first)]
def aspT : List Int := (List.range 256).map fun (i : Nat) => if aspB (i : Int) = true then 1 else 0
theorem aspT_len : aspT.length = 256 := by simp [aspT]
theorem aspT_at (c : Nat) (h : c < 256) : aspT.getD c 0 = if aspB (c : Int) = true then 1 else 0 := by
  unfold aspT
  rw [List.getD_eq_getElem?_getD, List.getElem?_map, List.getElem?_range h]
  rfl
theorem asp_data : (Rows.laid_strings_asciiSpace : DataW Unit) = Lib.tabData .u8 aspT := by kernel_rfl
theorem gl_of_laid {W : World} (h : laidMetH Tryd.prog laidL W) : Gl W := by
  rw [MakeChecks.laidMetH_plain _ _ _ (by kernel_rfl)] at h
  obtain ⟨ps, ⟨g0, t0, cs0, f0, p0, q0, hg0, ht0, hv0, hd0, ⟨g1, t1, cs1, f1, p1, q1, hg1, ht1, hv1, hd1, ⟨g2, t2, cs2, f2, p2, q2, hg2, ht2, hv2, hd2, _, _⟩, _⟩, _⟩, _, _⟩ := h
  obtain rfl := Option.some.inj ((show Tryd.prog.globalNamed "strings.asciiSpace" = some 0 by kernel_rfl).symm.trans hg2)
  obtain rfl := Option.some.inj ((show (Tryd.prog.globals[0]?).map (·.type) = some 121 by kernel_rfl).symm.trans ht2)
  rw [asp_data] at hd2
  have hcs := Lib.cells_of_tab Tryd.underlying121 Tryd.underlying5 (by kernel_rfl) (by kernel_rfl) hd2
  intro c hc
  rw [World.var?_cell hg2 hv2 c]
  have h1 : cs2[c]? = some (.int .u8 (aspT.getD c 0)) := by
    have : cs2.toList[c]? = some (.int .u8 (aspT.getD c 0)) := by
      rw [hcs, List.getElem?_map, List.getElem?_eq_getElem (by rw [aspT_len]; exact hc)]
      simp [List.getD, List.getElem?_eq_getElem (show c < aspT.length by rw [aspT_len]; exact hc)]
    simpa using this
  rw [h1, aspT_at c hc]
end Go.Proofs.YtggfcmondffodaaDoor.P
