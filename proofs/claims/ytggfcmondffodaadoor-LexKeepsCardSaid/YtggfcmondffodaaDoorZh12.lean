/- What the claim's law needs, many texts in one (Xq Yc Yj Yo Yp Yq Xz). No conditions of its own. -/
import Derived.Test.YtggfcmondffodaaDoorZh11
import Derived.Test.YtggfcmondffodaaDoorZh10
import Derived.Deep.Slices
import Derived.Lib.SmallJoins
import Derived.OpenShut
import Derived.ChangeOld
import Derived.WideShapes
import Derived.ProofKit
import Derived.SizedLaws
import Derived.LoopN
import Derived.Deep.Cut
import Derived.Deep.QuietTactic
import Derived.BigQuiet
import Derived.Test.YtggfcmondffodaaDoorRows
import Derived.Test.YtggfcmondffodaaDoorZh4
import Derived.LaidMore
import Derived.Lay
import Derived.Lib.LaidTab
import Derived.Stop.Joined
set_option linter.unusedVariables false
set_option linter.unusedSimpArgs false
namespace Go.Proofs.YtggfcmondffodaaDoor.P
open Go.RowKit Go.Shelf Go.Maps Go.Proofs.YtggfcmondffodaaDoorW.PrintWords Go.Proofs.YtggfcmondffodaaDoorW.PrintLast Go.Proofs.YtggfcmondffodaaDoorW.PrintMore
set_option linter.unusedVariables false
set_option linter.unusedSimpArgs false
set_option maxHeartbeats 2000000 in
theorem Apply_ok (s : ByteArray) (A : Option Addr) (c : Nat) (l : List Sp) (k : Nat) (w : World) (hr : Kd.C k48 w A l.length l) (hc : l.length ≤ c) (hs : s.size ≤ 1000000000) (hll : l.length ≤ 1000000000) (h : lex_splices.f k s l = some 0) (ho : OrdS s.size l 0) (hb : (splB s l 0).length ≤ 1000000000) :
    Calls Tryd.prog 27 #[.string s, .slice A l.length c] w fun e w' => e = .returned (.tuple #[.string (splM s l), .int .i64 0]) ∧ Below w.heap.size w w' := by
  have h1 := lex_splices.calls k s A c l 0 w hr hc h
  have h2 := fun W (h : Below w.heap.size w W) => spliced_any s A c l W (Kd.C_below hr h) hs hll ho hb
  generalize splM s l = out at *
  clear hr ho hb h
  go_enter Tryd.func27, Tryd.ntmps27
  go_wp2_with (first | (go_at_call 56; refine h1.mono ?_; rintro e w1 ⟨rfl, hb1⟩) | (go_at_call 51; refine (h2 _ hb1).mono ?_; rintro e w2 ⟨rfl, hb2⟩))
  go_ret2
  exact ⟨rfl, hb1.trans (hb2.mono hb1.size)⟩
set_option maxHeartbeats 2000000 in
theorem Apply_bad (s : ByteArray) (A : Option Addr) (c : Nat) (l : List Sp) (k : Nat) (e0 : Int) (w : World) (hr : Kd.C k48 w A l.length l) (hc : l.length ≤ c) (h : lex_splices.f k s l = some e0) (h0 : e0 ≠ 0) :
    Calls Tryd.prog 27 #[.string s, .slice A l.length c] w fun e w' => e = .returned (.tuple #[.string ⟨#[]⟩, .int .i64 e0]) ∧ Below w.heap.size w w' := by
  have h1 := lex_splices.calls k s A c l e0 w hr hc h
  have hb1 : (e0 == 0) = false := beq_false_of_ne h0
  have hb2 : (e0 != 0) = true := bne_iff_ne.2 h0
  clear hr h
  go_enter Tryd.func27, Tryd.ntmps27
  go_wp2_with (go_at_call 56; refine h1.mono ?_; rintro e w1 ⟨rfl, hb1⟩)
  go_ret2
  exact ⟨rfl, hb1⟩
/-! ### The document's examples -/
def eT1 : ByteArray := ⟨#[120, 58, 61, 49, 32, 126, 97]⟩
def eT2 : ByteArray := ⟨#[120, 32, 126, 97]⟩
def eT3 : ByteArray := ⟨#[97, 98, 99]⟩
def eT4 : ByteArray := ⟨#[120, 32, 43, 32, 120, 115]⟩
def eL1 : List Tk := [⟨1, ⟨#[120]⟩, 0⟩, ⟨4, ⟨#[58, 61]⟩, 1⟩, ⟨2, ⟨#[49]⟩, 3⟩]
def eL2 : List Tk := [⟨5, ⟨#[97]⟩, 2⟩]
def eS : List Sp := [⟨1, 2, ⟨#[120, 121]⟩⟩]
theorem ex1 : toksM kwM eT1 = (eL1, 0, 0) := by kernel_rfl
theorem ex2 : notesM eT2 = (eL2, 0) := by kernel_rfl
theorem ex3 : lex_splices.f 60 eT3 eS = some 0 := by kernel_rfl
theorem ex4 : splM eT3 eS = ⟨#[97, 120, 121, 99]⟩ := by kernel_rfl
theorem ex5 : renM eT4 ⟨#[120]⟩ ⟨#[121]⟩ = (⟨#[121, 32, 43, 32, 120, 115]⟩, 0) := by kernel_rfl
set_option maxRecDepth 8000 in
set_option maxHeartbeats 8000000 in
theorem awake_any (w : World) (hg : Gl w) : Calls Tryd.prog 15 #[] w fun e w' => e = .returned (.bool true) ∧ Below w.heap.size w w' := by
  have HG := Aside0.mk hg
  have hT := Tokens_any eT1 w hg (by decide)
  rw [ex1] at hT
  have hN := Aside0.mk (fun W => Notes_any eT2 W (by decide))
  rw [ex2] at hN
  have hA := Aside0.mk (fun (A : Option Addr) (c : Nat) (W : World) (h : Kd.C k48 W A eS.length eS) (hc : eS.length ≤ c) => Apply_ok eT3 A c eS 60 W h hc (by decide) (by decide) ex3 (by unfold eS OrdS OrdS; decide) (by rw [show splB eT3 eS 0 = (splM eT3 eS).data.toList from rfl, ex4]; decide))
  rw [ex4] at hA
  have hR := Aside0.mk (fun (W : World) (h : Gl W) => Rename_any eT4 ⟨#[120]⟩ ⟨#[121]⟩ W h (by decide) (by decide) (by decide))
  rw [ex5] at hR
  have hS1 := Aside0.mk (fun (A0 A1 : Option Addr) (c0 c1 : Nat) (W : World) (h0 : Kd.C k35 W A0 eL1.length eL1) (hc0 : eL1.length ≤ c0) (h1 : Kd.C k35 W A1 eL1.length eL1) (hc1 : eL1.length ≤ c1) => riposteref01_SameTokens.calls 20 A0 c0 eL1 A1 c1 eL1 true W h0 hc0 h1 hc1 (rSame eL1 (by decide) 20 (by decide)))
  have hS2 := Aside0.mk (fun (A0 A1 : Option Addr) (c0 c1 : Nat) (W : World) (h0 : Kd.C k35 W A0 eL2.length eL2) (hc0 : eL2.length ≤ c0) (h1 : Kd.C k35 W A1 eL2.length eL2) (hc1 : eL2.length ≤ c1) => riposteref01_SameTokens.calls 20 A0 c0 eL2 A1 c1 eL2 true W h0 hc0 h1 hc1 (rSame eL2 (by decide) 20 (by decide)))
  clear hg
  go_enter Tryd.func15, Tryd.ntmps15
  go_wp2_with (first | (go_at_call 16; refine hT.mono ?_; rintro e w1 ⟨tv, rfl, hrt, hb1'⟩; have HB1 := Aside0.mk hb1'; have HT1 := Aside0.mk hrt; obtain ⟨TA, TC, rfl⟩ := Kd.R_slice hrt; clear hrt hb1') | (go_at_call 18; refine (hN.out _).mono ?_; rintro e w2 ⟨nv, rfl, hrn, hb2'⟩; have HB2 := Aside0.mk (HB1.out.trans (hb2'.mono HB1.out.size)); have HT2 := Aside0.mk (Kd.C_below (Kd.R_reads' HT1.out).2.2 hb2'); have HN2 := Aside0.mk hrn; obtain ⟨NA, NC, rfl⟩ := Kd.R_slice hrn; clear hrn hb2') | ((with_reducible refine gate_dst (N := 21) rfl ?_); refine Kd.R_lit k48 _ 48 ?hg (N := 21) ?hd (xs := eS) (inner := [.int .i64 1, .int .i64 2, .string ⟨#[120, 121]⟩]) (ok := fun _ => True) (okp := fun _ => True) ?hr ?hp (fun _ hk => hk) trivial (Below.refl _ _) (Nat.le_refl _) (by decide) ?_; (case hd => rfl); (case hg => rfl); (case hr => first | (go_simp; done) | (go_simp; rfl)); (case hp => exact (Reps.c3 (k48_mkM _ _ _ _) (Reps.none _ _))); intro v3 w3 ho3 hb3 hg_ hnew_; clear hg_ hnew_; have HB3 := Aside0.mk (HB2.out.trans (hb3.mono HB2.out.size)); have HT3 := Aside0.mk (Kd.C_below HT2.out hb3); have HN3 := Aside0.mk (Kd.C_below (Kd.R_reads' HN2.out).2.2 hb3); have HO3 := Aside0.mk ho3; obtain ⟨SA, SC, rfl⟩ := Kd.R_slice ho3; clear ho3 hb3) | (go_at_call 27; refine (hA.out SA SC _ (Kd.R_reads' HO3.out).2.2 (Kd.R_reads' HO3.out).2.1).mono ?_; rintro e w4 ⟨rfl, hb4⟩; have HB4 := Aside0.mk (HB3.out.trans (hb4.mono HB3.out.size)); have HT4 := Aside0.mk (Kd.C_below HT3.out hb4); have HN4 := Aside0.mk (Kd.C_below HN3.out hb4); clear hb4) | (go_at_call 21; refine (hR.out _ (HG.out.mono HB4.out)).mono ?_; rintro e w5 ⟨rfl, hb5⟩; have HB5 := Aside0.mk (HB4.out.trans (hb5.mono HB4.out.size)); have HT5 := Aside0.mk (Kd.C_below HT4.out hb5); have HN5 := Aside0.mk (Kd.C_below HN4.out hb5); clear hb5) | ((with_reducible refine gate_dst (N := 36) rfl ?_); (try (refine gate_guard (by rfl) ?_; dsimp only)); refine Kd.R_lit k35 _ 35 ?hg (N := 36) ?hd (xs := eL1) (inner := [.int .u8 1, .string ⟨#[120]⟩, .int .i64 0, .int .u8 4, .string ⟨#[58, 61]⟩, .int .i64 1, .int .u8 2, .string ⟨#[49]⟩, .int .i64 3]) (ok := fun _ => True) (okp := fun _ => True) ?hr ?hp (fun _ hk => hk) trivial (Below.refl _ _) (Nat.le_refl _) (by decide) ?_; (case hd => rfl); (case hg => rfl); (case hr => first | (go_simp; done) | (go_simp; rfl)); (case hp => exact (Reps.c3 (k35_mkM _ _ _ _) (Reps.c3 (k35_mkM _ _ _ _) (Reps.c3 (k35_mkM _ _ _ _) (Reps.none _ _))))); intro v6 w6 ho6 hb6 hg_ hnew_; clear hg_ hnew_; have HB6 := Aside0.mk (HB5.out.trans (hb6.mono HB5.out.size)); have HT6 := Aside0.mk (Kd.C_below HT5.out hb6); have HN6 := Aside0.mk (Kd.C_below HN5.out hb6); have HO6 := Aside0.mk ho6; obtain ⟨LA, LC, rfl⟩ := Kd.R_slice ho6; clear ho6 hb6) | (go_at_call 20; (with_reducible refine (hS1.out TA LA TC LC _ HT6.out (Kd.R_reads' HT1.out).2.1 (Kd.R_reads' HO6.out).2.2 (Kd.R_reads' HO6.out).2.1).mono ?_); rintro e w' ⟨rfl, ⟨nd7, rfl⟩⟩; have HB7 := Aside0.mk (pw_below_drewN HB6.out nd7); have HN7 := Aside0.mk (Kd.C_drewN HN6.out nd7)) | ((with_reducible refine gate_dst (N := 46) rfl ?_); (try (refine gate_guard (by rfl) ?_; dsimp only)); refine Kd.R_lit k35 _ 35 ?hg (N := 46) ?hd (xs := eL2) (inner := [.int .u8 5, .string ⟨#[97]⟩, .int .i64 2]) (ok := fun _ => True) (okp := fun _ => True) ?hr ?hp (fun _ hk => hk) trivial (Below.refl _ _) (Nat.le_refl _) (by decide) ?_; (case hd => rfl); (case hg => rfl); (case hr => first | (go_simp; done) | (go_simp; rfl)); (case hp => exact (Reps.c3 (k35_mkM _ _ _ _) (Reps.none _ _))); intro v8 w8 ho8 hb8 hg_ hnew_; clear hg_ hnew_; have HB8 := Aside0.mk (HB7.out.trans (hb8.mono HB7.out.size)); have HN8 := Aside0.mk (Kd.C_below HN7.out hb8); have HO8 := Aside0.mk ho8; obtain ⟨MA, MC, rfl⟩ := Kd.R_slice ho8; clear ho8 hb8) | (go_at_call 20; refine (hS2.out NA MA NC MC _ HN8.out (Kd.R_reads' HN2.out).2.1 (Kd.R_reads' HO8.out).2.2 (Kd.R_reads' HO8.out).2.1).mono ?_; rintro e w' ⟨rfl, ⟨nd9, rfl⟩⟩; have HB9 := Aside0.mk (pw_below_drewN HB8.out nd9)))
  go_ret
  exact ⟨rfl, HB9.out⟩
end Go.Proofs.YtggfcmondffodaaDoor.P
namespace Go.Proofs.YtggfcmondffodaaDoor.P
open Go Go.RowKit Go.Shelf Go.Maps Go.ChangeShapes Go.WideShapes Go.Proofs.YtggfcmondffodaaDoorW.PrintWords Go.Proofs.YtggfcmondffodaaDoorW.PrintLast Go.Proofs.YtggfcmondffodaaDoorW.PrintMore
set_option linter.unusedVariables false
set_option linter.unusedSimpArgs false
theorem Apply_any (s : ByteArray) (A : Option Addr) (c : Nat) (l : List Sp) (w : World) (hr : Kd.C k48 w A l.length l) (hc : l.length ≤ c) (hs : s.size ≤ 3000) (hl : l.length ≤ 1000) (hx : ∀ x ∈ l, x.f2.size ≤ 3000) :
    Calls Tryd.prog 27 #[.string s, .slice A l.length c] w fun e w' => e = .returned (.tuple #[.string (appM s l).1, .int .i64 (appM s l).2]) ∧ Below w.heap.size w w' := by
  have h := pSplices s l hs hl hx
  unfold appM
  by_cases c0 : splE s l = 0
  · rw [if_pos c0]
    obtain ⟨h1, h2, h3, h4⟩ := splE_ord c0
    have hb := splB_len s 3000 l 0 hx h3
    exact Apply_ok s A c l _ w hr hc (by omega) (by omega) (by rw [h, c0]) h3 (by omega)
  · rw [if_neg c0]
    exact Apply_bad s A c l _ _ w hr hc h c0
set_option maxRecDepth 100000
section
variable {H : Type} {enc : TypeId × Value → H} {W : World} {base : Nat} {sp : Nat → Bool} {held : Bool} {fuel : Nat} {cs : List Value} {x : DataW H × List MemPlace}
theorem cells_i : Tryd.prog.cellsOf 3 = 1 := by kernel_rfl
theorem cells_s : Tryd.prog.cellsOf 9 = 1 := by kernel_rfl
theorem cells_k : Tryd.prog.cellsOf 5 = 1 := by kernel_rfl
theorem cells_S : Tryd.prog.cellsOf 48 = 3 := by kernel_rfl
theorem opens_cs_splice (h : DataW.trod enc Tryd.prog W base sp held fuel 48 cs = some x) (hw : ∀ n ∈ x.1.weights Tryd.prog 48, n ≤ reachBytes) : ∃ a : Sp, cs = [.int .i64 a.f0, .int .i64 a.f1, .string a.f2] ∧ a.f2.size ≤ 140737488351232 := by
  obtain ⟨y0, y1, y2, n, e, hl, h0, h1, h2⟩ := Go.Deep.trod_struct3 Tryd.underlying48 h
  rw [cells_S] at hl
  match cs, hl with
  | [a, b, c], _ =>
    simp only [cells_i, cells_s, cells_k, List.drop_zero, List.drop_succ_cons, List.take_succ_cons, List.take_zero] at h0 h1 h2
    have ha : DataW.trod enc Tryd.prog W base sp held n 3 [a] = some y0 := h0
    have hb : DataW.trod enc Tryd.prog W base sp held n 3 [b] = some y1 := h1
    have hc : DataW.trod enc Tryd.prog W base sp held n 9 [c] = some y2 := h2
    obtain ⟨b0, e0, _⟩ := DataW.trod_int Tryd.underlying3 ha
    obtain ⟨b1, e1, _⟩ := DataW.trod_int Tryd.underlying3 hb
    obtain ⟨b2, e2, e3, _⟩ := DataW.trod_string Tryd.underlying9 hc
    cases e0
    cases e1
    cases e2
    subst e3
    subst e
    refine ⟨⟨b0, b1, b2⟩, rfl, ?_⟩
    have := hw b2.data.toList.length (by simp [DataW.weights, DataW.weightsEach, Tryd.underlying48])
    rw [data_length] at this
    exact this
/-- A splice that reads as data. -/
theorem opens_splice {r : Reach} {b0 : Nat} {v : Value} {d : DataW H} {p : List MemPlace} (hv : Value.okWide Tryd.prog W r b0 48 v) (h : DataW.Trod enc Tryd.prog W base sp held 48 v d p) (hw : ∀ n ∈ d.weights Tryd.prog 48, n ≤ reachBytes) :
    ∃ x : Sp, v = .agg #[.int .i64 x.f0, .int .i64 x.f1, .string x.f2] ∧ x.f2.size ≤ 140737488351232 := by
  obtain ⟨cs, rfl, hsz⟩ := okWide_struct Tryd.underlying48 hv
  obtain ⟨fuel, hf⟩ := h
  obtain ⟨m, hm, hq⟩ := opens_cs_splice hf hw
  have e : (Value.agg cs).cells.toList = cs.toList := rfl
  rw [e] at hm
  obtain ⟨l⟩ := cs
  have h1 : l = [.int .i64 m.f0, .int .i64 m.f1, .string m.f2] := hm
  subst h1
  exact ⟨m, rfl, hq⟩
end
end Go.Proofs.YtggfcmondffodaaDoor.P
namespace Go.Proofs.YtggfcmondffodaaDoor.P
open Go.RowKit Go.Shelf Go.Maps Go.Proofs.YtggfcmondffodaaDoorW.PrintWords Go.Proofs.YtggfcmondffodaaDoorW.PrintLast Go.Proofs.YtggfcmondffodaaDoorW.PrintMore
set_option linter.unusedVariables false
set_option linter.unusedSimpArgs false
/-- A literal of one splice. -/
theorem R_one (W : World) (base : Nat) (x : Sp) (hb : base ≤ W.heap.size) : Kd.R k48 48 (W.alloc (.cells #[.int .i64 x.f0, .int .i64 x.f1, .string x.f2] 48)) base (fun _ => True) (.slice (some ⟨W.heap.size, 0, none⟩) 1 1) [x] := by
  have hrep : Reps (k48.M W base (fun _ => False)) k48.sz [x] [.int .i64 x.f0, .int .i64 x.f1, .string x.f2] := Reps.c3 (k48_mkM _ _ _ _) (Reps.none _ _)
  refine ⟨fun _ _ => trivial, [.int .i64 x.f0, .int .i64 x.f1, .string x.f2], ?_, ?_⟩
  · have h2 := World.ownsRow_lit (base := base) (e := 48) (size := k48.sz) W #[.int .i64 x.f0, .int .i64 x.f1, .string x.f2] 1 hb (by decide) rfl
    simpa using h2
  · exact hrep.imp_ (fun p c hp => k48.M_mono (fun k hk => hk.elim) (Kd.M_below hp (below_alloc (Below.refl _ _) _)))
theorem C_one (W : World) (x : Sp) : Kd.C k48 (W.alloc (.cells #[.int .i64 x.f0, .int .i64 x.f1, .string x.f2] 48)) (some ⟨W.heap.size, 0, none⟩) 1 [x] :=
  (Kd.R_reads' (R_one W W.heap.size x (Nat.le_refl _))).2.2
theorem toks_rng {s : ByteArray} (h : (toksM kwM s).2.2 = 0) : ∀ t ∈ (toksM kwM s).1, 0 ≤ t.f2 ∧ t.f2 ≤ 3000 := by
  obtain ⟨h1, h2, h3⟩ := (toks_iff s _).1 ⟨rfl, h⟩
  intro t ht
  obtain ⟨n, h4, h5, h6, -⟩ := h2.mem t ht
  have := (chk_iff s).1 h1
  omega
theorem rdT_drop (l : List Tk) (p j : Nat) : rd_T35 (l.drop p) (j : Int) = rd_T35 l ((p + j : Nat) : Int) := by
  unfold rd_T35
  rw [List.getD_eq_getElem?_getD, List.getD_eq_getElem?_getD, Int.toNat_natCast, Int.toNat_natCast, List.getElem?_drop]
theorem tlK_drop (a b : List Tk) (h : Nat) (d : Int) (ha : h ≤ a.length) (hb : h ≤ b.length) : runF (fun j => eqT d (rd_T35 (a.drop h) (((a.drop h).length - 1 - j : Nat) : Int)) (rd_T35 (b.drop h) (((b.drop h).length - 1 - j : Nat) : Int))) (min (a.drop h).length (b.drop h).length) 0 = tlK a b h d := by
  unfold tlK
  rw [List.length_drop, List.length_drop]
  refine runF_congr _ _ fun j h1 h2 => ?_
  rw [rdT_drop, rdT_drop, show h + (a.length - h - 1 - j) = a.length - 1 - j by omega, show h + (b.length - h - 1 - j) = b.length - 1 - j by omega]
theorem commonH_any (a b : List Tk) (A B : Option Addr) (ca cb : Nat) (bp : Nat) (w : World) (ha : Kd.C k35 w A a.length a) (hb : Kd.C k35 w B b.length b) (hc : w.cell? ⟨bp, 0, none⟩ = some (.int .i64 0)) (hla : a.length ≤ 900) (hlb : b.length ≤ 900) (hd : ∀ x ∈ a, wrap64 (x.f2 + 0) = x.f2 + 0) :
    Calls Tryd.prog 61 #[.slice A a.length ca, .slice B b.length cb, .func (.func 86) #[] #[.pointer (some ⟨bp, 0, none⟩)]] w fun e w' => e = .returned (.int .i64 (hdK a b : Nat)) ∧ Below w.heap.size w w' :=
  commonT_any a b A B ca cb 0 bp w ha hb hc hla hlb hd
theorem cutT (A : Option Addr) (l : List Tk) (c h : Nat) (hc : l.length ≤ c) (hh : h ≤ l.length) : ∃ A' c', (∀ W : World, (Instr.slice 23 (.slice A l.length c) (some (.int .i64 (h : Int))) none none).run Tryd.prog W = .ok (.slice A' (l.length - h) c') W) ∧
    (∀ W, Kd.C k35 W A l.length l → Kd.C k35 W A' (l.length - h) (l.drop h)) := by
  refine ⟨if c = h then A else A.map (·.add (h * 3)), c - h, fun W => ?_, fun W hC => ?_⟩
  · have := cut_from (P := Tryd.prog) 23 35 .i64 (i := (Tryd.prog.info? 35).get!) Tryd.underlying23 (by kernel_rfl) 3 (by kernel_rfl) A l.length c (h : Int) (by omega) (by omega) W
    rw [Int.toNat_natCast] at this
    exact this
  · have := Kd.C_drop hC hh hc
    rw [List.length_drop] at this
    exact this
set_option maxRecDepth 8000 in
set_option maxHeartbeats 8000000 in
theorem Kept_any (s : ByteArray) (x : Sp) (w : World) (hg : Gl w) (hs : s.size ≤ 3000) (hx : x.f2.size ≤ 3000) :
    Calls Tryd.prog 33 #[.string s, .agg #[.int .i64 x.f0, .int .i64 x.f1, .string x.f2]] w fun e w' => e = .returned (.tuple #[.int .i64 (kepM s x).1, .int .i64 (kepM s x).2.1, .int .i64 (kepM s x).2.2]) ∧ Below w.heap.size w w' := by
  have HG := Aside0.mk hg
  have hx3 : ∀ y ∈ [x], y.f2.size ≤ 3000 := fun y hy => by rw [List.mem_singleton.1 hy]; exact hx
  obtain ⟨X, hX⟩ : ∃ X : Obj, X = .cells #[.int .i64 x.f0, .int .i64 x.f1, .string x.f2] 48 := ⟨_, rfl⟩
  have hA0 := Apply_any s (some ⟨(w.alloc X).heap.size, 0, none⟩) 1 [x] ((w.alloc X).alloc X) (by rw [hX]; exact C_one _ x) (Nat.le_refl _) hs (by simp) hx3
  rw [World.size_alloc, List.length_singleton] at hA0
  have hb0 : ∀ W, Below ((w.alloc X).alloc X).heap.size ((w.alloc X).alloc X) W → Below w.heap.size w W ∧ W.heap[w.heap.size]? = some (.cells #[.int .i64 x.f0, .int .i64 x.f1, .string x.f2] 48 (0, 0)) := fun W h => by
    have h1 : Below w.heap.size w ((w.alloc X).alloc X) := ((Below.refl _ w).alloc (Nat.le_refl _) _).alloc (by simp) _
    exact ⟨h1.trans (h.mono h1.size), (h.block _ (by simp; omega)).trans (by rw [hX]; exact blk_alloc (heap_alloc_new w _) _)⟩
  have hAp := Aside0.mk (hA0.mono (fun e W h => And.intro h.1 (hb0 W h.2)))
  clear hA0 hb0
  rw [hX] at hAp
  have hTs := Aside0.mk (fun (W : World) (h : Gl W) => Tokens_any s W h (by omega))
  unfold kepM
  by_cases h0 : splE s [x] = 0
  · have eA : appM s [x] = (splM s [x], 0) := by unfold appM; rw [if_pos h0]
    rw [if_pos h0]
    rw [eA] at hAp
    have hts := (undone s [x] h0 hx3).1
    have hTt := Aside0.mk (fun (W : World) (h : Gl W) => Tokens_any (splM s [x]) W h (by omega))
    by_cases h1 : (toksM kwM s).2.2 = 0
    · rw [if_pos h1]
      by_cases h2 : (toksM kwM (splM s [x])).2.2 = 0
      · rw [if_pos h2]
        obtain ⟨-, la, -⟩ := toks_ord s h1
        obtain ⟨-, lb, -⟩ := toks_ord (splM s [x]) h2
        have hra := toks_rng h1
        have hbd := (splE_bd h0 hx3 x (List.mem_singleton.2 rfl)).1
        have hgr := pGrown hbd
        have hg5 := hbd.gr
        have hle := hdK_le (toksM kwM s).1 (toksM kwM (splM s [x])).1
        rw [h1] at hTs
        rw [h2] at hTt
        clear h0 h1 h2 eA hg hx3 hts hX hbd
        generalize splM s [x] = t at *
        generalize toksM kwM s = ts at *
        generalize toksM kwM t = tt at *
        obtain ⟨a, s1, s2⟩ := ts
        obtain ⟨b, t1, t2⟩ := tt
        simp only at hAp hTs hTt la lb hra hle ⊢
        generalize gr x = g at *
        have hcm := fun A B ca cb bp W ha hb hc => commonH_any a b A B ca cb bp W ha hb hc la lb (fun y hy => by have := hra y hy; rw [w64 (by omega) (by omega)])
        have hen := fun A B ca cb bp W ha hb hc => endingT_any (a.drop (hdK a b)) (b.drop (hdK a b)) A B ca cb g bp W ha hb hc (by rw [List.length_drop]; omega) (by rw [List.length_drop]; omega) (fun y hy => by have := hra y (List.mem_of_mem_drop hy); rw [w64 (by omega) (by omega)])
        rw [tlK_drop a b (hdK a b) g hle.1 hle.2, List.length_drop, List.length_drop] at hen
        have HCM := Aside0.mk hcm
        have HEN := Aside0.mk hen
        have HGR := Aside0.mk (fun W => lex_splice_grown.calls x.f0 x.f1 x.f2 g W hgr)
        clear hcm hen hgr hra
        generalize hh : hdK a b = h at *
        generalize tlK a b h g = q at *
        obtain ⟨hle1, hle2⟩ := hle
        go_enter Tryd.func33, Tryd.ntmps33
        go_wp2_with (first | (go_at_call 27; refine hAp.out.mono ?_; rintro e w1 ⟨rfl, hb1, hk1⟩; have HB1 := Aside0.mk hb1; have HK1 := Aside0.mk hk1; clear hb1 hk1) | (go_at_call 16; with_reducible refine (hTs.out _ (HG.out.mono HB1.out)).mono ?_; rintro e w2 ⟨v2, rfl, ho2, hb2⟩; have HB2 := Aside0.mk (HB1.out.trans (hb2.mono HB1.out.size)); have HK2 := Aside0.mk ((hb2.block _ (blk_lt HK1.out)).trans HK1.out); have HO2 := Aside0.mk ho2; obtain ⟨B2, K2, rfl⟩ := Kd.R_slice ho2; clear hb2 ho2) | (go_at_call 16; with_reducible refine (hTt.out _ (HG.out.mono HB2.out)).mono ?_; rintro e w3 ⟨v3, rfl, ho3, hb3⟩; have HB3 := Aside0.mk (HB2.out.trans (hb3.mono HB2.out.size)); have HK3 := Aside0.mk ((hb3.block _ (blk_lt HK2.out)).trans HK2.out); have HO3 := Aside0.mk ho3; have HC2 := Aside0.mk (Kd.C_below (Kd.R_reads' HO2.out).2.2 hb3); obtain ⟨B3, K3, rfl⟩ := Kd.R_slice ho3; clear hb3 ho3) | (go_at_call 62; refine (later_any 0 _).mono ?_; rintro e w4 ⟨rfl, hw4⟩; have HC4 := Aside0.mk (show w4.cell? ⟨w3.heap.size, 0, none⟩ = some (.int .i64 0) by rw [hw4]; exact (blk_cell (heap_alloc_new w3 _) 0).trans rfl); have HN4 := Aside0.mk (show Below w3.heap.size w3 w4 by rw [hw4]; exact (Below.refl _ _).alloc (Nat.le_refl _) _); clear hw4) | (go_at_call 61; refine (HCM.out _ _ _ _ _ w4 (Kd.C_below HC2.out HN4.out) (Kd.C_below (Kd.R_reads' HO3.out).2.2 HN4.out) HC4.out).mono ?_; rintro e w5 ⟨rfl, hb5⟩; have HN5 := Aside0.mk (HN4.out.trans (hb5.mono HN4.out.size)); clear hb5))
        have HB5 := Aside0.mk (HB3.out.trans (HN5.out.mono HB3.out.size))
        have HK5 := Aside0.mk ((HN5.out.block _ (blk_lt HK3.out)).trans HK3.out)
        obtain ⟨A', ca', hcutA, hCA⟩ := cutT B2 a K2 h (Kd.R_reads' HO2.out).2.1 hle1
        obtain ⟨B', cb', hcutB, hCB⟩ := cutT B3 b K3 h (Kd.R_reads' HO3.out).2.1 hle2
        have HCA := Aside0.mk (hCA _ (Kd.C_below HC2.out HN5.out))
        have HCB := Aside0.mk (hCB _ (Kd.C_below (Kd.R_reads' HO3.out).2.2 HN5.out))
        have HB5d := Aside0.mk HB5.out.drew
        have HK5d := Aside0.mk (show w5.drew.heap[w.heap.size]? = some (.cells #[.int .i64 x.f0, .int .i64 x.f1, .string x.f2] 48 (0, 0)) from HK5.out)
        have HN5d := Aside0.mk (show Below w5.heap.size w5 w5.drew from (Below.refl _ _).drew)
        clear hCA hCB
        refine start_ (n := 15) (S := fun w' => w'.cell? ⟨w.heap.size, 0, none⟩ = some (.int .i64 x.f0) ∧ w'.cell? ⟨w.heap.size, 1, none⟩ = some (.int .i64 x.f1) ∧ w'.cell? ⟨w.heap.size, 2, none⟩ = some (.string x.f2)) (ds := []) #[false, false, false, false, false, false, false, false, false, false, false, false, false, false, false] (by kernel_rfl) rfl rfl ⟨(blk_cell HK5d.out 0).trans rfl, (blk_cell HK5d.out 1).trans rfl, (blk_cell HK5d.out 2).trans rfl⟩ (fun hHeld => ?_)
        generalize w5.drew = wd at HB5d HK5d HN5d hHeld ⊢
        refine pure_ (i := 0) (N := some 44) (v := ?_) (a' := ?_) #[true, false, false, false, false, false, false, false, false, false, false, false, false, false, false] rfl rfl (by kernel_rfl) (fun _ _ _ h => h) (Or.inl ⟨by rfl, ?_⟩) ?_ ?_
        rotate_left
        · intro w'
          go_simp
          with_reducible rfl
        rotate_left
        · simp only [Act.put, List.setIfInBounds_toArray, List.set_cons_zero, List.set_cons_succ, i64_w, i32_w]
          rfl
        refine pure_ (i := 1) (N := some 45) (v := ?_) (a' := ?_) #[true, true, false, false, false, false, false, false, false, false, false, false, false, false, false] rfl rfl (by kernel_rfl) (fun _ _ _ h => h) (Or.inl ⟨by rfl, ?_⟩) ?_ ?_
        rotate_left
        · intro w'
          go_simp
          with_reducible rfl
        rotate_left
        · simp only [Act.put, List.setIfInBounds_toArray, List.set_cons_zero, List.set_cons_succ, i64_w, i32_w]
          rfl
        refine pure_ (i := 2) (N := some 46) (v := ?_) (a' := ?_) #[true, true, true, false, false, false, false, false, false, false, false, false, false, false, false] rfl rfl (by kernel_rfl) (fun _ _ _ h => h) (Or.inl ⟨by rfl, ?_⟩) ?_ ?_
        rotate_left
        · intro w'
          go_simp
          with_reducible rfl
        rotate_left
        · simp only [Act.put, List.setIfInBounds_toArray, List.set_cons_zero, List.set_cons_succ, i64_w, i32_w]
          rfl
        refine pure_ (i := 3) (N := some 47) (v := ?_) (a' := ?_) #[true, true, true, true, false, false, false, false, false, false, false, false, false, false, false] rfl rfl (by kernel_rfl) (fun _ _ _ h => h) (Or.inl ⟨by rfl, ?_⟩) ?_ ?_
        rotate_left
        · intro w'
          go_simp
          with_reducible rfl
        rotate_left
        · simp only [Act.put, List.setIfInBounds_toArray, List.set_cons_zero, List.set_cons_succ, i64_w, i32_w]
          rfl
        refine pure_ (i := 4) (N := some 48) (v := ?_) (a' := ?_) #[true, true, true, true, true, false, false, false, false, false, false, false, false, false, false] rfl rfl (by kernel_rfl) (fun _ _ _ h => h) (Or.inl ⟨by rfl, ?_⟩) ?_ ?_
        rotate_left
        · intro w'
          go_simp
          with_reducible rfl
        rotate_left
        · simp only [Act.put, List.setIfInBounds_toArray, List.set_cons_zero, List.set_cons_succ, i64_w, i32_w]
          rfl
        refine pure_ (i := 5) (N := some 49) (v := ?_) (a' := ?_) #[true, true, true, true, true, true, false, false, false, false, false, false, false, false, false] rfl rfl (by kernel_rfl) (fun _ _ _ h => h) (Or.inl ⟨by rfl, ?_⟩) ?_ ?_
        rotate_left
        · intro w'
          go_simp
          with_reducible rfl
        rotate_left
        · simp only [Act.put, List.setIfInBounds_toArray, List.set_cons_zero, List.set_cons_succ, i64_w, i32_w]
          rfl
        refine pure_ (i := 6) (N := some 50) (v := ?_) (a' := ?_) #[true, true, true, true, true, true, true, false, false, false, false, false, false, false, false] rfl rfl (by kernel_rfl) (fun _ _ _ h => h) (Or.inl ⟨by rfl, ?_⟩) ?_ ?_
        rotate_left
        · intro w'
          go_simp
          with_reducible rfl
        rotate_left
        · simp only [Act.put, List.setIfInBounds_toArray, List.set_cons_zero, List.set_cons_succ, i64_w, i32_w]
          rfl
        refine take_ (i := 7) (N := some 51) (v := ?_) (a' := ?_) #[true, true, true, true, true, true, true, true, false, false, false, false, false, false, false] rfl rfl (by kernel_rfl) (fun _ _ _ h => h) (Or.inl ⟨by rfl, ?_⟩) hHeld ?_ ?_
        rotate_left
        · rintro w' ⟨s0, s1, s2⟩
          go_simp
          with_reducible rfl
        rotate_left
        · simp only [Act.put, List.setIfInBounds_toArray, List.set_cons_zero, List.set_cons_succ, i64_w, i32_w]
          rfl
        refine pure_ (i := 8) (N := some 52) (v := ?_) (a' := ?_) #[true, true, true, true, true, true, true, true, true, false, false, false, false, false, false] rfl rfl (by kernel_rfl) (fun _ _ _ h => h) (Or.inl ⟨by rfl, ?_⟩) ?_ ?_
        rotate_left
        · intro w'
          go_simp
          with_reducible rfl
        rotate_left
        · simp only [Act.put, List.setIfInBounds_toArray, List.set_cons_zero, List.set_cons_succ, i64_w, i32_w]
          rfl
        refine one_ (i := 9) (N := some 53) #[true, true, true, true, true, true, true, true, true, true, false, false, false, false, false] rfl rfl (by kernel_rfl) (by decide) (fun K hK => ?_)
        refine goes_ Tryd.func59 (by kernel_rfl) rfl #[.agg #[.int .i64 x.f0, .int .i64 x.f1, .string x.f2]] (by rfl) rfl rfl (by simp only [List.map_toArray, List.map_cons, List.map_nil]; rfl) ?_
        with_reducible refine (HGR.out _).mono ?_
        rintro e w6 ⟨rfl, hb6⟩
        refine ⟨_, rfl, ?_⟩
        have HK6 := Aside0.mk ((hb6.block _ (blk_lt HK5d.out)).trans HK5d.out)
        have HN6 := Aside0.mk (HN5d.out.trans (hb6.mono HN5d.out.size))
        clear hb6
        refine hK.out _ _ ⟨(blk_cell HK6.out 0).trans rfl, (blk_cell HK6.out 1).trans rfl, (blk_cell HK6.out 2).trans rfl⟩ (fun hHeld => ?_)
        clear hK K
        refine norm_ (a' := ?_) ?_ ?_
        rotate_left
        · show Act.put _ (some 53) _ = _
          simp only [Act.put, List.setIfInBounds_toArray, List.set_cons_zero, List.set_cons_succ, i64_w, i32_w]
          rfl
        refine one_ (i := 10) (N := some 54) #[true, true, true, true, true, true, true, true, true, true, true, false, false, false, false] rfl rfl (by kernel_rfl) (by decide) (fun K hK => ?_)
        refine goes_ Tryd.func62 (by kernel_rfl) rfl #[.int .i64 g] (by rfl) rfl rfl (by simp only [List.map_toArray, List.map_cons, List.map_nil]; rfl) ?_
        with_reducible refine (later_any g _).mono ?_
        rintro e w7 ⟨rfl, hw7⟩
        refine ⟨_, rfl, ?_⟩
        have hb7 : Below w6.heap.size w6 w7 := by rw [hw7]; exact (Below.refl _ _).alloc (Nat.le_refl _) _
        have HC7 := Aside0.mk (show w7.cell? ⟨w6.heap.size, 0, none⟩ = some (.int .i64 g) by rw [hw7]; exact (blk_cell (heap_alloc_new w6 _) 0).trans rfl)
        have HK7 := Aside0.mk ((hb7.block _ (blk_lt HK6.out)).trans HK6.out)
        have HN7 := Aside0.mk (HN6.out.trans (hb7.mono HN6.out.size))
        clear hw7 hb7
        refine hK.out _ _ ⟨(blk_cell HK7.out 0).trans rfl, (blk_cell HK7.out 1).trans rfl, (blk_cell HK7.out 2).trans rfl⟩ (fun hHeld => ?_)
        clear hK K
        refine norm_ (a' := ?_) ?_ ?_
        rotate_left
        · show Act.put _ (some 54) _ = _
          simp only [Act.put, List.setIfInBounds_toArray, List.set_cons_zero, List.set_cons_succ, i64_w, i32_w]
          rfl
        refine one_ (i := 11) (N := some 55) #[true, true, true, true, true, true, true, true, true, true, true, true, false, false, false] rfl rfl (by kernel_rfl) (by decide) (fun K hK => ?_)
        refine goes_ Tryd.func63 (by kernel_rfl) rfl #[.slice A' (a.length - h) ca', .slice B' (b.length - h) cb', .func (.func 86) #[] #[.pointer (some ⟨w6.heap.size, 0, none⟩)]] (by rfl) rfl rfl (by simp only [List.map_toArray, List.map_cons, List.map_nil]; rfl) ?_
        with_reducible refine (HEN.out _ _ _ _ _ w7 (Kd.C_below HCA.out HN7.out) (Kd.C_below HCB.out HN7.out) HC7.out).mono ?_
        rintro e w8 ⟨rfl, hb8⟩
        refine ⟨_, rfl, ?_⟩
        have HN8 := Aside0.mk (HN7.out.trans (hb8.mono HN7.out.size))
        have HK8 := Aside0.mk ((hb8.block _ (blk_lt HK7.out)).trans HK7.out)
        clear hb8
        refine hK.out _ _ ⟨(blk_cell HK8.out 0).trans rfl, (blk_cell HK8.out 1).trans rfl, (blk_cell HK8.out 2).trans rfl⟩ (fun hHeld => ?_)
        clear hK K
        refine norm_ (a' := ?_) ?_ ?_
        rotate_left
        · show Act.put _ (some 55) _ = _
          simp only [Act.put, List.setIfInBounds_toArray, List.set_cons_zero, List.set_cons_succ, i64_w, i32_w]
          rfl
        refine pure_ (i := 12) (N := some 4) (v := ?_) (a' := ?_) #[true, true, true, true, true, true, true, true, true, true, true, true, true, false, false] rfl rfl (by kernel_rfl) (fun _ _ _ h => h) (Or.inl ⟨by rfl, ?_⟩) ?_ ?_
        rotate_left
        · intro w'
          go_simp
          with_reducible rfl
        rotate_left
        · simp only [Act.put, List.setIfInBounds_toArray, List.set_cons_zero, List.set_cons_succ, i64_w, i32_w]
          rfl
        refine pure_ (i := 13) (N := some 5) (v := ?_) (a' := ?_) #[true, true, true, true, true, true, true, true, true, true, true, true, true, true, false] rfl rfl (by kernel_rfl) (fun _ _ _ h => h) (Or.inl ⟨by rfl, ?_⟩) ?_ ?_
        rotate_left
        · intro w'
          go_simp
          with_reducible rfl
        rotate_left
        · simp only [Act.put, List.setIfInBounds_toArray, List.set_cons_zero, List.set_cons_succ, i64_w, i32_w]
          rfl
        refine pure_ (i := 14) (N := some 6) (v := ?_) (a' := ?_) #[true, true, true, true, true, true, true, true, true, true, true, true, true, true, true] rfl rfl (by kernel_rfl) (fun _ _ _ h => h) (Or.inl ⟨by rfl, ?_⟩) ?_ ?_
        rotate_left
        · intro w'
          go_simp
          with_reducible rfl
        rotate_left
        · simp only [Act.put, List.setIfInBounds_toArray, List.set_cons_zero, List.set_cons_succ, i64_w, i32_w]
          rfl
        refine done_ (by kernel_rfl) ?_
        have HB8 := Aside0.mk (HB5.out.trans (HN8.out.mono HB5.out.size))
        go_wp2
        go_ret3
        exact ⟨rfl, HB8.out⟩
      · rw [if_neg h2]
        have k1 : ((toksM kwM (splM s [x])).2.2 == 0) = false := beq_false_of_ne h2
        have k2 : ((toksM kwM (splM s [x])).2.2 != 0) = true := bne_iff_ne.2 h2
        rw [h1] at hTs
        clear h0 h1 eA hg hx3 hts h2 hX
        generalize splM s [x] = t at *
        generalize toksM kwM s = ts at *
        generalize toksM kwM t = tt at *
        obtain ⟨t0, t1, t2⟩ := tt
        simp only at hAp hTt hTs k1 k2
        go_enter Tryd.func33, Tryd.ntmps33
        go_wp2_with (first | (go_at_call 27; refine hAp.out.mono ?_; rintro e w1 ⟨rfl, hb1, hk1⟩; have HB1 := Aside0.mk hb1; have HK1 := Aside0.mk hk1; clear hb1 hk1) | (go_at_call 16; with_reducible refine (hTs.out _ (HG.out.mono HB1.out)).mono ?_; rintro e w2 ⟨v2, rfl, ho2, hb2⟩; have HB2 := Aside0.mk (HB1.out.trans (hb2.mono HB1.out.size)); have HK2 := Aside0.mk ((hb2.block _ (blk_lt HK1.out)).trans HK1.out); have HO2 := Aside0.mk ho2; obtain ⟨B2, K2, rfl⟩ := Kd.R_slice ho2; clear hb2 ho2) | (go_at_call 16; with_reducible refine (hTt.out _ (HG.out.mono HB2.out)).mono ?_; rintro e w3 ⟨v3, rfl, ho3, hb3⟩; have HB3 := Aside0.mk (HB2.out.trans (hb3.mono HB2.out.size)); have HK3 := Aside0.mk ((hb3.block _ (blk_lt HK2.out)).trans HK2.out); have HO3 := Aside0.mk ho3; have HC2 := Aside0.mk (Kd.C_below (Kd.R_reads' HO2.out).2.2 hb3); obtain ⟨B3, K3, rfl⟩ := Kd.R_slice ho3; clear hb3 ho3))
        go_ret3
        exact ⟨rfl, HB3.out⟩
    · rw [if_neg h1]
      have k1 : ((toksM kwM s).2.2 == 0) = false := beq_false_of_ne h1
      have k2 : ((toksM kwM s).2.2 != 0) = true := bne_iff_ne.2 h1
      clear h0 h1 eA hg hx3 hts hTt hX
      generalize splM s [x] = t at *
      generalize toksM kwM s = ts at *
      obtain ⟨t0, t1, t2⟩ := ts
      simp only at hAp hTs k1 k2
      go_enter Tryd.func33, Tryd.ntmps33
      go_wp2_with (first | (go_at_call 27; refine hAp.out.mono ?_; rintro e w1 ⟨rfl, hb1, hk1⟩; have HB1 := Aside0.mk hb1; have HK1 := Aside0.mk hk1; clear hb1 hk1) | (go_at_call 16; with_reducible refine (hTs.out _ (HG.out.mono HB1.out)).mono ?_; rintro e w2 ⟨v2, rfl, ho2, hb2⟩; have HB2 := Aside0.mk (HB1.out.trans (hb2.mono HB1.out.size)); have HK2 := Aside0.mk ((hb2.block _ (blk_lt HK1.out)).trans HK1.out); have HO2 := Aside0.mk ho2; obtain ⟨B2, K2, rfl⟩ := Kd.R_slice ho2; clear hb2 ho2))
      go_ret3
      exact ⟨rfl, HB2.out⟩
  · rw [if_neg h0]
    have eA : appM s [x] = (⟨#[]⟩, splE s [x]) := by unfold appM; rw [if_neg h0]
    rw [eA] at hAp
    have k1 : (splE s [x] == 0) = false := beq_false_of_ne h0
    have k2 : (splE s [x] != 0) = true := bne_iff_ne.2 h0
    clear h0 eA hg hx3 hTs hX
    generalize splE s [x] = e0 at *
    simp only at hAp
    go_enter Tryd.func33, Tryd.ntmps33
    go_wp2_with (go_at_call 27; refine hAp.out.mono ?_; rintro e w1 ⟨rfl, hb1, hk1⟩; have HB1 := Aside0.mk hb1; have HK1 := Aside0.mk hk1; clear hb1 hk1)
    go_ret3
    exact ⟨rfl, HB1.out⟩
def put3 (W : World) (p : Nat) (v0 v1 v2 : Value) : World := ((W.setCell ⟨p, 0, none⟩ v0).setCell ⟨p, 1, none⟩ v1).setCell ⟨p, 2, none⟩ v2
theorem put3_ok {W : World} {p : Nat} {e : TypeId} {z0 z1 z2 : Value} (h : W.heap[p]? = some (.cells #[z0, z1, z2] e (0, 0))) (v0 v1 v2 : Value) :
    (W.cell? ⟨p, 0, none⟩ = some z0 ∧ W.frozen? ⟨p, 0, none⟩ = false) ∧ ((W.setCell ⟨p, 0, none⟩ v0).cell? ⟨p, 1, none⟩ = some z1 ∧ (W.setCell ⟨p, 0, none⟩ v0).frozen? ⟨p, 1, none⟩ = false) ∧
    (((W.setCell ⟨p, 0, none⟩ v0).setCell ⟨p, 1, none⟩ v1).cell? ⟨p, 2, none⟩ = some z2 ∧ ((W.setCell ⟨p, 0, none⟩ v0).setCell ⟨p, 1, none⟩ v1).frozen? ⟨p, 2, none⟩ = false) ∧ (put3 W p v0 v1 v2).heap[p]? = some (.cells #[v0, v1, v2] e (0, 0)) :=
  ⟨⟨(blk_cell h 0).trans rfl, blk_frozen h 0⟩, ⟨(blk_cell (blk_set h 0 v0) 1).trans rfl, blk_frozen (blk_set h 0 v0) 1⟩, ⟨(blk_cell (blk_set (blk_set h 0 v0) 1 v1) 2).trans rfl, blk_frozen (blk_set (blk_set h 0 v0) 1 v1) 2⟩, blk_set (blk_set (blk_set h 0 v0) 1 v1) 2 v2⟩
theorem put3_far {W : World} {p k : Nat} {cs : Array Value} {e : TypeId} (h : W.heap[k]? = some (.cells cs e (0, 0))) (hk : k ≠ p) (v0 v1 v2 : Value) : (put3 W p v0 v1 v2).heap[k]? = some (.cells cs e (0, 0)) :=
  blk_far (blk_far (blk_far h (p := ⟨p, 0, none⟩) hk v0) (p := ⟨p, 1, none⟩) hk v1) (p := ⟨p, 2, none⟩) hk v2
theorem put3_below {n : Nat} {W0 W : World} {p : Nat} (h : Below n W0 W) (hp : n ≤ p) (v0 v1 v2 : Value) : Below n W0 (put3 W p v0 v1 v2) := ((h.setCell hp v0).setCell hp v1).setCell hp v2
theorem eqT_b0 (x y : Tk) : eqT 0 x y = ((x.f0 == y.f0) && ((x.f1.toList == y.f1.toList) && (x.f2 == y.f2))) := by rw [eqT_b, Int.add_zero]
set_option maxRecDepth 8000 in
set_option maxHeartbeats 8000000 in
theorem rKept_any (s : ByteArray) (x : Sp) (w : World) (hs : s.size ≤ 3000) (hx : x.f2.size ≤ 3000) :
    Calls Tryd.prog 34 #[.string s, .agg #[.int .i64 x.f0, .int .i64 x.f1, .string x.f2]] w fun e w' => e = .returned (.tuple #[.int .i64 (kepM s x).1, .int .i64 (kepM s x).2.1, .int .i64 (kepM s x).2.2]) ∧ Below w.heap.size w w' := by
  have hx3 : ∀ y ∈ [x], y.f2.size ≤ 3000 := fun y hy => by rw [List.mem_singleton.1 hy]; exact hx
  obtain ⟨X, hX⟩ : ∃ X : Obj, X = .cells #[.int .i64 x.f0, .int .i64 x.f1, .string x.f2] 48 := ⟨_, rfl⟩
  have hA0 := riposteref01_check.calls (fuS [x]) s (some ⟨(w.alloc X).heap.size, 0, none⟩) 1 [x] (splE s [x]) ((w.alloc X).alloc X) (by rw [hX]; exact C_one _ x) (Nat.le_refl _) (rCheck s [x] hs (by simp) hx3)
  rw [World.size_alloc, List.length_singleton] at hA0
  have hb0 : ∀ W, Drawn0 ((w.alloc X).alloc X) W → Below w.heap.size w W ∧ W.heap[w.heap.size]? = some (.cells #[.int .i64 x.f0, .int .i64 x.f1, .string x.f2] 48 (0, 0)) := fun W h => by
    obtain ⟨nd, rfl⟩ := h
    have h1 : Below w.heap.size w ((w.alloc X).alloc X) := ((Below.refl _ w).alloc (Nat.le_refl _) _).alloc (by simp) _
    exact ⟨pw_below_drewN h1 nd, show ((w.alloc X).alloc X).heap[w.heap.size]? = _ by rw [hX]; exact blk_alloc (heap_alloc_new w _) _⟩
  have hCh := Aside0.mk (hA0.mono (fun e W h => And.intro h.1 (hb0 W h.2)))
  clear hA0 hb0
  rw [hX] at hCh
  unfold kepM
  by_cases h0 : splE s [x] = 0
  · rw [if_pos h0]
    have hts := (undone s [x] h0 hx3).1
    have hSp : ∀ W : World, Calls Tryd.prog 58 #[.string s, .slice (some ⟨W.heap.size, 0, none⟩) 1 1] (W.alloc (.cells #[.int .i64 x.f0, .int .i64 x.f1, .string x.f2] 48)) fun e w' => e = .returned (.string (splM s [x])) ∧ Below W.heap.size W w' := fun W =>
      (riposteref01_Spliced.calls 3 s (some ⟨W.heap.size, 0, none⟩) 1 [x] (splM s [x]) _ (C_one W x) (Nat.le_refl _) (rSpliced s hs [x] (by simp) hx3 (splE_ord h0).2.2.1 3 (by simp))).mono (fun e w' h => ⟨h.1, by obtain ⟨nd, rfl⟩ := h.2; exact pw_below_drewN ((Below.refl _ _).alloc (Nat.le_refl _) _) nd⟩)
    have hSp := Aside0.mk hSp
    have hTs := Aside0.mk (fun (W : World) => riposteref01_Tokens.calls 20001 s (toksM kwM s).1 (toksM kwM s).2.1 (toksM kwM s).2.2 W (rTokens s (by omega) 20001 (by decide)))
    have hTt := Aside0.mk (fun (W : World) => riposteref01_Tokens.calls 20001 (splM s [x]) (toksM kwM (splM s [x])).1 (toksM kwM (splM s [x])).2.1 (toksM kwM (splM s [x])).2.2 W (rTokens (splM s [x]) (by omega) 20001 (by decide)))
    rw [h0] at hCh
    by_cases h1 : (toksM kwM s).2.2 = 0
    · rw [if_pos h1]
      by_cases h2 : (toksM kwM (splM s [x])).2.2 = 0
      · rw [if_pos h2]
        obtain ⟨-, la, -⟩ := toks_ord s h1
        obtain ⟨-, lb, -⟩ := toks_ord (splM s [x]) h2
        have hra := toks_rng h1
        have hbd := (splE_bd h0 hx3 x (List.mem_singleton.2 rfl)).1
        have hg5 := hbd.gr
        have hgs : ((splM s [x]).size : Int) - (s.size : Int) = gr x := by
          have h := splB_length s [x] 0 (splE_ord h0).2.2.1
          unfold sumG sumG at h
          rw [show (splM s [x]).size = (splB s [x] 0).length by rw [size_len, splM, ba_data]]
          omega
        rw [h1] at hTs
        rw [h2] at hTt
        clear h0 h1 h2 hx3 hX hbd
        generalize splM s [x] = t at *
        generalize toksM kwM s = ts at *
        generalize toksM kwM t = tt at *
        obtain ⟨a, s1, s2⟩ := ts
        obtain ⟨b, t1, t2⟩ := tt
        simp only at hTs hTt la lb hra ⊢
        generalize gr x = g at *
        have HRA := Aside0.mk hra
        clear hra
        have hle := hdK_le a b
        obtain ⟨r, hr⟩ : ∃ r, hdK a b = r := ⟨_, rfl⟩
        rw [hr] at hle ⊢
        obtain ⟨q, hq⟩ : ∃ q, tlK a b r g = q := ⟨_, rfl⟩
        rw [hq]
        have HR := Aside0.mk (show runF (fun j => eqT 0 (rd_T35 a (j : Int)) (rd_T35 b (j : Int))) (min a.length b.length - 0) 0 = r from hr)
        have HQ := Aside0.mk (show runF (fun j => eqT g (rd_T35 a ((a.length - 1 - j : Nat) : Int)) (rd_T35 b ((b.length - 1 - j : Nat) : Int))) (min (a.length - r) (b.length - r) - 0) 0 = q from hq)
        obtain ⟨hle1, hle2⟩ := hle
        clear hr hq
        go_enter Tryd.func34, Tryd.ntmps34
        go_upto_block 0 with (first | (go_at_call 57; refine hCh.out.mono ?_; rintro e w1 ⟨rfl, hb1, hk1⟩; have HB1 := Aside0.mk hb1; have q0 : w1.cell? ⟨w.heap.size, 0, none⟩ = some (.int .i64 x.f0) := (blk_cell hk1 0).trans rfl; have q1 : w1.cell? ⟨w.heap.size, 1, none⟩ = some (.int .i64 x.f1) := (blk_cell hk1 1).trans rfl; have q2 : w1.cell? ⟨w.heap.size, 2, none⟩ = some (.string x.f2) := (blk_cell hk1 2).trans rfl; clear hb1 hk1) | (go_at_call 58; refine (hSp.out w1).mono ?_; rintro e w2 ⟨rfl, hb2⟩; have HB2 := Aside0.mk (HB1.out.trans (hb2.mono HB1.out.size)); clear hb2) | (go_at_call 17; with_reducible refine (hTs.out _).mono ?_; rintro e w3 ⟨v3, rfl, ho3, hb3⟩; have HB3 := Aside0.mk (HB2.out.trans (hb3.mono HB2.out.size)); have HO3 := Aside0.mk ho3; obtain ⟨B3, K3, rfl⟩ := Kd.R_slice ho3; clear hb3 ho3) | (go_at_call 17; with_reducible refine (hTt.out _).mono ?_; rintro e w4 ⟨v4, rfl, ho4, hb4⟩; have HB4 := Aside0.mk (HB3.out.trans (hb4.mono HB3.out.size)); have HO4 := Aside0.mk ho4; have HC3 := Aside0.mk (Kd.C_below (Kd.R_reads' HO3.out).2.2 hb4); obtain ⟨B4, K4, rfl⟩ := Kd.R_slice ho4; clear hb4 ho4))
        have HC4 := Aside0.mk (Kd.R_reads' HO4.out).2.2
        clear q0 q1 q2 hSp hTs hTt hCh
        go_cut [14] (fun x14 wx => x14 = .int .i64 (r : Nat) ∧ ∃ nd, wx = w4.drewN nd)
        case first =>
          go_wp2
          go_loopg [14] (min a.length b.length) (fun gg s14 wr => ∃ (i nd : Nat), s14 = .int .i64 i ∧ i ≤ a.length ∧ i ≤ b.length ∧ min a.length b.length - i ≤ gg ∧ Aside0 (runF (fun j => eqT 0 (rd_T35 a (j : Int)) (rd_T35 b (j : Int))) (min a.length b.length - i) i = r) ∧ wr = w4.drewN nd)
          case atStart => exact ⟨0, 0, rfl, Nat.zero_le _, Nat.zero_le _, by omega, HR, rfl⟩
          case round =>
            obtain ⟨i, nd, rfl, hi1, hi2, hg, HRi, rfl⟩ := hrel
            by_cases l1 : i < a.length
            · have c1 : decide ((i : Int) < (a.length : Int)) = true := decide_eq_true (by omega)
              by_cases l2 : i < b.length
              · have c2 : decide ((i : Int) < (b.length : Int)) = true := decide_eq_true (by omega)
                obtain ⟨ad, rfl, x0, x1, x2⟩ := at_T35 HC3.out (i : Int) (by omega) (by omega)
                obtain ⟨bd, rfl, y0, y1, y2⟩ := at_T35 HC4.out (i : Int) (by omega) (by omega)
                rw [Int.toNat_natCast] at x0 x1 x2 y0 y1 y2
                have hs := runF_step _ HRi.out (by omega)
                rw [eqT_b0] at hs
                generalize rd_T35 a (i : Int) = xx at *
                generalize rd_T35 b (i : Int) = yy at *
                generalize h0 : (xx.f0 == yy.f0) = b0 at *
                generalize h1 : (xx.f1.toList == yy.f1.toList) = b1 at *
                generalize h2 : (xx.f2 == yy.f2) = b2 at *
                have HS := Aside0.mk hs
                clear hs
                cases b0 <;> cases b1 <;> cases b2
                all_goals first
                | (have HN := Aside0.mk (HS.out.1 rfl)
                   clear HS
                   go_wp2
                   go_quiet (fail)
                   go_wp2
                   go_roundg (min a.length b.length - (i + 1))
                   case measure => omega
                   case rel => exact ⟨i + 1, nd + nq, by go_num, by omega, by omega, by omega, HN, rfl⟩)
                | (have hN := HS.out.2 rfl
                   subst hN
                   clear HS
                   go_wp2
                   go_quiet (fail)
                   go_wp2
                   go_meet
                   case rel => exact ⟨rfl, _, World.drewN_drewN _ _ _⟩)
              · have c2 : decide ((i : Int) < (b.length : Int)) = false := decide_eq_false (by omega)
                have hN := runF_stop _ HRi.out (by omega)
                subst hN
                go_wp2
                go_quiet (fail)
                go_wp2
                go_meet
                case rel => exact ⟨rfl, _, World.drewN_drewN _ _ _⟩
            · have c1 : decide ((i : Int) < (a.length : Int)) = false := decide_eq_false (by omega)
              have hN := runF_stop _ HRi.out (by omega)
              subst hN
              go_wp2
              go_quiet (fail)
              go_wp2
              go_meet
              case rel => exact ⟨rfl, _, World.drewN_drewN _ _ _⟩
        case rest =>
          obtain ⟨rfl, nd, hwc⟩ := hcut
          have HN5 := Aside0.mk (show Below w4.heap.size w4 wc by rw [hwc]; exact pw_below_drewN (Below.refl _ _) nd)
          have HB5 := Aside0.mk (HB4.out.trans (HN5.out.mono HB4.out.size))
          have HC5 := Aside0.mk (Kd.C_below HC3.out HN5.out)
          have HD5 := Aside0.mk (Kd.C_below HC4.out HN5.out)
          clear hwc
          go_wp2
          go_loopg [15] (min (a.length - r) (b.length - r)) (fun gg s15 wr => ∃ (i : Nat), s15 = .int .i64 i ∧ i ≤ a.length - r ∧ i ≤ b.length - r ∧ min (a.length - r) (b.length - r) - i ≤ gg ∧ Aside0 (runF (fun j => eqT g (rd_T35 a ((a.length - 1 - j : Nat) : Int)) (rd_T35 b ((b.length - 1 - j : Nat) : Int))) (min (a.length - r) (b.length - r) - i) i = q) ∧ Aside0 (Below wc.heap.size wc wr))
          case atStart => exact ⟨0, rfl, Nat.zero_le _, Nat.zero_le _, by omega, HQ, ⟨Below.refl _ _⟩⟩
          case round =>
            obtain ⟨i, rfl, hi1, hi2, hgk, HRi, HBW⟩ := hrel
            by_cases l1 : i < a.length - r
            · have c1 : decide ((i : Int) < (a.length : Int) - (r : Int)) = true := decide_eq_true (by omega)
              by_cases l2 : i < b.length - r
              · have c2 : decide ((i : Int) < (b.length : Int) - (r : Int)) = true := decide_eq_true (by omega)
                obtain ⟨ai, hai⟩ : ∃ ai : Nat, ai = a.length - 1 - i := ⟨_, rfl⟩
                obtain ⟨bi, hbi⟩ : ∃ bi : Nat, bi = b.length - 1 - i := ⟨_, rfl⟩
                have ai1 : ai < a.length := by omega
                have bi1 : bi < b.length := by omega
                have HB6 := Aside0.mk (HB5.out.trans (HBW.out.mono HB5.out.size))
                obtain ⟨ad, rfl, x0, x1, x2⟩ := at_T35 (Kd.C_below HC5.out HBW.out) (ai : Int) (by omega) (by omega)
                obtain ⟨bd, rfl, y0, y1, y2⟩ := at_T35 (Kd.C_below HD5.out HBW.out) (bi : Int) (by omega) (by omega)
                rw [Int.toNat_natCast] at x0 x1 x2 y0 y1 y2
                have hs := runF_step _ HRi.out (by omega)
                rw [← hai, ← hbi] at hs
                have HX := Aside0.mk (HRA.out _ (rdT_mem a ai ai1))
                generalize rd_T35 a (ai : Int) = xx at *
                generalize rd_T35 b (bi : Int) = yy at *
                have HS := Aside0.mk hs
                clear hs
                go_wp2
                have X0 := Aside0.mk (show wr.drew.cell? (ad.add (ai * 3)) = some (.int .u8 xx.f0) from x0)
                have X1 := Aside0.mk (show wr.drew.cell? ⟨(ad.add (ai * 3)).block, (ad.add (ai * 3)).off + 1, none⟩ = some (.string xx.f1) from x1)
                have X2 := Aside0.mk (show wr.drew.cell? ⟨(ad.add (ai * 3)).block, (ad.add (ai * 3)).off + 2, none⟩ = some (.int .i64 xx.f2) from x2)
                have Y0 := Aside0.mk (show wr.drew.cell? (bd.add (bi * 3)) = some (.int .u8 yy.f0) from y0)
                have Y1 := Aside0.mk (show wr.drew.cell? ⟨(bd.add (bi * 3)).block, (bd.add (bi * 3)).off + 1, none⟩ = some (.string yy.f1) from y1)
                have Y2 := Aside0.mk (show wr.drew.cell? ⟨(bd.add (bi * 3)).block, (bd.add (bi * 3)).off + 2, none⟩ = some (.int .i64 yy.f2) from y2)
                have HBd := Aside0.mk HB6.out.drew
                have HBWd := Aside0.mk HBW.out.drew
                have L0 := Aside0.mk (World.block_lt_of_cell? wr.drew _ X0.out)
                have L1 := Aside0.mk (World.block_lt_of_cell? wr.drew _ X1.out)
                have L2 := Aside0.mk (World.block_lt_of_cell? wr.drew _ X2.out)
                have L3 := Aside0.mk (World.block_lt_of_cell? wr.drew _ Y0.out)
                have L4 := Aside0.mk (World.block_lt_of_cell? wr.drew _ Y1.out)
                have L5 := Aside0.mk (World.block_lt_of_cell? wr.drew _ Y2.out)
                have u1 : wrap64 ((a.length : Int) - 1) = (a.length : Int) - 1 := w64 (by omega) (by omega)
                have u2 : wrap64 ((a.length : Int) - 1 - (i : Int)) = (ai : Int) := by rw [w64 (by omega) (by omega)]; omega
                have u3 : wrap64 ((b.length : Int) - 1) = (b.length : Int) - 1 := w64 (by omega) (by omega)
                have u4 : wrap64 ((b.length : Int) - 1 - (i : Int)) = (bi : Int) := by rw [w64 (by omega) (by omega)]; omega
                clear hai hbi x0 x1 x2 y0 y1 y2
                refine start_ (n := 20) (S := fun w' => w'.cell? (ad.add (ai * 3)) = some (.int .u8 xx.f0) ∧ w'.cell? ⟨(ad.add (ai * 3)).block, (ad.add (ai * 3)).off + 1, none⟩ = some (.string xx.f1) ∧ w'.cell? ⟨(ad.add (ai * 3)).block, (ad.add (ai * 3)).off + 2, none⟩ = some (.int .i64 xx.f2) ∧ w'.cell? (bd.add (bi * 3)) = some (.int .u8 yy.f0) ∧ w'.cell? ⟨(bd.add (bi * 3)).block, (bd.add (bi * 3)).off + 1, none⟩ = some (.string yy.f1) ∧ w'.cell? ⟨(bd.add (bi * 3)).block, (bd.add (bi * 3)).off + 2, none⟩ = some (.int .i64 yy.f2)) (ds := []) #[false, false, false, false, false, false, false, false, false, false, false, false, false, false, false, false, false, false, false, false] (by kernel_rfl) rfl rfl ⟨X0.out, X1.out, X2.out, Y0.out, Y1.out, Y2.out⟩ (fun hHeld => ?_)
                generalize wr.drew = wd at X0 X1 X2 Y0 Y1 Y2 L0 L1 L2 L3 L4 L5 HBd HBWd hHeld ⊢
                refine pure_ (i := 0) (N := some 84) (v := ?_) (a' := ?_) #[true, false, false, false, false, false, false, false, false, false, false, false, false, false, false, false, false, false, false, false] rfl rfl (by kernel_rfl) (fun _ _ _ h => h) (Or.inl ⟨by rfl, ?_⟩) ?_ ?_
                rotate_left
                · intro w'
                  go_simp
                  with_reducible rfl
                rotate_left
                · simp only [Act.put, List.setIfInBounds_toArray, List.set_cons_zero, List.set_cons_succ, i64_w, i32_w]
                  rfl
                refine pure_ (i := 1) (N := some 85) (v := ?_) (a' := ?_) #[true, true, false, false, false, false, false, false, false, false, false, false, false, false, false, false, false, false, false, false] rfl rfl (by kernel_rfl) (fun _ _ _ h => h) (Or.inl ⟨by rfl, ?_⟩) ?_ ?_
                rotate_left
                · intro w'
                  go_simp
                  with_reducible rfl
                rotate_left
                · simp only [Act.put, List.setIfInBounds_toArray, List.set_cons_zero, List.set_cons_succ, i64_w, i32_w]
                  rfl
                refine pure_ (i := 2) (N := some 86) (v := ?_) (a' := ?_) #[true, true, true, false, false, false, false, false, false, false, false, false, false, false, false, false, false, false, false, false] rfl rfl (by kernel_rfl) (fun _ _ _ h => h) (Or.inl ⟨by rfl, ?_⟩) ?_ ?_
                rotate_left
                · intro w'
                  go_simp
                  with_reducible rfl
                rotate_left
                · simp only [Act.put, List.setIfInBounds_toArray, List.set_cons_zero, List.set_cons_succ, i64_w, i32_w]
                  rfl
                refine pure_ (i := 3) (N := some 87) (v := ?_) (a' := ?_) #[true, true, true, true, false, false, false, false, false, false, false, false, false, false, false, false, false, false, false, false] rfl rfl (by kernel_rfl) (fun _ _ _ h => h) (Or.inl ⟨by rfl, ?_⟩) ?_ ?_
                rotate_left
                · intro w'
                  go_simp
                  with_reducible rfl
                rotate_left
                · simp only [Act.put, List.setIfInBounds_toArray, List.set_cons_zero, List.set_cons_succ, i64_w, i32_w]
                  rfl
                refine pure_ (i := 4) (N := some 88) (v := ?_) (a' := ?_) #[true, true, true, true, true, false, false, false, false, false, false, false, false, false, false, false, false, false, false, false] rfl rfl (by kernel_rfl) (fun _ _ _ h => h) (Or.inl ⟨by rfl, ?_⟩) ?_ ?_
                rotate_left
                · intro w'
                  go_simp
                  with_reducible rfl
                rotate_left
                · simp only [Act.put, List.setIfInBounds_toArray, List.set_cons_zero, List.set_cons_succ, i64_w, i32_w]
                  rfl
                refine pure_ (i := 5) (N := some 89) (v := ?_) (a' := ?_) #[true, true, true, true, true, true, false, false, false, false, false, false, false, false, false, false, false, false, false, false] rfl rfl (by kernel_rfl) (fun _ _ _ h => h) (Or.inl ⟨by rfl, ?_⟩) ?_ ?_
                rotate_left
                · intro w'
                  go_simp
                  with_reducible rfl
                rotate_left
                · simp only [Act.put, List.setIfInBounds_toArray, List.set_cons_zero, List.set_cons_succ, i64_w, i32_w]
                  rfl
                refine pure_ (i := 6) (N := some 90) (v := ?_) (a' := ?_) #[true, true, true, true, true, true, true, false, false, false, false, false, false, false, false, false, false, false, false, false] rfl rfl (by kernel_rfl) (fun _ _ _ h => h) (Or.inl ⟨by rfl, ?_⟩) ?_ ?_
                rotate_left
                · intro w'
                  go_simp
                  with_reducible rfl
                rotate_left
                · simp only [Act.put, List.setIfInBounds_toArray, List.set_cons_zero, List.set_cons_succ, i64_w, i32_w]
                  rfl
                refine pure_ (i := 8) (N := some 92) (v := ?_) (a' := ?_) #[true, true, true, true, true, true, true, false, true, false, false, false, false, false, false, false, false, false, false, false] rfl rfl (by kernel_rfl) (fun _ _ _ h => h) (Or.inl ⟨by rfl, ?_⟩) ?_ ?_
                rotate_left
                · intro w'
                  go_simp
                  with_reducible rfl
                rotate_left
                · simp only [Act.put, List.setIfInBounds_toArray, List.set_cons_zero, List.set_cons_succ, i64_w, i32_w]
                  rfl
                refine pure_ (i := 9) (N := some 93) (v := ?_) (a' := ?_) #[true, true, true, true, true, true, true, false, true, true, false, false, false, false, false, false, false, false, false, false] rfl rfl (by kernel_rfl) (fun _ _ _ h => h) (Or.inl ⟨by rfl, ?_⟩) ?_ ?_
                rotate_left
                · intro w'
                  go_simp
                  with_reducible rfl
                rotate_left
                · simp only [Act.put, List.setIfInBounds_toArray, List.set_cons_zero, List.set_cons_succ, i64_w, i32_w]
                  rfl
                refine pure_ (i := 10) (N := some 94) (v := ?_) (a' := ?_) #[true, true, true, true, true, true, true, false, true, true, true, false, false, false, false, false, false, false, false, false] rfl rfl (by kernel_rfl) (fun _ _ _ h => h) (Or.inl ⟨by rfl, ?_⟩) ?_ ?_
                rotate_left
                · intro w'
                  go_simp
                  with_reducible rfl
                rotate_left
                · simp only [Act.put, List.setIfInBounds_toArray, List.set_cons_zero, List.set_cons_succ, i64_w, i32_w]
                  rfl
                refine pure_ (i := 11) (N := some 95) (v := ?_) (a' := ?_) #[true, true, true, true, true, true, true, false, true, true, true, true, false, false, false, false, false, false, false, false] rfl rfl (by kernel_rfl) (fun _ _ _ h => h) (Or.inl ⟨by rfl, ?_⟩) ?_ ?_
                rotate_left
                · intro w'
                  go_simp
                  with_reducible rfl
                rotate_left
                · simp only [Act.put, List.setIfInBounds_toArray, List.set_cons_zero, List.set_cons_succ, i64_w, i32_w]
                  rfl
                refine pure_ (i := 12) (N := some 96) (v := ?_) (a' := ?_) #[true, true, true, true, true, true, true, false, true, true, true, true, true, false, false, false, false, false, false, false] rfl rfl (by kernel_rfl) (fun _ _ _ h => h) (Or.inl ⟨by rfl, ?_⟩) ?_ ?_
                rotate_left
                · intro w'
                  go_simp
                  with_reducible rfl
                rotate_left
                · simp only [Act.put, List.setIfInBounds_toArray, List.set_cons_zero, List.set_cons_succ, i64_w, i32_w]
                  rfl
                refine pure_ (i := 13) (N := some 97) (v := ?_) (a' := ?_) #[true, true, true, true, true, true, true, false, true, true, true, true, true, true, false, false, false, false, false, false] rfl rfl (by kernel_rfl) (fun _ _ _ h => h) (Or.inl ⟨by rfl, ?_⟩) ?_ ?_
                rotate_left
                · intro w'
                  go_simp
                  with_reducible rfl
                rotate_left
                · simp only [Act.put, List.setIfInBounds_toArray, List.set_cons_zero, List.set_cons_succ, i64_w, i32_w]
                  rfl
                refine pure_ (i := 14) (N := some 98) (v := ?_) (a' := ?_) #[true, true, true, true, true, true, true, false, true, true, true, true, true, true, true, false, false, false, false, false] rfl rfl (by kernel_rfl) (fun _ _ _ h => h) (Or.inl ⟨by rfl, ?_⟩) ?_ ?_
                rotate_left
                · intro w'
                  go_simp
                  with_reducible rfl
                rotate_left
                · simp only [Act.put, List.setIfInBounds_toArray, List.set_cons_zero, List.set_cons_succ, i64_w, i32_w]
                  rfl
                refine take_ (i := 7) (N := some 91) (v := ?_) (a' := ?_) #[true, true, true, true, true, true, true, true, true, true, true, true, true, true, true, false, false, false, false, false] rfl rfl (by kernel_rfl) (fun _ _ _ h => h) (Or.inl ⟨by rfl, ?_⟩) hHeld ?_ ?_
                rotate_left
                · rintro w' ⟨s0, s1, s2, s3, s4, s5⟩
                  go_simp
                  with_reducible rfl
                rotate_left
                · simp only [Act.put, List.setIfInBounds_toArray, List.set_cons_zero, List.set_cons_succ, i64_w, i32_w]
                  rfl
                refine take_ (i := 15) (N := some 99) (v := ?_) (a' := ?_) #[true, true, true, true, true, true, true, true, true, true, true, true, true, true, true, true, false, false, false, false] rfl rfl (by kernel_rfl) (fun _ _ _ h => h) (Or.inl ⟨by rfl, ?_⟩) hHeld ?_ ?_
                rotate_left
                · rintro w' ⟨s0, s1, s2, s3, s4, s5⟩
                  go_simp
                  with_reducible rfl
                rotate_left
                · simp only [Act.put, List.setIfInBounds_toArray, List.set_cons_zero, List.set_cons_succ, i64_w, i32_w]
                  rfl
                refine join_ (σ := Nat × Nat) 2 #[true, true, true, true, true, true, true, true, true, true, true, true, true, true, true, true, true, true, false, false] (fun s => [(16, .pointer (some ⟨s.1, 0, none⟩)), (17, .pointer (some ⟨s.2, 0, none⟩))]) (fun s w' => w'.heap[s.1]? = some (.cells #[.int .u8 0, .string ⟨#[]⟩, .int .i64 0] 35 (0, 0)) ∧ w'.heap[s.2]? = some (.cells #[.int .u8 0, .string ⟨#[]⟩, .int .i64 0] 35 (0, 0)) ∧ s.1 ≠ s.2 ∧ wd.heap.size ≤ s.1 ∧ wd.heap.size ≤ s.2 ∧ Below wd.heap.size wd w') ?_ ?_
                rotate_left
                · intro hCont
                  refine two_ (i := 16) (j := 17) (Ni := some 16) (Nj := some 17) #[true, true, true, true, true, true, true, true, true, true, true, true, true, true, true, true, true, false, false, false] #[true, true, true, true, true, true, true, true, true, true, true, true, true, true, true, true, false, true, false, false] rfl rfl rfl rfl (by kernel_rfl) (by decide) (by decide) (fun K hK => ?_) (fun K hK => ?_)
                  · skip
                    refine value_ (w1 := ?_) (v := ?_) (by rfl) rfl ?_ ?_
                    rotate_left 2
                    · go_simp
                      constructor
                      · rfl
                      · rfl
                    refine hK.out _ _ ⟨(((Below.refl _ wd).alloc (Nat.le_refl _) (.cells #[.int .u8 0, .string ⟨#[]⟩, .int .i64 0] 35)).cell L0.out).trans X0.out, (((Below.refl _ wd).alloc (Nat.le_refl _) (.cells #[.int .u8 0, .string ⟨#[]⟩, .int .i64 0] 35)).cell L1.out).trans X1.out, (((Below.refl _ wd).alloc (Nat.le_refl _) (.cells #[.int .u8 0, .string ⟨#[]⟩, .int .i64 0] 35)).cell L2.out).trans X2.out, (((Below.refl _ wd).alloc (Nat.le_refl _) (.cells #[.int .u8 0, .string ⟨#[]⟩, .int .i64 0] 35)).cell L3.out).trans Y0.out, (((Below.refl _ wd).alloc (Nat.le_refl _) (.cells #[.int .u8 0, .string ⟨#[]⟩, .int .i64 0] 35)).cell L4.out).trans Y1.out, (((Below.refl _ wd).alloc (Nat.le_refl _) (.cells #[.int .u8 0, .string ⟨#[]⟩, .int .i64 0] 35)).cell L5.out).trans Y2.out⟩ (fun hHeld => ?_)
                    clear hK K
                    refine norm_ (a' := ?_) ?_ ?_
                    rotate_left
                    · show Act.put _ (some 16) _ = _
                      simp only [Act.put, List.setIfInBounds_toArray, List.set_cons_zero, List.set_cons_succ, i64_w, i32_w]
                      rfl
                    refine one_ (i := 17) (N := some 17) #[true, true, true, true, true, true, true, true, true, true, true, true, true, true, true, true, true, true, false, false] rfl rfl (by kernel_rfl) (by decide) (fun K hK => ?_)
                    refine value_ (w1 := ?_) (v := ?_) (by rfl) rfl ?_ ?_
                    rotate_left 2
                    · go_simp
                      constructor
                      · rfl
                      · rfl
                    refine hK.out _ _ ⟨((((Below.refl _ wd).alloc (Nat.le_refl _) (.cells #[.int .u8 0, .string ⟨#[]⟩, .int .i64 0] 35)).alloc (by simp) (.cells #[.int .u8 0, .string ⟨#[]⟩, .int .i64 0] 35)).cell L0.out).trans X0.out, ((((Below.refl _ wd).alloc (Nat.le_refl _) (.cells #[.int .u8 0, .string ⟨#[]⟩, .int .i64 0] 35)).alloc (by simp) (.cells #[.int .u8 0, .string ⟨#[]⟩, .int .i64 0] 35)).cell L1.out).trans X1.out, ((((Below.refl _ wd).alloc (Nat.le_refl _) (.cells #[.int .u8 0, .string ⟨#[]⟩, .int .i64 0] 35)).alloc (by simp) (.cells #[.int .u8 0, .string ⟨#[]⟩, .int .i64 0] 35)).cell L2.out).trans X2.out, ((((Below.refl _ wd).alloc (Nat.le_refl _) (.cells #[.int .u8 0, .string ⟨#[]⟩, .int .i64 0] 35)).alloc (by simp) (.cells #[.int .u8 0, .string ⟨#[]⟩, .int .i64 0] 35)).cell L3.out).trans Y0.out, ((((Below.refl _ wd).alloc (Nat.le_refl _) (.cells #[.int .u8 0, .string ⟨#[]⟩, .int .i64 0] 35)).alloc (by simp) (.cells #[.int .u8 0, .string ⟨#[]⟩, .int .i64 0] 35)).cell L4.out).trans Y1.out, ((((Below.refl _ wd).alloc (Nat.le_refl _) (.cells #[.int .u8 0, .string ⟨#[]⟩, .int .i64 0] 35)).alloc (by simp) (.cells #[.int .u8 0, .string ⟨#[]⟩, .int .i64 0] 35)).cell L5.out).trans Y2.out⟩ (fun hHeld => ?_)
                    clear hK K
                    refine norm_ (a' := ?_) ?_ ?_
                    rotate_left
                    · show Act.put _ (some 17) _ = _
                      simp only [Act.put, List.setIfInBounds_toArray, List.set_cons_zero, List.set_cons_succ, i64_w, i32_w]
                      rfl
                    exact norm_ (by simp only [putAll, Act.put, List.setIfInBounds_toArray, List.set_cons_zero, List.set_cons_succ]) (hCont (wd.heap.size, wd.heap.size + 1) _ ⟨blk_alloc (heap_alloc_new wd _) _, heap_alloc_new' _ _ (by simp), by simp, Nat.le_refl _, Nat.le_succ _, ((Below.refl _ wd).alloc (Nat.le_refl _) (.cells #[.int .u8 0, .string ⟨#[]⟩, .int .i64 0] 35)).alloc (by simp) (.cells #[.int .u8 0, .string ⟨#[]⟩, .int .i64 0] 35)⟩)
                  · skip
                    refine value_ (w1 := ?_) (v := ?_) (by rfl) rfl ?_ ?_
                    rotate_left 2
                    · go_simp
                      constructor
                      · rfl
                      · rfl
                    refine hK.out _ _ ⟨(((Below.refl _ wd).alloc (Nat.le_refl _) (.cells #[.int .u8 0, .string ⟨#[]⟩, .int .i64 0] 35)).cell L0.out).trans X0.out, (((Below.refl _ wd).alloc (Nat.le_refl _) (.cells #[.int .u8 0, .string ⟨#[]⟩, .int .i64 0] 35)).cell L1.out).trans X1.out, (((Below.refl _ wd).alloc (Nat.le_refl _) (.cells #[.int .u8 0, .string ⟨#[]⟩, .int .i64 0] 35)).cell L2.out).trans X2.out, (((Below.refl _ wd).alloc (Nat.le_refl _) (.cells #[.int .u8 0, .string ⟨#[]⟩, .int .i64 0] 35)).cell L3.out).trans Y0.out, (((Below.refl _ wd).alloc (Nat.le_refl _) (.cells #[.int .u8 0, .string ⟨#[]⟩, .int .i64 0] 35)).cell L4.out).trans Y1.out, (((Below.refl _ wd).alloc (Nat.le_refl _) (.cells #[.int .u8 0, .string ⟨#[]⟩, .int .i64 0] 35)).cell L5.out).trans Y2.out⟩ (fun hHeld => ?_)
                    clear hK K
                    refine norm_ (a' := ?_) ?_ ?_
                    rotate_left
                    · show Act.put _ (some 17) _ = _
                      simp only [Act.put, List.setIfInBounds_toArray, List.set_cons_zero, List.set_cons_succ, i64_w, i32_w]
                      rfl
                    refine one_ (i := 16) (N := some 16) #[true, true, true, true, true, true, true, true, true, true, true, true, true, true, true, true, true, true, false, false] rfl rfl (by kernel_rfl) (by decide) (fun K hK => ?_)
                    refine value_ (w1 := ?_) (v := ?_) (by rfl) rfl ?_ ?_
                    rotate_left 2
                    · go_simp
                      constructor
                      · rfl
                      · rfl
                    refine hK.out _ _ ⟨((((Below.refl _ wd).alloc (Nat.le_refl _) (.cells #[.int .u8 0, .string ⟨#[]⟩, .int .i64 0] 35)).alloc (by simp) (.cells #[.int .u8 0, .string ⟨#[]⟩, .int .i64 0] 35)).cell L0.out).trans X0.out, ((((Below.refl _ wd).alloc (Nat.le_refl _) (.cells #[.int .u8 0, .string ⟨#[]⟩, .int .i64 0] 35)).alloc (by simp) (.cells #[.int .u8 0, .string ⟨#[]⟩, .int .i64 0] 35)).cell L1.out).trans X1.out, ((((Below.refl _ wd).alloc (Nat.le_refl _) (.cells #[.int .u8 0, .string ⟨#[]⟩, .int .i64 0] 35)).alloc (by simp) (.cells #[.int .u8 0, .string ⟨#[]⟩, .int .i64 0] 35)).cell L2.out).trans X2.out, ((((Below.refl _ wd).alloc (Nat.le_refl _) (.cells #[.int .u8 0, .string ⟨#[]⟩, .int .i64 0] 35)).alloc (by simp) (.cells #[.int .u8 0, .string ⟨#[]⟩, .int .i64 0] 35)).cell L3.out).trans Y0.out, ((((Below.refl _ wd).alloc (Nat.le_refl _) (.cells #[.int .u8 0, .string ⟨#[]⟩, .int .i64 0] 35)).alloc (by simp) (.cells #[.int .u8 0, .string ⟨#[]⟩, .int .i64 0] 35)).cell L4.out).trans Y1.out, ((((Below.refl _ wd).alloc (Nat.le_refl _) (.cells #[.int .u8 0, .string ⟨#[]⟩, .int .i64 0] 35)).alloc (by simp) (.cells #[.int .u8 0, .string ⟨#[]⟩, .int .i64 0] 35)).cell L5.out).trans Y2.out⟩ (fun hHeld => ?_)
                    clear hK K
                    refine norm_ (a' := ?_) ?_ ?_
                    rotate_left
                    · show Act.put _ (some 16) _ = _
                      simp only [Act.put, List.setIfInBounds_toArray, List.set_cons_zero, List.set_cons_succ, i64_w, i32_w]
                      rfl
                    exact norm_ (by simp only [putAll, Act.put, List.setIfInBounds_toArray, List.set_cons_zero, List.set_cons_succ]) (hCont (wd.heap.size + 1, wd.heap.size) _ ⟨heap_alloc_new' _ _ (by simp), blk_alloc (heap_alloc_new wd _) _, by simp, Nat.le_succ _, Nat.le_refl _, ((Below.refl _ wd).alloc (Nat.le_refl _) (.cells #[.int .u8 0, .string ⟨#[]⟩, .int .i64 0] 35)).alloc (by simp) (.cells #[.int .u8 0, .string ⟨#[]⟩, .int .i64 0] 35)⟩)
                rintro ⟨p1, p2⟩ w6 ⟨hp1, hp2, hne, hl1, hl2, hb6⟩
                have HP1 := Aside0.mk hp1
                have HP2 := Aside0.mk hp2
                have HN6 := Aside0.mk hb6
                have HNE := Aside0.mk hne
                have HL1 := Aside0.mk hl1
                have HL2 := Aside0.mk hl2
                clear hp1 hp2 hb6 hne hl1 hl2
                have hHeld : w6.cell? (ad.add (ai * 3)) = some (.int .u8 xx.f0) ∧ w6.cell? ⟨(ad.add (ai * 3)).block, (ad.add (ai * 3)).off + 1, none⟩ = some (.string xx.f1) ∧ w6.cell? ⟨(ad.add (ai * 3)).block, (ad.add (ai * 3)).off + 2, none⟩ = some (.int .i64 xx.f2) ∧ w6.cell? (bd.add (bi * 3)) = some (.int .u8 yy.f0) ∧ w6.cell? ⟨(bd.add (bi * 3)).block, (bd.add (bi * 3)).off + 1, none⟩ = some (.string yy.f1) ∧ w6.cell? ⟨(bd.add (bi * 3)).block, (bd.add (bi * 3)).off + 2, none⟩ = some (.int .i64 yy.f2) := ⟨(HN6.out.cell L0.out).trans X0.out, (HN6.out.cell L1.out).trans X1.out, (HN6.out.cell L2.out).trans X2.out, (HN6.out.cell L3.out).trans Y0.out, (HN6.out.cell L4.out).trans Y1.out, (HN6.out.cell L5.out).trans Y2.out⟩
                refine norm_ (a' := ?_) ?_ ?_
                rotate_left
                · simp only [putAll, Act.put, List.setIfInBounds_toArray, List.set_cons_zero, List.set_cons_succ]
                  rfl
                refine one_ (i := 18) (N := none) #[true, true, true, true, true, true, true, true, true, true, true, true, true, true, true, true, true, true, true, false] rfl rfl (by kernel_rfl) (by decide) (fun K hK => ?_)
                obtain ⟨⟨k0, f0⟩, ⟨k1, f1⟩, ⟨k2, f2⟩, hp1⟩ := put3_ok HP1.out (.int .u8 xx.f0) (.string xx.f1) (.int .i64 xx.f2)
                refine skip_ (w1 := ?_) (by rfl) rfl ?_ ?_
                rotate_left
                · go_simp
                  rfl
                have HQ1 := Aside0.mk hp1
                have HQ2 := Aside0.mk (put3_far HP2.out HNE.out.symm (.int .u8 xx.f0) (.string xx.f1) (.int .i64 xx.f2))
                have HN7 := Aside0.mk (put3_below HN6.out HL1.out (.int .u8 xx.f0) (.string xx.f1) (.int .i64 xx.f2))
                clear k0 f0 k1 f1 k2 f2 hp1
                change K _ (put3 w6 p1 (.int .u8 xx.f0) (.string xx.f1) (.int .i64 xx.f2))
                generalize put3 w6 p1 (.int .u8 xx.f0) (.string xx.f1) (.int .i64 xx.f2) = w7 at HQ1 HQ2 HN7 ⊢
                refine hK.out _ _ ⟨(HN7.out.cell L0.out).trans X0.out, (HN7.out.cell L1.out).trans X1.out, (HN7.out.cell L2.out).trans X2.out, (HN7.out.cell L3.out).trans Y0.out, (HN7.out.cell L4.out).trans Y1.out, (HN7.out.cell L5.out).trans Y2.out⟩ (fun hHeld => ?_)
                clear hK K
                refine one_ (i := 19) (N := none) #[true, true, true, true, true, true, true, true, true, true, true, true, true, true, true, true, true, true, true, true] rfl rfl (by kernel_rfl) (by decide) (fun K hK => ?_)
                obtain ⟨⟨k0, f0⟩, ⟨k1, f1⟩, ⟨k2, f2⟩, hp2⟩ := put3_ok HQ2.out (.int .u8 yy.f0) (.string yy.f1) (.int .i64 yy.f2)
                refine skip_ (w1 := ?_) (by rfl) rfl ?_ ?_
                rotate_left
                · go_simp
                  rfl
                have HR2 := Aside0.mk hp2
                have HR1 := Aside0.mk (put3_far HQ1.out HNE.out (.int .u8 yy.f0) (.string yy.f1) (.int .i64 yy.f2))
                have HN8 := Aside0.mk (put3_below HN7.out HL2.out (.int .u8 yy.f0) (.string yy.f1) (.int .i64 yy.f2))
                clear k0 f0 k1 f1 k2 f2 hp2
                change K _ (put3 w7 p2 (.int .u8 yy.f0) (.string yy.f1) (.int .i64 yy.f2))
                generalize put3 w7 p2 (.int .u8 yy.f0) (.string yy.f1) (.int .i64 yy.f2) = w8 at HR1 HR2 HN8 ⊢
                refine hK.out _ _ ⟨(HN8.out.cell L0.out).trans X0.out, (HN8.out.cell L1.out).trans X1.out, (HN8.out.cell L2.out).trans X2.out, (HN8.out.cell L3.out).trans Y0.out, (HN8.out.cell L4.out).trans Y1.out, (HN8.out.cell L5.out).trans Y2.out⟩ (fun hHeld => ?_)
                clear hK K
                refine done_ (by kernel_rfl) ?_
                obtain ⟨hx0, hx1⟩ := HX.out
                have k2 : w8.cell? ⟨p1, 2, none⟩ = some (.int .i64 xx.f2) := (blk_cell HR1.out 2).trans rfl
                have f2 : w8.frozen? ⟨p1, 2, none⟩ = false := blk_frozen HR1.out 2
                clear u1 u2 u3 u4
                go_upto_region 17 with fail
                have HT1 := Aside0.mk (blk_set HR1.out 2 (.int .i64 (xx.f2 + g)))
                have HT2 := Aside0.mk (blk_far HR2.out (p := ⟨p1, 2, none⟩) HNE.out.symm (.int .i64 (xx.f2 + g)))
                have HN9 := Aside0.mk (show Below wd.heap.size wd (w8.setCell ⟨p1, 2, none⟩ (.int .i64 (xx.f2 + g))) from HN8.out.setCell HL1.out _)
                obtain ⟨w9, hw9⟩ : ∃ W, W = w8.setCell ⟨p1, 2, none⟩ (.int .i64 (xx.f2 + g)) := ⟨_, rfl⟩
                rw [← hw9] at HT1 HT2 HN9 ⊢
                have HB9 := Aside0.mk (HBd.out.trans (HN9.out.mono HBd.out.size))
                have HW9 := Aside0.mk (HBWd.out.trans (HN9.out.mono HBWd.out.size))
                have m0 : w9.cell? ⟨p1, 0, none⟩ = some (.int .u8 xx.f0) := (blk_cell HT1.out 0).trans rfl
                have m1 : w9.cell? ⟨p1, 1, none⟩ = some (.string xx.f1) := (blk_cell HT1.out 1).trans rfl
                have m2 : w9.cell? ⟨p1, 2, none⟩ = some (.int .i64 (xx.f2 + g)) := (blk_cell HT1.out 2).trans rfl
                have n0 : w9.cell? ⟨p2, 0, none⟩ = some (.int .u8 yy.f0) := (blk_cell HT2.out 0).trans rfl
                have n1 : w9.cell? ⟨p2, 1, none⟩ = some (.string yy.f1) := (blk_cell HT2.out 1).trans rfl
                have n2 : w9.cell? ⟨p2, 2, none⟩ = some (.int .i64 yy.f2) := (blk_cell HT2.out 2).trans rfl
                clear hw9 k2 f2
                have hs := HS.out
                rw [eqT_b] at hs
                clear HS
                generalize h0 : (xx.f0 == yy.f0) = b0 at *
                generalize h1 : (xx.f1.toList == yy.f1.toList) = b1 at *
                generalize h2 : (xx.f2 + g == yy.f2) = b2 at *
                have HS := Aside0.mk hs
                clear hs
                cases b0 <;> cases b1 <;> cases b2
                all_goals first
                | (have HN := Aside0.mk (HS.out.1 rfl)
                   clear HS
                   go_wp2
                   go_roundg (min (a.length - r) (b.length - r) - (i + 1))
                   case measure => omega
                   case rel => exact ⟨i + 1, by go_num, by omega, by omega, by omega, HN, HW9⟩)
                | (have hN := HS.out.2 rfl
                   subst hN
                   clear HS
                   go_wp2
                   go_ret3
                   exact ⟨rfl, HB9.out⟩)
              · have c2 : decide ((i : Int) < (b.length : Int) - (r : Int)) = false := decide_eq_false (by omega)
                have hN := runF_stop _ HRi.out (by omega)
                subst hN
                go_wp2
                go_ret3
                exact ⟨rfl, HB5.out.trans (HBW.out.mono HB5.out.size)⟩
            · have c1 : decide ((i : Int) < (a.length : Int) - (r : Int)) = false := decide_eq_false (by omega)
              have hN := runF_stop _ HRi.out (by omega)
              subst hN
              go_wp2
              go_ret3
              exact ⟨rfl, HB5.out.trans (HBW.out.mono HB5.out.size)⟩
      · rw [if_neg h2]
        have k1 : ((toksM kwM (splM s [x])).2.2 == 0) = false := beq_false_of_ne h2
        have k2 : ((toksM kwM (splM s [x])).2.2 != 0) = true := bne_iff_ne.2 h2
        rw [h1] at hTs
        clear h0 h1 hx3 hts h2 hX
        generalize splM s [x] = t at *
        generalize toksM kwM s = ts at *
        generalize toksM kwM t = tt at *
        obtain ⟨t0, t1, t2⟩ := tt
        simp only at hTt hTs k1 k2
        go_enter Tryd.func34, Tryd.ntmps34
        go_wp2_with (first | (go_at_call 57; refine hCh.out.mono ?_; rintro e w1 ⟨rfl, hb1, hk1⟩; have HB1 := Aside0.mk hb1; have q0 : w1.cell? ⟨w.heap.size, 0, none⟩ = some (.int .i64 x.f0) := (blk_cell hk1 0).trans rfl; have q1 : w1.cell? ⟨w.heap.size, 1, none⟩ = some (.int .i64 x.f1) := (blk_cell hk1 1).trans rfl; have q2 : w1.cell? ⟨w.heap.size, 2, none⟩ = some (.string x.f2) := (blk_cell hk1 2).trans rfl; clear hb1 hk1) | (go_at_call 58; refine (hSp.out w1).mono ?_; rintro e w2 ⟨rfl, hb2⟩; have HB2 := Aside0.mk (HB1.out.trans (hb2.mono HB1.out.size)); clear hb2) | (go_at_call 17; with_reducible refine (hTs.out _).mono ?_; rintro e w3 ⟨v3, rfl, ho3, hb3⟩; have HB3 := Aside0.mk (HB2.out.trans (hb3.mono HB2.out.size)); have HO3 := Aside0.mk ho3; obtain ⟨B3, K3, rfl⟩ := Kd.R_slice ho3; clear hb3 ho3) | (go_at_call 17; with_reducible refine (hTt.out _).mono ?_; rintro e w4 ⟨v4, rfl, ho4, hb4⟩; have HB4 := Aside0.mk (HB3.out.trans (hb4.mono HB3.out.size)); have HO4 := Aside0.mk ho4; have HC3 := Aside0.mk (Kd.C_below (Kd.R_reads' HO3.out).2.2 hb4); obtain ⟨B4, K4, rfl⟩ := Kd.R_slice ho4; clear hb4 ho4))
        go_ret3
        exact ⟨rfl, HB4.out⟩
    · rw [if_neg h1]
      have k1 : ((toksM kwM s).2.2 == 0) = false := beq_false_of_ne h1
      have k2 : ((toksM kwM s).2.2 != 0) = true := bne_iff_ne.2 h1
      clear h0 h1 hx3 hts hTt hX
      generalize splM s [x] = t at *
      generalize toksM kwM s = ts at *
      obtain ⟨t0, t1, t2⟩ := ts
      simp only at hTs k1 k2
      go_enter Tryd.func34, Tryd.ntmps34
      go_wp2_with (first | (go_at_call 57; refine hCh.out.mono ?_; rintro e w1 ⟨rfl, hb1, hk1⟩; have HB1 := Aside0.mk hb1; have q0 : w1.cell? ⟨w.heap.size, 0, none⟩ = some (.int .i64 x.f0) := (blk_cell hk1 0).trans rfl; have q1 : w1.cell? ⟨w.heap.size, 1, none⟩ = some (.int .i64 x.f1) := (blk_cell hk1 1).trans rfl; have q2 : w1.cell? ⟨w.heap.size, 2, none⟩ = some (.string x.f2) := (blk_cell hk1 2).trans rfl; clear hb1 hk1) | (go_at_call 58; refine (hSp.out w1).mono ?_; rintro e w2 ⟨rfl, hb2⟩; have HB2 := Aside0.mk (HB1.out.trans (hb2.mono HB1.out.size)); clear hb2) | (go_at_call 17; with_reducible refine (hTs.out _).mono ?_; rintro e w3 ⟨v3, rfl, ho3, hb3⟩; have HB3 := Aside0.mk (HB2.out.trans (hb3.mono HB2.out.size)); have HO3 := Aside0.mk ho3; obtain ⟨B3, K3, rfl⟩ := Kd.R_slice ho3; clear hb3 ho3))
      go_ret3
      exact ⟨rfl, HB3.out⟩
  · rw [if_neg h0]
    have k1 : (splE s [x] == 0) = false := beq_false_of_ne h0
    have k2 : (splE s [x] != 0) = true := bne_iff_ne.2 h0
    clear h0 hx3 hX
    generalize splE s [x] = e0 at *
    go_enter Tryd.func34, Tryd.ntmps34
    go_wp2_with (go_at_call 57; refine hCh.out.mono ?_; rintro e w1 ⟨rfl, hb1, hk1⟩; have HB1 := Aside0.mk hb1; have q0 : w1.cell? ⟨w.heap.size, 0, none⟩ = some (.int .i64 x.f0) := (blk_cell hk1 0).trans rfl; have q1 : w1.cell? ⟨w.heap.size, 1, none⟩ = some (.int .i64 x.f1) := (blk_cell hk1 1).trans rfl; have q2 : w1.cell? ⟨w.heap.size, 2, none⟩ = some (.string x.f2) := (blk_cell hk1 2).trans rfl; clear hb1 hk1)
    go_ret3
    exact ⟨rfl, HB1.out⟩
theorem box_below (w : World) (x : Sp) : Below w.heap.size w (w.alloc (.cells #[.int .i64 x.f0, .int .i64 x.f1, .string x.f2] 48)) ∧ (w.alloc (.cells #[.int .i64 x.f0, .int .i64 x.f1, .string x.f2] 48)).heap[w.heap.size]? = some (.cells #[.int .i64 x.f0, .int .i64 x.f1, .string x.f2] 48 (0, 0)) :=
  ⟨(Below.refl _ w).alloc (Nat.le_refl _) _, heap_alloc_new w _⟩
set_option maxRecDepth 8000 in
set_option maxHeartbeats 8000000 in
theorem lexKeeps_any (s : ByteArray) (x : Sp) (w : World) (hg : Gl w) : Calls Tryd.prog 8 #[.string s, .agg #[.int .i64 x.f0, .int .i64 x.f1, .string x.f2]] w fun e w' => e = .returned (.bool true) ∧ Below w.heap.size w w' := by
  have HG := Aside0.mk hg
  have hA := Aside0.mk (fun (W : World) (h : Gl W) => awake_any W h)
  obtain ⟨hb0, hk0⟩ := box_below w x
  by_cases hs : 3000 < s.size ∨ 3000 < x.f2.size
  · clear hg
    have main : ∀ b1 b2 : Bool, decide (3000 < s.size) = b1 → decide ((3000 : Int) < (s.size : Int)) = b1 → decide (3000 < x.f2.size) = b2 → decide ((3000 : Int) < (x.f2.size : Int)) = b2 → (b1 || b2) = true → Calls Tryd.prog 8 #[.string s, .agg #[.int .i64 x.f0, .int .i64 x.f1, .string x.f2]] w fun e w' => e = .returned (.bool true) ∧ Below w.heap.size w w' := by
      intro b1 b2 g1 g2 g3 g4 hb
      have HB0 := Aside0.mk hb0
      clear hs hb0 hk0
      cases b1 <;> cases b2 <;> first
      | (exact absurd hb (by decide))
      | (clear hb
         go_enter Tryd.func8, Tryd.ntmps8
         go_wp2_with (go_at_call 15; refine (hA.out _ (HG.out.mono HB0.out)).mono ?_; rintro e w1 ⟨rfl, hb1⟩)
         go_ret
         exact ⟨rfl, HB0.out.trans (hb1.mono HB0.out.size)⟩)
    refine main _ _ rfl (decide_eq_decide.2 (by omega)) rfl (decide_eq_decide.2 (by omega)) ?_
    rcases hs with h | h <;> simp [h]
  · have hs1 : ¬ 3000 < s.size := fun h => hs (.inl h)
    have hs2 : ¬ 3000 < x.f2.size := fun h => hs (.inr h)
    have g1 : decide (3000 < s.size) = false := decide_eq_false hs1
    have g2 : decide ((3000 : Int) < (s.size : Int)) = false := decide_eq_false (by omega)
    have g3 : decide (3000 < x.f2.size) = false := decide_eq_false hs2
    have g4 : decide ((3000 : Int) < (x.f2.size : Int)) = false := decide_eq_false (by omega)
    have hK := Aside0.mk (fun (W : World) (h : Gl W) => Kept_any s x W h (by omega) (by omega))
    have hR := Aside0.mk (fun (W : World) => rKept_any s x W (by omega) (by omega))
    generalize kepM s x = U at *
    obtain ⟨u0, u1, u2⟩ := U
    have HB0 := Aside0.mk hb0
    have HK0 := Aside0.mk hk0
    simp only at hK hR
    clear hg hs hs1 hs2 hb0 hk0
    go_enter Tryd.func8, Tryd.ntmps8
    go_wp2_with (first | (go_at_call 33; refine (hK.out _ (HG.out.mono HB0.out)).mono ?_; rintro e w1 ⟨rfl, hb1⟩; have HB1 := Aside0.mk (HB0.out.trans (hb1.mono HB0.out.size)); have HK1 := Aside0.mk ((hb1.block _ (blk_lt HK0.out)).trans HK0.out); clear hb1; have q0 : (w1).cell? ⟨w.heap.size, 0, none⟩ = some (.int .i64 x.f0) := (blk_cell HK1.out 0).trans rfl; have q1 : (w1).cell? ⟨w.heap.size, 1, none⟩ = some (.int .i64 x.f1) := (blk_cell HK1.out 1).trans rfl; have q2 : (w1).cell? ⟨w.heap.size, 2, none⟩ = some (.string x.f2) := (blk_cell HK1.out 2).trans rfl) | (go_at_call 34; refine (hR.out _).mono ?_; rintro e w2 ⟨rfl, hb2⟩; have HB2 := Aside0.mk (HB1.out.trans (hb2.mono HB1.out.size)); clear hb2) | (go_at_call 15; refine (hA.out _ (HG.out.mono HB2.out)).mono ?_; rintro e w3 ⟨rfl, hb3⟩; have HB3 := Aside0.mk (HB2.out.trans (hb3.mono HB2.out.size)); clear hb3))
    go_ret
    exact ⟨rfl, HB3.out⟩
end Go.Proofs.YtggfcmondffodaaDoor.P
namespace Go.Proofs.YtggfcmondffodaaDoor.P
open Go.RowKit
set_option linter.unusedVariables false
/-- The four listed variables, as each row lists them. -/
def laidL : List (String × DataW Unit) := [("unicode/utf8.acceptRanges", Rows.laid_unicode_utf8_acceptRanges), ("unicode.White_Space", Rows.laid_unicode_White_Space), ("strings.asciiSpace", Rows.laid_strings_asciiSpace), ("unicode/utf8.first", Rows.laid_unicode_utf8_first)]
def aspT : List Int := (List.range 256).map fun (i : Nat) => if aspB (i : Int) = true then 1 else 0
theorem aspT_len : aspT.length = 256 := by simp [aspT]
theorem aspT_at (c : Nat) (h : c < 256) : aspT.getD c 0 = if aspB (c : Int) = true then 1 else 0 := by
  unfold aspT
  rw [List.getD_eq_getElem?_getD, List.getElem?_map, List.getElem?_range h]
  rfl
theorem asp_data : (Rows.laid_strings_asciiSpace : DataW Unit) = Lib.tabData .u8 aspT := by kernel_rfl
theorem gl_of_laid {W : World} (h : laidMetH Tryd.prog laidL W) : Gl W := by
  rw [MakeChecks.laidMetH_plain _ _ _ (by kernel_rfl)] at h
  obtain ⟨ps, ⟨g0, t0, cs0, f0, p0, q0, hg0, ht0, hv0, hd0, ⟨g1, t1, cs1, f1, p1, q1, hg1, ht1, hv1, hd1, ⟨g2, t2, cs2, f2, p2, q2, hg2, ht2, hv2, hd2, _, _⟩, _⟩, _⟩, _, _⟩ := h
  obtain rfl := Option.some.inj ((show Tryd.prog.globalNamed "strings.asciiSpace" = some 0 by kernel_rfl).symm.trans hg2)
  obtain rfl := Option.some.inj ((show (Tryd.prog.globals[0]?).map (·.type) = some 121 by kernel_rfl).symm.trans ht2)
  rw [asp_data] at hd2
  have hcs := Lib.cells_of_tab Tryd.underlying121 Tryd.underlying5 (by kernel_rfl) (by kernel_rfl) hd2
  intro c hc
  rw [World.var?_cell hg2 hv2 c]
  have h1 : cs2[c]? = some (.int .u8 (aspT.getD c 0)) := by
    have : cs2.toList[c]? = some (.int .u8 (aspT.getD c 0)) := by
      rw [hcs, List.getElem?_map, List.getElem?_eq_getElem (by rw [aspT_len]; exact hc)]
      simp [List.getD, List.getElem?_eq_getElem (show c < aspT.length by rw [aspT_len]; exact hc)]
    simpa using this
  rw [h1, aspT_at c hc]
end Go.Proofs.YtggfcmondffodaaDoor.P
