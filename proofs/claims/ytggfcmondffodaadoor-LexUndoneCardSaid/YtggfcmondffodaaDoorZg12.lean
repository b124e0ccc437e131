/- What the claim's law needs, many texts in one (Xq Yc P9 Xu Xw Xx Ye Yf Xz). No conditions of its own. -/
import Derived.Test.YtggfcmondffodaaDoorZg11
import Derived.Test.YtggfcmondffodaaDoorZg10
import Derived.Deep.Slices
import Derived.Lib.SmallJoins
import Derived.OpenShut
import Derived.ChangeOld
import Derived.WideShapes
import Derived.ProofKit
import Derived.SizedLaws
import Derived.Test.YtggfcmondffodaaDoorZg2
import Derived.Test.YtggfcmondffodaaDoorZg3
import Derived.Test.YtggfcmondffodaaDoorZg4
import Derived.Deep.QuietTactic
import Derived.BigQuiet
import Derived.Test.YtggfcmondffodaaDoorRows
import Derived.LaidMore
import Derived.Lay
import Derived.Lib.LaidTab
import Derived.Stop.Joined
set_option linter.unusedVariables false
set_option linter.unusedSimpArgs false
namespace Go.Proofs.YtggfcmondffodaaDoor.P
open Go.RowKit Go.Shelf Go.Maps Go.Proofs.YtggfcmondffodaaDoorW.PrintWords Go.Proofs.YtggfcmondffodaaDoorW.PrintLast Go.Proofs.YtggfcmondffodaaDoorW.PrintMore
set_option linter.unusedVariables false
set_option linter.unusedSimpArgs false
set_option maxHeartbeats 2000000 in
theorem Apply_ok (s : ByteArray) (A : Option Addr) (c : Nat) (l : List Sp) (k : Nat) (w : World) (hr : Kd.C k48 w A l.length l) (hc : l.length ≤ c) (hs : s.size ≤ 1000000000) (hll : l.length ≤ 1000000000) (h : lex_splices.f k s l = some 0) (ho : OrdS s.size l 0) (hb : (splB s l 0).length ≤ 1000000000) :
    Calls Tryd.prog 27 #[.string s, .slice A l.length c] w fun e w' => e = .returned (.tuple #[.string (splM s l), .int .i64 0]) ∧ Below w.heap.size w w' := by
  have h1 := lex_splices.calls k s A c l 0 w hr hc h
  have h2 := fun W (h : Below w.heap.size w W) => spliced_any s A c l W (Kd.C_below hr h) hs hll ho hb
  generalize splM s l = out at *
  clear hr ho hb h
  go_enter Tryd.func27, Tryd.ntmps27
  go_wp2_with (first | (go_at_call 56; refine h1.mono ?_; rintro e w1 ⟨rfl, hb1⟩) | (go_at_call 51; refine (h2 _ hb1).mono ?_; rintro e w2 ⟨rfl, hb2⟩))
  go_ret2
  exact ⟨rfl, hb1.trans (hb2.mono hb1.size)⟩
set_option maxHeartbeats 2000000 in
theorem Apply_bad (s : ByteArray) (A : Option Addr) (c : Nat) (l : List Sp) (k : Nat) (e0 : Int) (w : World) (hr : Kd.C k48 w A l.length l) (hc : l.length ≤ c) (h : lex_splices.f k s l = some e0) (h0 : e0 ≠ 0) :
    Calls Tryd.prog 27 #[.string s, .slice A l.length c] w fun e w' => e = .returned (.tuple #[.string ⟨#[]⟩, .int .i64 e0]) ∧ Below w.heap.size w w' := by
  have h1 := lex_splices.calls k s A c l e0 w hr hc h
  have hb1 : (e0 == 0) = false := beq_false_of_ne h0
  have hb2 : (e0 != 0) = true := bne_iff_ne.2 h0
  clear hr h
  go_enter Tryd.func27, Tryd.ntmps27
  go_wp2_with (go_at_call 56; refine h1.mono ?_; rintro e w1 ⟨rfl, hb1⟩)
  go_ret2
  exact ⟨rfl, hb1⟩
/-! ### The document's examples -/
def eT1 : ByteArray := ⟨#[120, 58, 61, 49, 32, 126, 97]⟩
def eT2 : ByteArray := ⟨#[120, 32, 126, 97]⟩
def eT3 : ByteArray := ⟨#[97, 98, 99]⟩
def eT4 : ByteArray := ⟨#[120, 32, 43, 32, 120, 115]⟩
def eL1 : List Tk := [⟨1, ⟨#[120]⟩, 0⟩, ⟨4, ⟨#[58, 61]⟩, 1⟩, ⟨2, ⟨#[49]⟩, 3⟩]
def eL2 : List Tk := [⟨5, ⟨#[97]⟩, 2⟩]
def eS : List Sp := [⟨1, 2, ⟨#[120, 121]⟩⟩]
theorem ex1 : toksM kwM eT1 = (eL1, 0, 0) := by kernel_rfl
theorem ex2 : notesM eT2 = (eL2, 0) := by kernel_rfl
theorem ex3 : lex_splices.f 60 eT3 eS = some 0 := by kernel_rfl
theorem ex4 : splM eT3 eS = ⟨#[97, 120, 121, 99]⟩ := by kernel_rfl
theorem ex5 : renM eT4 ⟨#[120]⟩ ⟨#[121]⟩ = (⟨#[121, 32, 43, 32, 120, 115]⟩, 0) := by kernel_rfl
set_option maxRecDepth 8000 in
set_option maxHeartbeats 8000000 in
theorem awake_any (w : World) (hg : Gl w) : Calls Tryd.prog 15 #[] w fun e w' => e = .returned (.bool true) ∧ Below w.heap.size w w' := by
  have HG := Aside0.mk hg
  have hT := Tokens_any eT1 w hg (by decide)
  rw [ex1] at hT
  have hN := Aside0.mk (fun W => Notes_any eT2 W (by decide))
  rw [ex2] at hN
  have hA := Aside0.mk (fun (A : Option Addr) (c : Nat) (W : World) (h : Kd.C k48 W A eS.length eS) (hc : eS.length ≤ c) => Apply_ok eT3 A c eS 60 W h hc (by decide) (by decide) ex3 (by unfold eS OrdS OrdS; decide) (by rw [show splB eT3 eS 0 = (splM eT3 eS).data.toList from rfl, ex4]; decide))
  rw [ex4] at hA
  have hR := Aside0.mk (fun (W : World) (h : Gl W) => Rename_any eT4 ⟨#[120]⟩ ⟨#[121]⟩ W h (by decide) (by decide) (by decide))
  rw [ex5] at hR
  have hS1 := Aside0.mk (fun (A0 A1 : Option Addr) (c0 c1 : Nat) (W : World) (h0 : Kd.C k35 W A0 eL1.length eL1) (hc0 : eL1.length ≤ c0) (h1 : Kd.C k35 W A1 eL1.length eL1) (hc1 : eL1.length ≤ c1) => riposteref01_SameTokens.calls 20 A0 c0 eL1 A1 c1 eL1 true W h0 hc0 h1 hc1 (rSame eL1 (by decide) 20 (by decide)))
  have hS2 := Aside0.mk (fun (A0 A1 : Option Addr) (c0 c1 : Nat) (W : World) (h0 : Kd.C k35 W A0 eL2.length eL2) (hc0 : eL2.length ≤ c0) (h1 : Kd.C k35 W A1 eL2.length eL2) (hc1 : eL2.length ≤ c1) => riposteref01_SameTokens.calls 20 A0 c0 eL2 A1 c1 eL2 true W h0 hc0 h1 hc1 (rSame eL2 (by decide) 20 (by decide)))
  clear hg
  go_enter Tryd.func15, Tryd.ntmps15
  go_wp2_with (first | (go_at_call 16; refine hT.mono ?_; rintro e w1 ⟨tv, rfl, hrt, hb1'⟩; have HB1 := Aside0.mk hb1'; have HT1 := Aside0.mk hrt; obtain ⟨TA, TC, rfl⟩ := Kd.R_slice hrt; clear hrt hb1') | (go_at_call 18; refine (hN.out _).mono ?_; rintro e w2 ⟨nv, rfl, hrn, hb2'⟩; have HB2 := Aside0.mk (HB1.out.trans (hb2'.mono HB1.out.size)); have HT2 := Aside0.mk (Kd.C_below (Kd.R_reads' HT1.out).2.2 hb2'); have HN2 := Aside0.mk hrn; obtain ⟨NA, NC, rfl⟩ := Kd.R_slice hrn; clear hrn hb2') | ((with_reducible refine gate_dst (N := 21) rfl ?_); refine Kd.R_lit k48 _ 48 ?hg (N := 21) ?hd (xs := eS) (inner := [.int .i64 1, .int .i64 2, .string ⟨#[120, 121]⟩]) (ok := fun _ => True) (okp := fun _ => True) ?hr ?hp (fun _ hk => hk) trivial (Below.refl _ _) (Nat.le_refl _) (by decide) ?_; (case hd => rfl); (case hg => rfl); (case hr => first | (go_simp; done) | (go_simp; rfl)); (case hp => exact (Reps.c3 (k48_mkM _ _ _ _) (Reps.none _ _))); intro v3 w3 ho3 hb3 hg_ hnew_; clear hg_ hnew_; have HB3 := Aside0.mk (HB2.out.trans (hb3.mono HB2.out.size)); have HT3 := Aside0.mk (Kd.C_below HT2.out hb3); have HN3 := Aside0.mk (Kd.C_below (Kd.R_reads' HN2.out).2.2 hb3); have HO3 := Aside0.mk ho3; obtain ⟨SA, SC, rfl⟩ := Kd.R_slice ho3; clear ho3 hb3) | (go_at_call 27; refine (hA.out SA SC _ (Kd.R_reads' HO3.out).2.2 (Kd.R_reads' HO3.out).2.1).mono ?_; rintro e w4 ⟨rfl, hb4⟩; have HB4 := Aside0.mk (HB3.out.trans (hb4.mono HB3.out.size)); have HT4 := Aside0.mk (Kd.C_below HT3.out hb4); have HN4 := Aside0.mk (Kd.C_below HN3.out hb4); clear hb4) | (go_at_call 21; refine (hR.out _ (HG.out.mono HB4.out)).mono ?_; rintro e w5 ⟨rfl, hb5⟩; have HB5 := Aside0.mk (HB4.out.trans (hb5.mono HB4.out.size)); have HT5 := Aside0.mk (Kd.C_below HT4.out hb5); have HN5 := Aside0.mk (Kd.C_below HN4.out hb5); clear hb5) | ((with_reducible refine gate_dst (N := 36) rfl ?_); (try (refine gate_guard (by rfl) ?_; dsimp only)); refine Kd.R_lit k35 _ 35 ?hg (N := 36) ?hd (xs := eL1) (inner := [.int .u8 1, .string ⟨#[120]⟩, .int .i64 0, .int .u8 4, .string ⟨#[58, 61]⟩, .int .i64 1, .int .u8 2, .string ⟨#[49]⟩, .int .i64 3]) (ok := fun _ => True) (okp := fun _ => True) ?hr ?hp (fun _ hk => hk) trivial (Below.refl _ _) (Nat.le_refl _) (by decide) ?_; (case hd => rfl); (case hg => rfl); (case hr => first | (go_simp; done) | (go_simp; rfl)); (case hp => exact (Reps.c3 (k35_mkM _ _ _ _) (Reps.c3 (k35_mkM _ _ _ _) (Reps.c3 (k35_mkM _ _ _ _) (Reps.none _ _))))); intro v6 w6 ho6 hb6 hg_ hnew_; clear hg_ hnew_; have HB6 := Aside0.mk (HB5.out.trans (hb6.mono HB5.out.size)); have HT6 := Aside0.mk (Kd.C_below HT5.out hb6); have HN6 := Aside0.mk (Kd.C_below HN5.out hb6); have HO6 := Aside0.mk ho6; obtain ⟨LA, LC, rfl⟩ := Kd.R_slice ho6; clear ho6 hb6) | (go_at_call 20; (with_reducible refine (hS1.out TA LA TC LC _ HT6.out (Kd.R_reads' HT1.out).2.1 (Kd.R_reads' HO6.out).2.2 (Kd.R_reads' HO6.out).2.1).mono ?_); rintro e w' ⟨rfl, ⟨nd7, rfl⟩⟩; have HB7 := Aside0.mk (pw_below_drewN HB6.out nd7); have HN7 := Aside0.mk (Kd.C_drewN HN6.out nd7)) | ((with_reducible refine gate_dst (N := 46) rfl ?_); (try (refine gate_guard (by rfl) ?_; dsimp only)); refine Kd.R_lit k35 _ 35 ?hg (N := 46) ?hd (xs := eL2) (inner := [.int .u8 5, .string ⟨#[97]⟩, .int .i64 2]) (ok := fun _ => True) (okp := fun _ => True) ?hr ?hp (fun _ hk => hk) trivial (Below.refl _ _) (Nat.le_refl _) (by decide) ?_; (case hd => rfl); (case hg => rfl); (case hr => first | (go_simp; done) | (go_simp; rfl)); (case hp => exact (Reps.c3 (k35_mkM _ _ _ _) (Reps.none _ _))); intro v8 w8 ho8 hb8 hg_ hnew_; clear hg_ hnew_; have HB8 := Aside0.mk (HB7.out.trans (hb8.mono HB7.out.size)); have HN8 := Aside0.mk (Kd.C_below HN7.out hb8); have HO8 := Aside0.mk ho8; obtain ⟨MA, MC, rfl⟩ := Kd.R_slice ho8; clear ho8 hb8) | (go_at_call 20; refine (hS2.out NA MA NC MC _ HN8.out (Kd.R_reads' HN2.out).2.1 (Kd.R_reads' HO8.out).2.2 (Kd.R_reads' HO8.out).2.1).mono ?_; rintro e w' ⟨rfl, ⟨nd9, rfl⟩⟩; have HB9 := Aside0.mk (pw_below_drewN HB8.out nd9)))
  go_ret
  exact ⟨rfl, HB9.out⟩
end Go.Proofs.YtggfcmondffodaaDoor.P
namespace Go.Proofs.YtggfcmondffodaaDoor.P
open Go Go.RowKit Go.Shelf Go.Maps Go.ChangeShapes Go.WideShapes Go.Proofs.YtggfcmondffodaaDoorW.PrintWords Go.Proofs.YtggfcmondffodaaDoorW.PrintLast Go.Proofs.YtggfcmondffodaaDoorW.PrintMore
set_option linter.unusedVariables false
set_option linter.unusedSimpArgs false
theorem Apply_any (s : ByteArray) (A : Option Addr) (c : Nat) (l : List Sp) (w : World) (hr : Kd.C k48 w A l.length l) (hc : l.length ≤ c) (hs : s.size ≤ 3000) (hl : l.length ≤ 1000) (hx : ∀ x ∈ l, x.f2.size ≤ 3000) :
    Calls Tryd.prog 27 #[.string s, .slice A l.length c] w fun e w' => e = .returned (.tuple #[.string (appM s l).1, .int .i64 (appM s l).2]) ∧ Below w.heap.size w w' := by
  have h := pSplices s l hs hl hx
  unfold appM
  by_cases c0 : splE s l = 0
  · rw [if_pos c0]
    obtain ⟨h1, h2, h3, h4⟩ := splE_ord c0
    have hb := splB_len s 3000 l 0 hx h3
    exact Apply_ok s A c l _ w hr hc (by omega) (by omega) (by rw [h, c0]) h3 (by omega)
  · rw [if_neg c0]
    exact Apply_bad s A c l _ _ w hr hc h c0
set_option maxRecDepth 100000
section
variable {H : Type} {enc : TypeId × Value → H} {W : World} {base : Nat} {sp : Nat → Bool} {held : Bool} {fuel : Nat} {cs : List Value} {x : DataW H × List MemPlace}
theorem weightsAll_mem {P : Program} {e : TypeId} : ∀ {l : List (DataW H)} {d : DataW H}, d ∈ l → ∀ n ∈ d.weights P e, n ∈ DataW.weightsAll P e l
  | [], d, hd, _, _ => by cases hd
  | d0 :: r, d, hd, n, hn => by
    simp only [DataW.weightsAll, List.mem_append]
    rcases List.mem_cons.1 hd with rfl | h
    · exact Or.inl hn
    · exact Or.inr (weightsAll_mem h n hn)
/-- A slice that reads as data, opened: Q is known of each element, as its weight allows it. -/
theorem opens_sliceQ {α : Type} (d : Kd α) (Q : α → Prop) {t e : TypeId} (ht : Tryd.prog.underlying t = some (.slice e)) (hsz : Tryd.prog.cellsOf e = d.sz)
    (hbytes : 1 ≤ Tryd.prog.bytesOf e)
    (he : ∀ (n : Nat) (c : List Value) (y : DataW H × List MemPlace), DataW.trod enc Tryd.prog W base sp held n e c = some y → (∀ n ∈ y.1.weights Tryd.prog e, n ≤ reachBytes) → ∃ a, d.K W a c ∧ Q a)
    (h : DataW.trod enc Tryd.prog W base sp held fuel t cs = some x) (hw : ∀ n ∈ x.1.weights Tryd.prog t, n ≤ reachBytes) : ∃ A c xs, cs = [.slice A xs.length c] ∧ xs.length ≤ c ∧ d.C W A xs.length xs ∧ xs.length ≤ reachBytes ∧ ∀ a ∈ xs, Q a := by
  rcases Go.Deep.open_slice ht h with ⟨rfl, _⟩ | ⟨a, len, cap, m, n, D, Pl, rfl, hb, hl, hm, hmm, rfl, hx⟩
  · exact ⟨none, 0, [], rfl, Nat.le_refl _, ⟨rfl, by simp, fun h => absurd h (by simp)⟩, Nat.zero_le _, fun a ha => by cases ha⟩
  · have hlm : len ≤ m := by rw [hmm]; split <;> omega
    have hwl : len ≤ reachBytes := by
      have := hw (((List.range len).map D).length + ((List.range (m - len)).map fun j => D (len + j)).length |> (· * Tryd.prog.bytesOf e)) (by simp [DataW.weights, ht])
      simp only [List.length_map, List.length_range] at this
      have h2 : len * 1 ≤ (len + (m - len)) * Tryd.prog.bytesOf e := Nat.mul_le_mul (by omega) hbytes
      omega
    have hex : ∀ i, i < len → ∃ p : α × List Value, W.cells? base (a.add (i * Tryd.prog.cellsOf e)) (Tryd.prog.cellsOf e) = some p.2 ∧ (d.K W p.1 p.2 ∧ Q p.1) := fun i hi => by
      obtain ⟨c, h1, h2⟩ := hx i (by omega)
      obtain ⟨p, hp⟩ := he _ _ _ h2 (fun n hn => hw n (by
        simp only [DataW.weights, ht, List.mem_cons, List.mem_append]
        exact Or.inr (Or.inl (weightsAll_mem (List.mem_map.2 ⟨i, List.mem_range.2 hi, rfl⟩) n hn))))
      exact ⟨(p, c), h1, hp⟩
    rcases Nat.eq_zero_or_pos len with rfl | hpos
    · exact ⟨some a, cap, [], rfl, Nat.zero_le _, ⟨rfl, by simp, fun h => absurd h (by simp)⟩, Nat.zero_le _, fun a ha => by cases ha⟩
    · have : Inhabited (α × List Value) := ⟨Classical.choose (hex 0 hpos)⟩
      obtain ⟨V, hV⟩ := Go.Deep.choose_lt hex
      have hlen : ((List.range len).map fun i => (V i).1).length = len := by simp
      refine ⟨some a, cap, (List.range len).map fun i => (V i).1, by rw [hlen], by rw [hlen]; exact hl, ⟨rfl, by rw [hlen]; simp only [maxLen] at hm; omega, fun _ => ⟨a, rfl, ?_⟩⟩, by rw [hlen]; exact hwl, fun q hq => ?_⟩
      · intro j p hj
        obtain ⟨hjl, rfl⟩ := List.getElem?_eq_some_iff.1 hj
        rw [hlen] at hjl
        obtain ⟨h1, h2, _⟩ := hV j hjl
        rw [hsz] at h1
        obtain ⟨_, h3, h4⟩ := World.cells?_some h1
        refine ⟨(V j).2, h3, by simpa using h2, fun i u hu => ?_⟩
        have hi : i < d.sz := by rw [← h3]; exact (List.getElem?_eq_some_iff.1 hu).1
        have h5 := h4 i hi
        rw [Go.Deep.add_add] at h5
        rw [h5, hu]
      · obtain ⟨i, hi, rfl⟩ := List.mem_map.1 hq
        exact (hV i (List.mem_range.1 hi)).2.2
theorem cells_i : Tryd.prog.cellsOf 3 = 1 := by kernel_rfl
theorem cells_s : Tryd.prog.cellsOf 9 = 1 := by kernel_rfl
theorem cells_k : Tryd.prog.cellsOf 5 = 1 := by kernel_rfl
theorem cells_S : Tryd.prog.cellsOf 48 = 3 := by kernel_rfl
theorem opens_cs_splice (h : DataW.trod enc Tryd.prog W base sp held fuel 48 cs = some x) (hw : ∀ n ∈ x.1.weights Tryd.prog 48, n ≤ reachBytes) : ∃ a : Sp, cs = [.int .i64 a.f0, .int .i64 a.f1, .string a.f2] ∧ a.f2.size ≤ 140737488351232 := by
  obtain ⟨y0, y1, y2, n, e, hl, h0, h1, h2⟩ := Go.Deep.trod_struct3 Tryd.underlying48 h
  rw [cells_S] at hl
  match cs, hl with
  | [a, b, c], _ =>
    simp only [cells_i, cells_s, cells_k, List.drop_zero, List.drop_succ_cons, List.take_succ_cons, List.take_zero] at h0 h1 h2
    have ha : DataW.trod enc Tryd.prog W base sp held n 3 [a] = some y0 := h0
    have hb : DataW.trod enc Tryd.prog W base sp held n 3 [b] = some y1 := h1
    have hc : DataW.trod enc Tryd.prog W base sp held n 9 [c] = some y2 := h2
    obtain ⟨b0, e0, _⟩ := DataW.trod_int Tryd.underlying3 ha
    obtain ⟨b1, e1, _⟩ := DataW.trod_int Tryd.underlying3 hb
    obtain ⟨b2, e2, e3, _⟩ := DataW.trod_string Tryd.underlying9 hc
    cases e0
    cases e1
    cases e2
    subst e3
    subst e
    refine ⟨⟨b0, b1, b2⟩, rfl, ?_⟩
    have := hw b2.data.toList.length (by simp [DataW.weights, DataW.weightsEach, Tryd.underlying48])
    rw [data_length] at this
    exact this
theorem bytes_S : 1 ≤ Tryd.prog.bytesOf 48 := of_decide_eq_true (by kernel_rfl)
/-- A row of splices that reads as data. -/
theorem opens_splices {r : Reach} {b0 : Nat} {v : Value} {d : DataW H} {p : List MemPlace} (hv : Value.okWide Tryd.prog W r b0 36 v) (h : DataW.Trod enc Tryd.prog W base sp held 36 v d p) (hw : ∀ n ∈ d.weights Tryd.prog 36, n ≤ reachBytes) :
    ∃ A c l, v = .slice A l.length c ∧ l.length ≤ c ∧ k48.C W A l.length l ∧ l.length ≤ 140737488351232 ∧ ∀ x ∈ l, x.f2.size ≤ 140737488351232 := by
  obtain ⟨a, n, c, rfl⟩ := okWide_slice Tryd.underlying36 hv
  obtain ⟨fuel, hf⟩ := h
  obtain ⟨A, cp, xs, e0, hle, hC, hl, hQ⟩ := opens_sliceQ k48 (fun x => x.f2.size ≤ 140737488351232) Tryd.underlying36 cells_S bytes_S (fun n c y hy hn => by obtain ⟨p, rfl, hp⟩ := opens_cs_splice hy hn; exact ⟨p, k48_mk W p, hp⟩) hf hw
  have e : (Value.slice a n c).cells.toList = [.slice a n c] := rfl
  rw [e] at e0
  cases e0
  exact ⟨_, _, xs, rfl, hle, hC, hl, hQ⟩
end
end Go.Proofs.YtggfcmondffodaaDoor.P
namespace Go.Proofs.YtggfcmondffodaaDoor.P
open Go.RowKit Go.Proofs.YtggfcmondffodaaDoorW.PrintWords Go.Proofs.YtggfcmondffodaaDoorW.PrintLast Go.Proofs.YtggfcmondffodaaDoorW.PrintMore
attribute [local go_sem] min2_int min_two -- for this text's walks alone
set_option linter.unusedVariables false
set_option linter.unusedSimpArgs false

/-! ### riposteref01_Rename: function 22 -/

-- NOT PRINTED: function 4 (ripostelaw01_LexRenames)

-- NOT PRINTED: function 5 (ripostelaw01_LexRenamed)

-- NOT PRINTED: function 54 (lex_common_byte)

-- NOT PRINTED: function 55 (lex_ending_byte)

-- NOT PRINTED: function 23 (lex_Diff)

end Go.Proofs.YtggfcmondffodaaDoor.P
namespace Go.Proofs.YtggfcmondffodaaDoor.P
open Go.RowKit Go.Proofs.YtggfcmondffodaaDoorW.PrintWords
set_option linter.unusedVariables false
set_option linter.unusedSimpArgs false
theorem renS_cons_pos (old name : ByteArray) (x : Tk) (r : List Tk) (h : x.f1 = old) : renS old name (x :: r) = ⟨x.f2, x.f2 + (old.size : Int), name⟩ :: renS old name r := by
  unfold renS; rw [List.filter_cons_of_pos (by exact decide_eq_true h)]; rfl
theorem renS_cons_neg (old name : ByteArray) (x : Tk) (r : List Tk) (h : ¬ x.f1 = old) : renS old name (x :: r) = renS old name r := by
  unfold renS; rw [List.filter_cons_of_neg (by simpa using h)]
theorem tok_name {s : ByteArray} {l : List Tk} {i j : Nat} (h : Scan s i l j) {t : ByteArray} (ht : nameB t = true) : ∀ x ∈ l, x.f1 = t → x.f0 = 1 := by
  intro x hx e
  obtain ⟨n, -, -, -, hf⟩ := h.mem x hx
  have h1 := (firstM_self kwM hf).1
  rw [e] at h1
  unfold nameB rightB at ht
  have ht2 : (decide ((firstM kwM t).2 = 0) && (decide ((firstM kwM t).1.1 = 1) && decide ((firstM kwM t).1.2 = t))) = true := ht
  rw [h1] at ht2
  simpa using ht2
/-- The bytes from a place on. -/
def Lr (s : ByteArray) (i : Nat) : List UInt8 := s.data.toList.drop i
theorem Lr_ex (s : ByteArray) (i : Nat) : (s.extract i s.size).data.toList = Lr s i := by
  rw [data_ex, List.take_of_length_le (by rw [data_length]; exact Nat.le_refl _)]; rfl
theorem Lr_len (s : ByteArray) (i : Nat) : (Lr s i).length = s.size - i := by unfold Lr; rw [List.length_drop, data_length]
theorem Lr_split (s : ByteArray) (i n : Nat) (h : i + n ≤ s.size) : Lr s i = (s.extract i (i + n)).data.toList ++ Lr s (i + n) := by
  unfold Lr
  rw [data_ex, ← List.drop_drop, List.drop_take, Nat.add_sub_cancel_left]
  exact (List.take_append_drop n _).symm
theorem bt_Lr (s : ByteArray) (i j : Nat) : bt s ((i + j : Nat) : Int) = (((Lr s i)[j]?).getD 0).toNat := by
  rw [bt_list]; unfold Lr; rw [List.getElem?_drop]
theorem bt_head (s : ByteArray) (i : Nat) : bt s (i : Int) = (((Lr s i)[0]?).getD 0).toNat := bt_Lr s i 0
theorem Lr_app {s : ByteArray} {i : Nat} {A B : List UInt8} (h : Lr s i = A ++ B) : Lr s (i + A.length) = B ∧ (i ≤ s.size → i + A.length ≤ s.size) := by
  have hl := Lr_len s i
  rw [h, List.length_append] at hl
  refine ⟨?_, fun hi => by omega⟩
  have : Lr s (i + A.length) = (Lr s i).drop A.length := by unfold Lr; rw [List.drop_drop]
  rw [this, h, List.drop_left]
/-- At a place stand these bytes. -/
theorem begT_Lr {s z : ByteArray} {i : Nat} {B : List UInt8} (hi : i ≤ s.size) (h : Lr s i = z.data.toList ++ B) : begT (s.extract i s.size) z ∧ i + z.size ≤ s.size ∧ Lr s (i + z.size) = B ∧ bt (s.extract i s.size) (z.size : Int) = bt s ((i + z.size : Nat) : Int) := by
  obtain ⟨h1, h2⟩ := Lr_app h
  rw [data_length] at h1 h2
  have h3 := h2 hi
  have hb : ∀ j : Nat, bt (s.extract i s.size) (j : Int) = bt s ((i + j : Nat) : Int) := by
    intro j
    by_cases c : i + j < s.size
    · exact bt_ex s i s.size j c
    · rw [bt_out _ _ (by rw [size_ex]; omega), bt_out s _ (by omega)]
  refine ⟨⟨by rw [size_ex]; omega, fun j hj => ?_⟩, h3, h1, hb _⟩
  rw [hb, bt_Lr, h, List.getElem?_append_left (by rw [data_length]; exact hj), ← bt_list]
theorem Lr_begT {s z : ByteArray} {i : Nat} (hi : i ≤ s.size) (h : begT (s.extract i s.size) z) : Lr s i = z.data.toList ++ Lr s (i + z.size) ∧ i + z.size ≤ s.size := by
  have hz := h.1
  rw [size_ex] at hz
  have h2 := begT_ex h
  rw [ex_ex s i s.size 0 z.size (by omega), Nat.add_zero] at h2
  refine ⟨?_, by omega⟩
  rw [Lr_split s i z.size (by omega), h2]
theorem splB_skip (s : ByteArray) (R : List Sp) (i n : Nat) (h : OrdS s.size R ((i + n : Nat) : Int)) : splB s R (i : Int) = (s.extract i (i + n)).data.toList ++ splB s R ((i + n : Nat) : Int) := by
  cases R with
  | nil =>
    unfold splB
    have h2 := h.2
    rw [Int.toNat_natCast, Int.toNat_natCast, Lr_ex, Lr_ex]
    exact Lr_split s i n (by omega)
  | cons x r =>
    obtain ⟨h1, h2, h3, h4, -⟩ := h
    unfold splB
    rw [Int.toNat_natCast, Int.toNat_natCast]
    have e : (s.extract i x.f0.toNat) = s.extract i (i + n) ++ s.extract (i + n) x.f0.toNat := by
      apply ba_ext
      rw [app_ba, ba_data, data_ex, data_ex, data_ex]
      have hh : i + n ≤ x.f0.toNat := by omega
      rw [List.drop_take, List.drop_take, List.drop_take, ← List.drop_drop, Nat.add_sub_cancel_left]
      conv => lhs; rw [show x.f0.toNat - i = n + (x.f0.toNat - (i + n)) by omega, List.take_add]
    rw [e, app_ba, ba_data, List.append_assoc]
theorem Scan.ord {s : ByteArray} {i j : Nat} {l : List Tk} (h : Scan s i l j) (hj : j ≤ s.size) : TOrd s.size l (i : Int) := by
  induction h with
  | done i => show (i : Int) ≤ s.size; omega
  | blank _ _ _ ih => exact (ih hj).le (by omega)
  | note _ _ _ ih => exact (ih hj).le (by omega)
  | @tok i j l k t h1 h2 h3 h4 h5 ih =>
    have := tok_size h4
    exact ⟨Int.le_refl _, by simp only; omega, by have := ih hj; rw [show ((i : Int) + (t.size : Int)) = ((i + t.size : Nat) : Int) by omega]; exact this⟩
theorem noteL_uniq (s : ByteArray) (i n : Nat) (h1 : ∀ k, k < n → i + k < s.size ∧ bt s ((i + k : Nat) : Int) ≠ 10) (h2 : s.size ≤ i + n ∨ bt s ((i + n : Nat) : Int) = 10) : noteL s i = n := by
  have key : ∀ f i n, s.size - i ≤ f → (∀ k, k < n → i + k < s.size ∧ bt s ((i + k : Nat) : Int) ≠ 10) → (s.size ≤ i + n ∨ bt s ((i + n : Nat) : Int) = 10) → ll s f i = n := by
    intro f
    induction f with
    | zero =>
      intro i n hf h1 h2
      cases n with
      | zero => rfl
      | succ n => have := (h1 0 (by omega)).1; omega
    | succ f ih =>
      intro i n hf h1 h2
      unfold ll
      cases n with
      | zero =>
        rw [if_neg]
        rintro ⟨a, b⟩
        rcases h2 with h2 | h2
        · omega
        · exact b h2
      | succ n =>
        rw [if_pos (show i < s.size ∧ bt s (i : Int) ≠ 10 from h1 0 (by omega)), ih (i + 1) n (by omega) (fun k hk => by have := h1 (k + 1) (by omega); rw [show i + 1 + k = i + (k + 1) by omega]; exact this) (by rw [show i + 1 + n = i + (n + 1) by omega]; exact h2)]
  exact key s.size i n (by omega) h1 h2
theorem noteL_in (s : ByteArray) (i : Nat) : (∀ k, k < noteL s i → i + k < s.size ∧ bt s ((i + k : Nat) : Int) ≠ 10) ∧ (s.size ≤ i + noteL s i ∨ bt s ((i + noteL s i : Nat) : Int) = 10) := by
  have key : ∀ f i, s.size - i ≤ f → (∀ k, k < ll s f i → i + k < s.size ∧ bt s ((i + k : Nat) : Int) ≠ 10) ∧ (s.size ≤ i + ll s f i ∨ bt s ((i + ll s f i : Nat) : Int) = 10) := by
    intro f
    induction f with
    | zero => intro i hf; exact ⟨fun k hk => absurd hk (Nat.not_lt_zero _), .inl (by show s.size ≤ i + 0; omega)⟩
    | succ f ih =>
      intro i hf
      unfold ll
      by_cases c : i < s.size ∧ bt s (i : Int) ≠ 10
      · rw [if_pos c]
        obtain ⟨a, b⟩ := ih (i + 1) (by omega)
        refine ⟨fun k hk => ?_, by rw [show i + (ll s f (i + 1) + 1) = i + 1 + ll s f (i + 1) by omega]; exact b⟩
        cases k with
        | zero => exact c
        | succ k => have := a k (by omega); rw [show i + (k + 1) = i + 1 + k by omega]; exact this
      · rw [if_neg c]
        refine ⟨fun k hk => absurd hk (Nat.not_lt_zero _), ?_⟩
        by_cases c2 : i < s.size
        · exact .inr (Classical.not_not.1 fun h => c ⟨c2, h⟩)
        · exact .inl (by omega)
  exact key s.size i (by omega)
/-- A name by itself. -/
theorem name_self {t : ByteArray} (h : nameB t = true) : firstM kwM t = ((1, t), 0) := by
  have h2 : (decide ((firstM kwM t).2 = 0) && (decide ((firstM kwM t).1.1 = 1) && decide ((firstM kwM t).1.2 = t))) = true := h
  simp only [Bool.and_eq_true, decide_eq_true_eq] at h2
  obtain ⟨a, b, c⟩ := h2
  exact Prod.ext (Prod.ext b c) a
theorem name_small {t : ByteArray} (h : nameB t = true) : smB (bt t 0) = true ∧ ∀ j, j < t.size → wdB (bt t (j : Int)) = true := by
  have h1 := name_self h
  obtain ⟨-, -, -, h0, h4⟩ := firstM_self kwM h1
  have hw : wlen t ≠ 0 := fun e => by have := h4.2 e; cases this
  have hz : wlen t = t.size ∧ smB (bt t 0) = true := by
    unfold firstM at h1
    rw [if_neg hw] at h1
    by_cases c2 : dgB (bt t 0) = true
    · rw [if_pos c2] at h1
      exact absurd (show (2 : Int) = 1 from congrArg (fun y => y.1.1) h1) (by decide)
    · rw [if_neg c2] at h1
      by_cases c3 : smB (bt t 0) = false
      · rw [if_pos c3] at h1
        exact absurd (show (0 : Int) = 1 from congrArg (fun y => y.1.1) h1) (by decide)
      · rw [if_neg c3] at h1
        by_cases c4 : kwM (t.extract 0 (wlen t)) = true
        · rw [if_pos c4] at h1
          exact absurd (show (3 : Int) = 1 from congrArg (fun y => y.1.1) h1) (by decide)
        · rw [if_neg c4] at h1
          by_cases c5 : 12 < (t.extract 0 (wlen t)).size
          · rw [if_pos c5] at h1
            exact absurd (show (0 : Int) = 1 from congrArg (fun y => y.1.1) h1) (by decide)
          · rw [if_neg c5] at h1
            have e : t.extract 0 (wlen t) = t := congrArg (fun y => y.1.2) h1
            have := congrArg ByteArray.size e
            have := wlen_le t
            rw [size_ex] at *
            exact ⟨by omega, by simpa using c3⟩
  exact ⟨hz.2, fun j hj => wlen_in t j (by omega)⟩
theorem sm_word {c : Int} (h : smB c = true) : wdB c = true ∧ spB c = false ∧ c ≠ 126 ∧ c ≠ 61 ∧ c ≠ 62 := by
  unfold smB at h
  simp only [Bool.and_eq_true, decide_eq_true_eq] at h
  refine ⟨?_, ?_, by omega, by omega, by omega⟩
  · unfold wdB smB; rw [decide_eq_true h.1, decide_eq_true h.2]; simp
  · rw [Bool.eq_false_iff]; intro e; rw [spB_iff] at e; omega
theorem nx_swap {k : Int} {t : ByteArray} {c d : Int} (h : nxB k t c = true) (hd : d = c ∨ (smB c = true ∧ smB d = true)) : nxB k t d = true := by
  rcases hd with rfl | ⟨h1, h2⟩
  · exact h
  · unfold nxB at h ⊢
    by_cases e : k = 4
    · rw [if_pos e]
      obtain ⟨-, -, -, a, b⟩ := sm_word h2
      rw [decide_eq_false a, decide_eq_false b]; simp
    · rw [if_neg e, (sm_word h1).1] at h; cases h
/-- The tokens, moved by so much, the one name for the other one. -/
def mvT (old name : ByteArray) : List Tk → Int → List Tk
  | [], _ => []
  | x :: r, d => ⟨x.f0, if x.f1 = old then name else x.f1, x.f2 + d⟩ :: mvT old name r (if x.f1 = old then d + ((name.size : Int) - (old.size : Int)) else d)
theorem mvT_length (old name : ByteArray) : ∀ (l : List Tk) (d : Int), (mvT old name l d).length = l.length
  | [], _ => rfl
  | x :: r, d => by unfold mvT; rw [List.length_cons, List.length_cons, mvT_length old name r]
theorem Scan.end_nil {s : ByteArray} {i j : Nat} {l : List Tk} (h : Scan s i l j) (hi : s.size ≤ i) : l = [] := by
  cases h with
  | done => rfl
  | blank h1 => omega
  | note h1 => omega
  | tok h1 => omega
theorem Scan.at_lf {old name s : ByteArray} {i j : Nat} {l : List Tk} (h : Scan s i l j) (hi : bt s (i : Int) = 10) (hj : j ≤ s.size) : OrdS s.size (renS old name l) ((i + 1 : Nat) : Int) ∨ (l = [] ∧ i = j) := by
  cases h with
  | done => exact .inr ⟨rfl, rfl⟩
  | blank h1 h2 h3 => exact .inl (renS_ord _ _ _ _ _ _ (h3.ord hj) (by omega) (Int.le_refl _))
  | note h1 h2 => rw [hi] at h2; cases h2
  | tok h1 h2 => rw [hi] at h2; cases h2
/-- The first byte behind splices: the text's own one, or both are names' first ones. -/
theorem head_spl (s old name : ByteArray) (ho : nameB old = true) (hn : nameB name = true) {i j : Nat} {l : List Tk} (h : Scan s i l j) (hj : j = s.size) (t : ByteArray) (m : Nat) (hm : Lr t m = splB s (renS old name l) (i : Int)) :
    bt t (m : Int) = bt s (i : Int) ∨ (smB (bt s (i : Int)) = true ∧ smB (bt t (m : Int)) = true) := by
  have hbt : ∀ n, 0 < n → OrdS s.size (renS old name l) ((i + n : Nat) : Int) → bt t (m : Int) = bt s (i : Int) := by
    intro n hn0 hO
    have hle := hO.range.2
    rw [splB_skip s _ i n hO] at hm
    rw [bt_head, hm, List.getElem?_append_left (by rw [data_length, size_ex]; omega), bt_head s i, Lr_split s i n (by omega), List.getElem?_append_left (by rw [data_length, size_ex]; omega)]
  cases h with
  | done =>
    refine .inl ?_
    rw [show renS old name ([] : List Tk) = [] from rfl, splB, Int.toNat_natCast, Lr_ex] at hm
    rw [bt_head, hm, ← bt_head]
  | blank h1 h2 h3 => exact .inl (hbt 1 Nat.one_pos (renS_ord _ _ _ _ _ _ (h3.ord (by omega)) (by omega) (Int.le_refl _)))
  | note h1 h2 h3 => exact .inl (hbt (noteL s i) (noteL_pos s i h1 h2) (renS_ord _ _ _ _ _ _ (h3.ord (by omega)) (by omega) (Int.le_refl _)))
  | @tok _ _ r k z h1 h2 h3 h4 h5 =>
    have hz := tok_size h4
    by_cases c : z = old
    · refine .inr ?_
      obtain ⟨h6, h7, -, -, -⟩ := firstM_self kwM h4
      obtain ⟨h8, -⟩ := Lr_begT (by omega) h7
      rw [renS_cons_pos old name _ _ c, splB] at hm
      simp only [Int.toNat_natCast] at hm
      rw [ex_empty s i i (.inl (Nat.le_refl _))] at hm
      have hm2 : Lr t m = name.data.toList ++ splB s (renS old name r) ((i : Int) + (old.size : Int)) := hm
      have e1 : bt t (m : Int) = bt name 0 := by
        rw [bt_head, hm2]
        obtain ⟨-, -, -, h0, -⟩ := firstM_self kwM (name_self hn)
        rw [List.getElem?_append_left (by rw [data_length]; exact h0), show (0 : Int) = ((0 : Nat) : Int) from rfl, bt_list]
      have e2 : bt s (i : Int) = bt old 0 := by
        rw [bt_head, h8, c]
        rw [List.getElem?_append_left (by rw [data_length, ← c]; exact hz.1), show (0 : Int) = ((0 : Nat) : Int) from rfl, bt_list]
      rw [e1, e2]
      exact ⟨(name_small ho).1, (name_small hn).1⟩
    · rw [renS_cons_neg old name _ _ c] at hm hbt
      exact .inl (hbt z.size hz.1 (renS_ord _ _ _ _ _ _ (h5.ord (by omega)) (by omega) (Int.le_refl _)))
theorem copy_step {s t : ByteArray} {R : List Sp} {i n m : Nat} (hO : OrdS s.size R ((i + n : Nat) : Int)) (hm : m ≤ t.size) (h : Lr t m = splB s R (i : Int)) :
    m + n ≤ t.size ∧ Lr t (m + n) = splB s R ((i + n : Nat) : Int) ∧ (∀ k, k < n → bt t ((m + k : Nat) : Int) = bt s ((i + k : Nat) : Int)) ∧ t.extract m (m + n) = s.extract i (i + n) ∧ Lr t m = (s.extract i (i + n)).data.toList ++ splB s R ((i + n : Nat) : Int) := by
  have hle := hO.range.2
  rw [splB_skip s R i n hO] at h
  have hz : (s.extract i (i + n)).size = n := by rw [size_ex]; omega
  obtain ⟨h1, h2, h3, -⟩ := begT_Lr hm h
  rw [hz] at h2 h3
  refine ⟨h2, h3, fun k hk => ?_, ?_, h⟩
  · rw [bt_Lr t m k, h, List.getElem?_append_left (by rw [data_length, hz]; exact hk), ← bt_list, bt_ex s i (i + n) k (by omega)]
  · have := begT_ex h1
    rw [hz, ex_ex t m t.size 0 n (by omega), Nat.add_zero] at this
    exact this
theorem back_step {s t : ByteArray} {R : List Sp} {i n m : Nat} (hi : i + n ≤ s.size) (hO : OrdS t.size R ((m + n : Nat) : Int)) (he : t.extract m (m + n) = s.extract i (i + n)) (h : splB t R ((m + n : Nat) : Int) = Lr s (i + n)) : splB t R (m : Int) = Lr s i := by
  rw [splB_skip t R m n hO, he, h, ← Lr_split s i n hi]
theorem nat_off (i m n : Nat) : ((m + n : Nat) : Int) - ((i + n : Nat) : Int) = (m : Int) - (i : Int) := by omega
set_option maxHeartbeats 1000000 in
theorem scan_ren (s old name : ByteArray) (ho : nameB old = true) (hn : nameB name = true) {i j : Nat} {l : List Tk} (h : Scan s i l j) (hj : j = s.size) (hno : ∀ x ∈ l, x.f1 ≠ name) : ∀ (t : ByteArray) (m : Nat), i ≤ s.size → m ≤ t.size → Lr t m = splB s (renS old name l) (i : Int) →
    Scan t m (mvT old name l ((m : Int) - (i : Int))) t.size ∧ splB t (renS name old (mvT old name l ((m : Int) - (i : Int)))) (m : Int) = Lr s i := by
  induction h with
  | done i =>
    intro t m hi hm hL
    have e : splB s (renS old name []) (i : Int) = Lr s i := by
      rw [show renS old name ([] : List Tk) = [] from rfl, splB, Int.toNat_natCast, Lr_ex]
    rw [e] at hL
    have h1 := Lr_len t m
    have h2 := Lr_len s i
    rw [hL, h2] at h1
    obtain rfl : m = t.size := by omega
    refine ⟨.done _, ?_⟩
    show splB t (renS name old ([] : List Tk)) (t.size : Int) = _
    rw [show renS name old ([] : List Tk) = [] from rfl, splB, Int.toNat_natCast, Lr_ex]
    exact hL
  | @blank i j l h1 h2 h3 ih =>
    intro t m hi hm hL
    have hO := renS_ord s.size old name l _ ((i + 1 : Nat) : Int) (h3.ord (by omega)) (by omega) (Int.le_refl _)
    obtain ⟨c1, c2, c3, c4, -⟩ := copy_step hO hm hL
    obtain ⟨r1, r2⟩ := ih hj hno t (m + 1) (by omega) c1 c2
    rw [nat_off] at r1 r2
    have e : bt t (m : Int) = bt s (i : Int) := c3 0 Nat.one_pos
    refine ⟨.blank (by omega) (by rw [e]; exact h2) r1, back_step (by omega) (renS_ord _ _ _ _ _ _ (r1.ord (Nat.le_refl _)) (by omega) (Int.le_refl _)) c4 r2⟩
  | @note i j l h1 h2 h3 ih =>
    intro t m hi hm hL
    have hp := noteL_pos s i h1 h2
    have hle := noteL_le s i hi
    have hO := renS_ord s.size old name l _ ((i + noteL s i : Nat) : Int) (h3.ord (by omega)) (by omega) (Int.le_refl _)
    obtain ⟨c1, c2, c3, c4, -⟩ := copy_step hO hm hL
    obtain ⟨r1, r2⟩ := ih hj hno t (m + noteL s i) hle c1 c2
    rw [nat_off] at r1 r2
    have e : bt t (m : Int) = bt s (i : Int) := c3 0 hp
    obtain ⟨n1, n2⟩ := noteL_in s i
    have hN : noteL t m = noteL s i := by
      refine noteL_uniq t m _ (fun k hk => ⟨by omega, by rw [c3 k hk]; exact (n1 k hk).2⟩) ?_
      rcases n2 with n2 | n2
      · refine .inl ?_
        have hl := h3.end_nil n2
        subst hl
        rw [show renS old name ([] : List Tk) = [] from rfl, splB, Int.toNat_natCast, Lr_ex] at c2
        have q1 := Lr_len t (m + noteL s i)
        have q2 := Lr_len s (i + noteL s i)
        rw [c2, q2] at q1
        omega
      · refine .inr ?_
        rcases head_spl s old name ho hn h3 hj t (m + noteL s i) c2 with q | ⟨q, -⟩
        · rw [q]; exact n2
        · rw [n2] at q; exact absurd q (by decide)
    refine ⟨.note (by omega) (by rw [e]; exact h2) (by rw [hN]; exact r1), back_step hle (renS_ord _ _ _ _ _ _ (r1.ord (Nat.le_refl _)) (by omega) (Int.le_refl _)) c4 r2⟩
  | @tok i j l k z h1 h2 h3 h4 h5 ih =>
    intro t m hi hm hL
    have hz := tok_size h4
    obtain ⟨f1, f2, f3, f4, f5⟩ := firstM_self kwM h4
    obtain ⟨g1, g2⟩ := Lr_begT hi f2
    rw [(begT_Lr hi g1).2.2.2] at f3
    have hno' : ∀ x ∈ l, x.f1 ≠ name := fun x hx => hno x (List.mem_cons_of_mem _ hx)
    by_cases c : z = old
    · subst c
      have hk1 : k = 1 := congrArg (fun y => y.1.1) (f1.symm.trans (name_self ho))
      subst hk1
      rw [renS_cons_pos z name _ _ rfl, splB] at hL
      simp only [Int.toNat_natCast] at hL
      rw [ex_empty s i i (.inl (Nat.le_refl _))] at hL
      replace hL : Lr t m = name.data.toList ++ splB s (renS z name l) ((i + z.size : Nat) : Int) := hL
      obtain ⟨b1, b2, b3, b4⟩ := begT_Lr hm hL
      obtain ⟨r1, r2⟩ := ih hj hno' t (m + name.size) hz.2 b2 b3
      have hoff : (m : Int) - (i : Int) + ((name.size : Int) - (z.size : Int)) = ((m + name.size : Nat) : Int) - ((i + z.size : Nat) : Int) := by omega
      have hmv : mvT z name (⟨1, z, (i : Int)⟩ :: l) ((m : Int) - (i : Int)) = ⟨1, name, (m : Int)⟩ :: mvT z name l (((m + name.size : Nat) : Int) - ((i + z.size : Nat) : Int)) := by
        rw [mvT]
        simp only [if_true]
        rw [hoff, show (i : Int) + ((m : Int) - (i : Int)) = (m : Int) by omega]
      rw [hmv]
      have hfn := name_self hn
      obtain ⟨-, -, -, hn0, -⟩ := firstM_self kwM hfn
      have hnx : nxB 1 name (bt (t.extract m t.size) (name.size : Int)) = true := by
        rw [b4]
        have : nxB 1 name (bt s ((i + z.size : Nat) : Int)) = true := f3
        exact nx_swap this (head_spl s z name ho hn h5 hj t _ b3)
      have hb0 : bt t (m : Int) = bt name 0 := by
        rw [bt_head, hL, List.getElem?_append_left (by rw [data_length]; exact hn0), show (0 : Int) = ((0 : Nat) : Int) from rfl, bt_list]
      obtain ⟨w1, w2, w3, -⟩ := sm_word (name_small hn).1
      refine ⟨.tok (by omega) (by rw [hb0]; exact w2) (by rw [hb0]; exact w3) (firstM_of kwM hfn b1 hnx) r1, ?_⟩
      rw [renS_cons_pos name z _ _ rfl, splB]
      simp only [Int.toNat_natCast]
      rw [ex_empty t m m (.inl (Nat.le_refl _)), g1]
      show z.data.toList ++ splB t (renS name z (mvT z name l (((m + name.size : Nat) : Int) - ((i + z.size : Nat) : Int)))) ((m + name.size : Nat) : Int) = _
      rw [r2]
    · have hzn : z ≠ name := hno _ List.mem_cons_self
      rw [renS_cons_neg old name _ _ c] at hL
      have hO := renS_ord s.size old name l _ ((i + z.size : Nat) : Int) (h5.ord (by omega)) (by omega) (Int.le_refl _)
      obtain ⟨c1, c2, c3, c4, c5⟩ := copy_step hO hm hL
      have hze : s.extract i (i + z.size) = z := by
        have := begT_ex f2
        rw [ex_ex s i s.size 0 z.size (by omega), Nat.add_zero] at this
        exact this
      rw [hze] at c5
      obtain ⟨b1, b2, b3, b4⟩ := begT_Lr hm c5
      obtain ⟨r1, r2⟩ := ih hj hno' t (m + z.size) hz.2 c1 c2
      rw [nat_off] at r1 r2
      have hmv : mvT old name (⟨k, z, (i : Int)⟩ :: l) ((m : Int) - (i : Int)) = ⟨k, z, (m : Int)⟩ :: mvT old name l ((m : Int) - (i : Int)) := by
        rw [mvT]
        simp only [if_neg c]
        rw [show (i : Int) + ((m : Int) - (i : Int)) = (m : Int) by omega]
      rw [hmv]
      have hnx : nxB k z (bt (t.extract m t.size) (z.size : Int)) = true := by
        rw [b4]
        exact nx_swap f3 (head_spl s old name ho hn h5 hj t _ b3)
      have e : bt t (m : Int) = bt s (i : Int) := c3 0 hz.1
      refine ⟨.tok (by omega) (by rw [e]; exact h2) (by rw [e]; exact h3) (firstM_of kwM f1 b1 hnx) r1, ?_⟩
      rw [renS_cons_neg name old _ _ hzn]
      exact back_step hz.2 (renS_ord _ _ _ _ _ _ (r1.ord (Nat.le_refl _)) (by omega) (Int.le_refl _)) c4 r2
theorem splB_all (P : UInt8 → Prop) (s : ByteArray) (hs : ∀ c ∈ s.data.toList, P c) : ∀ (R : List Sp) (a : Int), (∀ x ∈ R, ∀ c ∈ x.f2.data.toList, P c) → ∀ c ∈ splB s R a, P c
  | [], a, _, c, hc => by
    unfold splB at hc
    rw [data_ex] at hc
    exact hs c (List.mem_of_mem_take (List.mem_of_mem_drop hc))
  | x :: r, a, h, c, hc => by
    unfold splB at hc
    rcases List.mem_append.1 hc with hc | hc
    · rw [data_ex] at hc
      exact hs c (List.mem_of_mem_take (List.mem_of_mem_drop hc))
    · rcases List.mem_append.1 hc with hc | hc
      · exact h x List.mem_cons_self c hc
      · exact splB_all P s hs r x.f1 (fun y hy => h y (List.mem_cons_of_mem _ hy)) c hc
theorem bt_all (s : ByteArray) : (∀ i, i < s.size → okB (bt s (i : Int)) = true) ↔ ∀ c ∈ s.data.toList, okB (c.toNat : Int) = true := by
  constructor
  · intro h c hc
    obtain ⟨i, hi, rfl⟩ := List.getElem_of_mem hc
    have := h i (by rw [← data_length]; exact hi)
    rw [bt_list, List.getElem?_eq_getElem hi] at this
    exact this
  · intro h i hi
    have hi' : i < s.data.toList.length := by rw [data_length]; exact hi
    rw [bt_list, List.getElem?_eq_getElem hi']
    exact h _ (List.getElem_mem hi')
theorem wd_ok {c : Int} (h : wdB c = true) : okB c = true := by
  unfold wdB dgB smB gtB at h
  unfold okB
  simp only [Bool.or_eq_true, Bool.and_eq_true, decide_eq_true_eq] at h ⊢
  omega
/-- What the law LexRenamed compares of two tokens. -/
def ren1 (old name : ByteArray) (x y : Tk) : Prop := x.f0 = y.f0 ∧ ((x.f1 = y.f1 ∧ x.f1 ≠ old) ∨ (x.f0 = 1 ∧ x.f1 = old ∧ y.f1 = name))
inductive Two (P : Tk → Tk → Prop) : List Tk → List Tk → Prop
  | nil : Two P [] []
  | cons {x y : Tk} {a b : List Tk} : P x y → Two P a b → Two P (x :: a) (y :: b)
theorem mvT_two (old name : ByteArray) : ∀ (l : List Tk) (d : Int), (∀ x ∈ l, x.f1 = old → x.f0 = 1) → Two (ren1 old name) l (mvT old name l d)
  | [], _, _ => .nil
  | x :: r, d, h => by
    unfold mvT
    refine .cons ⟨rfl, ?_⟩ (mvT_two old name r _ fun y hy => h y (List.mem_cons_of_mem _ hy))
    by_cases c : x.f1 = old
    · exact .inr ⟨h x List.mem_cons_self c, c, if_pos c⟩
    · exact .inl ⟨(if_neg c).symm, c⟩
theorem mvT_name (old name : ByteArray) (hne : old ≠ name) : ∀ (l : List Tk) (d : Int), (mvT old name l d).any (fun t => decide (t.f1 = old)) = false
  | [], _ => rfl
  | x :: r, d => by
    unfold mvT
    rw [List.any_cons, mvT_name old name hne r, Bool.or_false]
    refine decide_eq_false ?_
    by_cases c : x.f1 = old
    · simp only [if_pos c]; exact fun e => hne e.symm
    · simp only [if_neg c]; exact c
theorem mvT_some (old name : ByteArray) : ∀ (l : List Tk) (d : Int), renS old name l ≠ [] → renS name old (mvT old name l d) ≠ []
  | [], _, h => absurd rfl h
  | x :: r, d, h => by
    unfold mvT
    by_cases c : x.f1 = old
    · rw [if_pos c, renS_cons_pos name old _ _ rfl]; exact List.cons_ne_nil _ _
    · rw [renS_cons_neg old name _ _ c] at h
      rw [if_neg c, if_neg c]
      by_cases c2 : x.f1 = name
      · rw [renS_cons_pos name old ⟨x.f0, x.f1, x.f2 + d⟩ _ c2]; exact List.cons_ne_nil _ _
      · rw [renS_cons_neg name old ⟨x.f0, x.f1, x.f2 + d⟩ _ c2]; exact mvT_some old name r d h
/-- A text that is renamed, and renamed back, is the text before; the kinds of its tokens stay. -/
theorem renamed (s old name t : ByteArray) (h : renM s old name = (t, 0)) : renM t name old = (s, 0) ∧ (toksM kwM s).2.2 = 0 ∧ (toksM kwM t).2.2 = 0 ∧ Two (ren1 old name) (toksM kwM s).1 (toksM kwM t).1 := by
  unfold renM at h
  by_cases c1 : (toksM kwM s).2.2 = 0
  · rw [if_neg (by simpa using c1)] at h
    by_cases c2 : nameB old = false ∨ nameB name = false
    · rw [if_pos c2] at h; exact absurd (show (2 : Int) = 0 from congrArg Prod.snd h) (by decide)
    · rw [if_neg c2] at h
      have ho : nameB old = true := by cases e : nameB old <;> simp_all
      have hn : nameB name = true := by cases e : nameB name <;> simp_all
      by_cases c3 : renS old name (toksM kwM s).1 = []
      · rw [if_pos c3] at h; exact absurd (show (7 : Int) = 0 from congrArg Prod.snd h) (by decide)
      · rw [if_neg c3] at h
        by_cases c4 : ((toksM kwM s).1.any fun t => decide (t.f1 = name)) = true
        · rw [if_pos c4] at h; exact absurd (show (6 : Int) = 0 from congrArg Prod.snd h) (by decide)
        · rw [if_neg c4] at h
          by_cases c5 : 2500 < (splM s (renS old name (toksM kwM s).1)).size
          · rw [if_pos c5] at h; exact absurd (show (5 : Int) = 0 from congrArg Prod.snd h) (by decide)
          · rw [if_neg c5] at h
            have ht : splM s (renS old name (toksM kwM s).1) = t := congrArg Prod.fst h
            obtain ⟨q1, q2, q3⟩ := (toks_iff s _).1 ⟨rfl, c1⟩
            obtain ⟨q4, q5⟩ := (chk_iff s).1 q1
            rw [ht] at c5
            refine ⟨?_, c1, ?_⟩
            all_goals
              generalize hA : (toksM kwM s).1 = a at *
              have hno : ∀ x ∈ a, x.f1 ≠ name := fun x hx e => c4 (List.any_eq_true.2 ⟨x, hx, decide_eq_true e⟩)
              have hLr : Lr t 0 = splB s (renS old name a) ((0 : Nat) : Int) := by rw [← ht]; rfl
              obtain ⟨r1, r2⟩ := scan_ren s old name ho hn q2 rfl hno t 0 (Nat.zero_le _) (Nat.zero_le _) hLr
              have htok : (toksM kwM t).1 = mvT old name a (((0 : Nat) : Int) - ((0 : Nat) : Int)) ∧ (toksM kwM t).2.2 = 0 := by
                refine (toks_iff t _).2 ⟨(chk_iff t).2 ⟨by omega, ?_⟩, r1, by rw [mvT_length]; exact q3⟩
                rw [bt_all]
                rw [bt_all] at q5
                intro c hc
                have hc2 : c ∈ splB s (renS old name a) ((0 : Nat) : Int) := by rw [← hLr]; exact hc
                refine splB_all (fun c => okB (c.toNat : Int) = true) s q5 _ _ (fun x hx c hc => ?_) c hc2
                unfold renS at hx
                obtain ⟨y, -, rfl⟩ := List.mem_map.1 hx
                exact (bt_all name).1 (fun i hi => wd_ok ((name_small hn).2 i hi)) c hc
            · have hone : old ≠ name := by
                intro e
                apply c4
                unfold renS at c3
                have : (a.filter fun t => decide (t.f1 = old)) ≠ [] := fun e => c3 (by rw [e]; rfl)
                obtain ⟨y, hy⟩ := List.exists_mem_of_ne_nil _ this
                have hy2 := List.mem_filter.1 hy
                exact List.any_eq_true.2 ⟨y, hy2.1, by rw [← e]; exact hy2.2⟩
              unfold renM
              rw [htok.1, if_neg (by simpa using htok.2), if_neg (by rw [ho, hn]; simp), if_neg (mvT_some old name a _ c3), mvT_name old name hone a, if_neg (by decide)]
              have hs : splM t (renS name old (mvT old name a (((0 : Nat) : Int) - ((0 : Nat) : Int)))) = s := by
                unfold splM
                apply ba_ext
                rw [ba_data]
                exact r2
              rw [hs, if_neg (by omega)]
            · refine ⟨htok.2, ?_⟩
              rw [htok.1]
              exact mvT_two old name a _ (tok_name q2 ho)
  · rw [if_pos (by simpa using c1)] at h
    exact absurd (congrArg Prod.snd h) c1
end Go.Proofs.YtggfcmondffodaaDoor.P
namespace Go.Proofs.YtggfcmondffodaaDoor.P
open Go.RowKit Go.Proofs.YtggfcmondffodaaDoorW.PrintWords
set_option linter.unusedVariables false
set_option linter.unusedSimpArgs false
attribute [local irreducible] gr
def sumG : List Sp → Int
  | [] => 0
  | x :: r => gr x + sumG r
theorem tailE_iff : ∀ (l : List Sp) (n : Int), tailE n l = 0 ↔ (∀ x ∈ l, badAt x.f2 x.f2.size 0 = none) ∧ n + sumG l ≤ 2500
  | [], n => by
    unfold tailE sumG
    by_cases c : n > 2500
    · rw [if_pos c]; exact iff_of_false (by decide) fun h => by have := h.2; omega
    · rw [if_neg c]; exact iff_of_true rfl ⟨fun x hx => (by cases hx), by omega⟩
  | x :: r, n => by
    unfold tailE sumG
    by_cases c : badAt x.f2 x.f2.size 0 = none
    · rw [if_pos c, tailE_iff r]
      constructor
      · rintro ⟨h1, h2⟩
        refine ⟨fun y hy => ?_, by omega⟩
        rcases List.mem_cons.1 hy with rfl | hy
        · exact c
        · exact h1 y hy
      · rintro ⟨h1, h2⟩
        exact ⟨fun y hy => h1 y (List.mem_cons_of_mem _ hy), by omega⟩
    · rw [if_neg c]
      exact iff_of_false (by decide) fun h => c (h.1 x List.mem_cons_self)
theorem bad_iff (s : ByteArray) (hs : s.size ≤ 2500) : badAt s s.size 0 = none ↔ ∀ c ∈ s.data.toList, okB (c.toNat : Int) = true := by
  rw [← bt_all]
  have h := chk_iff s
  rw [chkT_eq, if_neg (by omega)] at h
  constructor
  · intro e
    rw [e] at h
    exact (h.1 rfl).2
  · intro e
    have h2 := h.2 ⟨hs, e⟩
    cases hb : badAt s s.size 0 with
    | none => rfl
    | some j =>
      rw [hb] at h2
      exact absurd h2 (show ¬ (2 : Int) = 0 by decide)
theorem gr_eq (x : Sp) : gr x = (x.f2.size : Int) - (x.f1 - x.f0) := by unfold gr; rfl
theorem splB_length (s : ByteArray) : ∀ (l : List Sp) (a : Int), OrdS s.size l a → ((splB s l a).length : Int) + a = (s.size : Int) + sumG l
  | [], a, h => by
    unfold splB sumG
    rw [← size_len, size_ex]
    have := h.1; have := h.2
    omega
  | x :: r, a, h => by
    obtain ⟨h0, h1, h2, h3, h4⟩ := h
    have ih := splB_length s r x.f1 h4
    have hg := gr_eq x
    unfold splB sumG
    rw [List.length_append, List.length_append, ← size_len, ← size_len, size_ex]
    generalize gr x = g at *
    generalize sumG r = q at *
    generalize (splB s r x.f1).length = n at *
    omega
theorem unS_gr (s : ByteArray) : ∀ (l : List Sp) (a m : Int), OrdS s.size l a → sumG (unS s l m) = - sumG l
  | [], _, _, _ => rfl
  | x :: r, a, m, h => by
    obtain ⟨h0, h1, h2, h3, h4⟩ := h
    unfold unS
    rw [sumG, sumG, unS_gr s r x.f1 _ h4, gr_eq, gr_eq x]
    simp only
    rw [size_ex]
    generalize sumG r = q at *
    omega
theorem Lr_ex2 {s : ByteArray} {i j : Nat} (h : i ≤ j) (hj : j ≤ s.size) : Lr s i = (s.extract i j).data.toList ++ Lr s j := by
  have := Lr_split s i (j - i) (by omega)
  rw [show i + (j - i) = j by omega] at this
  exact this
/-- What stands at a place, and what behind it. -/
theorem Lr_take {t z : ByteArray} {i : Nat} {B : List UInt8} (hi : i ≤ t.size) (h : Lr t i = z.data.toList ++ B) : i + z.size ≤ t.size ∧ t.extract i (i + z.size) = z ∧ Lr t (i + z.size) = B := by
  obtain ⟨h1, h2, h3, -⟩ := begT_Lr hi h
  refine ⟨h2, ?_, h3⟩
  have := begT_ex h1
  rw [ex_ex t i t.size 0 z.size (by omega), Nat.add_zero] at this
  exact this
set_option maxHeartbeats 1000000 in
theorem undo_spl (s t : ByteArray) : ∀ (l : List Sp) (a m : Int), OrdS s.size l a → 0 ≤ a + m → (a + m).toNat ≤ t.size → Lr t (a + m).toNat = splB s l a →
    OrdS t.size (unS s l m) (a + m) ∧ splB t (unS s l m) (a + m) = Lr s a.toNat
  | [], a, m, h, h0, h1, hL => by
    unfold splB at hL
    rw [Lr_ex] at hL
    unfold unS splB
    rw [Lr_ex, hL]
    exact ⟨⟨h0, by omega⟩, rfl⟩
  | x :: r, a, m, h, h0, h1, hL => by
    obtain ⟨g0, g1, g2, g3, g4⟩ := h
    unfold splB at hL
    have hz : (s.extract a.toNat x.f0.toNat).size = x.f0.toNat - a.toNat := by rw [size_ex]; omega
    obtain ⟨k1, k2, k3⟩ := Lr_take h1 hL
    rw [hz] at k1 k2 k3
    have e1 : (a + m).toNat + (x.f0.toNat - a.toNat) = (x.f0 + m).toNat := by omega
    rw [e1] at k1 k2 k3
    obtain ⟨k4, k5, k6⟩ := Lr_take k1 k3
    have e2 : (x.f0 + m).toNat + x.f2.size = (x.f0 + m + (x.f2.size : Int)).toNat := by omega
    have e3 : x.f1 + (m + gr x) = x.f0 + m + (x.f2.size : Int) := by rw [gr_eq]; omega
    rw [e2] at k4 k6
    rw [← e3] at k4 k6
    obtain ⟨i1, i2⟩ := undo_spl s t r x.f1 (m + gr x) g4 (by rw [e3]; omega) k4 k6
    rw [e3] at i1 i2 k4
    unfold unS splB
    refine ⟨⟨h0, by simp only; omega, by simp only; omega, by simp only; omega, i1⟩, ?_⟩
    simp only
    rw [i2, k2, Lr_ex2 (i := a.toNat) (j := x.f0.toNat) (by omega) (by omega), Lr_ex2 (i := x.f0.toNat) (j := x.f1.toNat) (by omega) (by omega)]
theorem mvd_skip (p : Int) : ∀ (r : List Sp) (k : Int), (∀ y ∈ r, p < y.f0 ∧ y.f0 ≤ y.f1) → mvd p r k = (k, 0)
  | [], _, _ => rfl
  | y :: r, k, h => by
    have h1 := h y List.mem_cons_self
    unfold mvd
    rw [if_neg (by omega), if_neg (by omega)]
    exact mvd_skip p r k fun z hz => h z (List.mem_cons_of_mem _ hz)
theorem OrdS.above {n : Nat} {l : List Sp} {a p : Int} (h : OrdS n l a) (hp : p < a) : ∀ y ∈ l, p < y.f0 ∧ y.f0 ≤ y.f1 := fun y hy => by
  have := h.in y hy
  exact ⟨by omega, this.2.1⟩
theorem mvd_err (p : Int) : ∀ (r : List Sp) (k : Int), (mvd p r k).2 = 0 ∨ (mvd p r k).2 = 7
  | [], _ => .inl rfl
  | y :: r, k => by
    unfold mvd
    by_cases c : y.f1 ≤ p
    · rw [if_pos c]; exact mvd_err p r _
    · rw [if_neg c]
      by_cases c2 : y.f0 ≤ p
      · rw [if_pos c2]; exact .inr rfl
      · rw [if_neg c2]; exact mvd_err p r _
set_option maxHeartbeats 1000000 in
theorem mvd_back (s t : ByteArray) (p n : Int) : ∀ (l : List Sp) (a m : Int), OrdS s.size l a → 0 ≤ a + m → (a + m).toNat ≤ t.size → Lr t (a + m).toNat = splB s l a → a ≤ p → p < (s.size : Int) → mvd p l (p + m) = (n, 0) →
    a + m ≤ n ∧ n < (t.size : Int) ∧ bt t n = bt s p ∧ mvd n (unS s l m) (n - m) = (p, 0)
  | [], a, m, h, h0, h1, hL, hp, hps, hm => by
    have e : p + m = n := congrArg Prod.fst hm
    unfold splB at hL
    rw [Lr_ex] at hL
    have g0 := h.1
    have l1 := congrArg List.length hL
    rw [Lr_len, Lr_len] at l1
    obtain ⟨q, hq⟩ : ∃ q : Nat, p = a + q := ⟨(p - a).toNat, by omega⟩
    refine ⟨by omega, by omega, ?_, ?_⟩
    · have e1 : n = (((a + m).toNat + q : Nat) : Int) := by omega
      have e2 : p = ((a.toNat + q : Nat) : Int) := by omega
      rw [e1, e2, bt_Lr, bt_Lr, hL]
    · show (n - m, (0 : Int)) = (p, 0)
      rw [show n - m = p by omega]
  | x :: r, a, m, h, h0, h1, hL, hp, hps, hm => by
    obtain ⟨g0, g1, g2, g3, g4⟩ := h
    unfold splB at hL
    have hz : (s.extract a.toNat x.f0.toNat).size = x.f0.toNat - a.toNat := by rw [size_ex]; omega
    obtain ⟨k1, k2, k3⟩ := Lr_take h1 hL
    rw [hz] at k1 k2 k3
    have e1 : (a + m).toNat + (x.f0.toNat - a.toNat) = (x.f0 + m).toNat := by omega
    rw [e1] at k1 k2 k3
    obtain ⟨k4, k5, k6⟩ := Lr_take k1 k3
    have e2 : (x.f0 + m).toNat + x.f2.size = (x.f0 + m + (x.f2.size : Int)).toNat := by omega
    have e3 : x.f1 + (m + gr x) = x.f0 + m + (x.f2.size : Int) := by rw [gr_eq]; omega
    rw [e2] at k4 k6
    rw [← e3] at k4 k6
    have hgy : gr ⟨x.f0 + m, x.f0 + m + (x.f2.size : Int), s.extract x.f0.toNat x.f1.toNat⟩ = - gr x := by
      rw [gr_eq, gr_eq x]
      simp only
      rw [size_ex]
      omega
    unfold mvd at hm
    by_cases c : x.f1 ≤ p
    · rw [if_pos c, show p + m + gr x = p + (m + gr x) by omega] at hm
      obtain ⟨i1, i2, i3, i4⟩ := mvd_back s t p n r x.f1 (m + gr x) g4 (by rw [e3]; omega) k4 k6 c hps hm
      rw [e3] at i1
      refine ⟨by omega, i2, i3, ?_⟩
      unfold unS mvd
      rw [if_pos (by simp only; omega), hgy, show n - m + - gr x = n - (m + gr x) by omega]
      exact i4
    · rw [if_neg c] at hm
      by_cases c2 : x.f0 ≤ p
      · rw [if_pos c2] at hm
        exact absurd (show (7 : Int) = 0 from congrArg Prod.snd hm) (by decide)
      · rw [if_neg c2, mvd_skip p r _ (g4.above (by omega))] at hm
        have e : p + m = n := congrArg Prod.fst hm
        obtain ⟨q, hq⟩ : ∃ q : Nat, p = a + q := ⟨(p - a).toNat, by omega⟩
        have hO := undo_spl s t (x :: r) a m ⟨g0, g1, g2, g3, g4⟩ h0 h1 (by unfold splB; exact hL)
        refine ⟨by omega, by omega, ?_, ?_⟩
        · have e4 : n = (((a + m).toNat + q : Nat) : Int) := by omega
          have e5 : p = ((a.toNat + q : Nat) : Int) := by omega
          have k7 : bt (t.extract (a + m).toNat (x.f0 + m).toNat) (q : Int) = bt (s.extract a.toNat x.f0.toNat) (q : Int) := by rw [k2]
          rw [bt_ex t _ _ q (by omega), bt_ex s _ _ q (by omega)] at k7
          rw [e4, e5]
          exact k7
        · rw [mvd_skip n (unS s (x :: r) m) _ ?_, show n - m = p by omega]
          have h2 := hO.1
          unfold unS at h2 ⊢
          obtain ⟨o0, o1, o2, o3, o4⟩ := h2
          intro y hy
          rcases List.mem_cons.1 hy with rfl | hy
          · exact ⟨by simp only; omega, o2⟩
          · exact o4.above (by simp only; omega) y hy
theorem mvd_mono (n1 n2 p1 p2 : Int) (hp : p1 < p2) {N : Nat} : ∀ (l : List Sp) (a m : Int), OrdS N l a → mvd p1 l (p1 + m) = (n1, 0) → mvd p2 l (p2 + m) = (n2, 0) → n1 < n2
  | [], a, m, h, h1, h2 => by
    have e1 : p1 + m = n1 := congrArg Prod.fst h1
    have e2 : p2 + m = n2 := congrArg Prod.fst h2
    omega
  | x :: r, a, m, h, h1, h2 => by
    obtain ⟨g0, g1, g2, g3, g4⟩ := h
    unfold mvd at h1 h2
    by_cases c1 : x.f1 ≤ p1
    · rw [if_pos c1, show p1 + m + gr x = p1 + (m + gr x) by omega] at h1
      rw [if_pos (show x.f1 ≤ p2 by omega), show p2 + m + gr x = p2 + (m + gr x) by omega] at h2
      exact mvd_mono n1 n2 p1 p2 hp r x.f1 (m + gr x) g4 h1 h2
    · rw [if_neg c1] at h1
      by_cases c2 : x.f0 ≤ p1
      · rw [if_pos c2] at h1
        exact absurd (show (7 : Int) = 0 from congrArg Prod.snd h1) (by decide)
      · rw [if_neg c2, mvd_skip p1 r _ (g4.above (by omega))] at h1
        have e1 : p1 + m = n1 := congrArg Prod.fst h1
        by_cases c3 : x.f1 ≤ p2
        · rw [if_pos c3, show p2 + m + gr x = p2 + (m + gr x) by omega] at h2
          have := mvd_ge n2 p2 r x.f1 (m + gr x) g4 c3 h2
          have hg := gr_eq x
          omega
        · rw [if_neg c3] at h2
          by_cases c4 : x.f0 ≤ p2
          · rw [if_pos c4] at h2
            exact absurd (show (7 : Int) = 0 from congrArg Prod.snd h2) (by decide)
          · rw [if_neg c4, mvd_skip p2 r _ (g4.above (by omega))] at h2
            have e2 : p2 + m = n2 := congrArg Prod.fst h2
            omega
where
  mvd_ge (n p : Int) {N : Nat} : ∀ (l : List Sp) (a m : Int), OrdS N l a → a ≤ p → mvd p l (p + m) = (n, 0) → a + m ≤ n
  | [], a, m, h, hp, h1 => by
    have e1 : p + m = n := congrArg Prod.fst h1
    omega
  | x :: r, a, m, h, hp, h1 => by
    obtain ⟨g0, g1, g2, g3, g4⟩ := h
    unfold mvd at h1
    have hg := gr_eq x
    by_cases c1 : x.f1 ≤ p
    · rw [if_pos c1, show p + m + gr x = p + (m + gr x) by omega] at h1
      have := mvd_ge n p r x.f1 (m + gr x) g4 c1 h1
      omega
    · rw [if_neg c1] at h1
      by_cases c2 : x.f0 ≤ p
      · rw [if_pos c2] at h1
        exact absurd (show (7 : Int) = 0 from congrArg Prod.snd h1) (by decide)
      · rw [if_neg c2, mvd_skip p r _ (g4.above (by omega))] at h1
        have e1 : p + m = n := congrArg Prod.fst h1
        omega
theorem unS_txt (s : ByteArray) : ∀ (l : List Sp) (m : Int), ∀ x ∈ unS s l m, ∃ i j, x.f2 = s.extract i j
  | [], _, x, hx => by cases hx
  | y :: r, m, x, hx => by
    unfold unS at hx
    rcases List.mem_cons.1 hx with rfl | hx
    · exact ⟨_, _, rfl⟩
    · exact unS_txt s r _ x hx
/-- Splices undone: all that the law LexUndone asks. -/
theorem undone (s : ByteArray) (l : List Sp) (h : splE s l = 0) (hx : ∀ x ∈ l, x.f2.size ≤ 3000) : (splM s l).size ≤ 2500 ∧ splE (splM s l) (unS s l 0) = 0 ∧ splM (splM s l) (unS s l 0) = s ∧ (∀ x ∈ unS s l 0, x.f2.size ≤ 3000) ∧
    (∀ p n : Int, 0 ≤ p → p < (s.size : Int) → mvd p l p = (n, 0) → 0 ≤ n ∧ n < ((splM s l).size : Int) ∧ bt (splM s l) n = bt s p ∧ mvd n (unS s l 0) n = (p, 0)) ∧
    (∀ p1 p2 n1 n2 : Int, p1 < p2 → mvd p1 l p1 = (n1, 0) → mvd p2 l p2 = (n2, 0) → n1 < n2) := by
  obtain ⟨h1, h2, h3, h4⟩ := splE_ord h
  obtain ⟨h5, h6⟩ := (chk_iff s).1 h1
  obtain ⟨h7, h8⟩ := (tailE_iff l _).1 h4
  have hlen := splB_length s l 0 h3
  have hsz : (splM s l).size = (splB s l 0).length := by rw [size_len]; rfl
  have hsz2 : ((splM s l).size : Int) = (s.size : Int) + sumG l := by rw [hsz]; omega
  have hL : Lr (splM s l) ((0 : Int) + 0).toNat = splB s l 0 := rfl
  obtain ⟨u1, u2⟩ := undo_spl s (splM s l) l 0 0 h3 (by omega) (Nat.zero_le _) hL
  rw [show (0 : Int) + 0 = 0 from rfl] at u1 u2
  have hug := unS_gr s l 0 0 h3
  have hxs : ∀ x ∈ unS s l 0, x.f2.size ≤ 2500 := fun x hm => by
    obtain ⟨i, j, e⟩ := unS_txt s l 0 x hm
    rw [e, size_ex]; omega
  have hok : ∀ c ∈ (splM s l).data.toList, okB (c.toNat : Int) = true := fun c hc =>
    splB_all (fun c => okB (c.toNat : Int) = true) s ((bt_all s).1 h6) l 0 (fun x hm c hc => by
      by_cases hz : x.f2.size ≤ 2500
      · exact (bad_iff x.f2 hz).1 (h7 x hm) c hc
      · exact bad_iff3 x.f2 (hx x hm) (h7 x hm) c hc) c hc
  refine ⟨by omega, ?_, ?_, fun x hm => Nat.le_trans (hxs x hm) (by decide), ?_, ?_⟩
  · unfold splE
    rw [if_pos ((chk_iff _).2 ⟨by omega, (bt_all _).2 hok⟩), if_neg (by rw [unS_length]; omega), if_pos (ord_rngB u1)]
    refine (tailE_iff _ _).2 ⟨fun x hm => (bad_iff x.f2 (hxs x hm)).2 fun c hc => ?_, by rw [hug]; omega⟩
    obtain ⟨i, j, e⟩ := unS_txt s l 0 x hm
    rw [e, data_ex] at hc
    exact (bt_all s).1 h6 c (List.mem_of_mem_take (List.mem_of_mem_drop hc))
  · unfold splM
    apply ba_ext
    rw [ba_data]
    exact u2
  · intro p n hp0 hp1 hm
    have hm' : mvd p l (p + 0) = (n, 0) := by rw [Int.add_zero]; exact hm
    obtain ⟨r1, r2, r3, r4⟩ := mvd_back s (splM s l) p n l 0 0 h3 (by omega) (Nat.zero_le _) hL hp0 hp1 hm'
    rw [Int.sub_zero] at r4
    exact ⟨by omega, r2, r3, r4⟩
  · intro p1 p2 n1 n2 hp hm1 hm2
    exact mvd_mono n1 n2 p1 p2 hp l 0 0 h3 (by rw [Int.add_zero]; exact hm1) (by rw [Int.add_zero]; exact hm2)
where
  bad_iff3 (s : ByteArray) (hs : s.size ≤ 3000) (h : badAt s s.size 0 = none) : ∀ c ∈ s.data.toList, okB (c.toNat : Int) = true := by
    rw [← bt_all]
    have hb : ∀ d i, s.size - i ≤ d → badAt s d i = none → ∀ j, i ≤ j → j < s.size → okB (bt s (j : Int)) = true := by
      intro d
      induction d with
      | zero => intro i hd _ j h1 h2; omega
      | succ d ih =>
        intro i hd h j h1 h2
        unfold badAt at h
        rw [if_pos (show i < s.size by omega)] at h
        by_cases c2 : okB (bt s (i : Int)) = true
        · rw [if_pos c2] at h
          by_cases e : j = i
          · subst e; exact c2
          · exact ih (i + 1) (by omega) h j (by omega) h2
        · rw [if_neg c2] at h; cases h
    exact fun i hi => hb s.size 0 (by omega) h i (Nat.zero_le _) hi
end Go.Proofs.YtggfcmondffodaaDoor.P
namespace Go.Proofs.YtggfcmondffodaaDoor.P
open Go.RowKit Go.Shelf Go.Maps Go.Proofs.YtggfcmondffodaaDoorW.PrintWords Go.Proofs.YtggfcmondffodaaDoorW.PrintLast Go.Proofs.YtggfcmondffodaaDoorW.PrintMore
set_option linter.unusedVariables false
set_option linter.unusedSimpArgs false
theorem moved_in (s : ByteArray) (l : List Sp) (hs : s.size ≤ 3000) (hl : l.length ≤ 1000) (hx : ∀ x ∈ l, x.f2.size ≤ 3000) (h0 : splE s l = 0) (p n e : Int) (hp0 : 0 ≤ p) (hp1 : p ≤ (s.size : Int)) (hm : mvd p l p = (n, e)) (B : Option Addr) (k : Nat) (W : World) (h : Kd.C k48 W B l.length l) (hk : l.length ≤ k) :
    Calls Tryd.prog 29 #[.string s, .slice B l.length k, .int .i64 p] W fun e' w' => e' = .returned (.tuple #[.int .i64 n, .int .i64 e]) ∧ Below W.heap.size W w' := by
  have e1 : mvdM s l p = (n, e) := by unfold mvdM; rw [if_pos h0, if_neg (by omega), hm]
  refine lex_Moved.calls (fuS l) s B k l p n e W h hk ?_
  rw [pMoved s l p hs hl hx, e1]
set_option maxRecDepth 8000 in
set_option maxHeartbeats 16000000 in
theorem lexUndone_any (s : ByteArray) (A : Option Addr) (c : Nat) (l : List Sp) (w : World) (hg : Gl w) (hC : Kd.C k48 w A l.length l) (hc : l.length ≤ c) (hll : l.length ≤ 140737488351232) (hx : ∀ x ∈ l, x.f2.size ≤ 140737488351232) :
    Calls Tryd.prog 10 #[.string s, .slice A l.length c] w fun e w' => e = .returned (.bool true) ∧ Below w.heap.size w w' := by
  have HG := Aside0.mk hg
  have HC := Aside0.mk hC
  have hA := Aside0.mk (fun (W : World) (h : Gl W) => awake_any W h)
  by_cases hs : 3000 < s.size
  · have g1 : decide (3000 < s.size) = true := decide_eq_true hs
    have g2 : decide ((3000 : Int) < (s.size : Int)) = true := decide_eq_true (by omega)
    clear hs hg hC hx
    go_enter Tryd.func10, Tryd.ntmps10
    go_wp2_with (go_at_call 15; refine (hA.out _ HG.out).mono ?_; rintro e w1 ⟨rfl, hb1⟩)
    go_ret
    exact ⟨rfl, hb1⟩
  · have g1 : decide (3000 < s.size) = false := decide_eq_false hs
    have g2 : decide ((3000 : Int) < (s.size : Int)) = false := decide_eq_false (by omega)
    obtain ⟨b, hb1, hb2⟩ := pFew l hll hx
    have hF := ripostelaw01_few.calls (l.length + 1) A c l b w hC hc hb1
    cases b with
    | false =>
      clear hs hg hC hx hb2 hb1
      go_enter Tryd.func10, Tryd.ntmps10
      go_wp2_with (first | (go_at_call 26; refine hF.mono ?_; rintro e w1 ⟨rfl, ⟨nd, rfl⟩⟩; have HB1 := Aside0.mk (pw_below_drewN (Below.refl w.heap.size w) nd)) | (go_at_call 15; refine (hA.out _ (HG.out.mono HB1.out)).mono ?_; rintro e wA ⟨rfl, hbA⟩; have HBA := Aside0.mk (HB1.out.trans (hbA.mono HB1.out.size)); clear hbA))
      go_ret
      exact ⟨rfl, HBA.out⟩
    | true =>
      obtain ⟨hl, hx3⟩ := hb2 rfl
      have hs3 : s.size ≤ 3000 := by omega
      have hlc : l.length ≤ c := hc
      by_cases h40 : 40 < l.length
      · have g3 : decide (40 < l.length) = true := decide_eq_true h40
        have g4 : decide ((40 : Int) < (l.length : Int)) = true := decide_eq_true (by omega)
        clear hs hg hC hx hb2 hb1 h40
        go_enter Tryd.func10, Tryd.ntmps10
        go_wp2_with (first | (go_at_call 26; refine hF.mono ?_; rintro e w1 ⟨rfl, ⟨nd, rfl⟩⟩; have HB1 := Aside0.mk (pw_below_drewN (Below.refl w.heap.size w) nd)) | (go_at_call 15; refine (hA.out _ (HG.out.mono HB1.out)).mono ?_; rintro e wA ⟨rfl, hbA⟩; have HBA := Aside0.mk (HB1.out.trans (hbA.mono HB1.out.size)); clear hbA))
        go_ret
        exact ⟨rfl, HBA.out⟩
      · have g3 : decide (40 < l.length) = false := decide_eq_false h40
        have g4 : decide ((40 : Int) < (l.length : Int)) = false := decide_eq_false (by omega)
        have hAp := Aside0.mk (fun (B : Option Addr) (k : Nat) (W : World) (h : Kd.C k48 W B l.length l) (hk : l.length ≤ k) => Apply_any s B k l W h hk hs3 hl hx3)
        by_cases h0 : splE s l = 0
        · have eA : appM s l = (splM s l, 0) := by unfold appM; rw [if_pos h0]
          have eU : unM s l = (unS s l 0, 0) := by unfold unM; rw [if_pos h0]
          obtain ⟨z1, z2, z3, z4, z5, z6⟩ := undone s l h0 hx3
          have eB : appM (splM s l) (unS s l 0) = (s, 0) := by unfold appM; rw [if_pos z2, z3]
          have hul := unS_length s l 0
          have hUn := Aside0.mk (fun (B : Option Addr) (k : Nat) (W : World) (h : Kd.C k48 W B l.length l) (hk : l.length ≤ k) => lex_Undo.calls (fuS l) s B k l (unS s l 0) 0 W h hk (by rw [pUndo s l hs3 hl hx3, eU]))
          have hAq := Aside0.mk (fun (B : Option Addr) (k : Nat) (W : World) (h : Kd.C k48 W B (unS s l 0).length (unS s l 0)) (hk : (unS s l 0).length ≤ k) => Apply_any (splM s l) B k (unS s l 0) W h hk (by omega) (by omega) z4)
          rw [eA] at hAp
          rw [eB] at hAq
          have hMv := Aside0.mk (moved_in s l hs3 hl hx3 h0)
          have hMu := Aside0.mk (moved_in (splM s l) (unS s l 0) (by omega) (by omega) z4 z2)
          have HZ5 := Aside0.mk z5
          have HZ6 := Aside0.mk z6
          have hul1 : (((unS s l 0).length : Int) != (l.length : Int)) = false := by rw [hul]; exact bne_self_eq_false _
          have hul2 : ((unS s l 0).length != l.length) = false := by rw [hul]; exact bne_self_eq_false _
          have hul3 : (unS s l 0).length ≤ 1000 := by omega
          clear hul z2 z3 z4 z5 z6 eA eU eB h0 hs hg hC hx hb2 hb1 h40 hx3
          generalize unS s l 0 = u at *
          generalize splM s l = t at *
          simp only at hAp hAq
          go_enter Tryd.func10, Tryd.ntmps10
          go_wp2_with (first | (go_at_call 26; refine hF.mono ?_; rintro e w1 ⟨rfl, ⟨nd, rfl⟩⟩; have HB1 := Aside0.mk (pw_below_drewN (Below.refl w.heap.size w) nd)) | ((with_reducible refine gate_builtin (b := .append) (xs := #[.const (.slice none 0 0), .tmp 33]) rfl ?_); at_builtin; refine Kd.R_append_rows k48 (w0 := w.drewN nd) (w.drewN nd).heap.size rfl (.const (.slice none 0 0)) (.tmp 33) 36 48 (.agg #[(.int .i64 0), (.int .i64 0), (.string ⟨#[]⟩)]) 32 rfl Tryd.underlying36 info48 rfl (by decide) (by omega) (.slice none 0 0) [] l A l.length c (fun _ => True) (fun _ => False) rfl rfl (Kd.R_nil _ _ _ _ _) (Kd.C_below HC.out HB1.out) (fun _ _ h => h) (fun _ h => h.elim) (fun _ _ => trivial) (Below.refl _ _) (Nat.le_refl _) (by simp; omega) ?_; intro v2 w2 ho2 hb2 hg2 hat2; rw [List.nil_append] at ho2; have HO2 := Aside0.mk ho2; have HB2 := Aside0.mk (HB1.out.trans (hb2.mono HB1.out.size)); have HN2 := Aside0.mk hb2; clear ho2 hb2 hg2 hat2; obtain ⟨B2, K2, rfl⟩ := Kd.R_slice HO2.out) | (go_at_call 27; with_reducible refine (hAp.out B2 K2 _ (Kd.R_reads' HO2.out).2.2 (Kd.R_reads' HO2.out).2.1).mono ?_; rintro e w3 ⟨rfl, hb3⟩; have HB3 := Aside0.mk (HB2.out.trans (hb3.mono HB2.out.size)); clear hb3) | ((with_reducible refine gate_builtin (b := .append) (xs := #[.const (.slice none 0 0), .tmp 43]) rfl ?_); at_builtin; refine Kd.R_append_rows k48 (w0 := w3) (w3).heap.size rfl (.const (.slice none 0 0)) (.tmp 43) 36 48 (.agg #[(.int .i64 0), (.int .i64 0), (.string ⟨#[]⟩)]) 32 rfl Tryd.underlying36 info48 rfl (by decide) (by omega) (.slice none 0 0) [] l A l.length c (fun _ => True) (fun _ => False) rfl rfl (Kd.R_nil _ _ _ _ _) (Kd.C_below HC.out HB3.out) (fun _ _ h => h) (fun _ h => h.elim) (fun _ _ => trivial) (Below.refl _ _) (Nat.le_refl _) (by simp; omega) ?_; intro v5 w5 ho5 hb5 hg5 hat5; rw [List.nil_append] at ho5; have HO5 := Aside0.mk ho5; have HB5 := Aside0.mk (HB3.out.trans (hb5.mono HB3.out.size)); have HN5 := Aside0.mk hb5; clear ho5 hb5 hg5 hat5; obtain ⟨B5, K5, rfl⟩ := Kd.R_slice HO5.out) | (go_at_call 31; refine (hUn.out B5 K5 _ (Kd.R_reads' HO5.out).2.2 (Kd.R_reads' HO5.out).2.1).mono ?_; rintro e w6 ⟨v6, rfl, ho6, hb6⟩; have HB6 := Aside0.mk (HB5.out.trans (hb6.mono HB5.out.size)); have HO6 := Aside0.mk ho6; obtain ⟨B6, K6, rfl⟩ := Kd.R_slice ho6; clear ho6 hb6) | ((with_reducible refine gate_builtin (b := .append) (xs := #[.const (.slice none 0 0), .tmp 50]) rfl ?_); at_builtin; refine Kd.R_append_rows k48 (w0 := w6) (w6).heap.size rfl (.const (.slice none 0 0)) (.tmp 50) 36 48 (.agg #[(.int .i64 0), (.int .i64 0), (.string ⟨#[]⟩)]) 32 rfl Tryd.underlying36 info48 rfl (by decide) (by omega) (.slice none 0 0) [] u B6 u.length K6 (fun _ => True) (fun _ => False) rfl rfl (Kd.R_nil _ _ _ _ _) (Kd.R_reads' HO6.out).2.2 (fun _ _ h => h) (fun _ h => h.elim) (fun _ _ => trivial) (Below.refl _ _) (Nat.le_refl _) (by simp; omega) ?_; intro v7 w7 ho7 hb7 hg7 hat7; rw [List.nil_append] at ho7; have HO7 := Aside0.mk ho7; have HB7 := Aside0.mk (HB6.out.trans (hb7.mono HB6.out.size)); have HN7 := Aside0.mk hb7; clear ho7 hb7 hg7 hat7; obtain ⟨B7, K7, rfl⟩ := Kd.R_slice HO7.out) | (go_at_call 27; refine (hAq.out B7 K7 _ (Kd.R_reads' HO7.out).2.2 (Kd.R_reads' HO7.out).2.1).mono ?_; rintro e w8 ⟨rfl, hb8⟩; have HB8 := Aside0.mk (HB7.out.trans (hb8.mono HB7.out.size)); have HLU := Aside0.mk (Kd.C_below (Kd.C_below (Kd.R_reads' HO6.out).2.2 HN7.out) hb8); clear hb8))
          obtain ⟨q, hq⟩ : ∃ q : Nat, q = s.size / 60 := ⟨_, rfl⟩
          have hqb : q ≤ 50 := by omega
          have hqd : ∀ z : Int, z = (s.size : Int) → z.tdiv 60 = (q : Int) := fun z hz => by rw [hz, hq]; exact (Int.ofNat_tdiv s.size 60).symm
          clear hq hAp hAq hUn
          go_loopg [11, 12, 13, 14, 15, 16] s.size (fun gg s11 s12 s13 s14 s15 s16 wr => ∃ (i : Nat) (last : Int) (v13 v14 v15 v16 : Value), s11 = .int .i64 last ∧ s12 = .int .i64 i ∧ s13 = v13 ∧ s14 = v14 ∧ s15 = v15 ∧ s16 = v16 ∧ i ≤ s.size + 51 ∧ s.size - i ≤ gg ∧ Aside0 (∀ p n : Int, (i : Int) ≤ p → p < (s.size : Int) → mvd p l p = (n, 0) → last < n) ∧ Aside0 (Below w8.heap.size w8 wr))
          case atStart => exact ⟨0, -1, _, _, _, _, rfl, rfl, rfl, rfl, rfl, rfl, Nat.zero_le _, by omega, ⟨fun p n hp hps hm => by have := (HZ5.out p n hp hps hm).1; omega⟩, ⟨Below.refl _ _⟩⟩
          case round =>
            obtain ⟨i, last, v13, v14, v15, v16, rfl, rfl, rfl, rfl, rfl, rfl, hi, hgk, HLast, HBW⟩ := hrel
            by_cases hlt : i < s.size
            · have hltz : (i : Int) < (s.size : Int) := by omega
              have hi0 : (0 : Int) ≤ (i : Int) := by omega
              have HB9 := Aside0.mk (HB8.out.trans (HBW.out.mono HB8.out.size))
              have hst : ((i + (1 + q) : Nat) : Int) = (i : Int) + (1 + (q : Int)) := by omega
              have hMi := hMv.out (i : Int)
              have hme := mvd_err (i : Int) l (i : Int)
              have hz5 := HZ5.out (i : Int)
              have hz6 := HZ6.out (i : Int)
              have hla := HLast.out (i : Int)
              generalize hM : mvd (i : Int) l (i : Int) = M at *
              obtain ⟨n, e⟩ := M
              rcases hme with he | he
              · have he' : e = 0 := he
                subst he'
                obtain ⟨n0, n1, n2, n3⟩ := hz5 n hi0 hltz rfl
                have n4 := hla n (Int.le_refl _) hltz rfl
                have hNext := Aside0.mk (fun (p m : Int) (hp : ((i + (1 + q) : Nat) : Int) ≤ p) (hm : mvd p l p = (m, 0)) => hz6 p n m (by omega) rfl hm)
                have HM1 := Aside0.mk (fun (B : Option Addr) (k : Nat) (W : World) (h : Kd.C k48 W B l.length l) (hk : l.length ≤ k) => hMi n 0 hi0 (by omega) rfl B k W h hk)
                have HM2 := Aside0.mk (hMu.out n (i : Int) 0 n0 (by omega) n3)
                have c1 : decide (n ≤ last) = false := decide_eq_false (by omega)
                have c2 : decide ((t.size : Int) ≤ n) = false := decide_eq_false (by omega)
                have c3 : (bt t n != bt s (i : Int)) = false := by rw [n2]; exact bne_self_eq_false _
                have x1 := bt_at t n
                have x2 : ∀ h : i < s.size, ((s[i]'h).toNat : Int) = bt s (i : Int) := fun h => bt_at s (i : Int) h
                have p1 := eq_true n0
                have p2 := eq_true n1
                have p3 := eq_true hi0
                have p4 := eq_true hltz
                clear hla hz5 hz6 hMi n2 n3 n4 hM
                go_wp2_with (first | ((with_reducible refine gate_builtin (b := .append) (xs := #[.const (.slice none 0 0), .tmp 85]) rfl ?_); at_builtin; refine Kd.R_append_rows k48 (w0 := wr) (wr).heap.size rfl (.const (.slice none 0 0)) (.tmp 85) 36 48 (.agg #[(.int .i64 0), (.int .i64 0), (.string ⟨#[]⟩)]) 32 rfl Tryd.underlying36 info48 rfl (by decide) (by omega) (.slice none 0 0) [] l A l.length c (fun _ => True) (fun _ => False) rfl rfl (Kd.R_nil _ _ _ _ _) (Kd.C_below HC.out HB9.out) (fun _ _ h => h) (fun _ h => h.elim) (fun _ _ => trivial) (Below.refl _ _) (Nat.le_refl _) (by simp; omega) ?_; intro v10 w10 ho10 hb10 hg10 hat10; rw [List.nil_append] at ho10; have HO10 := Aside0.mk ho10; have HB10 := Aside0.mk (HB9.out.trans (hb10.mono HB9.out.size)); have HN10 := Aside0.mk hb10; clear ho10 hb10 hg10 hat10; obtain ⟨B10, K10, rfl⟩ := Kd.R_slice HO10.out) | (go_at_call 29; with_reducible refine (HM1.out B10 K10 _ (Kd.R_reads' HO10.out).2.2 (Kd.R_reads' HO10.out).2.1).mono ?_; rintro e' w11 ⟨rfl, hb11⟩; have HB11 := Aside0.mk (HB10.out.trans (hb11.mono HB10.out.size)); have HLU11 := Aside0.mk (Kd.C_below (Kd.C_below (Kd.C_below HLU.out HBW.out) HN10.out) hb11); have HBW11 := Aside0.mk (HBW.out.trans ((HN10.out.mono HBW.out.size).trans (hb11.mono (Nat.le_trans HBW.out.size HN10.out.size)))); clear hb11))
                go_quiet (fail)
                obtain ⟨w12, hw12⟩ : ∃ W, W = w11.drewN nq := ⟨_, rfl⟩
                rw [← hw12]
                have HN12 := Aside0.mk (show Below w11.heap.size w11 w12 by rw [hw12]; exact pw_below_drewN (Below.refl _ _) nq)
                have HB12 := Aside0.mk (HB11.out.trans (HN12.out.mono HB11.out.size))
                have HBW12 := Aside0.mk (HBW11.out.trans (HN12.out.mono HBW11.out.size))
                clear hw12
                go_wp2_with (first | ((with_reducible refine gate_builtin (b := .append) (xs := #[.const (.slice none 0 0), .tmp 117]) rfl ?_); at_builtin; refine Kd.R_append_rows k48 (w0 := w12) (w12).heap.size rfl (.const (.slice none 0 0)) (.tmp 117) 36 48 (.agg #[(.int .i64 0), (.int .i64 0), (.string ⟨#[]⟩)]) 32 rfl Tryd.underlying36 info48 rfl (by decide) (by omega) (.slice none 0 0) [] u B6 u.length K6 (fun _ => True) (fun _ => False) rfl rfl (Kd.R_nil _ _ _ _ _) (Kd.C_below HLU11.out HN12.out) (fun _ _ h => h) (fun _ h => h.elim) (fun _ _ => trivial) (Below.refl _ _) (Nat.le_refl _) (by simp; omega) ?_; intro v13 w13 ho13 hb13 hg13 hat13; rw [List.nil_append] at ho13; have HO13 := Aside0.mk ho13; have HB13 := Aside0.mk (HB12.out.trans (hb13.mono HB12.out.size)); have HN13 := Aside0.mk hb13; clear ho13 hb13 hg13 hat13; obtain ⟨B13, K13, rfl⟩ := Kd.R_slice HO13.out) | (go_at_call 29; with_reducible refine (HM2.out B13 K13 _ (Kd.R_reads' HO13.out).2.2 (Kd.R_reads' HO13.out).2.1).mono ?_; rintro e' w14 ⟨rfl, hb14⟩; have HBW14 := Aside0.mk (HBW12.out.trans ((HN13.out.mono HBW12.out.size).trans (hb14.mono (Nat.le_trans HBW12.out.size HN13.out.size)))); clear hb14))
                go_roundg (s.size - (i + (1 + q)))
                case measure => omega
                case rel => exact ⟨i + (1 + q), n, _, _, _, _, rfl, by go_num, rfl, rfl, rfl, rfl, by omega, by omega, ⟨fun p m hp hps hm => (hNext.out p m hp hm)⟩, HBW14⟩
              · have he' : e = 7 := he
                subst he'
                have HM1 := Aside0.mk (fun (B : Option Addr) (k : Nat) (W : World) (h : Kd.C k48 W B l.length l) (hk : l.length ≤ k) => hMi n 7 hi0 (by omega) rfl B k W h hk)
                have HN7' := Aside0.mk (fun (p m : Int) (hp : ((i + (1 + q) : Nat) : Int) ≤ p) (hps : p < (s.size : Int)) (hm : mvd p l p = (m, 0)) => HLast.out p m (by omega) hps hm)
                clear hla hz5 hz6 hMi hM
                go_wp2_with (first | ((with_reducible refine gate_builtin (b := .append) (xs := #[.const (.slice none 0 0), .tmp 85]) rfl ?_); at_builtin; refine Kd.R_append_rows k48 (w0 := wr) (wr).heap.size rfl (.const (.slice none 0 0)) (.tmp 85) 36 48 (.agg #[(.int .i64 0), (.int .i64 0), (.string ⟨#[]⟩)]) 32 rfl Tryd.underlying36 info48 rfl (by decide) (by omega) (.slice none 0 0) [] l A l.length c (fun _ => True) (fun _ => False) rfl rfl (Kd.R_nil _ _ _ _ _) (Kd.C_below HC.out HB9.out) (fun _ _ h => h) (fun _ h => h.elim) (fun _ _ => trivial) (Below.refl _ _) (Nat.le_refl _) (by simp; omega) ?_; intro v10 w10 ho10 hb10 hg10 hat10; rw [List.nil_append] at ho10; have HO10 := Aside0.mk ho10; have HB10 := Aside0.mk (HB9.out.trans (hb10.mono HB9.out.size)); have HN10 := Aside0.mk hb10; clear ho10 hb10 hg10 hat10; obtain ⟨B10, K10, rfl⟩ := Kd.R_slice HO10.out) | (go_at_call 29; with_reducible refine (HM1.out B10 K10 _ (Kd.R_reads' HO10.out).2.2 (Kd.R_reads' HO10.out).2.1).mono ?_; rintro e' w11 ⟨rfl, hb11⟩; have HBW11 := Aside0.mk (HBW.out.trans ((HN10.out.mono HBW.out.size).trans (hb11.mono (Nat.le_trans HBW.out.size HN10.out.size)))); clear hb11))
                go_roundg (s.size - (i + (1 + q)))
                case measure => omega
                case rel => exact ⟨i + (1 + q), last, _, _, _, _, rfl, by go_num, rfl, rfl, rfl, rfl, by omega, by omega, ⟨fun p m hp hps hm => HN7'.out p m hp hps hm⟩, HBW11⟩
            · have hlt2 : decide ((i : Int) < (s.size : Int)) = false := decide_eq_false (by omega)
              have hlt3 : decide (i < s.size) = false := decide_eq_false hlt
              have HB9 := Aside0.mk (HB8.out.trans (HBW.out.mono HB8.out.size))
              go_wp2_with (go_at_call 15; refine (hA.out _ (HG.out.mono HB9.out)).mono ?_; rintro e wA ⟨rfl, hbA⟩; have HBA := Aside0.mk (HB9.out.trans (hbA.mono HB9.out.size)); clear hbA)
              go_ret
              exact ⟨rfl, HBA.out⟩
        · have eA : appM s l = (⟨#[]⟩, splE s l) := by unfold appM; rw [if_neg h0]
          rw [eA] at hAp
          have k1 : (splE s l == 0) = false := beq_false_of_ne h0
          have k2 : (splE s l != 0) = true := bne_iff_ne.2 h0
          simp only at hAp
          clear eA hs hg hC hx hb2 hb1 h40 hx3 h0
          generalize splE s l = e0 at *
          go_enter Tryd.func10, Tryd.ntmps10
          go_wp2_with (first | (go_at_call 26; refine hF.mono ?_; rintro e w1 ⟨rfl, ⟨nd, rfl⟩⟩; have HB1 := Aside0.mk (pw_below_drewN (Below.refl w.heap.size w) nd)) | ((with_reducible refine gate_builtin (b := .append) (xs := #[.const (.slice none 0 0), .tmp 33]) rfl ?_); at_builtin; refine Kd.R_append_rows k48 (w0 := w.drewN nd) (w.drewN nd).heap.size rfl (.const (.slice none 0 0)) (.tmp 33) 36 48 (.agg #[(.int .i64 0), (.int .i64 0), (.string ⟨#[]⟩)]) 32 rfl Tryd.underlying36 info48 rfl (by decide) (by omega) (.slice none 0 0) [] l A l.length c (fun _ => True) (fun _ => False) rfl rfl (Kd.R_nil _ _ _ _ _) (Kd.C_below HC.out HB1.out) (fun _ _ h => h) (fun _ h => h.elim) (fun _ _ => trivial) (Below.refl _ _) (Nat.le_refl _) (by simp; omega) ?_; intro v2 w2 ho2 hb2 hg2 hat2; rw [List.nil_append] at ho2; have HO2 := Aside0.mk ho2; have HB2 := Aside0.mk (HB1.out.trans (hb2.mono HB1.out.size)); have HN2 := Aside0.mk hb2; clear ho2 hb2 hg2 hat2; obtain ⟨B2, K2, rfl⟩ := Kd.R_slice HO2.out) | (go_at_call 27; refine (hAp.out B2 K2 _ (Kd.R_reads' HO2.out).2.2 (Kd.R_reads' HO2.out).2.1).mono ?_; rintro e w3 ⟨rfl, hb3⟩; have HB3 := Aside0.mk (HB2.out.trans (hb3.mono HB2.out.size)); clear hb3) | (go_at_call 15; refine (hA.out _ (HG.out.mono HB3.out)).mono ?_; rintro e wA ⟨rfl, hbA⟩; have HBA := Aside0.mk (HB3.out.trans (hbA.mono HB3.out.size)); clear hbA))
          go_ret
          exact ⟨rfl, HBA.out⟩
end Go.Proofs.YtggfcmondffodaaDoor.P
namespace Go.Proofs.YtggfcmondffodaaDoor.P
open Go.RowKit
set_option linter.unusedVariables false
/-- The four listed variables, as each row lists them. -/
def laidL : List (String × DataW Unit) := [("unicode/utf8.acceptRanges", Rows.laid_unicode_utf8_acceptRanges), ("unicode.White_Space", Rows.laid_unicode_White_Space), ("strings.asciiSpace", Rows.laid_strings_asciiSpace), ("unicode/utf8.first", Rows.laid_unicode_utf8_first)]
def aspT : List Int := (List.range 256).map fun (i : Nat) => if aspB (i : Int) = true then 1 else 0
theorem aspT_len : aspT.length = 256 := by simp [aspT]
theorem aspT_at (c : Nat) (h : c < 256) : aspT.getD c 0 = if aspB (c : Int) = true then 1 else 0 := by
  unfold aspT
  rw [List.getD_eq_getElem?_getD, List.getElem?_map, List.getElem?_range h]
  rfl
theorem asp_data : (Rows.laid_strings_asciiSpace : DataW Unit) = Lib.tabData .u8 aspT := by kernel_rfl
theorem gl_of_laid {W : World} (h : laidMetH Tryd.prog laidL W) : Gl W := by
  rw [MakeChecks.laidMetH_plain _ _ _ (by kernel_rfl)] at h
  obtain ⟨ps, ⟨g0, t0, cs0, f0, p0, q0, hg0, ht0, hv0, hd0, ⟨g1, t1, cs1, f1, p1, q1, hg1, ht1, hv1, hd1, ⟨g2, t2, cs2, f2, p2, q2, hg2, ht2, hv2, hd2, _, _⟩, _⟩, _⟩, _, _⟩ := h
  obtain rfl := Option.some.inj ((show Tryd.prog.globalNamed "strings.asciiSpace" = some 0 by kernel_rfl).symm.trans hg2)
  obtain rfl := Option.some.inj ((show (Tryd.prog.globals[0]?).map (·.type) = some 121 by kernel_rfl).symm.trans ht2)
  rw [asp_data] at hd2
  have hcs := Lib.cells_of_tab Tryd.underlying121 Tryd.underlying5 (by kernel_rfl) (by kernel_rfl) hd2
  intro c hc
  rw [World.var?_cell hg2 hv2 c]
  have h1 : cs2[c]? = some (.int .u8 (aspT.getD c 0)) := by
    have : cs2.toList[c]? = some (.int .u8 (aspT.getD c 0)) := by
      rw [hcs, List.getElem?_map, List.getElem?_eq_getElem (by rw [aspT_len]; exact hc)]
      simp [List.getD, List.getElem?_eq_getElem (show c < aspT.length by rw [aspT_len]; exact hc)]
    simpa using this
  rw [h1, aspT_at c hc]
end Go.Proofs.YtggfcmondffodaaDoor.P
