/- What the claim's law needs, many texts in one (Xq Yc Yd Xz). No conditions of its own. -/
import Derived.Test.YtggfcmondffodaaDoorZd12
import Derived.Test.YtggfcmondffodaaDoorZd11
import Derived.Deep.Slices
import Derived.Lib.SmallJoins
import Derived.OpenShut
import Derived.ChangeOld
import Derived.WideShapes
import Derived.ProofKit
import Derived.SizedLaws
import Derived.Test.YtggfcmondffodaaDoorRows
import Derived.Test.YtggfcmondffodaaDoorZd4
import Derived.LaidMore
import Derived.Lay
import Derived.Lib.LaidTab
import Derived.Stop.Joined
set_option linter.unusedVariables false
set_option linter.unusedSimpArgs false
namespace Go.Proofs.YtggfcmondffodaaDoor.P
open Go.RowKit Go.Shelf Go.Maps Go.Proofs.YtggfcmondffodaaDoorW.PrintWords Go.Proofs.YtggfcmondffodaaDoorW.PrintLast Go.Proofs.YtggfcmondffodaaDoorW.PrintMore
set_option linter.unusedVariables false
set_option linter.unusedSimpArgs false
set_option maxHeartbeats 2000000 in
theorem Apply_ok (s : ByteArray) (A : Option Addr) (c : Nat) (l : List Sp) (k : Nat) (w : World) (hr : Kd.C k48 w A l.length l) (hc : l.length ≤ c) (hs : s.size ≤ 1000000000) (hll : l.length ≤ 1000000000) (h : lex_splices.f k s l = some 0) (ho : OrdS s.size l 0) (hb : (splB s l 0).length ≤ 1000000000) :
    Calls Tryd.prog 27 #[.string s, .slice A l.length c] w fun e w' => e = .returned (.tuple #[.string (splM s l), .int .i64 0]) ∧ Below w.heap.size w w' := by
  have h1 := lex_splices.calls k s A c l 0 w hr hc h
  have h2 := fun W (h : Below w.heap.size w W) => spliced_any s A c l W (Kd.C_below hr h) hs hll ho hb
  generalize splM s l = out at *
  clear hr ho hb h
  go_enter Tryd.func27, Tryd.ntmps27
  go_wp2_with (first | (go_at_call 56; refine h1.mono ?_; rintro e w1 ⟨rfl, hb1⟩) | (go_at_call 51; refine (h2 _ hb1).mono ?_; rintro e w2 ⟨rfl, hb2⟩))
  go_ret2
  exact ⟨rfl, hb1.trans (hb2.mono hb1.size)⟩
set_option maxHeartbeats 2000000 in
theorem Apply_bad (s : ByteArray) (A : Option Addr) (c : Nat) (l : List Sp) (k : Nat) (e0 : Int) (w : World) (hr : Kd.C k48 w A l.length l) (hc : l.length ≤ c) (h : lex_splices.f k s l = some e0) (h0 : e0 ≠ 0) :
    Calls Tryd.prog 27 #[.string s, .slice A l.length c] w fun e w' => e = .returned (.tuple #[.string ⟨#[]⟩, .int .i64 e0]) ∧ Below w.heap.size w w' := by
  have h1 := lex_splices.calls k s A c l e0 w hr hc h
  have hb1 : (e0 == 0) = false := beq_false_of_ne h0
  have hb2 : (e0 != 0) = true := bne_iff_ne.2 h0
  clear hr h
  go_enter Tryd.func27, Tryd.ntmps27
  go_wp2_with (go_at_call 56; refine h1.mono ?_; rintro e w1 ⟨rfl, hb1⟩)
  go_ret2
  exact ⟨rfl, hb1⟩
/-! ### The document's examples -/
def eT1 : ByteArray := ⟨#[120, 58, 61, 49, 32, 126, 97]⟩
def eT2 : ByteArray := ⟨#[120, 32, 126, 97]⟩
def eT3 : ByteArray := ⟨#[97, 98, 99]⟩
def eT4 : ByteArray := ⟨#[120, 32, 43, 32, 120, 115]⟩
def eL1 : List Tk := [⟨1, ⟨#[120]⟩, 0⟩, ⟨4, ⟨#[58, 61]⟩, 1⟩, ⟨2, ⟨#[49]⟩, 3⟩]
def eL2 : List Tk := [⟨5, ⟨#[97]⟩, 2⟩]
def eS : List Sp := [⟨1, 2, ⟨#[120, 121]⟩⟩]
theorem ex1 : toksM kwM eT1 = (eL1, 0, 0) := by kernel_rfl
theorem ex2 : notesM eT2 = (eL2, 0) := by kernel_rfl
theorem ex3 : lex_splices.f 60 eT3 eS = some 0 := by kernel_rfl
theorem ex4 : splM eT3 eS = ⟨#[97, 120, 121, 99]⟩ := by kernel_rfl
theorem ex5 : renM eT4 ⟨#[120]⟩ ⟨#[121]⟩ = (⟨#[121, 32, 43, 32, 120, 115]⟩, 0) := by kernel_rfl
set_option maxRecDepth 8000 in
set_option maxHeartbeats 8000000 in
theorem awake_any (w : World) (hg : Gl w) : Calls Tryd.prog 15 #[] w fun e w' => e = .returned (.bool true) ∧ Below w.heap.size w w' := by
  have HG := Aside0.mk hg
  have hT := Tokens_any eT1 w hg (by decide)
  rw [ex1] at hT
  have hN := Aside0.mk (fun W => Notes_any eT2 W (by decide))
  rw [ex2] at hN
  have hA := Aside0.mk (fun (A : Option Addr) (c : Nat) (W : World) (h : Kd.C k48 W A eS.length eS) (hc : eS.length ≤ c) => Apply_ok eT3 A c eS 60 W h hc (by decide) (by decide) ex3 (by unfold eS OrdS OrdS; decide) (by rw [show splB eT3 eS 0 = (splM eT3 eS).data.toList from rfl, ex4]; decide))
  rw [ex4] at hA
  have hR := Aside0.mk (fun (W : World) (h : Gl W) => Rename_any eT4 ⟨#[120]⟩ ⟨#[121]⟩ W h (by decide) (by decide) (by decide))
  rw [ex5] at hR
  have hS1 := Aside0.mk (fun (A0 A1 : Option Addr) (c0 c1 : Nat) (W : World) (h0 : Kd.C k35 W A0 eL1.length eL1) (hc0 : eL1.length ≤ c0) (h1 : Kd.C k35 W A1 eL1.length eL1) (hc1 : eL1.length ≤ c1) => riposteref01_SameTokens.calls 20 A0 c0 eL1 A1 c1 eL1 true W h0 hc0 h1 hc1 (rSame eL1 (by decide) 20 (by decide)))
  have hS2 := Aside0.mk (fun (A0 A1 : Option Addr) (c0 c1 : Nat) (W : World) (h0 : Kd.C k35 W A0 eL2.length eL2) (hc0 : eL2.length ≤ c0) (h1 : Kd.C k35 W A1 eL2.length eL2) (hc1 : eL2.length ≤ c1) => riposteref01_SameTokens.calls 20 A0 c0 eL2 A1 c1 eL2 true W h0 hc0 h1 hc1 (rSame eL2 (by decide) 20 (by decide)))
  clear hg
  go_enter Tryd.func15, Tryd.ntmps15
  go_wp2_with (first | (go_at_call 16; refine hT.mono ?_; rintro e w1 ⟨tv, rfl, hrt, hb1'⟩; have HB1 := Aside0.mk hb1'; have HT1 := Aside0.mk hrt; obtain ⟨TA, TC, rfl⟩ := Kd.R_slice hrt; clear hrt hb1') | (go_at_call 18; refine (hN.out _).mono ?_; rintro e w2 ⟨nv, rfl, hrn, hb2'⟩; have HB2 := Aside0.mk (HB1.out.trans (hb2'.mono HB1.out.size)); have HT2 := Aside0.mk (Kd.C_below (Kd.R_reads' HT1.out).2.2 hb2'); have HN2 := Aside0.mk hrn; obtain ⟨NA, NC, rfl⟩ := Kd.R_slice hrn; clear hrn hb2') | ((with_reducible refine gate_dst (N := 21) rfl ?_); refine Kd.R_lit k48 _ 48 ?hg (N := 21) ?hd (xs := eS) (inner := [.int .i64 1, .int .i64 2, .string ⟨#[120, 121]⟩]) (ok := fun _ => True) (okp := fun _ => True) ?hr ?hp (fun _ hk => hk) trivial (Below.refl _ _) (Nat.le_refl _) (by decide) ?_; (case hd => rfl); (case hg => rfl); (case hr => first | (go_simp; done) | (go_simp; rfl)); (case hp => exact (Reps.c3 (k48_mkM _ _ _ _) (Reps.none _ _))); intro v3 w3 ho3 hb3 hg_ hnew_; clear hg_ hnew_; have HB3 := Aside0.mk (HB2.out.trans (hb3.mono HB2.out.size)); have HT3 := Aside0.mk (Kd.C_below HT2.out hb3); have HN3 := Aside0.mk (Kd.C_below (Kd.R_reads' HN2.out).2.2 hb3); have HO3 := Aside0.mk ho3; obtain ⟨SA, SC, rfl⟩ := Kd.R_slice ho3; clear ho3 hb3) | (go_at_call 27; refine (hA.out SA SC _ (Kd.R_reads' HO3.out).2.2 (Kd.R_reads' HO3.out).2.1).mono ?_; rintro e w4 ⟨rfl, hb4⟩; have HB4 := Aside0.mk (HB3.out.trans (hb4.mono HB3.out.size)); have HT4 := Aside0.mk (Kd.C_below HT3.out hb4); have HN4 := Aside0.mk (Kd.C_below HN3.out hb4); clear hb4) | (go_at_call 21; refine (hR.out _ (HG.out.mono HB4.out)).mono ?_; rintro e w5 ⟨rfl, hb5⟩; have HB5 := Aside0.mk (HB4.out.trans (hb5.mono HB4.out.size)); have HT5 := Aside0.mk (Kd.C_below HT4.out hb5); have HN5 := Aside0.mk (Kd.C_below HN4.out hb5); clear hb5) | ((with_reducible refine gate_dst (N := 36) rfl ?_); (try (refine gate_guard (by rfl) ?_; dsimp only)); refine Kd.R_lit k35 _ 35 ?hg (N := 36) ?hd (xs := eL1) (inner := [.int .u8 1, .string ⟨#[120]⟩, .int .i64 0, .int .u8 4, .string ⟨#[58, 61]⟩, .int .i64 1, .int .u8 2, .string ⟨#[49]⟩, .int .i64 3]) (ok := fun _ => True) (okp := fun _ => True) ?hr ?hp (fun _ hk => hk) trivial (Below.refl _ _) (Nat.le_refl _) (by decide) ?_; (case hd => rfl); (case hg => rfl); (case hr => first | (go_simp; done) | (go_simp; rfl)); (case hp => exact (Reps.c3 (k35_mkM _ _ _ _) (Reps.c3 (k35_mkM _ _ _ _) (Reps.c3 (k35_mkM _ _ _ _) (Reps.none _ _))))); intro v6 w6 ho6 hb6 hg_ hnew_; clear hg_ hnew_; have HB6 := Aside0.mk (HB5.out.trans (hb6.mono HB5.out.size)); have HT6 := Aside0.mk (Kd.C_below HT5.out hb6); have HN6 := Aside0.mk (Kd.C_below HN5.out hb6); have HO6 := Aside0.mk ho6; obtain ⟨LA, LC, rfl⟩ := Kd.R_slice ho6; clear ho6 hb6) | (go_at_call 20; (with_reducible refine (hS1.out TA LA TC LC _ HT6.out (Kd.R_reads' HT1.out).2.1 (Kd.R_reads' HO6.out).2.2 (Kd.R_reads' HO6.out).2.1).mono ?_); rintro e w' ⟨rfl, ⟨nd7, rfl⟩⟩; have HB7 := Aside0.mk (pw_below_drewN HB6.out nd7); have HN7 := Aside0.mk (Kd.C_drewN HN6.out nd7)) | ((with_reducible refine gate_dst (N := 46) rfl ?_); (try (refine gate_guard (by rfl) ?_; dsimp only)); refine Kd.R_lit k35 _ 35 ?hg (N := 46) ?hd (xs := eL2) (inner := [.int .u8 5, .string ⟨#[97]⟩, .int .i64 2]) (ok := fun _ => True) (okp := fun _ => True) ?hr ?hp (fun _ hk => hk) trivial (Below.refl _ _) (Nat.le_refl _) (by decide) ?_; (case hd => rfl); (case hg => rfl); (case hr => first | (go_simp; done) | (go_simp; rfl)); (case hp => exact (Reps.c3 (k35_mkM _ _ _ _) (Reps.none _ _))); intro v8 w8 ho8 hb8 hg_ hnew_; clear hg_ hnew_; have HB8 := Aside0.mk (HB7.out.trans (hb8.mono HB7.out.size)); have HN8 := Aside0.mk (Kd.C_below HN7.out hb8); have HO8 := Aside0.mk ho8; obtain ⟨MA, MC, rfl⟩ := Kd.R_slice ho8; clear ho8 hb8) | (go_at_call 20; refine (hS2.out NA MA NC MC _ HN8.out (Kd.R_reads' HN2.out).2.1 (Kd.R_reads' HO8.out).2.2 (Kd.R_reads' HO8.out).2.1).mono ?_; rintro e w' ⟨rfl, ⟨nd9, rfl⟩⟩; have HB9 := Aside0.mk (pw_below_drewN HB8.out nd9)))
  go_ret
  exact ⟨rfl, HB9.out⟩
end Go.Proofs.YtggfcmondffodaaDoor.P
namespace Go.Proofs.YtggfcmondffodaaDoor.P
open Go Go.RowKit Go.Shelf Go.Maps Go.ChangeShapes Go.WideShapes Go.Proofs.YtggfcmondffodaaDoorW.PrintWords Go.Proofs.YtggfcmondffodaaDoorW.PrintLast Go.Proofs.YtggfcmondffodaaDoorW.PrintMore
set_option linter.unusedVariables false
set_option linter.unusedSimpArgs false
theorem Apply_any (s : ByteArray) (A : Option Addr) (c : Nat) (l : List Sp) (w : World) (hr : Kd.C k48 w A l.length l) (hc : l.length ≤ c) (hs : s.size ≤ 3000) (hl : l.length ≤ 1000) (hx : ∀ x ∈ l, x.f2.size ≤ 3000) :
    Calls Tryd.prog 27 #[.string s, .slice A l.length c] w fun e w' => e = .returned (.tuple #[.string (appM s l).1, .int .i64 (appM s l).2]) ∧ Below w.heap.size w w' := by
  have h := pSplices s l hs hl hx
  unfold appM
  by_cases c0 : splE s l = 0
  · rw [if_pos c0]
    obtain ⟨h1, h2, h3, h4⟩ := splE_ord c0
    have hb := splB_len s 3000 l 0 hx h3
    exact Apply_ok s A c l _ w hr hc (by omega) (by omega) (by rw [h, c0]) h3 (by omega)
  · rw [if_neg c0]
    exact Apply_bad s A c l _ _ w hr hc h c0
set_option maxRecDepth 100000
section
variable {H : Type} {enc : TypeId × Value → H} {W : World} {base : Nat} {sp : Nat → Bool} {held : Bool} {fuel : Nat} {cs : List Value} {x : DataW H × List MemPlace}
theorem weightsAll_mem {P : Program} {e : TypeId} : ∀ {l : List (DataW H)} {d : DataW H}, d ∈ l → ∀ n ∈ d.weights P e, n ∈ DataW.weightsAll P e l
  | [], d, hd, _, _ => by cases hd
  | d0 :: r, d, hd, n, hn => by
    simp only [DataW.weightsAll, List.mem_append]
    rcases List.mem_cons.1 hd with rfl | h
    · exact Or.inl hn
    · exact Or.inr (weightsAll_mem h n hn)
/-- A slice that reads as data, opened: Q is known of each element, as its weight allows it. -/
theorem opens_sliceQ {α : Type} (d : Kd α) (Q : α → Prop) {t e : TypeId} (ht : Tryd.prog.underlying t = some (.slice e)) (hsz : Tryd.prog.cellsOf e = d.sz)
    (hbytes : 1 ≤ Tryd.prog.bytesOf e)
    (he : ∀ (n : Nat) (c : List Value) (y : DataW H × List MemPlace), DataW.trod enc Tryd.prog W base sp held n e c = some y → (∀ n ∈ y.1.weights Tryd.prog e, n ≤ reachBytes) → ∃ a, d.K W a c ∧ Q a)
    (h : DataW.trod enc Tryd.prog W base sp held fuel t cs = some x) (hw : ∀ n ∈ x.1.weights Tryd.prog t, n ≤ reachBytes) : ∃ A c xs, cs = [.slice A xs.length c] ∧ xs.length ≤ c ∧ d.C W A xs.length xs ∧ xs.length ≤ reachBytes ∧ ∀ a ∈ xs, Q a := by
  rcases Go.Deep.open_slice ht h with ⟨rfl, _⟩ | ⟨a, len, cap, m, n, D, Pl, rfl, hb, hl, hm, hmm, rfl, hx⟩
  · exact ⟨none, 0, [], rfl, Nat.le_refl _, ⟨rfl, by simp, fun h => absurd h (by simp)⟩, Nat.zero_le _, fun a ha => by cases ha⟩
  · have hlm : len ≤ m := by rw [hmm]; split <;> omega
    have hwl : len ≤ reachBytes := by
      have := hw (((List.range len).map D).length + ((List.range (m - len)).map fun j => D (len + j)).length |> (· * Tryd.prog.bytesOf e)) (by simp [DataW.weights, ht])
      simp only [List.length_map, List.length_range] at this
      have h2 : len * 1 ≤ (len + (m - len)) * Tryd.prog.bytesOf e := Nat.mul_le_mul (by omega) hbytes
      omega
    have hex : ∀ i, i < len → ∃ p : α × List Value, W.cells? base (a.add (i * Tryd.prog.cellsOf e)) (Tryd.prog.cellsOf e) = some p.2 ∧ (d.K W p.1 p.2 ∧ Q p.1) := fun i hi => by
      obtain ⟨c, h1, h2⟩ := hx i (by omega)
      obtain ⟨p, hp⟩ := he _ _ _ h2 (fun n hn => hw n (by
        simp only [DataW.weights, ht, List.mem_cons, List.mem_append]
        exact Or.inr (Or.inl (weightsAll_mem (List.mem_map.2 ⟨i, List.mem_range.2 hi, rfl⟩) n hn))))
      exact ⟨(p, c), h1, hp⟩
    rcases Nat.eq_zero_or_pos len with rfl | hpos
    · exact ⟨some a, cap, [], rfl, Nat.zero_le _, ⟨rfl, by simp, fun h => absurd h (by simp)⟩, Nat.zero_le _, fun a ha => by cases ha⟩
    · have : Inhabited (α × List Value) := ⟨Classical.choose (hex 0 hpos)⟩
      obtain ⟨V, hV⟩ := Go.Deep.choose_lt hex
      have hlen : ((List.range len).map fun i => (V i).1).length = len := by simp
      refine ⟨some a, cap, (List.range len).map fun i => (V i).1, by rw [hlen], by rw [hlen]; exact hl, ⟨rfl, by rw [hlen]; simp only [maxLen] at hm; omega, fun _ => ⟨a, rfl, ?_⟩⟩, by rw [hlen]; exact hwl, fun q hq => ?_⟩
      · intro j p hj
        obtain ⟨hjl, rfl⟩ := List.getElem?_eq_some_iff.1 hj
        rw [hlen] at hjl
        obtain ⟨h1, h2, _⟩ := hV j hjl
        rw [hsz] at h1
        obtain ⟨_, h3, h4⟩ := World.cells?_some h1
        refine ⟨(V j).2, h3, by simpa using h2, fun i u hu => ?_⟩
        have hi : i < d.sz := by rw [← h3]; exact (List.getElem?_eq_some_iff.1 hu).1
        have h5 := h4 i hi
        rw [Go.Deep.add_add] at h5
        rw [h5, hu]
      · obtain ⟨i, hi, rfl⟩ := List.mem_map.1 hq
        exact (hV i (List.mem_range.1 hi)).2.2
theorem cells_i : Tryd.prog.cellsOf 3 = 1 := by kernel_rfl
theorem cells_s : Tryd.prog.cellsOf 9 = 1 := by kernel_rfl
theorem cells_k : Tryd.prog.cellsOf 5 = 1 := by kernel_rfl
theorem cells_S : Tryd.prog.cellsOf 48 = 3 := by kernel_rfl
theorem opens_cs_splice (h : DataW.trod enc Tryd.prog W base sp held fuel 48 cs = some x) (hw : ∀ n ∈ x.1.weights Tryd.prog 48, n ≤ reachBytes) : ∃ a : Sp, cs = [.int .i64 a.f0, .int .i64 a.f1, .string a.f2] ∧ a.f2.size ≤ 140737488351232 := by
  obtain ⟨y0, y1, y2, n, e, hl, h0, h1, h2⟩ := Go.Deep.trod_struct3 Tryd.underlying48 h
  rw [cells_S] at hl
  match cs, hl with
  | [a, b, c], _ =>
    simp only [cells_i, cells_s, cells_k, List.drop_zero, List.drop_succ_cons, List.take_succ_cons, List.take_zero] at h0 h1 h2
    have ha : DataW.trod enc Tryd.prog W base sp held n 3 [a] = some y0 := h0
    have hb : DataW.trod enc Tryd.prog W base sp held n 3 [b] = some y1 := h1
    have hc : DataW.trod enc Tryd.prog W base sp held n 9 [c] = some y2 := h2
    obtain ⟨b0, e0, _⟩ := DataW.trod_int Tryd.underlying3 ha
    obtain ⟨b1, e1, _⟩ := DataW.trod_int Tryd.underlying3 hb
    obtain ⟨b2, e2, e3, _⟩ := DataW.trod_string Tryd.underlying9 hc
    cases e0
    cases e1
    cases e2
    subst e3
    subst e
    refine ⟨⟨b0, b1, b2⟩, rfl, ?_⟩
    have := hw b2.data.toList.length (by simp [DataW.weights, DataW.weightsEach, Tryd.underlying48])
    rw [data_length] at this
    exact this
theorem bytes_S : 1 ≤ Tryd.prog.bytesOf 48 := of_decide_eq_true (by kernel_rfl)
/-- A row of splices that reads as data. -/
theorem opens_splices {r : Reach} {b0 : Nat} {v : Value} {d : DataW H} {p : List MemPlace} (hv : Value.okWide Tryd.prog W r b0 36 v) (h : DataW.Trod enc Tryd.prog W base sp held 36 v d p) (hw : ∀ n ∈ d.weights Tryd.prog 36, n ≤ reachBytes) :
    ∃ A c l, v = .slice A l.length c ∧ l.length ≤ c ∧ k48.C W A l.length l ∧ l.length ≤ 140737488351232 ∧ ∀ x ∈ l, x.f2.size ≤ 140737488351232 := by
  obtain ⟨a, n, c, rfl⟩ := okWide_slice Tryd.underlying36 hv
  obtain ⟨fuel, hf⟩ := h
  obtain ⟨A, cp, xs, e0, hle, hC, hl, hQ⟩ := opens_sliceQ k48 (fun x => x.f2.size ≤ 140737488351232) Tryd.underlying36 cells_S bytes_S (fun n c y hy hn => by obtain ⟨p, rfl, hp⟩ := opens_cs_splice hy hn; exact ⟨p, k48_mk W p, hp⟩) hf hw
  have e : (Value.slice a n c).cells.toList = [.slice a n c] := rfl
  rw [e] at e0
  cases e0
  exact ⟨_, _, xs, rfl, hle, hC, hl, hQ⟩
theorem opens_int {r : Reach} {b0 : Nat} {v : Value} {d : DataW H} {p : List MemPlace} (hv : Value.okWide Tryd.prog W r b0 3 v) (h : DataW.Trod enc Tryd.prog W base sp held 3 v d p) :
    ∃ i : Int, v = .int .i64 i := by
  obtain ⟨fuel, hf⟩ := h
  obtain ⟨i, e, -, -⟩ := DataW.trod_int Tryd.underlying3 hf
  obtain ⟨n, rfl⟩ := okWide_int Tryd.underlying3 hv
  exact ⟨n, rfl⟩
end
end Go.Proofs.YtggfcmondffodaaDoor.P
namespace Go.Proofs.YtggfcmondffodaaDoor.P
open Go.RowKit Go.Shelf Go.Maps Go.Proofs.YtggfcmondffodaaDoorW.PrintWords Go.Proofs.YtggfcmondffodaaDoorW.PrintLast Go.Proofs.YtggfcmondffodaaDoorW.PrintMore
set_option linter.unusedVariables false
set_option linter.unusedSimpArgs false
theorem same_spl (l : List Sp) (hl : l.length ≤ 140737488351232) (A0 A1 : Option Addr) (c0 c1 : Nat) (W : World) (h0 : Kd.C k48 W A0 l.length l) (hc0 : l.length ≤ c0) (h1 : Kd.C k48 W A1 l.length l) (hc1 : l.length ≤ c1) :
    Calls Tryd.prog 25 #[.slice A0 l.length c0, .slice A1 l.length c1] W fun e w' => e = .returned (.bool true) ∧ Drawn0 W w' :=
  riposteref01_SameSplices.calls (l.length + 1) A0 c0 l A1 c1 l true W h0 hc0 h1 hc1 (rSameS l hl _ (by omega))
theorem unM_len (s : ByteArray) (l : List Sp) : (unM s l).1.length ≤ l.length := by
  unfold unM
  by_cases c : splE s l = 0
  · rw [if_pos c, unS_length]; exact Nat.le_refl _
  · rw [if_neg c]; exact Nat.zero_le _
set_option maxRecDepth 8000 in
set_option maxHeartbeats 16000000 in
theorem lexSplices_any (s : ByteArray) (A : Option Addr) (c : Nat) (l : List Sp) (p : Int) (w : World) (hg : Gl w) (hC : Kd.C k48 w A l.length l) (hc : l.length ≤ c) (hll : l.length ≤ 140737488351232) (hx : ∀ x ∈ l, x.f2.size ≤ 140737488351232) :
    Calls Tryd.prog 7 #[.string s, .slice A l.length c, .int .i64 p] w fun e w' => e = .returned (.bool true) ∧ Below w.heap.size w w' := by
  have HG := Aside0.mk hg
  have HC := Aside0.mk hC
  have hA := Aside0.mk (fun (W : World) (h : Gl W) => awake_any W h)
  by_cases hs : 3000 < s.size
  · have g1 : decide (3000 < s.size) = true := decide_eq_true hs
    have g2 : decide ((3000 : Int) < (s.size : Int)) = true := decide_eq_true (by omega)
    clear hs hg hC hx
    go_enter Tryd.func7, Tryd.ntmps7
    go_wp2_with (go_at_call 15; refine (hA.out _ HG.out).mono ?_; rintro e w1 ⟨rfl, hb1⟩)
    go_ret
    exact ⟨rfl, hb1⟩
  · have g1 : decide (3000 < s.size) = false := decide_eq_false hs
    have g2 : decide ((3000 : Int) < (s.size : Int)) = false := decide_eq_false (by omega)
    obtain ⟨b, hb1, hb2⟩ := pFew l hll hx
    have hF := ripostelaw01_few.calls (l.length + 1) A c l b w hC hc hb1
    cases b with
    | false =>
      clear hs hg hC hx hb2 hb1
      go_enter Tryd.func7, Tryd.ntmps7
      go_wp2_with (first | (go_at_call 26; refine hF.mono ?_; rintro e w1 ⟨rfl, ⟨nd, rfl⟩⟩; have HB1 := Aside0.mk (pw_below_drewN (Below.refl w.heap.size w) nd)) | (go_at_call 15; refine (hA.out _ (HG.out.mono HB1.out)).mono ?_; rintro e w2 ⟨rfl, hb2⟩; have HB2 := Aside0.mk (HB1.out.trans (hb2.mono HB1.out.size)); clear hb2))
      go_ret
      exact ⟨rfl, HB2.out⟩
    | true =>
      obtain ⟨hl, hx3⟩ := hb2 rfl
      have hs3 : s.size ≤ 3000 := by omega
      have hlc : l.length ≤ c := hc
      have hAp := Aside0.mk (fun (B : Option Addr) (k : Nat) (W : World) (h : Kd.C k48 W B l.length l) (hk : l.length ≤ k) => Apply_any s B k l W h hk hs3 hl hx3)
      have hRA := Aside0.mk (fun (W : World) (h : Kd.C k48 W A l.length l) => riposteref01_Apply.calls (fuS l) s A c l (appM s l).1 (appM s l).2 W h hlc (rApply s l hs3 hl hx3))
      have hMv := Aside0.mk (fun (B : Option Addr) (k : Nat) (W : World) (h : Kd.C k48 W B l.length l) (hk : l.length ≤ k) => lex_Moved.calls (fuS l) s B k l p (mvdM s l p).1 (mvdM s l p).2 W h hk (pMoved s l p hs3 hl hx3))
      have hRM := Aside0.mk (fun (W : World) (h : Kd.C k48 W A l.length l) => riposteref01_Moved.calls (fuS l) s A c l p (mvdM s l p).1 (mvdM s l p).2 W h hlc (rMoved s l p hs3 hl hx3))
      have hUn := Aside0.mk (fun (B : Option Addr) (k : Nat) (W : World) (h : Kd.C k48 W B l.length l) (hk : l.length ≤ k) => lex_Undo.calls (fuS l) s B k l (unM s l).1 (unM s l).2 W h hk (pUndo s l hs3 hl hx3))
      have hRU := Aside0.mk (fun (W : World) (h : Kd.C k48 W A l.length l) => riposteref01_Undo.calls (fuS l) s A c l (unM s l).1 (unM s l).2 W h hlc (rUndo s l hs3 hl hx3))
      have hul := unM_len s l
      generalize appM s l = U at *
      generalize mvdM s l p = V at *
      generalize unM s l = X at *
      obtain ⟨ut, ue⟩ := U
      obtain ⟨vn, ve⟩ := V
      obtain ⟨xl, xe⟩ := X
      simp only at hAp hRA hMv hRM hUn hRU hul
      have hSS := Aside0.mk (same_spl xl (by omega))
      clear hs hg hC hx hb2 hb1 hx3 hul
      go_enter Tryd.func7, Tryd.ntmps7
      go_wp2_with (first | (go_at_call 26; refine hF.mono ?_; rintro e w1 ⟨rfl, ⟨nd, rfl⟩⟩; have HB1 := Aside0.mk (pw_below_drewN (Below.refl w.heap.size w) nd)) | ((with_reducible refine gate_builtin (b := .append) (xs := #[.const (.slice none 0 0), .tmp 30]) rfl ?_); at_builtin; refine Kd.R_append_rows k48 (w0 := w) w.heap.size rfl (.const (.slice none 0 0)) (.tmp 30) 36 48 (.agg #[(.int .i64 0), (.int .i64 0), (.string ⟨#[]⟩)]) 32 rfl Tryd.underlying36 info48 rfl (by decide) (by omega) (.slice none 0 0) [] l A l.length c (fun _ => True) (fun _ => False) rfl rfl (Kd.R_nil _ _ _ _ _) (Kd.C_below HC.out HB1.out) (fun _ _ h => h) (fun _ h => h.elim) (fun _ _ => trivial) HB1.out HB1.out.size (by simp; omega) ?_; intro v2 w2 ho2 hb2 hg2 hat2; rw [List.nil_append] at ho2; have HO2 := Aside0.mk ho2; have HB2 := Aside0.mk hb2; clear ho2 hb2 hg2 hat2; obtain ⟨B2, K2, rfl⟩ := Kd.R_slice HO2.out) | (go_at_call 27; refine (hAp.out B2 K2 _ (Kd.R_reads' HO2.out).2.2 (Kd.R_reads' HO2.out).2.1).mono ?_; rintro e w3 ⟨rfl, hb3⟩; have HB3 := Aside0.mk (HB2.out.trans (hb3.mono HB2.out.size)); clear hb3) | (go_at_call 28; refine (hRA.out _ (Kd.C_below HC.out HB3.out)).mono ?_; rintro e w4 ⟨rfl, ⟨nd4, rfl⟩⟩; have HB4 := Aside0.mk (pw_below_drewN HB3.out nd4)) | ((with_reducible refine gate_builtin (b := .append) (xs := #[.const (.slice none 0 0), .tmp 43]) rfl ?_); at_builtin; refine Kd.R_append_rows k48 (w0 := w) w.heap.size rfl (.const (.slice none 0 0)) (.tmp 43) 36 48 (.agg #[(.int .i64 0), (.int .i64 0), (.string ⟨#[]⟩)]) 32 rfl Tryd.underlying36 info48 rfl (by decide) (by omega) (.slice none 0 0) [] l A l.length c (fun _ => True) (fun _ => False) rfl rfl (Kd.R_nil _ _ _ _ _) (Kd.C_below HC.out HB4.out) (fun _ _ h => h) (fun _ h => h.elim) (fun _ _ => trivial) HB4.out HB4.out.size (by simp; omega) ?_; intro v5 w5 ho5 hb5 hg5 hat5; rw [List.nil_append] at ho5; have HO5 := Aside0.mk ho5; have HB5 := Aside0.mk hb5; clear ho5 hb5 hg5 hat5; obtain ⟨B5, K5, rfl⟩ := Kd.R_slice HO5.out) | (go_at_call 29; refine (hMv.out B5 K5 _ (Kd.R_reads' HO5.out).2.2 (Kd.R_reads' HO5.out).2.1).mono ?_; rintro e w6 ⟨rfl, hb6⟩; have HB6 := Aside0.mk (HB5.out.trans (hb6.mono HB5.out.size)); clear hb6) | (go_at_call 30; refine (hRM.out _ (Kd.C_below HC.out HB6.out)).mono ?_; rintro e w7 ⟨rfl, ⟨nd7, rfl⟩⟩; have HB7 := Aside0.mk (pw_below_drewN HB6.out nd7)) | ((with_reducible refine gate_builtin (b := .append) (xs := #[.const (.slice none 0 0), .tmp 58]) rfl ?_); at_builtin; refine Kd.R_append_rows k48 (w0 := w) w.heap.size rfl (.const (.slice none 0 0)) (.tmp 58) 36 48 (.agg #[(.int .i64 0), (.int .i64 0), (.string ⟨#[]⟩)]) 32 rfl Tryd.underlying36 info48 rfl (by decide) (by omega) (.slice none 0 0) [] l A l.length c (fun _ => True) (fun _ => False) rfl rfl (Kd.R_nil _ _ _ _ _) (Kd.C_below HC.out HB7.out) (fun _ _ h => h) (fun _ h => h.elim) (fun _ _ => trivial) HB7.out HB7.out.size (by simp; omega) ?_; intro v8 w8 ho8 hb8 hg8 hat8; rw [List.nil_append] at ho8; have HO8 := Aside0.mk ho8; have HB8 := Aside0.mk hb8; clear ho8 hb8 hg8 hat8; obtain ⟨B8, K8, rfl⟩ := Kd.R_slice HO8.out) | (go_at_call 31; refine (hUn.out B8 K8 _ (Kd.R_reads' HO8.out).2.2 (Kd.R_reads' HO8.out).2.1).mono ?_; rintro e w9 ⟨v9, rfl, ho9, hb9⟩; have HB9 := Aside0.mk (HB8.out.trans (hb9.mono HB8.out.size)); have HO9 := Aside0.mk ho9; obtain ⟨B9, K9, rfl⟩ := Kd.R_slice ho9; clear ho9 hb9) | (go_at_call 32; refine (hRU.out _ (Kd.C_below HC.out HB9.out)).mono ?_; rintro e w10 ⟨v10, rfl, ho10, hb10⟩; have HB10 := Aside0.mk (HB9.out.trans (hb10.mono HB9.out.size)); have HP10 := Aside0.mk (Kd.C_below (Kd.R_reads' HO9.out).2.2 hb10); have HO10 := Aside0.mk ho10; obtain ⟨B10, K10, rfl⟩ := Kd.R_slice ho10; clear ho10 hb10) | (go_at_call 25; refine (hSS.out B9 B10 K9 K10 _ HP10.out (Kd.R_reads' HO9.out).2.1 (Kd.R_reads' HO10.out).2.2 (Kd.R_reads' HO10.out).2.1).mono ?_; rintro e w' ⟨rfl, ⟨nd11, rfl⟩⟩; have HB11 := Aside0.mk (pw_below_drewN HB10.out nd11)) | (go_at_call 15; refine (hA.out _ (HG.out.mono HB11.out)).mono ?_; rintro e w12 ⟨rfl, hb12⟩; have HB12 := Aside0.mk (HB11.out.trans (hb12.mono HB11.out.size)); clear hb12))
      go_ret
      exact ⟨rfl, HB12.out⟩
end Go.Proofs.YtggfcmondffodaaDoor.P
namespace Go.Proofs.YtggfcmondffodaaDoor.P
open Go.RowKit
set_option linter.unusedVariables false
/-- The four listed variables, as each row lists them. -/
def laidL : List (String × DataW Unit) := [("unicode/utf8.acceptRanges", Rows.laid_unicode_utf8_acceptRanges), ("unicode.White_Space", Rows.laid_unicode_White_Space), ("strings.asciiSpace", Rows.laid_strings_asciiSpace), ("unicode/utf8.first", Rows.laid_unicode_utf8_first)]
def aspT : List Int := (List.range 256).map fun (i : Nat) => if aspB (i : Int) = true then 1 else 0
theorem aspT_len : aspT.length = 256 := by simp [aspT]
theorem aspT_at (c : Nat) (h : c < 256) : aspT.getD c 0 = if aspB (c : Int) = true then 1 else 0 := by
  unfold aspT
  rw [List.getD_eq_getElem?_getD, List.getElem?_map, List.getElem?_range h]
  rfl
theorem asp_data : (Rows.laid_strings_asciiSpace : DataW Unit) = Lib.tabData .u8 aspT := by kernel_rfl
theorem gl_of_laid {W : World} (h : laidMetH Tryd.prog laidL W) : Gl W := by
  rw [MakeChecks.laidMetH_plain _ _ _ (by kernel_rfl)] at h
  obtain ⟨ps, ⟨g0, t0, cs0, f0, p0, q0, hg0, ht0, hv0, hd0, ⟨g1, t1, cs1, f1, p1, q1, hg1, ht1, hv1, hd1, ⟨g2, t2, cs2, f2, p2, q2, hg2, ht2, hv2, hd2, _, _⟩, _⟩, _⟩, _, _⟩ := h
  obtain rfl := Option.some.inj ((show Tryd.prog.globalNamed "strings.asciiSpace" = some 0 by kernel_rfl).symm.trans hg2)
  obtain rfl := Option.some.inj ((show (Tryd.prog.globals[0]?).map (·.type) = some 121 by kernel_rfl).symm.trans ht2)
  rw [asp_data] at hd2
  have hcs := Lib.cells_of_tab Tryd.underlying121 Tryd.underlying5 (by kernel_rfl) (by kernel_rfl) hd2
  intro c hc
  rw [World.var?_cell hg2 hv2 c]
  have h1 : cs2[c]? = some (.int .u8 (aspT.getD c 0)) := by
    have : cs2.toList[c]? = some (.int .u8 (aspT.getD c 0)) := by
      rw [hcs, List.getElem?_map, List.getElem?_eq_getElem (by rw [aspT_len]; exact hc)]
      simp [List.getD, List.getElem?_eq_getElem (show c < aspT.length by rw [aspT_len]; exact hc)]
    simpa using this
  rw [h1, aspT_at c hc]
end Go.Proofs.YtggfcmondffodaaDoor.P
