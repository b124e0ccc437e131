/- What the claim's law needs, many texts in one (Ra). No conditions of its own. -/
import Derived.Test.YtjgocihflhljeaaGreatZl2
import Derived.Deep.Slices
import Derived.Lib.SmallJoins
import Derived.OpenShut
import Derived.ChangeOld
import Derived.WideShapes
import Derived.ProofKit
set_option linter.unusedVariables false
set_option linter.unusedSimpArgs false
namespace Go.Proofs.YtjgocihflhljeaaGreat.P
open Go Go.RowKit Go.ChangeShapes Go.WideShapes Go.Proofs.YtjgocihflhljeaaGreatW.PrintWords Go.Proofs.YtjgocihflhljeaaGreatW.PrintLast Go.Proofs.YtjgocihflhljeaaGreatW.PrintMore
set_option maxRecDepth 100000
section
variable {H : Type} {enc : TypeId × Value → H} {W : World} {base : Nat} {sp : Nat → Bool} {held : Bool} {fuel : Nat} {cs : List Value} {x : DataW H × List MemPlace}
theorem opens_slice {α : Type} (d : Kd α) {t e : TypeId} (ht : Tryz.prog.underlying t = some (.slice e)) (hsz : Tryz.prog.cellsOf e = d.sz)
  (he : ∀ (n : Nat) (c : List Value) (y : DataW H × List MemPlace), DataW.trod enc Tryz.prog W base sp held n e c = some y → ∃ a, d.K W a c)
  (h : DataW.trod enc Tryz.prog W base sp held fuel t cs = some x) : ∃ A c xs, cs = [.slice A xs.length c] ∧ xs.length ≤ c ∧ d.C W A xs.length xs := by
 rcases Go.Deep.open_slice ht h with ⟨rfl, _⟩ | ⟨a, len, cap, m, n, D, Pl, rfl, hb, hl, hm, hmm, _, hx⟩
 ·exact ⟨none, 0, [], rfl, Nat.le_refl _, rfl, by simp, fun h => absurd h (by simp)⟩
 have hlm : len ≤ m := by rw [hmm]; split <;> omega
 have hex : ∀ i, i < len → ∃ p : α × List Value, W.cells? base (a.add (i * Tryz.prog.cellsOf e)) (Tryz.prog.cellsOf e) = some p.2 ∧ d.K W p.1 p.2 := fun i hi => by
  obtain ⟨c, h1, h2⟩ := hx i (by omega)
  obtain ⟨p, hp⟩ := he _ _ _ h2
  exact ⟨(p, c), h1, hp⟩
 rcases Nat.eq_zero_or_pos len with rfl | hpos
 ·exact ⟨some a, cap, [], rfl, Nat.zero_le _, rfl, by simp, fun h => absurd h (by simp)⟩
 have : Inhabited (α × List Value) := ⟨Classical.choose (hex 0 hpos)⟩
 obtain ⟨V, hV⟩ := Go.Deep.choose_lt hex
 have hlen : ((List.range len).map fun i => (V i).1).length = len := by simp
 refine ⟨some a, cap, (List.range len).map fun i => (V i).1, by rw [hlen], by rw [hlen]; exact hl, rfl, by rw [hlen]; simp only [maxLen] at hm; omega, fun _ => ⟨a, rfl, ?_⟩⟩
 intro j p hj
 obtain ⟨hjl, rfl⟩ := List.getElem?_eq_some_iff.1 hj
 rw [hlen] at hjl
 obtain ⟨h1, h2⟩ := hV j hjl
 rw [hsz] at h1
 obtain ⟨_, h3, h4⟩ := World.cells?_some h1
 refine ⟨(V j).2, h3, by simpa using h2, fun i u hu => ?_⟩
 have hi : i < d.sz := by rw [← h3]; exact (List.getElem?_eq_some_iff.1 hu).1
 have h5 := h4 i hi
 rw [Go.Deep.add_add] at h5
 rw [h5, hu]
theorem cells3 : Tryz.prog.cellsOf 3 = 1 := by kernel_rfl
theorem cells4 : Tryz.prog.cellsOf 4 = 1 := by kernel_rfl
theorem cells5 : Tryz.prog.cellsOf 5 = 1 := by kernel_rfl
theorem cells22 : Tryz.prog.cellsOf 22 = 1 := by kernel_rfl
theorem cells66 : Tryz.prog.cellsOf 66 = 1 := by kernel_rfl
theorem cellsB : Tryz.prog.cellsOf 24 = 2 := by kernel_rfl
theorem cellsT : Tryz.prog.cellsOf 68 = 3 := by kernel_rfl
theorem cellsM : Tryz.prog.cellsOf 52 = 4 := by kernel_rfl
theorem cellsA : Tryz.prog.cellsOf 26 = 4 := by kernel_rfl
theorem opens24 (h : DataW.trod enc Tryz.prog W base sp held fuel 24 cs = some x) : ∃ a : S24, cs = [.bool a.f0, .int .i64 a.f1] := by
 obtain ⟨y0, y1, n, _, hl, h0, h1⟩ := trod_struct2 Tryz.underlying24 h
 rw [cellsB] at hl
 match cs, hl with
 | [a, b], _ =>
  simp only [cells3, cells4, cells5, cells22, cells66, cellsB, List.drop_zero, List.drop_succ_cons, List.take_succ_cons, List.take_zero] at h0 h1
  have ha : DataW.trod enc Tryz.prog W base sp held n 4 [a] = some y0 := h0
  have hb : DataW.trod enc Tryz.prog W base sp held n 3 [b] = some y1 := h1
  obtain ⟨b0, e0, _⟩ := DataW.trod_bool Tryz.underlying4 ha
  obtain ⟨b1, e1, _⟩ := DataW.trod_int Tryz.underlying3 hb
  cases e0
  cases e1
  exact ⟨⟨b0, b1⟩, rfl⟩
theorem opens68 (h : DataW.trod enc Tryz.prog W base sp held fuel 68 cs = some x) : ∃ a : S68, k68.K W a cs := by
 obtain ⟨y0, y1, n, _, hl, h0, h1⟩ := trod_struct2 Tryz.underlying68 h
 rw [cellsT] at hl
 match cs, hl with
 | [a, b, c], _ =>
  simp only [cells3, cells4, cells5, cells22, cells66, cellsB, List.drop_zero, List.drop_succ_cons, List.take_succ_cons, List.take_zero] at h0 h1
  have ha : DataW.trod enc Tryz.prog W base sp held n 66 [a] = some y0 := h0
  have hb : DataW.trod enc Tryz.prog W base sp held n 24 [b, c] = some y1 := h1
  obtain ⟨A, cp, xs, e0, hle, hC⟩ := opens_slice k24 Tryz.underlying66 (cellsB) (fun n c y hy => by obtain ⟨p, rfl⟩ := opens24 hy; exact ⟨p, k24_mk W p⟩) ha
  obtain ⟨p, e1⟩ := opens24 hb
  cases e0
  cases e1
  exact ⟨⟨xs, p⟩, k68_mk W ⟨xs, p⟩ hle hC⟩
theorem opens52 (h : DataW.trod enc Tryz.prog W base sp held fuel 52 cs = some x) : ∃ a : S52, k52.K W a cs := by
 obtain ⟨y0, y1, y2, y3, n, _, hl, h0, h1, h2, h3⟩ := Go.Joins.trod_struct4 Tryz.underlying52 h
 rw [cellsM] at hl
 match cs, hl with
 | [a, b, c, d], _ =>
  simp only [cells3, cells4, cells5, cells22, cells66, cellsB, List.drop_zero, List.drop_succ_cons, List.take_succ_cons, List.take_zero] at h0 h1 h2 h3
  have ha : DataW.trod enc Tryz.prog W base sp held n 3 [a] = some y0 := h0
  have hb : DataW.trod enc Tryz.prog W base sp held n 3 [b] = some y1 := h1
  have hd : DataW.trod enc Tryz.prog W base sp held n 5 [c] = some y2 := h2
  have he : DataW.trod enc Tryz.prog W base sp held n 3 [d] = some y3 := h3
  obtain ⟨b0, e0, _⟩ := DataW.trod_int Tryz.underlying3 ha
  obtain ⟨b1, e1, _⟩ := DataW.trod_int Tryz.underlying3 hb
  obtain ⟨b2, e2, _⟩ := DataW.trod_int Tryz.underlying5 hd
  obtain ⟨b3, e3, _⟩ := DataW.trod_int Tryz.underlying3 he
  cases e0
  cases e1
  cases e2
  cases e3
  exact ⟨⟨b0, b1, b2, b3⟩, k52_mk W _⟩
theorem opens_arena {r : Reach} {b0 : Nat} {v : Value} {d : DataW H} {p : List MemPlace} (hv : Value.okWide Tryz.prog W r b0 26 v) (h : DataW.Trod enc Tryz.prog W base sp held 26 v d p) :
  ∃ A c ids rc rn jb, v = .agg #[.slice A ids.length c, .bool rc, .int .i64 rn, .bool jb] ∧ ids.length ≤ c ∧ k68.C W A ids.length ids := by
 obtain ⟨cs, rfl, hsz⟩ := okWide_struct Tryz.underlying26 hv
 obtain ⟨fuel, hf⟩ := h
 obtain ⟨y0, y1, y2, n, _, hl, h0, h1, h2⟩ := Go.Deep.trod_struct3 Tryz.underlying26 hf
 rw [cellsA] at hl
 have e : (Value.agg cs).cells.toList = cs.toList := rfl
 rw [e] at hl h0 h1 h2
 obtain ⟨l⟩ := cs
 match l, hl with
 | [a, b, c, g], _ =>
  simp only [cells3, cells4, cells5, cells22, cells66, cellsB, List.drop_zero, List.drop_succ_cons, List.take_succ_cons, List.take_zero] at h0 h1 h2
  have ha : DataW.trod enc Tryz.prog W base sp held n 22 [a] = some y0 := h0
  have hb : DataW.trod enc Tryz.prog W base sp held n 24 [b, c] = some y1 := h1
  have hg : DataW.trod enc Tryz.prog W base sp held n 4 [g] = some y2 := h2
  obtain ⟨A, cp, xs, e0, hle, hC⟩ := opens_slice k68 Tryz.underlying22 cellsT (fun n c y hy => opens68 hy) ha
  obtain ⟨p, e1⟩ := opens24 hb
  obtain ⟨b0, e2, _⟩ := DataW.trod_bool Tryz.underlying4 hg
  cases e0
  cases e1
  cases e2
  exact ⟨A, cp, xs, p.f0, p.f1, b0, rfl, hle, hC⟩
theorem opens_word {r : Reach} {b0 : Nat} {v : Value} {d : DataW H} {p : List MemPlace} (hv : Value.okWide Tryz.prog W r b0 28 v) (h : DataW.Trod enc Tryz.prog W base sp held 28 v d p) :
  ∃ A c l, v = .slice A l.length c ∧ l.length ≤ c ∧ k52.C W A l.length l := by
 obtain ⟨a, n, c, rfl⟩ := okWide_slice Tryz.underlying28 hv
 obtain ⟨fuel, hf⟩ := h
 obtain ⟨A, cp, xs, e0, hle, hC⟩ := opens_slice k52 Tryz.underlying28 cellsM (fun n c y hy => opens52 hy) hf
 have e : (Value.slice a n c).cells.toList = [.slice a n c] := rfl
 rw [e] at e0
 cases e0
 exact ⟨_, _, xs, rfl, hle, hC⟩
end
end Go.Proofs.YtjgocihflhljeaaGreat.P
