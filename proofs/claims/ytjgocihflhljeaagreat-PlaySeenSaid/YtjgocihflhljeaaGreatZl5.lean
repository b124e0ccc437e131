/- What the claim's law needs, many texts in one (Hf). No conditions of its own. -/
import Derived.Test.YtjgocihflhljeaaGreatZl4
import Derived.RegionTactic
import Derived.Deep.RegionWith
set_option linter.unusedVariables false
set_option linter.unusedSimpArgs false
namespace Go.Proofs.YtjgocihflhljeaaGreat.P
open Go.RowKit Go.Shelf Go.Proofs.YtjgocihflhljeaaGreatW.PrintWords Go.Proofs.YtjgocihflhljeaaGreatW.PrintLast Go.Proofs.YtjgocihflhljeaaGreatW.PrintMore
attribute [local go_sem] Oper.semAt_some
theorem store4 {W : World} {g t : Nat} {a0 a1 a2 a3 : Value} (h : W.heap[g]? = some (.cells #[a0, a1, a2, a3] t (0, 0))) (v0 v1 v2 v3 : Value) :
  ((((W.setCell ⟨g, 0, none⟩ v0).setCell ⟨g, 1, none⟩ v1).setCell ⟨g, 2, none⟩ v2).setCell ⟨g, 3, none⟩ v3).heap[g]? = some (.cells #[v0, v1, v2, v3] t (0, 0)) :=
 blk_put (blk_put (blk_put (blk_put h 0 v0 rfl) 1 v1 rfl) 2 v2 rfl) 3 v3 rfl
theorem far4 {W : World} {g k : Nat} {o : Obj} (h : W.heap[k]? = some o) (hne : k ≠ g) (v0 v1 v2 v3 : Value) :
  ((((W.setCell ⟨g, 0, none⟩ v0).setCell ⟨g, 1, none⟩ v1).setCell ⟨g, 2, none⟩ v2).setCell ⟨g, 3, none⟩ v3).heap[k]? = some o :=
 (Below.heap_setCell _ _ _ k hne).trans ((Below.heap_setCell _ _ _ k hne).trans ((Below.heap_setCell _ _ _ k hne).trans ((Below.heap_setCell _ _ _ k hne).trans h)))
theorem below4s {n g : Nat} {w W : World} (h : Below n w W) (hn : n ≤ g) (v0 v1 v2 v3 : Value) :
  Below n w ((((W.setCell ⟨g, 0, none⟩ v0).setCell ⟨g, 1, none⟩ v1).setCell ⟨g, 2, none⟩ v2).setCell ⟨g, 3, none⟩ v3) :=
 (((h.setCell (p := ⟨g, 0, none⟩) hn _).setCell (p := ⟨g, 1, none⟩) hn _).setCell (p := ⟨g, 2, none⟩) hn _).setCell (p := ⟨g, 3, none⟩) hn _
set_option maxHeartbeats 2000000 in
theorem open_any (A : Option Addr) (c : Nat) (ids : List S68) (rc : Bool) (rn : Int) (j : Bool) (w : World) (hr : Kd.C k68 w A ids.length ids) :
  Calls Tryz.prog 128 #[.agg #[.slice A ids.length c, .bool rc, .int .i64 rn, .bool j]] w fun e w' => e = .returned (.tuple #[.agg #[.slice A ids.length c, .bool rc, .int .i64 rn, .bool j], .int .i64 (checkE ids rn)]) ∧ Below w.heap.size w w' := by
 have hchk := fun (V : World) (hb : Below w.heap.size w V) => Check_any A c ids rc rn j V (Kd.C_below hr hb)
 have HC := am hchk
 clear hchk hr
 go_enter Tryz.func128, Tryz.ntmps128
 go_wp2
 go_region_with (go_at_call 92; refine (HC.out _ ?_).mono ?_; exact (((Below.refl _ w).alloc (Nat.le_refl _) _).alloc (by simp) _).drew; rintro e w1 ⟨rfl, hb1⟩; obtain ⟨hc, hf⟩ := bcell hb1)
 all_goals
  have K := (hb1.block (w.heap.size + 1) (by simp)).trans (blk_drew (by simpa using heap_alloc_new (w.alloc (.cells #[.slice A ids.length c, .bool rc, .int .i64 rn, .bool j] 26)) (.cells #[.slice none 0 0, .bool false, .int .i64 0, .bool false] 139)))
  have r := store4 K (.slice A ids.length c) (.bool rc) (.int .i64 rn) (.bool j)
  have c0 := (blk_cell r 0).trans rfl
  have c1 := (blk_cell r 1).trans rfl
  have c2 := (blk_cell r 2).trans rfl
  have c3 := (blk_cell r 3).trans rfl
  have BW := ((((Below.refl _ w).alloc (Nat.le_refl _) (.cells #[.slice A ids.length c, .bool rc, .int .i64 rn, .bool j] 26)).alloc (by simp) (.cells #[.slice none 0 0, .bool false, .int .i64 0, .bool false] 139)).drew).trans (hb1.mono (by simp; omega))
  have HK := am (And.intro c0 (And.intro c1 (And.intro c2 (And.intro c3 BW))))
  clear hc hf K r c0 c1 c2 c3 BW
  go_wp2
  refine bodyPost_ret (v := .tuple #[.agg #[.slice A ids.length c, .bool rc, .int .i64 rn, .bool j], .int .i64 (checkE ids rn)]) ?_ rfl ⟨rfl, below4s HK.out.2.2.2.2 (by simp) _ _ _ _⟩
  obtain ⟨c0, c1, c2, c3, -⟩ := HK.out
  simp [results, Tryz.results128, go_sem, c0, c1, c2, c3]
def hasR (ids : List S68) (rc : Bool) (rn : Int) (j : Bool) (m : S52) : Bool := if checkE ids rn = 0 then hasL (findL (spotsL ids rc rn j) m.f0 m.f1) m else false
set_option maxHeartbeats 2000000 in
theorem Has_any (A : Option Addr) (c : Nat) (ids : List S68) (rc : Bool) (rn : Int) (j : Bool) (m : S52) (w : World) (hr : Kd.C k68 w A ids.length ids) :
  Calls Tryz.prog 120 #[.agg #[.slice A ids.length c, .bool rc, .int .i64 rn, .bool j], .agg #[.int .i64 m.f0, .int .i64 m.f1, .int .u8 m.f2, .int .i64 m.f3]] w fun e w' => e = .returned (.tuple #[.bool (hasR ids rc rn j m), .int .i64 (checkE ids rn)]) ∧ Below w.heap.size w w' := by
 have HO := am (fun (V : World) (hb : Below w.heap.size w V) => open_any A c ids rc rn j V (Kd.C_below hr hb))
 have HH := am (fun (V : World) (hb : Below w.heap.size w V) (hok : checkE ids rn = 0) => has_any A c ids rc rn j m V (Kd.C_below hr hb) hok)
 have HB := am (((Below.refl _ w).alloc (Nat.le_refl _) (.cells #[.slice A ids.length c, .bool rc, .int .i64 rn, .bool j] 26)).alloc (by simp) (.cells #[.int .i64 m.f0, .int .i64 m.f1, .int .u8 m.f2, .int .i64 m.f3] 52))
 clear hr
 by_cases hok : checkE ids rn = 0
 ·have HK := am hok
  clear hok
  go_enter Tryz.func120, Tryz.ntmps120
  go_wp2_with (fail)
  refine (HO.out _ HB.out).mono ?_
  rw [HK.out]
  rintro e w1 ⟨rfl, hb1⟩
  obtain ⟨hc, hf⟩ := bcell hb1
  have hz : w.heap.size + 2 ≤ w1.heap.size := by have := hb1.size; simp at this; omega
  have hz1 : w.heap.size + 1 < w1.heap.size := by omega
  have HB1 := am (HB.out.trans (hb1.mono (by simp; omega)))
  go_wp2_with (fail)
  refine (HH.out _ (HB1.out.alloc (by omega) _) HK.out).mono ?_
  rintro e w2 ⟨rfl, hb2⟩
  have HB2 := am ((HB1.out.alloc (by omega) (.cells #[.slice A ids.length c, .bool rc, .int .i64 rn, .bool j] 139)).trans (hb2.mono (by simp; omega)))
  cases hf : findL (spotsL ids rc rn j) m.f0 m.f1 with
  | none =>
   have HF := am hf
   clear hf
   simp only [spotOr]
   go_wp2
   go_ret2
   exact ⟨by simp only [hasR, HK.out, HF.out, if_true]; rfl, HB2.out.alloc (by have := HB2.out.size; omega) _⟩
  | some p =>
   have HF := am hf
   clear hf
   simp only [spotOr, Spot.val]
   go_wp2
   go_ret2
   exact ⟨by simp only [hasR, HK.out, HF.out, if_true]; rfl, HB2.out.alloc (by have := HB2.out.size; omega) _⟩
 have HK := am hok
 have hb : (checkE ids rn == 0) = false := by simpa using hok
 have hb2 : (checkE ids rn != 0) = true := by simpa using hok
 clear hok
 generalize hq : checkE ids rn = q at *
 have HQ := am hq
 clear hq
 go_enter Tryz.func120, Tryz.ntmps120
 go_wp2_with (fail)
 refine (HO.out _ HB.out).mono ?_
 rintro e w1 ⟨rfl, hb1⟩
 have HB1 := am (HB.out.trans (hb1.mono (by simp; omega)))
 clear hb1
 go_wp2
 go_ret2
 exact ⟨by simp only [hasR, HQ.out, HK.out, if_false]; rfl, HB1.out.alloc (by have := HB1.out.size; omega) _⟩
theorem isOther_any (p : Spot) (w : World) : Calls Tryz.prog 125 #[.agg #[.int .i64 p.id, .int .i64 p.arg, .bool p.cell, .int .i64 p.n, .bool p.esc]] w fun e w' => e = .returned (.bool (p.id == 0 || decide (0 < p.arg))) ∧ Below w.heap.size w w' := by
 have HB := am ((Below.refl _ w).alloc (Nat.le_refl _) (.cells #[.int .i64 p.id, .int .i64 p.arg, .bool p.cell, .int .i64 p.n, .bool p.esc] 141))
 by_cases h : p.id = 0
 ·have hb : (p.id == 0) = true := by simpa using h
  have H := am hb
  clear h
  go_enter Tryz.func125, Tryz.ntmps125
  go_wp2
  go_ret
  exact ⟨by rw [H.out]; rfl, HB.out⟩
 have hb : (p.id == 0) = false := by simpa using h
 have H := am hb
 clear h
 go_enter Tryz.func125, Tryz.ntmps125
 go_wp2
 go_ret
 exact ⟨by rw [H.out]; rfl, HB.out⟩
def moveE (ids : List S68) (rc : Bool) (rn : Int) (j : Bool) (m : S52) : Int := if checkE ids rn = 0 then (if hasL (findL (spotsL ids rc rn j) m.f0 m.f1) m = true then 0 else 7) else checkE ids rn
def moveP (ids : List S68) (rc : Bool) (rn : Int) (j : Bool) (m : S52) : Option Spot := if checkE ids rn = 0 then findL (spotsL ids rc rn j) m.f0 m.f1 else none
theorem spotOr_cells (o : Option Spot) : ∃ a0 a1 a2 a3 a4, spotOr o = .agg #[.int .i64 a0, .int .i64 a1, .bool a2, .int .i64 a3, .bool a4] := by
 cases o with
 | none => exact ⟨_, _, _, _, _, rfl⟩
 | some p => exact ⟨_, _, _, _, _, rfl⟩
set_option maxHeartbeats 1600000 in
theorem move_any (A : Option Addr) (c : Nat) (ids : List S68) (rc : Bool) (rn : Int) (j : Bool) (m : S52) (w : World) (hr : Kd.C k68 w A ids.length ids) :
  Calls Tryz.prog 124 #[.agg #[.slice A ids.length c, .bool rc, .int .i64 rn, .bool j], .agg #[.int .i64 m.f0, .int .i64 m.f1, .int .u8 m.f2, .int .i64 m.f3]] w fun e w' => e = .returned (.tuple #[.agg #[.slice A ids.length c, .bool rc, .int .i64 rn, .bool j], spotOr (moveP ids rc rn j m), .int .i64 (moveE ids rc rn j m)]) ∧ Below w.heap.size w w' := by
 have HO := am (fun (V : World) (hb : Below w.heap.size w V) => open_any A c ids rc rn j V (Kd.C_below hr hb))
 have HH := am (fun (V : World) (hb : Below w.heap.size w V) (hok : checkE ids rn = 0) => has_any A c ids rc rn j m V (Kd.C_below hr hb) hok)
 have HB := am (below4 w (.cells #[.slice A ids.length c, .bool rc, .int .i64 rn, .bool j] 26) (.cells #[.int .i64 m.f0, .int .i64 m.f1, .int .u8 m.f2, .int .i64 m.f3] 52) (.cells #[.slice none 0 0, .bool false, .int .i64 0, .bool false] 139) (.cells #[.int .i64 0, .int .i64 0, .bool false, .int .i64 0, .bool false] 141))
 have HF4 := am (four w _ (.cells #[.slice A ids.length c, .bool rc, .int .i64 rn, .bool j] 26) (.cells #[.int .i64 m.f0, .int .i64 m.f1, .int .u8 m.f2, .int .i64 m.f3] 52) (.cells #[.slice none 0 0, .bool false, .int .i64 0, .bool false] 139) (.cells #[.int .i64 0, .int .i64 0, .bool false, .int .i64 0, .bool false] 141) rfl)
 clear hr
 by_cases hok : checkE ids rn = 0
 ·have HK := am hok
  clear hok
  go_enter Tryz.func124, Tryz.ntmps124
  go_wp2_with (fail)
  refine (HO.out _ HB.out).mono ?_
  rw [HK.out]
  rintro e w1 ⟨rfl, hb1⟩
  have K2 := am ((hb1.block _ (by simp)).trans HF4.out.2.2.2.1)
  have K3 := am ((hb1.block _ (by simp)).trans HF4.out.2.2.2.2.1)
  obtain ⟨hc, hf⟩ := bcell hb1
  have hz : w.heap.size + 4 ≤ w1.heap.size := by have := hb1.size; simp at this; omega
  have hz1 : w.heap.size + 1 + 1 < w1.heap.size := by omega
  have HB1 := am (HB.out.trans (hb1.mono (by simp; omega)))
  go_wp2_with (fail)
  obtain ⟨a0, a1, a2, a3, a4, ha⟩ := spotOr_cells (findL (spotsL ids rc rn j) m.f0 m.f1)
  have HW := am (below4s HB1.out (by omega : w.heap.size ≤ w.heap.size + 2) (.slice A ids.length c) (.bool rc) (.int .i64 rn) (.bool j))
  have hcall := HH.out _ HW.out HK.out
  rw [ha] at hcall
  have HA := am ha
  clear ha
  refine hcall.mono ?_
  clear hcall
  cases hh : hasL (findL (spotsL ids rc rn j) m.f0 m.f1) m with
  | true =>
   have HH2 := am hh
   clear hh
   rintro e w2 ⟨rfl, hb2⟩
   have L2 := am ((hb2.block _ (by simp; omega)).trans (store4 K2.out (.slice A ids.length c) (.bool rc) (.int .i64 rn) (.bool j)))
   have L3 := am ((hb2.block _ (by simp; omega)).trans (far4 K3.out (by omega) (.slice A ids.length c) (.bool rc) (.int .i64 rn) (.bool j)))
   have HB2 := am ((below4s HB1.out (by omega : w.heap.size ≤ w.heap.size + 2) (.slice A ids.length c) (.bool rc) (.int .i64 rn) (.bool j)).trans (hb2.mono (by simp; omega)))
   have e0 : w2.cell? ⟨w.heap.size + 3, 0, none⟩ = some (.int .i64 0) := (blk_cell L3.out 0).trans rfl
   have ez0 := blk_frozen L3.out 0
   have e1 : w2.cell? ⟨w.heap.size + 3, 1, none⟩ = some (.int .i64 0) := (blk_cell L3.out 1).trans rfl
   have ez1 := blk_frozen L3.out 1
   have e2 : w2.cell? ⟨w.heap.size + 3, 2, none⟩ = some (.bool false) := (blk_cell L3.out 2).trans rfl
   have ez2 := blk_frozen L3.out 2
   have e3 : w2.cell? ⟨w.heap.size + 3, 3, none⟩ = some (.int .i64 0) := (blk_cell L3.out 3).trans rfl
   have ez3 := blk_frozen L3.out 3
   have e4 : w2.cell? ⟨w.heap.size + 3, 4, none⟩ = some (.bool false) := (blk_cell L3.out 4).trans rfl
   have ez4 := blk_frozen L3.out 4
   clear hb2 hc hf
   go_wp2
   refine name_world ?_
   intro V hV
   have M2 := am (show V.heap[w.heap.size + 2]? = some (.cells #[.slice A ids.length c, .bool rc, .int .i64 rn, .bool j] 139 (0, 0)) by rw [hV]; exact far5 L2.out (by omega) _ _ _ _ _)
   have M3 := am (show V.heap[w.heap.size + 3]? = some (.cells #[.int .i64 a0, .int .i64 a1, .bool a2, .int .i64 a3, .bool a4] 141 (0, 0)) by rw [hV]; exact store5 L3.out _ _ _ _ _)
   have BV := am (show Below w.heap.size w V by rw [hV]; exact below5 HB2.out (by omega) _ _ _ _ _)
   clear hV e0 ez0 e1 ez1 e2 ez2 e3 ez3 e4 ez4
   have f0 : V.cell? ⟨w.heap.size + 2, 0, none⟩ = some (.slice A ids.length c) := (blk_cell M2.out 0).trans rfl
   have fz0 := blk_frozen M2.out 0
   have f1 : V.cell? ⟨w.heap.size + 2, 1, none⟩ = some (.bool rc) := (blk_cell M2.out 1).trans rfl
   have fz1 := blk_frozen M2.out 1
   have f2 : V.cell? ⟨w.heap.size + 2, 2, none⟩ = some (.int .i64 rn) := (blk_cell M2.out 2).trans rfl
   have fz2 := blk_frozen M2.out 2
   have f3 : V.cell? ⟨w.heap.size + 2, 3, none⟩ = some (.bool j) := (blk_cell M2.out 3).trans rfl
   have fz3 := blk_frozen M2.out 3
   have g0 : V.cell? ⟨w.heap.size + 3, 0, none⟩ = some (.int .i64 a0) := (blk_cell M3.out 0).trans rfl
   have gz0 := blk_frozen M3.out 0
   have g1 : V.cell? ⟨w.heap.size + 3, 1, none⟩ = some (.int .i64 a1) := (blk_cell M3.out 1).trans rfl
   have gz1 := blk_frozen M3.out 1
   have g2 : V.cell? ⟨w.heap.size + 3, 2, none⟩ = some (.bool a2) := (blk_cell M3.out 2).trans rfl
   have gz2 := blk_frozen M3.out 2
   have g3 : V.cell? ⟨w.heap.size + 3, 3, none⟩ = some (.int .i64 a3) := (blk_cell M3.out 3).trans rfl
   have gz3 := blk_frozen M3.out 3
   have g4 : V.cell? ⟨w.heap.size + 3, 4, none⟩ = some (.bool a4) := (blk_cell M3.out 4).trans rfl
   have gz4 := blk_frozen M3.out 4
   go_region_with (fail)
   all_goals
    clear f0 f1 f2 f3 fz0 fz1 fz2 fz3 g0 g1 g2 g3 g4 gz0 gz1 gz2 gz3 gz4
    have N2 := blk_drew (far5 (g := w.heap.size + 3) (store4 M2.out (.slice A ids.length c) (.bool rc) (.int .i64 rn) (.bool j)) (by omega) (.int .i64 a0) (.int .i64 a1) (.bool a2) (.int .i64 a3) (.bool a4))
    have N3 := blk_drew (store5 (far4 (g := w.heap.size + 2) M3.out (by omega) (.slice A ids.length c) (.bool rc) (.int .i64 rn) (.bool j)) (.int .i64 a0) (.int .i64 a1) (.bool a2) (.int .i64 a3) (.bool a4))
    have H2 := am N2
    have H3 := am N3
    clear N2 N3
    go_wp2
    refine bodyPost_ret (v := .tuple #[.agg #[.slice A ids.length c, .bool rc, .int .i64 rn, .bool j], .agg #[.int .i64 a0, .int .i64 a1, .bool a2, .int .i64 a3, .bool a4], .int .i64 0]) ?_ rfl ⟨by rw [moveP, moveE, if_pos HK.out, if_pos HK.out, HH2.out, HA.out]; rfl, (below5 (below4s BV.out (by omega) _ _ _ _) (by omega) _ _ _ _ _).drew⟩
    have c0 := (blk_cell H2.out 0).trans rfl
    have c1 := (blk_cell H2.out 1).trans rfl
    have c2 := (blk_cell H2.out 2).trans rfl
    have c3 := (blk_cell H2.out 3).trans rfl
    have d0 := (blk_cell H3.out 0).trans rfl
    have d1 := (blk_cell H3.out 1).trans rfl
    have d2 := (blk_cell H3.out 2).trans rfl
    have d3 := (blk_cell H3.out 3).trans rfl
    have d4 := (blk_cell H3.out 4).trans rfl
    simp [results, Tryz.results124, go_sem, Act.put, c0, c1, c2, c3, d0, d1, d2, d3, d4]
  | false =>
   have HH2 := am hh
   clear hh
   rintro e w2 ⟨rfl, hb2⟩
   have L2 := am ((hb2.block _ (by simp; omega)).trans (store4 K2.out (.slice A ids.length c) (.bool rc) (.int .i64 rn) (.bool j)))
   have L3 := am ((hb2.block _ (by simp; omega)).trans (far4 K3.out (by omega) (.slice A ids.length c) (.bool rc) (.int .i64 rn) (.bool j)))
   have HB2 := am ((below4s HB1.out (by omega : w.heap.size ≤ w.heap.size + 2) (.slice A ids.length c) (.bool rc) (.int .i64 rn) (.bool j)).trans (hb2.mono (by simp; omega)))
   have e0 : w2.cell? ⟨w.heap.size + 3, 0, none⟩ = some (.int .i64 0) := (blk_cell L3.out 0).trans rfl
   have ez0 := blk_frozen L3.out 0
   have e1 : w2.cell? ⟨w.heap.size + 3, 1, none⟩ = some (.int .i64 0) := (blk_cell L3.out 1).trans rfl
   have ez1 := blk_frozen L3.out 1
   have e2 : w2.cell? ⟨w.heap.size + 3, 2, none⟩ = some (.bool false) := (blk_cell L3.out 2).trans rfl
   have ez2 := blk_frozen L3.out 2
   have e3 : w2.cell? ⟨w.heap.size + 3, 3, none⟩ = some (.int .i64 0) := (blk_cell L3.out 3).trans rfl
   have ez3 := blk_frozen L3.out 3
   have e4 : w2.cell? ⟨w.heap.size + 3, 4, none⟩ = some (.bool false) := (blk_cell L3.out 4).trans rfl
   have ez4 := blk_frozen L3.out 4
   clear hb2 hc hf
   go_wp2
   refine name_world ?_
   intro V hV
   have M2 := am (show V.heap[w.heap.size + 2]? = some (.cells #[.slice A ids.length c, .bool rc, .int .i64 rn, .bool j] 139 (0, 0)) by rw [hV]; exact far5 L2.out (by omega) _ _ _ _ _)
   have M3 := am (show V.heap[w.heap.size + 3]? = some (.cells #[.int .i64 a0, .int .i64 a1, .bool a2, .int .i64 a3, .bool a4] 141 (0, 0)) by rw [hV]; exact store5 L3.out _ _ _ _ _)
   have BV := am (show Below w.heap.size w V by rw [hV]; exact below5 HB2.out (by omega) _ _ _ _ _)
   clear hV e0 ez0 e1 ez1 e2 ez2 e3 ez3 e4 ez4
   have f0 : V.cell? ⟨w.heap.size + 2, 0, none⟩ = some (.slice A ids.length c) := (blk_cell M2.out 0).trans rfl
   have fz0 := blk_frozen M2.out 0
   have f1 : V.cell? ⟨w.heap.size + 2, 1, none⟩ = some (.bool rc) := (blk_cell M2.out 1).trans rfl
   have fz1 := blk_frozen M2.out 1
   have f2 : V.cell? ⟨w.heap.size + 2, 2, none⟩ = some (.int .i64 rn) := (blk_cell M2.out 2).trans rfl
   have fz2 := blk_frozen M2.out 2
   have f3 : V.cell? ⟨w.heap.size + 2, 3, none⟩ = some (.bool j) := (blk_cell M2.out 3).trans rfl
   have fz3 := blk_frozen M2.out 3
   have g0 : V.cell? ⟨w.heap.size + 3, 0, none⟩ = some (.int .i64 a0) := (blk_cell M3.out 0).trans rfl
   have gz0 := blk_frozen M3.out 0
   have g1 : V.cell? ⟨w.heap.size + 3, 1, none⟩ = some (.int .i64 a1) := (blk_cell M3.out 1).trans rfl
   have gz1 := blk_frozen M3.out 1
   have g2 : V.cell? ⟨w.heap.size + 3, 2, none⟩ = some (.bool a2) := (blk_cell M3.out 2).trans rfl
   have gz2 := blk_frozen M3.out 2
   have g3 : V.cell? ⟨w.heap.size + 3, 3, none⟩ = some (.int .i64 a3) := (blk_cell M3.out 3).trans rfl
   have gz3 := blk_frozen M3.out 3
   have g4 : V.cell? ⟨w.heap.size + 3, 4, none⟩ = some (.bool a4) := (blk_cell M3.out 4).trans rfl
   have gz4 := blk_frozen M3.out 4
   go_region_with (fail)
   all_goals
    clear f0 f1 f2 f3 fz0 fz1 fz2 fz3 g0 g1 g2 g3 g4 gz0 gz1 gz2 gz3 gz4
    have N2 := blk_drew (far5 (g := w.heap.size + 3) (store4 M2.out (.slice A ids.length c) (.bool rc) (.int .i64 rn) (.bool j)) (by omega) (.int .i64 a0) (.int .i64 a1) (.bool a2) (.int .i64 a3) (.bool a4))
    have N3 := blk_drew (store5 (far4 (g := w.heap.size + 2) M3.out (by omega) (.slice A ids.length c) (.bool rc) (.int .i64 rn) (.bool j)) (.int .i64 a0) (.int .i64 a1) (.bool a2) (.int .i64 a3) (.bool a4))
    have H2 := am N2
    have H3 := am N3
    clear N2 N3
    go_wp2
    refine bodyPost_ret (v := .tuple #[.agg #[.slice A ids.length c, .bool rc, .int .i64 rn, .bool j], .agg #[.int .i64 a0, .int .i64 a1, .bool a2, .int .i64 a3, .bool a4], .int .i64 7]) ?_ rfl ⟨by rw [moveP, moveE, if_pos HK.out, if_pos HK.out, HH2.out, HA.out]; rfl, (below5 (below4s BV.out (by omega) _ _ _ _) (by omega) _ _ _ _ _).drew⟩
    have c0 := (blk_cell H2.out 0).trans rfl
    have c1 := (blk_cell H2.out 1).trans rfl
    have c2 := (blk_cell H2.out 2).trans rfl
    have c3 := (blk_cell H2.out 3).trans rfl
    have d0 := (blk_cell H3.out 0).trans rfl
    have d1 := (blk_cell H3.out 1).trans rfl
    have d2 := (blk_cell H3.out 2).trans rfl
    have d3 := (blk_cell H3.out 3).trans rfl
    have d4 := (blk_cell H3.out 4).trans rfl
    simp [results, Tryz.results124, go_sem, Act.put, c0, c1, c2, c3, d0, d1, d2, d3, d4]
 have HK := am hok
 have hb : (checkE ids rn == 0) = false := by simpa using hok
 have hb2 : (checkE ids rn != 0) = true := by simpa using hok
 clear hok
 generalize hq : checkE ids rn = q at *
 have HQ := am hq
 clear hq
 go_enter Tryz.func124, Tryz.ntmps124
 go_wp2_with (fail)
 refine (HO.out _ HB.out).mono ?_
 rintro e w1 ⟨rfl, hb1⟩
 have K2 := am ((hb1.block _ (by simp)).trans HF4.out.2.2.2.1)
 have K3 := am ((hb1.block _ (by simp)).trans HF4.out.2.2.2.2.1)
 obtain ⟨hc, hf⟩ := bcell hb1
 have hz : w.heap.size + 4 ≤ w1.heap.size := by have := hb1.size; simp at this; omega
 have hz1 : w.heap.size + 1 + 1 < w1.heap.size := by omega
 have HB1 := am (HB.out.trans (hb1.mono (by simp; omega)))
 go_wp2
 refine name_world ?_
 intro V hV
 have M2 := am (show V.heap[w.heap.size + 2]? = some (.cells #[.slice A ids.length c, .bool rc, .int .i64 rn, .bool j] 139 (0, 0)) by rw [hV]; exact store4 K2.out _ _ _ _)
 have M3 := am (show V.heap[w.heap.size + 3]? = some (.cells #[.int .i64 0, .int .i64 0, .bool false, .int .i64 0, .bool false] 141 (0, 0)) by rw [hV]; exact far4 K3.out (by omega) _ _ _ _)
 have BV := am (show Below w.heap.size w V by rw [hV]; exact below4s HB1.out (by omega) _ _ _ _)
 clear hV hc hf hb1
 have f0 : V.cell? ⟨w.heap.size + 2, 0, none⟩ = some (.slice A ids.length c) := (blk_cell M2.out 0).trans rfl
 have fz0 := blk_frozen M2.out 0
 have f1 : V.cell? ⟨w.heap.size + 2, 1, none⟩ = some (.bool rc) := (blk_cell M2.out 1).trans rfl
 have fz1 := blk_frozen M2.out 1
 have f2 : V.cell? ⟨w.heap.size + 2, 2, none⟩ = some (.int .i64 rn) := (blk_cell M2.out 2).trans rfl
 have fz2 := blk_frozen M2.out 2
 have f3 : V.cell? ⟨w.heap.size + 2, 3, none⟩ = some (.bool j) := (blk_cell M2.out 3).trans rfl
 have fz3 := blk_frozen M2.out 3
 have g0 : V.cell? ⟨w.heap.size + 3, 0, none⟩ = some (.int .i64 0) := (blk_cell M3.out 0).trans rfl
 have gz0 := blk_frozen M3.out 0
 have g1 : V.cell? ⟨w.heap.size + 3, 1, none⟩ = some (.int .i64 0) := (blk_cell M3.out 1).trans rfl
 have gz1 := blk_frozen M3.out 1
 have g2 : V.cell? ⟨w.heap.size + 3, 2, none⟩ = some (.bool false) := (blk_cell M3.out 2).trans rfl
 have gz2 := blk_frozen M3.out 2
 have g3 : V.cell? ⟨w.heap.size + 3, 3, none⟩ = some (.int .i64 0) := (blk_cell M3.out 3).trans rfl
 have gz3 := blk_frozen M3.out 3
 have g4 : V.cell? ⟨w.heap.size + 3, 4, none⟩ = some (.bool false) := (blk_cell M3.out 4).trans rfl
 have gz4 := blk_frozen M3.out 4
 go_region_with (fail)
 all_goals
  clear f0 f1 f2 f3 fz0 fz1 fz2 fz3 g0 g1 g2 g3 g4 gz0 gz1 gz2 gz3 gz4
  have N2 := blk_drew (far5 (g := w.heap.size + 3) (store4 M2.out (.slice A ids.length c) (.bool rc) (.int .i64 rn) (.bool j)) (by omega) (.int .i64 0) (.int .i64 0) (.bool false) (.int .i64 0) (.bool false))
  have N3 := blk_drew (store5 (far4 (g := w.heap.size + 2) M3.out (by omega) (.slice A ids.length c) (.bool rc) (.int .i64 rn) (.bool j)) (.int .i64 0) (.int .i64 0) (.bool false) (.int .i64 0) (.bool false))
  have H2 := am N2
  have H3 := am N3
  clear N2 N3
  go_wp2
  refine bodyPost_ret (v := .tuple #[.agg #[.slice A ids.length c, .bool rc, .int .i64 rn, .bool j], .agg #[.int .i64 0, .int .i64 0, .bool false, .int .i64 0, .bool false], .int .i64 q]) ?_ rfl ⟨by rw [moveP, moveE, HQ.out, if_neg HK.out, if_neg HK.out]; rfl, (below5 (below4s BV.out (by omega) _ _ _ _) (by omega) _ _ _ _ _).drew⟩
  have c0 := (blk_cell H2.out 0).trans rfl
  have c1 := (blk_cell H2.out 1).trans rfl
  have c2 := (blk_cell H2.out 2).trans rfl
  have c3 := (blk_cell H2.out 3).trans rfl
  have d0 := (blk_cell H3.out 0).trans rfl
  have d1 := (blk_cell H3.out 1).trans rfl
  have d2 := (blk_cell H3.out 2).trans rfl
  have d3 := (blk_cell H3.out 3).trans rfl
  have d4 := (blk_cell H3.out 4).trans rfl
  simp [results, Tryz.results124, go_sem, Act.put, c0, c1, c2, c3, d0, d1, d2, d3, d4]
end Go.Proofs.YtjgocihflhljeaaGreat.P
