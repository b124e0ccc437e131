/- What the claim's law needs, many texts in one (Hg Ta Hh Tb). No conditions of its own. -/
import Derived.Test.YtjgocihflhljeaaGreatZl5
import Derived.RegionTactic
import Derived.Deep.RegionWith
set_option linter.unusedVariables false
set_option linter.unusedSimpArgs false
namespace Go.Proofs.YtjgocihflhljeaaGreat.P
open Go.RowKit Go.Shelf Go.Proofs.YtjgocihflhljeaaGreatW.PrintWords Go.Proofs.YtjgocihflhljeaaGreatW.PrintLast Go.Proofs.YtjgocihflhljeaaGreatW.PrintMore
attribute [local go_sem] Oper.semAt_some
def isOtherB (p : Option Spot) (m : S52) : Bool := match p with
 | none => (m.f2 != 3)
 | some p => (p.id == 0 || decide (0 < p.arg)) == (m.f2 != 3)
def isOtherR (ids : List S68) (rc : Bool) (rn : Int) (j : Bool) (m : S52) : Bool := if moveE ids rc rn j m = 0 then isOtherB (moveP ids rc rn j m) m else false
set_option maxHeartbeats 1600000 in
theorem IsOther_any (A : Option Addr) (c : Nat) (ids : List S68) (rc : Bool) (rn : Int) (j : Bool) (m : S52) (w : World) (hr : Kd.C k68 w A ids.length ids) :
  Calls Tryz.prog 98 #[.agg #[.slice A ids.length c, .bool rc, .int .i64 rn, .bool j], .agg #[.int .i64 m.f0, .int .i64 m.f1, .int .u8 m.f2, .int .i64 m.f3]] w fun e w' => e = .returned (.tuple #[.bool (isOtherR ids rc rn j m), .int .i64 (moveE ids rc rn j m)]) ∧ Below w.heap.size w w' := by
 have HM := am (fun (V : World) (hb : Below w.heap.size w V) => move_any A c ids rc rn j m V (Kd.C_below hr hb))
 have HB := am (((Below.refl _ w).alloc (Nat.le_refl _) (.cells #[.slice A ids.length c, .bool rc, .int .i64 rn, .bool j] 26)).alloc (by simp) (.cells #[.int .i64 m.f0, .int .i64 m.f1, .int .u8 m.f2, .int .i64 m.f3] 52))
 clear hr
 by_cases hok : moveE ids rc rn j m = 0
 ·have HK := am hok
  clear hok
  cases hp : moveP ids rc rn j m with
  | none =>
   exfalso
   have h := HK.out
   unfold moveP at hp
   unfold moveE at h
   split at h
   ·rename_i hk
    rw [if_pos hk] at hp
    rw [hp] at h
    simp [hasL] at h
   rename_i hk
   exact hk h
  | some p =>
   have HP := am hp
   clear hp
   go_enter Tryz.func98, Tryz.ntmps98
   go_wp2_with (fail)
   refine (HM.out _ HB.out).mono ?_
   rw [HK.out, HP.out]
   simp only [spotOr, Spot.val]
   rintro e w1 ⟨rfl, hb1⟩
   obtain ⟨hc, hf⟩ := bcell hb1
   have hz : w.heap.size + 2 ≤ w1.heap.size := by have := hb1.size; simp at this; omega
   have hz1 : w.heap.size + 1 < w1.heap.size := by omega
   have HB1 := am (HB.out.trans (hb1.mono (by simp; omega)))
   have K1 := am ((hb1.block (w.heap.size + 1) (by simp)).trans (two w _ _).2)
   have hz5 : w.heap.size < w1.heap.size := by omega
   have k1c : w1.cell? ⟨w.heap.size + 1, 2, none⟩ = some (.int .u8 m.f2) := (blk_cell K1.out 2).trans rfl
   go_wp2
   go_region_with (go_at_call 125; refine (isOther_any p _).mono ?_; rintro e w2 ⟨rfl, hb2⟩; have hk : w2.cell? ⟨w.heap.size + 1, 2, none⟩ = some (.int .u8 m.f2) := (blk_cell ((hb2.block _ (by simp; omega)).trans (blk_drew (blk_alloc (blk_alloc K1.out _) _))) 2).trans rfl)
   all_goals
    have HB2 := am (((HB1.out.alloc (by omega) (.cells #[.slice A ids.length c, .bool rc, .int .i64 rn, .bool j] 139)).alloc (by simp; omega) (.cells #[.int .i64 p.id, .int .i64 p.arg, .bool p.cell, .int .i64 p.n, .bool p.esc] 141)).drew.trans (hb2.mono (by simp; omega)))
    clear hc hf hb1 hb2
    go_wp2
    go_ret2
    exact ⟨by rw [isOtherR, HK.out, if_pos rfl, HP.out]; simp [Act.put, isOtherB], HB2.out⟩
 have HK := am hok
 have hb : (moveE ids rc rn j m == 0) = false := by simpa using hok
 have hb2 : (moveE ids rc rn j m != 0) = true := by simpa using hok
 clear hok
 generalize hq : moveE ids rc rn j m = q at *
 have HQ := am hq
 clear hq
 obtain ⟨a0, a1, a2, a3, a4, ha⟩ := spotOr_cells (moveP ids rc rn j m)
 have HA := am ha
 clear ha
 go_enter Tryz.func98, Tryz.ntmps98
 go_wp2_with (fail)
 refine (HM.out _ HB.out).mono ?_
 rw [HA.out]
 rintro e w1 ⟨rfl, hb1⟩
 have HB1 := am (HB.out.trans (hb1.mono (by simp; omega)))
 clear hb1
 go_wp2
 go_ret2
 exact ⟨by rw [isOtherR, HQ.out, if_neg HK.out]; rfl, (HB1.out.alloc (by have := HB1.out.size; omega) _).alloc (by have := HB1.out.size; simp; omega) _⟩
abbrev Mv := S52
def atB (m : Mv) (i a : Int) : Bool := m.f0 == i && m.f1 == a
def isAns (m : Mv) : Bool := m.f2 == 3
def isEscB (m : Mv) : Bool := m.f2 == 3 && m.f3 == -1
def isIdent (m : Mv) : Bool := decide (0 < m.f0) && m.f1 == 0
def isPar (m : Mv) : Bool := decide (0 < m.f0) && decide (0 < m.f1)
theorem at_any (m : Mv) (i a : Int) (w : World) : Calls Tryz.prog 133 #[.agg #[.int .i64 m.f0, .int .i64 m.f1, .int .u8 m.f2, .int .i64 m.f3], .int .i64 i, .int .i64 a] w fun e w' => e = .returned (.bool (atB m i a)) ∧ Below w.heap.size w w' := by
 have HB := am ((Below.refl _ w).alloc (Nat.le_refl _) (.cells #[.int .i64 m.f0, .int .i64 m.f1, .int .u8 m.f2, .int .i64 m.f3] 52))
 rcases hb : (m.f0 == i) with _ | _
 all_goals
  have H := am hb
  go_enter Tryz.func133, Tryz.ntmps133
  go_wp2
  go_ret
  exact ⟨by rw [atB, H.out]; rfl, HB.out⟩
theorem isRoot_any (m : Mv) (w : World) : Calls Tryz.prog 132 #[.agg #[.int .i64 m.f0, .int .i64 m.f1, .int .u8 m.f2, .int .i64 m.f3]] w fun e w' => e = .returned (.bool (atB m 0 0)) ∧ Below w.heap.size w w' := by
 have HB := am ((Below.refl _ w).alloc (Nat.le_refl _) (.cells #[.int .i64 m.f0, .int .i64 m.f1, .int .u8 m.f2, .int .i64 m.f3] 52))
 go_enter Tryz.func132, Tryz.ntmps132
 go_wp2_with (refine (at_any m 0 0 _).mono ?_; rintro e w1 ⟨rfl, hb1⟩)
 go_ret
 exact ⟨rfl, HB.out.trans (hb1.mono (by simp))⟩
theorem isAnswer_any (m : Mv) (w : World) : Calls Tryz.prog 102 #[.agg #[.int .i64 m.f0, .int .i64 m.f1, .int .u8 m.f2, .int .i64 m.f3]] w fun e w' => e = .returned (.bool (isAns m)) ∧ Below w.heap.size w w' := by
 have HB := am ((Below.refl _ w).alloc (Nat.le_refl _) (.cells #[.int .i64 m.f0, .int .i64 m.f1, .int .u8 m.f2, .int .i64 m.f3] 52))
 go_enter Tryz.func102, Tryz.ntmps102
 go_wp2
 go_ret
 exact ⟨rfl, HB.out⟩
theorem isIdentifier_any (m : Mv) (w : World) : Calls Tryz.prog 109 #[.agg #[.int .i64 m.f0, .int .i64 m.f1, .int .u8 m.f2, .int .i64 m.f3]] w fun e w' => e = .returned (.bool (isIdent m)) ∧ Below w.heap.size w w' := by
 have HB := am ((Below.refl _ w).alloc (Nat.le_refl _) (.cells #[.int .i64 m.f0, .int .i64 m.f1, .int .u8 m.f2, .int .i64 m.f3] 52))
 rcases hb : decide (0 < m.f0) with _ | _
 all_goals
  have H := am hb
  go_enter Tryz.func109, Tryz.ntmps109
  go_wp2
  go_ret
  exact ⟨by rw [isIdent, H.out]; rfl, HB.out⟩
theorem isParam_any (m : Mv) (w : World) : Calls Tryz.prog 104 #[.agg #[.int .i64 m.f0, .int .i64 m.f1, .int .u8 m.f2, .int .i64 m.f3]] w fun e w' => e = .returned (.bool (isPar m)) ∧ Below w.heap.size w w' := by
 have HB := am ((Below.refl _ w).alloc (Nat.le_refl _) (.cells #[.int .i64 m.f0, .int .i64 m.f1, .int .u8 m.f2, .int .i64 m.f3] 52))
 rcases hb : decide (0 < m.f0) with _ | _
 all_goals
  have H := am hb
  go_enter Tryz.func104, Tryz.ntmps104
  go_wp2
  go_ret
  exact ⟨by rw [isPar, H.out]; rfl, HB.out⟩
theorem isEsc_any (m : Mv) (w : World) : Calls Tryz.prog 110 #[.agg #[.int .i64 m.f0, .int .i64 m.f1, .int .u8 m.f2, .int .i64 m.f3]] w fun e w' => e = .returned (.bool (isEscB m)) ∧ Below w.heap.size w w' := by
 have HB := am ((Below.refl _ w).alloc (Nat.le_refl _) (.cells #[.int .i64 m.f0, .int .i64 m.f1, .int .u8 m.f2, .int .i64 m.f3] 52))
 have HBK := am (heap_alloc_new w (.cells #[.int .i64 m.f0, .int .i64 m.f1, .int .u8 m.f2, .int .i64 m.f3] 52))
 rcases hb : isAns m with _ | _
 all_goals
  have H := am hb
  clear hb
  go_enter Tryz.func110, Tryz.ntmps110
  go_wp2_with (refine (isAnswer_any m _).mono ?_; rw [H.out]; rintro e w1 ⟨rfl, hb1⟩; have h3 : w1.cell? ⟨w.heap.size, 3, none⟩ = some (.int .i64 m.f3) := (blk_cell ((hb1.block _ (by simp)).trans HBK.out) 3).trans rfl)
  go_ret
  exact ⟨by have h := H.out; unfold isAns at h; rw [isEscB, h]; rfl, HB.out.trans (hb1.mono (by simp))⟩
structure Tk where
 word : List Mv
 part : List Int
 just : List Int
 forc : List Bool
 opn : List Int
 force : Bool
 lost : Bool
 deep : Int
structure Tk.Ok (t : Tk) : Prop where
 hp : t.part.length = t.word.length
 hj : t.just.length = t.word.length
 hf : t.forc.length = t.word.length
 ho : ∀ n ∈ t.opn, 0 ≤ n ∧ n < t.word.length
 hl : t.opn.length ≤ t.word.length
 hw : t.word.length ≤ 1048576
 hd : 0 ≤ t.deep ∧ t.deep ≤ 1048576
def Tk.top (t : Tk) : Option Int := t.opn.getLast?
def Tk.mv (t : Tk) (n : Int) : Mv := t.word.getD n.toNat z52
def Tk.over (t : Tk) : Bool := decide (0 < t.word.length) && ((t.opn.length : Int) == 0)
def Tk.turn (t : Tk) : Int := if t.over then 3 else match t.top with
 | some n => if isIdent (t.mv n) then 1 else 2
 | none => 1
def Tk.answers (t : Tk) (jumps : Bool) (q m : Mv) : Bool := if t.force || t.lost then isEscB m else if isEscB m then isPar q || (isIdent q && jumps) else q.f2 == 1 || m.f3 == 0
def Tk.can (t : Tk) (jumps : Bool) (m : Mv) : Bool := match t.top with
 | none => ((t.word.length : Int) == 0) && atB m 0 0 && !isAns m
 | some n => if isAns m then atB m (t.mv n).f0 (t.mv n).f1 && t.answers jumps (t.mv n) m else if t.force || t.lost then false else if t.turn = 2 then isIdent m else isPar m && (m.f0 == (t.mv n).f0)
def Tk.topI (t : Tk) : Int := t.top.getD (-1)
def Tk.opn' (t : Tk) (m : Mv) : List Int := if isAns m then t.opn.dropLast else t.opn ++ [(t.word.length : Int)]
def Tk.justOf (t : Tk) (m : Mv) : Int := if isAns m then t.topI else if isIdent m then 0 else if isPar m then t.topI else -1
def Tk.say (t : Tk) (m : Mv) : Tk where
 word := t.word ++ [m]
 part := (if isAns m then t.part.set t.topI.toNat t.word.length else t.part) ++ [if isAns m then t.topI else -1]
 just := t.just ++ [t.justOf m]
 forc := t.forc ++ [t.force]
 opn := t.opn' m
 force := isEscB m && isPar m
 lost := t.lost || (isEscB m && isIdent m && !t.force)
 deep := max t.deep ((t.opn' m).length : Int)
structure Kept1 (b base : Nat) (t : TypeId) (W W' : World) : Prop where
 os : W'.os = W.os
 tape : W'.tape = W.tape
 output : W'.output = W.output
 size : W.heap.size ≤ W'.heap.size
 block : ∀ k o, W.heap[k]? = some o → k ≠ b → (k < base ∨ ∀ cs f, o ≠ .cells cs t f) → W'.heap[k]? = some o
theorem Kept1.below {b base n : Nat} {t : TypeId} {w W W' : World} (h : Kept1 b base t W W') (hb : Below n w W) (h1 : n ≤ b) (h2 : n ≤ base) (hs : n ≤ W.heap.size) : Below n w W' :=
 hb.trans ⟨h.os, h.tape, h.output, h.size, fun k hk => by
  have hlt : k < W.heap.size := by omega
  exact (h.block k _ (Array.getElem?_eq_getElem hlt) (by omega) (.inl (by omega))).trans (Array.getElem?_eq_getElem hlt).symm⟩
set_option maxHeartbeats 1000000 in
theorem all1_any (m : S52) (b base : Nat) (w : World) (v : Value) (xs : List S52) (hblk : w.heap[b]? = some (.cells #[v] 27 (0, 0))) (hR : Kd.R k52 52 w base (fun _ => True) v xs) (hbase : base ≤ w.heap.size) (hlen : xs.length + 1 ≤ 4398046511104) :
  Calls Tryz.prog 142 #[.agg #[.int .i64 m.f0, .int .i64 m.f1, .int .u8 m.f2, .int .i64 m.f3], .pointer (some ⟨b, 0, none⟩)] w fun e w' => e = .returned (.bool true) ∧ ∃ v', w'.heap[b]? = some (.cells #[v'] 27 (0, 0)) ∧ Kd.R k52 52 w' base (fun _ => True) v' (xs ++ [m]) ∧ Kept1 b base 52 w w' := by
 have HB := am hblk
 have HR := am hR
 obtain ⟨A, c, rfl⟩ := Kd.R_slice hR
 have hlt : b < w.heap.size := blk_lt hblk
 have hc : w.cell? ⟨b, 0, none⟩ = some (.slice A xs.length c) := (blk_cell hblk 0).trans rfl
 have hf := blk_frozen hblk 0
 clear hblk hR
 go_enter Tryz.func142, Tryz.ntmps142
 have HR1 := am (Kd.R_alloc HR.out (.cells #[.int .i64 m.f0, .int .i64 m.f1, .int .u8 m.f2, .int .i64 m.f3] 52))
 go_wp2_with ((with_reducible refine gate_dst (N := 7) rfl ?_); (refine Kd.R_append k52 (w0 := w) base rfl (.tmp 4) (.tmp 6) 27 52 (.agg #[(.int .i64 0), (.int .i64 0), (.int .u8 0), (.int .i64 0)]) 32 rfl Tryz.underlying27 info52 rfl (by decide) (by omega) (.slice A xs.length c) xs m [.int .i64 m.f0, .int .i64 m.f1, .int .u8 m.f2, .int .i64 m.f3] (fun _ => True) (fun _ => False) rfl ?aX (k52_mkM _ _ _ m) (fun _ hk => hk.elim) (fun _ _ => trivial) HR1.out ((Below.refl base w).alloc (by omega) _) (by simp; omega) (by omega) ?_; (case aX => (simp only [World.size_alloc]; rfl))))
 intro v1 w1 hR1 hB1 hg hat
 have hne : some b ≠ (Value.slice A xs.length c).ownBlock := Kd.R_ne HR.out HB.out (by decide)
 have HB1 := am (blk_grown (blk_alloc HB.out (.cells #[.int .i64 m.f0, .int .i64 m.f1, .int .u8 m.f2, .int .i64 m.f3] 52)) hg hne)
 have hc1 : w1.cell? ⟨b, 0, none⟩ = some (.slice A xs.length c) := (blk_cell HB1.out 0).trans rfl
 have hf1 := blk_frozen HB1.out 0
 have HK := am (show Kept1 b base 52 w (w1.setCell ⟨b, 0, none⟩ v1) from ⟨hg.os, hg.tape, hg.output, by
   have := hg.size; simp [World.setCell] at this ⊢; omega, fun k o hk hkb ho => by
   refine (Below.heap_setCell _ _ _ k hkb).trans ((hg.block k (by have := (Array.getElem?_eq_some_iff.1 hk).1; simp; omega) ?_).trans ((Below.heap_alloc _ _ k (Array.getElem?_eq_some_iff.1 hk).1).trans hk))
   intro e
   obtain ⟨inner, hown⟩ := Kd.R_own HR.out
   obtain ⟨cells, hcells⟩ := own_typed hown k e.symm
   rw [hcells] at hk
   cases hk
   rcases ho with ho | ho
   ·have := own_base hown k e.symm; omega
   exact ho _ _ rfl⟩)
 have HR2 := am (Kd.R_set hR1 HB1.out (by decide) 0 v1)
 have HB2 := am (show (w1.setCell ⟨b, 0, none⟩ v1).heap[b]? = some (.cells #[v1] 27 (0, 0)) from blk_put HB1.out 0 v1 rfl)
 obtain ⟨A1, c1, rfl⟩ := Kd.R_slice hR1
 simp only [List.length_append, List.length_singleton] at HK HR2 HB2 ⊢
 clear hR1 hB1 hg hat hc hf
 go_wp2
 go_ret
 exact ⟨rfl, _, HB2.out, HR2.out, HK.out⟩
theorem R_st {α : Type} {d : Kd α} {e : Nat} {A B : World} {base b : Nat} {v : Value} {xs : List α} (h : d.R e A base (fun _ => True) v xs) (hs : St b (fun _ => False) A B) : d.R e B base (fun _ => True) v xs :=
 Kd.R_mono (Kd.R_move (Kd.R_bound h) (fun k hk => by
  obtain ⟨_, _, _, q, _, cells, hc⟩ := hk
  rw [hs.2 k _ hc (fun h => h) (.inr rfl), hc])) (fun _ _ => trivial)
theorem enters_all1 : ∀ args w, (callFunc 142 args).run Tryz.prog w = .ok (.enter 142 args) w := enters_of Tryz.func142 (by kernel_rfl) rfl
theorem vcall_all1 (m : S52) (b base : Nat) (w : World) (v : Value) (xs : List S52) (hblk : w.heap[b]? = some (.cells #[v] 27 (0, 0))) (hR : Kd.R k52 52 w base (fun _ => True) v xs) (hbase : base ≤ w.heap.size) (hlen : xs.length + 1 ≤ 4398046511104) :
  VCall Tryz.prog (.func (.func 142) #[] #[.pointer (some ⟨b, 0, none⟩)]) (encM m) w fun v w' => v = .bool true ∧ ∃ v', w'.heap[b]? = some (.cells #[v'] 27 (0, 0)) ∧ Kd.R k52 52 w' base (fun _ => True) v' (xs ++ [m]) ∧ Kept1 b base 52 w w' := by
 refine VCall.of_calls enters_all1 ?_
 rw [show (#[] ++ encM m ++ #[.pointer (some ⟨b, 0, none⟩)] : Array Value) = #[.agg #[.int .i64 m.f0, .int .i64 m.f1, .int .u8 m.f2, .int .i64 m.f3], .pointer (some ⟨b, 0, none⟩)] by simp [encM, mval]]
 refine (all1_any m b base w v xs hblk hR hbase hlen).mono ?_
 rintro e W' ⟨rfl, h⟩
 exact ⟨_, rfl, rfl, h⟩
def accL (L : List Spot) (isB : Spot → Bool) (ofL : Spot → List S52) : List S52 := (L.filter isB).flatMap ofL
theorem accL_snoc {L : List Spot} {isB : Spot → Bool} {ofL : Spot → List S52} {i : Nat} {p : Spot} (h : L[i]? = some p) : accL (L.take (i + 1)) isB ofL = accL (L.take i) isB ofL ++ (if isB p then ofL p else []) := by
 obtain ⟨hi, rfl⟩ := List.getElem?_eq_some_iff.1 h
 unfold accL
 rw [List.take_succ_eq_append_getElem hi, List.filter_append, List.flatMap_append]
 cases hb : isB L[i] <;> simp [hb]
theorem accL_le {L : List Spot} {isB : Spot → Bool} {ofL : Spot → List S52} {i : Nat} : (accL (L.take i) isB ofL).length ≤ (accL L isB ofL).length := by
 have h : accL L isB ofL = accL (L.take i) isB ofL ++ accL (L.drop i) isB ofL := by
  unfold accL
  rw [← List.flatMap_append, ← List.filter_append, List.take_append_drop]
 rw [h, List.length_append]
 omega
set_option maxHeartbeats 4000000 in
theorem all_any (A : Option Addr) (c : Nat) (ids : List S68) (rc : Bool) (rn : Int) (j : Bool) (gi : Nat) (bi li : Array Value) (isB : Spot → Bool) (go : Nat) (ofL : Spot → List S52) (tyo : TypeId → Prop) (w : World) (hr : Kd.C k68 w A ids.length ids) (hbig : ids.length ≤ 9223372036854775806) (hbig2 : ∀ x ∈ ids, x.f0.length ≤ 9223372036854775806)
  (ei : ∀ args w, (callFunc gi args).run Tryz.prog w = .ok (.enter gi args) w) (eo : ∀ args w, (callFunc go args).run Tryz.prog w = .ok (.enter go args) w)
  (hIs : ∀ p W, Below w.heap.size w W → Calls Tryz.prog gi (bi ++ #[p.val] ++ li) W fun e W' => e = .returned (.bool (isB p)) ∧ Below W.heap.size W W')
  (hOf : ∀ p ∈ spotsL ids rc rn j, Gives Tryz.prog go (fun y => #[p.val] ++ #[y] ++ #[]) encM (ofL p) w.heap.size w (fun _ => False) (fun _ => False) tyo (fun _ => True)) (hty : ∀ t, tyo t → t ≠ 52)
  (hlen : (accL (spotsL ids rc rn j) isB ofL).length ≤ 4398046511104) :
  Calls Tryz.prog 129 #[.agg #[.slice A ids.length c, .bool rc, .int .i64 rn, .bool j], .func (.func gi) bi li, .func (.func go) #[] #[]] w fun e w' => ∃ v, e = .returned v ∧ Kd.R k52 52 w' w.heap.size (fun _ => True) v (accL (spotsL ids rc rn j) isB ofL) ∧ Below w.heap.size w w' := by
 have HG := am (places_gives A c ids rc rn j w hr hbig hbig2)
 have HIS := am hIs
 have HOF := am hOf
 have HTY := am hty
 have EI := am ei
 have EO := am eo
 clear hr hbig2 hIs hOf hty ei eo
 refine (callsIn_wide (n := 9)).1 ?_
 show CallsIn (FW none) 9 Tryz.prog 129 _ w _
 refine callsIn_of_wp_marks Tryz.func129 rfl trivial ?_ rfl
 simp only [Tryz.ntmps129, List.size_toArray, List.length_cons, List.length_nil, Nat.reduceAdd, Nat.reduceSub, Array.replicate_succ, Array.replicate_zero, List.push_toArray, List.append_toArray, List.nil_append, List.cons_append]
 gi_wp2
 refine name_world ?_
 intro w1 hw
 obtain ⟨hsz, k0, k1, k2, k3, hb4⟩ := four _ _ _ _ _ _ hw
 clear hw
 have K1 := am k1
 have K2 := am k2
 have K3 := am k3
 have B4 := am hb4
 have hge : w.heap.size + 4 ≤ w1.heap.size := by omega
 clear hsz k0 k1 k2 k3 hb4
 refine wp_range (gf := 141) (bs := #[.agg #[.slice A ids.length c, .bool rc, .int .i64 rn, .bool j]]) (lb := #[]) rfl enters_places HG.out (hb0 := B4.out) (hn := by omega) (hwr := fun _ h => h.elim) (hown := fun _ h => h.elim)
  (hPre := fun _ _ => trivial) (hps := fun _ => rfl)
  (fun i V => ∃ v, Aside0 (V.heap[w.heap.size + 3]? = some (.cells #[v] 27 (0, 0))) ∧ Aside0 (Kd.R k52 52 V w.heap.size (fun _ => True) v (accL ((spotsL ids rc rn j).take i) isB ofL)) ∧ Aside0 (Below w.heap.size w V) ∧
   Aside0 (V.heap[w.heap.size + 1]? = some (.cells #[.func (.func gi) bi li] 150 (0, 0))) ∧ Aside0 (V.heap[w.heap.size + 2]? = some (.cells #[.func (.func go) #[] #[]] 151 (0, 0))) ∧ Aside0 (w1.heap.size ≤ V.heap.size))
  (fun _ _ _ => False) ?hI (fun _ _ _ _ h _ => h) ?h0
  (fun i a₁ V => ∃ x, (spotsL ids rc rn j)[i]? = some x ∧ ∃ Bx, Aside0 (V.heap[Bx]? = some (.cells #[.int .i64 x.id, .int .i64 x.arg, .bool x.cell, .int .i64 x.n, .bool x.esc] 141 (0, 0))) ∧ Aside0 (w1.heap.size ≤ Bx) ∧ ∃ x0 x1 x2 x8 x9 x10 x11 x12 x13 x14 x15 x16 x17 x18 : Value, a₁ = { tmps := #[x0, x1, x2, .pointer (some ⟨w.heap.size, 0, none⟩), .pointer (some ⟨w.heap.size + 1, 0, none⟩), .pointer (some ⟨w.heap.size + 1 + 1, 0, none⟩), .pointer (some ⟨w.heap.size + 1 + 1 + 1, 0, none⟩), .pointer (some ⟨Bx, 0, none⟩), x8, x9, x10, x11, x12, x13, x14, x15, x16, x17, x18], defers := [] }) ?hAx ?assign ?body ?done (fun _ _ _ _ _ _ h _ _ => h.elim)
 case hI =>
  rintro i P Q ⟨v, q3, hR, bl, q1, q2, sz⟩ hs
  exact ⟨v, ⟨hs.blk q3.out (fun h => h)⟩, ⟨R_st hR.out hs⟩, ⟨hs.below bl.out (by omega) (by intro k h; exact h.elim) (by have := sz.out; omega)⟩, ⟨hs.blk q1.out (fun h => h)⟩, ⟨hs.blk q2.out (fun h => h)⟩, ⟨Nat.le_trans sz.out hs.1.2.2.2⟩⟩
 case h0 => exact ⟨_, K3, ⟨Kd.R_nil _ _ _ _ _⟩, B4, K1, K2, ⟨Nat.le_refl _⟩⟩
 case hAx =>
  rintro i a₁ P Q ⟨x, hx, Bx, bx, hlt, r⟩ hs
  exact ⟨x, hx, Bx, ⟨hs.blk bx.out (fun h => h)⟩, hlt, r⟩
 case assign =>
  intro m l i x P K hx hI hle hK
  simp only [encS, Spot.val, List.zip_toArray, List.zip_cons_cons, List.zip_nil_right, List.size_toArray, List.foldl_toArray', List.foldl_cons, List.foldl_nil]
  gi_wp2
  exact hK _ _ ((Below.refl _ P).alloc (Nat.le_refl _) _) ⟨x, hx, P.heap.size, ⟨heap_alloc_new P _⟩, ⟨hle⟩, _, _, _, _, _, _, _, _, _, _, _, _, _, _, rfl⟩
 case body =>
  rintro m l i x a₁ P hx ⟨v, q3, hR, bl, q1, q2, sz⟩ ⟨x', hx', Bx, bx, hlt, x0, x1, x2, x8, x9, x10, x11, x12, x13, x14, x15, x16, x17, x18, rfl⟩ hle
  obtain rfl : x' = x := Option.some.inj (hx'.symm.trans hx)
  clear hx'
  have HX := am hx
  clear hx
  have hc1 : P.cell? ⟨w.heap.size + 1, 0, none⟩ = some (.func (.func gi) bi li) := (blk_cell q1.out 0).trans rfl
  have hd0 : P.cell? ⟨Bx, 0, none⟩ = some (.int .i64 x'.id) := (blk_cell bx.out 0).trans rfl
  have hd1 : P.cell? ⟨Bx, 1, none⟩ = some (.int .i64 x'.arg) := (blk_cell bx.out 1).trans rfl
  have hd2 : P.cell? ⟨Bx, 2, none⟩ = some (.bool x'.cell) := (blk_cell bx.out 2).trans rfl
  have hd3 : P.cell? ⟨Bx, 3, none⟩ = some (.int .i64 x'.n) := (blk_cell bx.out 3).trans rfl
  have hd4 : P.cell? ⟨Bx, 4, none⟩ = some (.bool x'.esc) := (blk_cell bx.out 4).trans rfl
  gi_wp2_with (((with_reducible refine gateIn (N := 13) rfl ?_); refine wpListIn_vcall (.func (.func gi) bi li) #[x'.val] (fun v W' => v = .bool (isB x') ∧ Below P.heap.size P W') _ _ rfl rfl rfl rfl rfl (VCall.of_calls EI.out ((HIS.out x' P bl.out).mono (fun e W' h => ⟨_, h.1, rfl, h.2⟩))) ?_))
  rintro _ P2 ⟨rfl, hb2⟩
  try intro hb2
  have HB2 := am hb2
  have hlP : w1.heap.size ≤ P.heap.size := sz.out
  have hlP2 : P.heap.size ≤ P2.heap.size := hb2.size
  have Q3 := am ((hb2.block _ (blk_lt q3.out)).trans q3.out)
  have Q1 := am ((hb2.block _ (blk_lt q1.out)).trans q1.out)
  have Q2 := am ((hb2.block _ (blk_lt q2.out)).trans q2.out)
  have BX := am ((hb2.block _ (blk_lt bx.out)).trans bx.out)
  have BL := am (bl.out.trans (hb2.mono (by omega)))
  have HR2 := am (R_st hR.out (St.of_below (b := 0) (ex := fun _ => False) hb2))
  have HS := am (accL_snoc (isB := isB) (ofL := ofL) HX.out)
  have hmem : x' ∈ spotsL ids rc rn j := List.mem_of_getElem? HX.out
  clear hc1 hd0 hd1 hd2 hd3 hd4 hb2 q1 q2 q3 bx bl hR hlt
  rcases hB : isB x' with _ | _
  ·gi_wp2
   refine ⟨Keeps.of_below HB2.out, v, Q3, ⟨?_⟩, BL, Q1, Q2, ⟨Nat.le_trans hlP hlP2⟩⟩
   rw [HS.out, hB]
   simpa only [Bool.false_eq_true, if_false, List.append_nil] using HR2.out
  have hc2 : P2.cell? ⟨w.heap.size + 1 + 1, 0, none⟩ = some (.func (.func go) #[] #[]) := (blk_cell Q2.out 0).trans rfl
  have hd0 : P2.cell? ⟨Bx, 0, none⟩ = some (.int .i64 x'.id) := (blk_cell BX.out 0).trans rfl
  have hd1 : P2.cell? ⟨Bx, 1, none⟩ = some (.int .i64 x'.arg) := (blk_cell BX.out 1).trans rfl
  have hd2 : P2.cell? ⟨Bx, 2, none⟩ = some (.bool x'.cell) := (blk_cell BX.out 2).trans rfl
  have hd3 : P2.cell? ⟨Bx, 3, none⟩ = some (.int .i64 x'.n) := (blk_cell BX.out 3).trans rfl
  have hd4 : P2.cell? ⟨Bx, 4, none⟩ = some (.bool x'.esc) := (blk_cell BX.out 4).trans rfl
  gi_wp2_with (((with_reducible refine gateIn (N := 17) rfl ?_); refine wpListIn_vcall (.func (.func go) #[] #[]) #[x'.val, .func (.func 142) #[] #[.pointer (some ⟨w.heap.size + 1 + 1 + 1, 0, none⟩)]] (fun _ V => ∃ v, Aside0 (V.heap[w.heap.size + 3]? = some (.cells #[v] 27 (0, 0))) ∧ Aside0 (Kd.R k52 52 V w.heap.size (fun _ => True) v (accL ((spotsL ids rc rn j).take (i + 1)) isB ofL)) ∧ Aside0 (Below w.heap.size w V) ∧
      Aside0 (V.heap[w.heap.size + 1]? = some (.cells #[.func (.func gi) bi li] 150 (0, 0))) ∧ Aside0 (V.heap[w.heap.size + 2]? = some (.cells #[.func (.func go) #[] #[]] 151 (0, 0))) ∧ Aside0 (Keeps w.heap.size w1.heap.size (fun _ => False) placesTy P V)) _ _ rfl rfl rfl rfl rfl ?_ ?_))
  ·have hl2 := HS.out
   rw [hB, if_pos rfl] at hl2
   have hlt2 := accL_le (L := spotsL ids rc rn j) (isB := isB) (ofL := ofL) (i := i + 1)
   rw [hl2, List.length_append] at hlt2
   refine ((HOF.out x' hmem).vcall EO.out (.func (.func 142) #[] #[.pointer (some ⟨w.heap.size + 1 + 1 + 1, 0, none⟩)])
     (fun k V => ∃ v, Aside0 (V.heap[w.heap.size + 3]? = some (.cells #[v] 27 (0, 0))) ∧ Aside0 (Kd.R k52 52 V w.heap.size (fun _ => True) v (accL ((spotsL ids rc rn j).take i) isB ofL ++ (ofL x').take k)) ∧ Aside0 (Below w.heap.size w V) ∧
      Aside0 (V.heap[w.heap.size + 1]? = some (.cells #[.func (.func gi) bi li] 150 (0, 0))) ∧ Aside0 (V.heap[w.heap.size + 2]? = some (.cells #[.func (.func go) #[] #[]] 151 (0, 0))) ∧ Aside0 (Keeps w.heap.size w1.heap.size (fun _ => False) placesTy P V))
     (fun _ _ => False) P2 (by simp) ⟨_, _, _, rfl⟩ BL.out (by omega) trivial ?_ (fun _ _ _ h _ => h) ?_ ?_).mono ?_
   ·rintro k A B ⟨v, q3, hR, bl, q1, q2, hk⟩ hs
    exact ⟨v, ⟨hs.blk q3.out (fun h => h)⟩, ⟨R_st hR.out hs⟩, ⟨hs.below bl.out (by omega) (by intro k h; exact h.elim) (by have := hk.out.1.2.2.2; omega)⟩, ⟨hs.blk q1.out (fun h => h)⟩, ⟨hs.blk q2.out (fun h => h)⟩, ⟨hk.out.st hs hlP2⟩⟩
   ·rintro k y V hy ⟨v, q3, hR, bl, q1, q2, hk⟩ hle
    have hV : P.heap.size ≤ V.heap.size := hk.out.1.2.2.2
    have hkl : k < (ofL x').length := (List.getElem?_eq_some_iff.1 hy).1
    have htk : (ofL x').take (k + 1) = (ofL x').take k ++ [y] := by
     rw [List.take_succ_eq_append_getElem hkl, (List.getElem?_eq_some_iff.1 hy).2]
    refine (vcall_all1 y (w.heap.size + 1 + 1 + 1) w.heap.size V v _ q3.out hR.out (by omega) (by rw [List.length_append, List.length_take]; omega)).mono ?_
    rintro u V' ⟨rfl, v', r3, hR', hK⟩
    refine .inl ⟨rfl, ⟨v', ⟨r3⟩, ⟨by rw [htk, ← List.append_assoc]; exact hR'⟩, ⟨hK.below bl.out (by omega) (Nat.le_refl _) (by omega)⟩, ⟨hK.block _ _ q1.out (by omega) (.inr (by intro cs f e; cases e))⟩, ⟨hK.block _ _ q2.out (by omega) (.inr (by intro cs f e; cases e))⟩, ⟨hk.out.trans ⟨⟨hK.os, hK.tape, hK.output, hK.size⟩, fun g o hg ho => hK.block g o hg (by rcases ho with ho | ho | ⟨ho, _⟩ <;> first | exact ho.elim | omega) ?_⟩⟩⟩, ⟨⟨hK.os, hK.tape, hK.output, hK.size⟩, fun g o hg ho => hK.block g o hg ?_ ?_⟩⟩
    ·rcases ho with ho | ho | ⟨ho, ht⟩
     ·exact .inl ho
     ·exact ho.elim
     exact .inr (fun cs f e => by have := ht cs _ f e; simp [placesTy] at this)
    ·rcases ho with ho | ho | ⟨ho, _⟩ <;> first | exact ho.elim | omega
    rcases ho with ho | ho | ⟨ho, ht⟩
    ·exact .inl ho
    ·exact ho.elim
    exact .inr (fun cs f e => HTY.out _ (ht cs _ f e) rfl)
   ·refine ⟨v, Q3, ⟨by rw [List.take_zero, List.append_nil]; exact HR2.out⟩, BL, Q1, Q2, ⟨Keeps.of_below HB2.out⟩⟩
   rintro v' W' ⟨hle, ⟨v, q3, hR, bl, q1, q2, hk⟩ | ⟨_, _, h⟩⟩
   ·exact ⟨v, q3, ⟨by rw [hl2]; rw [List.take_length] at hR; exact hR.out⟩, bl, q1, q2, hk⟩
   exact h.elim
  intro _ V v q3 hR bl q1 q2 hk
  gi_wp2
  exact ⟨hk.out, v, q3, hR, bl, q1, q2, ⟨Nat.le_trans hlP hk.out.1.2.2.2⟩⟩
 case done =>
  rintro D V hle ⟨v, q3, hR, bl, q1, q2, sz⟩ hD hDle
  rw [List.take_length] at hR
  have HR := hR
  obtain ⟨A1, c1, rfl⟩ := Kd.R_slice hR.out
  have hc3 : V.cell? ⟨w.heap.size + 1 + 1 + 1, 0, none⟩ = some _ := (blk_cell q3.out 0).trans rfl
  have hz3 := blk_frozen q3.out 0
  have HD := am hD
  have HB := bl
  clear hD hR bl
  gi_wp2
  have r3 := putObj_blk (D := D) (o' := .deferred none) (blk_put q3.out 0 (.slice A1 (accL (spotsL ids rc rn j) isB ofL).length c1) rfl) (by omega)
  refine leavesM1 (v := .slice A1 (accL (spotsL ids rc rn j) isB ofL).length c1) ?_ ?_ ?_
  ·exact (Below.heap_setCell _ _ _ D (by simp; omega)).trans HD.out
  ·have c0 := (blk_cell r3 0).trans rfl
   simp [results, Tryz.results129, go_sem, c0]
  refine ⟨_, rfl, R_st (Kd.R_set HR.out q3.out (by decide) 0 _) (St.putObj (b := D) _ ((Below.heap_setCell _ _ _ D (by simp; omega)).trans HD.out) rfl (Nat.le_refl _)), below_putObj (HB.out.setCell (by simp; omega) _) (by omega)⟩
end Go.Proofs.YtjgocihflhljeaaGreat.P
namespace Go.Proofs.YtjgocihflhljeaaGreat.P
open Go.RowKit Go.Shelf Go.Proofs.YtjgocihflhljeaaGreatW.PrintWords Go.Proofs.YtjgocihflhljeaaGreatW.PrintLast Go.Proofs.YtjgocihflhljeaaGreatW.PrintMore
abbrev RI (W : World) (base : Nat) (v : Value) (xs : List Int) : Prop := Kd.R (Kd.int .i64) 3 W base (fun _ => True) v xs
abbrev RB (W : World) (base : Nat) (v : Value) (xs : List Bool) : Prop := Kd.R Kd.bool 4 W base (fun _ => True) v xs
abbrev RM (W : World) (base : Nat) (v : Value) (xs : List Mv) : Prop := Kd.R k52 52 W base (fun _ => True) v xs
def Ap (u v : Value) : Prop := u.ownBlock = none ∨ u.ownBlock ≠ v.ownBlock
section
variable {α β : Type} {d : Kd α} {d' : Kd β} {e e' base base' : Nat} {W w1 : World} {v u : Value} {xs : List α} {ys : List β}
theorem R_grow_other (h : d.R e W base (fun _ => True) v xs) (hE : d.E = []) {row : Option Nat} (hg : W.grownBy w1 row) (hne : v.ownBlock = none ∨ v.ownBlock ≠ row) : d.R e w1 base (fun _ => True) v xs := by
 obtain ⟨h0, inner, ho, hr⟩ := h
 refine ⟨h0, inner, own_other ho hg hne, hr.imp_ (fun _ _ hp => d.M_mono (fun k hk => ⟨trivial, hk.2⟩) (d.M_move (w1 := w1) (base := base) (fun k hk => ?_) (d.M_mono (ok' := fun k => False ∧ some k ≠ v.ownBlock) (fun k hk => ?_) (d.M_bound hp))))⟩
 ·exact hk.1.elim
 obtain ⟨_, _, _, q, hq, _⟩ := hk
 rw [hE] at hq
 cases hq
end
theorem Ap.symm {u v : Value} (h : Ap u v) : Ap v u := by
 rcases h with h | h
 ·cases hv : v.ownBlock with
  | none => exact .inl hv
  | some k => exact .inr (by rw [h]; intro e; rw [hv] at e; cases e)
 exact .inr (fun e => h e.symm)
theorem Ap.none (v : Value) : Ap (.slice none 0 0) v := .inl rfl
theorem Ap.grow {v v1 u : Value} {W : World} (h : Ap v u) (hat : v1.ownBlock = v.ownBlock ∨ ∃ b, v1.ownBlock = some b ∧ W.heap.size ≤ b) (hu : ∀ k, u.ownBlock = some k → k < W.heap.size) : Ap v1 u := by
 rcases hat with hat | ⟨b, hb, hle⟩
 ·unfold Ap
  rw [hat]
  exact h
 exact .inr (by rw [hb]; intro e; have := hu b e.symm; omega)
structure Rws (base : Nat) (W : World) (vw vp vj vf vo : Value) (word : List Mv) (pt js : List Int) (fo : List Bool) (op : List Int) : Prop where
 w : RM W base vw word
 p : RI W base vp pt
 j : RI W base vj js
 f : RB W base vf fo
 o : RI W base vo op
 pj : Ap vp vj
 po : Ap vp vo
 jo : Ap vj vo
section
variable {base : Nat} {W w1 : World} {vw vp vj vf vo v1 : Value} {word word' : List Mv} {pt js op pt' js' op' : List Int} {fo fo' : List Bool}
theorem RI.lt {v : Value} {xs : List Int} (h : RI W base v xs) : ∀ k, v.ownBlock = some k → k < W.heap.size := by
 obtain ⟨inner, ho⟩ := Kd.R_own h
 exact own_lt ho
theorem RI.ge {v : Value} {xs : List Int} (h : RI W base v xs) : ∀ k, v.ownBlock = some k → base ≤ k := by
 obtain ⟨inner, ho⟩ := Kd.R_own h
 exact own_base ho
theorem RMI (h : RM W base vw word) {v : Value} {xs : List Int} (h' : RI W base v xs) : Ap vw v := by
 obtain ⟨i, ho⟩ := Kd.R_own h
 obtain ⟨i', ho'⟩ := Kd.R_own h'
 exact own_type_ne ho ho' (by decide)
theorem RMB (h : RM W base vw word) (h' : RB W base vf fo) : Ap vw vf := by
 obtain ⟨i, ho⟩ := Kd.R_own h
 obtain ⟨i', ho'⟩ := Kd.R_own h'
 exact own_type_ne ho ho' (by decide)
theorem RBI (h : RB W base vf fo) {v : Value} {xs : List Int} (h' : RI W base v xs) : Ap vf v := by
 obtain ⟨i, ho⟩ := Kd.R_own h
 obtain ⟨i', ho'⟩ := Kd.R_own h'
 exact own_type_ne ho ho' (by decide)
theorem Rws.st (h : Rws base W vw vp vj vf vo word pt js fo op) {b : Nat} (hs : St b (fun _ => False) W w1) : Rws base w1 vw vp vj vf vo word pt js fo op :=
 ⟨R_st h.w hs, R_st h.p hs, R_st h.j hs, R_st h.f hs, R_st h.o hs, h.pj, h.po, h.jo⟩
theorem Rws.set (h : Rws base W vw vp vj vf vo word pt js fo op) {g t : Nat} {cells : Array Value} (hb : W.heap[g]? = some (.cells cells t (0, 0))) (ht : t ≠ 52 ∧ t ≠ 3 ∧ t ≠ 4) (i : Nat) (u : Value) : Rws base (W.setCell ⟨g, i, none⟩ u) vw vp vj vf vo word pt js fo op := by
 have a : ∀ {α : Type} {d : Kd α} {e : Nat} {v : Value} {xs : List α}, d.E = [] → e ≠ t → d.R e W base (fun _ => True) v xs → d.R e (W.setCell ⟨g, i, none⟩ u) base (fun _ => True) v xs := by
  intro α d e v xs hE he h
  refine Kd.R_set h hb ?_ i u
  rw [hE]
  intro q hq
  rw [List.mem_singleton.1 hq]
  exact he
 exact ⟨a rfl ht.1.symm h.w, a rfl ht.2.1.symm h.p, a rfl ht.2.1.symm h.j, a rfl ht.2.2.symm h.f, a rfl ht.2.1.symm h.o, h.pj, h.po, h.jo⟩
theorem Rws.setW (h : Rws base W vw vp vj vf vo word pt js fo op) (hR : RM w1 base v1 word') (hg : W.grownBy w1 vw.ownBlock) : Rws base w1 v1 vp vj vf vo word' pt js fo op :=
 ⟨hR, R_grow_other h.p rfl hg (RMI h.w h.p).symm, R_grow_other h.j rfl hg (RMI h.w h.j).symm, R_grow_other h.f rfl hg (RMB h.w h.f).symm, R_grow_other h.o rfl hg (RMI h.w h.o).symm, h.pj, h.po, h.jo⟩
theorem Rws.setF (h : Rws base W vw vp vj vf vo word pt js fo op) (hR : RB w1 base v1 fo') (hg : W.grownBy w1 vf.ownBlock) : Rws base w1 vw vp vj v1 vo word pt js fo' op :=
 ⟨R_grow_other h.w rfl hg (RMB h.w h.f), R_grow_other h.p rfl hg (RBI h.f h.p).symm, R_grow_other h.j rfl hg (RBI h.f h.j).symm, hR, R_grow_other h.o rfl hg (RBI h.f h.o).symm, h.pj, h.po, h.jo⟩
theorem Rws.setP (h : Rws base W vw vp vj vf vo word pt js fo op) (hR : RI w1 base v1 pt') (hg : W.grownBy w1 vp.ownBlock) (hat : v1.ownBlock = vp.ownBlock ∨ ∃ b, v1.ownBlock = some b ∧ W.heap.size ≤ b) : Rws base w1 vw v1 vj vf vo word pt' js fo op :=
 ⟨R_grow_other h.w rfl hg (RMI h.w h.p), hR, R_grow_other h.j rfl hg h.pj.symm, R_grow_other h.f rfl hg (RBI h.f h.p), R_grow_other h.o rfl hg h.po.symm, h.pj.grow hat h.j.lt, h.po.grow hat h.o.lt, h.jo⟩
theorem Rws.setJ (h : Rws base W vw vp vj vf vo word pt js fo op) (hR : RI w1 base v1 js') (hg : W.grownBy w1 vj.ownBlock) (hat : v1.ownBlock = vj.ownBlock ∨ ∃ b, v1.ownBlock = some b ∧ W.heap.size ≤ b) : Rws base w1 vw vp v1 vf vo word pt js' fo op :=
 ⟨R_grow_other h.w rfl hg (RMI h.w h.j), R_grow_other h.p rfl hg h.pj, hR, R_grow_other h.f rfl hg (RBI h.f h.j), R_grow_other h.o rfl hg h.jo.symm, (h.pj.symm.grow hat h.p.lt).symm, h.po, h.jo.grow hat h.o.lt⟩
theorem Rws.setO (h : Rws base W vw vp vj vf vo word pt js fo op) (hR : RI w1 base v1 op') (hg : W.grownBy w1 vo.ownBlock) (hat : v1.ownBlock = vo.ownBlock ∨ ∃ b, v1.ownBlock = some b ∧ W.heap.size ≤ b) : Rws base w1 vw vp vj vf v1 word pt js fo op' :=
 ⟨R_grow_other h.w rfl hg (RMI h.w h.o), R_grow_other h.p rfl hg h.po, R_grow_other h.j rfl hg h.jo, R_grow_other h.f rfl hg (RBI h.f h.o), hR, h.pj, (h.po.symm.grow hat h.p.lt).symm, (h.jo.symm.grow hat h.j.lt).symm⟩
end
theorem RI.put {W : World} {base : Nat} {v : Value} {xs : List Int} (h : RI W base v xs) (i : Nat) (hi : i < xs.length) (x : Int) :
  ∃ g c, v = .slice (some ⟨g, 0, none⟩) xs.length c ∧ base ≤ g ∧ g < W.heap.size ∧ (∃ cs, W.heap[g]? = some (.cells cs 3 (0, 0))) ∧ W.cell? ⟨g, i, none⟩ = some (.int .i64 (xs.getD i 0)) ∧ W.frozen? ⟨g, i, none⟩ = false ∧ RI (W.setCell ⟨g, i, none⟩ (.int .i64 x)) base v (xs.set i x) ∧ W.grownBy (W.setCell ⟨g, i, none⟩ (.int .i64 x)) v.ownBlock := by
 have ho := Kd.own_of_R h
 rcases ho.2 with ⟨_, h0⟩ | ⟨g, c, cur, rfl, hb, hh, _⟩
 ·omega
 have h1 := own_at_of (d := 0) ho (i : Int) (by omega) (by omega)
 have h2 := own_store_of ho (i : Int) x
 rw [Int.toNat_natCast] at h1 h2
 refine ⟨g, c, rfl, hb, blk_lt hh, ⟨_, hh⟩, ?_, h1.2, Kd.R_of_own (by rw [List.length_set]; exact h2.1) (fun _ _ => trivial), h2.2⟩
 exact h1.1
theorem RI.get {W : World} {base : Nat} {v : Value} {xs : List Int} (h : RI W base v xs) (i : Nat) (hi : i < xs.length) :
  ∃ g c, v = .slice (some ⟨g, 0, none⟩) xs.length c ∧ g < W.heap.size ∧ W.cell? ⟨g, i, none⟩ = some (.int .i64 (xs.getD i 0)) := by
 obtain ⟨g, c, hv, _, hlt, _, hc, _⟩ := h.put i hi 0
 exact ⟨g, c, hv, hlt, hc⟩
theorem RM.get {W : World} {base : Nat} {v : Value} {xs : List Mv} (h : RM W base v xs) (n : Int) (h0 : 0 ≤ n) (h1 : n < xs.length) :
  ∃ g c q, v = .slice (some ⟨g, 0, none⟩) xs.length c ∧ g < W.heap.size ∧ xs.getD n.toNat z52 = q ∧ W.cell? ⟨g, n.toNat * 4, none⟩ = some (.int .i64 q.f0) ∧ W.cell? ⟨g, n.toNat * 4 + 1, none⟩ = some (.int .i64 q.f1) ∧
   W.cell? ⟨g, n.toNat * 4 + 2, none⟩ = some (.int .u8 q.f2) ∧ W.cell? ⟨g, n.toNat * 4 + 3, none⟩ = some (.int .i64 q.f3) := by
 obtain ⟨A, c, he, _, hC⟩ := Kd.R_reads h
 obtain ⟨inner, hown⟩ := Kd.R_own h
 rcases hown.2 with ⟨e, h2⟩ | ⟨g, c', cur, rfl, hb, hh, _⟩
 ·omega
 injection he with e1 e2 e3
 subst e1
 obtain ⟨ad, e, a0, a1, a2, a3⟩ := at_T52 hC n h0 h1
 cases e
 simp only [add_plain] at a0 a1 a2 a3
 exact ⟨g, c', _, rfl, blk_lt hh, rfl, a0, a1, a2, a3⟩
theorem RI.cut {W : World} {base : Nat} {A : Option Addr} {n c : Nat} {xs : List Int} (h : RI W base (.slice A n c) xs) (m : Nat) (hm : m ≤ xs.length) : RI W base (.slice A m c) (xs.take m) := by
 have ho := Kd.own_of_R h
 obtain ⟨A', c', e⟩ := Kd.R_slice h
 injection e with e1 e2 e3
 subst e2
 have h2 := own_take ho hm
 refine Kd.R_of_own ?_ (fun _ _ => trivial)
 have hl : (xs.take m).length = m := by rw [List.length_take]; omega
 rw [hl]
 have : encs (Value.int .i64) (xs.take m) = (encs (Value.int .i64) xs).take (m * 1) := by simp [encs, List.map_take]
 rw [this]
 exact h2
abbrev SK (base : Nat) (T : TypeId) (W W' : World) : Prop := Keeps base base (fun _ => False) (fun t => t ≠ T ∧ t ≠ 52 ∧ t ≠ 3 ∧ t ≠ 4) W W'
section
variable {base g : Nat} {T : TypeId} {W w1 : World}
theorem SK.set {A : World} (h : SK base T A W) {cs : Array Value} (hb : W.heap[g]? = some (.cells cs T (0, 0))) (hg : base ≤ g) (j : Nat) (v : Value) : SK base T A (W.setCell ⟨g, j, none⟩ v) :=
 h.trans ⟨⟨rfl, rfl, rfl, by simp [World.setCell]⟩, fun k o hk ho => by
  have hne : k ≠ g := by
   rintro rfl
   rcases ho with ho | ho | ⟨_, ho⟩
   ·omega
   ·exact ho
   rw [hb] at hk
   exact (ho _ _ _ (Option.some.inj hk).symm).1 rfl
  exact (Below.heap_setCell W ⟨g, j, none⟩ v k hne).trans hk⟩
theorem SK.grow {A : World} {α : Type} {d : Kd α} {e : Nat} {v : Value} {xs : List α} (h : SK base T A W) (hR : d.R e W base (fun _ => True) v xs) (he : e = 52 ∨ e = 3 ∨ e = 4) (hg : W.grownBy w1 v.ownBlock) : SK base T A w1 :=
 h.trans ⟨⟨hg.os, hg.tape, hg.output, hg.size⟩, fun k o hk ho => by
  refine (hg.block k (Array.getElem?_eq_some_iff.1 hk).1 ?_).trans hk
  intro e1
  obtain ⟨inner, hown⟩ := Kd.R_own hR
  obtain ⟨cells, hc⟩ := own_typed hown k e1.symm
  have hge := own_base hown k e1.symm
  rw [hc] at hk
  rcases ho with ho | ho | ⟨_, ho⟩
  ·omega
  ·exact ho
  obtain ⟨_, h1, h2, h3⟩ := ho _ _ _ (Option.some.inj hk).symm
  rcases he with rfl | rfl | rfl
  ·exact h1 rfl
  ·exact h2 rfl
  exact h3 rfl⟩
theorem SK.of_below {A : World} (h : SK base T A W) (hb : Below W.heap.size W w1) : SK base T A w1 := h.trans (Keeps.of_below hb)
theorem SK.blk {b : Nat} {cs : Array Value} {t : TypeId} {f : Nat × Nat} (h : SK base T W w1) (hb : W.heap[b]? = some (.cells cs t f)) (ht : t ≠ T ∧ t ≠ 52 ∧ t ≠ 3 ∧ t ≠ 4) : w1.heap[b]? = some (.cells cs t f) := by
 rcases Nat.lt_or_ge b base with hl | hl
 ·exact h.2 b _ hb (.inl hl)
 exact Keeps.blk h hb hl ht
end
section
variable {P : Program} {ops : Array Oper} {o : Oper} {a : Act} {Q : Exit → Act → World → Prop} {K : Act → World → Prop} {α : Type} {N : Option Tmp}
theorem app_at (d : Kd α) {W : World} (base : Nat) (hw : Region.wanted o (yielded ops a.tmps) = true) (hN : o.dst = N) (s x : Operand) (t e : TypeId) (z : Value) (bytes : Nat)
  (ho : o.op = .call { callee := .builtin .append, args := #[s, x], argTypes := #[t, t] })
  (ht : P.underlying t = some (.slice e)) (hinfo : (P.info? e).map (fun i => (i.zero, i.size, i.bytes)) = some (some z, d.sz, bytes)) (hz : z.cells.size = d.sz) (hs0 : 0 < d.sz) (hb0 : 0 < bytes)
  (v : Value) (xs : List α) (p : α) (cs : List Value) (b : Nat) (hs : a.eval s = v) (hx : a.eval x = .slice (some ⟨b, 0, none⟩) 1 1) (hb : W.heap[b]? = some (.cells cs.toArray e (0, 0))) (hp : d.M W base (fun _ => False) p cs)
  (HO : d.R e W base (fun _ => True) v xs) (hbase : base ≤ W.heap.size) (hl : (xs.length + 1) * bytes ≤ 140737488355328)
  (h : ∀ v1 w1, d.R e w1 base (fun _ => True) v1 (xs ++ [p]) → W.grownBy w1 v.ownBlock → (v1.ownBlock = v.ownBlock ∨ ∃ b, v1.ownBlock = some b ∧ W.heap.size ≤ b) → K (a.put N v1) w1) :
  if Region.wanted o (yielded ops a.tmps) = true then Oper.wp P o a W K Q else K (a.put N undef) W := by
 obtain ⟨h0, inner, hown, hr⟩ := HO
 obtain ⟨i0, hi, hzz⟩ := Option.map_eq_some_iff.1 hinfo
 simp only [Prod.mk.injEq] at hzz
 obtain ⟨hz0, hz1, hz2⟩ := hzz
 have hlen : xs.length + 1 ≤ 140737488355328 := Nat.le_trans (Nat.le_mul_of_pos_right _ hb0) hl
 have hys : cs.length = d.sz := d.K_len (d.K_of_M hp)
 rw [if_pos hw]
 obtain ⟨v1, w1, hr1, hown1, hg, _, hat⟩ := run_append_own_at (P := P) W base t o.type e i0 z d.sz bytes ht hi hz0 hz1 hz2 hz hs0 v xs.length inner hown ⟨b, 0, none⟩ 1 1 cs (by rw [hys]; simp)
  (by simpa using World.news_of_block (cs := cs.toArray) (t := e) (fr := (0, 0)) hb) (d.K_one (d.K_of_M hp)) (by simp only [maxLen]; omega) hl hbase
 unfold Oper.wp execOp
 simp only [ho, resolve, invoke, builtin, Sem.run_bind, Sem.run_pure, Result.andThen_ok, List.map_toArray, List.map_cons, List.map_nil, hs, hx, hr1]
 subst hN
 have hat' : v1.ownBlock = v.ownBlock ∨ ∃ b, v1.ownBlock = some b ∧ W.heap.size ≤ b := by
  rcases hat with hat | hat
  ·exact .inl hat
  exact .inr ⟨_, hat, Nat.le_refl _⟩
 exact h v1 w1 (Kd.R_appended h0 hr hp (fun _ hk => hk.elim) (fun _ _ => trivial) hown1 hg hat') hg hat'
end
end Go.Proofs.YtjgocihflhljeaaGreat.P
