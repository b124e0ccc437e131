/- What the claim's law needs, many texts in one (Tp Ca Tj De Q1). No conditions of its own. -/
import Derived.Test.YtjgocihflhljeaaGreatZl13
import Derived.Test.YtjgocihflhljeaaGreatZl12
import Derived.Test.YtjgocihflhljeaaGreatZl2
import Derived.Shelf.Abstract
import Derived.Laws.Runes
import Derived.Laws.Concat
import Derived.IntWalk
set_option linter.unusedVariables false
set_option linter.unusedSimpArgs false
namespace Go.Proofs.YtjgocihflhljeaaGreat.P
open Go.RowKit Go.Shelf Go.Proofs.YtjgocihflhljeaaGreatW.PrintWords Go.Proofs.YtjgocihflhljeaaGreatW.PrintLast Go.Proofs.YtjgocihflhljeaaGreatW.PrintMore
attribute [local go_sem] Oper.semAt_some
theorem seenE_or (ids : List S68) (rc : Bool) (rn : Int) (jb mine : Bool) (t : Tk) : seenE ids rc rn jb mine t = 9 ∨ seenE ids rc rn jb mine t = 0 := by
 unfold seenE
 split
 ·exact .inl rfl
 split
 ·exact .inl rfl
 exact .inr rfl
def viewE (ids : List S68) (rc : Bool) (rn : Int) (jb mine : Bool) (l : List Mv) : Int := if tellE ids rc rn jb l ≠ 0 then tellE ids rc rn jb l else seenE ids rc rn jb mine (talkL ids rc rn jb l)
theorem seenback_all {base : Nat} {w : World} {g : Nat} {A : Option Addr} {c : Nat} {ids : List S68} {rc : Bool} {rn : Int} {jb : Bool} {t : Tk} {vw vp vj vf vo : Value} (h : Talk base w g A c ids rc rn jb t vw vp vj vf vo) (hr : Kd.C k68 w A ids.length ids) (L : List Int) (hL : seenE ids rc rn jb true t = 0 → backL t (t.word.length + 1) t.last = some L ∧ L.length ≤ 1048577) : Calls Tryz.prog 66 #[.pointer (some ⟨g, 0, none⟩), .bool true, .func (.func 67) #[] #[]] w (Ret2 (seenE ids rc rn jb true t) fun r w' => RI w' w.heap.size r (okL (seenE ids rc rn jb true t) L.reverse) ∧ Below w.heap.size w w') := by
 rcases seenE_or ids rc rn jb true t with hE | hE
 ·rw [hE, okL_no _ (by decide)]
  exact (seen_err h hr true _ hE).mono (fun e w' hp => hp.mono (fun v hv => ⟨by rw [hv.1]; exact Kd.R_nil _ _ _ _ _, hv.2⟩))
 obtain ⟨h1, h2⟩ := hL hE
 rw [hE, okL_ok _ rfl]
 exact seenback_ok h hr L h1 h2 hE
theorem Viewa_any {base : Nat} {w : World} {g : Nat} {A : Option Addr} {c : Nat} {ids : List S68} {rc : Bool} {rn : Int} {jb : Bool} {t : Tk} {vw vp vj vf vo : Value} (h : Talk base w g A c ids rc rn jb t vw vp vj vf vo) (hr : Kd.C k68 w A ids.length ids) (L : List Int) (hL : seenE ids rc rn jb true t = 0 → backL t (t.word.length + 1) t.last = some L ∧ L.length ≤ 1048577) : Calls Tryz.prog 65 (#[.pointer (some ⟨g, 0, none⟩)] ++ #[]) w (Ret2 (seenE ids rc rn jb true t) fun r w' => RI w' w.heap.size r (okL (seenE ids rc rn jb true t) L.reverse) ∧ Below w.heap.size w w') := by
 have HS := am (seenback_all h hr L hL)
 simp only [List.append_toArray, List.append_nil]
 clear h hr hL
 go_enter Tryz.func65, Tryz.ntmps65
 go_wp2_with (go_at_call 66; refine HS.out.mono ?_; rintro e w1 ⟨v, rfl, hv, hb1⟩)
 go_ret2
 exact Ret2.mk _ rfl ⟨hv, hb1⟩
theorem enters_Viewa : ∀ args w, (callFunc 65 args).run Tryz.prog w = .ok (.enter 65 args) w := enters_of Tryz.func65 (by kernel_rfl) rfl
theorem pView_any (A : Option Addr) (c : Nat) (ids : List S68) (rc : Bool) (rn : Int) (jb : Bool) (A1 : Option Addr) (c1 : Nat) (l : List Mv) (w : World) (hr : Kd.C k68 w A ids.length ids) (hr1 : Kd.C k52 w A1 l.length l) (hl : l.length ≤ 1000000) (L : List Int) (hL : viewE ids rc rn jb true l = 0 → backL (talkL ids rc rn jb l) ((talkL ids rc rn jb l).word.length + 1) (talkL ids rc rn jb l).last = some L ∧ L.length ≤ 1048577) :
  Calls Tryz.prog 25 #[.agg #[.slice A ids.length c, .bool rc, .int .i64 rn, .bool jb], .slice A1 l.length c1] w (Ret2 (viewE ids rc rn jb true l) fun v w' => RI w' w.heap.size v (okL (viewE ids rc rn jb true l) L.reverse) ∧ Below w.heap.size w w') := by
 have HB := am ((Below.refl _ w).alloc (Nat.le_refl _) (.cells #[.slice A ids.length c, .bool rc, .int .i64 rn, .bool jb] 26))
 have HO := am (fun (V : World) (hb : Below w.heap.size w V) => toldI_any A c ids rc rn jb A1 c1 l _ #[] enters_Viewa (seenE ids rc rn jb true (talkL ids rc rn jb l)) (fun v V' => RI V' w.heap.size v (okL (seenE ids rc rn jb true (talkL ids rc rn jb l)) L.reverse) ∧ Below w.heap.size w V') V (Kd.C_below hr hb) (Kd.C_below hr1 hb) hl
  (fun hz V2 g vw vp vj vf vo hb2 hle hT => (Viewa_any hT (Kd.C_below hr (hb.trans (hb2.mono hb.size))) L (fun hs => hL (by rw [viewE, if_neg (by simpa using hz)]; exact hs))).mono (by
   have hlw := hb.size
   rintro e V3 ⟨r, rfl, hR, hb3⟩
   exact ⟨r, rfl, Kd.R_lower hR (by omega), hb.trans ((hb2.mono hlw).trans (hb3.mono (by omega)))⟩)))
 clear hr hr1
 have HL := am hL
 clear hL
 go_enter Tryz.func25, Tryz.ntmps25
 go_wp2_with (go_at_call 64; refine (HO.out _ HB.out).mono ?_; rintro e w1 (⟨hE, rfl, hb1⟩ | ⟨hE, r, rfl, hR, hb1⟩))
 ·go_ret2
  have e : viewE ids rc rn jb true l = tellE ids rc rn jb l := by rw [viewE, if_pos hE]
  exact Ret2.mk _ (by rw [e]; rfl) ⟨by rw [e, okL_no _ hE]; exact Kd.R_nil _ _ _ _ _, HB.out.trans (hb1.mono (by simp))⟩
 ·go_ret2
  have hs : seenE ids rc rn jb true (talkL ids rc rn jb l) = 0 := by assumption
  have e : viewE ids rc rn jb true l = 0 := by rw [viewE, if_neg (by simpa using hE)]; exact hs
  refine Ret2.mk _ (by rw [e]; rfl) ⟨?_, hb1⟩
  rw [e]
  rw [hs] at hR
  exact hR
 go_ret2
 have hs : ¬ seenE ids rc rn jb true (talkL ids rc rn jb l) = 0 := by assumption
 have e : viewE ids rc rn jb true l = seenE ids rc rn jb true (talkL ids rc rn jb l) := by rw [viewE, if_neg (by simpa using hE)]
 exact Ret2.mk _ (by rw [e]; rfl) ⟨by rw [e, okL_no _ hs]; exact Kd.R_nil _ _ _ _ _, hb1⟩
theorem seenfront_all {base : Nat} {w : World} {g : Nat} {A : Option Addr} {c : Nat} {ids : List S68} {rc : Bool} {rn : Int} {jb : Bool} {t : Tk} {vw vp vj vf vo : Value} (h : Talk base w g A c ids rc rn jb t vw vp vj vf vo) (hr : Kd.C k68 w A ids.length ids) (L : List Int) (hL : seenE ids rc rn jb false t = 0 → frontL t (t.word.length + 1) t.last = some L ∧ L.length ≤ 1048577) : Calls Tryz.prog 66 #[.pointer (some ⟨g, 0, none⟩), .bool false, .func (.func 69) #[] #[]] w (Ret2 (seenE ids rc rn jb false t) fun r w' => RI w' w.heap.size r (okL (seenE ids rc rn jb false t) L.reverse) ∧ Below w.heap.size w w') := by
 rcases seenE_or ids rc rn jb false t with hE | hE
 ·rw [hE, okL_no _ (by decide)]
  exact (seen_err h hr false _ hE).mono (fun e w' hp => hp.mono (fun v hv => ⟨by rw [hv.1]; exact Kd.R_nil _ _ _ _ _, hv.2⟩))
 obtain ⟨h1, h2⟩ := hL hE
 rw [hE, okL_ok _ rfl]
 exact seenfront_ok h hr L h1 h2 hE
theorem Sighta_any {base : Nat} {w : World} {g : Nat} {A : Option Addr} {c : Nat} {ids : List S68} {rc : Bool} {rn : Int} {jb : Bool} {t : Tk} {vw vp vj vf vo : Value} (h : Talk base w g A c ids rc rn jb t vw vp vj vf vo) (hr : Kd.C k68 w A ids.length ids) (L : List Int) (hL : seenE ids rc rn jb false t = 0 → frontL t (t.word.length + 1) t.last = some L ∧ L.length ≤ 1048577) : Calls Tryz.prog 68 (#[.pointer (some ⟨g, 0, none⟩)] ++ #[]) w (Ret2 (seenE ids rc rn jb false t) fun r w' => RI w' w.heap.size r (okL (seenE ids rc rn jb false t) L.reverse) ∧ Below w.heap.size w w') := by
 have HS := am (seenfront_all h hr L hL)
 simp only [List.append_toArray, List.append_nil]
 clear h hr hL
 go_enter Tryz.func68, Tryz.ntmps68
 go_wp2_with (go_at_call 66; refine HS.out.mono ?_; rintro e w1 ⟨v, rfl, hv, hb1⟩)
 go_ret2
 exact Ret2.mk _ rfl ⟨hv, hb1⟩
theorem enters_Sighta : ∀ args w, (callFunc 68 args).run Tryz.prog w = .ok (.enter 68 args) w := enters_of Tryz.func68 (by kernel_rfl) rfl
theorem pSight_any (A : Option Addr) (c : Nat) (ids : List S68) (rc : Bool) (rn : Int) (jb : Bool) (A1 : Option Addr) (c1 : Nat) (l : List Mv) (w : World) (hr : Kd.C k68 w A ids.length ids) (hr1 : Kd.C k52 w A1 l.length l) (hl : l.length ≤ 1000000) (L : List Int) (hL : viewE ids rc rn jb false l = 0 → frontL (talkL ids rc rn jb l) ((talkL ids rc rn jb l).word.length + 1) (talkL ids rc rn jb l).last = some L ∧ L.length ≤ 1048577) :
  Calls Tryz.prog 26 #[.agg #[.slice A ids.length c, .bool rc, .int .i64 rn, .bool jb], .slice A1 l.length c1] w (Ret2 (viewE ids rc rn jb false l) fun v w' => RI w' w.heap.size v (okL (viewE ids rc rn jb false l) L.reverse) ∧ Below w.heap.size w w') := by
 have HB := am ((Below.refl _ w).alloc (Nat.le_refl _) (.cells #[.slice A ids.length c, .bool rc, .int .i64 rn, .bool jb] 26))
 have HO := am (fun (V : World) (hb : Below w.heap.size w V) => toldI_any A c ids rc rn jb A1 c1 l _ #[] enters_Sighta (seenE ids rc rn jb false (talkL ids rc rn jb l)) (fun v V' => RI V' w.heap.size v (okL (seenE ids rc rn jb false (talkL ids rc rn jb l)) L.reverse) ∧ Below w.heap.size w V') V (Kd.C_below hr hb) (Kd.C_below hr1 hb) hl
  (fun hz V2 g vw vp vj vf vo hb2 hle hT => (Sighta_any hT (Kd.C_below hr (hb.trans (hb2.mono hb.size))) L (fun hs => hL (by rw [viewE, if_neg (by simpa using hz)]; exact hs))).mono (by
   have hlw := hb.size
   rintro e V3 ⟨r, rfl, hR, hb3⟩
   exact ⟨r, rfl, Kd.R_lower hR (by omega), hb.trans ((hb2.mono hlw).trans (hb3.mono (by omega)))⟩)))
 clear hr hr1
 have HL := am hL
 clear hL
 go_enter Tryz.func26, Tryz.ntmps26
 go_wp2_with (go_at_call 64; refine (HO.out _ HB.out).mono ?_; rintro e w1 (⟨hE, rfl, hb1⟩ | ⟨hE, r, rfl, hR, hb1⟩))
 ·go_ret2
  have e : viewE ids rc rn jb false l = tellE ids rc rn jb l := by rw [viewE, if_pos hE]
  exact Ret2.mk _ (by rw [e]; rfl) ⟨by rw [e, okL_no _ hE]; exact Kd.R_nil _ _ _ _ _, HB.out.trans (hb1.mono (by simp))⟩
 ·go_ret2
  have hs : seenE ids rc rn jb false (talkL ids rc rn jb l) = 0 := by assumption
  have e : viewE ids rc rn jb false l = 0 := by rw [viewE, if_neg (by simpa using hE)]; exact hs
  refine Ret2.mk _ (by rw [e]; rfl) ⟨?_, hb1⟩
  rw [e]
  rw [hs] at hR
  exact hR
 go_ret2
 have hs : ¬ seenE ids rc rn jb false (talkL ids rc rn jb l) = 0 := by assumption
 have e : viewE ids rc rn jb false l = seenE ids rc rn jb false (talkL ids rc rn jb l) := by rw [viewE, if_neg (by simpa using hE)]
 exact Ret2.mk _ (by rw [e]; rfl) ⟨by rw [e, okL_no _ hs]; exact Kd.R_nil _ _ _ _ _, hb1⟩
end Go.Proofs.YtjgocihflhljeaaGreat.P
namespace Go.Proofs.YtjgocihflhljeaaGreat.P
open Go.RowKit Go.Shelf Go.Proofs.YtjgocihflhljeaaGreatW.PrintWords Go.Proofs.YtjgocihflhljeaaGreatW.PrintLast Go.Proofs.YtjgocihflhljeaaGreatW.PrintMore
def exI : List S68 := [⟨[⟨false, 3⟩, ⟨true, 2⟩], ⟨false, 1⟩⟩, ⟨[], ⟨true, 2⟩⟩]
def exW : List Mv := [⟨0, 0, 1, 0⟩, ⟨1, 0, 1, 0⟩, ⟨1, 1, 1, 0⟩, ⟨2, 0, 1, 0⟩, ⟨2, 0, 3, 1⟩, ⟨1, 1, 3, 2⟩, ⟨1, 2, 2, 1⟩, ⟨1, 2, 3, 0⟩, ⟨1, 0, 3, 0⟩]
def exO : List Mv := [⟨0, 0, 1, 0⟩, ⟨1, 0, 1, 0⟩, ⟨2, 0, 1, 0⟩]
def exC : List Mv := [⟨0, 0, 1, 0⟩, ⟨1, 0, 1, 0⟩, ⟨1, 1, 1, 0⟩, ⟨2, 0, 1, 0⟩, ⟨2, 0, 3, 0⟩, ⟨1, 1, 3, 0⟩, ⟨1, 0, 3, 0⟩, ⟨0, 0, 3, 0⟩]
theorem ex_tell : tellE exI false 2 false exW = 0 := by kernel_rfl
theorem ex_turn : (talkL exI false 2 false exW).turn = 2 := by kernel_rfl
theorem ex_open : (talkL exI false 2 false exW).opn = [0] := by kernel_rfl
theorem ex_force : (talkL exI false 2 false exW).force = false := by kernel_rfl
theorem ex_lost : (talkL exI false 2 false exW).lost = false := by kernel_rfl
theorem ex_next : (nextL false (talkL exI false 2 false exW) (movesA exI false 2 false)).length = 6 := by kernel_rfl
theorem ex_part : (talkL exI false 2 false exW).part = [-1, 8, 5, 4, 3, 2, 7, 6, 1] := by kernel_rfl
theorem ex_viewE : viewE exI false 2 false true exW = 0 := by kernel_rfl
theorem ex_back : backL (talkL exI false 2 false exW) ((talkL exI false 2 false exW).word.length + 1) (talkL exI false 2 false exW).last = some [8, 1, 0] := by kernel_rfl
theorem ex_sightE : viewE exI false 2 false false (exW.take 6) = 0 := by kernel_rfl
theorem ex_front : frontL (talkL exI false 2 false (exW.take 6)) ((talkL exI false 2 false (exW.take 6)).word.length + 1) (talkL exI false 2 false (exW.take 6)).last = some [5, 2, 1, 0] := by kernel_rfl
theorem ex_clsE : clsE exI false 2 false (exW.take 4) = 0 := by kernel_rfl
theorem ex_close : closeL (talkL exI false 2 false (exW.take 4)) = exC := by kernel_rfl
theorem ex_odd : tellE exI false 2 false exO = 13 := by kernel_rfl
theorem ex_at : tellAt exI false 2 false exO = 2 := by kernel_rfl
end Go.Proofs.YtjgocihflhljeaaGreat.P
namespace Go.Proofs.YtjgocihflhljeaaGreat.P
open Go.RowKit Go.Shelf Go.Proofs.YtjgocihflhljeaaGreatW.PrintWords Go.Proofs.YtjgocihflhljeaaGreatW.PrintLast Go.Proofs.YtjgocihflhljeaaGreatW.PrintMore
attribute [local go_sem] Oper.semAt_some
def okB (k : Int) (b : Bool) : Bool := decide (k = 0) && b
theorem okB_ok {k : Int} (b : Bool) (h : k = 0) : okB k b = b := by rw [okB, decide_eq_true h, Bool.true_and]
theorem okB_no {k : Int} (b : Bool) (h : k ≠ 0) : okB k b = false := by rw [okB, decide_eq_false h, Bool.false_and]
def RetS (k : Int) (t : Tk) (base : Nat) (w0 : World) (r : Value) (w' : World) : Prop := ∃ A n c, r = standV (okN k t.turn) (.slice A n c) (okB k t.force) (okB k t.lost) ∧ RI w' base (.slice A n c) (okL k t.opn) ∧ Below base w0 w'
theorem RetS.no {k : Int} {t : Tk} {base : Nat} {w0 w' : World} (h : k ≠ 0) (hb : Below base w0 w') : RetS k t base w0 (standV 0 (.slice none 0 0) false false) w' :=
 ⟨none, 0, 0, by rw [okN_no _ h, okB_no _ h, okB_no _ h], by rw [okL_no _ h]; exact Kd.R_nil _ _ _ _ _, hb⟩
theorem RetS.put {k : Int} {t : Tk} {base g : Nat} {w0 W : World} {r a0 a1 a2 a3 : Value} (hK : W.heap[g]? = some (.cells #[a0, a1, a2, a3] 38 (0, 0))) (hg : base ≤ g) (h : RetS k t base w0 r W) (v0 v1 v2 v3 : Value) :
  RetS k t base w0 r ((((W.setCell ⟨g, 0, none⟩ v0).setCell ⟨g, 1, none⟩ v1).setCell ⟨g, 2, none⟩ v2).setCell ⟨g, 3, none⟩ v3) := by
 obtain ⟨A, n, c, hr, hR, hB⟩ := h
 have q0 := Kd.R_set (d := Kd.int .i64) hR hK (by decide) 0 v0
 have r0 := blk_put hK 0 v0 rfl
 have q1 := Kd.R_set (d := Kd.int .i64) q0 r0 (by decide) 1 v1
 have r1 := blk_put r0 1 v1 rfl
 have q2 := Kd.R_set (d := Kd.int .i64) q1 r1 (by decide) 2 v2
 have r2 := blk_put r1 2 v2 rfl
 have q3 := Kd.R_set (d := Kd.int .i64) q2 r2 (by decide) 3 v3
 exact ⟨A, n, c, hr, q3, below4s hB hg _ _ _ _⟩
set_option maxHeartbeats 2000000 in
theorem toldS_any (A : Option Addr) (c : Nat) (ids : List S68) (rc : Bool) (rn : Int) (jb : Bool) (A1 : Option Addr) (c1 : Nat) (l : List Mv) (w : World) (hr : Kd.C k68 w A ids.length ids) (hr1 : Kd.C k52 w A1 l.length l) (hl : l.length ≤ 1000000) : Calls Tryz.prog 58 #[.agg #[.slice A ids.length c, .bool rc, .int .i64 rn, .bool jb], .slice A1 l.length c1, .func (.func 59) #[] #[]] w (Ret2 (tellE ids rc rn jb l) (RetS (tellE ids rc rn jb l) (talkL ids rc rn jb l) w.heap.size w)) := by
 have HB := am (((Below.refl _ w).alloc (Nat.le_refl _) (.cells #[.slice A ids.length c, .bool rc, .int .i64 rn, .bool jb] 26)).alloc (by simp) (.cells #[.int .u8 0, .slice none 0 0, .bool false, .bool false] 38))
 have HK := am (two w (.cells #[.slice A ids.length c, .bool rc, .int .i64 rn, .bool jb] 26) (.cells #[.int .u8 0, .slice none 0 0, .bool false, .bool false] 38)).2
 by_cases h1 : checkE ids rn ≠ 0
 ·have HO := am (fun (V : World) (hb : Below w.heap.size w V) => popen_err A c ids rc rn jb A1 c1 l V (Kd.C_below hr hb) h1)
  have HE := am (tellE_err (rc := rc) (jb := jb) (l := l) h1)
  have hb : (checkE ids rn != 0) = true := by simpa using h1
  clear hr hr1
  go_enter Tryz.func58, Tryz.ntmps58
  go_wp2_with (go_at_call 57; refine (HO.out _ HB.out).mono ?_; rintro e w1 ⟨rfl, hb1⟩; have HK1 := am ((hb1.block _ (by simp)).trans HK.out); have f0 := blk_frozen HK1.out 0; have f1 := blk_frozen HK1.out 1; have f2 := blk_frozen HK1.out 2; have f3 := blk_frozen HK1.out 3; have d0 : w1.cell? ⟨w.heap.size + 1, 0, none⟩ = some (.int .u8 0) := (blk_cell HK1.out 0).trans rfl; have d1 : w1.cell? ⟨w.heap.size + 1, 1, none⟩ = some (.slice none 0 0) := (blk_cell HK1.out 1).trans rfl; have d2 : w1.cell? ⟨w.heap.size + 1, 2, none⟩ = some (.bool false) := (blk_cell HK1.out 2).trans rfl; have d3 : w1.cell? ⟨w.heap.size + 1, 3, none⟩ = some (.bool false) := (blk_cell HK1.out 3).trans rfl)
  have r := store4 HK1.out (.int .u8 (0)) (.slice none 0 0) (.bool (false)) (.bool (false))
  have cz0 := (blk_cell r 0).trans rfl
  have cz1 := (blk_cell r 1).trans rfl
  have cz2 := (blk_cell r 2).trans rfl
  have cz3 := (blk_cell r 3).trans rfl
  refine bodyPost_ret (v := .tuple #[standV (0) (.slice none 0 0) (false) (false), .int .i64 (checkE ids rn)]) ?_ rfl ?_
  ·simp [results, Tryz.results58, go_sem, cz0, cz1, cz2, cz3, standV]
  exact Ret2.mk _ (by rw [HE.out]) (RetS.put HK1.out (by omega) (RetS.no (by rw [HE.out]; exact h1) (HB.out.trans (hb1.mono (by simp; omega)))) _ _ _ _)
 have h1' : checkE ids rn = 0 := by omega
 by_cases h2 : 400 < l.length
 ·have HO := am (fun (V : World) (hb : Below w.heap.size w V) => popen_long A c ids rc rn jb A1 c1 l V (Kd.C_below hr hb) h1' h2 hl)
  have HE := am (tellE_long (rc := rc) (jb := jb) (l := l) h1' h2)
  clear hr hr1
  go_enter Tryz.func58, Tryz.ntmps58
  go_wp2_with (go_at_call 57; refine (HO.out _ HB.out).mono ?_; rintro e w1 ⟨rfl, hb1⟩; have HK1 := am ((hb1.block _ (by simp)).trans HK.out); have f0 := blk_frozen HK1.out 0; have f1 := blk_frozen HK1.out 1; have f2 := blk_frozen HK1.out 2; have f3 := blk_frozen HK1.out 3; have d0 : w1.cell? ⟨w.heap.size + 1, 0, none⟩ = some (.int .u8 0) := (blk_cell HK1.out 0).trans rfl; have d1 : w1.cell? ⟨w.heap.size + 1, 1, none⟩ = some (.slice none 0 0) := (blk_cell HK1.out 1).trans rfl; have d2 : w1.cell? ⟨w.heap.size + 1, 2, none⟩ = some (.bool false) := (blk_cell HK1.out 2).trans rfl; have d3 : w1.cell? ⟨w.heap.size + 1, 3, none⟩ = some (.bool false) := (blk_cell HK1.out 3).trans rfl)
  have r := store4 HK1.out (.int .u8 (0)) (.slice none 0 0) (.bool (false)) (.bool (false))
  have cz0 := (blk_cell r 0).trans rfl
  have cz1 := (blk_cell r 1).trans rfl
  have cz2 := (blk_cell r 2).trans rfl
  have cz3 := (blk_cell r 3).trans rfl
  refine bodyPost_ret (v := .tuple #[standV (0) (.slice none 0 0) (false) (false), .int .i64 (5)]) ?_ rfl ?_
  ·simp [results, Tryz.results58, go_sem, cz0, cz1, cz2, cz3, standV]
  exact Ret2.mk _ (by rw [HE.out]) (RetS.put HK1.out (by omega) (RetS.no (by rw [HE.out]; decide) (HB.out.trans (hb1.mono (by simp; omega)))) _ _ _ _)
 have h2' : l.length ≤ 400 := by omega
 have HO := am (fun (V : World) (hb : Below w.heap.size w V) => popen_ok A c ids rc rn jb A1 c1 l V (Kd.C_below hr hb) (Kd.C_below hr1 hb) h1' h2')
 clear hr hr1
 by_cases h3 : (talkL ids rc rn jb l).word.length < l.length
 ·have HE := am (tellE_odd h1' h2' h3)
  have hz : ((talkL ids rc rn jb l).word.length : Int) < (l.length : Int) := by omega
  have hzb : decide (((talkL ids rc rn jb l).word.length : Int) < (l.length : Int)) = true := decide_eq_true hz
  go_enter Tryz.func58, Tryz.ntmps58
  go_wp2_with (go_at_call 57; refine (HO.out _ HB.out).mono ?_; rintro e w1 ⟨hb1, g, rfl, vw, vp, vj, vf, vo, hT⟩; have HT := am hT; have HB1 := am (HB.out.trans (hb1.mono (by simp; omega))); have hs1 : w.heap.size + 2 ≤ w1.heap.size := (by have := hb1.size; simp at this; omega); have hgw : g < w1.heap.size := hT.lt; have hgg : w.heap.size + 2 ≤ g := (by have := hT.hg; simp at this; omega); have HK1 := am ((hb1.block _ (by simp)).trans HK.out); have f0 := blk_frozen HK1.out 0; have f1 := blk_frozen HK1.out 1; have f2 := blk_frozen HK1.out 2; have f3 := blk_frozen HK1.out 3; have d0 : w1.cell? ⟨w.heap.size + 1, 0, none⟩ = some (.int .u8 0) := (blk_cell HK1.out 0).trans rfl; have d1 : w1.cell? ⟨w.heap.size + 1, 1, none⟩ = some (.slice none 0 0) := (blk_cell HK1.out 1).trans rfl; have d2 : w1.cell? ⟨w.heap.size + 1, 2, none⟩ = some (.bool false) := (blk_cell HK1.out 2).trans rfl; have d3 : w1.cell? ⟨w.heap.size + 1, 3, none⟩ = some (.bool false) := (blk_cell HK1.out 3).trans rfl; obtain ⟨Aw, cw, rfl⟩ := Kd.R_slice hT.r.w; have h4 : w1.cell? ⟨g, 4, none⟩ = some (.slice Aw (talkL ids rc rn jb l).word.length cw) := (blk_cell hT.b 4).trans rfl)
  have r := store4 HK1.out (.int .u8 (0)) (.slice none 0 0) (.bool (false)) (.bool (false))
  have cz0 := (blk_cell r 0).trans rfl
  have cz1 := (blk_cell r 1).trans rfl
  have cz2 := (blk_cell r 2).trans rfl
  have cz3 := (blk_cell r 3).trans rfl
  refine bodyPost_ret (v := .tuple #[standV (0) (.slice none 0 0) (false) (false), .int .i64 (13)]) ?_ rfl ?_
  ·simp [results, Tryz.results58, go_sem, cz0, cz1, cz2, cz3, standV]
  exact Ret2.mk _ (by rw [HE.out]) (RetS.put HK1.out (by omega) (RetS.no (by rw [HE.out]; decide) HB1.out) _ _ _ _)
 have HE := am (tellE_ok h1' h2' h3)
 have hz : ¬ ((talkL ids rc rn jb l).word.length : Int) < (l.length : Int) := by omega
 have hzb : decide (((talkL ids rc rn jb l).word.length : Int) < (l.length : Int)) = false := decide_eq_false hz
 go_enter Tryz.func58, Tryz.ntmps58
 go_wp2_with (first
  | (go_at_call 57; refine (HO.out _ HB.out).mono ?_; rintro e w1 ⟨hb1, g, rfl, vw, vp, vj, vf, vo, hT⟩; have HT := am hT; have HB1 := am (HB.out.trans (hb1.mono (by simp; omega))); have hs1 : w.heap.size + 2 ≤ w1.heap.size := (by have := hb1.size; simp at this; omega); have hgw : g < w1.heap.size := hT.lt; have hgg : w.heap.size + 2 ≤ g := (by have := hT.hg; simp at this; omega); have HK1 := am ((hb1.block _ (by simp)).trans HK.out); have f0 := blk_frozen HK1.out 0; have f1 := blk_frozen HK1.out 1; have f2 := blk_frozen HK1.out 2; have f3 := blk_frozen HK1.out 3; have d0 : w1.cell? ⟨w.heap.size + 1, 0, none⟩ = some (.int .u8 0) := (blk_cell HK1.out 0).trans rfl; have d1 : w1.cell? ⟨w.heap.size + 1, 1, none⟩ = some (.slice none 0 0) := (blk_cell HK1.out 1).trans rfl; have d2 : w1.cell? ⟨w.heap.size + 1, 2, none⟩ = some (.bool false) := (blk_cell HK1.out 2).trans rfl; have d3 : w1.cell? ⟨w.heap.size + 1, 3, none⟩ = some (.bool false) := (blk_cell HK1.out 3).trans rfl; obtain ⟨Aw, cw, rfl⟩ := Kd.R_slice hT.r.w; have h4 : w1.cell? ⟨g, 4, none⟩ = some (.slice Aw (talkL ids rc rn jb l).word.length cw) := (blk_cell hT.b 4).trans rfl)
  | (go_at_call 59; have hst := stand_any HT.out; simp only [List.append_toArray, List.append_nil] at hst; refine hst.mono ?_; clear hst; rintro e w2 ⟨r, rfl, A2, n2, c2, rfl, hR, hb2⟩; have HR := am hR; have HB2 := am (HB1.out.trans (hb2.mono (by omega))); have HK2 := am ((hb2.block _ (by omega)).trans HK1.out); have f0 := blk_frozen HK2.out 0; have f1 := blk_frozen HK2.out 1; have f2 := blk_frozen HK2.out 2; have f3 := blk_frozen HK2.out 3; have d0 : w2.cell? ⟨w.heap.size + 1, 0, none⟩ = some (.int .u8 0) := (blk_cell HK2.out 0).trans rfl; have d1 : w2.cell? ⟨w.heap.size + 1, 1, none⟩ = some (.slice none 0 0) := (blk_cell HK2.out 1).trans rfl; have d2 : w2.cell? ⟨w.heap.size + 1, 2, none⟩ = some (.bool false) := (blk_cell HK2.out 2).trans rfl; have d3 : w2.cell? ⟨w.heap.size + 1, 3, none⟩ = some (.bool false) := (blk_cell HK2.out 3).trans rfl; unfold standV))
 have hS := am (show RetS (tellE ids rc rn jb l) (talkL ids rc rn jb l) w.heap.size w (standV (talkL ids rc rn jb l).turn (.slice A2 n2 c2) (talkL ids rc rn jb l).force (talkL ids rc rn jb l).lost) w2 from ⟨A2, n2, c2, by rw [okN_ok _ HE.out, okB_ok _ HE.out, okB_ok _ HE.out], by rw [okL_ok _ HE.out]; exact Kd.R_lower HR.out (by omega), HB2.out⟩)
 have HK3 := am (store4 HK2.out (.int .u8 (talkL ids rc rn jb l).turn) (.slice A2 n2 c2) (.bool (talkL ids rc rn jb l).force) (.bool (talkL ids rc rn jb l).lost))
 have r := store4 HK3.out (.int .u8 ((talkL ids rc rn jb l).turn)) (.slice A2 n2 c2) (.bool ((talkL ids rc rn jb l).force)) (.bool ((talkL ids rc rn jb l).lost))
 have cz0 := (blk_cell r 0).trans rfl
 have cz1 := (blk_cell r 1).trans rfl
 have cz2 := (blk_cell r 2).trans rfl
 have cz3 := (blk_cell r 3).trans rfl
 refine bodyPost_ret (v := .tuple #[standV ((talkL ids rc rn jb l).turn) (.slice A2 n2 c2) ((talkL ids rc rn jb l).force) ((talkL ids rc rn jb l).lost), .int .i64 (0)]) ?_ rfl ?_
 ·simp [results, Tryz.results58, go_sem, cz0, cz1, cz2, cz3, standV]
 exact Ret2.mk _ (by rw [HE.out]) (RetS.put HK3.out (by omega) (RetS.put HK2.out (by omega) hS.out _ _ _ _) _ _ _ _)
set_option maxHeartbeats 2000000 in
theorem pStand_any (A : Option Addr) (c : Nat) (ids : List S68) (rc : Bool) (rn : Int) (jb : Bool) (A1 : Option Addr) (c1 : Nat) (l : List Mv) (w : World) (hr : Kd.C k68 w A ids.length ids) (hr1 : Kd.C k52 w A1 l.length l) (hl : l.length ≤ 1000000) : Calls Tryz.prog 19 #[.agg #[.slice A ids.length c, .bool rc, .int .i64 rn, .bool jb], .slice A1 l.length c1] w (Ret2 (tellE ids rc rn jb l) (RetS (tellE ids rc rn jb l) (talkL ids rc rn jb l) w.heap.size w)) := by
 have HB := am (((Below.refl _ w).alloc (Nat.le_refl _) (.cells #[.slice A ids.length c, .bool rc, .int .i64 rn, .bool jb] 26)).alloc (by simp) (.cells #[.int .u8 0, .slice none 0 0, .bool false, .bool false] 38))
 have HK := am (two w (.cells #[.slice A ids.length c, .bool rc, .int .i64 rn, .bool jb] 26) (.cells #[.int .u8 0, .slice none 0 0, .bool false, .bool false] 38)).2
 have HO := am (fun (V : World) (hb : Below w.heap.size w V) => toldS_any A c ids rc rn jb A1 c1 l V (Kd.C_below hr hb) (Kd.C_below hr1 hb) hl)
 clear hr hr1
 go_enter Tryz.func19, Tryz.ntmps19
 go_wp2_with (go_at_call 58; refine (HO.out _ HB.out).mono ?_; rintro e w1 ⟨r, rfl, A2, n2, c2, rfl, hR, hb1⟩; have HR := am hR; have hs1 : w.heap.size + 2 ≤ w1.heap.size := (by have := hb1.size; simp at this; omega); have HB1 := am (HB.out.trans (hb1.mono (by simp; omega))); have HK1 := am ((hb1.block _ (by simp)).trans HK.out); have f0 := blk_frozen HK1.out 0; have f1 := blk_frozen HK1.out 1; have f2 := blk_frozen HK1.out 2; have f3 := blk_frozen HK1.out 3; have d0 : w1.cell? ⟨w.heap.size + 1, 0, none⟩ = some (.int .u8 0) := (blk_cell HK1.out 0).trans rfl; have d1 : w1.cell? ⟨w.heap.size + 1, 1, none⟩ = some (.slice none 0 0) := (blk_cell HK1.out 1).trans rfl; have d2 : w1.cell? ⟨w.heap.size + 1, 2, none⟩ = some (.bool false) := (blk_cell HK1.out 2).trans rfl; have d3 : w1.cell? ⟨w.heap.size + 1, 3, none⟩ = some (.bool false) := (blk_cell HK1.out 3).trans rfl; unfold standV)
 have r := store4 HK1.out (.int .u8 (okN (tellE ids rc rn jb l) (talkL ids rc rn jb l).turn)) (.slice A2 n2 c2) (.bool (okB (tellE ids rc rn jb l) (talkL ids rc rn jb l).force)) (.bool (okB (tellE ids rc rn jb l) (talkL ids rc rn jb l).lost))
 have cz0 := (blk_cell r 0).trans rfl
 have cz1 := (blk_cell r 1).trans rfl
 have cz2 := (blk_cell r 2).trans rfl
 have cz3 := (blk_cell r 3).trans rfl
 refine bodyPost_ret (v := .tuple #[standV (okN (tellE ids rc rn jb l) (talkL ids rc rn jb l).turn) (.slice A2 n2 c2) (okB (tellE ids rc rn jb l) (talkL ids rc rn jb l).force) (okB (tellE ids rc rn jb l) (talkL ids rc rn jb l).lost), .int .i64 (tellE ids rc rn jb l)]) ?_ rfl ?_
 ·simp [results, Tryz.results19, go_sem, cz0, cz1, cz2, cz3, standV]
 exact Ret2.mk _ rfl (RetS.put HK1.out (by omega) ⟨A2, n2, c2, rfl, Kd.R_lower HR.out (by simp; omega), HB1.out⟩ _ _ _ _)
end Go.Proofs.YtjgocihflhljeaaGreat.P
namespace Go.Proofs.YtjgocihflhljeaaGreat.P
open Go Go.RowKit Go.Shelf Go.Proofs.YtjgocihflhljeaaGreatW.PrintWords Go.Proofs.YtjgocihflhljeaaGreatW.PrintLast Go.Proofs.YtjgocihflhljeaaGreatW.PrintMore
attribute [local go_sem] Oper.semAt_some
def digS (d : Int) : ByteArray := Utf8.encode (48 + d)
def riposteref04_Decimal.f : Nat → Int → Option ByteArray
 | 0, _ => none
 | k + 1, n => if 0 ≤ n then (if n < 4611686018427387904 then (if n / 10 = 0 then some (digS (n % 10)) else (riposteref04_Decimal.f k (n / 10)).bind fun s => if s.size < 1000 then (if (digS (n % 10)).size < 1000 then some (s ++ digS (n % 10)) else none) else none) else none) else none
set_option maxHeartbeats 2000000 in
theorem riposteref04_Decimal.calls (k : Nat) (a0 : Int) (r : ByteArray) (w : World) (h : riposteref04_Decimal.f k a0 = some r) :
  Calls Tryz.prog 152 #[.int .i64 a0] w fun e w' => e = .returned (.string r) ∧ Drawn0 w w' := by
 induction k generalizing a0 r w with
 | zero => cases h
 | succ k ih =>
  rw [riposteref04_Decimal.f] at h
  by_cases h0 : 0 ≤ a0
  case neg => rw [if_neg h0] at h; cases h
  rw [if_pos h0] at h
  by_cases h1 : a0 < 4611686018427387904
  case neg => rw [if_neg h1] at h; cases h
  rw [if_pos h1] at h
  have e1 : IntKind.i64.wrap (a0.tdiv 10) = a0 / 10 := IntWalk.i64_quo a0 10 ⟨h0, by omega, by decide⟩
  have e2 : a0.tmod 10 = a0 % 10 := IntWalk.rem_in a0 10 h0
  have hm0 : 0 ≤ a0 % 10 := Int.emod_nonneg _ (by decide)
  have hm1 : a0 % 10 < 10 := Int.emod_lt_of_pos _ (by decide)
  have hneg : decide (a0 % 10 < 0) = false := decide_eq_false (by omega)
  have e3 : IntKind.i64.wrap (48 + a0 % 10) = 48 + a0 % 10 := IntWalk.i64_in _ (by omega)
  have e4 : IntKind.i32.wrap (48 + a0 % 10) = 48 + a0 % 10 := IntWalk.i32_in _ (by omega)
  have hD : Utf8.encode (48 + a0 % 10) = digS (a0 % 10) := rfl
  have hlt : decide (a0 < 0) = false := decide_eq_false (by omega)
  by_cases h2 : a0 / 10 = 0
  ·rw [if_pos h2] at h
   cases h
   have hne : (a0 / 10 != 0) = false := by simp [h2]
   clear ih
   go_enter Tryz.func152, Tryz.ntmps152
   go_wp2
   go_ret
   exact ⟨rfl, Drawn0.refl _⟩
  rw [if_neg h2] at h
  have hne : (a0 / 10 != 0) = true := by simp [h2]
  cases hf : riposteref04_Decimal.f k (a0 / 10) with
  | none => rw [hf] at h; cases h
  | some s =>
   rw [hf, Option.bind_some] at h
   by_cases h3 : s.size < 1000
   case neg => rw [if_neg h3] at h; cases h
   rw [if_pos h3] at h
   by_cases h4 : (digS (a0 % 10)).size < 1000
   case neg => rw [if_neg h4] at h; cases h
   rw [if_pos h4] at h
   cases h
   have HC := am (fun V => ih (a0 / 10) s V hf)
   have hsz : ¬ (s.size + (digS (a0 % 10)).size > 9223372036854775807) := by omega
   clear ih hf
   go_enter Tryz.func152, Tryz.ntmps152
   go_wp2_with (go_at_call 152; refine (HC.out _).mono ?_; rintro e w1 ⟨rfl, hd1⟩)
   go_ret
   exact ⟨rfl, hd1⟩
end Go.Proofs.YtjgocihflhljeaaGreat.P
namespace Go.Proofs.YtjgocihflhljeaaGreat.P
open Go.RowKit Go.Proofs.YtjgocihflhljeaaGreatW.PrintWords Go.Proofs.YtjgocihflhljeaaGreatW.PrintLast Go.Proofs.YtjgocihflhljeaaGreatW.PrintMore
attribute [local go_sem] max2_int max_two
def riposteref04_Words.j0 : Nat → ByteArray → Int → Int → Int → Int → Option (ByteArray)
 | 0, _, _, _, _, _ => none
 | k + 1, x3, x102000, x102001, x102002, x102003 => if x102002 = 1 then (if x3.size + 1 ≤ 9223372036854775807 then (some (x3 ++ (⟨#[63]⟩ : ByteArray))) else (none)) else (if x102002 = 2 then (if x3.size + 1 ≤ 9223372036854775807 then ((riposteref04_Decimal.f k x102003).bind fun t104 => (if (x3 ++ (⟨#[61]⟩ : ByteArray)).size + t104.size ≤ 9223372036854775807 then (some ((x3 ++ (⟨#[61]⟩ : ByteArray)) ++ t104)) else (none))) else (none)) else (if x102003 = (-1) then (if x3.size + 2 ≤ 9223372036854775807 then (some (x3 ++ (⟨#[33, 42]⟩ : ByteArray))) else (none)) else (if x3.size + 1 ≤ 9223372036854775807 then ((riposteref04_Decimal.f k x102003).bind fun t105 => (if (x3 ++ (⟨#[33]⟩ : ByteArray)).size + t105.size ≤ 9223372036854775807 then (some ((x3 ++ (⟨#[33]⟩ : ByteArray)) ++ t105)) else (none))) else (none))))
def riposteref04_Words.f (k : Nat) (a0_0 : Int) (a0_1 : Int) (a0_2 : Int) (a0_3 : Int) : Option (ByteArray) := (riposteref04_Decimal.f k a0_0).bind fun t102 => (if a0_1 > 0 then ((riposteref04_Decimal.f k a0_1).bind fun t103 => (if 1 + t103.size ≤ 9223372036854775807 then (if t102.size + ((⟨#[46]⟩ : ByteArray) ++ t103).size ≤ 9223372036854775807 then (riposteref04_Words.j0 k (t102 ++ ((⟨#[46]⟩ : ByteArray) ++ t103)) a0_0 a0_1 a0_2 a0_3) else (none)) else (none))) else (riposteref04_Words.j0 k t102 a0_0 a0_1 a0_2 a0_3))
set_option maxHeartbeats 8000000 in
set_option maxRecDepth 100000 in
theorem riposteref04_Words.calls (k : Nat) (a0_0 : Int) (a0_1 : Int) (a0_2 : Int) (a0_3 : Int) (r : ByteArray) (w : World) (h : riposteref04_Words.f k a0_0 a0_1 a0_2 a0_3 = some r) :
  Calls Tryz.prog 145 #[.agg #[.int .i64 a0_0, .int .i64 a0_1, .int .u8 a0_2, .int .i64 a0_3]] w fun e w' => e = .returned (.string r) ∧ Below w.heap.size w w' := by
 have hu52 := Tryz.underlying52
 have HB := am (Below.refl w.heap.size w)
 have H : ((riposteref04_Decimal.f k a0_0).bind fun t102 => (if a0_1 > 0 then ((riposteref04_Decimal.f k a0_1).bind fun t103 => (if 1 + t103.size ≤ 9223372036854775807 then (if t102.size + ((⟨#[46]⟩ : ByteArray) ++ t103).size ≤ 9223372036854775807 then (riposteref04_Words.j0 k (t102 ++ ((⟨#[46]⟩ : ByteArray) ++ t103)) a0_0 a0_1 a0_2 a0_3) else (none)) else (none))) else (riposteref04_Words.j0 k t102 a0_0 a0_1 a0_2 a0_3))) = some r := h
 clear h
 replace H := Option.bind_eq_some_iff.mp H
 obtain ⟨t102, A20, H⟩ := H
 replace H : (if a0_1 > 0 then ((riposteref04_Decimal.f k a0_1).bind fun t103 => (if 1 + t103.size ≤ 9223372036854775807 then (if t102.size + ((⟨#[46]⟩ : ByteArray) ++ t103).size ≤ 9223372036854775807 then (riposteref04_Words.j0 k (t102 ++ ((⟨#[46]⟩ : ByteArray) ++ t103)) a0_0 a0_1 a0_2 a0_3) else (none)) else (none))) else (riposteref04_Words.j0 k t102 a0_0 a0_1 a0_2 a0_3)) = some r := H
 have A2 := am A20
 clear A20
 have HC3 := am H
 clear H
 go_enter Tryz.func145, Tryz.ntmps145
 go_upto_if 9 with (first | ((with_reducible refine gate_dst (N := 1) rfl ?_); refine box_event ?hg (N := 1) ?hd (cs := #[.int .i64 a0_0, .int .i64 a0_1, .int .u8 a0_2, .int .i64 a0_3]) (t := 52) ?hr ?_; (case hd => rfl); (case hg => rfl); (case hr => go_simp); intro gb101 hg w4 hbox hb; have n0_ := am (below_step HB.out hb); have n1_ := am (hbox); have n2_ := am ((by rw [hg]; exact (below_size HB.out) : w.heap.size ≤ gb101)); have n3_ := am ((by rw [hg]; exact (below_size HB.out) : w.heap.size ≤ gb101)); clear HB; have HB := n0_; have BK101 := n1_; have GW101 := n2_; have GE101 := n3_; clear n0_ n1_ n2_ n3_; clear hb hbox hg; have hcz5_0 : w4.cell? ⟨gb101, 0, none⟩ = some (.int .i64 a0_0) := (blk_cell BK101.out 0).trans rfl; have hcz5_1 : w4.cell? ⟨gb101, 1, none⟩ = some (.int .i64 a0_1) := (blk_cell BK101.out 1).trans rfl; have hcz5_2 : w4.cell? ⟨gb101, 2, none⟩ = some (.int .u8 a0_2) := (blk_cell BK101.out 2).trans rfl; have hcz5_3 : w4.cell? ⟨gb101, 3, none⟩ = some (.int .i64 a0_3) := (blk_cell BK101.out 3).trans rfl; have hfz5_0 := blk_frozen BK101.out 0; have hfz5_1 := blk_frozen BK101.out 1; have hfz5_2 := blk_frozen BK101.out 2; have hfz5_3 := blk_frozen BK101.out 3) | ((with_reducible refine gate_callee (f := 152) rfl ?_); refine goesL_ (some 6) rfl rfl Tryz.func152 (by kernel_rfl) rfl #[.int .i64 a0_0] rfl (by (try simp only [List.map_toArray, List.map_cons, List.map_nil]); first | rfl) ?_; (with_reducible refine (riposteref04_Decimal.calls k a0_0 t102 _ A2.out).mono ?_); rintro e w' ⟨rfl, ⟨nd, rfl⟩⟩; refine ⟨_, rfl, ?_⟩))
 (try simp only [Act.put, sn1, sn2, sn3])
 go_cut [3] (fun v3 wc => ∃ (kq : Nat) (x3_2 : ByteArray), v3 = .string x3_2 ∧ Aside0 (riposteref04_Words.j0 kq x3_2 a0_0 a0_1 a0_2 a0_3 = some r) ∧ Aside0 (kq ≤ k) ∧ Aside0 (wc.heap[gb101]? = some (.cells #[.int .i64 a0_0, .int .i64 a0_1, .int .u8 a0_2, .int .i64 a0_3] 52 (0, 0))) ∧ Aside0 (Below w.heap.size w wc))
 case first =>
  have H := HC3.out
  clear HC3
  by_cases c6 : a0_1 > 0
  ·rw [if_pos c6] at H
   have c6b0 : decide (0 < a0_1) = true := decide_eq_true c6
   clear c6
   (first | rw [c6b0])
   replace H := Option.bind_eq_some_iff.mp H
   obtain ⟨t103, A70, H⟩ := H
   replace H : (if 1 + t103.size ≤ 9223372036854775807 then (if t102.size + ((⟨#[46]⟩ : ByteArray) ++ t103).size ≤ 9223372036854775807 then (riposteref04_Words.j0 k (t102 ++ ((⟨#[46]⟩ : ByteArray) ++ t103)) a0_0 a0_1 a0_2 a0_3) else (none)) else (none)) = some r := H
   have A7 := am A70
   clear A70
   by_cases c8 : 1 + t103.size ≤ 9223372036854775807
   ·rw [if_pos c8] at H
    have c8b0 := eq_true c8
    have c8b1 : decide (1 + t103.size ≤ 9223372036854775807) = true := decide_eq_true c8
    try have c8b2 : (9223372036854775807 < 1 + t103.size) = False := eq_false (Nat.not_lt.2 c8)
    by_cases c9 : t102.size + ((⟨#[46]⟩ : ByteArray) ++ t103).size ≤ 9223372036854775807
    ·rw [if_pos c9] at H
     have c9b0 := eq_true c9
     have c9b1 : decide (t102.size + ((⟨#[46]⟩ : ByteArray) ++ t103).size ≤ 9223372036854775807) = true := decide_eq_true c9
     try have c9b2 : (9223372036854775807 < t102.size + ((⟨#[46]⟩ : ByteArray) ++ t103).size) = False := eq_false (Nat.not_lt.2 c9)
     have H' := am H
     clear H
     have hcz10_0 : w4.cell? ⟨gb101, 0, none⟩ = some (.int .i64 a0_0) := (blk_cell BK101.out 0).trans rfl
     have hcz10_1 : w4.cell? ⟨gb101, 1, none⟩ = some (.int .i64 a0_1) := (blk_cell BK101.out 1).trans rfl
     have hcz10_2 : w4.cell? ⟨gb101, 2, none⟩ = some (.int .u8 a0_2) := (blk_cell BK101.out 2).trans rfl
     have hcz10_3 : w4.cell? ⟨gb101, 3, none⟩ = some (.int .i64 a0_3) := (blk_cell BK101.out 3).trans rfl
     have hfz10_0 := blk_frozen BK101.out 0
     have hfz10_1 := blk_frozen BK101.out 1
     have hfz10_2 := blk_frozen BK101.out 2
     have hfz10_3 := blk_frozen BK101.out 3
     go_wp2_with (first | ((with_reducible refine gate_callee (f := 152) rfl ?_); refine goesL_ (some 13) rfl rfl Tryz.func152 (by kernel_rfl) rfl #[.int .i64 a0_1] rfl (by (try simp only [List.map_toArray, List.map_cons, List.map_nil]); first | rfl) ?_; (with_reducible refine (riposteref04_Decimal.calls k a0_1 t103 _ A7.out).mono ?_); rintro e w' ⟨rfl, ⟨nd, rfl⟩⟩; refine ⟨_, rfl, ?_⟩))
     go_meet
     case rel => exact ⟨_, (t102 ++ ((⟨#[46]⟩ : ByteArray) ++ t103)), (by first | rfl), H', ⟨by first | omega⟩, ⟨by (with_reducible repeat (first | refine blk_drewN ?_ _)); exact BK101.out⟩, ⟨by repeat (first | (with_reducible first | exact HB.out | apply pw_below_drewN))⟩⟩
    rw [if_neg c9] at H
    exact absurd H (by simp)
   rw [if_neg c8] at H
   exact absurd H (by simp)
  rw [if_neg c6] at H
  have c6b0 : decide (0 < a0_1) = false := decide_eq_false c6
  clear c6
  (first | rw [c6b0])
  have H' := am H
  clear H
  go_wp2
  go_meet
  case rel => exact ⟨_, (t102), (by first | rfl), H', ⟨by first | omega⟩, ⟨by (with_reducible repeat (first | refine blk_drewN ?_ _)); exact BK101.out⟩, ⟨by repeat (first | (with_reducible first | exact HB.out | apply pw_below_drewN))⟩⟩
 case rest =>
  clear HC3
  try clear c1
  try clear p2
  try clear c6
  try clear c6b0
  try clear c8
  try clear c8b0
  try clear c8b1
  try clear c8b2
  try clear c9
  try clear c9b0
  try clear c9b1
  try clear c9b2
  try clear hcz10_0
  try clear hcz10_1
  try clear hcz10_2
  try clear hcz10_3
  try clear hcz5_0
  try clear hcz5_1
  try clear hcz5_2
  try clear hcz5_3
  try clear hfz10_0
  try clear hfz10_1
  try clear hfz10_2
  try clear hfz10_3
  try clear hfz5_0
  try clear hfz5_1
  try clear hfz5_2
  try clear hfz5_3
  obtain ⟨kq, x3_2, rfl, HA, HJ2, BK101, HB⟩ := hcut
  cases kq with
  | zero => exact absurd HA.out (by simp [riposteref04_Words.j0])
  | succ kj2 =>
   have H := HA.out
   clear HA
   simp only [riposteref04_Words.j0] at H
   by_cases c11 : a0_2 = 1
   ·rw [if_pos c11] at H
    have c11b0 : (a0_2 == 1) = true := beq_iff_eq.mpr c11
    have c11b1 : (a0_2 != 1) = false := bne_eq_false_iff_eq.mpr c11
    clear c11
    by_cases c12 : x3_2.size + 1 ≤ 9223372036854775807
    ·rw [if_pos c12] at H
     have c12b0 := eq_true c12
     have c12b1 : decide (x3_2.size + 1 ≤ 9223372036854775807) = true := decide_eq_true c12
     try have c12b2 : (9223372036854775807 < x3_2.size + 1) = False := eq_false (Nat.not_lt.2 c12)
     obtain rfl := Option.some.inj H
     have hcz13_0 : wc.cell? ⟨gb101, 0, none⟩ = some (.int .i64 a0_0) := (blk_cell BK101.out 0).trans rfl
     have hcz13_1 : wc.cell? ⟨gb101, 1, none⟩ = some (.int .i64 a0_1) := (blk_cell BK101.out 1).trans rfl
     have hcz13_2 : wc.cell? ⟨gb101, 2, none⟩ = some (.int .u8 a0_2) := (blk_cell BK101.out 2).trans rfl
     have hcz13_3 : wc.cell? ⟨gb101, 3, none⟩ = some (.int .i64 a0_3) := (blk_cell BK101.out 3).trans rfl
     have hfz13_0 := blk_frozen BK101.out 0
     have hfz13_1 := blk_frozen BK101.out 1
     have hfz13_2 := blk_frozen BK101.out 2
     have hfz13_3 := blk_frozen BK101.out 3
     go_wp2
     go_ret
     exact ⟨by first | rfl, by exact HB.out⟩
    rw [if_neg c12] at H
    exact absurd H (by simp)
   rw [if_neg c11] at H
   have c11b0 : (a0_2 == 1) = false := beq_eq_false_iff_ne.mpr c11
   have c11b1 : (a0_2 != 1) = true := bne_iff_ne.mpr c11
   by_cases c14 : a0_2 = 2
   ·rw [if_pos c14] at H
    have c14b0 : (a0_2 == 2) = true := beq_iff_eq.mpr c14
    have c14b1 : (a0_2 != 2) = false := bne_eq_false_iff_eq.mpr c14
    clear c14
    by_cases c15 : x3_2.size + 1 ≤ 9223372036854775807
    ·rw [if_pos c15] at H
     have c15b0 := eq_true c15
     have c15b1 : decide (x3_2.size + 1 ≤ 9223372036854775807) = true := decide_eq_true c15
     try have c15b2 : (9223372036854775807 < x3_2.size + 1) = False := eq_false (Nat.not_lt.2 c15)
     replace H := Option.bind_eq_some_iff.mp H
     obtain ⟨t104, A160, H⟩ := H
     replace H : (if (x3_2 ++ (⟨#[61]⟩ : ByteArray)).size + t104.size ≤ 9223372036854775807 then (some ((x3_2 ++ (⟨#[61]⟩ : ByteArray)) ++ t104)) else (none)) = some r := H
     have A16 := am A160
     clear A160
     by_cases c17 : (x3_2 ++ (⟨#[61]⟩ : ByteArray)).size + t104.size ≤ 9223372036854775807
     ·rw [if_pos c17] at H
      have c17b0 := eq_true c17
      have c17b1 : decide ((x3_2 ++ (⟨#[61]⟩ : ByteArray)).size + t104.size ≤ 9223372036854775807) = true := decide_eq_true c17
      try have c17b2 : (9223372036854775807 < (x3_2 ++ (⟨#[61]⟩ : ByteArray)).size + t104.size) = False := eq_false (Nat.not_lt.2 c17)
      have c17b3 : (9223372036854775807 < x3_2.size + 1 + t104.size) = False := eq_false (Nat.not_lt.2 (by have := c17; rw [ByteArray.size_append] at this; exact this))
      obtain rfl := Option.some.inj H
      have hcz18_0 : wc.cell? ⟨gb101, 0, none⟩ = some (.int .i64 a0_0) := (blk_cell BK101.out 0).trans rfl
      have hcz18_1 : wc.cell? ⟨gb101, 1, none⟩ = some (.int .i64 a0_1) := (blk_cell BK101.out 1).trans rfl
      have hcz18_2 : wc.cell? ⟨gb101, 2, none⟩ = some (.int .u8 a0_2) := (blk_cell BK101.out 2).trans rfl
      have hcz18_3 : wc.cell? ⟨gb101, 3, none⟩ = some (.int .i64 a0_3) := (blk_cell BK101.out 3).trans rfl
      have hfz18_0 := blk_frozen BK101.out 0
      have hfz18_1 := blk_frozen BK101.out 1
      have hfz18_2 := blk_frozen BK101.out 2
      have hfz18_3 := blk_frozen BK101.out 3
      go_wp2_with (first | ((with_reducible refine gate_callee (f := 152) rfl ?_); refine goesL_ (some 30) rfl rfl Tryz.func152 (by kernel_rfl) rfl #[.int .i64 a0_3] rfl (by (try simp only [List.map_toArray, List.map_cons, List.map_nil]); first | rfl) ?_; (with_reducible refine (riposteref04_Decimal.calls kj2 a0_3 t104 _ A16.out).mono ?_); rintro e w' ⟨rfl, ⟨nd, rfl⟩⟩; refine ⟨_, rfl, ?_⟩))
      go_ret
      exact ⟨by first | rfl, by repeat (first | (with_reducible first | exact HB.out | apply pw_below_drewN))⟩
     rw [if_neg c17] at H
     exact absurd H (by simp)
    rw [if_neg c15] at H
    exact absurd H (by simp)
   rw [if_neg c14] at H
   have c14b0 : (a0_2 == 2) = false := beq_eq_false_iff_ne.mpr c14
   have c14b1 : (a0_2 != 2) = true := bne_iff_ne.mpr c14
   by_cases c19 : a0_3 = (-1)
   ·rw [if_pos c19] at H
    have c19b0 : (a0_3 == (-1)) = true := beq_iff_eq.mpr c19
    have c19b1 : (a0_3 != (-1)) = false := bne_eq_false_iff_eq.mpr c19
    clear c19
    by_cases c20 : x3_2.size + 2 ≤ 9223372036854775807
    ·rw [if_pos c20] at H
     have c20b0 := eq_true c20
     have c20b1 : decide (x3_2.size + 2 ≤ 9223372036854775807) = true := decide_eq_true c20
     try have c20b2 : (9223372036854775807 < x3_2.size + 2) = False := eq_false (Nat.not_lt.2 c20)
     obtain rfl := Option.some.inj H
     have hcz21_0 : wc.cell? ⟨gb101, 0, none⟩ = some (.int .i64 a0_0) := (blk_cell BK101.out 0).trans rfl
     have hcz21_1 : wc.cell? ⟨gb101, 1, none⟩ = some (.int .i64 a0_1) := (blk_cell BK101.out 1).trans rfl
     have hcz21_2 : wc.cell? ⟨gb101, 2, none⟩ = some (.int .u8 a0_2) := (blk_cell BK101.out 2).trans rfl
     have hcz21_3 : wc.cell? ⟨gb101, 3, none⟩ = some (.int .i64 a0_3) := (blk_cell BK101.out 3).trans rfl
     have hfz21_0 := blk_frozen BK101.out 0
     have hfz21_1 := blk_frozen BK101.out 1
     have hfz21_2 := blk_frozen BK101.out 2
     have hfz21_3 := blk_frozen BK101.out 3
     go_wp2
     go_ret
     exact ⟨by first | rfl, by exact HB.out⟩
    rw [if_neg c20] at H
    exact absurd H (by simp)
   rw [if_neg c19] at H
   have c19b0 : (a0_3 == (-1)) = false := beq_eq_false_iff_ne.mpr c19
   have c19b1 : (a0_3 != (-1)) = true := bne_iff_ne.mpr c19
   by_cases c22 : x3_2.size + 1 ≤ 9223372036854775807
   ·rw [if_pos c22] at H
    have c22b0 := eq_true c22
    have c22b1 : decide (x3_2.size + 1 ≤ 9223372036854775807) = true := decide_eq_true c22
    try have c22b2 : (9223372036854775807 < x3_2.size + 1) = False := eq_false (Nat.not_lt.2 c22)
    replace H := Option.bind_eq_some_iff.mp H
    obtain ⟨t105, A230, H⟩ := H
    replace H : (if (x3_2 ++ (⟨#[33]⟩ : ByteArray)).size + t105.size ≤ 9223372036854775807 then (some ((x3_2 ++ (⟨#[33]⟩ : ByteArray)) ++ t105)) else (none)) = some r := H
    have A23 := am A230
    clear A230
    by_cases c24 : (x3_2 ++ (⟨#[33]⟩ : ByteArray)).size + t105.size ≤ 9223372036854775807
    ·rw [if_pos c24] at H
     have c24b0 := eq_true c24
     have c24b1 : decide ((x3_2 ++ (⟨#[33]⟩ : ByteArray)).size + t105.size ≤ 9223372036854775807) = true := decide_eq_true c24
     try have c24b2 : (9223372036854775807 < (x3_2 ++ (⟨#[33]⟩ : ByteArray)).size + t105.size) = False := eq_false (Nat.not_lt.2 c24)
     have c24b3 : (9223372036854775807 < x3_2.size + 1 + t105.size) = False := eq_false (Nat.not_lt.2 (by have := c24; rw [ByteArray.size_append] at this; exact this))
     obtain rfl := Option.some.inj H
     have hcz25_0 : wc.cell? ⟨gb101, 0, none⟩ = some (.int .i64 a0_0) := (blk_cell BK101.out 0).trans rfl
     have hcz25_1 : wc.cell? ⟨gb101, 1, none⟩ = some (.int .i64 a0_1) := (blk_cell BK101.out 1).trans rfl
     have hcz25_2 : wc.cell? ⟨gb101, 2, none⟩ = some (.int .u8 a0_2) := (blk_cell BK101.out 2).trans rfl
     have hcz25_3 : wc.cell? ⟨gb101, 3, none⟩ = some (.int .i64 a0_3) := (blk_cell BK101.out 3).trans rfl
     have hfz25_0 := blk_frozen BK101.out 0
     have hfz25_1 := blk_frozen BK101.out 1
     have hfz25_2 := blk_frozen BK101.out 2
     have hfz25_3 := blk_frozen BK101.out 3
     go_wp2_with (first | ((with_reducible refine gate_callee (f := 152) rfl ?_); refine goesL_ (some 42) rfl rfl Tryz.func152 (by kernel_rfl) rfl #[.int .i64 a0_3] rfl (by (try simp only [List.map_toArray, List.map_cons, List.map_nil]); first | rfl) ?_; (with_reducible refine (riposteref04_Decimal.calls kj2 a0_3 t105 _ A23.out).mono ?_); rintro e w' ⟨rfl, ⟨nd, rfl⟩⟩; refine ⟨_, rfl, ?_⟩))
     go_ret
     exact ⟨by first | rfl, by repeat (first | (with_reducible first | exact HB.out | apply pw_below_drewN))⟩
    rw [if_neg c24] at H
    exact absurd H (by simp)
   rw [if_neg c22] at H
   exact absurd H (by simp)
def riposteref04_Text.j0 : Nat → Bool → Int → Int → Int → Int → Option (ByteArray × Int)
 | 0, _, _, _, _, _ => none
 | k + 1, x4, x107000, x107001, x107002, x107003 => if x107002 = 1 then (if x4 = true then (if x107003 = 0 then ((riposteref04_Words.f k x107000 x107001 x107002 x107003).bind fun t107 => (some (t107, 0))) else (some ((⟨#[]⟩ : ByteArray), 4))) else (some ((⟨#[]⟩ : ByteArray), 4))) else (if x107002 = 2 then (if x4 = true then (if x107003 ≥ 0 then ((riposteref04_Words.f k x107000 x107001 x107002 x107003).bind fun t108 => (some (t108, 0))) else (some ((⟨#[]⟩ : ByteArray), 4))) else (some ((⟨#[]⟩ : ByteArray), 4))) else (if x107002 = 3 then (if x4 = true then (if (x107003 ≥ (-1)) then ((riposteref04_Words.f k x107000 x107001 x107002 x107003).bind fun t109 => (some (t109, 0))) else (some ((⟨#[]⟩ : ByteArray), 4))) else (some ((⟨#[]⟩ : ByteArray), 4))) else (some ((⟨#[]⟩ : ByteArray), 4))))
def riposteref04_Text.f (k : Nat) (a0_0 : Int) (a0_1 : Int) (a0_2 : Int) (a0_3 : Int) : Option (ByteArray × Int) := if a0_0 ≥ 0 then (riposteref04_Text.j0 k (decide (a0_1 ≥ 0)) a0_0 a0_1 a0_2 a0_3) else (riposteref04_Text.j0 k false a0_0 a0_1 a0_2 a0_3)
set_option maxHeartbeats 8000000 in
set_option maxRecDepth 100000 in
theorem riposteref04_Text.calls (k : Nat) (a0_0 : Int) (a0_1 : Int) (a0_2 : Int) (a0_3 : Int) (r1 : ByteArray) (r2 : Int) (w : World) (h : riposteref04_Text.f k a0_0 a0_1 a0_2 a0_3 = some (r1, r2)) :
  Calls Tryz.prog 136 #[.agg #[.int .i64 a0_0, .int .i64 a0_1, .int .u8 a0_2, .int .i64 a0_3]] w fun e w' => e = .returned (.tuple #[.string r1, .int .i64 r2]) ∧ Below w.heap.size w w' := by
 have hu52 := Tryz.underlying52
 have HB := am (Below.refl w.heap.size w)
 have H : (if a0_0 ≥ 0 then (riposteref04_Text.j0 k (decide (a0_1 ≥ 0)) a0_0 a0_1 a0_2 a0_3) else (riposteref04_Text.j0 k false a0_0 a0_1 a0_2 a0_3)) = some (r1, r2) := h
 clear h
 have HC2 := am H
 clear H
 go_enter Tryz.func136, Tryz.ntmps136
 go_upto_region 1 with (first | ((with_reducible refine gate_dst (N := 1) rfl ?_); refine box_event ?hg (N := 1) ?hd (cs := #[.int .i64 a0_0, .int .i64 a0_1, .int .u8 a0_2, .int .i64 a0_3]) (t := 52) ?hr ?_; (case hd => rfl); (case hg => rfl); (case hr => go_simp); intro gb106 hg w3 hbox hb; have n0_ := am (below_step HB.out hb); have n1_ := am (hbox); have n2_ := am ((by rw [hg]; exact (below_size HB.out) : w.heap.size ≤ gb106)); have n3_ := am ((by rw [hg]; exact (below_size HB.out) : w.heap.size ≤ gb106)); clear HB; have HB := n0_; have BK106 := n1_; have GW106 := n2_; have GE106 := n3_; clear n0_ n1_ n2_ n3_; clear hb hbox hg))
 (try simp only [Act.put, sn1, sn2, sn3])
 go_cut [4] (fun v4 wc => ∃ (kq : Nat) (x4_1 : Bool), v4 = .bool x4_1 ∧ Aside0 (riposteref04_Text.j0 kq x4_1 a0_0 a0_1 a0_2 a0_3 = some (r1, r2)) ∧ Aside0 (kq ≤ k) ∧ Aside0 (wc.heap[gb106]? = some (.cells #[.int .i64 a0_0, .int .i64 a0_1, .int .u8 a0_2, .int .i64 a0_3] 52 (0, 0))) ∧ Aside0 (Below w.heap.size w wc))
 case first =>
  have H := HC2.out
  clear HC2
  by_cases c4 : a0_0 ≥ 0
  ·rw [if_pos c4] at H
   have c4b0 : decide (0 ≤ a0_0) = true := decide_eq_true c4
   clear c4
   (skip)
   have H' := am H
   clear H
   have hcz5_0 : w3.cell? ⟨gb106, 0, none⟩ = some (.int .i64 a0_0) := (blk_cell BK106.out 0).trans rfl
   have hcz5_1 : w3.cell? ⟨gb106, 1, none⟩ = some (.int .i64 a0_1) := (blk_cell BK106.out 1).trans rfl
   have hcz5_2 : w3.cell? ⟨gb106, 2, none⟩ = some (.int .u8 a0_2) := (blk_cell BK106.out 2).trans rfl
   have hcz5_3 : w3.cell? ⟨gb106, 3, none⟩ = some (.int .i64 a0_3) := (blk_cell BK106.out 3).trans rfl
   have hfz5_0 := blk_frozen BK106.out 0
   have hfz5_1 := blk_frozen BK106.out 1
   have hfz5_2 := blk_frozen BK106.out 2
   have hfz5_3 := blk_frozen BK106.out 3
   go_wp2
   go_meet
   case rel => exact ⟨_, (decide (a0_1 ≥ 0)), (by first | rfl), H', ⟨by first | omega⟩, ⟨by exact BK106.out⟩, ⟨by exact HB.out⟩⟩
  rw [if_neg c4] at H
  have c4b0 : decide (0 ≤ a0_0) = false := decide_eq_false c4
  clear c4
  (skip)
  have H' := am H
  clear H
  have hcz6_0 : w3.cell? ⟨gb106, 0, none⟩ = some (.int .i64 a0_0) := (blk_cell BK106.out 0).trans rfl
  have hcz6_1 : w3.cell? ⟨gb106, 1, none⟩ = some (.int .i64 a0_1) := (blk_cell BK106.out 1).trans rfl
  have hcz6_2 : w3.cell? ⟨gb106, 2, none⟩ = some (.int .u8 a0_2) := (blk_cell BK106.out 2).trans rfl
  have hcz6_3 : w3.cell? ⟨gb106, 3, none⟩ = some (.int .i64 a0_3) := (blk_cell BK106.out 3).trans rfl
  have hfz6_0 := blk_frozen BK106.out 0
  have hfz6_1 := blk_frozen BK106.out 1
  have hfz6_2 := blk_frozen BK106.out 2
  have hfz6_3 := blk_frozen BK106.out 3
  go_wp2
  go_meet
  case rel => exact ⟨_, (false), (by first | rfl), H', ⟨by first | omega⟩, ⟨by exact BK106.out⟩, ⟨by exact HB.out⟩⟩
 case rest =>
  clear HC2
  try clear c1
  try clear p2
  try clear c4
  try clear c4b0
  try clear hcz5_0
  try clear hcz5_1
  try clear hcz5_2
  try clear hcz5_3
  try clear hcz6_0
  try clear hcz6_1
  try clear hcz6_2
  try clear hcz6_3
  try clear hfz5_0
  try clear hfz5_1
  try clear hfz5_2
  try clear hfz5_3
  try clear hfz6_0
  try clear hfz6_1
  try clear hfz6_2
  try clear hfz6_3
  obtain ⟨kq, x4_1, rfl, HA, HJ1, BK106, HB⟩ := hcut
  cases kq with
  | zero => exact absurd HA.out (by simp [riposteref04_Text.j0])
  | succ kj1 =>
   have H := HA.out
   clear HA
   simp only [riposteref04_Text.j0] at H
   by_cases c7 : a0_2 = 1
   ·rw [if_pos c7] at H
    have c7b0 : (a0_2 == 1) = true := beq_iff_eq.mpr c7
    have c7b1 : (a0_2 != 1) = false := bne_eq_false_iff_eq.mpr c7
    clear c7
    by_cases c8 : x4_1 = true
    ·subst c8
     have H1 : (if a0_3 = 0 then ((riposteref04_Words.f kj1 a0_0 a0_1 a0_2 a0_3).bind fun t107 => (some (t107, 0))) else (some ((⟨#[]⟩ : ByteArray), 4))) = some (r1, r2) := by rw [if_pos rfl] at H; exact H
     clear H
     have H := H1
     clear H1
     by_cases c9 : a0_3 = 0
     ·rw [if_pos c9] at H
      have c9b0 : (a0_3 == 0) = true := beq_iff_eq.mpr c9
      have c9b1 : (a0_3 != 0) = false := bne_eq_false_iff_eq.mpr c9
      clear c9
      replace H := Option.bind_eq_some_iff.mp H
      obtain ⟨t107, A100, H⟩ := H
      replace H : (some (t107, 0)) = some (r1, r2) := H
      have A10 := am A100
      clear A100
      simp only [Option.some.injEq, Prod.mk.injEq] at H
      obtain ⟨rfl, rfl⟩ := H
      have hcz11_0 : wc.cell? ⟨gb106, 0, none⟩ = some (.int .i64 a0_0) := (blk_cell BK106.out 0).trans rfl
      have hcz11_1 : wc.cell? ⟨gb106, 1, none⟩ = some (.int .i64 a0_1) := (blk_cell BK106.out 1).trans rfl
      have hcz11_2 : wc.cell? ⟨gb106, 2, none⟩ = some (.int .u8 a0_2) := (blk_cell BK106.out 2).trans rfl
      have hcz11_3 : wc.cell? ⟨gb106, 3, none⟩ = some (.int .i64 a0_3) := (blk_cell BK106.out 3).trans rfl
      have hfz11_0 := blk_frozen BK106.out 0
      have hfz11_1 := blk_frozen BK106.out 1
      have hfz11_2 := blk_frozen BK106.out 2
      have hfz11_3 := blk_frozen BK106.out 3
      go_wp2_with (first | ((with_reducible refine gate_callee (f := 145) rfl ?_); refine goesL_ (some 42) rfl rfl Tryz.func145 (by kernel_rfl) rfl #[.agg #[.int .i64 a0_0, .int .i64 a0_1, .int .u8 a0_2, .int .i64 a0_3]] rfl (by (try simp only [List.map_toArray, List.map_cons, List.map_nil]); first | rfl) ?_; (with_reducible refine (riposteref04_Words.calls kj1 a0_0 a0_1 a0_2 a0_3 t107 _ A10.out).mono ?_); rintro e w12 ⟨rfl, hb⟩; refine ⟨_, rfl, ?_⟩; have n0_ := am (blk_below (g := gb106) (o := .cells #[.int .i64 a0_0, .int .i64 a0_1, .int .u8 a0_2, .int .i64 a0_3] 52 (0, 0)) BK106.out hb); have n1_ := am (below_step HB.out hb); clear BK106; clear HB; have BK106 := n0_; have HB := n1_; clear n0_ n1_; (try clear hb); (try clear hb2); (try clear hk); (try clear hi)))
      go_ret2
      exact ⟨by first | rfl, by exact HB.out⟩
     rw [if_neg c9] at H
     have c9b0 : (a0_3 == 0) = false := beq_eq_false_iff_ne.mpr c9
     have c9b1 : (a0_3 != 0) = true := bne_iff_ne.mpr c9
     simp only [Option.some.injEq, Prod.mk.injEq] at H
     obtain ⟨rfl, rfl⟩ := H
     have hcz13_0 : wc.cell? ⟨gb106, 0, none⟩ = some (.int .i64 a0_0) := (blk_cell BK106.out 0).trans rfl
     have hcz13_1 : wc.cell? ⟨gb106, 1, none⟩ = some (.int .i64 a0_1) := (blk_cell BK106.out 1).trans rfl
     have hcz13_2 : wc.cell? ⟨gb106, 2, none⟩ = some (.int .u8 a0_2) := (blk_cell BK106.out 2).trans rfl
     have hcz13_3 : wc.cell? ⟨gb106, 3, none⟩ = some (.int .i64 a0_3) := (blk_cell BK106.out 3).trans rfl
     have hfz13_0 := blk_frozen BK106.out 0
     have hfz13_1 := blk_frozen BK106.out 1
     have hfz13_2 := blk_frozen BK106.out 2
     have hfz13_3 := blk_frozen BK106.out 3
     go_wp2
     go_ret2
     exact ⟨by first | rfl, by exact HB.out⟩
    replace c8 := Bool.eq_false_iff.mpr c8
    subst c8
    have H1 : (some ((⟨#[]⟩ : ByteArray), 4)) = some (r1, r2) := by rw [if_neg (show ¬ (false = true) by decide)] at H; exact H
    clear H
    have H := H1
    clear H1
    simp only [Option.some.injEq, Prod.mk.injEq] at H
    obtain ⟨rfl, rfl⟩ := H
    have hcz14_0 : wc.cell? ⟨gb106, 0, none⟩ = some (.int .i64 a0_0) := (blk_cell BK106.out 0).trans rfl
    have hcz14_1 : wc.cell? ⟨gb106, 1, none⟩ = some (.int .i64 a0_1) := (blk_cell BK106.out 1).trans rfl
    have hcz14_2 : wc.cell? ⟨gb106, 2, none⟩ = some (.int .u8 a0_2) := (blk_cell BK106.out 2).trans rfl
    have hcz14_3 : wc.cell? ⟨gb106, 3, none⟩ = some (.int .i64 a0_3) := (blk_cell BK106.out 3).trans rfl
    have hfz14_0 := blk_frozen BK106.out 0
    have hfz14_1 := blk_frozen BK106.out 1
    have hfz14_2 := blk_frozen BK106.out 2
    have hfz14_3 := blk_frozen BK106.out 3
    go_wp2
    go_ret2
    exact ⟨by first | rfl, by exact HB.out⟩
   rw [if_neg c7] at H
   have c7b0 : (a0_2 == 1) = false := beq_eq_false_iff_ne.mpr c7
   have c7b1 : (a0_2 != 1) = true := bne_iff_ne.mpr c7
   by_cases c15 : a0_2 = 2
   ·rw [if_pos c15] at H
    have c15b0 : (a0_2 == 2) = true := beq_iff_eq.mpr c15
    have c15b1 : (a0_2 != 2) = false := bne_eq_false_iff_eq.mpr c15
    clear c15
    by_cases c16 : x4_1 = true
    ·subst c16
     have H1 : (if a0_3 ≥ 0 then ((riposteref04_Words.f kj1 a0_0 a0_1 a0_2 a0_3).bind fun t108 => (some (t108, 0))) else (some ((⟨#[]⟩ : ByteArray), 4))) = some (r1, r2) := by rw [if_pos rfl] at H; exact H
     clear H
     have H := H1
     clear H1
     by_cases c17 : a0_3 ≥ 0
     ·rw [if_pos c17] at H
      have c17b0 : decide (0 ≤ a0_3) = true := decide_eq_true c17
      clear c17
      replace H := Option.bind_eq_some_iff.mp H
      obtain ⟨t108, A180, H⟩ := H
      replace H : (some (t108, 0)) = some (r1, r2) := H
      have A18 := am A180
      clear A180
      simp only [Option.some.injEq, Prod.mk.injEq] at H
      obtain ⟨rfl, rfl⟩ := H
      have hcz19_0 : wc.cell? ⟨gb106, 0, none⟩ = some (.int .i64 a0_0) := (blk_cell BK106.out 0).trans rfl
      have hcz19_1 : wc.cell? ⟨gb106, 1, none⟩ = some (.int .i64 a0_1) := (blk_cell BK106.out 1).trans rfl
      have hcz19_2 : wc.cell? ⟨gb106, 2, none⟩ = some (.int .u8 a0_2) := (blk_cell BK106.out 2).trans rfl
      have hcz19_3 : wc.cell? ⟨gb106, 3, none⟩ = some (.int .i64 a0_3) := (blk_cell BK106.out 3).trans rfl
      have hfz19_0 := blk_frozen BK106.out 0
      have hfz19_1 := blk_frozen BK106.out 1
      have hfz19_2 := blk_frozen BK106.out 2
      have hfz19_3 := blk_frozen BK106.out 3
      go_wp2_with (first | ((with_reducible refine gate_callee (f := 145) rfl ?_); refine goesL_ (some 42) rfl rfl Tryz.func145 (by kernel_rfl) rfl #[.agg #[.int .i64 a0_0, .int .i64 a0_1, .int .u8 a0_2, .int .i64 a0_3]] rfl (by (try simp only [List.map_toArray, List.map_cons, List.map_nil]); first | rfl) ?_; (with_reducible refine (riposteref04_Words.calls kj1 a0_0 a0_1 a0_2 a0_3 t108 _ A18.out).mono ?_); rintro e w20 ⟨rfl, hb⟩; refine ⟨_, rfl, ?_⟩; have n0_ := am (blk_below (g := gb106) (o := .cells #[.int .i64 a0_0, .int .i64 a0_1, .int .u8 a0_2, .int .i64 a0_3] 52 (0, 0)) BK106.out hb); have n1_ := am (below_step HB.out hb); clear BK106; clear HB; have BK106 := n0_; have HB := n1_; clear n0_ n1_; (try clear hb); (try clear hb2); (try clear hk); (try clear hi)))
      go_ret2
      exact ⟨by first | rfl, by exact HB.out⟩
     rw [if_neg c17] at H
     have c17b0 : decide (0 ≤ a0_3) = false := decide_eq_false c17
     clear c17
     simp only [Option.some.injEq, Prod.mk.injEq] at H
     obtain ⟨rfl, rfl⟩ := H
     have hcz21_0 : wc.cell? ⟨gb106, 0, none⟩ = some (.int .i64 a0_0) := (blk_cell BK106.out 0).trans rfl
     have hcz21_1 : wc.cell? ⟨gb106, 1, none⟩ = some (.int .i64 a0_1) := (blk_cell BK106.out 1).trans rfl
     have hcz21_2 : wc.cell? ⟨gb106, 2, none⟩ = some (.int .u8 a0_2) := (blk_cell BK106.out 2).trans rfl
     have hcz21_3 : wc.cell? ⟨gb106, 3, none⟩ = some (.int .i64 a0_3) := (blk_cell BK106.out 3).trans rfl
     have hfz21_0 := blk_frozen BK106.out 0
     have hfz21_1 := blk_frozen BK106.out 1
     have hfz21_2 := blk_frozen BK106.out 2
     have hfz21_3 := blk_frozen BK106.out 3
     go_wp2
     go_ret2
     exact ⟨by first | rfl, by exact HB.out⟩
    replace c16 := Bool.eq_false_iff.mpr c16
    subst c16
    have H1 : (some ((⟨#[]⟩ : ByteArray), 4)) = some (r1, r2) := by rw [if_neg (show ¬ (false = true) by decide)] at H; exact H
    clear H
    have H := H1
    clear H1
    simp only [Option.some.injEq, Prod.mk.injEq] at H
    obtain ⟨rfl, rfl⟩ := H
    have hcz22_0 : wc.cell? ⟨gb106, 0, none⟩ = some (.int .i64 a0_0) := (blk_cell BK106.out 0).trans rfl
    have hcz22_1 : wc.cell? ⟨gb106, 1, none⟩ = some (.int .i64 a0_1) := (blk_cell BK106.out 1).trans rfl
    have hcz22_2 : wc.cell? ⟨gb106, 2, none⟩ = some (.int .u8 a0_2) := (blk_cell BK106.out 2).trans rfl
    have hcz22_3 : wc.cell? ⟨gb106, 3, none⟩ = some (.int .i64 a0_3) := (blk_cell BK106.out 3).trans rfl
    have hfz22_0 := blk_frozen BK106.out 0
    have hfz22_1 := blk_frozen BK106.out 1
    have hfz22_2 := blk_frozen BK106.out 2
    have hfz22_3 := blk_frozen BK106.out 3
    go_wp2
    go_ret2
    exact ⟨by first | rfl, by exact HB.out⟩
   rw [if_neg c15] at H
   have c15b0 : (a0_2 == 2) = false := beq_eq_false_iff_ne.mpr c15
   have c15b1 : (a0_2 != 2) = true := bne_iff_ne.mpr c15
   by_cases c23 : a0_2 = 3
   ·rw [if_pos c23] at H
    have c23b0 : (a0_2 == 3) = true := beq_iff_eq.mpr c23
    have c23b1 : (a0_2 != 3) = false := bne_eq_false_iff_eq.mpr c23
    clear c23
    by_cases c24 : x4_1 = true
    ·subst c24
     have H1 : (if (a0_3 ≥ (-1)) then ((riposteref04_Words.f kj1 a0_0 a0_1 a0_2 a0_3).bind fun t109 => (some (t109, 0))) else (some ((⟨#[]⟩ : ByteArray), 4))) = some (r1, r2) := by rw [if_pos rfl] at H; exact H
     clear H
     have H := H1
     clear H1
     by_cases c25 : (a0_3 ≥ (-1))
     ·rw [if_pos c25] at H
      have c25b0 : decide ((-1) ≤ a0_3) = true := decide_eq_true c25
      clear c25
      replace H := Option.bind_eq_some_iff.mp H
      obtain ⟨t109, A260, H⟩ := H
      replace H : (some (t109, 0)) = some (r1, r2) := H
      have A26 := am A260
      clear A260
      simp only [Option.some.injEq, Prod.mk.injEq] at H
      obtain ⟨rfl, rfl⟩ := H
      have hcz27_0 : wc.cell? ⟨gb106, 0, none⟩ = some (.int .i64 a0_0) := (blk_cell BK106.out 0).trans rfl
      have hcz27_1 : wc.cell? ⟨gb106, 1, none⟩ = some (.int .i64 a0_1) := (blk_cell BK106.out 1).trans rfl
      have hcz27_2 : wc.cell? ⟨gb106, 2, none⟩ = some (.int .u8 a0_2) := (blk_cell BK106.out 2).trans rfl
      have hcz27_3 : wc.cell? ⟨gb106, 3, none⟩ = some (.int .i64 a0_3) := (blk_cell BK106.out 3).trans rfl
      have hfz27_0 := blk_frozen BK106.out 0
      have hfz27_1 := blk_frozen BK106.out 1
      have hfz27_2 := blk_frozen BK106.out 2
      have hfz27_3 := blk_frozen BK106.out 3
      go_wp2_with (first | ((with_reducible refine gate_callee (f := 145) rfl ?_); refine goesL_ (some 42) rfl rfl Tryz.func145 (by kernel_rfl) rfl #[.agg #[.int .i64 a0_0, .int .i64 a0_1, .int .u8 a0_2, .int .i64 a0_3]] rfl (by (try simp only [List.map_toArray, List.map_cons, List.map_nil]); first | rfl) ?_; (with_reducible refine (riposteref04_Words.calls kj1 a0_0 a0_1 a0_2 a0_3 t109 _ A26.out).mono ?_); rintro e w28 ⟨rfl, hb⟩; refine ⟨_, rfl, ?_⟩; have n0_ := am (blk_below (g := gb106) (o := .cells #[.int .i64 a0_0, .int .i64 a0_1, .int .u8 a0_2, .int .i64 a0_3] 52 (0, 0)) BK106.out hb); have n1_ := am (below_step HB.out hb); clear BK106; clear HB; have BK106 := n0_; have HB := n1_; clear n0_ n1_; (try clear hb); (try clear hb2); (try clear hk); (try clear hi)))
      go_ret2
      exact ⟨by first | rfl, by exact HB.out⟩
     rw [if_neg c25] at H
     have c25b0 : decide ((-1) ≤ a0_3) = false := decide_eq_false c25
     clear c25
     simp only [Option.some.injEq, Prod.mk.injEq] at H
     obtain ⟨rfl, rfl⟩ := H
     have hcz29_0 : wc.cell? ⟨gb106, 0, none⟩ = some (.int .i64 a0_0) := (blk_cell BK106.out 0).trans rfl
     have hcz29_1 : wc.cell? ⟨gb106, 1, none⟩ = some (.int .i64 a0_1) := (blk_cell BK106.out 1).trans rfl
     have hcz29_2 : wc.cell? ⟨gb106, 2, none⟩ = some (.int .u8 a0_2) := (blk_cell BK106.out 2).trans rfl
     have hcz29_3 : wc.cell? ⟨gb106, 3, none⟩ = some (.int .i64 a0_3) := (blk_cell BK106.out 3).trans rfl
     have hfz29_0 := blk_frozen BK106.out 0
     have hfz29_1 := blk_frozen BK106.out 1
     have hfz29_2 := blk_frozen BK106.out 2
     have hfz29_3 := blk_frozen BK106.out 3
     go_wp2
     go_ret2
     exact ⟨by first | rfl, by exact HB.out⟩
    replace c24 := Bool.eq_false_iff.mpr c24
    subst c24
    have H1 : (some ((⟨#[]⟩ : ByteArray), 4)) = some (r1, r2) := by rw [if_neg (show ¬ (false = true) by decide)] at H; exact H
    clear H
    have H := H1
    clear H1
    simp only [Option.some.injEq, Prod.mk.injEq] at H
    obtain ⟨rfl, rfl⟩ := H
    have hcz30_0 : wc.cell? ⟨gb106, 0, none⟩ = some (.int .i64 a0_0) := (blk_cell BK106.out 0).trans rfl
    have hcz30_1 : wc.cell? ⟨gb106, 1, none⟩ = some (.int .i64 a0_1) := (blk_cell BK106.out 1).trans rfl
    have hcz30_2 : wc.cell? ⟨gb106, 2, none⟩ = some (.int .u8 a0_2) := (blk_cell BK106.out 2).trans rfl
    have hcz30_3 : wc.cell? ⟨gb106, 3, none⟩ = some (.int .i64 a0_3) := (blk_cell BK106.out 3).trans rfl
    have hfz30_0 := blk_frozen BK106.out 0
    have hfz30_1 := blk_frozen BK106.out 1
    have hfz30_2 := blk_frozen BK106.out 2
    have hfz30_3 := blk_frozen BK106.out 3
    go_wp2
    go_ret2
    exact ⟨by first | rfl, by exact HB.out⟩
   rw [if_neg c23] at H
   have c23b0 : (a0_2 == 3) = false := beq_eq_false_iff_ne.mpr c23
   have c23b1 : (a0_2 != 3) = true := bne_iff_ne.mpr c23
   simp only [Option.some.injEq, Prod.mk.injEq] at H
   obtain ⟨rfl, rfl⟩ := H
   have hcz31_0 : wc.cell? ⟨gb106, 0, none⟩ = some (.int .i64 a0_0) := (blk_cell BK106.out 0).trans rfl
   have hcz31_1 : wc.cell? ⟨gb106, 1, none⟩ = some (.int .i64 a0_1) := (blk_cell BK106.out 1).trans rfl
   have hcz31_2 : wc.cell? ⟨gb106, 2, none⟩ = some (.int .u8 a0_2) := (blk_cell BK106.out 2).trans rfl
   have hcz31_3 : wc.cell? ⟨gb106, 3, none⟩ = some (.int .i64 a0_3) := (blk_cell BK106.out 3).trans rfl
   have hfz31_0 := blk_frozen BK106.out 0
   have hfz31_1 := blk_frozen BK106.out 1
   have hfz31_2 := blk_frozen BK106.out 2
   have hfz31_3 := blk_frozen BK106.out 3
   go_wp2
   go_ret2
   exact ⟨by first | rfl, by exact HB.out⟩
end Go.Proofs.YtjgocihflhljeaaGreat.P
