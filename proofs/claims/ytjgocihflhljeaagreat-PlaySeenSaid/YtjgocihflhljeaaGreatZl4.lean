/- What the claim's law needs, many texts in one (Hd He). No conditions of its own. -/
import Derived.Test.YtjgocihflhljeaaGreatZl2
import Derived.Test.YtjgocihflhljeaaGreatZl3
set_option linter.unusedVariables false
set_option linter.unusedSimpArgs false
namespace Go.Proofs.YtjgocihflhljeaaGreat.P
open Go.RowKit Go.Shelf Go.Proofs.YtjgocihflhljeaaGreatW.PrintWords Go.Proofs.YtjgocihflhljeaaGreatW.PrintLast Go.Proofs.YtjgocihflhljeaaGreatW.PrintMore
attribute [local go_sem] Oper.semAt_some
def encS (p : Spot) : Array Value := #[p.val]
def paramSpots (i : Nat) : Nat → List S24 → List Spot
 | _, [] => []
 | k, b :: bs => ⟨(i : Int) + 1, (k : Int) + 1, b.f0, b.f1, true⟩ :: paramSpots i (k + 1) bs
def idsSpots (j : Bool) : Nat → List S68 → List Spot
 | _, [] => []
 | i, x :: xs => ⟨(i : Int) + 1, 0, x.f1.f0, x.f1.f1, j || decide (0 < x.f0.length)⟩ :: (paramSpots i 0 x.f0 ++ idsSpots j (i + 1) xs)
def spotsL (ids : List S68) (rc : Bool) (rn : Int) (j : Bool) : List Spot := ⟨0, 0, rc, rn, j⟩ :: idsSpots j 0 ids
theorem drop_at {α : Type} {L : List α} {m : Nat} {x : α} {r : List α} (h : L.drop m = x :: r) : L[m]? = some x := by
 have := List.getElem?_drop (xs := L) (i := m) (j := 0)
 rw [h] at this
 simpa using this.symm
theorem drop_tail {α : Type} {L : List α} {m : Nat} {x : α} {r : List α} (h : L.drop m = x :: r) : L.drop (m + 1) = r := by
 rw [← List.drop_drop, h]; rfl
theorem drop_end {α : Type} {L : List α} {m : Nat} (h : L.drop m = []) (hm : m ≤ L.length) : m = L.length := by
 have := congrArg List.length h
 simp at this
 omega
theorem idsSpots_drop (j : Bool) (ids : List S68) (k : Nat) (h : k < ids.length) : idsSpots j k (ids.drop k) =
  ⟨(k : Int) + 1, 0, (rd_T68 ids k).f1.f0, (rd_T68 ids k).f1.f1, j || decide (0 < (rd_T68 ids k).f0.length)⟩ :: (paramSpots k 0 (rd_T68 ids k).f0 ++ idsSpots j (k + 1) (ids.drop (k + 1))) := by
 have e : rd_T68 ids (k : Int) = ids[k] := by simp only [rd_T68, Int.toNat_natCast]; exact getD_get ids z68 k h
 rw [List.drop_eq_getElem_cons h, idsSpots, e]
theorem paramSpots_drop (i : Nat) (bs : List S24) (k : Nat) (h : k < bs.length) : paramSpots i k (bs.drop k) =
  ⟨(i : Int) + 1, (k : Int) + 1, (rd_T24 bs k).f0, (rd_T24 bs k).f1, true⟩ :: paramSpots i (k + 1) (bs.drop (k + 1)) := by
 have e : rd_T24 bs (k : Int) = bs[k] := by simp only [rd_T24, Int.toNat_natCast]; exact getD_get bs z24 k h
 rw [List.drop_eq_getElem_cons h, paramSpots, e]
def placesTy (t : TypeId) : Prop := t = 139 ∨ t = 68
set_option maxHeartbeats 4000000 in
theorem places_gives (A : Option Addr) (c : Nat) (ids : List S68) (rc : Bool) (rn : Int) (j : Bool) (w0 : World) (hr : Kd.C k68 w0 A ids.length ids) (hbig : ids.length ≤ 9223372036854775806) (hbig2 : ∀ x ∈ ids, x.f0.length ≤ 9223372036854775806) :
  Gives Tryz.prog 141 (fun y => #[.agg #[.slice A ids.length c, .bool rc, .int .i64 rn, .bool j]] ++ #[y] ++ #[]) encS (spotsL ids rc rn j) w0.heap.size w0 (fun _ => False) (fun _ => False) placesTy (fun _ => True) := by
 intro y J Jx W _ hB hn0 _ hJ hJx hY h0
 refine (callsIn_wide (n := 9)).1 ?_
 show CallsIn (FW none) 9 Tryz.prog 141 #[.agg #[.slice A ids.length c, .bool rc, .int .i64 rn, .bool j], y] W _
 have HJ := am hJ
 have HJx := am hJx
 have HY := am hY
 have H0 := am h0
 have BL := am hB
 have HR := am hr
 have HBIG2 := am hbig2
 clear hJ hJx hY h0 hB hr hbig2
 cases j with
 | true =>
  have BK0 := am (heap_alloc_new W (.cells #[.slice A ids.length c, .bool rc, .int .i64 rn, .bool true] 139))
  have B0 := am ((Below.refl _ W).alloc (Nat.le_refl _) (.cells #[.slice A ids.length c, .bool rc, .int .i64 rn, .bool true] 139))
  gi_enter Tryz.func141, Tryz.ntmps141
  gi_wp2_with (((with_reducible refine gateIn (N := 16) rfl ?_); refine wpListIn_vcall y (encS ⟨0, 0, rc, rn, true⟩) _ _ _ rfl rfl rfl rfl rfl (HY.out 0 _ _ rfl (HJ.out 0 _ _ H0.out (St.of_below B0.out)) B0.out.size) ?_))
  rintro v w2 (⟨rfl, hj2, hk2⟩ | ⟨rfl, hj2, hk2⟩)
  ·have BK := am (hk2.blk BK0.out (Nat.le_refl _) (.inl rfl))
   have hc0 : w2.cell? ⟨W.heap.size, 0, none⟩ = some (.slice A ids.length c) := (blk_cell BK.out 0).trans rfl
   have HJ2 := am hj2
   have BL2 := am (hk2.below (BL.out.trans (B0.out.mono hn0)) (by simp; omega))
   have HS2 := am (Nat.le_trans B0.out.size hk2.1.2.2.2)
   clear hj2 hk2
   gi_wp2
   gi_loopw [22] (fun s wr => ∃ k m : Nat, k ≤ ids.length ∧ s = .int .i64 k ∧ Aside0 (m ≤ (spotsL ids rc rn true).length) ∧ Aside0 ((spotsL ids rc rn true).drop m = idsSpots true k (ids.drop k)) ∧ Aside0 (J m wr) ∧ Aside0 (Below w0.heap.size w0 wr) ∧ Aside0 (wr.heap[W.heap.size]? = some (.cells #[.slice A ids.length c, .bool rc, .int .i64 rn, .bool true] 139 (0, 0))) ∧ Aside0 (W.heap.size ≤ wr.heap.size)) (fun s _ => ids.length - (intOf s).toNat)
   case atStart => exact ⟨0, 1, by omega, rfl, ⟨by simp [spotsL]⟩, ⟨rfl⟩, HJ2, BL2, BK, HS2⟩
   case round =>
    obtain ⟨wo, rfl⟩ : ∃ wo : World, wo = wr := ⟨_, rfl⟩
    obtain ⟨k, m, hk, rfl, HM, HD, HJk, BLk, BKk, HS⟩ := hrel
    by_cases hlt : k < ids.length
    ·have cb : decide ((k : Int) < (ids.length : Int)) = true := decide_eq_true (by omega)
     obtain ⟨ad, A0, c0, e0, hx0, hx1, hx2, hl, hi⟩ := at_T68 HR.out (k : Int) (by omega) (by omega)
     cases e0
     rw [Int.toNat_natCast] at hx0 hx1 hx2
     replace hx0 := (BLk.out.cell (World.block_lt_of_cell? w0 _ hx0)).trans hx0
     replace hx1 := (BLk.out.cell (World.block_lt_of_cell? w0 _ hx1)).trans hx1
     replace hx2 := (BLk.out.cell (World.block_lt_of_cell? w0 _ hx2)).trans hx2
     have HE := am (idsSpots_drop true ids k hlt)
     have HBX := am (HBIG2.out (rd_T68 ids (k : Int)) (by have := getD_get ids z68 k hlt; simp only [rd_T68, Int.toNat_natCast]; rw [this]; exact List.getElem_mem hlt))
     generalize rd_T68 ids (k : Int) = x at *
     have HI := am hi
     clear hi
     have hg0 : wo.cell? ⟨W.heap.size, 0, none⟩ = some (.slice (some ad) ids.length c) := (blk_cell BKk.out 0).trans rfl
     have hg3 : wo.cell? ⟨W.heap.size, 3, none⟩ = some (.bool true) := (blk_cell BKk.out 3).trans rfl
     have HD1 := am (HD.out.trans HE.out)
     have hgt0 : W.heap.size < wo.heap.size := blk_lt BKk.out
     have HB1 := am ((Below.refl _ wo).alloc (Nat.le_refl _) (.cells #[.slice A0 x.f0.length c0, .bool x.f1.f0, .int .i64 x.f1.f1] 68))
     have HN1 := am (heap_alloc_new wo (.cells #[.slice A0 x.f0.length c0, .bool x.f1.f0, .int .i64 x.f1.f1] 68))
     gi_wp2_with (((with_reducible refine gateIn (N := 42) rfl ?_); refine wpListIn_vcall y (encS ⟨(k : Int) + 1, 0, x.f1.f0, x.f1.f1, true⟩) _ _ _ rfl rfl rfl rfl rfl (HY.out m _ _ (drop_at HD1.out) (HJ.out m _ _ HJk.out (St.of_below HB1.out)) (Nat.le_trans HS.out HB1.out.size)) ?_))
     rintro v w3 (⟨rfl, hj3, hk3⟩ | ⟨rfl, hj3, hk3⟩)
     ·have BK3 := am (hk3.blk (blk_alloc BKk.out _) (Nat.le_refl _) (.inl rfl))
      have BT3 := am (hk3.blk HN1.out HS.out (.inr rfl))
      have hgt : w3.cell? ⟨wo.heap.size, 0, none⟩ = some (.slice A0 x.f0.length c0) := (blk_cell BT3.out 0).trans rfl
      have HJ3 := am hj3
      have BL3 := am (hk3.below (BLk.out.trans (HB1.out.mono (by have := HS.out; omega))) (by have := HS.out; simp; omega))
      have HS3 := am (Nat.le_trans HS.out (Nat.le_trans HB1.out.size hk3.1.2.2.2))
      have HD3 := am (drop_tail HD1.out)
      clear hj3 hk3
      have HM3 := am (List.getElem?_eq_some_iff.1 (drop_at HD1.out)).1
      have hwo : W.heap.size ≤ wo.heap.size := HS.out
      have hbx := HBX.out
      gi_wp2
      gi_loopw [47] (fun s wr => ∃ k2 m2 : Nat, k2 ≤ x.f0.length ∧ s = .int .i64 k2 ∧ Aside0 (m2 ≤ (spotsL ids rc rn true).length) ∧ Aside0 ((spotsL ids rc rn true).drop m2 = paramSpots k k2 (x.f0.drop k2) ++ idsSpots true (k + 1) (ids.drop (k + 1))) ∧ Aside0 (J m2 wr) ∧ Aside0 (Below w0.heap.size w0 wr) ∧ Aside0 (wr.heap[W.heap.size]? = some (.cells #[.slice (some ad) ids.length c, .bool rc, .int .i64 rn, .bool true] 139 (0, 0))) ∧ Aside0 (W.heap.size ≤ wr.heap.size)) (fun s _ => x.f0.length - (intOf s).toNat)
      case atStart => exact ⟨0, m + 1, by omega, rfl, ⟨HM3.out⟩, HD3, HJ3, BL3, BK3, HS3⟩
      case round =>
       obtain ⟨k2, m2, hk2, rfl, HM2, HD2, HJ2', BL2', BK2', HS2'⟩ := hrel
       by_cases hlt2 : k2 < x.f0.length
       ·have cb2 : decide ((k2 : Int) < (x.f0.length : Int)) = true := decide_eq_true (by omega)
        obtain ⟨ad2, e2, hy0, hy1⟩ := at_T24 HI.out (k2 : Int) (by omega) (by omega)
        cases e2
        rw [Int.toNat_natCast] at hy0 hy1
        replace hy0 := (BL2'.out.cell (World.block_lt_of_cell? w0 _ hy0)).trans hy0
        replace hy1 := (BL2'.out.cell (World.block_lt_of_cell? w0 _ hy1)).trans hy1
        have HE2 := am (paramSpots_drop k x.f0 k2 hlt2)
        generalize rd_T24 x.f0 (k2 : Int) = b at *
        have HD4 := am (HD2.out.trans (by rw [HE2.out, List.cons_append]))
        have HB4 := am ((Below.refl _ wr).alloc (Nat.le_refl _) (.cells #[.bool b.f0, .int .i64 b.f1] 24))
        gi_wp2_with (((with_reducible refine gateIn (N := 59) rfl ?_); refine wpListIn_vcall y (encS ⟨(k : Int) + 1, (k2 : Int) + 1, b.f0, b.f1, true⟩) _ _ _ rfl rfl rfl rfl rfl (HY.out m2 _ _ (drop_at HD4.out) (HJ.out m2 _ _ HJ2'.out (St.of_below HB4.out)) (Nat.le_trans HS2'.out HB4.out.size)) ?_))
        rintro v w5 (⟨rfl, hj5, hk5⟩ | ⟨rfl, hj5, hk5⟩)
        ·have HJ5 := am hj5
         have BK5 := am (hk5.blk (blk_alloc BK2'.out _) (Nat.le_refl _) (.inl rfl))
         have BL5 := am (hk5.below (BL2'.out.trans (HB4.out.mono (by have := HS2'.out; omega))) (by have := HS2'.out; simp; omega))
         have HS5 := am (Nat.le_trans HS2'.out (Nat.le_trans HB4.out.size hk5.1.2.2.2))
         clear hj5 hk5
         gi_wp2
         go_roundw
         case rel => exact ⟨k2 + 1, m2 + 1, by omega, by go_num, ⟨(List.getElem?_eq_some_iff.1 (drop_at HD4.out)).1⟩, ⟨drop_tail HD4.out⟩, HJ5, BL5, BK5, HS5⟩
         case measure => simp [intOf]; omega
        have hs := Nat.le_trans HS2'.out (Nat.le_trans HB4.out.size hk5.1.2.2.2)
        have hm := (List.getElem?_eq_some_iff.1 (drop_at HD4.out)).1
        gi_wp2
        refine bodyPost_ret (results_none rfl _ _ _) rfl ?_
        exact ⟨⟨_, rfl⟩, hs, .inr ⟨m2, hm, hj5⟩⟩
       have cb2 : decide ((k2 : Int) < (x.f0.length : Int)) = false := decide_eq_false (by omega)
       have HD5 := am (HD2.out.trans (by rw [List.drop_eq_nil_of_le (by omega), paramSpots, List.nil_append]))
       gi_wp2
       go_roundw
       case rel => exact ⟨k + 1, m2, by omega, by go_num, HM2, HD5, HJ2', BL2', BK2', HS2'⟩
       case measure => simp [intOf]; omega
     have hs := Nat.le_trans HS.out (Nat.le_trans HB1.out.size hk3.1.2.2.2)
     have hm := (List.getElem?_eq_some_iff.1 (drop_at HD1.out)).1
     gi_wp2
     refine bodyPost_ret (results_none rfl _ _ _) rfl ?_
     exact ⟨⟨_, rfl⟩, hs, .inr ⟨m, hm, hj3⟩⟩
    have cb : decide ((k : Int) < (ids.length : Int)) = false := decide_eq_false (by omega)
    have HE := am (drop_end (HD.out.trans (by rw [List.drop_eq_nil_of_le (by omega)]; rfl)) HM.out)
    gi_wp2
    go_end0
    exact ⟨⟨_, rfl⟩, HS.out, .inl (by rw [← HE.out]; exact HJk.out)⟩
  have hs := Nat.le_trans B0.out.size hk2.1.2.2.2
  gi_wp2
  refine bodyPost_ret (results_none rfl _ _ _) rfl ?_
  exact ⟨⟨_, rfl⟩, hs, .inr ⟨0, by simp [spotsL], hj2⟩⟩
 | false =>
  have BK0 := am (heap_alloc_new W (.cells #[.slice A ids.length c, .bool rc, .int .i64 rn, .bool false] 139))
  have B0 := am ((Below.refl _ W).alloc (Nat.le_refl _) (.cells #[.slice A ids.length c, .bool rc, .int .i64 rn, .bool false] 139))
  gi_enter Tryz.func141, Tryz.ntmps141
  gi_wp2_with (((with_reducible refine gateIn (N := 16) rfl ?_); refine wpListIn_vcall y (encS ⟨0, 0, rc, rn, false⟩) _ _ _ rfl rfl rfl rfl rfl (HY.out 0 _ _ rfl (HJ.out 0 _ _ H0.out (St.of_below B0.out)) B0.out.size) ?_))
  rintro v w2 (⟨rfl, hj2, hk2⟩ | ⟨rfl, hj2, hk2⟩)
  ·have BK := am (hk2.blk BK0.out (Nat.le_refl _) (.inl rfl))
   have hc0 : w2.cell? ⟨W.heap.size, 0, none⟩ = some (.slice A ids.length c) := (blk_cell BK.out 0).trans rfl
   have HJ2 := am hj2
   have BL2 := am (hk2.below (BL.out.trans (B0.out.mono hn0)) (by simp; omega))
   have HS2 := am (Nat.le_trans B0.out.size hk2.1.2.2.2)
   clear hj2 hk2
   gi_wp2
   gi_loopw [22] (fun s wr => ∃ k m : Nat, k ≤ ids.length ∧ s = .int .i64 k ∧ Aside0 (m ≤ (spotsL ids rc rn false).length) ∧ Aside0 ((spotsL ids rc rn false).drop m = idsSpots false k (ids.drop k)) ∧ Aside0 (J m wr) ∧ Aside0 (Below w0.heap.size w0 wr) ∧ Aside0 (wr.heap[W.heap.size]? = some (.cells #[.slice A ids.length c, .bool rc, .int .i64 rn, .bool false] 139 (0, 0))) ∧ Aside0 (W.heap.size ≤ wr.heap.size)) (fun s _ => ids.length - (intOf s).toNat)
   case atStart => exact ⟨0, 1, by omega, rfl, ⟨by simp [spotsL]⟩, ⟨rfl⟩, HJ2, BL2, BK, HS2⟩
   case round =>
    obtain ⟨wo, rfl⟩ : ∃ wo : World, wo = wr := ⟨_, rfl⟩
    obtain ⟨k, m, hk, rfl, HM, HD, HJk, BLk, BKk, HS⟩ := hrel
    by_cases hlt : k < ids.length
    ·have cb : decide ((k : Int) < (ids.length : Int)) = true := decide_eq_true (by omega)
     obtain ⟨ad, A0, c0, e0, hx0, hx1, hx2, hl, hi⟩ := at_T68 HR.out (k : Int) (by omega) (by omega)
     cases e0
     rw [Int.toNat_natCast] at hx0 hx1 hx2
     replace hx0 := (BLk.out.cell (World.block_lt_of_cell? w0 _ hx0)).trans hx0
     replace hx1 := (BLk.out.cell (World.block_lt_of_cell? w0 _ hx1)).trans hx1
     replace hx2 := (BLk.out.cell (World.block_lt_of_cell? w0 _ hx2)).trans hx2
     have HE := am (idsSpots_drop false ids k hlt)
     have HBX := am (HBIG2.out (rd_T68 ids (k : Int)) (by have := getD_get ids z68 k hlt; simp only [rd_T68, Int.toNat_natCast]; rw [this]; exact List.getElem_mem hlt))
     generalize rd_T68 ids (k : Int) = x at *
     have HI := am hi
     clear hi
     have hg0 : wo.cell? ⟨W.heap.size, 0, none⟩ = some (.slice (some ad) ids.length c) := (blk_cell BKk.out 0).trans rfl
     have hg3 : wo.cell? ⟨W.heap.size, 3, none⟩ = some (.bool false) := (blk_cell BKk.out 3).trans rfl
     have HD1 := am (HD.out.trans HE.out)
     have hgt0 : W.heap.size < wo.heap.size := blk_lt BKk.out
     have HB1 := am ((Below.refl _ wo).alloc (Nat.le_refl _) (.cells #[.slice A0 x.f0.length c0, .bool x.f1.f0, .int .i64 x.f1.f1] 68))
     have HN1 := am (heap_alloc_new wo (.cells #[.slice A0 x.f0.length c0, .bool x.f1.f0, .int .i64 x.f1.f1] 68))
     gi_wp2_with (((with_reducible refine gateIn (N := 42) rfl ?_); refine wpListIn_vcall y (encS ⟨(k : Int) + 1, 0, x.f1.f0, x.f1.f1, (decide (0 < x.f0.length))⟩) _ _ _ rfl rfl rfl rfl rfl (HY.out m _ _ (drop_at HD1.out) (HJ.out m _ _ HJk.out (St.of_below HB1.out)) (Nat.le_trans HS.out HB1.out.size)) ?_))
     rintro v w3 (⟨rfl, hj3, hk3⟩ | ⟨rfl, hj3, hk3⟩)
     ·have BK3 := am (hk3.blk (blk_alloc BKk.out _) (Nat.le_refl _) (.inl rfl))
      have BT3 := am (hk3.blk HN1.out HS.out (.inr rfl))
      have hgt : w3.cell? ⟨wo.heap.size, 0, none⟩ = some (.slice A0 x.f0.length c0) := (blk_cell BT3.out 0).trans rfl
      have HJ3 := am hj3
      have BL3 := am (hk3.below (BLk.out.trans (HB1.out.mono (by have := HS.out; omega))) (by have := HS.out; simp; omega))
      have HS3 := am (Nat.le_trans HS.out (Nat.le_trans HB1.out.size hk3.1.2.2.2))
      have HD3 := am (drop_tail HD1.out)
      clear hj3 hk3
      have HM3 := am (List.getElem?_eq_some_iff.1 (drop_at HD1.out)).1
      have hwo : W.heap.size ≤ wo.heap.size := HS.out
      have hbx := HBX.out
      gi_wp2
      gi_loopw [47] (fun s wr => ∃ k2 m2 : Nat, k2 ≤ x.f0.length ∧ s = .int .i64 k2 ∧ Aside0 (m2 ≤ (spotsL ids rc rn false).length) ∧ Aside0 ((spotsL ids rc rn false).drop m2 = paramSpots k k2 (x.f0.drop k2) ++ idsSpots false (k + 1) (ids.drop (k + 1))) ∧ Aside0 (J m2 wr) ∧ Aside0 (Below w0.heap.size w0 wr) ∧ Aside0 (wr.heap[W.heap.size]? = some (.cells #[.slice (some ad) ids.length c, .bool rc, .int .i64 rn, .bool false] 139 (0, 0))) ∧ Aside0 (W.heap.size ≤ wr.heap.size)) (fun s _ => x.f0.length - (intOf s).toNat)
      case atStart => exact ⟨0, m + 1, by omega, rfl, ⟨HM3.out⟩, HD3, HJ3, BL3, BK3, HS3⟩
      case round =>
       obtain ⟨k2, m2, hk2, rfl, HM2, HD2, HJ2', BL2', BK2', HS2'⟩ := hrel
       by_cases hlt2 : k2 < x.f0.length
       ·have cb2 : decide ((k2 : Int) < (x.f0.length : Int)) = true := decide_eq_true (by omega)
        obtain ⟨ad2, e2, hy0, hy1⟩ := at_T24 HI.out (k2 : Int) (by omega) (by omega)
        cases e2
        rw [Int.toNat_natCast] at hy0 hy1
        replace hy0 := (BL2'.out.cell (World.block_lt_of_cell? w0 _ hy0)).trans hy0
        replace hy1 := (BL2'.out.cell (World.block_lt_of_cell? w0 _ hy1)).trans hy1
        have HE2 := am (paramSpots_drop k x.f0 k2 hlt2)
        generalize rd_T24 x.f0 (k2 : Int) = b at *
        have HD4 := am (HD2.out.trans (by rw [HE2.out, List.cons_append]))
        have HB4 := am ((Below.refl _ wr).alloc (Nat.le_refl _) (.cells #[.bool b.f0, .int .i64 b.f1] 24))
        gi_wp2_with (((with_reducible refine gateIn (N := 59) rfl ?_); refine wpListIn_vcall y (encS ⟨(k : Int) + 1, (k2 : Int) + 1, b.f0, b.f1, true⟩) _ _ _ rfl rfl rfl rfl rfl (HY.out m2 _ _ (drop_at HD4.out) (HJ.out m2 _ _ HJ2'.out (St.of_below HB4.out)) (Nat.le_trans HS2'.out HB4.out.size)) ?_))
        rintro v w5 (⟨rfl, hj5, hk5⟩ | ⟨rfl, hj5, hk5⟩)
        ·have HJ5 := am hj5
         have BK5 := am (hk5.blk (blk_alloc BK2'.out _) (Nat.le_refl _) (.inl rfl))
         have BL5 := am (hk5.below (BL2'.out.trans (HB4.out.mono (by have := HS2'.out; omega))) (by have := HS2'.out; simp; omega))
         have HS5 := am (Nat.le_trans HS2'.out (Nat.le_trans HB4.out.size hk5.1.2.2.2))
         clear hj5 hk5
         gi_wp2
         go_roundw
         case rel => exact ⟨k2 + 1, m2 + 1, by omega, by go_num, ⟨(List.getElem?_eq_some_iff.1 (drop_at HD4.out)).1⟩, ⟨drop_tail HD4.out⟩, HJ5, BL5, BK5, HS5⟩
         case measure => simp [intOf]; omega
        have hs := Nat.le_trans HS2'.out (Nat.le_trans HB4.out.size hk5.1.2.2.2)
        have hm := (List.getElem?_eq_some_iff.1 (drop_at HD4.out)).1
        gi_wp2
        refine bodyPost_ret (results_none rfl _ _ _) rfl ?_
        exact ⟨⟨_, rfl⟩, hs, .inr ⟨m2, hm, hj5⟩⟩
       have cb2 : decide ((k2 : Int) < (x.f0.length : Int)) = false := decide_eq_false (by omega)
       have HD5 := am (HD2.out.trans (by rw [List.drop_eq_nil_of_le (by omega), paramSpots, List.nil_append]))
       gi_wp2
       go_roundw
       case rel => exact ⟨k + 1, m2, by omega, by go_num, HM2, HD5, HJ2', BL2', BK2', HS2'⟩
       case measure => simp [intOf]; omega
     have hs := Nat.le_trans HS.out (Nat.le_trans HB1.out.size hk3.1.2.2.2)
     have hm := (List.getElem?_eq_some_iff.1 (drop_at HD1.out)).1
     gi_wp2
     refine bodyPost_ret (results_none rfl _ _ _) rfl ?_
     exact ⟨⟨_, rfl⟩, hs, .inr ⟨m, hm, hj3⟩⟩
    have cb : decide ((k : Int) < (ids.length : Int)) = false := decide_eq_false (by omega)
    have HE := am (drop_end (HD.out.trans (by rw [List.drop_eq_nil_of_le (by omega)]; rfl)) HM.out)
    gi_wp2
    go_end0
    exact ⟨⟨_, rfl⟩, HS.out, .inl (by rw [← HE.out]; exact HJk.out)⟩
  have hs := Nat.le_trans B0.out.size hk2.1.2.2.2
  gi_wp2
  refine bodyPost_ret (results_none rfl _ _ _) rfl ?_
  exact ⟨⟨_, rfl⟩, hs, .inr ⟨0, by simp [spotsL], hj2⟩⟩
def Spot.at (p : Spot) (id arg : Int) : Bool := p.id == id && p.arg == arg
def findL (L : List Spot) (id arg : Int) : Option Spot := L.find? (fun p => p.at id arg)
def spotOr : Option Spot → Value
 | some p => p.val
 | none => .agg #[.int .i64 0, .int .i64 0, .bool false, .int .i64 0, .bool false]
theorem findL_some {L : List Spot} {id arg : Int} {i : Nat} {p : Spot} (hp : L[i]? = some p) (h : p.at id arg = true) (hn : ∀ m q, m < i → L[m]? = some q → q.at id arg = false) : findL L id arg = some p := by
 obtain ⟨hi, hp'⟩ := List.getElem?_eq_some_iff.1 hp
 unfold findL
 rw [List.find?_eq_some_iff_getElem]
 refine ⟨h, i, hi, hp', fun j hj => ?_⟩
 have := hn j _ hj (List.getElem?_eq_getElem (by omega))
 simp [this]
theorem findL_none {L : List Spot} {id arg : Int} (hn : ∀ m q, m < L.length → L[m]? = some q → q.at id arg = false) : findL L id arg = none := by
 unfold findL
 rw [List.find?_eq_none]
 intro q hq
 obtain ⟨i, hi, rfl⟩ := List.getElem_of_mem hq
 have := hn i _ hi (List.getElem?_eq_getElem hi)
 simp [this]
theorem enters_places : ∀ args w, (callFunc 141 args).run Tryz.prog w = .ok (.enter 141 args) w := enters_of Tryz.func141 (by kernel_rfl) rfl
theorem store5 {W : World} {g t : Nat} {a0 a1 a2 a3 a4 : Value} (h : W.heap[g]? = some (.cells #[a0, a1, a2, a3, a4] t (0, 0))) (v0 v1 v2 v3 v4 : Value) :
  (((((W.setCell ⟨g, 0, none⟩ v0).setCell ⟨g, 1, none⟩ v1).setCell ⟨g, 2, none⟩ v2).setCell ⟨g, 3, none⟩ v3).setCell ⟨g, 4, none⟩ v4).heap[g]? = some (.cells #[v0, v1, v2, v3, v4] t (0, 0)) :=
 blk_put (blk_put (blk_put (blk_put (blk_put h 0 v0 rfl) 1 v1 rfl) 2 v2 rfl) 3 v3 rfl) 4 v4 rfl
theorem far5 {W : World} {g k : Nat} {o : Obj} (h : W.heap[k]? = some o) (hne : k ≠ g) (v0 v1 v2 v3 v4 : Value) :
  (((((W.setCell ⟨g, 0, none⟩ v0).setCell ⟨g, 1, none⟩ v1).setCell ⟨g, 2, none⟩ v2).setCell ⟨g, 3, none⟩ v3).setCell ⟨g, 4, none⟩ v4).heap[k]? = some o :=
 (Below.heap_setCell _ _ _ k hne).trans ((Below.heap_setCell _ _ _ k hne).trans ((Below.heap_setCell _ _ _ k hne).trans ((Below.heap_setCell _ _ _ k hne).trans ((Below.heap_setCell _ _ _ k hne).trans h))))
theorem below5 {n g : Nat} {w W : World} (h : Below n w W) (hn : n ≤ g) (v0 v1 v2 v3 v4 : Value) :
  Below n w (((((W.setCell ⟨g, 0, none⟩ v0).setCell ⟨g, 1, none⟩ v1).setCell ⟨g, 2, none⟩ v2).setCell ⟨g, 3, none⟩ v3).setCell ⟨g, 4, none⟩ v4) :=
 ((((h.setCell (p := ⟨g, 0, none⟩) hn _).setCell (p := ⟨g, 1, none⟩) hn _).setCell (p := ⟨g, 2, none⟩) hn _).setCell (p := ⟨g, 3, none⟩) hn _).setCell (p := ⟨g, 4, none⟩) hn _
theorem keeps5 {n b g : Nat} {own : Nat → Prop} {ty : TypeId → Prop} {A W : World} (h : Keeps n b own ty A W) (hn : n ≤ g) (hb : g < b) (hx : ¬ own g) (v0 v1 v2 v3 v4 : Value) :
  Keeps n b own ty A (((((W.setCell ⟨g, 0, none⟩ v0).setCell ⟨g, 1, none⟩ v1).setCell ⟨g, 2, none⟩ v2).setCell ⟨g, 3, none⟩ v3).setCell ⟨g, 4, none⟩ v4) :=
 ((((h.setCell _ hn hb hx).setCell _ hn hb hx).setCell _ hn hb hx).setCell _ hn hb hx).setCell _ hn hb hx
theorem putObj_blk {W : World} {k D : Nat} {o o' : Obj} (h : W.heap[k]? = some o) (hne : k ≠ D) : (W.putObj D o').heap[k]? = some o := (World.putObj_heap_other hne).trans h
theorem below_putObj {n D : Nat} {w W : World} {o' : Obj} (h : Below n w W) (hn : n ≤ D) : Below n w (W.putObj D o') :=
 h.trans ⟨rfl, rfl, rfl, by simp, fun k hk => World.putObj_heap_other (by omega)⟩
set_option maxHeartbeats 4000000 in
theorem find_any (A : Option Addr) (c : Nat) (ids : List S68) (rc : Bool) (rn : Int) (j : Bool) (id arg : Int) (w : World) (hr : Kd.C k68 w A ids.length ids) (hbig : ids.length ≤ 9223372036854775806) (hbig2 : ∀ x ∈ ids, x.f0.length ≤ 9223372036854775806) :
  Calls Tryz.prog 147 #[.agg #[.slice A ids.length c, .bool rc, .int .i64 rn, .bool j], .int .i64 id, .int .i64 arg] w fun e w' =>
   e = .returned (.tuple #[spotOr (findL (spotsL ids rc rn j) id arg), .bool (findL (spotsL ids rc rn j) id arg).isSome]) ∧ Below w.heap.size w w' := by
 have HG := am (places_gives A c ids rc rn j w hr hbig hbig2)
 clear hr hbig2
 refine (callsIn_wide (n := 9)).1 ?_
 show CallsIn (FW none) 9 Tryz.prog 147 _ w _
 refine callsIn_of_wp_marks Tryz.func147 rfl trivial ?_ rfl
 simp only [Tryz.ntmps147, List.size_toArray, List.length_cons, List.length_nil, Nat.reduceAdd, Nat.reduceSub, Array.replicate_succ, Array.replicate_zero, List.push_toArray, List.append_toArray, List.nil_append, List.cons_append]
 gi_wp2
 refine name_world ?_
 intro w1 hw
 obtain ⟨hsz, k0, k1, k2, k3, k4, hb5⟩ := five' _ _ _ _ _ _ _ hw
 clear hw
 have K1 := am k1
 have K2 := am k2
 have K3 := am k3
 have K4 := am k4
 have B5 := am hb5
 have hge : w.heap.size + 5 ≤ w1.heap.size := by omega
 clear hsz k0 k1 k2 k3 k4 hb5
 refine wp_range (gf := 141) (bs := #[.agg #[.slice A ids.length c, .bool rc, .int .i64 rn, .bool j]]) (lb := #[]) rfl enters_places HG.out (hb0 := B5.out) (hn := by omega) (hwr := fun _ h => h.elim) (hown := fun _ h => h.elim)
  (hPre := fun _ _ => trivial) (hps := fun _ => rfl)
  (fun i V => Aside0 (Below w.heap.size w V) ∧ Aside0 (∀ m q, m < i → (spotsL ids rc rn j)[m]? = some q → q.at id arg = false) ∧ Aside0 (V.heap[w.heap.size + 1]? = some (.cells #[.int .i64 id] 3 (0, 0))) ∧ Aside0 (V.heap[w.heap.size + 2]? = some (.cells #[.int .i64 arg] 3 (0, 0))) ∧
   Aside0 (V.heap[w.heap.size + 3]? = some (.cells #[.int .i64 0, .int .i64 0, .bool false, .int .i64 0, .bool false] 141 (0, 0))) ∧ Aside0 (V.heap[w.heap.size + 4]? = some (.cells #[.bool false] 4 (0, 0))) ∧ Aside0 (w1.heap.size ≤ V.heap.size))
  (fun c i V => c = .ret ∧ Aside0 (Below w.heap.size w V) ∧ ∃ p, findL (spotsL ids rc rn j) id arg = some p ∧ Aside0 (V.heap[w.heap.size + 3]? = some (.cells #[.int .i64 p.id, .int .i64 p.arg, .bool p.cell, .int .i64 p.n, .bool p.esc] 141 (0, 0))) ∧ Aside0 (V.heap[w.heap.size + 4]? = some (.cells #[.bool true] 4 (0, 0)))) ?hI ?hIx ?h0
  (fun i a₁ V => ∃ x, (spotsL ids rc rn j)[i]? = some x ∧ ∃ Bx, Aside0 (V.heap[Bx]? = some (.cells #[.int .i64 x.id, .int .i64 x.arg, .bool x.cell, .int .i64 x.n, .bool x.esc] 141 (0, 0))) ∧ Aside0 (w1.heap.size ≤ Bx) ∧ ∃ x0 x1 x2 x9 x10 x11 x12 x13 x14 x15 x16 x17 x18 x19 x20 x21 x22 x23 : Value, a₁ = { tmps := #[x0, x1, x2, .pointer (some ⟨w.heap.size, 0, none⟩), .pointer (some ⟨w.heap.size + 1, 0, none⟩), .pointer (some ⟨w.heap.size + 1 + 1, 0, none⟩), .pointer (some ⟨w.heap.size + 1 + 1 + 1, 0, none⟩), .pointer (some ⟨w.heap.size + 1 + 1 + 1 + 1, 0, none⟩), .pointer (some ⟨Bx, 0, none⟩), x9, x10, x11, x12, x13, x14, x15, x16, x17, x18, x19, x20, x21, x22, x23], defers := [] }) ?hAx ?assign ?body ?done ?stop
 case hI =>
  rintro i P Q ⟨bl, nn, q1, q2, q3, q4, sz⟩ hs
  exact ⟨⟨hs.below bl.out (by omega) (by intro k h; exact h.elim) (by have := sz.out; omega)⟩, nn, ⟨hs.blk q1.out (fun h => h)⟩, ⟨hs.blk q2.out (fun h => h)⟩, ⟨hs.blk q3.out (fun h => h)⟩, ⟨hs.blk q4.out (fun h => h)⟩, ⟨Nat.le_trans sz.out hs.1.2.2.2⟩⟩
 case hIx =>
  rintro c i P Q ⟨hc, bl, p, hp, q3, q4⟩ hs
  exact ⟨hc, ⟨hs.below bl.out (by omega) (by intro k h; exact h.elim) (by have := blk_lt q3.out; omega)⟩, p, hp, ⟨hs.blk q3.out (fun h => h)⟩, ⟨hs.blk q4.out (fun h => h)⟩⟩
 case h0 => exact ⟨B5, ⟨fun m q h => by omega⟩, K1, K2, K3, K4, ⟨Nat.le_refl _⟩⟩
 case hAx =>
  rintro i a₁ P Q ⟨x, hx, Bx, bx, hlt, r⟩ hs
  exact ⟨x, hx, Bx, ⟨hs.blk bx.out (fun h => h)⟩, hlt, r⟩
 case assign =>
  intro m l i x P K hx ⟨bl, nn, q1, q2, q3, q4, sz⟩ hle hK
  simp only [encS, Spot.val, List.zip_toArray, List.zip_cons_cons, List.zip_nil_right, List.size_toArray, List.foldl_toArray', List.foldl_cons, List.foldl_nil]
  gi_wp2
  exact hK _ _ ((Below.refl _ P).alloc (Nat.le_refl _) _) ⟨x, hx, P.heap.size, ⟨heap_alloc_new P _⟩, ⟨sz.out⟩, _, _, _, _, _, _, _, _, _, _, _, _, _, _, _, _, _, _, rfl⟩
 case body =>
  rintro m l i x a₁ P hx ⟨bl, nn, q1, q2, q3, q4, sz⟩ ⟨x', hx', Bx, bx, hlt, x0, x1, x2, x9, x10, x11, x12, x13, x14, x15, x16, x17, x18, x19, x20, x21, x22, x23, rfl⟩ hle
  obtain rfl : x' = x := Option.some.inj (hx'.symm.trans hx)
  clear hx'
  have HX := am hx
  clear hx
  have hc1 : P.cell? ⟨w.heap.size + 1, 0, none⟩ = some (.int .i64 id) := (blk_cell q1.out 0).trans rfl
  have hc2 : P.cell? ⟨w.heap.size + 2, 0, none⟩ = some (.int .i64 arg) := (blk_cell q2.out 0).trans rfl
  have hd0 : P.cell? ⟨Bx, 0, none⟩ = some (.int .i64 x'.id) := (blk_cell bx.out 0).trans rfl
  have hd1 : P.cell? ⟨Bx, 1, none⟩ = some (.int .i64 x'.arg) := (blk_cell bx.out 1).trans rfl
  have hd2 : P.cell? ⟨Bx, 2, none⟩ = some (.bool x'.cell) := (blk_cell bx.out 2).trans rfl
  have hd3 : P.cell? ⟨Bx, 3, none⟩ = some (.int .i64 x'.n) := (blk_cell bx.out 3).trans rfl
  have hd4 : P.cell? ⟨Bx, 4, none⟩ = some (.bool x'.esc) := (blk_cell bx.out 4).trans rfl
  have he0 : P.cell? ⟨w.heap.size + 3, 0, none⟩ = some (.int .i64 0) := (blk_cell q3.out 0).trans rfl
  have he1 : P.cell? ⟨w.heap.size + 3, 1, none⟩ = some (.int .i64 0) := (blk_cell q3.out 1).trans rfl
  have he2 : P.cell? ⟨w.heap.size + 3, 2, none⟩ = some (.bool false) := (blk_cell q3.out 2).trans rfl
  have he3 : P.cell? ⟨w.heap.size + 3, 3, none⟩ = some (.int .i64 0) := (blk_cell q3.out 3).trans rfl
  have he4 : P.cell? ⟨w.heap.size + 3, 4, none⟩ = some (.bool false) := (blk_cell q3.out 4).trans rfl
  have hf : P.cell? ⟨w.heap.size + 4, 0, none⟩ = some (.bool false) := (blk_cell q4.out 0).trans rfl
  have hz0 := blk_frozen q3.out 0
  have hz1 := blk_frozen q3.out 1
  have hz2 := blk_frozen q3.out 2
  have hz3 := blk_frozen q3.out 3
  have hz4 := blk_frozen q3.out 4
  have hz5 := blk_frozen q4.out 0
  by_cases h1 : x'.id = id
  ·have g1 : (x'.id == id) = true := by simpa using h1
   have HID := am h1
   clear h1
   by_cases h2 : x'.arg = arg
   ·have g2 : (x'.arg == arg) = true := by simpa using h2
    have HAR := am h2
    clear h2
    gi_wp2
    refine ⟨(keeps5 (Keeps.refl _ _ _ _ P) (by omega) (by omega) (fun h => h) _ _ _ _ _).setCell _ (by omega) (by omega) (fun h => h), rfl, ⟨(below5 bl.out (by omega) _ _ _ _ _).setCell (by omega : w.heap.size ≤ w.heap.size + 4) _⟩, x', ?_, ⟨blk_far (store5 q3.out _ _ _ _ _) (by simp) _⟩, ⟨blk_put (far5 q4.out (by omega) _ _ _ _ _) 0 _ rfl⟩⟩
    exact findL_some HX.out (by simp [Spot.at, HID.out, HAR.out]) nn.out
   have g2 : (x'.arg == arg) = false := by simpa using h2
   have HAR := am h2
   clear h2
   gi_wp2
   exact ⟨Keeps.refl _ _ _ _ P, bl, ⟨fun m q hm hq => by
    by_cases e : m = i
    ·subst e; rw [HX.out] at hq; cases hq; simp [Spot.at, HAR.out]
    exact nn.out m q (by omega) hq⟩, q1, q2, q3, q4, sz⟩
  have g1 : (x'.id == id) = false := by simpa using h1
  have HID := am h1
  clear h1
  gi_wp2
  exact ⟨Keeps.refl _ _ _ _ P, bl, ⟨fun m q hm hq => by
    by_cases e : m = i
    ·subst e; rw [HX.out] at hq; cases hq; simp [Spot.at, HID.out]
    exact nn.out m q (by omega) hq⟩, q1, q2, q3, q4, sz⟩
 case done =>
  rintro D V hle ⟨bl, nn, q1, q2, q3, q4, sz⟩ hD hDle
  have HF := am (findL_none (id := id) (arg := arg) nn.out)
  have he0 : V.cell? ⟨w.heap.size + 3, 0, none⟩ = some (.int .i64 0) := (blk_cell q3.out 0).trans rfl
  have he1 : V.cell? ⟨w.heap.size + 3, 1, none⟩ = some (.int .i64 0) := (blk_cell q3.out 1).trans rfl
  have he2 : V.cell? ⟨w.heap.size + 3, 2, none⟩ = some (.bool false) := (blk_cell q3.out 2).trans rfl
  have he3 : V.cell? ⟨w.heap.size + 3, 3, none⟩ = some (.int .i64 0) := (blk_cell q3.out 3).trans rfl
  have he4 : V.cell? ⟨w.heap.size + 3, 4, none⟩ = some (.bool false) := (blk_cell q3.out 4).trans rfl
  have hf : V.cell? ⟨w.heap.size + 4, 0, none⟩ = some (.bool false) := (blk_cell q4.out 0).trans rfl
  have hz0 := blk_frozen q3.out 0
  have hz1 := blk_frozen q3.out 1
  have hz2 := blk_frozen q3.out 2
  have hz3 := blk_frozen q3.out 3
  have hz4 := blk_frozen q3.out 4
  have hz5 := blk_frozen q4.out 0
  have HD := am hD
  clear hD
  gi_wp2
  have r3 := putObj_blk (D := D) (o' := .deferred none) (blk_far (p := ⟨w.heap.size + 4, 0, none⟩) (store5 q3.out (.int .i64 0) (.int .i64 0) (.bool false) (.int .i64 0) (.bool false)) (by simp) (.bool false)) (by omega)
  have r4 := putObj_blk (D := D) (o' := .deferred none) (blk_put (far5 (g := w.heap.size + 3) q4.out (by omega) (.int .i64 0) (.int .i64 0) (.bool false) (.int .i64 0) (.bool false)) 0 (.bool false) rfl) (by omega)
  refine leavesM1 (v := .tuple #[.agg #[.int .i64 0, .int .i64 0, .bool false, .int .i64 0, .bool false], .bool false]) ?_ ?_ ?_
  ·exact (Below.heap_setCell _ _ _ D (by simp; omega)).trans (far5 HD.out (by omega) _ _ _ _ _)
  ·have c0 := (blk_cell r3 0).trans rfl
   have c1 := (blk_cell r3 1).trans rfl
   have c2 := (blk_cell r3 2).trans rfl
   have c3 := (blk_cell r3 3).trans rfl
   have c4 := (blk_cell r3 4).trans rfl
   have c5 := (blk_cell r4 0).trans rfl
   simp [results, Tryz.results147, go_sem, c0, c1, c2, c3, c4, c5]
  rw [HF.out]
  exact ⟨rfl, below_putObj ((below5 bl.out (by omega) _ _ _ _ _).setCell (by simp; omega) _) (by omega)⟩
 case stop =>
  rintro D c i V hle hlt ⟨rfl, bl, p, hp, q3, q4⟩ hD hDle
  have HP := am hp
  clear hp
  gi_wp2
  have r3 := putObj_blk (D := D) (o' := .deferred none) q3.out (by omega)
  have r4 := putObj_blk (D := D) (o' := .deferred none) q4.out (by omega)
  refine leavesM1 (v := .tuple #[p.val, .bool true]) hD ?_ ?_
  ·have c0 := (blk_cell r3 0).trans rfl
   have c1 := (blk_cell r3 1).trans rfl
   have c2 := (blk_cell r3 2).trans rfl
   have c3 := (blk_cell r3 3).trans rfl
   have c4 := (blk_cell r3 4).trans rfl
   have c5 := (blk_cell r4 0).trans rfl
   simp [results, Tryz.results147, go_sem, c0, c1, c2, c3, c4, c5, Spot.val]
  rw [HP.out]
  exact ⟨rfl, below_putObj bl.out (by omega)⟩
theorem checkE_ok {ids : List S68} {n : Int} (h : checkE ids n = 0) : ids.length ≤ 8 ∧ (∀ x ∈ ids, x.f0.length ≤ 5) ∧ isBaseB n = true ∧ ∀ x ∈ ids, isTypeB x = true := by
 unfold checkE at h
 split at h
 ·omega
 rename_i h1
 split at h
 ·omega
 rename_i h2
 simp only [not_or, Bool.not_eq_true, Bool.not_eq_false] at h1 h2
 refine ⟨by omega, fun x hx => notLong h1.2 hx, h2.1, fun x hx => ?_⟩
 have := List.any_eq_false.1 h2.2 x hx
 simpa using this
theorem isBaseB_iff (n : Int) : isBaseB n = true ↔ 1 ≤ n ∧ n ≤ 64 := by simp [isBaseB]
theorem isTypeB_n {x : S68} (h : isTypeB x = true) : (1 ≤ x.f1.f1 ∧ x.f1.f1 ≤ 64) ∧ ∀ b ∈ x.f0, 1 ≤ b.f1 ∧ b.f1 ≤ 64 := by
 unfold isTypeB at h
 simp only [Bool.and_eq_true, Bool.not_eq_true'] at h
 refine ⟨(isBaseB_iff _).1 h.1.1, fun b hb => (isBaseB_iff _).1 ?_⟩
 have := List.any_eq_false.1 h.1.2 b hb
 simpa using this
theorem paramSpots_n (i : Nat) : ∀ (bs : List S24) (k : Nat), (∀ b ∈ bs, 1 ≤ b.f1 ∧ b.f1 ≤ 64) → ∀ p ∈ paramSpots i k bs, 1 ≤ p.n ∧ p.n ≤ 64
 | [], _, _, p, hp => by simp [paramSpots] at hp
 | b :: bs, k, h, p, hp => by
  rw [paramSpots, List.mem_cons] at hp
  rcases hp with rfl | hp
  ·exact h b (by simp)
  exact paramSpots_n i bs (k + 1) (fun b hb => h b (by simp [hb])) p hp
theorem idsSpots_n (j : Bool) : ∀ (ids : List S68) (i : Nat), (∀ x ∈ ids, isTypeB x = true) → ∀ p ∈ idsSpots j i ids, 1 ≤ p.n ∧ p.n ≤ 64
 | [], _, _, p, hp => by simp [idsSpots] at hp
 | x :: xs, i, h, p, hp => by
  rw [idsSpots, List.mem_cons, List.mem_append] at hp
  have hx := isTypeB_n (h x (by simp))
  rcases hp with rfl | hp | hp
  ·exact hx.1
  ·exact paramSpots_n i x.f0 0 hx.2 p hp
  exact idsSpots_n j xs (i + 1) (fun x hx => h x (by simp [hx])) p hp
theorem spotsL_n {ids : List S68} {rn : Int} (h : checkE ids rn = 0) (rc j : Bool) : ∀ p ∈ spotsL ids rc rn j, 1 ≤ p.n ∧ p.n ≤ 64 := by
 intro p hp
 obtain ⟨_, _, h3, h4⟩ := checkE_ok h
 rw [spotsL, List.mem_cons] at hp
 rcases hp with rfl | hp
 ·exact (isBaseB_iff _).1 h3
 exact idsSpots_n j ids 0 h4 p hp
theorem enters_moves : ∀ args w, (callFunc 131 args).run Tryz.prog w = .ok (.enter 131 args) w := enters_of Tryz.func131 (by kernel_rfl) rfl
def eqM (a b : S52) : Bool := a.f0 == b.f0 && (a.f1 == b.f1 && (a.f2 == b.f2 && a.f3 == b.f3))
def hasL (fr : Option Spot) (m : S52) : Bool := match fr with
 | none => false
 | some p => (movesL p).any (fun x => eqM x m)
set_option maxHeartbeats 4000000 in
theorem has_any (A : Option Addr) (c : Nat) (ids : List S68) (rc : Bool) (rn : Int) (j : Bool) (m : S52) (w : World) (hr : Kd.C k68 w A ids.length ids) (hok : checkE ids rn = 0) :
  Calls Tryz.prog 140 #[.agg #[.slice A ids.length c, .bool rc, .int .i64 rn, .bool j], .agg #[.int .i64 m.f0, .int .i64 m.f1, .int .u8 m.f2, .int .i64 m.f3]] w fun e w' =>
   e = .returned (.tuple #[spotOr (findL (spotsL ids rc rn j) m.f0 m.f1), .bool (hasL (findL (spotsL ids rc rn j) m.f0 m.f1) m)]) ∧ Below w.heap.size w w' := by
 obtain ⟨h8, h5, -, -⟩ := checkE_ok hok
 have HFIND := am (fun (V : World) (hb : Below w.heap.size w V) => find_any A c ids rc rn j m.f0 m.f1 V (Kd.C_below hr hb) (by omega) (fun x hx => by have := h5 x hx; omega))
 have HN := am (spotsL_n hok rc j)
 clear hr hok h5
 refine (callsIn_wide (n := 9)).1 ?_
 show CallsIn (FW none) 9 Tryz.prog 140 _ w _
 refine callsIn_of_wp_marks Tryz.func140 rfl trivial ?_ rfl
 simp only [Tryz.ntmps140, List.size_toArray, List.length_cons, List.length_nil, Nat.reduceAdd, Nat.reduceSub, Array.replicate_succ, Array.replicate_zero, List.push_toArray, List.append_toArray, List.nil_append, List.cons_append]
 have HB := am (below4 w (.cells #[.slice A ids.length c, .bool rc, .int .i64 rn, .bool j] 139) (.cells #[.int .i64 m.f0, .int .i64 m.f1, .int .u8 m.f2, .int .i64 m.f3] 52) (.cells #[.int .i64 0, .int .i64 0, .bool false, .int .i64 0, .bool false] 141) (.cells #[.bool false] 4))
 cases hf : findL (spotsL ids rc rn j) m.f0 m.f1 with
 | none =>
  have HF := am hf
  clear hf
  gi_wp2_with (fail)
  refine CallsIn.mono (callsIn_wide.2 (HFIND.out _ HB.out)) ?_
  rw [HF.out]
  simp only [spotOr, Option.isSome_none]
  rintro e w1 ⟨rfl, hb1⟩
  obtain ⟨hc, hf⟩ := bcell hb1
  have hz : w.heap.size + 4 ≤ w1.heap.size := by have := hb1.size; simp at this; omega
  have hz1 : w.heap.size + 1 + 1 < w1.heap.size := by omega
  have hz2 : w.heap.size + 1 + 1 + 1 < w1.heap.size := by omega
  have HF4 := am (four w _ (.cells #[.slice A ids.length c, .bool rc, .int .i64 rn, .bool j] 139) (.cells #[.int .i64 m.f0, .int .i64 m.f1, .int .u8 m.f2, .int .i64 m.f3] 52) (.cells #[.int .i64 0, .int .i64 0, .bool false, .int .i64 0, .bool false] 141) (.cells #[.bool false] 4) rfl)
  have K1 := am ((hb1.block _ (by simp)).trans HF4.out.2.2.1)
  have K2 := am ((hb1.block _ (by simp)).trans HF4.out.2.2.2.1)
  have K3 := am ((hb1.block _ (by simp)).trans HF4.out.2.2.2.2.1)
  have BW1 := am (HB.out.trans (hb1.mono (by simp; omega)))
  gi_wp2
  have r2 := blk_alloc (blk_far (p := ⟨w.heap.size + 3, 0, none⟩) (store5 K2.out (.int .i64 0) (.int .i64 0) (.bool false) (.int .i64 0) (.bool false)) (by simp) (.bool false)) (.cells #[.int .i64 0, .int .i64 0, .bool false, .int .i64 0, .bool false] 141)
  have r3 := blk_alloc (blk_put (far5 (g := w.heap.size + 2) K3.out (by omega) (.int .i64 0) (.int .i64 0) (.bool false) (.int .i64 0) (.bool false)) 0 (.bool false) rfl) (.cells #[.int .i64 0, .int .i64 0, .bool false, .int .i64 0, .bool false] 141)
  refine ⟨.tuple #[.agg #[.int .i64 0, .int .i64 0, .bool false, .int .i64 0, .bool false], .bool false], ?_, rfl, ?_⟩
  ·have c0 := (blk_cell r2 0).trans rfl
   have c1 := (blk_cell r2 1).trans rfl
   have c2 := (blk_cell r2 2).trans rfl
   have c3 := (blk_cell r2 3).trans rfl
   have c4 := (blk_cell r2 4).trans rfl
   have c5 := (blk_cell r3 0).trans rfl
   simp [results, Tryz.results140, go_sem, c0, c1, c2, c3, c4, c5]
  exact ((below5 BW1.out (by omega) _ _ _ _ _).setCell (by simp; omega) _).alloc (by simp; omega) _
 | some p =>
  have HF := am hf
  have hpn : p.n ≤ 64 := (HN.out p (List.mem_of_find?_eq_some hf)).2
  clear hf
  gi_wp2_with (fail)
  refine CallsIn.mono (callsIn_wide.2 (HFIND.out _ HB.out)) ?_
  rw [HF.out]
  simp only [spotOr, Spot.val, Option.isSome_some]
  rintro e w1 ⟨rfl, hb1⟩
  obtain ⟨hc, hf⟩ := bcell hb1
  have hz : w.heap.size + 4 ≤ w1.heap.size := by have := hb1.size; simp at this; omega
  have hz1 : w.heap.size + 1 + 1 < w1.heap.size := by omega
  have hz2 : w.heap.size + 1 + 1 + 1 < w1.heap.size := by omega
  have HF4 := am (four w _ (.cells #[.slice A ids.length c, .bool rc, .int .i64 rn, .bool j] 139) (.cells #[.int .i64 m.f0, .int .i64 m.f1, .int .u8 m.f2, .int .i64 m.f3] 52) (.cells #[.int .i64 0, .int .i64 0, .bool false, .int .i64 0, .bool false] 141) (.cells #[.bool false] 4) rfl)
  have K1 := am ((hb1.block _ (by simp)).trans HF4.out.2.2.1)
  have K2 := am ((hb1.block _ (by simp)).trans HF4.out.2.2.2.1)
  have K3 := am ((hb1.block _ (by simp)).trans HF4.out.2.2.2.2.1)
  have BW1 := am (HB.out.trans (hb1.mono (by simp; omega)))
  gi_wp2
  refine name_world ?_
  intro w2 hw
  have W2 := am (show w2.heap.size = w1.heap.size + 1 by rw [hw]; simp)
  have L1 := am (show w2.heap[w.heap.size + 1]? = some (.cells #[.int .i64 m.f0, .int .i64 m.f1, .int .u8 m.f2, .int .i64 m.f3] 52 (0, 0)) by rw [hw]; exact blk_alloc K1.out _)
  have L2 := am (show w2.heap[w.heap.size + 2]? = some (.cells #[.int .i64 0, .int .i64 0, .bool false, .int .i64 0, .bool false] 141 (0, 0)) by rw [hw]; exact blk_alloc K2.out _)
  have L3 := am (show w2.heap[w.heap.size + 3]? = some (.cells #[.bool false] 4 (0, 0)) by rw [hw]; exact blk_alloc K3.out _)
  have L6 := am (show w2.heap[w1.heap.size]? = some (.cells #[.int .i64 p.id, .int .i64 p.arg, .bool p.cell, .int .i64 p.n, .bool p.esc] 141 (0, 0)) by rw [hw]; exact heap_alloc_new _ _)
  have BW2 := am (show Below w.heap.size w w2 by rw [hw]; exact BW1.out.alloc (by omega) _)
  clear hw hc hf hb1
  have hge : w.heap.size + 5 ≤ w2.heap.size := by have := W2.out; omega
  have hge1 : w1.heap.size < w2.heap.size := by have := W2.out; omega
  obtain ⟨B6, hB6⟩ : ∃ B6, B6 = w1.heap.size := ⟨_, rfl⟩
  rw [← hB6] at L6 hge1 hz hz1 hz2 ⊢
  have HB6 := am hB6
  clear hB6
  refine wp_range (gf := 131) (bs := #[.agg #[.int .i64 p.id, .int .i64 p.arg, .bool p.cell, .int .i64 p.n, .bool p.esc]]) (lb := #[]) rfl enters_moves (moves_gives p w.heap.size w (by omega)) (hb0 := BW2.out) (hn := by omega) (hwr := fun _ h => h.elim) (hown := fun _ h => h.elim)
   (hPre := fun _ _ => trivial) (hps := fun _ => rfl)
   (fun i V => Aside0 (Below w.heap.size w V) ∧ Aside0 (∀ k q, k < i → (movesL p)[k]? = some q → eqM q m = false) ∧ Aside0 (V.heap[w.heap.size + 1]? = some (.cells #[.int .i64 m.f0, .int .i64 m.f1, .int .u8 m.f2, .int .i64 m.f3] 52 (0, 0))) ∧
    Aside0 (V.heap[w.heap.size + 2]? = some (.cells #[.int .i64 0, .int .i64 0, .bool false, .int .i64 0, .bool false] 141 (0, 0))) ∧ Aside0 (V.heap[w.heap.size + 3]? = some (.cells #[.bool false] 4 (0, 0))) ∧ Aside0 (V.heap[B6]? = some (.cells #[.int .i64 p.id, .int .i64 p.arg, .bool p.cell, .int .i64 p.n, .bool p.esc] 141 (0, 0))) ∧ Aside0 (w2.heap.size ≤ V.heap.size))
   (fun c i V => c = .ret ∧ Aside0 (Below w.heap.size w V) ∧ (movesL p).any (fun x => eqM x m) = true ∧ Aside0 (V.heap[w.heap.size + 2]? = some (.cells #[.int .i64 p.id, .int .i64 p.arg, .bool p.cell, .int .i64 p.n, .bool p.esc] 141 (0, 0))) ∧ Aside0 (V.heap[w.heap.size + 3]? = some (.cells #[.bool true] 4 (0, 0)))) ?hI ?hIx ?h0
   (fun i a₁ V => ∃ x, (movesL p)[i]? = some x ∧ ∃ Bx, Aside0 (V.heap[Bx]? = some (.cells #[.int .i64 x.f0, .int .i64 x.f1, .int .u8 x.f2, .int .i64 x.f3] 52 (0, 0))) ∧ Aside0 (w2.heap.size ≤ Bx) ∧ ∃ x0 x1 x7 x9 x10 x11 x12 x13 x14 x15 x16 x17 x18 x19 x20 x21 x22 x23 x24 x25 x26 x27 x28 : Value, a₁ = { tmps := #[x0, x1, .pointer (some ⟨w.heap.size, 0, none⟩), .pointer (some ⟨w.heap.size + 1, 0, none⟩), .pointer (some ⟨w.heap.size + 1 + 1, 0, none⟩), .pointer (some ⟨w.heap.size + 1 + 1 + 1, 0, none⟩), .pointer (some ⟨B6, 0, none⟩), x7, .pointer (some ⟨Bx, 0, none⟩), x9, x10, x11, x12, x13, x14, x15, x16, x17, x18, x19, x20, x21, x22, x23, x24, x25, x26, x27, x28], defers := [] }) ?hAx ?assign ?body ?done ?stop
  case hI =>
   rintro i P Q ⟨bl, nn, q1, q2, q3, q6, sz⟩ hs
   exact ⟨⟨hs.below bl.out (by omega) (by intro k h; exact h.elim) (by have := sz.out; omega)⟩, nn, ⟨hs.blk q1.out (fun h => h)⟩, ⟨hs.blk q2.out (fun h => h)⟩, ⟨hs.blk q3.out (fun h => h)⟩, ⟨hs.blk q6.out (fun h => h)⟩, ⟨Nat.le_trans sz.out hs.1.2.2.2⟩⟩
  case hIx =>
   rintro c i P Q ⟨hc, bl, hp, q3, q4⟩ hs
   exact ⟨hc, ⟨hs.below bl.out (by omega) (by intro k h; exact h.elim) (by have := blk_lt q3.out; omega)⟩, hp, ⟨hs.blk q3.out (fun h => h)⟩, ⟨hs.blk q4.out (fun h => h)⟩⟩
  case h0 => exact ⟨BW2, ⟨fun k q h => by omega⟩, L1, L2, L3, L6, ⟨Nat.le_refl _⟩⟩
  case hAx =>
   rintro i a₁ P Q ⟨x, hx, Bx, bx, hlt, r⟩ hs
   exact ⟨x, hx, Bx, ⟨hs.blk bx.out (fun h => h)⟩, hlt, r⟩
  case assign =>
   intro n l i x P K hx ⟨bl, nn, q1, q2, q3, q6, sz⟩ hle hK
   simp only [encM, mval, List.zip_toArray, List.zip_cons_cons, List.zip_nil_right, List.size_toArray, List.foldl_toArray', List.foldl_cons, List.foldl_nil]
   gi_wp2
   exact hK _ _ ((Below.refl _ P).alloc (Nat.le_refl _) _) ⟨x, hx, P.heap.size, ⟨heap_alloc_new P _⟩, ⟨sz.out⟩, _, _, _, _, _, _, _, _, _, _, _, _, _, _, _, _, _, _, _, _, _, _, _, rfl⟩
  case body =>
   rintro n l i x a₁ P hx ⟨bl, nn, q1, q2, q3, q6, sz⟩ ⟨x', hx', Bx, bx, hlt, x0, x1, x7, x9, x10, x11, x12, x13, x14, x15, x16, x17, x18, x19, x20, x21, x22, x23, x24, x25, x26, x27, x28, rfl⟩ hle
   obtain rfl : x' = x := Option.some.inj (hx'.symm.trans hx)
   clear hx'
   have HX := am hx
   clear hx
   have hm0 : P.cell? ⟨w.heap.size + 1, 0, none⟩ = some (.int .i64 m.f0) := (blk_cell q1.out 0).trans rfl
   have hm1 : P.cell? ⟨w.heap.size + 1, 1, none⟩ = some (.int .i64 m.f1) := (blk_cell q1.out 1).trans rfl
   have hm2 : P.cell? ⟨w.heap.size + 1, 2, none⟩ = some (.int .u8 m.f2) := (blk_cell q1.out 2).trans rfl
   have hm3 : P.cell? ⟨w.heap.size + 1, 3, none⟩ = some (.int .i64 m.f3) := (blk_cell q1.out 3).trans rfl
   have hd0 : P.cell? ⟨Bx, 0, none⟩ = some (.int .i64 x'.f0) := (blk_cell bx.out 0).trans rfl
   have hd1 : P.cell? ⟨Bx, 1, none⟩ = some (.int .i64 x'.f1) := (blk_cell bx.out 1).trans rfl
   have hd2 : P.cell? ⟨Bx, 2, none⟩ = some (.int .u8 x'.f2) := (blk_cell bx.out 2).trans rfl
   have hd3 : P.cell? ⟨Bx, 3, none⟩ = some (.int .i64 x'.f3) := (blk_cell bx.out 3).trans rfl
   have hp0 : P.cell? ⟨B6, 0, none⟩ = some (.int .i64 p.id) := (blk_cell q6.out 0).trans rfl
   have hp1 : P.cell? ⟨B6, 1, none⟩ = some (.int .i64 p.arg) := (blk_cell q6.out 1).trans rfl
   have hp2 : P.cell? ⟨B6, 2, none⟩ = some (.bool p.cell) := (blk_cell q6.out 2).trans rfl
   have hp3 : P.cell? ⟨B6, 3, none⟩ = some (.int .i64 p.n) := (blk_cell q6.out 3).trans rfl
   have hp4 : P.cell? ⟨B6, 4, none⟩ = some (.bool p.esc) := (blk_cell q6.out 4).trans rfl
   have he0 : P.cell? ⟨w.heap.size + 2, 0, none⟩ = some (.int .i64 0) := (blk_cell q2.out 0).trans rfl
   have he1 : P.cell? ⟨w.heap.size + 2, 1, none⟩ = some (.int .i64 0) := (blk_cell q2.out 1).trans rfl
   have he2 : P.cell? ⟨w.heap.size + 2, 2, none⟩ = some (.bool false) := (blk_cell q2.out 2).trans rfl
   have he3 : P.cell? ⟨w.heap.size + 2, 3, none⟩ = some (.int .i64 0) := (blk_cell q2.out 3).trans rfl
   have he4 : P.cell? ⟨w.heap.size + 2, 4, none⟩ = some (.bool false) := (blk_cell q2.out 4).trans rfl
   have hf : P.cell? ⟨w.heap.size + 3, 0, none⟩ = some (.bool false) := (blk_cell q3.out 0).trans rfl
   have hz0 := blk_frozen q2.out 0
   have hz1 := blk_frozen q2.out 1
   have hz2 := blk_frozen q2.out 2
   have hz3 := blk_frozen q2.out 3
   have hz4 := blk_frozen q2.out 4
   have hz5 := blk_frozen q3.out 0
   gi_wp2
   ·rename_i e0 e1 e2 e3
    have he : eqM x' m = true := by simp [eqM, e0, e1, e2, e3]
    exact ⟨(keeps5 (Keeps.refl _ _ _ _ P) (by omega) (by omega) (fun h => h) _ _ _ _ _).setCell _ (by omega) (by omega) (fun h => h), rfl, ⟨(below5 bl.out (by omega) _ _ _ _ _).setCell (by omega : w.heap.size ≤ w.heap.size + 3) _⟩, List.any_eq_true.2 ⟨x', List.mem_of_getElem? HX.out, he⟩, ⟨blk_far (store5 q2.out _ _ _ _ _) (by simp) _⟩, ⟨blk_put (far5 q3.out (by omega) _ _ _ _ _) 0 _ rfl⟩⟩
   all_goals
    rename_i hne
    have he : eqM x' m = false := by simp [eqM, hne]
    refine ⟨Keeps.refl _ _ _ _ P, bl, ⟨fun k q hk hq => ?_⟩, q1, q2, q3, q6, sz⟩
    by_cases e : k = i
    ·subst e
     rw [HX.out] at hq
     cases hq
     exact he
    exact nn.out k q (by omega) hq
  case done =>
   rintro D V hle ⟨bl, nn, q1, q2, q3, q6, sz⟩ hD hDle
   have HA := am (show (movesL p).any (fun x => eqM x m) = false by
    rw [List.any_eq_false]
    intro x hx
    obtain ⟨k, hk, rfl⟩ := List.getElem_of_mem hx
    have := nn.out k _ hk (List.getElem?_eq_getElem hk)
    simp [this])
   have hp0 : V.cell? ⟨B6, 0, none⟩ = some (.int .i64 p.id) := (blk_cell q6.out 0).trans rfl
   have hp1 : V.cell? ⟨B6, 1, none⟩ = some (.int .i64 p.arg) := (blk_cell q6.out 1).trans rfl
   have hp2 : V.cell? ⟨B6, 2, none⟩ = some (.bool p.cell) := (blk_cell q6.out 2).trans rfl
   have hp3 : V.cell? ⟨B6, 3, none⟩ = some (.int .i64 p.n) := (blk_cell q6.out 3).trans rfl
   have hp4 : V.cell? ⟨B6, 4, none⟩ = some (.bool p.esc) := (blk_cell q6.out 4).trans rfl
   have he0 : V.cell? ⟨w.heap.size + 2, 0, none⟩ = some (.int .i64 0) := (blk_cell q2.out 0).trans rfl
   have he1 : V.cell? ⟨w.heap.size + 2, 1, none⟩ = some (.int .i64 0) := (blk_cell q2.out 1).trans rfl
   have he2 : V.cell? ⟨w.heap.size + 2, 2, none⟩ = some (.bool false) := (blk_cell q2.out 2).trans rfl
   have he3 : V.cell? ⟨w.heap.size + 2, 3, none⟩ = some (.int .i64 0) := (blk_cell q2.out 3).trans rfl
   have he4 : V.cell? ⟨w.heap.size + 2, 4, none⟩ = some (.bool false) := (blk_cell q2.out 4).trans rfl
   have hf : V.cell? ⟨w.heap.size + 3, 0, none⟩ = some (.bool false) := (blk_cell q3.out 0).trans rfl
   have hz0 := blk_frozen q2.out 0
   have hz1 := blk_frozen q2.out 1
   have hz2 := blk_frozen q2.out 2
   have hz3 := blk_frozen q2.out 3
   have hz4 := blk_frozen q2.out 4
   have hz5 := blk_frozen q3.out 0
   have HD := am hD
   clear hD
   gi_wp2
   have r2 := putObj_blk (D := D) (o' := .deferred none) (blk_far (p := ⟨w.heap.size + 3, 0, none⟩) (store5 q2.out (.int .i64 p.id) (.int .i64 p.arg) (.bool p.cell) (.int .i64 p.n) (.bool p.esc)) (by simp) (.bool false)) (by omega)
   have r3 := putObj_blk (D := D) (o' := .deferred none) (blk_put (far5 (g := w.heap.size + 2) q3.out (by omega) (.int .i64 p.id) (.int .i64 p.arg) (.bool p.cell) (.int .i64 p.n) (.bool p.esc)) 0 (.bool false) rfl) (by omega)
   refine leavesM1 (v := .tuple #[.agg #[.int .i64 p.id, .int .i64 p.arg, .bool p.cell, .int .i64 p.n, .bool p.esc], .bool false]) ?_ ?_ ?_
   ·exact (Below.heap_setCell _ _ _ D (by simp; omega)).trans (far5 HD.out (by omega) _ _ _ _ _)
   ·have c0 := (blk_cell r2 0).trans rfl
    have c1 := (blk_cell r2 1).trans rfl
    have c2 := (blk_cell r2 2).trans rfl
    have c3 := (blk_cell r2 3).trans rfl
    have c4 := (blk_cell r2 4).trans rfl
    have c5 := (blk_cell r3 0).trans rfl
    simp [results, Tryz.results140, go_sem, c0, c1, c2, c3, c4, c5]
   refine ⟨?_, below_putObj ((below5 bl.out (by omega) _ _ _ _ _).setCell (by simp; omega) _) (by omega)⟩
   simp only [hasL, HA.out]
   rfl
  case stop =>
   rintro D c i V hle hlt ⟨rfl, bl, hp, q2, q3⟩ hD hDle
   have HA := am hp
   clear hp
   gi_wp2
   have r2 := putObj_blk (D := D) (o' := .deferred none) q2.out (by omega)
   have r3 := putObj_blk (D := D) (o' := .deferred none) q3.out (by omega)
   refine leavesM1 (v := .tuple #[.agg #[.int .i64 p.id, .int .i64 p.arg, .bool p.cell, .int .i64 p.n, .bool p.esc], .bool true]) hD ?_ ?_
   ·have c0 := (blk_cell r2 0).trans rfl
    have c1 := (blk_cell r2 1).trans rfl
    have c2 := (blk_cell r2 2).trans rfl
    have c3 := (blk_cell r2 3).trans rfl
    have c4 := (blk_cell r2 4).trans rfl
    have c5 := (blk_cell r3 0).trans rfl
    simp [results, Tryz.results140, go_sem, c0, c1, c2, c3, c4, c5]
   refine ⟨?_, below_putObj bl.out (by omega)⟩
   simp only [hasL, HA.out]
   rfl
end Go.Proofs.YtjgocihflhljeaaGreat.P
