/- What the claim's law needs, many texts in one (Q3 Cb). No conditions of its own. -/
import Derived.Test.YtjgocihflhljeaaGreatZl2
import Derived.Test.YtjgocihflhljeaaGreatZl15
import Derived.Test.YtjgocihflhljeaaGreatZl9
import Derived.Test.YtjgocihflhljeaaGreatZl14
set_option linter.unusedVariables false
set_option linter.unusedSimpArgs false
namespace Go.Proofs.YtjgocihflhljeaaGreat.P
open Go.RowKit Go.Proofs.YtjgocihflhljeaaGreatW.PrintWords Go.Proofs.YtjgocihflhljeaaGreatW.PrintLast Go.Proofs.YtjgocihflhljeaaGreatW.PrintMore
attribute [local go_sem] max2_int max_two
mutual
def riposteref05_Parse.l0 : Nat → ByteArray → Int → Int → Option ((List (S52)) × Int)
 | 0, _, _, _ => none
 | k + 1, x0, x4, x5 => if x5 < (x0.size : Int) then (if 0 ≤ x5 then (if (bt x0 x5) = 32 then (riposteref05_Parse.l0 k x0 (wrap64 (x4 + 1)) (wrap64 (x5 + 1))) else (riposteref05_Parse.l0 k x0 x4 (wrap64 (x5 + 1)))) else (none)) else (if x4 ≥ 400 then (some (([] : List (S52)), 5)) else (if x0.toList = ([] : List UInt8) then (some (([] : List (S52)), 0)) else ((riposteref04_Split.f k x0 (⟨#[32]⟩ : ByteArray)).bind fun t122 => (riposteref05_Parse.l1 k t122 ([] : List (S52)) 0))))
def riposteref05_Parse.l1 : Nat → List ByteArray → List (S52) → Int → Option ((List (S52)) × Int)
 | 0, _, _, _ => none
 | k + 1, x6, x7, x8 => if x8 < (x6.length : Int) then (if 0 ≤ x8 then ((riposteref04_Parse.f k (rdOf ByteArray.empty x6 x8)).bind fun bt126 => (if bt126.2.2.2.2 = 0 then (if x7.length < 4398046511104 then (riposteref05_Parse.l1 k x6 (x7 ++ [(⟨bt126.1, bt126.2.1, bt126.2.2.1, bt126.2.2.2.1⟩ : S52)]) (wrap64 (x8 + 1))) else (none)) else (some (([] : List (S52)), bt126.2.2.2.2)))) else (none)) else (some (x7, 0))
end
def riposteref05_Parse.f (k : Nat) (a0 : ByteArray) : Option ((List (S52)) × Int) := riposteref05_Parse.l0 k a0 0 0
set_option maxHeartbeats 8000000 in
set_option maxRecDepth 100000 in
theorem riposteref05_Parse.calls (k : Nat) (a0 : ByteArray) (r1 : List (S52)) (r2 : Int) (w : World) (h : riposteref05_Parse.f k a0 = some (r1, r2)) :
  Calls Tryz.prog 91 #[.string a0] w fun e w' => ∃ v0_ : Value, e = .returned (.tuple #[v0_, .int .i64 r2]) ∧ Kd.R k52 52 w' w.heap.size (fun _ => True) v0_ r1 ∧ Below w.heap.size w w' := by
 have hu52 := Tryz.underlying52
 have HB := am (Below.refl w.heap.size w)
 have H : (riposteref05_Parse.l0 k a0 0 0) = some (r1, r2) := h
 clear h
 have H' := am H
 clear H
 go_enter Tryz.func91, Tryz.ntmps91
 go_wp2
 go_loopg [4, 5] k (fun kq v4 v5 w' => ∃ (x4_1 : Int) (x5_1 : Int), v4 = .int .i64 x4_1 ∧ v5 = .int .i64 x5_1 ∧ Aside0 (riposteref05_Parse.l0 kq a0 x4_1 x5_1 = some (r1, r2)) ∧ Aside0 (kq ≤ k) ∧ Aside0 (Below w.heap.size w w'))
 case atStart => exact ⟨(0), (0), (by first | rfl), (by first | rfl), H', ⟨Nat.le_refl _⟩, ⟨by exact HB.out⟩⟩
 case round =>
  clear H'
  obtain ⟨x4_1, x5_1, rfl, rfl, HA, HK1, HB⟩ := hrel
  cases gk with
  | zero => exact absurd HA.out (by simp [riposteref05_Parse.l0])
  | succ k1 =>
   have H := HA.out
   clear HA
   simp only [riposteref05_Parse.l0] at H
   by_cases c2 : x5_1 < (a0.size : Int)
   ·rw [if_pos c2] at H
    have c2b0 : decide (x5_1 < (a0.size : Int)) = true := decide_eq_true c2
    clear c2
    by_cases c3 : 0 ≤ x5_1
    ·rw [if_pos c3] at H
     have c3b0 : decide (0 ≤ x5_1) = true := decide_eq_true c3
     clear c3
     by_cases c5 : (bt a0 x5_1) = 32
     ·rw [if_pos c5] at H
      have c5b0 : ((bt a0 x5_1) == 32) = true := beq_iff_eq.mpr c5
      have c5b1 : ((bt a0 x5_1) != 32) = false := bne_eq_false_iff_eq.mpr c5
      clear c5
      have H' := am H
      clear H
      have p4 : 0 ≤ (x5_1 : Int) := of_decide_eq_true (by first | (with_reducible assumption))
      have q4 : x5_1 < (a0.size : Int) := of_decide_eq_true (by first | (with_reducible assumption))
      have hx4 := bt_at a0 x5_1
      replace p4 := eq_true p4
      replace q4 := eq_true q4
      go_wp2
      go_roundg k1
      case measure => have := HK1.out; omega
      case rel => exact ⟨(wrap64 (x4_1 + 1)), (wrap64 (x5_1 + 1)), (by first | rfl), (by first | rfl), H', ⟨by have := HK1.out; omega⟩, ⟨by exact HB.out⟩⟩
     rw [if_neg c5] at H
     have c5b0 : ((bt a0 x5_1) == 32) = false := beq_eq_false_iff_ne.mpr c5
     have c5b1 : ((bt a0 x5_1) != 32) = true := bne_iff_ne.mpr c5
     have H' := am H
     clear H
     have p4 : 0 ≤ (x5_1 : Int) := of_decide_eq_true (by first | (with_reducible assumption))
     have q4 : x5_1 < (a0.size : Int) := of_decide_eq_true (by first | (with_reducible assumption))
     have hx4 := bt_at a0 x5_1
     replace p4 := eq_true p4
     replace q4 := eq_true q4
     go_wp2
     go_roundg k1
     case measure => have := HK1.out; omega
     case rel => exact ⟨(x4_1), (wrap64 (x5_1 + 1)), (by first | rfl), (by first | rfl), H', ⟨by have := HK1.out; omega⟩, ⟨by exact HB.out⟩⟩
    rw [if_neg c3] at H
    exact absurd H (by simp)
   rw [if_neg c2] at H
   have c2b0 : decide (x5_1 < (a0.size : Int)) = false := decide_eq_false c2
   clear c2
   by_cases c6 : x4_1 ≥ 400
   ·rw [if_pos c6] at H
    have c6b0 : decide (400 ≤ x4_1) = true := decide_eq_true c6
    clear c6
    simp only [Option.some.injEq, Prod.mk.injEq] at H
    obtain ⟨rfl, rfl⟩ := H
    go_wp2
    go_ret2
    exact ⟨_, by first | rfl, by first | exact Kd.R_nil _ _ _ _ _, by exact HB.out⟩
   rw [if_neg c6] at H
   have c6b0 : decide (400 ≤ x4_1) = false := decide_eq_false c6
   clear c6
   by_cases c7 : a0.toList = ([] : List UInt8)
   ·rw [if_pos c7] at H
    have c7b0 : (a0.toList == ([] : List UInt8)) = true := beq_iff_eq.mpr c7
    have c7b1 : (a0.toList != ([] : List UInt8)) = false := bne_eq_false_iff_eq.mpr c7
    clear c7
    simp only [Option.some.injEq, Prod.mk.injEq] at H
    obtain ⟨rfl, rfl⟩ := H
    go_wp2
    go_ret2
    exact ⟨_, by first | rfl, by first | exact Kd.R_nil _ _ _ _ _, by exact HB.out⟩
   rw [if_neg c7] at H
   have c7b0 : (a0.toList == ([] : List UInt8)) = false := beq_eq_false_iff_ne.mpr c7
   have c7b1 : (a0.toList != ([] : List UInt8)) = true := bne_iff_ne.mpr c7
   replace H := Option.bind_eq_some_iff.mp H
   obtain ⟨t122, A80, H⟩ := H
   replace H : (riposteref05_Parse.l1 k1 t122 ([] : List (S52)) 0) = some (r1, r2) := H
   have A8 := am A80
   clear A80
   have H' := am H
   clear H
   go_wp2_with (first | ((with_reducible refine gate_callee (f := 113) rfl ?_); refine goesL_ (some 28) rfl rfl Tryz.func113 (by kernel_rfl) rfl #[.string a0, .string (⟨#[32]⟩ : ByteArray)] rfl (by (try simp only [List.map_toArray, List.map_cons, List.map_nil]); first | rfl) ?_; (with_reducible refine (riposteref04_Split.calls k1 a0 (⟨#[32]⟩ : ByteArray) t122 _ A8.out).mono ?_); rintro e w9 ⟨v123, rfl, ho0, hb⟩; refine ⟨_, rfl, ?_⟩; have n0_ := am (Kd.R_lower ho0 (below_size HB.out)); have n1_ := am (below_step HB.out hb); clear HB; have HO124 := n0_; have HB := n1_; clear n0_ n1_; (try clear hb); (try clear hb2); (try clear hk); (try clear hi); (try clear ho0)))
   go_loopg [7, 8] k1 (fun kq v7 v8 w' => ∃ (x7_2 : List (S52)) (x8_2 : Int), v8 = .int .i64 x8_2 ∧ Aside0 (riposteref05_Parse.l1 kq t122 x7_2 x8_2 = some (r1, r2)) ∧ Aside0 (kq ≤ k1) ∧ Aside0 (Kd.R Kd.string 9 w' w.heap.size (fun _ => True) v123 t122) ∧ Aside0 (Kd.R k52 52 w' w.heap.size (fun _ => True) v7 x7_2) ∧ Aside0 (Below w.heap.size w w'))
   case atStart => exact ⟨(([] : List (S52))), (0), (by first | rfl), H', ⟨Nat.le_refl _⟩, ⟨by exact HO124.out⟩, ⟨by first | exact Kd.R_nil _ _ _ _ _⟩, ⟨by exact HB.out⟩⟩
   case round =>
    clear H'
    try clear c1
    try clear c2
    try clear c2b0
    try clear p2
    try clear c3
    try clear c3b0
    try clear p4
    try clear q4
    try clear hx4
    try clear c5
    try clear c5b0
    try clear c5b1
    try clear c6
    try clear c6b0
    try clear p6
    try clear c7
    try clear c7b0
    try clear c7b1
    try clear c9
    try clear p4
    try clear q4
    obtain ⟨x7_2, x8_2, rfl, HA, HK2, HO_6, HO_7, HB⟩ := hrel
    cases gk with
    | zero => exact absurd HA.out (by simp [riposteref05_Parse.l1])
    | succ k2 =>
     have H := HA.out
     clear HA
     simp only [riposteref05_Parse.l1] at H
     by_cases c10 : x8_2 < (t122.length : Int)
     ·rw [if_pos c10] at H
      have c10b0 : decide (x8_2 < (t122.length : Int)) = true := decide_eq_true c10
      clear c10
      by_cases c11 : 0 ≤ x8_2
      ·rw [if_pos c11] at H
       have c11b0 : decide (0 ≤ x8_2) = true := decide_eq_true c11
       clear c11
       replace H := Option.bind_eq_some_iff.mp H
       obtain ⟨⟨t126, t127, t128, t129, t130⟩, A120, H⟩ := H
       replace H : (if t130 = 0 then (if x7_2.length < 4398046511104 then (riposteref05_Parse.l1 k2 t122 (x7_2 ++ [(⟨t126, t127, t128, t129⟩ : S52)]) (wrap64 (x8_2 + 1))) else (none)) else (some (([] : List (S52)), t130))) = some (r1, r2) := H
       have A12 := am A120
       clear A120
       by_cases c13 : t130 = 0
       ·rw [if_pos c13] at H
        have c13b0 : (t130 == 0) = true := beq_iff_eq.mpr c13
        have c13b1 : (t130 != 0) = false := bne_eq_false_iff_eq.mpr c13
        clear c13
        by_cases c14 : x7_2.length < 4398046511104
        ·rw [if_pos c14] at H
         have LMc14 := am c14
         clear c14
         obtain ⟨y132, hy132⟩ : ∃ y_ : List (S52), y_ = (x7_2 ++ [(⟨t126, t127, t128, t129⟩ : S52)]) := ⟨_, rfl⟩
         replace H : (riposteref05_Parse.l1 k2 t122 y132 (wrap64 (x8_2 + 1))) = some (r1, r2) := by first | (rw [hy132]; with_reducible exact H)
         have Ny132 := am hy132
         clear hy132
         have H' := am H
         clear H
         obtain ⟨Ao15, co15, eo15⟩ := Kd.R_slice HO_6.out
         subst eo15
         have p125 : 0 ≤ (x8_2 : Int) := of_decide_eq_true (by first | (with_reducible assumption))
         have q125 : x8_2 < (t122.length : Int) := of_decide_eq_true (by first | (with_reducible assumption))
         obtain ⟨ad125, e125, hx125_0⟩ := Kd.at_string (Kd.R_reads' HO_6.out).2.2 x8_2 p125 q125
         cases e125
         replace p125 := eq_true p125
         replace q125 := eq_true q125
         go_wp2_with (first | ((with_reducible refine gate_callee (f := 114) rfl ?_); refine goesL_ (some 40) rfl rfl Tryz.func114 (by kernel_rfl) rfl #[.string (rdOf ByteArray.empty t122 x8_2)] rfl (by (try simp only [List.map_toArray, List.map_cons, List.map_nil]); first | rfl) ?_; (with_reducible refine (riposteref04_Parse.calls k2 (rdOf ByteArray.empty t122 x8_2) t126 t127 t128 t129 t130 _ A12.out).mono ?_); rintro e w16 ⟨rfl, hb⟩; refine ⟨_, rfl, ?_⟩; have n0_ := am (Kd.R_below HO_6.out hb); have n1_ := am (Kd.R_below HO_7.out hb); have n2_ := am (below_step HB.out hb); clear HO_6; clear HO_7; clear HB; have HO_6 := n0_; have HO_7 := n1_; have HB := n2_; clear n0_ n1_ n2_; (try clear hb); (try clear hb2); (try clear hk); (try clear hi)) | ((with_reducible refine gate_dst (N := 9) rfl ?_); refine box_event ?hg (N := 9) ?hd (cs := #[.int .i64 0, .int .i64 0, .int .u8 0, .int .i64 0]) (t := 52) ?hr ?_; (case hd => rfl); (case hg => rfl); (case hr => go_simp); intro gb131 hg w17 hbox hb; have n0_ := am (Kd.R_below HO_6.out hb); have n1_ := am (Kd.R_below (Kd.R_elderB HO_7.out gb131 (Nat.le_of_eq hg.symm)) hb); have n2_ := am (below_step HB.out hb); have n3_ := am (hbox); have n4_ := am ((by rw [hg]; exact (below_size HB.out) : w.heap.size ≤ gb131)); have n5_ := am ((by rw [hg]; exact (below_size HB.out) : w.heap.size ≤ gb131)); clear HO_6; clear HO_7; clear HB; have HO_6 := n0_; have HO_7 := n1_; have HB := n2_; have BK131 := n3_; have GW131 := n4_; have GE131 := n5_; clear n0_ n1_ n2_ n3_ n4_ n5_; clear hb hbox hg; have hcz18_0 : w17.cell? ⟨gb131, 0, none⟩ = some (.int .i64 0) := (blk_cell BK131.out 0).trans rfl; have hcz18_1 : w17.cell? ⟨gb131, 1, none⟩ = some (.int .i64 0) := (blk_cell BK131.out 1).trans rfl; have hcz18_2 : w17.cell? ⟨gb131, 2, none⟩ = some (.int .u8 0) := (blk_cell BK131.out 2).trans rfl; have hcz18_3 : w17.cell? ⟨gb131, 3, none⟩ = some (.int .i64 0) := (blk_cell BK131.out 3).trans rfl; have hfz18_0 := blk_frozen BK131.out 0; have hfz18_1 := blk_frozen BK131.out 1; have hfz18_2 := blk_frozen BK131.out 2; have hfz18_3 := blk_frozen BK131.out 3) | ((with_reducible refine gate_builtin (b := .append) (xs := #[.tmp 46, .tmp 48]) rfl ?_); at_builtin; refine Kd.R_append k52 (w0 := w) w.heap.size rfl (.tmp 46) (.tmp 48) 28 52 (.agg #[(.int .i64 0), (.int .i64 0), (.int .u8 0), (.int .i64 0)]) 32 rfl Tryz.underlying28 info52 rfl (by decide) (by omega) u7 x7_2 (⟨t126, t127, t128, t129⟩ : S52) [.int .i64 t126, .int .i64 t127, .int .u8 t128, .int .i64 t129] (fun k_ => k_ ≠ gb131) (fun _ => False) rfl (by go_simp) ?aP (fun _ hk => hk.elim) ?aF ?aO ?aB ?aS ?aL ?_; (case aP => exact k52_mkM _ _ _ (⟨t126, t127, t128, t129⟩ : S52)); (case aB => exact (by repeat (first | (with_reducible first | exact HB.out | refine below_set ?_ GE131.out)))); (case aF => exact (fun k_ hk => Kd.freshB (g := gb131) (o := .cells #[.int .i64 t126, .int .i64 t127, .int .u8 t128, .int .i64 t129] 52 (0, 0)) (by refine blk_put (cs := #[.int .i64 t126, .int .i64 t127, .int .u8 t128, .int .i64 0]) ?_ 3 _ rfl; refine blk_put (cs := #[.int .i64 t126, .int .i64 t127, .int .u8 0, .int .i64 0]) ?_ 2 _ rfl; refine blk_put (cs := #[.int .i64 t126, .int .i64 0, .int .u8 0, .int .i64 0]) ?_ 1 _ rfl; refine blk_put (cs := #[.int .i64 0, .int .i64 0, .int .u8 0, .int .i64 0]) ?_ 0 _ rfl; exact BK131.out) k_ hk)); (case aO => exact (by exact Kd.R_mono (Kd.R_far (p := ⟨gb131, 3, none⟩) (Kd.R_far (p := ⟨gb131, 2, none⟩) (Kd.R_far (p := ⟨gb131, 1, none⟩) (Kd.R_far (p := ⟨gb131, 0, none⟩) (Kd.R_mono HO_7.out (fun k_ hk => (⟨hk, hk.2⟩ : _ ∧ k_ ≠ gb131))) (fun _ hk => hk.2) (.int .i64 t126)) (fun _ hk => hk.2) (.int .i64 t127)) (fun _ hk => hk.2) (.int .u8 t128)) (fun _ hk => hk.2) (.int .i64 t129)) (fun _ hk => hk.1.2))); (case aS => exact (below_size (by repeat (first | (with_reducible first | exact HB.out | refine below_set ?_ GE131.out))))); (case aL => have := LMc14.out; omega); intro v133 w19 ho hb hg hat; rw [← Ny132.out] at ho; have n0_ := am (Kd.R_over' (by exact (Kd.R_mono (Kd.R_far (p := ⟨gb131, 3, none⟩) (Kd.R_far (p := ⟨gb131, 2, none⟩) (Kd.R_far (p := ⟨gb131, 1, none⟩) (Kd.R_far (p := ⟨gb131, 0, none⟩) (Kd.R_types HO_6.out BK131.out (by decide)) (fun _ hk => hk.2) (.int .i64 t126)) (fun _ hk => hk.2) (.int .i64 t127)) (fun _ hk => hk.2) (.int .u8 t128)) (fun _ hk => hk.2) (.int .i64 t129)) (fun _ h_ => h_.1))) (Kd.R_typed (by exact (Kd.R_mono (Kd.R_far (p := ⟨gb131, 3, none⟩) (Kd.R_far (p := ⟨gb131, 2, none⟩) (Kd.R_far (p := ⟨gb131, 1, none⟩) (Kd.R_far (p := ⟨gb131, 0, none⟩) (Kd.R_mono HO_7.out (fun k_ hk => (⟨hk, hk.2⟩ : _ ∧ k_ ≠ gb131))) (fun _ hk => hk.2) (.int .i64 t126)) (fun _ hk => hk.2) (.int .i64 t127)) (fun _ hk => hk.2) (.int .u8 t128)) (fun _ hk => hk.2) (.int .i64 t129)) (fun _ h_ => h_.1)))) (by decide) hg); have n1_ := am (blk_grown (g := gb131) (o := .cells #[.int .i64 t126, .int .i64 t127, .int .u8 t128, .int .i64 t129] 52 (0, 0)) (by refine blk_put (cs := #[.int .i64 t126, .int .i64 t127, .int .u8 t128, .int .i64 0]) ?_ 3 _ rfl; refine blk_put (cs := #[.int .i64 t126, .int .i64 t127, .int .u8 0, .int .i64 0]) ?_ 2 _ rfl; refine blk_put (cs := #[.int .i64 t126, .int .i64 0, .int .u8 0, .int .i64 0]) ?_ 1 _ rfl; refine blk_put (cs := #[.int .i64 0, .int .i64 0, .int .u8 0, .int .i64 0]) ?_ 0 _ rfl; exact BK131.out) hg (Kd.R_away HO_7.out (fun _ hk => hk.2))); have n2_ := am (hb); have n3_ := am (ho); clear HO_6; clear BK131; clear HB; clear HO_7; have HO_6 := n0_; have BK131 := n1_; have HB := n2_; have HO134 := n3_; clear n0_ n1_ n2_ n3_; clear ho hb hg hat))
         go_roundg k2
         case measure => have := HK1.out; have := HK2.out; omega
         case rel => exact ⟨(y132), (wrap64 (x8_2 + 1)), (by first | rfl), H', ⟨by have := HK1.out; have := HK2.out; omega⟩, ⟨by exact HO_6.out⟩, ⟨by exact Kd.R_mono HO134.out (fun _ hk => trivial)⟩, ⟨by exact HB.out⟩⟩
        rw [if_neg c14] at H
        exact absurd H (by simp)
       rw [if_neg c13] at H
       have c13b0 : (t130 == 0) = false := beq_eq_false_iff_ne.mpr c13
       have c13b1 : (t130 != 0) = true := bne_iff_ne.mpr c13
       simp only [Option.some.injEq, Prod.mk.injEq] at H
       obtain ⟨rfl, rfl⟩ := H
       obtain ⟨Ao20, co20, eo20⟩ := Kd.R_slice HO_6.out
       subst eo20
       have p125 : 0 ≤ (x8_2 : Int) := of_decide_eq_true (by first | (with_reducible assumption))
       have q125 : x8_2 < (t122.length : Int) := of_decide_eq_true (by first | (with_reducible assumption))
       obtain ⟨ad125, e125, hx125_0⟩ := Kd.at_string (Kd.R_reads' HO_6.out).2.2 x8_2 p125 q125
       cases e125
       replace p125 := eq_true p125
       replace q125 := eq_true q125
       go_wp2_with (first | ((with_reducible refine gate_callee (f := 114) rfl ?_); refine goesL_ (some 40) rfl rfl Tryz.func114 (by kernel_rfl) rfl #[.string (rdOf ByteArray.empty t122 x8_2)] rfl (by (try simp only [List.map_toArray, List.map_cons, List.map_nil]); first | rfl) ?_; (with_reducible refine (riposteref04_Parse.calls k2 (rdOf ByteArray.empty t122 x8_2) t126 t127 t128 t129 t130 _ A12.out).mono ?_); rintro e w21 ⟨rfl, hb⟩; refine ⟨_, rfl, ?_⟩; have n0_ := am (Kd.R_below HO_6.out hb); have n1_ := am (Kd.R_below HO_7.out hb); have n2_ := am (below_step HB.out hb); clear HO_6; clear HO_7; clear HB; have HO_6 := n0_; have HO_7 := n1_; have HB := n2_; clear n0_ n1_ n2_; (try clear hb); (try clear hb2); (try clear hk); (try clear hi)) | ((with_reducible refine gate_dst (N := 9) rfl ?_); refine box_event ?hg (N := 9) ?hd (cs := #[.int .i64 0, .int .i64 0, .int .u8 0, .int .i64 0]) (t := 52) ?hr ?_; (case hd => rfl); (case hg => rfl); (case hr => go_simp); intro gb131 hg w22 hbox hb; have n0_ := am (Kd.R_below HO_6.out hb); have n1_ := am (Kd.R_below (Kd.R_elderB HO_7.out gb131 (Nat.le_of_eq hg.symm)) hb); have n2_ := am (below_step HB.out hb); have n3_ := am (hbox); have n4_ := am ((by rw [hg]; exact (below_size HB.out) : w.heap.size ≤ gb131)); have n5_ := am ((by rw [hg]; exact (below_size HB.out) : w.heap.size ≤ gb131)); clear HO_6; clear HO_7; clear HB; have HO_6 := n0_; have HO_7 := n1_; have HB := n2_; have BK131 := n3_; have GW131 := n4_; have GE131 := n5_; clear n0_ n1_ n2_ n3_ n4_ n5_; clear hb hbox hg; have hcz23_0 : w22.cell? ⟨gb131, 0, none⟩ = some (.int .i64 0) := (blk_cell BK131.out 0).trans rfl; have hcz23_1 : w22.cell? ⟨gb131, 1, none⟩ = some (.int .i64 0) := (blk_cell BK131.out 1).trans rfl; have hcz23_2 : w22.cell? ⟨gb131, 2, none⟩ = some (.int .u8 0) := (blk_cell BK131.out 2).trans rfl; have hcz23_3 : w22.cell? ⟨gb131, 3, none⟩ = some (.int .i64 0) := (blk_cell BK131.out 3).trans rfl; have hfz23_0 := blk_frozen BK131.out 0; have hfz23_1 := blk_frozen BK131.out 1; have hfz23_2 := blk_frozen BK131.out 2; have hfz23_3 := blk_frozen BK131.out 3))
       go_ret2
       exact ⟨_, by first | rfl, by first | exact Kd.R_nil _ _ _ _ _, by repeat (first | (with_reducible first | exact HB.out | refine below_set ?_ GE131.out))⟩
      rw [if_neg c11] at H
      exact absurd H (by simp)
     rw [if_neg c10] at H
     have c10b0 : decide (x8_2 < (t122.length : Int)) = false := decide_eq_false c10
     clear c10
     simp only [Option.some.injEq, Prod.mk.injEq] at H
     obtain ⟨rfl, rfl⟩ := H
     obtain ⟨Ao24, co24, eo24⟩ := Kd.R_slice HO_6.out
     subst eo24
     go_wp2
     go_ret2
     exact ⟨_, by first | rfl, by exact HO_7.out, by exact HB.out⟩
def ripostelaw05_Word.f (k : Nat) (a0 : ByteArray) : Option ((List (S52))) := (riposteref05_Parse.f k a0).bind fun bt135 => (some bt135.1)
set_option maxHeartbeats 8000000 in
set_option maxRecDepth 100000 in
theorem ripostelaw05_Word.calls (k : Nat) (a0 : ByteArray) (r : List (S52)) (w : World) (h : ripostelaw05_Word.f k a0 = some r) :
  Calls Tryz.prog 55 #[.string a0] w fun e w' => ∃ v0_ : Value, e = .returned (v0_) ∧ Kd.R k52 52 w' w.heap.size (fun _ => True) v0_ r ∧ Below w.heap.size w w' := by
 have HB := am (Below.refl w.heap.size w)
 have H : ((riposteref05_Parse.f k a0).bind fun bt135 => (some bt135.1)) = some r := h
 clear h
 replace H := Option.bind_eq_some_iff.mp H
 obtain ⟨⟨t135, t136⟩, A20, H⟩ := H
 replace H : (some t135) = some r := H
 have A2 := am A20
 clear A20
 obtain rfl := Option.some.inj H
 go_enter Tryz.func55, Tryz.ntmps55
 go_wp2_with (first | ((with_reducible refine gate_callee (f := 91) rfl ?_); refine goesL_ (some 7) rfl rfl Tryz.func91 (by kernel_rfl) rfl #[.string a0] rfl (by (try simp only [List.map_toArray, List.map_cons, List.map_nil]); first | rfl) ?_; (with_reducible refine (riposteref05_Parse.calls k a0 t135 t136 _ A2.out).mono ?_); rintro e w3 ⟨v137, rfl, ho0, hb⟩; refine ⟨_, rfl, ?_⟩; have n0_ := am (Kd.R_lower ho0 (below_size HB.out)); have n1_ := am (below_step HB.out hb); clear HB; have HO138 := n0_; have HB := n1_; clear n0_ n1_; (try clear hb); (try clear hb2); (try clear hk); (try clear hi); (try clear ho0)))
 go_ret
 exact ⟨_, by first | rfl, by exact HO138.out, by exact HB.out⟩
end Go.Proofs.YtjgocihflhljeaaGreat.P
namespace Go.Proofs.YtjgocihflhljeaaGreat.P
open Go.RowKit Go.Shelf Go.Proofs.YtjgocihflhljeaaGreatW.PrintWords Go.Proofs.YtjgocihflhljeaaGreatW.PrintLast Go.Proofs.YtjgocihflhljeaaGreatW.PrintMore
theorem word_exW (w : World) : Calls Tryz.prog 55 #[.string ⟨#[48, 63, 32, 49, 63, 32, 49, 46, 49, 63, 32, 50, 63, 32, 50, 33, 49, 32, 49, 46, 49, 33, 50, 32, 49, 46, 50, 61, 49, 32, 49, 46, 50, 33, 48, 32, 49, 33, 48]⟩] w fun e w' => ∃ v, e = .returned v ∧ RM w' w.heap.size v exW ∧ Below w.heap.size w w' :=
 ripostelaw05_Word.calls 200 _ exW w (by kernel_rfl)
theorem word_exO (w : World) : Calls Tryz.prog 55 #[.string ⟨#[48, 63, 32, 49, 63, 32, 50, 63]⟩] w fun e w' => ∃ v, e = .returned v ∧ RM w' w.heap.size v exO ∧ Below w.heap.size w w' :=
 ripostelaw05_Word.calls 200 _ exO w (by kernel_rfl)
theorem word_exC (w : World) : Calls Tryz.prog 55 #[.string ⟨#[48, 63, 32, 49, 63, 32, 49, 46, 49, 63, 32, 50, 63, 32, 50, 33, 48, 32, 49, 46, 49, 33, 48, 32, 49, 33, 48, 32, 48, 33, 48]⟩] w fun e w' => ∃ v, e = .returned v ∧ RM w' w.heap.size v exC ∧ Below w.heap.size w w' :=
 ripostelaw05_Word.calls 200 _ exC w (by kernel_rfl)
structure Aw (w W : World) (A : Option Addr) (G : List (Nat × Array Value × TypeId)) (X : List (Option Addr × List Int)) (Y : List (Option Addr × List Mv)) : Prop where
 b : Below w.heap.size w W
 ids : Kd.C k68 W A 2 exI
 g : ∀ p ∈ G, W.heap[p.1]? = some (.cells p.2.1 p.2.2 (0, 0))
 x : ∀ p ∈ X, Kd.C (Kd.int .i64) W p.1 p.2.length p.2
 y : ∀ p ∈ Y, Kd.C k52 W p.1 p.2.length p.2
section
variable {w W W' : World} {A : Option Addr} {G : List (Nat × Array Value × TypeId)} {X : List (Option Addr × List Int)} {Y : List (Option Addr × List Mv)}
theorem Aw.below (h : Aw w W A G X Y) (hb : Below W.heap.size W W') : Aw w W' A G X Y :=
 ⟨h.b.trans (hb.mono h.b.size), Kd.C_below h.ids hb, fun p hp => (hb.block _ (blk_lt (h.g p hp))).trans (h.g p hp), fun p hp => Kd.C_below (h.x p hp) hb, fun p hp => Kd.C_below (h.y p hp) hb⟩
theorem Aw.addx (h : Aw w W A G X Y) {B : Option Addr} {xs : List Int} (hx : Kd.C (Kd.int .i64) W B xs.length xs) : Aw w W A G ((B, xs) :: X) Y :=
 ⟨h.b, h.ids, h.g, fun p hp => by rcases List.mem_cons.1 hp with rfl | hp <;> first | exact hx | exact h.x p hp, h.y⟩
theorem Aw.addy (h : Aw w W A G X Y) {B : Option Addr} {xs : List Mv} (hx : Kd.C k52 W B xs.length xs) : Aw w W A G X ((B, xs) :: Y) :=
 ⟨h.b, h.ids, h.g, h.x, fun p hp => by rcases List.mem_cons.1 hp with rfl | hp <;> first | exact hx | exact h.y p hp⟩
theorem Aw.addg (h : Aw w W A G X Y) {b : Nat} {cs : Array Value} {t : TypeId} (hx : W.heap[b]? = some (.cells cs t (0, 0))) : Aw w W A ((b, cs, t) :: G) X Y :=
 ⟨h.b, h.ids, fun p hp => by rcases List.mem_cons.1 hp with rfl | hp <;> first | exact hx | exact h.g p hp, h.x, h.y⟩
theorem Aw.new (h : Aw w W A G X Y) (cs : Array Value) (t : TypeId) : Aw w (W.alloc (.cells cs t)) A ((W.heap.size, cs, t) :: G) X Y :=
 (h.below ((Below.refl _ W).alloc (Nat.le_refl _) _)).addg (heap_alloc_new W _)
theorem Aw.stand (h : Aw w W A G X Y) {c c1 : Nat} {A1 : Option Addr} (hy : (A1, exW) ∈ Y) : Calls Tryz.prog 19 #[.agg #[.slice A 2 c, .bool false, .int .i64 2, .bool false], .slice A1 9 c1] W fun e w' => ∃ Ao co, e = .returned (.tuple #[standV 2 (.slice Ao 1 co) false false, .int .i64 0]) ∧ 1 ≤ co ∧ Aw w w' A G ((Ao, [0]) :: X) Y := by
 refine (pStand_any A c exI false 2 false A1 c1 exW W h.ids (h.y _ hy) (by decide)).mono ?_
 rw [ex_tell]
 rintro e w' ⟨r, rfl, Ao, n, co, rfl, hR, hb⟩
 rw [okN_ok _ rfl, okB_ok _ rfl, okB_ok _ rfl, ex_turn, ex_force, ex_lost]
 rw [okL_ok _ rfl, ex_open] at hR
 obtain ⟨rfl, h2, hC⟩ := Kd.R_reads' hR
 exact ⟨Ao, co, rfl, h2, (h.below hb).addx hC⟩
theorem Aw.next (h : Aw w W A G X Y) {c c1 : Nat} {A1 : Option Addr} (hy : (A1, exW) ∈ Y) : Calls Tryz.prog 32 #[.agg #[.slice A 2 c, .bool false, .int .i64 2, .bool false], .slice A1 9 c1] W fun e w' => ∃ Ao co, e = .returned (.tuple #[.slice Ao 6 co, .int .i64 0]) ∧ Aw w w' A G X Y := by
 refine (pNext_any A c exI false 2 false A1 c1 exW W h.ids (h.y _ hy) (by decide)).mono ?_
 rw [ex_tell]
 rintro e w' ⟨r, rfl, hR, hb⟩
 rw [okL_ok _ rfl] at hR
 obtain ⟨Ao, co, rfl, _, _⟩ := Kd.R_reads hR
 rw [ex_next]
 exact ⟨Ao, co, rfl, h.below hb⟩
theorem Aw.partners (h : Aw w W A G X Y) {c c1 : Nat} {A1 : Option Addr} (hy : (A1, exW) ∈ Y) : Calls Tryz.prog 42 #[.agg #[.slice A 2 c, .bool false, .int .i64 2, .bool false], .slice A1 9 c1] W fun e w' => ∃ Ao co, e = .returned (.tuple #[.slice Ao 9 co, .int .i64 0]) ∧ 9 ≤ co ∧ Aw w w' A G ((Ao, [-1, 8, 5, 4, 3, 2, 7, 6, 1]) :: X) Y := by
 refine (pPartners_any A c exI false 2 false A1 c1 exW W h.ids (h.y _ hy) (by decide)).mono ?_
 rw [ex_tell]
 rintro e w' ⟨r, rfl, hR, hb⟩
 rw [okL_ok _ rfl, ex_part] at hR
 obtain ⟨Ao, co, rfl, h2, hC⟩ := Kd.R_reads hR
 exact ⟨Ao, co, rfl, h2, (h.below hb).addx hC⟩
theorem Aw.view (h : Aw w W A G X Y) {c c1 : Nat} {A1 : Option Addr} (hy : (A1, exW) ∈ Y) : Calls Tryz.prog 25 #[.agg #[.slice A 2 c, .bool false, .int .i64 2, .bool false], .slice A1 9 c1] W fun e w' => ∃ Ao co, e = .returned (.tuple #[.slice Ao 3 co, .int .i64 0]) ∧ 3 ≤ co ∧ Aw w w' A G ((Ao, [0, 1, 8]) :: X) Y := by
 refine (pView_any A c exI false 2 false A1 c1 exW W h.ids (h.y _ hy) (by decide) [8, 1, 0] (fun _ => ⟨ex_back, by decide⟩)).mono ?_
 rw [ex_viewE]
 rintro e w' ⟨r, rfl, hR, hb⟩
 rw [okL_ok _ rfl] at hR
 obtain ⟨Ao, co, rfl, h2, hC⟩ := Kd.R_reads hR
 exact ⟨Ao, co, rfl, h2, (h.below hb).addx hC⟩
theorem Aw.sight (h : Aw w W A G X Y) {c c1 : Nat} {A1 : Option Addr} (hy : (A1, exW) ∈ Y) : Calls Tryz.prog 26 #[.agg #[.slice A 2 c, .bool false, .int .i64 2, .bool false], .slice A1 6 c1] W fun e w' => ∃ Ao co, e = .returned (.tuple #[.slice Ao 4 co, .int .i64 0]) ∧ 4 ≤ co ∧ Aw w w' A G ((Ao, [0, 1, 2, 5]) :: X) Y := by
 refine (pSight_any A c exI false 2 false A1 c1 (exW.take 6) W h.ids (Kd.C_take (h.y _ hy) (by decide)) (by decide) [5, 2, 1, 0] (fun _ => ⟨ex_front, by decide⟩)).mono ?_
 rw [ex_sightE]
 rintro e w' ⟨r, rfl, hR, hb⟩
 rw [okL_ok _ rfl] at hR
 obtain ⟨Ao, co, rfl, h2, hC⟩ := Kd.R_reads hR
 exact ⟨Ao, co, rfl, h2, (h.below hb).addx hC⟩
theorem Aw.close (h : Aw w W A G X Y) {c c1 : Nat} {A1 : Option Addr} (hy : (A1, exW) ∈ Y) : Calls Tryz.prog 39 #[.agg #[.slice A 2 c, .bool false, .int .i64 2, .bool false], .slice A1 4 c1] W fun e w' => ∃ Ao co, e = .returned (.tuple #[.slice Ao 8 co, .int .i64 0]) ∧ 8 ≤ co ∧ Aw w w' A G X ((Ao, exC) :: Y) := by
 refine (pClose_any A c exI false 2 false A1 c1 (exW.take 4) W h.ids (Kd.C_take (h.y _ hy) (by decide)) (by decide)).mono ?_
 rw [ex_clsE]
 rintro e w' ⟨r, rfl, hR, hb⟩
 rw [okL_ok _ rfl, ex_close] at hR
 obtain ⟨Ao, co, rfl, h2, hC⟩ := Kd.R_reads hR
 exact ⟨Ao, co, rfl, h2, (h.below hb).addy hC⟩
theorem Aw.check (h : Aw w W A G X Y) {c c1 : Nat} {A1 : Option Addr} (hy : (A1, exO) ∈ Y) : Calls Tryz.prog 18 #[.agg #[.slice A 2 c, .bool false, .int .i64 2, .bool false], .slice A1 3 c1] W fun e w' => e = .returned (.tuple #[.int .i64 2, .int .i64 13]) ∧ Aw w w' A G X Y := by
 refine (pCheck_any A c exI false 2 false A1 c1 exO W h.ids (h.y _ hy) (by decide)).mono ?_
 rw [ex_odd, ex_at]
 rintro e w' ⟨rfl, hb⟩
 exact ⟨rfl, h.below hb⟩
theorem Aw.wordC (h : Aw w W A G X Y) : Calls Tryz.prog 55 #[.string ⟨#[48, 63, 32, 49, 63, 32, 49, 46, 49, 63, 32, 50, 63, 32, 50, 33, 48, 32, 49, 46, 49, 33, 48, 32, 49, 33, 48, 32, 48, 33, 48]⟩] W fun e w' => ∃ Ao co, e = .returned (.slice Ao 8 co) ∧ 8 ≤ co ∧ Aw w w' A G X ((Ao, exC) :: Y) := by
 refine (word_exC W).mono ?_
 rintro e w' ⟨v, rfl, hR, hb⟩
 obtain ⟨Ao, co, rfl, h2, hC⟩ := Kd.R_reads hR
 exact ⟨Ao, co, rfl, h2, (h.below hb).addy hC⟩
theorem Aw.wordO (h : Aw w W A G X Y) : Calls Tryz.prog 55 #[.string ⟨#[48, 63, 32, 49, 63, 32, 50, 63]⟩] W fun e w' => ∃ Ao co, e = .returned (.slice Ao 3 co) ∧ 3 ≤ co ∧ Aw w w' A G X ((Ao, exO) :: Y) := by
 refine (word_exO W).mono ?_
 rintro e w' ⟨v, rfl, hR, hb⟩
 obtain ⟨Ao, co, rfl, h2, hC⟩ := Kd.R_reads hR
 exact ⟨Ao, co, rfl, h2, (h.below hb).addy hC⟩
theorem Aw.ints (h : Aw w W A G X Y) (xs : List Int) (hl : xs.length ≤ 20) : Aw w (W.alloc (.cells (encs (Value.int .i64) xs).toArray 3)) A G ((some ⟨W.heap.size, 0, none⟩, xs) :: X) Y := by
 refine (h.below ((Below.refl _ W).alloc (Nat.le_refl _) _)).addx ?_
 have hR : RI (W.alloc (.cells (encs (Value.int .i64) xs).toArray 3)) W.heap.size (.slice (some ⟨W.heap.size, 0, none⟩) xs.length xs.length) xs :=
  ⟨fun _ _ => trivial, encs (Value.int .i64) xs, by
   have h2 := World.ownsRow_lit (base := W.heap.size) (e := 3) (size := (Kd.int .i64).sz) W (encs (Value.int .i64) xs).toArray xs.length (Nat.le_refl _) (by simp [maxLen]; omega) (by simp [encs, Kd.int, Kd.scalar])
   simpa using h2, Kd.reps_scalar xs⟩
 exact (Kd.R_reads' hR).2.2
theorem Aw.same (h : Aw w W A G X Y) (k : Nat) (xs : List Int) (A1 A2 : Option Addr) (c1 c2 : Nat) (h1 : (A1, xs) ∈ X) (h2 : (A2, xs) ∈ X) (hc1 : xs.length ≤ c1) (hc2 : xs.length ≤ c2) (hf : riposteref05_SameInts.f k xs xs = some true) :
  Calls Tryz.prog 29 #[.slice A1 xs.length c1, .slice A2 xs.length c2] W fun e w' => e = .returned (.bool true) ∧ Aw w w' A G X Y := by
 refine (riposteref05_SameInts.calls k A1 c1 xs A2 c2 xs true W (h.x _ h1) hc1 (h.x _ h2) hc2 hf).mono ?_
 rintro e w' ⟨rfl, hd⟩
 obtain ⟨n, rfl⟩ := hd.out
 exact ⟨rfl, h.below (pw_below_drewN (Below.refl _ _) n)⟩
theorem Aw.sameW (h : Aw w W A G X Y) (k : Nat) (xs : List Mv) (A1 A2 : Option Addr) (c1 c2 : Nat) (h1 : (A1, xs) ∈ Y) (h2 : (A2, xs) ∈ Y) (hc1 : xs.length ≤ c1) (hc2 : xs.length ≤ c2) (hf : riposteref04_SameWord.f k xs xs = some true) :
  Calls Tryz.prog 24 #[.slice A1 xs.length c1, .slice A2 xs.length c2] W fun e w' => e = .returned (.bool true) ∧ Aw w w' A G X Y := by
 refine (riposteref04_SameWord.calls k A1 c1 xs A2 c2 xs true W (h.y _ h1) hc1 (h.y _ h2) hc2 hf).mono ?_
 rintro e w' ⟨rfl, hd⟩
 obtain ⟨n, rfl⟩ := hd.out
 exact ⟨rfl, h.below (pw_below_drewN (Below.refl _ _) n)⟩
end
end Go.Proofs.YtjgocihflhljeaaGreat.P
