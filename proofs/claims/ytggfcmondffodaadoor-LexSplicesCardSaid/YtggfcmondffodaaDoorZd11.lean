/- What the claim's law needs, many texts in one (P13 Ya Yb). No conditions of its own. -/
import Derived.Test.YtggfcmondffodaaDoorZd2
import Derived.Test.YtggfcmondffodaaDoorZd10
import Derived.Test.YtggfcmondffodaaDoorZd4
set_option linter.unusedVariables false
set_option linter.unusedSimpArgs false
namespace Go.Proofs.YtggfcmondffodaaDoor.P
open Go.RowKit Go.Proofs.YtggfcmondffodaaDoorW.PrintWords Go.Proofs.YtggfcmondffodaaDoorW.PrintLast Go.Proofs.YtggfcmondffodaaDoorW.PrintMore
attribute [local go_sem] min2_int min_two -- for this text's walks alone
set_option linter.unusedVariables false
set_option linter.unusedSimpArgs false

/-! ### lex_Undo: function 31 -/
def lex_Undo.l0 : Nat → ByteArray → List (S48) → Int → List (S48) → Int → Int → Option ((List (S48)) × Int)
  | 0, _, _, _, _, _, _ => none
  | k + 1, x0, x4, x7, x17, x18, x19 => if x19 < x18 then (if 0 ≤ x19 then (if x19 < (x17.length : Int) then ((lex_splice_moved.f ((rd_T48 x17 x19).f0) ((rd_T48 x17 x19).f1) ((rd_T48 x17 x19).f2) x0 x7).bind fun bt269 => (if x4.length < 4398046511104 then ((lex_splice_grown.f ((rd_T48 x17 x19).f0) ((rd_T48 x17 x19).f1) ((rd_T48 x17 x19).f2)).bind fun t275 => (lex_Undo.l0 k x0 (x4 ++ [(⟨bt269.1, bt269.2.1, bt269.2.2⟩ : S48)]) (wrap64 (x7 + t275)) x17 x18 (wrap64 (x19 + 1)))) else (none))) else (none)) else (none)) else (some (x4, 0))
def lex_Undo.f (k : Nat) (a0 : ByteArray) (l1 : List (S48)) : Option ((List (S48)) × Int) := (lex_splices.f k a0 l1).bind fun t265 => (if t265 = 0 then (lex_Undo.l0 k a0 ([] : List (S48)) 0 l1 (l1.length : Int) 0) else (some (([] : List (S48)), t265)))
set_option maxHeartbeats 8000000 in
set_option maxRecDepth 100000 in
theorem lex_Undo.calls (k : Nat) (a0 : ByteArray) (A1 : Option Addr) (c1 : Nat) (l1 : List (S48)) (r1 : List (S48)) (r2 : Int) (w : World) (hr1 : Kd.C k48 w A1 l1.length l1) (hc1 : l1.length ≤ c1) (h : lex_Undo.f k a0 l1 = some (r1, r2)) :
    Calls Tryd.prog 31 #[.string a0, .slice A1 l1.length c1] w fun e w' => ∃ v0_ : Value, e = .returned (.tuple #[v0_, .int .i64 r2]) ∧ Kd.R k48 48 w' w.heap.size (fun _ => True) v0_ r1 ∧ Below w.heap.size w w' := by
  have hu48 := Tryd.underlying48
  have hu76 := Tryd.underlying76
  have HR1 := Aside0.mk hr1
  have HC1 := Aside0.mk hc1
  clear hr1 hc1
  have HB := Aside0.mk (Below.refl w.heap.size w)
  have H : ((lex_splices.f k a0 l1).bind fun t265 => (if t265 = 0 then (lex_Undo.l0 k a0 ([] : List (S48)) 0 l1 (l1.length : Int) 0) else (some (([] : List (S48)), t265)))) = some (r1, r2) := h
  clear h
  replace H := Option.bind_eq_some_iff.mp H
  obtain ⟨t265, A30, H⟩ := H
  replace H : (if t265 = 0 then (lex_Undo.l0 k a0 ([] : List (S48)) 0 l1 (l1.length : Int) 0) else (some (([] : List (S48)), t265))) = some (r1, r2) := H
  have A3 := Aside0.mk A30
  clear A30
  by_cases c4 : t265 = 0
  · rw [if_pos c4] at H
    have c4b0 : (t265 == 0) = true := beq_iff_eq.mpr c4
    have c4b1 : (t265 != 0) = false := bne_eq_false_iff_eq.mpr c4
    clear c4
    have H' := Aside0.mk H
    clear H
    go_enter Tryd.func31, Tryd.ntmps31
    go_wp2_with (first | ((with_reducible refine gate_callee (f := 56) rfl ?_); refine goesL_ (some 13) rfl rfl Tryd.func56 (by kernel_rfl) rfl #[.string a0, .slice A1 l1.length c1] rfl (by (try simp only [List.map_toArray, List.map_cons, List.map_nil]); first | done | rfl | (simp only [List.length_drop, List.length_take]; rfl)) ?_; (with_reducible refine (lex_splices.calls k a0 _ _ l1 t265 _ ?side1 ?side2 A3.out).mono ?_); (case side1 => repeat (first | exact HR1.out | (with_reducible refine Kd.C_alloc ?_ _) | (with_reducible refine Kd.C_drewN ?_ _) | (with_reducible refine Kd.C_drew ?_))); (case side2 => exact HC1.out); rintro e w5 ⟨rfl, hb⟩; refine ⟨_, rfl, ?_⟩; have n0_ := Aside0.mk (below_step (by repeat (first | (with_reducible first | exact HB.out | apply below_alloc | apply pw_below_drewN | apply below_drew1) | exact HB.out)) hb); clear HB; have HB := n0_; clear n0_; (try clear hb); (try clear hb2); (try clear hk); (try clear hi)))
    go_loopg [4, 7, 19] k (fun kq v4 v7 v19 w' => ∃ (x4_1 : List (S48)) (x7_1 : Int) (x19_1 : Int), v7 = .int .i64 x7_1 ∧ v19 = .int .i64 x19_1 ∧ Aside0 (lex_Undo.l0 kq a0 x4_1 x7_1 l1 (l1.length : Int) x19_1 = some (r1, r2)) ∧ Aside0 (kq ≤ k) ∧ Aside0 (Kd.R k48 48 w' w.heap.size (fun _ => True) v4 x4_1) ∧ Aside0 (Below w.heap.size w w'))
    case atStart => exact ⟨(([] : List (S48))), (0), (0), (by first | rfl | (simp; done) | (simp [*]; done)), (by first | rfl | (simp; done) | (simp [*]; done)), H', ⟨Nat.le_refl _⟩, ⟨by first | exact Kd.R_nil _ _ _ _ _ | exact Kd.N_nil _ _ _ _ _ | exact Kd.V_nil _ _ _ _ _ | exact Kd.Q_nil _ _ _ _ _ | exact Kd.S_nil _ _ _ _ _⟩, ⟨by repeat (first | (with_reducible first | exact HB.out | apply below_alloc | apply pw_below_drewN | apply below_drew1) | exact HB.out)⟩⟩
    case round =>
      clear H'
      try clear c1
      try clear p2
      try clear c3
      try clear c4
      try clear c4b0
      try clear c4b1
      try clear c5
      obtain ⟨x4_1, x7_1, x19_1, rfl, rfl, HA, HK1, HO_4, HB⟩ := hrel
      cases gk with
      | zero => exact absurd HA.out (by simp [lex_Undo.l0])
      | succ k1 =>
        have H := HA.out
        clear HA
        simp only [lex_Undo.l0] at H
        by_cases c6 : x19_1 < (l1.length : Int)
        · rw [if_pos c6] at H
          have c6b0 : decide (x19_1 < (l1.length : Int)) = true := decide_eq_true c6
          clear c6
          by_cases c7 : 0 ≤ x19_1
          · rw [if_pos c7] at H
            have c7b0 : decide (0 ≤ x19_1) = true := decide_eq_true c7
            clear c7
            by_cases c8 : x19_1 < (l1.length : Int)
            · rw [if_pos c8] at H
              have c8b0 : decide (x19_1 < (l1.length : Int)) = true := decide_eq_true c8
              clear c8
              replace H := Option.bind_eq_some_iff.mp H
              obtain ⟨⟨t269, t270, t271⟩, A90, H⟩ := H
              replace H : (if x4_1.length < 4398046511104 then ((lex_splice_grown.f ((rd_T48 l1 x19_1).f0) ((rd_T48 l1 x19_1).f1) ((rd_T48 l1 x19_1).f2)).bind fun t275 => (lex_Undo.l0 k1 a0 (x4_1 ++ [(⟨t269, t270, t271⟩ : S48)]) (wrap64 (x7_1 + t275)) l1 (l1.length : Int) (wrap64 (x19_1 + 1)))) else (none)) = some (r1, r2) := H
              have A9 := Aside0.mk A90
              clear A90
              by_cases c10 : x4_1.length < 4398046511104
              · rw [if_pos c10] at H
                have LMc10 := Aside0.mk c10
                clear c10
                obtain ⟨y272, hy272⟩ : ∃ y_ : List (S48), y_ = (x4_1 ++ [(⟨t269, t270, t271⟩ : S48)]) := ⟨_, rfl⟩
                replace H : ((lex_splice_grown.f ((rd_T48 l1 x19_1).f0) ((rd_T48 l1 x19_1).f1) ((rd_T48 l1 x19_1).f2)).bind fun t275 => (lex_Undo.l0 k1 a0 y272 (wrap64 (x7_1 + t275)) l1 (l1.length : Int) (wrap64 (x19_1 + 1)))) = some (r1, r2) := by first | (rw [hy272]; with_reducible exact H) | (have H2_ := (Option.bind_some _ _).symm.trans H; rw [hy272]; with_reducible exact H2_) | (have H2_ := (Option.bind_some _ _).symm.trans H; with_reducible exact H2_) | with_reducible exact H | (rw [hy272]; exact H) | exact H
                have Ny272 := Aside0.mk hy272
                clear hy272
                replace H := Option.bind_eq_some_iff.mp H
                obtain ⟨t275, A110, H⟩ := H
                replace H : (lex_Undo.l0 k1 a0 y272 (wrap64 (x7_1 + t275)) l1 (l1.length : Int) (wrap64 (x19_1 + 1))) = some (r1, r2) := H
                have A11 := Aside0.mk A110
                clear A110
                have H' := Aside0.mk H
                clear H
                have p266 : 0 ≤ (x19_1 : Int) := of_decide_eq_true (by first | (with_reducible assumption) | assumption)
                have q266 : x19_1 < (l1.length : Int) := of_decide_eq_true (by first | (with_reducible assumption) | assumption)
                obtain ⟨ad266, e266, hx266_0, hx266_1, hx266_2⟩ := at_T48 HR1.out x19_1 p266 q266
                cases e266
                replace hx266_0 := (HB.out.cell (World.block_lt_of_cell? w _ hx266_0)).trans hx266_0
                replace hx266_1 := (HB.out.cell (World.block_lt_of_cell? w _ hx266_1)).trans hx266_1
                replace hx266_2 := (HB.out.cell (World.block_lt_of_cell? w _ hx266_2)).trans hx266_2
                replace p266 := eq_true p266
                replace q266 := eq_true q266
                go_wp2_with (first | ((with_reducible refine gate_dst (N := 9) rfl ?_); refine box_event ?hg (N := 9) ?hd (cs := #[.int .i64 0, .int .i64 0, .string (⟨#[]⟩ : ByteArray)]) (t := 48) ?hr ?_; (case hd => rfl); (case hg => rfl); (case hr => first | (go_simp; done) | (go_simp; rfl)); intro gb267 hg w12 hbox hb; have n0_ := Aside0.mk (Kd.R_below (Kd.R_elderB (by (with_reducible repeat (first | apply Kd.R_alloc | apply Kd.R_drewN | apply Kd.R_drew)); exact HO_4.out) gb267 (Nat.le_of_eq hg.symm)) hb); have n1_ := Aside0.mk (below_step (by repeat (first | (with_reducible first | exact HB.out | apply below_alloc | apply pw_below_drewN | apply below_drew1) | exact HB.out)) hb); have n2_ := Aside0.mk (hbox); have n3_ := Aside0.mk ((by rw [hg]; exact (below_size (by repeat (first | (with_reducible first | exact HB.out | apply below_alloc | apply pw_below_drewN | apply below_drew1) | exact HB.out))) : w.heap.size ≤ gb267)); have n4_ := Aside0.mk ((by rw [hg]; exact (below_size (by repeat (first | (with_reducible first | exact HB.out | apply below_alloc | apply pw_below_drewN | apply below_drew1) | exact HB.out))) : w.heap.size ≤ gb267)); clear HO_4; clear HB; have HO_4 := n0_; have HB := n1_; have BK267 := n2_; have GW267 := n3_; have GE267 := n4_; clear n0_ n1_ n2_ n3_ n4_; clear hb hbox hg; have hcz13_0 : w12.cell? ⟨gb267, 0, none⟩ = some (.int .i64 0) := (blk_cell BK267.out 0).trans rfl; have hcz13_1 : w12.cell? ⟨gb267, 1, none⟩ = some (.int .i64 0) := (blk_cell BK267.out 1).trans rfl; have hcz13_2 : w12.cell? ⟨gb267, 2, none⟩ = some (.string (⟨#[]⟩ : ByteArray)) := (blk_cell BK267.out 2).trans rfl; have hfz13_0 := blk_frozen BK267.out 0; have hfz13_1 := blk_frozen BK267.out 1; have hfz13_2 := blk_frozen BK267.out 2) | ((with_reducible refine gate_dst (N := 10) rfl ?_); refine box_event ?hg (N := 10) ?hd (cs := #[.int .i64 0, .int .i64 0, .string (⟨#[]⟩ : ByteArray)]) (t := 76) ?hr ?_; (case hd => rfl); (case hg => rfl); (case hr => first | (go_simp; done) | (go_simp; rfl)); intro gb268 hg w14 hbox hb; have n0_ := Aside0.mk (Kd.R_below (by (with_reducible repeat (first | apply Kd.R_alloc | apply Kd.R_drewN | apply Kd.R_drew)); exact (Kd.R_mono (Kd.R_far (p := ⟨gb267, 2, none⟩) (Kd.R_far (p := ⟨gb267, 1, none⟩) (Kd.R_far (p := ⟨gb267, 0, none⟩) (Kd.R_mono HO_4.out (fun k_ hk => (⟨hk, hk.2⟩ : _ ∧ k_ ≠ gb267))) (fun _ hk => hk.2) (.int .i64 ((rd_T48 l1 x19_1).f0))) (fun _ hk => hk.2) (.int .i64 ((rd_T48 l1 x19_1).f1))) (fun _ hk => hk.2) (.string ((rd_T48 l1 x19_1).f2))) (fun _ h_ => h_.1))) hb); have n1_ := Aside0.mk (blk_below (g := gb267) (o := .cells #[.int .i64 ((rd_T48 l1 x19_1).f0), .int .i64 ((rd_T48 l1 x19_1).f1), .string ((rd_T48 l1 x19_1).f2)] 48 (0, 0)) (by (with_reducible repeat (first | refine blk_drewN ?_ _ | refine blk_drew ?_ | refine blk_alloc ?_ _)); refine blk_put (cs := #[.int .i64 ((rd_T48 l1 x19_1).f0), .int .i64 ((rd_T48 l1 x19_1).f1), .string (⟨#[]⟩ : ByteArray)]) ?_ 2 _ rfl; (with_reducible repeat (first | refine blk_drewN ?_ _ | refine blk_drew ?_ | refine blk_alloc ?_ _)); refine blk_put (cs := #[.int .i64 ((rd_T48 l1 x19_1).f0), .int .i64 0, .string (⟨#[]⟩ : ByteArray)]) ?_ 1 _ rfl; (with_reducible repeat (first | refine blk_drewN ?_ _ | refine blk_drew ?_ | refine blk_alloc ?_ _)); refine blk_put (cs := #[.int .i64 0, .int .i64 0, .string (⟨#[]⟩ : ByteArray)]) ?_ 0 _ rfl; (with_reducible repeat (first | refine blk_drewN ?_ _ | refine blk_drew ?_ | refine blk_alloc ?_ _)); exact BK267.out) hb); have n2_ := Aside0.mk (below_step (by repeat (first | (with_reducible first | exact HB.out | apply below_alloc | apply pw_below_drewN | apply below_drew1 | refine below_set ?_ GE267.out) | exact HB.out)) hb); have n3_ := Aside0.mk (hbox); have n4_ := Aside0.mk ((by rw [hg]; exact (below_size (by repeat (first | (with_reducible first | exact HB.out | apply below_alloc | apply pw_below_drewN | apply below_drew1 | refine below_set ?_ GE267.out) | exact HB.out))) : w.heap.size ≤ gb268)); have n5_ := Aside0.mk ((by rw [hg]; exact (below_size (by repeat (first | (with_reducible first | exact HB.out | apply below_alloc | apply pw_below_drewN | apply below_drew1 | refine below_set ?_ GE267.out) | exact HB.out))) : w.heap.size ≤ gb268)); have n6_ := Aside0.mk ((by rw [hg]; exact Nat.ne_of_lt (blk_lt (g := gb267) (o := .cells #[.int .i64 ((rd_T48 l1 x19_1).f0), .int .i64 ((rd_T48 l1 x19_1).f1), .string ((rd_T48 l1 x19_1).f2)] 48 (0, 0)) (by (with_reducible repeat (first | refine blk_drewN ?_ _ | refine blk_drew ?_ | refine blk_alloc ?_ _)); refine blk_put (cs := #[.int .i64 ((rd_T48 l1 x19_1).f0), .int .i64 ((rd_T48 l1 x19_1).f1), .string (⟨#[]⟩ : ByteArray)]) ?_ 2 _ rfl; (with_reducible repeat (first | refine blk_drewN ?_ _ | refine blk_drew ?_ | refine blk_alloc ?_ _)); refine blk_put (cs := #[.int .i64 ((rd_T48 l1 x19_1).f0), .int .i64 0, .string (⟨#[]⟩ : ByteArray)]) ?_ 1 _ rfl; (with_reducible repeat (first | refine blk_drewN ?_ _ | refine blk_drew ?_ | refine blk_alloc ?_ _)); refine blk_put (cs := #[.int .i64 0, .int .i64 0, .string (⟨#[]⟩ : ByteArray)]) ?_ 0 _ rfl; (with_reducible repeat (first | refine blk_drewN ?_ _ | refine blk_drew ?_ | refine blk_alloc ?_ _)); exact BK267.out)) : gb267 ≠ gb268)); have n7_ := Aside0.mk ((by rw [hg]; exact Nat.ne_of_gt (blk_lt (g := gb267) (o := .cells #[.int .i64 ((rd_T48 l1 x19_1).f0), .int .i64 ((rd_T48 l1 x19_1).f1), .string ((rd_T48 l1 x19_1).f2)] 48 (0, 0)) (by (with_reducible repeat (first | refine blk_drewN ?_ _ | refine blk_drew ?_ | refine blk_alloc ?_ _)); refine blk_put (cs := #[.int .i64 ((rd_T48 l1 x19_1).f0), .int .i64 ((rd_T48 l1 x19_1).f1), .string (⟨#[]⟩ : ByteArray)]) ?_ 2 _ rfl; (with_reducible repeat (first | refine blk_drewN ?_ _ | refine blk_drew ?_ | refine blk_alloc ?_ _)); refine blk_put (cs := #[.int .i64 ((rd_T48 l1 x19_1).f0), .int .i64 0, .string (⟨#[]⟩ : ByteArray)]) ?_ 1 _ rfl; (with_reducible repeat (first | refine blk_drewN ?_ _ | refine blk_drew ?_ | refine blk_alloc ?_ _)); refine blk_put (cs := #[.int .i64 0, .int .i64 0, .string (⟨#[]⟩ : ByteArray)]) ?_ 0 _ rfl; (with_reducible repeat (first | refine blk_drewN ?_ _ | refine blk_drew ?_ | refine blk_alloc ?_ _)); exact BK267.out)) : gb268 ≠ gb267)); clear HO_4; clear BK267; clear HB; have HO_4 := n0_; have BK267 := n1_; have HB := n2_; have BK268 := n3_; have GW268 := n4_; have GE268 := n5_; have NB267_268 := n6_; have NB268_267 := n7_; clear n0_ n1_ n2_ n3_ n4_ n5_ n6_ n7_; clear hb hbox hg; have hnb15 := NB268_267.out; have hnc15 := NB267_268.out; have hcz16_0 : w14.cell? ⟨gb268, 0, none⟩ = some (.int .i64 0) := (blk_cell BK268.out 0).trans rfl; have hcz16_1 : w14.cell? ⟨gb268, 1, none⟩ = some (.int .i64 0) := (blk_cell BK268.out 1).trans rfl; have hcz16_2 : w14.cell? ⟨gb268, 2, none⟩ = some (.string (⟨#[]⟩ : ByteArray)) := (blk_cell BK268.out 2).trans rfl; have hfz16_0 := blk_frozen BK268.out 0; have hfz16_1 := blk_frozen BK268.out 1; have hfz16_2 := blk_frozen BK268.out 2) | ((with_reducible refine gate_callee (f := 60) rfl ?_); refine goesL_ (some 29) rfl rfl Tryd.func60 (by kernel_rfl) rfl #[.agg #[.int .i64 ((rd_T48 l1 x19_1).f0), .int .i64 ((rd_T48 l1 x19_1).f1), .string ((rd_T48 l1 x19_1).f2)], .string a0, .int .i64 x7_1] rfl (by (try simp only [List.map_toArray, List.map_cons, List.map_nil]); first | done | rfl | (simp only [List.length_drop, List.length_take]; rfl)) ?_; (with_reducible refine (lex_splice_moved.calls ((rd_T48 l1 x19_1).f0) ((rd_T48 l1 x19_1).f1) ((rd_T48 l1 x19_1).f2) a0 x7_1 t269 t270 t271 _ A9.out).mono ?_); rintro e w17 ⟨rfl, hb⟩; refine ⟨_, rfl, ?_⟩; have n0_ := Aside0.mk (Kd.R_below (by (with_reducible repeat (first | apply Kd.R_alloc | apply Kd.R_drewN | apply Kd.R_drew)); exact (Kd.R_mono (Kd.R_far (p := ⟨gb268, 2, none⟩) (Kd.R_far (p := ⟨gb268, 1, none⟩) (Kd.R_far (p := ⟨gb268, 0, none⟩) (Kd.R_types HO_4.out BK268.out (by decide)) (fun _ hk => hk.2) (.int .i64 ((rd_T48 l1 x19_1).f0))) (fun _ hk => hk.2) (.int .i64 ((rd_T48 l1 x19_1).f1))) (fun _ hk => hk.2) (.string ((rd_T48 l1 x19_1).f2))) (fun _ h_ => h_.1))) hb); have n1_ := Aside0.mk (blk_below (g := gb267) (o := .cells #[.int .i64 ((rd_T48 l1 x19_1).f0), .int .i64 ((rd_T48 l1 x19_1).f1), .string ((rd_T48 l1 x19_1).f2)] 48 (0, 0)) (by (with_reducible repeat (first | refine blk_drewN ?_ _ | refine blk_drew ?_ | refine blk_alloc ?_ _)); refine blk_far ?_ NB267_268.out _; (with_reducible repeat (first | refine blk_drewN ?_ _ | refine blk_drew ?_ | refine blk_alloc ?_ _)); refine blk_far ?_ NB267_268.out _; (with_reducible repeat (first | refine blk_drewN ?_ _ | refine blk_drew ?_ | refine blk_alloc ?_ _)); refine blk_far ?_ NB267_268.out _; (with_reducible repeat (first | refine blk_drewN ?_ _ | refine blk_drew ?_ | refine blk_alloc ?_ _)); exact BK267.out) hb); have n2_ := Aside0.mk (blk_below (g := gb268) (o := .cells #[.int .i64 ((rd_T48 l1 x19_1).f0), .int .i64 ((rd_T48 l1 x19_1).f1), .string ((rd_T48 l1 x19_1).f2)] 76 (0, 0)) (by (with_reducible repeat (first | refine blk_drewN ?_ _ | refine blk_drew ?_ | refine blk_alloc ?_ _)); refine blk_put (cs := #[.int .i64 ((rd_T48 l1 x19_1).f0), .int .i64 ((rd_T48 l1 x19_1).f1), .string (⟨#[]⟩ : ByteArray)]) ?_ 2 _ rfl; (with_reducible repeat (first | refine blk_drewN ?_ _ | refine blk_drew ?_ | refine blk_alloc ?_ _)); refine blk_put (cs := #[.int .i64 ((rd_T48 l1 x19_1).f0), .int .i64 0, .string (⟨#[]⟩ : ByteArray)]) ?_ 1 _ rfl; (with_reducible repeat (first | refine blk_drewN ?_ _ | refine blk_drew ?_ | refine blk_alloc ?_ _)); refine blk_put (cs := #[.int .i64 0, .int .i64 0, .string (⟨#[]⟩ : ByteArray)]) ?_ 0 _ rfl; (with_reducible repeat (first | refine blk_drewN ?_ _ | refine blk_drew ?_ | refine blk_alloc ?_ _)); exact BK268.out) hb); have n3_ := Aside0.mk (below_step (by repeat (first | (with_reducible first | exact HB.out | apply below_alloc | apply pw_below_drewN | apply below_drew1 | refine below_set ?_ GE267.out | refine below_set ?_ GE268.out) | exact HB.out)) hb); clear HO_4; clear BK267; clear BK268; clear HB; have HO_4 := n0_; have BK267 := n1_; have BK268 := n2_; have HB := n3_; clear n0_ n1_ n2_ n3_; (try clear hb); (try clear hb2); (try clear hk); (try clear hi)) | ((with_reducible refine gate_builtin (b := .append) (xs := #[.tmp 25, .tmp 30]) rfl ?_); at_builtin; refine Kd.R_append k48 (w0 := w) w.heap.size rfl (.tmp 25) (.tmp 30) 36 48 (.agg #[(.int .i64 0), (.int .i64 0), (.string ⟨#[]⟩)]) 32 rfl Tryd.underlying36 info48 rfl (by decide) (by omega) u4 x4_1 (⟨t269, t270, t271⟩ : S48) [.int .i64 t269, .int .i64 t270, .string t271] (fun k_ => k_ ≠ gb267) (fun _ => False) rfl rfl ?aP (fun _ hk => hk.elim) ?aF ?aO ?aB ?aS ?aL ?_; (case aP => exact k48_mkM _ _ _ (⟨t269, t270, t271⟩ : S48)); (case aB => exact (by repeat (first | (with_reducible first | exact HB.out | apply below_alloc | apply pw_below_drewN | apply below_drew1 | refine below_set ?_ GE267.out | refine below_set ?_ GE268.out) | exact HB.out))); (case aF => exact (fun k_ hk => Kd.freshB (g := gb267) (o := .cells #[.int .i64 ((rd_T48 l1 x19_1).f0), .int .i64 ((rd_T48 l1 x19_1).f1), .string ((rd_T48 l1 x19_1).f2)] 48 (0, 0)) (by (with_reducible repeat (first | refine blk_drewN ?_ _ | refine blk_drew ?_ | refine blk_alloc ?_ _)); exact BK267.out) k_ hk)); (case aO => exact (by (with_reducible repeat (first | apply Kd.R_alloc | apply Kd.R_drewN | apply Kd.R_drew)); exact Kd.R_mono HO_4.out (fun _ hk => hk.2))); (case aS => exact (below_size (by repeat (first | (with_reducible first | exact HB.out | apply below_alloc | apply pw_below_drewN | apply below_drew1 | refine below_set ?_ GE267.out | refine below_set ?_ GE268.out) | exact HB.out)))); (case aL => have := LMc10.out; omega); intro v273 w18 ho hb hg hat; rw [← Ny272.out] at ho; have n0_ := Aside0.mk (blk_grown (g := gb267) (o := .cells #[.int .i64 ((rd_T48 l1 x19_1).f0), .int .i64 ((rd_T48 l1 x19_1).f1), .string ((rd_T48 l1 x19_1).f2)] 48 (0, 0)) (by (with_reducible repeat (first | refine blk_drewN ?_ _ | refine blk_drew ?_ | refine blk_alloc ?_ _)); exact BK267.out) hg (Kd.R_away HO_4.out (fun _ hk => hk.2))); have n1_ := Aside0.mk (blk_grown (g := gb268) (o := .cells #[.int .i64 ((rd_T48 l1 x19_1).f0), .int .i64 ((rd_T48 l1 x19_1).f1), .string ((rd_T48 l1 x19_1).f2)] 76 (0, 0)) (by (with_reducible repeat (first | refine blk_drewN ?_ _ | refine blk_drew ?_ | refine blk_alloc ?_ _)); exact BK268.out) hg (Kd.R_ne HO_4.out BK268.out (by decide))); have n2_ := Aside0.mk (hb); have n3_ := Aside0.mk (ho); clear BK267; clear BK268; clear HB; clear HO_4; have BK267 := n0_; have BK268 := n1_; have HB := n2_; have HO274 := n3_; clear n0_ n1_ n2_ n3_; clear ho hb hg hat; have hcz19_0 : w18.cell? ⟨gb268, 0, none⟩ = some (.int .i64 ((rd_T48 l1 x19_1).f0)) := (blk_cell BK268.out 0).trans rfl; have hcz19_1 : w18.cell? ⟨gb268, 1, none⟩ = some (.int .i64 ((rd_T48 l1 x19_1).f1)) := (blk_cell BK268.out 1).trans rfl; have hcz19_2 : w18.cell? ⟨gb268, 2, none⟩ = some (.string ((rd_T48 l1 x19_1).f2)) := (blk_cell BK268.out 2).trans rfl; have hfz19_0 := blk_frozen BK268.out 0; have hfz19_1 := blk_frozen BK268.out 1; have hfz19_2 := blk_frozen BK268.out 2) | ((with_reducible refine gate_callee (f := 59) rfl ?_); refine goesL_ (some 34) rfl rfl Tryd.func59 (by kernel_rfl) rfl #[.agg #[.int .i64 ((rd_T48 l1 x19_1).f0), .int .i64 ((rd_T48 l1 x19_1).f1), .string ((rd_T48 l1 x19_1).f2)]] rfl (by (try simp only [List.map_toArray, List.map_cons, List.map_nil]); first | done | rfl | (simp only [List.length_drop, List.length_take]; rfl)) ?_; (with_reducible refine (lex_splice_grown.calls ((rd_T48 l1 x19_1).f0) ((rd_T48 l1 x19_1).f1) ((rd_T48 l1 x19_1).f2) t275 _ A11.out).mono ?_); rintro e w20 ⟨rfl, hb⟩; refine ⟨_, rfl, ?_⟩; have n0_ := Aside0.mk (Kd.R_below (by (with_reducible repeat (first | apply Kd.R_alloc | apply Kd.R_drewN | apply Kd.R_drew)); exact HO274.out) hb); have n1_ := Aside0.mk (blk_below (g := gb267) (o := .cells #[.int .i64 ((rd_T48 l1 x19_1).f0), .int .i64 ((rd_T48 l1 x19_1).f1), .string ((rd_T48 l1 x19_1).f2)] 48 (0, 0)) (by (with_reducible repeat (first | refine blk_drewN ?_ _ | refine blk_drew ?_ | refine blk_alloc ?_ _)); exact BK267.out) hb); have n2_ := Aside0.mk (blk_below (g := gb268) (o := .cells #[.int .i64 ((rd_T48 l1 x19_1).f0), .int .i64 ((rd_T48 l1 x19_1).f1), .string ((rd_T48 l1 x19_1).f2)] 76 (0, 0)) (by (with_reducible repeat (first | refine blk_drewN ?_ _ | refine blk_drew ?_ | refine blk_alloc ?_ _)); exact BK268.out) hb); have n3_ := Aside0.mk (below_step (by repeat (first | (with_reducible first | exact HB.out | apply below_alloc | apply pw_below_drewN | apply below_drew1 | refine below_set ?_ GE267.out | refine below_set ?_ GE268.out) | exact HB.out)) hb); clear HO274; clear BK267; clear BK268; clear HB; have HO274 := n0_; have BK267 := n1_; have BK268 := n2_; have HB := n3_; clear n0_ n1_ n2_ n3_; (try clear hb); (try clear hb2); (try clear hk); (try clear hi)))
                go_roundg k1
                case measure => have := HK1.out; omega
                case rel => exact ⟨(y272), (wrap64 (x7_1 + t275)), (wrap64 (x19_1 + 1)), (by first | rfl | (simp; done) | (simp [*]; done)), (by first | rfl | (simp; done) | (simp [*]; done)), H', ⟨by have := HK1.out; omega⟩, ⟨by (with_reducible repeat (first | apply Kd.R_alloc | apply Kd.R_drewN | apply Kd.R_drew)); exact Kd.R_mono HO274.out (fun _ hk => trivial)⟩, ⟨by repeat (first | (with_reducible first | exact HB.out | apply below_alloc | apply pw_below_drewN | apply below_drew1 | refine below_set ?_ GE267.out | refine below_set ?_ GE268.out) | exact HB.out)⟩⟩
              · rw [if_neg c10] at H
                exact absurd H (by simp)
            · rw [if_neg c8] at H
              exact absurd H (by simp)
          · rw [if_neg c7] at H
            exact absurd H (by simp)
        · rw [if_neg c6] at H
          have c6b0 : decide (x19_1 < (l1.length : Int)) = false := decide_eq_false c6
          clear c6
          simp only [Option.some.injEq, Prod.mk.injEq] at H
          obtain ⟨rfl, rfl⟩ := H
          go_wp2
          go_ret2
          exact ⟨_, by first | rfl | (simp [errW_none, errW_some] <;> rfl) | (simp [*, errW_none, errW_some] <;> rfl), by (with_reducible repeat (first | apply Kd.R_alloc | apply Kd.R_drewN | apply Kd.R_drew)); exact HO_4.out, by repeat (first | (with_reducible first | exact HB.out | apply below_alloc | apply pw_below_drewN | apply below_drew1) | exact HB.out)⟩
  · rw [if_neg c4] at H
    have c4b0 : (t265 == 0) = false := beq_eq_false_iff_ne.mpr c4
    have c4b1 : (t265 != 0) = true := bne_iff_ne.mpr c4
    simp only [Option.some.injEq, Prod.mk.injEq] at H
    obtain ⟨rfl, rfl⟩ := H
    go_enter Tryd.func31, Tryd.ntmps31
    go_wp2_with (first | ((with_reducible refine gate_callee (f := 56) rfl ?_); refine goesL_ (some 13) rfl rfl Tryd.func56 (by kernel_rfl) rfl #[.string a0, .slice A1 l1.length c1] rfl (by (try simp only [List.map_toArray, List.map_cons, List.map_nil]); first | done | rfl | (simp only [List.length_drop, List.length_take]; rfl)) ?_; (with_reducible refine (lex_splices.calls k a0 _ _ l1 t265 _ ?side1 ?side2 A3.out).mono ?_); (case side1 => repeat (first | exact HR1.out | (with_reducible refine Kd.C_alloc ?_ _) | (with_reducible refine Kd.C_drewN ?_ _) | (with_reducible refine Kd.C_drew ?_))); (case side2 => exact HC1.out); rintro e w21 ⟨rfl, hb⟩; refine ⟨_, rfl, ?_⟩; have n0_ := Aside0.mk (below_step (by repeat (first | (with_reducible first | exact HB.out | apply below_alloc | apply pw_below_drewN | apply below_drew1) | exact HB.out)) hb); clear HB; have HB := n0_; clear n0_; (try clear hb); (try clear hb2); (try clear hk); (try clear hi)))
    go_ret2
    exact ⟨_, by first | rfl | (simp [errW_none, errW_some] <;> rfl) | (simp [*, errW_none, errW_some] <;> rfl), by first | exact Kd.R_nil _ _ _ _ _ | exact Kd.N_nil _ _ _ _ _ | exact Kd.V_nil _ _ _ _ _ | exact Kd.Q_nil _ _ _ _ _ | exact Kd.S_nil _ _ _ _ _, by repeat (first | (with_reducible first | exact HB.out | apply below_alloc | apply pw_below_drewN | apply below_drew1) | exact HB.out)⟩

/-! ### riposteref01_Undo: function 32 -/
def riposteref01_Undo.l0 : Nat → ByteArray → List (S48) → List (S48) → Int → Int → Option ((List (S48)) × Int)
  | 0, _, _, _, _, _ => none
  | k + 1, x0, x1, x7, x8, x9 => if x9 < (x1.length : Int) then (if 0 ≤ x9 then (if 0 ≤ ((rd_T48 x1 x9).f0) then (if ((rd_T48 x1 x9).f0) ≤ ((rd_T48 x1 x9).f1) then (if ((rd_T48 x1 x9).f1) ≤ (x0.size : Int) then (if x7.length < 4398046511104 then (riposteref01_Undo.l0 k x0 x1 (x7 ++ [(⟨wrap64 (((rd_T48 x1 x9).f0) + x8), wrap64 ((wrap64 (((rd_T48 x1 x9).f0) + x8)) + (((rd_T48 x1 x9).f2).size : Int)), x0.extract (((rd_T48 x1 x9).f0) : Int).toNat (((rd_T48 x1 x9).f1) : Int).toNat⟩ : S48)]) (wrap64 (x8 + (wrap64 ((((rd_T48 x1 x9).f2).size : Int) - (wrap64 (((rd_T48 x1 x9).f1) - ((rd_T48 x1 x9).f0))))))) (wrap64 (x9 + 1))) else (none)) else (none)) else (none)) else (none)) else (none)) else (some (x7, 0))
def riposteref01_Undo.f (k : Nat) (a0 : ByteArray) (l1 : List (S48)) : Option ((List (S48)) × Int) := (riposteref01_check.f k a0 l1).bind fun t276 => (if t276 = 0 then (riposteref01_Undo.l0 k a0 l1 ([] : List (S48)) 0 0) else (some (([] : List (S48)), t276)))
def riposteref01_Undo.T10 : Bool × List (List Nat × List Nat) := (true, [([], []), ([], []), ([], []), ([], []), ([], []), ([3, 4], [3, 4]), ([5], [5]), ([6], [6]), ([7], [7]), ([2, 8], [2, 8]), ([], []), ([], []), ([], []), ([11, 12], [11, 12]), ([13], [13]), ([14], [14]), ([], []), ([], []), ([16, 17], [16, 17]), ([18], [18]), ([19], [19]), ([10, 15, 20], [10, 15, 20]), ([1, 9, 21], [1, 9, 21]), ([22], [22]), ([0, 23], [0, 23]), ([24, 24, 0, 1, 2, 3, 4, 5, 6, 7, 8, 9, 10, 11, 12, 13, 14, 15, 16, 17, 18, 19, 20, 21, 22, 23, 24], [0, 24])])
def riposteref01_Undo.B10 : List Nat := [0, 0, 0, 0, 0, 24, 56, 120, 248, 508, 0, 0, 0, 6144, 14336, 30720, 0, 0, 196608, 458752, 983040, 2096128, 4194302, 8388606, 16777215, 33554431]
theorem riposteref01_Undo.tab10 : rtab .any (opsOf Tryd.f32 10) = riposteref01_Undo.T10 := by kernel_rfl
theorem riposteref01_Undo.bits10 : waitsOk riposteref01_Undo.T10.2 riposteref01_Undo.B10 = true := by kernel_rfl
def riposteref01_Undo.T11 : Bool × List (List Nat × List Nat) := (true, [([], []), ([], []), ([], []), ([1, 2], [1, 2]), ([3], [3]), ([4], [4]), ([5], [5]), ([], []), ([], []), ([7, 8], [7, 8]), ([9], [9]), ([10], [10]), ([], []), ([], []), ([12, 13], [12, 13]), ([14], [14]), ([15], [15]), ([11, 16], [11, 16]), ([6, 17], [6, 17]), ([0, 18], [0, 18]), ([19, 0, 1, 2, 3, 4, 5, 6, 7, 8, 9, 10, 11, 12, 13, 14, 15, 16, 17, 18, 19], [0, 19])])
def riposteref01_Undo.B11 : List Nat := [0, 0, 0, 6, 14, 30, 62, 0, 0, 384, 896, 1920, 0, 0, 12288, 28672, 61440, 130944, 262142, 524287, 1048575]
theorem riposteref01_Undo.tab11 : rtab .any (opsOf Tryd.f32 11) = riposteref01_Undo.T11 := by kernel_rfl
theorem riposteref01_Undo.bits11 : waitsOk riposteref01_Undo.T11.2 riposteref01_Undo.B11 = true := by kernel_rfl
set_option maxHeartbeats 8000000 in
set_option maxRecDepth 100000 in
theorem riposteref01_Undo.calls (k : Nat) (a0 : ByteArray) (A1 : Option Addr) (c1 : Nat) (l1 : List (S48)) (r1 : List (S48)) (r2 : Int) (w : World) (hr1 : Kd.C k48 w A1 l1.length l1) (hc1 : l1.length ≤ c1) (h : riposteref01_Undo.f k a0 l1 = some (r1, r2)) :
    Calls Tryd.prog 32 #[.string a0, .slice A1 l1.length c1] w fun e w' => ∃ v0_ : Value, e = .returned (.tuple #[v0_, .int .i64 r2]) ∧ Kd.R k48 48 w' w.heap.size (fun _ => True) v0_ r1 ∧ Below w.heap.size w w' := by
  have hu48 := Tryd.underlying48
  have HR1 := Aside0.mk hr1
  have HC1 := Aside0.mk hc1
  clear hr1 hc1
  have HB := Aside0.mk (Below.refl w.heap.size w)
  have H : ((riposteref01_check.f k a0 l1).bind fun t276 => (if t276 = 0 then (riposteref01_Undo.l0 k a0 l1 ([] : List (S48)) 0 0) else (some (([] : List (S48)), t276)))) = some (r1, r2) := h
  clear h
  replace H := Option.bind_eq_some_iff.mp H
  obtain ⟨t276, A30, H⟩ := H
  replace H : (if t276 = 0 then (riposteref01_Undo.l0 k a0 l1 ([] : List (S48)) 0 0) else (some (([] : List (S48)), t276))) = some (r1, r2) := H
  have A3 := Aside0.mk A30
  clear A30
  by_cases c4 : t276 = 0
  · rw [if_pos c4] at H
    have c4b0 : (t276 == 0) = true := beq_iff_eq.mpr c4
    have c4b1 : (t276 != 0) = false := bne_eq_false_iff_eq.mpr c4
    clear c4
    have H' := Aside0.mk H
    clear H
    go_enter Tryd.func32, Tryd.ntmps32
    go_wp2_with (first | ((with_reducible refine gate_callee (f := 57) rfl ?_); refine goesL_ (some 13) rfl rfl Tryd.func57 (by kernel_rfl) rfl #[.string a0, .slice A1 l1.length c1] rfl (by (try simp only [List.map_toArray, List.map_cons, List.map_nil]); first | done | rfl | (simp only [List.length_drop, List.length_take]; rfl)) ?_; (with_reducible refine (riposteref01_check.calls k a0 _ _ l1 t276 _ ?side1 ?side2 A3.out).mono ?_); (case side1 => repeat (first | exact HR1.out | (with_reducible refine Kd.C_alloc ?_ _) | (with_reducible refine Kd.C_drewN ?_ _) | (with_reducible refine Kd.C_drew ?_))); (case side2 => exact HC1.out); rintro e w' ⟨rfl, ⟨nd, rfl⟩⟩; refine ⟨_, rfl, ?_⟩))
    go_loopg [7, 8, 9] k (fun kq v7 v8 v9 w' => ∃ (x7_1 : List (S48)) (x8_1 : Int) (x9_1 : Int), v8 = .int .i64 x8_1 ∧ v9 = .int .i64 x9_1 ∧ Aside0 (riposteref01_Undo.l0 kq a0 l1 x7_1 x8_1 x9_1 = some (r1, r2)) ∧ Aside0 (kq ≤ k) ∧ Aside0 (Kd.R k48 48 w' w.heap.size (fun _ => True) v7 x7_1) ∧ Aside0 (Below w.heap.size w w'))
    case atStart => exact ⟨(([] : List (S48))), (0), (0), (by first | rfl | (simp; done) | (simp [*]; done)), (by first | rfl | (simp; done) | (simp [*]; done)), H', ⟨Nat.le_refl _⟩, ⟨by first | exact Kd.R_nil _ _ _ _ _ | exact Kd.N_nil _ _ _ _ _ | exact Kd.V_nil _ _ _ _ _ | exact Kd.Q_nil _ _ _ _ _ | exact Kd.S_nil _ _ _ _ _⟩, ⟨by repeat (first | (with_reducible first | exact HB.out | apply below_alloc | apply pw_below_drewN | apply below_drew1) | exact HB.out)⟩⟩
    case round =>
      clear H'
      try clear c1
      try clear p2
      try clear c3
      try clear c4
      try clear c4b0
      try clear c4b1
      obtain ⟨x7_1, x8_1, x9_1, rfl, rfl, HA, HK1, HO_7, HB⟩ := hrel
      cases gk with
      | zero => exact absurd HA.out (by simp [riposteref01_Undo.l0])
      | succ k1 =>
        have H := HA.out
        clear HA
        simp only [riposteref01_Undo.l0] at H
        by_cases c5 : x9_1 < (l1.length : Int)
        · rw [if_pos c5] at H
          have c5b0 : decide (x9_1 < (l1.length : Int)) = true := decide_eq_true c5
          clear c5
          by_cases c6 : 0 ≤ x9_1
          · rw [if_pos c6] at H
            have c6b0 : decide (0 ≤ x9_1) = true := decide_eq_true c6
            clear c6
            by_cases c7 : 0 ≤ ((rd_T48 l1 x9_1).f0)
            · rw [if_pos c7] at H
              have c7b0 := eq_true c7
              have c7b1 : decide (0 ≤ ((rd_T48 l1 x9_1).f0)) = true := decide_eq_true c7
              clear c7
              by_cases c8 : ((rd_T48 l1 x9_1).f0) ≤ ((rd_T48 l1 x9_1).f1)
              · rw [if_pos c8] at H
                have c8b0 := eq_true c8
                have c8b1 : decide (((rd_T48 l1 x9_1).f0) ≤ ((rd_T48 l1 x9_1).f1)) = true := decide_eq_true c8
                clear c8
                by_cases c9 : ((rd_T48 l1 x9_1).f1) ≤ (a0.size : Int)
                · rw [if_pos c9] at H
                  have c9b0 := eq_true c9
                  have c9b1 : decide (((rd_T48 l1 x9_1).f1) ≤ (a0.size : Int)) = true := decide_eq_true c9
                  clear c9
                  by_cases c10 : x7_1.length < 4398046511104
                  · rw [if_pos c10] at H
                    have LMc10 := Aside0.mk c10
                    clear c10
                    obtain ⟨y281, hy281⟩ : ∃ y_ : List (S48), y_ = (x7_1 ++ [(⟨wrap64 (((rd_T48 l1 x9_1).f0) + x8_1), wrap64 ((wrap64 (((rd_T48 l1 x9_1).f0) + x8_1)) + (((rd_T48 l1 x9_1).f2).size : Int)), a0.extract (((rd_T48 l1 x9_1).f0) : Int).toNat (((rd_T48 l1 x9_1).f1) : Int).toNat⟩ : S48)]) := ⟨_, rfl⟩
                    replace H : (riposteref01_Undo.l0 k1 a0 l1 y281 (wrap64 (x8_1 + (wrap64 ((((rd_T48 l1 x9_1).f2).size : Int) - (wrap64 (((rd_T48 l1 x9_1).f1) - ((rd_T48 l1 x9_1).f0))))))) (wrap64 (x9_1 + 1))) = some (r1, r2) := by first | (rw [hy281]; with_reducible exact H) | (have H2_ := (Option.bind_some _ _).symm.trans H; rw [hy281]; with_reducible exact H2_) | (have H2_ := (Option.bind_some _ _).symm.trans H; with_reducible exact H2_) | with_reducible exact H | (rw [hy281]; exact H) | exact H
                    have Ny281 := Aside0.mk hy281
                    clear hy281
                    have H' := Aside0.mk H
                    clear H
                    have p277 : 0 ≤ (x9_1 : Int) := of_decide_eq_true (by first | (with_reducible assumption) | assumption)
                    have q277 : x9_1 < (l1.length : Int) := of_decide_eq_true (by first | (with_reducible assumption) | assumption)
                    obtain ⟨ad277, e277, hx277_0, hx277_1, hx277_2⟩ := at_T48 HR1.out x9_1 p277 q277
                    cases e277
                    replace hx277_0 := (HB.out.cell (World.block_lt_of_cell? w _ hx277_0)).trans hx277_0
                    replace hx277_1 := (HB.out.cell (World.block_lt_of_cell? w _ hx277_1)).trans hx277_1
                    replace hx277_2 := (HB.out.cell (World.block_lt_of_cell? w _ hx277_2)).trans hx277_2
                    replace p277 := eq_true p277
                    replace q277 := eq_true q277
                    try go_wp2
                    have n0_ := Aside0.mk (Kd.R_drew HO_7.out)
                    have n1_ := Aside0.mk (below_drew1 HB.out)
                    clear HO_7
                    clear HB
                    have HO_7 := n0_
                    have HB := n1_
                    clear n0_ n1_
                    have p278 : 0 ≤ (x9_1 : Int) := of_decide_eq_true (by first | (with_reducible assumption) | assumption)
                    have q278 : x9_1 < (l1.length : Int) := of_decide_eq_true (by first | (with_reducible assumption) | assumption)
                    obtain ⟨ad278, e278, hx278_0, hx278_1, hx278_2⟩ := at_T48 HR1.out x9_1 p278 q278
                    have hw278_2 := hx278_2
                    have hw278_1 := hx278_1
                    have hw278_0 := hx278_0
                    obtain rfl : ad277 = ad278 := (by injection e278)
                    replace hx278_0 := (HB.out.cell (World.block_lt_of_cell? w _ hx278_0)).trans hx278_0
                    replace hx278_1 := (HB.out.cell (World.block_lt_of_cell? w _ hx278_1)).trans hx278_1
                    replace hx278_2 := (HB.out.cell (World.block_lt_of_cell? w _ hx278_2)).trans hx278_2
                    replace p278 := eq_true p278
                    replace q278 := eq_true q278
                    have p279 : 0 ≤ (x9_1 : Int) := of_decide_eq_true (by first | (with_reducible assumption) | assumption)
                    have q279 : x9_1 < (l1.length : Int) := of_decide_eq_true (by first | (with_reducible assumption) | assumption)
                    obtain ⟨ad279, e279, hx279_0, hx279_1, hx279_2⟩ := at_T48 HR1.out x9_1 p279 q279
                    have hw279_2 := hx279_2
                    have hw279_1 := hx279_1
                    have hw279_0 := hx279_0
                    obtain rfl : ad277 = ad279 := (by injection e279)
                    replace hx279_0 := (HB.out.cell (World.block_lt_of_cell? w _ hx279_0)).trans hx279_0
                    replace hx279_1 := (HB.out.cell (World.block_lt_of_cell? w _ hx279_1)).trans hx279_1
                    replace hx279_2 := (HB.out.cell (World.block_lt_of_cell? w _ hx279_2)).trans hx279_2
                    replace p279 := eq_true p279
                    replace q279 := eq_true q279
                    have p280 : 0 ≤ (x9_1 : Int) := of_decide_eq_true (by first | (with_reducible assumption) | assumption)
                    have q280 : x9_1 < (l1.length : Int) := of_decide_eq_true (by first | (with_reducible assumption) | assumption)
                    obtain ⟨ad280, e280, hx280_0, hx280_1, hx280_2⟩ := at_T48 HR1.out x9_1 p280 q280
                    have hw280_2 := hx280_2
                    have hw280_1 := hx280_1
                    have hw280_0 := hx280_0
                    obtain rfl : ad277 = ad280 := (by injection e280)
                    replace hx280_0 := (HB.out.cell (World.block_lt_of_cell? w _ hx280_0)).trans hx280_0
                    replace hx280_1 := (HB.out.cell (World.block_lt_of_cell? w _ hx280_1)).trans hx280_1
                    replace hx280_2 := (HB.out.cell (World.block_lt_of_cell? w _ hx280_2)).trans hx280_2
                    replace p280 := eq_true p280
                    replace q280 := eq_true q280
                    refine start_ (n := 26) (S := fun w' => w'.cell? (ad277.add ((x9_1).toNat * 3)) = some (.int .i64 ((rd_T48 l1 x9_1).f0)) ∧ w'.cell? ⟨(ad277.add ((x9_1).toNat * 3)).block, (ad277.add ((x9_1).toNat * 3)).off + 1, none⟩ = some (.int .i64 ((rd_T48 l1 x9_1).f1)) ∧ w'.cell? ⟨(ad277.add ((x9_1).toNat * 3)).block, (ad277.add ((x9_1).toNat * 3)).off + 2, none⟩ = some (.string ((rd_T48 l1 x9_1).f2)) ∧ w'.cell? (ad277.add ((x9_1).toNat * 3)) = some (.int .i64 ((rd_T48 l1 x9_1).f0)) ∧ w'.cell? ⟨(ad277.add ((x9_1).toNat * 3)).block, (ad277.add ((x9_1).toNat * 3)).off + 1, none⟩ = some (.int .i64 ((rd_T48 l1 x9_1).f1)) ∧ w'.cell? ⟨(ad277.add ((x9_1).toNat * 3)).block, (ad277.add ((x9_1).toNat * 3)).off + 2, none⟩ = some (.string ((rd_T48 l1 x9_1).f2)) ∧ w'.cell? (ad277.add ((x9_1).toNat * 3)) = some (.int .i64 ((rd_T48 l1 x9_1).f0)) ∧ w'.cell? ⟨(ad277.add ((x9_1).toNat * 3)).block, (ad277.add ((x9_1).toNat * 3)).off + 1, none⟩ = some (.int .i64 ((rd_T48 l1 x9_1).f1)) ∧ w'.cell? ⟨(ad277.add ((x9_1).toNat * 3)).block, (ad277.add ((x9_1).toNat * 3)).off + 2, none⟩ = some (.string ((rd_T48 l1 x9_1).f2))) (ds := []) #[false, false, false, false, false, false, false, false, false, false, false, false, false, false, false, false, false, false, false, false, false, false, false, false, false, false] (by kernel_rfl) rfl rfl ⟨((HB.out.cell (World.block_lt_of_cell? w _ hw278_0)).trans hw278_0), ((HB.out.cell (World.block_lt_of_cell? w _ hw278_1)).trans hw278_1), ((HB.out.cell (World.block_lt_of_cell? w _ hw278_2)).trans hw278_2), ((HB.out.cell (World.block_lt_of_cell? w _ hw279_0)).trans hw279_0), ((HB.out.cell (World.block_lt_of_cell? w _ hw279_1)).trans hw279_1), ((HB.out.cell (World.block_lt_of_cell? w _ hw279_2)).trans hw279_2), ((HB.out.cell (World.block_lt_of_cell? w _ hw280_0)).trans hw280_0), ((HB.out.cell (World.block_lt_of_cell? w _ hw280_1)).trans hw280_1), ((HB.out.cell (World.block_lt_of_cell? w _ hw280_2)).trans hw280_2)⟩ (fun hHeld => ?_); refine with_tabW riposteref01_Undo.tab10 riposteref01_Undo.bits10 (fun HT_ HW_ => ?_)
                    generalize wr.drew = w11 at HO_7 HB hx278_0 hx278_1 hx278_2 hx279_0 hx279_1 hx279_2 hx280_0 hx280_1 hx280_2 hHeld ⊢
                    refine pure_ (i := 0) (N := some 30) (v := ?_) (a' := ?_) #[true, false, false, false, false, false, false, false, false, false, false, false, false, false, false, false, false, false, false, false, false, false, false, false, false, false] rfl rfl (any_of HT_.out (by kernel_rfl)) (fun _ _ _ h => h) (Or.inl ⟨by rfl, ?_⟩) ?_ ?_
                    rotate_left
                    · intro w'
                      go_simp
                      with_reducible rfl
                    rotate_left
                    · simp only [Act.put, List.setIfInBounds_toArray, List.set_cons_zero, List.set_cons_succ, i64_w, i32_w]
                      rfl
                    refine pure_ (i := 1) (N := some 31) (v := ?_) (a' := ?_) #[true, true, false, false, false, false, false, false, false, false, false, false, false, false, false, false, false, false, false, false, false, false, false, false, false, false] rfl rfl (any_of HT_.out (by kernel_rfl)) (fun _ _ _ h => h) (Or.inl ⟨by rfl, ?_⟩) ?_ ?_
                    rotate_left
                    · intro w'
                      go_simp
                      with_reducible rfl
                    rotate_left
                    · simp only [Act.put, List.setIfInBounds_toArray, List.set_cons_zero, List.set_cons_succ, i64_w, i32_w]
                      rfl
                    refine pure_ (i := 2) (N := some 32) (v := ?_) (a' := ?_) #[true, true, true, false, false, false, false, false, false, false, false, false, false, false, false, false, false, false, false, false, false, false, false, false, false, false] rfl rfl (any_of HT_.out (by kernel_rfl)) (fun _ _ _ h => h) (Or.inl ⟨by rfl, ?_⟩) ?_ ?_
                    rotate_left
                    · intro w'
                      go_simp
                      with_reducible rfl
                    rotate_left
                    · simp only [Act.put, List.setIfInBounds_toArray, List.set_cons_zero, List.set_cons_succ, i64_w, i32_w]
                      rfl
                    refine pure_ (i := 3) (N := some 33) (v := ?_) (a' := ?_) #[true, true, true, true, false, false, false, false, false, false, false, false, false, false, false, false, false, false, false, false, false, false, false, false, false, false] rfl rfl (any_of HT_.out (by kernel_rfl)) (fun _ _ _ h => h) (Or.inl ⟨by rfl, ?_⟩) ?_ ?_
                    rotate_left
                    · intro w'
                      go_simp
                      with_reducible rfl
                    rotate_left
                    · simp only [Act.put, List.setIfInBounds_toArray, List.set_cons_zero, List.set_cons_succ, i64_w, i32_w]
                      rfl
                    refine pure_ (i := 4) (N := some 34) (v := ?_) (a' := ?_) #[true, true, true, true, true, false, false, false, false, false, false, false, false, false, false, false, false, false, false, false, false, false, false, false, false, false] rfl rfl (any_of HT_.out (by kernel_rfl)) (fun _ _ _ h => h) (Or.inl ⟨by rfl, ?_⟩) ?_ ?_
                    rotate_left
                    · intro w'
                      go_simp
                      with_reducible rfl
                    rotate_left
                    · simp only [Act.put, List.setIfInBounds_toArray, List.set_cons_zero, List.set_cons_succ, i64_w, i32_w]
                      rfl
                    refine pure_ (i := 5) (N := some 35) (v := ?_) (a' := ?_) #[true, true, true, true, true, true, false, false, false, false, false, false, false, false, false, false, false, false, false, false, false, false, false, false, false, false] rfl rfl (any_of HT_.out (by kernel_rfl)) (fun _ _ _ h => h) (Or.inl ⟨by rfl, ?_⟩) ?_ ?_
                    rotate_left
                    · intro w'
                      go_simp
                      with_reducible rfl
                    rotate_left
                    · simp only [Act.put, List.setIfInBounds_toArray, List.set_cons_zero, List.set_cons_succ, i64_w, i32_w]
                      rfl
                    refine pure_ (i := 6) (N := some 36) (v := ?_) (a' := ?_) #[true, true, true, true, true, true, true, false, false, false, false, false, false, false, false, false, false, false, false, false, false, false, false, false, false, false] rfl rfl (any_of HT_.out (by kernel_rfl)) (fun _ _ _ h => h) (Or.inl ⟨by rfl, ?_⟩) ?_ ?_
                    rotate_left
                    · intro w'
                      go_simp
                      with_reducible rfl
                    rotate_left
                    · simp only [Act.put, List.setIfInBounds_toArray, List.set_cons_zero, List.set_cons_succ, i64_w, i32_w]
                      rfl
                    refine pure_ (i := 10) (N := some 40) (v := ?_) (a' := ?_) #[true, true, true, true, true, true, true, false, false, false, true, false, false, false, false, false, false, false, false, false, false, false, false, false, false, false] rfl rfl (any_of HT_.out (by kernel_rfl)) (fun _ _ _ h => h) (Or.inl ⟨by rfl, ?_⟩) ?_ ?_
                    rotate_left
                    · intro w'
                      go_simp
                      with_reducible rfl
                    rotate_left
                    · simp only [Act.put, List.setIfInBounds_toArray, List.set_cons_zero, List.set_cons_succ, i64_w, i32_w]
                      rfl
                    refine pure_ (i := 11) (N := some 41) (v := ?_) (a' := ?_) #[true, true, true, true, true, true, true, false, false, false, true, true, false, false, false, false, false, false, false, false, false, false, false, false, false, false] rfl rfl (any_of HT_.out (by kernel_rfl)) (fun _ _ _ h => h) (Or.inl ⟨by rfl, ?_⟩) ?_ ?_
                    rotate_left
                    · intro w'
                      go_simp
                      with_reducible rfl
                    rotate_left
                    · simp only [Act.put, List.setIfInBounds_toArray, List.set_cons_zero, List.set_cons_succ, i64_w, i32_w]
                      rfl
                    refine pure_ (i := 12) (N := some 42) (v := ?_) (a' := ?_) #[true, true, true, true, true, true, true, false, false, false, true, true, true, false, false, false, false, false, false, false, false, false, false, false, false, false] rfl rfl (any_of HT_.out (by kernel_rfl)) (fun _ _ _ h => h) (Or.inl ⟨by rfl, ?_⟩) ?_ ?_
                    rotate_left
                    · intro w'
                      go_simp
                      with_reducible rfl
                    rotate_left
                    · simp only [Act.put, List.setIfInBounds_toArray, List.set_cons_zero, List.set_cons_succ, i64_w, i32_w]
                      rfl
                    refine pure_ (i := 13) (N := some 43) (v := ?_) (a' := ?_) #[true, true, true, true, true, true, true, false, false, false, true, true, true, true, false, false, false, false, false, false, false, false, false, false, false, false] rfl rfl (any_of HT_.out (by kernel_rfl)) (fun _ _ _ h => h) (Or.inl ⟨by rfl, ?_⟩) ?_ ?_
                    rotate_left
                    · intro w'
                      go_simp
                      with_reducible rfl
                    rotate_left
                    · simp only [Act.put, List.setIfInBounds_toArray, List.set_cons_zero, List.set_cons_succ, i64_w, i32_w]
                      rfl
                    refine pure_ (i := 14) (N := some 44) (v := ?_) (a' := ?_) #[true, true, true, true, true, true, true, false, false, false, true, true, true, true, true, false, false, false, false, false, false, false, false, false, false, false] rfl rfl (any_of HT_.out (by kernel_rfl)) (fun _ _ _ h => h) (Or.inl ⟨by rfl, ?_⟩) ?_ ?_
                    rotate_left
                    · intro w'
                      go_simp
                      with_reducible rfl
                    rotate_left
                    · simp only [Act.put, List.setIfInBounds_toArray, List.set_cons_zero, List.set_cons_succ, i64_w, i32_w]
                      rfl
                    refine pure_ (i := 16) (N := some 46) (v := ?_) (a' := ?_) #[true, true, true, true, true, true, true, false, false, false, true, true, true, true, true, false, true, false, false, false, false, false, false, false, false, false] rfl rfl (any_of HT_.out (by kernel_rfl)) (fun _ _ _ h => h) (Or.inl ⟨by rfl, ?_⟩) ?_ ?_
                    rotate_left
                    · intro w'
                      go_simp
                      with_reducible rfl
                    rotate_left
                    · simp only [Act.put, List.setIfInBounds_toArray, List.set_cons_zero, List.set_cons_succ, i64_w, i32_w]
                      rfl
                    refine pure_ (i := 17) (N := some 47) (v := ?_) (a' := ?_) #[true, true, true, true, true, true, true, false, false, false, true, true, true, true, true, false, true, true, false, false, false, false, false, false, false, false] rfl rfl (any_of HT_.out (by kernel_rfl)) (fun _ _ _ h => h) (Or.inl ⟨by rfl, ?_⟩) ?_ ?_
                    rotate_left
                    · intro w'
                      go_simp
                      with_reducible rfl
                    rotate_left
                    · simp only [Act.put, List.setIfInBounds_toArray, List.set_cons_zero, List.set_cons_succ, i64_w, i32_w]
                      rfl
                    refine pure_ (i := 18) (N := some 48) (v := ?_) (a' := ?_) #[true, true, true, true, true, true, true, false, false, false, true, true, true, true, true, false, true, true, true, false, false, false, false, false, false, false] rfl rfl (any_of HT_.out (by kernel_rfl)) (fun _ _ _ h => h) (Or.inl ⟨by rfl, ?_⟩) ?_ ?_
                    rotate_left
                    · intro w'
                      go_simp
                      with_reducible rfl
                    rotate_left
                    · simp only [Act.put, List.setIfInBounds_toArray, List.set_cons_zero, List.set_cons_succ, i64_w, i32_w]
                      rfl
                    refine pure_ (i := 19) (N := some 49) (v := ?_) (a' := ?_) #[true, true, true, true, true, true, true, false, false, false, true, true, true, true, true, false, true, true, true, true, false, false, false, false, false, false] rfl rfl (any_of HT_.out (by kernel_rfl)) (fun _ _ _ h => h) (Or.inl ⟨by rfl, ?_⟩) ?_ ?_
                    rotate_left
                    · intro w'
                      go_simp
                      with_reducible rfl
                    rotate_left
                    · simp only [Act.put, List.setIfInBounds_toArray, List.set_cons_zero, List.set_cons_succ, i64_w, i32_w]
                      rfl
                    refine take_ (i := 7) (N := some 37) (v := ?_) (a' := ?_) #[true, true, true, true, true, true, true, true, false, false, true, true, true, true, true, false, true, true, true, true, false, false, false, false, false, false] rfl rfl (take_ofW HT_.out HW_.out (by kernel_rfl)) (fun _ _ _ h => h) (Or.inl ⟨by rfl, ?_⟩) hHeld ?_ ?_
                    rotate_left
                    · rintro w' ⟨s0, s1, s2, s3, s4, s5, s6, s7, s8⟩
                      go_simp
                      with_reducible rfl
                    rotate_left
                    · simp only [Act.put, List.setIfInBounds_toArray, List.set_cons_zero, List.set_cons_succ, i64_w, i32_w]
                      rfl
                    refine pure_ (i := 8) (N := some 38) (v := ?_) (a' := ?_) #[true, true, true, true, true, true, true, true, true, false, true, true, true, true, true, false, true, true, true, true, false, false, false, false, false, false] rfl rfl (any_of HT_.out (by kernel_rfl)) (fun _ _ _ h => h) (Or.inl ⟨by rfl, ?_⟩) ?_ ?_
                    rotate_left
                    · intro w'
                      go_simp
                      with_reducible rfl
                    rotate_left
                    · simp only [Act.put, List.setIfInBounds_toArray, List.set_cons_zero, List.set_cons_succ, i64_w, i32_w]
                      rfl
                    refine pure_ (i := 9) (N := some 39) (v := ?_) (a' := ?_) #[true, true, true, true, true, true, true, true, true, true, true, true, true, true, true, false, true, true, true, true, false, false, false, false, false, false] rfl rfl (any_of HT_.out (by kernel_rfl)) (fun _ _ _ h => h) (Or.inl ⟨by rfl, ?_⟩) ?_ ?_
                    rotate_left
                    · intro w'
                      go_simp
                      with_reducible rfl
                    rotate_left
                    · simp only [Act.put, List.setIfInBounds_toArray, List.set_cons_zero, List.set_cons_succ, i64_w, i32_w]
                      rfl
                    refine take_ (i := 15) (N := some 45) (v := ?_) (a' := ?_) #[true, true, true, true, true, true, true, true, true, true, true, true, true, true, true, true, true, true, true, true, false, false, false, false, false, false] rfl rfl (take_ofW HT_.out HW_.out (by kernel_rfl)) (fun _ _ _ h => h) (Or.inl ⟨by rfl, ?_⟩) hHeld ?_ ?_
                    rotate_left
                    · rintro w' ⟨s0, s1, s2, s3, s4, s5, s6, s7, s8⟩
                      go_simp
                      with_reducible rfl
                    rotate_left
                    · simp only [Act.put, List.setIfInBounds_toArray, List.set_cons_zero, List.set_cons_succ, i64_w, i32_w]
                      rfl
                    refine take_ (i := 20) (N := some 50) (v := ?_) (a' := ?_) #[true, true, true, true, true, true, true, true, true, true, true, true, true, true, true, true, true, true, true, true, true, false, false, false, false, false] rfl rfl (take_ofW HT_.out HW_.out (by kernel_rfl)) (fun _ _ _ h => h) (Or.inl ⟨by rfl, ?_⟩) hHeld ?_ ?_
                    rotate_left
                    · rintro w' ⟨s0, s1, s2, s3, s4, s5, s6, s7, s8⟩
                      go_simp
                      with_reducible rfl
                    rotate_left
                    · simp only [Act.put, List.setIfInBounds_toArray, List.set_cons_zero, List.set_cons_succ, i64_w, i32_w]
                      rfl
                    refine pure_ (i := 21) (N := some 51) (v := ?_) (a' := ?_) #[true, true, true, true, true, true, true, true, true, true, true, true, true, true, true, true, true, true, true, true, true, true, false, false, false, false] rfl rfl (any_of HT_.out (by kernel_rfl)) (fun _ _ _ h => h) (Or.inl ⟨by rfl, ?_⟩) ?_ ?_
                    rotate_left
                    · intro w'
                      go_simp
                      with_reducible rfl
                    rotate_left
                    · simp only [Act.put, List.setIfInBounds_toArray, List.set_cons_zero, List.set_cons_succ, i64_w, i32_w]
                      rfl
                    refine pure_ (i := 22) (N := some 52) (v := ?_) (a' := ?_) #[true, true, true, true, true, true, true, true, true, true, true, true, true, true, true, true, true, true, true, true, true, true, true, false, false, false] rfl rfl (any_of HT_.out (by kernel_rfl)) (fun _ _ _ h => h) (Or.inl ⟨by rfl, ?_⟩) ?_ ?_
                    rotate_left
                    · intro w'
                      go_simp
                      with_reducible rfl
                    rotate_left
                    · simp only [Act.put, List.setIfInBounds_toArray, List.set_cons_zero, List.set_cons_succ, i64_w, i32_w]
                      rfl
                    refine one_ (i := 23) (N := some 53) #[true, true, true, true, true, true, true, true, true, true, true, true, true, true, true, true, true, true, true, true, true, true, true, true, false, false] rfl rfl (one_of HT_.out (by kernel_rfl)) (by decide) (fun K hK => ?_)
                    refine value_ (w1 := ?_) (v := ?_) (by rfl) rfl ?_ ?_
                    rotate_left 2
                    · go_simp
                      constructor
                      · rfl
                      · rfl
                    refine hK.out _ _ ⟨(World.cell?_alloc_lt _ _ _ (World.block_lt_of_cell? _ _ (((HB.out.cell (World.block_lt_of_cell? w _ hw278_0)).trans hw278_0)))).trans (((HB.out.cell (World.block_lt_of_cell? w _ hw278_0)).trans hw278_0)), (World.cell?_alloc_lt _ _ _ (World.block_lt_of_cell? _ _ (((HB.out.cell (World.block_lt_of_cell? w _ hw278_1)).trans hw278_1)))).trans (((HB.out.cell (World.block_lt_of_cell? w _ hw278_1)).trans hw278_1)), (World.cell?_alloc_lt _ _ _ (World.block_lt_of_cell? _ _ (((HB.out.cell (World.block_lt_of_cell? w _ hw278_2)).trans hw278_2)))).trans (((HB.out.cell (World.block_lt_of_cell? w _ hw278_2)).trans hw278_2)), (World.cell?_alloc_lt _ _ _ (World.block_lt_of_cell? _ _ (((HB.out.cell (World.block_lt_of_cell? w _ hw279_0)).trans hw279_0)))).trans (((HB.out.cell (World.block_lt_of_cell? w _ hw279_0)).trans hw279_0)), (World.cell?_alloc_lt _ _ _ (World.block_lt_of_cell? _ _ (((HB.out.cell (World.block_lt_of_cell? w _ hw279_1)).trans hw279_1)))).trans (((HB.out.cell (World.block_lt_of_cell? w _ hw279_1)).trans hw279_1)), (World.cell?_alloc_lt _ _ _ (World.block_lt_of_cell? _ _ (((HB.out.cell (World.block_lt_of_cell? w _ hw279_2)).trans hw279_2)))).trans (((HB.out.cell (World.block_lt_of_cell? w _ hw279_2)).trans hw279_2)), (World.cell?_alloc_lt _ _ _ (World.block_lt_of_cell? _ _ (((HB.out.cell (World.block_lt_of_cell? w _ hw280_0)).trans hw280_0)))).trans (((HB.out.cell (World.block_lt_of_cell? w _ hw280_0)).trans hw280_0)), (World.cell?_alloc_lt _ _ _ (World.block_lt_of_cell? _ _ (((HB.out.cell (World.block_lt_of_cell? w _ hw280_1)).trans hw280_1)))).trans (((HB.out.cell (World.block_lt_of_cell? w _ hw280_1)).trans hw280_1)), (World.cell?_alloc_lt _ _ _ (World.block_lt_of_cell? _ _ (((HB.out.cell (World.block_lt_of_cell? w _ hw280_2)).trans hw280_2)))).trans (((HB.out.cell (World.block_lt_of_cell? w _ hw280_2)).trans hw280_2))⟩ (fun hHeld => ?_)
                    clear hK K
                    refine norm_ (a' := ?_) ?_ ?_
                    rotate_left
                    · show Act.put _ (some 53) _ = _
                      simp only [Act.put, List.setIfInBounds_toArray, List.set_cons_zero, List.set_cons_succ, i64_w, i32_w]
                      rfl
                    refine one_ (i := 24) (N := some 54) #[true, true, true, true, true, true, true, true, true, true, true, true, true, true, true, true, true, true, true, true, true, true, true, true, true, false] rfl rfl (one_of HT_.out (by kernel_rfl)) (by decide) (fun K hK => ?_)
                    refine Kd.R_append_step k48 (w0 := w) w.heap.size (by rfl) (.tmp 30) (.tmp 53) 36 48 (.agg #[(.int .i64 0), (.int .i64 0), (.string ⟨#[]⟩)]) 32 rfl Tryd.underlying36 info48 rfl (by decide) (by omega) u7 x7_1 (⟨wrap64 (((rd_T48 l1 x9_1).f0) + x8_1), wrap64 ((wrap64 (((rd_T48 l1 x9_1).f0) + x8_1)) + (((rd_T48 l1 x9_1).f2).size : Int)), a0.extract (((rd_T48 l1 x9_1).f0) : Int).toNat (((rd_T48 l1 x9_1).f1) : Int).toNat⟩ : S48) [.int .i64 (wrap64 (((rd_T48 l1 x9_1).f0) + x8_1)), .int .i64 (wrap64 ((wrap64 (((rd_T48 l1 x9_1).f0) + x8_1)) + (((rd_T48 l1 x9_1).f2).size : Int))), .string (a0.extract (((rd_T48 l1 x9_1).f0) : Int).toNat (((rd_T48 l1 x9_1).f1) : Int).toNat)] (fun _ => True) (fun _ => False) rfl rfl ?aP (fun _ hk => hk.elim) ?aF ?aO ?aB ?aS ?aL ?_
                    (case aP => exact k48_mkM _ _ _ (⟨wrap64 (((rd_T48 l1 x9_1).f0) + x8_1), wrap64 ((wrap64 (((rd_T48 l1 x9_1).f0) + x8_1)) + (((rd_T48 l1 x9_1).f2).size : Int)), a0.extract (((rd_T48 l1 x9_1).f0) : Int).toNat (((rd_T48 l1 x9_1).f1) : Int).toNat⟩ : S48))
                    (case aB => exact (by repeat (first | (with_reducible first | exact HB.out | apply below_alloc | apply pw_below_drewN | apply below_drew1) | exact HB.out)))
                    (case aF => exact (fun _ _ => trivial))
                    (case aO => exact (by (with_reducible repeat (first | apply Kd.R_alloc | apply Kd.R_drewN | apply Kd.R_drew)); exact HO_7.out))
                    (case aS => exact (below_size (by repeat (first | (with_reducible first | exact HB.out | apply below_alloc | apply pw_below_drewN | apply below_drew1) | exact HB.out))))
                    (case aL => have := LMc10.out; omega)
                    intro v282 w12 ho hb hg hat
                    rw [← Ny281.out] at ho
                    have n0_ := Aside0.mk (hb)
                    have n1_ := Aside0.mk (ho)
                    clear HB
                    clear HO_7
                    have HB := n0_
                    have HO283 := n1_
                    clear n0_ n1_
                    clear ho hb hg hat
                    refine hK.out _ _ ⟨((HB.out.cell (World.block_lt_of_cell? w _ hw278_0)).trans hw278_0), ((HB.out.cell (World.block_lt_of_cell? w _ hw278_1)).trans hw278_1), ((HB.out.cell (World.block_lt_of_cell? w _ hw278_2)).trans hw278_2), ((HB.out.cell (World.block_lt_of_cell? w _ hw279_0)).trans hw279_0), ((HB.out.cell (World.block_lt_of_cell? w _ hw279_1)).trans hw279_1), ((HB.out.cell (World.block_lt_of_cell? w _ hw279_2)).trans hw279_2), ((HB.out.cell (World.block_lt_of_cell? w _ hw280_0)).trans hw280_0), ((HB.out.cell (World.block_lt_of_cell? w _ hw280_1)).trans hw280_1), ((HB.out.cell (World.block_lt_of_cell? w _ hw280_2)).trans hw280_2)⟩ (fun hHeld => ?_)
                    clear hK K
                    refine norm_ (a' := ?_) ?_ ?_
                    rotate_left
                    · show Act.put _ (some 54) _ = _
                      simp only [Act.put, List.setIfInBounds_toArray, List.set_cons_zero, List.set_cons_succ, i64_w, i32_w]
                      rfl
                    refine pure_ (i := 25) (N := some 7) (v := ?_) (a' := ?_) #[true, true, true, true, true, true, true, true, true, true, true, true, true, true, true, true, true, true, true, true, true, true, true, true, true, true] rfl rfl (any_of HT_.out (by kernel_rfl)) (fun _ _ _ h => h) (Or.inl ⟨by rfl, ?_⟩) ?_ ?_
                    rotate_left
                    · intro w'
                      go_simp
                      with_reducible rfl
                    rotate_left
                    · simp only [Act.put, List.setIfInBounds_toArray, List.set_cons_zero, List.set_cons_succ, i64_w, i32_w]
                      rfl
                    refine done_ (done_of HT_.out (by kernel_rfl)) ?_
                    try go_wp2
                    have n0_ := Aside0.mk (Kd.R_drew HO283.out)
                    have n1_ := Aside0.mk (below_drew1 HB.out)
                    clear HO283
                    clear HB
                    have HO283 := n0_
                    have HB := n1_
                    clear n0_ n1_
                    have p284 : 0 ≤ (x9_1 : Int) := of_decide_eq_true (by first | (with_reducible assumption) | assumption)
                    have q284 : x9_1 < (l1.length : Int) := of_decide_eq_true (by first | (with_reducible assumption) | assumption)
                    obtain ⟨ad284, e284, hx284_0, hx284_1, hx284_2⟩ := at_T48 HR1.out x9_1 p284 q284
                    have hw284_2 := hx284_2
                    have hw284_1 := hx284_1
                    have hw284_0 := hx284_0
                    obtain rfl : ad277 = ad284 := (by injection e284)
                    replace hx284_0 := (HB.out.cell (World.block_lt_of_cell? w _ hx284_0)).trans hx284_0
                    replace hx284_1 := (HB.out.cell (World.block_lt_of_cell? w _ hx284_1)).trans hx284_1
                    replace hx284_2 := (HB.out.cell (World.block_lt_of_cell? w _ hx284_2)).trans hx284_2
                    replace p284 := eq_true p284
                    replace q284 := eq_true q284
                    have p285 : 0 ≤ (x9_1 : Int) := of_decide_eq_true (by first | (with_reducible assumption) | assumption)
                    have q285 : x9_1 < (l1.length : Int) := of_decide_eq_true (by first | (with_reducible assumption) | assumption)
                    obtain ⟨ad285, e285, hx285_0, hx285_1, hx285_2⟩ := at_T48 HR1.out x9_1 p285 q285
                    have hw285_2 := hx285_2
                    have hw285_1 := hx285_1
                    have hw285_0 := hx285_0
                    obtain rfl : ad277 = ad285 := (by injection e285)
                    replace hx285_0 := (HB.out.cell (World.block_lt_of_cell? w _ hx285_0)).trans hx285_0
                    replace hx285_1 := (HB.out.cell (World.block_lt_of_cell? w _ hx285_1)).trans hx285_1
                    replace hx285_2 := (HB.out.cell (World.block_lt_of_cell? w _ hx285_2)).trans hx285_2
                    replace p285 := eq_true p285
                    replace q285 := eq_true q285
                    have p286 : 0 ≤ (x9_1 : Int) := of_decide_eq_true (by first | (with_reducible assumption) | assumption)
                    have q286 : x9_1 < (l1.length : Int) := of_decide_eq_true (by first | (with_reducible assumption) | assumption)
                    obtain ⟨ad286, e286, hx286_0, hx286_1, hx286_2⟩ := at_T48 HR1.out x9_1 p286 q286
                    have hw286_2 := hx286_2
                    have hw286_1 := hx286_1
                    have hw286_0 := hx286_0
                    obtain rfl : ad277 = ad286 := (by injection e286)
                    replace hx286_0 := (HB.out.cell (World.block_lt_of_cell? w _ hx286_0)).trans hx286_0
                    replace hx286_1 := (HB.out.cell (World.block_lt_of_cell? w _ hx286_1)).trans hx286_1
                    replace hx286_2 := (HB.out.cell (World.block_lt_of_cell? w _ hx286_2)).trans hx286_2
                    replace p286 := eq_true p286
                    replace q286 := eq_true q286
                    refine start_ (n := 21) (S := fun w' => w'.cell? (ad277.add ((x9_1).toNat * 3)) = some (.int .i64 ((rd_T48 l1 x9_1).f0)) ∧ w'.cell? ⟨(ad277.add ((x9_1).toNat * 3)).block, (ad277.add ((x9_1).toNat * 3)).off + 1, none⟩ = some (.int .i64 ((rd_T48 l1 x9_1).f1)) ∧ w'.cell? ⟨(ad277.add ((x9_1).toNat * 3)).block, (ad277.add ((x9_1).toNat * 3)).off + 2, none⟩ = some (.string ((rd_T48 l1 x9_1).f2)) ∧ w'.cell? (ad277.add ((x9_1).toNat * 3)) = some (.int .i64 ((rd_T48 l1 x9_1).f0)) ∧ w'.cell? ⟨(ad277.add ((x9_1).toNat * 3)).block, (ad277.add ((x9_1).toNat * 3)).off + 1, none⟩ = some (.int .i64 ((rd_T48 l1 x9_1).f1)) ∧ w'.cell? ⟨(ad277.add ((x9_1).toNat * 3)).block, (ad277.add ((x9_1).toNat * 3)).off + 2, none⟩ = some (.string ((rd_T48 l1 x9_1).f2)) ∧ w'.cell? (ad277.add ((x9_1).toNat * 3)) = some (.int .i64 ((rd_T48 l1 x9_1).f0)) ∧ w'.cell? ⟨(ad277.add ((x9_1).toNat * 3)).block, (ad277.add ((x9_1).toNat * 3)).off + 1, none⟩ = some (.int .i64 ((rd_T48 l1 x9_1).f1)) ∧ w'.cell? ⟨(ad277.add ((x9_1).toNat * 3)).block, (ad277.add ((x9_1).toNat * 3)).off + 2, none⟩ = some (.string ((rd_T48 l1 x9_1).f2))) (ds := []) #[false, false, false, false, false, false, false, false, false, false, false, false, false, false, false, false, false, false, false, false, false] (by kernel_rfl) rfl rfl ⟨((HB.out.cell (World.block_lt_of_cell? w _ hw284_0)).trans hw284_0), ((HB.out.cell (World.block_lt_of_cell? w _ hw284_1)).trans hw284_1), ((HB.out.cell (World.block_lt_of_cell? w _ hw284_2)).trans hw284_2), ((HB.out.cell (World.block_lt_of_cell? w _ hw285_0)).trans hw285_0), ((HB.out.cell (World.block_lt_of_cell? w _ hw285_1)).trans hw285_1), ((HB.out.cell (World.block_lt_of_cell? w _ hw285_2)).trans hw285_2), ((HB.out.cell (World.block_lt_of_cell? w _ hw286_0)).trans hw286_0), ((HB.out.cell (World.block_lt_of_cell? w _ hw286_1)).trans hw286_1), ((HB.out.cell (World.block_lt_of_cell? w _ hw286_2)).trans hw286_2)⟩ (fun hHeld => ?_); refine with_tabW riposteref01_Undo.tab11 riposteref01_Undo.bits11 (fun HT_ HW_ => ?_)
                    generalize w12.drew = w13 at HO283 HB hx284_0 hx284_1 hx284_2 hx285_0 hx285_1 hx285_2 hx286_0 hx286_1 hx286_2 hHeld ⊢
                    refine pure_ (i := 0) (N := some 55) (v := ?_) (a' := ?_) #[true, false, false, false, false, false, false, false, false, false, false, false, false, false, false, false, false, false, false, false, false] rfl rfl (any_of HT_.out (by kernel_rfl)) (fun _ _ _ h => h) (Or.inl ⟨by rfl, ?_⟩) ?_ ?_
                    rotate_left
                    · intro w'
                      go_simp
                      with_reducible rfl
                    rotate_left
                    · simp only [Act.put, List.setIfInBounds_toArray, List.set_cons_zero, List.set_cons_succ, i64_w, i32_w]
                      rfl
                    refine pure_ (i := 1) (N := some 56) (v := ?_) (a' := ?_) #[true, true, false, false, false, false, false, false, false, false, false, false, false, false, false, false, false, false, false, false, false] rfl rfl (any_of HT_.out (by kernel_rfl)) (fun _ _ _ h => h) (Or.inl ⟨by rfl, ?_⟩) ?_ ?_
                    rotate_left
                    · intro w'
                      go_simp
                      with_reducible rfl
                    rotate_left
                    · simp only [Act.put, List.setIfInBounds_toArray, List.set_cons_zero, List.set_cons_succ, i64_w, i32_w]
                      rfl
                    refine pure_ (i := 2) (N := some 57) (v := ?_) (a' := ?_) #[true, true, true, false, false, false, false, false, false, false, false, false, false, false, false, false, false, false, false, false, false] rfl rfl (any_of HT_.out (by kernel_rfl)) (fun _ _ _ h => h) (Or.inl ⟨by rfl, ?_⟩) ?_ ?_
                    rotate_left
                    · intro w'
                      go_simp
                      with_reducible rfl
                    rotate_left
                    · simp only [Act.put, List.setIfInBounds_toArray, List.set_cons_zero, List.set_cons_succ, i64_w, i32_w]
                      rfl
                    refine pure_ (i := 3) (N := some 58) (v := ?_) (a' := ?_) #[true, true, true, true, false, false, false, false, false, false, false, false, false, false, false, false, false, false, false, false, false] rfl rfl (any_of HT_.out (by kernel_rfl)) (fun _ _ _ h => h) (Or.inl ⟨by rfl, ?_⟩) ?_ ?_
                    rotate_left
                    · intro w'
                      go_simp
                      with_reducible rfl
                    rotate_left
                    · simp only [Act.put, List.setIfInBounds_toArray, List.set_cons_zero, List.set_cons_succ, i64_w, i32_w]
                      rfl
                    refine pure_ (i := 4) (N := some 59) (v := ?_) (a' := ?_) #[true, true, true, true, true, false, false, false, false, false, false, false, false, false, false, false, false, false, false, false, false] rfl rfl (any_of HT_.out (by kernel_rfl)) (fun _ _ _ h => h) (Or.inl ⟨by rfl, ?_⟩) ?_ ?_
                    rotate_left
                    · intro w'
                      go_simp
                      with_reducible rfl
                    rotate_left
                    · simp only [Act.put, List.setIfInBounds_toArray, List.set_cons_zero, List.set_cons_succ, i64_w, i32_w]
                      rfl
                    refine pure_ (i := 7) (N := some 62) (v := ?_) (a' := ?_) #[true, true, true, true, true, false, false, true, false, false, false, false, false, false, false, false, false, false, false, false, false] rfl rfl (any_of HT_.out (by kernel_rfl)) (fun _ _ _ h => h) (Or.inl ⟨by rfl, ?_⟩) ?_ ?_
                    rotate_left
                    · intro w'
                      go_simp
                      with_reducible rfl
                    rotate_left
                    · simp only [Act.put, List.setIfInBounds_toArray, List.set_cons_zero, List.set_cons_succ, i64_w, i32_w]
                      rfl
                    refine pure_ (i := 8) (N := some 63) (v := ?_) (a' := ?_) #[true, true, true, true, true, false, false, true, true, false, false, false, false, false, false, false, false, false, false, false, false] rfl rfl (any_of HT_.out (by kernel_rfl)) (fun _ _ _ h => h) (Or.inl ⟨by rfl, ?_⟩) ?_ ?_
                    rotate_left
                    · intro w'
                      go_simp
                      with_reducible rfl
                    rotate_left
                    · simp only [Act.put, List.setIfInBounds_toArray, List.set_cons_zero, List.set_cons_succ, i64_w, i32_w]
                      rfl
                    refine pure_ (i := 9) (N := some 64) (v := ?_) (a' := ?_) #[true, true, true, true, true, false, false, true, true, true, false, false, false, false, false, false, false, false, false, false, false] rfl rfl (any_of HT_.out (by kernel_rfl)) (fun _ _ _ h => h) (Or.inl ⟨by rfl, ?_⟩) ?_ ?_
                    rotate_left
                    · intro w'
                      go_simp
                      with_reducible rfl
                    rotate_left
                    · simp only [Act.put, List.setIfInBounds_toArray, List.set_cons_zero, List.set_cons_succ, i64_w, i32_w]
                      rfl
                    refine pure_ (i := 10) (N := some 65) (v := ?_) (a' := ?_) #[true, true, true, true, true, false, false, true, true, true, true, false, false, false, false, false, false, false, false, false, false] rfl rfl (any_of HT_.out (by kernel_rfl)) (fun _ _ _ h => h) (Or.inl ⟨by rfl, ?_⟩) ?_ ?_
                    rotate_left
                    · intro w'
                      go_simp
                      with_reducible rfl
                    rotate_left
                    · simp only [Act.put, List.setIfInBounds_toArray, List.set_cons_zero, List.set_cons_succ, i64_w, i32_w]
                      rfl
                    refine pure_ (i := 12) (N := some 67) (v := ?_) (a' := ?_) #[true, true, true, true, true, false, false, true, true, true, true, false, true, false, false, false, false, false, false, false, false] rfl rfl (any_of HT_.out (by kernel_rfl)) (fun _ _ _ h => h) (Or.inl ⟨by rfl, ?_⟩) ?_ ?_
                    rotate_left
                    · intro w'
                      go_simp
                      with_reducible rfl
                    rotate_left
                    · simp only [Act.put, List.setIfInBounds_toArray, List.set_cons_zero, List.set_cons_succ, i64_w, i32_w]
                      rfl
                    refine pure_ (i := 13) (N := some 68) (v := ?_) (a' := ?_) #[true, true, true, true, true, false, false, true, true, true, true, false, true, true, false, false, false, false, false, false, false] rfl rfl (any_of HT_.out (by kernel_rfl)) (fun _ _ _ h => h) (Or.inl ⟨by rfl, ?_⟩) ?_ ?_
                    rotate_left
                    · intro w'
                      go_simp
                      with_reducible rfl
                    rotate_left
                    · simp only [Act.put, List.setIfInBounds_toArray, List.set_cons_zero, List.set_cons_succ, i64_w, i32_w]
                      rfl
                    refine pure_ (i := 14) (N := some 69) (v := ?_) (a' := ?_) #[true, true, true, true, true, false, false, true, true, true, true, false, true, true, true, false, false, false, false, false, false] rfl rfl (any_of HT_.out (by kernel_rfl)) (fun _ _ _ h => h) (Or.inl ⟨by rfl, ?_⟩) ?_ ?_
                    rotate_left
                    · intro w'
                      go_simp
                      with_reducible rfl
                    rotate_left
                    · simp only [Act.put, List.setIfInBounds_toArray, List.set_cons_zero, List.set_cons_succ, i64_w, i32_w]
                      rfl
                    refine pure_ (i := 15) (N := some 70) (v := ?_) (a' := ?_) #[true, true, true, true, true, false, false, true, true, true, true, false, true, true, true, true, false, false, false, false, false] rfl rfl (any_of HT_.out (by kernel_rfl)) (fun _ _ _ h => h) (Or.inl ⟨by rfl, ?_⟩) ?_ ?_
                    rotate_left
                    · intro w'
                      go_simp
                      with_reducible rfl
                    rotate_left
                    · simp only [Act.put, List.setIfInBounds_toArray, List.set_cons_zero, List.set_cons_succ, i64_w, i32_w]
                      rfl
                    refine take_ (i := 5) (N := some 60) (v := ?_) (a' := ?_) #[true, true, true, true, true, true, false, true, true, true, true, false, true, true, true, true, false, false, false, false, false] rfl rfl (take_ofW HT_.out HW_.out (by kernel_rfl)) (fun _ _ _ h => h) (Or.inl ⟨by rfl, ?_⟩) hHeld ?_ ?_
                    rotate_left
                    · rintro w' ⟨s0, s1, s2, s3, s4, s5, s6, s7, s8⟩
                      go_simp
                      with_reducible rfl
                    rotate_left
                    · simp only [Act.put, List.setIfInBounds_toArray, List.set_cons_zero, List.set_cons_succ, i64_w, i32_w]
                      rfl
                    refine pure_ (i := 6) (N := some 61) (v := ?_) (a' := ?_) #[true, true, true, true, true, true, true, true, true, true, true, false, true, true, true, true, false, false, false, false, false] rfl rfl (any_of HT_.out (by kernel_rfl)) (fun _ _ _ h => h) (Or.inl ⟨by rfl, ?_⟩) ?_ ?_
                    rotate_left
                    · intro w'
                      go_simp
                      with_reducible rfl
                    rotate_left
                    · simp only [Act.put, List.setIfInBounds_toArray, List.set_cons_zero, List.set_cons_succ, i64_w, i32_w]
                      rfl
                    refine take_ (i := 11) (N := some 66) (v := ?_) (a' := ?_) #[true, true, true, true, true, true, true, true, true, true, true, true, true, true, true, true, false, false, false, false, false] rfl rfl (take_ofW HT_.out HW_.out (by kernel_rfl)) (fun _ _ _ h => h) (Or.inl ⟨by rfl, ?_⟩) hHeld ?_ ?_
                    rotate_left
                    · rintro w' ⟨s0, s1, s2, s3, s4, s5, s6, s7, s8⟩
                      go_simp
                      with_reducible rfl
                    rotate_left
                    · simp only [Act.put, List.setIfInBounds_toArray, List.set_cons_zero, List.set_cons_succ, i64_w, i32_w]
                      rfl
                    refine take_ (i := 16) (N := some 71) (v := ?_) (a' := ?_) #[true, true, true, true, true, true, true, true, true, true, true, true, true, true, true, true, true, false, false, false, false] rfl rfl (take_ofW HT_.out HW_.out (by kernel_rfl)) (fun _ _ _ h => h) (Or.inl ⟨by rfl, ?_⟩) hHeld ?_ ?_
                    rotate_left
                    · rintro w' ⟨s0, s1, s2, s3, s4, s5, s6, s7, s8⟩
                      go_simp
                      with_reducible rfl
                    rotate_left
                    · simp only [Act.put, List.setIfInBounds_toArray, List.set_cons_zero, List.set_cons_succ, i64_w, i32_w]
                      rfl
                    refine pure_ (i := 17) (N := some 72) (v := ?_) (a' := ?_) #[true, true, true, true, true, true, true, true, true, true, true, true, true, true, true, true, true, true, false, false, false] rfl rfl (any_of HT_.out (by kernel_rfl)) (fun _ _ _ h => h) (Or.inl ⟨by rfl, ?_⟩) ?_ ?_
                    rotate_left
                    · intro w'
                      go_simp
                      with_reducible rfl
                    rotate_left
                    · simp only [Act.put, List.setIfInBounds_toArray, List.set_cons_zero, List.set_cons_succ, i64_w, i32_w]
                      rfl
                    refine pure_ (i := 18) (N := some 73) (v := ?_) (a' := ?_) #[true, true, true, true, true, true, true, true, true, true, true, true, true, true, true, true, true, true, true, false, false] rfl rfl (any_of HT_.out (by kernel_rfl)) (fun _ _ _ h => h) (Or.inl ⟨by rfl, ?_⟩) ?_ ?_
                    rotate_left
                    · intro w'
                      go_simp
                      with_reducible rfl
                    rotate_left
                    · simp only [Act.put, List.setIfInBounds_toArray, List.set_cons_zero, List.set_cons_succ, i64_w, i32_w]
                      rfl
                    refine pure_ (i := 19) (N := some 74) (v := ?_) (a' := ?_) #[true, true, true, true, true, true, true, true, true, true, true, true, true, true, true, true, true, true, true, true, false] rfl rfl (any_of HT_.out (by kernel_rfl)) (fun _ _ _ h => h) (Or.inl ⟨by rfl, ?_⟩) ?_ ?_
                    rotate_left
                    · intro w'
                      go_simp
                      with_reducible rfl
                    rotate_left
                    · simp only [Act.put, List.setIfInBounds_toArray, List.set_cons_zero, List.set_cons_succ, i64_w, i32_w]
                      rfl
                    refine pure_ (i := 20) (N := some 8) (v := ?_) (a' := ?_) #[true, true, true, true, true, true, true, true, true, true, true, true, true, true, true, true, true, true, true, true, true] rfl rfl (any_of HT_.out (by kernel_rfl)) (fun _ _ _ h => h) (Or.inl ⟨by rfl, ?_⟩) ?_ ?_
                    rotate_left
                    · intro w'
                      go_simp
                      with_reducible rfl
                    rotate_left
                    · simp only [Act.put, List.setIfInBounds_toArray, List.set_cons_zero, List.set_cons_succ, i64_w, i32_w]
                      rfl
                    refine done_ (done_of HT_.out (by kernel_rfl)) ?_
                    try go_wp2
                    go_roundg k1
                    case measure => have := HK1.out; omega
                    case rel => exact ⟨(y281), (wrap64 (x8_1 + (wrap64 ((((rd_T48 l1 x9_1).f2).size : Int) - (wrap64 (((rd_T48 l1 x9_1).f1) - ((rd_T48 l1 x9_1).f0))))))), (wrap64 (x9_1 + 1)), (by first | rfl | (simp; done) | (simp [*]; done)), (by first | rfl | (simp; done) | (simp [*]; done)), H', ⟨by have := HK1.out; omega⟩, ⟨by (with_reducible repeat (first | apply Kd.R_alloc | apply Kd.R_drewN | apply Kd.R_drew)); exact HO283.out⟩, ⟨by repeat (first | (with_reducible first | exact HB.out | apply below_alloc | apply pw_below_drewN | apply below_drew1) | exact HB.out)⟩⟩
                  · rw [if_neg c10] at H
                    exact absurd H (by simp)
                · rw [if_neg c9] at H
                  exact absurd H (by simp)
              · rw [if_neg c8] at H
                exact absurd H (by simp)
            · rw [if_neg c7] at H
              exact absurd H (by simp)
          · rw [if_neg c6] at H
            exact absurd H (by simp)
        · rw [if_neg c5] at H
          have c5b0 : decide (x9_1 < (l1.length : Int)) = false := decide_eq_false c5
          clear c5
          simp only [Option.some.injEq, Prod.mk.injEq] at H
          obtain ⟨rfl, rfl⟩ := H
          go_wp2
          go_ret2
          exact ⟨_, by first | rfl | (simp [errW_none, errW_some] <;> rfl) | (simp [*, errW_none, errW_some] <;> rfl), by (with_reducible repeat (first | apply Kd.R_alloc | apply Kd.R_drewN | apply Kd.R_drew)); exact HO_7.out, by repeat (first | (with_reducible first | exact HB.out | apply below_alloc | apply pw_below_drewN | apply below_drew1) | exact HB.out)⟩
  · rw [if_neg c4] at H
    have c4b0 : (t276 == 0) = false := beq_eq_false_iff_ne.mpr c4
    have c4b1 : (t276 != 0) = true := bne_iff_ne.mpr c4
    simp only [Option.some.injEq, Prod.mk.injEq] at H
    obtain ⟨rfl, rfl⟩ := H
    go_enter Tryd.func32, Tryd.ntmps32
    go_wp2_with (first | ((with_reducible refine gate_callee (f := 57) rfl ?_); refine goesL_ (some 13) rfl rfl Tryd.func57 (by kernel_rfl) rfl #[.string a0, .slice A1 l1.length c1] rfl (by (try simp only [List.map_toArray, List.map_cons, List.map_nil]); first | done | rfl | (simp only [List.length_drop, List.length_take]; rfl)) ?_; (with_reducible refine (riposteref01_check.calls k a0 _ _ l1 t276 _ ?side1 ?side2 A3.out).mono ?_); (case side1 => repeat (first | exact HR1.out | (with_reducible refine Kd.C_alloc ?_ _) | (with_reducible refine Kd.C_drewN ?_ _) | (with_reducible refine Kd.C_drew ?_))); (case side2 => exact HC1.out); rintro e w' ⟨rfl, ⟨nd, rfl⟩⟩; refine ⟨_, rfl, ?_⟩))
    go_ret2
    exact ⟨_, by first | rfl | (simp [errW_none, errW_some] <;> rfl) | (simp [*, errW_none, errW_some] <;> rfl), by first | exact Kd.R_nil _ _ _ _ _ | exact Kd.N_nil _ _ _ _ _ | exact Kd.V_nil _ _ _ _ _ | exact Kd.Q_nil _ _ _ _ _ | exact Kd.S_nil _ _ _ _ _, by repeat (first | (with_reducible first | exact HB.out | apply below_alloc | apply pw_below_drewN | apply below_drew1) | exact HB.out)⟩

-- NOT PRINTED: function 7 (ripostelaw01_LexSplices)

-- NOT PRINTED: function 61 (api_Token_61)

-- NOT PRINTED: function 62 (lex_later)

-- NOT PRINTED: function 63 (api_Token_63)

-- NOT PRINTED: function 33 (lex_Kept)

end Go.Proofs.YtggfcmondffodaaDoor.P
namespace Go.Proofs.YtggfcmondffodaaDoor.P
open Go.RowKit Go.Proofs.YtggfcmondffodaaDoorW.PrintWords
set_option linter.unusedVariables false
set_option linter.unusedSimpArgs false
/-- By how much a text grows. -/
def gr (x : Sp) : Int := (x.f2.size : Int) - (x.f1 - x.f0)
def rngB (n : Nat) : List Sp → Int → Bool
  | [], _ => true
  | x :: r, a => decide (a ≤ x.f0) && (decide (x.f0 ≤ x.f1) && (decide (x.f1 ≤ (n : Int)) && rngB n r x.f1))
def tailE : Int → List Sp → Int
  | n, [] => if n > 2500 then 5 else 0
  | n, x :: r => if badAt x.f2 x.f2.size 0 = none then tailE (n + gr x) r else 2
/-- The error of a text and of splices for it. -/
def splE (s : ByteArray) (l : List Sp) : Int :=
  if (chkT s).2 = 0 then (if 40 < l.length then 5 else if rngB s.size l 0 = true then tailE s.size l else 3) else (chkT s).2
theorem rngB_ord {n : Nat} : ∀ {l : List Sp} {a : Int}, rngB n l a = true → 0 ≤ a → a ≤ n → OrdS n l a
  | [], a, _, h0, h1 => ⟨h0, h1⟩
  | x :: r, a, h, h0, h1 => by
    unfold rngB at h
    simp only [Bool.and_eq_true, decide_eq_true_eq] at h
    obtain ⟨a1, a2, a3, a4⟩ := h
    exact ⟨h0, a1, a2, a3, rngB_ord a4 (by omega) a3⟩
/-- What is known of splices in range. -/
def BdS (x : Sp) : Prop := 0 ≤ x.f0 ∧ x.f0 ≤ x.f1 ∧ x.f1 ≤ 3000 ∧ x.f2.size ≤ 3000
theorem OrdS.bd {n : Nat} (hn : n ≤ 3000) : ∀ {l : List Sp} {a : Int}, OrdS n l a → (∀ x ∈ l, x.f2.size ≤ 3000) → ∀ x ∈ l, BdS x
  | [], _, _, _, x, hx => by cases hx
  | y :: r, a, h, hs, x, hx => by
    obtain ⟨h0, h1, h2, h3, h4⟩ := h
    rcases List.mem_cons.1 hx with rfl | hx
    · exact ⟨by omega, h2, by omega, hs _ List.mem_cons_self⟩
    · exact h4.bd hn (fun z hz => hs z (List.mem_cons_of_mem _ hz)) x hx
theorem BdS.gr {x : Sp} (h : BdS x) : -3000 ≤ gr x ∧ gr x ≤ 3000 := by
  obtain ⟨h0, h1, h2, h3⟩ := h
  unfold P.gr; omega
theorem gr_wrap {x : Sp} (h : BdS x) : wrap64 ((x.f2.size : Int) - wrap64 (x.f1 - x.f0)) = gr x := by
  obtain ⟨h0, h1, h2, h3⟩ := h
  unfold gr
  rw [w64 (x := x.f1 - x.f0) (by omega) (by omega), w64 (by omega) (by omega)]
theorem rd48_mem (l : List Sp) (i : Nat) (h : i < l.length) : rd_T48 l (i : Int) ∈ l :=
  List.mem_of_mem_drop (i := i) (by rw [drop_rd l i h]; exact List.mem_cons_self)
theorem up1 (i : Nat) (n : Nat) (h : i < n) (hn : n ≤ 140737488351232) : wrap64 ((i : Int) + 1) = ((i + 1 : Nat) : Int) := by rw [w64 (by omega) (by omega)]; omega
/-! ### The program's splices -/
theorem pGrown {x : Sp} (h : BdS x) : lex_splice_grown.f x.f0 x.f1 x.f2 = some (gr x) := by
  unfold lex_splice_grown.f
  rw [gr_wrap h]
theorem pL2 (n : Int) (l : List Sp) (i : Nat) (x : Sp) (hx : BdS x) (m : Nat) (hm : 6 ≤ m) : ∀ (d j : Nat), x.f2.size - j = d → j ≤ x.f2.size →
    lex_splices.l2 (d + 1 + m) n l (l.length : Int) (i : Int) (x.f2.size : Int) (j : Int) x.f0 x.f1 x.f2 = if badAt x.f2 d j = none then lex_splices.l1 m (wrap64 (n + gr x)) l (l.length : Int) (wrap64 ((i : Int) + 1)) else some 2 := by
  have hs := hx.2.2.2
  intro d
  induction d with
  | zero =>
    intro j hd hj
    rw [show 0 + 1 + m = m + 1 by omega, lex_splices.l2.eq_2, if_neg (by omega), pGrown hx]
    unfold badAt
    rw [if_pos rfl]; rfl
  | succ d ih =>
    intro j hd hj
    have e2 := up1 j x.f2.size (by omega) (by omega)
    rw [show d + 1 + 1 + m = (d + 1 + m) + 1 by omega, lex_splices.l2.eq_2, if_pos (by omega), if_pos (by omega), if_pos (by omega), pIsByte _ _ (by omega)]
    simp only [Option.bind_some]
    unfold badAt
    rw [if_pos (show j < x.f2.size by omega)]
    cases h : okB (bt x.f2 (j : Int)) with
    | true => rw [if_pos rfl, if_pos rfl, e2]; exact ih (j + 1) (by omega) (by omega)
    | false => rw [if_neg Bool.false_ne_true, if_neg Bool.false_ne_true, if_neg (show ¬ (some j = none) from fun e => by cases e)]
/-- The fuel that texts need. -/
def need : List Sp → Nat
  | [] => 0
  | x :: r => x.f2.size + 2 + need r
theorem need_nil : need [] = 0 := rfl
theorem need_cons (x : Sp) (r : List Sp) : need (x :: r) = x.f2.size + 2 + need r := rfl
theorem need_le : ∀ (l : List Sp), (∀ x ∈ l, x.f2.size ≤ 3000) → need l ≤ 3002 * l.length
  | [], _ => Nat.le_refl _
  | x :: r, h => by
    have := need_le r fun y hy => h y (List.mem_cons_of_mem _ hy)
    have := h x List.mem_cons_self
    unfold need; rw [List.length_cons]; omega
theorem pL1 (l : List Sp) (hb : ∀ x ∈ l, BdS x) (hl : l.length ≤ 1000) (m : Nat) (hm : 6 ≤ m) : ∀ (d i : Nat) (n : Int), l.length - i = d → i ≤ l.length → -100000000 ≤ n - 3000 * d → n + 3000 * d ≤ 100000000 →
    lex_splices.l1 (need (l.drop i) + 1 + m) n l (l.length : Int) (i : Int) = some (tailE n (l.drop i)) := by
  intro d
  induction d with
  | zero =>
    intro i n hd hi h1 h2
    rw [List.drop_eq_nil_of_le (show l.length ≤ i by omega), show need [] + 1 + m = m + 1 from by first | (rw [need_cons]; omega) | (rw [need_nil]; omega), lex_splices.l1.eq_2, if_neg (by omega)]
    unfold tailE
    split <;> rfl
  | succ d ih =>
    intro i n hd hi h1 h2
    have hlt : i < l.length := by omega
    have hx := hb _ (rd48_mem l i hlt)
    have hg := hx.gr
    have e2 := up1 i l.length hlt (by omega)
    rw [drop_rd l i hlt]
    generalize hy : rd_T48 l (i : Int) = y at *
    rw [show need (y :: l.drop (i + 1)) + 1 + m = (y.f2.size + 1 + (need (l.drop (i + 1)) + 1 + m)) + 1 from by first | (rw [need_cons]; omega) | (rw [need_nil]; omega), lex_splices.l1.eq_2, if_pos (by omega), if_pos (by omega), if_pos (by omega), hy]
    have := pL2 n l i y hx (need (l.drop (i + 1)) + 1 + m) (by omega) y.f2.size 0 (by omega) (by omega)
    rw [show ((0 : Nat) : Int) = 0 from rfl] at this
    rw [this]
    unfold tailE
    by_cases c : badAt y.f2 y.f2.size 0 = none
    · rw [if_pos c, if_pos c, e2, w64 (x := n + gr y) (by omega) (by omega)]
      exact ih (i + 1) _ (by omega) (by omega) (by omega) (by omega)
    · rw [if_neg c, if_neg c]
theorem pL0 (s : ByteArray) (hs : s.size ≤ 140737488351232) (l : List Sp) (hl : l.length ≤ 1000) (m : Nat) : ∀ (d i : Nat) (a : Int), l.length - i = d → i ≤ l.length →
    lex_splices.l0 (d + 1 + m) s l a (s.size : Int) l (l.length : Int) (i : Int) = if rngB s.size (l.drop i) a = true then lex_splices.l1 m (s.size : Int) l (l.length : Int) 0 else some 3 := by
  intro d
  induction d with
  | zero =>
    intro i a hd hi
    rw [List.drop_eq_nil_of_le (show l.length ≤ i by omega), show 0 + 1 + m = m + 1 by omega, lex_splices.l0.eq_2, if_neg (by omega), if_pos (show rngB s.size [] a = true from rfl)]
  | succ d ih =>
    intro i a hd hi
    have hlt : i < l.length := by omega
    have e2 := up1 i l.length hlt (by omega)
    rw [drop_rd l i hlt, show d + 1 + 1 + m = (d + 1 + m) + 1 by omega, lex_splices.l0.eq_2, if_pos (by omega), if_pos (by omega), if_pos (by omega)]
    generalize hy : rd_T48 l (i : Int) = y
    unfold rngB
    by_cases c1 : y.f0 < a
    · rw [if_pos c1, decide_eq_false (show ¬ a ≤ y.f0 by omega)]; rfl
    · rw [if_neg c1, decide_eq_true (show a ≤ y.f0 by omega)]
      by_cases c2 : y.f1 < y.f0
      · rw [if_pos c2, decide_eq_false (show ¬ y.f0 ≤ y.f1 by omega)]; rfl
      · rw [if_neg c2, decide_eq_true (show y.f0 ≤ y.f1 by omega)]
        by_cases c3 : y.f1 > (s.size : Int)
        · rw [if_pos c3, decide_eq_false (show ¬ y.f1 ≤ (s.size : Int) by omega)]; rfl
        · rw [if_neg c3, decide_eq_true (show y.f1 ≤ (s.size : Int) by omega), e2, ih (i + 1) _ (by omega) (by omega)]; rfl
theorem pSplices (s : ByteArray) (l : List Sp) (hs : s.size ≤ 3000) (hl : l.length ≤ 1000) (hx : ∀ x ∈ l, x.f2.size ≤ 3000) : lex_splices.f (l.length + 1 + (need l + 1 + 4000)) s l = some (splE s l) := by
  unfold lex_splices.f splE
  rw [pCheck s (by omega) _ (by omega)]
  simp only [Option.bind_some]
  by_cases c : (chkT s).2 = 0
  · rw [if_pos c, if_pos c]
    by_cases c2 : 40 < l.length
    · rw [if_pos (by omega), if_pos c2]
    · rw [if_neg (by omega), if_neg c2]
      have h0 := pL0 s (by omega) l hl (need l + 1 + 4000) l.length 0 0 (by omega) (by omega)
      rw [List.drop_zero] at h0
      refine h0.trans ?_
      by_cases c3 : rngB s.size l 0 = true
      · rw [if_pos c3, if_pos c3]
        have hO := rngB_ord c3 (Int.le_refl _) (by omega)
        have h1 := pL1 l (hO.bd hs hx) hl 4000 (by omega) l.length 0 (s.size : Int) (by omega) (by omega) (by omega) (by omega)
        rw [List.drop_zero] at h1
        exact h1
      · rw [if_neg c3, if_neg c3]
  · rw [if_neg c, if_neg c]
/-! ### The reference's -/
theorem rL2 (s : ByteArray) (l : List Sp) (i : Nat) (hi : i < l.length) (more : Int) (hl : l.length ≤ 1000) (hx : BdS (rd_T48 l (i : Int))) (m : Nat) : ∀ (d j : Nat), (rd_T48 l (i : Int)).f2.size - j = d → j ≤ (rd_T48 l (i : Int)).f2.size →
    riposteref01_SplicesError.l2 (d + 1 + m) s l more (i : Int) (j : Int) = if badAt (rd_T48 l (i : Int)).f2 d j = none then riposteref01_SplicesError.l1 m s l (wrap64 (more + gr (rd_T48 l (i : Int)))) (wrap64 ((i : Int) + 1)) else some 2 := by
  have hs := hx.2.2.2
  have hgw := gr_wrap hx
  generalize hy : rd_T48 l (i : Int) = y at *
  intro d
  induction d with
  | zero =>
    intro j hd hj
    rw [show 0 + 1 + m = m + 1 by omega, riposteref01_SplicesError.l2.eq_2, hy, if_pos (by omega), if_pos (by omega), if_neg (by omega), hgw]
    unfold badAt
    rw [if_pos rfl]
  | succ d ih =>
    intro j hd hj
    have e2 := up1 j y.f2.size (by omega) (by omega)
    rw [show d + 1 + 1 + m = (d + 1 + m) + 1 by omega, riposteref01_SplicesError.l2.eq_2, hy, if_pos (by omega), if_pos (by omega), if_pos (by omega), if_pos (by omega), rIsByte]
    simp only [Option.bind_some]
    unfold badAt
    rw [if_pos (show j < y.f2.size by omega)]
    cases h : okB (bt y.f2 (j : Int)) with
    | true => rw [if_pos rfl, if_pos rfl, e2]; exact ih (j + 1) (by omega) (by omega)
    | false => rw [if_neg Bool.false_ne_true, if_neg Bool.false_ne_true, if_neg (show ¬ (some j = none) from fun e => by cases e)]
theorem rL1 (s : ByteArray) (hsz : s.size ≤ 3000) (l : List Sp) (hb : ∀ x ∈ l, BdS x) (hl : l.length ≤ 1000) (m : Nat) : ∀ (d i : Nat) (n : Int), l.length - i = d → i ≤ l.length → -100000000 ≤ n - 3000 * d → n + 3000 * d ≤ 100000000 →
    riposteref01_SplicesError.l1 (need (l.drop i) + 1 + m) s l n (i : Int) = some (tailE (s.size + n) (l.drop i)) := by
  intro d
  induction d with
  | zero =>
    intro i n hd hi h1 h2
    rw [List.drop_eq_nil_of_le (show l.length ≤ i by omega), show need [] + 1 + m = m + 1 from by first | (rw [need_cons]; omega) | (rw [need_nil]; omega), riposteref01_SplicesError.l1.eq_2, if_neg (by omega), w64 (by omega) (by omega)]
    unfold tailE
    split <;> rfl
  | succ d ih =>
    intro i n hd hi h1 h2
    have hlt : i < l.length := by omega
    have hx := hb _ (rd48_mem l i hlt)
    have hg := hx.gr
    have e2 := up1 i l.length hlt (by omega)
    have h3 := rL2 s l i hlt n hl hx (need (l.drop (i + 1)) + 1 + m) (rd_T48 l (i : Int)).f2.size 0 (by omega) (by omega)
    rw [drop_rd l i hlt]
    generalize hy : rd_T48 l (i : Int) = y at *
    rw [show need (y :: l.drop (i + 1)) + 1 + m = (y.f2.size + 1 + (need (l.drop (i + 1)) + 1 + m)) + 1 from by first | (rw [need_cons]; omega) | (rw [need_nil]; omega), riposteref01_SplicesError.l1.eq_2, if_pos (by omega)]
    rw [show ((0 : Nat) : Int) = 0 from rfl] at h3
    rw [h3]
    unfold tailE
    by_cases c : badAt y.f2 y.f2.size 0 = none
    · rw [if_pos c, if_pos c, e2, w64 (x := n + gr y) (by omega) (by omega), ih (i + 1) _ (by omega) (by omega) (by omega) (by omega), Int.add_assoc]
    · rw [if_neg c, if_neg c]
theorem rL0 (s : ByteArray) (hs : s.size ≤ 140737488351232) (l : List Sp) (hl : l.length ≤ 1000) (m : Nat) : ∀ (d i : Nat) (a : Int), l.length - i = d → i ≤ l.length →
    riposteref01_SplicesError.l0 (d + 1 + m) s l a (i : Int) = if rngB s.size (l.drop i) a = true then riposteref01_SplicesError.l1 m s l 0 0 else some 3 := by
  intro d
  induction d with
  | zero =>
    intro i a hd hi
    rw [List.drop_eq_nil_of_le (show l.length ≤ i by omega), show 0 + 1 + m = m + 1 by omega, riposteref01_SplicesError.l0.eq_2, if_neg (by omega), if_pos (show rngB s.size [] a = true from rfl)]
  | succ d ih =>
    intro i a hd hi
    have hlt : i < l.length := by omega
    have e2 := up1 i l.length hlt (by omega)
    rw [drop_rd l i hlt, show d + 1 + 1 + m = (d + 1 + m) + 1 by omega, riposteref01_SplicesError.l0.eq_2, if_pos (by omega), if_pos (by omega)]
    generalize hy : rd_T48 l (i : Int) = y
    unfold rngB
    by_cases c1 : y.f0 < a
    · rw [if_pos c1, decide_eq_false (show ¬ a ≤ y.f0 by omega)]; rfl
    · rw [if_neg c1, decide_eq_true (show a ≤ y.f0 by omega)]
      by_cases c2 : y.f1 < y.f0
      · rw [if_pos c2, decide_eq_false (show ¬ y.f0 ≤ y.f1 by omega)]; rfl
      · rw [if_neg c2, decide_eq_true (show y.f0 ≤ y.f1 by omega)]
        by_cases c3 : y.f1 > (s.size : Int)
        · rw [if_pos c3, decide_eq_false (show ¬ y.f1 ≤ (s.size : Int) by omega)]; rfl
        · rw [if_neg c3, decide_eq_true (show y.f1 ≤ (s.size : Int) by omega), e2, ih (i + 1) _ (by omega) (by omega)]; rfl
/-- The fuel for all of it. -/
def fuS (l : List Sp) : Nat := l.length + 1 + (need l + 1 + 4000)
theorem rCheck (s : ByteArray) (l : List Sp) (hs : s.size ≤ 3000) (hl : l.length ≤ 1000) (hx : ∀ x ∈ l, x.f2.size ≤ 3000) : riposteref01_check.f (fuS l) s l = some (splE s l) := by
  unfold riposteref01_check.f riposteref01_SplicesError.f splE fuS
  rw [rText s (by omega) _ (by omega)]
  simp only [Option.bind_some]
  by_cases c : (chkT s).2 = 0
  · rw [if_pos c, if_pos c]
    by_cases c2 : 40 < l.length
    · rw [if_pos (by omega), if_pos c2]; rfl
    · rw [if_neg (by omega), if_neg c2]
      have h0 := rL0 s (by omega) l hl (need l + 1 + 4000) l.length 0 0 (by omega) (by omega)
      rw [List.drop_zero, show ((0 : Nat) : Int) = 0 from rfl] at h0
      rw [h0]
      by_cases c3 : rngB s.size l 0 = true
      · rw [if_pos c3, if_pos c3]
        have hO := rngB_ord c3 (Int.le_refl _) (by omega)
        have h1 := rL1 s hs l (hO.bd hs hx) hl 4000 l.length 0 0 (by omega) (by omega) (by omega) (by omega)
        rw [List.drop_zero, show ((0 : Nat) : Int) = 0 from rfl, Int.add_zero] at h1
        rw [h1]; rfl
      · rw [if_neg c3, if_neg c3]; rfl
  · rw [if_neg c, if_neg c]
theorem splE_ord {s : ByteArray} {l : List Sp} (h : splE s l = 0) : (chkT s).2 = 0 ∧ l.length ≤ 40 ∧ OrdS s.size l 0 ∧ tailE s.size l = 0 := by
  unfold splE at h
  by_cases c : (chkT s).2 = 0
  · rw [if_pos c] at h
    by_cases c2 : 40 < l.length
    · rw [if_pos c2] at h; exact absurd h (by decide)
    · rw [if_neg c2] at h
      by_cases c3 : rngB s.size l 0 = true
      · rw [if_pos c3] at h
        exact ⟨c, by omega, rngB_ord c3 (Int.le_refl _) (by omega), h⟩
      · rw [if_neg c3] at h; exact absurd h (by decide)
  · rw [if_neg c] at h; exact absurd h c
end Go.Proofs.YtggfcmondffodaaDoor.P
namespace Go.Proofs.YtggfcmondffodaaDoor.P
open Go.RowKit Go.Proofs.YtggfcmondffodaaDoorW.PrintWords
set_option linter.unusedVariables false
set_option linter.unusedSimpArgs false
attribute [local irreducible] gr
/-- lex.Apply. -/
def appM (s : ByteArray) (l : List Sp) : ByteArray × Int := if splE s l = 0 then (splM s l, 0) else (⟨#[]⟩, splE s l)
theorem rSpl0 (s : ByteArray) (hs : s.size ≤ 3000) (l : List Sp) (hl : l.length ≤ 1000) (hx : ∀ x ∈ l, x.f2.size ≤ 3000) : ∀ (d i k : Nat) (a : Int) (acc : ByteArray), l.length - i = d → i ≤ l.length → d < k → acc.size ≤ 6000 * i → OrdS s.size (l.drop i) a →
    riposteref01_Spliced.l0 k s l acc a (i : Int) = some (acc ++ ba (splB s (l.drop i) a)) := by
  intro d
  induction d with
  | zero =>
    intro i k a acc hd hi hk ha hO
    obtain ⟨k, rfl, _⟩ := succ_of hk
    obtain ⟨h0, h1⟩ := hO.range
    have hz : (s.extract a.toNat s.size).size ≤ 3000 := by rw [size_ex]; omega
    rw [List.drop_eq_nil_of_le (show l.length ≤ i by omega), riposteref01_Spliced.l0.eq_2, if_neg (by omega), if_pos h0, if_pos h1, if_pos (by omega)]
    unfold splB
    rw [show ba (s.extract a.toNat s.size).data.toList = s.extract a.toNat s.size from ba_ext rfl]
  | succ d ih =>
    intro i k a acc hd hi hk ha hO
    obtain ⟨k, rfl, hk'⟩ := succ_of hk
    have hlt : i < l.length := by omega
    have hxi := hx _ (rd48_mem l i hlt)
    have e2 := up1 i l.length hlt (by omega)
    rw [drop_rd l i hlt] at hO ⊢
    rw [riposteref01_Spliced.l0.eq_2, if_pos (by omega), if_pos (by omega)]
    generalize hy : rd_T48 l (i : Int) = y at *
    obtain ⟨o0, o1, o2, o3, o4⟩ := hO
    have hz : (s.extract a.toNat y.f0.toNat).size ≤ 3000 := by rw [size_ex]; omega
    have hz2 : (s.extract a.toNat y.f0.toNat ++ y.f2).size = (s.extract a.toNat y.f0.toNat).size + y.f2.size := ByteArray.size_append
    rw [if_pos o0, if_pos o1, if_pos (by omega), if_pos (by omega), if_pos (by omega), e2]
    refine (ih (i + 1) k y.f1 _ (by omega) (by omega) (by omega) (by rw [ByteArray.size_append, hz2]; omega) o4).trans ?_
    rw [splB]
    congr 1
    apply ba_ext
    simp [ba]
theorem fuS_pos (l : List Sp) : l.length + 4000 < fuS l := by unfold fuS; omega
theorem rSpliced (s : ByteArray) (hs : s.size ≤ 3000) (l : List Sp) (hl : l.length ≤ 1000) (hx : ∀ x ∈ l, x.f2.size ≤ 3000) (hO : OrdS s.size l 0) (k : Nat) (hk : l.length < k) : riposteref01_Spliced.f k s l = some (splM s l) := by
  unfold riposteref01_Spliced.f splM
  have h := rSpl0 s hs l hl hx l.length 0 k 0 (⟨#[]⟩ : ByteArray) (by omega) (by omega) hk (Nat.zero_le _) (by rw [List.drop_zero]; exact hO)
  rw [List.drop_zero, show ((0 : Nat) : Int) = 0 from rfl] at h
  refine h.trans (congrArg some ?_)
  apply ba_ext
  simp [ba]
theorem rApply (s : ByteArray) (l : List Sp) (hs : s.size ≤ 3000) (hl : l.length ≤ 1000) (hx : ∀ x ∈ l, x.f2.size ≤ 3000) : riposteref01_Apply.f (fuS l) s l = some (appM s l) := by
  unfold riposteref01_Apply.f appM
  rw [rCheck s l hs hl hx]
  simp only [Option.bind_some]
  by_cases c : splE s l = 0
  · rw [if_pos c, if_pos c, rSpliced s hs l hl hx (splE_ord c).2.2.1 _ (by have := fuS_pos l; omega)]; rfl
  · rw [if_neg c, if_neg c]
/-! ### Where a byte goes -/
def mvd (p : Int) : List Sp → Int → Int × Int
  | [], n => (n, 0)
  | x :: r, n => if x.f1 ≤ p then mvd p r (n + gr x) else if x.f0 ≤ p then (0, 7) else mvd p r n
/-- lex.Moved. -/
def mvdM (s : ByteArray) (l : List Sp) (p : Int) : Int × Int := if splE s l = 0 then (if p < 0 ∨ p > (s.size : Int) then (0, 3) else mvd p l p) else (0, splE s l)
theorem pMvd (l : List Sp) (p : Int) (hl : l.length ≤ 1000) (hb : ∀ x ∈ l, BdS x) : ∀ (d i k : Nat) (n : Int), l.length - i = d → i ≤ l.length → d < k → -100000000 ≤ n - 3000 * d → n + 3000 * d ≤ 100000000 →
    lex_Moved.l0 k p n l (l.length : Int) (i : Int) = some (mvd p (l.drop i) n) := by
  intro d
  induction d with
  | zero =>
    intro i k n hd hi hk h1 h2
    obtain ⟨k, rfl, _⟩ := succ_of hk
    rw [List.drop_eq_nil_of_le (show l.length ≤ i by omega), lex_Moved.l0.eq_2, if_neg (by omega)]; rfl
  | succ d ih =>
    intro i k n hd hi hk h1 h2
    obtain ⟨k, rfl, hk'⟩ := succ_of hk
    have hlt : i < l.length := by omega
    have hx := hb _ (rd48_mem l i hlt)
    have hg := hx.gr
    have e2 := up1 i l.length hlt (by omega)
    rw [drop_rd l i hlt, lex_Moved.l0.eq_2, if_pos (by omega), if_pos (by omega), if_pos (by omega)]
    generalize hy : rd_T48 l (i : Int) = y at *
    unfold mvd
    by_cases c : y.f1 ≤ p
    · rw [if_pos c, if_pos c, pGrown hx]
      simp only [Option.bind_some]
      rw [e2, w64 (x := n + gr y) (by omega) (by omega)]
      exact ih (i + 1) k _ (by omega) (by omega) (by omega) (by omega) (by omega)
    · rw [if_neg c, if_neg c]
      by_cases c2 : y.f0 ≤ p
      · rw [if_pos c2, if_pos c2]
      · rw [if_neg c2, if_neg c2, e2]
        exact ih (i + 1) k _ (by omega) (by omega) (by omega) (by omega) (by omega)
theorem rMvd (l : List Sp) (p : Int) (hp : 0 ≤ p ∧ p ≤ 3000) (hl : l.length ≤ 1000) (hb : ∀ x ∈ l, BdS x) : ∀ (d i k : Nat) (n : Int), l.length - i = d → i ≤ l.length → 2 * d + 1 < k → -100000000 ≤ n - 3000 * d → n + 3000 * d ≤ 100000000 →
    riposteref01_Moved.l0 k l p n (i : Int) = some (mvd p (l.drop i) (p + n)) := by
  intro d
  induction d with
  | zero =>
    intro i k n hd hi hk h1 h2
    obtain ⟨k, rfl⟩ : ∃ m, k = m + 1 := ⟨k - 1, by omega⟩
    rw [List.drop_eq_nil_of_le (show l.length ≤ i by omega), riposteref01_Moved.l0.eq_2, if_neg (by omega), w64 (by omega) (by omega)]; rfl
  | succ d ih =>
    intro i k n hd hi hk h1 h2
    obtain ⟨k, rfl⟩ : ∃ m, k = m + 2 := ⟨k - 2, by omega⟩
    have hlt : i < l.length := by omega
    have hx := hb _ (rd48_mem l i hlt)
    have hg := hx.gr
    have hgw := gr_wrap hx
    have e2 := up1 i l.length hlt (by omega)
    rw [drop_rd l i hlt, riposteref01_Moved.l0.eq_2, if_pos (by omega), if_pos (by omega)]
    generalize hy : rd_T48 l (i : Int) = y at *
    have hle := hx.2.1
    unfold mvd
    have hno : riposteref01_Moved.j2 (k + 1) l p n (i : Int) false = some (if y.f1 ≤ p then mvd p (l.drop (i + 1)) (p + n + gr y) else mvd p (l.drop (i + 1)) (p + n)) := by
      rw [riposteref01_Moved.j2.eq_2, if_neg Bool.false_ne_true, if_pos (by omega), if_pos (by omega), hy]
      by_cases c : y.f1 ≤ p
      · rw [if_pos c, if_pos c, hgw, e2, w64 (x := n + gr y) (by omega) (by omega), ih (i + 1) k _ (by omega) (by omega) (by omega) (by omega) (by omega), ← Int.add_assoc]
      · rw [if_neg c, if_neg c, e2]
        exact ih (i + 1) k _ (by omega) (by omega) (by omega) (by omega) (by omega)
    by_cases c2 : y.f0 ≤ p
    · rw [if_pos c2]
      by_cases c : y.f1 ≤ p
      · rw [decide_eq_false (show ¬ p < y.f1 by omega), hno, if_pos c, if_pos c]
      · rw [decide_eq_true (show p < y.f1 by omega), riposteref01_Moved.j2.eq_2, if_pos rfl, if_neg c, if_pos c2]
    · rw [if_neg c2, hno, if_neg c2]
theorem pMoved (s : ByteArray) (l : List Sp) (p : Int) (hs : s.size ≤ 3000) (hl : l.length ≤ 1000) (hx : ∀ x ∈ l, x.f2.size ≤ 3000) : lex_Moved.f (fuS l) s l p = some (mvdM s l p) := by
  unfold lex_Moved.f mvdM
  rw [show lex_splices.f (fuS l) s l = some (splE s l) from pSplices s l hs hl hx]
  simp only [Option.bind_some]
  have hfu := fuS_pos l
  by_cases c : splE s l = 0
  · rw [if_pos c, if_pos c]
    obtain ⟨k, hk⟩ : ∃ k, fuS l = k + 1 := ⟨fuS l - 1, by omega⟩
    rw [hk]
    by_cases c1 : p < 0
    · rw [if_pos c1, if_pos (.inl c1), lex_Moved.j0.eq_2, if_pos rfl]
    · rw [if_neg c1, lex_Moved.j0.eq_2]
      by_cases c2 : p > (s.size : Int)
      · rw [decide_eq_true c2, if_pos rfl, if_pos (.inr c2)]
      · rw [decide_eq_false c2, if_neg Bool.false_ne_true, if_neg (by omega)]
        have h := pMvd l p hl ((splE_ord c).2.2.1.bd hs hx) l.length 0 k p (by omega) (by omega) (by omega) (by omega) (by omega)
        rw [List.drop_zero] at h
        exact h
  · rw [if_neg c, if_neg c]
theorem rMoved (s : ByteArray) (l : List Sp) (p : Int) (hs : s.size ≤ 3000) (hl : l.length ≤ 1000) (hx : ∀ x ∈ l, x.f2.size ≤ 3000) : riposteref01_Moved.f (fuS l) s l p = some (mvdM s l p) := by
  unfold riposteref01_Moved.f mvdM
  rw [rCheck s l hs hl hx]
  simp only [Option.bind_some]
  have hfu := fuS_pos l
  by_cases c : splE s l = 0
  · rw [if_pos c, if_pos c]
    obtain ⟨k, hk⟩ : ∃ k, fuS l = k + 1 := ⟨fuS l - 1, by omega⟩
    rw [hk]
    by_cases c1 : p < 0
    · rw [if_pos c1, if_pos (.inl c1), riposteref01_Moved.j0.eq_2, if_pos rfl]
    · rw [if_neg c1, riposteref01_Moved.j0.eq_2]
      by_cases c2 : p > (s.size : Int)
      · rw [decide_eq_true c2, if_pos rfl, if_pos (.inr c2)]
      · rw [decide_eq_false c2, if_neg Bool.false_ne_true, if_neg (by omega)]
        have h := rMvd l p ⟨by omega, by omega⟩ hl ((splE_ord c).2.2.1.bd hs hx) l.length 0 k 0 (by omega) (by omega) (by have := need_le l hx; unfold fuS at hk; omega) (by omega) (by omega)
        rw [List.drop_zero, Int.add_zero] at h
        exact h
  · rw [if_neg c, if_neg c]
/-! ### What leads back -/
def unS (s : ByteArray) : List Sp → Int → List Sp
  | [], _ => []
  | x :: r, m => ⟨x.f0 + m, x.f0 + m + (x.f2.size : Int), s.extract x.f0.toNat x.f1.toNat⟩ :: unS s r (m + gr x)
/-- lex.Undo. -/
def unM (s : ByteArray) (l : List Sp) : List Sp × Int := if splE s l = 0 then (unS s l 0, 0) else ([], splE s l)
theorem unS_length (s : ByteArray) : ∀ (l : List Sp) (m : Int), (unS s l m).length = l.length
  | [], _ => rfl
  | x :: r, m => by unfold unS; rw [List.length_cons, List.length_cons, unS_length s r]
theorem pUn (s : ByteArray) (hs : s.size ≤ 3000) (l : List Sp) (hl : l.length ≤ 1000) (hb : ∀ x ∈ l, BdS x ∧ x.f1 ≤ (s.size : Int)) : ∀ (d i k : Nat) (m : Int) (out : List Sp), l.length - i = d → i ≤ l.length → d < k → out.length ≤ i → -100000000 ≤ m - 3000 * d → m + 3000 * d ≤ 100000000 →
    lex_Undo.l0 k s out m l (l.length : Int) (i : Int) = some (out ++ unS s (l.drop i) m, 0) := by
  intro d
  induction d with
  | zero =>
    intro i k m out hd hi hk ho h1 h2
    obtain ⟨k, rfl, _⟩ := succ_of hk
    rw [List.drop_eq_nil_of_le (show l.length ≤ i by omega), lex_Undo.l0.eq_2, if_neg (by omega)]
    unfold unS; rw [List.append_nil]
  | succ d ih =>
    intro i k m out hd hi hk ho h1 h2
    obtain ⟨k, rfl, hk'⟩ := succ_of hk
    have hlt : i < l.length := by omega
    obtain ⟨hx, hx1⟩ := hb _ (rd48_mem l i hlt)
    have hg := hx.gr
    have e2 := up1 i l.length hlt (Nat.le_trans hl (by decide))
    have q0 : (0 : Int) ≤ (i : Int) := Int.natCast_nonneg i
    have q1 : (i : Int) < (l.length : Int) := Int.ofNat_lt.2 hlt
    have q2 : out.length < 4398046511104 := Nat.lt_of_le_of_lt (Nat.le_trans ho (Nat.le_trans hi hl)) (by decide)
    rw [drop_rd l i hlt, lex_Undo.l0.eq_2]
    refine (if_pos q1).trans ((if_pos q0).trans ((if_pos q1).trans ?_))
    generalize hy : rd_T48 l (i : Int) = y at *
    have hx' := hx
    obtain ⟨x0, x1, x2, x3⟩ := hx'
    have em : lex_splice_moved.f y.f0 y.f1 y.f2 s m = some (wrap64 (y.f0 + m), wrap64 (wrap64 (y.f0 + m) + (y.f2.size : Int)), s.extract (y.f0 : Int).toNat (y.f1 : Int).toNat) := by
      unfold lex_splice_moved.f
      rw [if_pos x0, if_pos x1, if_pos hx1]
    rw [em, pGrown hx]
    simp only [Option.bind_some]
    refine (if_pos q2).trans ?_
    rw [e2, w64 (x := y.f0 + m) (by omega) (by omega), w64 (x := y.f0 + m + (y.f2.size : Int)) (by omega) (by omega), w64 (x := m + gr y) (by omega) (by omega)]
    refine (ih (i + 1) k _ _ (by omega) (by omega) (by omega) (by rw [List.length_append, List.length_singleton]; omega) (by omega) (by omega)).trans ?_
    rw [unS, List.append_assoc]; rfl
theorem rUn (s : ByteArray) (hs : s.size ≤ 3000) (l : List Sp) (hl : l.length ≤ 1000) (hb : ∀ x ∈ l, BdS x ∧ x.f1 ≤ (s.size : Int)) : ∀ (d i k : Nat) (m : Int) (out : List Sp), l.length - i = d → i ≤ l.length → d < k → out.length ≤ i → -100000000 ≤ m - 3000 * d → m + 3000 * d ≤ 100000000 →
    riposteref01_Undo.l0 k s l out m (i : Int) = some (out ++ unS s (l.drop i) m, 0) := by
  intro d
  induction d with
  | zero =>
    intro i k m out hd hi hk ho h1 h2
    obtain ⟨k, rfl, _⟩ := succ_of hk
    rw [List.drop_eq_nil_of_le (show l.length ≤ i by omega), riposteref01_Undo.l0.eq_2, if_neg (by omega)]
    unfold unS; rw [List.append_nil]
  | succ d ih =>
    intro i k m out hd hi hk ho h1 h2
    obtain ⟨k, rfl, hk'⟩ := succ_of hk
    have hlt : i < l.length := by omega
    obtain ⟨hx, hx1⟩ := hb _ (rd48_mem l i hlt)
    have hg := hx.gr
    have hgw := gr_wrap hx
    have e2 := up1 i l.length hlt (Nat.le_trans hl (by decide))
    have q0 : (0 : Int) ≤ (i : Int) := Int.natCast_nonneg i
    have q1 : (i : Int) < (l.length : Int) := Int.ofNat_lt.2 hlt
    have q2 : out.length < 4398046511104 := Nat.lt_of_le_of_lt (Nat.le_trans ho (Nat.le_trans hi hl)) (by decide)
    rw [drop_rd l i hlt, riposteref01_Undo.l0.eq_2]
    refine (if_pos q1).trans ((if_pos q0).trans ?_)
    generalize hy : rd_T48 l (i : Int) = y at *
    have hx' := hx
    obtain ⟨x0, x1, x2, x3⟩ := hx'
    refine (if_pos x0).trans ((if_pos x1).trans ((if_pos hx1).trans ((if_pos q2).trans ?_)))
    rw [hgw, e2, w64 (x := y.f0 + m) (by omega) (by omega), w64 (x := y.f0 + m + (y.f2.size : Int)) (by omega) (by omega), w64 (x := m + gr y) (by omega) (by omega)]
    refine (ih (i + 1) k _ _ (by omega) (by omega) (by omega) (by rw [List.length_append, List.length_singleton]; omega) (by omega) (by omega)).trans ?_
    rw [unS, List.append_assoc]; rfl
theorem OrdS.in {n : Nat} : ∀ {l : List Sp} {a : Int}, OrdS n l a → ∀ x ∈ l, a ≤ x.f0 ∧ x.f0 ≤ x.f1 ∧ x.f1 ≤ (n : Int)
  | [], _, _, x, hx => by cases hx
  | y :: r, a, h, x, hx => by
    obtain ⟨h0, h1, h2, h3, h4⟩ := h
    rcases List.mem_cons.1 hx with rfl | hx
    · exact ⟨h1, h2, h3⟩
    · have := h4.in x hx
      exact ⟨by omega, this.2⟩
theorem splE_bd {s : ByteArray} {l : List Sp} (h : splE s l = 0) (hx : ∀ x ∈ l, x.f2.size ≤ 3000) : ∀ x ∈ l, BdS x ∧ x.f1 ≤ (s.size : Int) := by
  obtain ⟨h1, h2, h3, h4⟩ := splE_ord h
  have hs := ((chk_iff s).1 h1).1
  exact fun x hm => ⟨h3.bd (by omega) hx x hm, (h3.in x hm).2.2⟩
theorem pUndo (s : ByteArray) (l : List Sp) (hs : s.size ≤ 3000) (hl : l.length ≤ 1000) (hx : ∀ x ∈ l, x.f2.size ≤ 3000) : lex_Undo.f (fuS l) s l = some (unM s l) := by
  unfold lex_Undo.f unM
  rw [show lex_splices.f (fuS l) s l = some (splE s l) from pSplices s l hs hl hx]
  simp only [Option.bind_some]
  have hfu := fuS_pos l
  by_cases c : splE s l = 0
  · rw [if_pos c, if_pos c]
    have h := pUn s hs l hl (splE_bd c hx) l.length 0 (fuS l) 0 [] (by omega) (by omega) (by omega) (Nat.le_refl _) (by omega) (by omega)
    rw [List.drop_zero, List.nil_append] at h
    exact h
  · rw [if_neg c, if_neg c]
theorem rUndo (s : ByteArray) (l : List Sp) (hs : s.size ≤ 3000) (hl : l.length ≤ 1000) (hx : ∀ x ∈ l, x.f2.size ≤ 3000) : riposteref01_Undo.f (fuS l) s l = some (unM s l) := by
  unfold riposteref01_Undo.f unM
  rw [rCheck s l hs hl hx]
  simp only [Option.bind_some]
  have hfu := fuS_pos l
  by_cases c : splE s l = 0
  · rw [if_pos c, if_pos c]
    have h := rUn s hs l hl (splE_bd c hx) l.length 0 (fuS l) 0 [] (by omega) (by omega) (by omega) (Nat.le_refl _) (by omega) (by omega)
    rw [List.drop_zero, List.nil_append] at h
    exact h
  · rw [if_neg c, if_neg c]
/-! ### Lists of splices compared; few -/
theorem rSameS0 (l : List Sp) (hl : l.length ≤ 140737488351232) : ∀ (d i k : Nat), l.length - i = d → i ≤ l.length → d < k → riposteref01_SameSplices.l0 k l l (i : Int) = some true := by
  intro d
  induction d with
  | zero =>
    intro i k hd hi hk
    obtain ⟨k, rfl, _⟩ := succ_of hk
    rw [riposteref01_SameSplices.l0.eq_2, if_neg (by omega)]
  | succ d ih =>
    intro i k hd hi hk
    obtain ⟨k, rfl, _⟩ := succ_of hk
    rw [riposteref01_SameSplices.l0.eq_2, if_pos (by omega), if_pos (by omega), if_pos (by omega), if_neg (by simp), up1 i l.length (by omega) hl]
    exact ih (i + 1) k (by omega) (by omega) (by omega)
theorem rSameS (l : List Sp) (hl : l.length ≤ 140737488351232) (k : Nat) (hk : l.length < k) : riposteref01_SameSplices.f k l l = some true := by
  unfold riposteref01_SameSplices.f
  rw [if_pos rfl]
  exact rSameS0 l hl l.length 0 k (by omega) (by omega) hk
theorem pFew0 (l : List Sp) (hl : l.length ≤ 140737488351232) (hx : ∀ x ∈ l, x.f2.size ≤ 140737488351232) : ∀ (d i k : Nat) (n : Int), l.length - i = d → i ≤ l.length → d < k → 0 ≤ n → n ≤ 3000 →
    ∃ b, ripostelaw01_few.l0 k l n (i : Int) = some b ∧ (b = true → l.length ≤ 1000 ∧ ∀ x ∈ l.drop i, x.f2.size ≤ 3000) := by
  intro d
  induction d with
  | zero =>
    intro i k n hd hi hk h0 h1
    obtain ⟨k, rfl, _⟩ := succ_of hk
    rw [ripostelaw01_few.l0.eq_2, if_neg (by omega), List.drop_eq_nil_of_le (show l.length ≤ i by omega)]
    exact ⟨_, rfl, fun h => ⟨by have := of_decide_eq_true h; omega, fun x hx => by cases hx⟩⟩
  | succ d ih =>
    intro i k n hd hi hk h0 h1
    obtain ⟨k, rfl, hk'⟩ := succ_of hk
    have hlt : i < l.length := by omega
    have hxi := hx _ (rd48_mem l i hlt)
    rw [drop_rd l i hlt, ripostelaw01_few.l0.eq_2, if_pos (by omega), if_pos (by omega)]
    generalize hy : rd_T48 l (i : Int) = y at *
    rw [w64 (x := n + (y.f2.size : Int)) (by omega) (by omega), up1 i l.length hlt hl]
    by_cases c : n + (y.f2.size : Int) > 3000
    · rw [if_pos c]; exact ⟨false, rfl, fun h => by cases h⟩
    · rw [if_neg c]
      obtain ⟨b, hb1, hb2⟩ := ih (i + 1) k (n + (y.f2.size : Int)) (by omega) (by omega) (by omega) (by omega) (by omega)
      refine ⟨b, hb1, fun h => ⟨(hb2 h).1, fun x hx => ?_⟩⟩
      rcases List.mem_cons.1 hx with rfl | hx
      · omega
      · exact (hb2 h).2 x hx
theorem pFew (l : List Sp) (hl : l.length ≤ 140737488351232) (hx : ∀ x ∈ l, x.f2.size ≤ 140737488351232) : ∃ b, ripostelaw01_few.f (l.length + 1) l = some b ∧ (b = true → l.length ≤ 1000 ∧ ∀ x ∈ l, x.f2.size ≤ 3000) := by
  unfold ripostelaw01_few.f
  obtain ⟨b, h1, h2⟩ := pFew0 l hl hx l.length 0 (l.length + 1) 0 (by omega) (by omega) (by omega) (by omega) (by omega)
  rw [List.drop_zero] at h2
  exact ⟨b, h1, h2⟩
end Go.Proofs.YtggfcmondffodaaDoor.P
