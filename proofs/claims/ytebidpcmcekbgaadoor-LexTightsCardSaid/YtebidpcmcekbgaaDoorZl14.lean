/- What the claim's law needs, many texts in one (P99 Ytb Yv Yw Yc Yx Ytc Xz). No conditions of its own. -/
import Derived.Test.YtebidpcmcekbgaaDoorZl2
import Derived.Test.YtebidpcmcekbgaaDoorZl13
import Derived.Test.YtebidpcmcekbgaaDoorZl12
import Derived.Test.YtebidpcmcekbgaaDoorZl10
import Derived.Deep.Slices
import Derived.Lib.SmallJoins
import Derived.OpenShut
import Derived.ChangeOld
import Derived.WideShapes
import Derived.ProofKit
import Derived.SizedLaws
import Derived.Deep.QuietTactic
import Derived.BigQuiet
import Derived.StillTailTactics
import Derived.Test.YtebidpcmcekbgaaDoorRows
import Derived.Test.YtebidpcmcekbgaaDoorZl4
import Derived.LaidMore
import Derived.Lay
import Derived.Lib.LaidTab
import Derived.Stop.Joined
set_option linter.unusedVariables false
set_option linter.unusedSimpArgs false
namespace Go.Proofs.YtebidpcmcekbgaaDoor.P
open Go.RowKit Go.Proofs.YtebidpcmcekbgaaDoorW.PrintWords Go.Proofs.YtebidpcmcekbgaaDoorW.PrintLast Go.Proofs.YtebidpcmcekbgaaDoorW.PrintMore
attribute [local go_sem] min2_int min_two -- for this text's walks alone
set_option linter.unusedVariables false
set_option linter.unusedSimpArgs false

/-! ### lex_Pairs: function 32 -/
mutual
def lex_Pairs.l0 : Nat → List (S58) → List Int → List Int → List (S58) → Int → Int → Option (List Int × Int × Int)
  | 0, _, _, _, _, _, _ => none
  | k + 1, x0, x6, x7, x16, x17, x18 => if x18 < x17 then (if 0 ≤ x18 then (if x18 < (x16.length : Int) then (if x6.length < 17592186044416 then ((some (x6 ++ [(-1)] : List Int)).bind fun y186 => (if ((rd_T58 x16 x18).f1).toList = ([40] : List UInt8) then (lex_Pairs.j1 k x0 y186 x7 x18 x16 x17 x18 ((rd_T58 x16 x18).f1) (((rd_T58 x16 x18).f1).toList == ([40] : List UInt8)) ((rd_T58 x16 x18).f0) ((rd_T58 x16 x18).f1) ((rd_T58 x16 x18).f2)) else (lex_Pairs.j1 k x0 y186 x7 x18 x16 x17 x18 ((rd_T58 x16 x18).f1) (((rd_T58 x16 x18).f1).toList == ([123] : List UInt8)) ((rd_T58 x16 x18).f0) ((rd_T58 x16 x18).f1) ((rd_T58 x16 x18).f2)))) else (none)) else (none)) else (none)) else (if (x7.length : Int) > 0 then (if 0 < (x7.length : Int) then (some (([] : List Int), rd x7 0, 4)) else (none)) else (some (x6, 0, 0)))
def lex_Pairs.j1 : Nat → List (S58) → List Int → List Int → Int → List (S58) → Int → Int → ByteArray → Bool → Int → ByteArray → Int → Option (List Int × Int × Int)
  | 0, _, _, _, _, _, _, _, _, _, _, _, _ => none
  | k + 1, x0, x6, x7, x8, x16, x17, x18, x27, x28, x186000, x186001, x186002 => if x28 = true then (if x7.length < 17592186044416 then (lex_Pairs.l0 k x0 x6 (x7 ++ [x8]) x16 x17 (wrap64 (x18 + 1))) else (none)) else (if x27.toList = ([41] : List UInt8) then (lex_Pairs.j2 k x0 x6 x7 x8 x16 x17 x18 (x27.toList == ([41] : List UInt8)) x186000 x186001 x186002) else (lex_Pairs.j2 k x0 x6 x7 x8 x16 x17 x18 (x27.toList == ([125] : List UInt8)) x186000 x186001 x186002))
def lex_Pairs.j2 : Nat → List (S58) → List Int → List Int → Int → List (S58) → Int → Int → Bool → Int → ByteArray → Int → Option (List Int × Int × Int)
  | 0, _, _, _, _, _, _, _, _, _, _, _ => none
  | k + 1, x0, x6, x7, x8, x16, x17, x18, x35, x186000, x186001, x186002 => if x35 = true then (if (wrap64 ((x7.length : Int) - 1)) < 0 then (some (([] : List Int), x8, 4)) else (if 0 ≤ (wrap64 ((x7.length : Int) - 1)) then (if (wrap64 ((x7.length : Int) - 1)) < (x7.length : Int) then (if 0 ≤ (rd x7 (wrap64 ((x7.length : Int) - 1))) then (if (rd x7 (wrap64 ((x7.length : Int) - 1))) < (x0.length : Int) then (if ((((rd_T58 x0 (rd x7 (wrap64 ((x7.length : Int) - 1)))).f1).toList == ([40] : List UInt8)) != (x186001.toList == ([41] : List UInt8))) = true then (some (([] : List Int), x8, 4)) else (if 0 ≤ x8 then (if x8 < (x6.length : Int) then (if (rd x7 (wrap64 ((x7.length : Int) - 1))) < (x6.length : Int) then (if (wrap64 ((x7.length : Int) - 1)) ≤ (x7.length : Int) then (lex_Pairs.l0 k x0 ((x6.set (x8 : Int).toNat (rd x7 (wrap64 ((x7.length : Int) - 1)))).set ((rd x7 (wrap64 ((x7.length : Int) - 1))) : Int).toNat x8) (x7.take ((wrap64 ((x7.length : Int) - 1)) : Int).toNat) x16 x17 (wrap64 (x18 + 1))) else (none)) else (none)) else (none)) else (none))) else (none)) else (none)) else (none)) else (none))) else (lex_Pairs.l0 k x0 x6 x7 x16 x17 (wrap64 (x18 + 1)))
end
def lex_Pairs.f (k : Nat) (l0 : List (S58)) : Option (List Int × Int × Int) := (lex_tokens.f k l0).bind fun t182 => (if t182 = 0 then (lex_Pairs.l0 k l0 ([] : List Int) ([] : List Int) l0 (l0.length : Int) 0) else (some (([] : List Int), 0, t182)))
def lex_Pairs.T16 : Bool × List (List Nat × List Nat) := (true, [([], []), ([0], [0]), ([1], [1]), ([2], [2]), ([2], [2]), ([2], [2]), ([4, 5, 2], [2, 4, 5]), ([6, 2], [2, 6]), ([3, 7, 2], [2, 3, 7]), ([8, 2], [2, 8]), ([9, 2], [2, 9]), ([10, 2], [2, 10]), ([2], [2]), ([12, 2], [2, 12]), ([13, 2], [2, 13]), ([11, 14, 2], [2, 11, 14]), ([2, 15], [2, 15])])
def lex_Pairs.B16 : List Nat := [0, 1, 3, 7, 7, 7, 55, 119, 255, 511, 1023, 2047, 7, 4103, 12295, 32767, 65535]
theorem lex_Pairs.tab16 : rtab .any (opsOf Tryd.f32 16) = lex_Pairs.T16 := by kernel_rfl
theorem lex_Pairs.bits16 : waitsOk lex_Pairs.T16.2 lex_Pairs.B16 = true := by kernel_rfl
def lex_Pairs.T18 : Bool × List (List Nat × List Nat) := (true, [([], []), ([], []), ([], []), ([], []), ([], []), ([3, 4], [3, 4]), ([5], [5]), ([], []), ([], []), ([7, 8], [7, 8]), ([9], [9]), ([], []), ([0, 1, 0, 1, 6, 7, 8, 9, 10], [0, 1]), ([12, 10, 0, 1, 6, 7, 8, 9, 10], [10, 12]), ([2, 6, 0, 1, 2, 3, 4, 5, 6, 7, 8, 9, 10, 11, 12, 13], [2, 6]), ([14, 11, 13, 0, 1, 2, 3, 4, 5, 6, 7, 8, 9, 10, 11, 12, 13], [11, 14])])
def lex_Pairs.B18 : List Nat := [0, 0, 0, 0, 0, 24, 56, 0, 0, 384, 896, 0, 2043, 6139, 16383, 32767]
theorem lex_Pairs.tab18 : rtab .any (opsOf Tryd.f32 18) = lex_Pairs.T18 := by kernel_rfl
theorem lex_Pairs.bits18 : waitsOk lex_Pairs.T18.2 lex_Pairs.B18 = true := by kernel_rfl
set_option maxHeartbeats 8000000 in
set_option maxRecDepth 100000 in
theorem lex_Pairs.calls (k : Nat) (A0 : Option Addr) (c0 : Nat) (l0 : List (S58)) (r1 : List Int) (r2 : Int) (r3 : Int) (w : World) (hgT : Aside0 (Gl w)) (hsT : Aside0 (l0.length ≤ 140737488351232 ∧ ∀ x ∈ l0, x.f1.size ≤ 140737488351232)) (hr0 : Kd.C k58 w A0 l0.length l0) (hc0 : l0.length ≤ c0) (h : lex_Pairs.f k l0 = some (r1, r2, r3)) :
    Calls Tryd.prog 32 #[.slice A0 l0.length c0] w fun e w' => ∃ v0_ : Value, e = .returned (.tuple #[v0_, .int .i64 r2, .int .i64 r3]) ∧ Kd.R (Kd.int .i64) 3 w' w.heap.size (fun _ => True) v0_ r1 ∧ Below w.heap.size w w' := by
  have hu58 := Tryd.underlying58
  have HR0 := Aside0.mk hr0
  have HC0 := Aside0.mk hc0
  clear hr0 hc0
  have HB := Aside0.mk (Below.refl w.heap.size w)
  have H : ((lex_tokens.f k l0).bind fun t182 => (if t182 = 0 then (lex_Pairs.l0 k l0 ([] : List Int) ([] : List Int) l0 (l0.length : Int) 0) else (some (([] : List Int), 0, t182)))) = some (r1, r2, r3) := h
  clear h
  replace H := Option.bind_eq_some_iff.mp H
  obtain ⟨t182, A20, H⟩ := H
  replace H : (if t182 = 0 then (lex_Pairs.l0 k l0 ([] : List Int) ([] : List Int) l0 (l0.length : Int) 0) else (some (([] : List Int), 0, t182))) = some (r1, r2, r3) := H
  have A2 := Aside0.mk A20
  clear A20
  by_cases c3 : t182 = 0
  · rw [if_pos c3] at H
    have c3b0 : (t182 == 0) = true := beq_iff_eq.mpr c3
    have c3b1 : (t182 != 0) = false := bne_eq_false_iff_eq.mpr c3
    clear c3
    have H' := Aside0.mk H
    clear H
    go_enter Tryd.func32, Tryd.ntmps32
    go_wp2_with (first | ((with_reducible refine gate_callee (f := 59) rfl ?_); refine goesL_ (some 12) rfl rfl Tryd.func59 (by kernel_rfl) rfl #[.slice A0 l0.length c0] rfl (by (try simp only [List.map_toArray, List.map_cons, List.map_nil]); first | done | rfl | (simp only [List.length_drop, List.length_take]; rfl)) ?_; (with_reducible refine (lexTokensC w hgT l0 hsT k _ _ t182 ?side1 ?side2 A2.out).mono ?_); (case side1 => repeat (first | exact HR0.out | (with_reducible refine Kd.C_alloc ?_ _) | (with_reducible refine Kd.C_drewN ?_ _) | (with_reducible refine Kd.C_drew ?_))); (case side2 => exact HC0.out); rintro e w4 ⟨rfl, hb⟩; refine ⟨_, rfl, ?_⟩; have n0_ := Aside0.mk (below_step (by repeat (first | (with_reducible first | exact HB.out | apply below_alloc | apply pw_below_drewN | apply below_drew1) | exact HB.out)) hb); clear HB; have HB := n0_; clear n0_; (try clear hb); (try clear hb2); (try clear hk); (try clear hi)))
    go_loopg [6, 7, 18] k (fun kq v6 v7 v18 w' => ∃ (x6_1 : List Int) (x7_1 : List Int) (x18_1 : Int), v18 = .int .i64 x18_1 ∧ Aside0 (lex_Pairs.l0 kq l0 x6_1 x7_1 l0 (l0.length : Int) x18_1 = some (r1, r2, r3)) ∧ Aside0 (kq ≤ k) ∧ Aside0 (Kd.R (Kd.int .i64) 3 w' w.heap.size (fun k_ => some k_ ≠ (v7 : Value).ownBlock) v6 x6_1) ∧ Aside0 (Kd.R (Kd.int .i64) 3 w' w.heap.size (fun k_ => some k_ ≠ (v6 : Value).ownBlock) v7 x7_1) ∧ Aside0 (Below w.heap.size w w'))
    case atStart => exact ⟨(([] : List Int)), (([] : List Int)), (0), (by first | rfl | (simp; done) | (simp [*]; done)), H', ⟨Nat.le_refl _⟩, ⟨by first | exact Kd.R_nil _ _ _ _ _ | exact Kd.N_nil _ _ _ _ _ | exact Kd.V_nil _ _ _ _ _ | exact Kd.Q_nil _ _ _ _ _ | exact Kd.S_nil _ _ _ _ _⟩, ⟨by first | exact Kd.R_nil _ _ _ _ _ | exact Kd.N_nil _ _ _ _ _ | exact Kd.V_nil _ _ _ _ _ | exact Kd.Q_nil _ _ _ _ _ | exact Kd.S_nil _ _ _ _ _⟩, ⟨by repeat (first | (with_reducible first | exact HB.out | apply below_alloc | apply pw_below_drewN | apply below_drew1) | exact HB.out)⟩⟩
    case round =>
      clear H'
      try clear p2
      try clear c3
      try clear c3b0
      try clear c3b1
      obtain ⟨x6_1, x7_1, x18_1, rfl, HA, HK1, HO_6, HO_7, HB⟩ := hrel
      cases gk with
      | zero => exact absurd HA.out (by simp [lex_Pairs.l0])
      | succ k1 =>
        have H := HA.out
        clear HA
        simp only [lex_Pairs.l0] at H
        by_cases c5 : x18_1 < (l0.length : Int)
        · rw [if_pos c5] at H
          have c5b0 : decide (x18_1 < (l0.length : Int)) = true := decide_eq_true c5
          clear c5
          by_cases c6 : 0 ≤ x18_1
          · rw [if_pos c6] at H
            have c6b0 : decide (0 ≤ x18_1) = true := decide_eq_true c6
            clear c6
            by_cases c7 : x18_1 < (l0.length : Int)
            · rw [if_pos c7] at H
              have c7b0 : decide (x18_1 < (l0.length : Int)) = true := decide_eq_true c7
              clear c7
              by_cases c8 : x6_1.length < 17592186044416
              · rw [if_pos c8] at H
                have LMc8 := Aside0.mk c8
                clear c8
                obtain ⟨y186, hy186⟩ : ∃ y_ : List Int, y_ = (x6_1 ++ [(-1)]) := ⟨_, rfl⟩
                replace H : (if ((rd_T58 l0 x18_1).f1).toList = ([40] : List UInt8) then (lex_Pairs.j1 k1 l0 y186 x7_1 x18_1 l0 (l0.length : Int) x18_1 ((rd_T58 l0 x18_1).f1) (((rd_T58 l0 x18_1).f1).toList == ([40] : List UInt8)) ((rd_T58 l0 x18_1).f0) ((rd_T58 l0 x18_1).f1) ((rd_T58 l0 x18_1).f2)) else (lex_Pairs.j1 k1 l0 y186 x7_1 x18_1 l0 (l0.length : Int) x18_1 ((rd_T58 l0 x18_1).f1) (((rd_T58 l0 x18_1).f1).toList == ([123] : List UInt8)) ((rd_T58 l0 x18_1).f0) ((rd_T58 l0 x18_1).f1) ((rd_T58 l0 x18_1).f2))) = some (r1, r2, r3) := by first | (rw [hy186]; with_reducible exact H) | (have H2_ := (Option.bind_some _ _).symm.trans H; rw [hy186]; with_reducible exact H2_) | (have H2_ := (Option.bind_some _ _).symm.trans H; with_reducible exact H2_) | with_reducible exact H | (rw [hy186]; exact H) | exact H
                have Ny186 := Aside0.mk hy186
                clear hy186
                have HC9 := Aside0.mk H
                clear H
                have p184 : 0 ≤ (x18_1 : Int) := of_decide_eq_true (by first | (with_reducible assumption) | assumption)
                have q184 : x18_1 < (l0.length : Int) := of_decide_eq_true (by first | (with_reducible assumption) | assumption)
                obtain ⟨ad184, e184, hx184_0, hx184_1, hx184_2⟩ := at_T58 HR0.out x18_1 p184 q184
                cases e184
                replace hx184_0 := (HB.out.cell (World.block_lt_of_cell? w _ hx184_0)).trans hx184_0
                replace hx184_1 := (HB.out.cell (World.block_lt_of_cell? w _ hx184_1)).trans hx184_1
                replace hx184_2 := (HB.out.cell (World.block_lt_of_cell? w _ hx184_2)).trans hx184_2
                replace p184 := eq_true p184
                replace q184 := eq_true q184
                go_upto_if 28 with (first | ((with_reducible refine gate_dst (N := 9) rfl ?_); refine box_event ?hg (N := 9) ?hd (cs := #[.int .u8 0, .string (⟨#[]⟩ : ByteArray), .int .i64 0]) (t := 58) ?hr ?_; (case hd => rfl); (case hg => rfl); (case hr => first | (go_simp; done) | (go_simp; rfl)); intro gb185 hg w10 hbox hb; have n0_ := Aside0.mk (Kd.R_below (by (with_reducible repeat (first | apply Kd.R_alloc | apply Kd.R_drewN | apply Kd.R_drew)); exact HO_6.out) hb); have n1_ := Aside0.mk (Kd.R_below (by (with_reducible repeat (first | apply Kd.R_alloc | apply Kd.R_drewN | apply Kd.R_drew)); exact HO_7.out) hb); have n2_ := Aside0.mk (below_step (by repeat (first | (with_reducible first | exact HB.out | apply below_alloc | apply pw_below_drewN | apply below_drew1) | exact HB.out)) hb); have n3_ := Aside0.mk (hbox); have n4_ := Aside0.mk ((by rw [hg]; exact (below_size (by repeat (first | (with_reducible first | exact HB.out | apply below_alloc | apply pw_below_drewN | apply below_drew1) | exact HB.out))) : w.heap.size ≤ gb185)); have n5_ := Aside0.mk ((by rw [hg]; exact (below_size (by repeat (first | (with_reducible first | exact HB.out | apply below_alloc | apply pw_below_drewN | apply below_drew1) | exact HB.out))) : w.heap.size ≤ gb185)); clear HO_6; clear HO_7; clear HB; have HO_6 := n0_; have HO_7 := n1_; have HB := n2_; have BK185 := n3_; have GW185 := n4_; have GE185 := n5_; clear n0_ n1_ n2_ n3_ n4_ n5_; clear hb hbox hg; have hcz11_0 : w10.cell? ⟨gb185, 0, none⟩ = some (.int .u8 0) := (blk_cell BK185.out 0).trans rfl; have hcz11_1 : w10.cell? ⟨gb185, 1, none⟩ = some (.string (⟨#[]⟩ : ByteArray)) := (blk_cell BK185.out 1).trans rfl; have hcz11_2 : w10.cell? ⟨gb185, 2, none⟩ = some (.int .i64 0) := (blk_cell BK185.out 2).trans rfl; have hfz11_0 := blk_frozen BK185.out 0; have hfz11_1 := blk_frozen BK185.out 1; have hfz11_2 := blk_frozen BK185.out 2) | ((with_reducible refine gate_builtin (b := .append) (xs := #[.tmp 23, .tmp 24]) rfl ?_); at_builtin; refine Kd.R_append (Kd.int .i64) (w0 := w) w.heap.size rfl (.tmp 23) (.tmp 24) 47 3 (.int .i64 0) 8 rfl Tryd.underlying47 info3 rfl (by decide) (by omega) u6 x6_1 (-1) [.int .i64 (-1)] (fun k_ => some k_ ≠ (u7 : Value).ownBlock) (fun _ => False) rfl (by first | (go_simp; done) | (go_simp; rfl)) ?aP (fun _ hk => hk.elim) ?aF ?aO ?aB ?aS ?aL ?_; (case aP => exact rfl); (case aB => exact (by repeat (first | (with_reducible first | exact HB.out | apply below_alloc | apply pw_below_drewN | apply below_drew1 | refine below_set ?_ GE185.out) | exact HB.out))); (case aF => exact (fun k_ hk => Kd.fresh' (Kd.R_lt (by (with_reducible repeat (first | apply Kd.R_alloc | apply Kd.R_drewN | apply Kd.R_drew)); exact (Kd.R_mono (Kd.R_far (p := ⟨gb185, 2, none⟩) (Kd.R_far (p := ⟨gb185, 1, none⟩) (Kd.R_far (p := ⟨gb185, 0, none⟩) (Kd.R_types HO_7.out BK185.out (by decide)) (fun _ hk => hk.2) (.int .u8 ((rd_T58 l0 x18_1).f0))) (fun _ hk => hk.2) (.string ((rd_T58 l0 x18_1).f1))) (fun _ hk => hk.2) (.int .i64 ((rd_T58 l0 x18_1).f2))) (fun _ h_ => h_.1)))) k_ hk)); (case aO => exact (by (with_reducible repeat (first | apply Kd.R_alloc | apply Kd.R_drewN | apply Kd.R_drew)); exact Kd.R_mono (Kd.R_far (p := ⟨gb185, 2, none⟩) (Kd.R_far (p := ⟨gb185, 1, none⟩) (Kd.R_far (p := ⟨gb185, 0, none⟩) (Kd.R_types HO_6.out BK185.out (by decide)) (fun _ hk => hk.2) (.int .u8 ((rd_T58 l0 x18_1).f0))) (fun _ hk => hk.2) (.string ((rd_T58 l0 x18_1).f1))) (fun _ hk => hk.2) (.int .i64 ((rd_T58 l0 x18_1).f2))) (fun _ hk => hk.1))); (case aS => exact (below_size (by repeat (first | (with_reducible first | exact HB.out | apply below_alloc | apply pw_below_drewN | apply below_drew1 | refine below_set ?_ GE185.out) | exact HB.out)))); (case aL => have := LMc8.out; omega); intro v187 w12 ho hb hg hat; rw [← Ny186.out] at ho; have n0_ := Aside0.mk (Kd.R_after (ok := (fun _ => True)) (by (with_reducible repeat (first | apply Kd.R_alloc | apply Kd.R_drewN | apply Kd.R_drew)); exact Kd.R_mono (Kd.R_far (p := ⟨gb185, 2, none⟩) (Kd.R_far (p := ⟨gb185, 1, none⟩) (Kd.R_far (p := ⟨gb185, 0, none⟩) (Kd.R_types HO_7.out BK185.out (by decide)) (fun _ hk => hk.2) (.int .u8 ((rd_T58 l0 x18_1).f0))) (fun _ hk => hk.2) (.string ((rd_T58 l0 x18_1).f1))) (fun _ hk => hk.2) (.int .i64 ((rd_T58 l0 x18_1).f2))) (fun _ hk => ⟨trivial, hk.1⟩)) hg hat); have n1_ := Aside0.mk (blk_grown (g := gb185) (o := .cells #[.int .u8 ((rd_T58 l0 x18_1).f0), .string ((rd_T58 l0 x18_1).f1), .int .i64 ((rd_T58 l0 x18_1).f2)] 58 (0, 0)) (by (with_reducible repeat (first | refine blk_drewN ?_ _ | refine blk_drew ?_ | refine blk_alloc ?_ _)); refine blk_put (cs := #[.int .u8 ((rd_T58 l0 x18_1).f0), .string ((rd_T58 l0 x18_1).f1), .int .i64 0]) ?_ 2 _ rfl; (with_reducible repeat (first | refine blk_drewN ?_ _ | refine blk_drew ?_ | refine blk_alloc ?_ _)); refine blk_put (cs := #[.int .u8 ((rd_T58 l0 x18_1).f0), .string (⟨#[]⟩ : ByteArray), .int .i64 0]) ?_ 1 _ rfl; (with_reducible repeat (first | refine blk_drewN ?_ _ | refine blk_drew ?_ | refine blk_alloc ?_ _)); refine blk_put (cs := #[.int .u8 0, .string (⟨#[]⟩ : ByteArray), .int .i64 0]) ?_ 0 _ rfl; (with_reducible repeat (first | refine blk_drewN ?_ _ | refine blk_drew ?_ | refine blk_alloc ?_ _)); exact BK185.out) hg (Kd.R_ne HO_6.out BK185.out (by decide))); have n2_ := Aside0.mk (hb); have n3_ := Aside0.mk (ho); clear HO_7; clear BK185; clear HB; clear HO_6; have HO_7 := n0_; have BK185 := n1_; have HB := n2_; have HO188 := n3_; clear n0_ n1_ n2_ n3_; clear ho hb hg hat; have hcz13_0 : w12.cell? ⟨gb185, 0, none⟩ = some (.int .u8 ((rd_T58 l0 x18_1).f0)) := (blk_cell BK185.out 0).trans rfl; have hcz13_1 : w12.cell? ⟨gb185, 1, none⟩ = some (.string ((rd_T58 l0 x18_1).f1)) := (blk_cell BK185.out 1).trans rfl; have hcz13_2 : w12.cell? ⟨gb185, 2, none⟩ = some (.int .i64 ((rd_T58 l0 x18_1).f2)) := (blk_cell BK185.out 2).trans rfl; have hfz13_0 := blk_frozen BK185.out 0; have hfz13_1 := blk_frozen BK185.out 1; have hfz13_2 := blk_frozen BK185.out 2))
                (try simp only [Act.put, List.setIfInBounds_toArray, List.set_cons_zero, List.set_cons_succ])
                go_cut [28] (fun v28 wc => ∃ (kq : Nat) (x28_8 : Bool), v28 = .bool x28_8 ∧ Aside0 (lex_Pairs.j1 kq l0 y186 x7_1 x18_1 l0 (l0.length : Int) x18_1 ((rd_T58 l0 x18_1).f1) x28_8 ((rd_T58 l0 x18_1).f0) ((rd_T58 l0 x18_1).f1) ((rd_T58 l0 x18_1).f2) = some (r1, r2, r3)) ∧ Aside0 (kq ≤ k1) ∧ Aside0 (Kd.R (Kd.int .i64) 3 wc w.heap.size (fun k_ => some k_ ≠ (u7 : Value).ownBlock) v187 y186) ∧ Aside0 (Kd.R (Kd.int .i64) 3 wc w.heap.size (fun k_ => some k_ ≠ (v187 : Value).ownBlock) u7 x7_1) ∧ Aside0 (wc.heap[gb185]? = some (.cells #[.int .u8 ((rd_T58 l0 x18_1).f0), .string ((rd_T58 l0 x18_1).f1), .int .i64 ((rd_T58 l0 x18_1).f2)] 58 (0, 0))) ∧ Aside0 (Below w.heap.size w wc))
                case first =>
                  have H := HC9.out
                  clear HC9
                  by_cases c14 : ((rd_T58 l0 x18_1).f1).toList = ([40] : List UInt8)
                  · rw [if_pos c14] at H
                    have c14b0 : (((rd_T58 l0 x18_1).f1).toList == ([40] : List UInt8)) = true := beq_iff_eq.mpr c14
                    have c14b1 : (((rd_T58 l0 x18_1).f1).toList != ([40] : List UInt8)) = false := bne_eq_false_iff_eq.mpr c14
                    clear c14
                    (first | rw [c14b0] | (simp only [i64_w, i32_w]; rw [c14b0]) | skip)
                    have H' := Aside0.mk H
                    clear H
                    go_wp2
                    go_meet
                    case rel => exact ⟨_, ((((rd_T58 l0 x18_1).f1).toList == ([40] : List UInt8))), (by first | rfl | (simp; done) | (simp [*]; done)), H', ⟨by have := HK1.out; first | omega | exact Nat.le_refl _⟩, ⟨by (with_reducible repeat (first | apply Kd.R_alloc | apply Kd.R_drewN | apply Kd.R_drew)); exact HO188.out⟩, ⟨by (with_reducible repeat (first | apply Kd.R_alloc | apply Kd.R_drewN | apply Kd.R_drew)); exact Kd.R_mono HO_7.out (fun _ hk => hk.2)⟩, ⟨by (with_reducible repeat (first | refine blk_drewN ?_ _ | refine blk_drew ?_ | refine blk_alloc ?_ _)); exact BK185.out⟩, ⟨by repeat (first | (with_reducible first | exact HB.out | apply below_alloc | apply pw_below_drewN | apply below_drew1 | refine below_set ?_ GE185.out) | exact HB.out)⟩⟩
                  · rw [if_neg c14] at H
                    have c14b0 : (((rd_T58 l0 x18_1).f1).toList == ([40] : List UInt8)) = false := beq_eq_false_iff_ne.mpr c14
                    have c14b1 : (((rd_T58 l0 x18_1).f1).toList != ([40] : List UInt8)) = true := bne_iff_ne.mpr c14
                    (first | rw [c14b0] | (simp only [i64_w, i32_w]; rw [c14b0]) | skip)
                    have H' := Aside0.mk H
                    clear H
                    go_wp2
                    go_meet
                    case rel => exact ⟨_, ((((rd_T58 l0 x18_1).f1).toList == ([123] : List UInt8))), (by first | rfl | (simp; done) | (simp [*]; done)), H', ⟨by have := HK1.out; first | omega | exact Nat.le_refl _⟩, ⟨by (with_reducible repeat (first | apply Kd.R_alloc | apply Kd.R_drewN | apply Kd.R_drew)); exact HO188.out⟩, ⟨by (with_reducible repeat (first | apply Kd.R_alloc | apply Kd.R_drewN | apply Kd.R_drew)); exact Kd.R_mono HO_7.out (fun _ hk => hk.2)⟩, ⟨by (with_reducible repeat (first | refine blk_drewN ?_ _ | refine blk_drew ?_ | refine blk_alloc ?_ _)); exact BK185.out⟩, ⟨by repeat (first | (with_reducible first | exact HB.out | apply below_alloc | apply pw_below_drewN | apply below_drew1 | refine below_set ?_ GE185.out) | exact HB.out)⟩⟩
                case rest =>
                  clear HC9
                  try clear c1
                  try clear p1
                  try clear q1
                  try clear hx1
                  try clear p2
                  try clear c3
                  try clear c3b0
                  try clear c3b1
                  try clear c5
                  try clear c5b0
                  try clear c6
                  try clear c6b0
                  try clear c7
                  try clear c7b0
                  try clear c8
                  try clear c14
                  try clear c14b0
                  try clear c14b1
                  try clear hcz11_0
                  try clear hcz11_1
                  try clear hcz11_2
                  try clear hcz13_0
                  try clear hcz13_1
                  try clear hcz13_2
                  try clear hfz11_0
                  try clear hfz11_1
                  try clear hfz11_2
                  try clear hfz13_0
                  try clear hfz13_1
                  try clear hfz13_2
                  try clear hx184_0
                  try clear hx184_1
                  try clear hx184_2
                  try clear p184
                  try clear p2
                  try clear q184
                  obtain ⟨kq, x28_8, rfl, HA, HJ8, HO_6, HO_7, BK185, HB⟩ := hcut
                  cases kq with
                  | zero => exact absurd HA.out (by simp [lex_Pairs.j1])
                  | succ kj8 =>
                    have H := HA.out
                    clear HA
                    simp only [lex_Pairs.j1] at H
                    by_cases c15 : x28_8 = true
                    · subst c15
                      have H1 : (if x7_1.length < 17592186044416 then (lex_Pairs.l0 kj8 l0 y186 (x7_1 ++ [x18_1]) l0 (l0.length : Int) (wrap64 (x18_1 + 1))) else (none)) = some (r1, r2, r3) := by rw [if_pos rfl] at H; exact H
                      clear H
                      have H := H1
                      clear H1
                      by_cases c16 : x7_1.length < 17592186044416
                      · rw [if_pos c16] at H
                        have LMc16 := Aside0.mk c16
                        clear c16
                        obtain ⟨y189, hy189⟩ : ∃ y_ : List Int, y_ = (x7_1 ++ [x18_1]) := ⟨_, rfl⟩
                        replace H : (lex_Pairs.l0 kj8 l0 y186 y189 l0 (l0.length : Int) (wrap64 (x18_1 + 1))) = some (r1, r2, r3) := by first | (rw [hy189]; with_reducible exact H) | (have H2_ := (Option.bind_some _ _).symm.trans H; rw [hy189]; with_reducible exact H2_) | (have H2_ := (Option.bind_some _ _).symm.trans H; with_reducible exact H2_) | with_reducible exact H | (rw [hy189]; exact H) | exact H
                        have Ny189 := Aside0.mk hy189
                        clear hy189
                        have H' := Aside0.mk H
                        clear H
                        go_wp2_with (first | ((with_reducible refine gate_builtin (b := .append) (xs := #[.tmp 31, .tmp 33]) rfl ?_); at_builtin; refine Kd.R_append (Kd.int .i64) (w0 := w) w.heap.size rfl (.tmp 31) (.tmp 33) 47 3 (.int .i64 0) 8 rfl Tryd.underlying47 info3 rfl (by decide) (by omega) u7 x7_1 x18_1 [.int .i64 x18_1] (fun k_ => some k_ ≠ (v187 : Value).ownBlock) (fun _ => False) rfl rfl ?aP (fun _ hk => hk.elim) ?aF ?aO ?aB ?aS ?aL ?_; (case aP => exact rfl); (case aB => exact (by repeat (first | (with_reducible first | exact HB.out | apply below_alloc | apply pw_below_drewN | apply below_drew1 | refine below_set ?_ GE185.out) | exact HB.out))); (case aF => exact (fun k_ hk => Kd.fresh' (Kd.R_lt (by (with_reducible repeat (first | apply Kd.R_alloc | apply Kd.R_drewN | apply Kd.R_drew)); exact HO_6.out)) k_ hk)); (case aO => exact (by (with_reducible repeat (first | apply Kd.R_alloc | apply Kd.R_drewN | apply Kd.R_drew)); exact HO_7.out)); (case aS => exact (below_size (by repeat (first | (with_reducible first | exact HB.out | apply below_alloc | apply pw_below_drewN | apply below_drew1 | refine below_set ?_ GE185.out) | exact HB.out)))); (case aL => have := LMc16.out; omega); intro v190 w17 ho hb hg hat; rw [← Ny189.out] at ho; have n0_ := Aside0.mk (Kd.R_after (ok := (fun _ => True)) (by (with_reducible repeat (first | apply Kd.R_alloc | apply Kd.R_drewN | apply Kd.R_drew)); exact Kd.R_mono HO_6.out (fun _ hk => ⟨trivial, hk⟩)) hg hat); have n1_ := Aside0.mk (blk_grown (g := gb185) (o := .cells #[.int .u8 ((rd_T58 l0 x18_1).f0), .string ((rd_T58 l0 x18_1).f1), .int .i64 ((rd_T58 l0 x18_1).f2)] 58 (0, 0)) (by (with_reducible repeat (first | refine blk_drewN ?_ _ | refine blk_drew ?_ | refine blk_alloc ?_ _)); exact BK185.out) hg (Kd.R_ne HO_7.out BK185.out (by decide))); have n2_ := Aside0.mk (hb); have n3_ := Aside0.mk (ho); clear HO_6; clear BK185; clear HB; clear HO_7; have HO_6 := n0_; have BK185 := n1_; have HB := n2_; have HO191 := n3_; clear n0_ n1_ n2_ n3_; clear ho hb hg hat))
                        go_roundg kj8
                        case measure => have := HK1.out; have := HJ8.out; omega
                        case rel => exact ⟨(y186), (y189), (wrap64 (x18_1 + 1)), (by first | rfl | (simp; done) | (simp [*]; done)), H', ⟨by have := HK1.out; have := HJ8.out; omega⟩, ⟨by (with_reducible repeat (first | apply Kd.R_alloc | apply Kd.R_drewN | apply Kd.R_drew)); exact Kd.R_mono HO_6.out (fun _ hk => hk.2)⟩, ⟨by (with_reducible repeat (first | apply Kd.R_alloc | apply Kd.R_drewN | apply Kd.R_drew)); exact HO191.out⟩, ⟨by repeat (first | (with_reducible first | exact HB.out | apply below_alloc | apply pw_below_drewN | apply below_drew1 | refine below_set ?_ GE185.out) | exact HB.out)⟩⟩
                      · rw [if_neg c16] at H
                        exact absurd H (by simp)
                    · replace c15 := Bool.eq_false_iff.mpr c15
                      subst c15
                      have H1 : (if ((rd_T58 l0 x18_1).f1).toList = ([41] : List UInt8) then (lex_Pairs.j2 kj8 l0 y186 x7_1 x18_1 l0 (l0.length : Int) x18_1 (((rd_T58 l0 x18_1).f1).toList == ([41] : List UInt8)) ((rd_T58 l0 x18_1).f0) ((rd_T58 l0 x18_1).f1) ((rd_T58 l0 x18_1).f2)) else (lex_Pairs.j2 kj8 l0 y186 x7_1 x18_1 l0 (l0.length : Int) x18_1 (((rd_T58 l0 x18_1).f1).toList == ([125] : List UInt8)) ((rd_T58 l0 x18_1).f0) ((rd_T58 l0 x18_1).f1) ((rd_T58 l0 x18_1).f2))) = some (r1, r2, r3) := by rw [if_neg (show ¬ (false = true) by decide)] at H; exact H
                      clear H
                      have H := H1
                      clear H1
                      have HC18 := Aside0.mk H
                      clear H
                      go_upto_if 35 with (fail)
                      go_cut [35] (fun v35 wc => ∃ (kq : Nat) (x35_17 : Bool), v35 = .bool x35_17 ∧ Aside0 (lex_Pairs.j2 kq l0 y186 x7_1 x18_1 l0 (l0.length : Int) x18_1 x35_17 ((rd_T58 l0 x18_1).f0) ((rd_T58 l0 x18_1).f1) ((rd_T58 l0 x18_1).f2) = some (r1, r2, r3)) ∧ Aside0 (kq ≤ kj8) ∧ Aside0 (Kd.R (Kd.int .i64) 3 wc w.heap.size (fun k_ => some k_ ≠ (u7 : Value).ownBlock) v187 y186) ∧ Aside0 (Kd.R (Kd.int .i64) 3 wc w.heap.size (fun k_ => some k_ ≠ (v187 : Value).ownBlock) u7 x7_1) ∧ Aside0 (wc.heap[gb185]? = some (.cells #[.int .u8 ((rd_T58 l0 x18_1).f0), .string ((rd_T58 l0 x18_1).f1), .int .i64 ((rd_T58 l0 x18_1).f2)] 58 (0, 0))) ∧ Aside0 (Below w.heap.size w wc))
                      case first =>
                        have H := HC18.out
                        clear HC18
                        by_cases c19 : ((rd_T58 l0 x18_1).f1).toList = ([41] : List UInt8)
                        · rw [if_pos c19] at H
                          have c19b0 : (((rd_T58 l0 x18_1).f1).toList == ([41] : List UInt8)) = true := beq_iff_eq.mpr c19
                          have c19b1 : (((rd_T58 l0 x18_1).f1).toList != ([41] : List UInt8)) = false := bne_eq_false_iff_eq.mpr c19
                          clear c19
                          (first | rw [c19b0] | (simp only [i64_w, i32_w]; rw [c19b0]) | skip)
                          have H' := Aside0.mk H
                          clear H
                          go_wp2
                          go_meet
                          case rel => exact ⟨_, ((((rd_T58 l0 x18_1).f1).toList == ([41] : List UInt8))), (by first | rfl | (simp; done) | (simp [*]; done)), H', ⟨by have := HK1.out; have := HJ8.out; first | omega | exact Nat.le_refl _⟩, ⟨by (with_reducible repeat (first | apply Kd.R_alloc | apply Kd.R_drewN | apply Kd.R_drew)); exact HO_6.out⟩, ⟨by (with_reducible repeat (first | apply Kd.R_alloc | apply Kd.R_drewN | apply Kd.R_drew)); exact HO_7.out⟩, ⟨by (with_reducible repeat (first | refine blk_drewN ?_ _ | refine blk_drew ?_ | refine blk_alloc ?_ _)); exact BK185.out⟩, ⟨by repeat (first | (with_reducible first | exact HB.out | apply below_alloc | apply pw_below_drewN | apply below_drew1 | refine below_set ?_ GE185.out) | exact HB.out)⟩⟩
                        · rw [if_neg c19] at H
                          have c19b0 : (((rd_T58 l0 x18_1).f1).toList == ([41] : List UInt8)) = false := beq_eq_false_iff_ne.mpr c19
                          have c19b1 : (((rd_T58 l0 x18_1).f1).toList != ([41] : List UInt8)) = true := bne_iff_ne.mpr c19
                          (first | rw [c19b0] | (simp only [i64_w, i32_w]; rw [c19b0]) | skip)
                          have H' := Aside0.mk H
                          clear H
                          go_wp2
                          go_meet
                          case rel => exact ⟨_, ((((rd_T58 l0 x18_1).f1).toList == ([125] : List UInt8))), (by first | rfl | (simp; done) | (simp [*]; done)), H', ⟨by have := HK1.out; have := HJ8.out; first | omega | exact Nat.le_refl _⟩, ⟨by (with_reducible repeat (first | apply Kd.R_alloc | apply Kd.R_drewN | apply Kd.R_drew)); exact HO_6.out⟩, ⟨by (with_reducible repeat (first | apply Kd.R_alloc | apply Kd.R_drewN | apply Kd.R_drew)); exact HO_7.out⟩, ⟨by (with_reducible repeat (first | refine blk_drewN ?_ _ | refine blk_drew ?_ | refine blk_alloc ?_ _)); exact BK185.out⟩, ⟨by repeat (first | (with_reducible first | exact HB.out | apply below_alloc | apply pw_below_drewN | apply below_drew1 | refine below_set ?_ GE185.out) | exact HB.out)⟩⟩
                      case rest =>
                        clear HC18
                        try clear c1
                        try clear p1
                        try clear q1
                        try clear hx1
                        try clear p2
                        try clear c3
                        try clear c3b0
                        try clear c3b1
                        try clear c5
                        try clear c5b0
                        try clear c6
                        try clear c6b0
                        try clear p6
                        try clear c7
                        try clear c7b0
                        try clear c8
                        try clear c14
                        try clear c14b0
                        try clear c14b1
                        try clear c15
                        try clear c16
                        try clear p18
                        try clear q18
                        try clear hx18
                        try clear c19
                        try clear c19b0
                        try clear c19b1
                        try clear hcz11_0
                        try clear hcz11_1
                        try clear hcz11_2
                        try clear hcz13_0
                        try clear hcz13_1
                        try clear hcz13_2
                        try clear hfz11_0
                        try clear hfz11_1
                        try clear hfz11_2
                        try clear hfz13_0
                        try clear hfz13_1
                        try clear hfz13_2
                        try clear hx184_0
                        try clear hx184_1
                        try clear hx184_2
                        try clear p1
                        try clear p184
                        try clear p2
                        try clear q1
                        try clear q184
                        obtain ⟨kq, x35_17, rfl, HA, HJ17, HO_6, HO_7, BK185, HB⟩ := hcut
                        cases kq with
                        | zero => exact absurd HA.out (by simp [lex_Pairs.j2])
                        | succ kj17 =>
                          have H := HA.out
                          clear HA
                          simp only [lex_Pairs.j2] at H
                          by_cases c20 : x35_17 = true
                          · subst c20
                            have H1 : (if (wrap64 ((x7_1.length : Int) - 1)) < 0 then (some (([] : List Int), x18_1, 4)) else (if 0 ≤ (wrap64 ((x7_1.length : Int) - 1)) then (if (wrap64 ((x7_1.length : Int) - 1)) < (x7_1.length : Int) then (if 0 ≤ (rd x7_1 (wrap64 ((x7_1.length : Int) - 1))) then (if (rd x7_1 (wrap64 ((x7_1.length : Int) - 1))) < (l0.length : Int) then (if ((((rd_T58 l0 (rd x7_1 (wrap64 ((x7_1.length : Int) - 1)))).f1).toList == ([40] : List UInt8)) != (((rd_T58 l0 x18_1).f1).toList == ([41] : List UInt8))) = true then (some (([] : List Int), x18_1, 4)) else (if 0 ≤ x18_1 then (if x18_1 < (y186.length : Int) then (if (rd x7_1 (wrap64 ((x7_1.length : Int) - 1))) < (y186.length : Int) then (if (wrap64 ((x7_1.length : Int) - 1)) ≤ (x7_1.length : Int) then (lex_Pairs.l0 kj17 l0 ((y186.set (x18_1 : Int).toNat (rd x7_1 (wrap64 ((x7_1.length : Int) - 1)))).set ((rd x7_1 (wrap64 ((x7_1.length : Int) - 1))) : Int).toNat x18_1) (x7_1.take ((wrap64 ((x7_1.length : Int) - 1)) : Int).toNat) l0 (l0.length : Int) (wrap64 (x18_1 + 1))) else (none)) else (none)) else (none)) else (none))) else (none)) else (none)) else (none)) else (none))) = some (r1, r2, r3) := by rw [if_pos rfl] at H; exact H
                            clear H
                            have H := H1
                            clear H1
                            by_cases c21 : (wrap64 ((x7_1.length : Int) - 1)) < 0
                            · rw [if_pos c21] at H
                              have c21b0 : decide ((wrap64 ((x7_1.length : Int) - 1)) < 0) = true := decide_eq_true c21
                              clear c21
                              simp only [Option.some.injEq, Prod.mk.injEq] at H
                              obtain ⟨rfl, rfl, rfl⟩ := H
                              obtain ⟨Ao22, co22, eo22⟩ := Kd.R_slice HO_7.out
                              subst eo22
                              try go_wp2
                              have n0_ := Aside0.mk (Kd.R_drew HO_6.out)
                              have n1_ := Aside0.mk (Kd.R_drew HO_7.out)
                              have n2_ := Aside0.mk (blk_drew BK185.out)
                              have n3_ := Aside0.mk (below_drew1 HB.out)
                              clear HO_6
                              clear HO_7
                              clear BK185
                              clear HB
                              have HO_6 := n0_
                              have HO_7 := n1_
                              have BK185 := n2_
                              have HB := n3_
                              clear n0_ n1_ n2_ n3_
                              refine start_ (n := 17) (S := fun w' => True) (ds := []) #[false, false, false, false, false, false, false, false, false, false, false, false, false, false, false, false, false] (by kernel_rfl) rfl rfl trivial (fun hHeld => ?_); refine with_tabW lex_Pairs.tab16 lex_Pairs.bits16 (fun HT_ HW_ => ?_)
                              generalize wc.drew = w23 at HO_6 HO_7 BK185 HB hHeld ⊢
                              refine pure_ (i := 0) (N := some 41) (v := ?_) (a' := ?_) #[true, false, false, false, false, false, false, false, false, false, false, false, false, false, false, false, false] rfl rfl (any_of HT_.out (by kernel_rfl)) (fun _ _ _ h => h) (Or.inl ⟨by rfl, ?_⟩) ?_ ?_
                              rotate_left
                              · intro w'
                                go_simp
                                with_reducible rfl
                              rotate_left
                              · simp only [Act.put, List.setIfInBounds_toArray, List.set_cons_zero, List.set_cons_succ, i64_w, i32_w]
                                rfl
                              refine pure_ (i := 1) (N := some 42) (v := ?_) (a' := ?_) #[true, true, false, false, false, false, false, false, false, false, false, false, false, false, false, false, false] rfl rfl (any_of HT_.out (by kernel_rfl)) (fun _ _ _ h => h) (Or.inl ⟨by rfl, ?_⟩) ?_ ?_
                              rotate_left
                              · intro w'
                                go_simp
                                with_reducible rfl
                              rotate_left
                              · simp only [Act.put, List.setIfInBounds_toArray, List.set_cons_zero, List.set_cons_succ, i64_w, i32_w]
                                rfl
                              refine pure_ (i := 2) (N := some 43) (v := ?_) (a' := ?_) #[true, true, true, false, false, false, false, false, false, false, false, false, false, false, false, false, false] rfl rfl (any_of HT_.out (by kernel_rfl)) (fun _ _ _ h => h) (Or.inl ⟨by rfl, ?_⟩) ?_ ?_
                              rotate_left
                              · intro w'
                                go_simp
                                with_reducible rfl
                              rotate_left
                              · simp only [Act.put, List.setIfInBounds_toArray, List.set_cons_zero, List.set_cons_succ, i64_w, i32_w]
                                rfl
                              refine pure_ (i := 3) (N := some 44) (v := undef) (a' := ?_) #[true, true, true, true, false, false, false, false, false, false, false, false, false, false, false, false, false] rfl rfl (any_of HT_.out (by kernel_rfl)) (fun _ _ _ h => h) (Or.inr ⟨by rfl, rfl⟩) ?_ ?_
                              rotate_left
                              · simp only [Act.put, List.setIfInBounds_toArray, List.set_cons_zero, List.set_cons_succ, i64_w, i32_w]
                                rfl
                              refine pure_ (i := 4) (N := some 45) (v := undef) (a' := ?_) #[true, true, true, true, true, false, false, false, false, false, false, false, false, false, false, false, false] rfl rfl (any_of HT_.out (by kernel_rfl)) (fun _ _ _ h => h) (Or.inr ⟨by rfl, rfl⟩) ?_ ?_
                              rotate_left
                              · simp only [Act.put, List.setIfInBounds_toArray, List.set_cons_zero, List.set_cons_succ, i64_w, i32_w]
                                rfl
                              refine pure_ (i := 5) (N := some 46) (v := undef) (a' := ?_) #[true, true, true, true, true, true, false, false, false, false, false, false, false, false, false, false, false] rfl rfl (any_of HT_.out (by kernel_rfl)) (fun _ _ _ h => h) (Or.inr ⟨by rfl, rfl⟩) ?_ ?_
                              rotate_left
                              · simp only [Act.put, List.setIfInBounds_toArray, List.set_cons_zero, List.set_cons_succ, i64_w, i32_w]
                                rfl
                              refine pure_ (i := 6) (N := some 47) (v := undef) (a' := ?_) #[true, true, true, true, true, true, true, false, false, false, false, false, false, false, false, false, false] rfl rfl (any_of HT_.out (by kernel_rfl)) (fun _ _ _ h => h) (Or.inr ⟨by rfl, rfl⟩) ?_ ?_
                              rotate_left
                              · simp only [Act.put, List.setIfInBounds_toArray, List.set_cons_zero, List.set_cons_succ, i64_w, i32_w]
                                rfl
                              refine pure_ (i := 7) (N := some 48) (v := undef) (a' := ?_) #[true, true, true, true, true, true, true, true, false, false, false, false, false, false, false, false, false] rfl rfl (any_of HT_.out (by kernel_rfl)) (fun _ _ _ h => h) (Or.inr ⟨by rfl, rfl⟩) ?_ ?_
                              rotate_left
                              · simp only [Act.put, List.setIfInBounds_toArray, List.set_cons_zero, List.set_cons_succ, i64_w, i32_w]
                                rfl
                              refine pure_ (i := 8) (N := some 49) (v := undef) (a' := ?_) #[true, true, true, true, true, true, true, true, true, false, false, false, false, false, false, false, false] rfl rfl (any_of HT_.out (by kernel_rfl)) (fun _ _ _ h => h) (Or.inr ⟨by rfl, rfl⟩) ?_ ?_
                              rotate_left
                              · simp only [Act.put, List.setIfInBounds_toArray, List.set_cons_zero, List.set_cons_succ, i64_w, i32_w]
                                rfl
                              refine pure_ (i := 9) (N := some 50) (v := undef) (a' := ?_) #[true, true, true, true, true, true, true, true, true, true, false, false, false, false, false, false, false] rfl rfl (any_of HT_.out (by kernel_rfl)) (fun _ _ _ h => h) (Or.inr ⟨by rfl, rfl⟩) ?_ ?_
                              rotate_left
                              · simp only [Act.put, List.setIfInBounds_toArray, List.set_cons_zero, List.set_cons_succ, i64_w, i32_w]
                                rfl
                              refine pure_ (i := 10) (N := some 51) (v := undef) (a' := ?_) #[true, true, true, true, true, true, true, true, true, true, true, false, false, false, false, false, false] rfl rfl (any_of HT_.out (by kernel_rfl)) (fun _ _ _ h => h) (Or.inr ⟨by rfl, rfl⟩) ?_ ?_
                              rotate_left
                              · simp only [Act.put, List.setIfInBounds_toArray, List.set_cons_zero, List.set_cons_succ, i64_w, i32_w]
                                rfl
                              refine pure_ (i := 11) (N := some 52) (v := undef) (a' := ?_) #[true, true, true, true, true, true, true, true, true, true, true, true, false, false, false, false, false] rfl rfl (any_of HT_.out (by kernel_rfl)) (fun _ _ _ h => h) (Or.inr ⟨by rfl, rfl⟩) ?_ ?_
                              rotate_left
                              · simp only [Act.put, List.setIfInBounds_toArray, List.set_cons_zero, List.set_cons_succ, i64_w, i32_w]
                                rfl
                              refine pure_ (i := 12) (N := some 53) (v := undef) (a' := ?_) #[true, true, true, true, true, true, true, true, true, true, true, true, true, false, false, false, false] rfl rfl (any_of HT_.out (by kernel_rfl)) (fun _ _ _ h => h) (Or.inr ⟨by rfl, rfl⟩) ?_ ?_
                              rotate_left
                              · simp only [Act.put, List.setIfInBounds_toArray, List.set_cons_zero, List.set_cons_succ, i64_w, i32_w]
                                rfl
                              refine pure_ (i := 13) (N := some 54) (v := undef) (a' := ?_) #[true, true, true, true, true, true, true, true, true, true, true, true, true, true, false, false, false] rfl rfl (any_of HT_.out (by kernel_rfl)) (fun _ _ _ h => h) (Or.inr ⟨by rfl, rfl⟩) ?_ ?_
                              rotate_left
                              · simp only [Act.put, List.setIfInBounds_toArray, List.set_cons_zero, List.set_cons_succ, i64_w, i32_w]
                                rfl
                              refine pure_ (i := 14) (N := some 55) (v := undef) (a' := ?_) #[true, true, true, true, true, true, true, true, true, true, true, true, true, true, true, false, false] rfl rfl (any_of HT_.out (by kernel_rfl)) (fun _ _ _ h => h) (Or.inr ⟨by rfl, rfl⟩) ?_ ?_
                              rotate_left
                              · simp only [Act.put, List.setIfInBounds_toArray, List.set_cons_zero, List.set_cons_succ, i64_w, i32_w]
                                rfl
                              refine pure_ (i := 15) (N := some 56) (v := undef) (a' := ?_) #[true, true, true, true, true, true, true, true, true, true, true, true, true, true, true, true, false] rfl rfl (any_of HT_.out (by kernel_rfl)) (fun _ _ _ h => h) (Or.inr ⟨by rfl, rfl⟩) ?_ ?_
                              rotate_left
                              · simp only [Act.put, List.setIfInBounds_toArray, List.set_cons_zero, List.set_cons_succ, i64_w, i32_w]
                                rfl
                              refine pure_ (i := 16) (N := some 57) (v := ?_) (a' := ?_) #[true, true, true, true, true, true, true, true, true, true, true, true, true, true, true, true, true] rfl rfl (any_of HT_.out (by kernel_rfl)) (fun _ _ _ h => h) (Or.inl ⟨by rfl, ?_⟩) ?_ ?_
                              rotate_left
                              · intro w'
                                go_simp
                                with_reducible rfl
                              rotate_left
                              · simp only [Act.put, List.setIfInBounds_toArray, List.set_cons_zero, List.set_cons_succ, i64_w, i32_w]
                                rfl
                              refine done_ (done_of HT_.out (by kernel_rfl)) ?_
                              try go_wp2
                              go_ret3
                              exact ⟨_, by first | rfl | (simp [errW_none, errW_some] <;> rfl) | (simp [*, errW_none, errW_some] <;> rfl), by first | exact Kd.R_nil _ _ _ _ _ | exact Kd.N_nil _ _ _ _ _ | exact Kd.V_nil _ _ _ _ _ | exact Kd.Q_nil _ _ _ _ _ | exact Kd.S_nil _ _ _ _ _, by repeat (first | (with_reducible first | exact HB.out | apply below_alloc | apply pw_below_drewN | apply below_drew1 | refine below_set ?_ GE185.out) | exact HB.out)⟩
                            · rw [if_neg c21] at H
                              have c21b0 : decide ((wrap64 ((x7_1.length : Int) - 1)) < 0) = false := decide_eq_false c21
                              clear c21
                              obtain ⟨ji24, hji24⟩ : ∃ j_ : Int, (wrap64 ((x7_1.length : Int) - 1)) = j_ := ⟨_, rfl⟩
                              replace H : (if 0 ≤ (ji24) then (if (ji24) < (x7_1.length : Int) then (if 0 ≤ (rd x7_1 (ji24)) then (if (rd x7_1 (ji24)) < (l0.length : Int) then (if ((((rd_T58 l0 (rd x7_1 (ji24))).f1).toList == ([40] : List UInt8)) != (((rd_T58 l0 x18_1).f1).toList == ([41] : List UInt8))) = true then (some (([] : List Int), x18_1, 4)) else (if 0 ≤ x18_1 then (if x18_1 < (y186.length : Int) then (if (rd x7_1 (ji24)) < (y186.length : Int) then (if (ji24) ≤ (x7_1.length : Int) then (lex_Pairs.l0 kj17 l0 ((y186.set (x18_1 : Int).toNat (rd x7_1 (ji24))).set ((rd x7_1 (ji24)) : Int).toNat x18_1) (x7_1.take ((ji24) : Int).toNat) l0 (l0.length : Int) (wrap64 (x18_1 + 1))) else (none)) else (none)) else (none)) else (none))) else (none)) else (none)) else (none)) else (none)) = some (r1, r2, r3) := by first | (rw [hji24] at H; exact H) | (simp only [hji24] at H ⊢; exact H)
                              (try rw [hji24] at c21b0)
                              have hji24w : (IntKind.i64.wrap ((x7_1.length : Int) - 1)) = ji24 := (i64_w _).trans hji24
                              by_cases c25 : 0 ≤ (ji24)
                              · rw [if_pos c25] at H
                                have c25b0 : decide (0 ≤ (ji24)) = true := decide_eq_true c25
                                clear c25
                                by_cases c26 : (ji24) < (x7_1.length : Int)
                                · rw [if_pos c26] at H
                                  have c26b0 : decide ((ji24) < (x7_1.length : Int)) = true := decide_eq_true c26
                                  clear c26
                                  by_cases c27 : 0 ≤ (rd x7_1 (ji24))
                                  · rw [if_pos c27] at H
                                    have c27b0 : decide (0 ≤ (rd x7_1 (ji24))) = true := decide_eq_true c27
                                    clear c27
                                    by_cases c28 : (rd x7_1 (ji24)) < (l0.length : Int)
                                    · rw [if_pos c28] at H
                                      have c28b0 : decide ((rd x7_1 (ji24)) < (l0.length : Int)) = true := decide_eq_true c28
                                      clear c28
                                      by_cases c29 : ((((rd_T58 l0 (rd x7_1 (ji24))).f1).toList == ([40] : List UInt8)) != (((rd_T58 l0 x18_1).f1).toList == ([41] : List UInt8))) = true
                                      · rw [if_pos c29] at H
                                        have c29b0 : ((((rd_T58 l0 (rd x7_1 (ji24))).f1).toList == ([40] : List UInt8)) != (((rd_T58 l0 x18_1).f1).toList == ([41] : List UInt8))) = true := c29
                                        (try (have c29b1 : decide ((((rd_T58 l0 (rd x7_1 (ji24))).f1).toList == ([40] : List UInt8)) = (((rd_T58 l0 x18_1).f1).toList == ([41] : List UInt8))) = false := by simpa using c29))
                                        (try (have c29b2 : ((((rd_T58 l0 (rd x7_1 (ji24))).f1).toList == ([40] : List UInt8)) == (((rd_T58 l0 x18_1).f1).toList == ([41] : List UInt8))) = false := by simpa using c29))
                                        (try (have c29b3 : ¬ ((((rd_T58 l0 (rd x7_1 (ji24))).f1).toList == ([40] : List UInt8)) = (((rd_T58 l0 x18_1).f1).toList == ([41] : List UInt8))) := by simpa using c29))
                                        clear c29
                                        simp only [Option.some.injEq, Prod.mk.injEq] at H
                                        obtain ⟨rfl, rfl, rfl⟩ := H
                                        obtain ⟨Ao30, co30, eo30⟩ := Kd.R_slice HO_7.out
                                        subst eo30
                                        try go_wp2
                                        have n0_ := Aside0.mk (Kd.R_drew HO_6.out)
                                        have n1_ := Aside0.mk (Kd.R_drew HO_7.out)
                                        have n2_ := Aside0.mk (blk_drew BK185.out)
                                        have n3_ := Aside0.mk (below_drew1 HB.out)
                                        clear HO_6
                                        clear HO_7
                                        clear BK185
                                        clear HB
                                        have HO_6 := n0_
                                        have HO_7 := n1_
                                        have BK185 := n2_
                                        have HB := n3_
                                        clear n0_ n1_ n2_ n3_
                                        have p192 : 0 ≤ ((ji24) : Int) := of_decide_eq_true (by first | (with_reducible assumption) | assumption)
                                        have q192 : (ji24) < (x7_1.length : Int) := of_decide_eq_true (by first | (with_reducible assumption) | assumption)
                                        obtain ⟨ad192, e192, hx192_0⟩ := Kd.at_int (Kd.R_reads' HO_7.out).2.2 (ji24) p192 q192
                                        cases e192
                                        replace p192 := eq_true p192
                                        replace q192 := eq_true q192
                                        have p193 : 0 ≤ ((rd x7_1 (ji24)) : Int) := of_decide_eq_true (by first | (with_reducible assumption) | assumption)
                                        have q193 : (rd x7_1 (ji24)) < (l0.length : Int) := of_decide_eq_true (by first | (with_reducible assumption) | assumption)
                                        obtain ⟨ad193, e193, hx193_0, hx193_1, hx193_2⟩ := at_T58 HR0.out (rd x7_1 (ji24)) p193 q193
                                        have hw193_2 := hx193_2
                                        have hw193_1 := hx193_1
                                        have hw193_0 := hx193_0
                                        obtain rfl : ad184 = ad193 := (by injection e193)
                                        replace hx193_0 := (HB.out.cell (World.block_lt_of_cell? w _ hx193_0)).trans hx193_0
                                        replace hx193_1 := (HB.out.cell (World.block_lt_of_cell? w _ hx193_1)).trans hx193_1
                                        replace hx193_2 := (HB.out.cell (World.block_lt_of_cell? w _ hx193_2)).trans hx193_2
                                        replace p193 := eq_true p193
                                        replace q193 := eq_true q193
                                        refine start_ (n := 17) (S := fun w' => w'.cell? ⟨gb185, 0, none⟩ = some (.int .u8 ((rd_T58 l0 x18_1).f0)) ∧ w'.cell? ⟨gb185, 1, none⟩ = some (.string ((rd_T58 l0 x18_1).f1)) ∧ w'.cell? ⟨gb185, 2, none⟩ = some (.int .i64 ((rd_T58 l0 x18_1).f2)) ∧ w'.cell? (ad192.add ((ji24)).toNat) = some (.int .i64 (rd x7_1 (ji24))) ∧ w'.cell? (ad184.add (((rd x7_1 (ji24))).toNat * 3)) = some (.int .u8 ((rd_T58 l0 (rd x7_1 (ji24))).f0)) ∧ w'.cell? ⟨(ad184.add (((rd x7_1 (ji24))).toNat * 3)).block, (ad184.add (((rd x7_1 (ji24))).toNat * 3)).off + 1, none⟩ = some (.string ((rd_T58 l0 (rd x7_1 (ji24))).f1)) ∧ w'.cell? ⟨(ad184.add (((rd x7_1 (ji24))).toNat * 3)).block, (ad184.add (((rd x7_1 (ji24))).toNat * 3)).off + 2, none⟩ = some (.int .i64 ((rd_T58 l0 (rd x7_1 (ji24))).f2))) (ds := []) #[false, false, false, false, false, false, false, false, false, false, false, false, false, false, false, false, false] (by kernel_rfl) rfl rfl ⟨(blk_cell BK185.out 0).trans rfl, (blk_cell BK185.out 1).trans rfl, (blk_cell BK185.out 2).trans rfl, hx192_0, ((HB.out.cell (World.block_lt_of_cell? w _ hw193_0)).trans hw193_0), ((HB.out.cell (World.block_lt_of_cell? w _ hw193_1)).trans hw193_1), ((HB.out.cell (World.block_lt_of_cell? w _ hw193_2)).trans hw193_2)⟩ (fun hHeld => ?_); refine with_tabW lex_Pairs.tab16 lex_Pairs.bits16 (fun HT_ HW_ => ?_)
                                        generalize wc.drew = w31 at HO_6 HO_7 BK185 HB hx192_0 hx193_0 hx193_1 hx193_2 hHeld ⊢
                                        refine pure_ (i := 0) (N := some 41) (v := ?_) (a' := ?_) #[true, false, false, false, false, false, false, false, false, false, false, false, false, false, false, false, false] rfl rfl (any_of HT_.out (by kernel_rfl)) (fun _ _ _ h => h) (Or.inl ⟨by rfl, ?_⟩) ?_ ?_
                                        rotate_left
                                        · intro w'
                                          go_simp
                                          with_reducible rfl
                                        rotate_left
                                        · simp only [Act.put, List.setIfInBounds_toArray, List.set_cons_zero, List.set_cons_succ, i64_w, i32_w]
                                          rfl
                                        refine pure_ (i := 1) (N := some 42) (v := ?_) (a' := ?_) #[true, true, false, false, false, false, false, false, false, false, false, false, false, false, false, false, false] rfl rfl (any_of HT_.out (by kernel_rfl)) (fun _ _ _ h => h) (Or.inl ⟨by rfl, ?_⟩) ?_ ?_
                                        rotate_left
                                        · intro w'
                                          go_simp
                                          with_reducible rfl
                                        rotate_left
                                        · simp only [Act.put, List.setIfInBounds_toArray, List.set_cons_zero, List.set_cons_succ, i64_w, i32_w]
                                          rfl
                                        refine pure_ (i := 2) (N := some 43) (v := ?_) (a' := ?_) #[true, true, true, false, false, false, false, false, false, false, false, false, false, false, false, false, false] rfl rfl (any_of HT_.out (by kernel_rfl)) (fun _ _ _ h => h) (Or.inl ⟨by rfl, ?_⟩) ?_ ?_
                                        rotate_left
                                        · intro w'
                                          go_simp
                                          with_reducible rfl
                                        rotate_left
                                        · simp only [Act.put, List.setIfInBounds_toArray, List.set_cons_zero, List.set_cons_succ, i64_w, i32_w]
                                          rfl
                                        refine pure_ (i := 3) (N := some 44) (v := ?_) (a' := ?_) #[true, true, true, true, false, false, false, false, false, false, false, false, false, false, false, false, false] rfl rfl (any_of HT_.out (by kernel_rfl)) (fun _ _ _ h => h) (Or.inl ⟨by rfl, ?_⟩) ?_ ?_
                                        rotate_left
                                        · intro w'
                                          go_simp
                                          with_reducible rfl
                                        rotate_left
                                        · simp only [Act.put, List.setIfInBounds_toArray, List.set_cons_zero, List.set_cons_succ, i64_w, i32_w]
                                          rfl
                                        refine pure_ (i := 4) (N := some 45) (v := ?_) (a' := ?_) #[true, true, true, true, true, false, false, false, false, false, false, false, false, false, false, false, false] rfl rfl (any_of HT_.out (by kernel_rfl)) (fun _ _ _ h => h) (Or.inl ⟨by rfl, ?_⟩) ?_ ?_
                                        rotate_left
                                        · intro w'
                                          go_simp
                                          with_reducible rfl
                                        rotate_left
                                        · simp only [Act.put, List.setIfInBounds_toArray, List.set_cons_zero, List.set_cons_succ, i64_w, i32_w]
                                          rfl
                                        refine pure_ (i := 5) (N := some 46) (v := ?_) (a' := ?_) #[true, true, true, true, true, true, false, false, false, false, false, false, false, false, false, false, false] rfl rfl (any_of HT_.out (by kernel_rfl)) (fun _ _ _ h => h) (Or.inl ⟨by rfl, ?_⟩) ?_ ?_
                                        rotate_left
                                        · intro w'
                                          go_simp
                                          with_reducible rfl
                                        rotate_left
                                        · simp only [Act.put, List.setIfInBounds_toArray, List.set_cons_zero, List.set_cons_succ, i64_w, i32_w]
                                          rfl
                                        refine pure_ (i := 6) (N := some 47) (v := ?_) (a' := ?_) #[true, true, true, true, true, true, true, false, false, false, false, false, false, false, false, false, false] rfl rfl (any_of HT_.out (by kernel_rfl)) (fun _ _ _ h => h) (Or.inl ⟨by rfl, ?_⟩) ?_ ?_
                                        rotate_left
                                        · intro w'
                                          go_simp
                                          with_reducible rfl
                                        rotate_left
                                        · simp only [Act.put, List.setIfInBounds_toArray, List.set_cons_zero, List.set_cons_succ, i64_w, i32_w]
                                          rfl
                                        refine pure_ (i := 12) (N := some 53) (v := ?_) (a' := ?_) #[true, true, true, true, true, true, true, false, false, false, false, false, true, false, false, false, false] rfl rfl (any_of HT_.out (by kernel_rfl)) (fun _ _ _ h => h) (Or.inl ⟨by rfl, ?_⟩) ?_ ?_
                                        rotate_left
                                        · intro w'
                                          go_simp
                                          with_reducible rfl
                                        rotate_left
                                        · simp only [Act.put, List.setIfInBounds_toArray, List.set_cons_zero, List.set_cons_succ, i64_w, i32_w]
                                          rfl
                                        refine take_ (i := 7) (N := some 48) (v := ?_) (a' := ?_) #[true, true, true, true, true, true, true, true, false, false, false, false, true, false, false, false, false] rfl rfl (take_ofW HT_.out HW_.out (by kernel_rfl)) (fun _ _ _ h => h) (Or.inl ⟨by rfl, ?_⟩) hHeld ?_ ?_
                                        rotate_left
                                        · rintro w' ⟨s0, s1, s2, s3, s4, s5, s6⟩
                                          go_simp
                                          with_reducible rfl
                                        rotate_left
                                        · simp only [Act.put, List.setIfInBounds_toArray, List.set_cons_zero, List.set_cons_succ, i64_w, i32_w]
                                          rfl
                                        refine pure_ (i := 8) (N := some 49) (v := ?_) (a' := ?_) #[true, true, true, true, true, true, true, true, true, false, false, false, true, false, false, false, false] rfl rfl (any_of HT_.out (by kernel_rfl)) (fun _ _ _ h => h) (Or.inl ⟨by rfl, ?_⟩) ?_ ?_
                                        rotate_left
                                        · intro w'
                                          go_simp
                                          with_reducible rfl
                                        rotate_left
                                        · simp only [Act.put, List.setIfInBounds_toArray, List.set_cons_zero, List.set_cons_succ, i64_w, i32_w]
                                          rfl
                                        refine pure_ (i := 9) (N := some 50) (v := ?_) (a' := ?_) #[true, true, true, true, true, true, true, true, true, true, false, false, true, false, false, false, false] rfl rfl (any_of HT_.out (by kernel_rfl)) (fun _ _ _ h => h) (Or.inl ⟨by rfl, ?_⟩) ?_ ?_
                                        rotate_left
                                        · intro w'
                                          go_simp
                                          with_reducible rfl
                                        rotate_left
                                        · simp only [Act.put, List.setIfInBounds_toArray, List.set_cons_zero, List.set_cons_succ, i64_w, i32_w]
                                          rfl
                                        refine take_ (i := 10) (N := some 51) (v := ?_) (a' := ?_) #[true, true, true, true, true, true, true, true, true, true, true, false, true, false, false, false, false] rfl rfl (take_ofW HT_.out HW_.out (by kernel_rfl)) (fun _ _ _ h => h) (Or.inl ⟨by rfl, ?_⟩) hHeld ?_ ?_
                                        rotate_left
                                        · rintro w' ⟨s0, s1, s2, s3, s4, s5, s6⟩
                                          go_simp
                                          with_reducible rfl
                                        rotate_left
                                        · simp only [Act.put, List.setIfInBounds_toArray, List.set_cons_zero, List.set_cons_succ, i64_w, i32_w]
                                          rfl
                                        refine pure_ (i := 11) (N := some 52) (v := ?_) (a' := ?_) #[true, true, true, true, true, true, true, true, true, true, true, true, true, false, false, false, false] rfl rfl (any_of HT_.out (by kernel_rfl)) (fun _ _ _ h => h) (Or.inl ⟨by rfl, ?_⟩) ?_ ?_
                                        rotate_left
                                        · intro w'
                                          go_simp
                                          with_reducible rfl
                                        rotate_left
                                        · simp only [Act.put, List.setIfInBounds_toArray, List.set_cons_zero, List.set_cons_succ, i64_w, i32_w]
                                          rfl
                                        refine take_ (i := 13) (N := some 54) (v := ?_) (a' := ?_) #[true, true, true, true, true, true, true, true, true, true, true, true, true, true, false, false, false] rfl rfl (take_ofW HT_.out HW_.out (by kernel_rfl)) (fun _ _ _ h => h) (Or.inl ⟨by rfl, ?_⟩) hHeld ?_ ?_
                                        rotate_left
                                        · rintro w' ⟨s0, s1, s2, s3, s4, s5, s6⟩
                                          go_simp
                                          with_reducible rfl
                                        rotate_left
                                        · simp only [Act.put, List.setIfInBounds_toArray, List.set_cons_zero, List.set_cons_succ, i64_w, i32_w]
                                          rfl
                                        refine pure_ (i := 14) (N := some 55) (v := ?_) (a' := ?_) #[true, true, true, true, true, true, true, true, true, true, true, true, true, true, true, false, false] rfl rfl (any_of HT_.out (by kernel_rfl)) (fun _ _ _ h => h) (Or.inl ⟨by rfl, ?_⟩) ?_ ?_
                                        rotate_left
                                        · intro w'
                                          go_simp
                                          with_reducible rfl
                                        rotate_left
                                        · simp only [Act.put, List.setIfInBounds_toArray, List.set_cons_zero, List.set_cons_succ, i64_w, i32_w]
                                          rfl
                                        refine pure_ (i := 15) (N := some 56) (v := ?_) (a' := ?_) #[true, true, true, true, true, true, true, true, true, true, true, true, true, true, true, true, false] rfl rfl (any_of HT_.out (by kernel_rfl)) (fun _ _ _ h => h) (Or.inl ⟨by rfl, ?_⟩) ?_ ?_
                                        rotate_left
                                        · intro w'
                                          go_simp
                                          with_reducible rfl
                                        rotate_left
                                        · simp only [Act.put, List.setIfInBounds_toArray, List.set_cons_zero, List.set_cons_succ, i64_w, i32_w]
                                          rfl
                                        refine pure_ (i := 16) (N := some 57) (v := ?_) (a' := ?_) #[true, true, true, true, true, true, true, true, true, true, true, true, true, true, true, true, true] rfl rfl (any_of HT_.out (by kernel_rfl)) (fun _ _ _ h => h) (Or.inl ⟨by rfl, ?_⟩) ?_ ?_
                                        rotate_left
                                        · intro w'
                                          go_simp
                                          with_reducible rfl
                                        rotate_left
                                        · simp only [Act.put, List.setIfInBounds_toArray, List.set_cons_zero, List.set_cons_succ, i64_w, i32_w]
                                          rfl
                                        refine done_ (done_of HT_.out (by kernel_rfl)) ?_
                                        try go_wp2
                                        go_ret3
                                        exact ⟨_, by first | rfl | (simp [errW_none, errW_some] <;> rfl) | (simp only [← hji24]; first | rfl | (simp [errW_none, errW_some] <;> rfl)) | (simp [*, errW_none, errW_some] <;> rfl), by first | exact Kd.R_nil _ _ _ _ _ | exact Kd.N_nil _ _ _ _ _ | exact Kd.V_nil _ _ _ _ _ | exact Kd.Q_nil _ _ _ _ _ | exact Kd.S_nil _ _ _ _ _, by repeat (first | (with_reducible first | exact HB.out | apply below_alloc | apply pw_below_drewN | apply below_drew1 | refine below_set ?_ GE185.out) | exact HB.out)⟩
                                      · rw [if_neg c29] at H
                                        have c29b0 : ((((rd_T58 l0 (rd x7_1 (ji24))).f1).toList == ([40] : List UInt8)) != (((rd_T58 l0 x18_1).f1).toList == ([41] : List UInt8))) = false := by simpa using c29
                                        (try (have c29b1 : decide ((((rd_T58 l0 (rd x7_1 (ji24))).f1).toList == ([40] : List UInt8)) = (((rd_T58 l0 x18_1).f1).toList == ([41] : List UInt8))) = true := by simpa using c29))
                                        (try (have c29b2 : ((((rd_T58 l0 (rd x7_1 (ji24))).f1).toList == ([40] : List UInt8)) == (((rd_T58 l0 x18_1).f1).toList == ([41] : List UInt8))) = true := by simpa using c29))
                                        clear c29
                                        by_cases c32 : 0 ≤ x18_1
                                        · rw [if_pos c32] at H
                                          have c32b0 : decide (0 ≤ x18_1) = true := decide_eq_true c32
                                          clear c32
                                          by_cases c33 : x18_1 < (y186.length : Int)
                                          · rw [if_pos c33] at H
                                            have c33b0 : decide (x18_1 < (y186.length : Int)) = true := decide_eq_true c33
                                            clear c33
                                            obtain ⟨y196, hy196⟩ : ∃ y_ : List Int, y_ = (y186.set (x18_1 : Int).toNat (rd x7_1 (ji24))) := ⟨_, rfl⟩
                                            replace H : (if (rd x7_1 (ji24)) < (y186.length : Int) then (if (ji24) ≤ (x7_1.length : Int) then (lex_Pairs.l0 kj17 l0 (y196.set ((rd x7_1 (ji24)) : Int).toNat x18_1) (x7_1.take ((ji24) : Int).toNat) l0 (l0.length : Int) (wrap64 (x18_1 + 1))) else (none)) else (none)) = some (r1, r2, r3) := by first | (rw [hy196]; with_reducible exact H) | (have H2_ := (Option.bind_some _ _).symm.trans H; rw [hy196]; with_reducible exact H2_) | (have H2_ := (Option.bind_some _ _).symm.trans H; with_reducible exact H2_) | with_reducible exact H | (rw [hy196]; exact H) | exact H
                                            have Ny196 := Aside0.mk hy196
                                            clear hy196
                                            by_cases c35 : (rd x7_1 (ji24)) < (y186.length : Int)
                                            · rw [if_pos c35] at H
                                              have c35b0 : decide ((rd x7_1 (ji24)) < (y186.length : Int)) = true := decide_eq_true c35
                                              clear c35
                                              obtain ⟨y197, hy197⟩ : ∃ y_ : List Int, y_ = (y196.set ((rd x7_1 (ji24)) : Int).toNat x18_1) := ⟨_, rfl⟩
                                              replace H : (if (ji24) ≤ (x7_1.length : Int) then (lex_Pairs.l0 kj17 l0 y197 (x7_1.take ((ji24) : Int).toNat) l0 (l0.length : Int) (wrap64 (x18_1 + 1))) else (none)) = some (r1, r2, r3) := by first | (rw [hy197]; with_reducible exact H) | (have H2_ := (Option.bind_some _ _).symm.trans H; rw [hy197]; with_reducible exact H2_) | (have H2_ := (Option.bind_some _ _).symm.trans H; with_reducible exact H2_) | with_reducible exact H | (rw [hy197]; exact H) | exact H
                                              have Ny197 := Aside0.mk hy197
                                              clear hy197
                                              by_cases c37 : (ji24) ≤ (x7_1.length : Int)
                                              · rw [if_pos c37] at H
                                                have c37b0 := eq_true c37
                                                have c37b1 : decide ((ji24) ≤ (x7_1.length : Int)) = true := decide_eq_true c37
                                                clear c37
                                                obtain ⟨y198, hy198⟩ : ∃ y_ : List Int, y_ = (x7_1.take ((ji24) : Int).toNat) := ⟨_, rfl⟩
                                                replace H : (lex_Pairs.l0 kj17 l0 y197 y198 l0 (l0.length : Int) (wrap64 (x18_1 + 1))) = some (r1, r2, r3) := by first | (rw [hy198]; with_reducible exact H) | (have H2_ := (Option.bind_some _ _).symm.trans H; rw [hy198]; with_reducible exact H2_) | (have H2_ := (Option.bind_some _ _).symm.trans H; with_reducible exact H2_) | with_reducible exact H | (rw [hy198]; exact H) | exact H
                                                have Ny198 := Aside0.mk hy198
                                                clear hy198
                                                have H' := Aside0.mk H
                                                clear H
                                                obtain ⟨Ao38, co38, eo38⟩ := Kd.R_slice HO_7.out
                                                subst eo38
                                                try go_wp2
                                                have n0_ := Aside0.mk (Kd.R_drew HO_6.out)
                                                have n1_ := Aside0.mk (Kd.R_drew HO_7.out)
                                                have n2_ := Aside0.mk (blk_drew BK185.out)
                                                have n3_ := Aside0.mk (below_drew1 HB.out)
                                                clear HO_6
                                                clear HO_7
                                                clear BK185
                                                clear HB
                                                have HO_6 := n0_
                                                have HO_7 := n1_
                                                have BK185 := n2_
                                                have HB := n3_
                                                clear n0_ n1_ n2_ n3_
                                                have p192 : 0 ≤ ((ji24) : Int) := of_decide_eq_true (by first | (with_reducible assumption) | assumption)
                                                have q192 : (ji24) < (x7_1.length : Int) := of_decide_eq_true (by first | (with_reducible assumption) | assumption)
                                                obtain ⟨ad192, e192, hx192_0⟩ := Kd.at_int (Kd.R_reads' HO_7.out).2.2 (ji24) p192 q192
                                                cases e192
                                                replace p192 := eq_true p192
                                                replace q192 := eq_true q192
                                                have p193 : 0 ≤ ((rd x7_1 (ji24)) : Int) := of_decide_eq_true (by first | (with_reducible assumption) | assumption)
                                                have q193 : (rd x7_1 (ji24)) < (l0.length : Int) := of_decide_eq_true (by first | (with_reducible assumption) | assumption)
                                                obtain ⟨ad193, e193, hx193_0, hx193_1, hx193_2⟩ := at_T58 HR0.out (rd x7_1 (ji24)) p193 q193
                                                have hw193_2 := hx193_2
                                                have hw193_1 := hx193_1
                                                have hw193_0 := hx193_0
                                                obtain rfl : ad184 = ad193 := (by injection e193)
                                                replace hx193_0 := (HB.out.cell (World.block_lt_of_cell? w _ hx193_0)).trans hx193_0
                                                replace hx193_1 := (HB.out.cell (World.block_lt_of_cell? w _ hx193_1)).trans hx193_1
                                                replace hx193_2 := (HB.out.cell (World.block_lt_of_cell? w _ hx193_2)).trans hx193_2
                                                replace p193 := eq_true p193
                                                replace q193 := eq_true q193
                                                refine start_ (n := 17) (S := fun w' => w'.cell? ⟨gb185, 0, none⟩ = some (.int .u8 ((rd_T58 l0 x18_1).f0)) ∧ w'.cell? ⟨gb185, 1, none⟩ = some (.string ((rd_T58 l0 x18_1).f1)) ∧ w'.cell? ⟨gb185, 2, none⟩ = some (.int .i64 ((rd_T58 l0 x18_1).f2)) ∧ w'.cell? (ad192.add ((ji24)).toNat) = some (.int .i64 (rd x7_1 (ji24))) ∧ w'.cell? (ad184.add (((rd x7_1 (ji24))).toNat * 3)) = some (.int .u8 ((rd_T58 l0 (rd x7_1 (ji24))).f0)) ∧ w'.cell? ⟨(ad184.add (((rd x7_1 (ji24))).toNat * 3)).block, (ad184.add (((rd x7_1 (ji24))).toNat * 3)).off + 1, none⟩ = some (.string ((rd_T58 l0 (rd x7_1 (ji24))).f1)) ∧ w'.cell? ⟨(ad184.add (((rd x7_1 (ji24))).toNat * 3)).block, (ad184.add (((rd x7_1 (ji24))).toNat * 3)).off + 2, none⟩ = some (.int .i64 ((rd_T58 l0 (rd x7_1 (ji24))).f2))) (ds := []) #[false, false, false, false, false, false, false, false, false, false, false, false, false, false, false, false, false] (by kernel_rfl) rfl rfl ⟨(blk_cell BK185.out 0).trans rfl, (blk_cell BK185.out 1).trans rfl, (blk_cell BK185.out 2).trans rfl, hx192_0, ((HB.out.cell (World.block_lt_of_cell? w _ hw193_0)).trans hw193_0), ((HB.out.cell (World.block_lt_of_cell? w _ hw193_1)).trans hw193_1), ((HB.out.cell (World.block_lt_of_cell? w _ hw193_2)).trans hw193_2)⟩ (fun hHeld => ?_); refine with_tabW lex_Pairs.tab16 lex_Pairs.bits16 (fun HT_ HW_ => ?_)
                                                generalize wc.drew = w39 at HO_6 HO_7 BK185 HB hx192_0 hx193_0 hx193_1 hx193_2 hHeld ⊢
                                                refine pure_ (i := 0) (N := some 41) (v := ?_) (a' := ?_) #[true, false, false, false, false, false, false, false, false, false, false, false, false, false, false, false, false] rfl rfl (any_of HT_.out (by kernel_rfl)) (fun _ _ _ h => h) (Or.inl ⟨by rfl, ?_⟩) ?_ ?_
                                                rotate_left
                                                · intro w'
                                                  go_simp
                                                  with_reducible rfl
                                                rotate_left
                                                · simp only [Act.put, List.setIfInBounds_toArray, List.set_cons_zero, List.set_cons_succ, i64_w, i32_w]
                                                  rfl
                                                refine pure_ (i := 1) (N := some 42) (v := ?_) (a' := ?_) #[true, true, false, false, false, false, false, false, false, false, false, false, false, false, false, false, false] rfl rfl (any_of HT_.out (by kernel_rfl)) (fun _ _ _ h => h) (Or.inl ⟨by rfl, ?_⟩) ?_ ?_
                                                rotate_left
                                                · intro w'
                                                  go_simp
                                                  with_reducible rfl
                                                rotate_left
                                                · simp only [Act.put, List.setIfInBounds_toArray, List.set_cons_zero, List.set_cons_succ, i64_w, i32_w]
                                                  rfl
                                                refine pure_ (i := 2) (N := some 43) (v := ?_) (a' := ?_) #[true, true, true, false, false, false, false, false, false, false, false, false, false, false, false, false, false] rfl rfl (any_of HT_.out (by kernel_rfl)) (fun _ _ _ h => h) (Or.inl ⟨by rfl, ?_⟩) ?_ ?_
                                                rotate_left
                                                · intro w'
                                                  go_simp
                                                  with_reducible rfl
                                                rotate_left
                                                · simp only [Act.put, List.setIfInBounds_toArray, List.set_cons_zero, List.set_cons_succ, i64_w, i32_w]
                                                  rfl
                                                refine pure_ (i := 3) (N := some 44) (v := ?_) (a' := ?_) #[true, true, true, true, false, false, false, false, false, false, false, false, false, false, false, false, false] rfl rfl (any_of HT_.out (by kernel_rfl)) (fun _ _ _ h => h) (Or.inl ⟨by rfl, ?_⟩) ?_ ?_
                                                rotate_left
                                                · intro w'
                                                  go_simp
                                                  with_reducible rfl
                                                rotate_left
                                                · simp only [Act.put, List.setIfInBounds_toArray, List.set_cons_zero, List.set_cons_succ, i64_w, i32_w]
                                                  rfl
                                                refine pure_ (i := 4) (N := some 45) (v := ?_) (a' := ?_) #[true, true, true, true, true, false, false, false, false, false, false, false, false, false, false, false, false] rfl rfl (any_of HT_.out (by kernel_rfl)) (fun _ _ _ h => h) (Or.inl ⟨by rfl, ?_⟩) ?_ ?_
                                                rotate_left
                                                · intro w'
                                                  go_simp
                                                  with_reducible rfl
                                                rotate_left
                                                · simp only [Act.put, List.setIfInBounds_toArray, List.set_cons_zero, List.set_cons_succ, i64_w, i32_w]
                                                  rfl
                                                refine pure_ (i := 5) (N := some 46) (v := ?_) (a' := ?_) #[true, true, true, true, true, true, false, false, false, false, false, false, false, false, false, false, false] rfl rfl (any_of HT_.out (by kernel_rfl)) (fun _ _ _ h => h) (Or.inl ⟨by rfl, ?_⟩) ?_ ?_
                                                rotate_left
                                                · intro w'
                                                  go_simp
                                                  with_reducible rfl
                                                rotate_left
                                                · simp only [Act.put, List.setIfInBounds_toArray, List.set_cons_zero, List.set_cons_succ, i64_w, i32_w]
                                                  rfl
                                                refine pure_ (i := 6) (N := some 47) (v := ?_) (a' := ?_) #[true, true, true, true, true, true, true, false, false, false, false, false, false, false, false, false, false] rfl rfl (any_of HT_.out (by kernel_rfl)) (fun _ _ _ h => h) (Or.inl ⟨by rfl, ?_⟩) ?_ ?_
                                                rotate_left
                                                · intro w'
                                                  go_simp
                                                  with_reducible rfl
                                                rotate_left
                                                · simp only [Act.put, List.setIfInBounds_toArray, List.set_cons_zero, List.set_cons_succ, i64_w, i32_w]
                                                  rfl
                                                refine pure_ (i := 12) (N := some 53) (v := ?_) (a' := ?_) #[true, true, true, true, true, true, true, false, false, false, false, false, true, false, false, false, false] rfl rfl (any_of HT_.out (by kernel_rfl)) (fun _ _ _ h => h) (Or.inl ⟨by rfl, ?_⟩) ?_ ?_
                                                rotate_left
                                                · intro w'
                                                  go_simp
                                                  with_reducible rfl
                                                rotate_left
                                                · simp only [Act.put, List.setIfInBounds_toArray, List.set_cons_zero, List.set_cons_succ, i64_w, i32_w]
                                                  rfl
                                                refine take_ (i := 7) (N := some 48) (v := ?_) (a' := ?_) #[true, true, true, true, true, true, true, true, false, false, false, false, true, false, false, false, false] rfl rfl (take_ofW HT_.out HW_.out (by kernel_rfl)) (fun _ _ _ h => h) (Or.inl ⟨by rfl, ?_⟩) hHeld ?_ ?_
                                                rotate_left
                                                · rintro w' ⟨s0, s1, s2, s3, s4, s5, s6⟩
                                                  go_simp
                                                  with_reducible rfl
                                                rotate_left
                                                · simp only [Act.put, List.setIfInBounds_toArray, List.set_cons_zero, List.set_cons_succ, i64_w, i32_w]
                                                  rfl
                                                refine pure_ (i := 8) (N := some 49) (v := ?_) (a' := ?_) #[true, true, true, true, true, true, true, true, true, false, false, false, true, false, false, false, false] rfl rfl (any_of HT_.out (by kernel_rfl)) (fun _ _ _ h => h) (Or.inl ⟨by rfl, ?_⟩) ?_ ?_
                                                rotate_left
                                                · intro w'
                                                  go_simp
                                                  with_reducible rfl
                                                rotate_left
                                                · simp only [Act.put, List.setIfInBounds_toArray, List.set_cons_zero, List.set_cons_succ, i64_w, i32_w]
                                                  rfl
                                                refine pure_ (i := 9) (N := some 50) (v := ?_) (a' := ?_) #[true, true, true, true, true, true, true, true, true, true, false, false, true, false, false, false, false] rfl rfl (any_of HT_.out (by kernel_rfl)) (fun _ _ _ h => h) (Or.inl ⟨by rfl, ?_⟩) ?_ ?_
                                                rotate_left
                                                · intro w'
                                                  go_simp
                                                  with_reducible rfl
                                                rotate_left
                                                · simp only [Act.put, List.setIfInBounds_toArray, List.set_cons_zero, List.set_cons_succ, i64_w, i32_w]
                                                  rfl
                                                refine take_ (i := 10) (N := some 51) (v := ?_) (a' := ?_) #[true, true, true, true, true, true, true, true, true, true, true, false, true, false, false, false, false] rfl rfl (take_ofW HT_.out HW_.out (by kernel_rfl)) (fun _ _ _ h => h) (Or.inl ⟨by rfl, ?_⟩) hHeld ?_ ?_
                                                rotate_left
                                                · rintro w' ⟨s0, s1, s2, s3, s4, s5, s6⟩
                                                  go_simp
                                                  with_reducible rfl
                                                rotate_left
                                                · simp only [Act.put, List.setIfInBounds_toArray, List.set_cons_zero, List.set_cons_succ, i64_w, i32_w]
                                                  rfl
                                                refine pure_ (i := 11) (N := some 52) (v := ?_) (a' := ?_) #[true, true, true, true, true, true, true, true, true, true, true, true, true, false, false, false, false] rfl rfl (any_of HT_.out (by kernel_rfl)) (fun _ _ _ h => h) (Or.inl ⟨by rfl, ?_⟩) ?_ ?_
                                                rotate_left
                                                · intro w'
                                                  go_simp
                                                  with_reducible rfl
                                                rotate_left
                                                · simp only [Act.put, List.setIfInBounds_toArray, List.set_cons_zero, List.set_cons_succ, i64_w, i32_w]
                                                  rfl
                                                refine take_ (i := 13) (N := some 54) (v := ?_) (a' := ?_) #[true, true, true, true, true, true, true, true, true, true, true, true, true, true, false, false, false] rfl rfl (take_ofW HT_.out HW_.out (by kernel_rfl)) (fun _ _ _ h => h) (Or.inl ⟨by rfl, ?_⟩) hHeld ?_ ?_
                                                rotate_left
                                                · rintro w' ⟨s0, s1, s2, s3, s4, s5, s6⟩
                                                  go_simp
                                                  with_reducible rfl
                                                rotate_left
                                                · simp only [Act.put, List.setIfInBounds_toArray, List.set_cons_zero, List.set_cons_succ, i64_w, i32_w]
                                                  rfl
                                                refine pure_ (i := 14) (N := some 55) (v := ?_) (a' := ?_) #[true, true, true, true, true, true, true, true, true, true, true, true, true, true, true, false, false] rfl rfl (any_of HT_.out (by kernel_rfl)) (fun _ _ _ h => h) (Or.inl ⟨by rfl, ?_⟩) ?_ ?_
                                                rotate_left
                                                · intro w'
                                                  go_simp
                                                  with_reducible rfl
                                                rotate_left
                                                · simp only [Act.put, List.setIfInBounds_toArray, List.set_cons_zero, List.set_cons_succ, i64_w, i32_w]
                                                  rfl
                                                refine pure_ (i := 15) (N := some 56) (v := ?_) (a' := ?_) #[true, true, true, true, true, true, true, true, true, true, true, true, true, true, true, true, false] rfl rfl (any_of HT_.out (by kernel_rfl)) (fun _ _ _ h => h) (Or.inl ⟨by rfl, ?_⟩) ?_ ?_
                                                rotate_left
                                                · intro w'
                                                  go_simp
                                                  with_reducible rfl
                                                rotate_left
                                                · simp only [Act.put, List.setIfInBounds_toArray, List.set_cons_zero, List.set_cons_succ, i64_w, i32_w]
                                                  rfl
                                                refine pure_ (i := 16) (N := some 57) (v := ?_) (a' := ?_) #[true, true, true, true, true, true, true, true, true, true, true, true, true, true, true, true, true] rfl rfl (any_of HT_.out (by kernel_rfl)) (fun _ _ _ h => h) (Or.inl ⟨by rfl, ?_⟩) ?_ ?_
                                                rotate_left
                                                · intro w'
                                                  go_simp
                                                  with_reducible rfl
                                                rotate_left
                                                · simp only [Act.put, List.setIfInBounds_toArray, List.set_cons_zero, List.set_cons_succ, i64_w, i32_w]
                                                  rfl
                                                refine done_ (done_of HT_.out (by kernel_rfl)) ?_
                                                try go_wp2
                                                have n0_ := Aside0.mk (Kd.R_drew HO_6.out)
                                                have n1_ := Aside0.mk (Kd.R_drew HO_7.out)
                                                have n2_ := Aside0.mk (blk_drew BK185.out)
                                                have n3_ := Aside0.mk (below_drew1 HB.out)
                                                clear HO_6
                                                clear HO_7
                                                clear BK185
                                                clear HB
                                                have HO_6 := n0_
                                                have HO_7 := n1_
                                                have BK185 := n2_
                                                have HB := n3_
                                                clear n0_ n1_ n2_ n3_
                                                have p194 : 0 ≤ ((ji24) : Int) := of_decide_eq_true (by first | (with_reducible assumption) | assumption)
                                                have q194 : (ji24) < (x7_1.length : Int) := of_decide_eq_true (by first | (with_reducible assumption) | assumption)
                                                obtain ⟨ad194, e194, hx194_0⟩ := Kd.at_int (Kd.R_reads' HO_7.out).2.2 (ji24) p194 q194
                                                obtain rfl : ad192 = ad194 := (by injection e194)
                                                replace p194 := eq_true p194
                                                replace q194 := eq_true q194
                                                have p195 : 0 ≤ ((ji24) : Int) := of_decide_eq_true (by first | (with_reducible assumption) | assumption)
                                                have q195 : (ji24) < (x7_1.length : Int) := of_decide_eq_true (by first | (with_reducible assumption) | assumption)
                                                obtain ⟨ad195, e195, hx195_0⟩ := Kd.at_int (Kd.R_reads' HO_7.out).2.2 (ji24) p195 q195
                                                obtain rfl : ad192 = ad195 := (by injection e195)
                                                replace p195 := eq_true p195
                                                replace q195 := eq_true q195
                                                have p34 : 0 ≤ (x18_1 : Int) := of_decide_eq_true (by first | (with_reducible assumption) | assumption)
                                                have q34 : (x18_1 : Int) < ((y186.length : Int) : Int) := of_decide_eq_true (by first | (with_reducible assumption) | assumption)
                                                obtain ⟨go34, co34, eo34, gb34, gl34, cl34, HG34⟩ := Kd.R_form HO_6.out (by omega)
                                                (first | cases eo34 | (injection eo34 with ea_ en_ ec_; (first | subst ea_ | (injection ea_ with ea_; subst ea_)); subst ec_; clear en_))
                                                have GB34 := Aside0.mk gb34
                                                have GG34 := Aside0.mk HG34
                                                clear gb34 gl34 HG34
                                                obtain ⟨hx34_0, hf34_0⟩ := Kd.R_celln 0 HO_6.out (x18_1 : Int) p34 q34
                                                replace p34 := eq_true p34
                                                replace q34 := eq_true q34
                                                have HP41 := Kd.R_putn HO_6.out (x18_1 : Int) (rd x7_1 (ji24))
                                                rw [← Ny196.out] at HP41
                                                have HQ41 := Aside0.mk HP41
                                                clear HP41
                                                have p36 : 0 ≤ ((rd x7_1 (ji24)) : Int) := of_decide_eq_true (by first | (with_reducible assumption) | assumption)
                                                have q36 : ((rd x7_1 (ji24)) : Int) < ((y186.length : Int) : Int) := of_decide_eq_true (by first | (with_reducible assumption) | assumption)
                                                obtain ⟨hx36_0, hf36_0⟩ := Kd.R_celln 0 HQ41.out ((rd x7_1 (ji24)) : Int) p36 q36
                                                replace p36 := eq_true p36
                                                replace q36 := eq_true q36
                                                have HP42 := Kd.R_putn HQ41.out ((rd x7_1 (ji24)) : Int) x18_1
                                                rw [← Ny197.out] at HP42
                                                have HQ42 := Aside0.mk HP42
                                                clear HP42
                                                refine start_ (n := 16) (S := fun w' => w'.cell? (ad192.add ((ji24)).toNat) = some (.int .i64 (rd x7_1 (ji24))) ∧ w'.cell? (ad192.add ((ji24)).toNat) = some (.int .i64 (rd x7_1 (ji24)))) (ds := [13, 15]) #[false, false, false, false, false, false, false, false, false, false, false, false, false, false, false, false] (by kernel_rfl) rfl rfl ⟨hx194_0, hx195_0⟩ (fun hHeld => ?_); refine with_tabW lex_Pairs.tab18 lex_Pairs.bits18 (fun HT_ HW_ => ?_)
                                                generalize w39.drew = w40 at HO_6 HO_7 BK185 HB GG34 HQ41 HQ42 hf34_0 hf36_0 hx194_0 hx195_0 hx34_0 hx36_0 hHeld ⊢
                                                refine pure_ (i := 0) (N := some 59) (v := ?_) (a' := ?_) #[true, false, false, false, false, false, false, false, false, false, false, false, false, false, false, false] rfl rfl (any_of HT_.out (by kernel_rfl)) (fun _ _ _ h => h) (Or.inl ⟨by rfl, ?_⟩) ?_ ?_
                                                rotate_left
                                                · intro w'
                                                  go_simp
                                                  with_reducible rfl
                                                rotate_left
                                                · simp only [Act.put, List.setIfInBounds_toArray, List.set_cons_zero, List.set_cons_succ, i64_w, i32_w]
                                                  rfl
                                                refine pure_ (i := 1) (N := some 60) (v := ?_) (a' := ?_) #[true, true, false, false, false, false, false, false, false, false, false, false, false, false, false, false] rfl rfl (any_of HT_.out (by kernel_rfl)) (fun _ _ _ h => h) (Or.inl ⟨by rfl, ?_⟩) ?_ ?_
                                                rotate_left
                                                · intro w'
                                                  go_simp
                                                  with_reducible rfl
                                                rotate_left
                                                · simp only [Act.put, List.setIfInBounds_toArray, List.set_cons_zero, List.set_cons_succ, i64_w, i32_w]
                                                  rfl
                                                refine pure_ (i := 2) (N := some 61) (v := ?_) (a' := ?_) #[true, true, true, false, false, false, false, false, false, false, false, false, false, false, false, false] rfl rfl (any_of HT_.out (by kernel_rfl)) (fun _ _ _ h => h) (Or.inl ⟨by rfl, ?_⟩) ?_ ?_
                                                rotate_left
                                                · intro w'
                                                  go_simp
                                                  with_reducible rfl
                                                rotate_left
                                                · simp only [Act.put, List.setIfInBounds_toArray, List.set_cons_zero, List.set_cons_succ, i64_w, i32_w]
                                                  rfl
                                                refine pure_ (i := 3) (N := some 62) (v := ?_) (a' := ?_) #[true, true, true, true, false, false, false, false, false, false, false, false, false, false, false, false] rfl rfl (any_of HT_.out (by kernel_rfl)) (fun _ _ _ h => h) (Or.inl ⟨by rfl, ?_⟩) ?_ ?_
                                                rotate_left
                                                · intro w'
                                                  go_simp
                                                  with_reducible rfl
                                                rotate_left
                                                · simp only [Act.put, List.setIfInBounds_toArray, List.set_cons_zero, List.set_cons_succ, i64_w, i32_w]
                                                  rfl
                                                refine pure_ (i := 4) (N := some 63) (v := ?_) (a' := ?_) #[true, true, true, true, true, false, false, false, false, false, false, false, false, false, false, false] rfl rfl (any_of HT_.out (by kernel_rfl)) (fun _ _ _ h => h) (Or.inl ⟨by rfl, ?_⟩) ?_ ?_
                                                rotate_left
                                                · intro w'
                                                  go_simp
                                                  with_reducible rfl
                                                rotate_left
                                                · simp only [Act.put, List.setIfInBounds_toArray, List.set_cons_zero, List.set_cons_succ, i64_w, i32_w]
                                                  rfl
                                                refine pure_ (i := 5) (N := some 64) (v := ?_) (a' := ?_) #[true, true, true, true, true, true, false, false, false, false, false, false, false, false, false, false] rfl rfl (any_of HT_.out (by kernel_rfl)) (fun _ _ _ h => h) (Or.inl ⟨by rfl, ?_⟩) ?_ ?_
                                                rotate_left
                                                · intro w'
                                                  go_simp
                                                  with_reducible rfl
                                                rotate_left
                                                · simp only [Act.put, List.setIfInBounds_toArray, List.set_cons_zero, List.set_cons_succ, i64_w, i32_w]
                                                  rfl
                                                refine pure_ (i := 7) (N := some 66) (v := ?_) (a' := ?_) #[true, true, true, true, true, true, false, true, false, false, false, false, false, false, false, false] rfl rfl (any_of HT_.out (by kernel_rfl)) (fun _ _ _ h => h) (Or.inl ⟨by rfl, ?_⟩) ?_ ?_
                                                rotate_left
                                                · intro w'
                                                  go_simp
                                                  with_reducible rfl
                                                rotate_left
                                                · simp only [Act.put, List.setIfInBounds_toArray, List.set_cons_zero, List.set_cons_succ, i64_w, i32_w]
                                                  rfl
                                                refine pure_ (i := 8) (N := some 67) (v := ?_) (a' := ?_) #[true, true, true, true, true, true, false, true, true, false, false, false, false, false, false, false] rfl rfl (any_of HT_.out (by kernel_rfl)) (fun _ _ _ h => h) (Or.inl ⟨by rfl, ?_⟩) ?_ ?_
                                                rotate_left
                                                · intro w'
                                                  go_simp
                                                  with_reducible rfl
                                                rotate_left
                                                · simp only [Act.put, List.setIfInBounds_toArray, List.set_cons_zero, List.set_cons_succ, i64_w, i32_w]
                                                  rfl
                                                refine pure_ (i := 9) (N := some 68) (v := ?_) (a' := ?_) #[true, true, true, true, true, true, false, true, true, true, false, false, false, false, false, false] rfl rfl (any_of HT_.out (by kernel_rfl)) (fun _ _ _ h => h) (Or.inl ⟨by rfl, ?_⟩) ?_ ?_
                                                rotate_left
                                                · intro w'
                                                  go_simp
                                                  with_reducible rfl
                                                rotate_left
                                                · simp only [Act.put, List.setIfInBounds_toArray, List.set_cons_zero, List.set_cons_succ, i64_w, i32_w]
                                                  rfl
                                                refine pure_ (i := 11) (N := some 70) (v := ?_) (a' := ?_) #[true, true, true, true, true, true, false, true, true, true, false, true, false, false, false, false] rfl rfl (any_of HT_.out (by kernel_rfl)) (fun _ _ _ h => h) (Or.inl ⟨by rfl, ?_⟩) ?_ ?_
                                                rotate_left
                                                · intro w'
                                                  go_simp
                                                  with_reducible rfl
                                                rotate_left
                                                · simp only [Act.put, List.setIfInBounds_toArray, List.set_cons_zero, List.set_cons_succ, i64_w, i32_w]
                                                  rfl
                                                refine take_ (i := 6) (N := some 65) (v := ?_) (a' := ?_) #[true, true, true, true, true, true, true, true, true, true, false, true, false, false, false, false] rfl rfl (take_ofW HT_.out HW_.out (by kernel_rfl)) (fun _ _ _ h => h) (Or.inl ⟨by rfl, ?_⟩) hHeld ?_ ?_
                                                rotate_left
                                                · rintro w' ⟨s0, s1⟩
                                                  go_simp
                                                  with_reducible rfl
                                                rotate_left
                                                · simp only [Act.put, List.setIfInBounds_toArray, List.set_cons_zero, List.set_cons_succ, i64_w, i32_w]
                                                  rfl
                                                refine take_ (i := 10) (N := some 69) (v := ?_) (a' := ?_) #[true, true, true, true, true, true, true, true, true, true, true, true, false, false, false, false] rfl rfl (take_ofW HT_.out HW_.out (by kernel_rfl)) (fun _ _ _ h => h) (Or.inl ⟨by rfl, ?_⟩) hHeld ?_ ?_
                                                rotate_left
                                                · rintro w' ⟨s0, s1⟩
                                                  go_simp
                                                  with_reducible rfl
                                                rotate_left
                                                · simp only [Act.put, List.setIfInBounds_toArray, List.set_cons_zero, List.set_cons_succ, i64_w, i32_w]
                                                  rfl
                                                refine pure_ (i := 12) (N := some 71) (v := ?_) (a' := ?_) #[true, true, true, true, true, true, true, true, true, true, true, true, true, false, false, false] rfl rfl (any_of HT_.out (by kernel_rfl)) (fun _ _ _ h => h) (Or.inl ⟨by rfl, ?_⟩) ?_ ?_
                                                rotate_left
                                                · intro w'
                                                  go_simp
                                                  with_reducible rfl
                                                rotate_left
                                                · simp only [Act.put, List.setIfInBounds_toArray, List.set_cons_zero, List.set_cons_succ, i64_w, i32_w]
                                                  rfl
                                                refine last_ (i := 13) (N := none) #[true, true, true, true, true, true, true, true, true, true, true, true, true, true, false, false] rfl rfl (one_of HT_.out (by kernel_rfl)) (by decide) (fun K hK => ?_)
                                                refine skip_ (w1 := ?_) (by rfl) rfl ?_ ?_
                                                rotate_left
                                                · go_simp
                                                  rfl
                                                refine hK.out _ _ ?_
                                                clear hK K
                                                refine pure_ (i := 14) (N := some 72) (v := ?_) (a' := ?_) #[true, true, true, true, true, true, true, true, true, true, true, true, true, true, true, false] rfl rfl (any_of HT_.out (by kernel_rfl)) (fun _ _ _ h => h) (Or.inl ⟨by rfl, ?_⟩) ?_ ?_
                                                rotate_left
                                                · intro w'
                                                  go_simp
                                                  with_reducible rfl
                                                rotate_left
                                                · simp only [Act.put, List.setIfInBounds_toArray, List.set_cons_zero, List.set_cons_succ, i64_w, i32_w]
                                                  rfl
                                                refine last_ (i := 15) (N := none) #[true, true, true, true, true, true, true, true, true, true, true, true, true, true, true, true] rfl rfl (one_of HT_.out (by kernel_rfl)) (by decide) (fun K hK => ?_)
                                                refine skip_ (w1 := ?_) (by rfl) rfl ?_ ?_
                                                rotate_left
                                                · go_simp
                                                  rfl
                                                refine hK.out _ _ ?_
                                                clear hK K
                                                refine done_ (done_of HT_.out (by kernel_rfl)) ?_
                                                have n0_ : Aside0 (Kd.R (Kd.int .i64) 3 ((w40.setCell ⟨go34, (x18_1 : Int).toNat, none⟩ (.int .i64 (rd x7_1 (ji24)))).setCell ⟨go34, ((rd x7_1 (ji24)) : Int).toNat, none⟩ (.int .i64 x18_1)) w.heap.size (fun k_ => some k_ ≠ (.slice (some ad192) x7_1.length co38 : Value).ownBlock) (.slice (some ⟨go34, 0, none⟩) y186.length co34) y197) := ⟨by (with_reducible repeat (first | apply Kd.R_alloc | apply Kd.R_drewN | apply Kd.R_drew)); exact HQ42.out⟩
                                                have n1_ : Aside0 (Kd.R (Kd.int .i64) 3 ((w40.setCell ⟨go34, (x18_1 : Int).toNat, none⟩ (.int .i64 (rd x7_1 (ji24)))).setCell ⟨go34, ((rd x7_1 (ji24)) : Int).toNat, none⟩ (.int .i64 x18_1)) w.heap.size (fun k_ => some k_ ≠ (.slice (some ⟨go34, 0, none⟩) y186.length co34 : Value).ownBlock) (.slice (some ad192) x7_1.length co38) x7_1) := ⟨by (with_reducible repeat (first | apply Kd.R_alloc | apply Kd.R_drewN | apply Kd.R_drew)); exact Kd.R_mono (Kd.R_far (p := ⟨go34, ((rd x7_1 (ji24)) : Int).toNat, none⟩) (Kd.R_far (p := ⟨go34, (x18_1 : Int).toNat, none⟩) (Kd.R_mono HO_7.out (fun k_ hk => (⟨hk, fun e_ => hk (by rw [e_]; rfl)⟩ : _ ∧ k_ ≠ go34))) (fun _ hk => hk.2) (.int .i64 (rd x7_1 (ji24)))) (fun _ hk => hk.2) (.int .i64 x18_1)) (fun _ hk => hk.1)⟩
                                                have n2_ : Aside0 (((w40.setCell ⟨go34, (x18_1 : Int).toNat, none⟩ (.int .i64 (rd x7_1 (ji24)))).setCell ⟨go34, ((rd x7_1 (ji24)) : Int).toNat, none⟩ (.int .i64 x18_1)).heap[gb185]? = some (.cells #[.int .u8 ((rd_T58 l0 x18_1).f0), .string ((rd_T58 l0 x18_1).f1), .int .i64 ((rd_T58 l0 x18_1).f2)] 58 (0, 0))) := ⟨by (with_reducible repeat (first | refine blk_drewN ?_ _ | refine blk_drew ?_ | refine blk_alloc ?_ _)); refine blk_far ?_ (by have h_ := Kd.R_ne HO_6.out BK185.out (by decide); intro e_; exact h_ (by rw [e_]; rfl)) _; (with_reducible repeat (first | refine blk_drewN ?_ _ | refine blk_drew ?_ | refine blk_alloc ?_ _)); refine blk_far ?_ (by have h_ := Kd.R_ne HO_6.out BK185.out (by decide); intro e_; exact h_ (by rw [e_]; rfl)) _; (with_reducible repeat (first | refine blk_drewN ?_ _ | refine blk_drew ?_ | refine blk_alloc ?_ _)); exact BK185.out⟩
                                                have n3_ : Aside0 (Below w.heap.size w ((w40.setCell ⟨go34, (x18_1 : Int).toNat, none⟩ (.int .i64 (rd x7_1 (ji24)))).setCell ⟨go34, ((rd x7_1 (ji24)) : Int).toNat, none⟩ (.int .i64 x18_1))) := ⟨by repeat (first | (with_reducible first | exact HB.out | apply below_alloc | apply pw_below_drewN | apply below_drew1 | refine below_set ?_ GB34.out | refine below_set ?_ GB34.out | refine below_set ?_ GE185.out) | exact HB.out)⟩
                                                (try clear HO_6)
                                                (try clear HO_7)
                                                (try clear BK185)
                                                (try clear HB)
                                                generalize ((w40.setCell ⟨go34, (x18_1 : Int).toNat, none⟩ (.int .i64 (rd x7_1 (ji24)))).setCell ⟨go34, ((rd x7_1 (ji24)) : Int).toNat, none⟩ (.int .i64 x18_1)) = w43 at n0_ n1_ n2_ n3_ ⊢
                                                have HO_6 := n0_
                                                have HO_7 := n1_
                                                have BK185 := n2_
                                                have HB := n3_
                                                clear n0_ n1_ n2_ n3_
                                                have q44 : ((ji24) : Int) ≤ ((x7_1.length : Int) : Int) := of_decide_eq_true (by first | (with_reducible assumption) | assumption)
                                                obtain ⟨i044, hi044, _, hsz44, _⟩ := info_parts info3
                                                have hcut44 := cut_to (P := Tryd.prog) 47 3 .i64 Tryd.underlying47 hi044 (some ad192) x7_1.length co38 (ji24) (of_decide_eq_true (by first | (with_reducible assumption) | assumption)) q44 (Kd.R_reads' HO_7.out).2.1
                                                have hr44 := Kd.R_take (m := ((ji24) : Int).toNat) HO_7.out (by omega)
                                                have hy44 : y198.length = ((ji24) : Int).toNat := (by rw [Ny198.out, List.length_take]; omega)
                                                rw [← Ny198.out] at hr44
                                                rw [← hy44] at hr44 hcut44
                                                clear hy44 hi044 hsz44 HO_7
                                                have HO200 := Aside0.mk hr44
                                                clear hr44
                                                replace q44 := eq_true q44
                                                try go_wp2
                                                go_roundg kj17
                                                case measure => have := HK1.out; have := HJ8.out; have := HJ17.out; omega
                                                case rel => exact ⟨(y197), (y198), (wrap64 (x18_1 + 1)), (by first | rfl | (simp; done) | (simp [*]; done)), H', ⟨by have := HK1.out; have := HJ8.out; have := HJ17.out; omega⟩, ⟨by (with_reducible repeat (first | apply Kd.R_alloc | apply Kd.R_drewN | apply Kd.R_drew)); exact HO_6.out⟩, ⟨by (with_reducible repeat (first | apply Kd.R_alloc | apply Kd.R_drewN | apply Kd.R_drew)); exact HO200.out⟩, ⟨by repeat (first | (with_reducible first | exact HB.out | apply below_alloc | apply pw_below_drewN | apply below_drew1 | refine below_set ?_ GE185.out) | exact HB.out)⟩⟩
                                              · rw [if_neg c37] at H
                                                exact absurd H (by simp)
                                            · rw [if_neg c35] at H
                                              exact absurd H (by simp)
                                          · rw [if_neg c33] at H
                                            exact absurd H (by simp)
                                        · rw [if_neg c32] at H
                                          exact absurd H (by simp)
                                    · rw [if_neg c28] at H
                                      exact absurd H (by simp)
                                  · rw [if_neg c27] at H
                                    exact absurd H (by simp)
                                · rw [if_neg c26] at H
                                  exact absurd H (by simp)
                              · rw [if_neg c25] at H
                                exact absurd H (by simp)
                          · replace c20 := Bool.eq_false_iff.mpr c20
                            subst c20
                            have H1 : (lex_Pairs.l0 kj17 l0 y186 x7_1 l0 (l0.length : Int) (wrap64 (x18_1 + 1))) = some (r1, r2, r3) := by rw [if_neg (show ¬ (false = true) by decide)] at H; exact H
                            clear H
                            have H := H1
                            clear H1
                            have H' := Aside0.mk H
                            clear H
                            go_wp2
                            go_roundg kj17
                            case measure => have := HK1.out; have := HJ8.out; have := HJ17.out; omega
                            case rel => exact ⟨(y186), (x7_1), (wrap64 (x18_1 + 1)), (by first | rfl | (simp; done) | (simp [*]; done)), H', ⟨by have := HK1.out; have := HJ8.out; have := HJ17.out; omega⟩, ⟨by (with_reducible repeat (first | apply Kd.R_alloc | apply Kd.R_drewN | apply Kd.R_drew)); exact HO_6.out⟩, ⟨by (with_reducible repeat (first | apply Kd.R_alloc | apply Kd.R_drewN | apply Kd.R_drew)); exact HO_7.out⟩, ⟨by repeat (first | (with_reducible first | exact HB.out | apply below_alloc | apply pw_below_drewN | apply below_drew1 | refine below_set ?_ GE185.out) | exact HB.out)⟩⟩
              · rw [if_neg c8] at H
                exact absurd H (by simp)
            · rw [if_neg c7] at H
              exact absurd H (by simp)
          · rw [if_neg c6] at H
            exact absurd H (by simp)
        · rw [if_neg c5] at H
          have c5b0 : decide (x18_1 < (l0.length : Int)) = false := decide_eq_false c5
          clear c5
          by_cases c45 : (x7_1.length : Int) > 0
          · rw [if_pos c45] at H
            have c45b0 : decide (0 < (x7_1.length : Int)) = true := decide_eq_true c45
            have c45b1 : decide (0 < x7_1.length) = true := decide_eq_true (by omega)
            clear c45
            by_cases c46 : 0 < (x7_1.length : Int)
            · rw [if_pos c46] at H
              have c46b0 : decide (0 < (x7_1.length : Int)) = true := decide_eq_true c46
              have c46b1 : decide (0 < x7_1.length) = true := decide_eq_true (by omega)
              clear c46
              simp only [Option.some.injEq, Prod.mk.injEq] at H
              obtain ⟨rfl, rfl, rfl⟩ := H
              obtain ⟨Ao47, co47, eo47⟩ := Kd.R_slice HO_7.out
              subst eo47
              try go_wp2
              have n0_ := Aside0.mk (Kd.R_drew HO_6.out)
              have n1_ := Aside0.mk (Kd.R_drew HO_7.out)
              have n2_ := Aside0.mk (below_drew1 HB.out)
              clear HO_6
              clear HO_7
              clear HB
              have HO_6 := n0_
              have HO_7 := n1_
              have HB := n2_
              clear n0_ n1_ n2_
              have p183 : 0 ≤ (0 : Int) := (by omega)
              have q183 : 0 < (x7_1.length : Int) := of_decide_eq_true (by first | (with_reducible assumption) | assumption)
              obtain ⟨ad183, e183, hx183_0⟩ := Kd.at_int (Kd.R_reads' HO_7.out).2.2 0 p183 q183
              cases e183
              have qi183 : (0 < x7_1.length) = True := eq_true (by omega)
              (try rw [show ((0 : Int)).toNat = 0 from rfl] at hx183_0)
              (try rw [Addr.add_zero'] at hx183_0)
              replace p183 := eq_true p183
              replace q183 := eq_true q183
              refine start_ (n := 6) (S := fun w' => w'.cell? ad183 = some (.int .i64 (rd x7_1 0))) (ds := []) #[false, false, false, false, false, false] (by kernel_rfl) rfl rfl (hx183_0) (fun hHeld => ?_)
              generalize wr.drew = w48 at HO_6 HO_7 HB hx183_0 hHeld ⊢
              refine pure_ (i := 0) (N := some 80) (v := ?_) (a' := ?_) #[true, false, false, false, false, false] rfl rfl (by kernel_rfl) (fun _ _ _ h => h) (Or.inl ⟨by rfl, ?_⟩) ?_ ?_
              rotate_left
              · intro w'
                go_simp
                with_reducible rfl
              rotate_left
              · simp only [Act.put, List.setIfInBounds_toArray, List.set_cons_zero, List.set_cons_succ, i64_w, i32_w]
                rfl
              refine pure_ (i := 1) (N := some 81) (v := ?_) (a' := ?_) #[true, true, false, false, false, false] rfl rfl (by kernel_rfl) (fun _ _ _ h => h) (Or.inl ⟨by rfl, ?_⟩) ?_ ?_
              rotate_left
              · intro w'
                go_simp
                with_reducible rfl
              rotate_left
              · simp only [Act.put, List.setIfInBounds_toArray, List.set_cons_zero, List.set_cons_succ, i64_w, i32_w]
                rfl
              refine pure_ (i := 3) (N := some 2) (v := ?_) (a' := ?_) #[true, true, false, true, false, false] rfl rfl (by kernel_rfl) (fun _ _ _ h => h) (Or.inl ⟨by rfl, ?_⟩) ?_ ?_
              rotate_left
              · intro w'
                go_simp
                with_reducible rfl
              rotate_left
              · simp only [Act.put, List.setIfInBounds_toArray, List.set_cons_zero, List.set_cons_succ, i64_w, i32_w]
                rfl
              refine take_ (i := 2) (N := some 82) (v := ?_) (a' := ?_) #[true, true, true, true, false, false] rfl rfl (by kernel_rfl) (fun _ _ _ h => h) (Or.inl ⟨by rfl, ?_⟩) hHeld ?_ ?_
              rotate_left
              · intro w' s0
                go_simp
                with_reducible rfl
              rotate_left
              · simp only [Act.put, List.setIfInBounds_toArray, List.set_cons_zero, List.set_cons_succ, i64_w, i32_w]
                rfl
              refine pure_ (i := 4) (N := some 3) (v := ?_) (a' := ?_) #[true, true, true, true, true, false] rfl rfl (by kernel_rfl) (fun _ _ _ h => h) (Or.inl ⟨by rfl, ?_⟩) ?_ ?_
              rotate_left
              · intro w'
                go_simp
                with_reducible rfl
              rotate_left
              · simp only [Act.put, List.setIfInBounds_toArray, List.set_cons_zero, List.set_cons_succ, i64_w, i32_w]
                rfl
              refine pure_ (i := 5) (N := some 4) (v := ?_) (a' := ?_) #[true, true, true, true, true, true] rfl rfl (by kernel_rfl) (fun _ _ _ h => h) (Or.inl ⟨by rfl, ?_⟩) ?_ ?_
              rotate_left
              · intro w'
                go_simp
                with_reducible rfl
              rotate_left
              · simp only [Act.put, List.setIfInBounds_toArray, List.set_cons_zero, List.set_cons_succ, i64_w, i32_w]
                rfl
              refine done_ (by kernel_rfl) ?_
              try go_wp2
              go_ret3
              exact ⟨_, by first | rfl | (simp [errW_none, errW_some] <;> rfl) | (simp [*, errW_none, errW_some] <;> rfl), by first | exact Kd.R_nil _ _ _ _ _ | exact Kd.N_nil _ _ _ _ _ | exact Kd.V_nil _ _ _ _ _ | exact Kd.Q_nil _ _ _ _ _ | exact Kd.S_nil _ _ _ _ _, by repeat (first | (with_reducible first | exact HB.out | apply below_alloc | apply pw_below_drewN | apply below_drew1) | exact HB.out)⟩
            · rw [if_neg c46] at H
              exact absurd H (by simp)
          · rw [if_neg c45] at H
            have c45b0 : decide (0 < (x7_1.length : Int)) = false := decide_eq_false c45
            have c45b1 : decide (0 < x7_1.length) = false := decide_eq_false (by omega)
            clear c45
            simp only [Option.some.injEq, Prod.mk.injEq] at H
            obtain ⟨rfl, rfl, rfl⟩ := H
            obtain ⟨Ao49, co49, eo49⟩ := Kd.R_slice HO_7.out
            subst eo49
            go_wp2
            go_ret3
            exact ⟨_, by first | rfl | (simp [errW_none, errW_some] <;> rfl) | (simp [*, errW_none, errW_some] <;> rfl), by (with_reducible repeat (first | apply Kd.R_alloc | apply Kd.R_drewN | apply Kd.R_drew)); exact Kd.R_mono HO_6.out (fun _ hk => trivial), by repeat (first | (with_reducible first | exact HB.out | apply below_alloc | apply pw_below_drewN | apply below_drew1) | exact HB.out)⟩
  · rw [if_neg c3] at H
    have c3b0 : (t182 == 0) = false := beq_eq_false_iff_ne.mpr c3
    have c3b1 : (t182 != 0) = true := bne_iff_ne.mpr c3
    simp only [Option.some.injEq, Prod.mk.injEq] at H
    obtain ⟨rfl, rfl, rfl⟩ := H
    go_enter Tryd.func32, Tryd.ntmps32
    go_wp2_with (first | ((with_reducible refine gate_callee (f := 59) rfl ?_); refine goesL_ (some 12) rfl rfl Tryd.func59 (by kernel_rfl) rfl #[.slice A0 l0.length c0] rfl (by (try simp only [List.map_toArray, List.map_cons, List.map_nil]); first | done | rfl | (simp only [List.length_drop, List.length_take]; rfl)) ?_; (with_reducible refine (lexTokensC w hgT l0 hsT k _ _ t182 ?side1 ?side2 A2.out).mono ?_); (case side1 => repeat (first | exact HR0.out | (with_reducible refine Kd.C_alloc ?_ _) | (with_reducible refine Kd.C_drewN ?_ _) | (with_reducible refine Kd.C_drew ?_))); (case side2 => exact HC0.out); rintro e w50 ⟨rfl, hb⟩; refine ⟨_, rfl, ?_⟩; have n0_ := Aside0.mk (below_step (by repeat (first | (with_reducible first | exact HB.out | apply below_alloc | apply pw_below_drewN | apply below_drew1) | exact HB.out)) hb); clear HB; have HB := n0_; clear n0_; (try clear hb); (try clear hb2); (try clear hk); (try clear hi)))
    go_ret3
    exact ⟨_, by first | rfl | (simp [errW_none, errW_some] <;> rfl) | (simp [*, errW_none, errW_some] <;> rfl), by first | exact Kd.R_nil _ _ _ _ _ | exact Kd.N_nil _ _ _ _ _ | exact Kd.V_nil _ _ _ _ _ | exact Kd.Q_nil _ _ _ _ _ | exact Kd.S_nil _ _ _ _ _, by repeat (first | (with_reducible first | exact HB.out | apply below_alloc | apply pw_below_drewN | apply below_drew1) | exact HB.out)⟩

end Go.Proofs.YtebidpcmcekbgaaDoor.P
namespace Go.Proofs.YtebidpcmcekbgaaDoor.P
open Go.RowKit Go.Proofs.YtebidpcmcekbgaaDoorW.PrintWords
set_option linter.unusedVariables false
set_option linter.unusedSimpArgs false
theorem beqL (t : ByteArray) (z : List UInt8) : (t.toList == z) = decide (t = ba z) := by
  by_cases c : t = ba z
  · rw [decide_eq_true c, beq_iff_eq]; exact (toL _ _).2 c
  · rw [decide_eq_false c]; exact beq_false_of_ne fun e => c ((toL _ _).1 e)
set_option maxHeartbeats 1000000 in
theorem pPairs0 (l : List Tk) (hl : l.length ≤ 1000) : ∀ (d i k : Nat) (out op : List Int), l.length - i = d → i ≤ l.length → 3 * d + 5 < k → out.length = i → op.length ≤ i → (∀ j ∈ op, ∃ n : Nat, j = (n : Int) ∧ n < i) →
    lex_Pairs.l0 k l out op l (l.length : Int) (i : Int) = some (prM l d i out op) := by
  intro d
  induction d with
  | zero =>
    intro i k out op hd hi hk ho hop hj
    obtain ⟨k, rfl, _⟩ := succ_of hk
    rw [lex_Pairs.l0.eq_2, if_neg (by omega), prM]
    by_cases c : op = []
    · rw [if_pos c, c, if_neg (by decide)]
    · have hp : 0 < op.length := List.length_pos_iff.2 c
      rw [if_neg c, if_pos (by omega), if_pos (by omega)]
  | succ d ih =>
    intro i k out op hd hi hk ho hop hj
    obtain ⟨k, rfl, hk'⟩ := succ_of hk
    obtain ⟨k, rfl, hk2⟩ := succ_of (show 0 < k by omega)
    obtain ⟨k, rfl, hk3⟩ := succ_of (show 0 < k by omega)
    have hlt : i < l.length := by omega
    have e2 := up1 i l.length hlt (by omega)
    have q0 : (0 : Int) ≤ (i : Int) := by omega
    have q1 : (i : Int) < (l.length : Int) := by omega
    have q2 : out.length < 17592186044416 := by omega
    have q3 : op.length < 17592186044416 := by omega
    have hol : (out ++ [(-1 : Int)]).length = i + 1 := by rw [List.length_append, List.length_singleton, ho]
    have keep : ∀ (op' : List Int), (∀ j ∈ op', ∃ n : Nat, j = (n : Int) ∧ n < i) → ∀ j ∈ op', ∃ n : Nat, j = (n : Int) ∧ n < i + 1 := fun op' h j hj => by
      obtain ⟨n, a, b⟩ := h j hj; exact ⟨n, a, by omega⟩
    have hb2 : ∀ (x : Tk) (b : Bool), rd_T58 l (i : Int) = x → b = clB x → lex_Pairs.j2 (k + 1) l (out ++ [-1]) op (i : Int) l (l.length : Int) (i : Int) b x.f0 x.f1 x.f2 = some (if clB x = true then
      (if op = [] then ([], (i : Int), 4)
       else if misB (rd_T58 l (rd op ((op.length - 1 : Nat) : Int))) x = true then ([], (i : Int), 4)
       else prM l d (i + 1) (((out ++ [-1]).set i (rd op ((op.length - 1 : Nat) : Int))).set (rd op ((op.length - 1 : Nat) : Int)).toNat (i : Int)) (op.take (op.length - 1)))
    else prM l d (i + 1) (out ++ [-1]) op) := by
      intro x b hx hb
      rw [lex_Pairs.j2.eq_2]
      cases hc : clB x with
      | false =>
        rw [hc] at hb
        rw [if_neg (by rw [hb]; exact Bool.false_ne_true), if_neg Bool.false_ne_true, e2]
        exact ih (i + 1) k _ _ (by omega) (by omega) (by omega) hol (by omega) (keep op hj)
      | true =>
        rw [hc] at hb
        rw [if_pos hb, if_pos rfl]
        by_cases c2 : op = []
        · have u0 : wrap64 ((op.length : Int) - 1) = -1 := by have h0 : op.length = 0 := (by rw [c2]; rfl); rw [w64 (by omega) (by omega), h0]; rfl
          rw [if_pos c2, u0, if_pos (by decide)]
        · have hp : 0 < op.length := List.length_pos_iff.2 c2
          obtain ⟨n, hn, hni⟩ := hj _ (rd_last op c2)
          have u1 : wrap64 ((op.length : Int) - 1) = ((op.length - 1 : Nat) : Int) := by rw [w64 (by omega) (by omega)]; omega
          rw [if_neg c2, u1, if_neg (by omega), if_pos (by omega), if_pos (by omega), hn, if_pos (by omega), if_pos (by omega), beqL, beqL]
          by_cases c3 : misB (rd_T58 l (n : Int)) x = true
          · have c3' : (decide ((rd_T58 l (n : Int)).f1 = ba [40]) != decide (x.f1 = ba [41])) = true := c3
            rw [if_pos c3', if_pos c3]
          · have c3' : ¬ (decide ((rd_T58 l (n : Int)).f1 = ba [40]) != decide (x.f1 = ba [41])) = true := c3
            rw [if_neg c3', if_neg c3, if_pos q0, if_pos (by rw [hol]; omega), if_pos (by rw [hol]; omega), if_pos (by omega), Int.toNat_natCast, Int.toNat_natCast, Int.toNat_natCast, e2]
            exact ih (i + 1) k _ _ (by omega) (by omega) (by omega) (by rw [List.length_set, List.length_set, hol]) (by rw [List.length_take]; omega) fun j hj2 => keep op hj j (List.mem_of_mem_take hj2)
    have hb1 : ∀ (x : Tk) (b : Bool), rd_T58 l (i : Int) = x → b = opB x → lex_Pairs.j1 (k + 1 + 1) l (out ++ [-1]) op (i : Int) l (l.length : Int) (i : Int) x.f1 b x.f0 x.f1 x.f2 = some (prM l (d + 1) i out op) := by
      intro x b hx hb
      rw [lex_Pairs.j1.eq_2, prM, hx]
      cases hc : opB x with
      | true =>
        rw [hc] at hb
        rw [if_pos hb, if_pos q3, if_pos rfl, e2]
        refine ih (i + 1) (k + 1) _ _ (by omega) (by omega) (by omega) hol (by rw [List.length_append, List.length_singleton]; omega) fun j hj2 => ?_
        rcases List.mem_append.1 hj2 with h | h
        · exact keep op hj j h
        · rw [List.mem_singleton.1 h]; exact ⟨i, rfl, by omega⟩
      | false =>
        rw [hc] at hb
        rw [if_neg (by rw [hb]; exact Bool.false_ne_true), if_neg Bool.false_ne_true]
        by_cases c : x.f1 = ba [41]
        · rw [if_pos ((toL _ _).2 c)]
          exact hb2 x _ hx (by rw [beqL]; unfold clB; rw [decide_eq_true c]; rfl)
        · rw [if_neg fun e => c ((toL _ _).1 e)]
          exact hb2 x _ hx (by rw [beqL]; unfold clB; rw [decide_eq_false c, Bool.false_or])
    rw [lex_Pairs.l0.eq_2, if_pos q1, if_pos q0, if_pos q1, if_pos q2]
    simp only [Option.bind_some]
    by_cases c : (rd_T58 l (i : Int)).f1 = ba [40]
    · rw [if_pos ((toL _ _).2 c)]
      exact hb1 _ _ rfl (by rw [beqL]; unfold opB; rw [decide_eq_true c]; rfl)
    · rw [if_neg fun e => c ((toL _ _).1 e)]
      exact hb1 _ _ rfl (by rw [beqL]; unfold opB; rw [decide_eq_false c, Bool.false_or])
theorem pPairs (l : List Tk) (hl : l.length ≤ 1000) (k : Nat) (hk : 4000 < k) : lex_Pairs.f k l = some (pairM l) := by
  unfold lex_Pairs.f lex_tokens.f pairM
  simp only [Option.bind_some]
  by_cases h0 : tkE l = 0
  · rw [if_pos h0, if_pos h0]
    exact pPairs0 l hl l.length 0 k [] [] (by omega) (by omega) (by omega) rfl (Nat.zero_le _) fun j hj => (by cases hj)
  · rw [if_neg h0, if_neg h0]
theorem prM_len (l : List Tk) : ∀ (d i : Nat) (out op : List Int), out.length = i → (prM l d i out op).1.length ≤ i + d := by
  intro d
  induction d with
  | zero =>
    intro i out op ho
    rw [prM]
    split
    · show out.length ≤ i + 0; omega
    · exact Nat.zero_le _
  | succ d ih =>
    intro i out op ho
    rw [prM]
    split
    · have := ih (i + 1) (out ++ [-1]) (op ++ [(i : Int)]) (by rw [List.length_append, List.length_singleton, ho]); omega
    · split
      · split
        · exact Nat.zero_le _
        · split
          · exact Nat.zero_le _
          · have := ih (i + 1) (((out ++ [-1]).set i (rd op ((op.length - 1 : Nat) : Int))).set (rd op ((op.length - 1 : Nat) : Int)).toNat (i : Int)) (op.take (op.length - 1)) (by rw [List.length_set, List.length_set, List.length_append, List.length_singleton, ho]); omega
      · have := ih (i + 1) (out ++ [-1]) op (by rw [List.length_append, List.length_singleton, ho]); omega
theorem pairM_len (l : List Tk) (hl : l.length ≤ 1000) : (pairM l).1.length ≤ 1000 := by
  unfold pairM
  split
  · have := prM_len l l.length 0 [] [] rfl; omega
  · exact Nat.zero_le _
end Go.Proofs.YtebidpcmcekbgaaDoor.P
namespace Go.Proofs.YtebidpcmcekbgaaDoor.P
open Go.RowKit Go.Shelf Go.Maps Go.Proofs.YtebidpcmcekbgaaDoorW.PrintWords Go.Proofs.YtebidpcmcekbgaaDoorW.PrintLast Go.Proofs.YtebidpcmcekbgaaDoorW.PrintMore
set_option linter.unusedVariables false
set_option linter.unusedSimpArgs false
def keyT (x : Tk) : Int × ByteArray := (x.f0, x.f1)
end Go.Proofs.YtebidpcmcekbgaaDoor.P
namespace Go.Proofs.YtebidpcmcekbgaaDoor.P
open Go.RowKit Go.Proofs.YtebidpcmcekbgaaDoorW.PrintWords
set_option linter.unusedVariables false
set_option linter.unusedSimpArgs false
theorem rg_no32 {x : Tk} (h : rgT x = true) (j : Nat) (hj : j < x.f1.size) : bt x.f1 (j : Int) ≠ 32 := by
  have h1 := rg_self h
  by_cases c : wlen x.f1 = 0
  · rcases tok_sign h1 c with e | e | ⟨e1, e2⟩
    · rw [e] at hj ⊢
      have : j = 0 ∨ j = 1 := by have : (ba [58, 61]).size = 2 := rfl
                                 omega
      rcases this with rfl | rfl <;> decide
    · rw [e] at hj ⊢
      have : j = 0 ∨ j = 1 := by have : (ba [45, 62]).size = 2 := rfl
                                 omega
      rcases this with rfl | rfl <;> decide
    · obtain rfl : j = 0 := by omega
      intro e
      rw [show ((0 : Nat) : Int) = 0 from rfl] at e
      rw [e] at e2
      exact absurd e2 (by decide)
  · intro e
    have := wlen_in x.f1 j (by rw [tok_wl h1 c]; exact hj)
    rw [e] at this
    exact absurd this (by decide)
theorem no32 {x : Tk} (h : rgT x = true) (j : Nat) : x.f1.data.toList[j]? ≠ some 32 := by
  intro e
  have hj : j < x.f1.size := by rw [size_len]; exact (List.getElem?_eq_some_iff.1 e).1
  have := rg_no32 h j hj
  rw [bt_list, e] at this
  exact this rfl
/-- A text without one of the shortest text's blanks has not these tokens. -/
theorem no_blank (u : ByteArray) : ∀ (l : List Tk) (p : Option Tk) (m i : Nat) (n : List Tk), (∀ x ∈ l, rgT x = true) → (∀ y, p = some y → rgT y = true ∧ nxB y.f0 y.f1 (bt u (m : Int)) = true) → m ≤ u.size → Scan u m n u.size → n.map keyT = l.map keyT → (tgB p l)[i]? = some 32 → Lr u m = (tgB p l).eraseIdx i → False
  | [], p, m, i, n, hr, hp, hm, hS, hk, hi, hL => by rw [tgB] at hi; cases hi
  | x :: r, p, m, i, n, hr, hp, hm, hS, hk, hi, hL => by
    have hx := hr x List.mem_cons_self
    have hr' := fun y hy => hr y (List.mem_cons_of_mem x hy)
    have hz := (rg_head hx).1
    have hg := gapT_le p x
    rw [tgB] at hi hL
    by_cases c : i < (gapT p x).length
    · -- the blank ahead of this token
      have h0 : i = 0 := by omega
      cases p with
      | none => exact absurd c (by unfold gapT; simp)
      | some y =>
        obtain ⟨hy, hn⟩ := hp y rfl
        have hap : apM y x = true := by
          cases hh : apM y x with
          | true => rfl
          | false => exact absurd c (by unfold gapT; simp [hh])
        have hgp : gapT (some y) x = [32] := by unfold gapT; simp [hap]
        rw [h0, hgp] at hL
        have hL2 : Lr u m = x.f1.data.toList ++ tgB (some x) r := hL
        have e : bt u (m : Int) = bt x.f1 0 := by
          rw [bt_head, hL2, List.getElem?_append_left (by rw [data_length]; exact hz), show (0 : Int) = ((0 : Nat) : Int) from rfl, bt_list]
        rw [e, nx_ap hy hx, hap] at hn
        cases hn
    · rw [List.getElem?_append_right (by omega)] at hi
      rw [List.eraseIdx_append_of_length_le (by omega)] at hL
      generalize hi' : i - (gapT p x).length = i' at *
      have c2 : ¬ i' < x.f1.size := fun h => by
        rw [List.getElem?_append_left (by rw [← size_len]; exact h)] at hi
        exact no32 hx i' hi
      rw [List.getElem?_append_right (by rw [← size_len]; omega), ← size_len] at hi
      rw [List.eraseIdx_append_of_length_le (by rw [← size_len]; omega), ← size_len] at hL
      obtain ⟨h1, h2⟩ := Lr_app hL
      have h3 := h2 hm
      obtain ⟨b1, b2, b3, b4⟩ := begT_Lr h3 h1
      obtain ⟨f1, f2⟩ := rg_first hx
      have hb : bt u ((m + (gapT p x).length : Nat) : Int) = bt x.f1 0 := by
        rw [bt_head, h1, List.getElem?_append_left (by rw [data_length]; exact hz), show (0 : Int) = ((0 : Nat) : Int) from rfl, bt_list]
      have hS2 : Scan u (m + (gapT p x).length) n u.size := by
        by_cases c3 : (gapT p x).length = 0
        · rw [c3, Nat.add_zero]; exact hS
        · have h32 : gapT p x = [32] := by
            unfold gapT at c3 ⊢
            cases p with
            | none => exact absurd rfl c3
            | some y =>
              simp only at c3 ⊢
              split at c3
              · rename_i h; rw [if_pos h]
              · exact absurd rfl c3
          rw [h32] at hL ⊢
          have e : bt u (m : Int) = 32 := by rw [bt_head, hL]; rfl
          rcases hS.inv (by rw [h32] at b2; simp only [List.length_singleton] at b2; omega) with ⟨-, g⟩ | ⟨g, -⟩ | ⟨_, _, _, -, g, -⟩
          · exact g
          · rw [e] at g; exact absurd g (by decide)
          · rw [e] at g; exact absurd g (by decide)
      rcases hS2.inv (by omega) with ⟨g, -⟩ | ⟨-, g, -⟩ | ⟨k', z', n', rfl, -, -, g, g2⟩
      · rw [hb, f1] at g; cases g
      · rw [hb] at g; exact f2 g
      · rw [List.map_cons, List.map_cons] at hk
        have hk1 : (k', z') = (x.f0, x.f1) := (List.cons.inj hk).1
        have hk2 := (List.cons.inj hk).2
        obtain rfl : k' = x.f0 := congrArg Prod.fst hk1
        obtain rfl : z' = x.f1 := congrArg Prod.snd hk1
        obtain ⟨-, -, f3, -, -⟩ := firstM_self kwM g
        rw [b4] at f3
        refine no_blank u r (some x) (m + (gapT p x).length + x.f1.size) (i' - x.f1.size) n' hr' (fun y hy => ?_) b2 g2 hk2 hi b3
        obtain rfl := Option.some.inj hy
        exact ⟨hx, f3⟩
theorem back (l : List Tk) (h : tkE l = 0) (i : Nat) (n : List Tk) (hi : bt (ba (tgB none l)) (i : Int) = 32) (hk : n.map keyT = l.map keyT)
    (hn : (toksM kwM ((ba (tgB none l)).extract 0 i ++ (ba (tgB none l)).extract (i + 1) (ba (tgB none l)).size)).1 = n) : (toksM kwM ((ba (tgB none l)).extract 0 i ++ (ba (tgB none l)).extract (i + 1) (ba (tgB none l)).size)).2.2 ≠ 0 := by
  intro h0
  obtain ⟨-, h2⟩ := (tkE_iff l).1 h
  obtain ⟨-, hS, -⟩ := (toks_iff _ n).1 ⟨hn, h0⟩
  have hi2 : (tgB none l)[i]? = some 32 := by
    rw [bt_list, ba_data] at hi
    cases hc : (tgB none l)[i]? with
    | none => rw [hc] at hi; exact absurd hi (by decide)
    | some c =>
      rw [hc] at hi
      have h3 : c.toNat = 32 := by simpa using Int.ofNat.inj hi
      rw [show c = 32 from UInt8.toNat_inj.1 h3]
  refine no_blank _ l none 0 i n h2 (fun y hy => by cases hy) (Nat.zero_le _) hS hk hi2 ?_
  unfold Lr
  rw [List.drop_zero, app_ba, ba_data, data_ex, data_ex, ba_data, List.drop_zero, List.take_of_length_le (show (tgB none l).length ≤ (ba (tgB none l)).size by rw [size_len, ba_data]; exact Nat.le_refl _), List.eraseIdx_eq_take_drop_succ]
end Go.Proofs.YtebidpcmcekbgaaDoor.P
namespace Go.Proofs.YtebidpcmcekbgaaDoor.P
open Go Go.RowKit Go.Shelf Go.Maps Go.ChangeShapes Go.WideShapes Go.Proofs.YtebidpcmcekbgaaDoorW.PrintWords Go.Proofs.YtebidpcmcekbgaaDoorW.PrintLast Go.Proofs.YtebidpcmcekbgaaDoorW.PrintMore
set_option linter.unusedVariables false
set_option linter.unusedSimpArgs false
set_option maxRecDepth 100000
section
variable {H : Type} {enc : TypeId × Value → H} {W : World} {base : Nat} {sp : Nat → Bool} {held : Bool} {fuel : Nat} {cs : List Value} {x : DataW H × List MemPlace}
theorem weightsAll_mem {P : Program} {e : TypeId} : ∀ {l : List (DataW H)} {d : DataW H}, d ∈ l → ∀ n ∈ d.weights P e, n ∈ DataW.weightsAll P e l
  | [], d, hd, _, _ => by cases hd
  | d0 :: r, d, hd, n, hn => by
    simp only [DataW.weightsAll, List.mem_append]
    rcases List.mem_cons.1 hd with rfl | h
    · exact Or.inl hn
    · exact Or.inr (weightsAll_mem h n hn)
/-- A slice that reads as data, opened: Q is known of each element, as its weight allows it. -/
theorem opens_sliceQ {α : Type} (d : Kd α) (Q : α → Prop) {t e : TypeId} (ht : Tryd.prog.underlying t = some (.slice e)) (hsz : Tryd.prog.cellsOf e = d.sz)
    (hbytes : 1 ≤ Tryd.prog.bytesOf e)
    (he : ∀ (n : Nat) (c : List Value) (y : DataW H × List MemPlace), DataW.trod enc Tryd.prog W base sp held n e c = some y → (∀ n ∈ y.1.weights Tryd.prog e, n ≤ reachBytes) → ∃ a, d.K W a c ∧ Q a)
    (h : DataW.trod enc Tryd.prog W base sp held fuel t cs = some x) (hw : ∀ n ∈ x.1.weights Tryd.prog t, n ≤ reachBytes) : ∃ A c xs, cs = [.slice A xs.length c] ∧ xs.length ≤ c ∧ d.C W A xs.length xs ∧ xs.length ≤ reachBytes ∧ ∀ a ∈ xs, Q a := by
  rcases Go.Deep.open_slice ht h with ⟨rfl, _⟩ | ⟨a, len, cap, m, n, D, Pl, rfl, hb, hl, hm, hmm, rfl, hx⟩
  · exact ⟨none, 0, [], rfl, Nat.le_refl _, ⟨rfl, by simp, fun h => absurd h (by simp)⟩, Nat.zero_le _, fun a ha => by cases ha⟩
  · have hlm : len ≤ m := by rw [hmm]; split <;> omega
    have hwl : len ≤ reachBytes := by
      have := hw (((List.range len).map D).length + ((List.range (m - len)).map fun j => D (len + j)).length |> (· * Tryd.prog.bytesOf e)) (by simp [DataW.weights, ht])
      simp only [List.length_map, List.length_range] at this
      have h2 : len * 1 ≤ (len + (m - len)) * Tryd.prog.bytesOf e := Nat.mul_le_mul (by omega) hbytes
      omega
    have hex : ∀ i, i < len → ∃ p : α × List Value, W.cells? base (a.add (i * Tryd.prog.cellsOf e)) (Tryd.prog.cellsOf e) = some p.2 ∧ (d.K W p.1 p.2 ∧ Q p.1) := fun i hi => by
      obtain ⟨c, h1, h2⟩ := hx i (by omega)
      obtain ⟨p, hp⟩ := he _ _ _ h2 (fun n hn => hw n (by
        simp only [DataW.weights, ht, List.mem_cons, List.mem_append]
        exact Or.inr (Or.inl (weightsAll_mem (List.mem_map.2 ⟨i, List.mem_range.2 hi, rfl⟩) n hn))))
      exact ⟨(p, c), h1, hp⟩
    rcases Nat.eq_zero_or_pos len with rfl | hpos
    · exact ⟨some a, cap, [], rfl, Nat.zero_le _, ⟨rfl, by simp, fun h => absurd h (by simp)⟩, Nat.zero_le _, fun a ha => by cases ha⟩
    · have : Inhabited (α × List Value) := ⟨Classical.choose (hex 0 hpos)⟩
      obtain ⟨V, hV⟩ := Go.Deep.choose_lt hex
      have hlen : ((List.range len).map fun i => (V i).1).length = len := by simp
      refine ⟨some a, cap, (List.range len).map fun i => (V i).1, by rw [hlen], by rw [hlen]; exact hl, ⟨rfl, by rw [hlen]; simp only [maxLen] at hm; omega, fun _ => ⟨a, rfl, ?_⟩⟩, by rw [hlen]; exact hwl, fun q hq => ?_⟩
      · intro j p hj
        obtain ⟨hjl, rfl⟩ := List.getElem?_eq_some_iff.1 hj
        rw [hlen] at hjl
        obtain ⟨h1, h2, _⟩ := hV j hjl
        rw [hsz] at h1
        obtain ⟨_, h3, h4⟩ := World.cells?_some h1
        refine ⟨(V j).2, h3, by simpa using h2, fun i u hu => ?_⟩
        have hi : i < d.sz := by rw [← h3]; exact (List.getElem?_eq_some_iff.1 hu).1
        have h5 := h4 i hi
        rw [Go.Deep.add_add] at h5
        rw [h5, hu]
      · obtain ⟨i, hi, rfl⟩ := List.mem_map.1 hq
        exact (hV i (List.mem_range.1 hi)).2.2
theorem cells_i : Tryd.prog.cellsOf 3 = 1 := by kernel_rfl
theorem cells_s : Tryd.prog.cellsOf 9 = 1 := by kernel_rfl
theorem cells_k : Tryd.prog.cellsOf 5 = 1 := by kernel_rfl
theorem cells_T : Tryd.prog.cellsOf 58 = 3 := by kernel_rfl
theorem opens_cs_token (h : DataW.trod enc Tryd.prog W base sp held fuel 58 cs = some x) (hw : ∀ n ∈ x.1.weights Tryd.prog 58, n ≤ reachBytes) : ∃ a : Tk, cs = [.int .u8 a.f0, .string a.f1, .int .i64 a.f2] ∧ a.f1.size ≤ 140737488351232 := by
  obtain ⟨y0, y1, y2, n, e, hl, h0, h1, h2⟩ := Go.Deep.trod_struct3 Tryd.underlying58 h
  rw [cells_T] at hl
  match cs, hl with
  | [a, b, c], _ =>
    simp only [cells_i, cells_s, cells_k, List.drop_zero, List.drop_succ_cons, List.take_succ_cons, List.take_zero] at h0 h1 h2
    have ha : DataW.trod enc Tryd.prog W base sp held n 5 [a] = some y0 := h0
    have hb : DataW.trod enc Tryd.prog W base sp held n 9 [b] = some y1 := h1
    have hc : DataW.trod enc Tryd.prog W base sp held n 3 [c] = some y2 := h2
    obtain ⟨b0, e0, _⟩ := DataW.trod_int Tryd.underlying5 ha
    obtain ⟨b1, e1, e3, _⟩ := DataW.trod_string Tryd.underlying9 hb
    obtain ⟨b2, e2, _⟩ := DataW.trod_int Tryd.underlying3 hc
    cases e0
    cases e1
    cases e2
    subst e3
    subst e
    refine ⟨⟨b0, b1, b2⟩, rfl, ?_⟩
    have := hw b1.data.toList.length (by simp [DataW.weights, DataW.weightsEach, Tryd.underlying58])
    rw [data_length] at this
    exact this
theorem bytes_T : 1 ≤ Tryd.prog.bytesOf 58 := of_decide_eq_true (by kernel_rfl)
/-- A row of tokens that reads as data. -/
theorem opens_tokens {r : Reach} {b0 : Nat} {v : Value} {d : DataW H} {p : List MemPlace} (hv : Value.okWide Tryd.prog W r b0 23 v) (h : DataW.Trod enc Tryd.prog W base sp held 23 v d p) (hw : ∀ n ∈ d.weights Tryd.prog 23, n ≤ reachBytes) :
    ∃ A c l, v = .slice A l.length c ∧ l.length ≤ c ∧ k58.C W A l.length l ∧ l.length ≤ 140737488351232 ∧ ∀ x ∈ l, x.f1.size ≤ 140737488351232 := by
  obtain ⟨a, n, c, rfl⟩ := okWide_slice Tryd.underlying23 hv
  obtain ⟨fuel, hf⟩ := h
  obtain ⟨A, cp, xs, e0, hle, hC, hl, hQ⟩ := opens_sliceQ k58 (fun x => x.f1.size ≤ 140737488351232) Tryd.underlying23 cells_T bytes_T (fun n c y hy hn => by obtain ⟨p, rfl, hp⟩ := opens_cs_token hy hn; exact ⟨p, k58_mk W p, hp⟩) hf hw
  have e : (Value.slice a n c).cells.toList = [.slice a n c] := rfl
  rw [e] at e0
  cases e0
  exact ⟨_, _, xs, rfl, hle, hC, hl, hQ⟩
end
end Go.Proofs.YtebidpcmcekbgaaDoor.P
namespace Go.Proofs.YtebidpcmcekbgaaDoor.P
open Go.RowKit Go.Shelf Go.Maps Go.Proofs.YtebidpcmcekbgaaDoorW.PrintWords Go.Proofs.YtebidpcmcekbgaaDoorW.PrintLast Go.Proofs.YtebidpcmcekbgaaDoorW.PrintMore
set_option linter.unusedVariables false
set_option linter.unusedSimpArgs false
theorem pShort0 (l : List Tk) (hl : l.length ≤ 140737488351232) (hx : ∀ x ∈ l, x.f1.size ≤ 140737488351232) : ∀ (d i k : Nat), l.length - i = d → i ≤ l.length → d < k → ∃ b, ripostelaw01_short.l0 k l (i : Int) = some b ∧ (b = true → l.length ≤ 1000 ∧ ∀ x ∈ l.drop i, x.f1.size ≤ 100) := by
  intro d
  induction d with
  | zero =>
    intro i k hd hi hk
    obtain ⟨k, rfl, _⟩ := succ_of hk
    rw [ripostelaw01_short.l0.eq_2, if_neg (by omega), List.drop_eq_nil_of_le (show l.length ≤ i by omega)]
    exact ⟨_, rfl, fun h => ⟨by have := of_decide_eq_true h; omega, fun x hx => (by cases hx)⟩⟩
  | succ d ih =>
    intro i k hd hi hk
    obtain ⟨k, rfl, hk'⟩ := succ_of hk
    have hlt : i < l.length := by omega
    have e2 := up1 i l.length hlt hl
    rw [ripostelaw01_short.l0.eq_2, if_pos (by omega), if_pos (by omega), e2, tk_drop l i hlt]
    obtain ⟨b, h1, h2⟩ := ih (i + 1) k (by omega) (by omega) (by omega)
    generalize rd_T58 l (i : Int) = y at *
    by_cases c : (y.f1.size : Int) > 100
    · rw [if_pos c]; exact ⟨false, rfl, fun h => by cases h⟩
    · rw [if_neg c]
      refine ⟨b, h1, fun h => ⟨(h2 h).1, fun x hx => ?_⟩⟩
      rcases List.mem_cons.1 hx with rfl | hx
      · omega
      · exact (h2 h).2 x hx
theorem pShort (l : List Tk) (hl : l.length ≤ 140737488351232) (hx : ∀ x ∈ l, x.f1.size ≤ 140737488351232) : ∃ b, ripostelaw01_short.f (l.length + 1) l = some b ∧ (b = true → l.length ≤ 1000 ∧ ∀ x ∈ l, x.f1.size ≤ 100) := by
  obtain ⟨b, h1, h2⟩ := pShort0 l hl hx l.length 0 (l.length + 1) (by omega) (by omega) (by omega)
  exact ⟨b, h1, h2⟩
end Go.Proofs.YtebidpcmcekbgaaDoor.P
namespace Go.Proofs.YtebidpcmcekbgaaDoor.P
open Go.RowKit Go.Shelf Go.Maps Go.Proofs.YtebidpcmcekbgaaDoorW.PrintWords Go.Proofs.YtebidpcmcekbgaaDoorW.PrintLast Go.Proofs.YtebidpcmcekbgaaDoorW.PrintMore
set_option linter.unusedVariables false
set_option linter.unusedSimpArgs false
set_option maxRecDepth 8000 in
set_option maxHeartbeats 8000000 in
theorem lexTights_any (A : Option Addr) (c : Nat) (l : List Tk) (w : World) (hg : Gl w) (hC : Kd.C k58 w A l.length l) (hc : l.length ≤ c) (hll : l.length ≤ 140737488351232) (hx : ∀ x ∈ l, x.f1.size ≤ 140737488351232) :
    Calls Tryd.prog 7 #[.slice A l.length c] w fun e w' => e = .returned (.bool true) ∧ Below w.heap.size w w' := by
  have HG := Aside0.mk hg
  have HC := Aside0.mk hC
  have hA := Aside0.mk (fun (W : World) (h : Gl W) => awake_any W h)
  obtain ⟨b, hb1, hb2⟩ := pShort l hll hx
  have hF := ripostelaw01_short.calls (l.length + 1) A c l b w hC hc hb1
  cases b with
  | false =>
    clear hg hC hx hb2 hb1
    go_enter Tryd.func7, Tryd.ntmps7
    go_wp2_with (first | (go_at_call 29; refine hF.mono ?_; rintro e w1 ⟨rfl, ⟨nd, rfl⟩⟩; have HB1 := Aside0.mk (pw_below_drewN (Below.refl w.heap.size w) nd)) | (go_at_call 11; refine (hA.out _ (HG.out.mono HB1.out)).mono ?_; rintro e w3 ⟨rfl, hb3⟩; have HB3 := Aside0.mk (HB1.out.trans (hb3.mono HB1.out.size)); clear hb3))
    go_ret
    exact ⟨rfl, HB3.out⟩
  | true =>
    obtain ⟨hl, hx1⟩ := hb2 rfl
    have hTi := Aside0.mk (fun (B : Option Addr) (k : Nat) (W : World) (hgW : Gl W) (h : Kd.C k58 W B l.length l) (hk : l.length ≤ k) => Tight_any l B k W hgW h hk hll (fun x hx => by have := hx1 x hx; omega))
    have hRT := Aside0.mk (fun (W : World) (h : Kd.C k58 W A l.length l) => riposteref01_Tight.calls 1301 A c l (tightM l).1 (tightM l).2 W h hc (rTight l hl hx1 1301 (by decide)))
    have hPr := Aside0.mk (fun (B : Option Addr) (k : Nat) (W : World) (hgW : Aside0 (Gl W)) (h : Kd.C k58 W B l.length l) (hk : l.length ≤ k) => lex_Pairs.calls 4001 B k l (pairM l).1 (pairM l).2.1 (pairM l).2.2 W hgW ⟨hll, hx⟩ h hk (pPairs l hl 4001 (by decide)))
    have hRP := Aside0.mk (fun (W : World) (h : Kd.C k58 W A l.length l) => riposteref01_Pairs.calls 3001 A c l (pairM l).1 (pairM l).2.1 (pairM l).2.2 W h hc (rPairs l hl hx1 3001 (by decide)))
    have hpl := pairM_len l hl
    generalize tightM l = T at *
    obtain ⟨t, te⟩ := T
    generalize pairM l = P at *
    obtain ⟨p0, p1, p2⟩ := P
    simp only at hTi hRT hPr hRP hpl
    have hSI := Aside0.mk (fun (B0 B1 : Option Addr) (c0 c1 : Nat) (W : World) (h0 : Kd.C (Kd.int .i64) W B0 p0.length p0) (hc0 : p0.length ≤ c0) (h1 : Kd.C (Kd.int .i64) W B1 p0.length p0) (hc1 : p0.length ≤ c1) => riposteref01_SameInts.calls (p0.length + 1) B0 c0 p0 B1 c1 p0 true W h0 hc0 h1 hc1 (rSameI p0 (by omega) _ (by omega)))
    clear hg hC hx hb2 hb1 hx1 hpl
    go_enter Tryd.func7, Tryd.ntmps7
    go_wp2_with (first | (go_at_call 29; refine hF.mono ?_; rintro e w1 ⟨rfl, ⟨nd, rfl⟩⟩; have HB1 := Aside0.mk (pw_below_drewN (Below.refl w.heap.size w) nd)) | ((with_reducible refine gate_builtin (b := .append) (xs := #[.const (.slice none 0 0), .tmp 18]) rfl ?_); at_builtin; refine Kd.R_append_rows k58 (w0 := w.drewN nd) (w.drewN nd).heap.size rfl (.const (.slice none 0 0)) (.tmp 18) 23 58 (.agg #[(.int .u8 0), (.string ⟨#[]⟩), (.int .i64 0)]) 32 rfl Tryd.underlying23 info58 rfl (by decide) (by omega) (.slice none 0 0) [] l A l.length c (fun _ => True) (fun _ => False) rfl rfl (Kd.R_nil _ _ _ _ _) (Kd.C_below HC.out HB1.out) (fun _ _ h => h) (fun _ h => h.elim) (fun _ _ => trivial) (Below.refl _ _) (Nat.le_refl _) (by simp; omega) ?_; intro v2 w2 ho2 hb2 hg2 hat2; rw [List.nil_append] at ho2; have HO2 := Aside0.mk ho2; have HB2 := Aside0.mk (HB1.out.trans (hb2.mono HB1.out.size)); have HN2 := Aside0.mk hb2; clear ho2 hb2 hg2 hat2; obtain ⟨B2, K2, rfl⟩ := Kd.R_slice HO2.out) | (go_at_call 30; refine (hTi.out B2 K2 _ (HG.out.mono HB2.out) (Kd.R_reads' HO2.out).2.2 (Kd.R_reads' HO2.out).2.1).mono ?_; rintro e w3 ⟨rfl, hb3⟩; have HB3 := Aside0.mk (HB2.out.trans (hb3.mono HB2.out.size)); clear hb3) | (go_at_call 31; refine (hRT.out _ (Kd.C_below HC.out HB3.out)).mono ?_; rintro e w4 ⟨rfl, hb4⟩; have HB4 := Aside0.mk (HB3.out.trans (hb4.mono HB3.out.size)); clear hb4) | ((with_reducible refine gate_builtin (b := .append) (xs := #[.const (.slice none 0 0), .tmp 29]) rfl ?_); at_builtin; refine Kd.R_append_rows k58 (w0 := w4) (w4).heap.size rfl (.const (.slice none 0 0)) (.tmp 29) 23 58 (.agg #[(.int .u8 0), (.string ⟨#[]⟩), (.int .i64 0)]) 32 rfl Tryd.underlying23 info58 rfl (by decide) (by omega) (.slice none 0 0) [] l A l.length c (fun _ => True) (fun _ => False) rfl rfl (Kd.R_nil _ _ _ _ _) (Kd.C_below HC.out HB4.out) (fun _ _ h => h) (fun _ h => h.elim) (fun _ _ => trivial) (Below.refl _ _) (Nat.le_refl _) (by simp; omega) ?_; intro v5 w5 ho5 hb5 hg5 hat5; rw [List.nil_append] at ho5; have HO5 := Aside0.mk ho5; have HB5 := Aside0.mk (HB4.out.trans (hb5.mono HB4.out.size)); have HN5 := Aside0.mk hb5; clear ho5 hb5 hg5 hat5; obtain ⟨B5, K5, rfl⟩ := Kd.R_slice HO5.out) | (go_at_call 32; refine (hPr.out B5 K5 _ ⟨HG.out.mono HB5.out⟩ (Kd.R_reads' HO5.out).2.2 (Kd.R_reads' HO5.out).2.1).mono ?_; rintro e w6 ⟨v6, rfl, ho6, hb6⟩; have HB6 := Aside0.mk (HB5.out.trans (hb6.mono HB5.out.size)); have HO6 := Aside0.mk ho6; obtain ⟨B6, K6, rfl⟩ := Kd.R_slice ho6; clear ho6 hb6) | (go_at_call 33; refine (hRP.out _ (Kd.C_below HC.out HB6.out)).mono ?_; rintro e w7 ⟨v7, rfl, ho7, hb7⟩; have HB7 := Aside0.mk (HB6.out.trans (hb7.mono HB6.out.size)); have HC6 := Aside0.mk (Kd.C_below (Kd.R_reads' HO6.out).2.2 hb7); have HO7 := Aside0.mk ho7; obtain ⟨B7, K7, rfl⟩ := Kd.R_slice ho7; clear ho7 hb7) | (go_at_call 34; refine (hSI.out B6 B7 K6 K7 _ HC6.out (Kd.R_reads' HO6.out).2.1 (Kd.R_reads' HO7.out).2.2 (Kd.R_reads' HO7.out).2.1).mono ?_; rintro e w8 ⟨rfl, ⟨nd8, rfl⟩⟩; have HB8 := Aside0.mk (pw_below_drewN HB7.out nd8)) | (go_at_call 11; refine (hA.out _ (HG.out.mono HB8.out)).mono ?_; rintro e w9 ⟨rfl, hb9⟩; have HB9 := Aside0.mk (HB8.out.trans (hb9.mono HB8.out.size)); clear hb9))
    go_ret
    exact ⟨rfl, HB9.out⟩
end Go.Proofs.YtebidpcmcekbgaaDoor.P
namespace Go.Proofs.YtebidpcmcekbgaaDoor.P
open Go.RowKit
set_option linter.unusedVariables false
/-- The four listed variables, as each row lists them. -/
def laidL : List (String × DataW Unit) := [("unicode/utf8.acceptRanges", Rows.laid_unicode_utf8_acceptRanges), ("unicode.White_Space", Rows.laid_unicode_White_Space), ("strings.asciiSpace", Rows.laid_strings_asciiSpace), ("unicode/utf8.first", Rows.laid_unicode_utf8_first)]
def aspT : List Int := (List.range 256).map fun (i : Nat) => if aspB (i : Int) = true then 1 else 0
theorem aspT_len : aspT.length = 256 := by simp [aspT]
theorem aspT_at (c : Nat) (h : c < 256) : aspT.getD c 0 = if aspB (c : Int) = true then 1 else 0 := by
  unfold aspT
  rw [List.getD_eq_getElem?_getD, List.getElem?_map, List.getElem?_range h]
  rfl
theorem asp_data : (Rows.laid_strings_asciiSpace : DataW Unit) = Lib.tabData .u8 aspT := by kernel_rfl
theorem gl_of_laid {W : World} (h : laidMetH Tryd.prog laidL W) : Gl W := by
  rw [MakeChecks.laidMetH_plain _ _ _ (by kernel_rfl)] at h
  obtain ⟨ps, ⟨g0, t0, cs0, f0, p0, q0, hg0, ht0, hv0, hd0, ⟨g1, t1, cs1, f1, p1, q1, hg1, ht1, hv1, hd1, ⟨g2, t2, cs2, f2, p2, q2, hg2, ht2, hv2, hd2, _, _⟩, _⟩, _⟩, _, _⟩ := h
  obtain rfl := Option.some.inj ((show Tryd.prog.globalNamed "strings.asciiSpace" = some 1 by kernel_rfl).symm.trans hg2)
  obtain rfl := Option.some.inj ((show (Tryd.prog.globals[1]?).map (·.type) = some 133 by kernel_rfl).symm.trans ht2)
  rw [asp_data] at hd2
  have hcs := Lib.cells_of_tab Tryd.underlying133 Tryd.underlying5 (by kernel_rfl) (by kernel_rfl) hd2
  intro c hc
  rw [World.var?_cell hg2 hv2 c]
  have h1 : cs2[c]? = some (.int .u8 (aspT.getD c 0)) := by
    have : cs2.toList[c]? = some (.int .u8 (aspT.getD c 0)) := by
      rw [hcs, List.getElem?_map, List.getElem?_eq_getElem (by rw [aspT_len]; exact hc)]
      simp [List.getD, List.getElem?_eq_getElem (show c < aspT.length by rw [aspT_len]; exact hc)]
    simpa using this
  rw [h1, aspT_at c hc]
end Go.Proofs.YtebidpcmcekbgaaDoor.P
