/- What the claim's law needs, many texts in one (P99 Ytb Gv P92 Sj Xz). No conditions of its own. -/
import Derived.Test.YtebidpcmcekbgaaDoorZo2
import Derived.Test.YtebidpcmcekbgaaDoorZo12
import Derived.Test.YtebidpcmcekbgaaDoorZo10
import Derived.Test.YtebidpcmcekbgaaDoorZo9
import Derived.Test.YtebidpcmcekbgaaDoorRows
import Derived.Test.YtebidpcmcekbgaaDoorZo4
import Derived.LaidMore
import Derived.Lay
import Derived.Lib.LaidTab
import Derived.Stop.Joined
set_option linter.unusedVariables false
set_option linter.unusedSimpArgs false
namespace Go.Proofs.YtebidpcmcekbgaaDoor.P
open Go.RowKit Go.Proofs.YtebidpcmcekbgaaDoorW.PrintWords Go.Proofs.YtebidpcmcekbgaaDoorW.PrintLast Go.Proofs.YtebidpcmcekbgaaDoorW.PrintMore
attribute [local go_sem] min2_int min_two -- for this text's walks alone
set_option linter.unusedVariables false
set_option linter.unusedSimpArgs false

/-! ### lex_Pairs: function 32 -/
mutual
def lex_Pairs.l0 : Nat → List (S58) → List Int → List Int → List (S58) → Int → Int → Option (List Int × Int × Int)
  | 0, _, _, _, _, _, _ => none
  | k + 1, x0, x6, x7, x16, x17, x18 => if x18 < x17 then (if 0 ≤ x18 then (if x18 < (x16.length : Int) then (if x6.length < 17592186044416 then ((some (x6 ++ [(-1)] : List Int)).bind fun y186 => (if ((rd_T58 x16 x18).f1).toList = ([40] : List UInt8) then (lex_Pairs.j1 k x0 y186 x7 x18 x16 x17 x18 ((rd_T58 x16 x18).f1) (((rd_T58 x16 x18).f1).toList == ([40] : List UInt8)) ((rd_T58 x16 x18).f0) ((rd_T58 x16 x18).f1) ((rd_T58 x16 x18).f2)) else (lex_Pairs.j1 k x0 y186 x7 x18 x16 x17 x18 ((rd_T58 x16 x18).f1) (((rd_T58 x16 x18).f1).toList == ([123] : List UInt8)) ((rd_T58 x16 x18).f0) ((rd_T58 x16 x18).f1) ((rd_T58 x16 x18).f2)))) else (none)) else (none)) else (none)) else (if (x7.length : Int) > 0 then (if 0 < (x7.length : Int) then (some (([] : List Int), rd x7 0, 4)) else (none)) else (some (x6, 0, 0)))
def lex_Pairs.j1 : Nat → List (S58) → List Int → List Int → Int → List (S58) → Int → Int → ByteArray → Bool → Int → ByteArray → Int → Option (List Int × Int × Int)
  | 0, _, _, _, _, _, _, _, _, _, _, _, _ => none
  | k + 1, x0, x6, x7, x8, x16, x17, x18, x27, x28, x186000, x186001, x186002 => if x28 = true then (if x7.length < 17592186044416 then (lex_Pairs.l0 k x0 x6 (x7 ++ [x8]) x16 x17 (wrap64 (x18 + 1))) else (none)) else (if x27.toList = ([41] : List UInt8) then (lex_Pairs.j2 k x0 x6 x7 x8 x16 x17 x18 (x27.toList == ([41] : List UInt8)) x186000 x186001 x186002) else (lex_Pairs.j2 k x0 x6 x7 x8 x16 x17 x18 (x27.toList == ([125] : List UInt8)) x186000 x186001 x186002))
def lex_Pairs.j2 : Nat → List (S58) → List Int → List Int → Int → List (S58) → Int → Int → Bool → Int → ByteArray → Int → Option (List Int × Int × Int)
  | 0, _, _, _, _, _, _, _, _, _, _, _ => none
  | k + 1, x0, x6, x7, x8, x16, x17, x18, x35, x186000, x186001, x186002 => if x35 = true then (if (wrap64 ((x7.length : Int) - 1)) < 0 then (some (([] : List Int), x8, 4)) else (if 0 ≤ (wrap64 ((x7.length : Int) - 1)) then (if (wrap64 ((x7.length : Int) - 1)) < (x7.length : Int) then (if 0 ≤ (rd x7 (wrap64 ((x7.length : Int) - 1))) then (if (rd x7 (wrap64 ((x7.length : Int) - 1))) < (x0.length : Int) then (if ((((rd_T58 x0 (rd x7 (wrap64 ((x7.length : Int) - 1)))).f1).toList == ([40] : List UInt8)) != (x186001.toList == ([41] : List UInt8))) = true then (some (([] : List Int), x8, 4)) else (if 0 ≤ x8 then (if x8 < (x6.length : Int) then (if (rd x7 (wrap64 ((x7.length : Int) - 1))) < (x6.length : Int) then (if (wrap64 ((x7.length : Int) - 1)) ≤ (x7.length : Int) then (lex_Pairs.l0 k x0 ((x6.set (x8 : Int).toNat (rd x7 (wrap64 ((x7.length : Int) - 1)))).set ((rd x7 (wrap64 ((x7.length : Int) - 1))) : Int).toNat x8) (x7.take ((wrap64 ((x7.length : Int) - 1)) : Int).toNat) x16 x17 (wrap64 (x18 + 1))) else (none)) else (none)) else (none)) else (none))) else (none)) else (none)) else (none)) else (none))) else (lex_Pairs.l0 k x0 x6 x7 x16 x17 (wrap64 (x18 + 1)))
end
def lex_Pairs.f (k : Nat) (l0 : List (S58)) : Option (List Int × Int × Int) := (lex_tokens.f k l0).bind fun t182 => (if t182 = 0 then (lex_Pairs.l0 k l0 ([] : List Int) ([] : List Int) l0 (l0.length : Int) 0) else (some (([] : List Int), 0, t182)))
def lex_Pairs.T16 : Bool × List (List Nat × List Nat) := (true, [([], []), ([0], [0]), ([1], [1]), ([2], [2]), ([2], [2]), ([2], [2]), ([4, 5, 2], [2, 4, 5]), ([6, 2], [2, 6]), ([3, 7, 2], [2, 3, 7]), ([8, 2], [2, 8]), ([9, 2], [2, 9]), ([10, 2], [2, 10]), ([2], [2]), ([12, 2], [2, 12]), ([13, 2], [2, 13]), ([11, 14, 2], [2, 11, 14]), ([2, 15], [2, 15])])
def lex_Pairs.B16 : List Nat := [0, 1, 3, 7, 7, 7, 55, 119, 255, 511, 1023, 2047, 7, 4103, 12295, 32767, 65535]
theorem lex_Pairs.tab16 : rtab .any (opsOf Tryd.f32 16) = lex_Pairs.T16 := by kernel_rfl
theorem lex_Pairs.bits16 : waitsOk lex_Pairs.T16.2 lex_Pairs.B16 = true := by kernel_rfl
def lex_Pairs.T18 : Bool × List (List Nat × List Nat) := (true, [([], []), ([], []), ([], []), ([], []), ([], []), ([3, 4], [3, 4]), ([5], [5]), ([], []), ([], []), ([7, 8], [7, 8]), ([9], [9]), ([], []), ([0, 1, 0, 1, 6, 7, 8, 9, 10], [0, 1]), ([12, 10, 0, 1, 6, 7, 8, 9, 10], [10, 12]), ([2, 6, 0, 1, 2, 3, 4, 5, 6, 7, 8, 9, 10, 11, 12, 13], [2, 6]), ([14, 11, 13, 0, 1, 2, 3, 4, 5, 6, 7, 8, 9, 10, 11, 12, 13], [11, 14])])
def lex_Pairs.B18 : List Nat := [0, 0, 0, 0, 0, 24, 56, 0, 0, 384, 896, 0, 2043, 6139, 16383, 32767]
theorem lex_Pairs.tab18 : rtab .any (opsOf Tryd.f32 18) = lex_Pairs.T18 := by kernel_rfl
theorem lex_Pairs.bits18 : waitsOk lex_Pairs.T18.2 lex_Pairs.B18 = true := by kernel_rfl
set_option maxHeartbeats 8000000 in
set_option maxRecDepth 100000 in
theorem lex_Pairs.calls (k : Nat) (A0 : Option Addr) (c0 : Nat) (l0 : List (S58)) (r1 : List Int) (r2 : Int) (r3 : Int) (w : World) (hgT : Aside0 (Gl w)) (hsT : Aside0 (l0.length ≤ 140737488351232 ∧ ∀ x ∈ l0, x.f1.size ≤ 140737488351232)) (hr0 : Kd.C k58 w A0 l0.length l0) (hc0 : l0.length ≤ c0) (h : lex_Pairs.f k l0 = some (r1, r2, r3)) :
    Calls Tryd.prog 32 #[.slice A0 l0.length c0] w fun e w' => ∃ v0_ : Value, e = .returned (.tuple #[v0_, .int .i64 r2, .int .i64 r3]) ∧ Kd.R (Kd.int .i64) 3 w' w.heap.size (fun _ => True) v0_ r1 ∧ Below w.heap.size w w' := by
  have hu58 := Tryd.underlying58
  have HR0 := Aside0.mk hr0
  have HC0 := Aside0.mk hc0
  clear hr0 hc0
  have HB := Aside0.mk (Below.refl w.heap.size w)
  have H : ((lex_tokens.f k l0).bind fun t182 => (if t182 = 0 then (lex_Pairs.l0 k l0 ([] : List Int) ([] : List Int) l0 (l0.length : Int) 0) else (some (([] : List Int), 0, t182)))) = some (r1, r2, r3) := h
  clear h
  replace H := Option.bind_eq_some_iff.mp H
  obtain ⟨t182, A20, H⟩ := H
  replace H : (if t182 = 0 then (lex_Pairs.l0 k l0 ([] : List Int) ([] : List Int) l0 (l0.length : Int) 0) else (some (([] : List Int), 0, t182))) = some (r1, r2, r3) := H
  have A2 := Aside0.mk A20
  clear A20
  by_cases c3 : t182 = 0
  · rw [if_pos c3] at H
    have c3b0 : (t182 == 0) = true := beq_iff_eq.mpr c3
    have c3b1 : (t182 != 0) = false := bne_eq_false_iff_eq.mpr c3
    clear c3
    have H' := Aside0.mk H
    clear H
    go_enter Tryd.func32, Tryd.ntmps32
    go_wp2_with (first | ((with_reducible refine gate_callee (f := 59) rfl ?_); refine goesL_ (some 12) rfl rfl Tryd.func59 (by kernel_rfl) rfl #[.slice A0 l0.length c0] rfl (by (try simp only [List.map_toArray, List.map_cons, List.map_nil]); first | done | rfl | (simp only [List.length_drop, List.length_take]; rfl)) ?_; (with_reducible refine (lexTokensC w hgT l0 hsT k _ _ t182 ?side1 ?side2 A2.out).mono ?_); (case side1 => repeat (first | exact HR0.out | (with_reducible refine Kd.C_alloc ?_ _) | (with_reducible refine Kd.C_drewN ?_ _) | (with_reducible refine Kd.C_drew ?_))); (case side2 => exact HC0.out); rintro e w4 ⟨rfl, hb⟩; refine ⟨_, rfl, ?_⟩; have n0_ := Aside0.mk (below_step (by repeat (first | (with_reducible first | exact HB.out | apply below_alloc | apply pw_below_drewN | apply below_drew1) | exact HB.out)) hb); clear HB; have HB := n0_; clear n0_; (try clear hb); (try clear hb2); (try clear hk); (try clear hi)))
    go_loopg [6, 7, 18] k (fun kq v6 v7 v18 w' => ∃ (x6_1 : List Int) (x7_1 : List Int) (x18_1 : Int), v18 = .int .i64 x18_1 ∧ Aside0 (lex_Pairs.l0 kq l0 x6_1 x7_1 l0 (l0.length : Int) x18_1 = some (r1, r2, r3)) ∧ Aside0 (kq ≤ k) ∧ Aside0 (Kd.R (Kd.int .i64) 3 w' w.heap.size (fun k_ => some k_ ≠ (v7 : Value).ownBlock) v6 x6_1) ∧ Aside0 (Kd.R (Kd.int .i64) 3 w' w.heap.size (fun k_ => some k_ ≠ (v6 : Value).ownBlock) v7 x7_1) ∧ Aside0 (Below w.heap.size w w'))
    case atStart => exact ⟨(([] : List Int)), (([] : List Int)), (0), (by first | rfl | (simp; done) | (simp [*]; done)), H', ⟨Nat.le_refl _⟩, ⟨by first | exact Kd.R_nil _ _ _ _ _ | exact Kd.N_nil _ _ _ _ _ | exact Kd.V_nil _ _ _ _ _ | exact Kd.Q_nil _ _ _ _ _ | exact Kd.S_nil _ _ _ _ _⟩, ⟨by first | exact Kd.R_nil _ _ _ _ _ | exact Kd.N_nil _ _ _ _ _ | exact Kd.V_nil _ _ _ _ _ | exact Kd.Q_nil _ _ _ _ _ | exact Kd.S_nil _ _ _ _ _⟩, ⟨by repeat (first | (with_reducible first | exact HB.out | apply below_alloc | apply pw_below_drewN | apply below_drew1) | exact HB.out)⟩⟩
    case round =>
      clear H'
      try clear p2
      try clear c3
      try clear c3b0
      try clear c3b1
      obtain ⟨x6_1, x7_1, x18_1, rfl, HA, HK1, HO_6, HO_7, HB⟩ := hrel
      cases gk with
      | zero => exact absurd HA.out (by simp [lex_Pairs.l0])
      | succ k1 =>
        have H := HA.out
        clear HA
        simp only [lex_Pairs.l0] at H
        by_cases c5 : x18_1 < (l0.length : Int)
        · rw [if_pos c5] at H
          have c5b0 : decide (x18_1 < (l0.length : Int)) = true := decide_eq_true c5
          clear c5
          by_cases c6 : 0 ≤ x18_1
          · rw [if_pos c6] at H
            have c6b0 : decide (0 ≤ x18_1) = true := decide_eq_true c6
            clear c6
            by_cases c7 : x18_1 < (l0.length : Int)
            · rw [if_pos c7] at H
              have c7b0 : decide (x18_1 < (l0.length : Int)) = true := decide_eq_true c7
              clear c7
              by_cases c8 : x6_1.length < 17592186044416
              · rw [if_pos c8] at H
                have LMc8 := Aside0.mk c8
                clear c8
                obtain ⟨y186, hy186⟩ : ∃ y_ : List Int, y_ = (x6_1 ++ [(-1)]) := ⟨_, rfl⟩
                replace H : (if ((rd_T58 l0 x18_1).f1).toList = ([40] : List UInt8) then (lex_Pairs.j1 k1 l0 y186 x7_1 x18_1 l0 (l0.length : Int) x18_1 ((rd_T58 l0 x18_1).f1) (((rd_T58 l0 x18_1).f1).toList == ([40] : List UInt8)) ((rd_T58 l0 x18_1).f0) ((rd_T58 l0 x18_1).f1) ((rd_T58 l0 x18_1).f2)) else (lex_Pairs.j1 k1 l0 y186 x7_1 x18_1 l0 (l0.length : Int) x18_1 ((rd_T58 l0 x18_1).f1) (((rd_T58 l0 x18_1).f1).toList == ([123] : List UInt8)) ((rd_T58 l0 x18_1).f0) ((rd_T58 l0 x18_1).f1) ((rd_T58 l0 x18_1).f2))) = some (r1, r2, r3) := by first | (rw [hy186]; with_reducible exact H) | (have H2_ := (Option.bind_some _ _).symm.trans H; rw [hy186]; with_reducible exact H2_) | (have H2_ := (Option.bind_some _ _).symm.trans H; with_reducible exact H2_) | with_reducible exact H | (rw [hy186]; exact H) | exact H
                have Ny186 := Aside0.mk hy186
                clear hy186
                have HC9 := Aside0.mk H
                clear H
                have p184 : 0 ≤ (x18_1 : Int) := of_decide_eq_true (by first | (with_reducible assumption) | assumption)
                have q184 : x18_1 < (l0.length : Int) := of_decide_eq_true (by first | (with_reducible assumption) | assumption)
                obtain ⟨ad184, e184, hx184_0, hx184_1, hx184_2⟩ := at_T58 HR0.out x18_1 p184 q184
                cases e184
                replace hx184_0 := (HB.out.cell (World.block_lt_of_cell? w _ hx184_0)).trans hx184_0
                replace hx184_1 := (HB.out.cell (World.block_lt_of_cell? w _ hx184_1)).trans hx184_1
                replace hx184_2 := (HB.out.cell (World.block_lt_of_cell? w _ hx184_2)).trans hx184_2
                replace p184 := eq_true p184
                replace q184 := eq_true q184
                go_upto_if 28 with (first | ((with_reducible refine gate_dst (N := 9) rfl ?_); refine box_event ?hg (N := 9) ?hd (cs := #[.int .u8 0, .string (⟨#[]⟩ : ByteArray), .int .i64 0]) (t := 58) ?hr ?_; (case hd => rfl); (case hg => rfl); (case hr => first | (go_simp; done) | (go_simp; rfl)); intro gb185 hg w10 hbox hb; have n0_ := Aside0.mk (Kd.R_below (by (with_reducible repeat (first | apply Kd.R_alloc | apply Kd.R_drewN | apply Kd.R_drew)); exact HO_6.out) hb); have n1_ := Aside0.mk (Kd.R_below (by (with_reducible repeat (first | apply Kd.R_alloc | apply Kd.R_drewN | apply Kd.R_drew)); exact HO_7.out) hb); have n2_ := Aside0.mk (below_step (by repeat (first | (with_reducible first | exact HB.out | apply below_alloc | apply pw_below_drewN | apply below_drew1) | exact HB.out)) hb); have n3_ := Aside0.mk (hbox); have n4_ := Aside0.mk ((by rw [hg]; exact (below_size (by repeat (first | (with_reducible first | exact HB.out | apply below_alloc | apply pw_below_drewN | apply below_drew1) | exact HB.out))) : w.heap.size ≤ gb185)); have n5_ := Aside0.mk ((by rw [hg]; exact (below_size (by repeat (first | (with_reducible first | exact HB.out | apply below_alloc | apply pw_below_drewN | apply below_drew1) | exact HB.out))) : w.heap.size ≤ gb185)); clear HO_6; clear HO_7; clear HB; have HO_6 := n0_; have HO_7 := n1_; have HB := n2_; have BK185 := n3_; have GW185 := n4_; have GE185 := n5_; clear n0_ n1_ n2_ n3_ n4_ n5_; clear hb hbox hg; have hcz11_0 : w10.cell? ⟨gb185, 0, none⟩ = some (.int .u8 0) := (blk_cell BK185.out 0).trans rfl; have hcz11_1 : w10.cell? ⟨gb185, 1, none⟩ = some (.string (⟨#[]⟩ : ByteArray)) := (blk_cell BK185.out 1).trans rfl; have hcz11_2 : w10.cell? ⟨gb185, 2, none⟩ = some (.int .i64 0) := (blk_cell BK185.out 2).trans rfl; have hfz11_0 := blk_frozen BK185.out 0; have hfz11_1 := blk_frozen BK185.out 1; have hfz11_2 := blk_frozen BK185.out 2) | ((with_reducible refine gate_builtin (b := .append) (xs := #[.tmp 23, .tmp 24]) rfl ?_); at_builtin; refine Kd.R_append (Kd.int .i64) (w0 := w) w.heap.size rfl (.tmp 23) (.tmp 24) 47 3 (.int .i64 0) 8 rfl Tryd.underlying47 info3 rfl (by decide) (by omega) u6 x6_1 (-1) [.int .i64 (-1)] (fun k_ => some k_ ≠ (u7 : Value).ownBlock) (fun _ => False) rfl (by first | (go_simp; done) | (go_simp; rfl)) ?aP (fun _ hk => hk.elim) ?aF ?aO ?aB ?aS ?aL ?_; (case aP => exact rfl); (case aB => exact (by repeat (first | (with_reducible first | exact HB.out | apply below_alloc | apply pw_below_drewN | apply below_drew1 | refine below_set ?_ GE185.out) | exact HB.out))); (case aF => exact (fun k_ hk => Kd.fresh' (Kd.R_lt (by (with_reducible repeat (first | apply Kd.R_alloc | apply Kd.R_drewN | apply Kd.R_drew)); exact (Kd.R_mono (Kd.R_far (p := ⟨gb185, 2, none⟩) (Kd.R_far (p := ⟨gb185, 1, none⟩) (Kd.R_far (p := ⟨gb185, 0, none⟩) (Kd.R_types HO_7.out BK185.out (by decide)) (fun _ hk => hk.2) (.int .u8 ((rd_T58 l0 x18_1).f0))) (fun _ hk => hk.2) (.string ((rd_T58 l0 x18_1).f1))) (fun _ hk => hk.2) (.int .i64 ((rd_T58 l0 x18_1).f2))) (fun _ h_ => h_.1)))) k_ hk)); (case aO => exact (by (with_reducible repeat (first | apply Kd.R_alloc | apply Kd.R_drewN | apply Kd.R_drew)); exact Kd.R_mono (Kd.R_far (p := ⟨gb185, 2, none⟩) (Kd.R_far (p := ⟨gb185, 1, none⟩) (Kd.R_far (p := ⟨gb185, 0, none⟩) (Kd.R_types HO_6.out BK185.out (by decide)) (fun _ hk => hk.2) (.int .u8 ((rd_T58 l0 x18_1).f0))) (fun _ hk => hk.2) (.string ((rd_T58 l0 x18_1).f1))) (fun _ hk => hk.2) (.int .i64 ((rd_T58 l0 x18_1).f2))) (fun _ hk => hk.1))); (case aS => exact (below_size (by repeat (first | (with_reducible first | exact HB.out | apply below_alloc | apply pw_below_drewN | apply below_drew1 | refine below_set ?_ GE185.out) | exact HB.out)))); (case aL => have := LMc8.out; omega); intro v187 w12 ho hb hg hat; rw [← Ny186.out] at ho; have n0_ := Aside0.mk (Kd.R_after (ok := (fun _ => True)) (by (with_reducible repeat (first | apply Kd.R_alloc | apply Kd.R_drewN | apply Kd.R_drew)); exact Kd.R_mono (Kd.R_far (p := ⟨gb185, 2, none⟩) (Kd.R_far (p := ⟨gb185, 1, none⟩) (Kd.R_far (p := ⟨gb185, 0, none⟩) (Kd.R_types HO_7.out BK185.out (by decide)) (fun _ hk => hk.2) (.int .u8 ((rd_T58 l0 x18_1).f0))) (fun _ hk => hk.2) (.string ((rd_T58 l0 x18_1).f1))) (fun _ hk => hk.2) (.int .i64 ((rd_T58 l0 x18_1).f2))) (fun _ hk => ⟨trivial, hk.1⟩)) hg hat); have n1_ := Aside0.mk (blk_grown (g := gb185) (o := .cells #[.int .u8 ((rd_T58 l0 x18_1).f0), .string ((rd_T58 l0 x18_1).f1), .int .i64 ((rd_T58 l0 x18_1).f2)] 58 (0, 0)) (by (with_reducible repeat (first | refine blk_drewN ?_ _ | refine blk_drew ?_ | refine blk_alloc ?_ _)); refine blk_put (cs := #[.int .u8 ((rd_T58 l0 x18_1).f0), .string ((rd_T58 l0 x18_1).f1), .int .i64 0]) ?_ 2 _ rfl; (with_reducible repeat (first | refine blk_drewN ?_ _ | refine blk_drew ?_ | refine blk_alloc ?_ _)); refine blk_put (cs := #[.int .u8 ((rd_T58 l0 x18_1).f0), .string (⟨#[]⟩ : ByteArray), .int .i64 0]) ?_ 1 _ rfl; (with_reducible repeat (first | refine blk_drewN ?_ _ | refine blk_drew ?_ | refine blk_alloc ?_ _)); refine blk_put (cs := #[.int .u8 0, .string (⟨#[]⟩ : ByteArray), .int .i64 0]) ?_ 0 _ rfl; (with_reducible repeat (first | refine blk_drewN ?_ _ | refine blk_drew ?_ | refine blk_alloc ?_ _)); exact BK185.out) hg (Kd.R_ne HO_6.out BK185.out (by decide))); have n2_ := Aside0.mk (hb); have n3_ := Aside0.mk (ho); clear HO_7; clear BK185; clear HB; clear HO_6; have HO_7 := n0_; have BK185 := n1_; have HB := n2_; have HO188 := n3_; clear n0_ n1_ n2_ n3_; clear ho hb hg hat; have hcz13_0 : w12.cell? ⟨gb185, 0, none⟩ = some (.int .u8 ((rd_T58 l0 x18_1).f0)) := (blk_cell BK185.out 0).trans rfl; have hcz13_1 : w12.cell? ⟨gb185, 1, none⟩ = some (.string ((rd_T58 l0 x18_1).f1)) := (blk_cell BK185.out 1).trans rfl; have hcz13_2 : w12.cell? ⟨gb185, 2, none⟩ = some (.int .i64 ((rd_T58 l0 x18_1).f2)) := (blk_cell BK185.out 2).trans rfl; have hfz13_0 := blk_frozen BK185.out 0; have hfz13_1 := blk_frozen BK185.out 1; have hfz13_2 := blk_frozen BK185.out 2))
                (try simp only [Act.put, List.setIfInBounds_toArray, List.set_cons_zero, List.set_cons_succ])
                go_cut [28] (fun v28 wc => ∃ (kq : Nat) (x28_8 : Bool), v28 = .bool x28_8 ∧ Aside0 (lex_Pairs.j1 kq l0 y186 x7_1 x18_1 l0 (l0.length : Int) x18_1 ((rd_T58 l0 x18_1).f1) x28_8 ((rd_T58 l0 x18_1).f0) ((rd_T58 l0 x18_1).f1) ((rd_T58 l0 x18_1).f2) = some (r1, r2, r3)) ∧ Aside0 (kq ≤ k1) ∧ Aside0 (Kd.R (Kd.int .i64) 3 wc w.heap.size (fun k_ => some k_ ≠ (u7 : Value).ownBlock) v187 y186) ∧ Aside0 (Kd.R (Kd.int .i64) 3 wc w.heap.size (fun k_ => some k_ ≠ (v187 : Value).ownBlock) u7 x7_1) ∧ Aside0 (wc.heap[gb185]? = some (.cells #[.int .u8 ((rd_T58 l0 x18_1).f0), .string ((rd_T58 l0 x18_1).f1), .int .i64 ((rd_T58 l0 x18_1).f2)] 58 (0, 0))) ∧ Aside0 (Below w.heap.size w wc))
                case first =>
                  have H := HC9.out
                  clear HC9
                  by_cases c14 : ((rd_T58 l0 x18_1).f1).toList = ([40] : List UInt8)
                  · rw [if_pos c14] at H
                    have c14b0 : (((rd_T58 l0 x18_1).f1).toList == ([40] : List UInt8)) = true := beq_iff_eq.mpr c14
                    have c14b1 : (((rd_T58 l0 x18_1).f1).toList != ([40] : List UInt8)) = false := bne_eq_false_iff_eq.mpr c14
                    clear c14
                    (first | rw [c14b0] | (simp only [i64_w, i32_w]; rw [c14b0]) | skip)
                    have H' := Aside0.mk H
                    clear H
                    go_wp2
                    go_meet
                    case rel => exact ⟨_, ((((rd_T58 l0 x18_1).f1).toList == ([40] : List UInt8))), (by first | rfl | (simp; done) | (simp [*]; done)), H', ⟨by have := HK1.out; first | omega | exact Nat.le_refl _⟩, ⟨by (with_reducible repeat (first | apply Kd.R_alloc | apply Kd.R_drewN | apply Kd.R_drew)); exact HO188.out⟩, ⟨by (with_reducible repeat (first | apply Kd.R_alloc | apply Kd.R_drewN | apply Kd.R_drew)); exact Kd.R_mono HO_7.out (fun _ hk => hk.2)⟩, ⟨by (with_reducible repeat (first | refine blk_drewN ?_ _ | refine blk_drew ?_ | refine blk_alloc ?_ _)); exact BK185.out⟩, ⟨by repeat (first | (with_reducible first | exact HB.out | apply below_alloc | apply pw_below_drewN | apply below_drew1 | refine below_set ?_ GE185.out) | exact HB.out)⟩⟩
                  · rw [if_neg c14] at H
                    have c14b0 : (((rd_T58 l0 x18_1).f1).toList == ([40] : List UInt8)) = false := beq_eq_false_iff_ne.mpr c14
                    have c14b1 : (((rd_T58 l0 x18_1).f1).toList != ([40] : List UInt8)) = true := bne_iff_ne.mpr c14
                    (first | rw [c14b0] | (simp only [i64_w, i32_w]; rw [c14b0]) | skip)
                    have H' := Aside0.mk H
                    clear H
                    go_wp2
                    go_meet
                    case rel => exact ⟨_, ((((rd_T58 l0 x18_1).f1).toList == ([123] : List UInt8))), (by first | rfl | (simp; done) | (simp [*]; done)), H', ⟨by have := HK1.out; first | omega | exact Nat.le_refl _⟩, ⟨by (with_reducible repeat (first | apply Kd.R_alloc | apply Kd.R_drewN | apply Kd.R_drew)); exact HO188.out⟩, ⟨by (with_reducible repeat (first | apply Kd.R_alloc | apply Kd.R_drewN | apply Kd.R_drew)); exact Kd.R_mono HO_7.out (fun _ hk => hk.2)⟩, ⟨by (with_reducible repeat (first | refine blk_drewN ?_ _ | refine blk_drew ?_ | refine blk_alloc ?_ _)); exact BK185.out⟩, ⟨by repeat (first | (with_reducible first | exact HB.out | apply below_alloc | apply pw_below_drewN | apply below_drew1 | refine below_set ?_ GE185.out) | exact HB.out)⟩⟩
                case rest =>
                  clear HC9
                  try clear c1
                  try clear p1
                  try clear q1
                  try clear hx1
                  try clear p2
                  try clear c3
                  try clear c3b0
                  try clear c3b1
                  try clear c5
                  try clear c5b0
                  try clear c6
                  try clear c6b0
                  try clear c7
                  try clear c7b0
                  try clear c8
                  try clear c14
                  try clear c14b0
                  try clear c14b1
                  try clear hcz11_0
                  try clear hcz11_1
                  try clear hcz11_2
                  try clear hcz13_0
                  try clear hcz13_1
                  try clear hcz13_2
                  try clear hfz11_0
                  try clear hfz11_1
                  try clear hfz11_2
                  try clear hfz13_0
                  try clear hfz13_1
                  try clear hfz13_2
                  try clear hx184_0
                  try clear hx184_1
                  try clear hx184_2
                  try clear p184
                  try clear p2
                  try clear q184
                  obtain ⟨kq, x28_8, rfl, HA, HJ8, HO_6, HO_7, BK185, HB⟩ := hcut
                  cases kq with
                  | zero => exact absurd HA.out (by simp [lex_Pairs.j1])
                  | succ kj8 =>
                    have H := HA.out
                    clear HA
                    simp only [lex_Pairs.j1] at H
                    by_cases c15 : x28_8 = true
                    · subst c15
                      have H1 : (if x7_1.length < 17592186044416 then (lex_Pairs.l0 kj8 l0 y186 (x7_1 ++ [x18_1]) l0 (l0.length : Int) (wrap64 (x18_1 + 1))) else (none)) = some (r1, r2, r3) := by rw [if_pos rfl] at H; exact H
                      clear H
                      have H := H1
                      clear H1
                      by_cases c16 : x7_1.length < 17592186044416
                      · rw [if_pos c16] at H
                        have LMc16 := Aside0.mk c16
                        clear c16
                        obtain ⟨y189, hy189⟩ : ∃ y_ : List Int, y_ = (x7_1 ++ [x18_1]) := ⟨_, rfl⟩
                        replace H : (lex_Pairs.l0 kj8 l0 y186 y189 l0 (l0.length : Int) (wrap64 (x18_1 + 1))) = some (r1, r2, r3) := by first | (rw [hy189]; with_reducible exact H) | (have H2_ := (Option.bind_some _ _).symm.trans H; rw [hy189]; with_reducible exact H2_) | (have H2_ := (Option.bind_some _ _).symm.trans H; with_reducible exact H2_) | with_reducible exact H | (rw [hy189]; exact H) | exact H
                        have Ny189 := Aside0.mk hy189
                        clear hy189
                        have H' := Aside0.mk H
                        clear H
                        go_wp2_with (first | ((with_reducible refine gate_builtin (b := .append) (xs := #[.tmp 31, .tmp 33]) rfl ?_); at_builtin; refine Kd.R_append (Kd.int .i64) (w0 := w) w.heap.size rfl (.tmp 31) (.tmp 33) 47 3 (.int .i64 0) 8 rfl Tryd.underlying47 info3 rfl (by decide) (by omega) u7 x7_1 x18_1 [.int .i64 x18_1] (fun k_ => some k_ ≠ (v187 : Value).ownBlock) (fun _ => False) rfl rfl ?aP (fun _ hk => hk.elim) ?aF ?aO ?aB ?aS ?aL ?_; (case aP => exact rfl); (case aB => exact (by repeat (first | (with_reducible first | exact HB.out | apply below_alloc | apply pw_below_drewN | apply below_drew1 | refine below_set ?_ GE185.out) | exact HB.out))); (case aF => exact (fun k_ hk => Kd.fresh' (Kd.R_lt (by (with_reducible repeat (first | apply Kd.R_alloc | apply Kd.R_drewN | apply Kd.R_drew)); exact HO_6.out)) k_ hk)); (case aO => exact (by (with_reducible repeat (first | apply Kd.R_alloc | apply Kd.R_drewN | apply Kd.R_drew)); exact HO_7.out)); (case aS => exact (below_size (by repeat (first | (with_reducible first | exact HB.out | apply below_alloc | apply pw_below_drewN | apply below_drew1 | refine below_set ?_ GE185.out) | exact HB.out)))); (case aL => have := LMc16.out; omega); intro v190 w17 ho hb hg hat; rw [← Ny189.out] at ho; have n0_ := Aside0.mk (Kd.R_after (ok := (fun _ => True)) (by (with_reducible repeat (first | apply Kd.R_alloc | apply Kd.R_drewN | apply Kd.R_drew)); exact Kd.R_mono HO_6.out (fun _ hk => ⟨trivial, hk⟩)) hg hat); have n1_ := Aside0.mk (blk_grown (g := gb185) (o := .cells #[.int .u8 ((rd_T58 l0 x18_1).f0), .string ((rd_T58 l0 x18_1).f1), .int .i64 ((rd_T58 l0 x18_1).f2)] 58 (0, 0)) (by (with_reducible repeat (first | refine blk_drewN ?_ _ | refine blk_drew ?_ | refine blk_alloc ?_ _)); exact BK185.out) hg (Kd.R_ne HO_7.out BK185.out (by decide))); have n2_ := Aside0.mk (hb); have n3_ := Aside0.mk (ho); clear HO_6; clear BK185; clear HB; clear HO_7; have HO_6 := n0_; have BK185 := n1_; have HB := n2_; have HO191 := n3_; clear n0_ n1_ n2_ n3_; clear ho hb hg hat))
                        go_roundg kj8
                        case measure => have := HK1.out; have := HJ8.out; omega
                        case rel => exact ⟨(y186), (y189), (wrap64 (x18_1 + 1)), (by first | rfl | (simp; done) | (simp [*]; done)), H', ⟨by have := HK1.out; have := HJ8.out; omega⟩, ⟨by (with_reducible repeat (first | apply Kd.R_alloc | apply Kd.R_drewN | apply Kd.R_drew)); exact Kd.R_mono HO_6.out (fun _ hk => hk.2)⟩, ⟨by (with_reducible repeat (first | apply Kd.R_alloc | apply Kd.R_drewN | apply Kd.R_drew)); exact HO191.out⟩, ⟨by repeat (first | (with_reducible first | exact HB.out | apply below_alloc | apply pw_below_drewN | apply below_drew1 | refine below_set ?_ GE185.out) | exact HB.out)⟩⟩
                      · rw [if_neg c16] at H
                        exact absurd H (by simp)
                    · replace c15 := Bool.eq_false_iff.mpr c15
                      subst c15
                      have H1 : (if ((rd_T58 l0 x18_1).f1).toList = ([41] : List UInt8) then (lex_Pairs.j2 kj8 l0 y186 x7_1 x18_1 l0 (l0.length : Int) x18_1 (((rd_T58 l0 x18_1).f1).toList == ([41] : List UInt8)) ((rd_T58 l0 x18_1).f0) ((rd_T58 l0 x18_1).f1) ((rd_T58 l0 x18_1).f2)) else (lex_Pairs.j2 kj8 l0 y186 x7_1 x18_1 l0 (l0.length : Int) x18_1 (((rd_T58 l0 x18_1).f1).toList == ([125] : List UInt8)) ((rd_T58 l0 x18_1).f0) ((rd_T58 l0 x18_1).f1) ((rd_T58 l0 x18_1).f2))) = some (r1, r2, r3) := by rw [if_neg (show ¬ (false = true) by decide)] at H; exact H
                      clear H
                      have H := H1
                      clear H1
                      have HC18 := Aside0.mk H
                      clear H
                      go_upto_if 35 with (fail)
                      go_cut [35] (fun v35 wc => ∃ (kq : Nat) (x35_17 : Bool), v35 = .bool x35_17 ∧ Aside0 (lex_Pairs.j2 kq l0 y186 x7_1 x18_1 l0 (l0.length : Int) x18_1 x35_17 ((rd_T58 l0 x18_1).f0) ((rd_T58 l0 x18_1).f1) ((rd_T58 l0 x18_1).f2) = some (r1, r2, r3)) ∧ Aside0 (kq ≤ kj8) ∧ Aside0 (Kd.R (Kd.int .i64) 3 wc w.heap.size (fun k_ => some k_ ≠ (u7 : Value).ownBlock) v187 y186) ∧ Aside0 (Kd.R (Kd.int .i64) 3 wc w.heap.size (fun k_ => some k_ ≠ (v187 : Value).ownBlock) u7 x7_1) ∧ Aside0 (wc.heap[gb185]? = some (.cells #[.int .u8 ((rd_T58 l0 x18_1).f0), .string ((rd_T58 l0 x18_1).f1), .int .i64 ((rd_T58 l0 x18_1).f2)] 58 (0, 0))) ∧ Aside0 (Below w.heap.size w wc))
                      case first =>
                        have H := HC18.out
                        clear HC18
                        by_cases c19 : ((rd_T58 l0 x18_1).f1).toList = ([41] : List UInt8)
                        · rw [if_pos c19] at H
                          have c19b0 : (((rd_T58 l0 x18_1).f1).toList == ([41] : List UInt8)) = true := beq_iff_eq.mpr c19
                          have c19b1 : (((rd_T58 l0 x18_1).f1).toList != ([41] : List UInt8)) = false := bne_eq_false_iff_eq.mpr c19
                          clear c19
                          (first | rw [c19b0] | (simp only [i64_w, i32_w]; rw [c19b0]) | skip)
                          have H' := Aside0.mk H
                          clear H
                          go_wp2
                          go_meet
                          case rel => exact ⟨_, ((((rd_T58 l0 x18_1).f1).toList == ([41] : List UInt8))), (by first | rfl | (simp; done) | (simp [*]; done)), H', ⟨by have := HK1.out; have := HJ8.out; first | omega | exact Nat.le_refl _⟩, ⟨by (with_reducible repeat (first | apply Kd.R_alloc | apply Kd.R_drewN | apply Kd.R_drew)); exact HO_6.out⟩, ⟨by (with_reducible repeat (first | apply Kd.R_alloc | apply Kd.R_drewN | apply Kd.R_drew)); exact HO_7.out⟩, ⟨by (with_reducible repeat (first | refine blk_drewN ?_ _ | refine blk_drew ?_ | refine blk_alloc ?_ _)); exact BK185.out⟩, ⟨by repeat (first | (with_reducible first | exact HB.out | apply below_alloc | apply pw_below_drewN | apply below_drew1 | refine below_set ?_ GE185.out) | exact HB.out)⟩⟩
                        · rw [if_neg c19] at H
                          have c19b0 : (((rd_T58 l0 x18_1).f1).toList == ([41] : List UInt8)) = false := beq_eq_false_iff_ne.mpr c19
                          have c19b1 : (((rd_T58 l0 x18_1).f1).toList != ([41] : List UInt8)) = true := bne_iff_ne.mpr c19
                          (first | rw [c19b0] | (simp only [i64_w, i32_w]; rw [c19b0]) | skip)
                          have H' := Aside0.mk H
                          clear H
                          go_wp2
                          go_meet
                          case rel => exact ⟨_, ((((rd_T58 l0 x18_1).f1).toList == ([125] : List UInt8))), (by first | rfl | (simp; done) | (simp [*]; done)), H', ⟨by have := HK1.out; have := HJ8.out; first | omega | exact Nat.le_refl _⟩, ⟨by (with_reducible repeat (first | apply Kd.R_alloc | apply Kd.R_drewN | apply Kd.R_drew)); exact HO_6.out⟩, ⟨by (with_reducible repeat (first | apply Kd.R_alloc | apply Kd.R_drewN | apply Kd.R_drew)); exact HO_7.out⟩, ⟨by (with_reducible repeat (first | refine blk_drewN ?_ _ | refine blk_drew ?_ | refine blk_alloc ?_ _)); exact BK185.out⟩, ⟨by repeat (first | (with_reducible first | exact HB.out | apply below_alloc | apply pw_below_drewN | apply below_drew1 | refine below_set ?_ GE185.out) | exact HB.out)⟩⟩
                      case rest =>
                        clear HC18
                        try clear c1
                        try clear p1
                        try clear q1
                        try clear hx1
                        try clear p2
                        try clear c3
                        try clear c3b0
                        try clear c3b1
                        try clear c5
                        try clear c5b0
                        try clear c6
                        try clear c6b0
                        try clear p6
                        try clear c7
                        try clear c7b0
                        try clear c8
                        try clear c14
                        try clear c14b0
                        try clear c14b1
                        try clear c15
                        try clear c16
                        try clear p18
                        try clear q18
                        try clear hx18
                        try clear c19
                        try clear c19b0
                        try clear c19b1
                        try clear hcz11_0
                        try clear hcz11_1
                        try clear hcz11_2
                        try clear hcz13_0
                        try clear hcz13_1
                        try clear hcz13_2
                        try clear hfz11_0
                        try clear hfz11_1
                        try clear hfz11_2
                        try clear hfz13_0
                        try clear hfz13_1
                        try clear hfz13_2
                        try clear hx184_0
                        try clear hx184_1
                        try clear hx184_2
                        try clear p1
                        try clear p184
                        try clear p2
                        try clear q1
                        try clear q184
                        obtain ⟨kq, x35_17, rfl, HA, HJ17, HO_6, HO_7, BK185, HB⟩ := hcut
                        cases kq with
                        | zero => exact absurd HA.out (by simp [lex_Pairs.j2])
                        | succ kj17 =>
                          have H := HA.out
                          clear HA
                          simp only [lex_Pairs.j2] at H
                          by_cases c20 : x35_17 = true
                          · subst c20
                            have H1 : (if (wrap64 ((x7_1.length : Int) - 1)) < 0 then (some (([] : List Int), x18_1, 4)) else (if 0 ≤ (wrap64 ((x7_1.length : Int) - 1)) then (if (wrap64 ((x7_1.length : Int) - 1)) < (x7_1.length : Int) then (if 0 ≤ (rd x7_1 (wrap64 ((x7_1.length : Int) - 1))) then (if (rd x7_1 (wrap64 ((x7_1.length : Int) - 1))) < (l0.length : Int) then (if ((((rd_T58 l0 (rd x7_1 (wrap64 ((x7_1.length : Int) - 1)))).f1).toList == ([40] : List UInt8)) != (((rd_T58 l0 x18_1).f1).toList == ([41] : List UInt8))) = true then (some (([] : List Int), x18_1, 4)) else (if 0 ≤ x18_1 then (if x18_1 < (y186.length : Int) then (if (rd x7_1 (wrap64 ((x7_1.length : Int) - 1))) < (y186.length : Int) then (if (wrap64 ((x7_1.length : Int) - 1)) ≤ (x7_1.length : Int) then (lex_Pairs.l0 kj17 l0 ((y186.set (x18_1 : Int).toNat (rd x7_1 (wrap64 ((x7_1.length : Int) - 1)))).set ((rd x7_1 (wrap64 ((x7_1.length : Int) - 1))) : Int).toNat x18_1) (x7_1.take ((wrap64 ((x7_1.length : Int) - 1)) : Int).toNat) l0 (l0.length : Int) (wrap64 (x18_1 + 1))) else (none)) else (none)) else (none)) else (none))) else (none)) else (none)) else (none)) else (none))) = some (r1, r2, r3) := by rw [if_pos rfl] at H; exact H
                            clear H
                            have H := H1
                            clear H1
                            by_cases c21 : (wrap64 ((x7_1.length : Int) - 1)) < 0
                            · rw [if_pos c21] at H
                              have c21b0 : decide ((wrap64 ((x7_1.length : Int) - 1)) < 0) = true := decide_eq_true c21
                              clear c21
                              simp only [Option.some.injEq, Prod.mk.injEq] at H
                              obtain ⟨rfl, rfl, rfl⟩ := H
                              obtain ⟨Ao22, co22, eo22⟩ := Kd.R_slice HO_7.out
                              subst eo22
                              try go_wp2
                              have n0_ := Aside0.mk (Kd.R_drew HO_6.out)
                              have n1_ := Aside0.mk (Kd.R_drew HO_7.out)
                              have n2_ := Aside0.mk (blk_drew BK185.out)
                              have n3_ := Aside0.mk (below_drew1 HB.out)
                              clear HO_6
                              clear HO_7
                              clear BK185
                              clear HB
                              have HO_6 := n0_
                              have HO_7 := n1_
                              have BK185 := n2_
                              have HB := n3_
                              clear n0_ n1_ n2_ n3_
                              refine start_ (n := 17) (S := fun w' => True) (ds := []) #[false, false, false, false, false, false, false, false, false, false, false, false, false, false, false, false, false] (by kernel_rfl) rfl rfl trivial (fun hHeld => ?_); refine with_tabW lex_Pairs.tab16 lex_Pairs.bits16 (fun HT_ HW_ => ?_)
                              generalize wc.drew = w23 at HO_6 HO_7 BK185 HB hHeld ⊢
                              refine pure_ (i := 0) (N := some 41) (v := ?_) (a' := ?_) #[true, false, false, false, false, false, false, false, false, false, false, false, false, false, false, false, false] rfl rfl (any_of HT_.out (by kernel_rfl)) (fun _ _ _ h => h) (Or.inl ⟨by rfl, ?_⟩) ?_ ?_
                              rotate_left
                              · intro w'
                                go_simp
                                with_reducible rfl
                              rotate_left
                              · simp only [Act.put, List.setIfInBounds_toArray, List.set_cons_zero, List.set_cons_succ, i64_w, i32_w]
                                rfl
                              refine pure_ (i := 1) (N := some 42) (v := ?_) (a' := ?_) #[true, true, false, false, false, false, false, false, false, false, false, false, false, false, false, false, false] rfl rfl (any_of HT_.out (by kernel_rfl)) (fun _ _ _ h => h) (Or.inl ⟨by rfl, ?_⟩) ?_ ?_
                              rotate_left
                              · intro w'
                                go_simp
                                with_reducible rfl
                              rotate_left
                              · simp only [Act.put, List.setIfInBounds_toArray, List.set_cons_zero, List.set_cons_succ, i64_w, i32_w]
                                rfl
                              refine pure_ (i := 2) (N := some 43) (v := ?_) (a' := ?_) #[true, true, true, false, false, false, false, false, false, false, false, false, false, false, false, false, false] rfl rfl (any_of HT_.out (by kernel_rfl)) (fun _ _ _ h => h) (Or.inl ⟨by rfl, ?_⟩) ?_ ?_
                              rotate_left
                              · intro w'
                                go_simp
                                with_reducible rfl
                              rotate_left
                              · simp only [Act.put, List.setIfInBounds_toArray, List.set_cons_zero, List.set_cons_succ, i64_w, i32_w]
                                rfl
                              refine pure_ (i := 3) (N := some 44) (v := undef) (a' := ?_) #[true, true, true, true, false, false, false, false, false, false, false, false, false, false, false, false, false] rfl rfl (any_of HT_.out (by kernel_rfl)) (fun _ _ _ h => h) (Or.inr ⟨by rfl, rfl⟩) ?_ ?_
                              rotate_left
                              · simp only [Act.put, List.setIfInBounds_toArray, List.set_cons_zero, List.set_cons_succ, i64_w, i32_w]
                                rfl
                              refine pure_ (i := 4) (N := some 45) (v := undef) (a' := ?_) #[true, true, true, true, true, false, false, false, false, false, false, false, false, false, false, false, false] rfl rfl (any_of HT_.out (by kernel_rfl)) (fun _ _ _ h => h) (Or.inr ⟨by rfl, rfl⟩) ?_ ?_
                              rotate_left
                              · simp only [Act.put, List.setIfInBounds_toArray, List.set_cons_zero, List.set_cons_succ, i64_w, i32_w]
                                rfl
                              refine pure_ (i := 5) (N := some 46) (v := undef) (a' := ?_) #[true, true, true, true, true, true, false, false, false, false, false, false, false, false, false, false, false] rfl rfl (any_of HT_.out (by kernel_rfl)) (fun _ _ _ h => h) (Or.inr ⟨by rfl, rfl⟩) ?_ ?_
                              rotate_left
                              · simp only [Act.put, List.setIfInBounds_toArray, List.set_cons_zero, List.set_cons_succ, i64_w, i32_w]
                                rfl
                              refine pure_ (i := 6) (N := some 47) (v := undef) (a' := ?_) #[true, true, true, true, true, true, true, false, false, false, false, false, false, false, false, false, false] rfl rfl (any_of HT_.out (by kernel_rfl)) (fun _ _ _ h => h) (Or.inr ⟨by rfl, rfl⟩) ?_ ?_
                              rotate_left
                              · simp only [Act.put, List.setIfInBounds_toArray, List.set_cons_zero, List.set_cons_succ, i64_w, i32_w]
                                rfl
                              refine pure_ (i := 7) (N := some 48) (v := undef) (a' := ?_) #[true, true, true, true, true, true, true, true, false, false, false, false, false, false, false, false, false] rfl rfl (any_of HT_.out (by kernel_rfl)) (fun _ _ _ h => h) (Or.inr ⟨by rfl, rfl⟩) ?_ ?_
                              rotate_left
                              · simp only [Act.put, List.setIfInBounds_toArray, List.set_cons_zero, List.set_cons_succ, i64_w, i32_w]
                                rfl
                              refine pure_ (i := 8) (N := some 49) (v := undef) (a' := ?_) #[true, true, true, true, true, true, true, true, true, false, false, false, false, false, false, false, false] rfl rfl (any_of HT_.out (by kernel_rfl)) (fun _ _ _ h => h) (Or.inr ⟨by rfl, rfl⟩) ?_ ?_
                              rotate_left
                              · simp only [Act.put, List.setIfInBounds_toArray, List.set_cons_zero, List.set_cons_succ, i64_w, i32_w]
                                rfl
                              refine pure_ (i := 9) (N := some 50) (v := undef) (a' := ?_) #[true, true, true, true, true, true, true, true, true, true, false, false, false, false, false, false, false] rfl rfl (any_of HT_.out (by kernel_rfl)) (fun _ _ _ h => h) (Or.inr ⟨by rfl, rfl⟩) ?_ ?_
                              rotate_left
                              · simp only [Act.put, List.setIfInBounds_toArray, List.set_cons_zero, List.set_cons_succ, i64_w, i32_w]
                                rfl
                              refine pure_ (i := 10) (N := some 51) (v := undef) (a' := ?_) #[true, true, true, true, true, true, true, true, true, true, true, false, false, false, false, false, false] rfl rfl (any_of HT_.out (by kernel_rfl)) (fun _ _ _ h => h) (Or.inr ⟨by rfl, rfl⟩) ?_ ?_
                              rotate_left
                              · simp only [Act.put, List.setIfInBounds_toArray, List.set_cons_zero, List.set_cons_succ, i64_w, i32_w]
                                rfl
                              refine pure_ (i := 11) (N := some 52) (v := undef) (a' := ?_) #[true, true, true, true, true, true, true, true, true, true, true, true, false, false, false, false, false] rfl rfl (any_of HT_.out (by kernel_rfl)) (fun _ _ _ h => h) (Or.inr ⟨by rfl, rfl⟩) ?_ ?_
                              rotate_left
                              · simp only [Act.put, List.setIfInBounds_toArray, List.set_cons_zero, List.set_cons_succ, i64_w, i32_w]
                                rfl
                              refine pure_ (i := 12) (N := some 53) (v := undef) (a' := ?_) #[true, true, true, true, true, true, true, true, true, true, true, true, true, false, false, false, false] rfl rfl (any_of HT_.out (by kernel_rfl)) (fun _ _ _ h => h) (Or.inr ⟨by rfl, rfl⟩) ?_ ?_
                              rotate_left
                              · simp only [Act.put, List.setIfInBounds_toArray, List.set_cons_zero, List.set_cons_succ, i64_w, i32_w]
                                rfl
                              refine pure_ (i := 13) (N := some 54) (v := undef) (a' := ?_) #[true, true, true, true, true, true, true, true, true, true, true, true, true, true, false, false, false] rfl rfl (any_of HT_.out (by kernel_rfl)) (fun _ _ _ h => h) (Or.inr ⟨by rfl, rfl⟩) ?_ ?_
                              rotate_left
                              · simp only [Act.put, List.setIfInBounds_toArray, List.set_cons_zero, List.set_cons_succ, i64_w, i32_w]
                                rfl
                              refine pure_ (i := 14) (N := some 55) (v := undef) (a' := ?_) #[true, true, true, true, true, true, true, true, true, true, true, true, true, true, true, false, false] rfl rfl (any_of HT_.out (by kernel_rfl)) (fun _ _ _ h => h) (Or.inr ⟨by rfl, rfl⟩) ?_ ?_
                              rotate_left
                              · simp only [Act.put, List.setIfInBounds_toArray, List.set_cons_zero, List.set_cons_succ, i64_w, i32_w]
                                rfl
                              refine pure_ (i := 15) (N := some 56) (v := undef) (a' := ?_) #[true, true, true, true, true, true, true, true, true, true, true, true, true, true, true, true, false] rfl rfl (any_of HT_.out (by kernel_rfl)) (fun _ _ _ h => h) (Or.inr ⟨by rfl, rfl⟩) ?_ ?_
                              rotate_left
                              · simp only [Act.put, List.setIfInBounds_toArray, List.set_cons_zero, List.set_cons_succ, i64_w, i32_w]
                                rfl
                              refine pure_ (i := 16) (N := some 57) (v := ?_) (a' := ?_) #[true, true, true, true, true, true, true, true, true, true, true, true, true, true, true, true, true] rfl rfl (any_of HT_.out (by kernel_rfl)) (fun _ _ _ h => h) (Or.inl ⟨by rfl, ?_⟩) ?_ ?_
                              rotate_left
                              · intro w'
                                go_simp
                                with_reducible rfl
                              rotate_left
                              · simp only [Act.put, List.setIfInBounds_toArray, List.set_cons_zero, List.set_cons_succ, i64_w, i32_w]
                                rfl
                              refine done_ (done_of HT_.out (by kernel_rfl)) ?_
                              try go_wp2
                              go_ret3
                              exact ⟨_, by first | rfl | (simp [errW_none, errW_some] <;> rfl) | (simp [*, errW_none, errW_some] <;> rfl), by first | exact Kd.R_nil _ _ _ _ _ | exact Kd.N_nil _ _ _ _ _ | exact Kd.V_nil _ _ _ _ _ | exact Kd.Q_nil _ _ _ _ _ | exact Kd.S_nil _ _ _ _ _, by repeat (first | (with_reducible first | exact HB.out | apply below_alloc | apply pw_below_drewN | apply below_drew1 | refine below_set ?_ GE185.out) | exact HB.out)⟩
                            · rw [if_neg c21] at H
                              have c21b0 : decide ((wrap64 ((x7_1.length : Int) - 1)) < 0) = false := decide_eq_false c21
                              clear c21
                              obtain ⟨ji24, hji24⟩ : ∃ j_ : Int, (wrap64 ((x7_1.length : Int) - 1)) = j_ := ⟨_, rfl⟩
                              replace H : (if 0 ≤ (ji24) then (if (ji24) < (x7_1.length : Int) then (if 0 ≤ (rd x7_1 (ji24)) then (if (rd x7_1 (ji24)) < (l0.length : Int) then (if ((((rd_T58 l0 (rd x7_1 (ji24))).f1).toList == ([40] : List UInt8)) != (((rd_T58 l0 x18_1).f1).toList == ([41] : List UInt8))) = true then (some (([] : List Int), x18_1, 4)) else (if 0 ≤ x18_1 then (if x18_1 < (y186.length : Int) then (if (rd x7_1 (ji24)) < (y186.length : Int) then (if (ji24) ≤ (x7_1.length : Int) then (lex_Pairs.l0 kj17 l0 ((y186.set (x18_1 : Int).toNat (rd x7_1 (ji24))).set ((rd x7_1 (ji24)) : Int).toNat x18_1) (x7_1.take ((ji24) : Int).toNat) l0 (l0.length : Int) (wrap64 (x18_1 + 1))) else (none)) else (none)) else (none)) else (none))) else (none)) else (none)) else (none)) else (none)) = some (r1, r2, r3) := by first | (rw [hji24] at H; exact H) | (simp only [hji24] at H ⊢; exact H)
                              (try rw [hji24] at c21b0)
                              have hji24w : (IntKind.i64.wrap ((x7_1.length : Int) - 1)) = ji24 := (i64_w _).trans hji24
                              by_cases c25 : 0 ≤ (ji24)
                              · rw [if_pos c25] at H
                                have c25b0 : decide (0 ≤ (ji24)) = true := decide_eq_true c25
                                clear c25
                                by_cases c26 : (ji24) < (x7_1.length : Int)
                                · rw [if_pos c26] at H
                                  have c26b0 : decide ((ji24) < (x7_1.length : Int)) = true := decide_eq_true c26
                                  clear c26
                                  by_cases c27 : 0 ≤ (rd x7_1 (ji24))
                                  · rw [if_pos c27] at H
                                    have c27b0 : decide (0 ≤ (rd x7_1 (ji24))) = true := decide_eq_true c27
                                    clear c27
                                    by_cases c28 : (rd x7_1 (ji24)) < (l0.length : Int)
                                    · rw [if_pos c28] at H
                                      have c28b0 : decide ((rd x7_1 (ji24)) < (l0.length : Int)) = true := decide_eq_true c28
                                      clear c28
                                      by_cases c29 : ((((rd_T58 l0 (rd x7_1 (ji24))).f1).toList == ([40] : List UInt8)) != (((rd_T58 l0 x18_1).f1).toList == ([41] : List UInt8))) = true
                                      · rw [if_pos c29] at H
                                        have c29b0 : ((((rd_T58 l0 (rd x7_1 (ji24))).f1).toList == ([40] : List UInt8)) != (((rd_T58 l0 x18_1).f1).toList == ([41] : List UInt8))) = true := c29
                                        (try (have c29b1 : decide ((((rd_T58 l0 (rd x7_1 (ji24))).f1).toList == ([40] : List UInt8)) = (((rd_T58 l0 x18_1).f1).toList == ([41] : List UInt8))) = false := by simpa using c29))
                                        (try (have c29b2 : ((((rd_T58 l0 (rd x7_1 (ji24))).f1).toList == ([40] : List UInt8)) == (((rd_T58 l0 x18_1).f1).toList == ([41] : List UInt8))) = false := by simpa using c29))
                                        (try (have c29b3 : ¬ ((((rd_T58 l0 (rd x7_1 (ji24))).f1).toList == ([40] : List UInt8)) = (((rd_T58 l0 x18_1).f1).toList == ([41] : List UInt8))) := by simpa using c29))
                                        clear c29
                                        simp only [Option.some.injEq, Prod.mk.injEq] at H
                                        obtain ⟨rfl, rfl, rfl⟩ := H
                                        obtain ⟨Ao30, co30, eo30⟩ := Kd.R_slice HO_7.out
                                        subst eo30
                                        try go_wp2
                                        have n0_ := Aside0.mk (Kd.R_drew HO_6.out)
                                        have n1_ := Aside0.mk (Kd.R_drew HO_7.out)
                                        have n2_ := Aside0.mk (blk_drew BK185.out)
                                        have n3_ := Aside0.mk (below_drew1 HB.out)
                                        clear HO_6
                                        clear HO_7
                                        clear BK185
                                        clear HB
                                        have HO_6 := n0_
                                        have HO_7 := n1_
                                        have BK185 := n2_
                                        have HB := n3_
                                        clear n0_ n1_ n2_ n3_
                                        have p192 : 0 ≤ ((ji24) : Int) := of_decide_eq_true (by first | (with_reducible assumption) | assumption)
                                        have q192 : (ji24) < (x7_1.length : Int) := of_decide_eq_true (by first | (with_reducible assumption) | assumption)
                                        obtain ⟨ad192, e192, hx192_0⟩ := Kd.at_int (Kd.R_reads' HO_7.out).2.2 (ji24) p192 q192
                                        cases e192
                                        replace p192 := eq_true p192
                                        replace q192 := eq_true q192
                                        have p193 : 0 ≤ ((rd x7_1 (ji24)) : Int) := of_decide_eq_true (by first | (with_reducible assumption) | assumption)
                                        have q193 : (rd x7_1 (ji24)) < (l0.length : Int) := of_decide_eq_true (by first | (with_reducible assumption) | assumption)
                                        obtain ⟨ad193, e193, hx193_0, hx193_1, hx193_2⟩ := at_T58 HR0.out (rd x7_1 (ji24)) p193 q193
                                        have hw193_2 := hx193_2
                                        have hw193_1 := hx193_1
                                        have hw193_0 := hx193_0
                                        obtain rfl : ad184 = ad193 := (by injection e193)
                                        replace hx193_0 := (HB.out.cell (World.block_lt_of_cell? w _ hx193_0)).trans hx193_0
                                        replace hx193_1 := (HB.out.cell (World.block_lt_of_cell? w _ hx193_1)).trans hx193_1
                                        replace hx193_2 := (HB.out.cell (World.block_lt_of_cell? w _ hx193_2)).trans hx193_2
                                        replace p193 := eq_true p193
                                        replace q193 := eq_true q193
                                        refine start_ (n := 17) (S := fun w' => w'.cell? ⟨gb185, 0, none⟩ = some (.int .u8 ((rd_T58 l0 x18_1).f0)) ∧ w'.cell? ⟨gb185, 1, none⟩ = some (.string ((rd_T58 l0 x18_1).f1)) ∧ w'.cell? ⟨gb185, 2, none⟩ = some (.int .i64 ((rd_T58 l0 x18_1).f2)) ∧ w'.cell? (ad192.add ((ji24)).toNat) = some (.int .i64 (rd x7_1 (ji24))) ∧ w'.cell? (ad184.add (((rd x7_1 (ji24))).toNat * 3)) = some (.int .u8 ((rd_T58 l0 (rd x7_1 (ji24))).f0)) ∧ w'.cell? ⟨(ad184.add (((rd x7_1 (ji24))).toNat * 3)).block, (ad184.add (((rd x7_1 (ji24))).toNat * 3)).off + 1, none⟩ = some (.string ((rd_T58 l0 (rd x7_1 (ji24))).f1)) ∧ w'.cell? ⟨(ad184.add (((rd x7_1 (ji24))).toNat * 3)).block, (ad184.add (((rd x7_1 (ji24))).toNat * 3)).off + 2, none⟩ = some (.int .i64 ((rd_T58 l0 (rd x7_1 (ji24))).f2))) (ds := []) #[false, false, false, false, false, false, false, false, false, false, false, false, false, false, false, false, false] (by kernel_rfl) rfl rfl ⟨(blk_cell BK185.out 0).trans rfl, (blk_cell BK185.out 1).trans rfl, (blk_cell BK185.out 2).trans rfl, hx192_0, ((HB.out.cell (World.block_lt_of_cell? w _ hw193_0)).trans hw193_0), ((HB.out.cell (World.block_lt_of_cell? w _ hw193_1)).trans hw193_1), ((HB.out.cell (World.block_lt_of_cell? w _ hw193_2)).trans hw193_2)⟩ (fun hHeld => ?_); refine with_tabW lex_Pairs.tab16 lex_Pairs.bits16 (fun HT_ HW_ => ?_)
                                        generalize wc.drew = w31 at HO_6 HO_7 BK185 HB hx192_0 hx193_0 hx193_1 hx193_2 hHeld ⊢
                                        refine pure_ (i := 0) (N := some 41) (v := ?_) (a' := ?_) #[true, false, false, false, false, false, false, false, false, false, false, false, false, false, false, false, false] rfl rfl (any_of HT_.out (by kernel_rfl)) (fun _ _ _ h => h) (Or.inl ⟨by rfl, ?_⟩) ?_ ?_
                                        rotate_left
                                        · intro w'
                                          go_simp
                                          with_reducible rfl
                                        rotate_left
                                        · simp only [Act.put, List.setIfInBounds_toArray, List.set_cons_zero, List.set_cons_succ, i64_w, i32_w]
                                          rfl
                                        refine pure_ (i := 1) (N := some 42) (v := ?_) (a' := ?_) #[true, true, false, false, false, false, false, false, false, false, false, false, false, false, false, false, false] rfl rfl (any_of HT_.out (by kernel_rfl)) (fun _ _ _ h => h) (Or.inl ⟨by rfl, ?_⟩) ?_ ?_
                                        rotate_left
                                        · intro w'
                                          go_simp
                                          with_reducible rfl
                                        rotate_left
                                        · simp only [Act.put, List.setIfInBounds_toArray, List.set_cons_zero, List.set_cons_succ, i64_w, i32_w]
                                          rfl
                                        refine pure_ (i := 2) (N := some 43) (v := ?_) (a' := ?_) #[true, true, true, false, false, false, false, false, false, false, false, false, false, false, false, false, false] rfl rfl (any_of HT_.out (by kernel_rfl)) (fun _ _ _ h => h) (Or.inl ⟨by rfl, ?_⟩) ?_ ?_
                                        rotate_left
                                        · intro w'
                                          go_simp
                                          with_reducible rfl
                                        rotate_left
                                        · simp only [Act.put, List.setIfInBounds_toArray, List.set_cons_zero, List.set_cons_succ, i64_w, i32_w]
                                          rfl
                                        refine pure_ (i := 3) (N := some 44) (v := ?_) (a' := ?_) #[true, true, true, true, false, false, false, false, false, false, false, false, false, false, false, false, false] rfl rfl (any_of HT_.out (by kernel_rfl)) (fun _ _ _ h => h) (Or.inl ⟨by rfl, ?_⟩) ?_ ?_
                                        rotate_left
                                        · intro w'
                                          go_simp
                                          with_reducible rfl
                                        rotate_left
                                        · simp only [Act.put, List.setIfInBounds_toArray, List.set_cons_zero, List.set_cons_succ, i64_w, i32_w]
                                          rfl
                                        refine pure_ (i := 4) (N := some 45) (v := ?_) (a' := ?_) #[true, true, true, true, true, false, false, false, false, false, false, false, false, false, false, false, false] rfl rfl (any_of HT_.out (by kernel_rfl)) (fun _ _ _ h => h) (Or.inl ⟨by rfl, ?_⟩) ?_ ?_
                                        rotate_left
                                        · intro w'
                                          go_simp
                                          with_reducible rfl
                                        rotate_left
                                        · simp only [Act.put, List.setIfInBounds_toArray, List.set_cons_zero, List.set_cons_succ, i64_w, i32_w]
                                          rfl
                                        refine pure_ (i := 5) (N := some 46) (v := ?_) (a' := ?_) #[true, true, true, true, true, true, false, false, false, false, false, false, false, false, false, false, false] rfl rfl (any_of HT_.out (by kernel_rfl)) (fun _ _ _ h => h) (Or.inl ⟨by rfl, ?_⟩) ?_ ?_
                                        rotate_left
                                        · intro w'
                                          go_simp
                                          with_reducible rfl
                                        rotate_left
                                        · simp only [Act.put, List.setIfInBounds_toArray, List.set_cons_zero, List.set_cons_succ, i64_w, i32_w]
                                          rfl
                                        refine pure_ (i := 6) (N := some 47) (v := ?_) (a' := ?_) #[true, true, true, true, true, true, true, false, false, false, false, false, false, false, false, false, false] rfl rfl (any_of HT_.out (by kernel_rfl)) (fun _ _ _ h => h) (Or.inl ⟨by rfl, ?_⟩) ?_ ?_
                                        rotate_left
                                        · intro w'
                                          go_simp
                                          with_reducible rfl
                                        rotate_left
                                        · simp only [Act.put, List.setIfInBounds_toArray, List.set_cons_zero, List.set_cons_succ, i64_w, i32_w]
                                          rfl
                                        refine pure_ (i := 12) (N := some 53) (v := ?_) (a' := ?_) #[true, true, true, true, true, true, true, false, false, false, false, false, true, false, false, false, false] rfl rfl (any_of HT_.out (by kernel_rfl)) (fun _ _ _ h => h) (Or.inl ⟨by rfl, ?_⟩) ?_ ?_
                                        rotate_left
                                        · intro w'
                                          go_simp
                                          with_reducible rfl
                                        rotate_left
                                        · simp only [Act.put, List.setIfInBounds_toArray, List.set_cons_zero, List.set_cons_succ, i64_w, i32_w]
                                          rfl
                                        refine take_ (i := 7) (N := some 48) (v := ?_) (a' := ?_) #[true, true, true, true, true, true, true, true, false, false, false, false, true, false, false, false, false] rfl rfl (take_ofW HT_.out HW_.out (by kernel_rfl)) (fun _ _ _ h => h) (Or.inl ⟨by rfl, ?_⟩) hHeld ?_ ?_
                                        rotate_left
                                        · rintro w' ⟨s0, s1, s2, s3, s4, s5, s6⟩
                                          go_simp
                                          with_reducible rfl
                                        rotate_left
                                        · simp only [Act.put, List.setIfInBounds_toArray, List.set_cons_zero, List.set_cons_succ, i64_w, i32_w]
                                          rfl
                                        refine pure_ (i := 8) (N := some 49) (v := ?_) (a' := ?_) #[true, true, true, true, true, true, true, true, true, false, false, false, true, false, false, false, false] rfl rfl (any_of HT_.out (by kernel_rfl)) (fun _ _ _ h => h) (Or.inl ⟨by rfl, ?_⟩) ?_ ?_
                                        rotate_left
                                        · intro w'
                                          go_simp
                                          with_reducible rfl
                                        rotate_left
                                        · simp only [Act.put, List.setIfInBounds_toArray, List.set_cons_zero, List.set_cons_succ, i64_w, i32_w]
                                          rfl
                                        refine pure_ (i := 9) (N := some 50) (v := ?_) (a' := ?_) #[true, true, true, true, true, true, true, true, true, true, false, false, true, false, false, false, false] rfl rfl (any_of HT_.out (by kernel_rfl)) (fun _ _ _ h => h) (Or.inl ⟨by rfl, ?_⟩) ?_ ?_
                                        rotate_left
                                        · intro w'
                                          go_simp
                                          with_reducible rfl
                                        rotate_left
                                        · simp only [Act.put, List.setIfInBounds_toArray, List.set_cons_zero, List.set_cons_succ, i64_w, i32_w]
                                          rfl
                                        refine take_ (i := 10) (N := some 51) (v := ?_) (a' := ?_) #[true, true, true, true, true, true, true, true, true, true, true, false, true, false, false, false, false] rfl rfl (take_ofW HT_.out HW_.out (by kernel_rfl)) (fun _ _ _ h => h) (Or.inl ⟨by rfl, ?_⟩) hHeld ?_ ?_
                                        rotate_left
                                        · rintro w' ⟨s0, s1, s2, s3, s4, s5, s6⟩
                                          go_simp
                                          with_reducible rfl
                                        rotate_left
                                        · simp only [Act.put, List.setIfInBounds_toArray, List.set_cons_zero, List.set_cons_succ, i64_w, i32_w]
                                          rfl
                                        refine pure_ (i := 11) (N := some 52) (v := ?_) (a' := ?_) #[true, true, true, true, true, true, true, true, true, true, true, true, true, false, false, false, false] rfl rfl (any_of HT_.out (by kernel_rfl)) (fun _ _ _ h => h) (Or.inl ⟨by rfl, ?_⟩) ?_ ?_
                                        rotate_left
                                        · intro w'
                                          go_simp
                                          with_reducible rfl
                                        rotate_left
                                        · simp only [Act.put, List.setIfInBounds_toArray, List.set_cons_zero, List.set_cons_succ, i64_w, i32_w]
                                          rfl
                                        refine take_ (i := 13) (N := some 54) (v := ?_) (a' := ?_) #[true, true, true, true, true, true, true, true, true, true, true, true, true, true, false, false, false] rfl rfl (take_ofW HT_.out HW_.out (by kernel_rfl)) (fun _ _ _ h => h) (Or.inl ⟨by rfl, ?_⟩) hHeld ?_ ?_
                                        rotate_left
                                        · rintro w' ⟨s0, s1, s2, s3, s4, s5, s6⟩
                                          go_simp
                                          with_reducible rfl
                                        rotate_left
                                        · simp only [Act.put, List.setIfInBounds_toArray, List.set_cons_zero, List.set_cons_succ, i64_w, i32_w]
                                          rfl
                                        refine pure_ (i := 14) (N := some 55) (v := ?_) (a' := ?_) #[true, true, true, true, true, true, true, true, true, true, true, true, true, true, true, false, false] rfl rfl (any_of HT_.out (by kernel_rfl)) (fun _ _ _ h => h) (Or.inl ⟨by rfl, ?_⟩) ?_ ?_
                                        rotate_left
                                        · intro w'
                                          go_simp
                                          with_reducible rfl
                                        rotate_left
                                        · simp only [Act.put, List.setIfInBounds_toArray, List.set_cons_zero, List.set_cons_succ, i64_w, i32_w]
                                          rfl
                                        refine pure_ (i := 15) (N := some 56) (v := ?_) (a' := ?_) #[true, true, true, true, true, true, true, true, true, true, true, true, true, true, true, true, false] rfl rfl (any_of HT_.out (by kernel_rfl)) (fun _ _ _ h => h) (Or.inl ⟨by rfl, ?_⟩) ?_ ?_
                                        rotate_left
                                        · intro w'
                                          go_simp
                                          with_reducible rfl
                                        rotate_left
                                        · simp only [Act.put, List.setIfInBounds_toArray, List.set_cons_zero, List.set_cons_succ, i64_w, i32_w]
                                          rfl
                                        refine pure_ (i := 16) (N := some 57) (v := ?_) (a' := ?_) #[true, true, true, true, true, true, true, true, true, true, true, true, true, true, true, true, true] rfl rfl (any_of HT_.out (by kernel_rfl)) (fun _ _ _ h => h) (Or.inl ⟨by rfl, ?_⟩) ?_ ?_
                                        rotate_left
                                        · intro w'
                                          go_simp
                                          with_reducible rfl
                                        rotate_left
                                        · simp only [Act.put, List.setIfInBounds_toArray, List.set_cons_zero, List.set_cons_succ, i64_w, i32_w]
                                          rfl
                                        refine done_ (done_of HT_.out (by kernel_rfl)) ?_
                                        try go_wp2
                                        go_ret3
                                        exact ⟨_, by first | rfl | (simp [errW_none, errW_some] <;> rfl) | (simp only [← hji24]; first | rfl | (simp [errW_none, errW_some] <;> rfl)) | (simp [*, errW_none, errW_some] <;> rfl), by first | exact Kd.R_nil _ _ _ _ _ | exact Kd.N_nil _ _ _ _ _ | exact Kd.V_nil _ _ _ _ _ | exact Kd.Q_nil _ _ _ _ _ | exact Kd.S_nil _ _ _ _ _, by repeat (first | (with_reducible first | exact HB.out | apply below_alloc | apply pw_below_drewN | apply below_drew1 | refine below_set ?_ GE185.out) | exact HB.out)⟩
                                      · rw [if_neg c29] at H
                                        have c29b0 : ((((rd_T58 l0 (rd x7_1 (ji24))).f1).toList == ([40] : List UInt8)) != (((rd_T58 l0 x18_1).f1).toList == ([41] : List UInt8))) = false := by simpa using c29
                                        (try (have c29b1 : decide ((((rd_T58 l0 (rd x7_1 (ji24))).f1).toList == ([40] : List UInt8)) = (((rd_T58 l0 x18_1).f1).toList == ([41] : List UInt8))) = true := by simpa using c29))
                                        (try (have c29b2 : ((((rd_T58 l0 (rd x7_1 (ji24))).f1).toList == ([40] : List UInt8)) == (((rd_T58 l0 x18_1).f1).toList == ([41] : List UInt8))) = true := by simpa using c29))
                                        clear c29
                                        by_cases c32 : 0 ≤ x18_1
                                        · rw [if_pos c32] at H
                                          have c32b0 : decide (0 ≤ x18_1) = true := decide_eq_true c32
                                          clear c32
                                          by_cases c33 : x18_1 < (y186.length : Int)
                                          · rw [if_pos c33] at H
                                            have c33b0 : decide (x18_1 < (y186.length : Int)) = true := decide_eq_true c33
                                            clear c33
                                            obtain ⟨y196, hy196⟩ : ∃ y_ : List Int, y_ = (y186.set (x18_1 : Int).toNat (rd x7_1 (ji24))) := ⟨_, rfl⟩
                                            replace H : (if (rd x7_1 (ji24)) < (y186.length : Int) then (if (ji24) ≤ (x7_1.length : Int) then (lex_Pairs.l0 kj17 l0 (y196.set ((rd x7_1 (ji24)) : Int).toNat x18_1) (x7_1.take ((ji24) : Int).toNat) l0 (l0.length : Int) (wrap64 (x18_1 + 1))) else (none)) else (none)) = some (r1, r2, r3) := by first | (rw [hy196]; with_reducible exact H) | (have H2_ := (Option.bind_some _ _).symm.trans H; rw [hy196]; with_reducible exact H2_) | (have H2_ := (Option.bind_some _ _).symm.trans H; with_reducible exact H2_) | with_reducible exact H | (rw [hy196]; exact H) | exact H
                                            have Ny196 := Aside0.mk hy196
                                            clear hy196
                                            by_cases c35 : (rd x7_1 (ji24)) < (y186.length : Int)
                                            · rw [if_pos c35] at H
                                              have c35b0 : decide ((rd x7_1 (ji24)) < (y186.length : Int)) = true := decide_eq_true c35
                                              clear c35
                                              obtain ⟨y197, hy197⟩ : ∃ y_ : List Int, y_ = (y196.set ((rd x7_1 (ji24)) : Int).toNat x18_1) := ⟨_, rfl⟩
                                              replace H : (if (ji24) ≤ (x7_1.length : Int) then (lex_Pairs.l0 kj17 l0 y197 (x7_1.take ((ji24) : Int).toNat) l0 (l0.length : Int) (wrap64 (x18_1 + 1))) else (none)) = some (r1, r2, r3) := by first | (rw [hy197]; with_reducible exact H) | (have H2_ := (Option.bind_some _ _).symm.trans H; rw [hy197]; with_reducible exact H2_) | (have H2_ := (Option.bind_some _ _).symm.trans H; with_reducible exact H2_) | with_reducible exact H | (rw [hy197]; exact H) | exact H
                                              have Ny197 := Aside0.mk hy197
                                              clear hy197
                                              by_cases c37 : (ji24) ≤ (x7_1.length : Int)
                                              · rw [if_pos c37] at H
                                                have c37b0 := eq_true c37
                                                have c37b1 : decide ((ji24) ≤ (x7_1.length : Int)) = true := decide_eq_true c37
                                                clear c37
                                                obtain ⟨y198, hy198⟩ : ∃ y_ : List Int, y_ = (x7_1.take ((ji24) : Int).toNat) := ⟨_, rfl⟩
                                                replace H : (lex_Pairs.l0 kj17 l0 y197 y198 l0 (l0.length : Int) (wrap64 (x18_1 + 1))) = some (r1, r2, r3) := by first | (rw [hy198]; with_reducible exact H) | (have H2_ := (Option.bind_some _ _).symm.trans H; rw [hy198]; with_reducible exact H2_) | (have H2_ := (Option.bind_some _ _).symm.trans H; with_reducible exact H2_) | with_reducible exact H | (rw [hy198]; exact H) | exact H
                                                have Ny198 := Aside0.mk hy198
                                                clear hy198
                                                have H' := Aside0.mk H
                                                clear H
                                                obtain ⟨Ao38, co38, eo38⟩ := Kd.R_slice HO_7.out
                                                subst eo38
                                                try go_wp2
                                                have n0_ := Aside0.mk (Kd.R_drew HO_6.out)
                                                have n1_ := Aside0.mk (Kd.R_drew HO_7.out)
                                                have n2_ := Aside0.mk (blk_drew BK185.out)
                                                have n3_ := Aside0.mk (below_drew1 HB.out)
                                                clear HO_6
                                                clear HO_7
                                                clear BK185
                                                clear HB
                                                have HO_6 := n0_
                                                have HO_7 := n1_
                                                have BK185 := n2_
                                                have HB := n3_
                                                clear n0_ n1_ n2_ n3_
                                                have p192 : 0 ≤ ((ji24) : Int) := of_decide_eq_true (by first | (with_reducible assumption) | assumption)
                                                have q192 : (ji24) < (x7_1.length : Int) := of_decide_eq_true (by first | (with_reducible assumption) | assumption)
                                                obtain ⟨ad192, e192, hx192_0⟩ := Kd.at_int (Kd.R_reads' HO_7.out).2.2 (ji24) p192 q192
                                                cases e192
                                                replace p192 := eq_true p192
                                                replace q192 := eq_true q192
                                                have p193 : 0 ≤ ((rd x7_1 (ji24)) : Int) := of_decide_eq_true (by first | (with_reducible assumption) | assumption)
                                                have q193 : (rd x7_1 (ji24)) < (l0.length : Int) := of_decide_eq_true (by first | (with_reducible assumption) | assumption)
                                                obtain ⟨ad193, e193, hx193_0, hx193_1, hx193_2⟩ := at_T58 HR0.out (rd x7_1 (ji24)) p193 q193
                                                have hw193_2 := hx193_2
                                                have hw193_1 := hx193_1
                                                have hw193_0 := hx193_0
                                                obtain rfl : ad184 = ad193 := (by injection e193)
                                                replace hx193_0 := (HB.out.cell (World.block_lt_of_cell? w _ hx193_0)).trans hx193_0
                                                replace hx193_1 := (HB.out.cell (World.block_lt_of_cell? w _ hx193_1)).trans hx193_1
                                                replace hx193_2 := (HB.out.cell (World.block_lt_of_cell? w _ hx193_2)).trans hx193_2
                                                replace p193 := eq_true p193
                                                replace q193 := eq_true q193
                                                refine start_ (n := 17) (S := fun w' => w'.cell? ⟨gb185, 0, none⟩ = some (.int .u8 ((rd_T58 l0 x18_1).f0)) ∧ w'.cell? ⟨gb185, 1, none⟩ = some (.string ((rd_T58 l0 x18_1).f1)) ∧ w'.cell? ⟨gb185, 2, none⟩ = some (.int .i64 ((rd_T58 l0 x18_1).f2)) ∧ w'.cell? (ad192.add ((ji24)).toNat) = some (.int .i64 (rd x7_1 (ji24))) ∧ w'.cell? (ad184.add (((rd x7_1 (ji24))).toNat * 3)) = some (.int .u8 ((rd_T58 l0 (rd x7_1 (ji24))).f0)) ∧ w'.cell? ⟨(ad184.add (((rd x7_1 (ji24))).toNat * 3)).block, (ad184.add (((rd x7_1 (ji24))).toNat * 3)).off + 1, none⟩ = some (.string ((rd_T58 l0 (rd x7_1 (ji24))).f1)) ∧ w'.cell? ⟨(ad184.add (((rd x7_1 (ji24))).toNat * 3)).block, (ad184.add (((rd x7_1 (ji24))).toNat * 3)).off + 2, none⟩ = some (.int .i64 ((rd_T58 l0 (rd x7_1 (ji24))).f2))) (ds := []) #[false, false, false, false, false, false, false, false, false, false, false, false, false, false, false, false, false] (by kernel_rfl) rfl rfl ⟨(blk_cell BK185.out 0).trans rfl, (blk_cell BK185.out 1).trans rfl, (blk_cell BK185.out 2).trans rfl, hx192_0, ((HB.out.cell (World.block_lt_of_cell? w _ hw193_0)).trans hw193_0), ((HB.out.cell (World.block_lt_of_cell? w _ hw193_1)).trans hw193_1), ((HB.out.cell (World.block_lt_of_cell? w _ hw193_2)).trans hw193_2)⟩ (fun hHeld => ?_); refine with_tabW lex_Pairs.tab16 lex_Pairs.bits16 (fun HT_ HW_ => ?_)
                                                generalize wc.drew = w39 at HO_6 HO_7 BK185 HB hx192_0 hx193_0 hx193_1 hx193_2 hHeld ⊢
                                                refine pure_ (i := 0) (N := some 41) (v := ?_) (a' := ?_) #[true, false, false, false, false, false, false, false, false, false, false, false, false, false, false, false, false] rfl rfl (any_of HT_.out (by kernel_rfl)) (fun _ _ _ h => h) (Or.inl ⟨by rfl, ?_⟩) ?_ ?_
                                                rotate_left
                                                · intro w'
                                                  go_simp
                                                  with_reducible rfl
                                                rotate_left
                                                · simp only [Act.put, List.setIfInBounds_toArray, List.set_cons_zero, List.set_cons_succ, i64_w, i32_w]
                                                  rfl
                                                refine pure_ (i := 1) (N := some 42) (v := ?_) (a' := ?_) #[true, true, false, false, false, false, false, false, false, false, false, false, false, false, false, false, false] rfl rfl (any_of HT_.out (by kernel_rfl)) (fun _ _ _ h => h) (Or.inl ⟨by rfl, ?_⟩) ?_ ?_
                                                rotate_left
                                                · intro w'
                                                  go_simp
                                                  with_reducible rfl
                                                rotate_left
                                                · simp only [Act.put, List.setIfInBounds_toArray, List.set_cons_zero, List.set_cons_succ, i64_w, i32_w]
                                                  rfl
                                                refine pure_ (i := 2) (N := some 43) (v := ?_) (a' := ?_) #[true, true, true, false, false, false, false, false, false, false, false, false, false, false, false, false, false] rfl rfl (any_of HT_.out (by kernel_rfl)) (fun _ _ _ h => h) (Or.inl ⟨by rfl, ?_⟩) ?_ ?_
                                                rotate_left
                                                · intro w'
                                                  go_simp
                                                  with_reducible rfl
                                                rotate_left
                                                · simp only [Act.put, List.setIfInBounds_toArray, List.set_cons_zero, List.set_cons_succ, i64_w, i32_w]
                                                  rfl
                                                refine pure_ (i := 3) (N := some 44) (v := ?_) (a' := ?_) #[true, true, true, true, false, false, false, false, false, false, false, false, false, false, false, false, false] rfl rfl (any_of HT_.out (by kernel_rfl)) (fun _ _ _ h => h) (Or.inl ⟨by rfl, ?_⟩) ?_ ?_
                                                rotate_left
                                                · intro w'
                                                  go_simp
                                                  with_reducible rfl
                                                rotate_left
                                                · simp only [Act.put, List.setIfInBounds_toArray, List.set_cons_zero, List.set_cons_succ, i64_w, i32_w]
                                                  rfl
                                                refine pure_ (i := 4) (N := some 45) (v := ?_) (a' := ?_) #[true, true, true, true, true, false, false, false, false, false, false, false, false, false, false, false, false] rfl rfl (any_of HT_.out (by kernel_rfl)) (fun _ _ _ h => h) (Or.inl ⟨by rfl, ?_⟩) ?_ ?_
                                                rotate_left
                                                · intro w'
                                                  go_simp
                                                  with_reducible rfl
                                                rotate_left
                                                · simp only [Act.put, List.setIfInBounds_toArray, List.set_cons_zero, List.set_cons_succ, i64_w, i32_w]
                                                  rfl
                                                refine pure_ (i := 5) (N := some 46) (v := ?_) (a' := ?_) #[true, true, true, true, true, true, false, false, false, false, false, false, false, false, false, false, false] rfl rfl (any_of HT_.out (by kernel_rfl)) (fun _ _ _ h => h) (Or.inl ⟨by rfl, ?_⟩) ?_ ?_
                                                rotate_left
                                                · intro w'
                                                  go_simp
                                                  with_reducible rfl
                                                rotate_left
                                                · simp only [Act.put, List.setIfInBounds_toArray, List.set_cons_zero, List.set_cons_succ, i64_w, i32_w]
                                                  rfl
                                                refine pure_ (i := 6) (N := some 47) (v := ?_) (a' := ?_) #[true, true, true, true, true, true, true, false, false, false, false, false, false, false, false, false, false] rfl rfl (any_of HT_.out (by kernel_rfl)) (fun _ _ _ h => h) (Or.inl ⟨by rfl, ?_⟩) ?_ ?_
                                                rotate_left
                                                · intro w'
                                                  go_simp
                                                  with_reducible rfl
                                                rotate_left
                                                · simp only [Act.put, List.setIfInBounds_toArray, List.set_cons_zero, List.set_cons_succ, i64_w, i32_w]
                                                  rfl
                                                refine pure_ (i := 12) (N := some 53) (v := ?_) (a' := ?_) #[true, true, true, true, true, true, true, false, false, false, false, false, true, false, false, false, false] rfl rfl (any_of HT_.out (by kernel_rfl)) (fun _ _ _ h => h) (Or.inl ⟨by rfl, ?_⟩) ?_ ?_
                                                rotate_left
                                                · intro w'
                                                  go_simp
                                                  with_reducible rfl
                                                rotate_left
                                                · simp only [Act.put, List.setIfInBounds_toArray, List.set_cons_zero, List.set_cons_succ, i64_w, i32_w]
                                                  rfl
                                                refine take_ (i := 7) (N := some 48) (v := ?_) (a' := ?_) #[true, true, true, true, true, true, true, true, false, false, false, false, true, false, false, false, false] rfl rfl (take_ofW HT_.out HW_.out (by kernel_rfl)) (fun _ _ _ h => h) (Or.inl ⟨by rfl, ?_⟩) hHeld ?_ ?_
                                                rotate_left
                                                · rintro w' ⟨s0, s1, s2, s3, s4, s5, s6⟩
                                                  go_simp
                                                  with_reducible rfl
                                                rotate_left
                                                · simp only [Act.put, List.setIfInBounds_toArray, List.set_cons_zero, List.set_cons_succ, i64_w, i32_w]
                                                  rfl
                                                refine pure_ (i := 8) (N := some 49) (v := ?_) (a' := ?_) #[true, true, true, true, true, true, true, true, true, false, false, false, true, false, false, false, false] rfl rfl (any_of HT_.out (by kernel_rfl)) (fun _ _ _ h => h) (Or.inl ⟨by rfl, ?_⟩) ?_ ?_
                                                rotate_left
                                                · intro w'
                                                  go_simp
                                                  with_reducible rfl
                                                rotate_left
                                                · simp only [Act.put, List.setIfInBounds_toArray, List.set_cons_zero, List.set_cons_succ, i64_w, i32_w]
                                                  rfl
                                                refine pure_ (i := 9) (N := some 50) (v := ?_) (a' := ?_) #[true, true, true, true, true, true, true, true, true, true, false, false, true, false, false, false, false] rfl rfl (any_of HT_.out (by kernel_rfl)) (fun _ _ _ h => h) (Or.inl ⟨by rfl, ?_⟩) ?_ ?_
                                                rotate_left
                                                · intro w'
                                                  go_simp
                                                  with_reducible rfl
                                                rotate_left
                                                · simp only [Act.put, List.setIfInBounds_toArray, List.set_cons_zero, List.set_cons_succ, i64_w, i32_w]
                                                  rfl
                                                refine take_ (i := 10) (N := some 51) (v := ?_) (a' := ?_) #[true, true, true, true, true, true, true, true, true, true, true, false, true, false, false, false, false] rfl rfl (take_ofW HT_.out HW_.out (by kernel_rfl)) (fun _ _ _ h => h) (Or.inl ⟨by rfl, ?_⟩) hHeld ?_ ?_
                                                rotate_left
                                                · rintro w' ⟨s0, s1, s2, s3, s4, s5, s6⟩
                                                  go_simp
                                                  with_reducible rfl
                                                rotate_left
                                                · simp only [Act.put, List.setIfInBounds_toArray, List.set_cons_zero, List.set_cons_succ, i64_w, i32_w]
                                                  rfl
                                                refine pure_ (i := 11) (N := some 52) (v := ?_) (a' := ?_) #[true, true, true, true, true, true, true, true, true, true, true, true, true, false, false, false, false] rfl rfl (any_of HT_.out (by kernel_rfl)) (fun _ _ _ h => h) (Or.inl ⟨by rfl, ?_⟩) ?_ ?_
                                                rotate_left
                                                · intro w'
                                                  go_simp
                                                  with_reducible rfl
                                                rotate_left
                                                · simp only [Act.put, List.setIfInBounds_toArray, List.set_cons_zero, List.set_cons_succ, i64_w, i32_w]
                                                  rfl
                                                refine take_ (i := 13) (N := some 54) (v := ?_) (a' := ?_) #[true, true, true, true, true, true, true, true, true, true, true, true, true, true, false, false, false] rfl rfl (take_ofW HT_.out HW_.out (by kernel_rfl)) (fun _ _ _ h => h) (Or.inl ⟨by rfl, ?_⟩) hHeld ?_ ?_
                                                rotate_left
                                                · rintro w' ⟨s0, s1, s2, s3, s4, s5, s6⟩
                                                  go_simp
                                                  with_reducible rfl
                                                rotate_left
                                                · simp only [Act.put, List.setIfInBounds_toArray, List.set_cons_zero, List.set_cons_succ, i64_w, i32_w]
                                                  rfl
                                                refine pure_ (i := 14) (N := some 55) (v := ?_) (a' := ?_) #[true, true, true, true, true, true, true, true, true, true, true, true, true, true, true, false, false] rfl rfl (any_of HT_.out (by kernel_rfl)) (fun _ _ _ h => h) (Or.inl ⟨by rfl, ?_⟩) ?_ ?_
                                                rotate_left
                                                · intro w'
                                                  go_simp
                                                  with_reducible rfl
                                                rotate_left
                                                · simp only [Act.put, List.setIfInBounds_toArray, List.set_cons_zero, List.set_cons_succ, i64_w, i32_w]
                                                  rfl
                                                refine pure_ (i := 15) (N := some 56) (v := ?_) (a' := ?_) #[true, true, true, true, true, true, true, true, true, true, true, true, true, true, true, true, false] rfl rfl (any_of HT_.out (by kernel_rfl)) (fun _ _ _ h => h) (Or.inl ⟨by rfl, ?_⟩) ?_ ?_
                                                rotate_left
                                                · intro w'
                                                  go_simp
                                                  with_reducible rfl
                                                rotate_left
                                                · simp only [Act.put, List.setIfInBounds_toArray, List.set_cons_zero, List.set_cons_succ, i64_w, i32_w]
                                                  rfl
                                                refine pure_ (i := 16) (N := some 57) (v := ?_) (a' := ?_) #[true, true, true, true, true, true, true, true, true, true, true, true, true, true, true, true, true] rfl rfl (any_of HT_.out (by kernel_rfl)) (fun _ _ _ h => h) (Or.inl ⟨by rfl, ?_⟩) ?_ ?_
                                                rotate_left
                                                · intro w'
                                                  go_simp
                                                  with_reducible rfl
                                                rotate_left
                                                · simp only [Act.put, List.setIfInBounds_toArray, List.set_cons_zero, List.set_cons_succ, i64_w, i32_w]
                                                  rfl
                                                refine done_ (done_of HT_.out (by kernel_rfl)) ?_
                                                try go_wp2
                                                have n0_ := Aside0.mk (Kd.R_drew HO_6.out)
                                                have n1_ := Aside0.mk (Kd.R_drew HO_7.out)
                                                have n2_ := Aside0.mk (blk_drew BK185.out)
                                                have n3_ := Aside0.mk (below_drew1 HB.out)
                                                clear HO_6
                                                clear HO_7
                                                clear BK185
                                                clear HB
                                                have HO_6 := n0_
                                                have HO_7 := n1_
                                                have BK185 := n2_
                                                have HB := n3_
                                                clear n0_ n1_ n2_ n3_
                                                have p194 : 0 ≤ ((ji24) : Int) := of_decide_eq_true (by first | (with_reducible assumption) | assumption)
                                                have q194 : (ji24) < (x7_1.length : Int) := of_decide_eq_true (by first | (with_reducible assumption) | assumption)
                                                obtain ⟨ad194, e194, hx194_0⟩ := Kd.at_int (Kd.R_reads' HO_7.out).2.2 (ji24) p194 q194
                                                obtain rfl : ad192 = ad194 := (by injection e194)
                                                replace p194 := eq_true p194
                                                replace q194 := eq_true q194
                                                have p195 : 0 ≤ ((ji24) : Int) := of_decide_eq_true (by first | (with_reducible assumption) | assumption)
                                                have q195 : (ji24) < (x7_1.length : Int) := of_decide_eq_true (by first | (with_reducible assumption) | assumption)
                                                obtain ⟨ad195, e195, hx195_0⟩ := Kd.at_int (Kd.R_reads' HO_7.out).2.2 (ji24) p195 q195
                                                obtain rfl : ad192 = ad195 := (by injection e195)
                                                replace p195 := eq_true p195
                                                replace q195 := eq_true q195
                                                have p34 : 0 ≤ (x18_1 : Int) := of_decide_eq_true (by first | (with_reducible assumption) | assumption)
                                                have q34 : (x18_1 : Int) < ((y186.length : Int) : Int) := of_decide_eq_true (by first | (with_reducible assumption) | assumption)
                                                obtain ⟨go34, co34, eo34, gb34, gl34, cl34, HG34⟩ := Kd.R_form HO_6.out (by omega)
                                                (first | cases eo34 | (injection eo34 with ea_ en_ ec_; (first | subst ea_ | (injection ea_ with ea_; subst ea_)); subst ec_; clear en_))
                                                have GB34 := Aside0.mk gb34
                                                have GG34 := Aside0.mk HG34
                                                clear gb34 gl34 HG34
                                                obtain ⟨hx34_0, hf34_0⟩ := Kd.R_celln 0 HO_6.out (x18_1 : Int) p34 q34
                                                replace p34 := eq_true p34
                                                replace q34 := eq_true q34
                                                have HP41 := Kd.R_putn HO_6.out (x18_1 : Int) (rd x7_1 (ji24))
                                                rw [← Ny196.out] at HP41
                                                have HQ41 := Aside0.mk HP41
                                                clear HP41
                                                have p36 : 0 ≤ ((rd x7_1 (ji24)) : Int) := of_decide_eq_true (by first | (with_reducible assumption) | assumption)
                                                have q36 : ((rd x7_1 (ji24)) : Int) < ((y186.length : Int) : Int) := of_decide_eq_true (by first | (with_reducible assumption) | assumption)
                                                obtain ⟨hx36_0, hf36_0⟩ := Kd.R_celln 0 HQ41.out ((rd x7_1 (ji24)) : Int) p36 q36
                                                replace p36 := eq_true p36
                                                replace q36 := eq_true q36
                                                have HP42 := Kd.R_putn HQ41.out ((rd x7_1 (ji24)) : Int) x18_1
                                                rw [← Ny197.out] at HP42
                                                have HQ42 := Aside0.mk HP42
                                                clear HP42
                                                refine start_ (n := 16) (S := fun w' => w'.cell? (ad192.add ((ji24)).toNat) = some (.int .i64 (rd x7_1 (ji24))) ∧ w'.cell? (ad192.add ((ji24)).toNat) = some (.int .i64 (rd x7_1 (ji24)))) (ds := [13, 15]) #[false, false, false, false, false, false, false, false, false, false, false, false, false, false, false, false] (by kernel_rfl) rfl rfl ⟨hx194_0, hx195_0⟩ (fun hHeld => ?_); refine with_tabW lex_Pairs.tab18 lex_Pairs.bits18 (fun HT_ HW_ => ?_)
                                                generalize w39.drew = w40 at HO_6 HO_7 BK185 HB GG34 HQ41 HQ42 hf34_0 hf36_0 hx194_0 hx195_0 hx34_0 hx36_0 hHeld ⊢
                                                refine pure_ (i := 0) (N := some 59) (v := ?_) (a' := ?_) #[true, false, false, false, false, false, false, false, false, false, false, false, false, false, false, false] rfl rfl (any_of HT_.out (by kernel_rfl)) (fun _ _ _ h => h) (Or.inl ⟨by rfl, ?_⟩) ?_ ?_
                                                rotate_left
                                                · intro w'
                                                  go_simp
                                                  with_reducible rfl
                                                rotate_left
                                                · simp only [Act.put, List.setIfInBounds_toArray, List.set_cons_zero, List.set_cons_succ, i64_w, i32_w]
                                                  rfl
                                                refine pure_ (i := 1) (N := some 60) (v := ?_) (a' := ?_) #[true, true, false, false, false, false, false, false, false, false, false, false, false, false, false, false] rfl rfl (any_of HT_.out (by kernel_rfl)) (fun _ _ _ h => h) (Or.inl ⟨by rfl, ?_⟩) ?_ ?_
                                                rotate_left
                                                · intro w'
                                                  go_simp
                                                  with_reducible rfl
                                                rotate_left
                                                · simp only [Act.put, List.setIfInBounds_toArray, List.set_cons_zero, List.set_cons_succ, i64_w, i32_w]
                                                  rfl
                                                refine pure_ (i := 2) (N := some 61) (v := ?_) (a' := ?_) #[true, true, true, false, false, false, false, false, false, false, false, false, false, false, false, false] rfl rfl (any_of HT_.out (by kernel_rfl)) (fun _ _ _ h => h) (Or.inl ⟨by rfl, ?_⟩) ?_ ?_
                                                rotate_left
                                                · intro w'
                                                  go_simp
                                                  with_reducible rfl
                                                rotate_left
                                                · simp only [Act.put, List.setIfInBounds_toArray, List.set_cons_zero, List.set_cons_succ, i64_w, i32_w]
                                                  rfl
                                                refine pure_ (i := 3) (N := some 62) (v := ?_) (a' := ?_) #[true, true, true, true, false, false, false, false, false, false, false, false, false, false, false, false] rfl rfl (any_of HT_.out (by kernel_rfl)) (fun _ _ _ h => h) (Or.inl ⟨by rfl, ?_⟩) ?_ ?_
                                                rotate_left
                                                · intro w'
                                                  go_simp
                                                  with_reducible rfl
                                                rotate_left
                                                · simp only [Act.put, List.setIfInBounds_toArray, List.set_cons_zero, List.set_cons_succ, i64_w, i32_w]
                                                  rfl
                                                refine pure_ (i := 4) (N := some 63) (v := ?_) (a' := ?_) #[true, true, true, true, true, false, false, false, false, false, false, false, false, false, false, false] rfl rfl (any_of HT_.out (by kernel_rfl)) (fun _ _ _ h => h) (Or.inl ⟨by rfl, ?_⟩) ?_ ?_
                                                rotate_left
                                                · intro w'
                                                  go_simp
                                                  with_reducible rfl
                                                rotate_left
                                                · simp only [Act.put, List.setIfInBounds_toArray, List.set_cons_zero, List.set_cons_succ, i64_w, i32_w]
                                                  rfl
                                                refine pure_ (i := 5) (N := some 64) (v := ?_) (a' := ?_) #[true, true, true, true, true, true, false, false, false, false, false, false, false, false, false, false] rfl rfl (any_of HT_.out (by kernel_rfl)) (fun _ _ _ h => h) (Or.inl ⟨by rfl, ?_⟩) ?_ ?_
                                                rotate_left
                                                · intro w'
                                                  go_simp
                                                  with_reducible rfl
                                                rotate_left
                                                · simp only [Act.put, List.setIfInBounds_toArray, List.set_cons_zero, List.set_cons_succ, i64_w, i32_w]
                                                  rfl
                                                refine pure_ (i := 7) (N := some 66) (v := ?_) (a' := ?_) #[true, true, true, true, true, true, false, true, false, false, false, false, false, false, false, false] rfl rfl (any_of HT_.out (by kernel_rfl)) (fun _ _ _ h => h) (Or.inl ⟨by rfl, ?_⟩) ?_ ?_
                                                rotate_left
                                                · intro w'
                                                  go_simp
                                                  with_reducible rfl
                                                rotate_left
                                                · simp only [Act.put, List.setIfInBounds_toArray, List.set_cons_zero, List.set_cons_succ, i64_w, i32_w]
                                                  rfl
                                                refine pure_ (i := 8) (N := some 67) (v := ?_) (a' := ?_) #[true, true, true, true, true, true, false, true, true, false, false, false, false, false, false, false] rfl rfl (any_of HT_.out (by kernel_rfl)) (fun _ _ _ h => h) (Or.inl ⟨by rfl, ?_⟩) ?_ ?_
                                                rotate_left
                                                · intro w'
                                                  go_simp
                                                  with_reducible rfl
                                                rotate_left
                                                · simp only [Act.put, List.setIfInBounds_toArray, List.set_cons_zero, List.set_cons_succ, i64_w, i32_w]
                                                  rfl
                                                refine pure_ (i := 9) (N := some 68) (v := ?_) (a' := ?_) #[true, true, true, true, true, true, false, true, true, true, false, false, false, false, false, false] rfl rfl (any_of HT_.out (by kernel_rfl)) (fun _ _ _ h => h) (Or.inl ⟨by rfl, ?_⟩) ?_ ?_
                                                rotate_left
                                                · intro w'
                                                  go_simp
                                                  with_reducible rfl
                                                rotate_left
                                                · simp only [Act.put, List.setIfInBounds_toArray, List.set_cons_zero, List.set_cons_succ, i64_w, i32_w]
                                                  rfl
                                                refine pure_ (i := 11) (N := some 70) (v := ?_) (a' := ?_) #[true, true, true, true, true, true, false, true, true, true, false, true, false, false, false, false] rfl rfl (any_of HT_.out (by kernel_rfl)) (fun _ _ _ h => h) (Or.inl ⟨by rfl, ?_⟩) ?_ ?_
                                                rotate_left
                                                · intro w'
                                                  go_simp
                                                  with_reducible rfl
                                                rotate_left
                                                · simp only [Act.put, List.setIfInBounds_toArray, List.set_cons_zero, List.set_cons_succ, i64_w, i32_w]
                                                  rfl
                                                refine take_ (i := 6) (N := some 65) (v := ?_) (a' := ?_) #[true, true, true, true, true, true, true, true, true, true, false, true, false, false, false, false] rfl rfl (take_ofW HT_.out HW_.out (by kernel_rfl)) (fun _ _ _ h => h) (Or.inl ⟨by rfl, ?_⟩) hHeld ?_ ?_
                                                rotate_left
                                                · rintro w' ⟨s0, s1⟩
                                                  go_simp
                                                  with_reducible rfl
                                                rotate_left
                                                · simp only [Act.put, List.setIfInBounds_toArray, List.set_cons_zero, List.set_cons_succ, i64_w, i32_w]
                                                  rfl
                                                refine take_ (i := 10) (N := some 69) (v := ?_) (a' := ?_) #[true, true, true, true, true, true, true, true, true, true, true, true, false, false, false, false] rfl rfl (take_ofW HT_.out HW_.out (by kernel_rfl)) (fun _ _ _ h => h) (Or.inl ⟨by rfl, ?_⟩) hHeld ?_ ?_
                                                rotate_left
                                                · rintro w' ⟨s0, s1⟩
                                                  go_simp
                                                  with_reducible rfl
                                                rotate_left
                                                · simp only [Act.put, List.setIfInBounds_toArray, List.set_cons_zero, List.set_cons_succ, i64_w, i32_w]
                                                  rfl
                                                refine pure_ (i := 12) (N := some 71) (v := ?_) (a' := ?_) #[true, true, true, true, true, true, true, true, true, true, true, true, true, false, false, false] rfl rfl (any_of HT_.out (by kernel_rfl)) (fun _ _ _ h => h) (Or.inl ⟨by rfl, ?_⟩) ?_ ?_
                                                rotate_left
                                                · intro w'
                                                  go_simp
                                                  with_reducible rfl
                                                rotate_left
                                                · simp only [Act.put, List.setIfInBounds_toArray, List.set_cons_zero, List.set_cons_succ, i64_w, i32_w]
                                                  rfl
                                                refine last_ (i := 13) (N := none) #[true, true, true, true, true, true, true, true, true, true, true, true, true, true, false, false] rfl rfl (one_of HT_.out (by kernel_rfl)) (by decide) (fun K hK => ?_)
                                                refine skip_ (w1 := ?_) (by rfl) rfl ?_ ?_
                                                rotate_left
                                                · go_simp
                                                  rfl
                                                refine hK.out _ _ ?_
                                                clear hK K
                                                refine pure_ (i := 14) (N := some 72) (v := ?_) (a' := ?_) #[true, true, true, true, true, true, true, true, true, true, true, true, true, true, true, false] rfl rfl (any_of HT_.out (by kernel_rfl)) (fun _ _ _ h => h) (Or.inl ⟨by rfl, ?_⟩) ?_ ?_
                                                rotate_left
                                                · intro w'
                                                  go_simp
                                                  with_reducible rfl
                                                rotate_left
                                                · simp only [Act.put, List.setIfInBounds_toArray, List.set_cons_zero, List.set_cons_succ, i64_w, i32_w]
                                                  rfl
                                                refine last_ (i := 15) (N := none) #[true, true, true, true, true, true, true, true, true, true, true, true, true, true, true, true] rfl rfl (one_of HT_.out (by kernel_rfl)) (by decide) (fun K hK => ?_)
                                                refine skip_ (w1 := ?_) (by rfl) rfl ?_ ?_
                                                rotate_left
                                                · go_simp
                                                  rfl
                                                refine hK.out _ _ ?_
                                                clear hK K
                                                refine done_ (done_of HT_.out (by kernel_rfl)) ?_
                                                have n0_ : Aside0 (Kd.R (Kd.int .i64) 3 ((w40.setCell ⟨go34, (x18_1 : Int).toNat, none⟩ (.int .i64 (rd x7_1 (ji24)))).setCell ⟨go34, ((rd x7_1 (ji24)) : Int).toNat, none⟩ (.int .i64 x18_1)) w.heap.size (fun k_ => some k_ ≠ (.slice (some ad192) x7_1.length co38 : Value).ownBlock) (.slice (some ⟨go34, 0, none⟩) y186.length co34) y197) := ⟨by (with_reducible repeat (first | apply Kd.R_alloc | apply Kd.R_drewN | apply Kd.R_drew)); exact HQ42.out⟩
                                                have n1_ : Aside0 (Kd.R (Kd.int .i64) 3 ((w40.setCell ⟨go34, (x18_1 : Int).toNat, none⟩ (.int .i64 (rd x7_1 (ji24)))).setCell ⟨go34, ((rd x7_1 (ji24)) : Int).toNat, none⟩ (.int .i64 x18_1)) w.heap.size (fun k_ => some k_ ≠ (.slice (some ⟨go34, 0, none⟩) y186.length co34 : Value).ownBlock) (.slice (some ad192) x7_1.length co38) x7_1) := ⟨by (with_reducible repeat (first | apply Kd.R_alloc | apply Kd.R_drewN | apply Kd.R_drew)); exact Kd.R_mono (Kd.R_far (p := ⟨go34, ((rd x7_1 (ji24)) : Int).toNat, none⟩) (Kd.R_far (p := ⟨go34, (x18_1 : Int).toNat, none⟩) (Kd.R_mono HO_7.out (fun k_ hk => (⟨hk, fun e_ => hk (by rw [e_]; rfl)⟩ : _ ∧ k_ ≠ go34))) (fun _ hk => hk.2) (.int .i64 (rd x7_1 (ji24)))) (fun _ hk => hk.2) (.int .i64 x18_1)) (fun _ hk => hk.1)⟩
                                                have n2_ : Aside0 (((w40.setCell ⟨go34, (x18_1 : Int).toNat, none⟩ (.int .i64 (rd x7_1 (ji24)))).setCell ⟨go34, ((rd x7_1 (ji24)) : Int).toNat, none⟩ (.int .i64 x18_1)).heap[gb185]? = some (.cells #[.int .u8 ((rd_T58 l0 x18_1).f0), .string ((rd_T58 l0 x18_1).f1), .int .i64 ((rd_T58 l0 x18_1).f2)] 58 (0, 0))) := ⟨by (with_reducible repeat (first | refine blk_drewN ?_ _ | refine blk_drew ?_ | refine blk_alloc ?_ _)); refine blk_far ?_ (by have h_ := Kd.R_ne HO_6.out BK185.out (by decide); intro e_; exact h_ (by rw [e_]; rfl)) _; (with_reducible repeat (first | refine blk_drewN ?_ _ | refine blk_drew ?_ | refine blk_alloc ?_ _)); refine blk_far ?_ (by have h_ := Kd.R_ne HO_6.out BK185.out (by decide); intro e_; exact h_ (by rw [e_]; rfl)) _; (with_reducible repeat (first | refine blk_drewN ?_ _ | refine blk_drew ?_ | refine blk_alloc ?_ _)); exact BK185.out⟩
                                                have n3_ : Aside0 (Below w.heap.size w ((w40.setCell ⟨go34, (x18_1 : Int).toNat, none⟩ (.int .i64 (rd x7_1 (ji24)))).setCell ⟨go34, ((rd x7_1 (ji24)) : Int).toNat, none⟩ (.int .i64 x18_1))) := ⟨by repeat (first | (with_reducible first | exact HB.out | apply below_alloc | apply pw_below_drewN | apply below_drew1 | refine below_set ?_ GB34.out | refine below_set ?_ GB34.out | refine below_set ?_ GE185.out) | exact HB.out)⟩
                                                (try clear HO_6)
                                                (try clear HO_7)
                                                (try clear BK185)
                                                (try clear HB)
                                                generalize ((w40.setCell ⟨go34, (x18_1 : Int).toNat, none⟩ (.int .i64 (rd x7_1 (ji24)))).setCell ⟨go34, ((rd x7_1 (ji24)) : Int).toNat, none⟩ (.int .i64 x18_1)) = w43 at n0_ n1_ n2_ n3_ ⊢
                                                have HO_6 := n0_
                                                have HO_7 := n1_
                                                have BK185 := n2_
                                                have HB := n3_
                                                clear n0_ n1_ n2_ n3_
                                                have q44 : ((ji24) : Int) ≤ ((x7_1.length : Int) : Int) := of_decide_eq_true (by first | (with_reducible assumption) | assumption)
                                                obtain ⟨i044, hi044, _, hsz44, _⟩ := info_parts info3
                                                have hcut44 := cut_to (P := Tryd.prog) 47 3 .i64 Tryd.underlying47 hi044 (some ad192) x7_1.length co38 (ji24) (of_decide_eq_true (by first | (with_reducible assumption) | assumption)) q44 (Kd.R_reads' HO_7.out).2.1
                                                have hr44 := Kd.R_take (m := ((ji24) : Int).toNat) HO_7.out (by omega)
                                                have hy44 : y198.length = ((ji24) : Int).toNat := (by rw [Ny198.out, List.length_take]; omega)
                                                rw [← Ny198.out] at hr44
                                                rw [← hy44] at hr44 hcut44
                                                clear hy44 hi044 hsz44 HO_7
                                                have HO200 := Aside0.mk hr44
                                                clear hr44
                                                replace q44 := eq_true q44
                                                try go_wp2
                                                go_roundg kj17
                                                case measure => have := HK1.out; have := HJ8.out; have := HJ17.out; omega
                                                case rel => exact ⟨(y197), (y198), (wrap64 (x18_1 + 1)), (by first | rfl | (simp; done) | (simp [*]; done)), H', ⟨by have := HK1.out; have := HJ8.out; have := HJ17.out; omega⟩, ⟨by (with_reducible repeat (first | apply Kd.R_alloc | apply Kd.R_drewN | apply Kd.R_drew)); exact HO_6.out⟩, ⟨by (with_reducible repeat (first | apply Kd.R_alloc | apply Kd.R_drewN | apply Kd.R_drew)); exact HO200.out⟩, ⟨by repeat (first | (with_reducible first | exact HB.out | apply below_alloc | apply pw_below_drewN | apply below_drew1 | refine below_set ?_ GE185.out) | exact HB.out)⟩⟩
                                              · rw [if_neg c37] at H
                                                exact absurd H (by simp)
                                            · rw [if_neg c35] at H
                                              exact absurd H (by simp)
                                          · rw [if_neg c33] at H
                                            exact absurd H (by simp)
                                        · rw [if_neg c32] at H
                                          exact absurd H (by simp)
                                    · rw [if_neg c28] at H
                                      exact absurd H (by simp)
                                  · rw [if_neg c27] at H
                                    exact absurd H (by simp)
                                · rw [if_neg c26] at H
                                  exact absurd H (by simp)
                              · rw [if_neg c25] at H
                                exact absurd H (by simp)
                          · replace c20 := Bool.eq_false_iff.mpr c20
                            subst c20
                            have H1 : (lex_Pairs.l0 kj17 l0 y186 x7_1 l0 (l0.length : Int) (wrap64 (x18_1 + 1))) = some (r1, r2, r3) := by rw [if_neg (show ¬ (false = true) by decide)] at H; exact H
                            clear H
                            have H := H1
                            clear H1
                            have H' := Aside0.mk H
                            clear H
                            go_wp2
                            go_roundg kj17
                            case measure => have := HK1.out; have := HJ8.out; have := HJ17.out; omega
                            case rel => exact ⟨(y186), (x7_1), (wrap64 (x18_1 + 1)), (by first | rfl | (simp; done) | (simp [*]; done)), H', ⟨by have := HK1.out; have := HJ8.out; have := HJ17.out; omega⟩, ⟨by (with_reducible repeat (first | apply Kd.R_alloc | apply Kd.R_drewN | apply Kd.R_drew)); exact HO_6.out⟩, ⟨by (with_reducible repeat (first | apply Kd.R_alloc | apply Kd.R_drewN | apply Kd.R_drew)); exact HO_7.out⟩, ⟨by repeat (first | (with_reducible first | exact HB.out | apply below_alloc | apply pw_below_drewN | apply below_drew1 | refine below_set ?_ GE185.out) | exact HB.out)⟩⟩
              · rw [if_neg c8] at H
                exact absurd H (by simp)
            · rw [if_neg c7] at H
              exact absurd H (by simp)
          · rw [if_neg c6] at H
            exact absurd H (by simp)
        · rw [if_neg c5] at H
          have c5b0 : decide (x18_1 < (l0.length : Int)) = false := decide_eq_false c5
          clear c5
          by_cases c45 : (x7_1.length : Int) > 0
          · rw [if_pos c45] at H
            have c45b0 : decide (0 < (x7_1.length : Int)) = true := decide_eq_true c45
            have c45b1 : decide (0 < x7_1.length) = true := decide_eq_true (by omega)
            clear c45
            by_cases c46 : 0 < (x7_1.length : Int)
            · rw [if_pos c46] at H
              have c46b0 : decide (0 < (x7_1.length : Int)) = true := decide_eq_true c46
              have c46b1 : decide (0 < x7_1.length) = true := decide_eq_true (by omega)
              clear c46
              simp only [Option.some.injEq, Prod.mk.injEq] at H
              obtain ⟨rfl, rfl, rfl⟩ := H
              obtain ⟨Ao47, co47, eo47⟩ := Kd.R_slice HO_7.out
              subst eo47
              try go_wp2
              have n0_ := Aside0.mk (Kd.R_drew HO_6.out)
              have n1_ := Aside0.mk (Kd.R_drew HO_7.out)
              have n2_ := Aside0.mk (below_drew1 HB.out)
              clear HO_6
              clear HO_7
              clear HB
              have HO_6 := n0_
              have HO_7 := n1_
              have HB := n2_
              clear n0_ n1_ n2_
              have p183 : 0 ≤ (0 : Int) := (by omega)
              have q183 : 0 < (x7_1.length : Int) := of_decide_eq_true (by first | (with_reducible assumption) | assumption)
              obtain ⟨ad183, e183, hx183_0⟩ := Kd.at_int (Kd.R_reads' HO_7.out).2.2 0 p183 q183
              cases e183
              have qi183 : (0 < x7_1.length) = True := eq_true (by omega)
              (try rw [show ((0 : Int)).toNat = 0 from rfl] at hx183_0)
              (try rw [Addr.add_zero'] at hx183_0)
              replace p183 := eq_true p183
              replace q183 := eq_true q183
              refine start_ (n := 6) (S := fun w' => w'.cell? ad183 = some (.int .i64 (rd x7_1 0))) (ds := []) #[false, false, false, false, false, false] (by kernel_rfl) rfl rfl (hx183_0) (fun hHeld => ?_)
              generalize wr.drew = w48 at HO_6 HO_7 HB hx183_0 hHeld ⊢
              refine pure_ (i := 0) (N := some 80) (v := ?_) (a' := ?_) #[true, false, false, false, false, false] rfl rfl (by kernel_rfl) (fun _ _ _ h => h) (Or.inl ⟨by rfl, ?_⟩) ?_ ?_
              rotate_left
              · intro w'
                go_simp
                with_reducible rfl
              rotate_left
              · simp only [Act.put, List.setIfInBounds_toArray, List.set_cons_zero, List.set_cons_succ, i64_w, i32_w]
                rfl
              refine pure_ (i := 1) (N := some 81) (v := ?_) (a' := ?_) #[true, true, false, false, false, false] rfl rfl (by kernel_rfl) (fun _ _ _ h => h) (Or.inl ⟨by rfl, ?_⟩) ?_ ?_
              rotate_left
              · intro w'
                go_simp
                with_reducible rfl
              rotate_left
              · simp only [Act.put, List.setIfInBounds_toArray, List.set_cons_zero, List.set_cons_succ, i64_w, i32_w]
                rfl
              refine pure_ (i := 3) (N := some 2) (v := ?_) (a' := ?_) #[true, true, false, true, false, false] rfl rfl (by kernel_rfl) (fun _ _ _ h => h) (Or.inl ⟨by rfl, ?_⟩) ?_ ?_
              rotate_left
              · intro w'
                go_simp
                with_reducible rfl
              rotate_left
              · simp only [Act.put, List.setIfInBounds_toArray, List.set_cons_zero, List.set_cons_succ, i64_w, i32_w]
                rfl
              refine take_ (i := 2) (N := some 82) (v := ?_) (a' := ?_) #[true, true, true, true, false, false] rfl rfl (by kernel_rfl) (fun _ _ _ h => h) (Or.inl ⟨by rfl, ?_⟩) hHeld ?_ ?_
              rotate_left
              · intro w' s0
                go_simp
                with_reducible rfl
              rotate_left
              · simp only [Act.put, List.setIfInBounds_toArray, List.set_cons_zero, List.set_cons_succ, i64_w, i32_w]
                rfl
              refine pure_ (i := 4) (N := some 3) (v := ?_) (a' := ?_) #[true, true, true, true, true, false] rfl rfl (by kernel_rfl) (fun _ _ _ h => h) (Or.inl ⟨by rfl, ?_⟩) ?_ ?_
              rotate_left
              · intro w'
                go_simp
                with_reducible rfl
              rotate_left
              · simp only [Act.put, List.setIfInBounds_toArray, List.set_cons_zero, List.set_cons_succ, i64_w, i32_w]
                rfl
              refine pure_ (i := 5) (N := some 4) (v := ?_) (a' := ?_) #[true, true, true, true, true, true] rfl rfl (by kernel_rfl) (fun _ _ _ h => h) (Or.inl ⟨by rfl, ?_⟩) ?_ ?_
              rotate_left
              · intro w'
                go_simp
                with_reducible rfl
              rotate_left
              · simp only [Act.put, List.setIfInBounds_toArray, List.set_cons_zero, List.set_cons_succ, i64_w, i32_w]
                rfl
              refine done_ (by kernel_rfl) ?_
              try go_wp2
              go_ret3
              exact ⟨_, by first | rfl | (simp [errW_none, errW_some] <;> rfl) | (simp [*, errW_none, errW_some] <;> rfl), by first | exact Kd.R_nil _ _ _ _ _ | exact Kd.N_nil _ _ _ _ _ | exact Kd.V_nil _ _ _ _ _ | exact Kd.Q_nil _ _ _ _ _ | exact Kd.S_nil _ _ _ _ _, by repeat (first | (with_reducible first | exact HB.out | apply below_alloc | apply pw_below_drewN | apply below_drew1) | exact HB.out)⟩
            · rw [if_neg c46] at H
              exact absurd H (by simp)
          · rw [if_neg c45] at H
            have c45b0 : decide (0 < (x7_1.length : Int)) = false := decide_eq_false c45
            have c45b1 : decide (0 < x7_1.length) = false := decide_eq_false (by omega)
            clear c45
            simp only [Option.some.injEq, Prod.mk.injEq] at H
            obtain ⟨rfl, rfl, rfl⟩ := H
            obtain ⟨Ao49, co49, eo49⟩ := Kd.R_slice HO_7.out
            subst eo49
            go_wp2
            go_ret3
            exact ⟨_, by first | rfl | (simp [errW_none, errW_some] <;> rfl) | (simp [*, errW_none, errW_some] <;> rfl), by (with_reducible repeat (first | apply Kd.R_alloc | apply Kd.R_drewN | apply Kd.R_drew)); exact Kd.R_mono HO_6.out (fun _ hk => trivial), by repeat (first | (with_reducible first | exact HB.out | apply below_alloc | apply pw_below_drewN | apply below_drew1) | exact HB.out)⟩
  · rw [if_neg c3] at H
    have c3b0 : (t182 == 0) = false := beq_eq_false_iff_ne.mpr c3
    have c3b1 : (t182 != 0) = true := bne_iff_ne.mpr c3
    simp only [Option.some.injEq, Prod.mk.injEq] at H
    obtain ⟨rfl, rfl, rfl⟩ := H
    go_enter Tryd.func32, Tryd.ntmps32
    go_wp2_with (first | ((with_reducible refine gate_callee (f := 59) rfl ?_); refine goesL_ (some 12) rfl rfl Tryd.func59 (by kernel_rfl) rfl #[.slice A0 l0.length c0] rfl (by (try simp only [List.map_toArray, List.map_cons, List.map_nil]); first | done | rfl | (simp only [List.length_drop, List.length_take]; rfl)) ?_; (with_reducible refine (lexTokensC w hgT l0 hsT k _ _ t182 ?side1 ?side2 A2.out).mono ?_); (case side1 => repeat (first | exact HR0.out | (with_reducible refine Kd.C_alloc ?_ _) | (with_reducible refine Kd.C_drewN ?_ _) | (with_reducible refine Kd.C_drew ?_))); (case side2 => exact HC0.out); rintro e w50 ⟨rfl, hb⟩; refine ⟨_, rfl, ?_⟩; have n0_ := Aside0.mk (below_step (by repeat (first | (with_reducible first | exact HB.out | apply below_alloc | apply pw_below_drewN | apply below_drew1) | exact HB.out)) hb); clear HB; have HB := n0_; clear n0_; (try clear hb); (try clear hb2); (try clear hk); (try clear hi)))
    go_ret3
    exact ⟨_, by first | rfl | (simp [errW_none, errW_some] <;> rfl) | (simp [*, errW_none, errW_some] <;> rfl), by first | exact Kd.R_nil _ _ _ _ _ | exact Kd.N_nil _ _ _ _ _ | exact Kd.V_nil _ _ _ _ _ | exact Kd.Q_nil _ _ _ _ _ | exact Kd.S_nil _ _ _ _ _, by repeat (first | (with_reducible first | exact HB.out | apply below_alloc | apply pw_below_drewN | apply below_drew1) | exact HB.out)⟩

end Go.Proofs.YtebidpcmcekbgaaDoor.P
namespace Go.Proofs.YtebidpcmcekbgaaDoor.P
open Go.RowKit Go.Proofs.YtebidpcmcekbgaaDoorW.PrintWords
set_option linter.unusedVariables false
set_option linter.unusedSimpArgs false
theorem beqL (t : ByteArray) (z : List UInt8) : (t.toList == z) = decide (t = ba z) := by
  by_cases c : t = ba z
  · rw [decide_eq_true c, beq_iff_eq]; exact (toL _ _).2 c
  · rw [decide_eq_false c]; exact beq_false_of_ne fun e => c ((toL _ _).1 e)
set_option maxHeartbeats 1000000 in
theorem pPairs0 (l : List Tk) (hl : l.length ≤ 1000) : ∀ (d i k : Nat) (out op : List Int), l.length - i = d → i ≤ l.length → 3 * d + 5 < k → out.length = i → op.length ≤ i → (∀ j ∈ op, ∃ n : Nat, j = (n : Int) ∧ n < i) →
    lex_Pairs.l0 k l out op l (l.length : Int) (i : Int) = some (prM l d i out op) := by
  intro d
  induction d with
  | zero =>
    intro i k out op hd hi hk ho hop hj
    obtain ⟨k, rfl, _⟩ := succ_of hk
    rw [lex_Pairs.l0.eq_2, if_neg (by omega), prM]
    by_cases c : op = []
    · rw [if_pos c, c, if_neg (by decide)]
    · have hp : 0 < op.length := List.length_pos_iff.2 c
      rw [if_neg c, if_pos (by omega), if_pos (by omega)]
  | succ d ih =>
    intro i k out op hd hi hk ho hop hj
    obtain ⟨k, rfl, hk'⟩ := succ_of hk
    obtain ⟨k, rfl, hk2⟩ := succ_of (show 0 < k by omega)
    obtain ⟨k, rfl, hk3⟩ := succ_of (show 0 < k by omega)
    have hlt : i < l.length := by omega
    have e2 := up1 i l.length hlt (by omega)
    have q0 : (0 : Int) ≤ (i : Int) := by omega
    have q1 : (i : Int) < (l.length : Int) := by omega
    have q2 : out.length < 17592186044416 := by omega
    have q3 : op.length < 17592186044416 := by omega
    have hol : (out ++ [(-1 : Int)]).length = i + 1 := by rw [List.length_append, List.length_singleton, ho]
    have keep : ∀ (op' : List Int), (∀ j ∈ op', ∃ n : Nat, j = (n : Int) ∧ n < i) → ∀ j ∈ op', ∃ n : Nat, j = (n : Int) ∧ n < i + 1 := fun op' h j hj => by
      obtain ⟨n, a, b⟩ := h j hj; exact ⟨n, a, by omega⟩
    have hb2 : ∀ (x : Tk) (b : Bool), rd_T58 l (i : Int) = x → b = clB x → lex_Pairs.j2 (k + 1) l (out ++ [-1]) op (i : Int) l (l.length : Int) (i : Int) b x.f0 x.f1 x.f2 = some (if clB x = true then
      (if op = [] then ([], (i : Int), 4)
       else if misB (rd_T58 l (rd op ((op.length - 1 : Nat) : Int))) x = true then ([], (i : Int), 4)
       else prM l d (i + 1) (((out ++ [-1]).set i (rd op ((op.length - 1 : Nat) : Int))).set (rd op ((op.length - 1 : Nat) : Int)).toNat (i : Int)) (op.take (op.length - 1)))
    else prM l d (i + 1) (out ++ [-1]) op) := by
      intro x b hx hb
      rw [lex_Pairs.j2.eq_2]
      cases hc : clB x with
      | false =>
        rw [hc] at hb
        rw [if_neg (by rw [hb]; exact Bool.false_ne_true), if_neg Bool.false_ne_true, e2]
        exact ih (i + 1) k _ _ (by omega) (by omega) (by omega) hol (by omega) (keep op hj)
      | true =>
        rw [hc] at hb
        rw [if_pos hb, if_pos rfl]
        by_cases c2 : op = []
        · have u0 : wrap64 ((op.length : Int) - 1) = -1 := by have h0 : op.length = 0 := (by rw [c2]; rfl); rw [w64 (by omega) (by omega), h0]; rfl
          rw [if_pos c2, u0, if_pos (by decide)]
        · have hp : 0 < op.length := List.length_pos_iff.2 c2
          obtain ⟨n, hn, hni⟩ := hj _ (rd_last op c2)
          have u1 : wrap64 ((op.length : Int) - 1) = ((op.length - 1 : Nat) : Int) := by rw [w64 (by omega) (by omega)]; omega
          rw [if_neg c2, u1, if_neg (by omega), if_pos (by omega), if_pos (by omega), hn, if_pos (by omega), if_pos (by omega), beqL, beqL]
          by_cases c3 : misB (rd_T58 l (n : Int)) x = true
          · have c3' : (decide ((rd_T58 l (n : Int)).f1 = ba [40]) != decide (x.f1 = ba [41])) = true := c3
            rw [if_pos c3', if_pos c3]
          · have c3' : ¬ (decide ((rd_T58 l (n : Int)).f1 = ba [40]) != decide (x.f1 = ba [41])) = true := c3
            rw [if_neg c3', if_neg c3, if_pos q0, if_pos (by rw [hol]; omega), if_pos (by rw [hol]; omega), if_pos (by omega), Int.toNat_natCast, Int.toNat_natCast, Int.toNat_natCast, e2]
            exact ih (i + 1) k _ _ (by omega) (by omega) (by omega) (by rw [List.length_set, List.length_set, hol]) (by rw [List.length_take]; omega) fun j hj2 => keep op hj j (List.mem_of_mem_take hj2)
    have hb1 : ∀ (x : Tk) (b : Bool), rd_T58 l (i : Int) = x → b = opB x → lex_Pairs.j1 (k + 1 + 1) l (out ++ [-1]) op (i : Int) l (l.length : Int) (i : Int) x.f1 b x.f0 x.f1 x.f2 = some (prM l (d + 1) i out op) := by
      intro x b hx hb
      rw [lex_Pairs.j1.eq_2, prM, hx]
      cases hc : opB x with
      | true =>
        rw [hc] at hb
        rw [if_pos hb, if_pos q3, if_pos rfl, e2]
        refine ih (i + 1) (k + 1) _ _ (by omega) (by omega) (by omega) hol (by rw [List.length_append, List.length_singleton]; omega) fun j hj2 => ?_
        rcases List.mem_append.1 hj2 with h | h
        · exact keep op hj j h
        · rw [List.mem_singleton.1 h]; exact ⟨i, rfl, by omega⟩
      | false =>
        rw [hc] at hb
        rw [if_neg (by rw [hb]; exact Bool.false_ne_true), if_neg Bool.false_ne_true]
        by_cases c : x.f1 = ba [41]
        · rw [if_pos ((toL _ _).2 c)]
          exact hb2 x _ hx (by rw [beqL]; unfold clB; rw [decide_eq_true c]; rfl)
        · rw [if_neg fun e => c ((toL _ _).1 e)]
          exact hb2 x _ hx (by rw [beqL]; unfold clB; rw [decide_eq_false c, Bool.false_or])
    rw [lex_Pairs.l0.eq_2, if_pos q1, if_pos q0, if_pos q1, if_pos q2]
    simp only [Option.bind_some]
    by_cases c : (rd_T58 l (i : Int)).f1 = ba [40]
    · rw [if_pos ((toL _ _).2 c)]
      exact hb1 _ _ rfl (by rw [beqL]; unfold opB; rw [decide_eq_true c]; rfl)
    · rw [if_neg fun e => c ((toL _ _).1 e)]
      exact hb1 _ _ rfl (by rw [beqL]; unfold opB; rw [decide_eq_false c, Bool.false_or])
theorem pPairs (l : List Tk) (hl : l.length ≤ 1000) (k : Nat) (hk : 4000 < k) : lex_Pairs.f k l = some (pairM l) := by
  unfold lex_Pairs.f lex_tokens.f pairM
  simp only [Option.bind_some]
  by_cases h0 : tkE l = 0
  · rw [if_pos h0, if_pos h0]
    exact pPairs0 l hl l.length 0 k [] [] (by omega) (by omega) (by omega) rfl (Nat.zero_le _) fun j hj => (by cases hj)
  · rw [if_neg h0, if_neg h0]
end Go.Proofs.YtebidpcmcekbgaaDoor.P
namespace Go.Proofs.YtebidpcmcekbgaaDoor.P
open Go.RowKit Go.Proofs.YtebidpcmcekbgaaDoorW.PrintWords
set_option linter.unusedVariables false
def gSpot.f (k : Nat) (s : ByteArray) (a : Int) : Option (Int × Int × Int) := if s.size ≤ 140737488351232 then some (spotE s a) else none
theorem of_guard {α : Type} {c : Prop} [Decidable c] {x y : α} (h : (if c then some x else none) = some y) : c ∧ x = y := by
  by_cases d : c
  · rw [if_pos d] at h; exact ⟨d, Option.some.inj h⟩
  · rw [if_neg d] at h; cases h
theorem gSpot.calls (k : Nat) (s : ByteArray) (a r1 r2 r3 : Int) (w : World) (h : gSpot.f k s a = some (r1, r2, r3)) :
    Calls Tryd.prog 35 #[.string s, .int .i64 a] w fun e w' => e = .returned (.tuple #[.agg #[.int .i64 r1, .int .i64 r2], .int .i64 r3]) ∧ Below w.heap.size w w' := by
  obtain ⟨hs, e⟩ := of_guard h
  have := Spot_any s a w hs
  rw [e] at this
  exact this
def gAt.f (k : Nat) (s : ByteArray) (p0 p1 : Int) : Option (Int × Int) := if s.size ≤ 140737488351232 then some (atE s (p0, p1)) else none
theorem gAt.calls (k : Nat) (s : ByteArray) (p0 p1 r1 r2 : Int) (w : World) (h : gAt.f k s p0 p1 = some (r1, r2)) :
    Calls Tryd.prog 37 #[.string s, .agg #[.int .i64 p0, .int .i64 p1]] w fun e w' => e = .returned (.tuple #[.int .i64 r1, .int .i64 r2]) ∧ Below w.heap.size w w' := by
  obtain ⟨hs, e⟩ := of_guard h
  have := At_any s p0 p1 w hs
  rw [e] at this
  exact this
def gTokens.f (k : Nat) (s : ByteArray) : Option (List Tk × Int × Int) := if s.size ≤ 140737488351232 then some (toksM kwM s) else none
theorem gTokens.calls (k : Nat) (s : ByteArray) (r1 : List Tk) (r2 r3 : Int) (w : World) (h : gTokens.f k s = some (r1, r2, r3)) (hg : Gl w) :
    Calls Tryd.prog 12 #[.string s] w fun e w' => ∃ v, e = .returned (.tuple #[v, .int .i64 r2, .int .i64 r3]) ∧ Kd.R k58 58 w' w.heap.size (fun _ => True) v r1 ∧ Below w.heap.size w w' := by
  obtain ⟨hs, e⟩ := of_guard h
  have := Tokens_any s w hg hs
  rw [e] at this
  exact this
def gTight.f (k : Nat) (l : List Tk) : Option (ByteArray × Int) := if l.length ≤ 140737488351232 ∧ ∀ x ∈ l, x.f1.size ≤ 3000 then some (tightM l) else none
theorem gTight.calls (k : Nat) (A : Option Addr) (c : Nat) (l : List Tk) (r1 : ByteArray) (r2 : Int) (w : World) (hr : Kd.C k58 w A l.length l) (hc : l.length ≤ c) (h : gTight.f k l = some (r1, r2)) (hg : Gl w) :
    Calls Tryd.prog 30 #[.slice A l.length c] w fun e w' => e = .returned (.tuple #[.string r1, .int .i64 r2]) ∧ Below w.heap.size w w' := by
  obtain ⟨hs, e⟩ := of_guard h
  have := Tight_any l A c w hg hr hc hs.1 hs.2
  rw [e] at this
  exact this
def gPairs.f (k : Nat) (l : List Tk) : Option (List Int × Int × Int) := if l.length ≤ 1000 ∧ ∀ x ∈ l, x.f1.size ≤ 3000 then some (pairM l) else none
theorem gPairs.calls (k : Nat) (A : Option Addr) (c : Nat) (l : List Tk) (r1 : List Int) (r2 r3 : Int) (w : World) (hr : Kd.C k58 w A l.length l) (hc : l.length ≤ c) (h : gPairs.f k l = some (r1, r2, r3)) (hg : Gl w) :
    Calls Tryd.prog 32 #[.slice A l.length c] w fun e w' => ∃ v0_ : Value, e = .returned (.tuple #[v0_, .int .i64 r2, .int .i64 r3]) ∧ Kd.R (Kd.int .i64) 3 w' w.heap.size (fun _ => True) v0_ r1 ∧ Below w.heap.size w w' := by
  obtain ⟨hs, e⟩ := of_guard h
  exact lex_Pairs.calls 4001 A c l r1 r2 r3 w ⟨hg⟩ ⟨by omega, fun x hx => Nat.le_trans (hs.2 x hx) (by decide)⟩ hr hc ((pPairs l hs.1 4001 (by decide)).trans (congrArg some e))
def gDiff.f (k : Nat) (a b : ByteArray) : Option (List Sp × Int) := if a.size ≤ 3000 ∧ b.size ≤ 3000 then some (difM a b) else none
theorem gDiff.calls (k : Nat) (a b : ByteArray) (r1 : List Sp) (r2 : Int) (w : World) (h : gDiff.f k a b = some (r1, r2)) :
    Calls Tryd.prog 19 #[.string a, .string b] w fun e w' => ∃ v, e = .returned (.tuple #[v, .int .i64 r2]) ∧ Kd.R k60 60 w' w.heap.size (fun _ => True) v r1 ∧ Below w.heap.size w w' := by
  obtain ⟨hs, e⟩ := of_guard h
  have := Diff_any a b w hs.1 hs.2
  rw [e] at this
  exact this
def gKept.f (k : Nat) (s : ByteArray) (a b : Int) (t : ByteArray) : Option (Int × Int × Int) := if s.size ≤ 3000 ∧ t.size ≤ 3000 then some (kepM s ⟨a, b, t⟩) else none
theorem gKept.calls (k : Nat) (s : ByteArray) (a b : Int) (t : ByteArray) (r1 r2 r3 : Int) (w : World) (h : gKept.f k s a b t = some (r1, r2, r3)) (hg : Gl w) :
    Calls Tryd.prog 39 #[.string s, .agg #[.int .i64 a, .int .i64 b, .string t]] w fun e w' => e = .returned (.tuple #[.int .i64 r1, .int .i64 r2, .int .i64 r3]) ∧ Below w.heap.size w w' := by
  obtain ⟨hs, e⟩ := of_guard h
  have := Kept_any s ⟨a, b, t⟩ w hg hs.1 hs.2
  rw [e] at this
  exact this
def gRename.f (k : Nat) (s o n : ByteArray) : Option (ByteArray × Int) := if s.size ≤ 140737488351232 ∧ o.size ≤ 140737488351232 ∧ n.size ≤ 140737488351232 then some (renM s o n) else none
theorem gRename.calls (k : Nat) (s o n : ByteArray) (r1 : ByteArray) (r2 : Int) (w : World) (h : gRename.f k s o n = some (r1, r2)) (hg : Gl w) :
    Calls Tryd.prog 17 #[.string s, .string o, .string n] w fun e w' => e = .returned (.tuple #[.string r1, .int .i64 r2]) ∧ Below w.heap.size w w' := by
  obtain ⟨hs, e⟩ := of_guard h
  have := Rename_any s o n w hg hs.1 hs.2.1 hs.2.2
  rw [e] at this
  exact this
def gAwake.f (k : Nat) : Option Bool := some true
theorem gAwake.calls (k : Nat) (r : Bool) (w : World) (h : gAwake.f k = some r) (hg : Gl w) :
    Calls Tryd.prog 11 #[] w fun e w' => e = .returned (.bool r) ∧ Below w.heap.size w w' := by
  obtain rfl : true = r := Option.some.inj h
  exact awake_any w hg
end Go.Proofs.YtebidpcmcekbgaaDoor.P
namespace Go.Proofs.YtebidpcmcekbgaaDoor.P
open Go.RowKit Go.Proofs.YtebidpcmcekbgaaDoorW.PrintWords Go.Proofs.YtebidpcmcekbgaaDoorW.PrintLast Go.Proofs.YtebidpcmcekbgaaDoorW.PrintMore
attribute [local go_sem] min2_int min_two -- for this text's walks alone
set_option linter.unusedVariables false
set_option linter.unusedSimpArgs false
attribute [local go_sem high] eqA52 eqA60
/-! ### ripostelaw01_LexNames: function 10 -/
mutual
def ripostelaw01_LexNames.j0 : Nat → Bool → Option (Bool)
  | 0, _ => none
  | k + 1, x58 => if x58 = true then (some false) else ((gSpot.f k (⟨#[97, 10, 98, 99]⟩ : ByteArray) 3).bind fun bt214 => ((gAt.f k (⟨#[97, 10, 98, 99]⟩ : ByteArray) 1 2).bind fun bt218 => ((gAt.f k (⟨#[97, 10, 98, 99]⟩ : ByteArray) 1 3).bind fun bt220 => (if bt214.2.2 = 0 then (if (!(bt214.1 == 2) || (!(bt214.2.1 == 2))) = true then (ripostelaw01_LexNames.j1 k true) else (if bt218.2 = 0 then (if bt218.1 = 1 then (ripostelaw01_LexNames.j1 k (bt220.2 != 7)) else (ripostelaw01_LexNames.j1 k true)) else (ripostelaw01_LexNames.j1 k true))) else (ripostelaw01_LexNames.j1 k true)))))
def ripostelaw01_LexNames.j1 : Nat → Bool → Option (Bool)
  | 0, _ => none
  | k + 1, x91 => if x91 = true then (some false) else ((gTight.f k (([(⟨1, (⟨#[120]⟩ : ByteArray), 0⟩ : S58), (⟨4, (⟨#[58]⟩ : ByteArray), 0⟩ : S58), (⟨4, (⟨#[61]⟩ : ByteArray), 0⟩ : S58), (⟨3, (⟨#[105, 110]⟩ : ByteArray), 0⟩ : S58), (⟨4, (⟨#[40]⟩ : ByteArray), 0⟩ : S58)] : List (S58)))).bind fun bt225 => ((gTight.f k (([(⟨1, (⟨#[105, 110]⟩ : ByteArray), 0⟩ : S58)] : List (S58)))).bind fun bt230 => ((gPairs.f k (([(⟨4, (⟨#[40]⟩ : ByteArray), 0⟩ : S58), (⟨4, (⟨#[125]⟩ : ByteArray), 0⟩ : S58)] : List (S58)))).bind fun bt235 => (if bt225.2 = 0 then (if bt225.1.toList = ([120, 58, 32, 61, 105, 110, 40] : List UInt8) then (if bt230.2 = 2 then (if bt235.2.2 = 4 then (ripostelaw01_LexNames.j2 k (bt235.2.1 != 1)) else (ripostelaw01_LexNames.j2 k true)) else (ripostelaw01_LexNames.j2 k true)) else (ripostelaw01_LexNames.j2 k true)) else (ripostelaw01_LexNames.j2 k true)))))
def ripostelaw01_LexNames.j2 : Nat → Bool → Option (Bool)
  | 0, _ => none
  | k + 1, x133 => if x133 = true then (some false) else ((some (([(⟨1, 2, (⟨#[120, 121]⟩ : ByteArray)⟩ : S60)] : List (S60)) : List (S60))).bind fun y240 => ((lex_Moved.f k (⟨#[97, 98, 99]⟩ : ByteArray) y240 2).bind fun bt243 => ((lex_Moved.f k (⟨#[97, 98, 99]⟩ : ByteArray) y240 1).bind fun bt245 => ((lex_Undo.f k (⟨#[97, 98, 99]⟩ : ByteArray) y240).bind fun bt247 => (if bt243.2 = 0 then (if bt243.1 = 3 then (if bt245.2 = 7 then (if bt247.2 = 0 then (if (bt247.1.length : Int) = 1 then (if 0 < (bt247.1.length : Int) then (ripostelaw01_LexNames.j3 k (!(((rd_T60 bt247.1 0).f0) == 1) || (!(((rd_T60 bt247.1 0).f1) == 3) || (!((((rd_T60 bt247.1 0).f2).toList) == ([98] : List UInt8)))))) else (none)) else (ripostelaw01_LexNames.j3 k true)) else (ripostelaw01_LexNames.j3 k true)) else (ripostelaw01_LexNames.j3 k true)) else (ripostelaw01_LexNames.j3 k true)) else (ripostelaw01_LexNames.j3 k true))))))
def ripostelaw01_LexNames.j3 : Nat → Bool → Option (Bool)
  | 0, _ => none
  | k + 1, x176 => if x176 = true then (some false) else ((gDiff.f k (⟨#[97, 97, 98]⟩ : ByteArray) (⟨#[97, 98]⟩ : ByteArray)).bind fun bt252 => ((gKept.f k (⟨#[97, 32, 98, 32, 99]⟩ : ByteArray) 2 3 (⟨#[100, 32, 101]⟩ : ByteArray)).bind fun bt256 => ((gRename.f k (⟨#[120, 32, 43, 32, 120, 115]⟩ : ByteArray) (⟨#[120]⟩ : ByteArray) (⟨#[120, 115]⟩ : ByteArray)).bind fun bt259 => ((gRename.f k (⟨#[120, 32, 43, 32, 120, 115]⟩ : ByteArray) (⟨#[120]⟩ : ByteArray) (⟨#[105, 102]⟩ : ByteArray)).bind fun bt261 => ((gRename.f k (⟨#[120, 32, 43, 32, 120, 115]⟩ : ByteArray) (⟨#[121]⟩ : ByteArray) (⟨#[122]⟩ : ByteArray)).bind fun bt263 => (if bt252.2 = 0 then (if (bt252.1.length : Int) = 1 then (if 0 < (bt252.1.length : Int) then (if (((rd_T60 bt252.1 0).f0) == 1 && (((rd_T60 bt252.1 0).f1) == 2 && ((((rd_T60 bt252.1 0).f2).toList) == ([] : List UInt8)))) = true then (if bt256.2.2 = 0 then (if bt256.1 = 1 then (if bt256.2.1 = 1 then (if bt259.2 = 6 then (if bt261.2 = 2 then (if bt263.2 = 7 then ((gAwake.f k).bind fun t266 => (some t266)) else (some false)) else (some false)) else (some false)) else (some false)) else (some false)) else (some false)) else (some false)) else (none)) else (some false)) else (some false)))))))
end
def ripostelaw01_LexNames.f (k : Nat)  : Option (Bool) := (gTokens.f k (⟨#[100, 101, 102, 32, 65, 98]⟩ : ByteArray)).bind fun bt199 => ((gTokens.f k (⟨#[97, 32, 48, 49]⟩ : ByteArray)).bind fun bt204 => ((gTokens.f k (⟨#[49, 48, 48, 48, 48, 48, 49]⟩ : ByteArray)).bind fun bt209 => (if bt199.2.2 = 4 then (if bt199.2.1 = 4 then (if bt204.2.2 = 4 then (if bt204.2.1 = 2 then (if bt209.2.2 = 3 then (ripostelaw01_LexNames.j0 k (bt209.2.1 != 0)) else (ripostelaw01_LexNames.j0 k true)) else (ripostelaw01_LexNames.j0 k true)) else (ripostelaw01_LexNames.j0 k true)) else (ripostelaw01_LexNames.j0 k true)) else (ripostelaw01_LexNames.j0 k true))))
theorem ripostelaw01_LexNames.j0_bad (k : Nat)  {r : Bool} (h : ripostelaw01_LexNames.j0 k true = some r) (hr : r = true) : False := by
  cases k with
  | zero => cases h
  | succ k => rw [ripostelaw01_LexNames.j0.eq_2, if_pos rfl] at h; exact absurd ((Option.some.inj h).trans hr) (by decide)
theorem ripostelaw01_LexNames.j1_bad (k : Nat)  {r : Bool} (h : ripostelaw01_LexNames.j1 k true = some r) (hr : r = true) : False := by
  cases k with
  | zero => cases h
  | succ k => rw [ripostelaw01_LexNames.j1.eq_2, if_pos rfl] at h; exact absurd ((Option.some.inj h).trans hr) (by decide)
theorem ripostelaw01_LexNames.j2_bad (k : Nat)  {r : Bool} (h : ripostelaw01_LexNames.j2 k true = some r) (hr : r = true) : False := by
  cases k with
  | zero => cases h
  | succ k => rw [ripostelaw01_LexNames.j2.eq_2, if_pos rfl] at h; exact absurd ((Option.some.inj h).trans hr) (by decide)
theorem ripostelaw01_LexNames.j3_bad (k : Nat)  {r : Bool} (h : ripostelaw01_LexNames.j3 k true = some r) (hr : r = true) : False := by
  cases k with
  | zero => cases h
  | succ k => rw [ripostelaw01_LexNames.j3.eq_2, if_pos rfl] at h; exact absurd ((Option.some.inj h).trans hr) (by decide)
set_option maxHeartbeats 8000000 in
set_option maxRecDepth 100000 in
theorem ripostelaw01_LexNames.calls (k : Nat)  (r : Bool) (w : World) (hgT : Aside0 (Gl w)) (h : ripostelaw01_LexNames.f k  = some r) (hr : r = true) :
    Calls Tryd.prog 10 #[] w fun e w' => e = .returned (.bool r) ∧ Below w.heap.size w w' := by
  have hu52 := Tryd.underlying52
  have hu58 := Tryd.underlying58
  have hu60 := Tryd.underlying60
  have HB := Aside0.mk (Below.refl w.heap.size w)
  have H : ((gTokens.f k (⟨#[100, 101, 102, 32, 65, 98]⟩ : ByteArray)).bind fun bt199 => ((gTokens.f k (⟨#[97, 32, 48, 49]⟩ : ByteArray)).bind fun bt204 => ((gTokens.f k (⟨#[49, 48, 48, 48, 48, 48, 49]⟩ : ByteArray)).bind fun bt209 => (if bt199.2.2 = 4 then (if bt199.2.1 = 4 then (if bt204.2.2 = 4 then (if bt204.2.1 = 2 then (if bt209.2.2 = 3 then (ripostelaw01_LexNames.j0 k (bt209.2.1 != 0)) else (ripostelaw01_LexNames.j0 k true)) else (ripostelaw01_LexNames.j0 k true)) else (ripostelaw01_LexNames.j0 k true)) else (ripostelaw01_LexNames.j0 k true)) else (ripostelaw01_LexNames.j0 k true))))) = some r := h
  clear h
  replace H := Option.bind_eq_some_iff.mp H
  obtain ⟨⟨t199, t200, t201⟩, A10, H⟩ := H
  replace H : ((gTokens.f k (⟨#[97, 32, 48, 49]⟩ : ByteArray)).bind fun bt204 => ((gTokens.f k (⟨#[49, 48, 48, 48, 48, 48, 49]⟩ : ByteArray)).bind fun bt209 => (if t201 = 4 then (if t200 = 4 then (if bt204.2.2 = 4 then (if bt204.2.1 = 2 then (if bt209.2.2 = 3 then (ripostelaw01_LexNames.j0 k (bt209.2.1 != 0)) else (ripostelaw01_LexNames.j0 k true)) else (ripostelaw01_LexNames.j0 k true)) else (ripostelaw01_LexNames.j0 k true)) else (ripostelaw01_LexNames.j0 k true)) else (ripostelaw01_LexNames.j0 k true)))) = some r := H
  have A1 := Aside0.mk A10
  clear A10
  replace H := Option.bind_eq_some_iff.mp H
  obtain ⟨⟨t204, t205, t206⟩, A20, H⟩ := H
  replace H : ((gTokens.f k (⟨#[49, 48, 48, 48, 48, 48, 49]⟩ : ByteArray)).bind fun bt209 => (if t201 = 4 then (if t200 = 4 then (if t206 = 4 then (if t205 = 2 then (if bt209.2.2 = 3 then (ripostelaw01_LexNames.j0 k (bt209.2.1 != 0)) else (ripostelaw01_LexNames.j0 k true)) else (ripostelaw01_LexNames.j0 k true)) else (ripostelaw01_LexNames.j0 k true)) else (ripostelaw01_LexNames.j0 k true)) else (ripostelaw01_LexNames.j0 k true))) = some r := H
  have A2 := Aside0.mk A20
  clear A20
  replace H := Option.bind_eq_some_iff.mp H
  obtain ⟨⟨t209, t210, t211⟩, A30, H⟩ := H
  replace H : (if t201 = 4 then (if t200 = 4 then (if t206 = 4 then (if t205 = 2 then (if t211 = 3 then (ripostelaw01_LexNames.j0 k (t210 != 0)) else (ripostelaw01_LexNames.j0 k true)) else (ripostelaw01_LexNames.j0 k true)) else (ripostelaw01_LexNames.j0 k true)) else (ripostelaw01_LexNames.j0 k true)) else (ripostelaw01_LexNames.j0 k true)) = some r := H
  have A3 := Aside0.mk A30
  clear A30
  have HC4 := Aside0.mk H
  clear H
  go_enter Tryd.func10, Tryd.ntmps10
  go_upto_region 4 with (first | ((with_reducible refine gate_callee (f := 12) rfl ?_); refine goesL_ (some 23) rfl rfl Tryd.func12 (by kernel_rfl) rfl #[.string (⟨#[100, 101, 102, 32, 65, 98]⟩ : ByteArray)] rfl (by (try simp only [List.map_toArray, List.map_cons, List.map_nil]); first | done | rfl | (simp only [List.length_drop, List.length_take]; rfl)) ?_; (with_reducible refine (gTokens.calls k (⟨#[100, 101, 102, 32, 65, 98]⟩ : ByteArray) t199 t200 t201 _ A1.out (Gl.mono hgT.out (by repeat (first | (with_reducible first | exact HB.out | apply below_alloc | apply pw_below_drewN | apply below_drew1) | exact HB.out | refine below_set ?_ (Aside0.out (by assumption)))))).mono ?_); rintro e w5 ⟨v202, rfl, ho0, hb⟩; refine ⟨_, rfl, ?_⟩; have n0_ := Aside0.mk (Kd.R_lower ho0 (below_size (by repeat (first | (with_reducible first | exact HB.out | apply below_alloc | apply pw_below_drewN | apply below_drew1) | exact HB.out)))); have n1_ := Aside0.mk (below_step (by repeat (first | (with_reducible first | exact HB.out | apply below_alloc | apply pw_below_drewN | apply below_drew1) | exact HB.out)) hb); clear HB; have HO203 := n0_; have HB := n1_; clear n0_ n1_; (try clear hb); (try clear hb2); (try clear hk); (try clear hi); (try clear ho0)) | ((with_reducible refine gate_callee (f := 12) rfl ?_); refine goesL_ (some 28) rfl rfl Tryd.func12 (by kernel_rfl) rfl #[.string (⟨#[97, 32, 48, 49]⟩ : ByteArray)] rfl (by (try simp only [List.map_toArray, List.map_cons, List.map_nil]); first | done | rfl | (simp only [List.length_drop, List.length_take]; rfl)) ?_; (with_reducible refine (gTokens.calls k (⟨#[97, 32, 48, 49]⟩ : ByteArray) t204 t205 t206 _ A2.out (Gl.mono hgT.out (by repeat (first | (with_reducible first | exact HB.out | apply below_alloc | apply pw_below_drewN | apply below_drew1) | exact HB.out | refine below_set ?_ (Aside0.out (by assumption)))))).mono ?_); rintro e w6 ⟨v207, rfl, ho0, hb⟩; refine ⟨_, rfl, ?_⟩; have n0_ := Aside0.mk (Kd.R_elder' (by (with_reducible repeat (first | apply Kd.R_alloc | apply Kd.R_drewN | apply Kd.R_drew)); exact HO203.out) (Kd.R_base ho0) hb); have n1_ := Aside0.mk (Kd.R_lower (Kd.R_new' ho0 (Kd.R_lt (by (with_reducible repeat (first | apply Kd.R_alloc | apply Kd.R_drewN | apply Kd.R_drew)); exact HO203.out))) (below_size (by repeat (first | (with_reducible first | exact HB.out | apply below_alloc | apply pw_below_drewN | apply below_drew1) | exact HB.out)))); have n2_ := Aside0.mk (below_step (by repeat (first | (with_reducible first | exact HB.out | apply below_alloc | apply pw_below_drewN | apply below_drew1) | exact HB.out)) hb); clear HO203; clear HB; have HO203 := n0_; have HO208 := n1_; have HB := n2_; clear n0_ n1_ n2_; (try clear hb); (try clear hb2); (try clear hk); (try clear hi); (try clear ho0)) | ((with_reducible refine gate_callee (f := 12) rfl ?_); refine goesL_ (some 33) rfl rfl Tryd.func12 (by kernel_rfl) rfl #[.string (⟨#[49, 48, 48, 48, 48, 48, 49]⟩ : ByteArray)] rfl (by (try simp only [List.map_toArray, List.map_cons, List.map_nil]); first | done | rfl | (simp only [List.length_drop, List.length_take]; rfl)) ?_; (with_reducible refine (gTokens.calls k (⟨#[49, 48, 48, 48, 48, 48, 49]⟩ : ByteArray) t209 t210 t211 _ A3.out (Gl.mono hgT.out (by repeat (first | (with_reducible first | exact HB.out | apply below_alloc | apply pw_below_drewN | apply below_drew1) | exact HB.out | refine below_set ?_ (Aside0.out (by assumption)))))).mono ?_); rintro e w7 ⟨v212, rfl, ho0, hb⟩; refine ⟨_, rfl, ?_⟩; have n0_ := Aside0.mk (Kd.R_elder' (by (with_reducible repeat (first | apply Kd.R_alloc | apply Kd.R_drewN | apply Kd.R_drew)); exact HO203.out) (Kd.R_base ho0) hb); have n1_ := Aside0.mk (Kd.R_elder' (by (with_reducible repeat (first | apply Kd.R_alloc | apply Kd.R_drewN | apply Kd.R_drew)); exact HO208.out) (Kd.R_base ho0) hb); have n2_ := Aside0.mk (Kd.R_lower (Kd.R_new' (Kd.R_new' ho0 (Kd.R_lt (by (with_reducible repeat (first | apply Kd.R_alloc | apply Kd.R_drewN | apply Kd.R_drew)); exact HO203.out))) (Kd.R_lt (by (with_reducible repeat (first | apply Kd.R_alloc | apply Kd.R_drewN | apply Kd.R_drew)); exact HO208.out))) (below_size (by repeat (first | (with_reducible first | exact HB.out | apply below_alloc | apply pw_below_drewN | apply below_drew1) | exact HB.out)))); have n3_ := Aside0.mk (below_step (by repeat (first | (with_reducible first | exact HB.out | apply below_alloc | apply pw_below_drewN | apply below_drew1) | exact HB.out)) hb); clear HO203; clear HO208; clear HB; have HO203 := n0_; have HO208 := n1_; have HO213 := n2_; have HB := n3_; clear n0_ n1_ n2_ n3_; (try clear hb); (try clear hb2); (try clear hk); (try clear hi); (try clear ho0)))
  (try simp only [Act.put, List.setIfInBounds_toArray, List.set_cons_zero, List.set_cons_succ])
  go_cut [58] (fun v58 wc => ∃ (kq : Nat) (x58_3 : Bool), v58 = .bool x58_3 ∧ Aside0 (ripostelaw01_LexNames.j0 kq x58_3 = some r) ∧ Aside0 (kq ≤ k) ∧ Aside0 (Below w.heap.size w wc))
  case first =>
    have H := HC4.out
    clear HC4
    by_cases c8 : t201 = 4
    · rw [if_pos c8] at H
      have c8b0 : (t201 == 4) = true := beq_iff_eq.mpr c8
      have c8b1 : (t201 != 4) = false := bne_eq_false_iff_eq.mpr c8
      clear c8
      (first | rw [c8b0] | (simp only [i64_w, i32_w]; rw [c8b0]) | skip)
      by_cases c9 : t200 = 4
      · rw [if_pos c9] at H
        have c9b0 : (t200 == 4) = true := beq_iff_eq.mpr c9
        have c9b1 : (t200 != 4) = false := bne_eq_false_iff_eq.mpr c9
        clear c9
        by_cases c10 : t206 = 4
        · rw [if_pos c10] at H
          have c10b0 : (t206 == 4) = true := beq_iff_eq.mpr c10
          have c10b1 : (t206 != 4) = false := bne_eq_false_iff_eq.mpr c10
          clear c10
          by_cases c11 : t205 = 2
          · rw [if_pos c11] at H
            have c11b0 : (t205 == 2) = true := beq_iff_eq.mpr c11
            have c11b1 : (t205 != 2) = false := bne_eq_false_iff_eq.mpr c11
            clear c11
            by_cases c12 : t211 = 3
            · rw [if_pos c12] at H
              have c12b0 : (t211 == 3) = true := beq_iff_eq.mpr c12
              have c12b1 : (t211 != 3) = false := bne_eq_false_iff_eq.mpr c12
              clear c12
              have H' := Aside0.mk H
              clear H
              go_wp2
              go_meet
              case rel => exact ⟨_, ((t210 != 0)), (by first | rfl | (simp; done) | (simp [*]; done)), H', ⟨by first | omega | exact Nat.le_refl _⟩, ⟨by repeat (first | (with_reducible first | exact HB.out | apply below_alloc | apply pw_below_drewN | apply below_drew1) | exact HB.out)⟩⟩
            · rw [if_neg c12] at H
              exact False.elim (by first | (refine ripostelaw01_LexNames.j0_bad _  H hr) | (refine ripostelaw01_LexNames.j1_bad _  H hr) | (refine ripostelaw01_LexNames.j2_bad _  H hr) | (refine ripostelaw01_LexNames.j3_bad _  H hr))
          · rw [if_neg c11] at H
            exact False.elim (by first | (refine ripostelaw01_LexNames.j0_bad _  H hr) | (refine ripostelaw01_LexNames.j1_bad _  H hr) | (refine ripostelaw01_LexNames.j2_bad _  H hr) | (refine ripostelaw01_LexNames.j3_bad _  H hr))
        · rw [if_neg c10] at H
          exact False.elim (by first | (refine ripostelaw01_LexNames.j0_bad _  H hr) | (refine ripostelaw01_LexNames.j1_bad _  H hr) | (refine ripostelaw01_LexNames.j2_bad _  H hr) | (refine ripostelaw01_LexNames.j3_bad _  H hr))
      · rw [if_neg c9] at H
        exact False.elim (by first | (refine ripostelaw01_LexNames.j0_bad _  H hr) | (refine ripostelaw01_LexNames.j1_bad _  H hr) | (refine ripostelaw01_LexNames.j2_bad _  H hr) | (refine ripostelaw01_LexNames.j3_bad _  H hr))
    · rw [if_neg c8] at H
      exact False.elim (by first | (refine ripostelaw01_LexNames.j0_bad _  H hr) | (refine ripostelaw01_LexNames.j1_bad _  H hr) | (refine ripostelaw01_LexNames.j2_bad _  H hr) | (refine ripostelaw01_LexNames.j3_bad _  H hr))
  case rest =>
    clear HC4
    try clear c1
    try clear p2
    try clear c8
    try clear c8b0
    try clear c8b1
    try clear c9
    try clear c9b0
    try clear c9b1
    try clear c10
    try clear c10b0
    try clear c10b1
    try clear c11
    try clear c11b0
    try clear c11b1
    try clear c12
    try clear c12b0
    try clear c12b1
    obtain ⟨kq, x58_3, rfl, HA, HJ3, HB⟩ := hcut
    cases kq with
    | zero => exact absurd HA.out (by simp [ripostelaw01_LexNames.j0])
    | succ kj3 =>
      have H := HA.out
      clear HA
      simp only [ripostelaw01_LexNames.j0] at H
      by_cases c13 : x58_3 = true
      · subst c13
        have H1 : (some false) = some r := by rw [if_pos rfl] at H; exact H
        clear H
        have H := H1
        clear H1
        obtain rfl := Option.some.inj H
        go_wp2
        all_goals (first | (rename_i hx; exact absurd (by simpa using c80b0) hx) | (go_ret; exact ⟨by first | rfl | (simp [*]; done) | (simp [*] <;> rfl), by repeat (first | (with_reducible first | exact HB.out | apply below_alloc | apply pw_below_drewN | apply below_drew1) | exact HB.out)⟩))
      · replace c13 := Bool.eq_false_iff.mpr c13
        subst c13
        have H1 : ((gSpot.f kj3 (⟨#[97, 10, 98, 99]⟩ : ByteArray) 3).bind fun bt214 => ((gAt.f kj3 (⟨#[97, 10, 98, 99]⟩ : ByteArray) 1 2).bind fun bt218 => ((gAt.f kj3 (⟨#[97, 10, 98, 99]⟩ : ByteArray) 1 3).bind fun bt220 => (if bt214.2.2 = 0 then (if (!(bt214.1 == 2) || (!(bt214.2.1 == 2))) = true then (ripostelaw01_LexNames.j1 kj3 true) else (if bt218.2 = 0 then (if bt218.1 = 1 then (ripostelaw01_LexNames.j1 kj3 (bt220.2 != 7)) else (ripostelaw01_LexNames.j1 kj3 true)) else (ripostelaw01_LexNames.j1 kj3 true))) else (ripostelaw01_LexNames.j1 kj3 true))))) = some r := by rw [if_neg (show ¬ (false = true) by decide)] at H; exact H
        clear H
        have H := H1
        clear H1
        replace H := Option.bind_eq_some_iff.mp H
        obtain ⟨⟨t214, t215, t216⟩, A140, H⟩ := H
        replace H : ((gAt.f kj3 (⟨#[97, 10, 98, 99]⟩ : ByteArray) 1 2).bind fun bt218 => ((gAt.f kj3 (⟨#[97, 10, 98, 99]⟩ : ByteArray) 1 3).bind fun bt220 => (if t216 = 0 then (if (!(t214 == 2) || (!(t215 == 2))) = true then (ripostelaw01_LexNames.j1 kj3 true) else (if bt218.2 = 0 then (if bt218.1 = 1 then (ripostelaw01_LexNames.j1 kj3 (bt220.2 != 7)) else (ripostelaw01_LexNames.j1 kj3 true)) else (ripostelaw01_LexNames.j1 kj3 true))) else (ripostelaw01_LexNames.j1 kj3 true)))) = some r := H
        have A14 := Aside0.mk A140
        clear A140
        replace H := Option.bind_eq_some_iff.mp H
        obtain ⟨⟨t218, t219⟩, A150, H⟩ := H
        replace H : ((gAt.f kj3 (⟨#[97, 10, 98, 99]⟩ : ByteArray) 1 3).bind fun bt220 => (if t216 = 0 then (if (!(t214 == 2) || (!(t215 == 2))) = true then (ripostelaw01_LexNames.j1 kj3 true) else (if t219 = 0 then (if t218 = 1 then (ripostelaw01_LexNames.j1 kj3 (bt220.2 != 7)) else (ripostelaw01_LexNames.j1 kj3 true)) else (ripostelaw01_LexNames.j1 kj3 true))) else (ripostelaw01_LexNames.j1 kj3 true))) = some r := H
        have A15 := Aside0.mk A150
        clear A150
        replace H := Option.bind_eq_some_iff.mp H
        obtain ⟨⟨t220, t221⟩, A160, H⟩ := H
        replace H : (if t216 = 0 then (if (!(t214 == 2) || (!(t215 == 2))) = true then (ripostelaw01_LexNames.j1 kj3 true) else (if t219 = 0 then (if t218 = 1 then (ripostelaw01_LexNames.j1 kj3 (t221 != 7)) else (ripostelaw01_LexNames.j1 kj3 true)) else (ripostelaw01_LexNames.j1 kj3 true))) else (ripostelaw01_LexNames.j1 kj3 true)) = some r := H
        have A16 := Aside0.mk A160
        clear A160
        have HC17 := Aside0.mk H
        clear H
        go_upto_region 9 with (first | ((with_reducible refine gate_callee (f := 35) rfl ?_); refine goesL_ (some 60) rfl rfl Tryd.func35 (by kernel_rfl) rfl #[.string (⟨#[97, 10, 98, 99]⟩ : ByteArray), .int .i64 3] rfl (by (try simp only [List.map_toArray, List.map_cons, List.map_nil]); first | done | rfl | (simp only [List.length_drop, List.length_take]; rfl)) ?_; (with_reducible refine (gSpot.calls kj3 (⟨#[97, 10, 98, 99]⟩ : ByteArray) 3 t214 t215 t216 _ A14.out).mono ?_); rintro e w18 ⟨rfl, hb⟩; refine ⟨_, rfl, ?_⟩; have n0_ := Aside0.mk (below_step (by repeat (first | (with_reducible first | exact HB.out | apply below_alloc | apply pw_below_drewN | apply below_drew1) | exact HB.out)) hb); clear HB; have HB := n0_; clear n0_; (try clear hb); (try clear hb2); (try clear hk); (try clear hi)) | ((with_reducible refine gate_dst (N := 10) rfl ?_); (try (refine gate_guard (by rfl) ?_; dsimp only)); refine box_event ?hg (N := 10) ?hd (cs := #[.int .i64 0, .int .i64 0]) (t := 52) ?hr ?_; (case hd => rfl); (case hg => rfl); (case hr => first | (go_simp; done) | (go_simp; rfl)); intro gb217 hg w19 hbox hb; have n0_ := Aside0.mk (below_step (by repeat (first | (with_reducible first | exact HB.out | apply below_alloc | apply pw_below_drewN | apply below_drew1) | exact HB.out)) hb); have n1_ := Aside0.mk (hbox); have n2_ := Aside0.mk ((by rw [hg]; exact (below_size (by repeat (first | (with_reducible first | exact HB.out | apply below_alloc | apply pw_below_drewN | apply below_drew1) | exact HB.out))) : w.heap.size ≤ gb217)); have n3_ := Aside0.mk ((by rw [hg]; exact (below_size (by repeat (first | (with_reducible first | exact HB.out | apply below_alloc | apply pw_below_drewN | apply below_drew1) | exact HB.out))) : w.heap.size ≤ gb217)); clear HB; have HB := n0_; have BK217 := n1_; have GW217 := n2_; have GE217 := n3_; clear n0_ n1_ n2_ n3_; clear hb hbox hg; have hcz20_0 : w19.cell? ⟨gb217, 0, none⟩ = some (.int .i64 0) := (blk_cell BK217.out 0).trans rfl; have hcz20_1 : w19.cell? ⟨gb217, 1, none⟩ = some (.int .i64 0) := (blk_cell BK217.out 1).trans rfl; have hfz20_0 := blk_frozen BK217.out 0; have hfz20_1 := blk_frozen BK217.out 1) | ((with_reducible refine gate_callee (f := 37) rfl ?_); refine goesL_ (some 65) rfl rfl Tryd.func37 (by kernel_rfl) rfl #[.string (⟨#[97, 10, 98, 99]⟩ : ByteArray), .agg #[.int .i64 1, .int .i64 2]] rfl (by (try simp only [List.map_toArray, List.map_cons, List.map_nil]); first | done | rfl | (simp only [List.length_drop, List.length_take]; rfl)) ?_; (with_reducible refine (gAt.calls kj3 (⟨#[97, 10, 98, 99]⟩ : ByteArray) 1 2 t218 t219 _ A15.out).mono ?_); rintro e w21 ⟨rfl, hb⟩; refine ⟨_, rfl, ?_⟩; have n0_ := Aside0.mk (blk_below (g := gb217) (o := .cells #[.int .i64 t214, .int .i64 t215] 52 (0, 0)) (by (with_reducible repeat (first | refine blk_drewN ?_ _ | refine blk_drew ?_ | refine blk_alloc ?_ _)); refine blk_put (cs := #[.int .i64 t214, .int .i64 0]) ?_ 1 _ rfl; (with_reducible repeat (first | refine blk_drewN ?_ _ | refine blk_drew ?_ | refine blk_alloc ?_ _)); refine blk_put (cs := #[.int .i64 0, .int .i64 0]) ?_ 0 _ rfl; (with_reducible repeat (first | refine blk_drewN ?_ _ | refine blk_drew ?_ | refine blk_alloc ?_ _)); exact BK217.out) hb); have n1_ := Aside0.mk (below_step (by repeat (first | (with_reducible first | exact HB.out | apply below_alloc | apply pw_below_drewN | apply below_drew1 | refine below_set ?_ GE217.out) | exact HB.out)) hb); clear BK217; clear HB; have BK217 := n0_; have HB := n1_; clear n0_ n1_; (try clear hb); (try clear hb2); (try clear hk); (try clear hi)) | ((with_reducible refine gate_callee (f := 37) rfl ?_); refine goesL_ (some 70) rfl rfl Tryd.func37 (by kernel_rfl) rfl #[.string (⟨#[97, 10, 98, 99]⟩ : ByteArray), .agg #[.int .i64 1, .int .i64 3]] rfl (by (try simp only [List.map_toArray, List.map_cons, List.map_nil]); first | done | rfl | (simp only [List.length_drop, List.length_take]; rfl)) ?_; (with_reducible refine (gAt.calls kj3 (⟨#[97, 10, 98, 99]⟩ : ByteArray) 1 3 t220 t221 _ A16.out).mono ?_); rintro e w22 ⟨rfl, hb⟩; refine ⟨_, rfl, ?_⟩; have n0_ := Aside0.mk (blk_below (g := gb217) (o := .cells #[.int .i64 t214, .int .i64 t215] 52 (0, 0)) (by (with_reducible repeat (first | refine blk_drewN ?_ _ | refine blk_drew ?_ | refine blk_alloc ?_ _)); exact BK217.out) hb); have n1_ := Aside0.mk (below_step (by repeat (first | (with_reducible first | exact HB.out | apply below_alloc | apply pw_below_drewN | apply below_drew1 | refine below_set ?_ GE217.out) | exact HB.out)) hb); clear BK217; clear HB; have BK217 := n0_; have HB := n1_; clear n0_ n1_; (try clear hb); (try clear hb2); (try clear hk); (try clear hi)))
        (try simp only [Act.put, List.setIfInBounds_toArray, List.set_cons_zero, List.set_cons_succ])
        go_cut [91] (fun v91 wc => ∃ (kq : Nat) (x91_16 : Bool), v91 = .bool x91_16 ∧ Aside0 (ripostelaw01_LexNames.j1 kq x91_16 = some r) ∧ Aside0 (kq ≤ kj3) ∧ Aside0 (wc.heap[gb217]? = some (.cells #[.int .i64 t214, .int .i64 t215] 52 (0, 0))) ∧ Aside0 (Below w.heap.size w wc))
        case first =>
          have H := HC17.out
          clear HC17
          by_cases c23 : t216 = 0
          · rw [if_pos c23] at H
            have c23b0 : (t216 == 0) = true := beq_iff_eq.mpr c23
            have c23b1 : (t216 != 0) = false := bne_eq_false_iff_eq.mpr c23
            clear c23
            (first | rw [c23b0] | (simp only [i64_w, i32_w]; rw [c23b0]) | skip)
            by_cases c24 : (!(t214 == 2) || (!(t215 == 2))) = true
            · rw [if_pos c24] at H
              exact False.elim (by first | (refine ripostelaw01_LexNames.j0_bad _  H hr) | (refine ripostelaw01_LexNames.j1_bad _  H hr) | (refine ripostelaw01_LexNames.j2_bad _  H hr) | (refine ripostelaw01_LexNames.j3_bad _  H hr))
            · rw [if_neg c24] at H
              have c24b0 : (!(t214 == 2) || (!(t215 == 2))) = false := by simpa using c24
              clear c24
              by_cases c26 : t219 = 0
              · rw [if_pos c26] at H
                have c26b0 : (t219 == 0) = true := beq_iff_eq.mpr c26
                have c26b1 : (t219 != 0) = false := bne_eq_false_iff_eq.mpr c26
                clear c26
                by_cases c27 : t218 = 1
                · rw [if_pos c27] at H
                  have c27b0 : (t218 == 1) = true := beq_iff_eq.mpr c27
                  have c27b1 : (t218 != 1) = false := bne_eq_false_iff_eq.mpr c27
                  clear c27
                  have H' := Aside0.mk H
                  clear H
                  have hcz28_0 : w22.cell? ⟨gb217, 0, none⟩ = some (.int .i64 t214) := (blk_cell BK217.out 0).trans rfl
                  have hcz28_1 : w22.cell? ⟨gb217, 1, none⟩ = some (.int .i64 t215) := (blk_cell BK217.out 1).trans rfl
                  have hfz28_0 := blk_frozen BK217.out 0
                  have hfz28_1 := blk_frozen BK217.out 1
                  go_wp2
                  go_meet
                  case rel => exact ⟨_, ((t221 != 7)), (by first | rfl | (simp; done) | (simp [*]; done)), H', ⟨by have := HJ3.out; first | omega | exact Nat.le_refl _⟩, ⟨by (with_reducible repeat (first | refine blk_drewN ?_ _ | refine blk_drew ?_ | refine blk_alloc ?_ _)); exact BK217.out⟩, ⟨by repeat (first | (with_reducible first | exact HB.out | apply below_alloc | apply pw_below_drewN | apply below_drew1 | refine below_set ?_ GE217.out) | exact HB.out)⟩⟩
                · rw [if_neg c27] at H
                  exact False.elim (by first | (refine ripostelaw01_LexNames.j0_bad _  H hr) | (refine ripostelaw01_LexNames.j1_bad _  H hr) | (refine ripostelaw01_LexNames.j2_bad _  H hr) | (refine ripostelaw01_LexNames.j3_bad _  H hr))
              · rw [if_neg c26] at H
                exact False.elim (by first | (refine ripostelaw01_LexNames.j0_bad _  H hr) | (refine ripostelaw01_LexNames.j1_bad _  H hr) | (refine ripostelaw01_LexNames.j2_bad _  H hr) | (refine ripostelaw01_LexNames.j3_bad _  H hr))
          · rw [if_neg c23] at H
            exact False.elim (by first | (refine ripostelaw01_LexNames.j0_bad _  H hr) | (refine ripostelaw01_LexNames.j1_bad _  H hr) | (refine ripostelaw01_LexNames.j2_bad _  H hr) | (refine ripostelaw01_LexNames.j3_bad _  H hr))
        case rest =>
          clear HC17
          try clear c1
          try clear c2
          try clear p2
          try clear c3
          try clear c8
          try clear c8b0
          try clear c8b1
          try clear c9
          try clear c9b0
          try clear c9b1
          try clear c10
          try clear c10b0
          try clear c10b1
          try clear c11
          try clear c11b0
          try clear c11b1
          try clear c12
          try clear c12b0
          try clear c12b1
          try clear c13
          try clear c23
          try clear c23b0
          try clear c23b1
          try clear c24
          try clear c24b0
          try clear c26
          try clear c26b0
          try clear c26b1
          try clear c27
          try clear c27b0
          try clear c27b1
          try clear hcz20_0
          try clear hcz20_1
          try clear hcz25_0
          try clear hcz25_1
          try clear hcz28_0
          try clear hcz28_1
          try clear hcz29_0
          try clear hcz29_1
          try clear hcz30_0
          try clear hcz30_1
          try clear hfz20_0
          try clear hfz20_1
          try clear hfz25_0
          try clear hfz25_1
          try clear hfz28_0
          try clear hfz28_1
          try clear hfz29_0
          try clear hfz29_1
          try clear hfz30_0
          try clear hfz30_1
          try clear p2
          obtain ⟨kq, x91_16, rfl, HA, HJ16, BK217, HB⟩ := hcut
          cases kq with
          | zero => exact absurd HA.out (by simp [ripostelaw01_LexNames.j1])
          | succ kj16 =>
            have H := HA.out
            clear HA
            simp only [ripostelaw01_LexNames.j1] at H
            by_cases c31 : x91_16 = true
            · subst c31
              have H1 : (some false) = some r := by rw [if_pos rfl] at H; exact H
              clear H
              have H := H1
              clear H1
              obtain rfl := Option.some.inj H
              go_wp2
              all_goals (first | (rename_i hx; exact absurd (by simpa using c80b0) hx) | (go_ret; exact ⟨by first | rfl | (simp [*]; done) | (simp [*] <;> rfl), by repeat (first | (with_reducible first | exact HB.out | apply below_alloc | apply pw_below_drewN | apply below_drew1 | refine below_set ?_ GE217.out) | exact HB.out)⟩))
            · replace c31 := Bool.eq_false_iff.mpr c31
              subst c31
              have H1 : ((gTight.f kj16 (([(⟨1, (⟨#[120]⟩ : ByteArray), 0⟩ : S58), (⟨4, (⟨#[58]⟩ : ByteArray), 0⟩ : S58), (⟨4, (⟨#[61]⟩ : ByteArray), 0⟩ : S58), (⟨3, (⟨#[105, 110]⟩ : ByteArray), 0⟩ : S58), (⟨4, (⟨#[40]⟩ : ByteArray), 0⟩ : S58)] : List (S58)))).bind fun bt225 => ((gTight.f kj16 (([(⟨1, (⟨#[105, 110]⟩ : ByteArray), 0⟩ : S58)] : List (S58)))).bind fun bt230 => ((gPairs.f kj16 (([(⟨4, (⟨#[40]⟩ : ByteArray), 0⟩ : S58), (⟨4, (⟨#[125]⟩ : ByteArray), 0⟩ : S58)] : List (S58)))).bind fun bt235 => (if bt225.2 = 0 then (if bt225.1.toList = ([120, 58, 32, 61, 105, 110, 40] : List UInt8) then (if bt230.2 = 2 then (if bt235.2.2 = 4 then (ripostelaw01_LexNames.j2 kj16 (bt235.2.1 != 1)) else (ripostelaw01_LexNames.j2 kj16 true)) else (ripostelaw01_LexNames.j2 kj16 true)) else (ripostelaw01_LexNames.j2 kj16 true)) else (ripostelaw01_LexNames.j2 kj16 true))))) = some r := by rw [if_neg (show ¬ (false = true) by decide)] at H; exact H
              clear H
              have H := H1
              clear H1
              obtain ⟨y222, hy222⟩ : ∃ y_ : List (S58), y_ = (([(⟨1, (⟨#[120]⟩ : ByteArray), 0⟩ : S58), (⟨4, (⟨#[58]⟩ : ByteArray), 0⟩ : S58), (⟨4, (⟨#[61]⟩ : ByteArray), 0⟩ : S58), (⟨3, (⟨#[105, 110]⟩ : ByteArray), 0⟩ : S58), (⟨4, (⟨#[40]⟩ : ByteArray), 0⟩ : S58)] : List (S58))) := ⟨_, rfl⟩
              replace H : ((gTight.f kj16 y222).bind fun bt225 => ((gTight.f kj16 (([(⟨1, (⟨#[105, 110]⟩ : ByteArray), 0⟩ : S58)] : List (S58)))).bind fun bt230 => ((gPairs.f kj16 (([(⟨4, (⟨#[40]⟩ : ByteArray), 0⟩ : S58), (⟨4, (⟨#[125]⟩ : ByteArray), 0⟩ : S58)] : List (S58)))).bind fun bt235 => (if bt225.2 = 0 then (if bt225.1.toList = ([120, 58, 32, 61, 105, 110, 40] : List UInt8) then (if bt230.2 = 2 then (if bt235.2.2 = 4 then (ripostelaw01_LexNames.j2 kj16 (bt235.2.1 != 1)) else (ripostelaw01_LexNames.j2 kj16 true)) else (ripostelaw01_LexNames.j2 kj16 true)) else (ripostelaw01_LexNames.j2 kj16 true)) else (ripostelaw01_LexNames.j2 kj16 true))))) = some r := by first | (rw [hy222]; with_reducible exact H) | (have H2_ := (Option.bind_some _ _).symm.trans H; rw [hy222]; with_reducible exact H2_) | (have H2_ := (Option.bind_some _ _).symm.trans H; with_reducible exact H2_) | with_reducible exact H | (rw [hy222]; exact H) | exact H
              have Ny222 := Aside0.mk hy222
              clear hy222
              replace H := Option.bind_eq_some_iff.mp H
              obtain ⟨⟨t225, t226⟩, A320, H⟩ := H
              replace H : ((gTight.f kj16 (([(⟨1, (⟨#[105, 110]⟩ : ByteArray), 0⟩ : S58)] : List (S58)))).bind fun bt230 => ((gPairs.f kj16 (([(⟨4, (⟨#[40]⟩ : ByteArray), 0⟩ : S58), (⟨4, (⟨#[125]⟩ : ByteArray), 0⟩ : S58)] : List (S58)))).bind fun bt235 => (if t226 = 0 then (if t225.toList = ([120, 58, 32, 61, 105, 110, 40] : List UInt8) then (if bt230.2 = 2 then (if bt235.2.2 = 4 then (ripostelaw01_LexNames.j2 kj16 (bt235.2.1 != 1)) else (ripostelaw01_LexNames.j2 kj16 true)) else (ripostelaw01_LexNames.j2 kj16 true)) else (ripostelaw01_LexNames.j2 kj16 true)) else (ripostelaw01_LexNames.j2 kj16 true)))) = some r := H
              have A32 := Aside0.mk A320
              clear A320
              obtain ⟨y227, hy227⟩ : ∃ y_ : List (S58), y_ = (([(⟨1, (⟨#[105, 110]⟩ : ByteArray), 0⟩ : S58)] : List (S58))) := ⟨_, rfl⟩
              replace H : ((gTight.f kj16 y227).bind fun bt230 => ((gPairs.f kj16 (([(⟨4, (⟨#[40]⟩ : ByteArray), 0⟩ : S58), (⟨4, (⟨#[125]⟩ : ByteArray), 0⟩ : S58)] : List (S58)))).bind fun bt235 => (if t226 = 0 then (if t225.toList = ([120, 58, 32, 61, 105, 110, 40] : List UInt8) then (if bt230.2 = 2 then (if bt235.2.2 = 4 then (ripostelaw01_LexNames.j2 kj16 (bt235.2.1 != 1)) else (ripostelaw01_LexNames.j2 kj16 true)) else (ripostelaw01_LexNames.j2 kj16 true)) else (ripostelaw01_LexNames.j2 kj16 true)) else (ripostelaw01_LexNames.j2 kj16 true)))) = some r := by first | (rw [hy227]; with_reducible exact H) | (have H2_ := (Option.bind_some _ _).symm.trans H; rw [hy227]; with_reducible exact H2_) | (have H2_ := (Option.bind_some _ _).symm.trans H; with_reducible exact H2_) | with_reducible exact H | (rw [hy227]; exact H) | exact H
              have Ny227 := Aside0.mk hy227
              clear hy227
              replace H := Option.bind_eq_some_iff.mp H
              obtain ⟨⟨t230, t231⟩, A330, H⟩ := H
              replace H : ((gPairs.f kj16 (([(⟨4, (⟨#[40]⟩ : ByteArray), 0⟩ : S58), (⟨4, (⟨#[125]⟩ : ByteArray), 0⟩ : S58)] : List (S58)))).bind fun bt235 => (if t226 = 0 then (if t225.toList = ([120, 58, 32, 61, 105, 110, 40] : List UInt8) then (if t231 = 2 then (if bt235.2.2 = 4 then (ripostelaw01_LexNames.j2 kj16 (bt235.2.1 != 1)) else (ripostelaw01_LexNames.j2 kj16 true)) else (ripostelaw01_LexNames.j2 kj16 true)) else (ripostelaw01_LexNames.j2 kj16 true)) else (ripostelaw01_LexNames.j2 kj16 true))) = some r := H
              have A33 := Aside0.mk A330
              clear A330
              obtain ⟨y232, hy232⟩ : ∃ y_ : List (S58), y_ = (([(⟨4, (⟨#[40]⟩ : ByteArray), 0⟩ : S58), (⟨4, (⟨#[125]⟩ : ByteArray), 0⟩ : S58)] : List (S58))) := ⟨_, rfl⟩
              replace H : ((gPairs.f kj16 y232).bind fun bt235 => (if t226 = 0 then (if t225.toList = ([120, 58, 32, 61, 105, 110, 40] : List UInt8) then (if t231 = 2 then (if bt235.2.2 = 4 then (ripostelaw01_LexNames.j2 kj16 (bt235.2.1 != 1)) else (ripostelaw01_LexNames.j2 kj16 true)) else (ripostelaw01_LexNames.j2 kj16 true)) else (ripostelaw01_LexNames.j2 kj16 true)) else (ripostelaw01_LexNames.j2 kj16 true))) = some r := by first | (rw [hy232]; with_reducible exact H) | (have H2_ := (Option.bind_some _ _).symm.trans H; rw [hy232]; with_reducible exact H2_) | (have H2_ := (Option.bind_some _ _).symm.trans H; with_reducible exact H2_) | with_reducible exact H | (rw [hy232]; exact H) | exact H
              have Ny232 := Aside0.mk hy232
              clear hy232
              replace H := Option.bind_eq_some_iff.mp H
              obtain ⟨⟨t235, t236, t237⟩, A340, H⟩ := H
              replace H : (if t226 = 0 then (if t225.toList = ([120, 58, 32, 61, 105, 110, 40] : List UInt8) then (if t231 = 2 then (if t237 = 4 then (ripostelaw01_LexNames.j2 kj16 (t236 != 1)) else (ripostelaw01_LexNames.j2 kj16 true)) else (ripostelaw01_LexNames.j2 kj16 true)) else (ripostelaw01_LexNames.j2 kj16 true)) else (ripostelaw01_LexNames.j2 kj16 true)) = some r := H
              have A34 := Aside0.mk A340
              clear A340
              have HC35 := Aside0.mk H
              clear H
              go_upto_region 14 with (first | ((with_reducible refine gate_dst (N := 98) rfl ?_); (try (refine gate_guard (by rfl) ?_; dsimp only)); refine Kd.R_lit k58 _ 58 ?hg (N := 98) ?hd (xs := ([(⟨1, (⟨#[120]⟩ : ByteArray), 0⟩ : S58), (⟨4, (⟨#[58]⟩ : ByteArray), 0⟩ : S58), (⟨4, (⟨#[61]⟩ : ByteArray), 0⟩ : S58), (⟨3, (⟨#[105, 110]⟩ : ByteArray), 0⟩ : S58), (⟨4, (⟨#[40]⟩ : ByteArray), 0⟩ : S58)] : List (S58))) (inner := [.int .u8 1, .string (⟨#[120]⟩ : ByteArray), .int .i64 0, .int .u8 4, .string (⟨#[58]⟩ : ByteArray), .int .i64 0, .int .u8 4, .string (⟨#[61]⟩ : ByteArray), .int .i64 0, .int .u8 3, .string (⟨#[105, 110]⟩ : ByteArray), .int .i64 0, .int .u8 4, .string (⟨#[40]⟩ : ByteArray), .int .i64 0]) (ok := fun _ => True) (okp := fun _ => True) ?hr ?hp (fun _ hk => hk) trivial (Below.refl _ _) (Nat.le_refl _) (by simp) ?_; (case hd => rfl); (case hg => rfl); (case hr => first | (go_simp; done) | (go_simp; rfl)); (case hp => exact (Reps.c3 (show Kd.M k58 _ _ _ (⟨1, (⟨#[120]⟩ : ByteArray), 0⟩ : S58) [.int .u8 1, .string (⟨#[120]⟩ : ByteArray), .int .i64 0] from (k58_mkM _ _ _ (⟨1, (⟨#[120]⟩ : ByteArray), 0⟩ : S58) )) (Reps.c3 (show Kd.M k58 _ _ _ (⟨4, (⟨#[58]⟩ : ByteArray), 0⟩ : S58) [.int .u8 4, .string (⟨#[58]⟩ : ByteArray), .int .i64 0] from (k58_mkM _ _ _ (⟨4, (⟨#[58]⟩ : ByteArray), 0⟩ : S58) )) (Reps.c3 (show Kd.M k58 _ _ _ (⟨4, (⟨#[61]⟩ : ByteArray), 0⟩ : S58) [.int .u8 4, .string (⟨#[61]⟩ : ByteArray), .int .i64 0] from (k58_mkM _ _ _ (⟨4, (⟨#[61]⟩ : ByteArray), 0⟩ : S58) )) (Reps.c3 (show Kd.M k58 _ _ _ (⟨3, (⟨#[105, 110]⟩ : ByteArray), 0⟩ : S58) [.int .u8 3, .string (⟨#[105, 110]⟩ : ByteArray), .int .i64 0] from (k58_mkM _ _ _ (⟨3, (⟨#[105, 110]⟩ : ByteArray), 0⟩ : S58) )) (Reps.c3 (show Kd.M k58 _ _ _ (⟨4, (⟨#[40]⟩ : ByteArray), 0⟩ : S58) [.int .u8 4, .string (⟨#[40]⟩ : ByteArray), .int .i64 0] from (k58_mkM _ _ _ (⟨4, (⟨#[40]⟩ : ByteArray), 0⟩ : S58) )) (Reps.none _ _))))))); intro v223 w36 ho37 hb hg_ hnew_; clear hg_ hnew_; (first | rw [← Ny222.out] at ho37 | (simp only [Int.reduceToNat] at ho37; rw [← Ny222.out] at ho37)); have n0_ := Aside0.mk (Kd.R_lower ho37 (below_size (by repeat (first | (with_reducible first | exact HB.out | apply below_alloc | apply pw_below_drewN | apply below_drew1 | refine below_set ?_ GE217.out) | exact HB.out)))); have n1_ := Aside0.mk (blk_below (g := gb217) (o := .cells #[.int .i64 t214, .int .i64 t215] 52 (0, 0)) (by (with_reducible repeat (first | refine blk_drewN ?_ _ | refine blk_drew ?_ | refine blk_alloc ?_ _)); exact BK217.out) hb); have n2_ := Aside0.mk (below_step (by repeat (first | (with_reducible first | exact HB.out | apply below_alloc | apply pw_below_drewN | apply below_drew1 | refine below_set ?_ GE217.out) | exact HB.out)) hb); clear BK217; clear HB; have HO224 := n0_; have BK217 := n1_; have HB := n2_; clear n0_ n1_ n2_; clear hb ho37; obtain ⟨Ao38, co38, eo38⟩ := Kd.R_slice HO224.out; subst eo38) | ((with_reducible refine gate_callee (f := 30) rfl ?_); refine goesL_ (some 99) rfl rfl Tryd.func30 (by kernel_rfl) rfl #[.slice Ao38 y222.length co38] rfl (by (try simp only [List.map_toArray, List.map_cons, List.map_nil]); first | done | rfl | (simp only [List.length_drop, List.length_take]; rfl)) ?_; (with_reducible refine (gTight.calls kj16 _ _ y222 t225 t226 _ ?side1 ?side2 A32.out (Gl.mono hgT.out (by repeat (first | (with_reducible first | exact HB.out | apply below_alloc | apply pw_below_drewN | apply below_drew1) | exact HB.out | refine below_set ?_ (Aside0.out (by assumption)))))).mono ?_); (case side1 => repeat (first | exact (Kd.R_reads' HO224.out).2.2 | (with_reducible refine Kd.C_alloc ?_ _) | (with_reducible refine Kd.C_drewN ?_ _) | (with_reducible refine Kd.C_drew ?_))); (case side2 => exact (Kd.R_reads' HO224.out).2.1); rintro e w39 ⟨rfl, hb⟩; refine ⟨_, rfl, ?_⟩; have n0_ := Aside0.mk (Kd.R_below (by (with_reducible repeat (first | apply Kd.R_alloc | apply Kd.R_drewN | apply Kd.R_drew)); exact HO224.out) hb); have n1_ := Aside0.mk (blk_below (g := gb217) (o := .cells #[.int .i64 t214, .int .i64 t215] 52 (0, 0)) (by (with_reducible repeat (first | refine blk_drewN ?_ _ | refine blk_drew ?_ | refine blk_alloc ?_ _)); exact BK217.out) hb); have n2_ := Aside0.mk (below_step (by repeat (first | (with_reducible first | exact HB.out | apply below_alloc | apply pw_below_drewN | apply below_drew1 | refine below_set ?_ GE217.out) | exact HB.out)) hb); clear HO224; clear BK217; clear HB; have HO224 := n0_; have BK217 := n1_; have HB := n2_; clear n0_ n1_ n2_; (try clear hb); (try clear hb2); (try clear hk); (try clear hi)) | ((with_reducible refine gate_dst (N := 104) rfl ?_); (try (refine gate_guard (by rfl) ?_; dsimp only)); refine Kd.R_lit k58 _ 58 ?hg (N := 104) ?hd (xs := ([(⟨1, (⟨#[105, 110]⟩ : ByteArray), 0⟩ : S58)] : List (S58))) (inner := [.int .u8 1, .string (⟨#[105, 110]⟩ : ByteArray), .int .i64 0]) (ok := fun _ => True) (okp := fun _ => True) ?hr ?hp (fun _ hk => hk) trivial (Below.refl _ _) (Nat.le_refl _) (by simp) ?_; (case hd => rfl); (case hg => rfl); (case hr => first | (go_simp; done) | (go_simp; rfl)); (case hp => exact (Reps.c3 (show Kd.M k58 _ _ _ (⟨1, (⟨#[105, 110]⟩ : ByteArray), 0⟩ : S58) [.int .u8 1, .string (⟨#[105, 110]⟩ : ByteArray), .int .i64 0] from (k58_mkM _ _ _ (⟨1, (⟨#[105, 110]⟩ : ByteArray), 0⟩ : S58) )) (Reps.none _ _))); intro v228 w40 ho41 hb hg_ hnew_; clear hg_ hnew_; (first | rw [← Ny227.out] at ho41 | (simp only [Int.reduceToNat] at ho41; rw [← Ny227.out] at ho41)); have n0_ := Aside0.mk (Kd.R_elder' (by (with_reducible repeat (first | apply Kd.R_alloc | apply Kd.R_drewN | apply Kd.R_drew)); exact HO224.out) (Kd.R_base ho41) hb); have n1_ := Aside0.mk (Kd.R_lower (Kd.R_new' ho41 (Kd.R_lt (by (with_reducible repeat (first | apply Kd.R_alloc | apply Kd.R_drewN | apply Kd.R_drew)); exact HO224.out))) (below_size (by repeat (first | (with_reducible first | exact HB.out | apply below_alloc | apply pw_below_drewN | apply below_drew1 | refine below_set ?_ GE217.out) | exact HB.out)))); have n2_ := Aside0.mk (blk_below (g := gb217) (o := .cells #[.int .i64 t214, .int .i64 t215] 52 (0, 0)) (by (with_reducible repeat (first | refine blk_drewN ?_ _ | refine blk_drew ?_ | refine blk_alloc ?_ _)); exact BK217.out) hb); have n3_ := Aside0.mk (below_step (by repeat (first | (with_reducible first | exact HB.out | apply below_alloc | apply pw_below_drewN | apply below_drew1 | refine below_set ?_ GE217.out) | exact HB.out)) hb); clear HO224; clear BK217; clear HB; have HO224 := n0_; have HO229 := n1_; have BK217 := n2_; have HB := n3_; clear n0_ n1_ n2_ n3_; clear hb ho41; obtain ⟨Ao42, co42, eo42⟩ := Kd.R_slice HO229.out; subst eo42) | ((with_reducible refine gate_callee (f := 30) rfl ?_); refine goesL_ (some 105) rfl rfl Tryd.func30 (by kernel_rfl) rfl #[.slice Ao42 y227.length co42] rfl (by (try simp only [List.map_toArray, List.map_cons, List.map_nil]); first | done | rfl | (simp only [List.length_drop, List.length_take]; rfl)) ?_; (with_reducible refine (gTight.calls kj16 _ _ y227 t230 t231 _ ?side1 ?side2 A33.out (Gl.mono hgT.out (by repeat (first | (with_reducible first | exact HB.out | apply below_alloc | apply pw_below_drewN | apply below_drew1) | exact HB.out | refine below_set ?_ (Aside0.out (by assumption)))))).mono ?_); (case side1 => repeat (first | exact (Kd.R_reads' HO229.out).2.2 | (with_reducible refine Kd.C_alloc ?_ _) | (with_reducible refine Kd.C_drewN ?_ _) | (with_reducible refine Kd.C_drew ?_))); (case side2 => exact (Kd.R_reads' HO229.out).2.1); rintro e w43 ⟨rfl, hb⟩; refine ⟨_, rfl, ?_⟩; have n0_ := Aside0.mk (Kd.R_below (by (with_reducible repeat (first | apply Kd.R_alloc | apply Kd.R_drewN | apply Kd.R_drew)); exact HO224.out) hb); have n1_ := Aside0.mk (Kd.R_below (by (with_reducible repeat (first | apply Kd.R_alloc | apply Kd.R_drewN | apply Kd.R_drew)); exact HO229.out) hb); have n2_ := Aside0.mk (blk_below (g := gb217) (o := .cells #[.int .i64 t214, .int .i64 t215] 52 (0, 0)) (by (with_reducible repeat (first | refine blk_drewN ?_ _ | refine blk_drew ?_ | refine blk_alloc ?_ _)); exact BK217.out) hb); have n3_ := Aside0.mk (below_step (by repeat (first | (with_reducible first | exact HB.out | apply below_alloc | apply pw_below_drewN | apply below_drew1 | refine below_set ?_ GE217.out) | exact HB.out)) hb); clear HO224; clear HO229; clear BK217; clear HB; have HO224 := n0_; have HO229 := n1_; have BK217 := n2_; have HB := n3_; clear n0_ n1_ n2_ n3_; (try clear hb); (try clear hb2); (try clear hk); (try clear hi)) | ((with_reducible refine gate_dst (N := 111) rfl ?_); (try (refine gate_guard (by rfl) ?_; dsimp only)); refine Kd.R_lit k58 _ 58 ?hg (N := 111) ?hd (xs := ([(⟨4, (⟨#[40]⟩ : ByteArray), 0⟩ : S58), (⟨4, (⟨#[125]⟩ : ByteArray), 0⟩ : S58)] : List (S58))) (inner := [.int .u8 4, .string (⟨#[40]⟩ : ByteArray), .int .i64 0, .int .u8 4, .string (⟨#[125]⟩ : ByteArray), .int .i64 0]) (ok := fun _ => True) (okp := fun _ => True) ?hr ?hp (fun _ hk => hk) trivial (Below.refl _ _) (Nat.le_refl _) (by simp) ?_; (case hd => rfl); (case hg => rfl); (case hr => first | (go_simp; done) | (go_simp; rfl)); (case hp => exact (Reps.c3 (show Kd.M k58 _ _ _ (⟨4, (⟨#[40]⟩ : ByteArray), 0⟩ : S58) [.int .u8 4, .string (⟨#[40]⟩ : ByteArray), .int .i64 0] from (k58_mkM _ _ _ (⟨4, (⟨#[40]⟩ : ByteArray), 0⟩ : S58) )) (Reps.c3 (show Kd.M k58 _ _ _ (⟨4, (⟨#[125]⟩ : ByteArray), 0⟩ : S58) [.int .u8 4, .string (⟨#[125]⟩ : ByteArray), .int .i64 0] from (k58_mkM _ _ _ (⟨4, (⟨#[125]⟩ : ByteArray), 0⟩ : S58) )) (Reps.none _ _)))); intro v233 w44 ho45 hb hg_ hnew_; clear hg_ hnew_; (first | rw [← Ny232.out] at ho45 | (simp only [Int.reduceToNat] at ho45; rw [← Ny232.out] at ho45)); have n0_ := Aside0.mk (Kd.R_elder' (by (with_reducible repeat (first | apply Kd.R_alloc | apply Kd.R_drewN | apply Kd.R_drew)); exact HO224.out) (Kd.R_base ho45) hb); have n1_ := Aside0.mk (Kd.R_elder' (by (with_reducible repeat (first | apply Kd.R_alloc | apply Kd.R_drewN | apply Kd.R_drew)); exact HO229.out) (Kd.R_base ho45) hb); have n2_ := Aside0.mk (Kd.R_lower (Kd.R_new' (Kd.R_new' ho45 (Kd.R_lt (by (with_reducible repeat (first | apply Kd.R_alloc | apply Kd.R_drewN | apply Kd.R_drew)); exact HO224.out))) (Kd.R_lt (by (with_reducible repeat (first | apply Kd.R_alloc | apply Kd.R_drewN | apply Kd.R_drew)); exact HO229.out))) (below_size (by repeat (first | (with_reducible first | exact HB.out | apply below_alloc | apply pw_below_drewN | apply below_drew1 | refine below_set ?_ GE217.out) | exact HB.out)))); have n3_ := Aside0.mk (blk_below (g := gb217) (o := .cells #[.int .i64 t214, .int .i64 t215] 52 (0, 0)) (by (with_reducible repeat (first | refine blk_drewN ?_ _ | refine blk_drew ?_ | refine blk_alloc ?_ _)); exact BK217.out) hb); have n4_ := Aside0.mk (below_step (by repeat (first | (with_reducible first | exact HB.out | apply below_alloc | apply pw_below_drewN | apply below_drew1 | refine below_set ?_ GE217.out) | exact HB.out)) hb); clear HO224; clear HO229; clear BK217; clear HB; have HO224 := n0_; have HO229 := n1_; have HO234 := n2_; have BK217 := n3_; have HB := n4_; clear n0_ n1_ n2_ n3_ n4_; clear hb ho45; obtain ⟨Ao46, co46, eo46⟩ := Kd.R_slice HO234.out; subst eo46) | ((with_reducible refine gate_callee (f := 32) rfl ?_); refine goesL_ (some 112) rfl rfl Tryd.func32 (by kernel_rfl) rfl #[.slice Ao46 y232.length co46] rfl (by (try simp only [List.map_toArray, List.map_cons, List.map_nil]); first | done | rfl | (simp only [List.length_drop, List.length_take]; rfl)) ?_; (with_reducible refine (gPairs.calls kj16 _ _ y232 t235 t236 t237 _ ?side1 ?side2 A34.out (Gl.mono hgT.out (by repeat (first | (with_reducible first | exact HB.out | apply below_alloc | apply pw_below_drewN | apply below_drew1) | exact HB.out | refine below_set ?_ (Aside0.out (by assumption)))))).mono ?_); (case side1 => repeat (first | exact (Kd.R_reads' HO234.out).2.2 | (with_reducible refine Kd.C_alloc ?_ _) | (with_reducible refine Kd.C_drewN ?_ _) | (with_reducible refine Kd.C_drew ?_))); (case side2 => exact (Kd.R_reads' HO234.out).2.1); rintro e w47 ⟨v238, rfl, ho0, hb⟩; refine ⟨_, rfl, ?_⟩; have n0_ := Aside0.mk (Kd.R_below (by (with_reducible repeat (first | apply Kd.R_alloc | apply Kd.R_drewN | apply Kd.R_drew)); exact HO224.out) hb); have n1_ := Aside0.mk (Kd.R_below (by (with_reducible repeat (first | apply Kd.R_alloc | apply Kd.R_drewN | apply Kd.R_drew)); exact HO229.out) hb); have n2_ := Aside0.mk (Kd.R_below (by (with_reducible repeat (first | apply Kd.R_alloc | apply Kd.R_drewN | apply Kd.R_drew)); exact HO234.out) hb); have n3_ := Aside0.mk (Kd.R_lower ho0 (below_size (by repeat (first | (with_reducible first | exact HB.out | apply below_alloc | apply pw_below_drewN | apply below_drew1 | refine below_set ?_ GE217.out) | exact HB.out)))); have n4_ := Aside0.mk (blk_below (g := gb217) (o := .cells #[.int .i64 t214, .int .i64 t215] 52 (0, 0)) (by (with_reducible repeat (first | refine blk_drewN ?_ _ | refine blk_drew ?_ | refine blk_alloc ?_ _)); exact BK217.out) hb); have n5_ := Aside0.mk (below_step (by repeat (first | (with_reducible first | exact HB.out | apply below_alloc | apply pw_below_drewN | apply below_drew1 | refine below_set ?_ GE217.out) | exact HB.out)) hb); clear HO224; clear HO229; clear HO234; clear BK217; clear HB; have HO224 := n0_; have HO229 := n1_; have HO234 := n2_; have HO239 := n3_; have BK217 := n4_; have HB := n5_; clear n0_ n1_ n2_ n3_ n4_ n5_; (try clear hb); (try clear hb2); (try clear hk); (try clear hi); (try clear ho0)))
              (try simp only [Act.put, List.setIfInBounds_toArray, List.set_cons_zero, List.set_cons_succ])
              go_cut [133] (fun v133 wc => ∃ (kq : Nat) (x133_34 : Bool), v133 = .bool x133_34 ∧ Aside0 (ripostelaw01_LexNames.j2 kq x133_34 = some r) ∧ Aside0 (kq ≤ kj16) ∧ Aside0 (wc.heap[gb217]? = some (.cells #[.int .i64 t214, .int .i64 t215] 52 (0, 0))) ∧ Aside0 (Below w.heap.size w wc))
              case first =>
                have H := HC35.out
                clear HC35
                by_cases c48 : t226 = 0
                · rw [if_pos c48] at H
                  have c48b0 : (t226 == 0) = true := beq_iff_eq.mpr c48
                  have c48b1 : (t226 != 0) = false := bne_eq_false_iff_eq.mpr c48
                  clear c48
                  (first | rw [c48b0] | (simp only [i64_w, i32_w]; rw [c48b0]) | skip)
                  by_cases c49 : t225.toList = ([120, 58, 32, 61, 105, 110, 40] : List UInt8)
                  · rw [if_pos c49] at H
                    have c49b0 : (t225.toList == ([120, 58, 32, 61, 105, 110, 40] : List UInt8)) = true := beq_iff_eq.mpr c49
                    have c49b1 : (t225.toList != ([120, 58, 32, 61, 105, 110, 40] : List UInt8)) = false := bne_eq_false_iff_eq.mpr c49
                    clear c49
                    by_cases c50 : t231 = 2
                    · rw [if_pos c50] at H
                      have c50b0 : (t231 == 2) = true := beq_iff_eq.mpr c50
                      have c50b1 : (t231 != 2) = false := bne_eq_false_iff_eq.mpr c50
                      clear c50
                      by_cases c51 : t237 = 4
                      · rw [if_pos c51] at H
                        have c51b0 : (t237 == 4) = true := beq_iff_eq.mpr c51
                        have c51b1 : (t237 != 4) = false := bne_eq_false_iff_eq.mpr c51
                        clear c51
                        have H' := Aside0.mk H
                        clear H
                        go_wp2
                        go_meet
                        case rel => exact ⟨_, ((t236 != 1)), (by first | rfl | (simp; done) | (simp [*]; done)), H', ⟨by have := HJ3.out; have := HJ16.out; first | omega | exact Nat.le_refl _⟩, ⟨by (with_reducible repeat (first | refine blk_drewN ?_ _ | refine blk_drew ?_ | refine blk_alloc ?_ _)); exact BK217.out⟩, ⟨by repeat (first | (with_reducible first | exact HB.out | apply below_alloc | apply pw_below_drewN | apply below_drew1 | refine below_set ?_ GE217.out) | exact HB.out)⟩⟩
                      · rw [if_neg c51] at H
                        exact False.elim (by first | (refine ripostelaw01_LexNames.j0_bad _  H hr) | (refine ripostelaw01_LexNames.j1_bad _  H hr) | (refine ripostelaw01_LexNames.j2_bad _  H hr) | (refine ripostelaw01_LexNames.j3_bad _  H hr))
                    · rw [if_neg c50] at H
                      exact False.elim (by first | (refine ripostelaw01_LexNames.j0_bad _  H hr) | (refine ripostelaw01_LexNames.j1_bad _  H hr) | (refine ripostelaw01_LexNames.j2_bad _  H hr) | (refine ripostelaw01_LexNames.j3_bad _  H hr))
                  · rw [if_neg c49] at H
                    exact False.elim (by first | (refine ripostelaw01_LexNames.j0_bad _  H hr) | (refine ripostelaw01_LexNames.j1_bad _  H hr) | (refine ripostelaw01_LexNames.j2_bad _  H hr) | (refine ripostelaw01_LexNames.j3_bad _  H hr))
                · rw [if_neg c48] at H
                  exact False.elim (by first | (refine ripostelaw01_LexNames.j0_bad _  H hr) | (refine ripostelaw01_LexNames.j1_bad _  H hr) | (refine ripostelaw01_LexNames.j2_bad _  H hr) | (refine ripostelaw01_LexNames.j3_bad _  H hr))
              case rest =>
                clear HC35
                try clear c1
                try clear c2
                try clear p2
                try clear c3
                try clear c4
                try clear c5
                try clear c8
                try clear c8b0
                try clear c8b1
                try clear c9
                try clear c9b0
                try clear c9b1
                try clear c10
                try clear c10b0
                try clear c10b1
                try clear c11
                try clear c11b0
                try clear c11b1
                try clear c12
                try clear c12b0
                try clear c12b1
                try clear c13
                try clear c23
                try clear c23b0
                try clear c23b1
                try clear c24
                try clear c24b0
                try clear c26
                try clear c26b0
                try clear c26b1
                try clear c27
                try clear c27b0
                try clear c27b1
                try clear c30
                try clear c31
                try clear c32
                try clear c35
                try clear c37
                try clear c48
                try clear c48b0
                try clear c48b1
                try clear c49
                try clear c49b0
                try clear c49b1
                try clear c50
                try clear c50b0
                try clear c50b1
                try clear c51
                try clear c51b0
                try clear c51b1
                try clear hcz20_0
                try clear hcz20_1
                try clear hcz25_0
                try clear hcz25_1
                try clear hcz28_0
                try clear hcz28_1
                try clear hcz29_0
                try clear hcz29_1
                try clear hcz30_0
                try clear hcz30_1
                try clear hfz20_0
                try clear hfz20_1
                try clear hfz25_0
                try clear hfz25_1
                try clear hfz28_0
                try clear hfz28_1
                try clear hfz29_0
                try clear hfz29_1
                try clear hfz30_0
                try clear hfz30_1
                try clear p2
                obtain ⟨kq, x133_34, rfl, HA, HJ34, BK217, HB⟩ := hcut
                cases kq with
                | zero => exact absurd HA.out (by simp [ripostelaw01_LexNames.j2])
                | succ kj34 =>
                  have H := HA.out
                  clear HA
                  simp only [ripostelaw01_LexNames.j2] at H
                  by_cases c52 : x133_34 = true
                  · subst c52
                    have H1 : (some false) = some r := by rw [if_pos rfl] at H; exact H
                    clear H
                    have H := H1
                    clear H1
                    obtain rfl := Option.some.inj H
                    go_wp2
                    all_goals (first | (rename_i hx; exact absurd (by simpa using c80b0) hx) | (go_ret; exact ⟨by first | rfl | (simp [*]; done) | (simp [*] <;> rfl), by repeat (first | (with_reducible first | exact HB.out | apply below_alloc | apply pw_below_drewN | apply below_drew1 | refine below_set ?_ GE217.out) | exact HB.out)⟩))
                  · replace c52 := Bool.eq_false_iff.mpr c52
                    subst c52
                    have H1 : ((some (([(⟨1, 2, (⟨#[120, 121]⟩ : ByteArray)⟩ : S60)] : List (S60)) : List (S60))).bind fun y240 => ((lex_Moved.f kj34 (⟨#[97, 98, 99]⟩ : ByteArray) y240 2).bind fun bt243 => ((lex_Moved.f kj34 (⟨#[97, 98, 99]⟩ : ByteArray) y240 1).bind fun bt245 => ((lex_Undo.f kj34 (⟨#[97, 98, 99]⟩ : ByteArray) y240).bind fun bt247 => (if bt243.2 = 0 then (if bt243.1 = 3 then (if bt245.2 = 7 then (if bt247.2 = 0 then (if (bt247.1.length : Int) = 1 then (if 0 < (bt247.1.length : Int) then (ripostelaw01_LexNames.j3 kj34 (!(((rd_T60 bt247.1 0).f0) == 1) || (!(((rd_T60 bt247.1 0).f1) == 3) || (!((((rd_T60 bt247.1 0).f2).toList) == ([98] : List UInt8)))))) else (none)) else (ripostelaw01_LexNames.j3 kj34 true)) else (ripostelaw01_LexNames.j3 kj34 true)) else (ripostelaw01_LexNames.j3 kj34 true)) else (ripostelaw01_LexNames.j3 kj34 true)) else (ripostelaw01_LexNames.j3 kj34 true)))))) = some r := by rw [if_neg (show ¬ (false = true) by decide)] at H; exact H
                    clear H
                    have H := H1
                    clear H1
                    obtain ⟨y240, hy240⟩ : ∃ y_ : List (S60), y_ = (([(⟨1, 2, (⟨#[120, 121]⟩ : ByteArray)⟩ : S60)] : List (S60))) := ⟨_, rfl⟩
                    replace H : ((lex_Moved.f kj34 (⟨#[97, 98, 99]⟩ : ByteArray) y240 2).bind fun bt243 => ((lex_Moved.f kj34 (⟨#[97, 98, 99]⟩ : ByteArray) y240 1).bind fun bt245 => ((lex_Undo.f kj34 (⟨#[97, 98, 99]⟩ : ByteArray) y240).bind fun bt247 => (if bt243.2 = 0 then (if bt243.1 = 3 then (if bt245.2 = 7 then (if bt247.2 = 0 then (if (bt247.1.length : Int) = 1 then (if 0 < (bt247.1.length : Int) then (ripostelaw01_LexNames.j3 kj34 (!(((rd_T60 bt247.1 0).f0) == 1) || (!(((rd_T60 bt247.1 0).f1) == 3) || (!((((rd_T60 bt247.1 0).f2).toList) == ([98] : List UInt8)))))) else (none)) else (ripostelaw01_LexNames.j3 kj34 true)) else (ripostelaw01_LexNames.j3 kj34 true)) else (ripostelaw01_LexNames.j3 kj34 true)) else (ripostelaw01_LexNames.j3 kj34 true)) else (ripostelaw01_LexNames.j3 kj34 true))))) = some r := by first | (rw [hy240]; with_reducible exact H) | (have H2_ := (Option.bind_some _ _).symm.trans H; rw [hy240]; with_reducible exact H2_) | (have H2_ := (Option.bind_some _ _).symm.trans H; with_reducible exact H2_) | with_reducible exact H | (rw [hy240]; exact H) | exact H
                    have Ny240 := Aside0.mk hy240
                    clear hy240
                    replace H := Option.bind_eq_some_iff.mp H
                    obtain ⟨⟨t243, t244⟩, A530, H⟩ := H
                    replace H : ((lex_Moved.f kj34 (⟨#[97, 98, 99]⟩ : ByteArray) y240 1).bind fun bt245 => ((lex_Undo.f kj34 (⟨#[97, 98, 99]⟩ : ByteArray) y240).bind fun bt247 => (if t244 = 0 then (if t243 = 3 then (if bt245.2 = 7 then (if bt247.2 = 0 then (if (bt247.1.length : Int) = 1 then (if 0 < (bt247.1.length : Int) then (ripostelaw01_LexNames.j3 kj34 (!(((rd_T60 bt247.1 0).f0) == 1) || (!(((rd_T60 bt247.1 0).f1) == 3) || (!((((rd_T60 bt247.1 0).f2).toList) == ([98] : List UInt8)))))) else (none)) else (ripostelaw01_LexNames.j3 kj34 true)) else (ripostelaw01_LexNames.j3 kj34 true)) else (ripostelaw01_LexNames.j3 kj34 true)) else (ripostelaw01_LexNames.j3 kj34 true)) else (ripostelaw01_LexNames.j3 kj34 true)))) = some r := H
                    have A53 := Aside0.mk A530
                    clear A530
                    replace H := Option.bind_eq_some_iff.mp H
                    obtain ⟨⟨t245, t246⟩, A540, H⟩ := H
                    replace H : ((lex_Undo.f kj34 (⟨#[97, 98, 99]⟩ : ByteArray) y240).bind fun bt247 => (if t244 = 0 then (if t243 = 3 then (if t246 = 7 then (if bt247.2 = 0 then (if (bt247.1.length : Int) = 1 then (if 0 < (bt247.1.length : Int) then (ripostelaw01_LexNames.j3 kj34 (!(((rd_T60 bt247.1 0).f0) == 1) || (!(((rd_T60 bt247.1 0).f1) == 3) || (!((((rd_T60 bt247.1 0).f2).toList) == ([98] : List UInt8)))))) else (none)) else (ripostelaw01_LexNames.j3 kj34 true)) else (ripostelaw01_LexNames.j3 kj34 true)) else (ripostelaw01_LexNames.j3 kj34 true)) else (ripostelaw01_LexNames.j3 kj34 true)) else (ripostelaw01_LexNames.j3 kj34 true))) = some r := H
                    have A54 := Aside0.mk A540
                    clear A540
                    replace H := Option.bind_eq_some_iff.mp H
                    obtain ⟨⟨t247, t248⟩, A550, H⟩ := H
                    replace H : (if t244 = 0 then (if t243 = 3 then (if t246 = 7 then (if t248 = 0 then (if (t247.length : Int) = 1 then (if 0 < (t247.length : Int) then (ripostelaw01_LexNames.j3 kj34 (!(((rd_T60 t247 0).f0) == 1) || (!(((rd_T60 t247 0).f1) == 3) || (!((((rd_T60 t247 0).f2).toList) == ([98] : List UInt8)))))) else (none)) else (ripostelaw01_LexNames.j3 kj34 true)) else (ripostelaw01_LexNames.j3 kj34 true)) else (ripostelaw01_LexNames.j3 kj34 true)) else (ripostelaw01_LexNames.j3 kj34 true)) else (ripostelaw01_LexNames.j3 kj34 true)) = some r := H
                    have A55 := Aside0.mk A550
                    clear A550
                    have HC56 := Aside0.mk H
                    clear H
                    go_upto_region 20 with (first | ((with_reducible refine gate_dst (N := 135) rfl ?_); (try (refine gate_guard (by rfl) ?_; dsimp only)); refine Kd.R_lit k60 _ 60 ?hg (N := 135) ?hd (xs := ([(⟨1, 2, (⟨#[120, 121]⟩ : ByteArray)⟩ : S60)] : List (S60))) (inner := [.int .i64 1, .int .i64 2, .string (⟨#[120, 121]⟩ : ByteArray)]) (ok := fun _ => True) (okp := fun _ => True) ?hr ?hp (fun _ hk => hk) trivial (Below.refl _ _) (Nat.le_refl _) (by simp) ?_; (case hd => rfl); (case hg => rfl); (case hr => first | (go_simp; done) | (go_simp; rfl)); (case hp => exact (Reps.c3 (show Kd.M k60 _ _ _ (⟨1, 2, (⟨#[120, 121]⟩ : ByteArray)⟩ : S60) [.int .i64 1, .int .i64 2, .string (⟨#[120, 121]⟩ : ByteArray)] from (k60_mkM _ _ _ (⟨1, 2, (⟨#[120, 121]⟩ : ByteArray)⟩ : S60) )) (Reps.none _ _))); intro v241 w57 ho58 hb hg_ hnew_; clear hg_ hnew_; (first | rw [← Ny240.out] at ho58 | (simp only [Int.reduceToNat] at ho58; rw [← Ny240.out] at ho58)); have n0_ := Aside0.mk (Kd.R_lower ho58 (below_size (by repeat (first | (with_reducible first | exact HB.out | apply below_alloc | apply pw_below_drewN | apply below_drew1 | refine below_set ?_ GE217.out) | exact HB.out)))); have n1_ := Aside0.mk (blk_below (g := gb217) (o := .cells #[.int .i64 t214, .int .i64 t215] 52 (0, 0)) (by (with_reducible repeat (first | refine blk_drewN ?_ _ | refine blk_drew ?_ | refine blk_alloc ?_ _)); exact BK217.out) hb); have n2_ := Aside0.mk (below_step (by repeat (first | (with_reducible first | exact HB.out | apply below_alloc | apply pw_below_drewN | apply below_drew1 | refine below_set ?_ GE217.out) | exact HB.out)) hb); clear BK217; clear HB; have HO242 := n0_; have BK217 := n1_; have HB := n2_; clear n0_ n1_ n2_; clear hb ho58; obtain ⟨Ao59, co59, eo59⟩ := Kd.R_slice HO242.out; subst eo59) | ((with_reducible refine gate_callee (f := 25) rfl ?_); refine goesL_ (some 138) rfl rfl Tryd.func25 (by kernel_rfl) rfl #[.string (⟨#[97, 98, 99]⟩ : ByteArray), .slice Ao59 y240.length co59, .int .i64 2] rfl (by (try simp only [List.map_toArray, List.map_cons, List.map_nil]); first | done | rfl | (simp only [List.length_drop, List.length_take]; rfl)) ?_; (with_reducible refine (lex_Moved.calls kj34 (⟨#[97, 98, 99]⟩ : ByteArray) _ _ y240 2 t243 t244 _ ?side1 ?side2 A53.out).mono ?_); (case side1 => repeat (first | exact (Kd.R_reads' HO242.out).2.2 | (with_reducible refine Kd.C_alloc ?_ _) | (with_reducible refine Kd.C_drewN ?_ _) | (with_reducible refine Kd.C_drew ?_))); (case side2 => exact (Kd.R_reads' HO242.out).2.1); rintro e w60 ⟨rfl, hb⟩; refine ⟨_, rfl, ?_⟩; have n0_ := Aside0.mk (Kd.R_below (by (with_reducible repeat (first | apply Kd.R_alloc | apply Kd.R_drewN | apply Kd.R_drew)); exact HO242.out) hb); have n1_ := Aside0.mk (blk_below (g := gb217) (o := .cells #[.int .i64 t214, .int .i64 t215] 52 (0, 0)) (by (with_reducible repeat (first | refine blk_drewN ?_ _ | refine blk_drew ?_ | refine blk_alloc ?_ _)); exact BK217.out) hb); have n2_ := Aside0.mk (below_step (by repeat (first | (with_reducible first | exact HB.out | apply below_alloc | apply pw_below_drewN | apply below_drew1 | refine below_set ?_ GE217.out) | exact HB.out)) hb); clear HO242; clear BK217; clear HB; have HO242 := n0_; have BK217 := n1_; have HB := n2_; clear n0_ n1_ n2_; (try clear hb); (try clear hb2); (try clear hk); (try clear hi)) | ((with_reducible refine gate_callee (f := 25) rfl ?_); refine goesL_ (some 143) rfl rfl Tryd.func25 (by kernel_rfl) rfl #[.string (⟨#[97, 98, 99]⟩ : ByteArray), .slice Ao59 y240.length co59, .int .i64 1] rfl (by (try simp only [List.map_toArray, List.map_cons, List.map_nil]); first | done | rfl | (simp only [List.length_drop, List.length_take]; rfl)) ?_; (with_reducible refine (lex_Moved.calls kj34 (⟨#[97, 98, 99]⟩ : ByteArray) _ _ y240 1 t245 t246 _ ?side1 ?side2 A54.out).mono ?_); (case side1 => repeat (first | exact (Kd.R_reads' HO242.out).2.2 | (with_reducible refine Kd.C_alloc ?_ _) | (with_reducible refine Kd.C_drewN ?_ _) | (with_reducible refine Kd.C_drew ?_))); (case side2 => exact (Kd.R_reads' HO242.out).2.1); rintro e w61 ⟨rfl, hb⟩; refine ⟨_, rfl, ?_⟩; have n0_ := Aside0.mk (Kd.R_below (by (with_reducible repeat (first | apply Kd.R_alloc | apply Kd.R_drewN | apply Kd.R_drew)); exact HO242.out) hb); have n1_ := Aside0.mk (blk_below (g := gb217) (o := .cells #[.int .i64 t214, .int .i64 t215] 52 (0, 0)) (by (with_reducible repeat (first | refine blk_drewN ?_ _ | refine blk_drew ?_ | refine blk_alloc ?_ _)); exact BK217.out) hb); have n2_ := Aside0.mk (below_step (by repeat (first | (with_reducible first | exact HB.out | apply below_alloc | apply pw_below_drewN | apply below_drew1 | refine below_set ?_ GE217.out) | exact HB.out)) hb); clear HO242; clear BK217; clear HB; have HO242 := n0_; have BK217 := n1_; have HB := n2_; clear n0_ n1_ n2_; (try clear hb); (try clear hb2); (try clear hk); (try clear hi)) | ((with_reducible refine gate_callee (f := 27) rfl ?_); refine goesL_ (some 148) rfl rfl Tryd.func27 (by kernel_rfl) rfl #[.string (⟨#[97, 98, 99]⟩ : ByteArray), .slice Ao59 y240.length co59] rfl (by (try simp only [List.map_toArray, List.map_cons, List.map_nil]); first | done | rfl | (simp only [List.length_drop, List.length_take]; rfl)) ?_; (with_reducible refine (lex_Undo.calls kj34 (⟨#[97, 98, 99]⟩ : ByteArray) _ _ y240 t247 t248 _ ?side1 ?side2 A55.out).mono ?_); (case side1 => repeat (first | exact (Kd.R_reads' HO242.out).2.2 | (with_reducible refine Kd.C_alloc ?_ _) | (with_reducible refine Kd.C_drewN ?_ _) | (with_reducible refine Kd.C_drew ?_))); (case side2 => exact (Kd.R_reads' HO242.out).2.1); rintro e w62 ⟨v249, rfl, ho0, hb⟩; refine ⟨_, rfl, ?_⟩; have n0_ := Aside0.mk (Kd.R_elder' (by (with_reducible repeat (first | apply Kd.R_alloc | apply Kd.R_drewN | apply Kd.R_drew)); exact HO242.out) (Kd.R_base ho0) hb); have n1_ := Aside0.mk (Kd.R_lower (Kd.R_new' ho0 (Kd.R_lt (by (with_reducible repeat (first | apply Kd.R_alloc | apply Kd.R_drewN | apply Kd.R_drew)); exact HO242.out))) (below_size (by repeat (first | (with_reducible first | exact HB.out | apply below_alloc | apply pw_below_drewN | apply below_drew1 | refine below_set ?_ GE217.out) | exact HB.out)))); have n2_ := Aside0.mk (blk_below (g := gb217) (o := .cells #[.int .i64 t214, .int .i64 t215] 52 (0, 0)) (by (with_reducible repeat (first | refine blk_drewN ?_ _ | refine blk_drew ?_ | refine blk_alloc ?_ _)); exact BK217.out) hb); have n3_ := Aside0.mk (below_step (by repeat (first | (with_reducible first | exact HB.out | apply below_alloc | apply pw_below_drewN | apply below_drew1 | refine below_set ?_ GE217.out) | exact HB.out)) hb); clear HO242; clear BK217; clear HB; have HO242 := n0_; have HO250 := n1_; have BK217 := n2_; have HB := n3_; clear n0_ n1_ n2_ n3_; (try clear hb); (try clear hb2); (try clear hk); (try clear hi); (try clear ho0)))
                    (try simp only [Act.put, List.setIfInBounds_toArray, List.set_cons_zero, List.set_cons_succ])
                    go_cut [176] (fun v176 wc => ∃ (kq : Nat) (x176_55 : Bool), v176 = .bool x176_55 ∧ Aside0 (ripostelaw01_LexNames.j3 kq x176_55 = some r) ∧ Aside0 (kq ≤ kj34) ∧ Aside0 (wc.heap[gb217]? = some (.cells #[.int .i64 t214, .int .i64 t215] 52 (0, 0))) ∧ Aside0 (Below w.heap.size w wc))
                    case first =>
                      have H := HC56.out
                      clear HC56
                      by_cases c63 : t244 = 0
                      · rw [if_pos c63] at H
                        have c63b0 : (t244 == 0) = true := beq_iff_eq.mpr c63
                        have c63b1 : (t244 != 0) = false := bne_eq_false_iff_eq.mpr c63
                        clear c63
                        (first | rw [c63b0] | (simp only [i64_w, i32_w]; rw [c63b0]) | skip)
                        by_cases c64 : t243 = 3
                        · rw [if_pos c64] at H
                          have c64b0 : (t243 == 3) = true := beq_iff_eq.mpr c64
                          have c64b1 : (t243 != 3) = false := bne_eq_false_iff_eq.mpr c64
                          clear c64
                          by_cases c65 : t246 = 7
                          · rw [if_pos c65] at H
                            have c65b0 : (t246 == 7) = true := beq_iff_eq.mpr c65
                            have c65b1 : (t246 != 7) = false := bne_eq_false_iff_eq.mpr c65
                            clear c65
                            by_cases c66 : t248 = 0
                            · rw [if_pos c66] at H
                              have c66b0 : (t248 == 0) = true := beq_iff_eq.mpr c66
                              have c66b1 : (t248 != 0) = false := bne_eq_false_iff_eq.mpr c66
                              clear c66
                              by_cases c67 : (t247.length : Int) = 1
                              · rw [if_pos c67] at H
                                have c67b0 : ((t247.length : Int) == 1) = true := beq_iff_eq.mpr c67
                                have c67b1 : ((t247.length : Int) != 1) = false := bne_eq_false_iff_eq.mpr c67
                                clear c67
                                by_cases c68 : 0 < (t247.length : Int)
                                · rw [if_pos c68] at H
                                  have c68b0 : decide (0 < (t247.length : Int)) = true := decide_eq_true c68
                                  have c68b1 : decide (0 < t247.length) = true := decide_eq_true (by omega)
                                  clear c68
                                  have H' := Aside0.mk H
                                  clear H
                                  obtain ⟨Ao69, co69, eo69⟩ := Kd.R_slice HO250.out
                                  subst eo69
                                  have p251 : 0 ≤ (0 : Int) := (by omega)
                                  have q251 : 0 < (t247.length : Int) := of_decide_eq_true (by first | (with_reducible assumption) | assumption)
                                  obtain ⟨ad251, e251, hx251_0, hx251_1, hx251_2⟩ := at_T60 (Kd.R_reads' HO250.out).2.2 0 p251 q251
                                  cases e251
                                  have qi251 : (0 < t247.length) = True := eq_true (by omega)
                                  (try rw [show ((0 : Int)).toNat = 0 from rfl] at hx251_0)
                                  (try rw [show 0 * 3 = 0 from rfl] at hx251_0)
                                  (try rw [Addr.add_zero'] at hx251_0)
                                  (try rw [show ((0 : Int)).toNat = 0 from rfl] at hx251_1)
                                  (try rw [show 0 * 3 = 0 from rfl] at hx251_1)
                                  (try rw [Addr.add_zero'] at hx251_1)
                                  (try rw [show ((0 : Int)).toNat = 0 from rfl] at hx251_2)
                                  (try rw [show 0 * 3 = 0 from rfl] at hx251_2)
                                  (try rw [Addr.add_zero'] at hx251_2)
                                  replace p251 := eq_true p251
                                  replace q251 := eq_true q251
                                  go_wp2
                                  go_meet
                                  case rel => exact ⟨_, ((!(((rd_T60 t247 0).f0) == 1) || (!(((rd_T60 t247 0).f1) == 3) || (!((((rd_T60 t247 0).f2).toList) == ([98] : List UInt8)))))), (by first | rfl | (simp; done) | (simp [*]; done)), H', ⟨by have := HJ3.out; have := HJ16.out; have := HJ34.out; first | omega | exact Nat.le_refl _⟩, ⟨by (with_reducible repeat (first | refine blk_drewN ?_ _ | refine blk_drew ?_ | refine blk_alloc ?_ _)); exact BK217.out⟩, ⟨by repeat (first | (with_reducible first | exact HB.out | apply below_alloc | apply pw_below_drewN | apply below_drew1 | refine below_set ?_ GE217.out) | exact HB.out)⟩⟩
                                · rw [if_neg c68] at H
                                  exact absurd H (by simp)
                              · rw [if_neg c67] at H
                                exact False.elim (by first | (refine ripostelaw01_LexNames.j0_bad _  H hr) | (refine ripostelaw01_LexNames.j1_bad _  H hr) | (refine ripostelaw01_LexNames.j2_bad _  H hr) | (refine ripostelaw01_LexNames.j3_bad _  H hr))
                            · rw [if_neg c66] at H
                              exact False.elim (by first | (refine ripostelaw01_LexNames.j0_bad _  H hr) | (refine ripostelaw01_LexNames.j1_bad _  H hr) | (refine ripostelaw01_LexNames.j2_bad _  H hr) | (refine ripostelaw01_LexNames.j3_bad _  H hr))
                          · rw [if_neg c65] at H
                            exact False.elim (by first | (refine ripostelaw01_LexNames.j0_bad _  H hr) | (refine ripostelaw01_LexNames.j1_bad _  H hr) | (refine ripostelaw01_LexNames.j2_bad _  H hr) | (refine ripostelaw01_LexNames.j3_bad _  H hr))
                        · rw [if_neg c64] at H
                          exact False.elim (by first | (refine ripostelaw01_LexNames.j0_bad _  H hr) | (refine ripostelaw01_LexNames.j1_bad _  H hr) | (refine ripostelaw01_LexNames.j2_bad _  H hr) | (refine ripostelaw01_LexNames.j3_bad _  H hr))
                      · rw [if_neg c63] at H
                        exact False.elim (by first | (refine ripostelaw01_LexNames.j0_bad _  H hr) | (refine ripostelaw01_LexNames.j1_bad _  H hr) | (refine ripostelaw01_LexNames.j2_bad _  H hr) | (refine ripostelaw01_LexNames.j3_bad _  H hr))
                    case rest =>
                      clear HC56
                      try clear c1
                      try clear c2
                      try clear p2
                      try clear q2
                      try clear hx2
                      try clear qi2
                      try clear c3
                      try clear c4
                      try clear c5
                      try clear c6
                      try clear c8
                      try clear c8b0
                      try clear c8b1
                      try clear c9
                      try clear c9b0
                      try clear c9b1
                      try clear c10
                      try clear c10b0
                      try clear c10b1
                      try clear c11
                      try clear c11b0
                      try clear c11b1
                      try clear c12
                      try clear c12b0
                      try clear c12b1
                      try clear c13
                      try clear c23
                      try clear c23b0
                      try clear c23b1
                      try clear c24
                      try clear c24b0
                      try clear c25
                      try clear p25
                      try clear q25
                      try clear hx25
                      try clear qi25
                      try clear c26
                      try clear c26b0
                      try clear c26b1
                      try clear c27
                      try clear c27b0
                      try clear c27b1
                      try clear c30
                      try clear c31
                      try clear c32
                      try clear c35
                      try clear c37
                      try clear c48
                      try clear c48b0
                      try clear c48b1
                      try clear c49
                      try clear c49b0
                      try clear c49b1
                      try clear c50
                      try clear c50b0
                      try clear c50b1
                      try clear c51
                      try clear c51b0
                      try clear c51b1
                      try clear c52
                      try clear c63
                      try clear c63b0
                      try clear c63b1
                      try clear c64
                      try clear c64b0
                      try clear c64b1
                      try clear c65
                      try clear c65b0
                      try clear c65b1
                      try clear c66
                      try clear c66b0
                      try clear c66b1
                      try clear c67
                      try clear c67b0
                      try clear c67b1
                      try clear c68
                      try clear c68b0
                      try clear c68b1
                      try clear hcz20_0
                      try clear hcz20_1
                      try clear hcz25_0
                      try clear hcz25_1
                      try clear hcz28_0
                      try clear hcz28_1
                      try clear hcz29_0
                      try clear hcz29_1
                      try clear hcz30_0
                      try clear hcz30_1
                      try clear hfz20_0
                      try clear hfz20_1
                      try clear hfz25_0
                      try clear hfz25_1
                      try clear hfz28_0
                      try clear hfz28_1
                      try clear hfz29_0
                      try clear hfz29_1
                      try clear hfz30_0
                      try clear hfz30_1
                      try clear hx251_0
                      try clear hx251_1
                      try clear hx251_2
                      try clear p2
                      try clear p251
                      try clear q251
                      obtain ⟨kq, x176_55, rfl, HA, HJ55, BK217, HB⟩ := hcut
                      cases kq with
                      | zero => exact absurd HA.out (by simp [ripostelaw01_LexNames.j3])
                      | succ kj55 =>
                        have H := HA.out
                        clear HA
                        simp only [ripostelaw01_LexNames.j3] at H
                        by_cases c71 : x176_55 = true
                        · subst c71
                          have H1 : (some false) = some r := by rw [if_pos rfl] at H; exact H
                          clear H
                          have H := H1
                          clear H1
                          obtain rfl := Option.some.inj H
                          go_wp2
                          all_goals (first | (rename_i hx; exact absurd (by simpa using c80b0) hx) | (go_ret; exact ⟨by first | rfl | (simp [*]; done) | (simp [*] <;> rfl), by repeat (first | (with_reducible first | exact HB.out | apply below_alloc | apply pw_below_drewN | apply below_drew1 | refine below_set ?_ GE217.out) | exact HB.out)⟩))
                        · replace c71 := Bool.eq_false_iff.mpr c71
                          subst c71
                          have H1 : ((gDiff.f kj55 (⟨#[97, 97, 98]⟩ : ByteArray) (⟨#[97, 98]⟩ : ByteArray)).bind fun bt252 => ((gKept.f kj55 (⟨#[97, 32, 98, 32, 99]⟩ : ByteArray) 2 3 (⟨#[100, 32, 101]⟩ : ByteArray)).bind fun bt256 => ((gRename.f kj55 (⟨#[120, 32, 43, 32, 120, 115]⟩ : ByteArray) (⟨#[120]⟩ : ByteArray) (⟨#[120, 115]⟩ : ByteArray)).bind fun bt259 => ((gRename.f kj55 (⟨#[120, 32, 43, 32, 120, 115]⟩ : ByteArray) (⟨#[120]⟩ : ByteArray) (⟨#[105, 102]⟩ : ByteArray)).bind fun bt261 => ((gRename.f kj55 (⟨#[120, 32, 43, 32, 120, 115]⟩ : ByteArray) (⟨#[121]⟩ : ByteArray) (⟨#[122]⟩ : ByteArray)).bind fun bt263 => (if bt252.2 = 0 then (if (bt252.1.length : Int) = 1 then (if 0 < (bt252.1.length : Int) then (if (((rd_T60 bt252.1 0).f0) == 1 && (((rd_T60 bt252.1 0).f1) == 2 && ((((rd_T60 bt252.1 0).f2).toList) == ([] : List UInt8)))) = true then (if bt256.2.2 = 0 then (if bt256.1 = 1 then (if bt256.2.1 = 1 then (if bt259.2 = 6 then (if bt261.2 = 2 then (if bt263.2 = 7 then ((gAwake.f kj55).bind fun t266 => (some t266)) else (some false)) else (some false)) else (some false)) else (some false)) else (some false)) else (some false)) else (some false)) else (none)) else (some false)) else (some false))))))) = some r := by rw [if_neg (show ¬ (false = true) by decide)] at H; exact H
                          clear H
                          have H := H1
                          clear H1
                          replace H := Option.bind_eq_some_iff.mp H
                          obtain ⟨⟨t252, t253⟩, A720, H⟩ := H
                          replace H : ((gKept.f kj55 (⟨#[97, 32, 98, 32, 99]⟩ : ByteArray) 2 3 (⟨#[100, 32, 101]⟩ : ByteArray)).bind fun bt256 => ((gRename.f kj55 (⟨#[120, 32, 43, 32, 120, 115]⟩ : ByteArray) (⟨#[120]⟩ : ByteArray) (⟨#[120, 115]⟩ : ByteArray)).bind fun bt259 => ((gRename.f kj55 (⟨#[120, 32, 43, 32, 120, 115]⟩ : ByteArray) (⟨#[120]⟩ : ByteArray) (⟨#[105, 102]⟩ : ByteArray)).bind fun bt261 => ((gRename.f kj55 (⟨#[120, 32, 43, 32, 120, 115]⟩ : ByteArray) (⟨#[121]⟩ : ByteArray) (⟨#[122]⟩ : ByteArray)).bind fun bt263 => (if t253 = 0 then (if (t252.length : Int) = 1 then (if 0 < (t252.length : Int) then (if (((rd_T60 t252 0).f0) == 1 && (((rd_T60 t252 0).f1) == 2 && ((((rd_T60 t252 0).f2).toList) == ([] : List UInt8)))) = true then (if bt256.2.2 = 0 then (if bt256.1 = 1 then (if bt256.2.1 = 1 then (if bt259.2 = 6 then (if bt261.2 = 2 then (if bt263.2 = 7 then ((gAwake.f kj55).bind fun t266 => (some t266)) else (some false)) else (some false)) else (some false)) else (some false)) else (some false)) else (some false)) else (some false)) else (none)) else (some false)) else (some false)))))) = some r := H
                          have A72 := Aside0.mk A720
                          clear A720
                          replace H := Option.bind_eq_some_iff.mp H
                          obtain ⟨⟨t256, t257, t258⟩, A730, H⟩ := H
                          replace H : ((gRename.f kj55 (⟨#[120, 32, 43, 32, 120, 115]⟩ : ByteArray) (⟨#[120]⟩ : ByteArray) (⟨#[120, 115]⟩ : ByteArray)).bind fun bt259 => ((gRename.f kj55 (⟨#[120, 32, 43, 32, 120, 115]⟩ : ByteArray) (⟨#[120]⟩ : ByteArray) (⟨#[105, 102]⟩ : ByteArray)).bind fun bt261 => ((gRename.f kj55 (⟨#[120, 32, 43, 32, 120, 115]⟩ : ByteArray) (⟨#[121]⟩ : ByteArray) (⟨#[122]⟩ : ByteArray)).bind fun bt263 => (if t253 = 0 then (if (t252.length : Int) = 1 then (if 0 < (t252.length : Int) then (if (((rd_T60 t252 0).f0) == 1 && (((rd_T60 t252 0).f1) == 2 && ((((rd_T60 t252 0).f2).toList) == ([] : List UInt8)))) = true then (if t258 = 0 then (if t256 = 1 then (if t257 = 1 then (if bt259.2 = 6 then (if bt261.2 = 2 then (if bt263.2 = 7 then ((gAwake.f kj55).bind fun t266 => (some t266)) else (some false)) else (some false)) else (some false)) else (some false)) else (some false)) else (some false)) else (some false)) else (none)) else (some false)) else (some false))))) = some r := H
                          have A73 := Aside0.mk A730
                          clear A730
                          replace H := Option.bind_eq_some_iff.mp H
                          obtain ⟨⟨t259, t260⟩, A740, H⟩ := H
                          replace H : ((gRename.f kj55 (⟨#[120, 32, 43, 32, 120, 115]⟩ : ByteArray) (⟨#[120]⟩ : ByteArray) (⟨#[105, 102]⟩ : ByteArray)).bind fun bt261 => ((gRename.f kj55 (⟨#[120, 32, 43, 32, 120, 115]⟩ : ByteArray) (⟨#[121]⟩ : ByteArray) (⟨#[122]⟩ : ByteArray)).bind fun bt263 => (if t253 = 0 then (if (t252.length : Int) = 1 then (if 0 < (t252.length : Int) then (if (((rd_T60 t252 0).f0) == 1 && (((rd_T60 t252 0).f1) == 2 && ((((rd_T60 t252 0).f2).toList) == ([] : List UInt8)))) = true then (if t258 = 0 then (if t256 = 1 then (if t257 = 1 then (if t260 = 6 then (if bt261.2 = 2 then (if bt263.2 = 7 then ((gAwake.f kj55).bind fun t266 => (some t266)) else (some false)) else (some false)) else (some false)) else (some false)) else (some false)) else (some false)) else (some false)) else (none)) else (some false)) else (some false)))) = some r := H
                          have A74 := Aside0.mk A740
                          clear A740
                          replace H := Option.bind_eq_some_iff.mp H
                          obtain ⟨⟨t261, t262⟩, A750, H⟩ := H
                          replace H : ((gRename.f kj55 (⟨#[120, 32, 43, 32, 120, 115]⟩ : ByteArray) (⟨#[121]⟩ : ByteArray) (⟨#[122]⟩ : ByteArray)).bind fun bt263 => (if t253 = 0 then (if (t252.length : Int) = 1 then (if 0 < (t252.length : Int) then (if (((rd_T60 t252 0).f0) == 1 && (((rd_T60 t252 0).f1) == 2 && ((((rd_T60 t252 0).f2).toList) == ([] : List UInt8)))) = true then (if t258 = 0 then (if t256 = 1 then (if t257 = 1 then (if t260 = 6 then (if t262 = 2 then (if bt263.2 = 7 then ((gAwake.f kj55).bind fun t266 => (some t266)) else (some false)) else (some false)) else (some false)) else (some false)) else (some false)) else (some false)) else (some false)) else (none)) else (some false)) else (some false))) = some r := H
                          have A75 := Aside0.mk A750
                          clear A750
                          replace H := Option.bind_eq_some_iff.mp H
                          obtain ⟨⟨t263, t264⟩, A760, H⟩ := H
                          replace H : (if t253 = 0 then (if (t252.length : Int) = 1 then (if 0 < (t252.length : Int) then (if (((rd_T60 t252 0).f0) == 1 && (((rd_T60 t252 0).f1) == 2 && ((((rd_T60 t252 0).f2).toList) == ([] : List UInt8)))) = true then (if t258 = 0 then (if t256 = 1 then (if t257 = 1 then (if t260 = 6 then (if t262 = 2 then (if t264 = 7 then ((gAwake.f kj55).bind fun t266 => (some t266)) else (some false)) else (some false)) else (some false)) else (some false)) else (some false)) else (some false)) else (some false)) else (none)) else (some false)) else (some false)) = some r := H
                          have A76 := Aside0.mk A760
                          clear A760
                          by_cases c77 : t253 = 0
                          · rw [if_pos c77] at H
                            have c77b0 : (t253 == 0) = true := beq_iff_eq.mpr c77
                            have c77b1 : (t253 != 0) = false := bne_eq_false_iff_eq.mpr c77
                            clear c77
                            by_cases c78 : (t252.length : Int) = 1
                            · rw [if_pos c78] at H
                              have c78b0 : ((t252.length : Int) == 1) = true := beq_iff_eq.mpr c78
                              have c78b1 : ((t252.length : Int) != 1) = false := bne_eq_false_iff_eq.mpr c78
                              clear c78
                              by_cases c79 : 0 < (t252.length : Int)
                              · rw [if_pos c79] at H
                                have c79b0 : decide (0 < (t252.length : Int)) = true := decide_eq_true c79
                                have c79b1 : decide (0 < t252.length) = true := decide_eq_true (by omega)
                                clear c79
                                by_cases c80 : (((rd_T60 t252 0).f0) == 1 && (((rd_T60 t252 0).f1) == 2 && ((((rd_T60 t252 0).f2).toList) == ([] : List UInt8)))) = true
                                · rw [if_pos c80] at H
                                  have c80b0 : (((rd_T60 t252 0).f0) == 1 && (((rd_T60 t252 0).f1) == 2 && ((((rd_T60 t252 0).f2).toList) == ([] : List UInt8)))) = true := c80
                                  (try (have c80b1 : decide (((rd_T60 t252 0).f0) = 1 && (((rd_T60 t252 0).f1) == 2 && ((((rd_T60 t252 0).f2).toList) == ([] : List UInt8)))) = true := by simpa using c80))
                                  (try (have c80b2 : (((rd_T60 t252 0).f0) == 1 && (((rd_T60 t252 0).f1) == 2 && ((((rd_T60 t252 0).f2).toList) == ([] : List UInt8)))) = true := by simpa using c80))
                                  clear c80
                                  by_cases c81 : t258 = 0
                                  · rw [if_pos c81] at H
                                    have c81b0 : (t258 == 0) = true := beq_iff_eq.mpr c81
                                    have c81b1 : (t258 != 0) = false := bne_eq_false_iff_eq.mpr c81
                                    clear c81
                                    by_cases c82 : t256 = 1
                                    · rw [if_pos c82] at H
                                      have c82b0 : (t256 == 1) = true := beq_iff_eq.mpr c82
                                      have c82b1 : (t256 != 1) = false := bne_eq_false_iff_eq.mpr c82
                                      clear c82
                                      by_cases c83 : t257 = 1
                                      · rw [if_pos c83] at H
                                        have c83b0 : (t257 == 1) = true := beq_iff_eq.mpr c83
                                        have c83b1 : (t257 != 1) = false := bne_eq_false_iff_eq.mpr c83
                                        clear c83
                                        by_cases c84 : t260 = 6
                                        · rw [if_pos c84] at H
                                          have c84b0 : (t260 == 6) = true := beq_iff_eq.mpr c84
                                          have c84b1 : (t260 != 6) = false := bne_eq_false_iff_eq.mpr c84
                                          clear c84
                                          by_cases c85 : t262 = 2
                                          · rw [if_pos c85] at H
                                            have c85b0 : (t262 == 2) = true := beq_iff_eq.mpr c85
                                            have c85b1 : (t262 != 2) = false := bne_eq_false_iff_eq.mpr c85
                                            clear c85
                                            by_cases c86 : t264 = 7
                                            · rw [if_pos c86] at H
                                              have c86b0 : (t264 == 7) = true := beq_iff_eq.mpr c86
                                              have c86b1 : (t264 != 7) = false := bne_eq_false_iff_eq.mpr c86
                                              clear c86
                                              replace H := Option.bind_eq_some_iff.mp H
                                              obtain ⟨t266, A870, H⟩ := H
                                              replace H : (some t266) = some r := H
                                              have A87 := Aside0.mk A870
                                              clear A870
                                              obtain rfl := Option.some.inj H
                                              go_wp2_with (first | ((with_reducible refine gate_callee (f := 19) rfl ?_); refine goesL_ (some 178) rfl rfl Tryd.func19 (by kernel_rfl) rfl #[.string (⟨#[97, 97, 98]⟩ : ByteArray), .string (⟨#[97, 98]⟩ : ByteArray)] rfl (by (try simp only [List.map_toArray, List.map_cons, List.map_nil]); first | done | rfl | (simp only [List.length_drop, List.length_take]; rfl)) ?_; (with_reducible refine (gDiff.calls kj55 (⟨#[97, 97, 98]⟩ : ByteArray) (⟨#[97, 98]⟩ : ByteArray) t252 t253 _ A72.out).mono ?_); rintro e w88 ⟨v254, rfl, ho0, hb⟩; refine ⟨_, rfl, ?_⟩; have n0_ := Aside0.mk (Kd.R_lower ho0 (below_size (by repeat (first | (with_reducible first | exact HB.out | apply below_alloc | apply pw_below_drewN | apply below_drew1 | refine below_set ?_ GE217.out) | exact HB.out)))); have n1_ := Aside0.mk (blk_below (g := gb217) (o := .cells #[.int .i64 t214, .int .i64 t215] 52 (0, 0)) (by (with_reducible repeat (first | refine blk_drewN ?_ _ | refine blk_drew ?_ | refine blk_alloc ?_ _)); exact BK217.out) hb); have n2_ := Aside0.mk (below_step (by repeat (first | (with_reducible first | exact HB.out | apply below_alloc | apply pw_below_drewN | apply below_drew1 | refine below_set ?_ GE217.out) | exact HB.out)) hb); clear BK217; clear HB; have HO255 := n0_; have BK217 := n1_; have HB := n2_; clear n0_ n1_ n2_; (try clear hb); (try clear hb2); (try clear hk); (try clear hi); (try clear ho0)) | ((with_reducible refine gate_callee (f := 39) rfl ?_); refine goesL_ (some 183) rfl rfl Tryd.func39 (by kernel_rfl) rfl #[.string (⟨#[97, 32, 98, 32, 99]⟩ : ByteArray), .agg #[.int .i64 2, .int .i64 3, .string (⟨#[100, 32, 101]⟩ : ByteArray)]] rfl (by (try simp only [List.map_toArray, List.map_cons, List.map_nil]); first | done | rfl | (simp only [List.length_drop, List.length_take]; rfl)) ?_; (with_reducible refine (gKept.calls kj55 (⟨#[97, 32, 98, 32, 99]⟩ : ByteArray) 2 3 (⟨#[100, 32, 101]⟩ : ByteArray) t256 t257 t258 _ A73.out (Gl.mono hgT.out (by repeat (first | (with_reducible first | exact HB.out | apply below_alloc | apply pw_below_drewN | apply below_drew1) | exact HB.out | refine below_set ?_ (Aside0.out (by assumption)))))).mono ?_); rintro e w89 ⟨rfl, hb⟩; refine ⟨_, rfl, ?_⟩; have n0_ := Aside0.mk (Kd.R_below (by (with_reducible repeat (first | apply Kd.R_alloc | apply Kd.R_drewN | apply Kd.R_drew)); exact HO255.out) hb); have n1_ := Aside0.mk (blk_below (g := gb217) (o := .cells #[.int .i64 t214, .int .i64 t215] 52 (0, 0)) (by (with_reducible repeat (first | refine blk_drewN ?_ _ | refine blk_drew ?_ | refine blk_alloc ?_ _)); exact BK217.out) hb); have n2_ := Aside0.mk (below_step (by repeat (first | (with_reducible first | exact HB.out | apply below_alloc | apply pw_below_drewN | apply below_drew1 | refine below_set ?_ GE217.out) | exact HB.out)) hb); clear HO255; clear BK217; clear HB; have HO255 := n0_; have BK217 := n1_; have HB := n2_; clear n0_ n1_ n2_; (try clear hb); (try clear hb2); (try clear hk); (try clear hi)) | ((with_reducible refine gate_callee (f := 17) rfl ?_); refine goesL_ (some 188) rfl rfl Tryd.func17 (by kernel_rfl) rfl #[.string (⟨#[120, 32, 43, 32, 120, 115]⟩ : ByteArray), .string (⟨#[120]⟩ : ByteArray), .string (⟨#[120, 115]⟩ : ByteArray)] rfl (by (try simp only [List.map_toArray, List.map_cons, List.map_nil]); first | done | rfl | (simp only [List.length_drop, List.length_take]; rfl)) ?_; (with_reducible refine (gRename.calls kj55 (⟨#[120, 32, 43, 32, 120, 115]⟩ : ByteArray) (⟨#[120]⟩ : ByteArray) (⟨#[120, 115]⟩ : ByteArray) t259 t260 _ A74.out (Gl.mono hgT.out (by repeat (first | (with_reducible first | exact HB.out | apply below_alloc | apply pw_below_drewN | apply below_drew1) | exact HB.out | refine below_set ?_ (Aside0.out (by assumption)))))).mono ?_); rintro e w90 ⟨rfl, hb⟩; refine ⟨_, rfl, ?_⟩; have n0_ := Aside0.mk (Kd.R_below (by (with_reducible repeat (first | apply Kd.R_alloc | apply Kd.R_drewN | apply Kd.R_drew)); exact HO255.out) hb); have n1_ := Aside0.mk (blk_below (g := gb217) (o := .cells #[.int .i64 t214, .int .i64 t215] 52 (0, 0)) (by (with_reducible repeat (first | refine blk_drewN ?_ _ | refine blk_drew ?_ | refine blk_alloc ?_ _)); exact BK217.out) hb); have n2_ := Aside0.mk (below_step (by repeat (first | (with_reducible first | exact HB.out | apply below_alloc | apply pw_below_drewN | apply below_drew1 | refine below_set ?_ GE217.out) | exact HB.out)) hb); clear HO255; clear BK217; clear HB; have HO255 := n0_; have BK217 := n1_; have HB := n2_; clear n0_ n1_ n2_; (try clear hb); (try clear hb2); (try clear hk); (try clear hi)) | ((with_reducible refine gate_callee (f := 17) rfl ?_); refine goesL_ (some 192) rfl rfl Tryd.func17 (by kernel_rfl) rfl #[.string (⟨#[120, 32, 43, 32, 120, 115]⟩ : ByteArray), .string (⟨#[120]⟩ : ByteArray), .string (⟨#[105, 102]⟩ : ByteArray)] rfl (by (try simp only [List.map_toArray, List.map_cons, List.map_nil]); first | done | rfl | (simp only [List.length_drop, List.length_take]; rfl)) ?_; (with_reducible refine (gRename.calls kj55 (⟨#[120, 32, 43, 32, 120, 115]⟩ : ByteArray) (⟨#[120]⟩ : ByteArray) (⟨#[105, 102]⟩ : ByteArray) t261 t262 _ A75.out (Gl.mono hgT.out (by repeat (first | (with_reducible first | exact HB.out | apply below_alloc | apply pw_below_drewN | apply below_drew1) | exact HB.out | refine below_set ?_ (Aside0.out (by assumption)))))).mono ?_); rintro e w91 ⟨rfl, hb⟩; refine ⟨_, rfl, ?_⟩; have n0_ := Aside0.mk (Kd.R_below (by (with_reducible repeat (first | apply Kd.R_alloc | apply Kd.R_drewN | apply Kd.R_drew)); exact HO255.out) hb); have n1_ := Aside0.mk (blk_below (g := gb217) (o := .cells #[.int .i64 t214, .int .i64 t215] 52 (0, 0)) (by (with_reducible repeat (first | refine blk_drewN ?_ _ | refine blk_drew ?_ | refine blk_alloc ?_ _)); exact BK217.out) hb); have n2_ := Aside0.mk (below_step (by repeat (first | (with_reducible first | exact HB.out | apply below_alloc | apply pw_below_drewN | apply below_drew1 | refine below_set ?_ GE217.out) | exact HB.out)) hb); clear HO255; clear BK217; clear HB; have HO255 := n0_; have BK217 := n1_; have HB := n2_; clear n0_ n1_ n2_; (try clear hb); (try clear hb2); (try clear hk); (try clear hi)) | ((with_reducible refine gate_callee (f := 17) rfl ?_); refine goesL_ (some 196) rfl rfl Tryd.func17 (by kernel_rfl) rfl #[.string (⟨#[120, 32, 43, 32, 120, 115]⟩ : ByteArray), .string (⟨#[121]⟩ : ByteArray), .string (⟨#[122]⟩ : ByteArray)] rfl (by (try simp only [List.map_toArray, List.map_cons, List.map_nil]); first | done | rfl | (simp only [List.length_drop, List.length_take]; rfl)) ?_; (with_reducible refine (gRename.calls kj55 (⟨#[120, 32, 43, 32, 120, 115]⟩ : ByteArray) (⟨#[121]⟩ : ByteArray) (⟨#[122]⟩ : ByteArray) t263 t264 _ A76.out (Gl.mono hgT.out (by repeat (first | (with_reducible first | exact HB.out | apply below_alloc | apply pw_below_drewN | apply below_drew1) | exact HB.out | refine below_set ?_ (Aside0.out (by assumption)))))).mono ?_); rintro e w92 ⟨rfl, hb⟩; refine ⟨_, rfl, ?_⟩; have n0_ := Aside0.mk (Kd.R_below (by (with_reducible repeat (first | apply Kd.R_alloc | apply Kd.R_drewN | apply Kd.R_drew)); exact HO255.out) hb); have n1_ := Aside0.mk (blk_below (g := gb217) (o := .cells #[.int .i64 t214, .int .i64 t215] 52 (0, 0)) (by (with_reducible repeat (first | refine blk_drewN ?_ _ | refine blk_drew ?_ | refine blk_alloc ?_ _)); exact BK217.out) hb); have n2_ := Aside0.mk (below_step (by repeat (first | (with_reducible first | exact HB.out | apply below_alloc | apply pw_below_drewN | apply below_drew1 | refine below_set ?_ GE217.out) | exact HB.out)) hb); clear HO255; clear BK217; clear HB; have HO255 := n0_; have BK217 := n1_; have HB := n2_; clear n0_ n1_ n2_; (try clear hb); (try clear hb2); (try clear hk); (try clear hi); obtain ⟨Ao93, co93, eo93⟩ := Kd.R_slice HO255.out; subst eo93; have p265 : 0 ≤ (0 : Int) := (by omega); have q265 : 0 < (t252.length : Int) := of_decide_eq_true (by first | (with_reducible assumption) | assumption); obtain ⟨ad265, e265, hx265_0, hx265_1, hx265_2⟩ := at_T60 (Kd.R_reads' HO255.out).2.2 0 p265 q265; cases e265; have qi265 : (0 < t252.length) = True := eq_true (by omega); (try rw [show ((0 : Int)).toNat = 0 from rfl] at hx265_0); (try rw [show 0 * 3 = 0 from rfl] at hx265_0); (try rw [Addr.add_zero'] at hx265_0); (try rw [show ((0 : Int)).toNat = 0 from rfl] at hx265_1); (try rw [show 0 * 3 = 0 from rfl] at hx265_1); (try rw [Addr.add_zero'] at hx265_1); (try rw [show ((0 : Int)).toNat = 0 from rfl] at hx265_2); (try rw [show 0 * 3 = 0 from rfl] at hx265_2); (try rw [Addr.add_zero'] at hx265_2); replace p265 := eq_true p265; replace q265 := eq_true q265) | (go_at_call 11; (with_reducible refine (gAwake.calls kj55  t266 _ A87.out (Gl.mono hgT.out (by repeat (first | (with_reducible first | exact HB.out | apply below_alloc | apply pw_below_drewN | apply below_drew1) | exact HB.out | refine below_set ?_ (Aside0.out (by assumption)))))).mono ?_); rintro e w94 ⟨rfl, hb⟩; have n0_ := Aside0.mk (Kd.R_below (by (with_reducible repeat (first | apply Kd.R_alloc | apply Kd.R_drewN | apply Kd.R_drew)); exact HO255.out) hb); have n1_ := Aside0.mk (blk_below (g := gb217) (o := .cells #[.int .i64 t214, .int .i64 t215] 52 (0, 0)) (by (with_reducible repeat (first | refine blk_drewN ?_ _ | refine blk_drew ?_ | refine blk_alloc ?_ _)); exact BK217.out) hb); have n2_ := Aside0.mk (below_step (by repeat (first | (with_reducible first | exact HB.out | apply below_alloc | apply pw_below_drewN | apply below_drew1 | refine below_set ?_ GE217.out) | exact HB.out)) hb); clear HO255; clear BK217; clear HB; have HO255 := n0_; have BK217 := n1_; have HB := n2_; clear n0_ n1_ n2_; (try clear hb); (try clear hb2); (try clear hk); (try clear hi)))
                                              all_goals (first | (rename_i hx; exact absurd (by simpa using c80b0) hx) | (go_ret; exact ⟨by first | rfl | (simp [*]; done) | (simp [*] <;> rfl), by repeat (first | (with_reducible first | exact HB.out | apply below_alloc | apply pw_below_drewN | apply below_drew1 | refine below_set ?_ GE217.out) | exact HB.out)⟩))
                                            · rw [if_neg c86] at H
                                              exact absurd ((Option.some.inj H).trans hr) (by decide)
                                          · rw [if_neg c85] at H
                                            exact absurd ((Option.some.inj H).trans hr) (by decide)
                                        · rw [if_neg c84] at H
                                          exact absurd ((Option.some.inj H).trans hr) (by decide)
                                      · rw [if_neg c83] at H
                                        exact absurd ((Option.some.inj H).trans hr) (by decide)
                                    · rw [if_neg c82] at H
                                      exact absurd ((Option.some.inj H).trans hr) (by decide)
                                  · rw [if_neg c81] at H
                                    exact absurd ((Option.some.inj H).trans hr) (by decide)
                                · rw [if_neg c80] at H
                                  exact absurd ((Option.some.inj H).trans hr) (by decide)
                              · rw [if_neg c79] at H
                                exact absurd H (by simp)
                            · rw [if_neg c78] at H
                              exact absurd ((Option.some.inj H).trans hr) (by decide)
                          · rw [if_neg c77] at H
                            exact absurd ((Option.some.inj H).trans hr) (by decide)
end Go.Proofs.YtebidpcmcekbgaaDoor.P
namespace Go.Proofs.YtebidpcmcekbgaaDoor.P
open Go.RowKit Go.Proofs.YtebidpcmcekbgaaDoorW.PrintWords
set_option linter.unusedVariables false
set_option linter.unusedSimpArgs false
set_option maxRecDepth 100000
theorem tl_ba (z : List UInt8) : (⟨z.toArray⟩ : ByteArray).toList = z := by rw [ByteArray.toList_eq]
theorem m1 : (toksM kwM ⟨#[100, 101, 102, 32, 65, 98]⟩).2 = (4, 4) := by kernel_rfl
theorem m2 : (toksM kwM ⟨#[97, 32, 48, 49]⟩).2 = (2, 4) := by kernel_rfl
theorem m3 : (toksM kwM ⟨#[49, 48, 48, 48, 48, 48, 49]⟩).2 = (0, 3) := by kernel_rfl
theorem m4 : gSpot.f 59 ⟨#[97, 10, 98, 99]⟩ 3 = some (2, 2, 0) := by kernel_rfl
theorem m5 : gAt.f 59 ⟨#[97, 10, 98, 99]⟩ 1 2 = some (1, 0) := by kernel_rfl
theorem m6 : gAt.f 59 ⟨#[97, 10, 98, 99]⟩ 1 3 = some (0, 7) := by kernel_rfl
theorem m7 : gTight.f 58 [⟨1, ⟨#[120]⟩, 0⟩, ⟨4, ⟨#[58]⟩, 0⟩, ⟨4, ⟨#[61]⟩, 0⟩, ⟨3, ⟨#[105, 110]⟩, 0⟩, ⟨4, ⟨#[40]⟩, 0⟩] = some (⟨#[120, 58, 32, 61, 105, 110, 40]⟩, 0) := by kernel_rfl
theorem m8 : gTight.f 58 [⟨1, ⟨#[105, 110]⟩, 0⟩] = some (⟨#[]⟩, 2) := by kernel_rfl
theorem m9 : gPairs.f 58 [⟨4, ⟨#[40]⟩, 0⟩, ⟨4, ⟨#[125]⟩, 0⟩] = some ([], 1, 4) := by kernel_rfl
theorem m10 : lex_Moved.f 57 ⟨#[97, 98, 99]⟩ [⟨1, 2, ⟨#[120, 121]⟩⟩] 2 = some (3, 0) := by kernel_rfl
theorem m11 : lex_Moved.f 57 ⟨#[97, 98, 99]⟩ [⟨1, 2, ⟨#[120, 121]⟩⟩] 1 = some (0, 7) := by kernel_rfl
theorem m12 : lex_Undo.f 57 ⟨#[97, 98, 99]⟩ [⟨1, 2, ⟨#[120, 121]⟩⟩] = some ([⟨1, 3, ⟨#[98]⟩⟩], 0) := by kernel_rfl
theorem m13 : gDiff.f 56 ⟨#[97, 97, 98]⟩ ⟨#[97, 98]⟩ = some ([⟨1, 2, ⟨#[]⟩⟩], 0) := by kernel_rfl
theorem m14 : gKept.f 56 ⟨#[97, 32, 98, 32, 99]⟩ 2 3 ⟨#[100, 32, 101]⟩ = some (1, 1, 0) := by kernel_rfl
theorem m15 : (renM ⟨#[120, 32, 43, 32, 120, 115]⟩ ⟨#[120]⟩ ⟨#[120, 115]⟩).2 = 6 := by kernel_rfl
theorem m16 : (renM ⟨#[120, 32, 43, 32, 120, 115]⟩ ⟨#[120]⟩ ⟨#[105, 102]⟩).2 = 2 := by kernel_rfl
theorem m17 : (renM ⟨#[120, 32, 43, 32, 120, 115]⟩ ⟨#[121]⟩ ⟨#[122]⟩).2 = 7 := by kernel_rfl
theorem gTok (k : Nat) (s : ByteArray) (hs : s.size ≤ 140737488351232) : gTokens.f k s = some (toksM kwM s) := if_pos hs
theorem gRen (k : Nat) (s o n : ByteArray) (hs : s.size ≤ 140737488351232 ∧ o.size ≤ 140737488351232 ∧ n.size ≤ 140737488351232) : gRename.f k s o n = some (renM s o n) := if_pos hs
theorem pNames3 : ripostelaw01_LexNames.j3 57 false = some true := by
  rw [ripostelaw01_LexNames.j3.eq_2, if_neg (by decide), m13]
  simp only [Option.bind_some]
  rw [m14]
  simp only [Option.bind_some]
  rw [gRen _ _ _ _ (by decide)]
  simp only [Option.bind_some]
  rw [gRen _ _ _ _ (by decide)]
  simp only [Option.bind_some]
  rw [gRen _ _ _ _ (by decide)]
  simp only [Option.bind_some]
  simp only [if_true]
  rw [if_pos (by decide), if_pos (by decide), if_pos (by
    rw [show ((rd_T60 ([⟨1, 2, ⟨#[]⟩⟩] : List Sp) 0).f2).toList = [] from tl_ba []]
    decide), if_pos m15, if_pos m16, if_pos m17]
  rfl
theorem pNames2 : ripostelaw01_LexNames.j2 58 false = some true := by
  rw [ripostelaw01_LexNames.j2.eq_2, if_neg (by decide)]
  simp only [Option.bind_some]
  rw [m10]
  simp only [Option.bind_some]
  rw [m11]
  simp only [Option.bind_some]
  rw [m12]
  simp only [Option.bind_some]
  simp only [if_true]
  rw [if_pos (by decide), if_pos (by decide)]
  rw [show ((rd_T60 ([⟨1, 3, ⟨#[98]⟩⟩] : List Sp) 0).f2).toList = [98] from tl_ba [98]]
  exact pNames3
theorem pNames1 : ripostelaw01_LexNames.j1 59 false = some true := by
  rw [ripostelaw01_LexNames.j1.eq_2, if_neg (by decide), m7]
  simp only [Option.bind_some]
  rw [m8]
  simp only [Option.bind_some]
  rw [m9]
  simp only [Option.bind_some]
  simp only [if_true]
  rw [if_pos (tl_ba _)]
  exact pNames2
theorem pNames : ripostelaw01_LexNames.f 60 = some true := by
  unfold ripostelaw01_LexNames.f
  rw [gTok _ _ (by decide)]
  simp only [Option.bind_some]
  rw [gTok _ _ (by decide)]
  simp only [Option.bind_some]
  rw [gTok _ _ (by decide)]
  simp only [Option.bind_some]
  rw [m1, m2, m3, if_pos rfl, if_pos rfl, if_pos rfl, if_pos rfl, if_pos rfl]
  show ripostelaw01_LexNames.j0 60 false = some true
  rw [ripostelaw01_LexNames.j0.eq_2, if_neg (by decide), m4]
  simp only [Option.bind_some]
  rw [m5]
  simp only [Option.bind_some]
  rw [m6]
  simp only [Option.bind_some]
  simp only [if_true]
  rw [if_neg (by decide)]
  exact pNames1
theorem lexNames_any (w : World) (hg : Gl w) : Calls Tryd.prog 10 #[] w fun e w' => e = .returned (.bool true) ∧ Below w.heap.size w w' :=
  (ripostelaw01_LexNames.calls 60 true w ⟨hg⟩ pNames rfl).mono fun e w' h => h
end Go.Proofs.YtebidpcmcekbgaaDoor.P
namespace Go.Proofs.YtebidpcmcekbgaaDoor.P
open Go.RowKit
set_option linter.unusedVariables false
/-- The four listed variables, as each row lists them. -/
def laidL : List (String × DataW Unit) := [("unicode/utf8.acceptRanges", Rows.laid_unicode_utf8_acceptRanges), ("unicode.White_Space", Rows.laid_unicode_White_Space), ("strings.asciiSpace", Rows.laid_strings_asciiSpace), ("unicode/utf8.first", Rows.laid_unicode_utf8_first)]
def aspT : List Int := (List.range 256).map fun (i : Nat) => if aspB (i : Int) = true then 1 else 0
theorem aspT_len : aspT.length = 256 := by simp [aspT]
theorem aspT_at (c : Nat) (h : c < 256) : aspT.getD c 0 = if aspB (c : Int) = true then 1 else 0 := by
  unfold aspT
  rw [List.getD_eq_getElem?_getD, List.getElem?_map, List.getElem?_range h]
  rfl
theorem asp_data : (Rows.laid_strings_asciiSpace : DataW Unit) = Lib.tabData .u8 aspT := by kernel_rfl
theorem gl_of_laid {W : World} (h : laidMetH Tryd.prog laidL W) : Gl W := by
  rw [MakeChecks.laidMetH_plain _ _ _ (by kernel_rfl)] at h
  obtain ⟨ps, ⟨g0, t0, cs0, f0, p0, q0, hg0, ht0, hv0, hd0, ⟨g1, t1, cs1, f1, p1, q1, hg1, ht1, hv1, hd1, ⟨g2, t2, cs2, f2, p2, q2, hg2, ht2, hv2, hd2, _, _⟩, _⟩, _⟩, _, _⟩ := h
  obtain rfl := Option.some.inj ((show Tryd.prog.globalNamed "strings.asciiSpace" = some 1 by kernel_rfl).symm.trans hg2)
  obtain rfl := Option.some.inj ((show (Tryd.prog.globals[1]?).map (·.type) = some 133 by kernel_rfl).symm.trans ht2)
  rw [asp_data] at hd2
  have hcs := Lib.cells_of_tab Tryd.underlying133 Tryd.underlying5 (by kernel_rfl) (by kernel_rfl) hd2
  intro c hc
  rw [World.var?_cell hg2 hv2 c]
  have h1 : cs2[c]? = some (.int .u8 (aspT.getD c 0)) := by
    have : cs2.toList[c]? = some (.int .u8 (aspT.getD c 0)) := by
      rw [hcs, List.getElem?_map, List.getElem?_eq_getElem (by rw [aspT_len]; exact hc)]
      simp [List.getD, List.getElem?_eq_getElem (show c < aspT.length by rw [aspT_len]; exact hc)]
    simpa using this
  rw [h1, aspT_at c hc]
end Go.Proofs.YtebidpcmcekbgaaDoor.P
