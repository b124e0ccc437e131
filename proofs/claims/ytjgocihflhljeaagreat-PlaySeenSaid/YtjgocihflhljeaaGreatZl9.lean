/- What the claim's law needs, many texts in one (Ua P5 P6 Uf P2 P7 P8 Va P1 P3 P4 P9). No conditions of its own. -/
import Derived.Test.YtjgocihflhljeaaGreatZl8
import Derived.Test.YtjgocihflhljeaaGreatZl2
import Derived.Test.YtjgocihflhljeaaGreatZl6
set_option linter.unusedVariables false
set_option linter.unusedSimpArgs false
namespace Go.Proofs.YtjgocihflhljeaaGreat.P
open Go.RowKit Go.Shelf Go.Proofs.YtjgocihflhljeaaGreatW.PrintWords Go.Proofs.YtjgocihflhljeaaGreatW.PrintLast Go.Proofs.YtjgocihflhljeaaGreatW.PrintMore
attribute [local go_sem] Oper.semAt_some
def askB (m : Mv) : Bool := m.f2 == 1 || m.f2 == 2
theorem rAsk_any (m : Mv) (w : World) : Calls Tryz.prog 37 #[.agg #[.int .i64 m.f0, .int .i64 m.f1, .int .u8 m.f2, .int .i64 m.f3]] w fun e w' => e = .returned (.bool (askB m)) ∧ Below w.heap.size w w' := by
 have HB := am ((Below.refl _ w).alloc (Nat.le_refl _) (.cells #[.int .i64 m.f0, .int .i64 m.f1, .int .u8 m.f2, .int .i64 m.f3] 52))
 rcases hb : (m.f2 == 1) with _ | _
 all_goals
  have H := am hb
  go_enter Tryz.func37, Tryz.ntmps37
  go_wp2
  go_ret
  exact ⟨by rw [askB, H.out]; rfl, HB.out⟩
theorem rEsc_any (m : Mv) (w : World) : Calls Tryz.prog 38 #[.agg #[.int .i64 m.f0, .int .i64 m.f1, .int .u8 m.f2, .int .i64 m.f3]] w fun e w' => e = .returned (.bool (isEscB m)) ∧ Below w.heap.size w w' := by
 have HB := am ((Below.refl _ w).alloc (Nat.le_refl _) (.cells #[.int .i64 m.f0, .int .i64 m.f1, .int .u8 m.f2, .int .i64 m.f3] 52))
 rcases hb : (m.f2 == 3) with _ | _
 all_goals
  have H := am hb
  go_enter Tryz.func38, Tryz.ntmps38
  go_wp2
  go_ret
  exact ⟨by rw [isEscB, H.out]; rfl, HB.out⟩
structure Wlk (base : Nat) (W : World) (g : Nat) (A : Option Addr) (c : Nat) (ids : List S68) (rc : Bool) (rn : Int) (jb : Bool) (t : Tk) (vw vo vp vj : Value) : Prop where
 b : W.heap[g]? = some (.cells #[.slice A ids.length c, .bool rc, .int .i64 rn, .bool jb, vw, vo, vp, vj, .bool t.lost, .int .i64 t.deep] 86 (0, 0))
 r : Rws base W vw vp vj (.slice none 0 0) vo t.word t.part t.just [] t.opn
 hg : base ≤ g
 ok : t.Ok
section
variable {base : Nat} {W w1 : World} {g : Nat} {A : Option Addr} {c : Nat} {ids : List S68} {rc : Bool} {rn : Int} {jb : Bool} {t : Tk} {vw vo vp vj : Value}
theorem Wlk.below (h : Wlk base W g A c ids rc rn jb t vw vo vp vj) (hb : Below W.heap.size W w1) : Wlk base w1 g A c ids rc rn jb t vw vo vp vj :=
 ⟨(hb.block _ (blk_lt h.b)).trans h.b, h.r.st (St.of_below (b := 0) hb), h.hg, h.ok⟩
theorem Wlk.lower {base' : Nat} (h : Wlk base W g A c ids rc rn jb t vw vo vp vj) (hb : base' ≤ base) : Wlk base' W g A c ids rc rn jb t vw vo vp vj :=
 ⟨h.b, ⟨Kd.R_lower h.r.w hb, Kd.R_lower h.r.p hb, Kd.R_lower h.r.j hb, Kd.R_lower h.r.f hb, Kd.R_lower h.r.o hb, h.r.pj, h.r.po, h.r.jo⟩, Nat.le_trans hb h.hg, h.ok⟩
theorem Wlk.lt (h : Wlk base W g A c ids rc rn jb t vw vo vp vj) : g < W.heap.size := blk_lt h.b
end
def Tk.lastM (t : Tk) : Mv := t.mv ((t.word.length : Int) - 1)
def Tk.forcedR (t : Tk) : Bool := decide (0 < t.word.length) && isEscB t.lastM && decide (0 < t.lastM.f1)
set_option maxHeartbeats 2000000 in
theorem rForced_any {base : Nat} {w : World} {g : Nat} {A : Option Addr} {c : Nat} {ids : List S68} {rc : Bool} {rn : Int} {jb : Bool} {t : Tk} {vw vo vp vj : Value} (h : Wlk base w g A c ids rc rn jb t vw vo vp vj) :
  Calls Tryz.prog 62 #[.pointer (some ⟨g, 0, none⟩)] w fun e w' => e = .returned (.bool t.forcedR) ∧ Below w.heap.size w w' := by
 have hgw := h.lt
 have hwl := h.ok.hw
 by_cases h0 : t.word.length = 0
 ·obtain ⟨Aw, cw, rfl⟩ := Kd.R_slice h.r.w
  have h4 : w.cell? ⟨g, 4, none⟩ = some (.slice Aw t.word.length cw) := (blk_cell h.b 4).trans rfl
  have HF := am (show t.forcedR = false by rw [Tk.forcedR, h0]; rfl)
  rw [h0] at h4
  clear h
  go_enter Tryz.func62, Tryz.ntmps62
  go_wp2
  go_ret
  exact ⟨by rw [HF.out]; rfl, Below.refl _ _⟩
 obtain ⟨m, hm⟩ : ∃ m, (t.word.length : Int) - 1 = m := ⟨_, rfl⟩
 have hm0 : 0 ≤ m := by omega
 have hm1 : m < t.word.length := by omega
 have hm2 : m < 9223372036854775807 := by omega
 obtain ⟨gw, cw, q, hvw, hgw2, hq, a0, a1, a2, a3⟩ := h.r.w.get m hm0 hm1
 cases hvw
 have h4 : w.cell? ⟨g, 4, none⟩ = some (.slice (some ⟨gw, 0, none⟩) t.word.length cw) := (blk_cell h.b 4).trans rfl
 have hlz : (0 : Int) < (t.word.length : Int) := by omega
 have cb : decide ((0 : Int) < (t.word.length : Int)) = true := decide_eq_true hlz
 have HF := am (show t.forcedR = (isEscB q && decide (0 < q.f1)) by rw [Tk.forcedR, Tk.lastM, hm, show t.mv m = q from hq, decide_eq_true (show 0 < t.word.length by omega)]; simp)
 have hlt : m.toNat < t.word.length := by omega
 clear h hq
 rcases he : isEscB q with _ | _
 all_goals
  have HE := am he
  clear he
  go_enter Tryz.func62, Tryz.ntmps62
  go_wp2_with (go_at_call 38; refine (rEsc_any q _).mono ?_; rw [HE.out]; rintro e w1 ⟨rfl, hb1⟩; obtain ⟨hc1, hf1⟩ := bcell hb1; have h41 := (pw_cell_below hb1 h4); have a11 := pw_cell_below hb1 a1)
  go_ret
  exact ⟨by rw [HF.out, HE.out]; rfl, hb1⟩
end Go.Proofs.YtjgocihflhljeaaGreat.P
namespace Go.Proofs.YtjgocihflhljeaaGreat.P
open Go.RowKit Go.Proofs.YtjgocihflhljeaaGreatW.PrintWords Go.Proofs.YtjgocihflhljeaaGreatW.PrintLast Go.Proofs.YtjgocihflhljeaaGreatW.PrintMore
attribute [local go_sem] max2_int max_two
def riposteref04_Digits.l0 : Nat → ByteArray → Int → Int → Option (Int × Int)
 | 0, _, _, _ => none
 | k + 1, x0, x4, x5 => if x5 < (x0.size : Int) then (if x5 < 19 then (if 0 ≤ x5 then (if (bt x0 x5) ≥ 48 then (if (bt x0 x5) ≤ 57 then (riposteref04_Digits.l0 k x0 (wrap64 ((wrap64 (10 * x4)) + (((bt x0 x5) - 48) % 256))) (wrap64 (x5 + 1))) else (some (x4, x5))) else (some (x4, x5))) else (none)) else (some (x4, x5))) else (some (x4, x5))
def riposteref04_Digits.f (k : Nat) (a0 : ByteArray) : Option (Int × Int) := riposteref04_Digits.l0 k a0 0 0
set_option maxHeartbeats 8000000 in
set_option maxRecDepth 100000 in
theorem riposteref04_Digits.calls (k : Nat) (a0 : ByteArray) (r1 : Int) (r2 : Int) (w : World) (h : riposteref04_Digits.f k a0 = some (r1, r2)) :
  Calls Tryz.prog 135 #[.string a0] w fun e w' => e = .returned (.tuple #[.int .i64 r1, .int .i64 r2]) ∧ Drawn0 w w' := by
 have H : (riposteref04_Digits.l0 k a0 0 0) = some (r1, r2) := h
 clear h
 have H' := am H
 clear H
 go_enter Tryz.func135, Tryz.ntmps135
 go_wp2
 go_loopg [4, 5] k (fun kq v4 v5 w' => ∃ (x4_1 : Int) (x5_1 : Int), v4 = .int .i64 x4_1 ∧ v5 = .int .i64 x5_1 ∧ Aside0 (riposteref04_Digits.l0 kq a0 x4_1 x5_1 = some (r1, r2)) ∧ Aside0 (kq ≤ k) ∧ Drawn0 w w')
 case atStart => exact ⟨(0), (0), (by first | rfl), (by first | rfl), H', ⟨Nat.le_refl _⟩, by repeat (first | exact Drawn0.refl _)⟩
 case round =>
  clear H'
  try clear c1
  obtain ⟨x4_1, x5_1, rfl, rfl, HA, HK1, ⟨m1, rfl⟩⟩ := hrel
  cases gk with
  | zero => exact absurd HA.out (by simp [riposteref04_Digits.l0])
  | succ k1 =>
   have H := HA.out
   clear HA
   simp only [riposteref04_Digits.l0] at H
   by_cases c2 : x5_1 < (a0.size : Int)
   ·rw [if_pos c2] at H
    have c2b0 : decide (x5_1 < (a0.size : Int)) = true := decide_eq_true c2
    clear c2
    by_cases c3 : x5_1 < 19
    ·rw [if_pos c3] at H
     have c3b0 : decide (x5_1 < 19) = true := decide_eq_true c3
     clear c3
     by_cases c4 : 0 ≤ x5_1
     ·rw [if_pos c4] at H
      have c4b0 : decide (0 ≤ x5_1) = true := decide_eq_true c4
      clear c4
      by_cases c6 : (bt a0 x5_1) ≥ 48
      ·rw [if_pos c6] at H
       have c6b0 : decide (48 ≤ (bt a0 x5_1)) = true := decide_eq_true c6
       clear c6
       by_cases c8 : (bt a0 x5_1) ≤ 57
       ·rw [if_pos c8] at H
        have c8b0 : decide ((bt a0 x5_1) ≤ 57) = true := decide_eq_true c8
        clear c8
        have H' := am H
        clear H
        have p5 : 0 ≤ (x5_1 : Int) := of_decide_eq_true (by first | (with_reducible assumption))
        have q5 : x5_1 < (a0.size : Int) := of_decide_eq_true (by first | (with_reducible assumption))
        have hx5 := bt_at a0 x5_1
        replace p5 := eq_true p5
        replace q5 := eq_true q5
        have p7 : 0 ≤ (x5_1 : Int) := of_decide_eq_true (by first | (with_reducible assumption))
        have q7 : x5_1 < (a0.size : Int) := of_decide_eq_true (by first | (with_reducible assumption))
        have hx7 := bt_at a0 x5_1
        replace p7 := eq_true p7
        replace q7 := eq_true q7
        have p9 : 0 ≤ (x5_1 : Int) := of_decide_eq_true (by first | (with_reducible assumption))
        have q9 : x5_1 < (a0.size : Int) := of_decide_eq_true (by first | (with_reducible assumption))
        have hx9 := bt_at a0 x5_1
        replace p9 := eq_true p9
        replace q9 := eq_true q9
        go_wp2
        go_roundg k1
        case measure => have := HK1.out; omega
        case rel => exact ⟨(wrap64 ((wrap64 (10 * x4_1)) + (((bt a0 x5_1) - 48) % 256))), (wrap64 (x5_1 + 1)), (by first | rfl), (by first | rfl), H', ⟨by have := HK1.out; omega⟩, by repeat (first | exact Drawn0.refl _ | apply Drawn0.step)⟩
       rw [if_neg c8] at H
       have c8b0 : decide ((bt a0 x5_1) ≤ 57) = false := decide_eq_false c8
       clear c8
       simp only [Option.some.injEq, Prod.mk.injEq] at H
       obtain ⟨rfl, rfl⟩ := H
       have p5 : 0 ≤ (x5_1 : Int) := of_decide_eq_true (by first | (with_reducible assumption))
       have q5 : x5_1 < (a0.size : Int) := of_decide_eq_true (by first | (with_reducible assumption))
       have hx5 := bt_at a0 x5_1
       replace p5 := eq_true p5
       replace q5 := eq_true q5
       have p7 : 0 ≤ (x5_1 : Int) := of_decide_eq_true (by first | (with_reducible assumption))
       have q7 : x5_1 < (a0.size : Int) := of_decide_eq_true (by first | (with_reducible assumption))
       have hx7 := bt_at a0 x5_1
       replace p7 := eq_true p7
       replace q7 := eq_true q7
       go_wp2
       go_ret2
       exact ⟨by first | rfl, by repeat (first | exact Drawn0.refl _ | apply Drawn0.step)⟩
      rw [if_neg c6] at H
      have c6b0 : decide (48 ≤ (bt a0 x5_1)) = false := decide_eq_false c6
      clear c6
      simp only [Option.some.injEq, Prod.mk.injEq] at H
      obtain ⟨rfl, rfl⟩ := H
      have p5 : 0 ≤ (x5_1 : Int) := of_decide_eq_true (by first | (with_reducible assumption))
      have q5 : x5_1 < (a0.size : Int) := of_decide_eq_true (by first | (with_reducible assumption))
      have hx5 := bt_at a0 x5_1
      replace p5 := eq_true p5
      replace q5 := eq_true q5
      go_wp2
      go_ret2
      exact ⟨by first | rfl, by repeat (first | exact Drawn0.refl _ | apply Drawn0.step)⟩
     rw [if_neg c4] at H
     exact absurd H (by simp)
    rw [if_neg c3] at H
    have c3b0 : decide (x5_1 < 19) = false := decide_eq_false c3
    clear c3
    simp only [Option.some.injEq, Prod.mk.injEq] at H
    obtain ⟨rfl, rfl⟩ := H
    go_wp2
    go_ret2
    exact ⟨by first | rfl, by repeat (first | exact Drawn0.refl _ | apply Drawn0.step)⟩
   rw [if_neg c2] at H
   have c2b0 : decide (x5_1 < (a0.size : Int)) = false := decide_eq_false c2
   clear c2
   simp only [Option.some.injEq, Prod.mk.injEq] at H
   obtain ⟨rfl, rfl⟩ := H
   go_wp2
   go_ret2
   exact ⟨by first | rfl, by repeat (first | exact Drawn0.refl _ | apply Drawn0.step)⟩
def riposteref04_CopyType.f (l0_0 : List (S24)) (a0_1 : Bool) (a0_2 : Int) : Option ((List (S24)) × Bool × Int) := (some (([] : List (S24)) : List (S24))).bind fun y182 => (if y182.length + l0_0.length < 8796093022208 then (some ((y182 ++ l0_0), a0_1, a0_2)) else (none))
def riposteref04_CopyType.T1 : Bool × List (List Nat × List Nat) := (true, [([], []), ([], []), ([1], [1]), ([0, 2], [0, 2]), ([], []), ([4], [4]), ([3, 5], [3, 5]), ([6, 3, 0, 1, 2, 3, 4, 5, 6], [6])])
def riposteref04_CopyType.B1 : List Nat := [0, 0, 2, 7, 0, 16, 63, 127]
theorem riposteref04_CopyType.tab1 : rtab .any (opsOf Tryz.f56 1) = riposteref04_CopyType.T1 := by kernel_rfl
theorem riposteref04_CopyType.bits1 : waitsOk riposteref04_CopyType.T1.2 riposteref04_CopyType.B1 = true := by kernel_rfl
set_option maxHeartbeats 8000000 in
set_option maxRecDepth 100000 in
theorem riposteref04_CopyType.calls (A0_0 : Option Addr) (c0_0 : Nat) (l0_0 : List (S24)) (a0_1 : Bool) (a0_2 : Int) (r1 : List (S24)) (r2 : Bool) (r3 : Int) (w : World) (hr0_0 : Kd.C k24 w A0_0 l0_0.length l0_0) (hc0_0 : l0_0.length ≤ c0_0) (h : riposteref04_CopyType.f l0_0 a0_1 a0_2 = some (r1, r2, r3)) :
  Calls Tryz.prog 56 #[.agg #[.slice A0_0 l0_0.length c0_0, .bool a0_1, .int .i64 a0_2]] w fun e w' => ∃ v0_ : Value, e = .returned (.agg #[v0_, .bool r2, .int .i64 r3]) ∧ Kd.R k24 24 w' w.heap.size (fun _ => True) v0_ r1 ∧ Below w.heap.size w w' := by
 have hu68 := Tryz.underlying68
 have hu24 := Tryz.underlying24
 have HR0_0 := am hr0_0
 have HC0_0 := am hc0_0
 clear hr0_0 hc0_0
 have HB := am (Below.refl w.heap.size w)
 have H : ((some (([] : List (S24)) : List (S24))).bind fun y182 => (if y182.length + l0_0.length < 8796093022208 then (some ((y182 ++ l0_0), a0_1, a0_2)) else (none))) = some (r1, r2, r3) := h
 clear h
 obtain ⟨y182, hy182⟩ : ∃ y_ : List (S24), y_ = (([] : List (S24))) := ⟨_, rfl⟩
 replace H : (if y182.length + l0_0.length < 8796093022208 then (some ((y182 ++ l0_0), a0_1, a0_2)) else (none)) = some (r1, r2, r3) := by first | (have H2_ := (Option.bind_some _ _).symm.trans H; rw [hy182]; with_reducible exact H2_)
 have Ny182 := am hy182
 clear hy182
 by_cases c2 : y182.length + l0_0.length < 8796093022208
 ·rw [if_pos c2] at H
  have LMc2 := am c2
  clear c2
  obtain ⟨y185, hy185⟩ : ∃ y_ : List (S24), y_ = (y182 ++ l0_0) := ⟨_, rfl⟩
  replace H : (some (y185, a0_1, a0_2)) = some (r1, r2, r3) := by first | (rw [hy185]; with_reducible exact H)
  have Ny185 := am hy185
  clear hy185
  simp only [Option.some.injEq, Prod.mk.injEq] at H
  obtain ⟨rfl, rfl, rfl⟩ := H
  go_enter Tryz.func56, Tryz.ntmps56
  try go_wp2_with (first | ((with_reducible refine gate_dst (N := 1) rfl ?_); refine box_event ?hg (N := 1) ?hd (cs := #[.slice A0_0 l0_0.length c0_0, .bool a0_1, .int .i64 a0_2]) (t := 68) ?hr ?_; (case hd => rfl); (case hg => rfl); (case hr => go_simp); intro gb180 hg w3 hbox hb; have n0_ := am (below_step HB.out hb); have n1_ := am (hbox); have n2_ := am ((by rw [hg]; exact (below_size HB.out) : w.heap.size ≤ gb180)); have n3_ := am ((by rw [hg]; exact (below_size HB.out) : w.heap.size ≤ gb180)); clear HB; have HB := n0_; have BK180 := n1_; have GW180 := n2_; have GE180 := n3_; clear n0_ n1_ n2_ n3_; clear hb hbox hg) | ((with_reducible refine gate_dst (N := 2) rfl ?_); refine box_event ?hg (N := 2) ?hd (cs := #[.slice none 0 0, .bool false, .int .i64 0]) (t := 68) ?hr ?_; (case hd => rfl); (case hg => rfl); (case hr => go_simp); intro gb181 hg w4 hbox hb; have n0_ := am (blk_below (g := gb180) (o := .cells #[.slice A0_0 l0_0.length c0_0, .bool a0_1, .int .i64 a0_2] 68 (0, 0)) BK180.out hb); have n1_ := am (below_step HB.out hb); have n2_ := am (hbox); have n3_ := am ((by rw [hg]; exact (below_size HB.out) : w.heap.size ≤ gb181)); have n4_ := am ((by rw [hg]; exact (below_size HB.out) : w.heap.size ≤ gb181)); have n5_ := am ((by rw [hg]; exact Nat.ne_of_lt (blk_lt (g := gb180) (o := .cells #[.slice A0_0 l0_0.length c0_0, .bool a0_1, .int .i64 a0_2] 68 (0, 0)) BK180.out) : gb180 ≠ gb181)); have n6_ := am ((by rw [hg]; exact Nat.ne_of_gt (blk_lt (g := gb180) (o := .cells #[.slice A0_0 l0_0.length c0_0, .bool a0_1, .int .i64 a0_2] 68 (0, 0)) BK180.out) : gb181 ≠ gb180)); clear BK180; clear HB; have BK180 := n0_; have HB := n1_; have BK181 := n2_; have GW181 := n3_; have GE181 := n4_; have NB180_181 := n5_; have NB181_180 := n6_; clear n0_ n1_ n2_ n3_ n4_ n5_ n6_; clear hb hbox hg))
  have n0_ := am (blk_drew BK180.out)
  have n1_ := am (blk_drew BK181.out)
  have n2_ := am (below_drew1 HB.out)
  clear BK180
  clear BK181
  clear HB
  have BK180 := n0_
  have BK181 := n1_
  have HB := n2_
  clear n0_ n1_ n2_
  refine start_ (n := 8) (S := fun w' => w'.cell? ⟨gb180, 0, none⟩ = some (.slice A0_0 l0_0.length c0_0) ∧ w'.cell? ⟨gb180, 1, none⟩ = some (.bool a0_1) ∧ w'.cell? ⟨gb180, 2, none⟩ = some (.int .i64 a0_2)) (ds := []) #[Z,Z,Z,Z,Z,Z,Z,Z] (by kernel_rfl) rfl rfl ⟨(blk_cell BK180.out 0).trans rfl, (blk_cell BK180.out 1).trans rfl, (blk_cell BK180.out 2).trans rfl⟩ (fun hHeld => ?_); refine with_tabW riposteref04_CopyType.tab1 riposteref04_CopyType.bits1 (fun HT_ HW_ => ?_)
  generalize w4.drew = w5 at BK180 BK181 HB hHeld ⊢
  refine pure_ (i := 1) (N:=some 4) (v:=?_) (a':=?_) #[Z,Y,Z,Z,Z,Z,Z,Z] rfl rfl (any_of HT_.out (by kernel_rfl)) (fun _ _ _ h => h) (Or.inl ⟨by rfl, ?_⟩) ?_ ?_;rotate_left;(intro w';go_simp;with_reducible rfl);rotate_left;(simp only [Act.put,sn1,sn2,sn3,i64_w];rfl)
  refine pure_ (i := 4) (N:=some 7) (v:=?_) (a':=?_) #[Z,Y,Z,Z,Y,Z,Z,Z] rfl rfl (any_of HT_.out (by kernel_rfl)) (fun _ _ _ h => h) (Or.inl ⟨by rfl, ?_⟩) ?_ ?_;rotate_left;(intro w';go_simp;with_reducible rfl);rotate_left;(simp only [Act.put,sn1,sn2,sn3,i64_w];rfl)
  refine take_ (i := 2) (N:=some 5) (v:=?_) (a':=?_) #[Z,Y,Y,Z,Y,Z,Z,Z] rfl rfl (take_ofW HT_.out HW_.out (by kernel_rfl)) (fun _ _ _ h => h) (Or.inl ⟨by rfl, ?_⟩) hHeld ?_ ?_
  rotate_left
  ·rintro w' ⟨s0, s1, s2⟩
   go_simp
   with_reducible rfl
  rotate_left
  ·simp only [Act.put,sn1,sn2,sn3,i64_w]
   rfl
  refine take_ (i := 5) (N:=some 8) (v:=?_) (a':=?_) #[Z,Y,Y,Z,Y,Y,Z,Z] rfl rfl (take_ofW HT_.out HW_.out (by kernel_rfl)) (fun _ _ _ h => h) (Or.inl ⟨by rfl, ?_⟩) hHeld ?_ ?_
  rotate_left
  ·rintro w' ⟨s0, s1, s2⟩
   go_simp
   with_reducible rfl
  rotate_left
  ·simp only [Act.put,sn1,sn2,sn3,i64_w]
   rfl
  refine one_ (i := 0) (N:=some 3) #[Y,Y,Y,Z,Y,Y,Z,Z] rfl rfl (one_of HT_.out (by kernel_rfl)) (by decide) (fun K hK => ?_)
  refine Kd.R_lit_step k24 _ 24 ?hg (N := 3) ?hd (xs := ([] : List (S24))) (inner := []) (ok := fun _ => True) (okp := fun _ => True) ?hr ?hp (fun _ hk => hk) trivial (Below.refl _ _) (Nat.le_refl _) (by simp) ?_; (case hd => rfl); (case hg => rfl); (case hr => go_simp); (case hp => exact (Reps.none _ _))
  intro v183 w6 ho7 hb hg_ hnew_
  clear hg_ hnew_
  (first | rw [← Ny182.out] at ho7)
  have n0_ := am (Kd.R_lower ho7 (below_size HB.out))
  have n1_ := am (blk_below (g := gb180) (o := .cells #[.slice A0_0 l0_0.length c0_0, .bool a0_1, .int .i64 a0_2] 68 (0, 0)) BK180.out hb)
  have n2_ := am (blk_below (g := gb181) (o := .cells #[.slice none 0 0, .bool false, .int .i64 0] 68 (0, 0)) BK181.out hb)
  have n3_ := am (below_step HB.out hb)
  clear BK180
  clear BK181
  clear HB
  have HO184 := n0_
  have BK180 := n1_
  have BK181 := n2_
  have HB := n3_
  clear n0_ n1_ n2_ n3_
  clear hb ho7
  refine hK.out _ _ ⟨(blk_cell BK180.out 0).trans rfl, (blk_cell BK180.out 1).trans rfl, (blk_cell BK180.out 2).trans rfl⟩ (fun hHeld => ?_)
  clear hK K
  refine norm_ (a' := ?_) ?_ ?_
  rotate_left
  ·show Act.put _ (some 3) _ = _
   simp only [Act.put,sn1,sn2,sn3,i64_w]
   rfl
  refine one_ (i := 3) (N:=some 6) #[Y,Y,Y,Y,Y,Y,Z,Z] rfl rfl (one_of HT_.out (by kernel_rfl)) (by decide) (fun K hK => ?_)
  refine Kd.R_append_rows_step k24 (w0 := w) w.heap.size (by rfl) (.tmp 3) (.tmp 5) 66 24 (.agg #[(.bool false), (.int .i64 0)]) 16 rfl Tryz.underlying66 info24 rfl (by decide) (by omega) v183 y182 l0_0 _ _ _ (fun _ => True) (fun _ => False) rfl rfl ?aO ?aR (fun _ _ h => h) (fun _ h => h.elim) ?aF ?aB ?aS ?aL ?_
  (case aR => repeat (first | exact (Kd.C_below HR0_0.out HB.out)))
  (case aB => exact HB.out)
  (case aF => exact (fun _ _ => trivial))
  (case aO => exact HO184.out)
  (case aS => exact (below_size HB.out))
  (case aL => have := LMc2.out; omega)
  intro v186 w8 ho hb hg hat
  rw [← Ny185.out] at ho
  have n0_ := am (blk_grown (g := gb180) (o := .cells #[.slice A0_0 l0_0.length c0_0, .bool a0_1, .int .i64 a0_2] 68 (0, 0)) BK180.out hg (Kd.R_ne HO184.out BK180.out (by decide)))
  have n1_ := am (blk_grown (g := gb181) (o := .cells #[.slice none 0 0, .bool false, .int .i64 0] 68 (0, 0)) BK181.out hg (Kd.R_ne HO184.out BK181.out (by decide)))
  have n2_ := am (hb)
  have n3_ := am (ho)
  clear BK180
  clear BK181
  clear HB
  clear HO184
  have BK180 := n0_
  have BK181 := n1_
  have HB := n2_
  have HO187 := n3_
  clear n0_ n1_ n2_ n3_
  clear ho hb hg hat
  obtain ⟨Ao9, co9, eo9⟩ := Kd.R_slice HO187.out
  (first | subst eo9)
  refine hK.out _ _ ⟨(blk_cell BK180.out 0).trans rfl, (blk_cell BK180.out 1).trans rfl, (blk_cell BK180.out 2).trans rfl⟩ (fun hHeld => ?_)
  clear hK K
  refine norm_ (a' := ?_) ?_ ?_
  rotate_left
  ·show Act.put _ (some 6) _ = _
   simp only [Act.put,sn1,sn2,sn3,i64_w]
   rfl
  refine pure_ (i := 6) (N:=some 9) (v:=?_) (a':=?_) #[Y,Y,Y,Y,Y,Y,Y,Z] rfl rfl (any_of HT_.out (by kernel_rfl)) (fun _ _ _ h => h) (Or.inl ⟨by rfl, ?_⟩) ?_ ?_;rotate_left;(intro w';go_simp;with_reducible rfl);rotate_left;(simp only [Act.put,sn1,sn2,sn3,i64_w];rfl)
  refine one_ (i := 7) (N := none) #[Y,Y,Y,Y,Y,Y,Y,Y] rfl rfl (one_of HT_.out (by kernel_rfl)) (by decide) (fun K hK => ?_)
  have hs10 : w8.cell? ⟨gb181, 0, none⟩ = some (.slice none 0 0) := (blk_cell BK181.out 0).trans rfl
  have hfs10 := blk_frozen BK181.out 0
  have hns10_0 := NB180_181.out
  have hms10_0 := NB181_180.out
  have hs11 : w8.cell? ⟨gb181, 1, none⟩ = some (.bool false) := (blk_cell BK181.out 1).trans rfl
  have hfs11 := blk_frozen BK181.out 1
  have hns11_0 := NB180_181.out
  have hms11_0 := NB181_180.out
  have hs12 : w8.cell? ⟨gb181, 2, none⟩ = some (.int .i64 0) := (blk_cell BK181.out 2).trans rfl
  have hfs12 := blk_frozen BK181.out 2
  have hns12_0 := NB180_181.out
  have hms12_0 := NB181_180.out
  refine skip_ (w1 := ?_) (by rfl) rfl ?_ ?_
  rotate_left
  ·go_simp
   rfl
  refine hK.out _ _ ⟨((cell_far (p := ⟨gb181, _, none⟩) NB180_181.out _).trans (((cell_far (p := ⟨gb181, _, none⟩) NB180_181.out _).trans (((cell_far (p := ⟨gb181, _, none⟩) NB180_181.out _).trans (hHeld.1)))))), ((cell_far (p := ⟨gb181, _, none⟩) NB180_181.out _).trans (((cell_far (p := ⟨gb181, _, none⟩) NB180_181.out _).trans (((cell_far (p := ⟨gb181, _, none⟩) NB180_181.out _).trans (hHeld.2.1)))))), ((cell_far (p := ⟨gb181, _, none⟩) NB180_181.out _).trans (((cell_far (p := ⟨gb181, _, none⟩) NB180_181.out _).trans (((cell_far (p := ⟨gb181, _, none⟩) NB180_181.out _).trans (hHeld.2.2))))))⟩ (fun hHeld => ?_)
  clear hK K
  refine done_ (done_of HT_.out (by kernel_rfl)) ?_
  try go_wp2
  refine bodyPost_ret (results_cell_row rfl _ _ gb181 68 #[.slice Ao9 y185.length co9, .bool a0_1, .int .i64 a0_2] (0, 0) _ rfl (by refine blk_put (cs := #[.slice Ao9 y185.length co9, .bool a0_1, .int .i64 0]) ?_ 2 _ rfl; refine blk_put (cs := #[.slice Ao9 y185.length co9, .bool false, .int .i64 0]) ?_ 1 _ rfl; refine blk_put (cs := #[.slice none 0 0, .bool false, .int .i64 0]) ?_ 0 _ rfl; exact BK181.out) Tryz.underlying68 rfl (by kernel_rfl)) rfl ?_
  exact ⟨_, by first | rfl, by exact Kd.R_mono (Kd.R_far (p := ⟨gb181, 2, none⟩) (Kd.R_far (p := ⟨gb181, 1, none⟩) (Kd.R_far (p := ⟨gb181, 0, none⟩) (Kd.R_types HO187.out BK181.out (by decide)) (fun _ hk => hk.2) (.slice Ao9 y185.length co9)) (fun _ hk => hk.2) (.bool a0_1)) (fun _ hk => hk.2) (.int .i64 a0_2)) (fun _ hk => trivial), by repeat (first | (with_reducible first | exact HB.out | refine below_set ?_ GE181.out))⟩
 rw [if_neg c2] at H
 exact absurd H (by simp)
def riposteref04_Copy.l0 : Nat → Int → List (S68) → Bool → Int → Bool → List (S68) → Bool → Int → Bool → Option ((List (S68)) × Bool × Int × Bool)
 | 0, _, _, _, _, _, _, _, _, _ => none
 | k + 1, x4, x189000, x189001, x189002, x189003, x191000, x191001, x191002, x191003 => if x4 < (x189000.length : Int) then (if 0 ≤ x4 then ((riposteref04_CopyType.f ((rd_T68 x189000 x4).f0) ((rd_T68 x189000 x4).f1.f0) ((rd_T68 x189000 x4).f1.f1)).bind fun bt192 => (if x191000.length < 3518437208883 then (riposteref04_Copy.l0 k (wrap64 (x4 + 1)) x189000 x189001 x189002 x189003 (x191000 ++ [(⟨bt192.1, (⟨bt192.2.1, bt192.2.2⟩ : S24)⟩ : S68)]) x191001 x191002 x191003) else (none))) else (none)) else (some (x191000, x191001, x191002, x191003))
def riposteref04_Copy.f (k : Nat) (l0_0 : List (S68)) (a0_1 : Bool) (a0_2 : Int) (a0_3 : Bool) : Option ((List (S68)) × Bool × Int × Bool) := riposteref04_Copy.l0 k 0 l0_0 a0_1 a0_2 a0_3 ([] : List (S68)) a0_1 a0_2 a0_3
def riposteref04_Copy.T5 : Bool × List (List Nat × List Nat) := (true, [([], []), ([0], [0]), ([], []), ([2], [2]), ([], []), ([3, 4], [3, 4]), ([5], [5]), ([6], [6]), ([7], [7]), ([1, 8, 7], [1, 8]), ([0, 1, 2, 3, 4, 5, 6, 7, 8, 9], []), ([10, 9, 9, 0, 1, 2, 3, 4, 5, 6, 7, 8, 9], [9, 10])])
def riposteref04_Copy.B5 : List Nat := [0, 1, 0, 4, 0, 28, 60, 124, 252, 511, 1023, 2047]
theorem riposteref04_Copy.tab5 : rtab .any (opsOf Tryz.f16 5) = riposteref04_Copy.T5 := by kernel_rfl
theorem riposteref04_Copy.bits5 : waitsOk riposteref04_Copy.T5.2 riposteref04_Copy.B5 = true := by kernel_rfl
set_option maxHeartbeats 8000000 in
set_option maxRecDepth 100000 in
theorem riposteref04_Copy.calls (k : Nat) (A0_0 : Option Addr) (c0_0 : Nat) (l0_0 : List (S68)) (a0_1 : Bool) (a0_2 : Int) (a0_3 : Bool) (r1 : List (S68)) (r2 : Bool) (r3 : Int) (r4 : Bool) (w : World) (hr0_0 : Kd.C k68 w A0_0 l0_0.length l0_0) (hc0_0 : l0_0.length ≤ c0_0) (h : riposteref04_Copy.f k l0_0 a0_1 a0_2 a0_3 = some (r1, r2, r3, r4)) :
  Calls Tryz.prog 16 #[.agg #[.slice A0_0 l0_0.length c0_0, .bool a0_1, .int .i64 a0_2, .bool a0_3]] w fun e w' => ∃ v0_ : Value, e = .returned (.agg #[v0_, .bool r2, .int .i64 r3, .bool r4]) ∧ Kd.S k68 68 w' w.heap.size (fun _ => True) v0_ r1 ∧ Below w.heap.size w w' := by
 have hu26 := Tryz.underlying26
 have hu24 := Tryz.underlying24
 have hu68 := Tryz.underlying68
 have HR0_0 := am hr0_0
 have HC0_0 := am hc0_0
 clear hr0_0 hc0_0
 have HB := am (Below.refl w.heap.size w)
 have H : (riposteref04_Copy.l0 k 0 l0_0 a0_1 a0_2 a0_3 ([] : List (S68)) a0_1 a0_2 a0_3) = some (r1, r2, r3, r4) := h
 clear h
 have H' := am H
 clear H
 go_enter Tryz.func16, Tryz.ntmps16
 go_wp2_with (first | ((with_reducible refine gate_dst (N := 1) rfl ?_); refine box_event ?hg (N := 1) ?hd (cs := #[.slice A0_0 l0_0.length c0_0, .bool a0_1, .int .i64 a0_2, .bool a0_3]) (t := 26) ?hr ?_; (case hd => rfl); (case hg => rfl); (case hr => go_simp); intro gb188 hg w2 hbox hb; have n0_ := am (below_step HB.out hb); have n1_ := am (hbox); have n2_ := am ((by rw [hg]; exact (below_size HB.out) : w.heap.size ≤ gb188)); have n3_ := am ((by rw [hg]; exact (below_size HB.out) : w.heap.size ≤ gb188)); clear HB; have HB := n0_; have BK188 := n1_; have GW188 := n2_; have GE188 := n3_; clear n0_ n1_ n2_ n3_; clear hb hbox hg) | ((with_reducible refine gate_dst (N := 2) rfl ?_); refine box_event ?hg (N := 2) ?hd (cs := #[.slice none 0 0, .bool false, .int .i64 0, .bool false]) (t := 26) ?hr ?_; (case hd => rfl); (case hg => rfl); (case hr => go_simp); intro gb189 hg w3 hbox hb; have n0_ := am (blk_below (g := gb188) (o := .cells #[.slice A0_0 l0_0.length c0_0, .bool a0_1, .int .i64 a0_2, .bool a0_3] 26 (0, 0)) BK188.out hb); have n1_ := am (below_step HB.out hb); have n2_ := am (hbox); have n3_ := am ((by rw [hg]; exact (below_size HB.out) : w.heap.size ≤ gb189)); have n4_ := am ((by rw [hg]; exact (below_size HB.out) : w.heap.size ≤ gb189)); have n5_ := am ((by rw [hg]; exact Nat.ne_of_lt (blk_lt (g := gb188) (o := .cells #[.slice A0_0 l0_0.length c0_0, .bool a0_1, .int .i64 a0_2, .bool a0_3] 26 (0, 0)) BK188.out) : gb188 ≠ gb189)); have n6_ := am ((by rw [hg]; exact Nat.ne_of_gt (blk_lt (g := gb188) (o := .cells #[.slice A0_0 l0_0.length c0_0, .bool a0_1, .int .i64 a0_2, .bool a0_3] 26 (0, 0)) BK188.out) : gb189 ≠ gb188)); clear BK188; clear HB; have BK188 := n0_; have HB := n1_; have BK189 := n2_; have GW189 := n3_; have GE189 := n4_; have NB188_189 := n5_; have NB189_188 := n6_; clear n0_ n1_ n2_ n3_ n4_ n5_ n6_; clear hb hbox hg; have hnb4 := NB188_189.out; have hnc4 := NB189_188.out; have hcz5_0 : w3.cell? ⟨gb188, 0, none⟩ = some (.slice A0_0 l0_0.length c0_0) := (blk_cell BK188.out 0).trans rfl; have hcz5_1 : w3.cell? ⟨gb188, 1, none⟩ = some (.bool a0_1) := (blk_cell BK188.out 1).trans rfl; have hcz5_2 : w3.cell? ⟨gb188, 2, none⟩ = some (.int .i64 a0_2) := (blk_cell BK188.out 2).trans rfl; have hcz5_3 : w3.cell? ⟨gb188, 3, none⟩ = some (.bool a0_3) := (blk_cell BK188.out 3).trans rfl; have hfz5_0 := blk_frozen BK188.out 0; have hfz5_1 := blk_frozen BK188.out 1; have hfz5_2 := blk_frozen BK188.out 2; have hfz5_3 := blk_frozen BK188.out 3) | ((with_reducible refine gate_dst (N := 3) rfl ?_); refine box_event ?hg (N := 3) ?hd (cs := #[.slice none 0 0, .bool false, .int .i64 0, .bool false]) (t := 26) ?hr ?_; (case hd => rfl); (case hg => rfl); (case hr => go_simp); intro gb190 hg w6 hbox hb; have n0_ := am (blk_below (g := gb188) (o := .cells #[.slice A0_0 l0_0.length c0_0, .bool a0_1, .int .i64 a0_2, .bool a0_3] 26 (0, 0)) BK188.out hb); have n1_ := am (blk_below (g := gb189) (o := .cells #[.slice none 0 0, .bool false, .int .i64 0, .bool false] 26 (0, 0)) BK189.out hb); have n2_ := am (below_step HB.out hb); have n3_ := am (hbox); have n4_ := am ((by rw [hg]; exact (below_size HB.out) : w.heap.size ≤ gb190)); have n5_ := am ((by rw [hg]; exact (below_size HB.out) : w.heap.size ≤ gb190)); have n6_ := am ((by rw [hg]; exact Nat.ne_of_lt (blk_lt (g := gb188) (o := .cells #[.slice A0_0 l0_0.length c0_0, .bool a0_1, .int .i64 a0_2, .bool a0_3] 26 (0, 0)) BK188.out) : gb188 ≠ gb190)); have n7_ := am ((by rw [hg]; exact Nat.ne_of_gt (blk_lt (g := gb188) (o := .cells #[.slice A0_0 l0_0.length c0_0, .bool a0_1, .int .i64 a0_2, .bool a0_3] 26 (0, 0)) BK188.out) : gb190 ≠ gb188)); have n8_ := am ((by rw [hg]; exact Nat.ne_of_lt (blk_lt (g := gb189) (o := .cells #[.slice none 0 0, .bool false, .int .i64 0, .bool false] 26 (0, 0)) BK189.out) : gb189 ≠ gb190)); have n9_ := am ((by rw [hg]; exact Nat.ne_of_gt (blk_lt (g := gb189) (o := .cells #[.slice none 0 0, .bool false, .int .i64 0, .bool false] 26 (0, 0)) BK189.out) : gb190 ≠ gb189)); clear BK188; clear BK189; clear HB; have BK188 := n0_; have BK189 := n1_; have HB := n2_; have BK190 := n3_; have GW190 := n4_; have GE190 := n5_; have NB188_190 := n6_; have NB190_188 := n7_; have NB189_190 := n8_; have NB190_189 := n9_; clear n0_ n1_ n2_ n3_ n4_ n5_ n6_ n7_ n8_ n9_; clear hb hbox hg; have hnb7 := NB190_188.out; have hnc7 := NB188_190.out; have hnb8 := NB190_189.out; have hnc8 := NB189_190.out; have hcz9_0 : w6.cell? ⟨gb190, 0, none⟩ = some (.slice none 0 0) := (blk_cell BK190.out 0).trans rfl; have hcz9_1 : w6.cell? ⟨gb190, 1, none⟩ = some (.bool false) := (blk_cell BK190.out 1).trans rfl; have hcz9_2 : w6.cell? ⟨gb190, 2, none⟩ = some (.int .i64 0) := (blk_cell BK190.out 2).trans rfl; have hcz9_3 : w6.cell? ⟨gb190, 3, none⟩ = some (.bool false) := (blk_cell BK190.out 3).trans rfl; have hfz9_0 := blk_frozen BK190.out 0; have hfz9_1 := blk_frozen BK190.out 1; have hfz9_2 := blk_frozen BK190.out 2; have hfz9_3 := blk_frozen BK190.out 3))
 go_loopg [4] k (fun kq v4 w' => ∃ (x4_1 : Int) (x191000_1 : List (S68)) (u191000 : Value), v4 = .int .i64 x4_1 ∧ Aside0 (riposteref04_Copy.l0 kq x4_1 l0_0 a0_1 a0_2 a0_3 x191000_1 a0_1 a0_2 a0_3 = some (r1, r2, r3, r4)) ∧ Aside0 (kq ≤ k) ∧ Aside0 (Kd.S k68 68 w' w.heap.size (fun _ => True) u191000 x191000_1) ∧ Aside0 (w'.heap[gb188]? = some (.cells #[(.slice A0_0 l0_0.length c0_0), .bool a0_1, .int .i64 a0_2, .bool a0_3] 26 (0, 0))) ∧ Aside0 (w'.heap[gb189]? = some (.cells #[(.slice none 0 0), .bool false, .int .i64 0, .bool false] 26 (0, 0))) ∧ Aside0 (w'.heap[gb190]? = some (.cells #[u191000, .bool a0_1, .int .i64 a0_2, .bool a0_3] 26 (0, 0))) ∧ Aside0 (Below w.heap.size w w'))
 case atStart => exact ⟨(0), (([] : List (S68))), (.slice none 0 0), (by first | rfl), H', ⟨Nat.le_refl _⟩, ⟨by first | exact Kd.S_nil _ _ _ _ _⟩, ⟨by refine blk_far ?_ NB188_190.out _; refine blk_far ?_ NB188_190.out _; refine blk_far ?_ NB188_190.out _; refine blk_far ?_ NB188_190.out _; exact BK188.out⟩, ⟨by refine blk_far ?_ NB189_190.out _; refine blk_far ?_ NB189_190.out _; refine blk_far ?_ NB189_190.out _; refine blk_far ?_ NB189_190.out _; exact BK189.out⟩, ⟨by refine blk_put (cs := #[.slice none 0 0, .bool a0_1, .int .i64 a0_2, .bool false]) ?_ 3 _ rfl; refine blk_put (cs := #[.slice none 0 0, .bool a0_1, .int .i64 0, .bool false]) ?_ 2 _ rfl; refine blk_put (cs := #[.slice none 0 0, .bool false, .int .i64 0, .bool false]) ?_ 1 _ rfl; refine blk_put (cs := #[.slice none 0 0, .bool false, .int .i64 0, .bool false]) ?_ 0 _ rfl; exact BK190.out⟩, ⟨by repeat (first | (with_reducible first | exact HB.out | refine below_set ?_ GE190.out))⟩⟩
 case round =>
  clear H'
  try clear c1
  try clear p2
  try clear c4
  try clear c7
  try clear c8
  try clear hcz5_0
  try clear hcz5_1
  try clear hcz5_2
  try clear hcz5_3
  try clear hcz9_0
  try clear hcz9_1
  try clear hcz9_2
  try clear hcz9_3
  try clear hfz5_0
  try clear hfz5_1
  try clear hfz5_2
  try clear hfz5_3
  try clear hfz9_0
  try clear hfz9_1
  try clear hfz9_2
  try clear hfz9_3
  obtain ⟨x4_1, x191000_1, u191000, rfl, HA, HK1, HO_191000, BK188, BK189, BK190, HB⟩ := hrel
  cases gk with
  | zero => exact absurd HA.out (by simp [riposteref04_Copy.l0])
  | succ k1 =>
   have H := HA.out
   clear HA
   simp only [riposteref04_Copy.l0] at H
   by_cases c10 : x4_1 < (l0_0.length : Int)
   ·rw [if_pos c10] at H
    have c10b0 : decide (x4_1 < (l0_0.length : Int)) = true := decide_eq_true c10
    clear c10
    by_cases c11 : 0 ≤ x4_1
    ·rw [if_pos c11] at H
     have c11b0 : decide (0 ≤ x4_1) = true := decide_eq_true c11
     clear c11
     replace H := Option.bind_eq_some_iff.mp H
     obtain ⟨⟨t192, t195, t196⟩, A120, H⟩ := H
     replace H : (if x191000_1.length < 3518437208883 then (riposteref04_Copy.l0 k1 (wrap64 (x4_1 + 1)) l0_0 a0_1 a0_2 a0_3 (x191000_1 ++ [(⟨t192, (⟨t195, t196⟩ : S24)⟩ : S68)]) a0_1 a0_2 a0_3) else (none)) = some (r1, r2, r3, r4) := H
     have A12 := am A120
     clear A120
     by_cases c13 : x191000_1.length < 3518437208883
     ·rw [if_pos c13] at H
      have LMc13 := am c13
      clear c13
      obtain ⟨y197, hy197⟩ : ∃ y_ : List (S68), y_ = (x191000_1 ++ [(⟨t192, (⟨t195, t196⟩ : S24)⟩ : S68)]) := ⟨_, rfl⟩
      replace H : (riposteref04_Copy.l0 k1 (wrap64 (x4_1 + 1)) l0_0 a0_1 a0_2 a0_3 y197 a0_1 a0_2 a0_3) = some (r1, r2, r3, r4) := by first | (rw [hy197]; with_reducible exact H)
      have Ny197 := am hy197
      clear hy197
      have H' := am H
      clear H
      have hnb14 := NB188_189.out
      have hnc14 := NB189_188.out
      have hnb15 := NB188_190.out
      have hnc15 := NB190_188.out
      have hcz16_0 : wr.cell? ⟨gb188, 0, none⟩ = some (.slice A0_0 l0_0.length c0_0) := (blk_cell BK188.out 0).trans rfl
      have hcz16_1 : wr.cell? ⟨gb188, 1, none⟩ = some (.bool a0_1) := (blk_cell BK188.out 1).trans rfl
      have hcz16_2 : wr.cell? ⟨gb188, 2, none⟩ = some (.int .i64 a0_2) := (blk_cell BK188.out 2).trans rfl
      have hcz16_3 : wr.cell? ⟨gb188, 3, none⟩ = some (.bool a0_3) := (blk_cell BK188.out 3).trans rfl
      have hfz16_0 := blk_frozen BK188.out 0
      have hfz16_1 := blk_frozen BK188.out 1
      have hfz16_2 := blk_frozen BK188.out 2
      have hfz16_3 := blk_frozen BK188.out 3
      try go_wp2
      have n0_ := am (Kd.S_drew HO_191000.out)
      have n1_ := am (blk_drew BK188.out)
      have n2_ := am (blk_drew BK189.out)
      have n3_ := am (blk_drew BK190.out)
      have n4_ := am (below_drew1 HB.out)
      clear HO_191000
      clear BK188
      clear BK189
      clear BK190
      clear HB
      have HO_191000 := n0_
      have BK188 := n1_
      have BK189 := n2_
      have BK190 := n3_
      have HB := n4_
      clear n0_ n1_ n2_ n3_ n4_
      have p191 : 0 ≤ (x4_1 : Int) := of_decide_eq_true (by first | (with_reducible assumption))
      have q191 : x4_1 < (l0_0.length : Int) := of_decide_eq_true (by first | (with_reducible assumption))
      obtain ⟨ad191, A191_0, c191_0, e191, hx191_0, hx191_1, hx191_2, hl191_0, hi191_0⟩ := at_T68 HR0_0.out x4_1 p191 q191
      have hw191_2 := hx191_2
      have hw191_1 := hx191_1
      have hw191_0 := hx191_0
      cases e191
      replace hx191_0 := (HB.out.cell (World.block_lt_of_cell? w _ hx191_0)).trans hx191_0
      replace hx191_1 := (HB.out.cell (World.block_lt_of_cell? w _ hx191_1)).trans hx191_1
      replace hx191_2 := (HB.out.cell (World.block_lt_of_cell? w _ hx191_2)).trans hx191_2
      have HR191_0 := am hi191_0
      have HC191_0 := am hl191_0
      clear hi191_0 hl191_0
      replace p191 := eq_true p191
      replace q191 := eq_true q191
      refine start_ (n := 12) (S := fun w' => w'.cell? ⟨gb190, 0, none⟩ = some (u191000) ∧ w'.cell? ⟨gb190, 1, none⟩ = some (.bool a0_1) ∧ w'.cell? ⟨gb190, 2, none⟩ = some (.int .i64 a0_2) ∧ w'.cell? ⟨gb190, 3, none⟩ = some (.bool a0_3) ∧ w'.cell? ⟨gb188, 0, none⟩ = some (.slice (some ad191) l0_0.length c0_0) ∧ w'.cell? ⟨gb188, 1, none⟩ = some (.bool a0_1) ∧ w'.cell? ⟨gb188, 2, none⟩ = some (.int .i64 a0_2) ∧ w'.cell? ⟨gb188, 3, none⟩ = some (.bool a0_3) ∧ w'.cell? (ad191.add ((x4_1).toNat * 3)) = some (.slice A191_0 ((rd_T68 l0_0 x4_1).f0).length c191_0) ∧ w'.cell? ⟨(ad191.add ((x4_1).toNat * 3)).block, (ad191.add ((x4_1).toNat * 3)).off + 1, none⟩ = some (.bool ((rd_T68 l0_0 x4_1).f1.f0)) ∧ w'.cell? ⟨(ad191.add ((x4_1).toNat * 3)).block, (ad191.add ((x4_1).toNat * 3)).off + 2, none⟩ = some (.int .i64 ((rd_T68 l0_0 x4_1).f1.f1))) (ds := [11]) (Mq [0,12]) (by kernel_rfl) rfl rfl ⟨(blk_cell BK190.out 0).trans rfl, (blk_cell BK190.out 1).trans rfl, (blk_cell BK190.out 2).trans rfl, (blk_cell BK190.out 3).trans rfl, (blk_cell BK188.out 0).trans rfl, (blk_cell BK188.out 1).trans rfl, (blk_cell BK188.out 2).trans rfl, (blk_cell BK188.out 3).trans rfl, ((HB.out.cell (World.block_lt_of_cell? w _ hw191_0)).trans hw191_0), ((HB.out.cell (World.block_lt_of_cell? w _ hw191_1)).trans hw191_1), ((HB.out.cell (World.block_lt_of_cell? w _ hw191_2)).trans hw191_2)⟩ (fun hHeld => ?_); refine with_tabW riposteref04_Copy.tab5 riposteref04_Copy.bits5 (fun HT_ HW_ => ?_)
      generalize wr.drew = w17 at HO_191000 BK188 BK189 BK190 HB HR191_0 hx191_0 hx191_1 hx191_2 hHeld ⊢
      refine pure_ (i := 0) (N:=some 17) (v:=?_) (a':=?_) (Mq [1,11]) rfl rfl (any_of HT_.out (by kernel_rfl)) (fun _ _ _ h => h) (Or.inl ⟨by rfl, ?_⟩) ?_ ?_;rotate_left;(intro w';go_simp;with_reducible rfl);rotate_left;(simp only [Act.put,sn1,sn2,sn3,i64_w];rfl)
      refine pure_ (i := 2) (N:=some 19) (v:=?_) (a':=?_) (Mq [1,1,1,9]) rfl rfl (any_of HT_.out (by kernel_rfl)) (fun _ _ _ h => h) (Or.inl ⟨by rfl, ?_⟩) ?_ ?_;rotate_left;(intro w';go_simp;with_reducible rfl);rotate_left;(simp only [Act.put,sn1,sn2,sn3,i64_w];rfl)
      refine pure_ (i := 4) (N:=some 21) (v:=?_) (a':=?_) (Mq [1,1,1,1,1,7]) rfl rfl (any_of HT_.out (by kernel_rfl)) (fun _ _ _ h => h) (Or.inl ⟨by rfl, ?_⟩) ?_ ?_;rotate_left;(intro w';go_simp;with_reducible rfl);rotate_left;(simp only [Act.put,sn1,sn2,sn3,i64_w];rfl)
      refine take_ (i := 1) (N:=some 18) (v:=?_) (a':=?_) (Mq [3,1,1,7]) rfl rfl (take_ofW HT_.out HW_.out (by kernel_rfl)) (fun _ _ _ h => h) (Or.inl ⟨by rfl, ?_⟩) hHeld ?_ ?_
      rotate_left
      ·rintro w' ⟨s0, s1, s2, s3, s4, s5, s6, s7, s8, s9, s10⟩
       go_simp
       with_reducible rfl
      rotate_left
      ·simp only [Act.put,sn1,sn2,sn3,i64_w]
       rfl
      refine take_ (i := 3) (N:=some 20) (v:=?_) (a':=?_) (Mq [5,7]) rfl rfl (take_ofW HT_.out HW_.out (by kernel_rfl)) (fun _ _ _ h => h) (Or.inl ⟨by rfl, ?_⟩) hHeld ?_ ?_
      rotate_left
      ·rintro w' ⟨s0, s1, s2, s3, s4, s5, s6, s7, s8, s9, s10⟩
       go_simp
       with_reducible rfl
      rotate_left
      ·simp only [Act.put,sn1,sn2,sn3,i64_w]
       rfl
      refine pure_ (i := 5) (N:=some 22) (v:=?_) (a':=?_) (Mq [6,6]) rfl rfl (any_of HT_.out (by kernel_rfl)) (fun _ _ _ h => h) (Or.inl ⟨by rfl, ?_⟩) ?_ ?_;rotate_left;(intro w';go_simp;with_reducible rfl);rotate_left;(simp only [Act.put,sn1,sn2,sn3,i64_w];rfl)
      refine take_ (i := 6) (N:=some 23) (v:=?_) (a':=?_) (Mq [7,5]) rfl rfl (take_ofW HT_.out HW_.out (by kernel_rfl)) (fun _ _ _ h => h) (Or.inl ⟨by rfl, ?_⟩) hHeld ?_ ?_
      rotate_left
      ·rintro w' ⟨s0, s1, s2, s3, s4, s5, s6, s7, s8, s9, s10⟩
       go_simp
       with_reducible rfl
      rotate_left
      ·simp only [Act.put,sn1,sn2,sn3,i64_w]
       rfl
      refine one_ (i := 7) (N:=some 24) (Mq [8,4]) rfl rfl (one_of HT_.out (by kernel_rfl)) (by decide) (fun K hK => ?_)
      refine goes_ Tryz.func56 (by kernel_rfl) rfl #[.agg #[.slice A191_0 ((rd_T68 l0_0 x4_1).f0).length c191_0, .bool ((rd_T68 l0_0 x4_1).f1.f0), .int .i64 ((rd_T68 l0_0 x4_1).f1.f1)]] (by rfl) rfl rfl (by (try simp only [List.map_toArray, List.map_cons, List.map_nil]); first | rfl) ?_
      with_reducible refine (riposteref04_CopyType.calls _ _ ((rd_T68 l0_0 x4_1).f0) ((rd_T68 l0_0 x4_1).f1.f0) ((rd_T68 l0_0 x4_1).f1.f1) t192 t195 t196 _ ?side1 ?side2 A12.out).mono ?_
      (case side1 => repeat (first | exact (Kd.C_below HR191_0.out HB.out)))
      (case side2 => exact HC191_0.out)
      rintro e w18 ⟨v193, rfl, ho0, hb⟩
      refine ⟨_, rfl, ?_⟩
      have n0_ := am (Kd.S_elder' HO_191000.out (Kd.R_base ho0) hb)
      have n1_ := am (Kd.R_lower ho0 (below_size HB.out))
      have n2_ := am (blk_below (g := gb188) (o := .cells #[.slice (some ad191) l0_0.length c0_0, .bool a0_1, .int .i64 a0_2, .bool a0_3] 26 (0, 0)) BK188.out hb)
      have n3_ := am (blk_below (g := gb189) (o := .cells #[.slice none 0 0, .bool false, .int .i64 0, .bool false] 26 (0, 0)) BK189.out hb)
      have n4_ := am (blk_below (g := gb190) (o := .cells #[u191000, .bool a0_1, .int .i64 a0_2, .bool a0_3] 26 (0, 0)) BK190.out hb)
      have n5_ := am (below_step HB.out hb)
      clear HO_191000
      clear BK188
      clear BK189
      clear BK190
      clear HB
      have HO_191000 := n0_
      have HO194 := n1_
      have BK188 := n2_
      have BK189 := n3_
      have BK190 := n4_
      have HB := n5_
      clear n0_ n1_ n2_ n3_ n4_ n5_
      (try clear hb)
      (try clear hb2)
      (try clear hk)
      (try clear hi)
      (try clear ho0)
      obtain ⟨Ao20, co20, eo20⟩ := Kd.R_slice HO194.out
      (first | subst eo20)
      refine hK.out _ _ ⟨(blk_cell BK190.out 0).trans rfl, (blk_cell BK190.out 1).trans rfl, (blk_cell BK190.out 2).trans rfl, (blk_cell BK190.out 3).trans rfl, (blk_cell BK188.out 0).trans rfl, (blk_cell BK188.out 1).trans rfl, (blk_cell BK188.out 2).trans rfl, (blk_cell BK188.out 3).trans rfl, ((HB.out.cell (World.block_lt_of_cell? w _ hw191_0)).trans hw191_0), ((HB.out.cell (World.block_lt_of_cell? w _ hw191_1)).trans hw191_1), ((HB.out.cell (World.block_lt_of_cell? w _ hw191_2)).trans hw191_2)⟩ (fun hHeld => ?_)
      clear hK K
      refine norm_ (a' := ?_) ?_ ?_
      rotate_left
      ·show Act.put _ (some 24) _ = _
       simp only [Act.put,sn1,sn2,sn3,i64_w]
       rfl
      refine one_ (i := 8) (N:=some 25) (Mq [9,3]) rfl rfl (one_of HT_.out (by kernel_rfl)) (by decide) (fun K hK => ?_)
      refine value_ (w1 := ?_) (v := ?_) (by rfl) rfl ?_ ?_
      rotate_left 2
      ·go_simp
       constructor
       ·rfl
       rfl
      refine hK.out _ _ ⟨(blk_cell (blk_alloc BK190.out _) 0).trans rfl, (blk_cell (blk_alloc BK190.out _) 1).trans rfl, (blk_cell (blk_alloc BK190.out _) 2).trans rfl, (blk_cell (blk_alloc BK190.out _) 3).trans rfl, (blk_cell (blk_alloc BK188.out _) 0).trans rfl, (blk_cell (blk_alloc BK188.out _) 1).trans rfl, (blk_cell (blk_alloc BK188.out _) 2).trans rfl, (blk_cell (blk_alloc BK188.out _) 3).trans rfl, (World.cell?_alloc_lt _ _ _ (World.block_lt_of_cell? _ _ (((HB.out.cell (World.block_lt_of_cell? w _ hw191_0)).trans hw191_0)))).trans (((HB.out.cell (World.block_lt_of_cell? w _ hw191_0)).trans hw191_0)), (World.cell?_alloc_lt _ _ _ (World.block_lt_of_cell? _ _ (((HB.out.cell (World.block_lt_of_cell? w _ hw191_1)).trans hw191_1)))).trans (((HB.out.cell (World.block_lt_of_cell? w _ hw191_1)).trans hw191_1)), (World.cell?_alloc_lt _ _ _ (World.block_lt_of_cell? _ _ (((HB.out.cell (World.block_lt_of_cell? w _ hw191_2)).trans hw191_2)))).trans (((HB.out.cell (World.block_lt_of_cell? w _ hw191_2)).trans hw191_2))⟩ (fun hHeld => ?_)
      clear hK K
      refine norm_ (a' := ?_) ?_ ?_
      rotate_left
      ·show Act.put _ (some 25) _ = _
       simp only [Act.put,sn1,sn2,sn3,i64_w]
       rfl
      refine one_ (i := 9) (N:=some 26) (Mq [10,2]) rfl rfl (one_of HT_.out (by kernel_rfl)) (by decide) (fun K hK => ?_)
      refine Kd.S_append_step k68 (w0 := w) w.heap.size (by rfl) (.tmp 18) (.tmp 25) 22 68 (.agg #[(.slice none 0 0), (.bool false), (.int .i64 0)]) 40 rfl Tryz.underlying22 info68 rfl (by decide) (by omega) u191000 x191000_1 (⟨t192, (⟨t195, t196⟩ : S24)⟩ : S68) [.slice Ao20 t192.length co20, .bool t195, .int .i64 t196] (fun _ => True) (fun k_ => some k_ = (.slice Ao20 t192.length co20 : Value).ownBlock) rfl rfl ?aP (fun k_ hk_ => ((Kd.R_mono (ok' := fun k_ => ((fun _ => True)) k_ ∧ some k_ ≠ (u191000 : Value).ownBlock) (Kd.R_apart' (HO194.out) (Kd.S_typed HO_191000.out) (by decide)) (fun k_ hk => ⟨trivial, hk.2⟩))).1 k_ hk_.symm) ?aF ?aO ?aB ?aS ?aL ?_
      (case aP => exact k68_mkM _ _ _ (⟨t192, (⟨t195, t196⟩ : S24)⟩ : S68) (Kd.R_mono (Kd.R_tight rfl (Kd.R_mono (ok' := fun k_ => ((fun _ => True)) k_ ∧ some k_ ≠ (u191000 : Value).ownBlock) (Kd.R_apart' (HO194.out) (Kd.S_typed HO_191000.out) (by decide)) (fun k_ hk => ⟨trivial, hk.2⟩))) (fun _ h_ => h_)))
      (case aB => exact HB.out)
      (case aF => exact (fun _ _ => trivial))
      (case aO => exact (by exact Kd.S_mono HO_191000.out (fun k_ hk => ⟨trivial, fun e_ => hk.2 e_⟩)))
      (case aS => exact (below_size HB.out))
      (case aL => have := LMc13.out; omega)
      intro v198 w19 ho hb hg hat
      rw [← Ny197.out] at ho
      have n0_ := am (blk_grown (g := gb188) (o := .cells #[.slice (some ad191) l0_0.length c0_0, .bool a0_1, .int .i64 a0_2, .bool a0_3] 26 (0, 0)) BK188.out hg (Kd.S_ne HO_191000.out BK188.out (by decide)))
      have n1_ := am (blk_grown (g := gb189) (o := .cells #[.slice none 0 0, .bool false, .int .i64 0, .bool false] 26 (0, 0)) BK189.out hg (Kd.S_ne HO_191000.out BK189.out (by decide)))
      have n2_ := am (blk_grown (g := gb190) (o := .cells #[u191000, .bool a0_1, .int .i64 a0_2, .bool a0_3] 26 (0, 0)) BK190.out hg (Kd.S_ne HO_191000.out BK190.out (by decide)))
      have n3_ := am (hb)
      have n4_ := am (ho)
      clear BK188
      clear BK189
      clear BK190
      clear HB
      clear HO_191000
      clear HO194
      have BK188 := n0_
      have BK189 := n1_
      have BK190 := n2_
      have HB := n3_
      have HO199 := n4_
      clear n0_ n1_ n2_ n3_ n4_
      clear ho hb hg hat
      obtain ⟨Ao21, co21, eo21⟩ := Kd.S_slice HO199.out
      (first | subst eo21)
      refine hK.out _ _ ⟨(blk_cell BK190.out 0).trans rfl, (blk_cell BK190.out 1).trans rfl, (blk_cell BK190.out 2).trans rfl, (blk_cell BK190.out 3).trans rfl, (blk_cell BK188.out 0).trans rfl, (blk_cell BK188.out 1).trans rfl, (blk_cell BK188.out 2).trans rfl, (blk_cell BK188.out 3).trans rfl, ((HB.out.cell (World.block_lt_of_cell? w _ hw191_0)).trans hw191_0), ((HB.out.cell (World.block_lt_of_cell? w _ hw191_1)).trans hw191_1), ((HB.out.cell (World.block_lt_of_cell? w _ hw191_2)).trans hw191_2)⟩ (fun hHeld => ?_)
      clear hK K
      refine norm_ (a' := ?_) ?_ ?_
      rotate_left
      ·show Act.put _ (some 26) _ = _
       simp only [Act.put,sn1,sn2,sn3,i64_w]
       rfl
      refine pure_ (i := 10) (N:=some 27) (v:=?_) (a':=?_) (Mq [11,1]) rfl rfl (any_of HT_.out (by kernel_rfl)) (fun _ _ _ h => h) (Or.inl ⟨by rfl, ?_⟩) ?_ ?_;rotate_left;(intro w';go_simp;with_reducible rfl);rotate_left;(simp only [Act.put,sn1,sn2,sn3,i64_w];rfl)
      refine last_ (i := 11) (N := none) (Mq [12]) rfl rfl (one_of HT_.out (by kernel_rfl)) (by decide) (fun K hK => ?_)
      have hs22 : w19.cell? ⟨gb190, 0, none⟩ = some (u191000) := (blk_cell BK190.out 0).trans rfl
      have hfs22 := blk_frozen BK190.out 0
      have hns22_0 := NB188_190.out
      have hns22_1 := NB189_190.out
      have hms22_0 := NB190_188.out
      have hms22_1 := NB190_189.out
      refine skip_ (w1 := ?_) (by rfl) rfl ?_ ?_
      rotate_left
      ·go_simp
       rfl
      refine hK.out _ _ ?_
      clear hK K
      refine done_ (done_of HT_.out (by kernel_rfl)) ?_
      try go_wp2
      go_roundg k1
      case measure => have := HK1.out; omega
      case rel => exact ⟨(wrap64 (x4_1 + 1)), (y197), (.slice Ao21 y197.length co21), (by first | rfl), H', ⟨by have := HK1.out; omega⟩, ⟨by exact Kd.S_mono (Kd.S_far (p := ⟨gb190, 0, none⟩) (Kd.S_types HO199.out BK190.out (by decide)) (fun _ hk => hk.2) (.slice Ao21 y197.length co21)) (fun _ hk => trivial)⟩, ⟨by refine blk_far ?_ NB188_190.out _; exact BK188.out⟩, ⟨by refine blk_far ?_ NB189_190.out _; exact BK189.out⟩, ⟨by refine blk_put (cs := #[u191000, .bool a0_1, .int .i64 a0_2, .bool a0_3]) ?_ 0 _ rfl; exact BK190.out⟩, ⟨by repeat (first | (with_reducible first | exact HB.out | refine below_set ?_ GE190.out))⟩⟩
     rw [if_neg c13] at H
     exact absurd H (by simp)
    rw [if_neg c11] at H
    exact absurd H (by simp)
   rw [if_neg c10] at H
   have c10b0 : decide (x4_1 < (l0_0.length : Int)) = false := decide_eq_false c10
   clear c10
   simp only [Option.some.injEq, Prod.mk.injEq] at H
   obtain ⟨rfl, rfl, rfl, rfl⟩ := H
   have hnb23 := NB188_189.out
   have hnc23 := NB189_188.out
   have hnb24 := NB188_190.out
   have hnc24 := NB190_188.out
   have hcz25_0 : wr.cell? ⟨gb188, 0, none⟩ = some (.slice A0_0 l0_0.length c0_0) := (blk_cell BK188.out 0).trans rfl
   have hcz25_1 : wr.cell? ⟨gb188, 1, none⟩ = some (.bool a0_1) := (blk_cell BK188.out 1).trans rfl
   have hcz25_2 : wr.cell? ⟨gb188, 2, none⟩ = some (.int .i64 a0_2) := (blk_cell BK188.out 2).trans rfl
   have hcz25_3 : wr.cell? ⟨gb188, 3, none⟩ = some (.bool a0_3) := (blk_cell BK188.out 3).trans rfl
   have hfz25_0 := blk_frozen BK188.out 0
   have hfz25_1 := blk_frozen BK188.out 1
   have hfz25_2 := blk_frozen BK188.out 2
   have hfz25_3 := blk_frozen BK188.out 3
   have hnb26 := NB190_189.out
   have hnc26 := NB189_190.out
   have hcz27_0 : wr.cell? ⟨gb190, 0, none⟩ = some (u191000) := (blk_cell BK190.out 0).trans rfl
   have hcz27_1 : wr.cell? ⟨gb190, 1, none⟩ = some (.bool a0_1) := (blk_cell BK190.out 1).trans rfl
   have hcz27_2 : wr.cell? ⟨gb190, 2, none⟩ = some (.int .i64 a0_2) := (blk_cell BK190.out 2).trans rfl
   have hcz27_3 : wr.cell? ⟨gb190, 3, none⟩ = some (.bool a0_3) := (blk_cell BK190.out 3).trans rfl
   have hfz27_0 := blk_frozen BK190.out 0
   have hfz27_1 := blk_frozen BK190.out 1
   have hfz27_2 := blk_frozen BK190.out 2
   have hfz27_3 := blk_frozen BK190.out 3
   obtain ⟨Ao28, co28, eo28⟩ := Kd.S_slice HO_191000.out
   subst eo28
   have hcz29_0 : wr.cell? ⟨gb189, 0, none⟩ = some (.slice none 0 0) := (blk_cell BK189.out 0).trans rfl
   have hcz29_1 : wr.cell? ⟨gb189, 1, none⟩ = some (.bool false) := (blk_cell BK189.out 1).trans rfl
   have hcz29_2 : wr.cell? ⟨gb189, 2, none⟩ = some (.int .i64 0) := (blk_cell BK189.out 2).trans rfl
   have hcz29_3 : wr.cell? ⟨gb189, 3, none⟩ = some (.bool false) := (blk_cell BK189.out 3).trans rfl
   have hfz29_0 := blk_frozen BK189.out 0
   have hfz29_1 := blk_frozen BK189.out 1
   have hfz29_2 := blk_frozen BK189.out 2
   have hfz29_3 := blk_frozen BK189.out 3
   go_wp2
   refine bodyPost_ret (results_cell_row rfl _ _ gb189 26 #[.slice Ao28 x191000_1.length co28, .bool a0_1, .int .i64 a0_2, .bool a0_3] (0, 0) _ rfl (by refine blk_put (cs := #[.slice Ao28 x191000_1.length co28, .bool a0_1, .int .i64 a0_2, .bool false]) ?_ 3 _ rfl; refine blk_put (cs := #[.slice Ao28 x191000_1.length co28, .bool a0_1, .int .i64 0, .bool false]) ?_ 2 _ rfl; refine blk_put (cs := #[.slice Ao28 x191000_1.length co28, .bool false, .int .i64 0, .bool false]) ?_ 1 _ rfl; refine blk_put (cs := #[.slice none 0 0, .bool false, .int .i64 0, .bool false]) ?_ 0 _ rfl; exact BK189.out) Tryz.underlying26 rfl (by kernel_rfl)) rfl ?_
   exact ⟨_, by first | rfl, by exact Kd.S_mono (Kd.S_far (p := ⟨gb189, 3, none⟩) (Kd.S_far (p := ⟨gb189, 2, none⟩) (Kd.S_far (p := ⟨gb189, 1, none⟩) (Kd.S_far (p := ⟨gb189, 0, none⟩) (Kd.S_types HO_191000.out BK189.out (by decide)) (fun _ hk => hk.2) (.slice Ao28 x191000_1.length co28)) (fun _ hk => hk.2) (.bool a0_1)) (fun _ hk => hk.2) (.int .i64 a0_2)) (fun _ hk => hk.2) (.bool a0_3)) (fun _ hk => trivial), by repeat (first | (with_reducible first | exact HB.out | refine below_set ?_ GE189.out))⟩
def riposteref05_Copy.f (l0 : List (S52)) : Option ((List (S52))) := (some (([] : List (S52)) : List (S52))).bind fun y200 => (if y200.length + l0.length < 4398046511104 then (some (y200 ++ l0)) else (none))
set_option maxHeartbeats 8000000 in
set_option maxRecDepth 100000 in
theorem riposteref05_Copy.calls (A0 : Option Addr) (c0 : Nat) (l0 : List (S52)) (r : List (S52)) (w : World) (hr0 : Kd.C k52 w A0 l0.length l0) (hc0 : l0.length ≤ c0) (h : riposteref05_Copy.f l0 = some r) :
  Calls Tryz.prog 17 #[.slice A0 l0.length c0] w fun e w' => ∃ v0_ : Value, e = .returned (v0_) ∧ Kd.R k52 52 w' w.heap.size (fun _ => True) v0_ r ∧ Below w.heap.size w w' := by
 have HR0 := am hr0
 have HC0 := am hc0
 clear hr0 hc0
 have HB := am (Below.refl w.heap.size w)
 have H : ((some (([] : List (S52)) : List (S52))).bind fun y200 => (if y200.length + l0.length < 4398046511104 then (some (y200 ++ l0)) else (none))) = some r := h
 clear h
 obtain ⟨y200, hy200⟩ : ∃ y_ : List (S52), y_ = (([] : List (S52))) := ⟨_, rfl⟩
 replace H : (if y200.length + l0.length < 4398046511104 then (some (y200 ++ l0)) else (none)) = some r := by first | (have H2_ := (Option.bind_some _ _).symm.trans H; rw [hy200]; with_reducible exact H2_)
 have Ny200 := am hy200
 clear hy200
 by_cases c2 : y200.length + l0.length < 4398046511104
 ·rw [if_pos c2] at H
  have LMc2 := am c2
  clear c2
  obtain ⟨y203, hy203⟩ : ∃ y_ : List (S52), y_ = (y200 ++ l0) := ⟨_, rfl⟩
  replace H : (some y203) = some r := by first | (rw [hy203]; with_reducible exact H)
  have Ny203 := am hy203
  clear hy203
  obtain rfl := Option.some.inj H
  go_enter Tryz.func17, Tryz.ntmps17
  go_wp2_with (first | ((with_reducible refine gate_dst (N := 3) rfl ?_); refine Kd.R_lit k52 _ 52 ?hg (N := 3) ?hd (xs := ([] : List (S52))) (inner := []) (ok := fun _ => True) (okp := fun _ => True) ?hr ?hp (fun _ hk => hk) trivial (Below.refl _ _) (Nat.le_refl _) (by simp) ?_; (case hd => rfl); (case hg => rfl); (case hr => go_simp); (case hp => exact (Reps.none _ _)); intro v201 w3 ho4 hb hg_ hnew_; clear hg_ hnew_; (first | rw [← Ny200.out] at ho4); have n0_ := am (Kd.R_lower ho4 (below_size HB.out)); have n1_ := am (below_step HB.out hb); clear HB; have HO202 := n0_; have HB := n1_; clear n0_ n1_; clear hb ho4) | ((with_reducible refine gate_builtin (b := .append) (xs := #[.tmp 3, .tmp 4]) rfl ?_); at_builtin; refine Kd.R_append_rows k52 (w0 := w) w.heap.size rfl (.tmp 3) (.tmp 4) 28 52 (.agg #[(.int .i64 0), (.int .i64 0), (.int .u8 0), (.int .i64 0)]) 32 rfl Tryz.underlying28 info52 rfl (by decide) (by omega) v201 y200 l0 _ _ _ (fun _ => True) (fun _ => False) rfl rfl ?aO ?aR (fun _ _ h => h) (fun _ h => h.elim) ?aF ?aB ?aS ?aL ?_; (case aR => repeat (first | exact (Kd.C_below HR0.out HB.out))); (case aB => exact HB.out); (case aF => exact (fun _ _ => trivial)); (case aO => exact HO202.out); (case aS => exact (below_size HB.out)); (case aL => have := LMc2.out; omega); intro v204 w5 ho hb hg hat; rw [← Ny203.out] at ho; have n0_ := am (hb); have n1_ := am (ho); clear HB; clear HO202; have HB := n0_; have HO205 := n1_; clear n0_ n1_; clear ho hb hg hat))
  go_ret
  exact ⟨_, by first | rfl, by exact HO205.out, by exact HB.out⟩
 rw [if_neg c2] at H
 exact absurd H (by simp)
def riposteref04_In.f (a0 : Int) (a1 : Int) (a2 : Int) : Option (Bool) := if a0 ≥ a1 then (some (decide (a0 ≤ a2))) else (some false)
set_option maxHeartbeats 8000000 in
set_option maxRecDepth 100000 in
theorem riposteref04_In.calls (a0 : Int) (a1 : Int) (a2 : Int) (r : Bool) (w : World) (h : riposteref04_In.f a0 a1 a2 = some r) :
  Calls Tryz.prog 127 #[.int .i64 a0, .int .i64 a1, .int .i64 a2] w fun e w' => e = .returned (.bool r) ∧ Drawn0 w w' := by
 have H : (if a0 ≥ a1 then (some (decide (a0 ≤ a2))) else (some false)) = some r := h
 clear h
 by_cases c4 : a0 ≥ a1
 ·rw [if_pos c4] at H
  have c4b0 : decide (a1 ≤ a0) = true := decide_eq_true c4
  clear c4
  obtain rfl := Option.some.inj H
  go_enter Tryz.func127, Tryz.ntmps127
  go_wp2
  go_ret
  exact ⟨by first | rfl, by repeat (first | exact Drawn0.refl _)⟩
 rw [if_neg c4] at H
 have c4b0 : decide (a1 ≤ a0) = false := decide_eq_false c4
 clear c4
 obtain rfl := Option.some.inj H
 go_enter Tryz.func127, Tryz.ntmps127
 go_wp2
 go_ret
 exact ⟨by first | rfl, by repeat (first | exact Drawn0.refl _)⟩
def riposteref04_IsBase.f (a0_0 : Bool) (a0_1 : Int) : Option (Bool) := (riposteref04_In.f a0_1 1 64).bind fun t207 => (some t207)
set_option maxHeartbeats 8000000 in
set_option maxRecDepth 100000 in
theorem riposteref04_IsBase.calls (a0_0 : Bool) (a0_1 : Int) (r : Bool) (w : World) (h : riposteref04_IsBase.f a0_0 a0_1 = some r) :
  Calls Tryz.prog 123 #[.agg #[.bool a0_0, .int .i64 a0_1]] w fun e w' => e = .returned (.bool r) ∧ Below w.heap.size w w' := by
 have hu24 := Tryz.underlying24
 have HB := am (Below.refl w.heap.size w)
 have H : ((riposteref04_In.f a0_1 1 64).bind fun t207 => (some t207)) = some r := h
 clear h
 replace H := Option.bind_eq_some_iff.mp H
 obtain ⟨t207, A20, H⟩ := H
 replace H : (some t207) = some r := H
 have A2 := am A20
 clear A20
 obtain rfl := Option.some.inj H
 go_enter Tryz.func123, Tryz.ntmps123
 go_wp2_with (first | ((with_reducible refine gate_dst (N := 1) rfl ?_); refine box_event ?hg (N := 1) ?hd (cs := #[.bool a0_0, .int .i64 a0_1]) (t := 24) ?hr ?_; (case hd => rfl); (case hg => rfl); (case hr => go_simp); intro gb206 hg w3 hbox hb; have n0_ := am (below_step HB.out hb); have n1_ := am (hbox); have n2_ := am ((by rw [hg]; exact (below_size HB.out) : w.heap.size ≤ gb206)); have n3_ := am ((by rw [hg]; exact (below_size HB.out) : w.heap.size ≤ gb206)); clear HB; have HB := n0_; have BK206 := n1_; have GW206 := n2_; have GE206 := n3_; clear n0_ n1_ n2_ n3_; clear hb hbox hg; have hcz4_0 : w3.cell? ⟨gb206, 0, none⟩ = some (.bool a0_0) := (blk_cell BK206.out 0).trans rfl; have hcz4_1 : w3.cell? ⟨gb206, 1, none⟩ = some (.int .i64 a0_1) := (blk_cell BK206.out 1).trans rfl; have hfz4_0 := blk_frozen BK206.out 0; have hfz4_1 := blk_frozen BK206.out 1) | ((with_reducible refine gate_callee (f := 127) rfl ?_); refine goesL_ (some 5) rfl rfl Tryz.func127 (by kernel_rfl) rfl #[.int .i64 a0_1, .int .i64 1, .int .i64 64] rfl (by (try simp only [List.map_toArray, List.map_cons, List.map_nil]); first | rfl) ?_; (with_reducible refine (riposteref04_In.calls a0_1 1 64 t207 _ A2.out).mono ?_); rintro e w' ⟨rfl, ⟨nd, rfl⟩⟩; refine ⟨_, rfl, ?_⟩))
 go_ret
 exact ⟨by first | rfl, by repeat (first | (with_reducible first | exact HB.out | apply pw_below_drewN))⟩
def riposteref04_IsType.l0 : Nat → Int → List (S24) → Bool → Int → Option (Bool)
 | 0, _, _, _, _ => none
 | k + 1, x3, x209000, x209001, x209002 => if x3 < (x209000.length : Int) then (if 0 ≤ x3 then ((riposteref04_IsBase.f ((rd_T24 x209000 x3).f0) ((rd_T24 x209000 x3).f1)).bind fun t210 => (if t210 = true then (riposteref04_IsType.l0 k (wrap64 (x3 + 1)) x209000 x209001 x209002) else (some false))) else (none)) else ((riposteref04_IsBase.f x209001 x209002).bind fun t211 => (if t211 = true then (if (x209000.length : Int) = 0 then (some true) else (some (!x209001))) else (some false)))
def riposteref04_IsType.f (k : Nat) (l0_0 : List (S24)) (a0_1 : Bool) (a0_2 : Int) : Option (Bool) := riposteref04_IsType.l0 k 0 l0_0 a0_1 a0_2
set_option maxHeartbeats 8000000 in
set_option maxRecDepth 100000 in
theorem riposteref04_IsType.calls (k : Nat) (A0_0 : Option Addr) (c0_0 : Nat) (l0_0 : List (S24)) (a0_1 : Bool) (a0_2 : Int) (r : Bool) (w : World) (hr0_0 : Kd.C k24 w A0_0 l0_0.length l0_0) (hc0_0 : l0_0.length ≤ c0_0) (h : riposteref04_IsType.f k l0_0 a0_1 a0_2 = some r) :
  Calls Tryz.prog 122 #[.agg #[.slice A0_0 l0_0.length c0_0, .bool a0_1, .int .i64 a0_2]] w fun e w' => e = .returned (.bool r) ∧ Below w.heap.size w w' := by
 have hu68 := Tryz.underlying68
 have hu24 := Tryz.underlying24
 have HR0_0 := am hr0_0
 have HC0_0 := am hc0_0
 clear hr0_0 hc0_0
 have HB := am (Below.refl w.heap.size w)
 have H : (riposteref04_IsType.l0 k 0 l0_0 a0_1 a0_2) = some r := h
 clear h
 have H' := am H
 clear H
 go_enter Tryz.func122, Tryz.ntmps122
 go_wp2_with (first | ((with_reducible refine gate_dst (N := 1) rfl ?_); (try (refine gate_guard (by rfl) ?_; dsimp only)); refine box_event ?hg (N := 1) ?hd (cs := #[.slice A0_0 l0_0.length c0_0, .bool a0_1, .int .i64 a0_2]) (t := 68) ?hr ?_; (case hd => rfl); (case hg => rfl); (case hr => go_simp); intro gb208 hg w2 hbox hb; have n0_ := am (below_step HB.out hb); have n1_ := am (hbox); have n2_ := am ((by rw [hg]; exact (below_size HB.out) : w.heap.size ≤ gb208)); have n3_ := am ((by rw [hg]; exact (below_size HB.out) : w.heap.size ≤ gb208)); clear HB; have HB := n0_; have BK208 := n1_; have GW208 := n2_; have GE208 := n3_; clear n0_ n1_ n2_ n3_; clear hb hbox hg))
 go_loopg [3] k (fun kq v3 w' => ∃ (x3_1 : Int), v3 = .int .i64 x3_1 ∧ Aside0 (riposteref04_IsType.l0 kq x3_1 l0_0 a0_1 a0_2 = some r) ∧ Aside0 (kq ≤ k) ∧ Aside0 (w'.heap[gb208]? = some (.cells #[(.slice A0_0 l0_0.length c0_0), .bool a0_1, .int .i64 a0_2] 68 (0, 0))) ∧ Aside0 (Below w.heap.size w w'))
 case atStart => exact ⟨(0), (by first | rfl), H', ⟨Nat.le_refl _⟩, ⟨by exact BK208.out⟩, ⟨by exact HB.out⟩⟩
 case round =>
  clear H'
  try clear c1
  try clear p2
  obtain ⟨x3_1, rfl, HA, HK1, BK208, HB⟩ := hrel
  cases gk with
  | zero => exact absurd HA.out (by simp [riposteref04_IsType.l0])
  | succ k1 =>
   have H := HA.out
   clear HA
   simp only [riposteref04_IsType.l0] at H
   by_cases c3 : x3_1 < (l0_0.length : Int)
   ·rw [if_pos c3] at H
    have c3b0 : decide (x3_1 < (l0_0.length : Int)) = true := decide_eq_true c3
    clear c3
    by_cases c4 : 0 ≤ x3_1
    ·rw [if_pos c4] at H
     have c4b0 : decide (0 ≤ x3_1) = true := decide_eq_true c4
     clear c4
     replace H := Option.bind_eq_some_iff.mp H
     obtain ⟨t210, A50, H⟩ := H
     replace H : (if t210 = true then (riposteref04_IsType.l0 k1 (wrap64 (x3_1 + 1)) l0_0 a0_1 a0_2) else (some false)) = some r := H
     have A5 := am A50
     clear A50
     by_cases c6 : t210 = true
     ·subst c6
      have H1 : (riposteref04_IsType.l0 k1 (wrap64 (x3_1 + 1)) l0_0 a0_1 a0_2) = some r := by rw [if_pos rfl] at H; exact H
      clear H
      have H := H1
      clear H1
      have H' := am H
      clear H
      have hcz7_0 : wr.cell? ⟨gb208, 0, none⟩ = some (.slice A0_0 l0_0.length c0_0) := (blk_cell BK208.out 0).trans rfl
      have hcz7_1 : wr.cell? ⟨gb208, 1, none⟩ = some (.bool a0_1) := (blk_cell BK208.out 1).trans rfl
      have hcz7_2 : wr.cell? ⟨gb208, 2, none⟩ = some (.int .i64 a0_2) := (blk_cell BK208.out 2).trans rfl
      have hfz7_0 := blk_frozen BK208.out 0
      have hfz7_1 := blk_frozen BK208.out 1
      have hfz7_2 := blk_frozen BK208.out 2
      have p209 : 0 ≤ (x3_1 : Int) := of_decide_eq_true (by first | (with_reducible assumption))
      have q209 : x3_1 < (l0_0.length : Int) := of_decide_eq_true (by first | (with_reducible assumption))
      obtain ⟨ad209, e209, hx209_0, hx209_1⟩ := at_T24 HR0_0.out x3_1 p209 q209
      cases e209
      replace hx209_0 := (HB.out.cell (World.block_lt_of_cell? w _ hx209_0)).trans hx209_0
      replace hx209_1 := (HB.out.cell (World.block_lt_of_cell? w _ hx209_1)).trans hx209_1
      replace p209 := eq_true p209
      replace q209 := eq_true q209
      go_wp2_with (first | ((with_reducible refine gate_callee (f := 123) rfl ?_); refine goesL_ (some 16) rfl rfl Tryz.func123 (by kernel_rfl) rfl #[.agg #[.bool ((rd_T24 l0_0 x3_1).f0), .int .i64 ((rd_T24 l0_0 x3_1).f1)]] rfl (by (try simp only [List.map_toArray, List.map_cons, List.map_nil]); first | rfl) ?_; (with_reducible refine (riposteref04_IsBase.calls ((rd_T24 l0_0 x3_1).f0) ((rd_T24 l0_0 x3_1).f1) true _ A5.out).mono ?_); rintro e w8 ⟨rfl, hb⟩; refine ⟨_, rfl, ?_⟩; have n0_ := am (blk_below (g := gb208) (o := .cells #[.slice (some ad209) l0_0.length c0_0, .bool a0_1, .int .i64 a0_2] 68 (0, 0)) BK208.out hb); have n1_ := am (below_step HB.out hb); clear BK208; clear HB; have BK208 := n0_; have HB := n1_; clear n0_ n1_; (try clear hb); (try clear hb2); (try clear hk); (try clear hi)))
      go_roundg k1
      case measure => have := HK1.out; omega
      case rel => exact ⟨(wrap64 (x3_1 + 1)), (by first | rfl), H', ⟨by have := HK1.out; omega⟩, ⟨by exact BK208.out⟩, ⟨by exact HB.out⟩⟩
     replace c6 := Bool.eq_false_iff.mpr c6
     subst c6
     have H1 : (some false) = some r := by rw [if_neg (show ¬ (false = true) by decide)] at H; exact H
     clear H
     have H := H1
     clear H1
     obtain rfl := Option.some.inj H
     have hcz9_0 : wr.cell? ⟨gb208, 0, none⟩ = some (.slice A0_0 l0_0.length c0_0) := (blk_cell BK208.out 0).trans rfl
     have hcz9_1 : wr.cell? ⟨gb208, 1, none⟩ = some (.bool a0_1) := (blk_cell BK208.out 1).trans rfl
     have hcz9_2 : wr.cell? ⟨gb208, 2, none⟩ = some (.int .i64 a0_2) := (blk_cell BK208.out 2).trans rfl
     have hfz9_0 := blk_frozen BK208.out 0
     have hfz9_1 := blk_frozen BK208.out 1
     have hfz9_2 := blk_frozen BK208.out 2
     have p209 : 0 ≤ (x3_1 : Int) := of_decide_eq_true (by first | (with_reducible assumption))
     have q209 : x3_1 < (l0_0.length : Int) := of_decide_eq_true (by first | (with_reducible assumption))
     obtain ⟨ad209, e209, hx209_0, hx209_1⟩ := at_T24 HR0_0.out x3_1 p209 q209
     cases e209
     replace hx209_0 := (HB.out.cell (World.block_lt_of_cell? w _ hx209_0)).trans hx209_0
     replace hx209_1 := (HB.out.cell (World.block_lt_of_cell? w _ hx209_1)).trans hx209_1
     replace p209 := eq_true p209
     replace q209 := eq_true q209
     go_wp2_with (first | ((with_reducible refine gate_callee (f := 123) rfl ?_); refine goesL_ (some 16) rfl rfl Tryz.func123 (by kernel_rfl) rfl #[.agg #[.bool ((rd_T24 l0_0 x3_1).f0), .int .i64 ((rd_T24 l0_0 x3_1).f1)]] rfl (by (try simp only [List.map_toArray, List.map_cons, List.map_nil]); first | rfl) ?_; (with_reducible refine (riposteref04_IsBase.calls ((rd_T24 l0_0 x3_1).f0) ((rd_T24 l0_0 x3_1).f1) false _ A5.out).mono ?_); rintro e w10 ⟨rfl, hb⟩; refine ⟨_, rfl, ?_⟩; have n0_ := am (blk_below (g := gb208) (o := .cells #[.slice (some ad209) l0_0.length c0_0, .bool a0_1, .int .i64 a0_2] 68 (0, 0)) BK208.out hb); have n1_ := am (below_step HB.out hb); clear BK208; clear HB; have BK208 := n0_; have HB := n1_; clear n0_ n1_; (try clear hb); (try clear hb2); (try clear hk); (try clear hi)))
     go_ret
     exact ⟨by first | rfl, by exact HB.out⟩
    rw [if_neg c4] at H
    exact absurd H (by simp)
   rw [if_neg c3] at H
   have c3b0 : decide (x3_1 < (l0_0.length : Int)) = false := decide_eq_false c3
   clear c3
   replace H := Option.bind_eq_some_iff.mp H
   obtain ⟨t211, A110, H⟩ := H
   replace H : (if t211 = true then (if (l0_0.length : Int) = 0 then (some true) else (some (!a0_1))) else (some false)) = some r := H
   have A11 := am A110
   clear A110
   by_cases c12 : t211 = true
   ·subst c12
    have H1 : (if (l0_0.length : Int) = 0 then (some true) else (some (!a0_1))) = some r := by rw [if_pos rfl] at H; exact H
    clear H
    have H := H1
    clear H1
    by_cases c13 : (l0_0.length : Int) = 0
    ·rw [if_pos c13] at H
     have c13b0 : ((l0_0.length : Int) == 0) = true := beq_iff_eq.mpr c13
     have c13b1 : ((l0_0.length : Int) != 0) = false := bne_eq_false_iff_eq.mpr c13
     clear c13
     obtain rfl := Option.some.inj H
     have hcz14_0 : wr.cell? ⟨gb208, 0, none⟩ = some (.slice A0_0 l0_0.length c0_0) := (blk_cell BK208.out 0).trans rfl
     have hcz14_1 : wr.cell? ⟨gb208, 1, none⟩ = some (.bool a0_1) := (blk_cell BK208.out 1).trans rfl
     have hcz14_2 : wr.cell? ⟨gb208, 2, none⟩ = some (.int .i64 a0_2) := (blk_cell BK208.out 2).trans rfl
     have hfz14_0 := blk_frozen BK208.out 0
     have hfz14_1 := blk_frozen BK208.out 1
     have hfz14_2 := blk_frozen BK208.out 2
     go_wp2_with (first | ((with_reducible refine gate_callee (f := 123) rfl ?_); refine goesL_ (some 20) rfl rfl Tryz.func123 (by kernel_rfl) rfl #[.agg #[.bool a0_1, .int .i64 a0_2]] rfl (by (try simp only [List.map_toArray, List.map_cons, List.map_nil]); first | rfl) ?_; (with_reducible refine (riposteref04_IsBase.calls a0_1 a0_2 true _ A11.out).mono ?_); rintro e w15 ⟨rfl, hb⟩; refine ⟨_, rfl, ?_⟩; have n0_ := am (blk_below (g := gb208) (o := .cells #[.slice A0_0 l0_0.length c0_0, .bool a0_1, .int .i64 a0_2] 68 (0, 0)) BK208.out hb); have n1_ := am (below_step HB.out hb); clear BK208; clear HB; have BK208 := n0_; have HB := n1_; clear n0_ n1_; (try clear hb); (try clear hb2); (try clear hk); (try clear hi); have hcz16_0 : w15.cell? ⟨gb208, 0, none⟩ = some (.slice A0_0 l0_0.length c0_0) := (blk_cell BK208.out 0).trans rfl; have hcz16_1 : w15.cell? ⟨gb208, 1, none⟩ = some (.bool a0_1) := (blk_cell BK208.out 1).trans rfl; have hcz16_2 : w15.cell? ⟨gb208, 2, none⟩ = some (.int .i64 a0_2) := (blk_cell BK208.out 2).trans rfl; have hfz16_0 := blk_frozen BK208.out 0; have hfz16_1 := blk_frozen BK208.out 1; have hfz16_2 := blk_frozen BK208.out 2))
     go_ret
     exact ⟨by first | rfl, by exact HB.out⟩
    rw [if_neg c13] at H
    have c13b0 : ((l0_0.length : Int) == 0) = false := beq_eq_false_iff_ne.mpr c13
    have c13b1 : ((l0_0.length : Int) != 0) = true := bne_iff_ne.mpr c13
    have c13b2 : ¬ (l0_0 = []) := fun h_ => c13 (by rw [h_]; rfl)
    obtain rfl := Option.some.inj H
    have hcz17_0 : wr.cell? ⟨gb208, 0, none⟩ = some (.slice A0_0 l0_0.length c0_0) := (blk_cell BK208.out 0).trans rfl
    have hcz17_1 : wr.cell? ⟨gb208, 1, none⟩ = some (.bool a0_1) := (blk_cell BK208.out 1).trans rfl
    have hcz17_2 : wr.cell? ⟨gb208, 2, none⟩ = some (.int .i64 a0_2) := (blk_cell BK208.out 2).trans rfl
    have hfz17_0 := blk_frozen BK208.out 0
    have hfz17_1 := blk_frozen BK208.out 1
    have hfz17_2 := blk_frozen BK208.out 2
    go_wp2_with (first | ((with_reducible refine gate_callee (f := 123) rfl ?_); refine goesL_ (some 20) rfl rfl Tryz.func123 (by kernel_rfl) rfl #[.agg #[.bool a0_1, .int .i64 a0_2]] rfl (by (try simp only [List.map_toArray, List.map_cons, List.map_nil]); first | rfl) ?_; (with_reducible refine (riposteref04_IsBase.calls a0_1 a0_2 true _ A11.out).mono ?_); rintro e w18 ⟨rfl, hb⟩; refine ⟨_, rfl, ?_⟩; have n0_ := am (blk_below (g := gb208) (o := .cells #[.slice A0_0 l0_0.length c0_0, .bool a0_1, .int .i64 a0_2] 68 (0, 0)) BK208.out hb); have n1_ := am (below_step HB.out hb); clear BK208; clear HB; have BK208 := n0_; have HB := n1_; clear n0_ n1_; (try clear hb); (try clear hb2); (try clear hk); (try clear hi); have hcz19_0 : w18.cell? ⟨gb208, 0, none⟩ = some (.slice A0_0 l0_0.length c0_0) := (blk_cell BK208.out 0).trans rfl; have hcz19_1 : w18.cell? ⟨gb208, 1, none⟩ = some (.bool a0_1) := (blk_cell BK208.out 1).trans rfl; have hcz19_2 : w18.cell? ⟨gb208, 2, none⟩ = some (.int .i64 a0_2) := (blk_cell BK208.out 2).trans rfl; have hfz19_0 := blk_frozen BK208.out 0; have hfz19_1 := blk_frozen BK208.out 1; have hfz19_2 := blk_frozen BK208.out 2))
    go_ret
    exact ⟨by first | rfl, by exact HB.out⟩
   replace c12 := Bool.eq_false_iff.mpr c12
   subst c12
   have H1 : (some false) = some r := by rw [if_neg (show ¬ (false = true) by decide)] at H; exact H
   clear H
   have H := H1
   clear H1
   obtain rfl := Option.some.inj H
   have hcz20_0 : wr.cell? ⟨gb208, 0, none⟩ = some (.slice A0_0 l0_0.length c0_0) := (blk_cell BK208.out 0).trans rfl
   have hcz20_1 : wr.cell? ⟨gb208, 1, none⟩ = some (.bool a0_1) := (blk_cell BK208.out 1).trans rfl
   have hcz20_2 : wr.cell? ⟨gb208, 2, none⟩ = some (.int .i64 a0_2) := (blk_cell BK208.out 2).trans rfl
   have hfz20_0 := blk_frozen BK208.out 0
   have hfz20_1 := blk_frozen BK208.out 1
   have hfz20_2 := blk_frozen BK208.out 2
   go_wp2_with (first | ((with_reducible refine gate_callee (f := 123) rfl ?_); refine goesL_ (some 20) rfl rfl Tryz.func123 (by kernel_rfl) rfl #[.agg #[.bool a0_1, .int .i64 a0_2]] rfl (by (try simp only [List.map_toArray, List.map_cons, List.map_nil]); first | rfl) ?_; (with_reducible refine (riposteref04_IsBase.calls a0_1 a0_2 false _ A11.out).mono ?_); rintro e w21 ⟨rfl, hb⟩; refine ⟨_, rfl, ?_⟩; have n0_ := am (blk_below (g := gb208) (o := .cells #[.slice A0_0 l0_0.length c0_0, .bool a0_1, .int .i64 a0_2] 68 (0, 0)) BK208.out hb); have n1_ := am (below_step HB.out hb); clear BK208; clear HB; have BK208 := n0_; have HB := n1_; clear n0_ n1_; (try clear hb); (try clear hb2); (try clear hk); (try clear hi)))
   go_ret
   exact ⟨by first | rfl, by exact HB.out⟩
mutual
def riposteref04_Check.l0 : Nat → Int → List (S68) → Bool → Int → Bool → Option (Int)
 | 0, _, _, _, _, _ => none
 | k + 1, x3, x213000, x213001, x213002, x213003 => if x3 < (x213000.length : Int) then (if 0 ≤ x3 then (if (((rd_T68 x213000 x3).f0).length : Int) > 5 then (some 5) else (riposteref04_Check.l0 k (wrap64 (x3 + 1)) x213000 x213001 x213002 x213003)) else (none)) else (riposteref04_Check.l1 k 0 x213000 x213001 x213002 x213003)
def riposteref04_Check.l1 : Nat → Int → List (S68) → Bool → Int → Bool → Option (Int)
 | 0, _, _, _, _, _ => none
 | k + 1, x4, x213000, x213001, x213002, x213003 => if x4 < (x213000.length : Int) then (if 0 ≤ x4 then ((riposteref04_IsType.f k ((rd_T68 x213000 x4).f0) ((rd_T68 x213000 x4).f1.f0) ((rd_T68 x213000 x4).f1.f1)).bind fun t215 => (if t215 = true then (riposteref04_Check.l1 k (wrap64 (x4 + 1)) x213000 x213001 x213002 x213003) else (some 4))) else (none)) else ((riposteref04_IsBase.f x213001 x213002).bind fun t216 => (if t216 = true then (some 0) else (some 4)))
end
def riposteref04_Check.f (k : Nat) (l0_0 : List (S68)) (a0_1 : Bool) (a0_2 : Int) (a0_3 : Bool) : Option (Int) := if (l0_0.length : Int) > 8 then (some 5) else (riposteref04_Check.l0 k 0 l0_0 a0_1 a0_2 a0_3)
set_option maxHeartbeats 8000000 in
set_option maxRecDepth 100000 in
theorem riposteref04_Check.calls (k : Nat) (A0_0 : Option Addr) (c0_0 : Nat) (l0_0 : List (S68)) (a0_1 : Bool) (a0_2 : Int) (a0_3 : Bool) (r : Int) (w : World) (hr0_0 : Kd.C k68 w A0_0 l0_0.length l0_0) (hc0_0 : l0_0.length ≤ c0_0) (h : riposteref04_Check.f k l0_0 a0_1 a0_2 a0_3 = some r) :
  Calls Tryz.prog 96 #[.agg #[.slice A0_0 l0_0.length c0_0, .bool a0_1, .int .i64 a0_2, .bool a0_3]] w fun e w' => e = .returned (.int .i64 r) ∧ Below w.heap.size w w' := by
 have hu26 := Tryz.underlying26
 have hu68 := Tryz.underlying68
 have hu24 := Tryz.underlying24
 have HR0_0 := am hr0_0
 have HC0_0 := am hc0_0
 clear hr0_0 hc0_0
 have HB := am (Below.refl w.heap.size w)
 have H : (if (l0_0.length : Int) > 8 then (some 5) else (riposteref04_Check.l0 k 0 l0_0 a0_1 a0_2 a0_3)) = some r := h
 clear h
 by_cases c2 : (l0_0.length : Int) > 8
 ·rw [if_pos c2] at H
  have c2b0 : decide (8 < (l0_0.length : Int)) = true := decide_eq_true c2
  have c2b1 : decide (8 < l0_0.length) = true := decide_eq_true (by omega)
  clear c2
  obtain rfl := Option.some.inj H
  go_enter Tryz.func96, Tryz.ntmps96
  go_wp2_with (first | ((with_reducible refine gate_dst (N := 1) rfl ?_); refine box_event ?hg (N := 1) ?hd (cs := #[.slice A0_0 l0_0.length c0_0, .bool a0_1, .int .i64 a0_2, .bool a0_3]) (t := 26) ?hr ?_; (case hd => rfl); (case hg => rfl); (case hr => go_simp); intro gb212 hg w3 hbox hb; have n0_ := am (below_step HB.out hb); have n1_ := am (hbox); have n2_ := am ((by rw [hg]; exact (below_size HB.out) : w.heap.size ≤ gb212)); have n3_ := am ((by rw [hg]; exact (below_size HB.out) : w.heap.size ≤ gb212)); clear HB; have HB := n0_; have BK212 := n1_; have GW212 := n2_; have GE212 := n3_; clear n0_ n1_ n2_ n3_; clear hb hbox hg; have hcz4_0 : w3.cell? ⟨gb212, 0, none⟩ = some (.slice A0_0 l0_0.length c0_0) := (blk_cell BK212.out 0).trans rfl; have hcz4_1 : w3.cell? ⟨gb212, 1, none⟩ = some (.bool a0_1) := (blk_cell BK212.out 1).trans rfl; have hcz4_2 : w3.cell? ⟨gb212, 2, none⟩ = some (.int .i64 a0_2) := (blk_cell BK212.out 2).trans rfl; have hcz4_3 : w3.cell? ⟨gb212, 3, none⟩ = some (.bool a0_3) := (blk_cell BK212.out 3).trans rfl; have hfz4_0 := blk_frozen BK212.out 0; have hfz4_1 := blk_frozen BK212.out 1; have hfz4_2 := blk_frozen BK212.out 2; have hfz4_3 := blk_frozen BK212.out 3))
  go_ret
  exact ⟨by first | rfl, by exact HB.out⟩
 rw [if_neg c2] at H
 have c2b0 : decide (8 < (l0_0.length : Int)) = false := decide_eq_false c2
 have c2b1 : decide (8 < l0_0.length) = false := decide_eq_false (by omega)
 clear c2
 have H' := am H
 clear H
 go_enter Tryz.func96, Tryz.ntmps96
 go_wp2_with (first | ((with_reducible refine gate_dst (N := 1) rfl ?_); refine box_event ?hg (N := 1) ?hd (cs := #[.slice A0_0 l0_0.length c0_0, .bool a0_1, .int .i64 a0_2, .bool a0_3]) (t := 26) ?hr ?_; (case hd => rfl); (case hg => rfl); (case hr => go_simp); intro gb212 hg w5 hbox hb; have n0_ := am (below_step HB.out hb); have n1_ := am (hbox); have n2_ := am ((by rw [hg]; exact (below_size HB.out) : w.heap.size ≤ gb212)); have n3_ := am ((by rw [hg]; exact (below_size HB.out) : w.heap.size ≤ gb212)); clear HB; have HB := n0_; have BK212 := n1_; have GW212 := n2_; have GE212 := n3_; clear n0_ n1_ n2_ n3_; clear hb hbox hg; have hcz6_0 : w5.cell? ⟨gb212, 0, none⟩ = some (.slice A0_0 l0_0.length c0_0) := (blk_cell BK212.out 0).trans rfl; have hcz6_1 : w5.cell? ⟨gb212, 1, none⟩ = some (.bool a0_1) := (blk_cell BK212.out 1).trans rfl; have hcz6_2 : w5.cell? ⟨gb212, 2, none⟩ = some (.int .i64 a0_2) := (blk_cell BK212.out 2).trans rfl; have hcz6_3 : w5.cell? ⟨gb212, 3, none⟩ = some (.bool a0_3) := (blk_cell BK212.out 3).trans rfl; have hfz6_0 := blk_frozen BK212.out 0; have hfz6_1 := blk_frozen BK212.out 1; have hfz6_2 := blk_frozen BK212.out 2; have hfz6_3 := blk_frozen BK212.out 3))
 go_loopg [3] k (fun kq v3 w' => ∃ (x3_1 : Int), v3 = .int .i64 x3_1 ∧ Aside0 (riposteref04_Check.l0 kq x3_1 l0_0 a0_1 a0_2 a0_3 = some r) ∧ Aside0 (kq ≤ k) ∧ Aside0 (w'.heap[gb212]? = some (.cells #[(.slice A0_0 l0_0.length c0_0), .bool a0_1, .int .i64 a0_2, .bool a0_3] 26 (0, 0))) ∧ Aside0 (Below w.heap.size w w'))
 case atStart => exact ⟨(0), (by first | rfl), H', ⟨Nat.le_refl _⟩, ⟨by exact BK212.out⟩, ⟨by exact HB.out⟩⟩
 case round =>
  clear H'
  try clear c2
  try clear c2b0
  try clear c2b1
  try clear p2
  try clear hcz4_0
  try clear hcz4_1
  try clear hcz4_2
  try clear hcz4_3
  try clear hcz6_0
  try clear hcz6_1
  try clear hcz6_2
  try clear hcz6_3
  try clear hfz4_0
  try clear hfz4_1
  try clear hfz4_2
  try clear hfz4_3
  try clear hfz6_0
  try clear hfz6_1
  try clear hfz6_2
  try clear hfz6_3
  obtain ⟨x3_1, rfl, HA, HK1, BK212, HB⟩ := hrel
  cases gk with
  | zero => exact absurd HA.out (by simp [riposteref04_Check.l0])
  | succ k1 =>
   have H := HA.out
   clear HA
   simp only [riposteref04_Check.l0] at H
   by_cases c7 : x3_1 < (l0_0.length : Int)
   ·rw [if_pos c7] at H
    have c7b0 : decide (x3_1 < (l0_0.length : Int)) = true := decide_eq_true c7
    clear c7
    by_cases c8 : 0 ≤ x3_1
    ·rw [if_pos c8] at H
     have c8b0 : decide (0 ≤ x3_1) = true := decide_eq_true c8
     clear c8
     by_cases c9 : (((rd_T68 l0_0 x3_1).f0).length : Int) > 5
     ·rw [if_pos c9] at H
      have c9b0 : decide (5 < (((rd_T68 l0_0 x3_1).f0).length : Int)) = true := decide_eq_true c9
      have c9b1 : decide (5 < ((rd_T68 l0_0 x3_1).f0).length) = true := decide_eq_true (by omega)
      clear c9
      obtain rfl := Option.some.inj H
      have hcz10_0 : wr.cell? ⟨gb212, 0, none⟩ = some (.slice A0_0 l0_0.length c0_0) := (blk_cell BK212.out 0).trans rfl
      have hcz10_1 : wr.cell? ⟨gb212, 1, none⟩ = some (.bool a0_1) := (blk_cell BK212.out 1).trans rfl
      have hcz10_2 : wr.cell? ⟨gb212, 2, none⟩ = some (.int .i64 a0_2) := (blk_cell BK212.out 2).trans rfl
      have hcz10_3 : wr.cell? ⟨gb212, 3, none⟩ = some (.bool a0_3) := (blk_cell BK212.out 3).trans rfl
      have hfz10_0 := blk_frozen BK212.out 0
      have hfz10_1 := blk_frozen BK212.out 1
      have hfz10_2 := blk_frozen BK212.out 2
      have hfz10_3 := blk_frozen BK212.out 3
      have p213 : 0 ≤ (x3_1 : Int) := of_decide_eq_true (by first | (with_reducible assumption))
      have q213 : x3_1 < (l0_0.length : Int) := of_decide_eq_true (by first | (with_reducible assumption))
      obtain ⟨ad213, A213_0, c213_0, e213, hx213_0, hx213_1, hx213_2, hl213_0, hi213_0⟩ := at_T68 HR0_0.out x3_1 p213 q213
      cases e213
      replace hx213_0 := (HB.out.cell (World.block_lt_of_cell? w _ hx213_0)).trans hx213_0
      replace hx213_1 := (HB.out.cell (World.block_lt_of_cell? w _ hx213_1)).trans hx213_1
      replace hx213_2 := (HB.out.cell (World.block_lt_of_cell? w _ hx213_2)).trans hx213_2
      have HR213_0 := am hi213_0
      have HC213_0 := am hl213_0
      clear hi213_0 hl213_0
      replace p213 := eq_true p213
      replace q213 := eq_true q213
      go_wp2
      go_ret
      exact ⟨by first | rfl, by exact HB.out⟩
     rw [if_neg c9] at H
     have c9b0 : decide (5 < (((rd_T68 l0_0 x3_1).f0).length : Int)) = false := decide_eq_false c9
     have c9b1 : decide (5 < ((rd_T68 l0_0 x3_1).f0).length) = false := decide_eq_false (by omega)
     clear c9
     have H' := am H
     clear H
     have hcz11_0 : wr.cell? ⟨gb212, 0, none⟩ = some (.slice A0_0 l0_0.length c0_0) := (blk_cell BK212.out 0).trans rfl
     have hcz11_1 : wr.cell? ⟨gb212, 1, none⟩ = some (.bool a0_1) := (blk_cell BK212.out 1).trans rfl
     have hcz11_2 : wr.cell? ⟨gb212, 2, none⟩ = some (.int .i64 a0_2) := (blk_cell BK212.out 2).trans rfl
     have hcz11_3 : wr.cell? ⟨gb212, 3, none⟩ = some (.bool a0_3) := (blk_cell BK212.out 3).trans rfl
     have hfz11_0 := blk_frozen BK212.out 0
     have hfz11_1 := blk_frozen BK212.out 1
     have hfz11_2 := blk_frozen BK212.out 2
     have hfz11_3 := blk_frozen BK212.out 3
     have p213 : 0 ≤ (x3_1 : Int) := of_decide_eq_true (by first | (with_reducible assumption))
     have q213 : x3_1 < (l0_0.length : Int) := of_decide_eq_true (by first | (with_reducible assumption))
     obtain ⟨ad213, A213_0, c213_0, e213, hx213_0, hx213_1, hx213_2, hl213_0, hi213_0⟩ := at_T68 HR0_0.out x3_1 p213 q213
     cases e213
     replace hx213_0 := (HB.out.cell (World.block_lt_of_cell? w _ hx213_0)).trans hx213_0
     replace hx213_1 := (HB.out.cell (World.block_lt_of_cell? w _ hx213_1)).trans hx213_1
     replace hx213_2 := (HB.out.cell (World.block_lt_of_cell? w _ hx213_2)).trans hx213_2
     have HR213_0 := am hi213_0
     have HC213_0 := am hl213_0
     clear hi213_0 hl213_0
     replace p213 := eq_true p213
     replace q213 := eq_true q213
     go_wp2
     go_roundg k1
     case measure => have := HK1.out; omega
     case rel => exact ⟨(wrap64 (x3_1 + 1)), (by first | rfl), H', ⟨by have := HK1.out; omega⟩, ⟨by exact BK212.out⟩, ⟨by exact HB.out⟩⟩
    rw [if_neg c8] at H
    exact absurd H (by simp)
   rw [if_neg c7] at H
   have c7b0 : decide (x3_1 < (l0_0.length : Int)) = false := decide_eq_false c7
   clear c7
   have H' := am H
   clear H
   have hcz12_0 : wr.cell? ⟨gb212, 0, none⟩ = some (.slice A0_0 l0_0.length c0_0) := (blk_cell BK212.out 0).trans rfl
   have hcz12_1 : wr.cell? ⟨gb212, 1, none⟩ = some (.bool a0_1) := (blk_cell BK212.out 1).trans rfl
   have hcz12_2 : wr.cell? ⟨gb212, 2, none⟩ = some (.int .i64 a0_2) := (blk_cell BK212.out 2).trans rfl
   have hcz12_3 : wr.cell? ⟨gb212, 3, none⟩ = some (.bool a0_3) := (blk_cell BK212.out 3).trans rfl
   have hfz12_0 := blk_frozen BK212.out 0
   have hfz12_1 := blk_frozen BK212.out 1
   have hfz12_2 := blk_frozen BK212.out 2
   have hfz12_3 := blk_frozen BK212.out 3
   go_wp2
   go_loopg [4] k1 (fun kq v4 w' => ∃ (x4_2 : Int), v4 = .int .i64 x4_2 ∧ Aside0 (riposteref04_Check.l1 kq x4_2 l0_0 a0_1 a0_2 a0_3 = some r) ∧ Aside0 (kq ≤ k1) ∧ Aside0 (w'.heap[gb212]? = some (.cells #[(.slice A0_0 l0_0.length c0_0), .bool a0_1, .int .i64 a0_2, .bool a0_3] 26 (0, 0))) ∧ Aside0 (Below w.heap.size w w'))
   case atStart => exact ⟨(0), (by first | rfl), H', ⟨Nat.le_refl _⟩, ⟨by exact BK212.out⟩, ⟨by exact HB.out⟩⟩
   case round =>
    clear H'
    try clear c2
    try clear c2b0
    try clear c2b1
    try clear p2
    try clear q2
    try clear hx2
    try clear p6
    try clear c7
    try clear c7b0
    try clear c8
    try clear c8b0
    try clear c9
    try clear c9b0
    try clear c9b1
    try clear hcz10_0
    try clear hcz10_1
    try clear hcz10_2
    try clear hcz10_3
    try clear hcz11_0
    try clear hcz11_1
    try clear hcz11_2
    try clear hcz11_3
    try clear hcz12_0
    try clear hcz12_1
    try clear hcz12_2
    try clear hcz12_3
    try clear hcz4_0
    try clear hcz4_1
    try clear hcz4_2
    try clear hcz4_3
    try clear hcz6_0
    try clear hcz6_1
    try clear hcz6_2
    try clear hcz6_3
    try clear hfz10_0
    try clear hfz10_1
    try clear hfz10_2
    try clear hfz10_3
    try clear hfz11_0
    try clear hfz11_1
    try clear hfz11_2
    try clear hfz11_3
    try clear hfz12_0
    try clear hfz12_1
    try clear hfz12_2
    try clear hfz12_3
    try clear hfz4_0
    try clear hfz4_1
    try clear hfz4_2
    try clear hfz4_3
    try clear hfz6_0
    try clear hfz6_1
    try clear hfz6_2
    try clear hfz6_3
    try clear hx213_0
    try clear hx213_1
    try clear hx213_2
    try clear p2
    try clear p213
    try clear q213
    obtain ⟨x4_2, rfl, HA, HK2, BK212, HB⟩ := hrel
    cases gk with
    | zero => exact absurd HA.out (by simp [riposteref04_Check.l1])
    | succ k2 =>
     have H := HA.out
     clear HA
     simp only [riposteref04_Check.l1] at H
     by_cases c13 : x4_2 < (l0_0.length : Int)
     ·rw [if_pos c13] at H
      have c13b0 : decide (x4_2 < (l0_0.length : Int)) = true := decide_eq_true c13
      clear c13
      by_cases c14 : 0 ≤ x4_2
      ·rw [if_pos c14] at H
       have c14b0 : decide (0 ≤ x4_2) = true := decide_eq_true c14
       clear c14
       replace H := Option.bind_eq_some_iff.mp H
       obtain ⟨t215, A150, H⟩ := H
       replace H : (if t215 = true then (riposteref04_Check.l1 k2 (wrap64 (x4_2 + 1)) l0_0 a0_1 a0_2 a0_3) else (some 4)) = some r := H
       have A15 := am A150
       clear A150
       by_cases c16 : t215 = true
       ·subst c16
        have H1 : (riposteref04_Check.l1 k2 (wrap64 (x4_2 + 1)) l0_0 a0_1 a0_2 a0_3) = some r := by rw [if_pos rfl] at H; exact H
        clear H
        have H := H1
        clear H1
        have H' := am H
        clear H
        have hcz17_0 : wr.cell? ⟨gb212, 0, none⟩ = some (.slice A0_0 l0_0.length c0_0) := (blk_cell BK212.out 0).trans rfl
        have hcz17_1 : wr.cell? ⟨gb212, 1, none⟩ = some (.bool a0_1) := (blk_cell BK212.out 1).trans rfl
        have hcz17_2 : wr.cell? ⟨gb212, 2, none⟩ = some (.int .i64 a0_2) := (blk_cell BK212.out 2).trans rfl
        have hcz17_3 : wr.cell? ⟨gb212, 3, none⟩ = some (.bool a0_3) := (blk_cell BK212.out 3).trans rfl
        have hfz17_0 := blk_frozen BK212.out 0
        have hfz17_1 := blk_frozen BK212.out 1
        have hfz17_2 := blk_frozen BK212.out 2
        have hfz17_3 := blk_frozen BK212.out 3
        have p214 : 0 ≤ (x4_2 : Int) := of_decide_eq_true (by first | (with_reducible assumption))
        have q214 : x4_2 < (l0_0.length : Int) := of_decide_eq_true (by first | (with_reducible assumption))
        obtain ⟨ad214, A214_0, c214_0, e214, hx214_0, hx214_1, hx214_2, hl214_0, hi214_0⟩ := at_T68 HR0_0.out x4_2 p214 q214
        cases e214
        replace hx214_0 := (HB.out.cell (World.block_lt_of_cell? w _ hx214_0)).trans hx214_0
        replace hx214_1 := (HB.out.cell (World.block_lt_of_cell? w _ hx214_1)).trans hx214_1
        replace hx214_2 := (HB.out.cell (World.block_lt_of_cell? w _ hx214_2)).trans hx214_2
        have HR214_0 := am hi214_0
        have HC214_0 := am hl214_0
        clear hi214_0 hl214_0
        replace p214 := eq_true p214
        replace q214 := eq_true q214
        go_wp2_with (first | ((with_reducible refine gate_callee (f := 122) rfl ?_); refine goesL_ (some 36) rfl rfl Tryz.func122 (by kernel_rfl) rfl #[.agg #[.slice A214_0 ((rd_T68 l0_0 x4_2).f0).length c214_0, .bool ((rd_T68 l0_0 x4_2).f1.f0), .int .i64 ((rd_T68 l0_0 x4_2).f1.f1)]] rfl (by (try simp only [List.map_toArray, List.map_cons, List.map_nil]); first | rfl) ?_; (with_reducible refine (riposteref04_IsType.calls k2 _ _ ((rd_T68 l0_0 x4_2).f0) ((rd_T68 l0_0 x4_2).f1.f0) ((rd_T68 l0_0 x4_2).f1.f1) true _ ?side1 ?side2 A15.out).mono ?_); (case side1 => repeat (first | exact (Kd.C_below HR214_0.out HB.out))); (case side2 => exact HC214_0.out); rintro e w18 ⟨rfl, hb⟩; refine ⟨_, rfl, ?_⟩; have n0_ := am (blk_below (g := gb212) (o := .cells #[.slice (some ad214) l0_0.length c0_0, .bool a0_1, .int .i64 a0_2, .bool a0_3] 26 (0, 0)) BK212.out hb); have n1_ := am (below_step HB.out hb); clear BK212; clear HB; have BK212 := n0_; have HB := n1_; clear n0_ n1_; (try clear hb); (try clear hb2); (try clear hk); (try clear hi)))
        go_roundg k2
        case measure => have := HK1.out; have := HK2.out; omega
        case rel => exact ⟨(wrap64 (x4_2 + 1)), (by first | rfl), H', ⟨by have := HK1.out; have := HK2.out; omega⟩, ⟨by exact BK212.out⟩, ⟨by exact HB.out⟩⟩
       replace c16 := Bool.eq_false_iff.mpr c16
       subst c16
       have H1 : (some 4) = some r := by rw [if_neg (show ¬ (false = true) by decide)] at H; exact H
       clear H
       have H := H1
       clear H1
       obtain rfl := Option.some.inj H
       have hcz19_0 : wr.cell? ⟨gb212, 0, none⟩ = some (.slice A0_0 l0_0.length c0_0) := (blk_cell BK212.out 0).trans rfl
       have hcz19_1 : wr.cell? ⟨gb212, 1, none⟩ = some (.bool a0_1) := (blk_cell BK212.out 1).trans rfl
       have hcz19_2 : wr.cell? ⟨gb212, 2, none⟩ = some (.int .i64 a0_2) := (blk_cell BK212.out 2).trans rfl
       have hcz19_3 : wr.cell? ⟨gb212, 3, none⟩ = some (.bool a0_3) := (blk_cell BK212.out 3).trans rfl
       have hfz19_0 := blk_frozen BK212.out 0
       have hfz19_1 := blk_frozen BK212.out 1
       have hfz19_2 := blk_frozen BK212.out 2
       have hfz19_3 := blk_frozen BK212.out 3
       have p214 : 0 ≤ (x4_2 : Int) := of_decide_eq_true (by first | (with_reducible assumption))
       have q214 : x4_2 < (l0_0.length : Int) := of_decide_eq_true (by first | (with_reducible assumption))
       obtain ⟨ad214, A214_0, c214_0, e214, hx214_0, hx214_1, hx214_2, hl214_0, hi214_0⟩ := at_T68 HR0_0.out x4_2 p214 q214
       cases e214
       replace hx214_0 := (HB.out.cell (World.block_lt_of_cell? w _ hx214_0)).trans hx214_0
       replace hx214_1 := (HB.out.cell (World.block_lt_of_cell? w _ hx214_1)).trans hx214_1
       replace hx214_2 := (HB.out.cell (World.block_lt_of_cell? w _ hx214_2)).trans hx214_2
       have HR214_0 := am hi214_0
       have HC214_0 := am hl214_0
       clear hi214_0 hl214_0
       replace p214 := eq_true p214
       replace q214 := eq_true q214
       go_wp2_with (first | ((with_reducible refine gate_callee (f := 122) rfl ?_); refine goesL_ (some 36) rfl rfl Tryz.func122 (by kernel_rfl) rfl #[.agg #[.slice A214_0 ((rd_T68 l0_0 x4_2).f0).length c214_0, .bool ((rd_T68 l0_0 x4_2).f1.f0), .int .i64 ((rd_T68 l0_0 x4_2).f1.f1)]] rfl (by (try simp only [List.map_toArray, List.map_cons, List.map_nil]); first | rfl) ?_; (with_reducible refine (riposteref04_IsType.calls k2 _ _ ((rd_T68 l0_0 x4_2).f0) ((rd_T68 l0_0 x4_2).f1.f0) ((rd_T68 l0_0 x4_2).f1.f1) false _ ?side1 ?side2 A15.out).mono ?_); (case side1 => repeat (first | exact (Kd.C_below HR214_0.out HB.out))); (case side2 => exact HC214_0.out); rintro e w20 ⟨rfl, hb⟩; refine ⟨_, rfl, ?_⟩; have n0_ := am (blk_below (g := gb212) (o := .cells #[.slice (some ad214) l0_0.length c0_0, .bool a0_1, .int .i64 a0_2, .bool a0_3] 26 (0, 0)) BK212.out hb); have n1_ := am (below_step HB.out hb); clear BK212; clear HB; have BK212 := n0_; have HB := n1_; clear n0_ n1_; (try clear hb); (try clear hb2); (try clear hk); (try clear hi)))
       go_ret
       exact ⟨by first | rfl, by exact HB.out⟩
      rw [if_neg c14] at H
      exact absurd H (by simp)
     rw [if_neg c13] at H
     have c13b0 : decide (x4_2 < (l0_0.length : Int)) = false := decide_eq_false c13
     clear c13
     replace H := Option.bind_eq_some_iff.mp H
     obtain ⟨t216, A210, H⟩ := H
     replace H : (if t216 = true then (some 0) else (some 4)) = some r := H
     have A21 := am A210
     clear A210
     by_cases c22 : t216 = true
     ·subst c22
      have H1 : (some 0) = some r := by rw [if_pos rfl] at H; exact H
      clear H
      have H := H1
      clear H1
      obtain rfl := Option.some.inj H
      have hcz23_0 : wr.cell? ⟨gb212, 0, none⟩ = some (.slice A0_0 l0_0.length c0_0) := (blk_cell BK212.out 0).trans rfl
      have hcz23_1 : wr.cell? ⟨gb212, 1, none⟩ = some (.bool a0_1) := (blk_cell BK212.out 1).trans rfl
      have hcz23_2 : wr.cell? ⟨gb212, 2, none⟩ = some (.int .i64 a0_2) := (blk_cell BK212.out 2).trans rfl
      have hcz23_3 : wr.cell? ⟨gb212, 3, none⟩ = some (.bool a0_3) := (blk_cell BK212.out 3).trans rfl
      have hfz23_0 := blk_frozen BK212.out 0
      have hfz23_1 := blk_frozen BK212.out 1
      have hfz23_2 := blk_frozen BK212.out 2
      have hfz23_3 := blk_frozen BK212.out 3
      go_wp2_with (first | ((with_reducible refine gate_callee (f := 123) rfl ?_); refine goesL_ (some 40) rfl rfl Tryz.func123 (by kernel_rfl) rfl #[.agg #[.bool a0_1, .int .i64 a0_2]] rfl (by (try simp only [List.map_toArray, List.map_cons, List.map_nil]); first | rfl) ?_; (with_reducible refine (riposteref04_IsBase.calls a0_1 a0_2 true _ A21.out).mono ?_); rintro e w24 ⟨rfl, hb⟩; refine ⟨_, rfl, ?_⟩; have n0_ := am (blk_below (g := gb212) (o := .cells #[.slice A0_0 l0_0.length c0_0, .bool a0_1, .int .i64 a0_2, .bool a0_3] 26 (0, 0)) BK212.out hb); have n1_ := am (below_step HB.out hb); clear BK212; clear HB; have BK212 := n0_; have HB := n1_; clear n0_ n1_; (try clear hb); (try clear hb2); (try clear hk); (try clear hi)))
      go_ret
      exact ⟨by first | rfl, by exact HB.out⟩
     replace c22 := Bool.eq_false_iff.mpr c22
     subst c22
     have H1 : (some 4) = some r := by rw [if_neg (show ¬ (false = true) by decide)] at H; exact H
     clear H
     have H := H1
     clear H1
     obtain rfl := Option.some.inj H
     have hcz25_0 : wr.cell? ⟨gb212, 0, none⟩ = some (.slice A0_0 l0_0.length c0_0) := (blk_cell BK212.out 0).trans rfl
     have hcz25_1 : wr.cell? ⟨gb212, 1, none⟩ = some (.bool a0_1) := (blk_cell BK212.out 1).trans rfl
     have hcz25_2 : wr.cell? ⟨gb212, 2, none⟩ = some (.int .i64 a0_2) := (blk_cell BK212.out 2).trans rfl
     have hcz25_3 : wr.cell? ⟨gb212, 3, none⟩ = some (.bool a0_3) := (blk_cell BK212.out 3).trans rfl
     have hfz25_0 := blk_frozen BK212.out 0
     have hfz25_1 := blk_frozen BK212.out 1
     have hfz25_2 := blk_frozen BK212.out 2
     have hfz25_3 := blk_frozen BK212.out 3
     go_wp2_with (first | ((with_reducible refine gate_callee (f := 123) rfl ?_); refine goesL_ (some 40) rfl rfl Tryz.func123 (by kernel_rfl) rfl #[.agg #[.bool a0_1, .int .i64 a0_2]] rfl (by (try simp only [List.map_toArray, List.map_cons, List.map_nil]); first | rfl) ?_; (with_reducible refine (riposteref04_IsBase.calls a0_1 a0_2 false _ A21.out).mono ?_); rintro e w26 ⟨rfl, hb⟩; refine ⟨_, rfl, ?_⟩; have n0_ := am (blk_below (g := gb212) (o := .cells #[.slice A0_0 l0_0.length c0_0, .bool a0_1, .int .i64 a0_2, .bool a0_3] 26 (0, 0)) BK212.out hb); have n1_ := am (below_step HB.out hb); clear BK212; clear HB; have BK212 := n0_; have HB := n1_; clear n0_ n1_; (try clear hb); (try clear hb2); (try clear hk); (try clear hi)))
     go_ret
     exact ⟨by first | rfl, by exact HB.out⟩
end Go.Proofs.YtjgocihflhljeaaGreat.P
namespace Go.Proofs.YtjgocihflhljeaaGreat.P
open Go.RowKit Go.Shelf Go.Proofs.YtjgocihflhljeaaGreatW.PrintWords Go.Proofs.YtjgocihflhljeaaGreatW.PrintLast Go.Proofs.YtjgocihflhljeaaGreatW.PrintMore
attribute [local go_sem] Oper.semAt_some
def inB (n lo hi : Int) : Bool := decide (lo ≤ n) && decide (n ≤ hi)
theorem rIn_any (n lo hi : Int) (w : World) : Calls Tryz.prog 127 #[.int .i64 n, .int .i64 lo, .int .i64 hi] w fun e w' => e = .returned (.bool (inB n lo hi)) ∧ Below w.heap.size w w' := by
 rcases hb : decide (lo ≤ n) with _ | _
 all_goals
  have H := am hb
  go_enter Tryz.func127, Tryz.ntmps127
  go_wp2
  go_ret
  exact ⟨by rw [inB, H.out]; rfl, Below.refl _ _⟩
def placeW (ids : List S68) (rc : Bool) (rn : Int) (id arg : Int) : Option (Bool × Int × Bool) :=
 if id = 0 ∧ arg = 0 then some (rc, rn, true) else if inB id 1 ids.length = false then some (false, 0, false) else
  if 0 ≤ wrap64 (id - 1) ∧ wrap64 (id - 1) < ids.length then
   if arg = 0 then some ((rd_T68 ids (wrap64 (id - 1))).f1.f0, (rd_T68 ids (wrap64 (id - 1))).f1.f1, true) else if inB arg 1 (rd_T68 ids (wrap64 (id - 1))).f0.length = false then some (false, 0, false) else
    if 0 ≤ wrap64 (arg - 1) ∧ wrap64 (arg - 1) < (rd_T68 ids (wrap64 (id - 1))).f0.length then
     some ((rd_T24 (rd_T68 ids (wrap64 (id - 1))).f0 (wrap64 (arg - 1))).f0, (rd_T24 (rd_T68 ids (wrap64 (id - 1))).f0 (wrap64 (arg - 1))).f1, true)
    else none
  else none
set_option maxRecDepth 8000 in
set_option maxHeartbeats 2000000 in
theorem rPlace_a (A : Option Addr) (c : Nat) (ids : List S68) (rc : Bool) (rn : Int) (jb : Bool) (id arg : Int) (w : World) (hr : Kd.C k68 w A ids.length ids) (pv : Bool × Int × Bool) (hpv : placeW ids rc rn id arg = some pv) (hna : ¬(arg ≠ 0 ∧ inB id 1 ids.length = true)) :
  Calls Tryz.prog 105 #[.agg #[.slice A ids.length c, .bool rc, .int .i64 rn, .bool jb], .int .i64 id, .int .i64 arg] w fun e w' => e = .returned (.tuple #[.agg #[.bool pv.1, .int .i64 pv.2.1], .bool pv.2.2]) ∧ Below w.heap.size w w' := by
 have HB := am (((Below.refl _ w).alloc (Nat.le_refl _) (.cells #[.slice A ids.length c, .bool rc, .int .i64 rn, .bool jb] 26)).alloc (by simp) (.cells #[.bool false, .int .i64 0] 24))
 have HKA := am (two w (.cells #[.slice A ids.length c, .bool rc, .int .i64 rn, .bool jb] 26) (.cells #[.bool false, .int .i64 0] 24)).1
 have HKB := am (two w (.cells #[.slice A ids.length c, .bool rc, .int .i64 rn, .bool jb] 26) (.cells #[.bool false, .int .i64 0] 24)).2
 unfold placeW at hpv
 by_cases h0 : id = 0 ∧ arg = 0
 ·rw [if_pos h0] at hpv
  obtain ⟨rfl, rfl⟩ := h0
  have HE := am (Option.some.inj hpv).symm
  clear hr hpv
  go_enter Tryz.func105, Tryz.ntmps105
  go_wp2
  have rr := (two w (.cells #[.slice A ids.length c, .bool rc, .int .i64 rn, .bool jb] 26) (.cells #[.bool rc, .int .i64 rn] 24)).2
  have cz0 := (blk_cell rr 0).trans rfl
  have cz1 := (blk_cell rr 1).trans rfl
  refine bodyPost_ret (v := .tuple #[.agg #[.bool rc, .int .i64 rn], .bool true]) ?_ rfl ⟨by rw [HE.out], ((Below.refl _ w).alloc (Nat.le_refl _) (.cells #[.slice A ids.length c, .bool rc, .int .i64 rn, .bool jb] 26)).alloc (by simp) _⟩
  simp [results, Tryz.results105, go_sem, cz0, cz1]
 rw [if_neg h0] at hpv
 have hA : ∃ b : Bool, (id == 0) = b ∧ (b = true → (arg == 0) = false) := ⟨_, rfl, fun hb => by
  have h1 : id = 0 := by simpa using hb
  have : ¬ arg = 0 := fun h2 => h0 ⟨h1, h2⟩
  simpa using this⟩
 obtain ⟨b0, hb0, hb1⟩ := hA
 obtain ⟨bI, hbI⟩ : ∃ bI, inB id 1 ids.length = bI := ⟨_, rfl⟩
 rw [hbI] at hpv
 have HI := am hbI
 cases bI with
 | false =>
  rw [if_pos rfl] at hpv
  have HE := am (Option.some.inj hpv).symm
  clear hr hpv hbI
  rcases b0 with _ | _
  all_goals
   try have hb2 := hb1 rfl
   clear hb1
   go_enter Tryz.func105, Tryz.ntmps105
   go_wp2_with (go_at_call 127; (with_reducible refine (rIn_any id 1 ids.length _).mono ?_); rw [HI.out]; rintro e w1 ⟨rfl, hb1⟩; have HB1 := am (HB.out.trans (hb1.mono (by simp <;> omega))); have HKA1 := am ((hb1.block _ (by simp <;> omega)).trans HKA.out); have HKB1 := am ((hb1.block _ (by simp)).trans HKB.out); have hs1 : w.heap.size + 2 ≤ w1.heap.size := (by have := hb1.size; simpa using this); have hs1b : w.heap.size + 1 < w1.heap.size := (by omega); have hs1c : w.heap.size < w1.heap.size := (by omega); have k0 : w1.cell? ⟨w.heap.size, 0, none⟩ = some (.slice _ ids.length c) := (blk_cell HKA1.out 0).trans rfl; have f0 := blk_frozen HKB1.out 0; have f1 := blk_frozen HKB1.out 1; have d0 : w1.cell? ⟨w.heap.size + 1, 0, none⟩ = some (.bool false) := (blk_cell HKB1.out 0).trans rfl; have d1 : w1.cell? ⟨w.heap.size + 1, 1, none⟩ = some (.int .i64 0) := (blk_cell HKB1.out 1).trans rfl)
   have rr := blk_put (blk_put HKB1.out 0 (.bool (false)) rfl) 1 (.int .i64 (0)) rfl
   have cz0 := (blk_cell rr 0).trans rfl
   have cz1 := (blk_cell rr 1).trans rfl
   refine bodyPost_ret (v := .tuple #[.agg #[.bool (false), .int .i64 (0)], .bool false]) ?_ rfl ⟨by rw [HE.out], (HB1.out.setCell (p := ⟨w.heap.size + 1, 0, none⟩) (by simp) (.bool (false))).setCell (p := ⟨w.heap.size + 1, 1, none⟩) (by simp) (.int .i64 (0))⟩
   simp [results, Tryz.results105, go_sem, cz0, cz1]
 | true =>
  have hin : 1 ≤ id ∧ id ≤ ids.length := by
   unfold inB at hbI
   simpa using hbI
  clear hbI
  obtain ⟨i, hi⟩ : ∃ i, wrap64 (id - 1) = i := ⟨_, rfl⟩
  have hiw : IntKind.i64.wrap (id - 1) = i := (i64_w _).trans hi
  rw [hi, if_neg (by decide)] at hpv
  by_cases hir : 0 ≤ i ∧ i < (ids.length : Int)
  case neg =>
   rw [if_neg hir] at hpv
   cases hpv
  rw [if_pos hir] at hpv
  obtain ⟨hi0, hi1⟩ := hir
  obtain ⟨ad, A0, c0, e0, hx0, hx1, hx2, hxl, hpC⟩ := at_T68 hr i hi0 hi1
  cases e0
  generalize rd_T68 ids i = x at *
  by_cases ha : arg = 0
  ·rw [if_pos ha] at hpv
   subst ha
   have HE := am (Option.some.inj hpv).symm
   clear hr hpv
   rcases b0 with _ | _
   ·clear hb1
    go_enter Tryz.func105, Tryz.ntmps105
    go_wp2_with (go_at_call 127; (with_reducible refine (rIn_any id 1 ids.length _).mono ?_); rw [HI.out]; rintro e w1 ⟨rfl, hb1⟩; have HB1 := am (HB.out.trans (hb1.mono (by simp <;> omega))); have HKA1 := am ((hb1.block _ (by simp <;> omega)).trans HKA.out); have HKB1 := am ((hb1.block _ (by simp)).trans HKB.out); have hs1 : w.heap.size + 2 ≤ w1.heap.size := (by have := hb1.size; simpa using this); have hs1b : w.heap.size + 1 < w1.heap.size := (by omega); have hs1c : w.heap.size < w1.heap.size := (by omega); have k0 : w1.cell? ⟨w.heap.size, 0, none⟩ = some (.slice _ ids.length c) := (blk_cell HKA1.out 0).trans rfl; have f0 := blk_frozen HKB1.out 0; have f1 := blk_frozen HKB1.out 1; have d0 : w1.cell? ⟨w.heap.size + 1, 0, none⟩ = some (.bool false) := (blk_cell HKB1.out 0).trans rfl; have d1 : w1.cell? ⟨w.heap.size + 1, 1, none⟩ = some (.int .i64 0) := (blk_cell HKB1.out 1).trans rfl; have y0 := pw_cell_below HB1.out hx0; have y1 := pw_cell_below HB1.out hx1; have y2 := pw_cell_below HB1.out hx2)
    have rr := blk_alloc (blk_put (blk_put HKB1.out 0 (.bool x.f1.f0) rfl) 1 (.int .i64 x.f1.f1) rfl) (.cells #[.slice (A0) x.f0.length c0, .bool x.f1.f0, .int .i64 x.f1.f1] 68)
    have cz0 := (blk_cell rr 0).trans rfl
    have cz1 := (blk_cell rr 1).trans rfl
    refine bodyPost_ret (v := .tuple #[.agg #[.bool x.f1.f0, .int .i64 x.f1.f1], .bool true]) ?_ rfl ⟨by rw [HE.out], ((HB1.out.setCell (p := ⟨w.heap.size + 1, 0, none⟩) (by simp) (.bool x.f1.f0)).setCell (p := ⟨w.heap.size + 1, 1, none⟩) (by simp) (.int .i64 x.f1.f1)).alloc (by simp; omega) _⟩
    simp [results, Tryz.results105, go_sem, cz0, cz1]
   exact absurd (hb1 rfl) (by simp)
  exact absurd ⟨ha, HI.out⟩ hna
set_option maxRecDepth 8000 in
set_option maxHeartbeats 1600000 in
theorem rPlace_b (A : Option Addr) (c : Nat) (ids : List S68) (rc : Bool) (rn : Int) (jb : Bool) (id arg : Int) (w : World) (hr : Kd.C k68 w A ids.length ids) (pv : Bool × Int × Bool) (hpv : placeW ids rc rn id arg = some pv) (ha : arg ≠ 0) (hbI : inB id 1 ids.length = true) :
  Calls Tryz.prog 105 #[.agg #[.slice A ids.length c, .bool rc, .int .i64 rn, .bool jb], .int .i64 id, .int .i64 arg] w fun e w' => e = .returned (.tuple #[.agg #[.bool pv.1, .int .i64 pv.2.1], .bool pv.2.2]) ∧ Below w.heap.size w w' := by
 have HB := am (((Below.refl _ w).alloc (Nat.le_refl _) (.cells #[.slice A ids.length c, .bool rc, .int .i64 rn, .bool jb] 26)).alloc (by simp) (.cells #[.bool false, .int .i64 0] 24))
 have HKA := am (two w (.cells #[.slice A ids.length c, .bool rc, .int .i64 rn, .bool jb] 26) (.cells #[.bool false, .int .i64 0] 24)).1
 have HKB := am (two w (.cells #[.slice A ids.length c, .bool rc, .int .i64 rn, .bool jb] 26) (.cells #[.bool false, .int .i64 0] 24)).2
 unfold placeW at hpv
 have h0 : ¬ (id = 0 ∧ arg = 0) := fun h => ha h.2
 rw [if_neg h0, hbI] at hpv
 have HI := am hbI
 have hin : 1 ≤ id ∧ id ≤ ids.length := by
  unfold inB at hbI
  simpa using hbI
 have hb0 : (id == 0) = false := by simp; omega
 clear hbI
 obtain ⟨i, hi⟩ : ∃ i, wrap64 (id - 1) = i := ⟨_, rfl⟩
 have hiw : IntKind.i64.wrap (id - 1) = i := (i64_w _).trans hi
 rw [hi, if_neg (by decide)] at hpv
 by_cases hir : 0 ≤ i ∧ i < (ids.length : Int)
 case neg =>
  rw [if_neg hir] at hpv
  cases hpv
 rw [if_pos hir] at hpv
 obtain ⟨hi0, hi1⟩ := hir
 obtain ⟨ad, A0, c0, e0, hx0, hx1, hx2, hxl, hpC⟩ := at_T68 hr i hi0 hi1
 cases e0
 generalize rd_T68 ids i = x at *
 rw [if_neg ha] at hpv
 have hab : (arg == 0) = false := by simpa using ha
 obtain ⟨bP, hbP⟩ : ∃ bP, inB arg 1 x.f0.length = bP := ⟨_, rfl⟩
 rw [hbP] at hpv
 have HP := am hbP
 cases bP with
 | false =>
  rw [if_pos rfl] at hpv
  have HE := am (Option.some.inj hpv).symm
  clear hr hpv hbP hpC
  skip
  all_goals
   go_enter Tryz.func105, Tryz.ntmps105
   go_wp2_with (first | (go_at_call 127; (with_reducible refine (rIn_any id 1 ids.length _).mono ?_); rw [HI.out]; rintro e w1 ⟨rfl, hb1⟩; have HB1 := am (HB.out.trans (hb1.mono (by simp <;> omega))); have HKA1 := am ((hb1.block _ (by simp <;> omega)).trans HKA.out); have HKB1 := am ((hb1.block _ (by simp)).trans HKB.out); have hs1 : w.heap.size + 2 ≤ w1.heap.size := (by have := hb1.size; simpa using this); have hs1b : w.heap.size + 1 < w1.heap.size := (by omega); have hs1c : w.heap.size < w1.heap.size := (by omega); have k0 : w1.cell? ⟨w.heap.size, 0, none⟩ = some (.slice _ ids.length c) := (blk_cell HKA1.out 0).trans rfl; have f0 := blk_frozen HKB1.out 0; have f1 := blk_frozen HKB1.out 1; have d0 : w1.cell? ⟨w.heap.size + 1, 0, none⟩ = some (.bool false) := (blk_cell HKB1.out 0).trans rfl; have d1 : w1.cell? ⟨w.heap.size + 1, 1, none⟩ = some (.int .i64 0) := (blk_cell HKB1.out 1).trans rfl; have y0 := pw_cell_below HB1.out hx0; have y1 := pw_cell_below HB1.out hx1; have y2 := pw_cell_below HB1.out hx2) | (go_at_call 127; (with_reducible refine (rIn_any arg 1 x.f0.length _).mono ?_); rw [HP.out]; rintro e w2 ⟨rfl, hb2⟩; have hs2 : w1.heap.size + 1 ≤ w2.heap.size := (by have := hb2.size; simpa using this); have hs2b : w1.heap.size < w2.heap.size := (by omega); have hs2c : w.heap.size + 1 < w2.heap.size := (by omega); have HB2 := am ((HB1.out.alloc (by omega) (.cells #[.slice (A0) x.f0.length c0, .bool x.f1.f0, .int .i64 x.f1.f1] 68)).trans (hb2.mono (by simp; omega))); have HKX := am ((hb2.block _ (by simp)).trans (heap_alloc_new w1 (.cells #[.slice (A0) x.f0.length c0, .bool x.f1.f0, .int .i64 x.f1.f1] 68))); have HKB2 := am ((hb2.block _ (by simp; omega)).trans (blk_alloc HKB1.out (.cells #[.slice (A0) x.f0.length c0, .bool x.f1.f0, .int .i64 x.f1.f1] 68))); have x0 : w2.cell? ⟨w1.heap.size, 0, none⟩ = some (.slice (A0) x.f0.length c0) := (blk_cell HKX.out 0).trans rfl; have f02 := blk_frozen HKB2.out 0; have f12 := blk_frozen HKB2.out 1; have d02 : w2.cell? ⟨w.heap.size + 1, 0, none⟩ = some (.bool false) := (blk_cell HKB2.out 0).trans rfl; have d12 : w2.cell? ⟨w.heap.size + 1, 1, none⟩ = some (.int .i64 0) := (blk_cell HKB2.out 1).trans rfl))
   have rr := blk_put (blk_put HKB2.out 0 (.bool (false)) rfl) 1 (.int .i64 (0)) rfl
   have cz0 := (blk_cell rr 0).trans rfl
   have cz1 := (blk_cell rr 1).trans rfl
   refine bodyPost_ret (v := .tuple #[.agg #[.bool (false), .int .i64 (0)], .bool false]) ?_ rfl ⟨by rw [HE.out], (HB2.out.setCell (p := ⟨w.heap.size + 1, 0, none⟩) (by simp) (.bool (false))).setCell (p := ⟨w.heap.size + 1, 1, none⟩) (by simp) (.int .i64 (0))⟩
   simp [results, Tryz.results105, go_sem, cz0, cz1]
 | true =>
  have hin2 : 1 ≤ arg ∧ arg ≤ x.f0.length := by
   unfold inB at hbP
   simpa using hbP
  clear hbP
  obtain ⟨j, hj⟩ : ∃ j, wrap64 (arg - 1) = j := ⟨_, rfl⟩
  have hjw : IntKind.i64.wrap (arg - 1) = j := (i64_w _).trans hj
  rw [hj, if_neg (by decide)] at hpv
  by_cases hjr : 0 ≤ j ∧ j < (x.f0.length : Int)
  case neg =>
   rw [if_neg hjr] at hpv
   cases hpv
  rw [if_pos hjr] at hpv
  obtain ⟨hj0, hj1⟩ := hjr
  obtain ⟨ad2, e0, z0, z1⟩ := at_T24 hpC j hj0 hj1
  cases e0
  generalize rd_T24 x.f0 j = b at *
  have HE := am (Option.some.inj hpv).symm
  clear hr hpv hpC
  skip
  all_goals
   go_enter Tryz.func105, Tryz.ntmps105
   go_wp2_with (first | (go_at_call 127; (with_reducible refine (rIn_any id 1 ids.length _).mono ?_); rw [HI.out]; rintro e w1 ⟨rfl, hb1⟩; have HB1 := am (HB.out.trans (hb1.mono (by simp <;> omega))); have HKA1 := am ((hb1.block _ (by simp <;> omega)).trans HKA.out); have HKB1 := am ((hb1.block _ (by simp)).trans HKB.out); have hs1 : w.heap.size + 2 ≤ w1.heap.size := (by have := hb1.size; simpa using this); have hs1b : w.heap.size + 1 < w1.heap.size := (by omega); have hs1c : w.heap.size < w1.heap.size := (by omega); have k0 : w1.cell? ⟨w.heap.size, 0, none⟩ = some (.slice _ ids.length c) := (blk_cell HKA1.out 0).trans rfl; have f0 := blk_frozen HKB1.out 0; have f1 := blk_frozen HKB1.out 1; have d0 : w1.cell? ⟨w.heap.size + 1, 0, none⟩ = some (.bool false) := (blk_cell HKB1.out 0).trans rfl; have d1 : w1.cell? ⟨w.heap.size + 1, 1, none⟩ = some (.int .i64 0) := (blk_cell HKB1.out 1).trans rfl; have y0 := pw_cell_below HB1.out hx0; have y1 := pw_cell_below HB1.out hx1; have y2 := pw_cell_below HB1.out hx2) | (go_at_call 127; (with_reducible refine (rIn_any arg 1 x.f0.length _).mono ?_); rw [HP.out]; rintro e w2 ⟨rfl, hb2⟩; have hs2 : w1.heap.size + 1 ≤ w2.heap.size := (by have := hb2.size; simpa using this); have hs2b : w1.heap.size < w2.heap.size := (by omega); have hs2c : w.heap.size + 1 < w2.heap.size := (by omega); have HB2 := am ((HB1.out.alloc (by omega) (.cells #[.slice (some ad2) x.f0.length c0, .bool x.f1.f0, .int .i64 x.f1.f1] 68)).trans (hb2.mono (by simp; omega))); have HKX := am ((hb2.block _ (by simp)).trans (heap_alloc_new w1 (.cells #[.slice (some ad2) x.f0.length c0, .bool x.f1.f0, .int .i64 x.f1.f1] 68))); have HKB2 := am ((hb2.block _ (by simp; omega)).trans (blk_alloc HKB1.out (.cells #[.slice (some ad2) x.f0.length c0, .bool x.f1.f0, .int .i64 x.f1.f1] 68))); have x0 : w2.cell? ⟨w1.heap.size, 0, none⟩ = some (.slice (some ad2) x.f0.length c0) := (blk_cell HKX.out 0).trans rfl; have f02 := blk_frozen HKB2.out 0; have f12 := blk_frozen HKB2.out 1; have d02 : w2.cell? ⟨w.heap.size + 1, 0, none⟩ = some (.bool false) := (blk_cell HKB2.out 0).trans rfl; have d12 : w2.cell? ⟨w.heap.size + 1, 1, none⟩ = some (.int .i64 0) := (blk_cell HKB2.out 1).trans rfl; have zz0 := pw_cell_below HB2.out z0; have zz1 := pw_cell_below HB2.out z1))
   have rr := blk_put (blk_put HKB2.out 0 (.bool (b.f0)) rfl) 1 (.int .i64 (b.f1)) rfl
   have cz0 := (blk_cell rr 0).trans rfl
   have cz1 := (blk_cell rr 1).trans rfl
   refine bodyPost_ret (v := .tuple #[.agg #[.bool (b.f0), .int .i64 (b.f1)], .bool true]) ?_ rfl ⟨by rw [HE.out], (HB2.out.setCell (p := ⟨w.heap.size + 1, 0, none⟩) (by simp) (.bool (b.f0))).setCell (p := ⟨w.heap.size + 1, 1, none⟩) (by simp) (.int .i64 (b.f1))⟩
   simp [results, Tryz.results105, go_sem, cz0, cz1]
theorem rPlace_any (A : Option Addr) (c : Nat) (ids : List S68) (rc : Bool) (rn : Int) (jb : Bool) (id arg : Int) (w : World) (hr : Kd.C k68 w A ids.length ids) (pv : Bool × Int × Bool) (hpv : placeW ids rc rn id arg = some pv) :
  Calls Tryz.prog 105 #[.agg #[.slice A ids.length c, .bool rc, .int .i64 rn, .bool jb], .int .i64 id, .int .i64 arg] w fun e w' => e = .returned (.tuple #[.agg #[.bool pv.1, .int .i64 pv.2.1], .bool pv.2.2]) ∧ Below w.heap.size w w' := by
 by_cases h : arg ≠ 0 ∧ inB id 1 ids.length = true
 ·exact rPlace_b A c ids rc rn jb id arg w hr pv hpv h.1 h.2
 exact rPlace_a A c ids rc rn jb id arg w hr pv hpv h
end Go.Proofs.YtjgocihflhljeaaGreat.P
namespace Go.Proofs.YtjgocihflhljeaaGreat.P
open Go.RowKit Go.Proofs.YtjgocihflhljeaaGreatW.PrintWords Go.Proofs.YtjgocihflhljeaaGreatW.PrintLast Go.Proofs.YtjgocihflhljeaaGreatW.PrintMore
attribute [local go_sem] max2_int max_two
theorem eqA52 (d : Nat) (w : World) (x0 y0 : Int) (x1 y1 : Int) (x2 y2 : Int) (x3 y3 : Int) :
  (Op.equalIn (d + 2) 52 (.agg #[.int .i64 x0, .int .i64 x1, .int .u8 x2, .int .i64 x3]) (.agg #[.int .i64 y0, .int .i64 y1, .int .u8 y2, .int .i64 y3])).run Tryz.prog w = .ok (x0 == y0 && (x1 == y1 && (x2 == y2 && (x3 == y3)))) w := by
 refine eqA_of Tryz.underlying52 (by kernel_rfl) ?_
 refine eqf_cons (by rfl) (by go_simp; rfl) (by go_simp; rfl) (by go_simp) ?_
 refine eqf_cons (by rfl) (by go_simp; rfl) (by go_simp; rfl) (by go_simp) ?_
 refine eqf_cons (by rfl) (by go_simp; rfl) (by go_simp; rfl) (by go_simp) ?_
 exact eqf_last (by rfl) (by go_simp; rfl) (by go_simp; rfl) (by go_simp)
end Go.Proofs.YtjgocihflhljeaaGreat.P
namespace Go.Proofs.YtjgocihflhljeaaGreat.P
open Go.RowKit Go.Proofs.YtjgocihflhljeaaGreatW.PrintWords Go.Proofs.YtjgocihflhljeaaGreatW.PrintLast Go.Proofs.YtjgocihflhljeaaGreatW.PrintMore
attribute [local go_sem] max2_int max_two
attribute [local go_sem high] eqA52
def riposteref04_Find.l0 : Nat → List (S52) → Int → Int → Int → Int → Int → Option (Int)
 | 0, _, _, _, _, _, _ => none
 | k + 1, x0, x5, x233000, x233001, x233002, x233003 => if x5 < (x0.length : Int) then (if 0 ≤ x5 then (if (((rd_T52 x0 x5).f0) == x233000 && (((rd_T52 x0 x5).f1) == x233001 && (((rd_T52 x0 x5).f2) == x233002 && (((rd_T52 x0 x5).f3) == x233003)))) = true then (some x5) else (riposteref04_Find.l0 k x0 (wrap64 (x5 + 1)) x233000 x233001 x233002 x233003)) else (none)) else (some (-1))
def riposteref04_Find.f (k : Nat) (l0 : List (S52)) (a1_0 : Int) (a1_1 : Int) (a1_2 : Int) (a1_3 : Int) : Option (Int) := riposteref04_Find.l0 k l0 0 a1_0 a1_1 a1_2 a1_3
set_option maxHeartbeats 8000000 in
set_option maxRecDepth 100000 in
theorem riposteref04_Find.calls (k : Nat) (A0 : Option Addr) (c0 : Nat) (l0 : List (S52)) (a1_0 : Int) (a1_1 : Int) (a1_2 : Int) (a1_3 : Int) (r : Int) (w : World) (hr0 : Kd.C k52 w A0 l0.length l0) (hc0 : l0.length ≤ c0) (h : riposteref04_Find.f k l0 a1_0 a1_1 a1_2 a1_3 = some r) :
  Calls Tryz.prog 33 #[.slice A0 l0.length c0, .agg #[.int .i64 a1_0, .int .i64 a1_1, .int .u8 a1_2, .int .i64 a1_3]] w fun e w' => e = .returned (.int .i64 r) ∧ Below w.heap.size w w' := by
 have hu52 := Tryz.underlying52
 have HR0 := am hr0
 have HC0 := am hc0
 clear hr0 hc0
 have HB := am (Below.refl w.heap.size w)
 have H : (riposteref04_Find.l0 k l0 0 a1_0 a1_1 a1_2 a1_3) = some r := h
 clear h
 have H' := am H
 clear H
 go_enter Tryz.func33, Tryz.ntmps33
 go_wp2_with (first | ((with_reducible refine gate_dst (N := 3) rfl ?_); refine box_event ?hg (N := 3) ?hd (cs := #[.int .i64 a1_0, .int .i64 a1_1, .int .u8 a1_2, .int .i64 a1_3]) (t := 52) ?hr ?_; (case hd => rfl); (case hg => rfl); (case hr => go_simp); intro gb232 hg w3 hbox hb; have n0_ := am (below_step HB.out hb); have n1_ := am (hbox); have n2_ := am ((by rw [hg]; exact (below_size HB.out) : w.heap.size ≤ gb232)); have n3_ := am ((by rw [hg]; exact (below_size HB.out) : w.heap.size ≤ gb232)); clear HB; have HB := n0_; have BK232 := n1_; have GW232 := n2_; have GE232 := n3_; clear n0_ n1_ n2_ n3_; clear hb hbox hg))
 repeat (go_quiet (fail); try go_wp2_with (fail))
 go_loopg [5] k (fun kq v5 w' => ∃ (x5_1 : Int), v5 = .int .i64 x5_1 ∧ Aside0 (riposteref04_Find.l0 kq l0 x5_1 a1_0 a1_1 a1_2 a1_3 = some r) ∧ Aside0 (kq ≤ k) ∧ Aside0 (w'.heap[gb232]? = some (.cells #[.int .i64 a1_0, .int .i64 a1_1, .int .u8 a1_2, .int .i64 a1_3] 52 (0, 0))) ∧ Aside0 (Below w.heap.size w w'))
 case atStart => exact ⟨(0), (by first | rfl), H', ⟨Nat.le_refl _⟩, ⟨by exact BK232.out⟩, ⟨by exact HB.out⟩⟩
 case round =>
  clear H'
  try clear p2
  try clear c3
  obtain ⟨x5_1, rfl, HA, HK1, BK232, HB⟩ := hrel
  cases gk with
  | zero => exact absurd HA.out (by simp [riposteref04_Find.l0])
  | succ k1 =>
   have H := HA.out
   clear HA
   simp only [riposteref04_Find.l0] at H
   by_cases c4 : x5_1 < (l0.length : Int)
   ·rw [if_pos c4] at H
    have c4b0 : decide (x5_1 < (l0.length : Int)) = true := decide_eq_true c4
    clear c4
    by_cases c5 : 0 ≤ x5_1
    ·rw [if_pos c5] at H
     have c5b0 : decide (0 ≤ x5_1) = true := decide_eq_true c5
     clear c5
     by_cases c6 : (((rd_T52 l0 x5_1).f0) == a1_0 && (((rd_T52 l0 x5_1).f1) == a1_1 && (((rd_T52 l0 x5_1).f2) == a1_2 && (((rd_T52 l0 x5_1).f3) == a1_3)))) = true
     ·rw [if_pos c6] at H
      have c6b0 : (((rd_T52 l0 x5_1).f0) == a1_0 && (((rd_T52 l0 x5_1).f1) == a1_1 && (((rd_T52 l0 x5_1).f2) == a1_2 && (((rd_T52 l0 x5_1).f3) == a1_3)))) = true := c6
      (try (have c6b1 : decide (((rd_T52 l0 x5_1).f0) = a1_0 && (((rd_T52 l0 x5_1).f1) == a1_1 && (((rd_T52 l0 x5_1).f2) == a1_2 && (((rd_T52 l0 x5_1).f3) == a1_3)))) = true := by simpa using c6))
      (try (have c6b2 : (((rd_T52 l0 x5_1).f0) == a1_0 && (((rd_T52 l0 x5_1).f1) == a1_1 && (((rd_T52 l0 x5_1).f2) == a1_2 && (((rd_T52 l0 x5_1).f3) == a1_3)))) = true := by simpa using c6))
      clear c6
      obtain rfl := Option.some.inj H
      have p233 : 0 ≤ (x5_1 : Int) := of_decide_eq_true (by first | (with_reducible assumption))
      have q233 : x5_1 < (l0.length : Int) := of_decide_eq_true (by first | (with_reducible assumption))
      obtain ⟨ad233, e233, hx233_0, hx233_1, hx233_2, hx233_3⟩ := at_T52 HR0.out x5_1 p233 q233
      cases e233
      replace hx233_0 := (HB.out.cell (World.block_lt_of_cell? w _ hx233_0)).trans hx233_0
      replace hx233_1 := (HB.out.cell (World.block_lt_of_cell? w _ hx233_1)).trans hx233_1
      replace hx233_2 := (HB.out.cell (World.block_lt_of_cell? w _ hx233_2)).trans hx233_2
      replace hx233_3 := (HB.out.cell (World.block_lt_of_cell? w _ hx233_3)).trans hx233_3
      replace p233 := eq_true p233
      replace q233 := eq_true q233
      have hcz7_0 : wr.cell? ⟨gb232, 0, none⟩ = some (.int .i64 a1_0) := (blk_cell BK232.out 0).trans rfl
      have hcz7_1 : wr.cell? ⟨gb232, 1, none⟩ = some (.int .i64 a1_1) := (blk_cell BK232.out 1).trans rfl
      have hcz7_2 : wr.cell? ⟨gb232, 2, none⟩ = some (.int .u8 a1_2) := (blk_cell BK232.out 2).trans rfl
      have hcz7_3 : wr.cell? ⟨gb232, 3, none⟩ = some (.int .i64 a1_3) := (blk_cell BK232.out 3).trans rfl
      have hfz7_0 := blk_frozen BK232.out 0
      have hfz7_1 := blk_frozen BK232.out 1
      have hfz7_2 := blk_frozen BK232.out 2
      have hfz7_3 := blk_frozen BK232.out 3
      go_wp2
      repeat (go_quiet (fail); try go_wp2)
      go_ret
      exact ⟨by first | rfl, by repeat (first | (with_reducible first | exact HB.out | apply pw_below_drewN))⟩
     rw [if_neg c6] at H
     have c6b0 : (((rd_T52 l0 x5_1).f0) == a1_0 && (((rd_T52 l0 x5_1).f1) == a1_1 && (((rd_T52 l0 x5_1).f2) == a1_2 && (((rd_T52 l0 x5_1).f3) == a1_3)))) = false := by simpa using c6
     (try (have c6b1 : decide (((rd_T52 l0 x5_1).f0) = a1_0 && (((rd_T52 l0 x5_1).f1) == a1_1 && (((rd_T52 l0 x5_1).f2) == a1_2 && (((rd_T52 l0 x5_1).f3) == a1_3)))) = false := by simpa using c6))
     (try (have c6b2 : (((rd_T52 l0 x5_1).f0) == a1_0 && (((rd_T52 l0 x5_1).f1) == a1_1 && (((rd_T52 l0 x5_1).f2) == a1_2 && (((rd_T52 l0 x5_1).f3) == a1_3)))) = false := by simpa using c6))
     (try (have c6b3 : ¬ (((rd_T52 l0 x5_1).f0) = a1_0 && (((rd_T52 l0 x5_1).f1) == a1_1 && (((rd_T52 l0 x5_1).f2) == a1_2 && (((rd_T52 l0 x5_1).f3) == a1_3)))) := by simpa using c6))
     clear c6
     have H' := am H
     clear H
     have p233 : 0 ≤ (x5_1 : Int) := of_decide_eq_true (by first | (with_reducible assumption))
     have q233 : x5_1 < (l0.length : Int) := of_decide_eq_true (by first | (with_reducible assumption))
     obtain ⟨ad233, e233, hx233_0, hx233_1, hx233_2, hx233_3⟩ := at_T52 HR0.out x5_1 p233 q233
     cases e233
     replace hx233_0 := (HB.out.cell (World.block_lt_of_cell? w _ hx233_0)).trans hx233_0
     replace hx233_1 := (HB.out.cell (World.block_lt_of_cell? w _ hx233_1)).trans hx233_1
     replace hx233_2 := (HB.out.cell (World.block_lt_of_cell? w _ hx233_2)).trans hx233_2
     replace hx233_3 := (HB.out.cell (World.block_lt_of_cell? w _ hx233_3)).trans hx233_3
     replace p233 := eq_true p233
     replace q233 := eq_true q233
     have hcz8_0 : wr.cell? ⟨gb232, 0, none⟩ = some (.int .i64 a1_0) := (blk_cell BK232.out 0).trans rfl
     have hcz8_1 : wr.cell? ⟨gb232, 1, none⟩ = some (.int .i64 a1_1) := (blk_cell BK232.out 1).trans rfl
     have hcz8_2 : wr.cell? ⟨gb232, 2, none⟩ = some (.int .u8 a1_2) := (blk_cell BK232.out 2).trans rfl
     have hcz8_3 : wr.cell? ⟨gb232, 3, none⟩ = some (.int .i64 a1_3) := (blk_cell BK232.out 3).trans rfl
     have hfz8_0 := blk_frozen BK232.out 0
     have hfz8_1 := blk_frozen BK232.out 1
     have hfz8_2 := blk_frozen BK232.out 2
     have hfz8_3 := blk_frozen BK232.out 3
     go_wp2
     repeat (go_quiet (fail); try go_wp2)
     go_roundg k1
     case measure => have := HK1.out; omega
     case rel => exact ⟨(wrap64 (x5_1 + 1)), (by first | rfl), H', ⟨by have := HK1.out; omega⟩, ⟨by (with_reducible repeat (first | refine blk_drewN ?_ _)); exact BK232.out⟩, ⟨by repeat (first | (with_reducible first | exact HB.out | apply pw_below_drewN))⟩⟩
    rw [if_neg c5] at H
    exact absurd H (by simp)
   rw [if_neg c4] at H
   have c4b0 : decide (x5_1 < (l0.length : Int)) = false := decide_eq_false c4
   clear c4
   obtain rfl := Option.some.inj H
   go_wp2
   repeat (go_quiet (fail); try go_wp2)
   go_ret
   exact ⟨by first | rfl, by exact HB.out⟩
def riposteref04_Place.j0 : Nat → Int → Int → Bool → List (S68) → Bool → Int → Bool → Option (Bool × Int × Bool)
 | 0, _, _, _, _, _, _, _ => none
 | k + 1, x1, x2, x14, x235000, x235001, x235002, x235003 => if x14 = true then (some (x235001, x235002, true)) else ((riposteref04_In.f x1 1 (x235000.length : Int)).bind fun t236 => (if t236 = true then (if 0 ≤ (wrap64 (x1 - 1)) then (if (wrap64 (x1 - 1)) < (x235000.length : Int) then (if x2 = 0 then (some ((rd_T68 x235000 (wrap64 (x1 - 1))).f1.f0, (rd_T68 x235000 (wrap64 (x1 - 1))).f1.f1, true)) else ((riposteref04_In.f x2 1 (((rd_T68 x235000 (wrap64 (x1 - 1))).f0).length : Int)).bind fun t239 => (if t239 = true then (if 0 ≤ (wrap64 (x2 - 1)) then (if (wrap64 (x2 - 1)) < (((rd_T68 x235000 (wrap64 (x1 - 1))).f0).length : Int) then (some ((rd_T24 ((rd_T68 x235000 (wrap64 (x1 - 1))).f0) (wrap64 (x2 - 1))).f0, (rd_T24 ((rd_T68 x235000 (wrap64 (x1 - 1))).f0) (wrap64 (x2 - 1))).f1, true)) else (none)) else (none)) else (some (false, 0, false))))) else (none)) else (none)) else (some (false, 0, false))))
def riposteref04_Place.f (k : Nat) (l0_0 : List (S68)) (a0_1 : Bool) (a0_2 : Int) (a0_3 : Bool) (a1 : Int) (a2 : Int) : Option (Bool × Int × Bool) := if a1 = 0 then (riposteref04_Place.j0 k a1 a2 (a2 == 0) l0_0 a0_1 a0_2 a0_3) else (riposteref04_Place.j0 k a1 a2 false l0_0 a0_1 a0_2 a0_3)
theorem inF_eq (n hi : Int) : riposteref04_In.f n 1 hi = some (inB n 1 hi) := by
 unfold riposteref04_In.f inB
 by_cases h : n ≥ 1
 ·rw [if_pos h, decide_eq_true h, Bool.true_and]
 rw [if_neg h, decide_eq_false (by omega), Bool.false_and]
theorem riposteref04_Place.toW (k : Nat) (l : List S68) (a0_1 : Bool) (a0_2 : Int) (a0_3 : Bool) (a1 a2 : Int) (r : Bool × Int × Bool) (h : riposteref04_Place.f k l a0_1 a0_2 a0_3 a1 a2 = some r) : placeW l a0_1 a0_2 a1 a2 = some r := by
 cases k with
 | zero =>
  unfold riposteref04_Place.f riposteref04_Place.j0 at h
  split at h <;> cases h
 | succ k =>
  have hj : riposteref04_Place.j0 (k + 1) a1 a2 (decide (a1 = 0 ∧ a2 = 0)) l a0_1 a0_2 a0_3 = some r := by
   unfold riposteref04_Place.f at h
   by_cases h1 : a1 = 0
   ·rw [if_pos h1] at h
    rw [← h]
    congr 1
    by_cases h2 : a2 = 0 <;> simp [h1, h2]
   rw [if_neg h1] at h
   rw [← h]
   congr 1
   simp [h1]
  unfold riposteref04_Place.j0 at hj
  unfold placeW
  simp only [inF_eq, Option.bind_some, decide_eq_true_eq] at hj
  by_cases h0 : a1 = 0 ∧ a2 = 0
  ·rw [if_pos h0] at hj ⊢
   exact hj
  rw [if_neg h0] at hj ⊢
  cases hI : inB a1 1 l.length with
  | false =>
   rw [hI, if_neg (by decide)] at hj
   rw [if_pos rfl]
   exact hj
  | true =>
   rw [hI, if_pos rfl] at hj
   rw [if_neg (by decide)]
   by_cases h1 : 0 ≤ wrap64 (a1 - 1)
   ·rw [if_pos h1] at hj
    by_cases h2 : wrap64 (a1 - 1) < (l.length : Int)
    ·rw [if_pos h2] at hj
     rw [if_pos ⟨h1, h2⟩]
     by_cases h3 : a2 = 0
     ·rw [if_pos h3] at hj ⊢
      exact hj
     rw [if_neg h3] at hj ⊢
     cases hJ : inB a2 1 ((rd_T68 l (wrap64 (a1 - 1))).f0.length : Int) with
     | false =>
      rw [hJ, if_neg (by decide)] at hj
      rw [if_pos rfl]
      exact hj
     | true =>
      rw [hJ, if_pos rfl] at hj
      rw [if_neg (by decide)]
      by_cases h4 : 0 ≤ wrap64 (a2 - 1)
      ·rw [if_pos h4] at hj
       by_cases h5 : wrap64 (a2 - 1) < ((rd_T68 l (wrap64 (a1 - 1))).f0.length : Int)
       ·rw [if_pos h5] at hj
        rw [if_pos ⟨h4, h5⟩]
        exact hj
       rw [if_neg h5] at hj
       cases hj
      rw [if_neg h4] at hj
      cases hj
    rw [if_neg h2] at hj
    cases hj
   rw [if_neg h1] at hj
   cases hj
theorem riposteref04_Place.calls (k : Nat) (A0_0 : Option Addr) (c0_0 : Nat) (l0_0 : List (S68)) (a0_1 : Bool) (a0_2 : Int) (a0_3 : Bool) (a1 : Int) (a2 : Int) (r1 : Bool) (r2 : Int) (r3 : Bool) (w : World) (hr0_0 : Kd.C k68 w A0_0 l0_0.length l0_0) (hc0_0 : l0_0.length ≤ c0_0) (h : riposteref04_Place.f k l0_0 a0_1 a0_2 a0_3 a1 a2 = some (r1, r2, r3)) :
  Calls Tryz.prog 105 #[.agg #[.slice A0_0 l0_0.length c0_0, .bool a0_1, .int .i64 a0_2, .bool a0_3], .int .i64 a1, .int .i64 a2] w fun e w' => e = .returned (.tuple #[.agg #[.bool r1, .int .i64 r2], .bool r3]) ∧ Below w.heap.size w w' := by
 exact rPlace_any A0_0 c0_0 l0_0 a0_1 a0_2 a0_3 a1 a2 w hr0_0 (r1, r2, r3) (riposteref04_Place.toW k l0_0 a0_1 a0_2 a0_3 a1 a2 _ h)
def riposteref04_Questions.l0 : Nat → Int → Int → List (S52) → Int → Bool → Int → Option ((List (S52)))
 | 0, _, _, _, _, _, _ => none
 | k + 1, x1, x2, x9, x10, x246000, x246001 => if x246000 = true then (if x10 < x246001 then (if x9.length < 4398046511104 then (riposteref04_Questions.l0 k x1 x2 (x9 ++ [(⟨x1, x2, 2, x10⟩ : S52)]) (wrap64 (x10 + 1)) x246000 x246001) else (none)) else (some x9)) else (some x9)
def riposteref04_Questions.f (k : Nat) (l0_0 : List (S68)) (a0_1 : Bool) (a0_2 : Int) (a0_3 : Bool) (a1 : Int) (a2 : Int) : Option ((List (S52))) := (riposteref04_Place.f k l0_0 a0_1 a0_2 a0_3 a1 a2).bind fun bt242 => (if bt242.2.2 = true then (riposteref04_Questions.l0 k a1 a2 (([(⟨a1, a2, 1, 0⟩ : S52)] : List (S52))) 0 bt242.1 bt242.2.1) else (some ([] : List (S52))))
set_option maxHeartbeats 8000000 in
set_option maxRecDepth 100000 in
theorem riposteref04_Questions.calls (k : Nat) (A0_0 : Option Addr) (c0_0 : Nat) (l0_0 : List (S68)) (a0_1 : Bool) (a0_2 : Int) (a0_3 : Bool) (a1 : Int) (a2 : Int) (r : List (S52)) (w : World) (hr0_0 : Kd.C k68 w A0_0 l0_0.length l0_0) (hc0_0 : l0_0.length ≤ c0_0) (h : riposteref04_Questions.f k l0_0 a0_1 a0_2 a0_3 a1 a2 = some r) :
  Calls Tryz.prog 72 #[.agg #[.slice A0_0 l0_0.length c0_0, .bool a0_1, .int .i64 a0_2, .bool a0_3], .int .i64 a1, .int .i64 a2] w fun e w' => ∃ v0_ : Value, e = .returned (v0_) ∧ Kd.R k52 52 w' w.heap.size (fun _ => True) v0_ r ∧ Below w.heap.size w w' := by
 have hu26 := Tryz.underlying26
 have hu24 := Tryz.underlying24
 have hu52 := Tryz.underlying52
 have HR0_0 := am hr0_0
 have HC0_0 := am hc0_0
 clear hr0_0 hc0_0
 have HB := am (Below.refl w.heap.size w)
 have H : ((riposteref04_Place.f k l0_0 a0_1 a0_2 a0_3 a1 a2).bind fun bt242 => (if bt242.2.2 = true then (riposteref04_Questions.l0 k a1 a2 (([(⟨a1, a2, 1, 0⟩ : S52)] : List (S52))) 0 bt242.1 bt242.2.1) else (some ([] : List (S52))))) = some r := h
 clear h
 replace H := Option.bind_eq_some_iff.mp H
 obtain ⟨⟨t242, t243, t244⟩, A40, H⟩ := H
 replace H : (if t244 = true then (riposteref04_Questions.l0 k a1 a2 (([(⟨a1, a2, 1, 0⟩ : S52)] : List (S52))) 0 t242 t243) else (some ([] : List (S52)))) = some r := H
 have A4 := am A40
 clear A40
 by_cases c5 : t244 = true
 ·subst c5
  have H1 : (riposteref04_Questions.l0 k a1 a2 (([(⟨a1, a2, 1, 0⟩ : S52)] : List (S52))) 0 t242 t243) = some r := by rw [if_pos rfl] at H; exact H
  clear H
  have H := H1
  clear H1
  obtain ⟨y246, hy246⟩ : ∃ y_ : List (S52), y_ = (([(⟨a1, a2, 1, 0⟩ : S52)] : List (S52))) := ⟨_, rfl⟩
  replace H : (riposteref04_Questions.l0 k a1 a2 y246 0 t242 t243) = some r := by first | (rw [hy246]; with_reducible exact H)
  have Ny246 := am hy246
  clear hy246
  have H' := am H
  clear H
  go_enter Tryz.func72, Tryz.ntmps72
  go_wp2_with (first | ((with_reducible refine gate_dst (N := 3) rfl ?_); refine box_event ?hg (N := 3) ?hd (cs := #[.slice A0_0 l0_0.length c0_0, .bool a0_1, .int .i64 a0_2, .bool a0_3]) (t := 26) ?hr ?_; (case hd => rfl); (case hg => rfl); (case hr => go_simp); intro gb241 hg w6 hbox hb; have n0_ := am (below_step HB.out hb); have n1_ := am (hbox); have n2_ := am ((by rw [hg]; exact (below_size HB.out) : w.heap.size ≤ gb241)); have n3_ := am ((by rw [hg]; exact (below_size HB.out) : w.heap.size ≤ gb241)); clear HB; have HB := n0_; have BK241 := n1_; have GW241 := n2_; have GE241 := n3_; clear n0_ n1_ n2_ n3_; clear hb hbox hg; have hcz7_0 : w6.cell? ⟨gb241, 0, none⟩ = some (.slice A0_0 l0_0.length c0_0) := (blk_cell BK241.out 0).trans rfl; have hcz7_1 : w6.cell? ⟨gb241, 1, none⟩ = some (.bool a0_1) := (blk_cell BK241.out 1).trans rfl; have hcz7_2 : w6.cell? ⟨gb241, 2, none⟩ = some (.int .i64 a0_2) := (blk_cell BK241.out 2).trans rfl; have hcz7_3 : w6.cell? ⟨gb241, 3, none⟩ = some (.bool a0_3) := (blk_cell BK241.out 3).trans rfl; have hfz7_0 := blk_frozen BK241.out 0; have hfz7_1 := blk_frozen BK241.out 1; have hfz7_2 := blk_frozen BK241.out 2; have hfz7_3 := blk_frozen BK241.out 3) | ((with_reducible refine gate_callee (f := 105) rfl ?_); refine goesL_ (some 15) rfl rfl Tryz.func105 (by kernel_rfl) rfl #[.agg #[.slice A0_0 l0_0.length c0_0, .bool a0_1, .int .i64 a0_2, .bool a0_3], .int .i64 a1, .int .i64 a2] rfl (by (try simp only [List.map_toArray, List.map_cons, List.map_nil]); first | rfl) ?_; (with_reducible refine (riposteref04_Place.calls k _ _ l0_0 a0_1 a0_2 a0_3 a1 a2 t242 t243 true _ ?side1 ?side2 A4.out).mono ?_); (case side1 => repeat (first | exact (Kd.C_below HR0_0.out HB.out))); (case side2 => exact HC0_0.out); rintro e w8 ⟨rfl, hb⟩; refine ⟨_, rfl, ?_⟩; have n0_ := am (blk_below (g := gb241) (o := .cells #[.slice A0_0 l0_0.length c0_0, .bool a0_1, .int .i64 a0_2, .bool a0_3] 26 (0, 0)) BK241.out hb); have n1_ := am (below_step HB.out hb); clear BK241; clear HB; have BK241 := n0_; have HB := n1_; clear n0_ n1_; (try clear hb); (try clear hb2); (try clear hk); (try clear hi)) | ((with_reducible refine gate_dst (N := 7) rfl ?_); refine box_event ?hg (N := 7) ?hd (cs := #[.bool false, .int .i64 0]) (t := 24) ?hr ?_; (case hd => rfl); (case hg => rfl); (case hr => go_simp); intro gb245 hg w9 hbox hb; have n0_ := am (blk_below (g := gb241) (o := .cells #[.slice A0_0 l0_0.length c0_0, .bool a0_1, .int .i64 a0_2, .bool a0_3] 26 (0, 0)) BK241.out hb); have n1_ := am (below_step HB.out hb); have n2_ := am (hbox); have n3_ := am ((by rw [hg]; exact (below_size HB.out) : w.heap.size ≤ gb245)); have n4_ := am ((by rw [hg]; exact (below_size HB.out) : w.heap.size ≤ gb245)); have n5_ := am ((by rw [hg]; exact Nat.ne_of_lt (blk_lt (g := gb241) (o := .cells #[.slice A0_0 l0_0.length c0_0, .bool a0_1, .int .i64 a0_2, .bool a0_3] 26 (0, 0)) BK241.out) : gb241 ≠ gb245)); have n6_ := am ((by rw [hg]; exact Nat.ne_of_gt (blk_lt (g := gb241) (o := .cells #[.slice A0_0 l0_0.length c0_0, .bool a0_1, .int .i64 a0_2, .bool a0_3] 26 (0, 0)) BK241.out) : gb245 ≠ gb241)); clear BK241; clear HB; have BK241 := n0_; have HB := n1_; have BK245 := n2_; have GW245 := n3_; have GE245 := n4_; have NB241_245 := n5_; have NB245_241 := n6_; clear n0_ n1_ n2_ n3_ n4_ n5_ n6_; clear hb hbox hg; have hnb10 := NB245_241.out; have hnc10 := NB241_245.out; have hcz11_0 : w9.cell? ⟨gb245, 0, none⟩ = some (.bool false) := (blk_cell BK245.out 0).trans rfl; have hcz11_1 : w9.cell? ⟨gb245, 1, none⟩ = some (.int .i64 0) := (blk_cell BK245.out 1).trans rfl; have hfz11_0 := blk_frozen BK245.out 0; have hfz11_1 := blk_frozen BK245.out 1) | ((with_reducible refine gate_dst (N := 23) rfl ?_); refine Kd.R_lit k52 _ 52 ?hg (N := 23) ?hd (xs := ([(⟨a1, a2, 1, 0⟩ : S52)] : List (S52))) (inner := [.int .i64 a1, .int .i64 a2, .int .u8 1, .int .i64 0]) (ok := fun _ => True) (okp := fun _ => True) ?hr ?hp (fun _ hk => hk) trivial (Below.refl _ _) (Nat.le_refl _) (by simp) ?_; (case hd => rfl); (case hg => rfl); (case hr => go_simp); (case hp => exact (Reps.c4 (show Kd.M k52 _ _ _ (⟨a1, a2, 1, 0⟩ : S52) [.int .i64 a1, .int .i64 a2, .int .u8 1, .int .i64 0] from (k52_mkM _ _ _ (⟨a1, a2, 1, 0⟩ : S52) )) (Reps.none _ _))); intro v247 w12 ho13 hb hg_ hnew_; clear hg_ hnew_; (first | rw [← Ny246.out] at ho13); have n0_ := am (Kd.R_lower ho13 (below_size (by repeat (first | (with_reducible first | exact HB.out | refine below_set ?_ GE245.out))))); have n1_ := am (blk_below (g := gb241) (o := .cells #[.slice A0_0 l0_0.length c0_0, .bool a0_1, .int .i64 a0_2, .bool a0_3] 26 (0, 0)) (by refine blk_far ?_ NB241_245.out _; refine blk_far ?_ NB241_245.out _; exact BK241.out) hb); have n2_ := am (blk_below (g := gb245) (o := .cells #[.bool t242, .int .i64 t243] 24 (0, 0)) (by refine blk_put (cs := #[.bool t242, .int .i64 0]) ?_ 1 _ rfl; refine blk_put (cs := #[.bool false, .int .i64 0]) ?_ 0 _ rfl; exact BK245.out) hb); have n3_ := am (below_step (by repeat (first | (with_reducible first | exact HB.out | refine below_set ?_ GE245.out))) hb); clear BK241; clear BK245; clear HB; have HO248 := n0_; have BK241 := n1_; have BK245 := n2_; have HB := n3_; clear n0_ n1_ n2_ n3_; clear hb ho13))
  go_loopg [9, 10] k (fun kq v9 v10 w' => ∃ (x9_1 : List (S52)) (x10_1 : Int), v10 = .int .i64 x10_1 ∧ Aside0 (riposteref04_Questions.l0 kq a1 a2 x9_1 x10_1 t242 t243 = some r) ∧ Aside0 (kq ≤ k) ∧ Aside0 (Kd.R k52 52 w' w.heap.size (fun _ => True) v9 x9_1) ∧ Aside0 (w'.heap[gb241]? = some (.cells #[(.slice A0_0 l0_0.length c0_0), .bool a0_1, .int .i64 a0_2, .bool a0_3] 26 (0, 0))) ∧ Aside0 (w'.heap[gb245]? = some (.cells #[.bool t242, .int .i64 t243] 24 (0, 0))) ∧ Aside0 (Below w.heap.size w w'))
  case atStart => exact ⟨(y246), (0), (by first | rfl), H', ⟨Nat.le_refl _⟩, ⟨by exact HO248.out⟩, ⟨by exact BK241.out⟩, ⟨by exact BK245.out⟩, ⟨by exact HB.out⟩⟩
  case round =>
   clear H'
   try clear c1
   try clear p2
   try clear c4
   try clear c5
   try clear c7
   try clear c10
   try clear hcz11_0
   try clear hcz11_1
   try clear hcz7_0
   try clear hcz7_1
   try clear hcz7_2
   try clear hcz7_3
   try clear hfz11_0
   try clear hfz11_1
   try clear hfz7_0
   try clear hfz7_1
   try clear hfz7_2
   try clear hfz7_3
   obtain ⟨x9_1, x10_1, rfl, HA, HK1, HO_9, BK241, BK245, HB⟩ := hrel
   cases gk with
   | zero => exact absurd HA.out (by simp [riposteref04_Questions.l0])
   | succ k1 =>
    have H := HA.out
    clear HA
    simp only [riposteref04_Questions.l0] at H
    by_cases c14 : t242 = true
    ·subst c14
     have H1 : (if x10_1 < t243 then (if x9_1.length < 4398046511104 then (riposteref04_Questions.l0 k1 a1 a2 (x9_1 ++ [(⟨a1, a2, 2, x10_1⟩ : S52)]) (wrap64 (x10_1 + 1)) true t243) else (none)) else (some x9_1)) = some r := by rw [if_pos rfl] at H; exact H
     clear H
     have H := H1
     clear H1
     by_cases c15 : x10_1 < t243
     ·rw [if_pos c15] at H
      have c15b0 : decide (x10_1 < t243) = true := decide_eq_true c15
      clear c15
      by_cases c16 : x9_1.length < 4398046511104
      ·rw [if_pos c16] at H
       have LMc16 := am c16
       clear c16
       obtain ⟨y249, hy249⟩ : ∃ y_ : List (S52), y_ = (x9_1 ++ [(⟨a1, a2, 2, x10_1⟩ : S52)]) := ⟨_, rfl⟩
       replace H : (riposteref04_Questions.l0 k1 a1 a2 y249 (wrap64 (x10_1 + 1)) true t243) = some r := by first | (rw [hy249]; with_reducible exact H)
       have Ny249 := am hy249
       clear hy249
       have H' := am H
       clear H
       have hnb17 := NB245_241.out
       have hnc17 := NB241_245.out
       have hcz18_0 : wr.cell? ⟨gb245, 0, none⟩ = some (.bool true) := (blk_cell BK245.out 0).trans rfl
       have hcz18_1 : wr.cell? ⟨gb245, 1, none⟩ = some (.int .i64 t243) := (blk_cell BK245.out 1).trans rfl
       have hfz18_0 := blk_frozen BK245.out 0
       have hfz18_1 := blk_frozen BK245.out 1
       go_wp2_with (first | ((with_reducible refine gate_builtin (b := .append) (xs := #[.tmp 34, .tmp 39]) rfl ?_); at_builtin; refine Kd.R_append k52 (w0 := w) w.heap.size rfl (.tmp 34) (.tmp 39) 27 52 (.agg #[(.int .i64 0), (.int .i64 0), (.int .u8 0), (.int .i64 0)]) 32 rfl Tryz.underlying27 info52 rfl (by decide) (by omega) u9 x9_1 (⟨a1, a2, 2, x10_1⟩ : S52) [.int .i64 a1, .int .i64 a2, .int .u8 2, .int .i64 x10_1] (fun _ => True) (fun _ => False) rfl rfl ?aP (fun _ hk => hk.elim) ?aF ?aO ?aB ?aS ?aL ?_; (case aP => exact k52_mkM _ _ _ (⟨a1, a2, 2, x10_1⟩ : S52)); (case aB => exact HB.out); (case aF => exact (fun _ _ => trivial)); (case aO => exact HO_9.out); (case aS => exact (below_size HB.out)); (case aL => have := LMc16.out; omega); intro v250 w19 ho hb hg hat; rw [← Ny249.out] at ho; have n0_ := am (blk_grown (g := gb241) (o := .cells #[.slice A0_0 l0_0.length c0_0, .bool a0_1, .int .i64 a0_2, .bool a0_3] 26 (0, 0)) BK241.out hg (Kd.R_ne HO_9.out BK241.out (by decide))); have n1_ := am (blk_grown (g := gb245) (o := .cells #[.bool true, .int .i64 t243] 24 (0, 0)) BK245.out hg (Kd.R_ne HO_9.out BK245.out (by decide))); have n2_ := am (hb); have n3_ := am (ho); clear BK241; clear BK245; clear HB; clear HO_9; have BK241 := n0_; have BK245 := n1_; have HB := n2_; have HO251 := n3_; clear n0_ n1_ n2_ n3_; clear ho hb hg hat))
       go_roundg k1
       case measure => have := HK1.out; omega
       case rel => exact ⟨(y249), (wrap64 (x10_1 + 1)), (by first | rfl), H', ⟨by have := HK1.out; omega⟩, ⟨by exact HO251.out⟩, ⟨by exact BK241.out⟩, ⟨by exact BK245.out⟩, ⟨by exact HB.out⟩⟩
      rw [if_neg c16] at H
      exact absurd H (by simp)
     rw [if_neg c15] at H
     have c15b0 : decide (x10_1 < t243) = false := decide_eq_false c15
     clear c15
     obtain rfl := Option.some.inj H
     have hnb20 := NB245_241.out
     have hnc20 := NB241_245.out
     have hcz21_0 : wr.cell? ⟨gb245, 0, none⟩ = some (.bool true) := (blk_cell BK245.out 0).trans rfl
     have hcz21_1 : wr.cell? ⟨gb245, 1, none⟩ = some (.int .i64 t243) := (blk_cell BK245.out 1).trans rfl
     have hfz21_0 := blk_frozen BK245.out 0
     have hfz21_1 := blk_frozen BK245.out 1
     go_wp2
     go_ret
     exact ⟨_, by first | rfl, by exact HO_9.out, by exact HB.out⟩
    replace c14 := Bool.eq_false_iff.mpr c14
    subst c14
    have H1 : (some x9_1) = some r := by rw [if_neg (show ¬ (false = true) by decide)] at H; exact H
    clear H
    have H := H1
    clear H1
    obtain rfl := Option.some.inj H
    have hnb22 := NB245_241.out
    have hnc22 := NB241_245.out
    have hcz23_0 : wr.cell? ⟨gb245, 0, none⟩ = some (.bool false) := (blk_cell BK245.out 0).trans rfl
    have hcz23_1 : wr.cell? ⟨gb245, 1, none⟩ = some (.int .i64 t243) := (blk_cell BK245.out 1).trans rfl
    have hfz23_0 := blk_frozen BK245.out 0
    have hfz23_1 := blk_frozen BK245.out 1
    go_wp2
    go_ret
    exact ⟨_, by first | rfl, by exact HO_9.out, by exact HB.out⟩
 replace c5 := Bool.eq_false_iff.mpr c5
 subst c5
 have H1 : (some ([] : List (S52))) = some r := by rw [if_neg (show ¬ (false = true) by decide)] at H; exact H
 clear H
 have H := H1
 clear H1
 obtain rfl := Option.some.inj H
 go_enter Tryz.func72, Tryz.ntmps72
 go_wp2_with (first | ((with_reducible refine gate_dst (N := 3) rfl ?_); refine box_event ?hg (N := 3) ?hd (cs := #[.slice A0_0 l0_0.length c0_0, .bool a0_1, .int .i64 a0_2, .bool a0_3]) (t := 26) ?hr ?_; (case hd => rfl); (case hg => rfl); (case hr => go_simp); intro gb241 hg w24 hbox hb; have n0_ := am (below_step HB.out hb); have n1_ := am (hbox); have n2_ := am ((by rw [hg]; exact (below_size HB.out) : w.heap.size ≤ gb241)); have n3_ := am ((by rw [hg]; exact (below_size HB.out) : w.heap.size ≤ gb241)); clear HB; have HB := n0_; have BK241 := n1_; have GW241 := n2_; have GE241 := n3_; clear n0_ n1_ n2_ n3_; clear hb hbox hg; have hcz25_0 : w24.cell? ⟨gb241, 0, none⟩ = some (.slice A0_0 l0_0.length c0_0) := (blk_cell BK241.out 0).trans rfl; have hcz25_1 : w24.cell? ⟨gb241, 1, none⟩ = some (.bool a0_1) := (blk_cell BK241.out 1).trans rfl; have hcz25_2 : w24.cell? ⟨gb241, 2, none⟩ = some (.int .i64 a0_2) := (blk_cell BK241.out 2).trans rfl; have hcz25_3 : w24.cell? ⟨gb241, 3, none⟩ = some (.bool a0_3) := (blk_cell BK241.out 3).trans rfl; have hfz25_0 := blk_frozen BK241.out 0; have hfz25_1 := blk_frozen BK241.out 1; have hfz25_2 := blk_frozen BK241.out 2; have hfz25_3 := blk_frozen BK241.out 3) | ((with_reducible refine gate_callee (f := 105) rfl ?_); refine goesL_ (some 15) rfl rfl Tryz.func105 (by kernel_rfl) rfl #[.agg #[.slice A0_0 l0_0.length c0_0, .bool a0_1, .int .i64 a0_2, .bool a0_3], .int .i64 a1, .int .i64 a2] rfl (by (try simp only [List.map_toArray, List.map_cons, List.map_nil]); first | rfl) ?_; (with_reducible refine (riposteref04_Place.calls k _ _ l0_0 a0_1 a0_2 a0_3 a1 a2 t242 t243 false _ ?side1 ?side2 A4.out).mono ?_); (case side1 => repeat (first | exact (Kd.C_below HR0_0.out HB.out))); (case side2 => exact HC0_0.out); rintro e w26 ⟨rfl, hb⟩; refine ⟨_, rfl, ?_⟩; have n0_ := am (blk_below (g := gb241) (o := .cells #[.slice A0_0 l0_0.length c0_0, .bool a0_1, .int .i64 a0_2, .bool a0_3] 26 (0, 0)) BK241.out hb); have n1_ := am (below_step HB.out hb); clear BK241; clear HB; have BK241 := n0_; have HB := n1_; clear n0_ n1_; (try clear hb); (try clear hb2); (try clear hk); (try clear hi)) | ((with_reducible refine gate_dst (N := 7) rfl ?_); refine box_event ?hg (N := 7) ?hd (cs := #[.bool false, .int .i64 0]) (t := 24) ?hr ?_; (case hd => rfl); (case hg => rfl); (case hr => go_simp); intro gb245 hg w27 hbox hb; have n0_ := am (blk_below (g := gb241) (o := .cells #[.slice A0_0 l0_0.length c0_0, .bool a0_1, .int .i64 a0_2, .bool a0_3] 26 (0, 0)) BK241.out hb); have n1_ := am (below_step HB.out hb); have n2_ := am (hbox); have n3_ := am ((by rw [hg]; exact (below_size HB.out) : w.heap.size ≤ gb245)); have n4_ := am ((by rw [hg]; exact (below_size HB.out) : w.heap.size ≤ gb245)); have n5_ := am ((by rw [hg]; exact Nat.ne_of_lt (blk_lt (g := gb241) (o := .cells #[.slice A0_0 l0_0.length c0_0, .bool a0_1, .int .i64 a0_2, .bool a0_3] 26 (0, 0)) BK241.out) : gb241 ≠ gb245)); have n6_ := am ((by rw [hg]; exact Nat.ne_of_gt (blk_lt (g := gb241) (o := .cells #[.slice A0_0 l0_0.length c0_0, .bool a0_1, .int .i64 a0_2, .bool a0_3] 26 (0, 0)) BK241.out) : gb245 ≠ gb241)); clear BK241; clear HB; have BK241 := n0_; have HB := n1_; have BK245 := n2_; have GW245 := n3_; have GE245 := n4_; have NB241_245 := n5_; have NB245_241 := n6_; clear n0_ n1_ n2_ n3_ n4_ n5_ n6_; clear hb hbox hg; have hnb28 := NB245_241.out; have hnc28 := NB241_245.out; have hcz29_0 : w27.cell? ⟨gb245, 0, none⟩ = some (.bool false) := (blk_cell BK245.out 0).trans rfl; have hcz29_1 : w27.cell? ⟨gb245, 1, none⟩ = some (.int .i64 0) := (blk_cell BK245.out 1).trans rfl; have hfz29_0 := blk_frozen BK245.out 0; have hfz29_1 := blk_frozen BK245.out 1))
 go_ret
 exact ⟨_, by first | rfl, by first | exact Kd.R_nil _ _ _ _ _, by repeat (first | (with_reducible first | exact HB.out | refine below_set ?_ GE245.out))⟩
def riposteref04_Escapes.f (l0_0 : List (S68)) (a0_1 : Bool) (a0_2 : Int) (a0_3 : Bool) (a1 : Int) (a2 : Int) : Option (Bool) := if a2 > 0 then (some true) else (if a0_3 = true then (some true) else (if a1 > 0 then (if 0 ≤ (wrap64 (a1 - 1)) then (if (wrap64 (a1 - 1)) < (l0_0.length : Int) then (some (decide ((((rd_T68 l0_0 (wrap64 (a1 - 1))).f0).length : Int) > 0))) else (none)) else (none)) else (some false)))
set_option maxHeartbeats 8000000 in
set_option maxRecDepth 100000 in
theorem riposteref04_Escapes.calls (A0_0 : Option Addr) (c0_0 : Nat) (l0_0 : List (S68)) (a0_1 : Bool) (a0_2 : Int) (a0_3 : Bool) (a1 : Int) (a2 : Int) (r : Bool) (w : World) (hr0_0 : Kd.C k68 w A0_0 l0_0.length l0_0) (hc0_0 : l0_0.length ≤ c0_0) (h : riposteref04_Escapes.f l0_0 a0_1 a0_2 a0_3 a1 a2 = some r) :
  Calls Tryz.prog 106 #[.agg #[.slice A0_0 l0_0.length c0_0, .bool a0_1, .int .i64 a0_2, .bool a0_3], .int .i64 a1, .int .i64 a2] w fun e w' => e = .returned (.bool r) ∧ Below w.heap.size w w' := by
 have hu26 := Tryz.underlying26
 have HR0_0 := am hr0_0
 have HC0_0 := am hc0_0
 clear hr0_0 hc0_0
 have HB := am (Below.refl w.heap.size w)
 have H : (if a2 > 0 then (some true) else (if a0_3 = true then (some true) else (if a1 > 0 then (if 0 ≤ (wrap64 (a1 - 1)) then (if (wrap64 (a1 - 1)) < (l0_0.length : Int) then (some (decide ((((rd_T68 l0_0 (wrap64 (a1 - 1))).f0).length : Int) > 0))) else (none)) else (none)) else (some false)))) = some r := h
 clear h
 by_cases c4 : a2 > 0
 ·rw [if_pos c4] at H
  have c4b0 : decide (0 < a2) = true := decide_eq_true c4
  clear c4
  obtain rfl := Option.some.inj H
  go_enter Tryz.func106, Tryz.ntmps106
  go_wp2_with (first | ((with_reducible refine gate_dst (N := 3) rfl ?_); (try (refine gate_guard (by rfl) ?_; dsimp only)); refine box_event ?hg (N := 3) ?hd (cs := #[.slice A0_0 l0_0.length c0_0, .bool a0_1, .int .i64 a0_2, .bool a0_3]) (t := 26) ?hr ?_; (case hd => rfl); (case hg => rfl); (case hr => go_simp); intro gb252 hg w5 hbox hb; have n0_ := am (below_step HB.out hb); have n1_ := am (hbox); have n2_ := am ((by rw [hg]; exact (below_size HB.out) : w.heap.size ≤ gb252)); have n3_ := am ((by rw [hg]; exact (below_size HB.out) : w.heap.size ≤ gb252)); clear HB; have HB := n0_; have BK252 := n1_; have GW252 := n2_; have GE252 := n3_; clear n0_ n1_ n2_ n3_; clear hb hbox hg))
  go_ret
  exact ⟨by first | rfl, by exact HB.out⟩
 rw [if_neg c4] at H
 have c4b0 : decide (0 < a2) = false := decide_eq_false c4
 clear c4
 by_cases c6 : a0_3 = true
 ·subst c6
  have H1 : (some true) = some r := by rw [if_pos rfl] at H; exact H
  clear H
  have H := H1
  clear H1
  obtain rfl := Option.some.inj H
  go_enter Tryz.func106, Tryz.ntmps106
  go_wp2_with (first | ((with_reducible refine gate_dst (N := 3) rfl ?_); (try (refine gate_guard (by rfl) ?_; dsimp only)); refine box_event ?hg (N := 3) ?hd (cs := #[.slice A0_0 l0_0.length c0_0, .bool a0_1, .int .i64 a0_2, .bool true]) (t := 26) ?hr ?_; (case hd => rfl); (case hg => rfl); (case hr => go_simp); intro gb252 hg w7 hbox hb; have n0_ := am (below_step HB.out hb); have n1_ := am (hbox); have n2_ := am ((by rw [hg]; exact (below_size HB.out) : w.heap.size ≤ gb252)); have n3_ := am ((by rw [hg]; exact (below_size HB.out) : w.heap.size ≤ gb252)); clear HB; have HB := n0_; have BK252 := n1_; have GW252 := n2_; have GE252 := n3_; clear n0_ n1_ n2_ n3_; clear hb hbox hg; have hcz8_0 : w7.cell? ⟨gb252, 0, none⟩ = some (.slice A0_0 l0_0.length c0_0) := (blk_cell BK252.out 0).trans rfl; have hcz8_1 : w7.cell? ⟨gb252, 1, none⟩ = some (.bool a0_1) := (blk_cell BK252.out 1).trans rfl; have hcz8_2 : w7.cell? ⟨gb252, 2, none⟩ = some (.int .i64 a0_2) := (blk_cell BK252.out 2).trans rfl; have hcz8_3 : w7.cell? ⟨gb252, 3, none⟩ = some (.bool true) := (blk_cell BK252.out 3).trans rfl; have hfz8_0 := blk_frozen BK252.out 0; have hfz8_1 := blk_frozen BK252.out 1; have hfz8_2 := blk_frozen BK252.out 2; have hfz8_3 := blk_frozen BK252.out 3))
  go_ret
  exact ⟨by first | rfl, by exact HB.out⟩
 replace c6 := Bool.eq_false_iff.mpr c6
 subst c6
 have H1 : (if a1 > 0 then (if 0 ≤ (wrap64 (a1 - 1)) then (if (wrap64 (a1 - 1)) < (l0_0.length : Int) then (some (decide ((((rd_T68 l0_0 (wrap64 (a1 - 1))).f0).length : Int) > 0))) else (none)) else (none)) else (some false)) = some r := by rw [if_neg (show ¬ (false = true) by decide)] at H; exact H
 clear H
 have H := H1
 clear H1
 by_cases c9 : a1 > 0
 ·rw [if_pos c9] at H
  have c9b0 : decide (0 < a1) = true := decide_eq_true c9
  clear c9
  obtain ⟨ji10, hji10⟩ : ∃ j_ : Int, (wrap64 (a1 - 1)) = j_ := ⟨_, rfl⟩
  replace H : (if 0 ≤ (ji10) then (if (ji10) < (l0_0.length : Int) then (some (decide ((((rd_T68 l0_0 (ji10)).f0).length : Int) > 0))) else (none)) else (none)) = some r := by first | (rw [hji10] at H; exact H)
  have hji10w : (IntKind.i64.wrap (a1 - 1)) = ji10 := (i64_w _).trans hji10
  by_cases c11 : 0 ≤ (ji10)
  ·rw [if_pos c11] at H
   have c11b0 : decide (0 ≤ (ji10)) = true := decide_eq_true c11
   clear c11
   by_cases c12 : (ji10) < (l0_0.length : Int)
   ·rw [if_pos c12] at H
    have c12b0 : decide ((ji10) < (l0_0.length : Int)) = true := decide_eq_true c12
    clear c12
    obtain rfl := Option.some.inj H
    go_enter Tryz.func106, Tryz.ntmps106
    go_wp2_with (first | ((with_reducible refine gate_dst (N := 3) rfl ?_); (try (refine gate_guard (by rfl) ?_; dsimp only)); refine box_event ?hg (N := 3) ?hd (cs := #[.slice A0_0 l0_0.length c0_0, .bool a0_1, .int .i64 a0_2, .bool false]) (t := 26) ?hr ?_; (case hd => rfl); (case hg => rfl); (case hr => go_simp); intro gb252 hg w13 hbox hb; have n0_ := am (below_step HB.out hb); have n1_ := am (hbox); have n2_ := am ((by rw [hg]; exact (below_size HB.out) : w.heap.size ≤ gb252)); have n3_ := am ((by rw [hg]; exact (below_size HB.out) : w.heap.size ≤ gb252)); clear HB; have HB := n0_; have BK252 := n1_; have GW252 := n2_; have GE252 := n3_; clear n0_ n1_ n2_ n3_; clear hb hbox hg; have hcz14_0 : w13.cell? ⟨gb252, 0, none⟩ = some (.slice A0_0 l0_0.length c0_0) := (blk_cell BK252.out 0).trans rfl; have hcz14_1 : w13.cell? ⟨gb252, 1, none⟩ = some (.bool a0_1) := (blk_cell BK252.out 1).trans rfl; have hcz14_2 : w13.cell? ⟨gb252, 2, none⟩ = some (.int .i64 a0_2) := (blk_cell BK252.out 2).trans rfl; have hcz14_3 : w13.cell? ⟨gb252, 3, none⟩ = some (.bool false) := (blk_cell BK252.out 3).trans rfl; have hfz14_0 := blk_frozen BK252.out 0; have hfz14_1 := blk_frozen BK252.out 1; have hfz14_2 := blk_frozen BK252.out 2; have hfz14_3 := blk_frozen BK252.out 3; have p253 : 0 ≤ ((ji10) : Int) := of_decide_eq_true (by first | (with_reducible assumption)); have q253 : (ji10) < (l0_0.length : Int) := of_decide_eq_true (by first | (with_reducible assumption)); obtain ⟨ad253, A253_0, c253_0, e253, hx253_0, hx253_1, hx253_2, hl253_0, hi253_0⟩ := at_T68 HR0_0.out (ji10) p253 q253; cases e253; replace hx253_0 := (HB.out.cell (World.block_lt_of_cell? w _ hx253_0)).trans hx253_0; replace hx253_1 := (HB.out.cell (World.block_lt_of_cell? w _ hx253_1)).trans hx253_1; replace hx253_2 := (HB.out.cell (World.block_lt_of_cell? w _ hx253_2)).trans hx253_2; have HR253_0 := am hi253_0; have HC253_0 := am hl253_0; clear hi253_0 hl253_0; replace p253 := eq_true p253; replace q253 := eq_true q253))
    go_ret
    exact ⟨by first | rfl, by exact HB.out⟩
   rw [if_neg c12] at H
   exact absurd H (by simp)
  rw [if_neg c11] at H
  exact absurd H (by simp)
 rw [if_neg c9] at H
 have c9b0 : decide (0 < a1) = false := decide_eq_false c9
 clear c9
 obtain rfl := Option.some.inj H
 go_enter Tryz.func106, Tryz.ntmps106
 go_wp2_with (first | ((with_reducible refine gate_dst (N := 3) rfl ?_); (try (refine gate_guard (by rfl) ?_; dsimp only)); refine box_event ?hg (N := 3) ?hd (cs := #[.slice A0_0 l0_0.length c0_0, .bool a0_1, .int .i64 a0_2, .bool false]) (t := 26) ?hr ?_; (case hd => rfl); (case hg => rfl); (case hr => go_simp); intro gb252 hg w15 hbox hb; have n0_ := am (below_step HB.out hb); have n1_ := am (hbox); have n2_ := am ((by rw [hg]; exact (below_size HB.out) : w.heap.size ≤ gb252)); have n3_ := am ((by rw [hg]; exact (below_size HB.out) : w.heap.size ≤ gb252)); clear HB; have HB := n0_; have BK252 := n1_; have GW252 := n2_; have GE252 := n3_; clear n0_ n1_ n2_ n3_; clear hb hbox hg; have hcz16_0 : w15.cell? ⟨gb252, 0, none⟩ = some (.slice A0_0 l0_0.length c0_0) := (blk_cell BK252.out 0).trans rfl; have hcz16_1 : w15.cell? ⟨gb252, 1, none⟩ = some (.bool a0_1) := (blk_cell BK252.out 1).trans rfl; have hcz16_2 : w15.cell? ⟨gb252, 2, none⟩ = some (.int .i64 a0_2) := (blk_cell BK252.out 2).trans rfl; have hcz16_3 : w15.cell? ⟨gb252, 3, none⟩ = some (.bool false) := (blk_cell BK252.out 3).trans rfl; have hfz16_0 := blk_frozen BK252.out 0; have hfz16_1 := blk_frozen BK252.out 1; have hfz16_2 := blk_frozen BK252.out 2; have hfz16_3 := blk_frozen BK252.out 3))
 go_ret
 exact ⟨by first | rfl, by exact HB.out⟩
end Go.Proofs.YtjgocihflhljeaaGreat.P
namespace Go.Proofs.YtjgocihflhljeaaGreat.P
open Go.RowKit Go.Proofs.YtjgocihflhljeaaGreatW.PrintWords Go.Proofs.YtjgocihflhljeaaGreatW.PrintLast Go.Proofs.YtjgocihflhljeaaGreatW.PrintMore
attribute [local go_sem] max2_int max_two
mutual
def riposteref04_Told.j0 : Nat → Int → Int → Int → List (S52) → Bool → Int → Option ((List (S52)))
 | 0, _, _, _, _, _, _ => none
 | k + 1, x1, x2, x3, x11, x259000, x259001 => riposteref04_Told.l0 k x1 x2 x3 x11 0 x259000 x259001
def riposteref04_Told.l0 : Nat → Int → Int → Int → List (S52) → Int → Bool → Int → Option ((List (S52)))
 | 0, _, _, _, _, _, _, _ => none
 | k + 1, x1, x2, x3, x11, x12, x259000, x259001 => if x12 < x259001 then (if x12 = 0 then (if x11.length < 4398046511104 then (riposteref04_Told.l0 k x1 x2 x3 (x11 ++ [(⟨x1, x2, 3, x12⟩ : S52)]) (wrap64 (x12 + 1)) x259000 x259001) else (none)) else (if x3 = 1 then (if x11.length < 4398046511104 then (riposteref04_Told.l0 k x1 x2 x3 (x11 ++ [(⟨x1, x2, 3, x12⟩ : S52)]) (wrap64 (x12 + 1)) x259000 x259001) else (none)) else (some x11))) else (some x11)
end
def riposteref04_Told.f (k : Nat) (l0_0 : List (S68)) (a0_1 : Bool) (a0_2 : Int) (a0_3 : Bool) (a1 : Int) (a2 : Int) (a3 : Int) : Option ((List (S52))) := (riposteref04_Place.f k l0_0 a0_1 a0_2 a0_3 a1 a2).bind fun bt255 => (if bt255.2.2 = true then ((riposteref04_Escapes.f l0_0 a0_1 a0_2 a0_3 a1 a2).bind fun t259 => (if t259 = true then (if ([] : List (S52)).length < 4398046511104 then (riposteref04_Told.j0 k a1 a2 a3 (([] : List (S52)) ++ [(⟨a1, a2, 3, (-1)⟩ : S52)]) bt255.1 bt255.2.1) else (none)) else (riposteref04_Told.j0 k a1 a2 a3 ([] : List (S52)) bt255.1 bt255.2.1))) else (some ([] : List (S52))))
set_option maxHeartbeats 8000000 in
set_option maxRecDepth 100000 in
theorem riposteref04_Told.calls (k : Nat) (A0_0 : Option Addr) (c0_0 : Nat) (l0_0 : List (S68)) (a0_1 : Bool) (a0_2 : Int) (a0_3 : Bool) (a1 : Int) (a2 : Int) (a3 : Int) (r : List (S52)) (w : World) (hr0_0 : Kd.C k68 w A0_0 l0_0.length l0_0) (hc0_0 : l0_0.length ≤ c0_0) (h : riposteref04_Told.f k l0_0 a0_1 a0_2 a0_3 a1 a2 a3 = some r) :
  Calls Tryz.prog 73 #[.agg #[.slice A0_0 l0_0.length c0_0, .bool a0_1, .int .i64 a0_2, .bool a0_3], .int .i64 a1, .int .i64 a2, .int .u8 a3] w fun e w' => ∃ v0_ : Value, e = .returned (v0_) ∧ Kd.R k52 52 w' w.heap.size (fun _ => True) v0_ r ∧ Below w.heap.size w w' := by
 have hu26 := Tryz.underlying26
 have hu24 := Tryz.underlying24
 have hu52 := Tryz.underlying52
 have HR0_0 := am hr0_0
 have HC0_0 := am hc0_0
 clear hr0_0 hc0_0
 have HB := am (Below.refl w.heap.size w)
 have H : ((riposteref04_Place.f k l0_0 a0_1 a0_2 a0_3 a1 a2).bind fun bt255 => (if bt255.2.2 = true then ((riposteref04_Escapes.f l0_0 a0_1 a0_2 a0_3 a1 a2).bind fun t259 => (if t259 = true then (if ([] : List (S52)).length < 4398046511104 then (riposteref04_Told.j0 k a1 a2 a3 (([] : List (S52)) ++ [(⟨a1, a2, 3, (-1)⟩ : S52)]) bt255.1 bt255.2.1) else (none)) else (riposteref04_Told.j0 k a1 a2 a3 ([] : List (S52)) bt255.1 bt255.2.1))) else (some ([] : List (S52))))) = some r := h
 clear h
 replace H := Option.bind_eq_some_iff.mp H
 obtain ⟨⟨t255, t256, t257⟩, A50, H⟩ := H
 replace H : (if t257 = true then ((riposteref04_Escapes.f l0_0 a0_1 a0_2 a0_3 a1 a2).bind fun t259 => (if t259 = true then (if ([] : List (S52)).length < 4398046511104 then (riposteref04_Told.j0 k a1 a2 a3 (([] : List (S52)) ++ [(⟨a1, a2, 3, (-1)⟩ : S52)]) t255 t256) else (none)) else (riposteref04_Told.j0 k a1 a2 a3 ([] : List (S52)) t255 t256))) else (some ([] : List (S52)))) = some r := H
 have A5 := am A50
 clear A50
 by_cases c6 : t257 = true
 ·subst c6
  have H1 : ((riposteref04_Escapes.f l0_0 a0_1 a0_2 a0_3 a1 a2).bind fun t259 => (if t259 = true then (if ([] : List (S52)).length < 4398046511104 then (riposteref04_Told.j0 k a1 a2 a3 (([] : List (S52)) ++ [(⟨a1, a2, 3, (-1)⟩ : S52)]) t255 t256) else (none)) else (riposteref04_Told.j0 k a1 a2 a3 ([] : List (S52)) t255 t256))) = some r := by rw [if_pos rfl] at H; exact H
  clear H
  have H := H1
  clear H1
  replace H := Option.bind_eq_some_iff.mp H
  obtain ⟨t259, A70, H⟩ := H
  replace H : (if t259 = true then (if ([] : List (S52)).length < 4398046511104 then (riposteref04_Told.j0 k a1 a2 a3 (([] : List (S52)) ++ [(⟨a1, a2, 3, (-1)⟩ : S52)]) t255 t256) else (none)) else (riposteref04_Told.j0 k a1 a2 a3 ([] : List (S52)) t255 t256)) = some r := H
  have A7 := am A70
  clear A70
  have HC8 := am H
  clear H
  go_enter Tryz.func73, Tryz.ntmps73
  go_upto_if 25 with (first | ((with_reducible refine gate_dst (N := 4) rfl ?_); refine box_event ?hg (N := 4) ?hd (cs := #[.slice A0_0 l0_0.length c0_0, .bool a0_1, .int .i64 a0_2, .bool a0_3]) (t := 26) ?hr ?_; (case hd => rfl); (case hg => rfl); (case hr => go_simp); intro gb254 hg w9 hbox hb; have n0_ := am (below_step HB.out hb); have n1_ := am (hbox); have n2_ := am ((by rw [hg]; exact (below_size HB.out) : w.heap.size ≤ gb254)); have n3_ := am ((by rw [hg]; exact (below_size HB.out) : w.heap.size ≤ gb254)); clear HB; have HB := n0_; have BK254 := n1_; have GW254 := n2_; have GE254 := n3_; clear n0_ n1_ n2_ n3_; clear hb hbox hg; have hcz10_0 : w9.cell? ⟨gb254, 0, none⟩ = some (.slice A0_0 l0_0.length c0_0) := (blk_cell BK254.out 0).trans rfl; have hcz10_1 : w9.cell? ⟨gb254, 1, none⟩ = some (.bool a0_1) := (blk_cell BK254.out 1).trans rfl; have hcz10_2 : w9.cell? ⟨gb254, 2, none⟩ = some (.int .i64 a0_2) := (blk_cell BK254.out 2).trans rfl; have hcz10_3 : w9.cell? ⟨gb254, 3, none⟩ = some (.bool a0_3) := (blk_cell BK254.out 3).trans rfl; have hfz10_0 := blk_frozen BK254.out 0; have hfz10_1 := blk_frozen BK254.out 1; have hfz10_2 := blk_frozen BK254.out 2; have hfz10_3 := blk_frozen BK254.out 3) | ((with_reducible refine gate_callee (f := 105) rfl ?_); refine goesL_ (some 17) rfl rfl Tryz.func105 (by kernel_rfl) rfl #[.agg #[.slice A0_0 l0_0.length c0_0, .bool a0_1, .int .i64 a0_2, .bool a0_3], .int .i64 a1, .int .i64 a2] rfl (by (try simp only [List.map_toArray, List.map_cons, List.map_nil]); first | rfl) ?_; (with_reducible refine (riposteref04_Place.calls k _ _ l0_0 a0_1 a0_2 a0_3 a1 a2 t255 t256 true _ ?side1 ?side2 A5.out).mono ?_); (case side1 => repeat (first | exact (Kd.C_below HR0_0.out HB.out))); (case side2 => exact HC0_0.out); rintro e w11 ⟨rfl, hb⟩; refine ⟨_, rfl, ?_⟩; have n0_ := am (blk_below (g := gb254) (o := .cells #[.slice A0_0 l0_0.length c0_0, .bool a0_1, .int .i64 a0_2, .bool a0_3] 26 (0, 0)) BK254.out hb); have n1_ := am (below_step HB.out hb); clear BK254; clear HB; have BK254 := n0_; have HB := n1_; clear n0_ n1_; (try clear hb); (try clear hb2); (try clear hk); (try clear hi)) | ((with_reducible refine gate_dst (N := 9) rfl ?_); refine box_event ?hg (N := 9) ?hd (cs := #[.bool false, .int .i64 0]) (t := 24) ?hr ?_; (case hd => rfl); (case hg => rfl); (case hr => go_simp); intro gb258 hg w12 hbox hb; have n0_ := am (blk_below (g := gb254) (o := .cells #[.slice A0_0 l0_0.length c0_0, .bool a0_1, .int .i64 a0_2, .bool a0_3] 26 (0, 0)) BK254.out hb); have n1_ := am (below_step HB.out hb); have n2_ := am (hbox); have n3_ := am ((by rw [hg]; exact (below_size HB.out) : w.heap.size ≤ gb258)); have n4_ := am ((by rw [hg]; exact (below_size HB.out) : w.heap.size ≤ gb258)); have n5_ := am ((by rw [hg]; exact Nat.ne_of_lt (blk_lt (g := gb254) (o := .cells #[.slice A0_0 l0_0.length c0_0, .bool a0_1, .int .i64 a0_2, .bool a0_3] 26 (0, 0)) BK254.out) : gb254 ≠ gb258)); have n6_ := am ((by rw [hg]; exact Nat.ne_of_gt (blk_lt (g := gb254) (o := .cells #[.slice A0_0 l0_0.length c0_0, .bool a0_1, .int .i64 a0_2, .bool a0_3] 26 (0, 0)) BK254.out) : gb258 ≠ gb254)); clear BK254; clear HB; have BK254 := n0_; have HB := n1_; have BK258 := n2_; have GW258 := n3_; have GE258 := n4_; have NB254_258 := n5_; have NB258_254 := n6_; clear n0_ n1_ n2_ n3_ n4_ n5_ n6_; clear hb hbox hg; have hnb13 := NB258_254.out; have hnc13 := NB254_258.out; have hcz14_0 : w12.cell? ⟨gb258, 0, none⟩ = some (.bool false) := (blk_cell BK258.out 0).trans rfl; have hcz14_1 : w12.cell? ⟨gb258, 1, none⟩ = some (.int .i64 0) := (blk_cell BK258.out 1).trans rfl; have hfz14_0 := blk_frozen BK258.out 0; have hfz14_1 := blk_frozen BK258.out 1; have hcz15_0 : w12.cell? ⟨gb254, 0, none⟩ = some (.slice A0_0 l0_0.length c0_0) := (blk_cell BK254.out 0).trans rfl; have hcz15_1 : w12.cell? ⟨gb254, 1, none⟩ = some (.bool a0_1) := (blk_cell BK254.out 1).trans rfl; have hcz15_2 : w12.cell? ⟨gb254, 2, none⟩ = some (.int .i64 a0_2) := (blk_cell BK254.out 2).trans rfl; have hcz15_3 : w12.cell? ⟨gb254, 3, none⟩ = some (.bool a0_3) := (blk_cell BK254.out 3).trans rfl; have hfz15_0 := blk_frozen BK254.out 0; have hfz15_1 := blk_frozen BK254.out 1; have hfz15_2 := blk_frozen BK254.out 2; have hfz15_3 := blk_frozen BK254.out 3) | ((with_reducible refine gate_callee (f := 106) rfl ?_); refine goesL_ (some 25) rfl rfl Tryz.func106 (by kernel_rfl) rfl #[.agg #[.slice A0_0 l0_0.length c0_0, .bool a0_1, .int .i64 a0_2, .bool a0_3], .int .i64 a1, .int .i64 a2] rfl (by (try simp only [List.map_toArray, List.map_cons, List.map_nil]); first | rfl) ?_; (with_reducible refine (riposteref04_Escapes.calls _ _ l0_0 a0_1 a0_2 a0_3 a1 a2 t259 _ ?side1 ?side2 A7.out).mono ?_); (case side1 => exact Kd.C_below HR0_0.out (by repeat (first | (with_reducible first | exact HB.out | refine below_set ?_ GE258.out)))); (case side2 => exact HC0_0.out); rintro e w16 ⟨rfl, hb⟩; refine ⟨_, rfl, ?_⟩; have n0_ := am (blk_below (g := gb254) (o := .cells #[.slice A0_0 l0_0.length c0_0, .bool a0_1, .int .i64 a0_2, .bool a0_3] 26 (0, 0)) (by refine blk_far ?_ NB254_258.out _; refine blk_far ?_ NB254_258.out _; exact BK254.out) hb); have n1_ := am (blk_below (g := gb258) (o := .cells #[.bool t255, .int .i64 t256] 24 (0, 0)) (by refine blk_put (cs := #[.bool t255, .int .i64 0]) ?_ 1 _ rfl; refine blk_put (cs := #[.bool false, .int .i64 0]) ?_ 0 _ rfl; exact BK258.out) hb); have n2_ := am (below_step (by repeat (first | (with_reducible first | exact HB.out | refine below_set ?_ GE258.out))) hb); clear BK254; clear BK258; clear HB; have BK254 := n0_; have BK258 := n1_; have HB := n2_; clear n0_ n1_ n2_; (try clear hb); (try clear hb2); (try clear hk); (try clear hi)))
  (try simp only [Act.put, sn1, sn2, sn3])
  go_cut [11] (fun v11 wc => ∃ (kq : Nat) (x11_7 : List (S52)), Aside0 (riposteref04_Told.j0 kq a1 a2 a3 x11_7 t255 t256 = some r) ∧ Aside0 (kq ≤ k) ∧ Aside0 (Kd.R k52 52 wc w.heap.size (fun _ => True) v11 x11_7) ∧ Aside0 (wc.heap[gb254]? = some (.cells #[(.slice A0_0 l0_0.length c0_0), .bool a0_1, .int .i64 a0_2, .bool a0_3] 26 (0, 0))) ∧ Aside0 (wc.heap[gb258]? = some (.cells #[.bool t255, .int .i64 t256] 24 (0, 0))) ∧ Aside0 (Below w.heap.size w wc))
  case first =>
   have H := HC8.out
   clear HC8
   by_cases c17 : t259 = true
   ·subst c17
    have H1 : (if ([] : List (S52)).length < 4398046511104 then (riposteref04_Told.j0 k a1 a2 a3 (([] : List (S52)) ++ [(⟨a1, a2, 3, (-1)⟩ : S52)]) t255 t256) else (none)) = some r := by rw [if_pos rfl] at H; exact H
    clear H
    have H := H1
    clear H1
    by_cases c18 : ([] : List (S52)).length < 4398046511104
    ·rw [if_pos c18] at H
     have LMc18 := am c18
     clear c18
     obtain ⟨y260, hy260⟩ : ∃ y_ : List (S52), y_ = (([] : List (S52)) ++ [(⟨a1, a2, 3, (-1)⟩ : S52)]) := ⟨_, rfl⟩
     replace H : (riposteref04_Told.j0 k a1 a2 a3 y260 t255 t256) = some r := by first | (rw [hy260]; with_reducible exact H)
     have Ny260 := am hy260
     clear hy260
     have H' := am H
     clear H
     go_wp2_with (first | ((with_reducible refine gate_builtin (b := .append) (xs := #[.tmp 26, .tmp 30]) rfl ?_); at_builtin; refine Kd.R_append k52 (w0 := w) w.heap.size rfl (.tmp 26) (.tmp 30) 27 52 (.agg #[(.int .i64 0), (.int .i64 0), (.int .u8 0), (.int .i64 0)]) 32 rfl Tryz.underlying27 info52 rfl (by decide) (by omega) (.slice none 0 0) ([] : List (S52)) (⟨a1, a2, 3, (-1)⟩ : S52) [.int .i64 a1, .int .i64 a2, .int .u8 3, .int .i64 (-1)] (fun _ => True) (fun _ => False) rfl rfl ?aP (fun _ hk => hk.elim) ?aF ?aO ?aB ?aS ?aL ?_; (case aP => exact k52_mkM _ _ _ (⟨a1, a2, 3, (-1)⟩ : S52)); (case aB => exact HB.out); (case aF => exact (fun _ _ => trivial)); (case aO => exact ((Kd.R_nil _ _ _ _ (fun _ => True)))); (case aS => exact (below_size HB.out)); (case aL => have := LMc18.out; omega); intro v261 w19 ho hb hg hat; rw [← Ny260.out] at ho; have n0_ := am (blk_grown (g := gb254) (o := .cells #[.slice A0_0 l0_0.length c0_0, .bool a0_1, .int .i64 a0_2, .bool a0_3] 26 (0, 0)) BK254.out hg (by simp [Value.ownBlock])); have n1_ := am (blk_grown (g := gb258) (o := .cells #[.bool t255, .int .i64 t256] 24 (0, 0)) BK258.out hg (by simp [Value.ownBlock])); have n2_ := am (hb); have n3_ := am (ho); clear BK254; clear BK258; clear HB; have BK254 := n0_; have BK258 := n1_; have HB := n2_; have HO262 := n3_; clear n0_ n1_ n2_ n3_; clear ho hb hg hat))
     go_meet
     case rel => exact ⟨_, (y260), H', ⟨by first | omega⟩, ⟨by exact HO262.out⟩, ⟨by exact BK254.out⟩, ⟨by exact BK258.out⟩, ⟨by exact HB.out⟩⟩
    rw [if_neg c18] at H
    exact absurd H (by simp)
   replace c17 := Bool.eq_false_iff.mpr c17
   subst c17
   have H1 : (riposteref04_Told.j0 k a1 a2 a3 ([] : List (S52)) t255 t256) = some r := by rw [if_neg (show ¬ (false = true) by decide)] at H; exact H
   clear H
   have H := H1
   clear H1
   have H' := am H
   clear H
   go_wp2
   go_meet
   case rel => exact ⟨_, (([] : List (S52))), H', ⟨by first | omega⟩, ⟨by first | exact Kd.R_nil _ _ _ _ _⟩, ⟨by exact BK254.out⟩, ⟨by exact BK258.out⟩, ⟨by exact HB.out⟩⟩
  case rest =>
   clear HC8
   try clear c1
   try clear p2
   try clear c6
   try clear c7
   try clear c10
   try clear c13
   try clear c17
   try clear c18
   try clear hcz10_0
   try clear hcz10_1
   try clear hcz10_2
   try clear hcz10_3
   try clear hcz14_0
   try clear hcz14_1
   try clear hcz15_0
   try clear hcz15_1
   try clear hcz15_2
   try clear hcz15_3
   try clear hfz10_0
   try clear hfz10_1
   try clear hfz10_2
   try clear hfz10_3
   try clear hfz14_0
   try clear hfz14_1
   try clear hfz15_0
   try clear hfz15_1
   try clear hfz15_2
   try clear hfz15_3
   obtain ⟨kq, x11_7, HA, HJ7, HO_11, BK254, BK258, HB⟩ := hcut
   cases kq with
   | zero => exact absurd HA.out (by simp [riposteref04_Told.j0])
   | succ kj7 =>
    have H := HA.out
    clear HA
    simp only [riposteref04_Told.j0] at H
    have H' := am H
    clear H
    go_wp2
    go_loopg [11, 12] kj7 (fun kq v11 v12 w' => ∃ (x11_2 : List (S52)) (x12_2 : Int), v12 = .int .i64 x12_2 ∧ Aside0 (riposteref04_Told.l0 kq a1 a2 a3 x11_2 x12_2 t255 t256 = some r) ∧ Aside0 (kq ≤ kj7) ∧ Aside0 (Kd.R k52 52 w' w.heap.size (fun _ => True) v11 x11_2) ∧ Aside0 (w'.heap[gb254]? = some (.cells #[(.slice A0_0 l0_0.length c0_0), .bool a0_1, .int .i64 a0_2, .bool a0_3] 26 (0, 0))) ∧ Aside0 (w'.heap[gb258]? = some (.cells #[.bool t255, .int .i64 t256] 24 (0, 0))) ∧ Aside0 (Below w.heap.size w w'))
    case atStart => exact ⟨(x11_7), (0), (by first | rfl), H', ⟨Nat.le_refl _⟩, ⟨by exact HO_11.out⟩, ⟨by exact BK254.out⟩, ⟨by exact BK258.out⟩, ⟨by exact HB.out⟩⟩
    case round =>
     clear H'
     try clear c1
     try clear p2
     try clear c6
     try clear c7
     try clear c10
     try clear c13
     try clear c17
     try clear c18
     try clear hcz10_0
     try clear hcz10_1
     try clear hcz10_2
     try clear hcz10_3
     try clear hcz14_0
     try clear hcz14_1
     try clear hcz15_0
     try clear hcz15_1
     try clear hcz15_2
     try clear hcz15_3
     try clear hfz10_0
     try clear hfz10_1
     try clear hfz10_2
     try clear hfz10_3
     try clear hfz14_0
     try clear hfz14_1
     try clear hfz15_0
     try clear hfz15_1
     try clear hfz15_2
     try clear hfz15_3
     try clear p2
     obtain ⟨x11_2, x12_2, rfl, HA, HK2, HO_11, BK254, BK258, HB⟩ := hrel
     cases gk with
     | zero => exact absurd HA.out (by simp [riposteref04_Told.l0])
     | succ k2 =>
      have H := HA.out
      clear HA
      simp only [riposteref04_Told.l0] at H
      by_cases c20 : x12_2 < t256
      ·rw [if_pos c20] at H
       have c20b0 : decide (x12_2 < t256) = true := decide_eq_true c20
       clear c20
       by_cases c21 : x12_2 = 0
       ·rw [if_pos c21] at H
        have c21b0 : (x12_2 == 0) = true := beq_iff_eq.mpr c21
        have c21b1 : (x12_2 != 0) = false := bne_eq_false_iff_eq.mpr c21
        clear c21
        by_cases c22 : x11_2.length < 4398046511104
        ·rw [if_pos c22] at H
         have LMc22 := am c22
         clear c22
         obtain ⟨y263, hy263⟩ : ∃ y_ : List (S52), y_ = (x11_2 ++ [(⟨a1, a2, 3, x12_2⟩ : S52)]) := ⟨_, rfl⟩
         replace H : (riposteref04_Told.l0 k2 a1 a2 a3 y263 (wrap64 (x12_2 + 1)) t255 t256) = some r := by first | (rw [hy263]; with_reducible exact H)
         have Ny263 := am hy263
         clear hy263
         have H' := am H
         clear H
         have hnb23 := NB258_254.out
         have hnc23 := NB254_258.out
         have hcz24_0 : wr.cell? ⟨gb258, 0, none⟩ = some (.bool t255) := (blk_cell BK258.out 0).trans rfl
         have hcz24_1 : wr.cell? ⟨gb258, 1, none⟩ = some (.int .i64 t256) := (blk_cell BK258.out 1).trans rfl
         have hfz24_0 := blk_frozen BK258.out 0
         have hfz24_1 := blk_frozen BK258.out 1
         go_wp2_with (first | ((with_reducible refine gate_builtin (b := .append) (xs := #[.tmp 46, .tmp 51]) rfl ?_); at_builtin; refine Kd.R_append k52 (w0 := w) w.heap.size rfl (.tmp 46) (.tmp 51) 27 52 (.agg #[(.int .i64 0), (.int .i64 0), (.int .u8 0), (.int .i64 0)]) 32 rfl Tryz.underlying27 info52 rfl (by decide) (by omega) u11 x11_2 (⟨a1, a2, 3, x12_2⟩ : S52) [.int .i64 a1, .int .i64 a2, .int .u8 3, .int .i64 x12_2] (fun _ => True) (fun _ => False) rfl rfl ?aP (fun _ hk => hk.elim) ?aF ?aO ?aB ?aS ?aL ?_; (case aP => exact k52_mkM _ _ _ (⟨a1, a2, 3, x12_2⟩ : S52)); (case aB => exact HB.out); (case aF => exact (fun _ _ => trivial)); (case aO => exact HO_11.out); (case aS => exact (below_size HB.out)); (case aL => have := LMc22.out; omega); intro v264 w25 ho hb hg hat; rw [← Ny263.out] at ho; have n0_ := am (blk_grown (g := gb254) (o := .cells #[.slice A0_0 l0_0.length c0_0, .bool a0_1, .int .i64 a0_2, .bool a0_3] 26 (0, 0)) BK254.out hg (Kd.R_ne HO_11.out BK254.out (by decide))); have n1_ := am (blk_grown (g := gb258) (o := .cells #[.bool t255, .int .i64 t256] 24 (0, 0)) BK258.out hg (Kd.R_ne HO_11.out BK258.out (by decide))); have n2_ := am (hb); have n3_ := am (ho); clear BK254; clear BK258; clear HB; clear HO_11; have BK254 := n0_; have BK258 := n1_; have HB := n2_; have HO265 := n3_; clear n0_ n1_ n2_ n3_; clear ho hb hg hat))
         go_roundg k2
         case measure => have := HJ7.out; have := HK2.out; omega
         case rel => exact ⟨(y263), (wrap64 (x12_2 + 1)), (by first | rfl), H', ⟨by have := HJ7.out; have := HK2.out; omega⟩, ⟨by exact HO265.out⟩, ⟨by exact BK254.out⟩, ⟨by exact BK258.out⟩, ⟨by exact HB.out⟩⟩
        rw [if_neg c22] at H
        exact absurd H (by simp)
       rw [if_neg c21] at H
       have c21b0 : (x12_2 == 0) = false := beq_eq_false_iff_ne.mpr c21
       have c21b1 : (x12_2 != 0) = true := bne_iff_ne.mpr c21
       by_cases c26 : a3 = 1
       ·rw [if_pos c26] at H
        have c26b0 : (a3 == 1) = true := beq_iff_eq.mpr c26
        have c26b1 : (a3 != 1) = false := bne_eq_false_iff_eq.mpr c26
        clear c26
        by_cases c27 : x11_2.length < 4398046511104
        ·rw [if_pos c27] at H
         have LMc27 := am c27
         clear c27
         obtain ⟨y266, hy266⟩ : ∃ y_ : List (S52), y_ = (x11_2 ++ [(⟨a1, a2, 3, x12_2⟩ : S52)]) := ⟨_, rfl⟩
         replace H : (riposteref04_Told.l0 k2 a1 a2 a3 y266 (wrap64 (x12_2 + 1)) t255 t256) = some r := by first | (rw [hy266]; with_reducible exact H)
         have Ny266 := am hy266
         clear hy266
         have H' := am H
         clear H
         have hnb28 := NB258_254.out
         have hnc28 := NB254_258.out
         have hcz29_0 : wr.cell? ⟨gb258, 0, none⟩ = some (.bool t255) := (blk_cell BK258.out 0).trans rfl
         have hcz29_1 : wr.cell? ⟨gb258, 1, none⟩ = some (.int .i64 t256) := (blk_cell BK258.out 1).trans rfl
         have hfz29_0 := blk_frozen BK258.out 0
         have hfz29_1 := blk_frozen BK258.out 1
         go_wp2_with (first | ((with_reducible refine gate_builtin (b := .append) (xs := #[.tmp 46, .tmp 51]) rfl ?_); at_builtin; refine Kd.R_append k52 (w0 := w) w.heap.size rfl (.tmp 46) (.tmp 51) 27 52 (.agg #[(.int .i64 0), (.int .i64 0), (.int .u8 0), (.int .i64 0)]) 32 rfl Tryz.underlying27 info52 rfl (by decide) (by omega) u11 x11_2 (⟨a1, a2, 3, x12_2⟩ : S52) [.int .i64 a1, .int .i64 a2, .int .u8 3, .int .i64 x12_2] (fun _ => True) (fun _ => False) rfl rfl ?aP (fun _ hk => hk.elim) ?aF ?aO ?aB ?aS ?aL ?_; (case aP => exact k52_mkM _ _ _ (⟨a1, a2, 3, x12_2⟩ : S52)); (case aB => exact HB.out); (case aF => exact (fun _ _ => trivial)); (case aO => exact HO_11.out); (case aS => exact (below_size HB.out)); (case aL => have := LMc27.out; omega); intro v267 w30 ho hb hg hat; rw [← Ny266.out] at ho; have n0_ := am (blk_grown (g := gb254) (o := .cells #[.slice A0_0 l0_0.length c0_0, .bool a0_1, .int .i64 a0_2, .bool a0_3] 26 (0, 0)) BK254.out hg (Kd.R_ne HO_11.out BK254.out (by decide))); have n1_ := am (blk_grown (g := gb258) (o := .cells #[.bool t255, .int .i64 t256] 24 (0, 0)) BK258.out hg (Kd.R_ne HO_11.out BK258.out (by decide))); have n2_ := am (hb); have n3_ := am (ho); clear BK254; clear BK258; clear HB; clear HO_11; have BK254 := n0_; have BK258 := n1_; have HB := n2_; have HO268 := n3_; clear n0_ n1_ n2_ n3_; clear ho hb hg hat))
         go_roundg k2
         case measure => have := HJ7.out; have := HK2.out; omega
         case rel => exact ⟨(y266), (wrap64 (x12_2 + 1)), (by first | rfl), H', ⟨by have := HJ7.out; have := HK2.out; omega⟩, ⟨by exact HO268.out⟩, ⟨by exact BK254.out⟩, ⟨by exact BK258.out⟩, ⟨by exact HB.out⟩⟩
        rw [if_neg c27] at H
        exact absurd H (by simp)
       rw [if_neg c26] at H
       have c26b0 : (a3 == 1) = false := beq_eq_false_iff_ne.mpr c26
       have c26b1 : (a3 != 1) = true := bne_iff_ne.mpr c26
       obtain rfl := Option.some.inj H
       have hnb31 := NB258_254.out
       have hnc31 := NB254_258.out
       have hcz32_0 : wr.cell? ⟨gb258, 0, none⟩ = some (.bool t255) := (blk_cell BK258.out 0).trans rfl
       have hcz32_1 : wr.cell? ⟨gb258, 1, none⟩ = some (.int .i64 t256) := (blk_cell BK258.out 1).trans rfl
       have hfz32_0 := blk_frozen BK258.out 0
       have hfz32_1 := blk_frozen BK258.out 1
       go_wp2
       go_ret
       exact ⟨_, by first | rfl, by exact HO_11.out, by exact HB.out⟩
      rw [if_neg c20] at H
      have c20b0 : decide (x12_2 < t256) = false := decide_eq_false c20
      clear c20
      obtain rfl := Option.some.inj H
      have hnb33 := NB258_254.out
      have hnc33 := NB254_258.out
      have hcz34_0 : wr.cell? ⟨gb258, 0, none⟩ = some (.bool t255) := (blk_cell BK258.out 0).trans rfl
      have hcz34_1 : wr.cell? ⟨gb258, 1, none⟩ = some (.int .i64 t256) := (blk_cell BK258.out 1).trans rfl
      have hfz34_0 := blk_frozen BK258.out 0
      have hfz34_1 := blk_frozen BK258.out 1
      go_wp2
      go_ret
      exact ⟨_, by first | rfl, by exact HO_11.out, by exact HB.out⟩
 replace c6 := Bool.eq_false_iff.mpr c6
 subst c6
 have H1 : (some ([] : List (S52))) = some r := by rw [if_neg (show ¬ (false = true) by decide)] at H; exact H
 clear H
 have H := H1
 clear H1
 obtain rfl := Option.some.inj H
 go_enter Tryz.func73, Tryz.ntmps73
 go_wp2_with (first | ((with_reducible refine gate_dst (N := 4) rfl ?_); refine box_event ?hg (N := 4) ?hd (cs := #[.slice A0_0 l0_0.length c0_0, .bool a0_1, .int .i64 a0_2, .bool a0_3]) (t := 26) ?hr ?_; (case hd => rfl); (case hg => rfl); (case hr => go_simp); intro gb254 hg w35 hbox hb; have n0_ := am (below_step HB.out hb); have n1_ := am (hbox); have n2_ := am ((by rw [hg]; exact (below_size HB.out) : w.heap.size ≤ gb254)); have n3_ := am ((by rw [hg]; exact (below_size HB.out) : w.heap.size ≤ gb254)); clear HB; have HB := n0_; have BK254 := n1_; have GW254 := n2_; have GE254 := n3_; clear n0_ n1_ n2_ n3_; clear hb hbox hg; have hcz36_0 : w35.cell? ⟨gb254, 0, none⟩ = some (.slice A0_0 l0_0.length c0_0) := (blk_cell BK254.out 0).trans rfl; have hcz36_1 : w35.cell? ⟨gb254, 1, none⟩ = some (.bool a0_1) := (blk_cell BK254.out 1).trans rfl; have hcz36_2 : w35.cell? ⟨gb254, 2, none⟩ = some (.int .i64 a0_2) := (blk_cell BK254.out 2).trans rfl; have hcz36_3 : w35.cell? ⟨gb254, 3, none⟩ = some (.bool a0_3) := (blk_cell BK254.out 3).trans rfl; have hfz36_0 := blk_frozen BK254.out 0; have hfz36_1 := blk_frozen BK254.out 1; have hfz36_2 := blk_frozen BK254.out 2; have hfz36_3 := blk_frozen BK254.out 3) | ((with_reducible refine gate_callee (f := 105) rfl ?_); refine goesL_ (some 17) rfl rfl Tryz.func105 (by kernel_rfl) rfl #[.agg #[.slice A0_0 l0_0.length c0_0, .bool a0_1, .int .i64 a0_2, .bool a0_3], .int .i64 a1, .int .i64 a2] rfl (by (try simp only [List.map_toArray, List.map_cons, List.map_nil]); first | rfl) ?_; (with_reducible refine (riposteref04_Place.calls k _ _ l0_0 a0_1 a0_2 a0_3 a1 a2 t255 t256 false _ ?side1 ?side2 A5.out).mono ?_); (case side1 => repeat (first | exact (Kd.C_below HR0_0.out HB.out))); (case side2 => exact HC0_0.out); rintro e w37 ⟨rfl, hb⟩; refine ⟨_, rfl, ?_⟩; have n0_ := am (blk_below (g := gb254) (o := .cells #[.slice A0_0 l0_0.length c0_0, .bool a0_1, .int .i64 a0_2, .bool a0_3] 26 (0, 0)) BK254.out hb); have n1_ := am (below_step HB.out hb); clear BK254; clear HB; have BK254 := n0_; have HB := n1_; clear n0_ n1_; (try clear hb); (try clear hb2); (try clear hk); (try clear hi)) | ((with_reducible refine gate_dst (N := 9) rfl ?_); refine box_event ?hg (N := 9) ?hd (cs := #[.bool false, .int .i64 0]) (t := 24) ?hr ?_; (case hd => rfl); (case hg => rfl); (case hr => go_simp); intro gb258 hg w38 hbox hb; have n0_ := am (blk_below (g := gb254) (o := .cells #[.slice A0_0 l0_0.length c0_0, .bool a0_1, .int .i64 a0_2, .bool a0_3] 26 (0, 0)) BK254.out hb); have n1_ := am (below_step HB.out hb); have n2_ := am (hbox); have n3_ := am ((by rw [hg]; exact (below_size HB.out) : w.heap.size ≤ gb258)); have n4_ := am ((by rw [hg]; exact (below_size HB.out) : w.heap.size ≤ gb258)); have n5_ := am ((by rw [hg]; exact Nat.ne_of_lt (blk_lt (g := gb254) (o := .cells #[.slice A0_0 l0_0.length c0_0, .bool a0_1, .int .i64 a0_2, .bool a0_3] 26 (0, 0)) BK254.out) : gb254 ≠ gb258)); have n6_ := am ((by rw [hg]; exact Nat.ne_of_gt (blk_lt (g := gb254) (o := .cells #[.slice A0_0 l0_0.length c0_0, .bool a0_1, .int .i64 a0_2, .bool a0_3] 26 (0, 0)) BK254.out) : gb258 ≠ gb254)); clear BK254; clear HB; have BK254 := n0_; have HB := n1_; have BK258 := n2_; have GW258 := n3_; have GE258 := n4_; have NB254_258 := n5_; have NB258_254 := n6_; clear n0_ n1_ n2_ n3_ n4_ n5_ n6_; clear hb hbox hg; have hnb39 := NB258_254.out; have hnc39 := NB254_258.out; have hcz40_0 : w38.cell? ⟨gb258, 0, none⟩ = some (.bool false) := (blk_cell BK258.out 0).trans rfl; have hcz40_1 : w38.cell? ⟨gb258, 1, none⟩ = some (.int .i64 0) := (blk_cell BK258.out 1).trans rfl; have hfz40_0 := blk_frozen BK258.out 0; have hfz40_1 := blk_frozen BK258.out 1))
 go_ret
 exact ⟨_, by first | rfl, by first | exact Kd.R_nil _ _ _ _ _, by repeat (first | (with_reducible first | exact HB.out | refine below_set ?_ GE258.out))⟩
def riposteref04_Has.f (k : Nat) (l0_0 : List (S68)) (a0_1 : Bool) (a0_2 : Int) (a0_3 : Bool) (a1_0 : Int) (a1_1 : Int) (a1_2 : Int) (a1_3 : Int) : Option (Bool) := (riposteref04_Questions.f k l0_0 a0_1 a0_2 a0_3 a1_0 a1_1).bind fun t271 => ((riposteref04_Find.f k t271 a1_0 a1_1 a1_2 a1_3).bind fun t274 => (if t274 ≥ 0 then (some true) else ((riposteref04_Told.f k l0_0 a0_1 a0_2 a0_3 a1_0 a1_1 1).bind fun t275 => ((riposteref04_Find.f k t275 a1_0 a1_1 a1_2 a1_3).bind fun t278 => (some (decide (t278 ≥ 0)))))))
def riposteref04_Has.T1 : Bool × List (List Nat × List Nat) := (true, [([], []), ([], []), ([1], [1]), ([], []), ([3], [3]), ([0, 2, 4], [0, 2, 4]), ([], []), ([5, 6, 5], [5, 6]), ([7], [7]), ([8, 7], [8]), ([9], [9]), ([9], [9]), ([11, 9], [9, 11]), ([9], [9]), ([13, 9], [9, 13]), ([10, 12, 14, 9, 9], [9, 10, 12, 14]), ([9], [9]), ([15, 16, 15, 9], [9, 15, 16]), ([17, 9], [9, 17]), ([9, 18], [9, 18]), ([19, 17, 0, 1, 2, 3, 4, 5, 6, 7, 8, 9, 10, 11, 12, 13, 14, 15, 16, 17, 18, 19], [19])])
def riposteref04_Has.B1 : List Nat := [0, 0, 2, 0, 8, 31, 0, 127, 255, 511, 1023, 1023, 3071, 1023, 9215, 32767, 1023, 131071, 262143, 524287, 1048575]
theorem riposteref04_Has.tab1 : rtab .any (opsOf Tryz.f111 1) = riposteref04_Has.T1 := by kernel_rfl
theorem riposteref04_Has.bits1 : waitsOk riposteref04_Has.T1.2 riposteref04_Has.B1 = true := by kernel_rfl
set_option maxHeartbeats 8000000 in
set_option maxRecDepth 100000 in
theorem riposteref04_Has.calls (k : Nat) (A0_0 : Option Addr) (c0_0 : Nat) (l0_0 : List (S68)) (a0_1 : Bool) (a0_2 : Int) (a0_3 : Bool) (a1_0 : Int) (a1_1 : Int) (a1_2 : Int) (a1_3 : Int) (r : Bool) (w : World) (hr0_0 : Kd.C k68 w A0_0 l0_0.length l0_0) (hc0_0 : l0_0.length ≤ c0_0) (h : riposteref04_Has.f k l0_0 a0_1 a0_2 a0_3 a1_0 a1_1 a1_2 a1_3 = some r) :
  Calls Tryz.prog 111 #[.agg #[.slice A0_0 l0_0.length c0_0, .bool a0_1, .int .i64 a0_2, .bool a0_3], .agg #[.int .i64 a1_0, .int .i64 a1_1, .int .u8 a1_2, .int .i64 a1_3]] w fun e w' => e = .returned (.bool r) ∧ Below w.heap.size w w' := by
 have hu26 := Tryz.underlying26
 have hu52 := Tryz.underlying52
 have HR0_0 := am hr0_0
 have HC0_0 := am hc0_0
 clear hr0_0 hc0_0
 have HB := am (Below.refl w.heap.size w)
 have H : ((riposteref04_Questions.f k l0_0 a0_1 a0_2 a0_3 a1_0 a1_1).bind fun t271 => ((riposteref04_Find.f k t271 a1_0 a1_1 a1_2 a1_3).bind fun t274 => (if t274 ≥ 0 then (some true) else ((riposteref04_Told.f k l0_0 a0_1 a0_2 a0_3 a1_0 a1_1 1).bind fun t275 => ((riposteref04_Find.f k t275 a1_0 a1_1 a1_2 a1_3).bind fun t278 => (some (decide (t278 ≥ 0)))))))) = some r := h
 clear h
 replace H := Option.bind_eq_some_iff.mp H
 obtain ⟨t271, A30, H⟩ := H
 replace H : ((riposteref04_Find.f k t271 a1_0 a1_1 a1_2 a1_3).bind fun t274 => (if t274 ≥ 0 then (some true) else ((riposteref04_Told.f k l0_0 a0_1 a0_2 a0_3 a1_0 a1_1 1).bind fun t275 => ((riposteref04_Find.f k t275 a1_0 a1_1 a1_2 a1_3).bind fun t278 => (some (decide (t278 ≥ 0))))))) = some r := H
 have A3 := am A30
 clear A30
 replace H := Option.bind_eq_some_iff.mp H
 obtain ⟨t274, A40, H⟩ := H
 replace H : (if t274 ≥ 0 then (some true) else ((riposteref04_Told.f k l0_0 a0_1 a0_2 a0_3 a1_0 a1_1 1).bind fun t275 => ((riposteref04_Find.f k t275 a1_0 a1_1 a1_2 a1_3).bind fun t278 => (some (decide (t278 ≥ 0)))))) = some r := H
 have A4 := am A40
 clear A40
 by_cases c5 : t274 ≥ 0
 ·rw [if_pos c5] at H
  have c5b0 : decide (0 ≤ t274) = true := decide_eq_true c5
  clear c5
  obtain rfl := Option.some.inj H
  go_enter Tryz.func111, Tryz.ntmps111
  try go_wp2_with (first | ((with_reducible refine gate_dst (N := 2) rfl ?_); refine box_event ?hg (N := 2) ?hd (cs := #[.slice A0_0 l0_0.length c0_0, .bool a0_1, .int .i64 a0_2, .bool a0_3]) (t := 26) ?hr ?_; (case hd => rfl); (case hg => rfl); (case hr => go_simp); intro gb269 hg w6 hbox hb; have n0_ := am (below_step HB.out hb); have n1_ := am (hbox); have n2_ := am ((by rw [hg]; exact (below_size HB.out) : w.heap.size ≤ gb269)); have n3_ := am ((by rw [hg]; exact (below_size HB.out) : w.heap.size ≤ gb269)); clear HB; have HB := n0_; have BK269 := n1_; have GW269 := n2_; have GE269 := n3_; clear n0_ n1_ n2_ n3_; clear hb hbox hg) | ((with_reducible refine gate_dst (N := 3) rfl ?_); refine box_event ?hg (N := 3) ?hd (cs := #[.int .i64 a1_0, .int .i64 a1_1, .int .u8 a1_2, .int .i64 a1_3]) (t := 52) ?hr ?_; (case hd => rfl); (case hg => rfl); (case hr => go_simp); intro gb270 hg w7 hbox hb; have n0_ := am (blk_below (g := gb269) (o := .cells #[.slice A0_0 l0_0.length c0_0, .bool a0_1, .int .i64 a0_2, .bool a0_3] 26 (0, 0)) BK269.out hb); have n1_ := am (below_step HB.out hb); have n2_ := am (hbox); have n3_ := am ((by rw [hg]; exact (below_size HB.out) : w.heap.size ≤ gb270)); have n4_ := am ((by rw [hg]; exact (below_size HB.out) : w.heap.size ≤ gb270)); have n5_ := am ((by rw [hg]; exact Nat.ne_of_lt (blk_lt (g := gb269) (o := .cells #[.slice A0_0 l0_0.length c0_0, .bool a0_1, .int .i64 a0_2, .bool a0_3] 26 (0, 0)) BK269.out) : gb269 ≠ gb270)); have n6_ := am ((by rw [hg]; exact Nat.ne_of_gt (blk_lt (g := gb269) (o := .cells #[.slice A0_0 l0_0.length c0_0, .bool a0_1, .int .i64 a0_2, .bool a0_3] 26 (0, 0)) BK269.out) : gb270 ≠ gb269)); clear BK269; clear HB; have BK269 := n0_; have HB := n1_; have BK270 := n2_; have GW270 := n3_; have GE270 := n4_; have NB269_270 := n5_; have NB270_269 := n6_; clear n0_ n1_ n2_ n3_ n4_ n5_ n6_; clear hb hbox hg))
  have n0_ := am (blk_drew BK269.out)
  have n1_ := am (blk_drew BK270.out)
  have n2_ := am (below_drew1 HB.out)
  clear BK269
  clear BK270
  clear HB
  have BK269 := n0_
  have BK270 := n1_
  have HB := n2_
  clear n0_ n1_ n2_
  refine start_ (n := 21) (S := fun w' => w'.cell? ⟨gb269, 0, none⟩ = some (.slice A0_0 l0_0.length c0_0) ∧ w'.cell? ⟨gb269, 1, none⟩ = some (.bool a0_1) ∧ w'.cell? ⟨gb269, 2, none⟩ = some (.int .i64 a0_2) ∧ w'.cell? ⟨gb269, 3, none⟩ = some (.bool a0_3) ∧ w'.cell? ⟨gb270, 0, none⟩ = some (.int .i64 a1_0) ∧ w'.cell? ⟨gb270, 1, none⟩ = some (.int .i64 a1_1) ∧ w'.cell? ⟨gb270, 2, none⟩ = some (.int .u8 a1_2) ∧ w'.cell? ⟨gb270, 3, none⟩ = some (.int .i64 a1_3)) (ds := []) (Mq [0,21]) (by kernel_rfl) rfl rfl ⟨(blk_cell BK269.out 0).trans rfl, (blk_cell BK269.out 1).trans rfl, (blk_cell BK269.out 2).trans rfl, (blk_cell BK269.out 3).trans rfl, (blk_cell BK270.out 0).trans rfl, (blk_cell BK270.out 1).trans rfl, (blk_cell BK270.out 2).trans rfl, (blk_cell BK270.out 3).trans rfl⟩ (fun hHeld => ?_); refine with_tabW riposteref04_Has.tab1 riposteref04_Has.bits1 (fun HT_ HW_ => ?_)
  generalize w7.drew = w8 at BK269 BK270 HB hHeld ⊢
  refine pure_ (i := 1) (N:=some 6) (v:=?_) (a':=?_) (Mq [0,1,1,19]) rfl rfl (any_of HT_.out (by kernel_rfl)) (fun _ _ _ h => h) (Or.inl ⟨by rfl, ?_⟩) ?_ ?_;rotate_left;(intro w';go_simp;with_reducible rfl);rotate_left;(simp only [Act.put,sn1,sn2,sn3,i64_w];rfl)
  refine pure_ (i := 3) (N:=some 8) (v:=?_) (a':=?_) (Mq [0,1,1,1,1,17]) rfl rfl (any_of HT_.out (by kernel_rfl)) (fun _ _ _ h => h) (Or.inl ⟨by rfl, ?_⟩) ?_ ?_;rotate_left;(intro w';go_simp;with_reducible rfl);rotate_left;(simp only [Act.put,sn1,sn2,sn3,i64_w];rfl)
  refine take_ (i := 0) (N:=some 5) (v:=?_) (a':=?_) (Mq [2,1,1,17]) rfl rfl (take_ofW HT_.out HW_.out (by kernel_rfl)) (fun _ _ _ h => h) (Or.inl ⟨by rfl, ?_⟩) hHeld ?_ ?_
  rotate_left
  ·rintro w' ⟨s0, s1, s2, s3, s4, s5, s6, s7⟩
   go_simp
   with_reducible rfl
  rotate_left
  ·simp only [Act.put,sn1,sn2,sn3,i64_w]
   rfl
  refine take_ (i := 2) (N:=some 7) (v:=?_) (a':=?_) (Mq [4,17]) rfl rfl (take_ofW HT_.out HW_.out (by kernel_rfl)) (fun _ _ _ h => h) (Or.inl ⟨by rfl, ?_⟩) hHeld ?_ ?_
  rotate_left
  ·rintro w' ⟨s0, s1, s2, s3, s4, s5, s6, s7⟩
   go_simp
   with_reducible rfl
  rotate_left
  ·simp only [Act.put,sn1,sn2,sn3,i64_w]
   rfl
  refine take_ (i := 4) (N:=some 9) (v:=?_) (a':=?_) (Mq [5,16]) rfl rfl (take_ofW HT_.out HW_.out (by kernel_rfl)) (fun _ _ _ h => h) (Or.inl ⟨by rfl, ?_⟩) hHeld ?_ ?_
  rotate_left
  ·rintro w' ⟨s0, s1, s2, s3, s4, s5, s6, s7⟩
   go_simp
   with_reducible rfl
  rotate_left
  ·simp only [Act.put,sn1,sn2,sn3,i64_w]
   rfl
  refine take_ (i := 6) (N:=some 11) (v:=?_) (a':=?_) (Mq [5,1,1,14]) rfl rfl (take_ofW HT_.out HW_.out (by kernel_rfl)) (fun _ _ _ h => h) (Or.inl ⟨by rfl, ?_⟩) hHeld ?_ ?_
  rotate_left
  ·rintro w' ⟨s0, s1, s2, s3, s4, s5, s6, s7⟩
   go_simp
   with_reducible rfl
  rotate_left
  ·simp only [Act.put,sn1,sn2,sn3,i64_w]
   rfl
  refine one_ (i := 5) (N:=some 10) (Mq [7,14]) rfl rfl (one_of HT_.out (by kernel_rfl)) (by decide) (fun K hK => ?_)
  refine goes_ Tryz.func72 (by kernel_rfl) rfl #[.agg #[.slice A0_0 l0_0.length c0_0, .bool a0_1, .int .i64 a0_2, .bool a0_3], .int .i64 a1_0, .int .i64 a1_1] (by rfl) rfl rfl (by (try simp only [List.map_toArray, List.map_cons, List.map_nil]); first | rfl) ?_
  with_reducible refine (riposteref04_Questions.calls k _ _ l0_0 a0_1 a0_2 a0_3 a1_0 a1_1 t271 _ ?side1 ?side2 A3.out).mono ?_
  (case side1 => repeat (first | exact (Kd.C_below HR0_0.out HB.out)))
  (case side2 => exact HC0_0.out)
  rintro e w9 ⟨v272, rfl, ho0, hb⟩
  refine ⟨_, rfl, ?_⟩
  have n0_ := am (Kd.R_lower (Kd.R_newB ho0 (g := gb270) (o := .cells #[.int .i64 a1_0, .int .i64 a1_1, .int .u8 a1_2, .int .i64 a1_3] 52 (0, 0)) BK270.out) (below_size HB.out))
  have n1_ := am (blk_below (g := gb269) (o := .cells #[.slice A0_0 l0_0.length c0_0, .bool a0_1, .int .i64 a0_2, .bool a0_3] 26 (0, 0)) BK269.out hb)
  have n2_ := am (blk_below (g := gb270) (o := .cells #[.int .i64 a1_0, .int .i64 a1_1, .int .u8 a1_2, .int .i64 a1_3] 52 (0, 0)) BK270.out hb)
  have n3_ := am (below_step HB.out hb)
  clear BK269
  clear BK270
  clear HB
  have HO273 := n0_
  have BK269 := n1_
  have BK270 := n2_
  have HB := n3_
  clear n0_ n1_ n2_ n3_
  (try clear hb)
  (try clear hb2)
  (try clear hk)
  (try clear hi)
  (try clear ho0)
  obtain ⟨Ao10, co10, eo10⟩ := Kd.R_slice HO273.out
  (first | subst eo10)
  refine hK.out _ _ ⟨(blk_cell BK269.out 0).trans rfl, (blk_cell BK269.out 1).trans rfl, (blk_cell BK269.out 2).trans rfl, (blk_cell BK269.out 3).trans rfl, (blk_cell BK270.out 0).trans rfl, (blk_cell BK270.out 1).trans rfl, (blk_cell BK270.out 2).trans rfl, (blk_cell BK270.out 3).trans rfl⟩ (fun hHeld => ?_)
  clear hK K
  refine norm_ (a' := ?_) ?_ ?_
  rotate_left
  ·show Act.put _ (some 10) _ = _
   simp only [Act.put,sn1,sn2,sn3,i64_w]
   rfl
  refine one_ (i := 7) (N:=some 12) (Mq [8,13]) rfl rfl (one_of HT_.out (by kernel_rfl)) (by decide) (fun K hK => ?_)
  refine goes_ Tryz.func33 (by kernel_rfl) rfl #[.slice Ao10 t271.length co10, .agg #[.int .i64 a1_0, .int .i64 a1_1, .int .u8 a1_2, .int .i64 a1_3]] (by rfl) rfl rfl (by (try simp only [List.map_toArray, List.map_cons, List.map_nil]); first | rfl) ?_
  with_reducible refine (riposteref04_Find.calls k _ _ t271 a1_0 a1_1 a1_2 a1_3 t274 _ ?side1 ?side2 A4.out).mono ?_
  (case side1 => repeat (first | exact (Kd.R_reads' HO273.out).2.2))
  (case side2 => exact (Kd.R_reads' HO273.out).2.1)
  rintro e w11 ⟨rfl, hb⟩
  refine ⟨_, rfl, ?_⟩
  have n0_ := am (Kd.R_below HO273.out hb)
  have n1_ := am (blk_below (g := gb269) (o := .cells #[.slice A0_0 l0_0.length c0_0, .bool a0_1, .int .i64 a0_2, .bool a0_3] 26 (0, 0)) BK269.out hb)
  have n2_ := am (blk_below (g := gb270) (o := .cells #[.int .i64 a1_0, .int .i64 a1_1, .int .u8 a1_2, .int .i64 a1_3] 52 (0, 0)) BK270.out hb)
  have n3_ := am (below_step HB.out hb)
  clear HO273
  clear BK269
  clear BK270
  clear HB
  have HO273 := n0_
  have BK269 := n1_
  have BK270 := n2_
  have HB := n3_
  clear n0_ n1_ n2_ n3_
  (try clear hb)
  (try clear hb2)
  (try clear hk)
  (try clear hi)
  refine hK.out _ _ ⟨(blk_cell BK269.out 0).trans rfl, (blk_cell BK269.out 1).trans rfl, (blk_cell BK269.out 2).trans rfl, (blk_cell BK269.out 3).trans rfl, (blk_cell BK270.out 0).trans rfl, (blk_cell BK270.out 1).trans rfl, (blk_cell BK270.out 2).trans rfl, (blk_cell BK270.out 3).trans rfl⟩ (fun hHeld => ?_)
  clear hK K
  refine norm_ (a' := ?_) ?_ ?_
  rotate_left
  ·show Act.put _ (some 12) _ = _
   simp only [Act.put,sn1,sn2,sn3,i64_w]
   rfl
  refine pure_ (i := 8) (N:=some 13) (v:=?_) (a':=?_) (Mq [9,12]) rfl rfl (any_of HT_.out (by kernel_rfl)) (fun _ _ _ h => h) (Or.inl ⟨by rfl, ?_⟩) ?_ ?_;rotate_left;(intro w';go_simp;with_reducible rfl);rotate_left;(simp only [Act.put,sn1,sn2,sn3,i64_w];rfl)
  refine pure_ (i := 9) (N:=some 14) (v:=?_) (a':=?_) (Mq [10,11]) rfl rfl (any_of HT_.out (by kernel_rfl)) (fun _ _ _ h => h) (Or.inl ⟨by rfl, ?_⟩) ?_ ?_;rotate_left;(intro w';go_simp;with_reducible rfl);rotate_left;(simp only [Act.put,sn1,sn2,sn3,i64_w];rfl)
  refine pure_ (i := 10) (N:=some 15) (v := undef) (a' := ?_) (Mq [11,10]) rfl rfl (any_of HT_.out (by kernel_rfl)) (fun _ _ _ h => h) (Or.inr ⟨by rfl, rfl⟩) ?_ ?_
  rotate_left
  ·simp only [Act.put,sn1,sn2,sn3,i64_w]
   rfl
  refine pure_ (i := 11) (N:=some 16) (v := undef) (a' := ?_) (Mq [12,9]) rfl rfl (any_of HT_.out (by kernel_rfl)) (fun _ _ _ h => h) (Or.inr ⟨by rfl, rfl⟩) ?_ ?_
  rotate_left
  ·simp only [Act.put,sn1,sn2,sn3,i64_w]
   rfl
  refine pure_ (i := 12) (N:=some 17) (v := undef) (a' := ?_) (Mq [13,8]) rfl rfl (any_of HT_.out (by kernel_rfl)) (fun _ _ _ h => h) (Or.inr ⟨by rfl, rfl⟩) ?_ ?_
  rotate_left
  ·simp only [Act.put,sn1,sn2,sn3,i64_w]
   rfl
  refine pure_ (i := 13) (N:=some 18) (v := undef) (a' := ?_) (Mq [14,7]) rfl rfl (any_of HT_.out (by kernel_rfl)) (fun _ _ _ h => h) (Or.inr ⟨by rfl, rfl⟩) ?_ ?_
  rotate_left
  ·simp only [Act.put,sn1,sn2,sn3,i64_w]
   rfl
  refine pure_ (i := 14) (N:=some 19) (v := undef) (a' := ?_) (Mq [15,6]) rfl rfl (any_of HT_.out (by kernel_rfl)) (fun _ _ _ h => h) (Or.inr ⟨by rfl, rfl⟩) ?_ ?_
  rotate_left
  ·simp only [Act.put,sn1,sn2,sn3,i64_w]
   rfl
  refine pure_ (i := 15) (N:=some 20) (v := undef) (a' := ?_) (Mq [16,5]) rfl rfl (any_of HT_.out (by kernel_rfl)) (fun _ _ _ h => h) (Or.inr ⟨by rfl, rfl⟩) ?_ ?_
  rotate_left
  ·simp only [Act.put,sn1,sn2,sn3,i64_w]
   rfl
  refine pure_ (i := 16) (N:=some 21) (v := undef) (a' := ?_) (Mq [17,4]) rfl rfl (any_of HT_.out (by kernel_rfl)) (fun _ _ _ h => h) (Or.inr ⟨by rfl, rfl⟩) ?_ ?_
  rotate_left
  ·simp only [Act.put,sn1,sn2,sn3,i64_w]
   rfl
  refine pure_ (i := 17) (N:=some 22) (v := undef) (a' := ?_) (Mq [18,3]) rfl rfl (any_of HT_.out (by kernel_rfl)) (fun _ _ _ h => h) (Or.inr ⟨by rfl, rfl⟩) ?_ ?_
  rotate_left
  ·simp only [Act.put,sn1,sn2,sn3,i64_w]
   rfl
  refine pure_ (i := 18) (N:=some 23) (v := undef) (a' := ?_) (Mq [19,2]) rfl rfl (any_of HT_.out (by kernel_rfl)) (fun _ _ _ h => h) (Or.inr ⟨by rfl, rfl⟩) ?_ ?_
  rotate_left
  ·simp only [Act.put,sn1,sn2,sn3,i64_w]
   rfl
  refine pure_ (i := 19) (N:=some 24) (v:=?_) (a':=?_) (Mq [20,1]) rfl rfl (any_of HT_.out (by kernel_rfl)) (fun _ _ _ h => h) (Or.inl ⟨by rfl, ?_⟩) ?_ ?_;rotate_left;(intro w';go_simp;with_reducible rfl);rotate_left;(simp only [Act.put,sn1,sn2,sn3,i64_w];rfl)
  refine pure_ (i := 20) (N:=some 4) (v:=?_) (a':=?_) (Mq [21]) rfl rfl (any_of HT_.out (by kernel_rfl)) (fun _ _ _ h => h) (Or.inl ⟨by rfl, ?_⟩) ?_ ?_;rotate_left;(intro w';go_simp;with_reducible rfl);rotate_left;(simp only [Act.put,sn1,sn2,sn3,i64_w];rfl)
  refine done_ (done_of HT_.out (by kernel_rfl)) ?_
  try go_wp2
  go_ret
  exact ⟨by first | rfl, by exact HB.out⟩
 rw [if_neg c5] at H
 have c5b0 : decide (0 ≤ t274) = false := decide_eq_false c5
 clear c5
 replace H := Option.bind_eq_some_iff.mp H
 obtain ⟨t275, A120, H⟩ := H
 replace H : ((riposteref04_Find.f k t275 a1_0 a1_1 a1_2 a1_3).bind fun t278 => (some (decide (t278 ≥ 0)))) = some r := H
 have A12 := am A120
 clear A120
 replace H := Option.bind_eq_some_iff.mp H
 obtain ⟨t278, A130, H⟩ := H
 replace H : (some (decide (t278 ≥ 0))) = some r := H
 have A13 := am A130
 clear A130
 obtain rfl := Option.some.inj H
 go_enter Tryz.func111, Tryz.ntmps111
 try go_wp2_with (first | ((with_reducible refine gate_dst (N := 2) rfl ?_); refine box_event ?hg (N := 2) ?hd (cs := #[.slice A0_0 l0_0.length c0_0, .bool a0_1, .int .i64 a0_2, .bool a0_3]) (t := 26) ?hr ?_; (case hd => rfl); (case hg => rfl); (case hr => go_simp); intro gb269 hg w14 hbox hb; have n0_ := am (below_step HB.out hb); have n1_ := am (hbox); have n2_ := am ((by rw [hg]; exact (below_size HB.out) : w.heap.size ≤ gb269)); have n3_ := am ((by rw [hg]; exact (below_size HB.out) : w.heap.size ≤ gb269)); clear HB; have HB := n0_; have BK269 := n1_; have GW269 := n2_; have GE269 := n3_; clear n0_ n1_ n2_ n3_; clear hb hbox hg) | ((with_reducible refine gate_dst (N := 3) rfl ?_); refine box_event ?hg (N := 3) ?hd (cs := #[.int .i64 a1_0, .int .i64 a1_1, .int .u8 a1_2, .int .i64 a1_3]) (t := 52) ?hr ?_; (case hd => rfl); (case hg => rfl); (case hr => go_simp); intro gb270 hg w15 hbox hb; have n0_ := am (blk_below (g := gb269) (o := .cells #[.slice A0_0 l0_0.length c0_0, .bool a0_1, .int .i64 a0_2, .bool a0_3] 26 (0, 0)) BK269.out hb); have n1_ := am (below_step HB.out hb); have n2_ := am (hbox); have n3_ := am ((by rw [hg]; exact (below_size HB.out) : w.heap.size ≤ gb270)); have n4_ := am ((by rw [hg]; exact (below_size HB.out) : w.heap.size ≤ gb270)); have n5_ := am ((by rw [hg]; exact Nat.ne_of_lt (blk_lt (g := gb269) (o := .cells #[.slice A0_0 l0_0.length c0_0, .bool a0_1, .int .i64 a0_2, .bool a0_3] 26 (0, 0)) BK269.out) : gb269 ≠ gb270)); have n6_ := am ((by rw [hg]; exact Nat.ne_of_gt (blk_lt (g := gb269) (o := .cells #[.slice A0_0 l0_0.length c0_0, .bool a0_1, .int .i64 a0_2, .bool a0_3] 26 (0, 0)) BK269.out) : gb270 ≠ gb269)); clear BK269; clear HB; have BK269 := n0_; have HB := n1_; have BK270 := n2_; have GW270 := n3_; have GE270 := n4_; have NB269_270 := n5_; have NB270_269 := n6_; clear n0_ n1_ n2_ n3_ n4_ n5_ n6_; clear hb hbox hg))
 have n0_ := am (blk_drew BK269.out)
 have n1_ := am (blk_drew BK270.out)
 have n2_ := am (below_drew1 HB.out)
 clear BK269
 clear BK270
 clear HB
 have BK269 := n0_
 have BK270 := n1_
 have HB := n2_
 clear n0_ n1_ n2_
 refine start_ (n := 21) (S := fun w' => w'.cell? ⟨gb269, 0, none⟩ = some (.slice A0_0 l0_0.length c0_0) ∧ w'.cell? ⟨gb269, 1, none⟩ = some (.bool a0_1) ∧ w'.cell? ⟨gb269, 2, none⟩ = some (.int .i64 a0_2) ∧ w'.cell? ⟨gb269, 3, none⟩ = some (.bool a0_3) ∧ w'.cell? ⟨gb270, 0, none⟩ = some (.int .i64 a1_0) ∧ w'.cell? ⟨gb270, 1, none⟩ = some (.int .i64 a1_1) ∧ w'.cell? ⟨gb270, 2, none⟩ = some (.int .u8 a1_2) ∧ w'.cell? ⟨gb270, 3, none⟩ = some (.int .i64 a1_3)) (ds := []) (Mq [0,21]) (by kernel_rfl) rfl rfl ⟨(blk_cell BK269.out 0).trans rfl, (blk_cell BK269.out 1).trans rfl, (blk_cell BK269.out 2).trans rfl, (blk_cell BK269.out 3).trans rfl, (blk_cell BK270.out 0).trans rfl, (blk_cell BK270.out 1).trans rfl, (blk_cell BK270.out 2).trans rfl, (blk_cell BK270.out 3).trans rfl⟩ (fun hHeld => ?_); refine with_tabW riposteref04_Has.tab1 riposteref04_Has.bits1 (fun HT_ HW_ => ?_)
 generalize w15.drew = w16 at BK269 BK270 HB hHeld ⊢
 refine pure_ (i := 1) (N:=some 6) (v:=?_) (a':=?_) (Mq [0,1,1,19]) rfl rfl (any_of HT_.out (by kernel_rfl)) (fun _ _ _ h => h) (Or.inl ⟨by rfl, ?_⟩) ?_ ?_;rotate_left;(intro w';go_simp;with_reducible rfl);rotate_left;(simp only [Act.put,sn1,sn2,sn3,i64_w];rfl)
 refine pure_ (i := 3) (N:=some 8) (v:=?_) (a':=?_) (Mq [0,1,1,1,1,17]) rfl rfl (any_of HT_.out (by kernel_rfl)) (fun _ _ _ h => h) (Or.inl ⟨by rfl, ?_⟩) ?_ ?_;rotate_left;(intro w';go_simp;with_reducible rfl);rotate_left;(simp only [Act.put,sn1,sn2,sn3,i64_w];rfl)
 refine take_ (i := 0) (N:=some 5) (v:=?_) (a':=?_) (Mq [2,1,1,17]) rfl rfl (take_ofW HT_.out HW_.out (by kernel_rfl)) (fun _ _ _ h => h) (Or.inl ⟨by rfl, ?_⟩) hHeld ?_ ?_
 rotate_left
 ·rintro w' ⟨s0, s1, s2, s3, s4, s5, s6, s7⟩
  go_simp
  with_reducible rfl
 rotate_left
 ·simp only [Act.put,sn1,sn2,sn3,i64_w]
  rfl
 refine take_ (i := 2) (N:=some 7) (v:=?_) (a':=?_) (Mq [4,17]) rfl rfl (take_ofW HT_.out HW_.out (by kernel_rfl)) (fun _ _ _ h => h) (Or.inl ⟨by rfl, ?_⟩) hHeld ?_ ?_
 rotate_left
 ·rintro w' ⟨s0, s1, s2, s3, s4, s5, s6, s7⟩
  go_simp
  with_reducible rfl
 rotate_left
 ·simp only [Act.put,sn1,sn2,sn3,i64_w]
  rfl
 refine take_ (i := 4) (N:=some 9) (v:=?_) (a':=?_) (Mq [5,16]) rfl rfl (take_ofW HT_.out HW_.out (by kernel_rfl)) (fun _ _ _ h => h) (Or.inl ⟨by rfl, ?_⟩) hHeld ?_ ?_
 rotate_left
 ·rintro w' ⟨s0, s1, s2, s3, s4, s5, s6, s7⟩
  go_simp
  with_reducible rfl
 rotate_left
 ·simp only [Act.put,sn1,sn2,sn3,i64_w]
  rfl
 refine take_ (i := 6) (N:=some 11) (v:=?_) (a':=?_) (Mq [5,1,1,14]) rfl rfl (take_ofW HT_.out HW_.out (by kernel_rfl)) (fun _ _ _ h => h) (Or.inl ⟨by rfl, ?_⟩) hHeld ?_ ?_
 rotate_left
 ·rintro w' ⟨s0, s1, s2, s3, s4, s5, s6, s7⟩
  go_simp
  with_reducible rfl
 rotate_left
 ·simp only [Act.put,sn1,sn2,sn3,i64_w]
  rfl
 refine one_ (i := 5) (N:=some 10) (Mq [7,14]) rfl rfl (one_of HT_.out (by kernel_rfl)) (by decide) (fun K hK => ?_)
 refine goes_ Tryz.func72 (by kernel_rfl) rfl #[.agg #[.slice A0_0 l0_0.length c0_0, .bool a0_1, .int .i64 a0_2, .bool a0_3], .int .i64 a1_0, .int .i64 a1_1] (by rfl) rfl rfl (by (try simp only [List.map_toArray, List.map_cons, List.map_nil]); first | rfl) ?_
 with_reducible refine (riposteref04_Questions.calls k _ _ l0_0 a0_1 a0_2 a0_3 a1_0 a1_1 t271 _ ?side1 ?side2 A3.out).mono ?_
 (case side1 => repeat (first | exact (Kd.C_below HR0_0.out HB.out)))
 (case side2 => exact HC0_0.out)
 rintro e w17 ⟨v272, rfl, ho0, hb⟩
 refine ⟨_, rfl, ?_⟩
 have n0_ := am (Kd.R_lower (Kd.R_newB ho0 (g := gb270) (o := .cells #[.int .i64 a1_0, .int .i64 a1_1, .int .u8 a1_2, .int .i64 a1_3] 52 (0, 0)) BK270.out) (below_size HB.out))
 have n1_ := am (blk_below (g := gb269) (o := .cells #[.slice A0_0 l0_0.length c0_0, .bool a0_1, .int .i64 a0_2, .bool a0_3] 26 (0, 0)) BK269.out hb)
 have n2_ := am (blk_below (g := gb270) (o := .cells #[.int .i64 a1_0, .int .i64 a1_1, .int .u8 a1_2, .int .i64 a1_3] 52 (0, 0)) BK270.out hb)
 have n3_ := am (below_step HB.out hb)
 clear BK269
 clear BK270
 clear HB
 have HO273 := n0_
 have BK269 := n1_
 have BK270 := n2_
 have HB := n3_
 clear n0_ n1_ n2_ n3_
 (try clear hb)
 (try clear hb2)
 (try clear hk)
 (try clear hi)
 (try clear ho0)
 obtain ⟨Ao18, co18, eo18⟩ := Kd.R_slice HO273.out
 (first | subst eo18)
 refine hK.out _ _ ⟨(blk_cell BK269.out 0).trans rfl, (blk_cell BK269.out 1).trans rfl, (blk_cell BK269.out 2).trans rfl, (blk_cell BK269.out 3).trans rfl, (blk_cell BK270.out 0).trans rfl, (blk_cell BK270.out 1).trans rfl, (blk_cell BK270.out 2).trans rfl, (blk_cell BK270.out 3).trans rfl⟩ (fun hHeld => ?_)
 clear hK K
 refine norm_ (a' := ?_) ?_ ?_
 rotate_left
 ·show Act.put _ (some 10) _ = _
  simp only [Act.put,sn1,sn2,sn3,i64_w]
  rfl
 refine one_ (i := 7) (N:=some 12) (Mq [8,13]) rfl rfl (one_of HT_.out (by kernel_rfl)) (by decide) (fun K hK => ?_)
 refine goes_ Tryz.func33 (by kernel_rfl) rfl #[.slice Ao18 t271.length co18, .agg #[.int .i64 a1_0, .int .i64 a1_1, .int .u8 a1_2, .int .i64 a1_3]] (by rfl) rfl rfl (by (try simp only [List.map_toArray, List.map_cons, List.map_nil]); first | rfl) ?_
 with_reducible refine (riposteref04_Find.calls k _ _ t271 a1_0 a1_1 a1_2 a1_3 t274 _ ?side1 ?side2 A4.out).mono ?_
 (case side1 => repeat (first | exact (Kd.R_reads' HO273.out).2.2))
 (case side2 => exact (Kd.R_reads' HO273.out).2.1)
 rintro e w19 ⟨rfl, hb⟩
 refine ⟨_, rfl, ?_⟩
 have n0_ := am (Kd.R_below HO273.out hb)
 have n1_ := am (blk_below (g := gb269) (o := .cells #[.slice A0_0 l0_0.length c0_0, .bool a0_1, .int .i64 a0_2, .bool a0_3] 26 (0, 0)) BK269.out hb)
 have n2_ := am (blk_below (g := gb270) (o := .cells #[.int .i64 a1_0, .int .i64 a1_1, .int .u8 a1_2, .int .i64 a1_3] 52 (0, 0)) BK270.out hb)
 have n3_ := am (below_step HB.out hb)
 clear HO273
 clear BK269
 clear BK270
 clear HB
 have HO273 := n0_
 have BK269 := n1_
 have BK270 := n2_
 have HB := n3_
 clear n0_ n1_ n2_ n3_
 (try clear hb)
 (try clear hb2)
 (try clear hk)
 (try clear hi)
 refine hK.out _ _ ⟨(blk_cell BK269.out 0).trans rfl, (blk_cell BK269.out 1).trans rfl, (blk_cell BK269.out 2).trans rfl, (blk_cell BK269.out 3).trans rfl, (blk_cell BK270.out 0).trans rfl, (blk_cell BK270.out 1).trans rfl, (blk_cell BK270.out 2).trans rfl, (blk_cell BK270.out 3).trans rfl⟩ (fun hHeld => ?_)
 clear hK K
 refine norm_ (a' := ?_) ?_ ?_
 rotate_left
 ·show Act.put _ (some 12) _ = _
  simp only [Act.put,sn1,sn2,sn3,i64_w]
  rfl
 refine pure_ (i := 8) (N:=some 13) (v:=?_) (a':=?_) (Mq [9,12]) rfl rfl (any_of HT_.out (by kernel_rfl)) (fun _ _ _ h => h) (Or.inl ⟨by rfl, ?_⟩) ?_ ?_;rotate_left;(intro w';go_simp;with_reducible rfl);rotate_left;(simp only [Act.put,sn1,sn2,sn3,i64_w];rfl)
 refine pure_ (i := 9) (N:=some 14) (v:=?_) (a':=?_) (Mq [10,11]) rfl rfl (any_of HT_.out (by kernel_rfl)) (fun _ _ _ h => h) (Or.inl ⟨by rfl, ?_⟩) ?_ ?_;rotate_left;(intro w';go_simp;with_reducible rfl);rotate_left;(simp only [Act.put,sn1,sn2,sn3,i64_w];rfl)
 refine pure_ (i := 11) (N:=some 16) (v:=?_) (a':=?_) (Mq [10,1,1,9]) rfl rfl (any_of HT_.out (by kernel_rfl)) (fun _ _ _ h => h) (Or.inl ⟨by rfl, ?_⟩) ?_ ?_;rotate_left;(intro w';go_simp;with_reducible rfl);rotate_left;(simp only [Act.put,sn1,sn2,sn3,i64_w];rfl)
 refine pure_ (i := 13) (N:=some 18) (v:=?_) (a':=?_) (Mq [10,1,1,1,1,7]) rfl rfl (any_of HT_.out (by kernel_rfl)) (fun _ _ _ h => h) (Or.inl ⟨by rfl, ?_⟩) ?_ ?_;rotate_left;(intro w';go_simp;with_reducible rfl);rotate_left;(simp only [Act.put,sn1,sn2,sn3,i64_w];rfl)
 refine take_ (i := 10) (N:=some 15) (v:=?_) (a':=?_) (Mq [12,1,1,7]) rfl rfl (take_ofW HT_.out HW_.out (by kernel_rfl)) (fun _ _ _ h => h) (Or.inl ⟨by rfl, ?_⟩) hHeld ?_ ?_
 rotate_left
 ·rintro w' ⟨s0, s1, s2, s3, s4, s5, s6, s7⟩
  go_simp
  with_reducible rfl
 rotate_left
 ·simp only [Act.put,sn1,sn2,sn3,i64_w]
  rfl
 refine take_ (i := 12) (N:=some 17) (v:=?_) (a':=?_) (Mq [14,7]) rfl rfl (take_ofW HT_.out HW_.out (by kernel_rfl)) (fun _ _ _ h => h) (Or.inl ⟨by rfl, ?_⟩) hHeld ?_ ?_
 rotate_left
 ·rintro w' ⟨s0, s1, s2, s3, s4, s5, s6, s7⟩
  go_simp
  with_reducible rfl
 rotate_left
 ·simp only [Act.put,sn1,sn2,sn3,i64_w]
  rfl
 refine take_ (i := 14) (N:=some 19) (v:=?_) (a':=?_) (Mq [15,6]) rfl rfl (take_ofW HT_.out HW_.out (by kernel_rfl)) (fun _ _ _ h => h) (Or.inl ⟨by rfl, ?_⟩) hHeld ?_ ?_
 rotate_left
 ·rintro w' ⟨s0, s1, s2, s3, s4, s5, s6, s7⟩
  go_simp
  with_reducible rfl
 rotate_left
 ·simp only [Act.put,sn1,sn2,sn3,i64_w]
  rfl
 refine take_ (i := 16) (N:=some 21) (v:=?_) (a':=?_) (Mq [15,1,1,4]) rfl rfl (take_ofW HT_.out HW_.out (by kernel_rfl)) (fun _ _ _ h => h) (Or.inl ⟨by rfl, ?_⟩) hHeld ?_ ?_
 rotate_left
 ·rintro w' ⟨s0, s1, s2, s3, s4, s5, s6, s7⟩
  go_simp
  with_reducible rfl
 rotate_left
 ·simp only [Act.put,sn1,sn2,sn3,i64_w]
  rfl
 refine one_ (i := 15) (N:=some 20) (Mq [17,4]) rfl rfl (one_of HT_.out (by kernel_rfl)) (by decide) (fun K hK => ?_)
 refine goes_ Tryz.func73 (by kernel_rfl) rfl #[.agg #[.slice A0_0 l0_0.length c0_0, .bool a0_1, .int .i64 a0_2, .bool a0_3], .int .i64 a1_0, .int .i64 a1_1, .int .u8 1] (by rfl) rfl rfl (by (try simp only [List.map_toArray, List.map_cons, List.map_nil]); first | rfl) ?_
 with_reducible refine (riposteref04_Told.calls k _ _ l0_0 a0_1 a0_2 a0_3 a1_0 a1_1 1 t275 _ ?side1 ?side2 A12.out).mono ?_
 (case side1 => repeat (first | exact (Kd.C_below HR0_0.out HB.out)))
 (case side2 => exact HC0_0.out)
 rintro e w20 ⟨v276, rfl, ho0, hb⟩
 refine ⟨_, rfl, ?_⟩
 have n0_ := am (Kd.R_elder' HO273.out (Kd.R_base ho0) hb)
 have n1_ := am (Kd.R_lower (Kd.R_newB (Kd.R_new' ho0 (Kd.R_lt HO273.out)) (g := gb270) (o := .cells #[.int .i64 a1_0, .int .i64 a1_1, .int .u8 a1_2, .int .i64 a1_3] 52 (0, 0)) BK270.out) (below_size HB.out))
 have n2_ := am (blk_below (g := gb269) (o := .cells #[.slice A0_0 l0_0.length c0_0, .bool a0_1, .int .i64 a0_2, .bool a0_3] 26 (0, 0)) BK269.out hb)
 have n3_ := am (blk_below (g := gb270) (o := .cells #[.int .i64 a1_0, .int .i64 a1_1, .int .u8 a1_2, .int .i64 a1_3] 52 (0, 0)) BK270.out hb)
 have n4_ := am (below_step HB.out hb)
 clear HO273
 clear BK269
 clear BK270
 clear HB
 have HO273 := n0_
 have HO277 := n1_
 have BK269 := n2_
 have BK270 := n3_
 have HB := n4_
 clear n0_ n1_ n2_ n3_ n4_
 (try clear hb)
 (try clear hb2)
 (try clear hk)
 (try clear hi)
 (try clear ho0)
 obtain ⟨Ao21, co21, eo21⟩ := Kd.R_slice HO277.out
 (first | subst eo21)
 refine hK.out _ _ ⟨(blk_cell BK269.out 0).trans rfl, (blk_cell BK269.out 1).trans rfl, (blk_cell BK269.out 2).trans rfl, (blk_cell BK269.out 3).trans rfl, (blk_cell BK270.out 0).trans rfl, (blk_cell BK270.out 1).trans rfl, (blk_cell BK270.out 2).trans rfl, (blk_cell BK270.out 3).trans rfl⟩ (fun hHeld => ?_)
 clear hK K
 refine norm_ (a' := ?_) ?_ ?_
 rotate_left
 ·show Act.put _ (some 20) _ = _
  simp only [Act.put,sn1,sn2,sn3,i64_w]
  rfl
 refine one_ (i := 17) (N:=some 22) (Mq [18,3]) rfl rfl (one_of HT_.out (by kernel_rfl)) (by decide) (fun K hK => ?_)
 refine goes_ Tryz.func33 (by kernel_rfl) rfl #[.slice Ao21 t275.length co21, .agg #[.int .i64 a1_0, .int .i64 a1_1, .int .u8 a1_2, .int .i64 a1_3]] (by rfl) rfl rfl (by (try simp only [List.map_toArray, List.map_cons, List.map_nil]); first | rfl) ?_
 with_reducible refine (riposteref04_Find.calls k _ _ t275 a1_0 a1_1 a1_2 a1_3 t278 _ ?side1 ?side2 A13.out).mono ?_
 (case side1 => repeat (first | exact (Kd.R_reads' HO277.out).2.2))
 (case side2 => exact (Kd.R_reads' HO277.out).2.1)
 rintro e w22 ⟨rfl, hb⟩
 refine ⟨_, rfl, ?_⟩
 have n0_ := am (Kd.R_below HO273.out hb)
 have n1_ := am (Kd.R_below HO277.out hb)
 have n2_ := am (blk_below (g := gb269) (o := .cells #[.slice A0_0 l0_0.length c0_0, .bool a0_1, .int .i64 a0_2, .bool a0_3] 26 (0, 0)) BK269.out hb)
 have n3_ := am (blk_below (g := gb270) (o := .cells #[.int .i64 a1_0, .int .i64 a1_1, .int .u8 a1_2, .int .i64 a1_3] 52 (0, 0)) BK270.out hb)
 have n4_ := am (below_step HB.out hb)
 clear HO273
 clear HO277
 clear BK269
 clear BK270
 clear HB
 have HO273 := n0_
 have HO277 := n1_
 have BK269 := n2_
 have BK270 := n3_
 have HB := n4_
 clear n0_ n1_ n2_ n3_ n4_
 (try clear hb)
 (try clear hb2)
 (try clear hk)
 (try clear hi)
 refine hK.out _ _ ⟨(blk_cell BK269.out 0).trans rfl, (blk_cell BK269.out 1).trans rfl, (blk_cell BK269.out 2).trans rfl, (blk_cell BK269.out 3).trans rfl, (blk_cell BK270.out 0).trans rfl, (blk_cell BK270.out 1).trans rfl, (blk_cell BK270.out 2).trans rfl, (blk_cell BK270.out 3).trans rfl⟩ (fun hHeld => ?_)
 clear hK K
 refine norm_ (a' := ?_) ?_ ?_
 rotate_left
 ·show Act.put _ (some 22) _ = _
  simp only [Act.put,sn1,sn2,sn3,i64_w]
  rfl
 refine pure_ (i := 18) (N:=some 23) (v:=?_) (a':=?_) (Mq [19,2]) rfl rfl (any_of HT_.out (by kernel_rfl)) (fun _ _ _ h => h) (Or.inl ⟨by rfl, ?_⟩) ?_ ?_;rotate_left;(intro w';go_simp;with_reducible rfl);rotate_left;(simp only [Act.put,sn1,sn2,sn3,i64_w];rfl)
 refine pure_ (i := 19) (N:=some 24) (v:=?_) (a':=?_) (Mq [20,1]) rfl rfl (any_of HT_.out (by kernel_rfl)) (fun _ _ _ h => h) (Or.inl ⟨by rfl, ?_⟩) ?_ ?_;rotate_left;(intro w';go_simp;with_reducible rfl);rotate_left;(simp only [Act.put,sn1,sn2,sn3,i64_w];rfl)
 refine pure_ (i := 20) (N:=some 4) (v:=?_) (a':=?_) (Mq [21]) rfl rfl (any_of HT_.out (by kernel_rfl)) (fun _ _ _ h => h) (Or.inl ⟨by rfl, ?_⟩) ?_ ?_;rotate_left;(intro w';go_simp;with_reducible rfl);rotate_left;(simp only [Act.put,sn1,sn2,sn3,i64_w];rfl)
 refine done_ (done_of HT_.out (by kernel_rfl)) ?_
 try go_wp2
 go_ret
 exact ⟨by first | rfl, by exact HB.out⟩
end Go.Proofs.YtjgocihflhljeaaGreat.P
namespace Go.Proofs.YtjgocihflhljeaaGreat.P
open Go.RowKit Go.Shelf Go.Proofs.YtjgocihflhljeaaGreatW.PrintWords Go.Proofs.YtjgocihflhljeaaGreatW.PrintLast Go.Proofs.YtjgocihflhljeaaGreatW.PrintMore
theorem find_par (i : Nat) (id arg : Int) : ∀ (l : List S24) (k : Nat), findL (paramSpots i k l) id arg = if id = (i : Int) + 1 ∧ (k : Int) + 1 ≤ arg ∧ arg ≤ k + l.length then some ⟨id, arg, (l.getD (arg - 1 - k).toNat z24).f0, (l.getD (arg - 1 - k).toNat z24).f1, true⟩ else none := by
  intro l
  induction l with
  | nil =>
    intro k
    rw [if_neg (by simp; omega)]
    rfl
  | cons b bs ih =>
    intro k
    rw [paramSpots, findL, List.find?_cons]
    by_cases h : Spot.at ⟨(i : Int) + 1, (k : Int) + 1, b.f0, b.f1, true⟩ id arg = true
    · rw [h]
      unfold Spot.at at h
      simp only [Bool.and_eq_true, beq_iff_eq] at h
      obtain ⟨h1, h2⟩ := h
      rw [if_pos (by simp; omega)]
      have e : (arg - 1 - (k : Int)).toNat = 0 := by omega
      rw [e]
      simp only [List.getD_cons_zero]
      rw [← h1, ← h2]
    rw [Bool.eq_false_iff.2 h]
    have := ih (k + 1)
    unfold findL at this
    simp only
    rw [this]
    unfold Spot.at at h
    simp only [Bool.and_eq_true, beq_iff_eq, not_and] at h
    by_cases h1 : id = (i : Int) + 1
    · have h2 := h h1.symm
      have hl : (((b :: bs).length : Nat) : Int) = (bs.length : Int) + 1 := by simp
      have hk1 : ((k + 1 : Nat) : Int) = (k : Int) + 1 := by simp
      by_cases h3 : (k : Int) + 1 ≤ arg ∧ arg ≤ k + ((b :: bs).length : Int)
      · rw [if_pos ⟨h1, by omega, by omega⟩, if_pos ⟨h1, h3⟩]
        have e : (arg - 1 - (k : Int)).toNat = (arg - 1 - ((k + 1 : Nat) : Int)).toNat + 1 := by omega
        rw [e, List.getD_cons_succ]
      rw [if_neg (by intro h4; apply h3; omega), if_neg (by intro h4; exact h3 h4.2)]
    rw [if_neg (by intro h4; exact h1 h4.1), if_neg (by intro h4; exact h1 h4.1)]
def idAt (j : Bool) (ids : List S68) (id arg : Int) : Option Spot :=
  let x := ids.getD (id - 1).toNat z68
  if arg = 0 then some ⟨id, 0, x.f1.f0, x.f1.f1, j || decide (0 < x.f0.length)⟩ else if 1 ≤ arg ∧ arg ≤ x.f0.length then some ⟨id, arg, (x.f0.getD (arg - 1).toNat z24).f0, (x.f0.getD (arg - 1).toNat z24).f1, true⟩ else none
theorem find_ids (j : Bool) (id arg : Int) : ∀ (l : List S68) (i : Nat), findL (idsSpots j i l) id arg = if (i : Int) + 1 ≤ id ∧ id ≤ i + l.length then
    (let x := l.getD (id - 1 - i).toNat z68
     if arg = 0 then some ⟨id, 0, x.f1.f0, x.f1.f1, j || decide (0 < x.f0.length)⟩ else if 1 ≤ arg ∧ arg ≤ x.f0.length then some ⟨id, arg, (x.f0.getD (arg - 1).toNat z24).f0, (x.f0.getD (arg - 1).toNat z24).f1, true⟩ else none) else none := by
  intro l
  induction l with
  | nil =>
    intro i
    rw [if_neg (by simp; omega)]
    rfl
  | cons x xs ih =>
    intro i
    have hl : (((x :: xs).length : Nat) : Int) = (xs.length : Int) + 1 := by simp
    have hi1 : ((i + 1 : Nat) : Int) = (i : Int) + 1 := by simp
    have hp := find_par i id arg x.f0 0
    have ih := ih (i + 1)
    unfold findL at hp ih ⊢
    rw [idsSpots, List.find?_cons, List.find?_append, hp, ih]
    by_cases h1 : id = (i : Int) + 1
    · have e : (id - 1 - (i : Int)).toNat = 0 := by omega
      rw [if_neg (show ¬ (((i + 1 : Nat) : Int) + 1 ≤ id ∧ id ≤ ((i + 1 : Nat) : Int) + xs.length) by omega), if_pos (show (i : Int) + 1 ≤ id ∧ id ≤ i + ((x :: xs).length : Int) by omega), e]
      simp only [List.getD_cons_zero, Spot.at]
      by_cases h2 : arg = 0
      · subst h2
        rw [if_pos rfl]
        simp [h1]
      rw [if_neg h2]
      have h3 : ((0 : Int) == arg) = false := by simp; omega
      rw [h3, Bool.and_false]
      simp only [Option.or_none]
      by_cases h4 : 1 ≤ arg ∧ arg ≤ (x.f0.length : Int)
      · rw [if_pos ⟨h1, by omega, by omega⟩, if_pos h4]
        simp
      rw [if_neg (by intro h5; apply h4; omega), if_neg h4]
    have h3 : (((i : Int) + 1) == id) = false := by simp; omega
    simp only [Spot.at, h3, Bool.false_and]
    rw [if_neg (fun h => h1 h.1), Option.none_or]
    by_cases h4 : (i : Int) + 1 ≤ id ∧ id ≤ i + ((x :: xs).length : Int)
    · rw [if_pos ⟨by omega, by omega⟩, if_pos h4]
      have e : (id - 1 - (i : Int)).toNat = (id - 1 - ((i + 1 : Nat) : Int)).toNat + 1 := by omega
      rw [e, List.getD_cons_succ]
    rw [if_neg (by intro h; apply h4; omega), if_neg h4]
def spotAt (ids : List S68) (rc : Bool) (rn : Int) (j : Bool) (id arg : Int) : Option Spot :=
  if id = 0 ∧ arg = 0 then some ⟨0, 0, rc, rn, j⟩ else if 1 ≤ id ∧ id ≤ ids.length then idAt j ids id arg else none
theorem find_spots (ids : List S68) (rc : Bool) (rn : Int) (j : Bool) (id arg : Int) : findL (spotsL ids rc rn j) id arg = spotAt ids rc rn j id arg := by
  have h := find_ids j id arg ids 0
  unfold findL at h ⊢
  rw [spotsL, List.find?_cons, h]
  unfold spotAt
  by_cases h0 : id = 0 ∧ arg = 0
  · obtain ⟨rfl, rfl⟩ := h0
    rfl
  have hf : Spot.at ⟨0, 0, rc, rn, j⟩ id arg = false := by
    rw [Bool.eq_false_iff]
    intro h
    unfold Spot.at at h
    simp only [Bool.and_eq_true, beq_iff_eq] at h
    exact h0 ⟨h.1.symm, h.2.symm⟩
  rw [hf, if_neg h0]
  unfold idAt
  by_cases h1 : 1 ≤ id ∧ id ≤ (ids.length : Int)
  · rw [if_pos (by simpa using h1), if_pos h1]
    simp
  rw [if_neg (by simpa using h1), if_neg h1]
theorem find_l0 (m : S52) (xs : List S52) (hx : xs.length ≤ 1000000) : ∀ (d i k : Nat), xs.length - i = d → i ≤ xs.length → d < k → (∀ j, j < i → eqM (xs.getD j z52) m = false) → riposteref04_Find.l0 k xs (i : Int) m.f0 m.f1 m.f2 m.f3 = some (fidx (fun x => eqM x m) xs) := by
  intro d
  induction d with
  | zero =>
    intro i k hd hi hk hn
    obtain ⟨k, rfl⟩ : ∃ k', k = k' + 1 := ⟨k - 1, by omega⟩
    rw [riposteref04_Find.l0, if_neg (by omega), fidx_miss _ xs z52 (fun j hj => hn j (by omega))]
  | succ d ih =>
    intro i k hd hi hk hn
    obtain ⟨k, rfl⟩ : ∃ k', k = k' + 1 := ⟨k - 1, by omega⟩
    have hr : rd_T52 xs (i : Int) = xs.getD i z52 := by simp [rd_T52]
    rw [riposteref04_Find.l0, if_pos (by omega), if_pos (by omega), hr]
    change (if eqM (xs.getD i z52) m = true then _ else _) = _
    by_cases h : eqM (xs.getD i z52) m = true
    · rw [if_pos h, fidx_hit (fun x => eqM x m) xs z52 i (by omega) h hn]
    have hw : wrap64 ((i : Int) + 1) = ((i + 1 : Nat) : Int) := by
      rw [← i64_w, IntWalk.i64_in _ (by omega)]
      simp
    rw [if_neg h, hw]
    refine ih (i + 1) k (by omega) (by omega) (by omega) (fun j hj => ?_)
    by_cases e : j = i
    · subst e
      exact Bool.eq_false_iff.2 h
    exact hn j (by omega)
theorem find_f (m : S52) (xs : List S52) (hx : xs.length ≤ 1000000) (k : Nat) (hk : xs.length < k) : riposteref04_Find.f k xs m.f0 m.f1 m.f2 m.f3 = some (fidx (fun x => eqM x m) xs) :=
  find_l0 m xs hx xs.length 0 k rfl (Nat.zero_le _) hk (fun j hj => absurd hj (Nat.not_lt_zero _))
theorem wrap_in {x : Int} (h0 : -1000001 ≤ x) (h1 : x ≤ 1000001) : wrap64 x = x := by rw [← i64_w, IntWalk.i64_in _ (by omega)]
def spotP : Option Spot → Bool × Int × Bool
  | none => (false, 0, false)
  | some p => (p.cell, p.n, true)
theorem placeW_eq (ids : List S68) (rc : Bool) (rn : Int) (j : Bool) (id arg : Int) (hl : ids.length ≤ 8) (hp : ∀ x ∈ ids, x.f0.length ≤ 5) : placeW ids rc rn id arg = some (spotP (spotAt ids rc rn j id arg)) := by
  unfold placeW spotAt
  by_cases h0 : id = 0 ∧ arg = 0
  · rw [if_pos h0, if_pos h0]
    rfl
  rw [if_neg h0, if_neg h0]
  by_cases h1 : 1 ≤ id ∧ id ≤ (ids.length : Int)
  · have hi : inB id 1 ids.length = true := by unfold inB; simp [h1]
    have hw : wrap64 (id - 1) = id - 1 := wrap_in (by omega) (by omega)
    rw [hi, if_neg (by decide), hw, if_pos (by omega), if_pos h1]
    have hr : rd_T68 ids (id - 1) = ids.getD (id - 1).toNat z68 := rfl
    have hx : (ids.getD (id - 1).toNat z68).f0.length ≤ 5 := by
      rw [getD_get ids z68 (id - 1).toNat (by omega)]
      exact hp _ (List.getElem_mem _)
    rw [hr]
    unfold idAt
    generalize ids.getD (id - 1).toNat z68 = x at *
    simp only
    by_cases h2 : arg = 0
    · rw [if_pos h2, if_pos h2]
      rfl
    rw [if_neg h2, if_neg h2]
    by_cases h3 : 1 ≤ arg ∧ arg ≤ (x.f0.length : Int)
    · have hi : inB arg 1 x.f0.length = true := by unfold inB; simp [h3]
      have hw : wrap64 (arg - 1) = arg - 1 := wrap_in (by omega) (by omega)
      rw [hi, if_neg (by decide), hw, if_pos (by omega), if_pos h3]
      rfl
    have hi : inB arg 1 x.f0.length = false := by
      rw [Bool.eq_false_iff]
      intro h
      apply h3
      unfold inB at h
      simpa using h
    rw [hi, if_pos rfl, if_neg h3]
    rfl
  have hi : inB id 1 ids.length = false := by
    rw [Bool.eq_false_iff]
    intro h
    apply h1
    unfold inB at h
    simpa using h
  rw [hi, if_pos rfl, if_neg h1]
  rfl
theorem place_f (k : Nat) (l : List S68) (a0_1 : Bool) (a0_2 : Int) (a0_3 : Bool) (a1 a2 : Int) : riposteref04_Place.f (k + 1) l a0_1 a0_2 a0_3 a1 a2 = placeW l a0_1 a0_2 a1 a2 := by
  have hj : riposteref04_Place.f (k + 1) l a0_1 a0_2 a0_3 a1 a2 = riposteref04_Place.j0 (k + 1) a1 a2 (decide (a1 = 0 ∧ a2 = 0)) l a0_1 a0_2 a0_3 := by
    unfold riposteref04_Place.f
    by_cases h1 : a1 = 0
    · rw [if_pos h1]
      congr 1
      by_cases h2 : a2 = 0 <;> simp [h1, h2]
    rw [if_neg h1]
    congr 1
    simp [h1]
  rw [hj]
  unfold riposteref04_Place.j0 placeW
  simp only [inF_eq, Option.bind_some, decide_eq_true_eq]
  by_cases h0 : a1 = 0 ∧ a2 = 0
  · rw [if_pos h0, if_pos h0]
  rw [if_neg h0, if_neg h0]
  cases hI : inB a1 1 l.length with
  | false => rw [if_neg (show ¬ (false = true) by decide), if_pos (show false = false from rfl)]
  | true =>
    rw [if_pos (show true = true from rfl), if_neg (show ¬ (true = false) by decide)]
    by_cases h1 : 0 ≤ wrap64 (a1 - 1)
    · rw [if_pos h1]
      by_cases h2 : wrap64 (a1 - 1) < (l.length : Int)
      · rw [if_pos h2, if_pos (show 0 ≤ wrap64 (a1 - 1) ∧ wrap64 (a1 - 1) < (l.length : Int) from ⟨h1, h2⟩)]
        by_cases h3 : a2 = 0
        · rw [if_pos h3, if_pos h3]
        rw [if_neg h3, if_neg h3]
        cases hJ : inB a2 1 ((rd_T68 l (wrap64 (a1 - 1))).f0.length : Int) with
        | false => rw [if_neg (show ¬ (false = true) by decide), if_pos (show false = false from rfl)]
        | true =>
          rw [if_pos (show true = true from rfl), if_neg (show ¬ (true = false) by decide)]
          by_cases h4 : 0 ≤ wrap64 (a2 - 1)
          · rw [if_pos h4]
            by_cases h5 : wrap64 (a2 - 1) < ((rd_T68 l (wrap64 (a1 - 1))).f0.length : Int)
            · rw [if_pos h5, if_pos (show 0 ≤ wrap64 (a2 - 1) ∧ wrap64 (a2 - 1) < ((rd_T68 l (wrap64 (a1 - 1))).f0.length : Int) from ⟨h4, h5⟩)]
            rw [if_neg h5, if_neg (show ¬ (0 ≤ wrap64 (a2 - 1) ∧ wrap64 (a2 - 1) < ((rd_T68 l (wrap64 (a1 - 1))).f0.length : Int)) from fun h => h5 h.2)]
          rw [if_neg h4, if_neg (show ¬ (0 ≤ wrap64 (a2 - 1) ∧ wrap64 (a2 - 1) < ((rd_T68 l (wrap64 (a1 - 1))).f0.length : Int)) from fun h => h4 h.1)]
      rw [if_neg h2, if_neg (show ¬ (0 ≤ wrap64 (a1 - 1) ∧ wrap64 (a1 - 1) < (l.length : Int)) from fun h => h2 h.2)]
    rw [if_neg h1, if_neg (show ¬ (0 ≤ wrap64 (a1 - 1) ∧ wrap64 (a1 - 1) < (l.length : Int)) from fun h => h1 h.1)]
theorem q_l0 (id arg N : Int) (hN : N ≤ 64) : ∀ (d n k : Nat) (acc : List S52), N.toNat - n = d → n ≤ N.toNat → d < k → acc.length + d ≤ 1000 → riposteref04_Questions.l0 k id arg acc (n : Int) true N = some (acc ++ (List.range' n d).map (fun (i : Nat) => (⟨id, arg, 2, (i : Int)⟩ : S52))) := by
  intro d
  induction d with
  | zero =>
    intro n k acc hd hn hk ha
    obtain ⟨k, rfl⟩ : ∃ k', k = k' + 1 := ⟨k - 1, by omega⟩
    rw [riposteref04_Questions.l0, if_pos rfl, if_neg (by omega)]
    simp
  | succ d ih =>
    intro n k acc hd hn hk ha
    obtain ⟨k, rfl⟩ : ∃ k', k = k' + 1 := ⟨k - 1, by omega⟩
    have hw : wrap64 ((n : Int) + 1) = ((n + 1 : Nat) : Int) := by
      rw [wrap_in (by omega) (by omega)]
      simp
    rw [riposteref04_Questions.l0, if_pos rfl, if_pos (by omega), if_pos (by omega), hw]
    rw [ih (n + 1) k _ (by omega) (by omega) (by omega) (by simp; omega), List.range'_succ, List.map_cons, List.append_assoc]
    rfl
theorem t_l0 (id arg N : Int) (cell : Bool) (hN : N ≤ 64) : ∀ (d n k : Nat) (acc : List S52), N.toNat - n = d → n ≤ N.toNat → d < k → acc.length + d ≤ 1000 → riposteref04_Told.l0 k id arg 1 acc (n : Int) cell N = some (acc ++ (List.range' n d).map (fun (i : Nat) => (⟨id, arg, 3, (i : Int)⟩ : S52))) := by
  intro d
  induction d with
  | zero =>
    intro n k acc hd hn hk ha
    obtain ⟨k, rfl⟩ : ∃ k', k = k' + 1 := ⟨k - 1, by omega⟩
    rw [riposteref04_Told.l0, if_neg (by omega)]
    simp
  | succ d ih =>
    intro n k acc hd hn hk ha
    obtain ⟨k, rfl⟩ : ∃ k', k = k' + 1 := ⟨k - 1, by omega⟩
    have hw : wrap64 ((n : Int) + 1) = ((n + 1 : Nat) : Int) := by
      rw [wrap_in (by omega) (by omega)]
      simp
    have he : riposteref04_Told.l0 k id arg 1 (acc ++ [(⟨id, arg, 3, (n : Int)⟩ : S52)]) ((n + 1 : Nat) : Int) cell N = some (acc ++ (List.range' n (d + 1)).map (fun (i : Nat) => (⟨id, arg, 3, (i : Int)⟩ : S52))) := by
      rw [ih (n + 1) k _ (by omega) (by omega) (by omega) (by simp; omega), List.range'_succ, List.map_cons, List.append_assoc]
      rfl
    rw [riposteref04_Told.l0, if_pos (by omega), if_pos (show acc.length < 4398046511104 by omega), hw, he]
    split
    · rfl
    rw [if_pos rfl]
theorem questions_f (k : Nat) (hk : 70 ≤ k) (ids : List S68) (rc : Bool) (rn : Int) (j : Bool) (id arg : Int) (hl : ids.length ≤ 8) (hp : ∀ x ∈ ids, x.f0.length ≤ 5) (hn : ∀ p, spotAt ids rc rn j id arg = some p → 1 ≤ p.n ∧ p.n ≤ 64) (hid : ∀ p, spotAt ids rc rn j id arg = some p → p.id = id ∧ p.arg = arg) :
    riposteref04_Questions.f k ids rc rn j id arg = some (match spotAt ids rc rn j id arg with | none => [] | some p => qsL p) := by
  obtain ⟨k, rfl⟩ : ∃ k', k = k' + 1 := ⟨k - 1, by omega⟩
  rw [riposteref04_Questions.f, place_f, placeW_eq ids rc rn j id arg hl hp, Option.bind_some]
  cases hs : spotAt ids rc rn j id arg with
  | none => rfl
  | some p =>
    obtain ⟨h1, h2⟩ := hn p hs
    obtain ⟨e1, e2⟩ := hid p hs
    simp only [spotP, if_true]
    unfold qsL Spot.ask Spot.put
    rw [e1, e2]
    cases hc : p.cell with
    | false =>
      rw [riposteref04_Questions.l0, if_neg (by decide)]
      rfl
    | true =>
      have := q_l0 id arg p.n h2 p.n.toNat 0 (k + 1) [⟨id, arg, 1, 0⟩] rfl (Nat.zero_le _) (by omega) (by simp; omega)
      rw [show ((0 : Nat) : Int) = 0 from rfl] at this
      rw [this, if_pos rfl, List.range_eq_range']
      rfl
theorem spotAt_id {ids : List S68} {rc : Bool} {rn : Int} {j : Bool} {id arg : Int} {p : Spot} (h : spotAt ids rc rn j id arg = some p) : p.id = id ∧ p.arg = arg := by
  unfold spotAt at h
  split at h
  · rename_i h0
    cases h
    exact ⟨h0.1.symm, h0.2.symm⟩
  split at h
  · unfold idAt at h
    simp only at h
    split at h
    · rename_i h1
      cases h
      exact ⟨rfl, h1.symm⟩
    split at h
    · cases h
      exact ⟨rfl, rfl⟩
    cases h
  cases h
theorem escapes_f {ids : List S68} {rc : Bool} {rn : Int} {j : Bool} {id arg : Int} {p : Spot} (hl : ids.length ≤ 8) (h : spotAt ids rc rn j id arg = some p) : riposteref04_Escapes.f ids rc rn j id arg = some p.esc := by
  unfold riposteref04_Escapes.f
  unfold spotAt at h
  split at h
  · rename_i h0
    cases h
    obtain ⟨rfl, rfl⟩ := h0
    cases j <;> rfl
  split at h
  · rename_i h0 h1
    unfold idAt at h
    simp only at h
    have hw : wrap64 (id - 1) = id - 1 := wrap_in (by omega) (by omega)
    split at h
    · rename_i h2
      cases h
      subst h2
      rw [if_neg (by omega)]
      cases j with
      | true => rfl
      | false =>
        rw [if_neg (by decide), if_pos (by omega), hw, if_pos (by omega), if_pos (by omega)]
        simp [rd_T68]
    split at h
    · rename_i h3
      cases h
      rw [if_pos (by omega)]
    cases h
  cases h
theorem told_f (k : Nat) (hk : 70 ≤ k) (ids : List S68) (rc : Bool) (rn : Int) (j : Bool) (id arg : Int) (hl : ids.length ≤ 8) (hp : ∀ x ∈ ids, x.f0.length ≤ 5) (hn : ∀ p, spotAt ids rc rn j id arg = some p → 1 ≤ p.n ∧ p.n ≤ 64) :
    riposteref04_Told.f k ids rc rn j id arg 1 = some (match spotAt ids rc rn j id arg with | none => [] | some p => aL p p.n) := by
  obtain ⟨k, rfl⟩ : ∃ k', k = k' + 1 := ⟨k - 1, by omega⟩
  rw [riposteref04_Told.f, place_f, placeW_eq ids rc rn j id arg hl hp, Option.bind_some]
  cases hs : spotAt ids rc rn j id arg with
  | none => rfl
  | some p =>
    obtain ⟨h1, h2⟩ := hn p hs
    obtain ⟨e1, e2⟩ := spotAt_id hs
    simp only [spotP, if_true]
    rw [escapes_f hl hs, Option.bind_some]
    unfold aL Spot.tell
    rw [e1, e2]
    cases he : p.esc with
    | true =>
      rw [if_pos rfl, if_pos (by simp), riposteref04_Told.j0]
      have := t_l0 id arg p.n p.cell h2 p.n.toNat 0 k ([] ++ [⟨id, arg, 3, -1⟩]) rfl (Nat.zero_le _) (by omega) (by simp; omega)
      rw [show ((0 : Nat) : Int) = 0 from rfl] at this
      rw [this, if_pos rfl, List.range_eq_range']
      rfl
    | false =>
      rw [if_neg (by decide), riposteref04_Told.j0]
      have := t_l0 id arg p.n p.cell h2 p.n.toNat 0 k [] rfl (Nat.zero_le _) (by omega) (by simp; omega)
      rw [show ((0 : Nat) : Int) = 0 from rfl] at this
      rw [this, if_neg (by decide), List.range_eq_range']
theorem has_f (k : Nat) (hk : 200 ≤ k) (ids : List S68) (rc : Bool) (rn : Int) (j : Bool) (m : S52) (hc : checkE ids rn = 0) : riposteref04_Has.f k ids rc rn j m.f0 m.f1 m.f2 m.f3 = some (hasR ids rc rn j m) := by
  obtain ⟨hl, hp, _, _⟩ := checkE_ok hc
  have hn : ∀ p, spotAt ids rc rn j m.f0 m.f1 = some p → 1 ≤ p.n ∧ p.n ≤ 64 := by
    intro p hs
    rw [← find_spots] at hs
    exact spotsL_n hc rc j p (List.mem_of_find?_eq_some hs)
  rw [riposteref04_Has.f, questions_f k (by omega) ids rc rn j m.f0 m.f1 hl hp hn (fun p hs => spotAt_id hs), Option.bind_some, told_f k (by omega) ids rc rn j m.f0 m.f1 hl hp hn, hasR, if_pos hc, find_spots]
  cases hs : spotAt ids rc rn j m.f0 m.f1 with
  | none =>
    simp only [hasL]
    have e : fidx (fun x => eqM x m) [] = -1 := rfl
    rw [find_f m [] (by simp) k (by simp; omega), Option.bind_some, e, if_neg (by decide), Option.bind_some, find_f m [] (by simp) k (by simp; omega), Option.bind_some, e]
    rfl
  | some p =>
    obtain ⟨h1, h2⟩ := hn p hs
    have hql : (qsL p).length ≤ 65 := by
      unfold qsL
      rw [List.length_cons]
      split
      · rw [List.length_map, List.length_range]; omega
      simp
    have hal : (aL p p.n).length ≤ 65 := by
      unfold aL
      rw [List.length_append, List.length_map, List.length_range]
      split <;> simp <;> omega
    simp only [hasL, movesL, List.any_append]
    rw [find_f m (qsL p) (by omega) k (by omega), Option.bind_some]
    have hq := fidx_nonneg (fun x => eqM x m) (qsL p)
    have ha := fidx_nonneg (fun x => eqM x m) (aL p p.n)
    by_cases h0 : 0 ≤ fidx (fun x => eqM x m) (qsL p)
    · rw [if_pos h0, ← hq, decide_eq_true h0, Bool.true_or]
    rw [if_neg h0, Option.bind_some, find_f m (aL p p.n) (by omega) k (by omega), Option.bind_some, ← hq, ← ha, decide_eq_false h0, Bool.false_or]
end Go.Proofs.YtjgocihflhljeaaGreat.P
namespace Go.Proofs.YtjgocihflhljeaaGreat.P
open Go.RowKit Go.Proofs.YtjgocihflhljeaaGreatW.PrintWords Go.Proofs.YtjgocihflhljeaaGreatW.PrintLast Go.Proofs.YtjgocihflhljeaaGreatW.PrintMore
attribute [local go_sem] max2_int max_two
def ripostelaw04_Thin.l0 : Nat → Int → List (S68) → Bool → Int → Bool → Option (Bool)
 | 0, _, _, _, _, _ => none
 | k + 1, x3, x102000, x102001, x102002, x102003 => if x3 < (x102000.length : Int) then (if 0 ≤ x3 then (if (((rd_T68 x102000 x3).f0).length : Int) > 8 then (some false) else (ripostelaw04_Thin.l0 k (wrap64 (x3 + 1)) x102000 x102001 x102002 x102003)) else (none)) else (some true)
def ripostelaw04_Thin.f (k : Nat) (l0_0 : List (S68)) (a0_1 : Bool) (a0_2 : Int) (a0_3 : Bool) : Option (Bool) := if (l0_0.length : Int) > 12 then (some false) else (ripostelaw04_Thin.l0 k 0 l0_0 a0_1 a0_2 a0_3)
set_option maxHeartbeats 8000000 in
set_option maxRecDepth 100000 in
theorem ripostelaw04_Thin.calls (k : Nat) (A0_0 : Option Addr) (c0_0 : Nat) (l0_0 : List (S68)) (a0_1 : Bool) (a0_2 : Int) (a0_3 : Bool) (r : Bool) (w : World) (hr0_0 : Kd.C k68 w A0_0 l0_0.length l0_0) (hc0_0 : l0_0.length ≤ c0_0) (h : ripostelaw04_Thin.f k l0_0 a0_1 a0_2 a0_3 = some r) :
  Calls Tryz.prog 53 #[.agg #[.slice A0_0 l0_0.length c0_0, .bool a0_1, .int .i64 a0_2, .bool a0_3]] w fun e w' => e = .returned (.bool r) ∧ Below w.heap.size w w' := by
 have hu26 := Tryz.underlying26
 have HR0_0 := am hr0_0
 have HC0_0 := am hc0_0
 clear hr0_0 hc0_0
 have HB := am (Below.refl w.heap.size w)
 have H : (if (l0_0.length : Int) > 12 then (some false) else (ripostelaw04_Thin.l0 k 0 l0_0 a0_1 a0_2 a0_3)) = some r := h
 clear h
 by_cases c2 : (l0_0.length : Int) > 12
 ·rw [if_pos c2] at H
  have c2b0 : decide (12 < (l0_0.length : Int)) = true := decide_eq_true c2
  have c2b1 : decide (12 < l0_0.length) = true := decide_eq_true (by omega)
  clear c2
  obtain rfl := Option.some.inj H
  go_enter Tryz.func53, Tryz.ntmps53
  go_wp2_with (first | ((with_reducible refine gate_dst (N := 1) rfl ?_); refine box_event ?hg (N := 1) ?hd (cs := #[.slice A0_0 l0_0.length c0_0, .bool a0_1, .int .i64 a0_2, .bool a0_3]) (t := 26) ?hr ?_; (case hd => rfl); (case hg => rfl); (case hr => go_simp); intro gb101 hg w3 hbox hb; have n0_ := am (below_step HB.out hb); have n1_ := am (hbox); have n2_ := am ((by rw [hg]; exact (below_size HB.out) : w.heap.size ≤ gb101)); have n3_ := am ((by rw [hg]; exact (below_size HB.out) : w.heap.size ≤ gb101)); clear HB; have HB := n0_; have BK101 := n1_; have GW101 := n2_; have GE101 := n3_; clear n0_ n1_ n2_ n3_; clear hb hbox hg; have hcz4_0 : w3.cell? ⟨gb101, 0, none⟩ = some (.slice A0_0 l0_0.length c0_0) := (blk_cell BK101.out 0).trans rfl; have hcz4_1 : w3.cell? ⟨gb101, 1, none⟩ = some (.bool a0_1) := (blk_cell BK101.out 1).trans rfl; have hcz4_2 : w3.cell? ⟨gb101, 2, none⟩ = some (.int .i64 a0_2) := (blk_cell BK101.out 2).trans rfl; have hcz4_3 : w3.cell? ⟨gb101, 3, none⟩ = some (.bool a0_3) := (blk_cell BK101.out 3).trans rfl; have hfz4_0 := blk_frozen BK101.out 0; have hfz4_1 := blk_frozen BK101.out 1; have hfz4_2 := blk_frozen BK101.out 2; have hfz4_3 := blk_frozen BK101.out 3))
  go_ret
  exact ⟨by first | rfl, by exact HB.out⟩
 rw [if_neg c2] at H
 have c2b0 : decide (12 < (l0_0.length : Int)) = false := decide_eq_false c2
 have c2b1 : decide (12 < l0_0.length) = false := decide_eq_false (by omega)
 clear c2
 have H' := am H
 clear H
 go_enter Tryz.func53, Tryz.ntmps53
 go_wp2_with (first | ((with_reducible refine gate_dst (N := 1) rfl ?_); refine box_event ?hg (N := 1) ?hd (cs := #[.slice A0_0 l0_0.length c0_0, .bool a0_1, .int .i64 a0_2, .bool a0_3]) (t := 26) ?hr ?_; (case hd => rfl); (case hg => rfl); (case hr => go_simp); intro gb101 hg w5 hbox hb; have n0_ := am (below_step HB.out hb); have n1_ := am (hbox); have n2_ := am ((by rw [hg]; exact (below_size HB.out) : w.heap.size ≤ gb101)); have n3_ := am ((by rw [hg]; exact (below_size HB.out) : w.heap.size ≤ gb101)); clear HB; have HB := n0_; have BK101 := n1_; have GW101 := n2_; have GE101 := n3_; clear n0_ n1_ n2_ n3_; clear hb hbox hg; have hcz6_0 : w5.cell? ⟨gb101, 0, none⟩ = some (.slice A0_0 l0_0.length c0_0) := (blk_cell BK101.out 0).trans rfl; have hcz6_1 : w5.cell? ⟨gb101, 1, none⟩ = some (.bool a0_1) := (blk_cell BK101.out 1).trans rfl; have hcz6_2 : w5.cell? ⟨gb101, 2, none⟩ = some (.int .i64 a0_2) := (blk_cell BK101.out 2).trans rfl; have hcz6_3 : w5.cell? ⟨gb101, 3, none⟩ = some (.bool a0_3) := (blk_cell BK101.out 3).trans rfl; have hfz6_0 := blk_frozen BK101.out 0; have hfz6_1 := blk_frozen BK101.out 1; have hfz6_2 := blk_frozen BK101.out 2; have hfz6_3 := blk_frozen BK101.out 3))
 go_loopg [3] k (fun kq v3 w' => ∃ (x3_1 : Int), v3 = .int .i64 x3_1 ∧ Aside0 (ripostelaw04_Thin.l0 kq x3_1 l0_0 a0_1 a0_2 a0_3 = some r) ∧ Aside0 (kq ≤ k) ∧ Aside0 (w'.heap[gb101]? = some (.cells #[(.slice A0_0 l0_0.length c0_0), .bool a0_1, .int .i64 a0_2, .bool a0_3] 26 (0, 0))) ∧ Aside0 (Below w.heap.size w w'))
 case atStart => exact ⟨(0), (by first | rfl), H', ⟨Nat.le_refl _⟩, ⟨by exact BK101.out⟩, ⟨by exact HB.out⟩⟩
 case round =>
  clear H'
  try clear c2
  try clear c2b0
  try clear c2b1
  try clear p2
  try clear c5
  try clear hcz4_0
  try clear hcz4_1
  try clear hcz4_2
  try clear hcz4_3
  try clear hcz6_0
  try clear hcz6_1
  try clear hcz6_2
  try clear hcz6_3
  try clear hfz4_0
  try clear hfz4_1
  try clear hfz4_2
  try clear hfz4_3
  try clear hfz6_0
  try clear hfz6_1
  try clear hfz6_2
  try clear hfz6_3
  obtain ⟨x3_1, rfl, HA, HK1, BK101, HB⟩ := hrel
  cases gk with
  | zero => exact absurd HA.out (by simp [ripostelaw04_Thin.l0])
  | succ k1 =>
   have H := HA.out
   clear HA
   simp only [ripostelaw04_Thin.l0] at H
   by_cases c7 : x3_1 < (l0_0.length : Int)
   ·rw [if_pos c7] at H
    have c7b0 : decide (x3_1 < (l0_0.length : Int)) = true := decide_eq_true c7
    clear c7
    by_cases c8 : 0 ≤ x3_1
    ·rw [if_pos c8] at H
     have c8b0 : decide (0 ≤ x3_1) = true := decide_eq_true c8
     clear c8
     by_cases c9 : (((rd_T68 l0_0 x3_1).f0).length : Int) > 8
     ·rw [if_pos c9] at H
      have c9b0 : decide (8 < (((rd_T68 l0_0 x3_1).f0).length : Int)) = true := decide_eq_true c9
      have c9b1 : decide (8 < ((rd_T68 l0_0 x3_1).f0).length) = true := decide_eq_true (by omega)
      clear c9
      obtain rfl := Option.some.inj H
      have hcz10_0 : wr.cell? ⟨gb101, 0, none⟩ = some (.slice A0_0 l0_0.length c0_0) := (blk_cell BK101.out 0).trans rfl
      have hcz10_1 : wr.cell? ⟨gb101, 1, none⟩ = some (.bool a0_1) := (blk_cell BK101.out 1).trans rfl
      have hcz10_2 : wr.cell? ⟨gb101, 2, none⟩ = some (.int .i64 a0_2) := (blk_cell BK101.out 2).trans rfl
      have hcz10_3 : wr.cell? ⟨gb101, 3, none⟩ = some (.bool a0_3) := (blk_cell BK101.out 3).trans rfl
      have hfz10_0 := blk_frozen BK101.out 0
      have hfz10_1 := blk_frozen BK101.out 1
      have hfz10_2 := blk_frozen BK101.out 2
      have hfz10_3 := blk_frozen BK101.out 3
      have p102 : 0 ≤ (x3_1 : Int) := of_decide_eq_true (by first | (with_reducible assumption))
      have q102 : x3_1 < (l0_0.length : Int) := of_decide_eq_true (by first | (with_reducible assumption))
      obtain ⟨ad102, A102_0, c102_0, e102, hx102_0, hx102_1, hx102_2, hl102_0, hi102_0⟩ := at_T68 HR0_0.out x3_1 p102 q102
      cases e102
      replace hx102_0 := (HB.out.cell (World.block_lt_of_cell? w _ hx102_0)).trans hx102_0
      replace hx102_1 := (HB.out.cell (World.block_lt_of_cell? w _ hx102_1)).trans hx102_1
      replace hx102_2 := (HB.out.cell (World.block_lt_of_cell? w _ hx102_2)).trans hx102_2
      have HR102_0 := am hi102_0
      have HC102_0 := am hl102_0
      clear hi102_0 hl102_0
      replace p102 := eq_true p102
      replace q102 := eq_true q102
      go_wp2
      go_ret
      exact ⟨by first | rfl, by exact HB.out⟩
     rw [if_neg c9] at H
     have c9b0 : decide (8 < (((rd_T68 l0_0 x3_1).f0).length : Int)) = false := decide_eq_false c9
     have c9b1 : decide (8 < ((rd_T68 l0_0 x3_1).f0).length) = false := decide_eq_false (by omega)
     clear c9
     have H' := am H
     clear H
     have hcz11_0 : wr.cell? ⟨gb101, 0, none⟩ = some (.slice A0_0 l0_0.length c0_0) := (blk_cell BK101.out 0).trans rfl
     have hcz11_1 : wr.cell? ⟨gb101, 1, none⟩ = some (.bool a0_1) := (blk_cell BK101.out 1).trans rfl
     have hcz11_2 : wr.cell? ⟨gb101, 2, none⟩ = some (.int .i64 a0_2) := (blk_cell BK101.out 2).trans rfl
     have hcz11_3 : wr.cell? ⟨gb101, 3, none⟩ = some (.bool a0_3) := (blk_cell BK101.out 3).trans rfl
     have hfz11_0 := blk_frozen BK101.out 0
     have hfz11_1 := blk_frozen BK101.out 1
     have hfz11_2 := blk_frozen BK101.out 2
     have hfz11_3 := blk_frozen BK101.out 3
     have p102 : 0 ≤ (x3_1 : Int) := of_decide_eq_true (by first | (with_reducible assumption))
     have q102 : x3_1 < (l0_0.length : Int) := of_decide_eq_true (by first | (with_reducible assumption))
     obtain ⟨ad102, A102_0, c102_0, e102, hx102_0, hx102_1, hx102_2, hl102_0, hi102_0⟩ := at_T68 HR0_0.out x3_1 p102 q102
     cases e102
     replace hx102_0 := (HB.out.cell (World.block_lt_of_cell? w _ hx102_0)).trans hx102_0
     replace hx102_1 := (HB.out.cell (World.block_lt_of_cell? w _ hx102_1)).trans hx102_1
     replace hx102_2 := (HB.out.cell (World.block_lt_of_cell? w _ hx102_2)).trans hx102_2
     have HR102_0 := am hi102_0
     have HC102_0 := am hl102_0
     clear hi102_0 hl102_0
     replace p102 := eq_true p102
     replace q102 := eq_true q102
     go_wp2
     go_roundg k1
     case measure => have := HK1.out; omega
     case rel => exact ⟨(wrap64 (x3_1 + 1)), (by first | rfl), H', ⟨by have := HK1.out; omega⟩, ⟨by exact BK101.out⟩, ⟨by exact HB.out⟩⟩
    rw [if_neg c8] at H
    exact absurd H (by simp)
   rw [if_neg c7] at H
   have c7b0 : decide (x3_1 < (l0_0.length : Int)) = false := decide_eq_false c7
   clear c7
   obtain rfl := Option.some.inj H
   have hcz12_0 : wr.cell? ⟨gb101, 0, none⟩ = some (.slice A0_0 l0_0.length c0_0) := (blk_cell BK101.out 0).trans rfl
   have hcz12_1 : wr.cell? ⟨gb101, 1, none⟩ = some (.bool a0_1) := (blk_cell BK101.out 1).trans rfl
   have hcz12_2 : wr.cell? ⟨gb101, 2, none⟩ = some (.int .i64 a0_2) := (blk_cell BK101.out 2).trans rfl
   have hcz12_3 : wr.cell? ⟨gb101, 3, none⟩ = some (.bool a0_3) := (blk_cell BK101.out 3).trans rfl
   have hfz12_0 := blk_frozen BK101.out 0
   have hfz12_1 := blk_frozen BK101.out 1
   have hfz12_2 := blk_frozen BK101.out 2
   have hfz12_3 := blk_frozen BK101.out 3
   go_wp2
   go_ret
   exact ⟨by first | rfl, by exact HB.out⟩
end Go.Proofs.YtjgocihflhljeaaGreat.P
namespace Go.Proofs.YtjgocihflhljeaaGreat.P
open Go.RowKit Go.Proofs.YtjgocihflhljeaaGreatW.PrintWords Go.Proofs.YtjgocihflhljeaaGreatW.PrintLast Go.Proofs.YtjgocihflhljeaaGreatW.PrintMore
attribute [local go_sem] max2_int max_two
attribute [local go_sem high] eqA52
def riposteref04_SameWord.l0 : Nat → List (S52) → List (S52) → Int → Option (Bool)
 | 0, _, _, _ => none
 | k + 1, x0, x1, x5 => if x5 < (x0.length : Int) then (if 0 ≤ x5 then (if x5 < (x1.length : Int) then (if (!(((rd_T52 x0 x5).f0) == ((rd_T52 x1 x5).f0)) || (!(((rd_T52 x0 x5).f1) == ((rd_T52 x1 x5).f1)) || (!(((rd_T52 x0 x5).f2) == ((rd_T52 x1 x5).f2)) || (!(((rd_T52 x0 x5).f3) == ((rd_T52 x1 x5).f3)))))) = true then (some false) else (riposteref04_SameWord.l0 k x0 x1 (wrap64 (x5 + 1)))) else (none)) else (none)) else (some true)
def riposteref04_SameWord.f (k : Nat) (l0 : List (S52)) (l1 : List (S52)) : Option (Bool) := if (l0.length : Int) = (l1.length : Int) then (riposteref04_SameWord.l0 k l0 l1 0) else (some false)
set_option maxHeartbeats 8000000 in
set_option maxRecDepth 100000 in
theorem riposteref04_SameWord.calls (k : Nat) (A0 : Option Addr) (c0 : Nat) (l0 : List (S52)) (A1 : Option Addr) (c1 : Nat) (l1 : List (S52)) (r : Bool) (w : World) (hr0 : Kd.C k52 w A0 l0.length l0) (hc0 : l0.length ≤ c0) (hr1 : Kd.C k52 w A1 l1.length l1) (hc1 : l1.length ≤ c1) (h : riposteref04_SameWord.f k l0 l1 = some r) :
  Calls Tryz.prog 24 #[.slice A0 l0.length c0, .slice A1 l1.length c1] w fun e w' => e = .returned (.bool r) ∧ Drawn0 w w' := by
 have hu52 := Tryz.underlying52
 have HR0 := am hr0
 have HC0 := am hc0
 clear hr0 hc0
 have HR1 := am hr1
 have HC1 := am hc1
 clear hr1 hc1
 have H : (if (l0.length : Int) = (l1.length : Int) then (riposteref04_SameWord.l0 k l0 l1 0) else (some false)) = some r := h
 clear h
 by_cases c3 : (l0.length : Int) = (l1.length : Int)
 ·rw [if_pos c3] at H
  have c3b0 : ((l0.length : Int) == (l1.length : Int)) = true := beq_iff_eq.mpr c3
  have c3b1 : ((l0.length : Int) != (l1.length : Int)) = false := bne_eq_false_iff_eq.mpr c3
  have c3b2 : (l0.length == l1.length) = true := by first | (simp at c3 ⊢; omega)
  clear c3
  have H' := am H
  clear H
  go_enter Tryz.func24, Tryz.ntmps24
  go_wp2
  repeat (go_quiet (fail); try go_wp2)
  go_loopg [5] k (fun kq v5 w' => ∃ (x5_1 : Int), v5 = .int .i64 x5_1 ∧ Aside0 (riposteref04_SameWord.l0 kq l0 l1 x5_1 = some r) ∧ Aside0 (kq ≤ k) ∧ Drawn0 w w')
  case atStart => exact ⟨(0), (by first | rfl), H', ⟨Nat.le_refl _⟩, by repeat (first | exact Drawn0.refl _)⟩
  case round =>
   clear H'
   try clear c1
   try clear c2
   try clear p2
   try clear c3
   try clear c3b0
   try clear c3b1
   try clear c3b2
   obtain ⟨x5_1, rfl, HA, HK1, ⟨m1, rfl⟩⟩ := hrel
   cases gk with
   | zero => exact absurd HA.out (by simp [riposteref04_SameWord.l0])
   | succ k1 =>
    have H := HA.out
    clear HA
    simp only [riposteref04_SameWord.l0] at H
    by_cases c4 : x5_1 < (l0.length : Int)
    ·rw [if_pos c4] at H
     have c4b0 : decide (x5_1 < (l0.length : Int)) = true := decide_eq_true c4
     clear c4
     by_cases c5 : 0 ≤ x5_1
     ·rw [if_pos c5] at H
      have c5b0 : decide (0 ≤ x5_1) = true := decide_eq_true c5
      clear c5
      by_cases c6 : x5_1 < (l1.length : Int)
      ·rw [if_pos c6] at H
       have c6b0 : decide (x5_1 < (l1.length : Int)) = true := decide_eq_true c6
       clear c6
       by_cases c7 : (!(((rd_T52 l0 x5_1).f0) == ((rd_T52 l1 x5_1).f0)) || (!(((rd_T52 l0 x5_1).f1) == ((rd_T52 l1 x5_1).f1)) || (!(((rd_T52 l0 x5_1).f2) == ((rd_T52 l1 x5_1).f2)) || (!(((rd_T52 l0 x5_1).f3) == ((rd_T52 l1 x5_1).f3)))))) = true
       ·rw [if_pos c7] at H
        have c7b0 : (!(((rd_T52 l0 x5_1).f0) == ((rd_T52 l1 x5_1).f0)) || (!(((rd_T52 l0 x5_1).f1) == ((rd_T52 l1 x5_1).f1)) || (!(((rd_T52 l0 x5_1).f2) == ((rd_T52 l1 x5_1).f2)) || (!(((rd_T52 l0 x5_1).f3) == ((rd_T52 l1 x5_1).f3)))))) = true := c7
        clear c7
        obtain rfl := Option.some.inj H
        have p138 : 0 ≤ (x5_1 : Int) := of_decide_eq_true (by first | (with_reducible assumption))
        have q138 : x5_1 < (l0.length : Int) := of_decide_eq_true (by first | (with_reducible assumption))
        obtain ⟨ad138, e138, hx138_0, hx138_1, hx138_2, hx138_3⟩ := at_T52 HR0.out x5_1 p138 q138
        cases e138
        replace p138 := eq_true p138
        replace q138 := eq_true q138
        have p139 : 0 ≤ (x5_1 : Int) := of_decide_eq_true (by first | (with_reducible assumption))
        have q139 : x5_1 < (l1.length : Int) := of_decide_eq_true (by first | (with_reducible assumption))
        obtain ⟨ad139, e139, hx139_0, hx139_1, hx139_2, hx139_3⟩ := at_T52 HR1.out x5_1 p139 q139
        cases e139
        replace p139 := eq_true p139
        replace q139 := eq_true q139
        go_wp2
        repeat (go_quiet (fail); try go_wp2)
        go_ret
        exact ⟨by first | rfl, by repeat (first | exact Drawn0.refl _ | apply Drawn0.step)⟩
       rw [if_neg c7] at H
       have c7b0 : (!(((rd_T52 l0 x5_1).f0) == ((rd_T52 l1 x5_1).f0)) || (!(((rd_T52 l0 x5_1).f1) == ((rd_T52 l1 x5_1).f1)) || (!(((rd_T52 l0 x5_1).f2) == ((rd_T52 l1 x5_1).f2)) || (!(((rd_T52 l0 x5_1).f3) == ((rd_T52 l1 x5_1).f3)))))) = false := by simpa using c7
       clear c7
       have H' := am H
       clear H
       have p138 : 0 ≤ (x5_1 : Int) := of_decide_eq_true (by first | (with_reducible assumption))
       have q138 : x5_1 < (l0.length : Int) := of_decide_eq_true (by first | (with_reducible assumption))
       obtain ⟨ad138, e138, hx138_0, hx138_1, hx138_2, hx138_3⟩ := at_T52 HR0.out x5_1 p138 q138
       cases e138
       replace p138 := eq_true p138
       replace q138 := eq_true q138
       have p139 : 0 ≤ (x5_1 : Int) := of_decide_eq_true (by first | (with_reducible assumption))
       have q139 : x5_1 < (l1.length : Int) := of_decide_eq_true (by first | (with_reducible assumption))
       obtain ⟨ad139, e139, hx139_0, hx139_1, hx139_2, hx139_3⟩ := at_T52 HR1.out x5_1 p139 q139
       cases e139
       replace p139 := eq_true p139
       replace q139 := eq_true q139
       go_wp2
       repeat (go_quiet (fail); try go_wp2)
       go_roundg k1
       case measure => have := HK1.out; omega
       case rel => exact ⟨(wrap64 (x5_1 + 1)), (by first | rfl), H', ⟨by have := HK1.out; omega⟩, by repeat (first | exact Drawn0.refl _ | apply Drawn0.step)⟩
      rw [if_neg c6] at H
      exact absurd H (by simp)
     rw [if_neg c5] at H
     exact absurd H (by simp)
    rw [if_neg c4] at H
    have c4b0 : decide (x5_1 < (l0.length : Int)) = false := decide_eq_false c4
    clear c4
    obtain rfl := Option.some.inj H
    go_wp2
    repeat (go_quiet (fail); try go_wp2)
    go_ret
    exact ⟨by first | rfl, by repeat (first | exact Drawn0.refl _ | apply Drawn0.step)⟩
 rw [if_neg c3] at H
 have c3b0 : ((l0.length : Int) == (l1.length : Int)) = false := beq_eq_false_iff_ne.mpr c3
 have c3b1 : ((l0.length : Int) != (l1.length : Int)) = true := bne_iff_ne.mpr c3
 have c3b2 : (l0.length == l1.length) = false := by first | (simp at c3 ⊢; omega)
 obtain rfl := Option.some.inj H
 go_enter Tryz.func24, Tryz.ntmps24
 go_wp2
 repeat (go_quiet (fail); try go_wp2)
 go_ret
 exact ⟨by first | rfl, by repeat (first | exact Drawn0.refl _)⟩
def riposteref05_SameInts.l0 : Nat → List Int → List Int → Int → Option (Bool)
 | 0, _, _, _ => none
 | k + 1, x0, x1, x5 => if x5 < (x0.length : Int) then (if 0 ≤ x5 then (if x5 < (x1.length : Int) then (if (rd x0 x5) = (rd x1 x5) then (riposteref05_SameInts.l0 k x0 x1 (wrap64 (x5 + 1))) else (some false)) else (none)) else (none)) else (some true)
def riposteref05_SameInts.f (k : Nat) (l0 : List Int) (l1 : List Int) : Option (Bool) := if (l0.length : Int) = (l1.length : Int) then (riposteref05_SameInts.l0 k l0 l1 0) else (some false)
set_option maxHeartbeats 8000000 in
set_option maxRecDepth 100000 in
theorem riposteref05_SameInts.calls (k : Nat) (A0 : Option Addr) (c0 : Nat) (l0 : List Int) (A1 : Option Addr) (c1 : Nat) (l1 : List Int) (r : Bool) (w : World) (hr0 : Kd.C (Kd.int .i64) w A0 l0.length l0) (hc0 : l0.length ≤ c0) (hr1 : Kd.C (Kd.int .i64) w A1 l1.length l1) (hc1 : l1.length ≤ c1) (h : riposteref05_SameInts.f k l0 l1 = some r) :
  Calls Tryz.prog 29 #[.slice A0 l0.length c0, .slice A1 l1.length c1] w fun e w' => e = .returned (.bool r) ∧ Drawn0 w w' := by
 have HR0 := am hr0
 have HC0 := am hc0
 clear hr0 hc0
 have HR1 := am hr1
 have HC1 := am hc1
 clear hr1 hc1
 have H : (if (l0.length : Int) = (l1.length : Int) then (riposteref05_SameInts.l0 k l0 l1 0) else (some false)) = some r := h
 clear h
 by_cases c3 : (l0.length : Int) = (l1.length : Int)
 ·rw [if_pos c3] at H
  have c3b0 : ((l0.length : Int) == (l1.length : Int)) = true := beq_iff_eq.mpr c3
  have c3b1 : ((l0.length : Int) != (l1.length : Int)) = false := bne_eq_false_iff_eq.mpr c3
  have c3b2 : (l0.length == l1.length) = true := by first | (simp at c3 ⊢; omega)
  clear c3
  have H' := am H
  clear H
  go_enter Tryz.func29, Tryz.ntmps29
  go_wp2
  repeat (go_quiet (fail); try go_wp2)
  go_loopg [5] k (fun kq v5 w' => ∃ (x5_1 : Int), v5 = .int .i64 x5_1 ∧ Aside0 (riposteref05_SameInts.l0 kq l0 l1 x5_1 = some r) ∧ Aside0 (kq ≤ k) ∧ Drawn0 w w')
  case atStart => exact ⟨(0), (by first | rfl), H', ⟨Nat.le_refl _⟩, by repeat (first | exact Drawn0.refl _)⟩
  case round =>
   clear H'
   try clear c1
   try clear c2
   try clear p2
   try clear c3
   try clear c3b0
   try clear c3b1
   try clear c3b2
   obtain ⟨x5_1, rfl, HA, HK1, ⟨m1, rfl⟩⟩ := hrel
   cases gk with
   | zero => exact absurd HA.out (by simp [riposteref05_SameInts.l0])
   | succ k1 =>
    have H := HA.out
    clear HA
    simp only [riposteref05_SameInts.l0] at H
    by_cases c4 : x5_1 < (l0.length : Int)
    ·rw [if_pos c4] at H
     have c4b0 : decide (x5_1 < (l0.length : Int)) = true := decide_eq_true c4
     clear c4
     by_cases c5 : 0 ≤ x5_1
     ·rw [if_pos c5] at H
      have c5b0 : decide (0 ≤ x5_1) = true := decide_eq_true c5
      clear c5
      by_cases c6 : x5_1 < (l1.length : Int)
      ·rw [if_pos c6] at H
       have c6b0 : decide (x5_1 < (l1.length : Int)) = true := decide_eq_true c6
       clear c6
       by_cases c7 : (rd l0 x5_1) = (rd l1 x5_1)
       ·rw [if_pos c7] at H
        have c7b0 : ((rd l0 x5_1) == (rd l1 x5_1)) = true := beq_iff_eq.mpr c7
        have c7b1 : ((rd l0 x5_1) != (rd l1 x5_1)) = false := bne_eq_false_iff_eq.mpr c7
        clear c7
        have H' := am H
        clear H
        have p142 : 0 ≤ (x5_1 : Int) := of_decide_eq_true (by first | (with_reducible assumption))
        have q142 : x5_1 < (l0.length : Int) := of_decide_eq_true (by first | (with_reducible assumption))
        obtain ⟨ad142, e142, hx142_0⟩ := Kd.at_int HR0.out x5_1 p142 q142
        cases e142
        replace p142 := eq_true p142
        replace q142 := eq_true q142
        have p143 : 0 ≤ (x5_1 : Int) := of_decide_eq_true (by first | (with_reducible assumption))
        have q143 : x5_1 < (l1.length : Int) := of_decide_eq_true (by first | (with_reducible assumption))
        obtain ⟨ad143, e143, hx143_0⟩ := Kd.at_int HR1.out x5_1 p143 q143
        cases e143
        replace p143 := eq_true p143
        replace q143 := eq_true q143
        go_wp2
        repeat (go_quiet (fail); try go_wp2)
        go_roundg k1
        case measure => have := HK1.out; omega
        case rel => exact ⟨(wrap64 (x5_1 + 1)), (by first | rfl), H', ⟨by have := HK1.out; omega⟩, by repeat (first | exact Drawn0.refl _ | apply Drawn0.step)⟩
       rw [if_neg c7] at H
       have c7b0 : ((rd l0 x5_1) == (rd l1 x5_1)) = false := beq_eq_false_iff_ne.mpr c7
       have c7b1 : ((rd l0 x5_1) != (rd l1 x5_1)) = true := bne_iff_ne.mpr c7
       obtain rfl := Option.some.inj H
       have p142 : 0 ≤ (x5_1 : Int) := of_decide_eq_true (by first | (with_reducible assumption))
       have q142 : x5_1 < (l0.length : Int) := of_decide_eq_true (by first | (with_reducible assumption))
       obtain ⟨ad142, e142, hx142_0⟩ := Kd.at_int HR0.out x5_1 p142 q142
       cases e142
       replace p142 := eq_true p142
       replace q142 := eq_true q142
       have p143 : 0 ≤ (x5_1 : Int) := of_decide_eq_true (by first | (with_reducible assumption))
       have q143 : x5_1 < (l1.length : Int) := of_decide_eq_true (by first | (with_reducible assumption))
       obtain ⟨ad143, e143, hx143_0⟩ := Kd.at_int HR1.out x5_1 p143 q143
       cases e143
       replace p143 := eq_true p143
       replace q143 := eq_true q143
       go_wp2
       repeat (go_quiet (fail); try go_wp2)
       go_ret
       exact ⟨by first | rfl, by repeat (first | exact Drawn0.refl _ | apply Drawn0.step)⟩
      rw [if_neg c6] at H
      exact absurd H (by simp)
     rw [if_neg c5] at H
     exact absurd H (by simp)
    rw [if_neg c4] at H
    have c4b0 : decide (x5_1 < (l0.length : Int)) = false := decide_eq_false c4
    clear c4
    obtain rfl := Option.some.inj H
    go_wp2
    repeat (go_quiet (fail); try go_wp2)
    go_ret
    exact ⟨by first | rfl, by repeat (first | exact Drawn0.refl _ | apply Drawn0.step)⟩
 rw [if_neg c3] at H
 have c3b0 : ((l0.length : Int) == (l1.length : Int)) = false := beq_eq_false_iff_ne.mpr c3
 have c3b1 : ((l0.length : Int) != (l1.length : Int)) = true := bne_iff_ne.mpr c3
 have c3b2 : (l0.length == l1.length) = false := by first | (simp at c3 ⊢; omega)
 obtain rfl := Option.some.inj H
 go_enter Tryz.func29, Tryz.ntmps29
 go_wp2
 repeat (go_quiet (fail); try go_wp2)
 go_ret
 exact ⟨by first | rfl, by repeat (first | exact Drawn0.refl _)⟩
def ripostelaw04_Example.f  : Option ((List (S68)) × Bool × Int × Bool) := some ((([(⟨(([(⟨false, 3⟩ : S24), (⟨true, 2⟩ : S24)] : List (S24))), (⟨false, 1⟩ : S24)⟩ : S68), (⟨([] : List (S24)), (⟨true, 2⟩ : S24)⟩ : S68)] : List (S68))), false, 2, false)
set_option maxHeartbeats 8000000 in
set_option maxRecDepth 100000 in
theorem ripostelaw04_Example.calls  (r1 : List (S68)) (r2 : Bool) (r3 : Int) (r4 : Bool) (w : World) (h : ripostelaw04_Example.f  = some (r1, r2, r3, r4)) :
  Calls Tryz.prog 54 #[] w fun e w' => ∃ v0_ : Value, e = .returned (.agg #[v0_, .bool r2, .int .i64 r3, .bool r4]) ∧ Kd.N k68 68 w' w.heap.size (fun k_ => (w.heap.size ≤ k_)) v0_ r1 ∧ Below w.heap.size w w' := by
 have hu26 := Tryz.underlying26
 have hu24 := Tryz.underlying24
 have hu68 := Tryz.underlying68
 have HB := am (Below.refl w.heap.size w)
 have H : (some ((([(⟨(([(⟨false, 3⟩ : S24), (⟨true, 2⟩ : S24)] : List (S24))), (⟨false, 1⟩ : S24)⟩ : S68), (⟨([] : List (S24)), (⟨true, 2⟩ : S24)⟩ : S68)] : List (S68))), false, 2, false)) = some (r1, r2, r3, r4) := h
 clear h
 obtain ⟨y148, hy148⟩ : ∃ y_ : List (S24), y_ = (([(⟨false, 3⟩ : S24), (⟨true, 2⟩ : S24)] : List (S24))) := ⟨_, rfl⟩
 replace H : (some ((([(⟨y148, (⟨false, 1⟩ : S24)⟩ : S68), (⟨([] : List (S24)), (⟨true, 2⟩ : S24)⟩ : S68)] : List (S68))), false, 2, false)) = some (r1, r2, r3, r4) := by first | (rw [hy148]; with_reducible exact H)
 have Ny148 := am hy148
 clear hy148
 obtain ⟨y151, hy151⟩ : ∃ y_ : List (S68), y_ = (([(⟨y148, (⟨false, 1⟩ : S24)⟩ : S68), (⟨([] : List (S24)), (⟨true, 2⟩ : S24)⟩ : S68)] : List (S68))) := ⟨_, rfl⟩
 replace H : (some (y151, false, 2, false)) = some (r1, r2, r3, r4) := by first | (rw [hy151]; with_reducible exact H)
 have Ny151 := am hy151
 clear hy151
 simp only [Option.some.injEq, Prod.mk.injEq] at H
 obtain ⟨rfl, rfl, rfl, rfl⟩ := H
 go_enter Tryz.func54, Tryz.ntmps54
 go_wp2_with (first | ((with_reducible refine gate_dst (N := 0) rfl ?_); refine box_event ?hg (N := 0) ?hd (cs := #[.slice none 0 0, .bool false, .int .i64 0, .bool false]) (t := 26) ?hr ?_; (case hd => rfl); (case hg => rfl); (case hr => go_simp); intro gb147 hg w1 hbox hb; have n0_ := am (below_step HB.out hb); have n1_ := am (hbox); have n2_ := am ((by rw [hg]; exact (below_size HB.out) : w.heap.size ≤ gb147)); have n3_ := am ((by rw [hg]; exact (below_size HB.out) : w.heap.size ≤ gb147)); clear HB; have HB := n0_; have BK147 := n1_; have GW147 := n2_; have GE147 := n3_; clear n0_ n1_ n2_ n3_; clear hb hbox hg) | ((with_reducible refine gate_dst (N := 3) rfl ?_); refine Kd.R_lit k24 _ 24 ?hg (N := 3) ?hd (xs := ([(⟨false, 3⟩ : S24), (⟨true, 2⟩ : S24)] : List (S24))) (inner := [.bool false, .int .i64 3, .bool true, .int .i64 2]) (ok := fun _ => True) (okp := fun _ => True) ?hr ?hp (fun _ hk => hk) trivial (Below.refl _ _) (Nat.le_refl _) (by simp) ?_; (case hd => rfl); (case hg => rfl); (case hr => go_simp); (case hp => exact (Reps.c2 (show Kd.M k24 _ _ _ (⟨false, 3⟩ : S24) [.bool false, .int .i64 3] from (k24_mkM _ _ _ (⟨false, 3⟩ : S24) )) (Reps.c2 (show Kd.M k24 _ _ _ (⟨true, 2⟩ : S24) [.bool true, .int .i64 2] from (k24_mkM _ _ _ (⟨true, 2⟩ : S24) )) (Reps.none _ _)))); intro v149 w2 ho3 hb hg_ hnew_; clear hg_ hnew_; (first | rw [← Ny148.out] at ho3); have n0_ := am (Kd.R_lower (Kd.R_newM (M := fun k_ => (w.heap.size ≤ k_)) ho3 (below_size HB.out) (fun k_ h_ => h_)) (below_size HB.out)); have n1_ := am (blk_below (g := gb147) (o := .cells #[.slice none 0 0, .bool false, .int .i64 0, .bool false] 26 (0, 0)) BK147.out hb); have n2_ := am (below_step HB.out hb); clear BK147; clear HB; have HO150 := n0_; have BK147 := n1_; have HB := n2_; clear n0_ n1_ n2_; clear hb ho3; obtain ⟨Ao4, co4, eo4⟩ := Kd.R_slice HO150.out; subst eo4) | ((with_reducible refine gate_dst (N := 8) rfl ?_); refine Kd.N_lit k68 _ 68 ?hg (N' := 8) ?hd (xs := ([(⟨y148, (⟨false, 1⟩ : S24)⟩ : S68), (⟨([] : List (S24)), (⟨true, 2⟩ : S24)⟩ : S68)] : List (S68))) (inner := [.slice Ao4 y148.length co4, .bool false, .int .i64 1, .slice none 0 0, .bool true, .int .i64 2]) (ok := (fun k_ => (w.heap.size ≤ k_) ∧ k_ ≠ gb147)) (okp := (fun k_ => (w.heap.size ≤ k_) ∧ k_ ≠ gb147)) ?hr ?hp (fun _ hk => hk) ((show ∀ k_, w2.heap.size ≤ k_ → (fun k_ => (w.heap.size ≤ k_) ∧ k_ ≠ gb147) k_ from fun k_ hk => ⟨(Nat.le_trans (below_size HB.out) hk), Kd.freshB (g := gb147) (o := .cells #[.slice none 0 0, .bool false, .int .i64 0, .bool false] 26 (0, 0)) BK147.out k_ hk⟩) _ (Nat.le_refl _)) (Below.refl _ _) (Nat.le_refl _) (by simp) ?_; (case hd => rfl); (case hg => rfl); (case hr => go_simp); (case hp => exact (Reps.c3 (show Kd.FK k68 _ _ (⟨y148, (⟨false, 1⟩ : S24)⟩ : S68) [.slice Ao4 y148.length co4, .bool false, .int .i64 1] from (k68_mkF _ _ (⟨y148, (⟨false, 1⟩ : S24)⟩ : S68) (Kd.R_reads' (Kd.R_mono (ok' := (fun k_ => (w.heap.size ≤ k_) ∧ k_ ≠ gb147)) (Kd.R_types (HO150.out) BK147.out (by decide)) (fun k_ hk => ⟨hk.1.1, hk.2⟩))).2.1 (Kd.R_F (Kd.R_mono (ok' := (fun k_ => (w.heap.size ≤ k_) ∧ k_ ≠ gb147)) (Kd.R_types (HO150.out) BK147.out (by decide)) (fun k_ hk => ⟨hk.1.1, hk.2⟩))))) (Reps.c3 (show Kd.FK k68 _ _ (⟨([] : List (S24)), (⟨true, 2⟩ : S24)⟩ : S68) [.slice none 0 0, .bool true, .int .i64 2] from (k68_mkF _ _ (⟨([] : List (S24)), (⟨true, 2⟩ : S24)⟩ : S68) (Nat.le_refl _) (Kd.F_nil _ _ _))) (Reps.none _ _)))); intro v152 w5 ho6 hb hg_ hnew_; clear hg_ hnew_; (first | rw [← Ny151.out] at ho6); have n0_ := am (Kd.N_lower ho6 (below_size HB.out)); have n1_ := am (blk_below (g := gb147) (o := .cells #[.slice none 0 0, .bool false, .int .i64 0, .bool false] 26 (0, 0)) BK147.out hb); have n2_ := am (below_step HB.out hb); clear BK147; clear HB; clear HO150; have HO153 := n0_; have BK147 := n1_; have HB := n2_; clear n0_ n1_ n2_; clear hb ho6; obtain ⟨Ao7, co7, eo7⟩ := Kd.N_slice HO153.out; subst eo7; have hcz8_0 : w5.cell? ⟨gb147, 0, none⟩ = some (.slice none 0 0) := (blk_cell BK147.out 0).trans rfl; have hcz8_1 : w5.cell? ⟨gb147, 1, none⟩ = some (.bool false) := (blk_cell BK147.out 1).trans rfl; have hcz8_2 : w5.cell? ⟨gb147, 2, none⟩ = some (.int .i64 0) := (blk_cell BK147.out 2).trans rfl; have hcz8_3 : w5.cell? ⟨gb147, 3, none⟩ = some (.bool false) := (blk_cell BK147.out 3).trans rfl; have hfz8_0 := blk_frozen BK147.out 0; have hfz8_1 := blk_frozen BK147.out 1; have hfz8_2 := blk_frozen BK147.out 2; have hfz8_3 := blk_frozen BK147.out 3))
 refine bodyPost_ret (results_cell_row rfl _ _ gb147 26 #[.slice Ao7 y151.length co7, .bool false, .int .i64 2, .bool false] (0, 0) _ rfl (by refine blk_put (cs := #[.slice Ao7 y151.length co7, .bool false, .int .i64 2, .bool false]) ?_ 3 _ rfl; refine blk_put (cs := #[.slice Ao7 y151.length co7, .bool false, .int .i64 0, .bool false]) ?_ 2 _ rfl; refine blk_put (cs := #[.slice Ao7 y151.length co7, .bool false, .int .i64 0, .bool false]) ?_ 1 _ rfl; refine blk_put (cs := #[.slice none 0 0, .bool false, .int .i64 0, .bool false]) ?_ 0 _ rfl; exact BK147.out) Tryz.underlying26 rfl (by kernel_rfl)) rfl ?_
 exact ⟨_, by first | rfl, by exact Kd.N_mono (Kd.N_far (p := ⟨gb147, 3, none⟩) (Kd.N_far (p := ⟨gb147, 2, none⟩) (Kd.N_far (p := ⟨gb147, 1, none⟩) (Kd.N_far (p := ⟨gb147, 0, none⟩) (Kd.N_mono HO153.out (fun k_ hk => (⟨hk, hk.2⟩ : _ ∧ k_ ≠ gb147))) (fun _ hk => hk.2) (.slice Ao7 y151.length co7)) (fun _ hk => hk.2) (.bool false)) (fun _ hk => hk.2) (.int .i64 2)) (fun _ hk => hk.2) (.bool false)) (fun _ hk => hk.1.1), by repeat (first | (with_reducible first | exact HB.out | refine below_set ?_ GE147.out))⟩
def riposteref04_Split.l0 : Nat → ByteArray → ByteArray → List ByteArray → Int → Int → Option (List ByteArray)
 | 0, _, _, _, _, _ => none
 | k + 1, x0, x1, x5, x6, x7 => if (wrap64 (x7 + (x1.size : Int))) ≤ (x0.size : Int) then (if 0 ≤ x7 then (if x7 ≤ (wrap64 (x7 + (x1.size : Int))) then (if (x0.extract (x7 : Int).toNat ((wrap64 (x7 + (x1.size : Int))) : Int).toNat).toList = x1.toList then (if 0 ≤ x6 then (if x6 ≤ x7 then (if x7 ≤ (x0.size : Int) then (if x5.length < 8796093022208 then (riposteref04_Split.l0 k x0 x1 (x5 ++ [x0.extract (x6 : Int).toNat (x7 : Int).toNat]) (wrap64 (x7 + (x1.size : Int))) (wrap64 ((wrap64 ((wrap64 (x7 + (x1.size : Int))) - 1)) + 1))) else (none)) else (none)) else (none)) else (none)) else (riposteref04_Split.l0 k x0 x1 x5 x6 (wrap64 (x7 + 1)))) else (none)) else (none)) else (if 0 ≤ x6 then (if x6 ≤ (x0.size : Int) then (if x5.length < 8796093022208 then (some (x5 ++ [x0.extract (x6 : Int).toNat x0.size])) else (none)) else (none)) else (none))
def riposteref04_Split.f (k : Nat) (a0 : ByteArray) (a1 : ByteArray) : Option (List ByteArray) := riposteref04_Split.l0 k a0 a1 ([] : List ByteArray) 0 0
set_option maxHeartbeats 8000000 in
set_option maxRecDepth 100000 in
theorem riposteref04_Split.calls (k : Nat) (a0 : ByteArray) (a1 : ByteArray) (r : List ByteArray) (w : World) (h : riposteref04_Split.f k a0 a1 = some r) :
  Calls Tryz.prog 113 #[.string a0, .string a1] w fun e w' => ∃ v0_ : Value, e = .returned (v0_) ∧ Kd.R Kd.string 9 w' w.heap.size (fun _ => True) v0_ r ∧ Below w.heap.size w w' := by
 have HB := am (Below.refl w.heap.size w)
 have H : (riposteref04_Split.l0 k a0 a1 ([] : List ByteArray) 0 0) = some r := h
 clear h
 have H' := am H
 clear H
 go_enter Tryz.func113, Tryz.ntmps113
 go_wp2
 go_loopg [5, 6, 7] k (fun kq v5 v6 v7 w' => ∃ (x5_1 : List ByteArray) (x6_1 : Int) (x7_1 : Int), v6 = .int .i64 x6_1 ∧ v7 = .int .i64 x7_1 ∧ Aside0 (riposteref04_Split.l0 kq a0 a1 x5_1 x6_1 x7_1 = some r) ∧ Aside0 (kq ≤ k) ∧ Aside0 (Kd.R Kd.string 9 w' w.heap.size (fun _ => True) v5 x5_1) ∧ Aside0 (Below w.heap.size w w'))
 case atStart => exact ⟨(([] : List ByteArray)), (0), (0), (by first | rfl), (by first | rfl), H', ⟨Nat.le_refl _⟩, ⟨by first | exact Kd.R_nil _ _ _ _ _⟩, ⟨by exact HB.out⟩⟩
 case round =>
  clear H'
  try clear c1
  try clear p2
  obtain ⟨x5_1, x6_1, x7_1, rfl, rfl, HA, HK1, HO_5, HB⟩ := hrel
  cases gk with
  | zero => exact absurd HA.out (by simp [riposteref04_Split.l0])
  | succ k1 =>
   have H := HA.out
   clear HA
   simp only [riposteref04_Split.l0] at H
   by_cases c3 : (wrap64 (x7_1 + (a1.size : Int))) ≤ (a0.size : Int)
   ·rw [if_pos c3] at H
    have c3b0 : decide ((wrap64 (x7_1 + (a1.size : Int))) ≤ (a0.size : Int)) = true := decide_eq_true c3
    clear c3
    by_cases c4 : 0 ≤ x7_1
    ·rw [if_pos c4] at H
     have c4b0 := eq_true c4
     have c4b1 : decide (0 ≤ x7_1) = true := decide_eq_true c4
     clear c4
     by_cases c5 : x7_1 ≤ (wrap64 (x7_1 + (a1.size : Int)))
     ·rw [if_pos c5] at H
      have c5b0 := eq_true c5
      have c5b1 : decide (x7_1 ≤ (wrap64 (x7_1 + (a1.size : Int)))) = true := decide_eq_true c5
      have c6b0 := eq_true (of_decide_eq_true (by first | (with_reducible assumption)) : (wrap64 (x7_1 + (a1.size : Int))) ≤ (a0.size : Int))
      by_cases c7 : (a0.extract (x7_1 : Int).toNat ((wrap64 (x7_1 + (a1.size : Int))) : Int).toNat).toList = a1.toList
      ·rw [if_pos c7] at H
       have c7b0 : ((a0.extract (x7_1 : Int).toNat ((wrap64 (x7_1 + (a1.size : Int))) : Int).toNat).toList == a1.toList) = true := beq_iff_eq.mpr c7
       have c7b1 : ((a0.extract (x7_1 : Int).toNat ((wrap64 (x7_1 + (a1.size : Int))) : Int).toNat).toList != a1.toList) = false := bne_eq_false_iff_eq.mpr c7
       clear c7
       by_cases c8 : 0 ≤ x6_1
       ·rw [if_pos c8] at H
        have c8b0 := eq_true c8
        have c8b1 : decide (0 ≤ x6_1) = true := decide_eq_true c8
        clear c8
        by_cases c9 : x6_1 ≤ x7_1
        ·rw [if_pos c9] at H
         have c9b0 := eq_true c9
         have c9b1 : decide (x6_1 ≤ x7_1) = true := decide_eq_true c9
         clear c9
         by_cases c10 : x7_1 ≤ (a0.size : Int)
         ·rw [if_pos c10] at H
          have c10b0 := eq_true c10
          have c10b1 : decide (x7_1 ≤ (a0.size : Int)) = true := decide_eq_true c10
          clear c10
          by_cases c11 : x5_1.length < 8796093022208
          ·rw [if_pos c11] at H
           have LMc11 := am c11
           clear c11
           obtain ⟨y154, hy154⟩ : ∃ y_ : List ByteArray, y_ = (x5_1 ++ [a0.extract (x6_1 : Int).toNat (x7_1 : Int).toNat]) := ⟨_, rfl⟩
           replace H : (riposteref04_Split.l0 k1 a0 a1 y154 (wrap64 (x7_1 + (a1.size : Int))) (wrap64 ((wrap64 ((wrap64 (x7_1 + (a1.size : Int))) - 1)) + 1))) = some r := by first | (rw [hy154]; with_reducible exact H)
           have Ny154 := am hy154
           clear hy154
           have H' := am H
           clear H
           go_wp2_with (first | ((with_reducible refine gate_builtin (b := .append) (xs := #[.tmp 26, .tmp 31]) rfl ?_); at_builtin; refine Kd.R_append Kd.string (w0 := w) w.heap.size rfl (.tmp 26) (.tmp 31) 131 9 (.string ⟨#[]⟩) 16 rfl Tryz.underlying131 info9 rfl (by decide) (by omega) u5 x5_1 (a0.extract (x6_1 : Int).toNat (x7_1 : Int).toNat) [.string (a0.extract (x6_1 : Int).toNat (x7_1 : Int).toNat)] (fun _ => True) (fun _ => False) rfl rfl ?aP (fun _ hk => hk.elim) ?aF ?aO ?aB ?aS ?aL ?_; (case aP => exact rfl); (case aB => exact HB.out); (case aF => exact (fun _ _ => trivial)); (case aO => exact HO_5.out); (case aS => exact (below_size HB.out)); (case aL => have := LMc11.out; omega); intro v155 w12 ho hb hg hat; rw [← Ny154.out] at ho; have n0_ := am (hb); have n1_ := am (ho); clear HB; clear HO_5; have HB := n0_; have HO156 := n1_; clear n0_ n1_; clear ho hb hg hat))
           go_roundg k1
           case measure => have := HK1.out; omega
           case rel => exact ⟨(y154), (wrap64 (x7_1 + (a1.size : Int))), (wrap64 ((wrap64 ((wrap64 (x7_1 + (a1.size : Int))) - 1)) + 1)), (by first | rfl), (by first | rfl), H', ⟨by have := HK1.out; omega⟩, ⟨by exact HO156.out⟩, ⟨by exact HB.out⟩⟩
          rw [if_neg c11] at H
          exact absurd H (by simp)
         rw [if_neg c10] at H
         exact absurd H (by simp)
        rw [if_neg c9] at H
        exact absurd H (by simp)
       rw [if_neg c8] at H
       exact absurd H (by simp)
      rw [if_neg c7] at H
      have c7b0 : ((a0.extract (x7_1 : Int).toNat ((wrap64 (x7_1 + (a1.size : Int))) : Int).toNat).toList == a1.toList) = false := beq_eq_false_iff_ne.mpr c7
      have c7b1 : ((a0.extract (x7_1 : Int).toNat ((wrap64 (x7_1 + (a1.size : Int))) : Int).toNat).toList != a1.toList) = true := bne_iff_ne.mpr c7
      have H' := am H
      clear H
      go_wp2
      go_roundg k1
      case measure => have := HK1.out; omega
      case rel => exact ⟨(x5_1), (x6_1), (wrap64 (x7_1 + 1)), (by first | rfl), (by first | rfl), H', ⟨by have := HK1.out; omega⟩, ⟨by exact HO_5.out⟩, ⟨by exact HB.out⟩⟩
     rw [if_neg c5] at H
     exact absurd H (by simp)
    rw [if_neg c4] at H
    exact absurd H (by simp)
   rw [if_neg c3] at H
   have c3b0 : decide ((wrap64 (x7_1 + (a1.size : Int))) ≤ (a0.size : Int)) = false := decide_eq_false c3
   clear c3
   by_cases c13 : 0 ≤ x6_1
   ·rw [if_pos c13] at H
    have c13b0 := eq_true c13
    have c13b1 : decide (0 ≤ x6_1) = true := decide_eq_true c13
    clear c13
    by_cases c14 : x6_1 ≤ (a0.size : Int)
    ·rw [if_pos c14] at H
     have c14b0 := eq_true c14
     have c14b1 : decide (x6_1 ≤ (a0.size : Int)) = true := decide_eq_true c14
     clear c14
     by_cases c15 : x5_1.length < 8796093022208
     ·rw [if_pos c15] at H
      have LMc15 := am c15
      clear c15
      obtain ⟨y157, hy157⟩ : ∃ y_ : List ByteArray, y_ = (x5_1 ++ [a0.extract (x6_1 : Int).toNat a0.size]) := ⟨_, rfl⟩
      replace H : (some y157) = some r := by first | (rw [hy157]; with_reducible exact H)
      have Ny157 := am hy157
      clear hy157
      obtain rfl := Option.some.inj H
      go_wp2_with (first | ((with_reducible refine gate_builtin (b := .append) (xs := #[.tmp 42, .tmp 46]) rfl ?_); at_builtin; refine Kd.R_append Kd.string (w0 := w) w.heap.size rfl (.tmp 42) (.tmp 46) 131 9 (.string ⟨#[]⟩) 16 rfl Tryz.underlying131 info9 rfl (by decide) (by omega) u5 x5_1 (a0.extract (x6_1 : Int).toNat a0.size) [.string (a0.extract (x6_1 : Int).toNat a0.size)] (fun _ => True) (fun _ => False) rfl rfl ?aP (fun _ hk => hk.elim) ?aF ?aO ?aB ?aS ?aL ?_; (case aP => exact rfl); (case aB => exact HB.out); (case aF => exact (fun _ _ => trivial)); (case aO => exact HO_5.out); (case aS => exact (below_size HB.out)); (case aL => have := LMc15.out; omega); intro v158 w16 ho hb hg hat; rw [← Ny157.out] at ho; have n0_ := am (hb); have n1_ := am (ho); clear HB; clear HO_5; have HB := n0_; have HO159 := n1_; clear n0_ n1_; clear ho hb hg hat))
      go_ret
      exact ⟨_, by first | rfl, by exact HO159.out, by exact HB.out⟩
     rw [if_neg c15] at H
     exact absurd H (by simp)
    rw [if_neg c14] at H
    exact absurd H (by simp)
   rw [if_neg c13] at H
   exact absurd H (by simp)
end Go.Proofs.YtjgocihflhljeaaGreat.P
namespace Go.Proofs.YtjgocihflhljeaaGreat.P
open Go.RowKit Go.Proofs.YtjgocihflhljeaaGreatW.PrintWords Go.Proofs.YtjgocihflhljeaaGreatW.PrintLast Go.Proofs.YtjgocihflhljeaaGreatW.PrintMore
attribute [local go_sem] max2_int max_two

mutual
def riposteref04_SameType.j0 : Nat → Bool → List (S24) → Bool → Int → List (S24) → Bool → Int → Option (Bool)
 | 0, _, _, _, _, _, _, _ => none
 | k + 1, x19, x289000, x289001, x289002, x290000, x290001, x290002 => if x19 = true then (some false) else (riposteref04_SameType.l0 k 0 x289000 x289001 x289002 x290000 x290001 x290002)
def riposteref04_SameType.l0 : Nat → Int → List (S24) → Bool → Int → List (S24) → Bool → Int → Option (Bool)
 | 0, _, _, _, _, _, _, _ => none
 | k + 1, x5, x289000, x289001, x289002, x290000, x290001, x290002 => if x5 < (x289000.length : Int) then (if 0 ≤ x5 then (if x5 < (x290000.length : Int) then (if (!(((rd_T24 x289000 x5).f0) == ((rd_T24 x290000 x5).f0)) || (!(((rd_T24 x289000 x5).f1) == ((rd_T24 x290000 x5).f1)))) = true then (some false) else (riposteref04_SameType.l0 k (wrap64 (x5 + 1)) x289000 x289001 x289002 x290000 x290001 x290002)) else (none)) else (none)) else (some true)
end
def riposteref04_SameType.f (k : Nat) (l0_0 : List (S24)) (a0_1 : Bool) (a0_2 : Int) (l1_0 : List (S24)) (a1_1 : Bool) (a1_2 : Int) : Option (Bool) := if (l0_0.length : Int) = (l1_0.length : Int) then (riposteref04_SameType.j0 k (!(a0_1 == a1_1) || (!(a0_2 == a1_2))) l0_0 a0_1 a0_2 l1_0 a1_1 a1_2) else (riposteref04_SameType.j0 k true l0_0 a0_1 a0_2 l1_0 a1_1 a1_2)
end Go.Proofs.YtjgocihflhljeaaGreat.P
