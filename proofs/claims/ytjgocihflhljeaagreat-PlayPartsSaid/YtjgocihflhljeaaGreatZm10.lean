/- What the claim's law needs, many texts in one (P4 P9 P10 Da). No conditions of its own. -/
import Derived.Test.YtjgocihflhljeaaGreatZm2
import Derived.Test.YtjgocihflhljeaaGreatZm9
set_option linter.unusedVariables false
set_option linter.unusedSimpArgs false
namespace Go.Proofs.YtjgocihflhljeaaGreat.P
open Go.RowKit Go.Proofs.YtjgocihflhljeaaGreatW.PrintWords Go.Proofs.YtjgocihflhljeaaGreatW.PrintLast Go.Proofs.YtjgocihflhljeaaGreatW.PrintMore
attribute [local go_sem] max2_int max_two
attribute [local go_sem high] eqA52
def riposteref04_SameWord.l0 : Nat → List (S52) → List (S52) → Int → Option (Bool)
 | 0, _, _, _ => none
 | k + 1, x0, x1, x5 => if x5 < (x0.length : Int) then (if 0 ≤ x5 then (if x5 < (x1.length : Int) then (if (!(((rd_T52 x0 x5).f0) == ((rd_T52 x1 x5).f0)) || (!(((rd_T52 x0 x5).f1) == ((rd_T52 x1 x5).f1)) || (!(((rd_T52 x0 x5).f2) == ((rd_T52 x1 x5).f2)) || (!(((rd_T52 x0 x5).f3) == ((rd_T52 x1 x5).f3)))))) = true then (some false) else (riposteref04_SameWord.l0 k x0 x1 (wrap64 (x5 + 1)))) else (none)) else (none)) else (some true)
def riposteref04_SameWord.f (k : Nat) (l0 : List (S52)) (l1 : List (S52)) : Option (Bool) := if (l0.length : Int) = (l1.length : Int) then (riposteref04_SameWord.l0 k l0 l1 0) else (some false)
set_option maxHeartbeats 8000000 in
set_option maxRecDepth 100000 in
theorem riposteref04_SameWord.calls (k : Nat) (A0 : Option Addr) (c0 : Nat) (l0 : List (S52)) (A1 : Option Addr) (c1 : Nat) (l1 : List (S52)) (r : Bool) (w : World) (hr0 : Kd.C k52 w A0 l0.length l0) (hc0 : l0.length ≤ c0) (hr1 : Kd.C k52 w A1 l1.length l1) (hc1 : l1.length ≤ c1) (h : riposteref04_SameWord.f k l0 l1 = some r) :
  Calls Tryz.prog 24 #[.slice A0 l0.length c0, .slice A1 l1.length c1] w fun e w' => e = .returned (.bool r) ∧ Drawn0 w w' := by
 have hu52 := Tryz.underlying52
 have HR0 := am hr0
 have HC0 := am hc0
 clear hr0 hc0
 have HR1 := am hr1
 have HC1 := am hc1
 clear hr1 hc1
 have H : (if (l0.length : Int) = (l1.length : Int) then (riposteref04_SameWord.l0 k l0 l1 0) else (some false)) = some r := h
 clear h
 by_cases c3 : (l0.length : Int) = (l1.length : Int)
 ·rw [if_pos c3] at H
  have c3b0 : ((l0.length : Int) == (l1.length : Int)) = true := beq_iff_eq.mpr c3
  have c3b1 : ((l0.length : Int) != (l1.length : Int)) = false := bne_eq_false_iff_eq.mpr c3
  have c3b2 : (l0.length == l1.length) = true := by first | (simp at c3 ⊢; omega)
  clear c3
  have H' := am H
  clear H
  go_enter Tryz.func24, Tryz.ntmps24
  go_wp2
  repeat (go_quiet (fail); try go_wp2)
  go_loopg [5] k (fun kq v5 w' => ∃ (x5_1 : Int), v5 = .int .i64 x5_1 ∧ Aside0 (riposteref04_SameWord.l0 kq l0 l1 x5_1 = some r) ∧ Aside0 (kq ≤ k) ∧ Drawn0 w w')
  case atStart => exact ⟨(0), (by first | rfl), H', ⟨Nat.le_refl _⟩, by repeat (first | exact Drawn0.refl _)⟩
  case round =>
   clear H'
   try clear c1
   try clear c2
   try clear p2
   try clear c3
   try clear c3b0
   try clear c3b1
   try clear c3b2
   obtain ⟨x5_1, rfl, HA, HK1, ⟨m1, rfl⟩⟩ := hrel
   cases gk with
   | zero => exact absurd HA.out (by simp [riposteref04_SameWord.l0])
   | succ k1 =>
    have H := HA.out
    clear HA
    simp only [riposteref04_SameWord.l0] at H
    by_cases c4 : x5_1 < (l0.length : Int)
    ·rw [if_pos c4] at H
     have c4b0 : decide (x5_1 < (l0.length : Int)) = true := decide_eq_true c4
     clear c4
     by_cases c5 : 0 ≤ x5_1
     ·rw [if_pos c5] at H
      have c5b0 : decide (0 ≤ x5_1) = true := decide_eq_true c5
      clear c5
      by_cases c6 : x5_1 < (l1.length : Int)
      ·rw [if_pos c6] at H
       have c6b0 : decide (x5_1 < (l1.length : Int)) = true := decide_eq_true c6
       clear c6
       by_cases c7 : (!(((rd_T52 l0 x5_1).f0) == ((rd_T52 l1 x5_1).f0)) || (!(((rd_T52 l0 x5_1).f1) == ((rd_T52 l1 x5_1).f1)) || (!(((rd_T52 l0 x5_1).f2) == ((rd_T52 l1 x5_1).f2)) || (!(((rd_T52 l0 x5_1).f3) == ((rd_T52 l1 x5_1).f3)))))) = true
       ·rw [if_pos c7] at H
        have c7b0 : (!(((rd_T52 l0 x5_1).f0) == ((rd_T52 l1 x5_1).f0)) || (!(((rd_T52 l0 x5_1).f1) == ((rd_T52 l1 x5_1).f1)) || (!(((rd_T52 l0 x5_1).f2) == ((rd_T52 l1 x5_1).f2)) || (!(((rd_T52 l0 x5_1).f3) == ((rd_T52 l1 x5_1).f3)))))) = true := c7
        clear c7
        obtain rfl := Option.some.inj H
        have p138 : 0 ≤ (x5_1 : Int) := of_decide_eq_true (by first | (with_reducible assumption))
        have q138 : x5_1 < (l0.length : Int) := of_decide_eq_true (by first | (with_reducible assumption))
        obtain ⟨ad138, e138, hx138_0, hx138_1, hx138_2, hx138_3⟩ := at_T52 HR0.out x5_1 p138 q138
        cases e138
        replace p138 := eq_true p138
        replace q138 := eq_true q138
        have p139 : 0 ≤ (x5_1 : Int) := of_decide_eq_true (by first | (with_reducible assumption))
        have q139 : x5_1 < (l1.length : Int) := of_decide_eq_true (by first | (with_reducible assumption))
        obtain ⟨ad139, e139, hx139_0, hx139_1, hx139_2, hx139_3⟩ := at_T52 HR1.out x5_1 p139 q139
        cases e139
        replace p139 := eq_true p139
        replace q139 := eq_true q139
        go_wp2
        repeat (go_quiet (fail); try go_wp2)
        go_ret
        exact ⟨by first | rfl, by repeat (first | exact Drawn0.refl _ | apply Drawn0.step)⟩
       rw [if_neg c7] at H
       have c7b0 : (!(((rd_T52 l0 x5_1).f0) == ((rd_T52 l1 x5_1).f0)) || (!(((rd_T52 l0 x5_1).f1) == ((rd_T52 l1 x5_1).f1)) || (!(((rd_T52 l0 x5_1).f2) == ((rd_T52 l1 x5_1).f2)) || (!(((rd_T52 l0 x5_1).f3) == ((rd_T52 l1 x5_1).f3)))))) = false := by simpa using c7
       clear c7
       have H' := am H
       clear H
       have p138 : 0 ≤ (x5_1 : Int) := of_decide_eq_true (by first | (with_reducible assumption))
       have q138 : x5_1 < (l0.length : Int) := of_decide_eq_true (by first | (with_reducible assumption))
       obtain ⟨ad138, e138, hx138_0, hx138_1, hx138_2, hx138_3⟩ := at_T52 HR0.out x5_1 p138 q138
       cases e138
       replace p138 := eq_true p138
       replace q138 := eq_true q138
       have p139 : 0 ≤ (x5_1 : Int) := of_decide_eq_true (by first | (with_reducible assumption))
       have q139 : x5_1 < (l1.length : Int) := of_decide_eq_true (by first | (with_reducible assumption))
       obtain ⟨ad139, e139, hx139_0, hx139_1, hx139_2, hx139_3⟩ := at_T52 HR1.out x5_1 p139 q139
       cases e139
       replace p139 := eq_true p139
       replace q139 := eq_true q139
       go_wp2
       repeat (go_quiet (fail); try go_wp2)
       go_roundg k1
       case measure => have := HK1.out; omega
       case rel => exact ⟨(wrap64 (x5_1 + 1)), (by first | rfl), H', ⟨by have := HK1.out; omega⟩, by repeat (first | exact Drawn0.refl _ | apply Drawn0.step)⟩
      rw [if_neg c6] at H
      exact absurd H (by simp)
     rw [if_neg c5] at H
     exact absurd H (by simp)
    rw [if_neg c4] at H
    have c4b0 : decide (x5_1 < (l0.length : Int)) = false := decide_eq_false c4
    clear c4
    obtain rfl := Option.some.inj H
    go_wp2
    repeat (go_quiet (fail); try go_wp2)
    go_ret
    exact ⟨by first | rfl, by repeat (first | exact Drawn0.refl _ | apply Drawn0.step)⟩
 rw [if_neg c3] at H
 have c3b0 : ((l0.length : Int) == (l1.length : Int)) = false := beq_eq_false_iff_ne.mpr c3
 have c3b1 : ((l0.length : Int) != (l1.length : Int)) = true := bne_iff_ne.mpr c3
 have c3b2 : (l0.length == l1.length) = false := by first | (simp at c3 ⊢; omega)
 obtain rfl := Option.some.inj H
 go_enter Tryz.func24, Tryz.ntmps24
 go_wp2
 repeat (go_quiet (fail); try go_wp2)
 go_ret
 exact ⟨by first | rfl, by repeat (first | exact Drawn0.refl _)⟩
def riposteref05_SameInts.l0 : Nat → List Int → List Int → Int → Option (Bool)
 | 0, _, _, _ => none
 | k + 1, x0, x1, x5 => if x5 < (x0.length : Int) then (if 0 ≤ x5 then (if x5 < (x1.length : Int) then (if (rd x0 x5) = (rd x1 x5) then (riposteref05_SameInts.l0 k x0 x1 (wrap64 (x5 + 1))) else (some false)) else (none)) else (none)) else (some true)
def riposteref05_SameInts.f (k : Nat) (l0 : List Int) (l1 : List Int) : Option (Bool) := if (l0.length : Int) = (l1.length : Int) then (riposteref05_SameInts.l0 k l0 l1 0) else (some false)
set_option maxHeartbeats 8000000 in
set_option maxRecDepth 100000 in
theorem riposteref05_SameInts.calls (k : Nat) (A0 : Option Addr) (c0 : Nat) (l0 : List Int) (A1 : Option Addr) (c1 : Nat) (l1 : List Int) (r : Bool) (w : World) (hr0 : Kd.C (Kd.int .i64) w A0 l0.length l0) (hc0 : l0.length ≤ c0) (hr1 : Kd.C (Kd.int .i64) w A1 l1.length l1) (hc1 : l1.length ≤ c1) (h : riposteref05_SameInts.f k l0 l1 = some r) :
  Calls Tryz.prog 29 #[.slice A0 l0.length c0, .slice A1 l1.length c1] w fun e w' => e = .returned (.bool r) ∧ Drawn0 w w' := by
 have HR0 := am hr0
 have HC0 := am hc0
 clear hr0 hc0
 have HR1 := am hr1
 have HC1 := am hc1
 clear hr1 hc1
 have H : (if (l0.length : Int) = (l1.length : Int) then (riposteref05_SameInts.l0 k l0 l1 0) else (some false)) = some r := h
 clear h
 by_cases c3 : (l0.length : Int) = (l1.length : Int)
 ·rw [if_pos c3] at H
  have c3b0 : ((l0.length : Int) == (l1.length : Int)) = true := beq_iff_eq.mpr c3
  have c3b1 : ((l0.length : Int) != (l1.length : Int)) = false := bne_eq_false_iff_eq.mpr c3
  have c3b2 : (l0.length == l1.length) = true := by first | (simp at c3 ⊢; omega)
  clear c3
  have H' := am H
  clear H
  go_enter Tryz.func29, Tryz.ntmps29
  go_wp2
  repeat (go_quiet (fail); try go_wp2)
  go_loopg [5] k (fun kq v5 w' => ∃ (x5_1 : Int), v5 = .int .i64 x5_1 ∧ Aside0 (riposteref05_SameInts.l0 kq l0 l1 x5_1 = some r) ∧ Aside0 (kq ≤ k) ∧ Drawn0 w w')
  case atStart => exact ⟨(0), (by first | rfl), H', ⟨Nat.le_refl _⟩, by repeat (first | exact Drawn0.refl _)⟩
  case round =>
   clear H'
   try clear c1
   try clear c2
   try clear p2
   try clear c3
   try clear c3b0
   try clear c3b1
   try clear c3b2
   obtain ⟨x5_1, rfl, HA, HK1, ⟨m1, rfl⟩⟩ := hrel
   cases gk with
   | zero => exact absurd HA.out (by simp [riposteref05_SameInts.l0])
   | succ k1 =>
    have H := HA.out
    clear HA
    simp only [riposteref05_SameInts.l0] at H
    by_cases c4 : x5_1 < (l0.length : Int)
    ·rw [if_pos c4] at H
     have c4b0 : decide (x5_1 < (l0.length : Int)) = true := decide_eq_true c4
     clear c4
     by_cases c5 : 0 ≤ x5_1
     ·rw [if_pos c5] at H
      have c5b0 : decide (0 ≤ x5_1) = true := decide_eq_true c5
      clear c5
      by_cases c6 : x5_1 < (l1.length : Int)
      ·rw [if_pos c6] at H
       have c6b0 : decide (x5_1 < (l1.length : Int)) = true := decide_eq_true c6
       clear c6
       by_cases c7 : (rd l0 x5_1) = (rd l1 x5_1)
       ·rw [if_pos c7] at H
        have c7b0 : ((rd l0 x5_1) == (rd l1 x5_1)) = true := beq_iff_eq.mpr c7
        have c7b1 : ((rd l0 x5_1) != (rd l1 x5_1)) = false := bne_eq_false_iff_eq.mpr c7
        clear c7
        have H' := am H
        clear H
        have p142 : 0 ≤ (x5_1 : Int) := of_decide_eq_true (by first | (with_reducible assumption))
        have q142 : x5_1 < (l0.length : Int) := of_decide_eq_true (by first | (with_reducible assumption))
        obtain ⟨ad142, e142, hx142_0⟩ := Kd.at_int HR0.out x5_1 p142 q142
        cases e142
        replace p142 := eq_true p142
        replace q142 := eq_true q142
        have p143 : 0 ≤ (x5_1 : Int) := of_decide_eq_true (by first | (with_reducible assumption))
        have q143 : x5_1 < (l1.length : Int) := of_decide_eq_true (by first | (with_reducible assumption))
        obtain ⟨ad143, e143, hx143_0⟩ := Kd.at_int HR1.out x5_1 p143 q143
        cases e143
        replace p143 := eq_true p143
        replace q143 := eq_true q143
        go_wp2
        repeat (go_quiet (fail); try go_wp2)
        go_roundg k1
        case measure => have := HK1.out; omega
        case rel => exact ⟨(wrap64 (x5_1 + 1)), (by first | rfl), H', ⟨by have := HK1.out; omega⟩, by repeat (first | exact Drawn0.refl _ | apply Drawn0.step)⟩
       rw [if_neg c7] at H
       have c7b0 : ((rd l0 x5_1) == (rd l1 x5_1)) = false := beq_eq_false_iff_ne.mpr c7
       have c7b1 : ((rd l0 x5_1) != (rd l1 x5_1)) = true := bne_iff_ne.mpr c7
       obtain rfl := Option.some.inj H
       have p142 : 0 ≤ (x5_1 : Int) := of_decide_eq_true (by first | (with_reducible assumption))
       have q142 : x5_1 < (l0.length : Int) := of_decide_eq_true (by first | (with_reducible assumption))
       obtain ⟨ad142, e142, hx142_0⟩ := Kd.at_int HR0.out x5_1 p142 q142
       cases e142
       replace p142 := eq_true p142
       replace q142 := eq_true q142
       have p143 : 0 ≤ (x5_1 : Int) := of_decide_eq_true (by first | (with_reducible assumption))
       have q143 : x5_1 < (l1.length : Int) := of_decide_eq_true (by first | (with_reducible assumption))
       obtain ⟨ad143, e143, hx143_0⟩ := Kd.at_int HR1.out x5_1 p143 q143
       cases e143
       replace p143 := eq_true p143
       replace q143 := eq_true q143
       go_wp2
       repeat (go_quiet (fail); try go_wp2)
       go_ret
       exact ⟨by first | rfl, by repeat (first | exact Drawn0.refl _ | apply Drawn0.step)⟩
      rw [if_neg c6] at H
      exact absurd H (by simp)
     rw [if_neg c5] at H
     exact absurd H (by simp)
    rw [if_neg c4] at H
    have c4b0 : decide (x5_1 < (l0.length : Int)) = false := decide_eq_false c4
    clear c4
    obtain rfl := Option.some.inj H
    go_wp2
    repeat (go_quiet (fail); try go_wp2)
    go_ret
    exact ⟨by first | rfl, by repeat (first | exact Drawn0.refl _ | apply Drawn0.step)⟩
 rw [if_neg c3] at H
 have c3b0 : ((l0.length : Int) == (l1.length : Int)) = false := beq_eq_false_iff_ne.mpr c3
 have c3b1 : ((l0.length : Int) != (l1.length : Int)) = true := bne_iff_ne.mpr c3
 have c3b2 : (l0.length == l1.length) = false := by first | (simp at c3 ⊢; omega)
 obtain rfl := Option.some.inj H
 go_enter Tryz.func29, Tryz.ntmps29
 go_wp2
 repeat (go_quiet (fail); try go_wp2)
 go_ret
 exact ⟨by first | rfl, by repeat (first | exact Drawn0.refl _)⟩
def ripostelaw04_Example.f  : Option ((List (S68)) × Bool × Int × Bool) := some ((([(⟨(([(⟨false, 3⟩ : S24), (⟨true, 2⟩ : S24)] : List (S24))), (⟨false, 1⟩ : S24)⟩ : S68), (⟨([] : List (S24)), (⟨true, 2⟩ : S24)⟩ : S68)] : List (S68))), false, 2, false)
set_option maxHeartbeats 8000000 in
set_option maxRecDepth 100000 in
theorem ripostelaw04_Example.calls  (r1 : List (S68)) (r2 : Bool) (r3 : Int) (r4 : Bool) (w : World) (h : ripostelaw04_Example.f  = some (r1, r2, r3, r4)) :
  Calls Tryz.prog 54 #[] w fun e w' => ∃ v0_ : Value, e = .returned (.agg #[v0_, .bool r2, .int .i64 r3, .bool r4]) ∧ Kd.N k68 68 w' w.heap.size (fun k_ => (w.heap.size ≤ k_)) v0_ r1 ∧ Below w.heap.size w w' := by
 have hu26 := Tryz.underlying26
 have hu24 := Tryz.underlying24
 have hu68 := Tryz.underlying68
 have HB := am (Below.refl w.heap.size w)
 have H : (some ((([(⟨(([(⟨false, 3⟩ : S24), (⟨true, 2⟩ : S24)] : List (S24))), (⟨false, 1⟩ : S24)⟩ : S68), (⟨([] : List (S24)), (⟨true, 2⟩ : S24)⟩ : S68)] : List (S68))), false, 2, false)) = some (r1, r2, r3, r4) := h
 clear h
 obtain ⟨y148, hy148⟩ : ∃ y_ : List (S24), y_ = (([(⟨false, 3⟩ : S24), (⟨true, 2⟩ : S24)] : List (S24))) := ⟨_, rfl⟩
 replace H : (some ((([(⟨y148, (⟨false, 1⟩ : S24)⟩ : S68), (⟨([] : List (S24)), (⟨true, 2⟩ : S24)⟩ : S68)] : List (S68))), false, 2, false)) = some (r1, r2, r3, r4) := by first | (rw [hy148]; with_reducible exact H)
 have Ny148 := am hy148
 clear hy148
 obtain ⟨y151, hy151⟩ : ∃ y_ : List (S68), y_ = (([(⟨y148, (⟨false, 1⟩ : S24)⟩ : S68), (⟨([] : List (S24)), (⟨true, 2⟩ : S24)⟩ : S68)] : List (S68))) := ⟨_, rfl⟩
 replace H : (some (y151, false, 2, false)) = some (r1, r2, r3, r4) := by first | (rw [hy151]; with_reducible exact H)
 have Ny151 := am hy151
 clear hy151
 simp only [Option.some.injEq, Prod.mk.injEq] at H
 obtain ⟨rfl, rfl, rfl, rfl⟩ := H
 go_enter Tryz.func54, Tryz.ntmps54
 go_wp2_with (first | ((with_reducible refine gate_dst (N := 0) rfl ?_); refine box_event ?hg (N := 0) ?hd (cs := #[.slice none 0 0, .bool false, .int .i64 0, .bool false]) (t := 26) ?hr ?_; (case hd => rfl); (case hg => rfl); (case hr => go_simp); intro gb147 hg w1 hbox hb; have n0_ := am (below_step HB.out hb); have n1_ := am (hbox); have n2_ := am ((by rw [hg]; exact (below_size HB.out) : w.heap.size ≤ gb147)); have n3_ := am ((by rw [hg]; exact (below_size HB.out) : w.heap.size ≤ gb147)); clear HB; have HB := n0_; have BK147 := n1_; have GW147 := n2_; have GE147 := n3_; clear n0_ n1_ n2_ n3_; clear hb hbox hg) | ((with_reducible refine gate_dst (N := 3) rfl ?_); refine Kd.R_lit k24 _ 24 ?hg (N := 3) ?hd (xs := ([(⟨false, 3⟩ : S24), (⟨true, 2⟩ : S24)] : List (S24))) (inner := [.bool false, .int .i64 3, .bool true, .int .i64 2]) (ok := fun _ => True) (okp := fun _ => True) ?hr ?hp (fun _ hk => hk) trivial (Below.refl _ _) (Nat.le_refl _) (by simp) ?_; (case hd => rfl); (case hg => rfl); (case hr => go_simp); (case hp => exact (Reps.c2 (show Kd.M k24 _ _ _ (⟨false, 3⟩ : S24) [.bool false, .int .i64 3] from (k24_mkM _ _ _ (⟨false, 3⟩ : S24) )) (Reps.c2 (show Kd.M k24 _ _ _ (⟨true, 2⟩ : S24) [.bool true, .int .i64 2] from (k24_mkM _ _ _ (⟨true, 2⟩ : S24) )) (Reps.none _ _)))); intro v149 w2 ho3 hb hg_ hnew_; clear hg_ hnew_; (first | rw [← Ny148.out] at ho3); have n0_ := am (Kd.R_lower (Kd.R_newM (M := fun k_ => (w.heap.size ≤ k_)) ho3 (below_size HB.out) (fun k_ h_ => h_)) (below_size HB.out)); have n1_ := am (blk_below (g := gb147) (o := .cells #[.slice none 0 0, .bool false, .int .i64 0, .bool false] 26 (0, 0)) BK147.out hb); have n2_ := am (below_step HB.out hb); clear BK147; clear HB; have HO150 := n0_; have BK147 := n1_; have HB := n2_; clear n0_ n1_ n2_; clear hb ho3; obtain ⟨Ao4, co4, eo4⟩ := Kd.R_slice HO150.out; subst eo4) | ((with_reducible refine gate_dst (N := 8) rfl ?_); refine Kd.N_lit k68 _ 68 ?hg (N' := 8) ?hd (xs := ([(⟨y148, (⟨false, 1⟩ : S24)⟩ : S68), (⟨([] : List (S24)), (⟨true, 2⟩ : S24)⟩ : S68)] : List (S68))) (inner := [.slice Ao4 y148.length co4, .bool false, .int .i64 1, .slice none 0 0, .bool true, .int .i64 2]) (ok := (fun k_ => (w.heap.size ≤ k_) ∧ k_ ≠ gb147)) (okp := (fun k_ => (w.heap.size ≤ k_) ∧ k_ ≠ gb147)) ?hr ?hp (fun _ hk => hk) ((show ∀ k_, w2.heap.size ≤ k_ → (fun k_ => (w.heap.size ≤ k_) ∧ k_ ≠ gb147) k_ from fun k_ hk => ⟨(Nat.le_trans (below_size HB.out) hk), Kd.freshB (g := gb147) (o := .cells #[.slice none 0 0, .bool false, .int .i64 0, .bool false] 26 (0, 0)) BK147.out k_ hk⟩) _ (Nat.le_refl _)) (Below.refl _ _) (Nat.le_refl _) (by simp) ?_; (case hd => rfl); (case hg => rfl); (case hr => go_simp); (case hp => exact (Reps.c3 (show Kd.FK k68 _ _ (⟨y148, (⟨false, 1⟩ : S24)⟩ : S68) [.slice Ao4 y148.length co4, .bool false, .int .i64 1] from (k68_mkF _ _ (⟨y148, (⟨false, 1⟩ : S24)⟩ : S68) (Kd.R_reads' (Kd.R_mono (ok' := (fun k_ => (w.heap.size ≤ k_) ∧ k_ ≠ gb147)) (Kd.R_types (HO150.out) BK147.out (by decide)) (fun k_ hk => ⟨hk.1.1, hk.2⟩))).2.1 (Kd.R_F (Kd.R_mono (ok' := (fun k_ => (w.heap.size ≤ k_) ∧ k_ ≠ gb147)) (Kd.R_types (HO150.out) BK147.out (by decide)) (fun k_ hk => ⟨hk.1.1, hk.2⟩))))) (Reps.c3 (show Kd.FK k68 _ _ (⟨([] : List (S24)), (⟨true, 2⟩ : S24)⟩ : S68) [.slice none 0 0, .bool true, .int .i64 2] from (k68_mkF _ _ (⟨([] : List (S24)), (⟨true, 2⟩ : S24)⟩ : S68) (Nat.le_refl _) (Kd.F_nil _ _ _))) (Reps.none _ _)))); intro v152 w5 ho6 hb hg_ hnew_; clear hg_ hnew_; (first | rw [← Ny151.out] at ho6); have n0_ := am (Kd.N_lower ho6 (below_size HB.out)); have n1_ := am (blk_below (g := gb147) (o := .cells #[.slice none 0 0, .bool false, .int .i64 0, .bool false] 26 (0, 0)) BK147.out hb); have n2_ := am (below_step HB.out hb); clear BK147; clear HB; clear HO150; have HO153 := n0_; have BK147 := n1_; have HB := n2_; clear n0_ n1_ n2_; clear hb ho6; obtain ⟨Ao7, co7, eo7⟩ := Kd.N_slice HO153.out; subst eo7; have hcz8_0 : w5.cell? ⟨gb147, 0, none⟩ = some (.slice none 0 0) := (blk_cell BK147.out 0).trans rfl; have hcz8_1 : w5.cell? ⟨gb147, 1, none⟩ = some (.bool false) := (blk_cell BK147.out 1).trans rfl; have hcz8_2 : w5.cell? ⟨gb147, 2, none⟩ = some (.int .i64 0) := (blk_cell BK147.out 2).trans rfl; have hcz8_3 : w5.cell? ⟨gb147, 3, none⟩ = some (.bool false) := (blk_cell BK147.out 3).trans rfl; have hfz8_0 := blk_frozen BK147.out 0; have hfz8_1 := blk_frozen BK147.out 1; have hfz8_2 := blk_frozen BK147.out 2; have hfz8_3 := blk_frozen BK147.out 3))
 refine bodyPost_ret (results_cell_row rfl _ _ gb147 26 #[.slice Ao7 y151.length co7, .bool false, .int .i64 2, .bool false] (0, 0) _ rfl (by refine blk_put (cs := #[.slice Ao7 y151.length co7, .bool false, .int .i64 2, .bool false]) ?_ 3 _ rfl; refine blk_put (cs := #[.slice Ao7 y151.length co7, .bool false, .int .i64 0, .bool false]) ?_ 2 _ rfl; refine blk_put (cs := #[.slice Ao7 y151.length co7, .bool false, .int .i64 0, .bool false]) ?_ 1 _ rfl; refine blk_put (cs := #[.slice none 0 0, .bool false, .int .i64 0, .bool false]) ?_ 0 _ rfl; exact BK147.out) Tryz.underlying26 rfl (by kernel_rfl)) rfl ?_
 exact ⟨_, by first | rfl, by exact Kd.N_mono (Kd.N_far (p := ⟨gb147, 3, none⟩) (Kd.N_far (p := ⟨gb147, 2, none⟩) (Kd.N_far (p := ⟨gb147, 1, none⟩) (Kd.N_far (p := ⟨gb147, 0, none⟩) (Kd.N_mono HO153.out (fun k_ hk => (⟨hk, hk.2⟩ : _ ∧ k_ ≠ gb147))) (fun _ hk => hk.2) (.slice Ao7 y151.length co7)) (fun _ hk => hk.2) (.bool false)) (fun _ hk => hk.2) (.int .i64 2)) (fun _ hk => hk.2) (.bool false)) (fun _ hk => hk.1.1), by repeat (first | (with_reducible first | exact HB.out | refine below_set ?_ GE147.out))⟩
def riposteref04_Split.l0 : Nat → ByteArray → ByteArray → List ByteArray → Int → Int → Option (List ByteArray)
 | 0, _, _, _, _, _ => none
 | k + 1, x0, x1, x5, x6, x7 => if (wrap64 (x7 + (x1.size : Int))) ≤ (x0.size : Int) then (if 0 ≤ x7 then (if x7 ≤ (wrap64 (x7 + (x1.size : Int))) then (if (x0.extract (x7 : Int).toNat ((wrap64 (x7 + (x1.size : Int))) : Int).toNat).toList = x1.toList then (if 0 ≤ x6 then (if x6 ≤ x7 then (if x7 ≤ (x0.size : Int) then (if x5.length < 8796093022208 then (riposteref04_Split.l0 k x0 x1 (x5 ++ [x0.extract (x6 : Int).toNat (x7 : Int).toNat]) (wrap64 (x7 + (x1.size : Int))) (wrap64 ((wrap64 ((wrap64 (x7 + (x1.size : Int))) - 1)) + 1))) else (none)) else (none)) else (none)) else (none)) else (riposteref04_Split.l0 k x0 x1 x5 x6 (wrap64 (x7 + 1)))) else (none)) else (none)) else (if 0 ≤ x6 then (if x6 ≤ (x0.size : Int) then (if x5.length < 8796093022208 then (some (x5 ++ [x0.extract (x6 : Int).toNat x0.size])) else (none)) else (none)) else (none))
def riposteref04_Split.f (k : Nat) (a0 : ByteArray) (a1 : ByteArray) : Option (List ByteArray) := riposteref04_Split.l0 k a0 a1 ([] : List ByteArray) 0 0
set_option maxHeartbeats 8000000 in
set_option maxRecDepth 100000 in
theorem riposteref04_Split.calls (k : Nat) (a0 : ByteArray) (a1 : ByteArray) (r : List ByteArray) (w : World) (h : riposteref04_Split.f k a0 a1 = some r) :
  Calls Tryz.prog 113 #[.string a0, .string a1] w fun e w' => ∃ v0_ : Value, e = .returned (v0_) ∧ Kd.R Kd.string 9 w' w.heap.size (fun _ => True) v0_ r ∧ Below w.heap.size w w' := by
 have HB := am (Below.refl w.heap.size w)
 have H : (riposteref04_Split.l0 k a0 a1 ([] : List ByteArray) 0 0) = some r := h
 clear h
 have H' := am H
 clear H
 go_enter Tryz.func113, Tryz.ntmps113
 go_wp2
 go_loopg [5, 6, 7] k (fun kq v5 v6 v7 w' => ∃ (x5_1 : List ByteArray) (x6_1 : Int) (x7_1 : Int), v6 = .int .i64 x6_1 ∧ v7 = .int .i64 x7_1 ∧ Aside0 (riposteref04_Split.l0 kq a0 a1 x5_1 x6_1 x7_1 = some r) ∧ Aside0 (kq ≤ k) ∧ Aside0 (Kd.R Kd.string 9 w' w.heap.size (fun _ => True) v5 x5_1) ∧ Aside0 (Below w.heap.size w w'))
 case atStart => exact ⟨(([] : List ByteArray)), (0), (0), (by first | rfl), (by first | rfl), H', ⟨Nat.le_refl _⟩, ⟨by first | exact Kd.R_nil _ _ _ _ _⟩, ⟨by exact HB.out⟩⟩
 case round =>
  clear H'
  try clear c1
  try clear p2
  obtain ⟨x5_1, x6_1, x7_1, rfl, rfl, HA, HK1, HO_5, HB⟩ := hrel
  cases gk with
  | zero => exact absurd HA.out (by simp [riposteref04_Split.l0])
  | succ k1 =>
   have H := HA.out
   clear HA
   simp only [riposteref04_Split.l0] at H
   by_cases c3 : (wrap64 (x7_1 + (a1.size : Int))) ≤ (a0.size : Int)
   ·rw [if_pos c3] at H
    have c3b0 : decide ((wrap64 (x7_1 + (a1.size : Int))) ≤ (a0.size : Int)) = true := decide_eq_true c3
    clear c3
    by_cases c4 : 0 ≤ x7_1
    ·rw [if_pos c4] at H
     have c4b0 := eq_true c4
     have c4b1 : decide (0 ≤ x7_1) = true := decide_eq_true c4
     clear c4
     by_cases c5 : x7_1 ≤ (wrap64 (x7_1 + (a1.size : Int)))
     ·rw [if_pos c5] at H
      have c5b0 := eq_true c5
      have c5b1 : decide (x7_1 ≤ (wrap64 (x7_1 + (a1.size : Int)))) = true := decide_eq_true c5
      have c6b0 := eq_true (of_decide_eq_true (by first | (with_reducible assumption)) : (wrap64 (x7_1 + (a1.size : Int))) ≤ (a0.size : Int))
      by_cases c7 : (a0.extract (x7_1 : Int).toNat ((wrap64 (x7_1 + (a1.size : Int))) : Int).toNat).toList = a1.toList
      ·rw [if_pos c7] at H
       have c7b0 : ((a0.extract (x7_1 : Int).toNat ((wrap64 (x7_1 + (a1.size : Int))) : Int).toNat).toList == a1.toList) = true := beq_iff_eq.mpr c7
       have c7b1 : ((a0.extract (x7_1 : Int).toNat ((wrap64 (x7_1 + (a1.size : Int))) : Int).toNat).toList != a1.toList) = false := bne_eq_false_iff_eq.mpr c7
       clear c7
       by_cases c8 : 0 ≤ x6_1
       ·rw [if_pos c8] at H
        have c8b0 := eq_true c8
        have c8b1 : decide (0 ≤ x6_1) = true := decide_eq_true c8
        clear c8
        by_cases c9 : x6_1 ≤ x7_1
        ·rw [if_pos c9] at H
         have c9b0 := eq_true c9
         have c9b1 : decide (x6_1 ≤ x7_1) = true := decide_eq_true c9
         clear c9
         by_cases c10 : x7_1 ≤ (a0.size : Int)
         ·rw [if_pos c10] at H
          have c10b0 := eq_true c10
          have c10b1 : decide (x7_1 ≤ (a0.size : Int)) = true := decide_eq_true c10
          clear c10
          by_cases c11 : x5_1.length < 8796093022208
          ·rw [if_pos c11] at H
           have LMc11 := am c11
           clear c11
           obtain ⟨y154, hy154⟩ : ∃ y_ : List ByteArray, y_ = (x5_1 ++ [a0.extract (x6_1 : Int).toNat (x7_1 : Int).toNat]) := ⟨_, rfl⟩
           replace H : (riposteref04_Split.l0 k1 a0 a1 y154 (wrap64 (x7_1 + (a1.size : Int))) (wrap64 ((wrap64 ((wrap64 (x7_1 + (a1.size : Int))) - 1)) + 1))) = some r := by first | (rw [hy154]; with_reducible exact H)
           have Ny154 := am hy154
           clear hy154
           have H' := am H
           clear H
           go_wp2_with (first | ((with_reducible refine gate_builtin (b := .append) (xs := #[.tmp 26, .tmp 31]) rfl ?_); at_builtin; refine Kd.R_append Kd.string (w0 := w) w.heap.size rfl (.tmp 26) (.tmp 31) 131 9 (.string ⟨#[]⟩) 16 rfl Tryz.underlying131 info9 rfl (by decide) (by omega) u5 x5_1 (a0.extract (x6_1 : Int).toNat (x7_1 : Int).toNat) [.string (a0.extract (x6_1 : Int).toNat (x7_1 : Int).toNat)] (fun _ => True) (fun _ => False) rfl rfl ?aP (fun _ hk => hk.elim) ?aF ?aO ?aB ?aS ?aL ?_; (case aP => exact rfl); (case aB => exact HB.out); (case aF => exact (fun _ _ => trivial)); (case aO => exact HO_5.out); (case aS => exact (below_size HB.out)); (case aL => have := LMc11.out; omega); intro v155 w12 ho hb hg hat; rw [← Ny154.out] at ho; have n0_ := am (hb); have n1_ := am (ho); clear HB; clear HO_5; have HB := n0_; have HO156 := n1_; clear n0_ n1_; clear ho hb hg hat))
           go_roundg k1
           case measure => have := HK1.out; omega
           case rel => exact ⟨(y154), (wrap64 (x7_1 + (a1.size : Int))), (wrap64 ((wrap64 ((wrap64 (x7_1 + (a1.size : Int))) - 1)) + 1)), (by first | rfl), (by first | rfl), H', ⟨by have := HK1.out; omega⟩, ⟨by exact HO156.out⟩, ⟨by exact HB.out⟩⟩
          rw [if_neg c11] at H
          exact absurd H (by simp)
         rw [if_neg c10] at H
         exact absurd H (by simp)
        rw [if_neg c9] at H
        exact absurd H (by simp)
       rw [if_neg c8] at H
       exact absurd H (by simp)
      rw [if_neg c7] at H
      have c7b0 : ((a0.extract (x7_1 : Int).toNat ((wrap64 (x7_1 + (a1.size : Int))) : Int).toNat).toList == a1.toList) = false := beq_eq_false_iff_ne.mpr c7
      have c7b1 : ((a0.extract (x7_1 : Int).toNat ((wrap64 (x7_1 + (a1.size : Int))) : Int).toNat).toList != a1.toList) = true := bne_iff_ne.mpr c7
      have H' := am H
      clear H
      go_wp2
      go_roundg k1
      case measure => have := HK1.out; omega
      case rel => exact ⟨(x5_1), (x6_1), (wrap64 (x7_1 + 1)), (by first | rfl), (by first | rfl), H', ⟨by have := HK1.out; omega⟩, ⟨by exact HO_5.out⟩, ⟨by exact HB.out⟩⟩
     rw [if_neg c5] at H
     exact absurd H (by simp)
    rw [if_neg c4] at H
    exact absurd H (by simp)
   rw [if_neg c3] at H
   have c3b0 : decide ((wrap64 (x7_1 + (a1.size : Int))) ≤ (a0.size : Int)) = false := decide_eq_false c3
   clear c3
   by_cases c13 : 0 ≤ x6_1
   ·rw [if_pos c13] at H
    have c13b0 := eq_true c13
    have c13b1 : decide (0 ≤ x6_1) = true := decide_eq_true c13
    clear c13
    by_cases c14 : x6_1 ≤ (a0.size : Int)
    ·rw [if_pos c14] at H
     have c14b0 := eq_true c14
     have c14b1 : decide (x6_1 ≤ (a0.size : Int)) = true := decide_eq_true c14
     clear c14
     by_cases c15 : x5_1.length < 8796093022208
     ·rw [if_pos c15] at H
      have LMc15 := am c15
      clear c15
      obtain ⟨y157, hy157⟩ : ∃ y_ : List ByteArray, y_ = (x5_1 ++ [a0.extract (x6_1 : Int).toNat a0.size]) := ⟨_, rfl⟩
      replace H : (some y157) = some r := by first | (rw [hy157]; with_reducible exact H)
      have Ny157 := am hy157
      clear hy157
      obtain rfl := Option.some.inj H
      go_wp2_with (first | ((with_reducible refine gate_builtin (b := .append) (xs := #[.tmp 42, .tmp 46]) rfl ?_); at_builtin; refine Kd.R_append Kd.string (w0 := w) w.heap.size rfl (.tmp 42) (.tmp 46) 131 9 (.string ⟨#[]⟩) 16 rfl Tryz.underlying131 info9 rfl (by decide) (by omega) u5 x5_1 (a0.extract (x6_1 : Int).toNat a0.size) [.string (a0.extract (x6_1 : Int).toNat a0.size)] (fun _ => True) (fun _ => False) rfl rfl ?aP (fun _ hk => hk.elim) ?aF ?aO ?aB ?aS ?aL ?_; (case aP => exact rfl); (case aB => exact HB.out); (case aF => exact (fun _ _ => trivial)); (case aO => exact HO_5.out); (case aS => exact (below_size HB.out)); (case aL => have := LMc15.out; omega); intro v158 w16 ho hb hg hat; rw [← Ny157.out] at ho; have n0_ := am (hb); have n1_ := am (ho); clear HB; clear HO_5; have HB := n0_; have HO159 := n1_; clear n0_ n1_; clear ho hb hg hat))
      go_ret
      exact ⟨_, by first | rfl, by exact HO159.out, by exact HB.out⟩
     rw [if_neg c15] at H
     exact absurd H (by simp)
    rw [if_neg c14] at H
    exact absurd H (by simp)
   rw [if_neg c13] at H
   exact absurd H (by simp)
end Go.Proofs.YtjgocihflhljeaaGreat.P
namespace Go.Proofs.YtjgocihflhljeaaGreat.P
open Go.RowKit Go.Proofs.YtjgocihflhljeaaGreatW.PrintWords Go.Proofs.YtjgocihflhljeaaGreatW.PrintLast Go.Proofs.YtjgocihflhljeaaGreatW.PrintMore
attribute [local go_sem] max2_int max_two

mutual
def riposteref04_SameType.j0 : Nat → Bool → List (S24) → Bool → Int → List (S24) → Bool → Int → Option (Bool)
 | 0, _, _, _, _, _, _, _ => none
 | k + 1, x19, x289000, x289001, x289002, x290000, x290001, x290002 => if x19 = true then (some false) else (riposteref04_SameType.l0 k 0 x289000 x289001 x289002 x290000 x290001 x290002)
def riposteref04_SameType.l0 : Nat → Int → List (S24) → Bool → Int → List (S24) → Bool → Int → Option (Bool)
 | 0, _, _, _, _, _, _, _ => none
 | k + 1, x5, x289000, x289001, x289002, x290000, x290001, x290002 => if x5 < (x289000.length : Int) then (if 0 ≤ x5 then (if x5 < (x290000.length : Int) then (if (!(((rd_T24 x289000 x5).f0) == ((rd_T24 x290000 x5).f0)) || (!(((rd_T24 x289000 x5).f1) == ((rd_T24 x290000 x5).f1)))) = true then (some false) else (riposteref04_SameType.l0 k (wrap64 (x5 + 1)) x289000 x289001 x289002 x290000 x290001 x290002)) else (none)) else (none)) else (some true)
end
def riposteref04_SameType.f (k : Nat) (l0_0 : List (S24)) (a0_1 : Bool) (a0_2 : Int) (l1_0 : List (S24)) (a1_1 : Bool) (a1_2 : Int) : Option (Bool) := if (l0_0.length : Int) = (l1_0.length : Int) then (riposteref04_SameType.j0 k (!(a0_1 == a1_1) || (!(a0_2 == a1_2))) l0_0 a0_1 a0_2 l1_0 a1_1 a1_2) else (riposteref04_SameType.j0 k true l0_0 a0_1 a0_2 l1_0 a1_1 a1_2)

mutual
def riposteref04_Same.j0 : Nat → Bool → List (S68) → Bool → Int → Bool → List (S68) → Bool → Int → Bool → Option (Bool)
 | 0, _, _, _, _, _, _, _, _, _ => none
 | k + 1, x26, x293000, x293001, x293002, x293003, x294000, x294001, x294002, x294003 => if x26 = true then (some false) else (riposteref04_Same.l0 k 0 x293000 x293001 x293002 x293003 x294000 x294001 x294002 x294003)
def riposteref04_Same.l0 : Nat → Int → List (S68) → Bool → Int → Bool → List (S68) → Bool → Int → Bool → Option (Bool)
 | 0, _, _, _, _, _, _, _, _, _ => none
 | k + 1, x5, x293000, x293001, x293002, x293003, x294000, x294001, x294002, x294003 => if x5 < (x293000.length : Int) then (if 0 ≤ x5 then (if x5 < (x294000.length : Int) then ((riposteref04_SameType.f k ((rd_T68 x293000 x5).f0) ((rd_T68 x293000 x5).f1.f0) ((rd_T68 x293000 x5).f1.f1) ((rd_T68 x294000 x5).f0) ((rd_T68 x294000 x5).f1.f0) ((rd_T68 x294000 x5).f1.f1)).bind fun t296 => (if t296 = true then (riposteref04_Same.l0 k (wrap64 (x5 + 1)) x293000 x293001 x293002 x293003 x294000 x294001 x294002 x294003) else (some false))) else (none)) else (none)) else (some true)
end
def riposteref04_Same.f (k : Nat) (l0_0 : List (S68)) (a0_1 : Bool) (a0_2 : Int) (a0_3 : Bool) (l1_0 : List (S68)) (a1_1 : Bool) (a1_2 : Int) (a1_3 : Bool) : Option (Bool) := if (l0_0.length : Int) = (l1_0.length : Int) then (if (!(a0_1 == a1_1) || (!(a0_2 == a1_2))) = true then (riposteref04_Same.j0 k true l0_0 a0_1 a0_2 a0_3 l1_0 a1_1 a1_2 a1_3) else (riposteref04_Same.j0 k (a0_3 != a1_3) l0_0 a0_1 a0_2 a0_3 l1_0 a1_1 a1_2 a1_3)) else (riposteref04_Same.j0 k true l0_0 a0_1 a0_2 a0_3 l1_0 a1_1 a1_2 a1_3)
end Go.Proofs.YtjgocihflhljeaaGreat.P
namespace Go.Proofs.YtjgocihflhljeaaGreat.P
open Go.RowKit Go.Shelf Go.Proofs.YtjgocihflhljeaaGreatW.PrintWords Go.Proofs.YtjgocihflhljeaaGreatW.PrintLast Go.Proofs.YtjgocihflhljeaaGreatW.PrintMore
theorem wrap_up {i n : Nat} (h : i < n) (hl : n ≤ 1000000) : wrap64 ((i : Int) + 1) = ((i + 1 : Nat) : Int) := by
 rw [wrap_in (by omega) (by omega)]
 simp
theorem sameInts_l0 (xs : List Int) (hl : xs.length ≤ 1000000) : ∀ (d i k : Nat), xs.length - i = d → i ≤ xs.length → d < k → riposteref05_SameInts.l0 k xs xs (i : Int) = some true := by
 intro d
 induction d with
 | zero =>
  intro i k hd hi hk
  obtain ⟨k, rfl⟩ : ∃ k', k = k' + 1 := ⟨k - 1, by omega⟩
  rw [riposteref05_SameInts.l0, if_neg (by omega)]
 | succ d ih =>
  intro i k hd hi hk
  obtain ⟨k, rfl⟩ : ∃ k', k = k' + 1 := ⟨k - 1, by omega⟩
  rw [riposteref05_SameInts.l0, if_pos (by omega), if_pos (by omega), if_pos (by omega), if_pos rfl, wrap_up (show i < xs.length by omega) hl, ih (i + 1) k (by omega) (by omega) (by omega)]
theorem sameInts_f (k : Nat) (xs : List Int) (hl : xs.length ≤ 1000000) (hk : xs.length < k) : riposteref05_SameInts.f k xs xs = some true := by
 rw [riposteref05_SameInts.f, if_pos rfl]
 exact sameInts_l0 xs hl xs.length 0 k rfl (Nat.zero_le _) hk
theorem sameWord_l0 (xs : List S52) (hl : xs.length ≤ 1000000) : ∀ (d i k : Nat), xs.length - i = d → i ≤ xs.length → d < k → riposteref04_SameWord.l0 k xs xs (i : Int) = some true := by
 intro d
 induction d with
 | zero =>
  intro i k hd hi hk
  obtain ⟨k, rfl⟩ : ∃ k', k = k' + 1 := ⟨k - 1, by omega⟩
  rw [riposteref04_SameWord.l0, if_neg (by omega)]
 | succ d ih =>
  intro i k hd hi hk
  obtain ⟨k, rfl⟩ : ∃ k', k = k' + 1 := ⟨k - 1, by omega⟩
  rw [riposteref04_SameWord.l0, if_pos (by omega), if_pos (by omega), if_pos (by omega), if_neg (by simp), wrap_up (show i < xs.length by omega) hl, ih (i + 1) k (by omega) (by omega) (by omega)]
theorem sameWord_f (k : Nat) (xs : List S52) (hl : xs.length ≤ 1000000) (hk : xs.length < k) : riposteref04_SameWord.f k xs xs = some true := by
 rw [riposteref04_SameWord.f, if_pos rfl]
 exact sameWord_l0 xs hl xs.length 0 k rfl (Nat.zero_le _) hk
theorem sameType_l0 (xs : List S24) (b : Bool) (n : Int) (hl : xs.length ≤ 1000000) : ∀ (d i k : Nat), xs.length - i = d → i ≤ xs.length → d < k → riposteref04_SameType.l0 k (i : Int) xs b n xs b n = some true := by
 intro d
 induction d with
 | zero =>
  intro i k hd hi hk
  obtain ⟨k, rfl⟩ : ∃ k', k = k' + 1 := ⟨k - 1, by omega⟩
  rw [riposteref04_SameType.l0, if_neg (by omega)]
 | succ d ih =>
  intro i k hd hi hk
  obtain ⟨k, rfl⟩ : ∃ k', k = k' + 1 := ⟨k - 1, by omega⟩
  rw [riposteref04_SameType.l0, if_pos (by omega), if_pos (by omega), if_pos (by omega), if_neg (by simp), wrap_up (show i < xs.length by omega) hl, ih (i + 1) k (by omega) (by omega) (by omega)]
theorem sameType_f (k : Nat) (xs : List S24) (b : Bool) (n : Int) (hl : xs.length ≤ 1000000) (hk : xs.length + 1 < k) : riposteref04_SameType.f k xs b n xs b n = some true := by
 obtain ⟨k, rfl⟩ : ∃ k', k = k' + 1 := ⟨k - 1, by omega⟩
 rw [riposteref04_SameType.f, if_pos rfl, riposteref04_SameType.j0, if_neg (by simp)]
 exact sameType_l0 xs b n hl xs.length 0 k rfl (Nat.zero_le _) (by omega)
theorem same_l0 (xs : List S68) (b : Bool) (n : Int) (j : Bool) (hl : xs.length ≤ 1000000) (hp : ∀ x ∈ xs, x.f0.length ≤ 8) : ∀ (d i k : Nat), xs.length - i = d → i ≤ xs.length → d + 10 < k → riposteref04_Same.l0 k (i : Int) xs b n j xs b n j = some true := by
 intro d
 induction d with
 | zero =>
  intro i k hd hi hk
  obtain ⟨k, rfl⟩ : ∃ k', k = k' + 1 := ⟨k - 1, by omega⟩
  rw [riposteref04_Same.l0, if_neg (by omega)]
 | succ d ih =>
  intro i k hd hi hk
  obtain ⟨k, rfl⟩ : ∃ k', k = k' + 1 := ⟨k - 1, by omega⟩
  have hlt : i < xs.length := by omega
  have hr : rd_T68 xs (i : Int) = xs[i] := by
   unfold rd_T68
   rw [Int.toNat_natCast]
   exact getD_get xs z68 i hlt
  have h8 := hp _ (List.getElem_mem hlt)
  rw [riposteref04_Same.l0, if_pos (by omega), if_pos (by omega), if_pos (by omega), hr, sameType_f k _ _ _ (by omega) (by omega), Option.bind_some, if_pos rfl, wrap_up hlt hl, ih (i + 1) k (by omega) (by omega) (by omega)]
theorem same_f (xs : List S68) (b : Bool) (n : Int) (j : Bool) (hl : xs.length ≤ 12) (hp : ∀ x ∈ xs, x.f0.length ≤ 8) : riposteref04_Same.f 40 xs b n j xs b n j = some true := by
 rw [riposteref04_Same.f, if_pos rfl, if_neg (by simp), riposteref04_Same.j0, if_neg (by simp)]
 exact same_l0 xs b n j (by omega) hp xs.length 0 39 rfl (Nat.zero_le _) (by omega)
def thinA (ids : List S68) : Bool := decide (ids.length ≤ 12) && ids.all fun x => decide (x.f0.length ≤ 8)
def thinB (ids : List S68) (l : List S52) : Bool := thinA ids && (decide (l.length ≤ 80) || decide (400 < l.length ∧ l.length ≤ 405))
theorem thinA_ids {ids : List S68} (h : thinA ids = true) : ids.length ≤ 12 ∧ ∀ x ∈ ids, x.f0.length ≤ 8 := by
 unfold thinA at h
 simp only [Bool.and_eq_true, decide_eq_true_eq, List.all_eq_true] at h
 exact h
theorem thinB_ids {ids : List S68} {l : List S52} (h : thinB ids l = true) : ids.length ≤ 12 ∧ (∀ x ∈ ids, x.f0.length ≤ 8) ∧ l.length ≤ 405 := by
 unfold thinB at h
 rw [Bool.and_eq_true] at h
 obtain ⟨h1, h2⟩ := thinA_ids h.1
 refine ⟨h1, h2, ?_⟩
 have h3 := h.2
 simp only [Bool.or_eq_true, decide_eq_true_eq] at h3
 omega
theorem thin04_l0 (xs : List S68) (b : Bool) (n : Int) (j : Bool) (hl : xs.length ≤ 1000000) : ∀ (d i k : Nat), xs.length - i = d → i ≤ xs.length → d < k → ripostelaw04_Thin.l0 k (i : Int) xs b n j = some ((xs.drop i).all fun x => decide (x.f0.length ≤ 8)) := by
 intro d
 induction d with
 | zero =>
  intro i k hd hi hk
  obtain ⟨k, rfl⟩ : ∃ k', k = k' + 1 := ⟨k - 1, by omega⟩
  rw [ripostelaw04_Thin.l0, if_neg (by omega), List.drop_eq_nil_of_le (by omega)]
  rfl
 | succ d ih =>
  intro i k hd hi hk
  obtain ⟨k, rfl⟩ : ∃ k', k = k' + 1 := ⟨k - 1, by omega⟩
  have hlt : i < xs.length := by omega
  have hr : rd_T68 xs (i : Int) = xs[i] := by
   unfold rd_T68
   rw [Int.toNat_natCast]
   exact getD_get xs z68 i hlt
  rw [ripostelaw04_Thin.l0, if_pos (by omega), if_pos (by omega), hr, List.drop_eq_getElem_cons hlt, List.all_cons]
  by_cases h8 : (xs[i].f0.length : Int) > 8
  ·rw [if_pos h8, decide_eq_false (by omega)]
   rfl
  rw [if_neg h8, wrap_up hlt hl, ih (i + 1) k (by omega) (by omega) (by omega), decide_eq_true (by omega), Bool.true_and]
theorem thin04_f (k : Nat) (hk : 13 ≤ k) (xs : List S68) (b : Bool) (n : Int) (j : Bool) : ripostelaw04_Thin.f k xs b n j = some (thinA xs) := by
 rw [ripostelaw04_Thin.f]
 unfold thinA
 by_cases h : (xs.length : Int) > 12
 ·rw [if_pos h, decide_eq_false (by omega)]
  rfl
 rw [if_neg h, decide_eq_true (by omega), Bool.true_and]
 have := thin04_l0 xs b n j (by omega) xs.length 0 k rfl (Nat.zero_le _) (by omega)
 rw [List.drop_zero] at this
 exact this
theorem thin05_f (xs : List S68) (b : Bool) (n : Int) (j : Bool) (l : List S52) : ripostelaw05_Thin.f 20 xs b n j l = some (thinB xs l) := by
 rw [ripostelaw05_Thin.f, thin04_f 20 (by decide), Option.bind_some]
 unfold thinB
 cases thinA xs with
 | false => rfl
 | true =>
  rw [if_pos rfl, Bool.true_and]
  by_cases h : (l.length : Int) ≤ 80
  ·rw [if_pos h, decide_eq_true (by omega)]
   rfl
  rw [if_neg h, show decide (l.length ≤ 80) = false from decide_eq_false (by omega), Bool.false_or]
  by_cases h2 : (l.length : Int) > 400
  ·rw [if_pos h2]
   congr 1
   rw [decide_eq_decide]
   omega
  rw [if_neg h2, show decide (400 < l.length ∧ l.length ≤ 405) = false from decide_eq_false (by omega)]
theorem copyType_f (xs : List S24) (b : Bool) (n : Int) (h : xs.length ≤ 1000000) : riposteref04_CopyType.f xs b n = some (xs, b, n) := by
 rw [riposteref04_CopyType.f, Option.bind_some, if_pos (by simp; omega)]
 rfl
theorem copy_l0 (xs : List S68) (b : Bool) (n : Int) (j : Bool) (hl : xs.length ≤ 1000000) (hp : ∀ x ∈ xs, x.f0.length ≤ 8) : ∀ (d i k : Nat), xs.length - i = d → i ≤ xs.length → d < k → riposteref04_Copy.l0 k (i : Int) xs b n j (xs.take i) b n j = some (xs, b, n, j) := by
 intro d
 induction d with
 | zero =>
  intro i k hd hi hk
  obtain ⟨k, rfl⟩ : ∃ k', k = k' + 1 := ⟨k - 1, by omega⟩
  rw [riposteref04_Copy.l0, if_neg (by omega), List.take_of_length_le (by omega)]
 | succ d ih =>
  intro i k hd hi hk
  obtain ⟨k, rfl⟩ : ∃ k', k = k' + 1 := ⟨k - 1, by omega⟩
  have hlt : i < xs.length := by omega
  have hr : rd_T68 xs (i : Int) = xs[i] := by
   unfold rd_T68
   rw [Int.toNat_natCast]
   exact getD_get xs z68 i hlt
  have h8 := hp _ (List.getElem_mem hlt)
  rw [riposteref04_Copy.l0, if_pos (by omega), if_pos (by omega), hr, copyType_f _ _ _ (by omega), Option.bind_some, if_pos (by simp; omega), wrap_up hlt hl]
  have e : xs.take i ++ [(⟨xs[i].f0, (⟨xs[i].f1.f0, xs[i].f1.f1⟩ : S24)⟩ : S68)] = xs.take (i + 1) := by rw [List.take_succ_eq_append_getElem hlt]
  rw [e, ih (i + 1) k (by omega) (by omega) (by omega)]
theorem copy_f (xs : List S68) (b : Bool) (n : Int) (j : Bool) (hl : xs.length ≤ 12) (hp : ∀ x ∈ xs, x.f0.length ≤ 8) : riposteref04_Copy.f 20 xs b n j = some (xs, b, n, j) := by
 rw [riposteref04_Copy.f]
 exact copy_l0 xs b n j (by omega) hp xs.length 0 20 rfl (Nat.zero_le _) (by omega)
theorem copyW_f (l : List S52) (hl : l.length ≤ 1000000) : riposteref05_Copy.f l = some l := by
 rw [riposteref05_Copy.f, Option.bind_some, if_pos (by simp; omega)]
 rfl
end Go.Proofs.YtjgocihflhljeaaGreat.P
