/- What the claim's law needs, many texts in one (Q2). No conditions of its own. -/
import Derived.Test.YtjgocihflhljeaaGreatZl2
import Derived.Test.YtjgocihflhljeaaGreatZl14
import Derived.Test.YtjgocihflhljeaaGreatZl9
set_option linter.unusedVariables false
set_option linter.unusedSimpArgs false
namespace Go.Proofs.YtjgocihflhljeaaGreat.P
open Go.RowKit Go.Proofs.YtjgocihflhljeaaGreatW.PrintWords Go.Proofs.YtjgocihflhljeaaGreatW.PrintLast Go.Proofs.YtjgocihflhljeaaGreatW.PrintMore
attribute [local go_sem] max2_int max_two
mutual
def riposteref04_Parse.j0 : Nat → ByteArray → ByteArray → Bool → Int → Int → Int → Int → Option (Int × Int × Int × Int × Int)
 | 0, _, _, _, _, _, _, _ => none
 | k + 1, x0, x5, x28, x112000, x112001, x112002, x112003 => if x28 = true then (if 1 ≤ (x5.size : Int) then ((riposteref04_Digits.f k (x5.extract 1 x5.size)).bind fun bt114 => (if 0 ≤ (wrap64 (1 + bt114.2)) then (if (wrap64 (1 + bt114.2)) ≤ (x5.size : Int) then (riposteref04_Parse.j1 k x0 (x5.extract ((wrap64 (1 + bt114.2)) : Int).toNat x5.size) x112000 bt114.1 x112002 x112003) else (none)) else (none))) else (none)) else (riposteref04_Parse.j1 k x0 x5 x112000 x112001 x112002 x112003)
def riposteref04_Parse.j1 : Nat → ByteArray → ByteArray → Int → Int → Int → Int → Option (Int × Int × Int × Int × Int)
 | 0, _, _, _, _, _, _ => none
 | k + 1, x0, x5, x112000, x112001, x112002, x112003 => if x5.toList = ([] : List UInt8) then (some (0, 0, 0, 0, 4)) else (if 0 < (x5.size : Int) then (if (bt x5 0) = 63 then (riposteref04_Parse.j2 k x0 x5 x112000 x112001 1 x112003) else (if (bt x5 0) = 61 then (riposteref04_Parse.j2 k x0 x5 x112000 x112001 2 x112003) else (if (bt x5 0) = 33 then (riposteref04_Parse.j2 k x0 x5 x112000 x112001 3 x112003) else (riposteref04_Parse.j2 k x0 x5 x112000 x112001 x112002 x112003)))) else (none))
def riposteref04_Parse.j2 : Nat → ByteArray → ByteArray → Int → Int → Int → Int → Option (Int × Int × Int × Int × Int)
 | 0, _, _, _, _, _, _ => none
 | k + 1, x0, x5, x112000, x112001, x112002, x112003 => if 1 ≤ (x5.size : Int) then ((riposteref04_Digits.f k (x5.extract 1 x5.size)).bind fun bt116 => (if x5.toList = ([33, 42] : List UInt8) then ((riposteref04_Text.f k x112000 x112001 x112002 (-1)).bind fun bt118 => (if bt118.2 = 0 then (if bt118.1.toList = x0.toList then (some (x112000, x112001, x112002, (-1), 0)) else (some (0, 0, 0, 0, 4))) else (some (0, 0, 0, 0, 4)))) else ((riposteref04_Text.f k x112000 x112001 x112002 bt116.1).bind fun bt120 => (if bt120.2 = 0 then (if bt120.1.toList = x0.toList then (some (x112000, x112001, x112002, bt116.1, 0)) else (some (0, 0, 0, 0, 4))) else (some (0, 0, 0, 0, 4)))))) else (none)
end
def riposteref04_Parse.f (k : Nat) (a0 : ByteArray) : Option (Int × Int × Int × Int × Int) := (riposteref04_Digits.f k a0).bind fun bt112 => (if 0 ≤ bt112.2 then (if bt112.2 ≤ (a0.size : Int) then (if ((a0.extract (bt112.2 : Int).toNat a0.size).size : Int) > 0 then (if 0 < ((a0.extract (bt112.2 : Int).toNat a0.size).size : Int) then (riposteref04_Parse.j0 k a0 (a0.extract (bt112.2 : Int).toNat a0.size) ((bt (a0.extract (bt112.2 : Int).toNat a0.size) 0) == 46) bt112.1 0 0 0) else (none)) else (riposteref04_Parse.j0 k a0 (a0.extract (bt112.2 : Int).toNat a0.size) false bt112.1 0 0 0)) else (none)) else (none))
def riposteref04_Parse.T7 : Bool × List (List Nat × List Nat) := (true, [([], []), ([], []), ([], []), ([2], [2]), ([1, 3], [1, 3]), ([0], []), ([5, 0, 0], [0, 5]), ([4, 6, 0, 1, 2, 3, 4, 5, 6], [1, 4])])
def riposteref04_Parse.B7 : List Nat := [0, 0, 0, 4, 14, 1, 33, 127]
theorem riposteref04_Parse.tab7 : rtab .any (opsOf Tryz.f114 7) = riposteref04_Parse.T7 := by kernel_rfl
theorem riposteref04_Parse.bits7 : waitsOk riposteref04_Parse.T7.2 riposteref04_Parse.B7 = true := by kernel_rfl
set_option maxHeartbeats 8000000 in
set_option maxRecDepth 100000 in
theorem riposteref04_Parse.calls (k : Nat) (a0 : ByteArray) (r1 : Int) (r2 : Int) (r3 : Int) (r4 : Int) (r5 : Int) (w : World) (h : riposteref04_Parse.f k a0 = some (r1, r2, r3, r4, r5)) :
  Calls Tryz.prog 114 #[.string a0] w fun e w' => e = .returned (.tuple #[.agg #[.int .i64 r1, .int .i64 r2, .int .u8 r3, .int .i64 r4], .int .i64 r5]) ∧ Below w.heap.size w w' := by
 have hu52 := Tryz.underlying52
 have HB := am (Below.refl w.heap.size w)
 have H : ((riposteref04_Digits.f k a0).bind fun bt112 => (if 0 ≤ bt112.2 then (if bt112.2 ≤ (a0.size : Int) then (if ((a0.extract (bt112.2 : Int).toNat a0.size).size : Int) > 0 then (if 0 < ((a0.extract (bt112.2 : Int).toNat a0.size).size : Int) then (riposteref04_Parse.j0 k a0 (a0.extract (bt112.2 : Int).toNat a0.size) ((bt (a0.extract (bt112.2 : Int).toNat a0.size) 0) == 46) bt112.1 0 0 0) else (none)) else (riposteref04_Parse.j0 k a0 (a0.extract (bt112.2 : Int).toNat a0.size) false bt112.1 0 0 0)) else (none)) else (none))) = some (r1, r2, r3, r4, r5) := h
 clear h
 replace H := Option.bind_eq_some_iff.mp H
 obtain ⟨⟨t112, t113⟩, A20, H⟩ := H
 replace H : (if 0 ≤ t113 then (if t113 ≤ (a0.size : Int) then (if ((a0.extract (t113 : Int).toNat a0.size).size : Int) > 0 then (if 0 < ((a0.extract (t113 : Int).toNat a0.size).size : Int) then (riposteref04_Parse.j0 k a0 (a0.extract (t113 : Int).toNat a0.size) ((bt (a0.extract (t113 : Int).toNat a0.size) 0) == 46) t112 0 0 0) else (none)) else (riposteref04_Parse.j0 k a0 (a0.extract (t113 : Int).toNat a0.size) false t112 0 0 0)) else (none)) else (none)) = some (r1, r2, r3, r4, r5) := H
 have A2 := am A20
 clear A20
 by_cases c3 : 0 ≤ t113
 ·rw [if_pos c3] at H
  have c3b0 := eq_true c3
  have c3b1 : decide (0 ≤ t113) = true := decide_eq_true c3
  clear c3
  by_cases c4 : t113 ≤ (a0.size : Int)
  ·rw [if_pos c4] at H
   have c4b0 := eq_true c4
   have c4b1 : decide (t113 ≤ (a0.size : Int)) = true := decide_eq_true c4
   clear c4
   have HC5 := am H
   clear H
   go_enter Tryz.func114, Tryz.ntmps114
   try go_wp2_with (first | ((with_reducible refine gate_dst (N := 2) rfl ?_); refine box_event ?hg (N := 2) ?hd (cs := #[.int .i64 0, .int .i64 0, .int .u8 0, .int .i64 0]) (t := 52) ?hr ?_; (case hd => rfl); (case hg => rfl); (case hr => go_simp); intro gb110 hg w6 hbox hb; have n0_ := am (below_step HB.out hb); have n1_ := am (hbox); have n2_ := am ((by rw [hg]; exact (below_size HB.out) : w.heap.size ≤ gb110)); have n3_ := am ((by rw [hg]; exact (below_size HB.out) : w.heap.size ≤ gb110)); clear HB; have HB := n0_; have BK110 := n1_; have GW110 := n2_; have GE110 := n3_; clear n0_ n1_ n2_ n3_; clear hb hbox hg) | ((with_reducible refine gate_dst (N := 4) rfl ?_); refine box_event ?hg (N := 4) ?hd (cs := #[.int .i64 0, .int .i64 0, .int .u8 0, .int .i64 0]) (t := 52) ?hr ?_; (case hd => rfl); (case hg => rfl); (case hr => go_simp); intro gb111 hg w7 hbox hb; have n0_ := am (blk_below (g := gb110) (o := .cells #[.int .i64 0, .int .i64 0, .int .u8 0, .int .i64 0] 52 (0, 0)) BK110.out hb); have n1_ := am (below_step HB.out hb); have n2_ := am (hbox); have n3_ := am ((by rw [hg]; exact (below_size HB.out) : w.heap.size ≤ gb111)); have n4_ := am ((by rw [hg]; exact (below_size HB.out) : w.heap.size ≤ gb111)); have n5_ := am ((by rw [hg]; exact Nat.ne_of_lt (blk_lt (g := gb110) (o := .cells #[.int .i64 0, .int .i64 0, .int .u8 0, .int .i64 0] 52 (0, 0)) BK110.out) : gb110 ≠ gb111)); have n6_ := am ((by rw [hg]; exact Nat.ne_of_gt (blk_lt (g := gb110) (o := .cells #[.int .i64 0, .int .i64 0, .int .u8 0, .int .i64 0] 52 (0, 0)) BK110.out) : gb111 ≠ gb110)); clear BK110; clear HB; have BK110 := n0_; have HB := n1_; have BK111 := n2_; have GW111 := n3_; have GE111 := n4_; have NB110_111 := n5_; have NB111_110 := n6_; clear n0_ n1_ n2_ n3_ n4_ n5_ n6_; clear hb hbox hg) | ((with_reducible refine gate_callee (f := 135) rfl ?_); refine goesL_ (some 13) rfl rfl Tryz.func135 (by kernel_rfl) rfl #[.string a0] rfl (by (try simp only [List.map_toArray, List.map_cons, List.map_nil]); first | rfl) ?_; (with_reducible refine (riposteref04_Digits.calls k a0 t112 t113 _ A2.out).mono ?_); rintro e w' ⟨rfl, ⟨nd, rfl⟩⟩; refine ⟨_, rfl, ?_⟩; (try (rw [drewN_self w7]; generalize hq_ : World.drewN w7 _ = w7; have n0_ : Aside0 (w7.heap[gb110]? = some (.cells #[.int .i64 0, .int .i64 0, .int .u8 0, .int .i64 0] 52 (0, 0))) := ⟨by rw [← hq_]; exact (by (with_reducible repeat (first | refine blk_drewN ?_ _)); exact BK110.out)⟩; have n1_ : Aside0 (w7.heap[gb111]? = some (.cells #[.int .i64 0, .int .i64 0, .int .u8 0, .int .i64 0] 52 (0, 0))) := ⟨by rw [← hq_]; exact (by (with_reducible repeat (first | refine blk_drewN ?_ _)); exact BK111.out)⟩; have n2_ : Aside0 (Below w.heap.size w w7) := ⟨by rw [← hq_]; exact (by repeat (first | (with_reducible first | exact HB.out | apply pw_below_drewN)))⟩; clear BK110 BK111 HB hq_; have BK110 := n0_; have BK111 := n1_; have HB := n2_; clear n0_ n1_ n2_))))
   have n0_ := am (blk_drew BK110.out)
   have n1_ := am (blk_drew BK111.out)
   have n2_ := am (below_drew1 HB.out)
   clear BK110
   clear BK111
   clear HB
   have BK110 := n0_
   have BK111 := n1_
   have HB := n2_
   clear n0_ n1_ n2_
   refine start_ (n := 7) (S := fun w' => True) (ds := []) #[Z,Z,Z,Z,Z,Z,Z] (by kernel_rfl) rfl rfl trivial (fun hHeld => ?_)
   generalize w7.drew = w8 at BK110 BK111 HB hHeld ⊢
   refine pure_ (i := 0) (N:=some 16) (v:=?_) (a':=?_) #[Y,Z,Z,Z,Z,Z,Z] rfl rfl (by kernel_rfl) (fun _ _ _ h => h) (Or.inl ⟨by rfl, ?_⟩) ?_ ?_;rotate_left;(intro w';go_simp;with_reducible rfl);rotate_left;(simp only [Act.put,sn1,sn2,sn3,i64_w];rfl)
   refine pure_ (i := 1) (N:=some 17) (v:=?_) (a':=?_) #[Y,Y,Z,Z,Z,Z,Z] rfl rfl (by kernel_rfl) (fun _ _ _ h => h) (Or.inl ⟨by rfl, ?_⟩) ?_ ?_;rotate_left;(intro w';go_simp;with_reducible rfl);rotate_left;(simp only [Act.put,sn1,sn2,sn3,i64_w];rfl)
   refine pure_ (i := 2) (N:=some 18) (v:=?_) (a':=?_) #[Y,Y,Y,Z,Z,Z,Z] rfl rfl (by kernel_rfl) (fun _ _ _ h => h) (Or.inl ⟨by rfl, ?_⟩) ?_ ?_;rotate_left;(intro w';go_simp;with_reducible rfl);rotate_left;(simp only [Act.put,sn1,sn2,sn3,i64_w];rfl)
   refine pure_ (i := 3) (N:=some 19) (v:=?_) (a':=?_) #[Y,Y,Y,Y,Z,Z,Z] rfl rfl (by kernel_rfl) (fun _ _ _ h => h) (Or.inl ⟨by rfl, ?_⟩) ?_ ?_;rotate_left;(intro w';go_simp;with_reducible rfl);rotate_left;(simp only [Act.put,sn1,sn2,sn3,i64_w];rfl)
   refine pure_ (i := 4) (N:=some 20) (v:=?_) (a':=?_) #[Y,Y,Y,Y,Y,Z,Z] rfl rfl (by kernel_rfl) (fun _ _ _ h => h) (Or.inl ⟨by rfl, ?_⟩) ?_ ?_;rotate_left;(intro w';go_simp;with_reducible rfl);rotate_left;(simp only [Act.put,sn1,sn2,sn3,i64_w];rfl)
   refine one_ (i := 5) (N := none) #[Y,Y,Y,Y,Y,Y,Z] rfl rfl (by kernel_rfl) (by decide) (fun K hK => ?_)
   have hs9 : w8.cell? ⟨gb111, 0, none⟩ = some (.int .i64 0) := (blk_cell BK111.out 0).trans rfl
   have hfs9 := blk_frozen BK111.out 0
   have hns9_0 := NB110_111.out
   have hms9_0 := NB111_110.out
   refine skip_ (w1 := ?_) (by rfl) rfl ?_ ?_
   rotate_left
   ·go_simp
    rfl
   refine hK.out _ _ trivial (fun hHeld => ?_)
   clear hK K
   refine pure_ (i := 6) (N:=some 5) (v:=?_) (a':=?_) #[Y,Y,Y,Y,Y,Y,Y] rfl rfl (by kernel_rfl) (fun _ _ _ h => h) (Or.inl ⟨by rfl, ?_⟩) ?_ ?_;rotate_left;(intro w';go_simp;with_reducible rfl);rotate_left;(simp only [Act.put,sn1,sn2,sn3,i64_w];rfl)
   refine done_ (by kernel_rfl) ?_
   go_upto_region 5 with (fail)
   generalize a0.extract (t113 : Int).toNat a0.size = e1_ at *
   go_cut [28] (fun v28 wc => ∃ (kq : Nat) (x28_4 : Bool), v28 = .bool x28_4 ∧ Aside0 (riposteref04_Parse.j0 kq a0 e1_ x28_4 t112 0 0 0 = some (r1, r2, r3, r4, r5)) ∧ Aside0 (kq ≤ k) ∧ Aside0 (wc.heap[gb110]? = some (.cells #[.int .i64 0, .int .i64 0, .int .u8 0, .int .i64 0] 52 (0, 0))) ∧ Aside0 (wc.heap[gb111]? = some (.cells #[.int .i64 t112, .int .i64 0, .int .u8 0, .int .i64 0] 52 (0, 0))) ∧ Aside0 (Below w.heap.size w wc))
   case first =>
    have H := HC5.out
    clear HC5
    by_cases c10 : (e1_.size : Int) > 0
    ·rw [if_pos c10] at H
     have c10b0 : decide (0 < (e1_.size : Int)) = true := decide_eq_true c10
     have c10b1 : decide (0 < e1_.size) = true := decide_eq_true (by omega)
     clear c10
     (skip)
     by_cases c11 : 0 < (e1_.size : Int)
     ·rw [if_pos c11] at H
      have c11b0 : decide (0 < (e1_.size : Int)) = true := decide_eq_true c11
      have c11b1 : decide (0 < e1_.size) = true := decide_eq_true (by omega)
      clear c11
      have H' := am H
      clear H
      have p12 : 0 ≤ (0 : Int) := (by omega)
      have q12 : 0 < e1_.size := (by have : (0 : Int) < (e1_.size : Int) := of_decide_eq_true (by first | (with_reducible assumption)); omega)
      have hx12 : ∀ h : 0 < e1_.size, ((e1_[0]'h).toNat : Int) = bt e1_ 0 := bt_at e1_ 0
      clear p12
      have qi12 : (0 < (e1_.size : Int)) = True := eq_true (of_decide_eq_true (by first | (with_reducible assumption)))
      replace q12 := eq_true q12
      go_wp2
      go_meet
      case rel => exact ⟨_, (((bt e1_ 0) == 46)), (by first | rfl), H', ⟨by first | omega⟩, ⟨by refine blk_far ?_ NB110_111.out _; exact BK110.out⟩, ⟨by refine blk_put (cs := #[.int .i64 0, .int .i64 0, .int .u8 0, .int .i64 0]) ?_ 0 _ rfl; exact BK111.out⟩, ⟨by repeat (first | (with_reducible first | exact HB.out | refine below_set ?_ GE111.out))⟩⟩
     rw [if_neg c11] at H
     exact absurd H (by simp)
    rw [if_neg c10] at H
    have c10b0 : decide (0 < (e1_.size : Int)) = false := decide_eq_false c10
    have c10b1 : decide (0 < e1_.size) = false := decide_eq_false (by omega)
    clear c10
    (skip)
    have H' := am H
    clear H
    go_wp2
    go_meet
    case rel => exact ⟨_, (false), (by first | rfl), H', ⟨by first | omega⟩, ⟨by refine blk_far ?_ NB110_111.out _; exact BK110.out⟩, ⟨by refine blk_put (cs := #[.int .i64 0, .int .i64 0, .int .u8 0, .int .i64 0]) ?_ 0 _ rfl; exact BK111.out⟩, ⟨by repeat (first | (with_reducible first | exact HB.out | refine below_set ?_ GE111.out))⟩⟩
   case rest =>
    clear HC5
    try clear c1
    try clear p1
    try clear q1
    try clear hx1
    try clear qi1
    try clear p2
    try clear c3
    try clear c3b0
    try clear c3b1
    try clear c4
    try clear c4b0
    try clear c4b1
    try clear c10
    try clear c10b0
    try clear c10b1
    try clear c11
    try clear c11b0
    try clear c11b1
    try clear p12
    try clear q12
    try clear hx12
    try clear qi12
    try clear p12
    try clear q12
    obtain ⟨kq, x28_4, rfl, HA, HJ4, BK110, BK111, HB⟩ := hcut
    cases kq with
    | zero => exact absurd HA.out (by simp [riposteref04_Parse.j0])
    | succ kj4 =>
     have H := HA.out
     clear HA
     simp only [riposteref04_Parse.j0] at H
     have HC13 := am H
     clear H
     go_upto_if 28 with (fail)
     go_cut [5] (fun v5 wc => ∃ (kq : Nat) (x5_12 : ByteArray) (x112001_12 : Int), v5 = .string x5_12 ∧ Aside0 (riposteref04_Parse.j1 kq a0 x5_12 t112 x112001_12 0 0 = some (r1, r2, r3, r4, r5)) ∧ Aside0 (kq ≤ kj4) ∧ Aside0 (wc.heap[gb110]? = some (.cells #[.int .i64 0, .int .i64 0, .int .u8 0, .int .i64 0] 52 (0, 0))) ∧ Aside0 (wc.heap[gb111]? = some (.cells #[.int .i64 t112, .int .i64 x112001_12, .int .u8 0, .int .i64 0] 52 (0, 0))) ∧ Aside0 (Below w.heap.size w wc))
     case first =>
      have H := HC13.out
      clear HC13
      by_cases c14 : x28_4 = true
      ·subst c14
       have H1 : (if 1 ≤ (e1_.size : Int) then ((riposteref04_Digits.f kj4 (e1_.extract 1 e1_.size)).bind fun bt114 => (if 0 ≤ (wrap64 (1 + bt114.2)) then (if (wrap64 (1 + bt114.2)) ≤ (e1_.size : Int) then (riposteref04_Parse.j1 kj4 a0 (e1_.extract ((wrap64 (1 + bt114.2)) : Int).toNat e1_.size) t112 bt114.1 0 0) else (none)) else (none))) else (none)) = some (r1, r2, r3, r4, r5) := by rw [if_pos rfl] at H; exact H
       clear H
       have H := H1
       clear H1
       by_cases c15 : 1 ≤ (e1_.size : Int)
       ·rw [if_pos c15] at H
        have c15b0 := eq_true c15
        have c15b1 : decide (1 ≤ (e1_.size : Int)) = true := decide_eq_true c15
        clear c15
        replace H := Option.bind_eq_some_iff.mp H
        obtain ⟨⟨t114, t115⟩, A160, H⟩ := H
        replace H : (if 0 ≤ (wrap64 (1 + t115)) then (if (wrap64 (1 + t115)) ≤ (e1_.size : Int) then (riposteref04_Parse.j1 kj4 a0 (e1_.extract ((wrap64 (1 + t115)) : Int).toNat e1_.size) t112 t114 0 0) else (none)) else (none)) = some (r1, r2, r3, r4, r5) := H
        have A16 := am A160
        clear A160
        obtain ⟨ji17, hji17⟩ : ∃ j_ : Int, (wrap64 (1 + t115)) = j_ := ⟨_, rfl⟩
        replace H : (if 0 ≤ (ji17) then (if (ji17) ≤ (e1_.size : Int) then (riposteref04_Parse.j1 kj4 a0 (e1_.extract ((ji17) : Int).toNat e1_.size) t112 t114 0 0) else (none)) else (none)) = some (r1, r2, r3, r4, r5) := by first | (rw [hji17] at H; exact H)
        (try rw [hji17] at A16)
        have hji17w : (IntKind.i64.wrap (1 + t115)) = ji17 := (i64_w _).trans hji17
        by_cases c18 : 0 ≤ (ji17)
        ·rw [if_pos c18] at H
         have c18b0 := eq_true c18
         have c18b1 : decide (0 ≤ (ji17)) = true := decide_eq_true c18
         clear c18
         by_cases c19 : (ji17) ≤ (e1_.size : Int)
         ·rw [if_pos c19] at H
          have c19b0 := eq_true c19
          have c19b1 : decide ((ji17) ≤ (e1_.size : Int)) = true := decide_eq_true c19
          clear c19
          have H' := am H
          clear H
          try go_wp2_with (first | ((with_reducible refine gate_callee (f := 135) rfl ?_); refine goesL_ (some 32) rfl rfl Tryz.func135 (by kernel_rfl) rfl #[.string (e1_.extract 1 e1_.size)] rfl (by (try simp only [List.map_toArray, List.map_cons, List.map_nil]); first | rfl) ?_; (with_reducible refine (riposteref04_Digits.calls kj4 (e1_.extract 1 e1_.size) t114 t115 _ A16.out).mono ?_); rintro e w' ⟨rfl, ⟨nd, rfl⟩⟩; refine ⟨_, rfl, ?_⟩; (try (rw [drewN_self wc]; generalize hq_ : World.drewN wc _ = wc; have n0_ : Aside0 (wc.heap[gb110]? = some (.cells #[.int .i64 0, .int .i64 0, .int .u8 0, .int .i64 0] 52 (0, 0))) := ⟨by rw [← hq_]; exact (by (with_reducible repeat (first | refine blk_drewN ?_ _)); exact BK110.out)⟩; have n1_ : Aside0 (wc.heap[gb111]? = some (.cells #[.int .i64 t112, .int .i64 0, .int .u8 0, .int .i64 0] 52 (0, 0))) := ⟨by rw [← hq_]; exact (by (with_reducible repeat (first | refine blk_drewN ?_ _)); exact BK111.out)⟩; have n2_ : Aside0 (Below w.heap.size w wc) := ⟨by rw [← hq_]; exact (by repeat (first | (with_reducible first | exact HB.out | apply pw_below_drewN)))⟩; clear BK110 BK111 HB hq_; have BK110 := n0_; have BK111 := n1_; have HB := n2_; clear n0_ n1_ n2_))))
          have n0_ := am (blk_drew BK110.out)
          have n1_ := am (blk_drew BK111.out)
          have n2_ := am (below_drew1 HB.out)
          clear BK110
          clear BK111
          clear HB
          have BK110 := n0_
          have BK111 := n1_
          have HB := n2_
          clear n0_ n1_ n2_
          refine start_ (n := 8) (S := fun w' => True) (ds := []) #[Z,Z,Z,Z,Z,Z,Z,Z] (by kernel_rfl) rfl rfl trivial (fun hHeld => ?_); refine with_tabW riposteref04_Parse.tab7 riposteref04_Parse.bits7 (fun HT_ HW_ => ?_)
          generalize wc.drew = w20 at BK110 BK111 HB hHeld ⊢
          refine pure_ (i := 0) (N:=some 35) (v:=?_) (a':=?_) #[Y,Z,Z,Z,Z,Z,Z,Z] rfl rfl (any_of HT_.out (by kernel_rfl)) (fun _ _ _ h => h) (Or.inl ⟨by rfl, ?_⟩) ?_ ?_;rotate_left;(intro w';go_simp;with_reducible rfl);rotate_left;(simp only [Act.put,sn1,sn2,sn3,i64_w];rfl)
          refine pure_ (i := 1) (N:=some 36) (v:=?_) (a':=?_) #[Y,Y,Z,Z,Z,Z,Z,Z] rfl rfl (any_of HT_.out (by kernel_rfl)) (fun _ _ _ h => h) (Or.inl ⟨by rfl, ?_⟩) ?_ ?_;rotate_left;(intro w';go_simp;with_reducible rfl);rotate_left;(simp only [Act.put,sn1,sn2,sn3,i64_w];rfl)
          refine pure_ (i := 2) (N:=some 37) (v:=?_) (a':=?_) #[Y,Y,Y,Z,Z,Z,Z,Z] rfl rfl (any_of HT_.out (by kernel_rfl)) (fun _ _ _ h => h) (Or.inl ⟨by rfl, ?_⟩) ?_ ?_;rotate_left;(intro w';go_simp;with_reducible rfl);rotate_left;(simp only [Act.put,sn1,sn2,sn3,i64_w];rfl)
          refine pure_ (i := 3) (N:=some 38) (v:=?_) (a':=?_) #[Y,Y,Y,Y,Z,Z,Z,Z] rfl rfl (any_of HT_.out (by kernel_rfl)) (fun _ _ _ h => h) (Or.inl ⟨by rfl, ?_⟩) ?_ ?_;rotate_left;(intro w';go_simp;with_reducible rfl);rotate_left;(simp only [Act.put,sn1,sn2,sn3,i64_w];rfl)
          refine pure_ (i := 4) (N:=some 39) (v:=?_) (a':=?_) #[Y,Y,Y,Y,Y,Z,Z,Z] rfl rfl (any_of HT_.out (by kernel_rfl)) (fun _ _ _ h => h) (Or.inl ⟨by rfl, ?_⟩) ?_ ?_;rotate_left;(intro w';go_simp;with_reducible rfl);rotate_left;(simp only [Act.put,sn1,sn2,sn3,i64_w];rfl)
          refine pure_ (i := 5) (N:=some 40) (v:=?_) (a':=?_) #[Y,Y,Y,Y,Y,Y,Z,Z] rfl rfl (any_of HT_.out (by kernel_rfl)) (fun _ _ _ h => h) (Or.inl ⟨by rfl, ?_⟩) ?_ ?_;rotate_left;(intro w';go_simp;with_reducible rfl);rotate_left;(simp only [Act.put,sn1,sn2,sn3,i64_w];rfl)
          refine one_ (i := 6) (N := none) #[Y,Y,Y,Y,Y,Y,Y,Z] rfl rfl (one_of HT_.out (by kernel_rfl)) (by decide) (fun K hK => ?_)
          have hs21 : w20.cell? ⟨gb111, 1, none⟩ = some (.int .i64 0) := (blk_cell BK111.out 1).trans rfl
          have hfs21 := blk_frozen BK111.out 1
          have hns21_0 := NB110_111.out
          have hms21_0 := NB111_110.out
          refine skip_ (w1 := ?_) (by rfl) rfl ?_ ?_
          rotate_left
          ·go_simp
           rfl
          refine hK.out _ _ trivial (fun hHeld => ?_)
          clear hK K
          refine pure_ (i := 7) (N:=some 5) (v:=?_) (a':=?_) #[Y,Y,Y,Y,Y,Y,Y,Y] rfl rfl (any_of HT_.out (by kernel_rfl)) (fun _ _ _ h => h) (Or.inl ⟨by rfl, ?_⟩) ?_ ?_;rotate_left;(intro w';go_simp;with_reducible rfl);rotate_left;(simp only [Act.put,sn1,sn2,sn3,i64_w];rfl)
          refine done_ (done_of HT_.out (by kernel_rfl)) ?_
          try go_wp2
          go_meet
          case rel => exact ⟨_, (e1_.extract ((ji17) : Int).toNat e1_.size), (t114), (by first | rfl), H', ⟨by have := HJ4.out; first | omega⟩, ⟨by refine blk_far ?_ NB110_111.out _; exact BK110.out⟩, ⟨by refine blk_put (cs := #[.int .i64 t112, .int .i64 0, .int .u8 0, .int .i64 0]) ?_ 1 _ rfl; exact BK111.out⟩, ⟨by repeat (first | (with_reducible first | exact HB.out | refine below_set ?_ GE111.out))⟩⟩
         rw [if_neg c19] at H
         exact absurd H (by simp)
        rw [if_neg c18] at H
        exact absurd H (by simp)
       rw [if_neg c15] at H
       exact absurd H (by simp)
      replace c14 := Bool.eq_false_iff.mpr c14
      subst c14
      have H1 : (riposteref04_Parse.j1 kj4 a0 e1_ t112 0 0 0) = some (r1, r2, r3, r4, r5) := by rw [if_neg (show ¬ (false = true) by decide)] at H; exact H
      clear H
      have H := H1
      clear H1
      have H' := am H
      clear H
      go_wp2
      go_meet
      case rel => exact ⟨_, (e1_), (0), (by first | rfl), H', ⟨by have := HJ4.out; first | omega⟩, ⟨by exact BK110.out⟩, ⟨by exact BK111.out⟩, ⟨by exact HB.out⟩⟩
     case rest =>
      clear HC13
      try clear c1
      try clear p1
      try clear q1
      try clear hx1
      try clear qi1
      try clear p2
      try clear c3
      try clear c3b0
      try clear c3b1
      try clear c4
      try clear c4b0
      try clear c4b1
      try clear p6
      try clear c10
      try clear c10b0
      try clear c10b1
      try clear c11
      try clear c11b0
      try clear c11b1
      try clear p12
      try clear q12
      try clear hx12
      try clear qi12
      try clear c13
      try clear c14
      try clear c15
      try clear c15b0
      try clear c15b1
      try clear c18
      try clear c18b0
      try clear c18b1
      try clear c19
      try clear c19b0
      try clear c19b1
      try clear p1
      try clear p12
      try clear p2
      try clear q1
      try clear q12
      obtain ⟨kq, x5_12, x112001_12, rfl, HA, HJ12, BK110, BK111, HB⟩ := hcut
      cases kq with
      | zero => exact absurd HA.out (by simp [riposteref04_Parse.j1])
      | succ kj12 =>
       have H := HA.out
       clear HA
       simp only [riposteref04_Parse.j1] at H
       by_cases c22 : x5_12.toList = ([] : List UInt8)
       ·rw [if_pos c22] at H
        have c22b0 : (x5_12.toList == ([] : List UInt8)) = true := beq_iff_eq.mpr c22
        have c22b1 : (x5_12.toList != ([] : List UInt8)) = false := bne_eq_false_iff_eq.mpr c22
        clear c22
        simp only [Option.some.injEq, Prod.mk.injEq] at H
        obtain ⟨rfl, rfl, rfl, rfl, rfl⟩ := H
        have hnb23 := NB110_111.out
        have hnc23 := NB111_110.out
        have hcz24_0 : wc.cell? ⟨gb110, 0, none⟩ = some (.int .i64 0) := (blk_cell BK110.out 0).trans rfl
        have hcz24_1 : wc.cell? ⟨gb110, 1, none⟩ = some (.int .i64 0) := (blk_cell BK110.out 1).trans rfl
        have hcz24_2 : wc.cell? ⟨gb110, 2, none⟩ = some (.int .u8 0) := (blk_cell BK110.out 2).trans rfl
        have hcz24_3 : wc.cell? ⟨gb110, 3, none⟩ = some (.int .i64 0) := (blk_cell BK110.out 3).trans rfl
        have hfz24_0 := blk_frozen BK110.out 0
        have hfz24_1 := blk_frozen BK110.out 1
        have hfz24_2 := blk_frozen BK110.out 2
        have hfz24_3 := blk_frozen BK110.out 3
        go_wp2
        refine bodyPost_ret (results_ct rfl _ _ gb110 52 #[.int .i64 0, .int .i64 0, .int .u8 0, .int .i64 0] (0, 0) _ rfl (by refine blk_put (cs := #[.int .i64 0, .int .i64 0, .int .u8 0, .int .i64 0]) ?_ 3 _ rfl; refine blk_put (cs := #[.int .i64 0, .int .i64 0, .int .u8 0, .int .i64 0]) ?_ 2 _ rfl; refine blk_put (cs := #[.int .i64 0, .int .i64 0, .int .u8 0, .int .i64 0]) ?_ 1 _ rfl; refine blk_put (cs := #[.int .i64 0, .int .i64 0, .int .u8 0, .int .i64 0]) ?_ 0 _ rfl; exact BK110.out) Tryz.underlying52 rfl (by kernel_rfl)) rfl ?_
        exact ⟨by first | rfl, by repeat (first | (with_reducible first | exact HB.out | refine below_set ?_ GE110.out))⟩
       rw [if_neg c22] at H
       have c22b0 : (x5_12.toList == ([] : List UInt8)) = false := beq_eq_false_iff_ne.mpr c22
       have c22b1 : (x5_12.toList != ([] : List UInt8)) = true := bne_iff_ne.mpr c22
       by_cases c25 : 0 < (x5_12.size : Int)
       ·rw [if_pos c25] at H
        have c25b0 : decide (0 < (x5_12.size : Int)) = true := decide_eq_true c25
        have c25b1 : decide (0 < x5_12.size) = true := decide_eq_true (by omega)
        clear c25
        have HC27 := am H
        clear H
        have p26 : 0 ≤ (0 : Int) := (by omega)
        have q26 : 0 < x5_12.size := (by have : (0 : Int) < (x5_12.size : Int) := of_decide_eq_true (by first | (with_reducible assumption)); omega)
        have hx26 : ∀ h : 0 < x5_12.size, ((x5_12[0]'h).toNat : Int) = bt x5_12 0 := bt_at x5_12 0
        clear p26
        have qi26 : (0 < (x5_12.size : Int)) = True := eq_true (of_decide_eq_true (by first | (with_reducible assumption)))
        replace q26 := eq_true q26
        go_upto_block 0 with (fail)
        go_cut [] (fun wc => ∃ (kq : Nat) (x112002_26 : Int), Aside0 (riposteref04_Parse.j2 kq a0 x5_12 t112 x112001_12 x112002_26 0 = some (r1, r2, r3, r4, r5)) ∧ Aside0 (kq ≤ kj12) ∧ Aside0 (wc.heap[gb110]? = some (.cells #[.int .i64 0, .int .i64 0, .int .u8 0, .int .i64 0] 52 (0, 0))) ∧ Aside0 (wc.heap[gb111]? = some (.cells #[.int .i64 t112, .int .i64 x112001_12, .int .u8 x112002_26, .int .i64 0] 52 (0, 0))) ∧ Aside0 (Below w.heap.size w wc))
        case first =>
         have H := HC27.out
         clear HC27
         by_cases c28 : (bt x5_12 0) = 63
         ·rw [if_pos c28] at H
          have c28b0 : ((bt x5_12 0) == 63) = true := beq_iff_eq.mpr c28
          have c28b1 : ((bt x5_12 0) != 63) = false := bne_eq_false_iff_eq.mpr c28
          clear c28
          (skip)
          have H' := am H
          clear H
          have hnb29 := NB111_110.out
          have hnc29 := NB110_111.out
          have hcz30_0 : wc.cell? ⟨gb111, 0, none⟩ = some (.int .i64 t112) := (blk_cell BK111.out 0).trans rfl
          have hcz30_1 : wc.cell? ⟨gb111, 1, none⟩ = some (.int .i64 x112001_12) := (blk_cell BK111.out 1).trans rfl
          have hcz30_2 : wc.cell? ⟨gb111, 2, none⟩ = some (.int .u8 0) := (blk_cell BK111.out 2).trans rfl
          have hcz30_3 : wc.cell? ⟨gb111, 3, none⟩ = some (.int .i64 0) := (blk_cell BK111.out 3).trans rfl
          have hfz30_0 := blk_frozen BK111.out 0
          have hfz30_1 := blk_frozen BK111.out 1
          have hfz30_2 := blk_frozen BK111.out 2
          have hfz30_3 := blk_frozen BK111.out 3
          go_wp2
          go_meet
          case rel => exact ⟨_, (1), H', ⟨by have := HJ4.out; have := HJ12.out; first | omega⟩, ⟨by refine blk_far ?_ NB110_111.out _; exact BK110.out⟩, ⟨by refine blk_put (cs := #[.int .i64 t112, .int .i64 x112001_12, .int .u8 0, .int .i64 0]) ?_ 2 _ rfl; exact BK111.out⟩, ⟨by repeat (first | (with_reducible first | exact HB.out | refine below_set ?_ GE111.out))⟩⟩
         rw [if_neg c28] at H
         have c28b0 : ((bt x5_12 0) == 63) = false := beq_eq_false_iff_ne.mpr c28
         have c28b1 : ((bt x5_12 0) != 63) = true := bne_iff_ne.mpr c28
         (skip)
         by_cases c31 : (bt x5_12 0) = 61
         ·rw [if_pos c31] at H
          have c31b0 : ((bt x5_12 0) == 61) = true := beq_iff_eq.mpr c31
          have c31b1 : ((bt x5_12 0) != 61) = false := bne_eq_false_iff_eq.mpr c31
          clear c31
          have H' := am H
          clear H
          have hnb32 := NB111_110.out
          have hnc32 := NB110_111.out
          have hcz33_0 : wc.cell? ⟨gb111, 0, none⟩ = some (.int .i64 t112) := (blk_cell BK111.out 0).trans rfl
          have hcz33_1 : wc.cell? ⟨gb111, 1, none⟩ = some (.int .i64 x112001_12) := (blk_cell BK111.out 1).trans rfl
          have hcz33_2 : wc.cell? ⟨gb111, 2, none⟩ = some (.int .u8 0) := (blk_cell BK111.out 2).trans rfl
          have hcz33_3 : wc.cell? ⟨gb111, 3, none⟩ = some (.int .i64 0) := (blk_cell BK111.out 3).trans rfl
          have hfz33_0 := blk_frozen BK111.out 0
          have hfz33_1 := blk_frozen BK111.out 1
          have hfz33_2 := blk_frozen BK111.out 2
          have hfz33_3 := blk_frozen BK111.out 3
          go_wp2
          go_meet
          case rel => exact ⟨_, (2), H', ⟨by have := HJ4.out; have := HJ12.out; first | omega⟩, ⟨by refine blk_far ?_ NB110_111.out _; exact BK110.out⟩, ⟨by refine blk_put (cs := #[.int .i64 t112, .int .i64 x112001_12, .int .u8 0, .int .i64 0]) ?_ 2 _ rfl; exact BK111.out⟩, ⟨by repeat (first | (with_reducible first | exact HB.out | refine below_set ?_ GE111.out))⟩⟩
         rw [if_neg c31] at H
         have c31b0 : ((bt x5_12 0) == 61) = false := beq_eq_false_iff_ne.mpr c31
         have c31b1 : ((bt x5_12 0) != 61) = true := bne_iff_ne.mpr c31
         by_cases c34 : (bt x5_12 0) = 33
         ·rw [if_pos c34] at H
          have c34b0 : ((bt x5_12 0) == 33) = true := beq_iff_eq.mpr c34
          have c34b1 : ((bt x5_12 0) != 33) = false := bne_eq_false_iff_eq.mpr c34
          clear c34
          have H' := am H
          clear H
          have hnb35 := NB111_110.out
          have hnc35 := NB110_111.out
          have hcz36_0 : wc.cell? ⟨gb111, 0, none⟩ = some (.int .i64 t112) := (blk_cell BK111.out 0).trans rfl
          have hcz36_1 : wc.cell? ⟨gb111, 1, none⟩ = some (.int .i64 x112001_12) := (blk_cell BK111.out 1).trans rfl
          have hcz36_2 : wc.cell? ⟨gb111, 2, none⟩ = some (.int .u8 0) := (blk_cell BK111.out 2).trans rfl
          have hcz36_3 : wc.cell? ⟨gb111, 3, none⟩ = some (.int .i64 0) := (blk_cell BK111.out 3).trans rfl
          have hfz36_0 := blk_frozen BK111.out 0
          have hfz36_1 := blk_frozen BK111.out 1
          have hfz36_2 := blk_frozen BK111.out 2
          have hfz36_3 := blk_frozen BK111.out 3
          go_wp2
          go_meet
          case rel => exact ⟨_, (3), H', ⟨by have := HJ4.out; have := HJ12.out; first | omega⟩, ⟨by refine blk_far ?_ NB110_111.out _; exact BK110.out⟩, ⟨by refine blk_put (cs := #[.int .i64 t112, .int .i64 x112001_12, .int .u8 0, .int .i64 0]) ?_ 2 _ rfl; exact BK111.out⟩, ⟨by repeat (first | (with_reducible first | exact HB.out | refine below_set ?_ GE111.out))⟩⟩
         rw [if_neg c34] at H
         have c34b0 : ((bt x5_12 0) == 33) = false := beq_eq_false_iff_ne.mpr c34
         have c34b1 : ((bt x5_12 0) != 33) = true := bne_iff_ne.mpr c34
         have H' := am H
         clear H
         go_wp2
         go_meet
         case rel => exact ⟨_, (0), H', ⟨by have := HJ4.out; have := HJ12.out; first | omega⟩, ⟨by exact BK110.out⟩, ⟨by exact BK111.out⟩, ⟨by exact HB.out⟩⟩
        case rest =>
         clear HC27
         try clear c1
         try clear p1
         try clear q1
         try clear hx1
         try clear qi1
         try clear c2
         try clear p2
         try clear q2
         try clear hx2
         try clear qi2
         try clear c3
         try clear c3b0
         try clear c3b1
         try clear c4
         try clear c4b0
         try clear c4b1
         try clear p6
         try clear c10
         try clear c10b0
         try clear c10b1
         try clear c11
         try clear c11b0
         try clear c11b1
         try clear p12
         try clear q12
         try clear hx12
         try clear qi12
         try clear c13
         try clear c14
         try clear c15
         try clear c15b0
         try clear c15b1
         try clear c18
         try clear c18b0
         try clear c18b1
         try clear c19
         try clear c19b0
         try clear c19b1
         try clear c22
         try clear c22b0
         try clear c22b1
         try clear c23
         try clear c25
         try clear c25b0
         try clear c25b1
         try clear p26
         try clear q26
         try clear hx26
         try clear qi26
         try clear c28
         try clear c28b0
         try clear c28b1
         try clear c29
         try clear c31
         try clear c31b0
         try clear c31b1
         try clear c32
         try clear c34
         try clear c34b0
         try clear c34b1
         try clear c35
         try clear hcz24_0
         try clear hcz24_1
         try clear hcz24_2
         try clear hcz24_3
         try clear hcz30_0
         try clear hcz30_1
         try clear hcz30_2
         try clear hcz30_3
         try clear hcz33_0
         try clear hcz33_1
         try clear hcz33_2
         try clear hcz33_3
         try clear hcz36_0
         try clear hcz36_1
         try clear hcz36_2
         try clear hcz36_3
         try clear hfz24_0
         try clear hfz24_1
         try clear hfz24_2
         try clear hfz24_3
         try clear hfz30_0
         try clear hfz30_1
         try clear hfz30_2
         try clear hfz30_3
         try clear hfz33_0
         try clear hfz33_1
         try clear hfz33_2
         try clear hfz33_3
         try clear hfz36_0
         try clear hfz36_1
         try clear hfz36_2
         try clear hfz36_3
         try clear p1
         try clear p12
         try clear p2
         try clear p26
         try clear p6
         try clear q1
         try clear q12
         try clear q26
         obtain ⟨kq, x112002_26, HA, HJ26, BK110, BK111, HB⟩ := hcut
         cases kq with
         | zero => exact absurd HA.out (by simp [riposteref04_Parse.j2])
         | succ kj26 =>
          have H := HA.out
          clear HA
          simp only [riposteref04_Parse.j2] at H
          by_cases c37 : 1 ≤ (x5_12.size : Int)
          ·rw [if_pos c37] at H
           have c37b0 := eq_true c37
           have c37b1 : decide (1 ≤ (x5_12.size : Int)) = true := decide_eq_true c37
           clear c37
           replace H := Option.bind_eq_some_iff.mp H
           obtain ⟨⟨t116, t117⟩, A380, H⟩ := H
           replace H : (if x5_12.toList = ([33, 42] : List UInt8) then ((riposteref04_Text.f kj26 t112 x112001_12 x112002_26 (-1)).bind fun bt118 => (if bt118.2 = 0 then (if bt118.1.toList = a0.toList then (some (t112, x112001_12, x112002_26, (-1), 0)) else (some (0, 0, 0, 0, 4))) else (some (0, 0, 0, 0, 4)))) else ((riposteref04_Text.f kj26 t112 x112001_12 x112002_26 t116).bind fun bt120 => (if bt120.2 = 0 then (if bt120.1.toList = a0.toList then (some (t112, x112001_12, x112002_26, t116, 0)) else (some (0, 0, 0, 0, 4))) else (some (0, 0, 0, 0, 4))))) = some (r1, r2, r3, r4, r5) := H
           have A38 := am A380
           clear A380
           by_cases c39 : x5_12.toList = ([33, 42] : List UInt8)
           ·rw [if_pos c39] at H
            have c39b0 : (x5_12.toList == ([33, 42] : List UInt8)) = true := beq_iff_eq.mpr c39
            have c39b1 : (x5_12.toList != ([33, 42] : List UInt8)) = false := bne_eq_false_iff_eq.mpr c39
            clear c39
            replace H := Option.bind_eq_some_iff.mp H
            obtain ⟨⟨t118, t119⟩, A400, H⟩ := H
            replace H : (if t119 = 0 then (if t118.toList = a0.toList then (some (t112, x112001_12, x112002_26, (-1), 0)) else (some (0, 0, 0, 0, 4))) else (some (0, 0, 0, 0, 4))) = some (r1, r2, r3, r4, r5) := H
            have A40 := am A400
            clear A400
            by_cases c41 : t119 = 0
            ·rw [if_pos c41] at H
             have c41b0 : (t119 == 0) = true := beq_iff_eq.mpr c41
             have c41b1 : (t119 != 0) = false := bne_eq_false_iff_eq.mpr c41
             clear c41
             by_cases c42 : t118.toList = a0.toList
             ·rw [if_pos c42] at H
              have c42b0 : (t118.toList == a0.toList) = true := beq_iff_eq.mpr c42
              have c42b1 : (t118.toList != a0.toList) = false := bne_eq_false_iff_eq.mpr c42
              clear c42
              simp only [Option.some.injEq, Prod.mk.injEq] at H
              obtain ⟨rfl, rfl, rfl, rfl, rfl⟩ := H
              go_wp2_with (first | ((with_reducible refine gate_callee (f := 135) rfl ?_); refine goesL_ (some 58) rfl rfl Tryz.func135 (by kernel_rfl) rfl #[.string (x5_12.extract 1 x5_12.size)] rfl (by (try simp only [List.map_toArray, List.map_cons, List.map_nil]); first | rfl) ?_; (with_reducible refine (riposteref04_Digits.calls kj26 (x5_12.extract 1 x5_12.size) t116 t117 _ A38.out).mono ?_); rintro e w' ⟨rfl, ⟨nd, rfl⟩⟩; refine ⟨_, rfl, ?_⟩; (try (rw [drewN_self wc]; generalize hq_ : World.drewN wc _ = wc; have n0_ : Aside0 (wc.heap[gb110]? = some (.cells #[.int .i64 0, .int .i64 0, .int .u8 0, .int .i64 0] 52 (0, 0))) := ⟨by rw [← hq_]; exact (by (with_reducible repeat (first | refine blk_drewN ?_ _)); exact BK110.out)⟩; have n1_ : Aside0 (wc.heap[gb111]? = some (.cells #[.int .i64 t112, .int .i64 x112001_12, .int .u8 x112002_26, .int .i64 0] 52 (0, 0))) := ⟨by rw [← hq_]; exact (by (with_reducible repeat (first | refine blk_drewN ?_ _)); exact BK111.out)⟩; have n2_ : Aside0 (Below w.heap.size w wc) := ⟨by rw [← hq_]; exact (by repeat (first | (with_reducible first | exact HB.out | apply pw_below_drewN)))⟩; clear BK110 BK111 HB hq_; have BK110 := n0_; have BK111 := n1_; have HB := n2_; clear n0_ n1_ n2_)); have hnb43 := NB111_110.out; have hnc43 := NB110_111.out; have hcz44_0 : wc.cell? ⟨gb111, 0, none⟩ = some (.int .i64 t112) := (blk_cell BK111.out 0).trans rfl; have hcz44_1 : wc.cell? ⟨gb111, 1, none⟩ = some (.int .i64 x112001_12) := (blk_cell BK111.out 1).trans rfl; have hcz44_2 : wc.cell? ⟨gb111, 2, none⟩ = some (.int .u8 x112002_26) := (blk_cell BK111.out 2).trans rfl; have hcz44_3 : wc.cell? ⟨gb111, 3, none⟩ = some (.int .i64 0) := (blk_cell BK111.out 3).trans rfl; have hfz44_0 := blk_frozen BK111.out 0; have hfz44_1 := blk_frozen BK111.out 1; have hfz44_2 := blk_frozen BK111.out 2; have hfz44_3 := blk_frozen BK111.out 3) | ((with_reducible refine gate_callee (f := 136) rfl ?_); refine goesL_ (some 67) rfl rfl Tryz.func136 (by kernel_rfl) rfl #[.agg #[.int .i64 t112, .int .i64 x112001_12, .int .u8 x112002_26, .int .i64 (-1)]] rfl (by (try simp only [List.map_toArray, List.map_cons, List.map_nil]); first | rfl) ?_; (with_reducible refine (riposteref04_Text.calls kj26 t112 x112001_12 x112002_26 (-1) t118 t119 _ A40.out).mono ?_); rintro e w45 ⟨rfl, hb⟩; refine ⟨_, rfl, ?_⟩; have n0_ := am (blk_below (g := gb110) (o := .cells #[.int .i64 0, .int .i64 0, .int .u8 0, .int .i64 0] 52 (0, 0)) (by refine blk_far ?_ NB110_111.out _; refine blk_far ?_ NB110_111.out _; exact BK110.out) hb); have n1_ := am (blk_below (g := gb111) (o := .cells #[.int .i64 t112, .int .i64 x112001_12, .int .u8 x112002_26, .int .i64 (-1)] 52 (0, 0)) (by refine blk_put (cs := #[.int .i64 t112, .int .i64 x112001_12, .int .u8 x112002_26, .int .i64 t116]) ?_ 3 _ rfl; refine blk_put (cs := #[.int .i64 t112, .int .i64 x112001_12, .int .u8 x112002_26, .int .i64 0]) ?_ 3 _ rfl; exact BK111.out) hb); have n2_ := am (below_step (by repeat (first | (with_reducible first | exact HB.out | refine below_set ?_ GE111.out))) hb); clear BK110; clear BK111; clear HB; have BK110 := n0_; have BK111 := n1_; have HB := n2_; clear n0_ n1_ n2_; (try clear hb); (try clear hb2); (try clear hk); (try clear hi); have hcz46_0 : w45.cell? ⟨gb111, 0, none⟩ = some (.int .i64 t112) := (blk_cell BK111.out 0).trans rfl; have hcz46_1 : w45.cell? ⟨gb111, 1, none⟩ = some (.int .i64 x112001_12) := (blk_cell BK111.out 1).trans rfl; have hcz46_2 : w45.cell? ⟨gb111, 2, none⟩ = some (.int .u8 x112002_26) := (blk_cell BK111.out 2).trans rfl; have hcz46_3 : w45.cell? ⟨gb111, 3, none⟩ = some (.int .i64 (-1)) := (blk_cell BK111.out 3).trans rfl; have hfz46_0 := blk_frozen BK111.out 0; have hfz46_1 := blk_frozen BK111.out 1; have hfz46_2 := blk_frozen BK111.out 2; have hfz46_3 := blk_frozen BK111.out 3; have hcz47_0 : w45.cell? ⟨gb110, 0, none⟩ = some (.int .i64 0) := (blk_cell BK110.out 0).trans rfl; have hcz47_1 : w45.cell? ⟨gb110, 1, none⟩ = some (.int .i64 0) := (blk_cell BK110.out 1).trans rfl; have hcz47_2 : w45.cell? ⟨gb110, 2, none⟩ = some (.int .u8 0) := (blk_cell BK110.out 2).trans rfl; have hcz47_3 : w45.cell? ⟨gb110, 3, none⟩ = some (.int .i64 0) := (blk_cell BK110.out 3).trans rfl; have hfz47_0 := blk_frozen BK110.out 0; have hfz47_1 := blk_frozen BK110.out 1; have hfz47_2 := blk_frozen BK110.out 2; have hfz47_3 := blk_frozen BK110.out 3))
              refine bodyPost_ret (results_ct rfl _ _ gb110 52 #[.int .i64 t112, .int .i64 x112001_12, .int .u8 x112002_26, .int .i64 (-1)] (0, 0) _ rfl (by refine blk_put (cs := #[.int .i64 t112, .int .i64 x112001_12, .int .u8 x112002_26, .int .i64 0]) ?_ 3 _ rfl; refine blk_put (cs := #[.int .i64 t112, .int .i64 x112001_12, .int .u8 0, .int .i64 0]) ?_ 2 _ rfl; refine blk_put (cs := #[.int .i64 t112, .int .i64 0, .int .u8 0, .int .i64 0]) ?_ 1 _ rfl; refine blk_put (cs := #[.int .i64 0, .int .i64 0, .int .u8 0, .int .i64 0]) ?_ 0 _ rfl; exact BK110.out) Tryz.underlying52 rfl (by kernel_rfl)) rfl ?_
              exact ⟨by first | rfl, by repeat (first | (with_reducible first | exact HB.out | refine below_set ?_ GE110.out))⟩
             rw [if_neg c42] at H
             have c42b0 : (t118.toList == a0.toList) = false := beq_eq_false_iff_ne.mpr c42
             have c42b1 : (t118.toList != a0.toList) = true := bne_iff_ne.mpr c42
             simp only [Option.some.injEq, Prod.mk.injEq] at H
             obtain ⟨rfl, rfl, rfl, rfl, rfl⟩ := H
             go_wp2_with (first | ((with_reducible refine gate_callee (f := 135) rfl ?_); refine goesL_ (some 58) rfl rfl Tryz.func135 (by kernel_rfl) rfl #[.string (x5_12.extract 1 x5_12.size)] rfl (by (try simp only [List.map_toArray, List.map_cons, List.map_nil]); first | rfl) ?_; (with_reducible refine (riposteref04_Digits.calls kj26 (x5_12.extract 1 x5_12.size) t116 t117 _ A38.out).mono ?_); rintro e w' ⟨rfl, ⟨nd, rfl⟩⟩; refine ⟨_, rfl, ?_⟩; (try (rw [drewN_self wc]; generalize hq_ : World.drewN wc _ = wc; have n0_ : Aside0 (wc.heap[gb110]? = some (.cells #[.int .i64 0, .int .i64 0, .int .u8 0, .int .i64 0] 52 (0, 0))) := ⟨by rw [← hq_]; exact (by (with_reducible repeat (first | refine blk_drewN ?_ _)); exact BK110.out)⟩; have n1_ : Aside0 (wc.heap[gb111]? = some (.cells #[.int .i64 t112, .int .i64 x112001_12, .int .u8 x112002_26, .int .i64 0] 52 (0, 0))) := ⟨by rw [← hq_]; exact (by (with_reducible repeat (first | refine blk_drewN ?_ _)); exact BK111.out)⟩; have n2_ : Aside0 (Below w.heap.size w wc) := ⟨by rw [← hq_]; exact (by repeat (first | (with_reducible first | exact HB.out | apply pw_below_drewN)))⟩; clear BK110 BK111 HB hq_; have BK110 := n0_; have BK111 := n1_; have HB := n2_; clear n0_ n1_ n2_)); have hnb48 := NB111_110.out; have hnc48 := NB110_111.out; have hcz49_0 : wc.cell? ⟨gb111, 0, none⟩ = some (.int .i64 t112) := (blk_cell BK111.out 0).trans rfl; have hcz49_1 : wc.cell? ⟨gb111, 1, none⟩ = some (.int .i64 x112001_12) := (blk_cell BK111.out 1).trans rfl; have hcz49_2 : wc.cell? ⟨gb111, 2, none⟩ = some (.int .u8 x112002_26) := (blk_cell BK111.out 2).trans rfl; have hcz49_3 : wc.cell? ⟨gb111, 3, none⟩ = some (.int .i64 0) := (blk_cell BK111.out 3).trans rfl; have hfz49_0 := blk_frozen BK111.out 0; have hfz49_1 := blk_frozen BK111.out 1; have hfz49_2 := blk_frozen BK111.out 2; have hfz49_3 := blk_frozen BK111.out 3) | ((with_reducible refine gate_callee (f := 136) rfl ?_); refine goesL_ (some 67) rfl rfl Tryz.func136 (by kernel_rfl) rfl #[.agg #[.int .i64 t112, .int .i64 x112001_12, .int .u8 x112002_26, .int .i64 (-1)]] rfl (by (try simp only [List.map_toArray, List.map_cons, List.map_nil]); first | rfl) ?_; (with_reducible refine (riposteref04_Text.calls kj26 t112 x112001_12 x112002_26 (-1) t118 t119 _ A40.out).mono ?_); rintro e w50 ⟨rfl, hb⟩; refine ⟨_, rfl, ?_⟩; have n0_ := am (blk_below (g := gb110) (o := .cells #[.int .i64 0, .int .i64 0, .int .u8 0, .int .i64 0] 52 (0, 0)) (by refine blk_far ?_ NB110_111.out _; refine blk_far ?_ NB110_111.out _; exact BK110.out) hb); have n1_ := am (blk_below (g := gb111) (o := .cells #[.int .i64 t112, .int .i64 x112001_12, .int .u8 x112002_26, .int .i64 (-1)] 52 (0, 0)) (by refine blk_put (cs := #[.int .i64 t112, .int .i64 x112001_12, .int .u8 x112002_26, .int .i64 t116]) ?_ 3 _ rfl; refine blk_put (cs := #[.int .i64 t112, .int .i64 x112001_12, .int .u8 x112002_26, .int .i64 0]) ?_ 3 _ rfl; exact BK111.out) hb); have n2_ := am (below_step (by repeat (first | (with_reducible first | exact HB.out | refine below_set ?_ GE111.out))) hb); clear BK110; clear BK111; clear HB; have BK110 := n0_; have BK111 := n1_; have HB := n2_; clear n0_ n1_ n2_; (try clear hb); (try clear hb2); (try clear hk); (try clear hi); have hcz51_0 : w50.cell? ⟨gb110, 0, none⟩ = some (.int .i64 0) := (blk_cell BK110.out 0).trans rfl; have hcz51_1 : w50.cell? ⟨gb110, 1, none⟩ = some (.int .i64 0) := (blk_cell BK110.out 1).trans rfl; have hcz51_2 : w50.cell? ⟨gb110, 2, none⟩ = some (.int .u8 0) := (blk_cell BK110.out 2).trans rfl; have hcz51_3 : w50.cell? ⟨gb110, 3, none⟩ = some (.int .i64 0) := (blk_cell BK110.out 3).trans rfl; have hfz51_0 := blk_frozen BK110.out 0; have hfz51_1 := blk_frozen BK110.out 1; have hfz51_2 := blk_frozen BK110.out 2; have hfz51_3 := blk_frozen BK110.out 3))
             refine bodyPost_ret (results_ct rfl _ _ gb110 52 #[.int .i64 0, .int .i64 0, .int .u8 0, .int .i64 0] (0, 0) _ rfl (by refine blk_put (cs := #[.int .i64 0, .int .i64 0, .int .u8 0, .int .i64 0]) ?_ 3 _ rfl; refine blk_put (cs := #[.int .i64 0, .int .i64 0, .int .u8 0, .int .i64 0]) ?_ 2 _ rfl; refine blk_put (cs := #[.int .i64 0, .int .i64 0, .int .u8 0, .int .i64 0]) ?_ 1 _ rfl; refine blk_put (cs := #[.int .i64 0, .int .i64 0, .int .u8 0, .int .i64 0]) ?_ 0 _ rfl; exact BK110.out) Tryz.underlying52 rfl (by kernel_rfl)) rfl ?_
             exact ⟨by first | rfl, by repeat (first | (with_reducible first | exact HB.out | refine below_set ?_ GE110.out))⟩
            rw [if_neg c41] at H
            have c41b0 : (t119 == 0) = false := beq_eq_false_iff_ne.mpr c41
            have c41b1 : (t119 != 0) = true := bne_iff_ne.mpr c41
            simp only [Option.some.injEq, Prod.mk.injEq] at H
            obtain ⟨rfl, rfl, rfl, rfl, rfl⟩ := H
            go_wp2_with (first | ((with_reducible refine gate_callee (f := 135) rfl ?_); refine goesL_ (some 58) rfl rfl Tryz.func135 (by kernel_rfl) rfl #[.string (x5_12.extract 1 x5_12.size)] rfl (by (try simp only [List.map_toArray, List.map_cons, List.map_nil]); first | rfl) ?_; (with_reducible refine (riposteref04_Digits.calls kj26 (x5_12.extract 1 x5_12.size) t116 t117 _ A38.out).mono ?_); rintro e w' ⟨rfl, ⟨nd, rfl⟩⟩; refine ⟨_, rfl, ?_⟩; (try (rw [drewN_self wc]; generalize hq_ : World.drewN wc _ = wc; have n0_ : Aside0 (wc.heap[gb110]? = some (.cells #[.int .i64 0, .int .i64 0, .int .u8 0, .int .i64 0] 52 (0, 0))) := ⟨by rw [← hq_]; exact (by (with_reducible repeat (first | refine blk_drewN ?_ _)); exact BK110.out)⟩; have n1_ : Aside0 (wc.heap[gb111]? = some (.cells #[.int .i64 t112, .int .i64 x112001_12, .int .u8 x112002_26, .int .i64 0] 52 (0, 0))) := ⟨by rw [← hq_]; exact (by (with_reducible repeat (first | refine blk_drewN ?_ _)); exact BK111.out)⟩; have n2_ : Aside0 (Below w.heap.size w wc) := ⟨by rw [← hq_]; exact (by repeat (first | (with_reducible first | exact HB.out | apply pw_below_drewN)))⟩; clear BK110 BK111 HB hq_; have BK110 := n0_; have BK111 := n1_; have HB := n2_; clear n0_ n1_ n2_)); have hnb52 := NB111_110.out; have hnc52 := NB110_111.out; have hcz53_0 : wc.cell? ⟨gb111, 0, none⟩ = some (.int .i64 t112) := (blk_cell BK111.out 0).trans rfl; have hcz53_1 : wc.cell? ⟨gb111, 1, none⟩ = some (.int .i64 x112001_12) := (blk_cell BK111.out 1).trans rfl; have hcz53_2 : wc.cell? ⟨gb111, 2, none⟩ = some (.int .u8 x112002_26) := (blk_cell BK111.out 2).trans rfl; have hcz53_3 : wc.cell? ⟨gb111, 3, none⟩ = some (.int .i64 0) := (blk_cell BK111.out 3).trans rfl; have hfz53_0 := blk_frozen BK111.out 0; have hfz53_1 := blk_frozen BK111.out 1; have hfz53_2 := blk_frozen BK111.out 2; have hfz53_3 := blk_frozen BK111.out 3) | ((with_reducible refine gate_callee (f := 136) rfl ?_); refine goesL_ (some 67) rfl rfl Tryz.func136 (by kernel_rfl) rfl #[.agg #[.int .i64 t112, .int .i64 x112001_12, .int .u8 x112002_26, .int .i64 (-1)]] rfl (by (try simp only [List.map_toArray, List.map_cons, List.map_nil]); first | rfl) ?_; (with_reducible refine (riposteref04_Text.calls kj26 t112 x112001_12 x112002_26 (-1) t118 t119 _ A40.out).mono ?_); rintro e w54 ⟨rfl, hb⟩; refine ⟨_, rfl, ?_⟩; have n0_ := am (blk_below (g := gb110) (o := .cells #[.int .i64 0, .int .i64 0, .int .u8 0, .int .i64 0] 52 (0, 0)) (by refine blk_far ?_ NB110_111.out _; refine blk_far ?_ NB110_111.out _; exact BK110.out) hb); have n1_ := am (blk_below (g := gb111) (o := .cells #[.int .i64 t112, .int .i64 x112001_12, .int .u8 x112002_26, .int .i64 (-1)] 52 (0, 0)) (by refine blk_put (cs := #[.int .i64 t112, .int .i64 x112001_12, .int .u8 x112002_26, .int .i64 t116]) ?_ 3 _ rfl; refine blk_put (cs := #[.int .i64 t112, .int .i64 x112001_12, .int .u8 x112002_26, .int .i64 0]) ?_ 3 _ rfl; exact BK111.out) hb); have n2_ := am (below_step (by repeat (first | (with_reducible first | exact HB.out | refine below_set ?_ GE111.out))) hb); clear BK110; clear BK111; clear HB; have BK110 := n0_; have BK111 := n1_; have HB := n2_; clear n0_ n1_ n2_; (try clear hb); (try clear hb2); (try clear hk); (try clear hi); have hcz55_0 : w54.cell? ⟨gb110, 0, none⟩ = some (.int .i64 0) := (blk_cell BK110.out 0).trans rfl; have hcz55_1 : w54.cell? ⟨gb110, 1, none⟩ = some (.int .i64 0) := (blk_cell BK110.out 1).trans rfl; have hcz55_2 : w54.cell? ⟨gb110, 2, none⟩ = some (.int .u8 0) := (blk_cell BK110.out 2).trans rfl; have hcz55_3 : w54.cell? ⟨gb110, 3, none⟩ = some (.int .i64 0) := (blk_cell BK110.out 3).trans rfl; have hfz55_0 := blk_frozen BK110.out 0; have hfz55_1 := blk_frozen BK110.out 1; have hfz55_2 := blk_frozen BK110.out 2; have hfz55_3 := blk_frozen BK110.out 3))
            refine bodyPost_ret (results_ct rfl _ _ gb110 52 #[.int .i64 0, .int .i64 0, .int .u8 0, .int .i64 0] (0, 0) _ rfl (by refine blk_put (cs := #[.int .i64 0, .int .i64 0, .int .u8 0, .int .i64 0]) ?_ 3 _ rfl; refine blk_put (cs := #[.int .i64 0, .int .i64 0, .int .u8 0, .int .i64 0]) ?_ 2 _ rfl; refine blk_put (cs := #[.int .i64 0, .int .i64 0, .int .u8 0, .int .i64 0]) ?_ 1 _ rfl; refine blk_put (cs := #[.int .i64 0, .int .i64 0, .int .u8 0, .int .i64 0]) ?_ 0 _ rfl; exact BK110.out) Tryz.underlying52 rfl (by kernel_rfl)) rfl ?_
            exact ⟨by first | rfl, by repeat (first | (with_reducible first | exact HB.out | refine below_set ?_ GE110.out))⟩
           rw [if_neg c39] at H
           have c39b0 : (x5_12.toList == ([33, 42] : List UInt8)) = false := beq_eq_false_iff_ne.mpr c39
           have c39b1 : (x5_12.toList != ([33, 42] : List UInt8)) = true := bne_iff_ne.mpr c39
           replace H := Option.bind_eq_some_iff.mp H
           obtain ⟨⟨t120, t121⟩, A560, H⟩ := H
           replace H : (if t121 = 0 then (if t120.toList = a0.toList then (some (t112, x112001_12, x112002_26, t116, 0)) else (some (0, 0, 0, 0, 4))) else (some (0, 0, 0, 0, 4))) = some (r1, r2, r3, r4, r5) := H
           have A56 := am A560
           clear A560
           by_cases c57 : t121 = 0
           ·rw [if_pos c57] at H
            have c57b0 : (t121 == 0) = true := beq_iff_eq.mpr c57
            have c57b1 : (t121 != 0) = false := bne_eq_false_iff_eq.mpr c57
            clear c57
            by_cases c58 : t120.toList = a0.toList
            ·rw [if_pos c58] at H
             have c58b0 : (t120.toList == a0.toList) = true := beq_iff_eq.mpr c58
             have c58b1 : (t120.toList != a0.toList) = false := bne_eq_false_iff_eq.mpr c58
             clear c58
             simp only [Option.some.injEq, Prod.mk.injEq] at H
             obtain ⟨rfl, rfl, rfl, rfl, rfl⟩ := H
             go_wp2_with (first | ((with_reducible refine gate_callee (f := 135) rfl ?_); refine goesL_ (some 58) rfl rfl Tryz.func135 (by kernel_rfl) rfl #[.string (x5_12.extract 1 x5_12.size)] rfl (by (try simp only [List.map_toArray, List.map_cons, List.map_nil]); first | rfl) ?_; (with_reducible refine (riposteref04_Digits.calls kj26 (x5_12.extract 1 x5_12.size) t116 t117 _ A38.out).mono ?_); rintro e w' ⟨rfl, ⟨nd, rfl⟩⟩; refine ⟨_, rfl, ?_⟩; (try (rw [drewN_self wc]; generalize hq_ : World.drewN wc _ = wc; have n0_ : Aside0 (wc.heap[gb110]? = some (.cells #[.int .i64 0, .int .i64 0, .int .u8 0, .int .i64 0] 52 (0, 0))) := ⟨by rw [← hq_]; exact (by (with_reducible repeat (first | refine blk_drewN ?_ _)); exact BK110.out)⟩; have n1_ : Aside0 (wc.heap[gb111]? = some (.cells #[.int .i64 t112, .int .i64 x112001_12, .int .u8 x112002_26, .int .i64 0] 52 (0, 0))) := ⟨by rw [← hq_]; exact (by (with_reducible repeat (first | refine blk_drewN ?_ _)); exact BK111.out)⟩; have n2_ : Aside0 (Below w.heap.size w wc) := ⟨by rw [← hq_]; exact (by repeat (first | (with_reducible first | exact HB.out | apply pw_below_drewN)))⟩; clear BK110 BK111 HB hq_; have BK110 := n0_; have BK111 := n1_; have HB := n2_; clear n0_ n1_ n2_)); have hnb59 := NB111_110.out; have hnc59 := NB110_111.out; have hcz60_0 : wc.cell? ⟨gb111, 0, none⟩ = some (.int .i64 t112) := (blk_cell BK111.out 0).trans rfl; have hcz60_1 : wc.cell? ⟨gb111, 1, none⟩ = some (.int .i64 x112001_12) := (blk_cell BK111.out 1).trans rfl; have hcz60_2 : wc.cell? ⟨gb111, 2, none⟩ = some (.int .u8 x112002_26) := (blk_cell BK111.out 2).trans rfl; have hcz60_3 : wc.cell? ⟨gb111, 3, none⟩ = some (.int .i64 0) := (blk_cell BK111.out 3).trans rfl; have hfz60_0 := blk_frozen BK111.out 0; have hfz60_1 := blk_frozen BK111.out 1; have hfz60_2 := blk_frozen BK111.out 2; have hfz60_3 := blk_frozen BK111.out 3) | ((with_reducible refine gate_callee (f := 136) rfl ?_); refine goesL_ (some 67) rfl rfl Tryz.func136 (by kernel_rfl) rfl #[.agg #[.int .i64 t112, .int .i64 x112001_12, .int .u8 x112002_26, .int .i64 t116]] rfl (by (try simp only [List.map_toArray, List.map_cons, List.map_nil]); first | rfl) ?_; (with_reducible refine (riposteref04_Text.calls kj26 t112 x112001_12 x112002_26 t116 t120 t121 _ A56.out).mono ?_); rintro e w61 ⟨rfl, hb⟩; refine ⟨_, rfl, ?_⟩; have n0_ := am (blk_below (g := gb110) (o := .cells #[.int .i64 0, .int .i64 0, .int .u8 0, .int .i64 0] 52 (0, 0)) (by refine blk_far ?_ NB110_111.out _; exact BK110.out) hb); have n1_ := am (blk_below (g := gb111) (o := .cells #[.int .i64 t112, .int .i64 x112001_12, .int .u8 x112002_26, .int .i64 t116] 52 (0, 0)) (by refine blk_put (cs := #[.int .i64 t112, .int .i64 x112001_12, .int .u8 x112002_26, .int .i64 0]) ?_ 3 _ rfl; exact BK111.out) hb); have n2_ := am (below_step (by repeat (first | (with_reducible first | exact HB.out | refine below_set ?_ GE111.out))) hb); clear BK110; clear BK111; clear HB; have BK110 := n0_; have BK111 := n1_; have HB := n2_; clear n0_ n1_ n2_; (try clear hb); (try clear hb2); (try clear hk); (try clear hi); have hcz62_0 : w61.cell? ⟨gb111, 0, none⟩ = some (.int .i64 t112) := (blk_cell BK111.out 0).trans rfl; have hcz62_1 : w61.cell? ⟨gb111, 1, none⟩ = some (.int .i64 x112001_12) := (blk_cell BK111.out 1).trans rfl; have hcz62_2 : w61.cell? ⟨gb111, 2, none⟩ = some (.int .u8 x112002_26) := (blk_cell BK111.out 2).trans rfl; have hcz62_3 : w61.cell? ⟨gb111, 3, none⟩ = some (.int .i64 t116) := (blk_cell BK111.out 3).trans rfl; have hfz62_0 := blk_frozen BK111.out 0; have hfz62_1 := blk_frozen BK111.out 1; have hfz62_2 := blk_frozen BK111.out 2; have hfz62_3 := blk_frozen BK111.out 3; have hcz63_0 : w61.cell? ⟨gb110, 0, none⟩ = some (.int .i64 0) := (blk_cell BK110.out 0).trans rfl; have hcz63_1 : w61.cell? ⟨gb110, 1, none⟩ = some (.int .i64 0) := (blk_cell BK110.out 1).trans rfl; have hcz63_2 : w61.cell? ⟨gb110, 2, none⟩ = some (.int .u8 0) := (blk_cell BK110.out 2).trans rfl; have hcz63_3 : w61.cell? ⟨gb110, 3, none⟩ = some (.int .i64 0) := (blk_cell BK110.out 3).trans rfl; have hfz63_0 := blk_frozen BK110.out 0; have hfz63_1 := blk_frozen BK110.out 1; have hfz63_2 := blk_frozen BK110.out 2; have hfz63_3 := blk_frozen BK110.out 3))
             refine bodyPost_ret (results_ct rfl _ _ gb110 52 #[.int .i64 t112, .int .i64 x112001_12, .int .u8 x112002_26, .int .i64 t116] (0, 0) _ rfl (by refine blk_put (cs := #[.int .i64 t112, .int .i64 x112001_12, .int .u8 x112002_26, .int .i64 0]) ?_ 3 _ rfl; refine blk_put (cs := #[.int .i64 t112, .int .i64 x112001_12, .int .u8 0, .int .i64 0]) ?_ 2 _ rfl; refine blk_put (cs := #[.int .i64 t112, .int .i64 0, .int .u8 0, .int .i64 0]) ?_ 1 _ rfl; refine blk_put (cs := #[.int .i64 0, .int .i64 0, .int .u8 0, .int .i64 0]) ?_ 0 _ rfl; exact BK110.out) Tryz.underlying52 rfl (by kernel_rfl)) rfl ?_
             exact ⟨by first | rfl, by repeat (first | (with_reducible first | exact HB.out | refine below_set ?_ GE110.out))⟩
            rw [if_neg c58] at H
            have c58b0 : (t120.toList == a0.toList) = false := beq_eq_false_iff_ne.mpr c58
            have c58b1 : (t120.toList != a0.toList) = true := bne_iff_ne.mpr c58
            simp only [Option.some.injEq, Prod.mk.injEq] at H
            obtain ⟨rfl, rfl, rfl, rfl, rfl⟩ := H
            go_wp2_with (first | ((with_reducible refine gate_callee (f := 135) rfl ?_); refine goesL_ (some 58) rfl rfl Tryz.func135 (by kernel_rfl) rfl #[.string (x5_12.extract 1 x5_12.size)] rfl (by (try simp only [List.map_toArray, List.map_cons, List.map_nil]); first | rfl) ?_; (with_reducible refine (riposteref04_Digits.calls kj26 (x5_12.extract 1 x5_12.size) t116 t117 _ A38.out).mono ?_); rintro e w' ⟨rfl, ⟨nd, rfl⟩⟩; refine ⟨_, rfl, ?_⟩; (try (rw [drewN_self wc]; generalize hq_ : World.drewN wc _ = wc; have n0_ : Aside0 (wc.heap[gb110]? = some (.cells #[.int .i64 0, .int .i64 0, .int .u8 0, .int .i64 0] 52 (0, 0))) := ⟨by rw [← hq_]; exact (by (with_reducible repeat (first | refine blk_drewN ?_ _)); exact BK110.out)⟩; have n1_ : Aside0 (wc.heap[gb111]? = some (.cells #[.int .i64 t112, .int .i64 x112001_12, .int .u8 x112002_26, .int .i64 0] 52 (0, 0))) := ⟨by rw [← hq_]; exact (by (with_reducible repeat (first | refine blk_drewN ?_ _)); exact BK111.out)⟩; have n2_ : Aside0 (Below w.heap.size w wc) := ⟨by rw [← hq_]; exact (by repeat (first | (with_reducible first | exact HB.out | apply pw_below_drewN)))⟩; clear BK110 BK111 HB hq_; have BK110 := n0_; have BK111 := n1_; have HB := n2_; clear n0_ n1_ n2_)); have hnb64 := NB111_110.out; have hnc64 := NB110_111.out; have hcz65_0 : wc.cell? ⟨gb111, 0, none⟩ = some (.int .i64 t112) := (blk_cell BK111.out 0).trans rfl; have hcz65_1 : wc.cell? ⟨gb111, 1, none⟩ = some (.int .i64 x112001_12) := (blk_cell BK111.out 1).trans rfl; have hcz65_2 : wc.cell? ⟨gb111, 2, none⟩ = some (.int .u8 x112002_26) := (blk_cell BK111.out 2).trans rfl; have hcz65_3 : wc.cell? ⟨gb111, 3, none⟩ = some (.int .i64 0) := (blk_cell BK111.out 3).trans rfl; have hfz65_0 := blk_frozen BK111.out 0; have hfz65_1 := blk_frozen BK111.out 1; have hfz65_2 := blk_frozen BK111.out 2; have hfz65_3 := blk_frozen BK111.out 3) | ((with_reducible refine gate_callee (f := 136) rfl ?_); refine goesL_ (some 67) rfl rfl Tryz.func136 (by kernel_rfl) rfl #[.agg #[.int .i64 t112, .int .i64 x112001_12, .int .u8 x112002_26, .int .i64 t116]] rfl (by (try simp only [List.map_toArray, List.map_cons, List.map_nil]); first | rfl) ?_; (with_reducible refine (riposteref04_Text.calls kj26 t112 x112001_12 x112002_26 t116 t120 t121 _ A56.out).mono ?_); rintro e w66 ⟨rfl, hb⟩; refine ⟨_, rfl, ?_⟩; have n0_ := am (blk_below (g := gb110) (o := .cells #[.int .i64 0, .int .i64 0, .int .u8 0, .int .i64 0] 52 (0, 0)) (by refine blk_far ?_ NB110_111.out _; exact BK110.out) hb); have n1_ := am (blk_below (g := gb111) (o := .cells #[.int .i64 t112, .int .i64 x112001_12, .int .u8 x112002_26, .int .i64 t116] 52 (0, 0)) (by refine blk_put (cs := #[.int .i64 t112, .int .i64 x112001_12, .int .u8 x112002_26, .int .i64 0]) ?_ 3 _ rfl; exact BK111.out) hb); have n2_ := am (below_step (by repeat (first | (with_reducible first | exact HB.out | refine below_set ?_ GE111.out))) hb); clear BK110; clear BK111; clear HB; have BK110 := n0_; have BK111 := n1_; have HB := n2_; clear n0_ n1_ n2_; (try clear hb); (try clear hb2); (try clear hk); (try clear hi); have hcz67_0 : w66.cell? ⟨gb110, 0, none⟩ = some (.int .i64 0) := (blk_cell BK110.out 0).trans rfl; have hcz67_1 : w66.cell? ⟨gb110, 1, none⟩ = some (.int .i64 0) := (blk_cell BK110.out 1).trans rfl; have hcz67_2 : w66.cell? ⟨gb110, 2, none⟩ = some (.int .u8 0) := (blk_cell BK110.out 2).trans rfl; have hcz67_3 : w66.cell? ⟨gb110, 3, none⟩ = some (.int .i64 0) := (blk_cell BK110.out 3).trans rfl; have hfz67_0 := blk_frozen BK110.out 0; have hfz67_1 := blk_frozen BK110.out 1; have hfz67_2 := blk_frozen BK110.out 2; have hfz67_3 := blk_frozen BK110.out 3))
            refine bodyPost_ret (results_ct rfl _ _ gb110 52 #[.int .i64 0, .int .i64 0, .int .u8 0, .int .i64 0] (0, 0) _ rfl (by refine blk_put (cs := #[.int .i64 0, .int .i64 0, .int .u8 0, .int .i64 0]) ?_ 3 _ rfl; refine blk_put (cs := #[.int .i64 0, .int .i64 0, .int .u8 0, .int .i64 0]) ?_ 2 _ rfl; refine blk_put (cs := #[.int .i64 0, .int .i64 0, .int .u8 0, .int .i64 0]) ?_ 1 _ rfl; refine blk_put (cs := #[.int .i64 0, .int .i64 0, .int .u8 0, .int .i64 0]) ?_ 0 _ rfl; exact BK110.out) Tryz.underlying52 rfl (by kernel_rfl)) rfl ?_
            exact ⟨by first | rfl, by repeat (first | (with_reducible first | exact HB.out | refine below_set ?_ GE110.out))⟩
           rw [if_neg c57] at H
           have c57b0 : (t121 == 0) = false := beq_eq_false_iff_ne.mpr c57
           have c57b1 : (t121 != 0) = true := bne_iff_ne.mpr c57
           simp only [Option.some.injEq, Prod.mk.injEq] at H
           obtain ⟨rfl, rfl, rfl, rfl, rfl⟩ := H
           go_wp2_with (first | ((with_reducible refine gate_callee (f := 135) rfl ?_); refine goesL_ (some 58) rfl rfl Tryz.func135 (by kernel_rfl) rfl #[.string (x5_12.extract 1 x5_12.size)] rfl (by (try simp only [List.map_toArray, List.map_cons, List.map_nil]); first | rfl) ?_; (with_reducible refine (riposteref04_Digits.calls kj26 (x5_12.extract 1 x5_12.size) t116 t117 _ A38.out).mono ?_); rintro e w' ⟨rfl, ⟨nd, rfl⟩⟩; refine ⟨_, rfl, ?_⟩; (try (rw [drewN_self wc]; generalize hq_ : World.drewN wc _ = wc; have n0_ : Aside0 (wc.heap[gb110]? = some (.cells #[.int .i64 0, .int .i64 0, .int .u8 0, .int .i64 0] 52 (0, 0))) := ⟨by rw [← hq_]; exact (by (with_reducible repeat (first | refine blk_drewN ?_ _)); exact BK110.out)⟩; have n1_ : Aside0 (wc.heap[gb111]? = some (.cells #[.int .i64 t112, .int .i64 x112001_12, .int .u8 x112002_26, .int .i64 0] 52 (0, 0))) := ⟨by rw [← hq_]; exact (by (with_reducible repeat (first | refine blk_drewN ?_ _)); exact BK111.out)⟩; have n2_ : Aside0 (Below w.heap.size w wc) := ⟨by rw [← hq_]; exact (by repeat (first | (with_reducible first | exact HB.out | apply pw_below_drewN)))⟩; clear BK110 BK111 HB hq_; have BK110 := n0_; have BK111 := n1_; have HB := n2_; clear n0_ n1_ n2_)); have hnb68 := NB111_110.out; have hnc68 := NB110_111.out; have hcz69_0 : wc.cell? ⟨gb111, 0, none⟩ = some (.int .i64 t112) := (blk_cell BK111.out 0).trans rfl; have hcz69_1 : wc.cell? ⟨gb111, 1, none⟩ = some (.int .i64 x112001_12) := (blk_cell BK111.out 1).trans rfl; have hcz69_2 : wc.cell? ⟨gb111, 2, none⟩ = some (.int .u8 x112002_26) := (blk_cell BK111.out 2).trans rfl; have hcz69_3 : wc.cell? ⟨gb111, 3, none⟩ = some (.int .i64 0) := (blk_cell BK111.out 3).trans rfl; have hfz69_0 := blk_frozen BK111.out 0; have hfz69_1 := blk_frozen BK111.out 1; have hfz69_2 := blk_frozen BK111.out 2; have hfz69_3 := blk_frozen BK111.out 3) | ((with_reducible refine gate_callee (f := 136) rfl ?_); refine goesL_ (some 67) rfl rfl Tryz.func136 (by kernel_rfl) rfl #[.agg #[.int .i64 t112, .int .i64 x112001_12, .int .u8 x112002_26, .int .i64 t116]] rfl (by (try simp only [List.map_toArray, List.map_cons, List.map_nil]); first | rfl) ?_; (with_reducible refine (riposteref04_Text.calls kj26 t112 x112001_12 x112002_26 t116 t120 t121 _ A56.out).mono ?_); rintro e w70 ⟨rfl, hb⟩; refine ⟨_, rfl, ?_⟩; have n0_ := am (blk_below (g := gb110) (o := .cells #[.int .i64 0, .int .i64 0, .int .u8 0, .int .i64 0] 52 (0, 0)) (by refine blk_far ?_ NB110_111.out _; exact BK110.out) hb); have n1_ := am (blk_below (g := gb111) (o := .cells #[.int .i64 t112, .int .i64 x112001_12, .int .u8 x112002_26, .int .i64 t116] 52 (0, 0)) (by refine blk_put (cs := #[.int .i64 t112, .int .i64 x112001_12, .int .u8 x112002_26, .int .i64 0]) ?_ 3 _ rfl; exact BK111.out) hb); have n2_ := am (below_step (by repeat (first | (with_reducible first | exact HB.out | refine below_set ?_ GE111.out))) hb); clear BK110; clear BK111; clear HB; have BK110 := n0_; have BK111 := n1_; have HB := n2_; clear n0_ n1_ n2_; (try clear hb); (try clear hb2); (try clear hk); (try clear hi); have hcz71_0 : w70.cell? ⟨gb110, 0, none⟩ = some (.int .i64 0) := (blk_cell BK110.out 0).trans rfl; have hcz71_1 : w70.cell? ⟨gb110, 1, none⟩ = some (.int .i64 0) := (blk_cell BK110.out 1).trans rfl; have hcz71_2 : w70.cell? ⟨gb110, 2, none⟩ = some (.int .u8 0) := (blk_cell BK110.out 2).trans rfl; have hcz71_3 : w70.cell? ⟨gb110, 3, none⟩ = some (.int .i64 0) := (blk_cell BK110.out 3).trans rfl; have hfz71_0 := blk_frozen BK110.out 0; have hfz71_1 := blk_frozen BK110.out 1; have hfz71_2 := blk_frozen BK110.out 2; have hfz71_3 := blk_frozen BK110.out 3))
           refine bodyPost_ret (results_ct rfl _ _ gb110 52 #[.int .i64 0, .int .i64 0, .int .u8 0, .int .i64 0] (0, 0) _ rfl (by refine blk_put (cs := #[.int .i64 0, .int .i64 0, .int .u8 0, .int .i64 0]) ?_ 3 _ rfl; refine blk_put (cs := #[.int .i64 0, .int .i64 0, .int .u8 0, .int .i64 0]) ?_ 2 _ rfl; refine blk_put (cs := #[.int .i64 0, .int .i64 0, .int .u8 0, .int .i64 0]) ?_ 1 _ rfl; refine blk_put (cs := #[.int .i64 0, .int .i64 0, .int .u8 0, .int .i64 0]) ?_ 0 _ rfl; exact BK110.out) Tryz.underlying52 rfl (by kernel_rfl)) rfl ?_
           exact ⟨by first | rfl, by repeat (first | (with_reducible first | exact HB.out | refine below_set ?_ GE110.out))⟩
          rw [if_neg c37] at H
          exact absurd H (by simp)
       rw [if_neg c25] at H
       exact absurd H (by simp)
  rw [if_neg c4] at H
  exact absurd H (by simp)
 rw [if_neg c3] at H
 exact absurd H (by simp)
end Go.Proofs.YtjgocihflhljeaaGreat.P
