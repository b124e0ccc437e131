/- What the claim's law needs, many texts in one (Dr). No conditions of its own. -/
import Derived.Test.YtjgocihflhljeaaGreatZl22
import Derived.Test.YtjgocihflhljeaaGreatZl23
import Derived.Test.YtjgocihflhljeaaGreatZl21
import Derived.BigGuard
set_option linter.unusedVariables false
set_option linter.unusedSimpArgs false
namespace Go.Proofs.YtjgocihflhljeaaGreat.P
open Go.RowKit Go.Shelf Go.Proofs.YtjgocihflhljeaaGreatW.PrintWords Go.Proofs.YtjgocihflhljeaaGreatW.PrintLast Go.Proofs.YtjgocihflhljeaaGreatW.PrintMore
attribute [local go_sem] Oper.semAt_some
theorem among_l0 (l : List Int) (n : Int) (hl : l.length ≤ 1000000) : ∀ (d i k : Nat), l.length - i = d → i ≤ l.length → d < k → riposteref05_Among.l0 k l n (i : Int) = some (decide (n ∈ l.drop i)) := by
 intro d
 induction d with
 | zero =>
  intro i k hd hi hk
  obtain ⟨k, rfl⟩ : ∃ k', k = k' + 1 := ⟨k - 1, by omega⟩
  rw [riposteref05_Among.l0, if_neg (by omega), List.drop_of_length_le (by omega)]
  rfl
 | succ d ih =>
  intro i k hd hi hk
  obtain ⟨k, rfl⟩ : ∃ k', k = k' + 1 := ⟨k - 1, by omega⟩
  have hil : i < l.length := by omega
  have e : rd l (i : Int) = l[i] := by unfold rd; rw [Int.toNat_natCast]; exact getD_get l _ i hil
  rw [riposteref05_Among.l0, if_pos (by omega), if_pos (by omega), e, List.drop_eq_getElem_cons hil, wrap_up hil hl, ih (i + 1) k (by omega) (by omega) (by omega)]
  by_cases h : l[i] = n
  ·rw [if_pos h, decide_eq_true (by rw [h]; exact mc)]
  rw [if_neg h]
  congr 1
  rw [decide_eq_decide, List.mem_cons]
  exact ⟨fun h1 => .inr h1, fun h1 => h1.resolve_left (fun h2 => h h2.symm)⟩
theorem among_f (l : List Int) (n : Int) (hl : l.length ≤ 1000000) : riposteref05_Among.f (l.length + 1) l n = some (decide (n ∈ l)) := among_l0 l n hl _ 0 _ rfl (Nat.zero_le _) (by omega)
section
variable {w W W' : World} {I : List (Option Addr × List S68)} {Y : List (Option Addr × List Mv)} {X : List (Option Addr × List Int)} {G : List (Nat × Array Value × TypeId)}
theorem Lw.viewV (h : Lw w W I Y X G) {A A1 : Option Addr} {c c1 : Nat} {ids : List S68} {l : List Mv} {V : List Int} (rc : Bool) (rn : Int) (jb : Bool) (hi : (A, ids) ∈ I) (hy : (A1, l) ∈ Y) (hl : l.length ≤ 1000000) (hE : viewE ids rc rn jb true l = 0) (hV : viewL (talkL ids rc rn jb l) = V) :
  Calls Tryz.prog 25 #[.agg #[.slice A ids.length c, .bool rc, .int .i64 rn, .bool jb], .slice A1 l.length c1] W fun e w' => ∃ B k, e = .returned (.tuple #[.slice B V.length k, .int .i64 0]) ∧ V.length ≤ k ∧ Lw w w' I Y ((B, V) :: X) G := by
 have hs := h.view (c := c) (c1 := c1) rc rn jb hi hy hl
 rw [hE, okL_ok _ rfl, hV] at hs
 exact hs
theorem Lw.justV (h : Lw w W I Y X G) {A A1 : Option Addr} {c c1 : Nat} {ids : List S68} {l : List Mv} {J : List Int} (rc : Bool) (rn : Int) (jb : Bool) (hi : (A, ids) ∈ I) (hy : (A1, l) ∈ Y) (hl : l.length ≤ 1000000) (hE : tellE ids rc rn jb l = 0) (hJ : (talkL ids rc rn jb l).just = J) :
  Calls Tryz.prog 40 #[.agg #[.slice A ids.length c, .bool rc, .int .i64 rn, .bool jb], .slice A1 l.length c1] W fun e w' => ∃ B k, e = .returned (.tuple #[.slice B J.length k, .int .i64 0]) ∧ J.length ≤ k ∧ Lw w w' I Y ((B, J) :: X) G := by
 have hs := h.justifiers (c := c) (c1 := c1) rc rn jb hi hy hl
 rw [hE, okL_ok _ rfl, hJ] at hs
 exact hs
theorem Lw.checkV (h : Lw w W I Y X G) {A A1 : Option Addr} {c c1 : Nat} {ids : List S68} {l : List Mv} (rc : Bool) (rn : Int) (jb : Bool) (hi : (A, ids) ∈ I) (hy : (A1, l) ∈ Y) (hl : l.length ≤ 1000000) (hE : tellE ids rc rn jb l = 0) :
  Calls Tryz.prog 18 #[.agg #[.slice A ids.length c, .bool rc, .int .i64 rn, .bool jb], .slice A1 l.length c1] W fun e w' => e = .returned (.tuple #[.int .i64 0, .int .i64 0]) ∧ Lw w w' I Y X G := by
 have hs := h.check (c := c) (c1 := c1) rc rn jb hi hy hl
 rw [tellAt_ok hE, hE] at hs
 exact hs
end
theorem among_true (Bv : Option Addr) (kv : Nat) (V : List Int) (z : Int) (w : World) (hr : Kd.C (Kd.int .i64) w Bv V.length V) (hk : V.length ≤ kv) (hl : V.length ≤ 1000000) (hz : z ∈ V) : Calls Tryz.prog 41 #[.slice Bv V.length kv, .int .i64 z] w fun e w' => e = .returned (.bool true) ∧ Below w.heap.size w w' :=
 (riposteref05_Among.calls (V.length + 1) Bv kv V z true w hr hk (by rw [among_f V z hl, decide_eq_true hz])).mono (by
  rintro e w' ⟨rfl, hd⟩
  obtain ⟨n, rfl⟩ := hd.out
  exact ⟨rfl, pw_below_drewN (Below.refl _ _) n⟩)
def rl : Bool → List Nat → List Bool
 | _, [] => []
 | x, n :: r => List.replicate n x ++ rl (!x) r
abbrev M (l : List Nat) : Array Bool := (rl true l).toArray
set_option maxRecDepth 8000 in
set_option maxHeartbeats 8000000 in
theorem playSeen_any (A : Option Addr) (c : Nat) (ids : List S68) (rc : Bool) (rn : Int) (jb : Bool) (A1 : Option Addr) (c1 : Nat) (l : List Mv) (w : World) (hr : Kd.C k68 w A ids.length ids) (hlc : ids.length ≤ c) (hr1 : Kd.C k52 w A1 l.length l) (hlc1 : l.length ≤ c1) :
  Calls Tryz.prog 10 #[.agg #[.slice A ids.length c, .bool rc, .int .i64 rn, .bool jb], .slice A1 l.length c1] w fun e w' => e = .returned (.bool true) ∧ Below w.heap.size w w' := by
 have H0 := am ((Lw.start hr hr1).new #[.slice A ids.length c, .bool rc, .int .i64 rn, .bool jb] 26)
 clear hr hr1
 cases ht : legalB ids rc rn jb l with
 | false =>
  have HT := am ht
  clear ht
  go_enter Tryz.func10, Tryz.ntmps10
  go_wp2_with (first
   | (go_at_call 30; refine (H0.out.legal rc rn jb mc mc hlc).mono ?_; rw [HT.out]; rintro e w1 ⟨rfl, h1⟩; have H1 := am h1; clear h1; have hg1 : w.heap.size < w1.heap.size := blk_lt (H1.out.g _ mc); have a0 : w1.cell? ⟨w.heap.size, 0, none⟩ = some (.slice A ids.length c) := H1.out.cell mc 0 rfl; have a1 : w1.cell? ⟨w.heap.size, 1, none⟩ = some (.bool rc) := H1.out.cell mc 1 rfl; have a2 : w1.cell? ⟨w.heap.size, 2, none⟩ = some (.int .i64 rn) := H1.out.cell mc 2 rfl; have a3 : w1.cell? ⟨w.heap.size, 3, none⟩ = some (.bool jb) := H1.out.cell mc 3 rfl)
   | (go_at_call 15; refine H1.out.awake.mono ?_; rintro e w2 ⟨rfl, h2⟩))
  go_ret
  exact ⟨rfl, h2.b⟩
 | true =>
  have HT := am ht
  obtain ⟨ht8', hl80, hE⟩ := legal_of ht
  have ht8 := am ht8'
  have hlx : l.length ≤ 1000000 := by omega
  by_cases hodd : l.length % 2 = 1
  ·have hev : (((l.length : Int) % 2) == 0) = false := beq_false_of_ne (by omega)
   have hev2 : (((l.length : Int).tmod 2) == 0) = false := by rw [Int.tmod_eq_emod_of_nonneg (by omega)]; exact hev
   obtain ⟨T, hT⟩ : ∃ T, talkL ids rc rn jb l = T := ⟨_, rfl⟩
   obtain ⟨V, S, f1, f2, f3, f4, f5, f6, f7, f8, f9, f10, f11, f12, f13⟩ := seen_facts hE hl80 hT hodd
   obtain ⟨U, hU⟩ : ∃ U, V.map T.mv = U := ⟨_, rfl⟩
   obtain ⟨J, hJ⟩ : ∃ J, T.just = J := ⟨_, rfl⟩
   obtain ⟨R, hR⟩ : ∃ R, (List.range V.length).map (fun x : Nat => (x : Int)) = R := ⟨_, rfl⟩
   have hul : U.length = V.length := by rw [← hU, List.length_map]
   have hrl : R.length = V.length := by rw [← hR]; simp
   have hvr : ∀ i : Nat, rd V (i : Int) = V.getD i 0 := fun i => by unfold rd; rw [Int.toNat_natCast]
   have hri : ∀ i : Nat, i < R.length → rd R (i : Int) = i := fun i hi => by
    unfold rd
    rw [Int.toNat_natCast, ← hR]
    simp [show i < V.length by omega]
   have hjr : ∀ i : Nat, rd J (i : Int) = T.jus i := fun i => by unfold rd Tk.jus; rw [Int.toNat_natCast, hJ]
   have hlr : ∀ (q : Nat) (hq : q < l.length), rd_T52 l (q : Int) = l[q] := fun q hq => by rw [rd_T52, Int.toNat_natCast]; exact getD_get l z52 q hq
   have HF := am (show ∀ i : Nat, i < V.length → ∃ q : Nat, q < l.length ∧ rd V (i : Int) = q ∧ isOB (rd_T52 l (q : Int)) = decide (i % 2 = 0) ∧ (i % 2 = 1 → rd J (q : Int) ∈ V) ∧ U.take (i + 1) = U.take i ++ [rd_T52 l (q : Int)] from fun i hi => by
    obtain ⟨q, hq, g1, g2, g3, g4⟩ := f8 i hi
    refine ⟨q, hq, by rw [hvr]; exact g1, by rw [hlr q hq]; exact g3, fun h => by rw [hjr]; exact g4 h, ?_⟩
    have hiu : i < U.length := by omega
    have e : U[i] = rd_T52 l (q : Int) := by
     rw [hlr q hq, ← g2, ← g1]
     subst hU
     rw [List.getElem_map, getD_get V 0 i hi]
    rw [List.take_succ_eq_append_getElem hiu, e])
   have HAS := am (show ∀ i : Nat, i + 1 < V.length → rd V (i : Int) < rd V ((i + 1 : Nat) : Int) from fun i hi => by rw [hvr, hvr]; exact f9 i hi)
   have HRI := am hri
   have HUL := am hul
   have HRL := am hrl
   have hj : J.length = l.length := by rw [← hJ]; exact f7
   have HJL := am hj
   have hjb : ((J.length : Int) != (l.length : Int)) = false := bne_eq_false_iff_eq.2 (by omega)
   have hub : ((R.length : Int) != (U.length : Int)) = false := bne_eq_false_iff_eq.2 (by omega)
   have hv0 : ((V.length : Int) == 0) = false := beq_false_of_ne (by omega)
   have hv1 : decide ((l.length : Int) < (V.length : Int)) = false := decide_eq_false (by omega)
   have hv2 : decide (l.length < V.length) = false := decide_eq_false (by omega)
   have hV80 : V.length ≤ 80 := by omega
   have hJ80 : J.length ≤ 80 := by omega
   have hU80 : U.length ≤ 80 := by omega
   have hR80 : R.length ≤ 80 := by omega
   have hUx : U.length ≤ 1000000 := by omega
   have hVx : V.length ≤ 1000000 := by omega
   rw [hU] at f10 f11 f12
   rw [hR] at f13
   have FS := am (And.intro hE (And.intro (show (talkL ids rc rn jb l).just = J by rw [hT, hJ]) (And.intro f2 (And.intro (show viewL (talkL ids rc rn jb l) = V by rw [hT]; exact f1) (And.intro f10 (And.intro f12 (show viewL (talkL ids rc rn jb U) = R by rw [f11]; exact f13)))))))
   have F56 := am (And.intro (show rd V ((0 : Nat) : Int) = 0 by rw [hvr]; exact f5) (show rd V ((V.length - 1 : Nat) : Int) = (l.length : Int) - 1 by rw [hvr]; exact f6))
   have hvp : 0 < V.length := f3
   have hvl : V.length ≤ l.length := f4
   clear ht ht8' hE hT f1 f2 f3 f4 f5 f6 f7 f8 f9 f10 f11 f12 f13 hU hJ hR hul hrl hvr hri hjr hlr hj hodd
   go_enter Tryz.func10, Tryz.ntmps10
   go_upto_region 3 with (go_at_call 30; refine (H0.out.legal rc rn jb mc mc hlc).mono ?_; rw [HT.out]; rintro e w1 ⟨rfl, h1⟩; have H1 := am h1; clear h1; have hg1 : w.heap.size < w1.heap.size := blk_lt (H1.out.g _ mc); have a0 : w1.cell? ⟨w.heap.size, 0, none⟩ = some (.slice A ids.length c) := H1.out.cell mc 0 rfl; have a1 : w1.cell? ⟨w.heap.size, 1, none⟩ = some (.bool rc) := H1.out.cell mc 1 rfl; have a2 : w1.cell? ⟨w.heap.size, 2, none⟩ = some (.int .i64 rn) := H1.out.cell mc 2 rfl; have a3 : w1.cell? ⟨w.heap.size, 3, none⟩ = some (.bool jb) := H1.out.cell mc 3 rfl)
   go_upto_region 4 with (first
    | (go_at_call 16; refine (H1.out.copyA rc rn jb mc hlc ht8.out).mono ?_; rintro e wa ⟨Ba, ka, rfl, hka, ha⟩; have Ha := am ha; clear ha)
    | (go_at_call 17; refine (Ha.out.copyW mc hlc1 hlx).mono ?_; rintro e wb ⟨Bb, kb, rfl, hkb, hb⟩; have Hb := am hb; clear hb)
    | (go_at_call 25; refine (Hb.out.viewV rc rn jb mc mc hlx FS.out.2.2.1 FS.out.2.2.2.1).mono ?_; rintro e w3 ⟨Bv, kv, rfl, hkv, h3⟩; have H3 := am h3.popi.popy; clear h3 Ha Hb))
   clear a0 a1 a2 a3 hg1 H1 H0
   have hg3 : w.heap.size < w3.heap.size := blk_lt (H3.out.g _ mc)
   have a0 : w3.cell? ⟨w.heap.size, 0, none⟩ = some (.slice A ids.length c) := H3.out.cell mc 0 rfl; have a1 : w3.cell? ⟨w.heap.size, 1, none⟩ = some (.bool rc) := H3.out.cell mc 1 rfl; have a2 : w3.cell? ⟨w.heap.size, 2, none⟩ = some (.int .i64 rn) := H3.out.cell mc 2 rfl; have a3 : w3.cell? ⟨w.heap.size, 3, none⟩ = some (.bool jb) := H3.out.cell mc 3 rfl
   go_upto_region 5 with (first
    | (go_at_call 16; refine (H3.out.copyA rc rn jb mc hlc ht8.out).mono ?_; rintro e wa ⟨Ba, ka, rfl, hka, ha⟩; have Ha := am ha; clear ha)
    | (go_at_call 17; refine (Ha.out.copyW mc hlc1 hlx).mono ?_; rintro e wb ⟨Bb, kb, rfl, hkb, hb⟩; have Hb := am hb; clear hb)
    | (go_at_call 40; refine (Hb.out.justV rc rn jb mc mc hlx FS.out.1 FS.out.2.1).mono ?_; rintro e w4 ⟨Bj, kj, rfl, hkj, h4⟩; have H4 := am h4.popi.popy; clear h4 Ha Hb))
   clear a0 a1 a2 a3 hg3 H3
   go_cut [85] (fun x85 wx => x85 = .bool false ∧ Aside0 (Lw w wx [(A, ids)] [(A1, l)] [(Bj, J), (Bv, V)] [(w.heap.size, #[.slice A ids.length c, .bool rc, .int .i64 rn, .bool jb], 26)]))
   case first =>
    obtain ⟨jj, hjj⟩ : ∃ jj : Nat, V.length - 1 = jj := ⟨_, rfl⟩
    obtain ⟨ll, hll⟩ : ∃ ll : Nat, l.length - 1 = ll := ⟨_, rfl⟩
    have f6 := F56.out.2
    have f5 := F56.out.1
    rw [hjj] at f6
    obtain ⟨ad, e0, v0⟩ := Kd.at_int (H4.out.x _ (List.mem_cons_of_mem _ mc)) ((0 : Nat) : Int) (by omega) (show ((0 : Nat) : Int) < (V.length : Int) by omega)
    cases e0
    obtain ⟨ad2, e0, v1⟩ := Kd.at_int (H4.out.x _ (List.mem_cons_of_mem _ mc)) (jj : Int) (by omega) (show (jj : Int) < (V.length : Int) by omega)
    cases e0
    rw [Int.toNat_natCast, f5] at v0
    rw [Int.toNat_natCast, f6, show (l.length : Int) - 1 = (ll : Int) by omega] at v1
    have hv0z : ad.add 0 = ad := by cases ad; rfl
    rw [hv0z] at v0
    have w1j : wrap64 ((V.length : Int) - 1) = (jj : Int) := by rw [wrap_in (by omega) (by omega)]; omega
    have w1l : wrap64 ((l.length : Int) - 1) = (ll : Int) := by rw [wrap_in (by omega) (by omega)]; omega
    have w2j : (V.length : Int) - 1 = (jj : Int) := by omega
    have w2l : (l.length : Int) - 1 = (ll : Int) := by omega
    have cj : decide (jj < V.length) = true := decide_eq_true (by omega)
    have cv : decide (0 < V.length) = true := decide_eq_true hvp
    clear f5 f6 hjj hll
    go_wp2_with fail
    go_meet
    case rel => exact ⟨rfl, H4⟩
   case rest =>
    obtain ⟨rfl, H5⟩ := hcut
    clear H4
    obtain ⟨w5, hw5⟩ : ∃ u, u = wc := ⟨wc, rfl⟩
    subst hw5
    go_wp2_with fail
    go_loopg [9, 10] V.length (fun gg s9 s10 wr => ∃ (kk : Nat) (xs : List Mv), kk ≤ V.length ∧ V.length - kk ≤ gg ∧ s10 = .int .i64 kk ∧ Aside0 (xs = U.take kk) ∧ xs.length ≤ kk ∧ (∃ A2 c2, s9 = .slice A2 xs.length c2) ∧ Aside0 (RM wr w5.heap.size s9 xs) ∧ Aside0 (Below w5.heap.size w5 wr))
    case atStart => exact ⟨0, [], Nat.zero_le _, by omega, rfl, ⟨rfl⟩, Nat.le_refl _, ⟨_, _, rfl⟩, ⟨Kd.R_nil _ _ _ _ _⟩, ⟨Below.refl _ _⟩⟩
    case round =>
     obtain ⟨kk, xs, hkk, hg, rfl, HX, hxl, ⟨A2, c2, rfl⟩, HR2, BW⟩ := hrel
     have hsr := BW.out.size
     have HW := am (H5.out.below BW.out)
     by_cases hlt : kk < V.length
     ·have cb : decide ((kk : Int) < (V.length : Int)) = true := decide_eq_true (by omega)
      have cbn : decide (kk < V.length) = true := decide_eq_true hlt
      obtain ⟨q, hq, hvq, hoq, hjq, htq⟩ := HF.out kk hlt
      generalize hx : rd_T52 l (q : Int) = x at *
      have HTQ := am htq
      have HOQ := am hoq
      have HJQ := am hjq
      have HHX := am hx
      have HVQ := am hvq
      clear htq hoq hjq hx
      have cq2 : decide (q < l.length) = true := decide_eq_true hq
      go_upto_region 11 with fail
      go_cut [152] (fun x152 wx => x152 = .bool false ∧ Aside0 (Below wr.heap.size wr wx))
      case first =>
       obtain ⟨adv, e0, v0⟩ := Kd.at_int (HW.out.x _ (List.mem_cons_of_mem _ mc)) (kk : Int) (by omega) (show (kk : Int) < (V.length : Int) by omega)
       have HVX := am (HW.out.x _ (List.mem_cons_of_mem _ mc))
       have HJX := am (HW.out.x _ mc)
       cases e0
       obtain ⟨adl, e0, m0, m1, m2, m3⟩ := at_T52 (HW.out.y _ mc) (q : Int) (by omega) (show (q : Int) < (l.length : Int) by omega)
       cases e0
       rw [Int.toNat_natCast] at v0 m0 m1 m2 m3
       rw [hvq] at v0
       rw [HHX.out] at m0 m1 m2 m3
       have cq0 : decide ((q : Int) < 0) = false := decide_eq_false (by omega)
       have cq1 : decide ((l.length : Int) ≤ (q : Int)) = false := decide_eq_false (by omega)
       have cq3 : decide (l.length ≤ q) = false := decide_eq_false (by omega)
       have cq4 : decide ((q : Int) < (l.length : Int)) = true := decide_eq_true (by omega)
       by_cases he : kk % 2 = 0
       ·have ce : ((kk : Int).tmod 2 == 0) = true := by rw [Int.tmod_eq_emod_of_nonneg (by omega)]; exact beq_iff_eq.2 (by omega)
        have co : ((kk : Int).tmod 2 == 1) = false := by rw [Int.tmod_eq_emod_of_nonneg (by omega)]; exact beq_false_of_ne (by omega)
        have HMO := am (HOQ.out.trans (decide_eq_true he))
        by_cases hk0 : kk = 0
        ·have cp : decide ((0 : Int) < (kk : Int)) = false := decide_eq_false (by omega)
         have cp2 : decide (0 < kk) = false := decide_eq_false (by omega)
         clear hk0 hvq he
         go_upto_region 11 with fail
         have HDR := am ((Below.refl wr.heap.size wr).drew)
         refine start_ (n := 61) (S := fun w' => w'.cell? (adv.add kk) = some (.int .i64 (q : Int)) ∧ w'.cell? (adl.add (q * 4)) = some (.int .i64 x.f0) ∧ w'.cell? ⟨(adl.add (q * 4)).block, (adl.add (q * 4)).off + 1, none⟩ = some (.int .i64 x.f1) ∧ w'.cell? ⟨(adl.add (q * 4)).block, (adl.add (q * 4)).off + 2, none⟩ = some (.int .u8 x.f2) ∧ w'.cell? ⟨(adl.add (q * 4)).block, (adl.add (q * 4)).off + 3, none⟩ = some (.int .i64 x.f3)) (ds := []) (M [0,61]) (by as_aux_lemma => kernel_rfl) rfl rfl ⟨pw_cell_below HDR.out v0, pw_cell_below HDR.out m0, pw_cell_below HDR.out m1, pw_cell_below HDR.out m2, pw_cell_below HDR.out m3⟩ (fun hHeld => ?_)
         generalize wr.drew = wd2 at HDR hHeld ⊢
         refine pure_ (i := 0) (N:=some 92) (v:=?_) (a':=?_) (M [1,60]) rfl rfl (by as_aux_lemma => kernel_rfl) (fun _ _ _ h => h) (Or.inl ⟨by rfl, ?_⟩) ?_ ?_;rotate_left;(intro w';go_simp;with_reducible rfl);rotate_left;(simp only [Act.put,sn1,sn2,sn3,i64_w];rfl)
         refine pure_ (i := 1) (N:=some 93) (v:=?_) (a':=?_) (M [2,59]) rfl rfl (by as_aux_lemma => kernel_rfl) (fun _ _ _ h => h) (Or.inl ⟨by rfl, ?_⟩) ?_ ?_;rotate_left;(intro w';go_simp;with_reducible rfl);rotate_left;(simp only [Act.put,sn1,sn2,sn3,i64_w];rfl)
         refine pure_ (i := 2) (N:=some 94) (v:=?_) (a':=?_) (M [3,58]) rfl rfl (by as_aux_lemma => kernel_rfl) (fun _ _ _ h => h) (Or.inl ⟨by rfl, ?_⟩) ?_ ?_;rotate_left;(intro w';go_simp;with_reducible rfl);rotate_left;(simp only [Act.put,sn1,sn2,sn3,i64_w];rfl)
         refine take_ (i := 3) (N:=some 95) (v:=?_) (a':=?_) (M [4,57]) rfl rfl (by as_aux_lemma => kernel_rfl) (fun _ _ _ h => h) (Or.inl ⟨by rfl, ?_⟩) hHeld ?_ ?_
         rotate_left
         ·rintro w' ⟨s0, s1, s2, s3, s4⟩
          go_simp
          with_reducible rfl
         rotate_left
         ·simp only [Act.put,sn1,sn2,sn3,i64_w]
          rfl
         refine pure_ (i := 4) (N:=some 96) (v:=?_) (a':=?_) (M [5,56]) rfl rfl (by as_aux_lemma => kernel_rfl) (fun _ _ _ h => h) (Or.inl ⟨by rfl, ?_⟩) ?_ ?_;rotate_left;(intro w';go_simp;with_reducible rfl);rotate_left;(simp only [Act.put,sn1,sn2,sn3,i64_w];rfl)
         refine pure_ (i := 5) (N:=some 97) (v:=?_) (a':=?_) (M [6,55]) rfl rfl (by as_aux_lemma => kernel_rfl) (fun _ _ _ h => h) (Or.inl ⟨by rfl, ?_⟩) ?_ ?_;rotate_left;(intro w';go_simp;with_reducible rfl);rotate_left;(simp only [Act.put,sn1,sn2,sn3,i64_w];rfl)
         refine pure_ (i := 6) (N:=some 98) (v:=?_) (a':=?_) (M [7,54]) rfl rfl (by as_aux_lemma => kernel_rfl) (fun _ _ _ h => h) (Or.inl ⟨by rfl, ?_⟩) ?_ ?_;rotate_left;(intro w';go_simp;with_reducible rfl);rotate_left;(simp only [Act.put,sn1,sn2,sn3,i64_w];rfl)
         refine pure_ (i := 7) (N:=some 99) (v:=?_) (a':=?_) (M [8,53]) rfl rfl (by as_aux_lemma => kernel_rfl) (fun _ _ _ h => h) (Or.inl ⟨by rfl, ?_⟩) ?_ ?_;rotate_left;(intro w';go_simp;with_reducible rfl);rotate_left;(simp only [Act.put,sn1,sn2,sn3,i64_w];rfl)
         refine pure_ (i := 8) (N:=some 100) (v:=?_) (a':=?_) (M [9,52]) rfl rfl (by as_aux_lemma => kernel_rfl) (fun _ _ _ h => h) (Or.inl ⟨by rfl, ?_⟩) ?_ ?_;rotate_left;(intro w';go_simp;with_reducible rfl);rotate_left;(simp only [Act.put,sn1,sn2,sn3,i64_w];rfl)
         refine pure_ (i := 10) (N:=some 102) (v:=?_) (a':=?_) (M [9,1,1,50]) rfl rfl (by as_aux_lemma => kernel_rfl) (fun _ _ _ h => h) (Or.inl ⟨by rfl, ?_⟩) ?_ ?_;rotate_left;(intro w';go_simp;with_reducible rfl);rotate_left;(simp only [Act.put,sn1,sn2,sn3,i64_w];rfl)
         refine pure_ (i := 11) (N:=some 103) (v:=?_) (a':=?_) (M [9,1,2,49]) rfl rfl (by as_aux_lemma => kernel_rfl) (fun _ _ _ h => h) (Or.inl ⟨by rfl, ?_⟩) ?_ ?_;rotate_left;(intro w';go_simp;with_reducible rfl);rotate_left;(simp only [Act.put,sn1,sn2,sn3,i64_w];rfl)
         refine take_ (i := 9) (N:=some 101) (v:=?_) (a':=?_) (M [12,49]) rfl rfl (by as_aux_lemma => kernel_rfl) (fun _ _ _ h => h) (Or.inl ⟨by rfl, ?_⟩) hHeld ?_ ?_
         rotate_left
         ·rintro w' ⟨s0, s1, s2, s3, s4⟩
          go_simp
          with_reducible rfl
         rotate_left
         ·simp only [Act.put,sn1,sn2,sn3,i64_w]
          rfl
         refine pure_ (i := 12) (N:=some 104) (v:=?_) (a':=?_) (M [13,48]) rfl rfl (by as_aux_lemma => kernel_rfl) (fun _ _ _ h => h) (Or.inl ⟨by rfl, ?_⟩) ?_ ?_;rotate_left;(intro w';go_simp;with_reducible rfl);rotate_left;(simp only [Act.put,sn1,sn2,sn3,i64_w];rfl)
         refine pure_ (i := 13) (N:=some 105) (v:=?_) (a':=?_) (M [14,47]) rfl rfl (by as_aux_lemma => kernel_rfl) (fun _ _ _ h => h) (Or.inl ⟨by rfl, ?_⟩) ?_ ?_;rotate_left;(intro w';go_simp;with_reducible rfl);rotate_left;(simp only [Act.put,sn1,sn2,sn3,i64_w];rfl)
         refine pure_ (i := 14) (N:=some 106) (v:=?_) (a':=?_) (M [15,46]) rfl rfl (by as_aux_lemma => kernel_rfl) (fun _ _ _ h => h) (Or.inl ⟨by rfl, ?_⟩) ?_ ?_;rotate_left;(intro w';go_simp;with_reducible rfl);rotate_left;(simp only [Act.put,sn1,sn2,sn3,i64_w];rfl)
         refine pure_ (i := 15) (N:=some 107) (v:=?_) (a':=?_) (M [16,45]) rfl rfl (by as_aux_lemma => kernel_rfl) (fun _ _ _ h => h) (Or.inl ⟨by rfl, ?_⟩) ?_ ?_;rotate_left;(intro w';go_simp;with_reducible rfl);rotate_left;(simp only [Act.put,sn1,sn2,sn3,i64_w];rfl)
         refine pure_ (i := 16) (N:=some 108) (v:=?_) (a':=?_) (M [17,44]) rfl rfl (by as_aux_lemma => kernel_rfl) (fun _ _ _ h => h) (Or.inl ⟨by rfl, ?_⟩) ?_ ?_;rotate_left;(intro w';go_simp;with_reducible rfl);rotate_left;(simp only [Act.put,sn1,sn2,sn3,i64_w];rfl)
         refine pure_ (i := 17) (N:=some 109) (v:=?_) (a':=?_) (M [18,43]) rfl rfl (by as_aux_lemma => kernel_rfl) (fun _ _ _ h => h) (Or.inl ⟨by rfl, ?_⟩) ?_ ?_;rotate_left;(intro w';go_simp;with_reducible rfl);rotate_left;(simp only [Act.put,sn1,sn2,sn3,i64_w];rfl)
         refine pure_ (i := 18) (N:=some 110) (v := undef) (a' := ?_) (M [19,42]) rfl rfl (by as_aux_lemma => kernel_rfl) (fun _ _ _ h => h) (Or.inr ⟨by rfl, rfl⟩) ?_ ?_
         rotate_left
         ·simp only [Act.put,sn1,sn2,sn3,i64_w]
          rfl
         refine pure_ (i := 19) (N:=some 111) (v := undef) (a' := ?_) (M [20,41]) rfl rfl (by as_aux_lemma => kernel_rfl) (fun _ _ _ h => h) (Or.inr ⟨by rfl, rfl⟩) ?_ ?_
         rotate_left
         ·simp only [Act.put,sn1,sn2,sn3,i64_w]
          rfl
         refine pure_ (i := 20) (N:=some 112) (v := undef) (a' := ?_) (M [21,40]) rfl rfl (by as_aux_lemma => kernel_rfl) (fun _ _ _ h => h) (Or.inr ⟨by rfl, rfl⟩) ?_ ?_
         rotate_left
         ·simp only [Act.put,sn1,sn2,sn3,i64_w]
          rfl
         refine pure_ (i := 21) (N:=some 113) (v := undef) (a' := ?_) (M [22,39]) rfl rfl (by as_aux_lemma => kernel_rfl) (fun _ _ _ h => h) (Or.inr ⟨by rfl, rfl⟩) ?_ ?_
         rotate_left
         ·simp only [Act.put,sn1,sn2,sn3,i64_w]
          rfl
         refine pure_ (i := 22) (N:=some 114) (v := undef) (a' := ?_) (M [23,38]) rfl rfl (by as_aux_lemma => kernel_rfl) (fun _ _ _ h => h) (Or.inr ⟨by rfl, rfl⟩) ?_ ?_
         rotate_left
         ·simp only [Act.put,sn1,sn2,sn3,i64_w]
          rfl
         refine pure_ (i := 23) (N:=some 115) (v := undef) (a' := ?_) (M [24,37]) rfl rfl (by as_aux_lemma => kernel_rfl) (fun _ _ _ h => h) (Or.inr ⟨by rfl, rfl⟩) ?_ ?_
         rotate_left
         ·simp only [Act.put,sn1,sn2,sn3,i64_w]
          rfl
         refine pure_ (i := 24) (N:=some 116) (v := undef) (a' := ?_) (M [25,36]) rfl rfl (by as_aux_lemma => kernel_rfl) (fun _ _ _ h => h) (Or.inr ⟨by rfl, rfl⟩) ?_ ?_
         rotate_left
         ·simp only [Act.put,sn1,sn2,sn3,i64_w]
          rfl
         refine pure_ (i := 25) (N:=some 117) (v := undef) (a' := ?_) (M [26,35]) rfl rfl (by as_aux_lemma => kernel_rfl) (fun _ _ _ h => h) (Or.inr ⟨by rfl, rfl⟩) ?_ ?_
         rotate_left
         ·simp only [Act.put,sn1,sn2,sn3,i64_w]
          rfl
         refine pure_ (i := 26) (N:=some 118) (v := undef) (a' := ?_) (M [27,34]) rfl rfl (by as_aux_lemma => kernel_rfl) (fun _ _ _ h => h) (Or.inr ⟨by rfl, rfl⟩) ?_ ?_
         rotate_left
         ·simp only [Act.put,sn1,sn2,sn3,i64_w]
          rfl
         refine pure_ (i := 27) (N:=some 119) (v := undef) (a' := ?_) (M [28,33]) rfl rfl (by as_aux_lemma => kernel_rfl) (fun _ _ _ h => h) (Or.inr ⟨by rfl, rfl⟩) ?_ ?_
         rotate_left
         ·simp only [Act.put,sn1,sn2,sn3,i64_w]
          rfl
         refine pure_ (i := 28) (N:=some 120) (v:=?_) (a':=?_) (M [29,32]) rfl rfl (by as_aux_lemma => kernel_rfl) (fun _ _ _ h => h) (Or.inl ⟨by rfl, ?_⟩) ?_ ?_;rotate_left;(intro w';go_simp;with_reducible rfl);rotate_left;(simp only [Act.put,sn1,sn2,sn3,i64_w];rfl)
         refine pure_ (i := 29) (N:=some 121) (v:=?_) (a':=?_) (M [30,31]) rfl rfl (by as_aux_lemma => kernel_rfl) (fun _ _ _ h => h) (Or.inl ⟨by rfl, ?_⟩) ?_ ?_;rotate_left;(intro w';go_simp;with_reducible rfl);rotate_left;(simp only [Act.put,sn1,sn2,sn3,i64_w];rfl)
         refine pure_ (i := 30) (N:=some 122) (v:=?_) (a':=?_) (M [31,30]) rfl rfl (by as_aux_lemma => kernel_rfl) (fun _ _ _ h => h) (Or.inl ⟨by rfl, ?_⟩) ?_ ?_;rotate_left;(intro w';go_simp;with_reducible rfl);rotate_left;(simp only [Act.put,sn1,sn2,sn3,i64_w];rfl)
         refine pure_ (i := 31) (N:=some 123) (v:=?_) (a':=?_) (M [32,29]) rfl rfl (by as_aux_lemma => kernel_rfl) (fun _ _ _ h => h) (Or.inl ⟨by rfl, ?_⟩) ?_ ?_;rotate_left;(intro w';go_simp;with_reducible rfl);rotate_left;(simp only [Act.put,sn1,sn2,sn3,i64_w];rfl)
         refine pure_ (i := 32) (N:=some 124) (v:=?_) (a':=?_) (M [33,28]) rfl rfl (by as_aux_lemma => kernel_rfl) (fun _ _ _ h => h) (Or.inl ⟨by rfl, ?_⟩) ?_ ?_;rotate_left;(intro w';go_simp;with_reducible rfl);rotate_left;(simp only [Act.put,sn1,sn2,sn3,i64_w];rfl)
         refine pure_ (i := 33) (N:=some 125) (v:=?_) (a':=?_) (M [34,27]) rfl rfl (by as_aux_lemma => kernel_rfl) (fun _ _ _ h => h) (Or.inl ⟨by rfl, ?_⟩) ?_ ?_;rotate_left;(intro w';go_simp;with_reducible rfl);rotate_left;(simp only [Act.put,sn1,sn2,sn3,i64_w];rfl)
         refine pure_ (i := 34) (N:=some 126) (v:=?_) (a':=?_) (M [35,26]) rfl rfl (by as_aux_lemma => kernel_rfl) (fun _ _ _ h => h) (Or.inl ⟨by rfl, ?_⟩) ?_ ?_;rotate_left;(intro w';go_simp;with_reducible rfl);rotate_left;(simp only [Act.put,sn1,sn2,sn3,i64_w];rfl)
         refine pure_ (i := 39) (N:=some 131) (v:=?_) (a':=?_) (M [35,4,1,21]) rfl rfl (by as_aux_lemma => kernel_rfl) (fun _ _ _ h => h) (Or.inl ⟨by rfl, ?_⟩) ?_ ?_;rotate_left;(intro w';go_simp;with_reducible rfl);rotate_left;(simp only [Act.put,sn1,sn2,sn3,i64_w];rfl)
         refine pure_ (i := 40) (N:=some 132) (v:=?_) (a':=?_) (M [35,4,2,20]) rfl rfl (by as_aux_lemma => kernel_rfl) (fun _ _ _ h => h) (Or.inl ⟨by rfl, ?_⟩) ?_ ?_;rotate_left;(intro w';go_simp;with_reducible rfl);rotate_left;(simp only [Act.put,sn1,sn2,sn3,i64_w];rfl)
         refine pure_ (i := 41) (N:=some 133) (v:=?_) (a':=?_) (M [35,4,3,19]) rfl rfl (by as_aux_lemma => kernel_rfl) (fun _ _ _ h => h) (Or.inl ⟨by rfl, ?_⟩) ?_ ?_;rotate_left;(intro w';go_simp;with_reducible rfl);rotate_left;(simp only [Act.put,sn1,sn2,sn3,i64_w];rfl)
         refine take_ (i := 35) (N:=some 127) (v:=?_) (a':=?_) (M [36,3,3,19]) rfl rfl (by as_aux_lemma => kernel_rfl) (fun _ _ _ h => h) (Or.inl ⟨by rfl, ?_⟩) hHeld ?_ ?_
         rotate_left
         ·rintro w' ⟨s0, s1, s2, s3, s4⟩
          go_simp
          with_reducible rfl
         rotate_left
         ·simp only [Act.put,sn1,sn2,sn3,i64_w]
          rfl
         refine pure_ (i := 36) (N:=some 128) (v:=?_) (a':=?_) (M [37,2,3,19]) rfl rfl (by as_aux_lemma => kernel_rfl) (fun _ _ _ h => h) (Or.inl ⟨by rfl, ?_⟩) ?_ ?_;rotate_left;(intro w';go_simp;with_reducible rfl);rotate_left;(simp only [Act.put,sn1,sn2,sn3,i64_w];rfl)
         refine take_ (i := 37) (N:=some 129) (v:=?_) (a':=?_) (M [38,1,3,19]) rfl rfl (by as_aux_lemma => kernel_rfl) (fun _ _ _ h => h) (Or.inl ⟨by rfl, ?_⟩) hHeld ?_ ?_
         rotate_left
         ·rintro w' ⟨s0, s1, s2, s3, s4⟩
          go_simp
          with_reducible rfl
         rotate_left
         ·simp only [Act.put,sn1,sn2,sn3,i64_w]
          rfl
         refine one_ (i := 38) (N:=some 130) (M [42,19]) rfl rfl (by as_aux_lemma => kernel_rfl) (by decide) (fun K hK => ?_)
         refine goes_ Tryz.func34 (by as_aux_lemma => kernel_rfl) rfl #[.agg #[.int .i64 x.f0, .int .i64 x.f1, .int .u8 x.f2, .int .i64 x.f3]] (by rfl) rfl rfl (by simp only [List.map_toArray, List.map_cons, List.map_nil]; rfl) ?_
         with_reducible refine (rIsOther_eq x _ HMO.out wd2).mono ?_
         rintro e w13 ⟨rfl, hb13⟩
         refine ⟨_, rfl, ?_⟩
         have HDR2 := am (HDR.out.trans (hb13.mono HDR.out.size))
         refine hK.out _ _ ⟨pw_cell_below HDR2.out v0, pw_cell_below HDR2.out m0, pw_cell_below HDR2.out m1, pw_cell_below HDR2.out m2, pw_cell_below HDR2.out m3⟩ (fun hHeld => ?_)
         clear hK K
         refine norm_ (a' := ?_) ?_ ?_
         rotate_left
         ·show Act.put _ (some 130) _ = _
          simp only [Act.put,sn1,sn2,sn3,i64_w]
          rfl
         refine pure_ (i := 42) (N:=some 134) (v:=?_) (a':=?_) (M [43,18]) rfl rfl (by as_aux_lemma => kernel_rfl) (fun _ _ _ h => h) (Or.inl ⟨by rfl, ?_⟩) ?_ ?_;rotate_left;(intro w';go_simp;with_reducible rfl);rotate_left;(simp only [Act.put,sn1,sn2,sn3,i64_w];rfl)
         refine pure_ (i := 43) (N:=some 135) (v:=?_) (a':=?_) (M [44,17]) rfl rfl (by as_aux_lemma => kernel_rfl) (fun _ _ _ h => h) (Or.inl ⟨by rfl, ?_⟩) ?_ ?_;rotate_left;(intro w';go_simp;with_reducible rfl);rotate_left;(simp only [Act.put,sn1,sn2,sn3,i64_w];rfl)
         refine pure_ (i := 44) (N:=some 136) (v:=?_) (a':=?_) (M [45,16]) rfl rfl (by as_aux_lemma => kernel_rfl) (fun _ _ _ h => h) (Or.inl ⟨by rfl, ?_⟩) ?_ ?_;rotate_left;(intro w';go_simp;with_reducible rfl);rotate_left;(simp only [Act.put,sn1,sn2,sn3,i64_w];rfl)
         refine pure_ (i := 45) (N:=some 137) (v:=?_) (a':=?_) (M [46,15]) rfl rfl (by as_aux_lemma => kernel_rfl) (fun _ _ _ h => h) (Or.inl ⟨by rfl, ?_⟩) ?_ ?_;rotate_left;(intro w';go_simp;with_reducible rfl);rotate_left;(simp only [Act.put,sn1,sn2,sn3,i64_w];rfl)
         refine pure_ (i := 46) (N:=some 138) (v:=?_) (a':=?_) (M [47,14]) rfl rfl (by as_aux_lemma => kernel_rfl) (fun _ _ _ h => h) (Or.inl ⟨by rfl, ?_⟩) ?_ ?_;rotate_left;(intro w';go_simp;with_reducible rfl);rotate_left;(simp only [Act.put,sn1,sn2,sn3,i64_w];rfl)
         refine pure_ (i := 47) (N:=some 139) (v:=?_) (a':=?_) (M [48,13]) rfl rfl (by as_aux_lemma => kernel_rfl) (fun _ _ _ h => h) (Or.inl ⟨by rfl, ?_⟩) ?_ ?_;rotate_left;(intro w';go_simp;with_reducible rfl);rotate_left;(simp only [Act.put,sn1,sn2,sn3,i64_w];rfl)
         refine pure_ (i := 48) (N:=some 140) (v:=?_) (a':=?_) (M [49,12]) rfl rfl (by as_aux_lemma => kernel_rfl) (fun _ _ _ h => h) (Or.inl ⟨by rfl, ?_⟩) ?_ ?_;rotate_left;(intro w';go_simp;with_reducible rfl);rotate_left;(simp only [Act.put,sn1,sn2,sn3,i64_w];rfl)
         refine pure_ (i := 49) (N:=some 141) (v := undef) (a' := ?_) (M [50,11]) rfl rfl (by as_aux_lemma => kernel_rfl) (fun _ _ _ h => h) (Or.inr ⟨by rfl, rfl⟩) ?_ ?_
         rotate_left
         ·simp only [Act.put,sn1,sn2,sn3,i64_w]
          rfl
         refine pure_ (i := 50) (N:=some 142) (v := undef) (a' := ?_) (M [51,10]) rfl rfl (by as_aux_lemma => kernel_rfl) (fun _ _ _ h => h) (Or.inr ⟨by rfl, rfl⟩) ?_ ?_
         rotate_left
         ·simp only [Act.put,sn1,sn2,sn3,i64_w]
          rfl
         refine pure_ (i := 51) (N:=some 143) (v := undef) (a' := ?_) (M [52,9]) rfl rfl (by as_aux_lemma => kernel_rfl) (fun _ _ _ h => h) (Or.inr ⟨by rfl, rfl⟩) ?_ ?_
         rotate_left
         ·simp only [Act.put,sn1,sn2,sn3,i64_w]
          rfl
         refine pure_ (i := 52) (N:=some 144) (v := undef) (a' := ?_) (M [53,8]) rfl rfl (by as_aux_lemma => kernel_rfl) (fun _ _ _ h => h) (Or.inr ⟨by rfl, rfl⟩) ?_ ?_
         rotate_left
         ·simp only [Act.put,sn1,sn2,sn3,i64_w]
          rfl
         refine pure_ (i := 53) (N:=some 145) (v := undef) (a' := ?_) (M [54,7]) rfl rfl (by as_aux_lemma => kernel_rfl) (fun _ _ _ h => h) (Or.inr ⟨by rfl, rfl⟩) ?_ ?_
         rotate_left
         ·simp only [Act.put,sn1,sn2,sn3,i64_w]
          rfl
         refine pure_ (i := 54) (N:=some 146) (v := undef) (a' := ?_) (M [55,6]) rfl rfl (by as_aux_lemma => kernel_rfl) (fun _ _ _ h => h) (Or.inr ⟨by rfl, rfl⟩) ?_ ?_
         rotate_left
         ·simp only [Act.put,sn1,sn2,sn3,i64_w]
          rfl
         refine pure_ (i := 55) (N:=some 147) (v := undef) (a' := ?_) (M [56,5]) rfl rfl (by as_aux_lemma => kernel_rfl) (fun _ _ _ h => h) (Or.inr ⟨by rfl, rfl⟩) ?_ ?_
         rotate_left
         ·simp only [Act.put,sn1,sn2,sn3,i64_w]
          rfl
         refine pure_ (i := 56) (N:=some 148) (v := undef) (a' := ?_) (M [57,4]) rfl rfl (by as_aux_lemma => kernel_rfl) (fun _ _ _ h => h) (Or.inr ⟨by rfl, rfl⟩) ?_ ?_
         rotate_left
         ·simp only [Act.put,sn1,sn2,sn3,i64_w]
          rfl
         refine pure_ (i := 57) (N:=some 149) (v := undef) (a' := ?_) (M [58,3]) rfl rfl (by as_aux_lemma => kernel_rfl) (fun _ _ _ h => h) (Or.inr ⟨by rfl, rfl⟩) ?_ ?_
         rotate_left
         ·simp only [Act.put,sn1,sn2,sn3,i64_w]
          rfl
         refine pure_ (i := 58) (N:=some 150) (v := undef) (a' := ?_) (M [59,2]) rfl rfl (by as_aux_lemma => kernel_rfl) (fun _ _ _ h => h) (Or.inr ⟨by rfl, rfl⟩) ?_ ?_
         rotate_left
         ·simp only [Act.put,sn1,sn2,sn3,i64_w]
          rfl
         refine pure_ (i := 59) (N:=some 151) (v:=?_) (a':=?_) (M [60,1]) rfl rfl (by as_aux_lemma => kernel_rfl) (fun _ _ _ h => h) (Or.inl ⟨by rfl, ?_⟩) ?_ ?_;rotate_left;(intro w';go_simp;with_reducible rfl);rotate_left;(simp only [Act.put,sn1,sn2,sn3,i64_w];rfl)
         refine pure_ (i := 60) (N:=some 152) (v:=?_) (a':=?_) (M [61]) rfl rfl (by as_aux_lemma => kernel_rfl) (fun _ _ _ h => h) (Or.inl ⟨by rfl, ?_⟩) ?_ ?_;rotate_left;(intro w';go_simp;with_reducible rfl);rotate_left;(simp only [Act.put,sn1,sn2,sn3,i64_w];rfl)
         refine done_ (by as_aux_lemma => kernel_rfl) ?_
         go_wp2_with fail
         go_meet
         case rel => exact ⟨rfl, HDR2⟩
        have hk1 := hk0
        clear hk1
        obtain ⟨jj, hjj⟩ : ∃ jj : Nat, jj + 1 = kk := ⟨kk - 1, by omega⟩
        have hjw3 : wrap64 ((kk : Int) - 1) = (jj : Int) := by rw [wrap_in (by omega) (by omega)]; omega
        have hjl : jj < V.length := by omega
        have hasc := HAS.out jj (by omega)
        rw [hjj, hvq] at hasc
        obtain ⟨ad9, e0, v1⟩ := Kd.at_int HVX.out (jj : Int) (by omega) (show (jj : Int) < (V.length : Int) by omega)
        cases e0
        rw [Int.toNat_natCast] at v1
        generalize rd V (jj : Int) = p at *
        have cqp : decide ((q : Int) ≤ p) = false := decide_eq_false (by omega)
        have cjn : decide (jj < V.length) = true := decide_eq_true hjl
        have cjz : decide ((jj : Int) < (V.length : Int)) = true := decide_eq_true (by omega)
        have cp : decide ((0 : Int) < (kk : Int)) = true := decide_eq_true (by omega)
        have cp2 : decide (0 < kk) = true := decide_eq_true (by omega)
        clear hasc hjj
        clear hk0 hvq he
        go_upto_region 11 with fail
        have HDR := am ((Below.refl wr.heap.size wr).drew)
        refine start_ (n := 61) (S := fun w' => w'.cell? (adv.add kk) = some (.int .i64 (q : Int)) ∧ w'.cell? (adl.add (q * 4)) = some (.int .i64 x.f0) ∧ w'.cell? ⟨(adl.add (q * 4)).block, (adl.add (q * 4)).off + 1, none⟩ = some (.int .i64 x.f1) ∧ w'.cell? ⟨(adl.add (q * 4)).block, (adl.add (q * 4)).off + 2, none⟩ = some (.int .u8 x.f2) ∧ w'.cell? ⟨(adl.add (q * 4)).block, (adl.add (q * 4)).off + 3, none⟩ = some (.int .i64 x.f3) ∧ w'.cell? (adv.add jj) = some (.int .i64 p)) (ds := []) (M [0,61]) (by as_aux_lemma => kernel_rfl) rfl rfl ⟨pw_cell_below HDR.out v0, pw_cell_below HDR.out m0, pw_cell_below HDR.out m1, pw_cell_below HDR.out m2, pw_cell_below HDR.out m3, pw_cell_below HDR.out v1⟩ (fun hHeld => ?_)
        generalize wr.drew = wd2 at HDR hHeld ⊢
        refine pure_ (i := 0) (N:=some 92) (v:=?_) (a':=?_) (M [1,60]) rfl rfl (by as_aux_lemma => kernel_rfl) (fun _ _ _ h => h) (Or.inl ⟨by rfl, ?_⟩) ?_ ?_;rotate_left;(intro w';go_simp;with_reducible rfl);rotate_left;(simp only [Act.put,sn1,sn2,sn3,i64_w];rfl)
        refine pure_ (i := 1) (N:=some 93) (v:=?_) (a':=?_) (M [2,59]) rfl rfl (by as_aux_lemma => kernel_rfl) (fun _ _ _ h => h) (Or.inl ⟨by rfl, ?_⟩) ?_ ?_;rotate_left;(intro w';go_simp;with_reducible rfl);rotate_left;(simp only [Act.put,sn1,sn2,sn3,i64_w];rfl)
        refine pure_ (i := 2) (N:=some 94) (v:=?_) (a':=?_) (M [3,58]) rfl rfl (by as_aux_lemma => kernel_rfl) (fun _ _ _ h => h) (Or.inl ⟨by rfl, ?_⟩) ?_ ?_;rotate_left;(intro w';go_simp;with_reducible rfl);rotate_left;(simp only [Act.put,sn1,sn2,sn3,i64_w];rfl)
        refine take_ (i := 3) (N:=some 95) (v:=?_) (a':=?_) (M [4,57]) rfl rfl (by as_aux_lemma => kernel_rfl) (fun _ _ _ h => h) (Or.inl ⟨by rfl, ?_⟩) hHeld ?_ ?_
        rotate_left
        ·rintro w' ⟨s0, s1, s2, s3, s4, s5⟩
         go_simp
         with_reducible rfl
        rotate_left
        ·simp only [Act.put,sn1,sn2,sn3,i64_w]
         rfl
        refine pure_ (i := 4) (N:=some 96) (v:=?_) (a':=?_) (M [5,56]) rfl rfl (by as_aux_lemma => kernel_rfl) (fun _ _ _ h => h) (Or.inl ⟨by rfl, ?_⟩) ?_ ?_;rotate_left;(intro w';go_simp;with_reducible rfl);rotate_left;(simp only [Act.put,sn1,sn2,sn3,i64_w];rfl)
        refine pure_ (i := 5) (N:=some 97) (v:=?_) (a':=?_) (M [6,55]) rfl rfl (by as_aux_lemma => kernel_rfl) (fun _ _ _ h => h) (Or.inl ⟨by rfl, ?_⟩) ?_ ?_;rotate_left;(intro w';go_simp;with_reducible rfl);rotate_left;(simp only [Act.put,sn1,sn2,sn3,i64_w];rfl)
        refine pure_ (i := 6) (N:=some 98) (v:=?_) (a':=?_) (M [7,54]) rfl rfl (by as_aux_lemma => kernel_rfl) (fun _ _ _ h => h) (Or.inl ⟨by rfl, ?_⟩) ?_ ?_;rotate_left;(intro w';go_simp;with_reducible rfl);rotate_left;(simp only [Act.put,sn1,sn2,sn3,i64_w];rfl)
        refine pure_ (i := 7) (N:=some 99) (v:=?_) (a':=?_) (M [8,53]) rfl rfl (by as_aux_lemma => kernel_rfl) (fun _ _ _ h => h) (Or.inl ⟨by rfl, ?_⟩) ?_ ?_;rotate_left;(intro w';go_simp;with_reducible rfl);rotate_left;(simp only [Act.put,sn1,sn2,sn3,i64_w];rfl)
        refine pure_ (i := 8) (N:=some 100) (v:=?_) (a':=?_) (M [9,52]) rfl rfl (by as_aux_lemma => kernel_rfl) (fun _ _ _ h => h) (Or.inl ⟨by rfl, ?_⟩) ?_ ?_;rotate_left;(intro w';go_simp;with_reducible rfl);rotate_left;(simp only [Act.put,sn1,sn2,sn3,i64_w];rfl)
        refine pure_ (i := 10) (N:=some 102) (v:=?_) (a':=?_) (M [9,1,1,50]) rfl rfl (by as_aux_lemma => kernel_rfl) (fun _ _ _ h => h) (Or.inl ⟨by rfl, ?_⟩) ?_ ?_;rotate_left;(intro w';go_simp;with_reducible rfl);rotate_left;(simp only [Act.put,sn1,sn2,sn3,i64_w];rfl)
        refine pure_ (i := 11) (N:=some 103) (v:=?_) (a':=?_) (M [9,1,2,49]) rfl rfl (by as_aux_lemma => kernel_rfl) (fun _ _ _ h => h) (Or.inl ⟨by rfl, ?_⟩) ?_ ?_;rotate_left;(intro w';go_simp;with_reducible rfl);rotate_left;(simp only [Act.put,sn1,sn2,sn3,i64_w];rfl)
        refine take_ (i := 9) (N:=some 101) (v:=?_) (a':=?_) (M [12,49]) rfl rfl (by as_aux_lemma => kernel_rfl) (fun _ _ _ h => h) (Or.inl ⟨by rfl, ?_⟩) hHeld ?_ ?_
        rotate_left
        ·rintro w' ⟨s0, s1, s2, s3, s4, s5⟩
         go_simp
         with_reducible rfl
        rotate_left
        ·simp only [Act.put,sn1,sn2,sn3,i64_w]
         rfl
        refine pure_ (i := 12) (N:=some 104) (v:=?_) (a':=?_) (M [13,48]) rfl rfl (by as_aux_lemma => kernel_rfl) (fun _ _ _ h => h) (Or.inl ⟨by rfl, ?_⟩) ?_ ?_;rotate_left;(intro w';go_simp;with_reducible rfl);rotate_left;(simp only [Act.put,sn1,sn2,sn3,i64_w];rfl)
        refine pure_ (i := 13) (N:=some 105) (v:=?_) (a':=?_) (M [14,47]) rfl rfl (by as_aux_lemma => kernel_rfl) (fun _ _ _ h => h) (Or.inl ⟨by rfl, ?_⟩) ?_ ?_;rotate_left;(intro w';go_simp;with_reducible rfl);rotate_left;(simp only [Act.put,sn1,sn2,sn3,i64_w];rfl)
        refine pure_ (i := 14) (N:=some 106) (v:=?_) (a':=?_) (M [15,46]) rfl rfl (by as_aux_lemma => kernel_rfl) (fun _ _ _ h => h) (Or.inl ⟨by rfl, ?_⟩) ?_ ?_;rotate_left;(intro w';go_simp;with_reducible rfl);rotate_left;(simp only [Act.put,sn1,sn2,sn3,i64_w];rfl)
        refine pure_ (i := 15) (N:=some 107) (v:=?_) (a':=?_) (M [16,45]) rfl rfl (by as_aux_lemma => kernel_rfl) (fun _ _ _ h => h) (Or.inl ⟨by rfl, ?_⟩) ?_ ?_;rotate_left;(intro w';go_simp;with_reducible rfl);rotate_left;(simp only [Act.put,sn1,sn2,sn3,i64_w];rfl)
        refine pure_ (i := 16) (N:=some 108) (v:=?_) (a':=?_) (M [17,44]) rfl rfl (by as_aux_lemma => kernel_rfl) (fun _ _ _ h => h) (Or.inl ⟨by rfl, ?_⟩) ?_ ?_;rotate_left;(intro w';go_simp;with_reducible rfl);rotate_left;(simp only [Act.put,sn1,sn2,sn3,i64_w];rfl)
        refine pure_ (i := 17) (N:=some 109) (v:=?_) (a':=?_) (M [18,43]) rfl rfl (by as_aux_lemma => kernel_rfl) (fun _ _ _ h => h) (Or.inl ⟨by rfl, ?_⟩) ?_ ?_;rotate_left;(intro w';go_simp;with_reducible rfl);rotate_left;(simp only [Act.put,sn1,sn2,sn3,i64_w];rfl)
        refine pure_ (i := 18) (N:=some 110) (v:=?_) (a':=?_) (M [19,42]) rfl rfl (by as_aux_lemma => kernel_rfl) (fun _ _ _ h => h) (Or.inl ⟨by rfl, ?_⟩) ?_ ?_;rotate_left;(intro w';go_simp;with_reducible rfl);rotate_left;(simp only [Act.put,sn1,sn2,sn3,i64_w];rfl)
        refine pure_ (i := 19) (N:=some 111) (v:=?_) (a':=?_) (M [20,41]) rfl rfl (by as_aux_lemma => kernel_rfl) (fun _ _ _ h => h) (Or.inl ⟨by rfl, ?_⟩) ?_ ?_;rotate_left;(intro w';go_simp;with_reducible rfl);rotate_left;(simp only [Act.put,sn1,sn2,sn3,i64_w];rfl)
        refine pure_ (i := 20) (N:=some 112) (v:=?_) (a':=?_) (M [21,40]) rfl rfl (by as_aux_lemma => kernel_rfl) (fun _ _ _ h => h) (Or.inl ⟨by rfl, ?_⟩) ?_ ?_;rotate_left;(intro w';go_simp;with_reducible rfl);rotate_left;(simp only [Act.put,sn1,sn2,sn3,i64_w];rfl)
        refine pure_ (i := 22) (N:=some 114) (v:=?_) (a':=?_) (M [21,1,1,38]) rfl rfl (by as_aux_lemma => kernel_rfl) (fun _ _ _ h => h) (Or.inl ⟨by rfl, ?_⟩) ?_ ?_;rotate_left;(intro w';go_simp;with_reducible rfl);rotate_left;(simp only [Act.put,sn1,sn2,sn3,i64_w];rfl)
        refine pure_ (i := 23) (N:=some 115) (v:=?_) (a':=?_) (M [21,1,2,37]) rfl rfl (by as_aux_lemma => kernel_rfl) (fun _ _ _ h => h) (Or.inl ⟨by rfl, ?_⟩) ?_ ?_;rotate_left;(intro w';go_simp;with_reducible rfl);rotate_left;(simp only [Act.put,sn1,sn2,sn3,i64_w];rfl)
        refine pure_ (i := 24) (N:=some 116) (v:=?_) (a':=?_) (M [21,1,3,36]) rfl rfl (by as_aux_lemma => kernel_rfl) (fun _ _ _ h => h) (Or.inl ⟨by rfl, ?_⟩) ?_ ?_;rotate_left;(intro w';go_simp;with_reducible rfl);rotate_left;(simp only [Act.put,sn1,sn2,sn3,i64_w];rfl)
        refine pure_ (i := 25) (N:=some 117) (v:=?_) (a':=?_) (M [21,1,4,35]) rfl rfl (by as_aux_lemma => kernel_rfl) (fun _ _ _ h => h) (Or.inl ⟨by rfl, ?_⟩) ?_ ?_;rotate_left;(intro w';go_simp;with_reducible rfl);rotate_left;(simp only [Act.put,sn1,sn2,sn3,i64_w];rfl)
        refine take_ (i := 21) (N:=some 113) (v:=?_) (a':=?_) (M [26,35]) rfl rfl (by as_aux_lemma => kernel_rfl) (fun _ _ _ h => h) (Or.inl ⟨by rfl, ?_⟩) hHeld ?_ ?_
        rotate_left
        ·rintro w' ⟨s0, s1, s2, s3, s4, s5⟩
         go_simp
         with_reducible rfl
        rotate_left
        ·simp only [Act.put,sn1,sn2,sn3,i64_w]
         rfl
        refine take_ (i := 26) (N:=some 118) (v:=?_) (a':=?_) (M [27,34]) rfl rfl (by as_aux_lemma => kernel_rfl) (fun _ _ _ h => h) (Or.inl ⟨by rfl, ?_⟩) hHeld ?_ ?_
        rotate_left
        ·rintro w' ⟨s0, s1, s2, s3, s4, s5⟩
         go_simp
         with_reducible rfl
        rotate_left
        ·simp only [Act.put,sn1,sn2,sn3,i64_w]
         rfl
        refine pure_ (i := 27) (N:=some 119) (v:=?_) (a':=?_) (M [28,33]) rfl rfl (by as_aux_lemma => kernel_rfl) (fun _ _ _ h => h) (Or.inl ⟨by rfl, ?_⟩) ?_ ?_;rotate_left;(intro w';go_simp;with_reducible rfl);rotate_left;(simp only [Act.put,sn1,sn2,sn3,i64_w];rfl)
        refine pure_ (i := 28) (N:=some 120) (v:=?_) (a':=?_) (M [29,32]) rfl rfl (by as_aux_lemma => kernel_rfl) (fun _ _ _ h => h) (Or.inl ⟨by rfl, ?_⟩) ?_ ?_;rotate_left;(intro w';go_simp;with_reducible rfl);rotate_left;(simp only [Act.put,sn1,sn2,sn3,i64_w];rfl)
        refine pure_ (i := 29) (N:=some 121) (v:=?_) (a':=?_) (M [30,31]) rfl rfl (by as_aux_lemma => kernel_rfl) (fun _ _ _ h => h) (Or.inl ⟨by rfl, ?_⟩) ?_ ?_;rotate_left;(intro w';go_simp;with_reducible rfl);rotate_left;(simp only [Act.put,sn1,sn2,sn3,i64_w];rfl)
        refine pure_ (i := 30) (N:=some 122) (v:=?_) (a':=?_) (M [31,30]) rfl rfl (by as_aux_lemma => kernel_rfl) (fun _ _ _ h => h) (Or.inl ⟨by rfl, ?_⟩) ?_ ?_;rotate_left;(intro w';go_simp;with_reducible rfl);rotate_left;(simp only [Act.put,sn1,sn2,sn3,i64_w];rfl)
        refine pure_ (i := 31) (N:=some 123) (v:=?_) (a':=?_) (M [32,29]) rfl rfl (by as_aux_lemma => kernel_rfl) (fun _ _ _ h => h) (Or.inl ⟨by rfl, ?_⟩) ?_ ?_;rotate_left;(intro w';go_simp;with_reducible rfl);rotate_left;(simp only [Act.put,sn1,sn2,sn3,i64_w];rfl)
        refine pure_ (i := 32) (N:=some 124) (v:=?_) (a':=?_) (M [33,28]) rfl rfl (by as_aux_lemma => kernel_rfl) (fun _ _ _ h => h) (Or.inl ⟨by rfl, ?_⟩) ?_ ?_;rotate_left;(intro w';go_simp;with_reducible rfl);rotate_left;(simp only [Act.put,sn1,sn2,sn3,i64_w];rfl)
        refine pure_ (i := 33) (N:=some 125) (v:=?_) (a':=?_) (M [34,27]) rfl rfl (by as_aux_lemma => kernel_rfl) (fun _ _ _ h => h) (Or.inl ⟨by rfl, ?_⟩) ?_ ?_;rotate_left;(intro w';go_simp;with_reducible rfl);rotate_left;(simp only [Act.put,sn1,sn2,sn3,i64_w];rfl)
        refine pure_ (i := 34) (N:=some 126) (v:=?_) (a':=?_) (M [35,26]) rfl rfl (by as_aux_lemma => kernel_rfl) (fun _ _ _ h => h) (Or.inl ⟨by rfl, ?_⟩) ?_ ?_;rotate_left;(intro w';go_simp;with_reducible rfl);rotate_left;(simp only [Act.put,sn1,sn2,sn3,i64_w];rfl)
        refine pure_ (i := 39) (N:=some 131) (v:=?_) (a':=?_) (M [35,4,1,21]) rfl rfl (by as_aux_lemma => kernel_rfl) (fun _ _ _ h => h) (Or.inl ⟨by rfl, ?_⟩) ?_ ?_;rotate_left;(intro w';go_simp;with_reducible rfl);rotate_left;(simp only [Act.put,sn1,sn2,sn3,i64_w];rfl)
        refine pure_ (i := 40) (N:=some 132) (v:=?_) (a':=?_) (M [35,4,2,20]) rfl rfl (by as_aux_lemma => kernel_rfl) (fun _ _ _ h => h) (Or.inl ⟨by rfl, ?_⟩) ?_ ?_;rotate_left;(intro w';go_simp;with_reducible rfl);rotate_left;(simp only [Act.put,sn1,sn2,sn3,i64_w];rfl)
        refine pure_ (i := 41) (N:=some 133) (v:=?_) (a':=?_) (M [35,4,3,19]) rfl rfl (by as_aux_lemma => kernel_rfl) (fun _ _ _ h => h) (Or.inl ⟨by rfl, ?_⟩) ?_ ?_;rotate_left;(intro w';go_simp;with_reducible rfl);rotate_left;(simp only [Act.put,sn1,sn2,sn3,i64_w];rfl)
        refine take_ (i := 35) (N:=some 127) (v:=?_) (a':=?_) (M [36,3,3,19]) rfl rfl (by as_aux_lemma => kernel_rfl) (fun _ _ _ h => h) (Or.inl ⟨by rfl, ?_⟩) hHeld ?_ ?_
        rotate_left
        ·rintro w' ⟨s0, s1, s2, s3, s4, s5⟩
         go_simp
         with_reducible rfl
        rotate_left
        ·simp only [Act.put,sn1,sn2,sn3,i64_w]
         rfl
        refine pure_ (i := 36) (N:=some 128) (v:=?_) (a':=?_) (M [37,2,3,19]) rfl rfl (by as_aux_lemma => kernel_rfl) (fun _ _ _ h => h) (Or.inl ⟨by rfl, ?_⟩) ?_ ?_;rotate_left;(intro w';go_simp;with_reducible rfl);rotate_left;(simp only [Act.put,sn1,sn2,sn3,i64_w];rfl)
        refine take_ (i := 37) (N:=some 129) (v:=?_) (a':=?_) (M [38,1,3,19]) rfl rfl (by as_aux_lemma => kernel_rfl) (fun _ _ _ h => h) (Or.inl ⟨by rfl, ?_⟩) hHeld ?_ ?_
        rotate_left
        ·rintro w' ⟨s0, s1, s2, s3, s4, s5⟩
         go_simp
         with_reducible rfl
        rotate_left
        ·simp only [Act.put,sn1,sn2,sn3,i64_w]
         rfl
        refine one_ (i := 38) (N:=some 130) (M [42,19]) rfl rfl (by as_aux_lemma => kernel_rfl) (by decide) (fun K hK => ?_)
        refine goes_ Tryz.func34 (by as_aux_lemma => kernel_rfl) rfl #[.agg #[.int .i64 x.f0, .int .i64 x.f1, .int .u8 x.f2, .int .i64 x.f3]] (by rfl) rfl rfl (by simp only [List.map_toArray, List.map_cons, List.map_nil]; rfl) ?_
        with_reducible refine (rIsOther_eq x _ HMO.out wd2).mono ?_
        rintro e w13 ⟨rfl, hb13⟩
        refine ⟨_, rfl, ?_⟩
        have HDR2 := am (HDR.out.trans (hb13.mono HDR.out.size))
        refine hK.out _ _ ⟨pw_cell_below HDR2.out v0, pw_cell_below HDR2.out m0, pw_cell_below HDR2.out m1, pw_cell_below HDR2.out m2, pw_cell_below HDR2.out m3, pw_cell_below HDR2.out v1⟩ (fun hHeld => ?_)
        clear hK K
        refine norm_ (a' := ?_) ?_ ?_
        rotate_left
        ·show Act.put _ (some 130) _ = _
         simp only [Act.put,sn1,sn2,sn3,i64_w]
         rfl
        refine pure_ (i := 42) (N:=some 134) (v:=?_) (a':=?_) (M [43,18]) rfl rfl (by as_aux_lemma => kernel_rfl) (fun _ _ _ h => h) (Or.inl ⟨by rfl, ?_⟩) ?_ ?_;rotate_left;(intro w';go_simp;with_reducible rfl);rotate_left;(simp only [Act.put,sn1,sn2,sn3,i64_w];rfl)
        refine pure_ (i := 43) (N:=some 135) (v:=?_) (a':=?_) (M [44,17]) rfl rfl (by as_aux_lemma => kernel_rfl) (fun _ _ _ h => h) (Or.inl ⟨by rfl, ?_⟩) ?_ ?_;rotate_left;(intro w';go_simp;with_reducible rfl);rotate_left;(simp only [Act.put,sn1,sn2,sn3,i64_w];rfl)
        refine pure_ (i := 44) (N:=some 136) (v:=?_) (a':=?_) (M [45,16]) rfl rfl (by as_aux_lemma => kernel_rfl) (fun _ _ _ h => h) (Or.inl ⟨by rfl, ?_⟩) ?_ ?_;rotate_left;(intro w';go_simp;with_reducible rfl);rotate_left;(simp only [Act.put,sn1,sn2,sn3,i64_w];rfl)
        refine pure_ (i := 45) (N:=some 137) (v:=?_) (a':=?_) (M [46,15]) rfl rfl (by as_aux_lemma => kernel_rfl) (fun _ _ _ h => h) (Or.inl ⟨by rfl, ?_⟩) ?_ ?_;rotate_left;(intro w';go_simp;with_reducible rfl);rotate_left;(simp only [Act.put,sn1,sn2,sn3,i64_w];rfl)
        refine pure_ (i := 46) (N:=some 138) (v:=?_) (a':=?_) (M [47,14]) rfl rfl (by as_aux_lemma => kernel_rfl) (fun _ _ _ h => h) (Or.inl ⟨by rfl, ?_⟩) ?_ ?_;rotate_left;(intro w';go_simp;with_reducible rfl);rotate_left;(simp only [Act.put,sn1,sn2,sn3,i64_w];rfl)
        refine pure_ (i := 47) (N:=some 139) (v:=?_) (a':=?_) (M [48,13]) rfl rfl (by as_aux_lemma => kernel_rfl) (fun _ _ _ h => h) (Or.inl ⟨by rfl, ?_⟩) ?_ ?_;rotate_left;(intro w';go_simp;with_reducible rfl);rotate_left;(simp only [Act.put,sn1,sn2,sn3,i64_w];rfl)
        refine pure_ (i := 48) (N:=some 140) (v:=?_) (a':=?_) (M [49,12]) rfl rfl (by as_aux_lemma => kernel_rfl) (fun _ _ _ h => h) (Or.inl ⟨by rfl, ?_⟩) ?_ ?_;rotate_left;(intro w';go_simp;with_reducible rfl);rotate_left;(simp only [Act.put,sn1,sn2,sn3,i64_w];rfl)
        refine pure_ (i := 49) (N:=some 141) (v := undef) (a' := ?_) (M [50,11]) rfl rfl (by as_aux_lemma => kernel_rfl) (fun _ _ _ h => h) (Or.inr ⟨by rfl, rfl⟩) ?_ ?_
        rotate_left
        ·simp only [Act.put,sn1,sn2,sn3,i64_w]
         rfl
        refine pure_ (i := 50) (N:=some 142) (v := undef) (a' := ?_) (M [51,10]) rfl rfl (by as_aux_lemma => kernel_rfl) (fun _ _ _ h => h) (Or.inr ⟨by rfl, rfl⟩) ?_ ?_
        rotate_left
        ·simp only [Act.put,sn1,sn2,sn3,i64_w]
         rfl
        refine pure_ (i := 51) (N:=some 143) (v := undef) (a' := ?_) (M [52,9]) rfl rfl (by as_aux_lemma => kernel_rfl) (fun _ _ _ h => h) (Or.inr ⟨by rfl, rfl⟩) ?_ ?_
        rotate_left
        ·simp only [Act.put,sn1,sn2,sn3,i64_w]
         rfl
        refine pure_ (i := 52) (N:=some 144) (v := undef) (a' := ?_) (M [53,8]) rfl rfl (by as_aux_lemma => kernel_rfl) (fun _ _ _ h => h) (Or.inr ⟨by rfl, rfl⟩) ?_ ?_
        rotate_left
        ·simp only [Act.put,sn1,sn2,sn3,i64_w]
         rfl
        refine pure_ (i := 53) (N:=some 145) (v := undef) (a' := ?_) (M [54,7]) rfl rfl (by as_aux_lemma => kernel_rfl) (fun _ _ _ h => h) (Or.inr ⟨by rfl, rfl⟩) ?_ ?_
        rotate_left
        ·simp only [Act.put,sn1,sn2,sn3,i64_w]
         rfl
        refine pure_ (i := 54) (N:=some 146) (v := undef) (a' := ?_) (M [55,6]) rfl rfl (by as_aux_lemma => kernel_rfl) (fun _ _ _ h => h) (Or.inr ⟨by rfl, rfl⟩) ?_ ?_
        rotate_left
        ·simp only [Act.put,sn1,sn2,sn3,i64_w]
         rfl
        refine pure_ (i := 55) (N:=some 147) (v := undef) (a' := ?_) (M [56,5]) rfl rfl (by as_aux_lemma => kernel_rfl) (fun _ _ _ h => h) (Or.inr ⟨by rfl, rfl⟩) ?_ ?_
        rotate_left
        ·simp only [Act.put,sn1,sn2,sn3,i64_w]
         rfl
        refine pure_ (i := 56) (N:=some 148) (v := undef) (a' := ?_) (M [57,4]) rfl rfl (by as_aux_lemma => kernel_rfl) (fun _ _ _ h => h) (Or.inr ⟨by rfl, rfl⟩) ?_ ?_
        rotate_left
        ·simp only [Act.put,sn1,sn2,sn3,i64_w]
         rfl
        refine pure_ (i := 57) (N:=some 149) (v := undef) (a' := ?_) (M [58,3]) rfl rfl (by as_aux_lemma => kernel_rfl) (fun _ _ _ h => h) (Or.inr ⟨by rfl, rfl⟩) ?_ ?_
        rotate_left
        ·simp only [Act.put,sn1,sn2,sn3,i64_w]
         rfl
        refine pure_ (i := 58) (N:=some 150) (v := undef) (a' := ?_) (M [59,2]) rfl rfl (by as_aux_lemma => kernel_rfl) (fun _ _ _ h => h) (Or.inr ⟨by rfl, rfl⟩) ?_ ?_
        rotate_left
        ·simp only [Act.put,sn1,sn2,sn3,i64_w]
         rfl
        refine pure_ (i := 59) (N:=some 151) (v:=?_) (a':=?_) (M [60,1]) rfl rfl (by as_aux_lemma => kernel_rfl) (fun _ _ _ h => h) (Or.inl ⟨by rfl, ?_⟩) ?_ ?_;rotate_left;(intro w';go_simp;with_reducible rfl);rotate_left;(simp only [Act.put,sn1,sn2,sn3,i64_w];rfl)
        refine pure_ (i := 60) (N:=some 152) (v:=?_) (a':=?_) (M [61]) rfl rfl (by as_aux_lemma => kernel_rfl) (fun _ _ _ h => h) (Or.inl ⟨by rfl, ?_⟩) ?_ ?_;rotate_left;(intro w';go_simp;with_reducible rfl);rotate_left;(simp only [Act.put,sn1,sn2,sn3,i64_w];rfl)
        refine done_ (by as_aux_lemma => kernel_rfl) ?_
        go_wp2_with fail
        go_meet
        case rel => exact ⟨rfl, HDR2⟩
       have ce : ((kk : Int).tmod 2 == 0) = false := by rw [Int.tmod_eq_emod_of_nonneg (by omega)]; exact beq_false_of_ne (by omega)
       have co : ((kk : Int).tmod 2 == 1) = true := by rw [Int.tmod_eq_emod_of_nonneg (by omega)]; exact beq_iff_eq.2 (by omega)
       have HMO := am (HOQ.out.trans (decide_eq_false he))
       have HZ := am (HJQ.out (by omega))
       have hqj : q < J.length := by rw [HJL.out]; exact hq
       have cqj : decide (q < J.length) = true := decide_eq_true hqj
       have cqj2 : decide ((q : Int) < (J.length : Int)) = true := decide_eq_true (by omega)
       obtain ⟨adj, e0, j0⟩ := Kd.at_int HJX.out (q : Int) (by omega) (show (q : Int) < (J.length : Int) by omega)
       cases e0
       rw [Int.toNat_natCast] at j0
       generalize rd J (q : Int) = z at *
       obtain ⟨jj, hjj⟩ : ∃ jj : Nat, jj + 1 = kk := ⟨kk - 1, by omega⟩
       have hjw3 : wrap64 ((kk : Int) - 1) = (jj : Int) := by rw [wrap_in (by omega) (by omega)]; omega
       have hjl : jj < V.length := by omega
       have hasc := HAS.out jj (by omega)
       rw [hjj, hvq] at hasc
       obtain ⟨ad9, e0, v1⟩ := Kd.at_int HVX.out (jj : Int) (by omega) (show (jj : Int) < (V.length : Int) by omega)
       cases e0
       rw [Int.toNat_natCast] at v1
       generalize rd V (jj : Int) = p at *
       have cqp : decide ((q : Int) ≤ p) = false := decide_eq_false (by omega)
       have cjn : decide (jj < V.length) = true := decide_eq_true hjl
       have cjz : decide ((jj : Int) < (V.length : Int)) = true := decide_eq_true (by omega)
       have cp : decide ((0 : Int) < (kk : Int)) = true := decide_eq_true (by omega)
       have cp2 : decide (0 < kk) = true := decide_eq_true (by omega)
       clear hasc hjj
       clear hvq he
       go_upto_region 11 with fail
       have HDR := am ((Below.refl wr.heap.size wr).drew)
       refine start_ (n := 61) (S := fun w' => w'.cell? (adv.add kk) = some (.int .i64 (q : Int)) ∧ w'.cell? (adl.add (q * 4)) = some (.int .i64 x.f0) ∧ w'.cell? ⟨(adl.add (q * 4)).block, (adl.add (q * 4)).off + 1, none⟩ = some (.int .i64 x.f1) ∧ w'.cell? ⟨(adl.add (q * 4)).block, (adl.add (q * 4)).off + 2, none⟩ = some (.int .u8 x.f2) ∧ w'.cell? ⟨(adl.add (q * 4)).block, (adl.add (q * 4)).off + 3, none⟩ = some (.int .i64 x.f3) ∧ w'.cell? (adv.add jj) = some (.int .i64 p) ∧ w'.cell? (adj.add q) = some (.int .i64 z)) (ds := []) (M [0,61]) (by as_aux_lemma => kernel_rfl) rfl rfl ⟨pw_cell_below HDR.out v0, pw_cell_below HDR.out m0, pw_cell_below HDR.out m1, pw_cell_below HDR.out m2, pw_cell_below HDR.out m3, pw_cell_below HDR.out v1, pw_cell_below HDR.out j0⟩ (fun hHeld => ?_)
       generalize wr.drew = wd2 at HDR hHeld ⊢
       refine pure_ (i := 0) (N:=some 92) (v:=?_) (a':=?_) (M [1,60]) rfl rfl (by as_aux_lemma => kernel_rfl) (fun _ _ _ h => h) (Or.inl ⟨by rfl, ?_⟩) ?_ ?_;rotate_left;(intro w';go_simp;with_reducible rfl);rotate_left;(simp only [Act.put,sn1,sn2,sn3,i64_w];rfl)
       refine pure_ (i := 1) (N:=some 93) (v:=?_) (a':=?_) (M [2,59]) rfl rfl (by as_aux_lemma => kernel_rfl) (fun _ _ _ h => h) (Or.inl ⟨by rfl, ?_⟩) ?_ ?_;rotate_left;(intro w';go_simp;with_reducible rfl);rotate_left;(simp only [Act.put,sn1,sn2,sn3,i64_w];rfl)
       refine pure_ (i := 2) (N:=some 94) (v:=?_) (a':=?_) (M [3,58]) rfl rfl (by as_aux_lemma => kernel_rfl) (fun _ _ _ h => h) (Or.inl ⟨by rfl, ?_⟩) ?_ ?_;rotate_left;(intro w';go_simp;with_reducible rfl);rotate_left;(simp only [Act.put,sn1,sn2,sn3,i64_w];rfl)
       refine take_ (i := 3) (N:=some 95) (v:=?_) (a':=?_) (M [4,57]) rfl rfl (by as_aux_lemma => kernel_rfl) (fun _ _ _ h => h) (Or.inl ⟨by rfl, ?_⟩) hHeld ?_ ?_
       rotate_left
       ·rintro w' ⟨s0, s1, s2, s3, s4, s5, s6⟩
        go_simp
        with_reducible rfl
       rotate_left
       ·simp only [Act.put,sn1,sn2,sn3,i64_w]
        rfl
       refine pure_ (i := 4) (N:=some 96) (v:=?_) (a':=?_) (M [5,56]) rfl rfl (by as_aux_lemma => kernel_rfl) (fun _ _ _ h => h) (Or.inl ⟨by rfl, ?_⟩) ?_ ?_;rotate_left;(intro w';go_simp;with_reducible rfl);rotate_left;(simp only [Act.put,sn1,sn2,sn3,i64_w];rfl)
       refine pure_ (i := 5) (N:=some 97) (v:=?_) (a':=?_) (M [6,55]) rfl rfl (by as_aux_lemma => kernel_rfl) (fun _ _ _ h => h) (Or.inl ⟨by rfl, ?_⟩) ?_ ?_;rotate_left;(intro w';go_simp;with_reducible rfl);rotate_left;(simp only [Act.put,sn1,sn2,sn3,i64_w];rfl)
       refine pure_ (i := 6) (N:=some 98) (v:=?_) (a':=?_) (M [7,54]) rfl rfl (by as_aux_lemma => kernel_rfl) (fun _ _ _ h => h) (Or.inl ⟨by rfl, ?_⟩) ?_ ?_;rotate_left;(intro w';go_simp;with_reducible rfl);rotate_left;(simp only [Act.put,sn1,sn2,sn3,i64_w];rfl)
       refine pure_ (i := 7) (N:=some 99) (v:=?_) (a':=?_) (M [8,53]) rfl rfl (by as_aux_lemma => kernel_rfl) (fun _ _ _ h => h) (Or.inl ⟨by rfl, ?_⟩) ?_ ?_;rotate_left;(intro w';go_simp;with_reducible rfl);rotate_left;(simp only [Act.put,sn1,sn2,sn3,i64_w];rfl)
       refine pure_ (i := 8) (N:=some 100) (v:=?_) (a':=?_) (M [9,52]) rfl rfl (by as_aux_lemma => kernel_rfl) (fun _ _ _ h => h) (Or.inl ⟨by rfl, ?_⟩) ?_ ?_;rotate_left;(intro w';go_simp;with_reducible rfl);rotate_left;(simp only [Act.put,sn1,sn2,sn3,i64_w];rfl)
       refine pure_ (i := 10) (N:=some 102) (v:=?_) (a':=?_) (M [9,1,1,50]) rfl rfl (by as_aux_lemma => kernel_rfl) (fun _ _ _ h => h) (Or.inl ⟨by rfl, ?_⟩) ?_ ?_;rotate_left;(intro w';go_simp;with_reducible rfl);rotate_left;(simp only [Act.put,sn1,sn2,sn3,i64_w];rfl)
       refine pure_ (i := 11) (N:=some 103) (v:=?_) (a':=?_) (M [9,1,2,49]) rfl rfl (by as_aux_lemma => kernel_rfl) (fun _ _ _ h => h) (Or.inl ⟨by rfl, ?_⟩) ?_ ?_;rotate_left;(intro w';go_simp;with_reducible rfl);rotate_left;(simp only [Act.put,sn1,sn2,sn3,i64_w];rfl)
       refine take_ (i := 9) (N:=some 101) (v:=?_) (a':=?_) (M [12,49]) rfl rfl (by as_aux_lemma => kernel_rfl) (fun _ _ _ h => h) (Or.inl ⟨by rfl, ?_⟩) hHeld ?_ ?_
       rotate_left
       ·rintro w' ⟨s0, s1, s2, s3, s4, s5, s6⟩
        go_simp
        with_reducible rfl
       rotate_left
       ·simp only [Act.put,sn1,sn2,sn3,i64_w]
        rfl
       refine pure_ (i := 12) (N:=some 104) (v:=?_) (a':=?_) (M [13,48]) rfl rfl (by as_aux_lemma => kernel_rfl) (fun _ _ _ h => h) (Or.inl ⟨by rfl, ?_⟩) ?_ ?_;rotate_left;(intro w';go_simp;with_reducible rfl);rotate_left;(simp only [Act.put,sn1,sn2,sn3,i64_w];rfl)
       refine pure_ (i := 13) (N:=some 105) (v:=?_) (a':=?_) (M [14,47]) rfl rfl (by as_aux_lemma => kernel_rfl) (fun _ _ _ h => h) (Or.inl ⟨by rfl, ?_⟩) ?_ ?_;rotate_left;(intro w';go_simp;with_reducible rfl);rotate_left;(simp only [Act.put,sn1,sn2,sn3,i64_w];rfl)
       refine pure_ (i := 14) (N:=some 106) (v:=?_) (a':=?_) (M [15,46]) rfl rfl (by as_aux_lemma => kernel_rfl) (fun _ _ _ h => h) (Or.inl ⟨by rfl, ?_⟩) ?_ ?_;rotate_left;(intro w';go_simp;with_reducible rfl);rotate_left;(simp only [Act.put,sn1,sn2,sn3,i64_w];rfl)
       refine pure_ (i := 15) (N:=some 107) (v:=?_) (a':=?_) (M [16,45]) rfl rfl (by as_aux_lemma => kernel_rfl) (fun _ _ _ h => h) (Or.inl ⟨by rfl, ?_⟩) ?_ ?_;rotate_left;(intro w';go_simp;with_reducible rfl);rotate_left;(simp only [Act.put,sn1,sn2,sn3,i64_w];rfl)
       refine pure_ (i := 16) (N:=some 108) (v:=?_) (a':=?_) (M [17,44]) rfl rfl (by as_aux_lemma => kernel_rfl) (fun _ _ _ h => h) (Or.inl ⟨by rfl, ?_⟩) ?_ ?_;rotate_left;(intro w';go_simp;with_reducible rfl);rotate_left;(simp only [Act.put,sn1,sn2,sn3,i64_w];rfl)
       refine pure_ (i := 17) (N:=some 109) (v:=?_) (a':=?_) (M [18,43]) rfl rfl (by as_aux_lemma => kernel_rfl) (fun _ _ _ h => h) (Or.inl ⟨by rfl, ?_⟩) ?_ ?_;rotate_left;(intro w';go_simp;with_reducible rfl);rotate_left;(simp only [Act.put,sn1,sn2,sn3,i64_w];rfl)
       refine pure_ (i := 18) (N:=some 110) (v:=?_) (a':=?_) (M [19,42]) rfl rfl (by as_aux_lemma => kernel_rfl) (fun _ _ _ h => h) (Or.inl ⟨by rfl, ?_⟩) ?_ ?_;rotate_left;(intro w';go_simp;with_reducible rfl);rotate_left;(simp only [Act.put,sn1,sn2,sn3,i64_w];rfl)
       refine pure_ (i := 19) (N:=some 111) (v:=?_) (a':=?_) (M [20,41]) rfl rfl (by as_aux_lemma => kernel_rfl) (fun _ _ _ h => h) (Or.inl ⟨by rfl, ?_⟩) ?_ ?_;rotate_left;(intro w';go_simp;with_reducible rfl);rotate_left;(simp only [Act.put,sn1,sn2,sn3,i64_w];rfl)
       refine pure_ (i := 20) (N:=some 112) (v:=?_) (a':=?_) (M [21,40]) rfl rfl (by as_aux_lemma => kernel_rfl) (fun _ _ _ h => h) (Or.inl ⟨by rfl, ?_⟩) ?_ ?_;rotate_left;(intro w';go_simp;with_reducible rfl);rotate_left;(simp only [Act.put,sn1,sn2,sn3,i64_w];rfl)
       refine pure_ (i := 22) (N:=some 114) (v:=?_) (a':=?_) (M [21,1,1,38]) rfl rfl (by as_aux_lemma => kernel_rfl) (fun _ _ _ h => h) (Or.inl ⟨by rfl, ?_⟩) ?_ ?_;rotate_left;(intro w';go_simp;with_reducible rfl);rotate_left;(simp only [Act.put,sn1,sn2,sn3,i64_w];rfl)
       refine pure_ (i := 23) (N:=some 115) (v:=?_) (a':=?_) (M [21,1,2,37]) rfl rfl (by as_aux_lemma => kernel_rfl) (fun _ _ _ h => h) (Or.inl ⟨by rfl, ?_⟩) ?_ ?_;rotate_left;(intro w';go_simp;with_reducible rfl);rotate_left;(simp only [Act.put,sn1,sn2,sn3,i64_w];rfl)
       refine pure_ (i := 24) (N:=some 116) (v:=?_) (a':=?_) (M [21,1,3,36]) rfl rfl (by as_aux_lemma => kernel_rfl) (fun _ _ _ h => h) (Or.inl ⟨by rfl, ?_⟩) ?_ ?_;rotate_left;(intro w';go_simp;with_reducible rfl);rotate_left;(simp only [Act.put,sn1,sn2,sn3,i64_w];rfl)
       refine pure_ (i := 25) (N:=some 117) (v:=?_) (a':=?_) (M [21,1,4,35]) rfl rfl (by as_aux_lemma => kernel_rfl) (fun _ _ _ h => h) (Or.inl ⟨by rfl, ?_⟩) ?_ ?_;rotate_left;(intro w';go_simp;with_reducible rfl);rotate_left;(simp only [Act.put,sn1,sn2,sn3,i64_w];rfl)
       refine take_ (i := 21) (N:=some 113) (v:=?_) (a':=?_) (M [26,35]) rfl rfl (by as_aux_lemma => kernel_rfl) (fun _ _ _ h => h) (Or.inl ⟨by rfl, ?_⟩) hHeld ?_ ?_
       rotate_left
       ·rintro w' ⟨s0, s1, s2, s3, s4, s5, s6⟩
        go_simp
        with_reducible rfl
       rotate_left
       ·simp only [Act.put,sn1,sn2,sn3,i64_w]
        rfl
       refine take_ (i := 26) (N:=some 118) (v:=?_) (a':=?_) (M [27,34]) rfl rfl (by as_aux_lemma => kernel_rfl) (fun _ _ _ h => h) (Or.inl ⟨by rfl, ?_⟩) hHeld ?_ ?_
       rotate_left
       ·rintro w' ⟨s0, s1, s2, s3, s4, s5, s6⟩
        go_simp
        with_reducible rfl
       rotate_left
       ·simp only [Act.put,sn1,sn2,sn3,i64_w]
        rfl
       refine pure_ (i := 27) (N:=some 119) (v:=?_) (a':=?_) (M [28,33]) rfl rfl (by as_aux_lemma => kernel_rfl) (fun _ _ _ h => h) (Or.inl ⟨by rfl, ?_⟩) ?_ ?_;rotate_left;(intro w';go_simp;with_reducible rfl);rotate_left;(simp only [Act.put,sn1,sn2,sn3,i64_w];rfl)
       refine pure_ (i := 28) (N:=some 120) (v:=?_) (a':=?_) (M [29,32]) rfl rfl (by as_aux_lemma => kernel_rfl) (fun _ _ _ h => h) (Or.inl ⟨by rfl, ?_⟩) ?_ ?_;rotate_left;(intro w';go_simp;with_reducible rfl);rotate_left;(simp only [Act.put,sn1,sn2,sn3,i64_w];rfl)
       refine pure_ (i := 29) (N:=some 121) (v:=?_) (a':=?_) (M [30,31]) rfl rfl (by as_aux_lemma => kernel_rfl) (fun _ _ _ h => h) (Or.inl ⟨by rfl, ?_⟩) ?_ ?_;rotate_left;(intro w';go_simp;with_reducible rfl);rotate_left;(simp only [Act.put,sn1,sn2,sn3,i64_w];rfl)
       refine pure_ (i := 30) (N:=some 122) (v:=?_) (a':=?_) (M [31,30]) rfl rfl (by as_aux_lemma => kernel_rfl) (fun _ _ _ h => h) (Or.inl ⟨by rfl, ?_⟩) ?_ ?_;rotate_left;(intro w';go_simp;with_reducible rfl);rotate_left;(simp only [Act.put,sn1,sn2,sn3,i64_w];rfl)
       refine pure_ (i := 31) (N:=some 123) (v:=?_) (a':=?_) (M [32,29]) rfl rfl (by as_aux_lemma => kernel_rfl) (fun _ _ _ h => h) (Or.inl ⟨by rfl, ?_⟩) ?_ ?_;rotate_left;(intro w';go_simp;with_reducible rfl);rotate_left;(simp only [Act.put,sn1,sn2,sn3,i64_w];rfl)
       refine pure_ (i := 32) (N:=some 124) (v:=?_) (a':=?_) (M [33,28]) rfl rfl (by as_aux_lemma => kernel_rfl) (fun _ _ _ h => h) (Or.inl ⟨by rfl, ?_⟩) ?_ ?_;rotate_left;(intro w';go_simp;with_reducible rfl);rotate_left;(simp only [Act.put,sn1,sn2,sn3,i64_w];rfl)
       refine pure_ (i := 33) (N:=some 125) (v:=?_) (a':=?_) (M [34,27]) rfl rfl (by as_aux_lemma => kernel_rfl) (fun _ _ _ h => h) (Or.inl ⟨by rfl, ?_⟩) ?_ ?_;rotate_left;(intro w';go_simp;with_reducible rfl);rotate_left;(simp only [Act.put,sn1,sn2,sn3,i64_w];rfl)
       refine pure_ (i := 34) (N:=some 126) (v:=?_) (a':=?_) (M [35,26]) rfl rfl (by as_aux_lemma => kernel_rfl) (fun _ _ _ h => h) (Or.inl ⟨by rfl, ?_⟩) ?_ ?_;rotate_left;(intro w';go_simp;with_reducible rfl);rotate_left;(simp only [Act.put,sn1,sn2,sn3,i64_w];rfl)
       refine pure_ (i := 39) (N:=some 131) (v:=?_) (a':=?_) (M [35,4,1,21]) rfl rfl (by as_aux_lemma => kernel_rfl) (fun _ _ _ h => h) (Or.inl ⟨by rfl, ?_⟩) ?_ ?_;rotate_left;(intro w';go_simp;with_reducible rfl);rotate_left;(simp only [Act.put,sn1,sn2,sn3,i64_w];rfl)
       refine pure_ (i := 40) (N:=some 132) (v:=?_) (a':=?_) (M [35,4,2,20]) rfl rfl (by as_aux_lemma => kernel_rfl) (fun _ _ _ h => h) (Or.inl ⟨by rfl, ?_⟩) ?_ ?_;rotate_left;(intro w';go_simp;with_reducible rfl);rotate_left;(simp only [Act.put,sn1,sn2,sn3,i64_w];rfl)
       refine pure_ (i := 41) (N:=some 133) (v:=?_) (a':=?_) (M [35,4,3,19]) rfl rfl (by as_aux_lemma => kernel_rfl) (fun _ _ _ h => h) (Or.inl ⟨by rfl, ?_⟩) ?_ ?_;rotate_left;(intro w';go_simp;with_reducible rfl);rotate_left;(simp only [Act.put,sn1,sn2,sn3,i64_w];rfl)
       refine take_ (i := 35) (N:=some 127) (v:=?_) (a':=?_) (M [36,3,3,19]) rfl rfl (by as_aux_lemma => kernel_rfl) (fun _ _ _ h => h) (Or.inl ⟨by rfl, ?_⟩) hHeld ?_ ?_
       rotate_left
       ·rintro w' ⟨s0, s1, s2, s3, s4, s5, s6⟩
        go_simp
        with_reducible rfl
       rotate_left
       ·simp only [Act.put,sn1,sn2,sn3,i64_w]
        rfl
       refine pure_ (i := 36) (N:=some 128) (v:=?_) (a':=?_) (M [37,2,3,19]) rfl rfl (by as_aux_lemma => kernel_rfl) (fun _ _ _ h => h) (Or.inl ⟨by rfl, ?_⟩) ?_ ?_;rotate_left;(intro w';go_simp;with_reducible rfl);rotate_left;(simp only [Act.put,sn1,sn2,sn3,i64_w];rfl)
       refine take_ (i := 37) (N:=some 129) (v:=?_) (a':=?_) (M [38,1,3,19]) rfl rfl (by as_aux_lemma => kernel_rfl) (fun _ _ _ h => h) (Or.inl ⟨by rfl, ?_⟩) hHeld ?_ ?_
       rotate_left
       ·rintro w' ⟨s0, s1, s2, s3, s4, s5, s6⟩
        go_simp
        with_reducible rfl
       rotate_left
       ·simp only [Act.put,sn1,sn2,sn3,i64_w]
        rfl
       refine one_ (i := 38) (N:=some 130) (M [42,19]) rfl rfl (by as_aux_lemma => kernel_rfl) (by decide) (fun K hK => ?_)
       refine goes_ Tryz.func34 (by as_aux_lemma => kernel_rfl) rfl #[.agg #[.int .i64 x.f0, .int .i64 x.f1, .int .u8 x.f2, .int .i64 x.f3]] (by rfl) rfl rfl (by simp only [List.map_toArray, List.map_cons, List.map_nil]; rfl) ?_
       with_reducible refine (rIsOther_eq x _ HMO.out wd2).mono ?_
       rintro e w13 ⟨rfl, hb13⟩
       refine ⟨_, rfl, ?_⟩
       have HDR2 := am (HDR.out.trans (hb13.mono HDR.out.size))
       refine hK.out _ _ ⟨pw_cell_below HDR2.out v0, pw_cell_below HDR2.out m0, pw_cell_below HDR2.out m1, pw_cell_below HDR2.out m2, pw_cell_below HDR2.out m3, pw_cell_below HDR2.out v1, pw_cell_below HDR2.out j0⟩ (fun hHeld => ?_)
       clear hK K
       refine norm_ (a' := ?_) ?_ ?_
       rotate_left
       ·show Act.put _ (some 130) _ = _
        simp only [Act.put,sn1,sn2,sn3,i64_w]
        rfl
       refine pure_ (i := 42) (N:=some 134) (v:=?_) (a':=?_) (M [43,18]) rfl rfl (by as_aux_lemma => kernel_rfl) (fun _ _ _ h => h) (Or.inl ⟨by rfl, ?_⟩) ?_ ?_;rotate_left;(intro w';go_simp;with_reducible rfl);rotate_left;(simp only [Act.put,sn1,sn2,sn3,i64_w];rfl)
       refine pure_ (i := 43) (N:=some 135) (v:=?_) (a':=?_) (M [44,17]) rfl rfl (by as_aux_lemma => kernel_rfl) (fun _ _ _ h => h) (Or.inl ⟨by rfl, ?_⟩) ?_ ?_;rotate_left;(intro w';go_simp;with_reducible rfl);rotate_left;(simp only [Act.put,sn1,sn2,sn3,i64_w];rfl)
       refine pure_ (i := 44) (N:=some 136) (v:=?_) (a':=?_) (M [45,16]) rfl rfl (by as_aux_lemma => kernel_rfl) (fun _ _ _ h => h) (Or.inl ⟨by rfl, ?_⟩) ?_ ?_;rotate_left;(intro w';go_simp;with_reducible rfl);rotate_left;(simp only [Act.put,sn1,sn2,sn3,i64_w];rfl)
       refine pure_ (i := 45) (N:=some 137) (v:=?_) (a':=?_) (M [46,15]) rfl rfl (by as_aux_lemma => kernel_rfl) (fun _ _ _ h => h) (Or.inl ⟨by rfl, ?_⟩) ?_ ?_;rotate_left;(intro w';go_simp;with_reducible rfl);rotate_left;(simp only [Act.put,sn1,sn2,sn3,i64_w];rfl)
       refine pure_ (i := 46) (N:=some 138) (v:=?_) (a':=?_) (M [47,14]) rfl rfl (by as_aux_lemma => kernel_rfl) (fun _ _ _ h => h) (Or.inl ⟨by rfl, ?_⟩) ?_ ?_;rotate_left;(intro w';go_simp;with_reducible rfl);rotate_left;(simp only [Act.put,sn1,sn2,sn3,i64_w];rfl)
       refine pure_ (i := 47) (N:=some 139) (v:=?_) (a':=?_) (M [48,13]) rfl rfl (by as_aux_lemma => kernel_rfl) (fun _ _ _ h => h) (Or.inl ⟨by rfl, ?_⟩) ?_ ?_;rotate_left;(intro w';go_simp;with_reducible rfl);rotate_left;(simp only [Act.put,sn1,sn2,sn3,i64_w];rfl)
       refine pure_ (i := 48) (N:=some 140) (v:=?_) (a':=?_) (M [49,12]) rfl rfl (by as_aux_lemma => kernel_rfl) (fun _ _ _ h => h) (Or.inl ⟨by rfl, ?_⟩) ?_ ?_;rotate_left;(intro w';go_simp;with_reducible rfl);rotate_left;(simp only [Act.put,sn1,sn2,sn3,i64_w];rfl)
       refine pure_ (i := 49) (N:=some 141) (v:=?_) (a':=?_) (M [50,11]) rfl rfl (by as_aux_lemma => kernel_rfl) (fun _ _ _ h => h) (Or.inl ⟨by rfl, ?_⟩) ?_ ?_;rotate_left;(intro w';go_simp;with_reducible rfl);rotate_left;(simp only [Act.put,sn1,sn2,sn3,i64_w];rfl)
       refine pure_ (i := 50) (N:=some 142) (v:=?_) (a':=?_) (M [51,10]) rfl rfl (by as_aux_lemma => kernel_rfl) (fun _ _ _ h => h) (Or.inl ⟨by rfl, ?_⟩) ?_ ?_;rotate_left;(intro w';go_simp;with_reducible rfl);rotate_left;(simp only [Act.put,sn1,sn2,sn3,i64_w];rfl)
       refine pure_ (i := 51) (N:=some 143) (v:=?_) (a':=?_) (M [52,9]) rfl rfl (by as_aux_lemma => kernel_rfl) (fun _ _ _ h => h) (Or.inl ⟨by rfl, ?_⟩) ?_ ?_;rotate_left;(intro w';go_simp;with_reducible rfl);rotate_left;(simp only [Act.put,sn1,sn2,sn3,i64_w];rfl)
       refine pure_ (i := 52) (N:=some 144) (v:=?_) (a':=?_) (M [53,8]) rfl rfl (by as_aux_lemma => kernel_rfl) (fun _ _ _ h => h) (Or.inl ⟨by rfl, ?_⟩) ?_ ?_;rotate_left;(intro w';go_simp;with_reducible rfl);rotate_left;(simp only [Act.put,sn1,sn2,sn3,i64_w];rfl)
       refine pure_ (i := 53) (N:=some 145) (v:=?_) (a':=?_) (M [54,7]) rfl rfl (by as_aux_lemma => kernel_rfl) (fun _ _ _ h => h) (Or.inl ⟨by rfl, ?_⟩) ?_ ?_;rotate_left;(intro w';go_simp;with_reducible rfl);rotate_left;(simp only [Act.put,sn1,sn2,sn3,i64_w];rfl)
       refine take_ (i := 54) (N:=some 146) (v:=?_) (a':=?_) (M [55,6]) rfl rfl (by as_aux_lemma => kernel_rfl) (fun _ _ _ h => h) (Or.inl ⟨by rfl, ?_⟩) hHeld ?_ ?_
       rotate_left
       ·rintro w' ⟨s0, s1, s2, s3, s4, s5, s6⟩
        go_simp
        with_reducible rfl
       rotate_left
       ·simp only [Act.put,sn1,sn2,sn3,i64_w]
        rfl
       refine pure_ (i := 55) (N:=some 147) (v:=?_) (a':=?_) (M [56,5]) rfl rfl (by as_aux_lemma => kernel_rfl) (fun _ _ _ h => h) (Or.inl ⟨by rfl, ?_⟩) ?_ ?_;rotate_left;(intro w';go_simp;with_reducible rfl);rotate_left;(simp only [Act.put,sn1,sn2,sn3,i64_w];rfl)
       refine take_ (i := 56) (N:=some 148) (v:=?_) (a':=?_) (M [57,4]) rfl rfl (by as_aux_lemma => kernel_rfl) (fun _ _ _ h => h) (Or.inl ⟨by rfl, ?_⟩) hHeld ?_ ?_
       rotate_left
       ·rintro w' ⟨s0, s1, s2, s3, s4, s5, s6⟩
        go_simp
        with_reducible rfl
       rotate_left
       ·simp only [Act.put,sn1,sn2,sn3,i64_w]
        rfl
       refine one_ (i := 57) (N:=some 149) (M [58,3]) rfl rfl (by as_aux_lemma => kernel_rfl) (by decide) (fun K hK => ?_)
       refine goes_ Tryz.func41 (by as_aux_lemma => kernel_rfl) rfl #[.slice (some adv) V.length kv, .int .i64 z] (by rfl) rfl rfl (by simp only [List.map_toArray, List.map_cons, List.map_nil]; rfl) ?_
       with_reducible refine (among_true (some adv) kv V z w13 (Kd.C_below HVX.out HDR2.out) hkv hVx HZ.out).mono ?_
       rintro e w14 ⟨rfl, hb14⟩
       refine ⟨_, rfl, ?_⟩
       have HDR3 := am (HDR2.out.trans (hb14.mono HDR2.out.size))
       refine hK.out _ _ ⟨pw_cell_below HDR3.out v0, pw_cell_below HDR3.out m0, pw_cell_below HDR3.out m1, pw_cell_below HDR3.out m2, pw_cell_below HDR3.out m3, pw_cell_below HDR3.out v1, pw_cell_below HDR3.out j0⟩ (fun hHeld => ?_)
       clear hK K
       refine norm_ (a' := ?_) ?_ ?_
       rotate_left
       ·show Act.put _ (some 149) _ = _
        simp only [Act.put,sn1,sn2,sn3,i64_w]
        rfl
       refine pure_ (i := 58) (N:=some 150) (v:=?_) (a':=?_) (M [59,2]) rfl rfl (by as_aux_lemma => kernel_rfl) (fun _ _ _ h => h) (Or.inl ⟨by rfl, ?_⟩) ?_ ?_;rotate_left;(intro w';go_simp;with_reducible rfl);rotate_left;(simp only [Act.put,sn1,sn2,sn3,i64_w];rfl)
       refine pure_ (i := 59) (N:=some 151) (v:=?_) (a':=?_) (M [60,1]) rfl rfl (by as_aux_lemma => kernel_rfl) (fun _ _ _ h => h) (Or.inl ⟨by rfl, ?_⟩) ?_ ?_;rotate_left;(intro w';go_simp;with_reducible rfl);rotate_left;(simp only [Act.put,sn1,sn2,sn3,i64_w];rfl)
       refine pure_ (i := 60) (N:=some 152) (v:=?_) (a':=?_) (M [61]) rfl rfl (by as_aux_lemma => kernel_rfl) (fun _ _ _ h => h) (Or.inl ⟨by rfl, ?_⟩) ?_ ?_;rotate_left;(intro w';go_simp;with_reducible rfl);rotate_left;(simp only [Act.put,sn1,sn2,sn3,i64_w];rfl)
       refine done_ (by as_aux_lemma => kernel_rfl) ?_
       go_wp2_with fail
       go_meet
       case rel => exact ⟨rfl, HDR3⟩
      case rest =>
       obtain ⟨rfl, HB6⟩ := hcut
       have BW2 := am (BW.out.trans (HB6.out.mono hsr))
       have hs6 := BW2.out.size
       have HR3 := am (R_st HR2.out (St.of_below (b := 0) HB6.out))
       have HW2 := am (H5.out.below BW2.out)
       obtain ⟨adv, e0, v0⟩ := Kd.at_int (HW2.out.x _ (List.mem_cons_of_mem _ mc)) (kk : Int) (by omega) (show (kk : Int) < (V.length : Int) by omega)
       cases e0
       obtain ⟨adl, e0, m0, m1, m2, m3⟩ := at_T52 (HW2.out.y _ mc) (q : Int) (by omega) (show (q : Int) < (l.length : Int) by omega)
       cases e0
       rw [Int.toNat_natCast] at v0 m0 m1 m2 m3
       rw [hvq] at v0
       rw [HHX.out] at m0 m1 m2 m3
       clear hvq HW HR2
       go_wp2_with ((with_reducible refine gate_builtin (b := .append) (xs := #[.tmp 153, .tmp 161]) rfl ?_); at_builtin; (refine Kd.R_append k52 (w0 := w5) w5.heap.size rfl (.tmp 153) (.tmp 161) 28 52 (.agg #[(.int .i64 0), (.int .i64 0), (.int .u8 0), (.int .i64 0)]) 32 rfl Tryz.underlying28 info52 rfl (by decide) (by omega) (.slice A2 xs.length c2) xs x [.int .i64 x.f0, .int .i64 x.f1, .int .u8 x.f2, .int .i64 x.f3] (fun _ => True) (fun _ => False) rfl ?aX (k52_mkM _ _ _ x) (fun _ hk => hk.elim) (fun _ _ => trivial) HR3.out BW2.out (by omega) (by omega) ?_; (case aX => rfl)); intro v1 w7 hR hB hG hat; have HR4 := am hR; have HB4 := am hB; obtain ⟨Af, cf, rfl⟩ := Kd.R_slice hR; have hln : (xs ++ [x]).length = xs.length + 1 := (by simp); rw [hln] at HR4; clear hR hB hG hat)
       go_roundg (V.length - (kk + 1))
       case measure => omega
       case rel => exact ⟨kk + 1, xs ++ [x], by omega, by omega, by go_num, ⟨by rw [HTQ.out, ← HX.out]⟩, by simp; omega, ⟨Af, cf, by rw [hln]⟩, HR4, HB4⟩
     have cb : decide ((kk : Int) < (V.length : Int)) = false := decide_eq_false (by omega)
     have cbn : decide (kk < V.length) = false := decide_eq_false hlt
     have hxu : xs = U := by rw [HX.out]; exact List.take_of_length_le (by rw [HUL.out]; omega)
     subst hxu
     have hcu := (Kd.R_reads' HR2.out).2.1
     have H6 := am (HW.out.addy (Kd.R_reads' HR2.out).2.2)
     have hgr : w.heap.size < wr.heap.size := blk_lt (HW.out.g _ mc)
     have a0 : wr.cell? ⟨w.heap.size, 0, none⟩ = some (.slice A ids.length c) := HW.out.cell mc 0 rfl; have a1 : wr.cell? ⟨w.heap.size, 1, none⟩ = some (.bool rc) := HW.out.cell mc 1 rfl; have a2 : wr.cell? ⟨w.heap.size, 2, none⟩ = some (.int .i64 rn) := HW.out.cell mc 2 rfl; have a3 : wr.cell? ⟨w.heap.size, 3, none⟩ = some (.bool jb) := HW.out.cell mc 3 rfl
     clear HR2 HX BW hsr H5
     go_upto_region 15 with (first
      | (go_at_call 16; refine (H6.out.copyA rc rn jb mc hlc ht8.out).mono ?_; rintro e wa ⟨Ba, ka, rfl, hka, ha⟩; have Ha := am ha; clear ha)
      | (go_at_call 17; refine (Ha.out.copyW mc hcu hUx).mono ?_; rintro e wb ⟨Bb, kb, rfl, hkb, hb⟩; have Hb := am hb; clear hb)
      | (go_at_call 18; refine (Hb.out.checkV rc rn jb mc mc hUx FS.out.2.2.2.2.1).mono ?_; rintro e w8 ⟨rfl, h8⟩; have H8 := am h8.popi.popy; clear h8 Ha Hb))
     clear a0 a1 a2 a3 hgr H6 HW
     have hg8 : w.heap.size < w8.heap.size := blk_lt (H8.out.g _ mc)
     have a0 : w8.cell? ⟨w.heap.size, 0, none⟩ = some (.slice A ids.length c) := H8.out.cell mc 0 rfl; have a1 : w8.cell? ⟨w.heap.size, 1, none⟩ = some (.bool rc) := H8.out.cell mc 1 rfl; have a2 : w8.cell? ⟨w.heap.size, 2, none⟩ = some (.int .i64 rn) := H8.out.cell mc 2 rfl; have a3 : w8.cell? ⟨w.heap.size, 3, none⟩ = some (.bool jb) := H8.out.cell mc 3 rfl
     go_upto_region 16 with (first
      | (go_at_call 16; refine (H8.out.copyA rc rn jb mc hlc ht8.out).mono ?_; rintro e wa ⟨Ba, ka, rfl, hka, ha⟩; have Ha := am ha; clear ha)
      | (go_at_call 25; refine (Ha.out.viewV rc rn jb mc mc hUx FS.out.2.2.2.2.2.1 FS.out.2.2.2.2.2.2).mono ?_; rintro e w9 ⟨Br, kr, rfl, hkr, h9⟩; have H9 := am h9.popi; clear h9 Ha))
     clear a0 a1 a2 a3 hg8 H8
     go_wp2_with fail
     go_loopg [15] (R.length + 1) (fun gg s15 wr2 => ∃ (nn : Nat), nn ≤ R.length ∧ R.length - nn ≤ gg ∧ s15 = .int .i64 nn ∧ Aside0 (Lw w wr2 [(A, ids)] [(A2, xs), (A1, l)] [(Br, R), (Bj, J), (Bv, V)] [(w.heap.size, #[.slice A ids.length c, .bool rc, .int .i64 rn, .bool jb], 26)]))
     case atStart => exact ⟨0, Nat.zero_le _, by omega, rfl, H9⟩
     case round =>
      clear H9
      obtain ⟨nn, hnn, hg2, rfl, HN⟩ := hrel
      by_cases hnl : nn < R.length
      ·have dn : decide ((nn : Int) < (R.length : Int)) = true := decide_eq_true (by omega)
       have dn2 : decide (nn < R.length) = true := decide_eq_true hnl
       obtain ⟨ad3, e3, r0⟩ := Kd.at_int (HN.out.x _ mc) (nn : Int) (by omega) (show (nn : Int) < (R.length : Int) by omega)
       cases e3
       rw [Int.toNat_natCast, HRI.out nn hnl] at r0
       go_wp2_with fail
       go_roundg (R.length - (nn + 1))
       case measure => omega
       case rel => exact ⟨nn + 1, by omega, by omega, by go_num, HN⟩
      have dn : decide ((nn : Int) < (R.length : Int)) = false := decide_eq_false (by omega)
      have dn2 : decide (nn < R.length) = false := decide_eq_false hnl
      go_wp2_with (go_at_call 15; refine HN.out.awake.mono ?_; rintro e w10 ⟨rfl, h10⟩)
      go_ret
      exact ⟨rfl, h10.b⟩
  have hev : (((l.length : Int) % 2) == 0) = true := beq_iff_eq.2 (by omega)
  have hev2 : (((l.length : Int).tmod 2) == 0) = true := by rw [Int.tmod_eq_emod_of_nonneg (by omega)]; exact hev
  clear hE ht hodd
  go_enter Tryz.func10, Tryz.ntmps10
  go_wp2_with (first
   | (go_at_call 30; refine (H0.out.legal rc rn jb mc mc hlc).mono ?_; rw [HT.out]; rintro e w1 ⟨rfl, h1⟩; have H1 := am h1; clear h1; have hg1 : w.heap.size < w1.heap.size := blk_lt (H1.out.g _ mc); have a0 : w1.cell? ⟨w.heap.size, 0, none⟩ = some (.slice A ids.length c) := H1.out.cell mc 0 rfl; have a1 : w1.cell? ⟨w.heap.size, 1, none⟩ = some (.bool rc) := H1.out.cell mc 1 rfl; have a2 : w1.cell? ⟨w.heap.size, 2, none⟩ = some (.int .i64 rn) := H1.out.cell mc 2 rfl; have a3 : w1.cell? ⟨w.heap.size, 3, none⟩ = some (.bool jb) := H1.out.cell mc 3 rfl)
   | (go_at_call 15; refine H1.out.awake.mono ?_; rintro e w2 ⟨rfl, h2⟩))
  go_ret
  exact ⟨rfl, h2.b⟩
end Go.Proofs.YtjgocihflhljeaaGreat.P
