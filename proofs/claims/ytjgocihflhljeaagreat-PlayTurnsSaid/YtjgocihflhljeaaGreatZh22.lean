/- What the claim's law needs, many texts in one (Dl). No conditions of its own. -/
import Derived.Test.YtjgocihflhljeaaGreatZh21
set_option linter.unusedVariables false
set_option linter.unusedSimpArgs false
namespace Go.Proofs.YtjgocihflhljeaaGreat.P
open Go.RowKit Go.Shelf Go.Proofs.YtjgocihflhljeaaGreatW.PrintWords Go.Proofs.YtjgocihflhljeaaGreatW.PrintLast Go.Proofs.YtjgocihflhljeaaGreatW.PrintMore
attribute [local go_sem] Oper.semAt_some
section
variable {w W W' : World} {I : List (Option Addr × List S68)} {Y : List (Option Addr × List Mv)} {X : List (Option Addr × List Int)} {G : List (Nat × Array Value × TypeId)}
theorem Lw.rebase (h : Lw w W I Y X G) : Lw W W I Y X G := ⟨Below.refl _ _, h.i, h.y, h.x, h.g⟩
theorem Lw.popx {p : Option Addr × List Int} (h : Lw w W I Y (p :: X) G) : Lw w W I Y X G := ⟨h.b, h.i, h.y, fun q hq => h.x q (List.mem_cons_of_mem _ hq), h.g⟩
theorem Lw.copyT (h : Lw w W I Y X G) {A1 : Option Addr} {c1 : Nat} {l q : List Mv} (hy : (A1, l) ∈ Y) (n : Nat) (hq : l.take n = q) (hn : n ≤ l.length) (hc1 : l.length ≤ c1) (hl : l.length ≤ 1000000) :
  Calls Tryz.prog 17 #[.slice A1 n c1] W fun e w' => ∃ B k, e = .returned (.slice B q.length k) ∧ q.length ≤ k ∧ Lw w w' I ((B, q) :: Y) X G := by
 subst hq
 have hlen : (l.take n).length = n := by rw [List.length_take]; omega
 have hC := Kd.C_take (h.y _ hy) hn
 have hcp := riposteref05_Copy.calls A1 c1 (l.take n) (l.take n) W hC (by omega) (copyW_f _ (by omega))
 rw [hlen] at hcp
 refine hcp.mono ?_
 rintro e w' ⟨v, rfl, hR, hb⟩
 obtain ⟨B, k, rfl, hk, hC2⟩ := Kd.R_reads hR
 exact ⟨B, k, rfl, hk, (h.below hb).addy hC2⟩
theorem Lw.standE (h : Lw w W I Y X G) {A A1 : Option Addr} {c c1 : Nat} {ids : List S68} {l : List Mv} {T : Tk} (rc : Bool) (rn : Int) (jb : Bool) (hi : (A, ids) ∈ I) (hy : (A1, l) ∈ Y) (hl : l.length ≤ 1000000) (hE : tellE ids rc rn jb l = 0) (hT : talkL ids rc rn jb l = T) :
  Calls Tryz.prog 19 #[.agg #[.slice A ids.length c, .bool rc, .int .i64 rn, .bool jb], .slice A1 l.length c1] W fun e w' => ∃ B k, e = .returned (.tuple #[.agg #[.int .u8 T.turn, .slice B T.opn.length k, .bool T.force, .bool T.lost], .int .i64 0]) ∧ T.opn.length ≤ k ∧ Lw w w' I Y ((B, T.opn) :: X) G := by
 have hs := h.stand (c := c) (c1 := c1) rc rn jb hi hy hl
 rw [hE, hT] at hs
 exact hs
theorem Lw.nextE (h : Lw w W I Y X G) {A A1 : Option Addr} {c c1 : Nat} {ids : List S68} {l nx : List Mv} {T : Tk} (rc : Bool) (rn : Int) (jb : Bool) (hi : (A, ids) ∈ I) (hy : (A1, l) ∈ Y) (hl : l.length ≤ 1000000) (hE : tellE ids rc rn jb l = 0) (hT : talkL ids rc rn jb l = T) (hx : nextL jb T (movesA ids rc rn jb) = nx) :
  Calls Tryz.prog 32 #[.agg #[.slice A ids.length c, .bool rc, .int .i64 rn, .bool jb], .slice A1 l.length c1] W fun e w' => ∃ B k, e = .returned (.tuple #[.slice B nx.length k, .int .i64 0]) ∧ nx.length ≤ k ∧ Lw w w' I ((B, nx) :: Y) X G := by
 have hs := h.next (c := c) (c1 := c1) rc rn jb hi hy hl
 rw [hE, hT, okL_ok _ rfl, hx] at hs
 exact hs
end
theorem rIsOther_eq (m : Mv) (b : Bool) (h : isOB m = b) (w : World) : Calls Tryz.prog 34 #[.agg #[.int .i64 m.f0, .int .i64 m.f1, .int .u8 m.f2, .int .i64 m.f3]] w fun e w' => e = .returned (.bool b) ∧ Below w.heap.size w w' := h ▸ rIsOther_any m w
theorem rLess_true (a b : Mv) (hl : LessM a b) (w : World) : Calls Tryz.prog 35 #[.agg #[.int .i64 a.f0, .int .i64 a.f1, .int .u8 a.f2, .int .i64 a.f3], .agg #[.int .i64 b.f0, .int .i64 b.f1, .int .u8 b.f2, .int .i64 b.f3]] w fun e w' => e = .returned (.bool true) ∧ Below w.heap.size w w' :=
 riposteref04_Less.calls a.f0 a.f1 a.f2 a.f3 b.f0 b.f1 b.f2 b.f3 true w (less_f hl)
theorem turn_vals (t : Tk) : t.turn = 1 ∨ t.turn = 2 ∨ t.turn = 3 := by
 unfold Tk.turn
 split
 ·exact .inr (.inr rfl)
 split
 ·split
  ·exact .inl rfl
  exact .inr (.inl rfl)
 exact .inl rfl
set_option maxRecDepth 8000 in
set_option maxHeartbeats 8000000 in
theorem playTurns_any (A : Option Addr) (c : Nat) (ids : List S68) (rc : Bool) (rn : Int) (jb : Bool) (A1 : Option Addr) (c1 : Nat) (l : List Mv) (w : World) (hr : Kd.C k68 w A ids.length ids) (hlc : ids.length ≤ c) (hr1 : Kd.C k52 w A1 l.length l) (hlc1 : l.length ≤ c1) :
  Calls Tryz.prog 5 #[.agg #[.slice A ids.length c, .bool rc, .int .i64 rn, .bool jb], .slice A1 l.length c1] w fun e w' => e = .returned (.bool true) ∧ Below w.heap.size w w' := by
 have H0 := am ((Lw.start hr hr1).new #[.slice A ids.length c, .bool rc, .int .i64 rn, .bool jb] 26)
 clear hr hr1
 cases ht : legalB ids rc rn jb l with
 | false =>
  have HT := am ht
  clear ht
  go_enter Tryz.func5, Tryz.ntmps5
  go_wp2_with (first
   | (go_at_call 30; refine (H0.out.legal rc rn jb mc mc hlc).mono ?_; rw [HT.out]; rintro e w1 ⟨rfl, h1⟩; have H1 := am h1; clear h1; have hg1 : w.heap.size < w1.heap.size := blk_lt (H1.out.g _ mc); have a0 : w1.cell? ⟨w.heap.size, 0, none⟩ = some (.slice A ids.length c) := H1.out.cell mc 0 rfl; have a1 : w1.cell? ⟨w.heap.size, 1, none⟩ = some (.bool rc) := H1.out.cell mc 1 rfl; have a2 : w1.cell? ⟨w.heap.size, 2, none⟩ = some (.int .i64 rn) := H1.out.cell mc 2 rfl; have a3 : w1.cell? ⟨w.heap.size, 3, none⟩ = some (.bool jb) := H1.out.cell mc 3 rfl)
   | (go_at_call 15; refine H1.out.awake.mono ?_; rintro e w2 ⟨rfl, h2⟩))
  go_ret
  exact ⟨rfl, h2.b⟩
 | true =>
  have HT := am ht
  obtain ⟨ht8', hl80, hE⟩ := legal_of ht
  have ht8 := am ht8'
  have hlx : l.length ≤ 1000000 := by omega
  have HOK := am (tellE_zero hE).1
  have hml := movesA_len (tellE_zero hE).1 rc jb
  obtain ⟨mz, hmz⟩ : ∃ mz, (movesA ids rc rn jb).length = mz := ⟨_, rfl⟩
  rw [hmz] at hml
  have HMZ := am hmz
  clear ht ht8' hmz
  by_cases h3 : 300 < mz
  ·have hz : (300 : Int) < (mz : Int) := by omega
   clear hE
   go_enter Tryz.func5, Tryz.ntmps5
   go_wp2_with (first
    | (go_at_call 30; refine (H0.out.legal rc rn jb mc mc hlc).mono ?_; rw [HT.out]; rintro e w1 ⟨rfl, h1⟩; have H1 := am h1; clear h1; have hg1 : w.heap.size < w1.heap.size := blk_lt (H1.out.g _ mc); have a0 : w1.cell? ⟨w.heap.size, 0, none⟩ = some (.slice A ids.length c) := H1.out.cell mc 0 rfl; have a1 : w1.cell? ⟨w.heap.size, 1, none⟩ = some (.bool rc) := H1.out.cell mc 1 rfl; have a2 : w1.cell? ⟨w.heap.size, 2, none⟩ = some (.int .i64 rn) := H1.out.cell mc 2 rfl; have a3 : w1.cell? ⟨w.heap.size, 3, none⟩ = some (.bool jb) := H1.out.cell mc 3 rfl)
    | ((go_at_call 31; refine (H1.out.all rc rn jb mc hlc HOK.out).mono ?_; rintro e w2 ⟨Bz, kz, rfl, h2⟩; have H2 := am h2; clear h2; have hgo2 := blk_lt (H2.out.g _ mc)); rw [HMZ.out])
    | (go_at_call 15; refine H2.out.awake.mono ?_; rintro e w3 ⟨rfl, h3⟩))
   go_ret
   exact ⟨rfl, h3.b⟩
  have hz : decide ((300 : Int) < (mz : Int)) = false := decide_eq_false (by omega)
  have hm300 : mz ≤ 300 := by omega
  have HE := am hE
  clear hE h3
  go_enter Tryz.func5, Tryz.ntmps5
  go_upto_region 3 with (first
   | (go_at_call 30; refine (H0.out.legal rc rn jb mc mc hlc).mono ?_; rw [HT.out]; rintro e w1 ⟨rfl, h1⟩; have H1 := am h1; clear h1; have hg1 : w.heap.size < w1.heap.size := blk_lt (H1.out.g _ mc); have a0 : w1.cell? ⟨w.heap.size, 0, none⟩ = some (.slice A ids.length c) := H1.out.cell mc 0 rfl; have a1 : w1.cell? ⟨w.heap.size, 1, none⟩ = some (.bool rc) := H1.out.cell mc 1 rfl; have a2 : w1.cell? ⟨w.heap.size, 2, none⟩ = some (.int .i64 rn) := H1.out.cell mc 2 rfl; have a3 : w1.cell? ⟨w.heap.size, 3, none⟩ = some (.bool jb) := H1.out.cell mc 3 rfl)
   | ((go_at_call 31; refine (H1.out.all rc rn jb mc hlc HOK.out).mono ?_; rintro e w2 ⟨Bz, kz, rfl, h2⟩; have H2 := am h2; clear h2; have hgo2 := blk_lt (H2.out.g _ mc)); rw [HMZ.out]))
  clear a0 a1 a2 a3 hg1 H1 H0
  have hwz : w.heap.size ≤ w2.heap.size := H2.out.b.size
  go_wp2_with fail
  go_loopg [5] (l.length + 1) (fun gg s5 wr => ∃ (kk : Nat), kk ≤ l.length + 1 ∧ l.length + 1 - kk ≤ gg ∧ s5 = .int .i64 kk ∧ Aside0 (Lw w wr [(A, ids)] [(A1, l)] [] [(w.heap.size, #[.slice A ids.length c, .bool rc, .int .i64 rn, .bool jb], 26)]))
  case atStart => exact ⟨0, Nat.zero_le _, by omega, rfl, H2⟩
  case round =>
   clear H2 hgo2 hwz
   obtain ⟨kk, hkk, hg, rfl, HW⟩ := hrel
   by_cases hlt : kk ≤ l.length
   ·have cb : decide ((kk : Int) ≤ (l.length : Int)) = true := decide_eq_true (by omega)
    obtain ⟨hEk, hwk⟩ := tell_take HE.out kk hlt
    obtain ⟨q, hq⟩ : ∃ q, l.take kk = q := ⟨_, rfl⟩
    rw [hq] at hEk hwk
    have hql : q.length = kk := by rw [← hq, List.length_take]; omega
    have HQ := am hq
    have HEk := am hEk
    have HWk := am hwk
    clear hq hEk hwk
    have hqx : q.length ≤ 1000000 := by omega
    have hkc : (kk : Int) ≤ (c1 : Int) := by omega
    go_upto_region 6 with fail
    have HWd := am (HW.out.below ((Below.refl _ wr).drew))
    have HL := am HWd.out.rebase
    obtain ⟨T, hT⟩ : ∃ T, talkL ids rc rn jb q = T := ⟨_, rfl⟩
    obtain ⟨nx, hnx⟩ : ∃ nx, nextL jb T (movesA ids rc rn jb) = nx := ⟨_, rfl⟩
    have HTT := am hT
    have HNX := am hnx
    clear hT hnx
    refine start_ (n := 13) (S := fun w' => w'.cell? ⟨w.heap.size, 0, none⟩ = some (.slice A ids.length c) ∧ w'.cell? ⟨w.heap.size, 1, none⟩ = some (.bool rc) ∧ w'.cell? ⟨w.heap.size, 2, none⟩ = some (.int .i64 rn) ∧ w'.cell? ⟨w.heap.size, 3, none⟩ = some (.bool jb)) (ds := [11]) #[Z,Z,Z,Z,Z,Z,Z,Z,Z,Z,Z,Z,Z] (by kernel_rfl) rfl rfl ⟨(HL.out).cell mc 0 rfl, (HL.out).cell mc 1 rfl, (HL.out).cell mc 2 rfl, (HL.out).cell mc 3 rfl⟩ (fun hHeld => ?_)
    generalize wr.drew = wd at HL HWd hHeld ⊢
    refine pure_ (i := 2) (N := some 31) (v := ?_) (a' := ?_) #[Z,Z,Y,Z,Z,Z,Z,Z,Z,Z,Z,Z,Z] rfl rfl (by kernel_rfl) (fun _ _ _ h => h) (Or.inl ⟨by rfl, ?_⟩) ?_ ?_;rotate_left;(intro w';go_simp;with_reducible rfl);rotate_left;(simp only [Act.put, sn1, sn2, sn3, i64_w];rfl)
    refine pure_ (i := 3) (N := some 32) (v := ?_) (a' := ?_) #[Z,Z,Y,Y,Z,Z,Z,Z,Z,Z,Z,Z,Z] rfl rfl (by kernel_rfl) (fun _ _ _ h => h) (Or.inl ⟨by rfl, ?_⟩) ?_ ?_;rotate_left;(intro w';go_simp;with_reducible rfl);rotate_left;(simp only [Act.put, sn1, sn2, sn3, i64_w];rfl)
    refine pure_ (i := 4) (N := some 33) (v := ?_) (a' := ?_) #[Z,Z,Y,Y,Y,Z,Z,Z,Z,Z,Z,Z,Z] rfl rfl (by kernel_rfl) (fun _ _ _ h => h) (Or.inl ⟨by rfl, ?_⟩) ?_ ?_;rotate_left;(intro w';go_simp;with_reducible rfl);rotate_left;(simp only [Act.put, sn1, sn2, sn3, i64_w];rfl)
    refine take_ (i := 0) (N := some 29) (v := ?_) (a' := ?_) #[Y,Z,Y,Y,Y,Z,Z,Z,Z,Z,Z,Z,Z] rfl rfl (by kernel_rfl) (fun _ _ _ h => h) (Or.inl ⟨by rfl, ?_⟩) hHeld ?_ ?_
    rotate_left
    ·rintro w' ⟨s0, s1, s2, s3⟩
     go_simp
     with_reducible rfl
    rotate_left
    ·simp only [Act.put, sn1, sn2, sn3, i64_w]
     rfl
    refine join_ (σ := (Option Addr × Nat) × (Option Addr × Nat) × (Option Addr × Nat) × Nat) 2 #[Y,Y,Y,Y,Y,Y,Y,Y,Y,Y,Y,Z,Z] (fun s => [(30, .agg #[.slice s.1.1 ids.length s.1.2, .bool rc, .int .i64 rn, .bool jb]), (34, .slice s.2.1.1 q.length s.2.1.2), (35, .tuple #[.agg #[.int .u8 T.turn, .slice s.2.2.1.1 T.opn.length s.2.2.1.2, .bool T.force, .bool T.lost], .int .i64 0]), (28, .tuple #[.agg #[.int .u8 T.turn, .slice s.2.2.1.1 T.opn.length s.2.2.1.2, .bool T.force, .bool T.lost], .int .i64 0]), (36, .agg #[.int .u8 T.turn, .slice s.2.2.1.1 T.opn.length s.2.2.1.2, .bool T.force, .bool T.lost]), (37, .int .i64 0), (6, .pointer (some ⟨s.2.2.2, 0, none⟩))]) (fun s w' => Lw wd w' [(A, ids)] [(A1, l)] [] [(s.2.2.2, #[.int .u8 0, .slice none 0 0, .bool false, .bool false], 38), (w.heap.size, #[.slice A ids.length c, .bool rc, .int .i64 rn, .bool jb], 26)] ∧ T.opn.length ≤ s.2.2.1.2 ∧ wd.heap.size ≤ s.2.2.2) ?_ ?_
    rotate_left
    ·intro hCont
     refine two_ (i := 1) (j := 10) (Ni := some 30) (Nj := some 6) #[Y,Y,Y,Y,Y,Z,Z,Z,Z,Z,Z,Z,Z] #[Y,Z,Y,Y,Y,Z,Z,Z,Z,Z,Y,Z,Z] rfl rfl rfl rfl (by kernel_rfl) (by decide) (by decide) (fun K hK => ?_) (fun K hK => ?_)
     ·skip
      refine goes_ Tryz.func16 (by kernel_rfl) rfl #[.agg #[.slice A ids.length c, .bool rc, .int .i64 rn, .bool jb]] (by rfl) rfl rfl (by simp only [List.map_toArray, List.map_cons, List.map_nil]; rfl) ?_
      with_reducible refine ((HL.out).copyA rc rn jb mc hlc ht8.out).mono ?_
      rintro e wa ⟨Ba, ka, rfl, hka, ha⟩
      refine ⟨_, rfl, ?_⟩
      have Ha := am ha
      clear ha
      refine hK.out _ _ ⟨(Ha.out).cell mc 0 rfl, (Ha.out).cell mc 1 rfl, (Ha.out).cell mc 2 rfl, (Ha.out).cell mc 3 rfl⟩ (fun hHeld => ?_)
      clear hK K
      refine norm_ (a' := ?_) ?_ ?_
      rotate_left
      ·show Act.put _ (some 30) _ = _
       simp only [Act.put, sn1, sn2, sn3, i64_w]
       rfl
      refine two_ (i := 5) (j := 10) (Ni := some 34) (Nj := some 6) #[Y,Y,Y,Y,Y,Y,Z,Z,Z,Z,Z,Z,Z] #[Y,Y,Y,Y,Y,Z,Z,Z,Z,Z,Y,Z,Z] rfl rfl rfl rfl (by kernel_rfl) (by decide) (by decide) (fun K hK => ?_) (fun K hK => ?_)
      ·skip
       refine goes_ Tryz.func17 (by kernel_rfl) rfl #[.slice A1 kk c1] (by rfl) rfl rfl (by simp only [List.map_toArray, List.map_cons, List.map_nil]; rfl) ?_
       with_reducible refine ((Ha.out).copyT mc kk HQ.out hlt hlc1 hlx).mono ?_
       rintro e wb ⟨Bb, kb, rfl, hkb, hb⟩
       refine ⟨_, rfl, ?_⟩
       have Hb := am hb
       clear hb
       refine hK.out _ _ ⟨(Hb.out).cell mc 0 rfl, (Hb.out).cell mc 1 rfl, (Hb.out).cell mc 2 rfl, (Hb.out).cell mc 3 rfl⟩ (fun hHeld => ?_)
       clear hK K
       refine norm_ (a' := ?_) ?_ ?_
       rotate_left
       ·show Act.put _ (some 34) _ = _
        simp only [Act.put, sn1, sn2, sn3, i64_w]
        rfl
       refine two_ (i := 6) (j := 10) (Ni := some 35) (Nj := some 6) #[Y,Y,Y,Y,Y,Y,Y,Z,Z,Z,Z,Z,Z] #[Y,Y,Y,Y,Y,Y,Z,Z,Z,Z,Y,Z,Z] rfl rfl rfl rfl (by kernel_rfl) (by decide) (by decide) (fun K hK => ?_) (fun K hK => ?_)
       ·skip
        refine goes_ Tryz.func19 (by kernel_rfl) rfl #[.agg #[.slice Ba ids.length ka, .bool rc, .int .i64 rn, .bool jb], .slice Bb q.length kb] (by rfl) rfl rfl (by simp only [List.map_toArray, List.map_cons, List.map_nil]; rfl) ?_
        with_reducible refine ((Hb.out).standE rc rn jb mc mc hqx HEk.out HTT.out).mono ?_
        rintro e wc ⟨Bc, kc, rfl, hkc, hc⟩
        refine ⟨_, rfl, ?_⟩
        have Hc := am hc
        clear hc
        refine hK.out _ _ ⟨(Hc.out).cell mc 0 rfl, (Hc.out).cell mc 1 rfl, (Hc.out).cell mc 2 rfl, (Hc.out).cell mc 3 rfl⟩ (fun hHeld => ?_)
        clear hK K
        refine norm_ (a' := ?_) ?_ ?_
        rotate_left
        ·show Act.put _ (some 35) _ = _
         simp only [Act.put, sn1, sn2, sn3, i64_w]
         rfl
        refine pure_ (i := 7) (N := some 28) (v := ?_) (a' := ?_) #[Y,Y,Y,Y,Y,Y,Y,Y,Z,Z,Z,Z,Z] rfl rfl (by kernel_rfl) (fun _ _ _ h => h) (Or.inl ⟨by rfl, ?_⟩) ?_ ?_;rotate_left;(intro w';go_simp;with_reducible rfl);rotate_left;(simp only [Act.put, sn1, sn2, sn3, i64_w];rfl)
        refine pure_ (i := 8) (N := some 36) (v := ?_) (a' := ?_) #[Y,Y,Y,Y,Y,Y,Y,Y,Y,Z,Z,Z,Z] rfl rfl (by kernel_rfl) (fun _ _ _ h => h) (Or.inl ⟨by rfl, ?_⟩) ?_ ?_;rotate_left;(intro w';go_simp;with_reducible rfl);rotate_left;(simp only [Act.put, sn1, sn2, sn3, i64_w];rfl)
        refine pure_ (i := 9) (N := some 37) (v := ?_) (a' := ?_) #[Y,Y,Y,Y,Y,Y,Y,Y,Y,Y,Z,Z,Z] rfl rfl (by kernel_rfl) (fun _ _ _ h => h) (Or.inl ⟨by rfl, ?_⟩) ?_ ?_;rotate_left;(intro w';go_simp;with_reducible rfl);rotate_left;(simp only [Act.put, sn1, sn2, sn3, i64_w];rfl)
        refine one_ (i := 10) (N := some 6) #[Y,Y,Y,Y,Y,Y,Y,Y,Y,Y,Y,Z,Z] rfl rfl (by kernel_rfl) (by decide) (fun K hK => ?_)
        refine value_ (w1 := ?_) (v := ?_) (by rfl) rfl ?_ ?_
        rotate_left 2
        ·go_simp
         constructor
         ·rfl
         rfl
        refine hK.out _ _ ⟨(((Hc.out).new #[.int .u8 0, .slice none 0 0, .bool false, .bool false] 38)).cell (List.mem_cons_of_mem _ mc) 0 rfl, (((Hc.out).new #[.int .u8 0, .slice none 0 0, .bool false, .bool false] 38)).cell (List.mem_cons_of_mem _ mc) 1 rfl, (((Hc.out).new #[.int .u8 0, .slice none 0 0, .bool false, .bool false] 38)).cell (List.mem_cons_of_mem _ mc) 2 rfl, (((Hc.out).new #[.int .u8 0, .slice none 0 0, .bool false, .bool false] 38)).cell (List.mem_cons_of_mem _ mc) 3 rfl⟩ (fun hHeld => ?_)
        clear hK K
        refine norm_ (a' := ?_) ?_ ?_
        rotate_left
        ·show Act.put _ (some 6) _ = _
         simp only [Act.put, sn1, sn2, sn3, i64_w]
         rfl
        exact norm_ (by simp only [putAll, Act.put, sn1, sn2, sn3]) (hCont ((Ba, ka), (Bb, kb), (Bc, kc), wc.heap.size) _ ⟨((Hc.out.popi.popy.popx).new #[.int .u8 0, .slice none 0 0, .bool false, .bool false] 38), hkc, Hc.out.b.size⟩)
       skip
       refine value_ (w1 := ?_) (v := ?_) (by rfl) rfl ?_ ?_
       rotate_left 2
       ·go_simp
        constructor
        ·rfl
        rfl
       refine hK.out _ _ ⟨(((Hb.out).new #[.int .u8 0, .slice none 0 0, .bool false, .bool false] 38)).cell (List.mem_cons_of_mem _ mc) 0 rfl, (((Hb.out).new #[.int .u8 0, .slice none 0 0, .bool false, .bool false] 38)).cell (List.mem_cons_of_mem _ mc) 1 rfl, (((Hb.out).new #[.int .u8 0, .slice none 0 0, .bool false, .bool false] 38)).cell (List.mem_cons_of_mem _ mc) 2 rfl, (((Hb.out).new #[.int .u8 0, .slice none 0 0, .bool false, .bool false] 38)).cell (List.mem_cons_of_mem _ mc) 3 rfl⟩ (fun hHeld => ?_)
       clear hK K
       refine norm_ (a' := ?_) ?_ ?_
       rotate_left
       ·show Act.put _ (some 6) _ = _
        simp only [Act.put, sn1, sn2, sn3, i64_w]
        rfl
       refine one_ (i := 6) (N := some 35) #[Y,Y,Y,Y,Y,Y,Y,Z,Z,Z,Y,Z,Z] rfl rfl (by kernel_rfl) (by decide) (fun K hK => ?_)
       refine goes_ Tryz.func19 (by kernel_rfl) rfl #[.agg #[.slice Ba ids.length ka, .bool rc, .int .i64 rn, .bool jb], .slice Bb q.length kb] (by rfl) rfl rfl (by simp only [List.map_toArray, List.map_cons, List.map_nil]; rfl) ?_
       with_reducible refine ((((Hb.out).new #[.int .u8 0, .slice none 0 0, .bool false, .bool false] 38)).standE rc rn jb mc mc hqx HEk.out HTT.out).mono ?_
       rintro e wc ⟨Bc, kc, rfl, hkc, hc⟩
       refine ⟨_, rfl, ?_⟩
       have Hc := am hc
       clear hc
       refine hK.out _ _ ⟨(Hc.out).cell (List.mem_cons_of_mem _ mc) 0 rfl, (Hc.out).cell (List.mem_cons_of_mem _ mc) 1 rfl, (Hc.out).cell (List.mem_cons_of_mem _ mc) 2 rfl, (Hc.out).cell (List.mem_cons_of_mem _ mc) 3 rfl⟩ (fun hHeld => ?_)
       clear hK K
       refine norm_ (a' := ?_) ?_ ?_
       rotate_left
       ·show Act.put _ (some 35) _ = _
        simp only [Act.put, sn1, sn2, sn3, i64_w]
        rfl
       refine pure_ (i := 7) (N := some 28) (v := ?_) (a' := ?_) #[Y,Y,Y,Y,Y,Y,Y,Y,Z,Z,Y,Z,Z] rfl rfl (by kernel_rfl) (fun _ _ _ h => h) (Or.inl ⟨by rfl, ?_⟩) ?_ ?_;rotate_left;(intro w';go_simp;with_reducible rfl);rotate_left;(simp only [Act.put, sn1, sn2, sn3, i64_w];rfl)
       refine pure_ (i := 8) (N := some 36) (v := ?_) (a' := ?_) #[Y,Y,Y,Y,Y,Y,Y,Y,Y,Z,Y,Z,Z] rfl rfl (by kernel_rfl) (fun _ _ _ h => h) (Or.inl ⟨by rfl, ?_⟩) ?_ ?_;rotate_left;(intro w';go_simp;with_reducible rfl);rotate_left;(simp only [Act.put, sn1, sn2, sn3, i64_w];rfl)
       refine pure_ (i := 9) (N := some 37) (v := ?_) (a' := ?_) #[Y,Y,Y,Y,Y,Y,Y,Y,Y,Y,Y,Z,Z] rfl rfl (by kernel_rfl) (fun _ _ _ h => h) (Or.inl ⟨by rfl, ?_⟩) ?_ ?_;rotate_left;(intro w';go_simp;with_reducible rfl);rotate_left;(simp only [Act.put, sn1, sn2, sn3, i64_w];rfl)
       exact norm_ (by simp only [putAll, Act.put, sn1, sn2, sn3]) (hCont ((Ba, ka), (Bb, kb), (Bc, kc), wb.heap.size) _ ⟨Hc.out.popi.popy.popx, hkc, Hb.out.b.size⟩)
      skip
      refine value_ (w1 := ?_) (v := ?_) (by rfl) rfl ?_ ?_
      rotate_left 2
      ·go_simp
       constructor
       ·rfl
       rfl
      refine hK.out _ _ ⟨(((Ha.out).new #[.int .u8 0, .slice none 0 0, .bool false, .bool false] 38)).cell (List.mem_cons_of_mem _ mc) 0 rfl, (((Ha.out).new #[.int .u8 0, .slice none 0 0, .bool false, .bool false] 38)).cell (List.mem_cons_of_mem _ mc) 1 rfl, (((Ha.out).new #[.int .u8 0, .slice none 0 0, .bool false, .bool false] 38)).cell (List.mem_cons_of_mem _ mc) 2 rfl, (((Ha.out).new #[.int .u8 0, .slice none 0 0, .bool false, .bool false] 38)).cell (List.mem_cons_of_mem _ mc) 3 rfl⟩ (fun hHeld => ?_)
      clear hK K
      refine norm_ (a' := ?_) ?_ ?_
      rotate_left
      ·show Act.put _ (some 6) _ = _
       simp only [Act.put, sn1, sn2, sn3, i64_w]
       rfl
      refine one_ (i := 5) (N := some 34) #[Y,Y,Y,Y,Y,Y,Z,Z,Z,Z,Y,Z,Z] rfl rfl (by kernel_rfl) (by decide) (fun K hK => ?_)
      refine goes_ Tryz.func17 (by kernel_rfl) rfl #[.slice A1 kk c1] (by rfl) rfl rfl (by simp only [List.map_toArray, List.map_cons, List.map_nil]; rfl) ?_
      with_reducible refine ((((Ha.out).new #[.int .u8 0, .slice none 0 0, .bool false, .bool false] 38)).copyT mc kk HQ.out hlt hlc1 hlx).mono ?_
      rintro e wb ⟨Bb, kb, rfl, hkb, hb⟩
      refine ⟨_, rfl, ?_⟩
      have Hb := am hb
      clear hb
      refine hK.out _ _ ⟨(Hb.out).cell (List.mem_cons_of_mem _ mc) 0 rfl, (Hb.out).cell (List.mem_cons_of_mem _ mc) 1 rfl, (Hb.out).cell (List.mem_cons_of_mem _ mc) 2 rfl, (Hb.out).cell (List.mem_cons_of_mem _ mc) 3 rfl⟩ (fun hHeld => ?_)
      clear hK K
      refine norm_ (a' := ?_) ?_ ?_
      rotate_left
      ·show Act.put _ (some 34) _ = _
       simp only [Act.put, sn1, sn2, sn3, i64_w]
       rfl
      refine one_ (i := 6) (N := some 35) #[Y,Y,Y,Y,Y,Y,Y,Z,Z,Z,Y,Z,Z] rfl rfl (by kernel_rfl) (by decide) (fun K hK => ?_)
      refine goes_ Tryz.func19 (by kernel_rfl) rfl #[.agg #[.slice Ba ids.length ka, .bool rc, .int .i64 rn, .bool jb], .slice Bb q.length kb] (by rfl) rfl rfl (by simp only [List.map_toArray, List.map_cons, List.map_nil]; rfl) ?_
      with_reducible refine ((Hb.out).standE rc rn jb mc mc hqx HEk.out HTT.out).mono ?_
      rintro e wc ⟨Bc, kc, rfl, hkc, hc⟩
      refine ⟨_, rfl, ?_⟩
      have Hc := am hc
      clear hc
      refine hK.out _ _ ⟨(Hc.out).cell (List.mem_cons_of_mem _ mc) 0 rfl, (Hc.out).cell (List.mem_cons_of_mem _ mc) 1 rfl, (Hc.out).cell (List.mem_cons_of_mem _ mc) 2 rfl, (Hc.out).cell (List.mem_cons_of_mem _ mc) 3 rfl⟩ (fun hHeld => ?_)
      clear hK K
      refine norm_ (a' := ?_) ?_ ?_
      rotate_left
      ·show Act.put _ (some 35) _ = _
       simp only [Act.put, sn1, sn2, sn3, i64_w]
       rfl
      refine pure_ (i := 7) (N := some 28) (v := ?_) (a' := ?_) #[Y,Y,Y,Y,Y,Y,Y,Y,Z,Z,Y,Z,Z] rfl rfl (by kernel_rfl) (fun _ _ _ h => h) (Or.inl ⟨by rfl, ?_⟩) ?_ ?_;rotate_left;(intro w';go_simp;with_reducible rfl);rotate_left;(simp only [Act.put, sn1, sn2, sn3, i64_w];rfl)
      refine pure_ (i := 8) (N := some 36) (v := ?_) (a' := ?_) #[Y,Y,Y,Y,Y,Y,Y,Y,Y,Z,Y,Z,Z] rfl rfl (by kernel_rfl) (fun _ _ _ h => h) (Or.inl ⟨by rfl, ?_⟩) ?_ ?_;rotate_left;(intro w';go_simp;with_reducible rfl);rotate_left;(simp only [Act.put, sn1, sn2, sn3, i64_w];rfl)
      refine pure_ (i := 9) (N := some 37) (v := ?_) (a' := ?_) #[Y,Y,Y,Y,Y,Y,Y,Y,Y,Y,Y,Z,Z] rfl rfl (by kernel_rfl) (fun _ _ _ h => h) (Or.inl ⟨by rfl, ?_⟩) ?_ ?_;rotate_left;(intro w';go_simp;with_reducible rfl);rotate_left;(simp only [Act.put, sn1, sn2, sn3, i64_w];rfl)
      exact norm_ (by simp only [putAll, Act.put, sn1, sn2, sn3]) (hCont ((Ba, ka), (Bb, kb), (Bc, kc), wa.heap.size) _ ⟨Hc.out.popi.popy.popx, hkc, Ha.out.b.size⟩)
     skip
     refine value_ (w1 := ?_) (v := ?_) (by rfl) rfl ?_ ?_
     rotate_left 2
     ·go_simp
      constructor
      ·rfl
      rfl
     refine hK.out _ _ ⟨(((HL.out).new #[.int .u8 0, .slice none 0 0, .bool false, .bool false] 38)).cell (List.mem_cons_of_mem _ mc) 0 rfl, (((HL.out).new #[.int .u8 0, .slice none 0 0, .bool false, .bool false] 38)).cell (List.mem_cons_of_mem _ mc) 1 rfl, (((HL.out).new #[.int .u8 0, .slice none 0 0, .bool false, .bool false] 38)).cell (List.mem_cons_of_mem _ mc) 2 rfl, (((HL.out).new #[.int .u8 0, .slice none 0 0, .bool false, .bool false] 38)).cell (List.mem_cons_of_mem _ mc) 3 rfl⟩ (fun hHeld => ?_)
     clear hK K
     refine norm_ (a' := ?_) ?_ ?_
     rotate_left
     ·show Act.put _ (some 6) _ = _
      simp only [Act.put, sn1, sn2, sn3, i64_w]
      rfl
     refine one_ (i := 1) (N := some 30) #[Y,Y,Y,Y,Y,Z,Z,Z,Z,Z,Y,Z,Z] rfl rfl (by kernel_rfl) (by decide) (fun K hK => ?_)
     refine goes_ Tryz.func16 (by kernel_rfl) rfl #[.agg #[.slice A ids.length c, .bool rc, .int .i64 rn, .bool jb]] (by rfl) rfl rfl (by simp only [List.map_toArray, List.map_cons, List.map_nil]; rfl) ?_
     with_reducible refine ((((HL.out).new #[.int .u8 0, .slice none 0 0, .bool false, .bool false] 38)).copyA rc rn jb mc hlc ht8.out).mono ?_
     rintro e wa ⟨Ba, ka, rfl, hka, ha⟩
     refine ⟨_, rfl, ?_⟩
     have Ha := am ha
     clear ha
     refine hK.out _ _ ⟨(Ha.out).cell (List.mem_cons_of_mem _ mc) 0 rfl, (Ha.out).cell (List.mem_cons_of_mem _ mc) 1 rfl, (Ha.out).cell (List.mem_cons_of_mem _ mc) 2 rfl, (Ha.out).cell (List.mem_cons_of_mem _ mc) 3 rfl⟩ (fun hHeld => ?_)
     clear hK K
     refine norm_ (a' := ?_) ?_ ?_
     rotate_left
     ·show Act.put _ (some 30) _ = _
      simp only [Act.put, sn1, sn2, sn3, i64_w]
      rfl
     refine one_ (i := 5) (N := some 34) #[Y,Y,Y,Y,Y,Y,Z,Z,Z,Z,Y,Z,Z] rfl rfl (by kernel_rfl) (by decide) (fun K hK => ?_)
     refine goes_ Tryz.func17 (by kernel_rfl) rfl #[.slice A1 kk c1] (by rfl) rfl rfl (by simp only [List.map_toArray, List.map_cons, List.map_nil]; rfl) ?_
     with_reducible refine ((Ha.out).copyT mc kk HQ.out hlt hlc1 hlx).mono ?_
     rintro e wb ⟨Bb, kb, rfl, hkb, hb⟩
     refine ⟨_, rfl, ?_⟩
     have Hb := am hb
     clear hb
     refine hK.out _ _ ⟨(Hb.out).cell (List.mem_cons_of_mem _ mc) 0 rfl, (Hb.out).cell (List.mem_cons_of_mem _ mc) 1 rfl, (Hb.out).cell (List.mem_cons_of_mem _ mc) 2 rfl, (Hb.out).cell (List.mem_cons_of_mem _ mc) 3 rfl⟩ (fun hHeld => ?_)
     clear hK K
     refine norm_ (a' := ?_) ?_ ?_
     rotate_left
     ·show Act.put _ (some 34) _ = _
      simp only [Act.put, sn1, sn2, sn3, i64_w]
      rfl
     refine one_ (i := 6) (N := some 35) #[Y,Y,Y,Y,Y,Y,Y,Z,Z,Z,Y,Z,Z] rfl rfl (by kernel_rfl) (by decide) (fun K hK => ?_)
     refine goes_ Tryz.func19 (by kernel_rfl) rfl #[.agg #[.slice Ba ids.length ka, .bool rc, .int .i64 rn, .bool jb], .slice Bb q.length kb] (by rfl) rfl rfl (by simp only [List.map_toArray, List.map_cons, List.map_nil]; rfl) ?_
     with_reducible refine ((Hb.out).standE rc rn jb mc mc hqx HEk.out HTT.out).mono ?_
     rintro e wc ⟨Bc, kc, rfl, hkc, hc⟩
     refine ⟨_, rfl, ?_⟩
     have Hc := am hc
     clear hc
     refine hK.out _ _ ⟨(Hc.out).cell (List.mem_cons_of_mem _ mc) 0 rfl, (Hc.out).cell (List.mem_cons_of_mem _ mc) 1 rfl, (Hc.out).cell (List.mem_cons_of_mem _ mc) 2 rfl, (Hc.out).cell (List.mem_cons_of_mem _ mc) 3 rfl⟩ (fun hHeld => ?_)
     clear hK K
     refine norm_ (a' := ?_) ?_ ?_
     rotate_left
     ·show Act.put _ (some 35) _ = _
      simp only [Act.put, sn1, sn2, sn3, i64_w]
      rfl
     refine pure_ (i := 7) (N := some 28) (v := ?_) (a' := ?_) #[Y,Y,Y,Y,Y,Y,Y,Y,Z,Z,Y,Z,Z] rfl rfl (by kernel_rfl) (fun _ _ _ h => h) (Or.inl ⟨by rfl, ?_⟩) ?_ ?_;rotate_left;(intro w';go_simp;with_reducible rfl);rotate_left;(simp only [Act.put, sn1, sn2, sn3, i64_w];rfl)
     refine pure_ (i := 8) (N := some 36) (v := ?_) (a' := ?_) #[Y,Y,Y,Y,Y,Y,Y,Y,Y,Z,Y,Z,Z] rfl rfl (by kernel_rfl) (fun _ _ _ h => h) (Or.inl ⟨by rfl, ?_⟩) ?_ ?_;rotate_left;(intro w';go_simp;with_reducible rfl);rotate_left;(simp only [Act.put, sn1, sn2, sn3, i64_w];rfl)
     refine pure_ (i := 9) (N := some 37) (v := ?_) (a' := ?_) #[Y,Y,Y,Y,Y,Y,Y,Y,Y,Y,Y,Z,Z] rfl rfl (by kernel_rfl) (fun _ _ _ h => h) (Or.inl ⟨by rfl, ?_⟩) ?_ ?_;rotate_left;(intro w';go_simp;with_reducible rfl);rotate_left;(simp only [Act.put, sn1, sn2, sn3, i64_w];rfl)
     exact norm_ (by simp only [putAll, Act.put, sn1, sn2, sn3]) (hCont ((Ba, ka), (Bb, kb), (Bc, kc), wd.heap.size) _ ⟨Hc.out.popi.popy.popx, hkc, (Nat.le_refl _)⟩)
    rintro ⟨⟨Ba, ka⟩, ⟨Bb, kb⟩, ⟨Bc, kc⟩, sb⟩ wf ⟨hF, hkc, hsb⟩
    have HF := am hF
    clear hF
    have hHeld : wf.cell? ⟨w.heap.size, 0, none⟩ = some (.slice A ids.length c) ∧ wf.cell? ⟨w.heap.size, 1, none⟩ = some (.bool rc) ∧ wf.cell? ⟨w.heap.size, 2, none⟩ = some (.int .i64 rn) ∧ wf.cell? ⟨w.heap.size, 3, none⟩ = some (.bool jb) := ⟨(HF.out).cell (List.mem_cons_of_mem _ mc) 0 rfl, (HF.out).cell (List.mem_cons_of_mem _ mc) 1 rfl, (HF.out).cell (List.mem_cons_of_mem _ mc) 2 rfl, (HF.out).cell (List.mem_cons_of_mem _ mc) 3 rfl⟩
    have f0 := blk_frozen (HF.out.g _ mc) 0
    have f1 := blk_frozen (HF.out.g _ mc) 1
    have f2 := blk_frozen (HF.out.g _ mc) 2
    have f3 := blk_frozen (HF.out.g _ mc) 3
    have d0 : wf.cell? ⟨sb, 0, none⟩ = some (.int .u8 0) := HF.out.cell mc 0 rfl
    have d1 : wf.cell? ⟨sb, 1, none⟩ = some (.slice none 0 0) := HF.out.cell mc 1 rfl
    have d2 : wf.cell? ⟨sb, 2, none⟩ = some (.bool false) := HF.out.cell mc 2 rfl
    have d3 : wf.cell? ⟨sb, 3, none⟩ = some (.bool false) := HF.out.cell mc 3 rfl
    refine norm_ (a' := ?_) ?_ ?_
    rotate_left
    ·simp only [putAll, Act.put, sn1, sn2, sn3]
     rfl
    refine last_ (i := 11) (N := none) #[Y,Y,Y,Y,Y,Y,Y,Y,Y,Y,Y,Y,Z] rfl rfl (by kernel_rfl) (by decide) (fun K hK => ?_)
    refine skip_ (w1 := ?_) (by rfl) rfl ?_ ?_
    rotate_left
    ·go_simp
     rfl
    refine hK.out _ _ ?_
    clear hK K
    refine pure_ (i := 12) (N := some 7) (v := ?_) (a' := ?_) #[Y,Y,Y,Y,Y,Y,Y,Y,Y,Y,Y,Y,Y] rfl rfl (by kernel_rfl) (fun _ _ _ h => h) (Or.inl ⟨by rfl, ?_⟩) ?_ ?_;rotate_left;(intro w';go_simp;with_reducible rfl);rotate_left;(simp only [Act.put, sn1, sn2, sn3, i64_w];rfl)
    refine done_ (by kernel_rfl) ?_
    have r4 := store4 (HF.out.g _ mc) (.int .u8 T.turn) (.slice Bc T.opn.length kc) (.bool T.force) (.bool T.lost)
    have HL7 := am ((HWd.out.below (below4s HF.out.b hsb (.int .u8 T.turn) (.slice Bc T.opn.length kc) (.bool T.force) (.bool T.lost))).addg r4)
    clear r4 HL f0 f1 f2 f3 d0 d1 d2 d3 hsb HWd
    go_upto_region 7 with fail
    generalize (((wf.setCell ⟨sb, 0, none⟩ (.int .u8 T.turn)).setCell ⟨sb, 1, none⟩ (.slice Bc T.opn.length kc)).setCell ⟨sb, 2, none⟩ (.bool T.force)).setCell ⟨sb, 3, none⟩ (.bool T.lost) = w7 at HL7 ⊢
    have HL8 := am (HL7.out.below ((Below.refl _ w7).drew))
    clear HL7 HF
    refine start_ (n := 12) (S := fun w' => w'.cell? ⟨w.heap.size, 0, none⟩ = some (.slice A ids.length c) ∧ w'.cell? ⟨w.heap.size, 1, none⟩ = some (.bool rc) ∧ w'.cell? ⟨w.heap.size, 2, none⟩ = some (.int .i64 rn) ∧ w'.cell? ⟨w.heap.size, 3, none⟩ = some (.bool jb)) (ds := []) #[Z,Z,Z,Z,Z,Z,Z,Z,Z,Z,Z,Z] (by kernel_rfl) rfl rfl ⟨(HL8.out).cell (List.mem_cons_of_mem _ mc) 0 rfl, (HL8.out).cell (List.mem_cons_of_mem _ mc) 1 rfl, (HL8.out).cell (List.mem_cons_of_mem _ mc) 2 rfl, (HL8.out).cell (List.mem_cons_of_mem _ mc) 3 rfl⟩ (fun hHeld => ?_)
    generalize w7.drew = w8 at HL8 hHeld ⊢
    refine pure_ (i := 2) (N := some 41) (v := ?_) (a' := ?_) #[Z,Z,Y,Z,Z,Z,Z,Z,Z,Z,Z,Z] rfl rfl (by kernel_rfl) (fun _ _ _ h => h) (Or.inl ⟨by rfl, ?_⟩) ?_ ?_;rotate_left;(intro w';go_simp;with_reducible rfl);rotate_left;(simp only [Act.put, sn1, sn2, sn3, i64_w];rfl)
    refine pure_ (i := 3) (N := some 42) (v := ?_) (a' := ?_) #[Z,Z,Y,Y,Z,Z,Z,Z,Z,Z,Z,Z] rfl rfl (by kernel_rfl) (fun _ _ _ h => h) (Or.inl ⟨by rfl, ?_⟩) ?_ ?_;rotate_left;(intro w';go_simp;with_reducible rfl);rotate_left;(simp only [Act.put, sn1, sn2, sn3, i64_w];rfl)
    refine pure_ (i := 4) (N := some 43) (v := ?_) (a' := ?_) #[Z,Z,Y,Y,Y,Z,Z,Z,Z,Z,Z,Z] rfl rfl (by kernel_rfl) (fun _ _ _ h => h) (Or.inl ⟨by rfl, ?_⟩) ?_ ?_;rotate_left;(intro w';go_simp;with_reducible rfl);rotate_left;(simp only [Act.put, sn1, sn2, sn3, i64_w];rfl)
    refine take_ (i := 0) (N := some 39) (v := ?_) (a' := ?_) #[Y,Z,Y,Y,Y,Z,Z,Z,Z,Z,Z,Z] rfl rfl (by kernel_rfl) (fun _ _ _ h => h) (Or.inl ⟨by rfl, ?_⟩) hHeld ?_ ?_
    rotate_left
    ·rintro w' ⟨s0, s1, s2, s3⟩
     go_simp
     with_reducible rfl
    rotate_left
    ·simp only [Act.put, sn1, sn2, sn3, i64_w]
     rfl
    refine one_ (i := 1) (N := some 40) #[Y,Y,Y,Y,Y,Z,Z,Z,Z,Z,Z,Z] rfl rfl (by kernel_rfl) (by decide) (fun K hK => ?_)
    refine goes_ Tryz.func16 (by kernel_rfl) rfl #[.agg #[.slice A ids.length c, .bool rc, .int .i64 rn, .bool jb]] (by rfl) rfl rfl (by simp only [List.map_toArray, List.map_cons, List.map_nil]; rfl) ?_
    with_reducible refine (HL8.out.copyA rc rn jb mc hlc ht8.out).mono ?_
    rintro e w9 ⟨B9, k9, rfl, hk9, h9⟩
    refine ⟨_, rfl, ?_⟩
    have H9 := am h9
    clear h9
    refine hK.out _ _ ⟨(H9.out).cell (List.mem_cons_of_mem _ mc) 0 rfl, (H9.out).cell (List.mem_cons_of_mem _ mc) 1 rfl, (H9.out).cell (List.mem_cons_of_mem _ mc) 2 rfl, (H9.out).cell (List.mem_cons_of_mem _ mc) 3 rfl⟩ (fun hHeld => ?_)
    clear hK K
    refine norm_ (a' := ?_) ?_ ?_
    rotate_left
    ·show Act.put _ (some 40) _ = _
     simp only [Act.put, sn1, sn2, sn3, i64_w]
     rfl
    refine one_ (i := 5) (N := some 44) #[Y,Y,Y,Y,Y,Y,Z,Z,Z,Z,Z,Z] rfl rfl (by kernel_rfl) (by decide) (fun K hK => ?_)
    refine goes_ Tryz.func17 (by kernel_rfl) rfl #[.slice A1 kk c1] (by rfl) rfl rfl (by simp only [List.map_toArray, List.map_cons, List.map_nil]; rfl) ?_
    with_reducible refine (H9.out.copyT mc kk HQ.out hlt hlc1 hlx).mono ?_
    rintro e w10 ⟨B10, k10, rfl, hk10, h10⟩
    refine ⟨_, rfl, ?_⟩
    have H10 := am h10
    clear h10
    refine hK.out _ _ ⟨(H10.out).cell (List.mem_cons_of_mem _ mc) 0 rfl, (H10.out).cell (List.mem_cons_of_mem _ mc) 1 rfl, (H10.out).cell (List.mem_cons_of_mem _ mc) 2 rfl, (H10.out).cell (List.mem_cons_of_mem _ mc) 3 rfl⟩ (fun hHeld => ?_)
    clear hK K
    refine norm_ (a' := ?_) ?_ ?_
    rotate_left
    ·show Act.put _ (some 44) _ = _
     simp only [Act.put, sn1, sn2, sn3, i64_w]
     rfl
    refine one_ (i := 6) (N := some 45) #[Y,Y,Y,Y,Y,Y,Y,Z,Z,Z,Z,Z] rfl rfl (by kernel_rfl) (by decide) (fun K hK => ?_)
    refine goes_ Tryz.func32 (by kernel_rfl) rfl #[.agg #[.slice B9 ids.length k9, .bool rc, .int .i64 rn, .bool jb], .slice B10 q.length k10] (by rfl) rfl rfl (by simp only [List.map_toArray, List.map_cons, List.map_nil]; rfl) ?_
    with_reducible refine (H10.out.nextE rc rn jb mc mc hqx HEk.out HTT.out HNX.out).mono ?_
    rintro e w11 ⟨B11, k11, rfl, hk11, h11⟩
    refine ⟨_, rfl, ?_⟩
    have H11 := am h11.popi
    clear h11
    refine hK.out _ _ ⟨(H11.out).cell (List.mem_cons_of_mem _ mc) 0 rfl, (H11.out).cell (List.mem_cons_of_mem _ mc) 1 rfl, (H11.out).cell (List.mem_cons_of_mem _ mc) 2 rfl, (H11.out).cell (List.mem_cons_of_mem _ mc) 3 rfl⟩ (fun hHeld => ?_)
    clear hK K
    refine norm_ (a' := ?_) ?_ ?_
    rotate_left
    ·show Act.put _ (some 45) _ = _
     simp only [Act.put, sn1, sn2, sn3, i64_w]
     rfl
    refine pure_ (i := 7) (N := some 38) (v := ?_) (a' := ?_) #[Y,Y,Y,Y,Y,Y,Y,Y,Z,Z,Z,Z] rfl rfl (by kernel_rfl) (fun _ _ _ h => h) (Or.inl ⟨by rfl, ?_⟩) ?_ ?_;rotate_left;(intro w';go_simp;with_reducible rfl);rotate_left;(simp only [Act.put, sn1, sn2, sn3, i64_w];rfl)
    refine pure_ (i := 8) (N := some 46) (v := ?_) (a' := ?_) #[Y,Y,Y,Y,Y,Y,Y,Y,Y,Z,Z,Z] rfl rfl (by kernel_rfl) (fun _ _ _ h => h) (Or.inl ⟨by rfl, ?_⟩) ?_ ?_;rotate_left;(intro w';go_simp;with_reducible rfl);rotate_left;(simp only [Act.put, sn1, sn2, sn3, i64_w];rfl)
    refine pure_ (i := 9) (N := some 47) (v := ?_) (a' := ?_) #[Y,Y,Y,Y,Y,Y,Y,Y,Y,Y,Z,Z] rfl rfl (by kernel_rfl) (fun _ _ _ h => h) (Or.inl ⟨by rfl, ?_⟩) ?_ ?_;rotate_left;(intro w';go_simp;with_reducible rfl);rotate_left;(simp only [Act.put, sn1, sn2, sn3, i64_w];rfl)
    refine pure_ (i := 10) (N := some 8) (v := ?_) (a' := ?_) #[Y,Y,Y,Y,Y,Y,Y,Y,Y,Y,Y,Z] rfl rfl (by kernel_rfl) (fun _ _ _ h => h) (Or.inl ⟨by rfl, ?_⟩) ?_ ?_;rotate_left;(intro w';go_simp;with_reducible rfl);rotate_left;(simp only [Act.put, sn1, sn2, sn3, i64_w];rfl)
    refine pure_ (i := 11) (N := some 9) (v := ?_) (a' := ?_) #[Y,Y,Y,Y,Y,Y,Y,Y,Y,Y,Y,Y] rfl rfl (by kernel_rfl) (fun _ _ _ h => h) (Or.inl ⟨by rfl, ?_⟩) ?_ ?_;rotate_left;(intro w';go_simp;with_reducible rfl);rotate_left;(simp only [Act.put, sn1, sn2, sn3, i64_w];rfl)
    refine done_ (by kernel_rfl) ?_
    clear H9 H10 HL8
    go_upto_region 8 with fail
    have hI := talk_inv ids rc rn jb q hqx
    have hIE := talk_invE (ids := ids) (rc := rc) (rn := rn) (jb := jb) q hqx
    rw [HTT.out] at hI hIE
    have hTw : T.word.length = kk := by rw [← HTT.out, HWk.out, hql]
    have hturn := turn_of hI.a
    have hnil := next_nil HOK.out hI hIE
    rw [HNX.out] at hnil
    have HI := am hI
    have hnm : nx.length ≤ mz := by
     have := nextL_le jb T (movesA ids rc rn jb)
     rw [HNX.out, HMZ.out] at this
     exact this
    have cb300 : decide ((300 : Int) < (nx.length : Int)) = false := decide_eq_false (by omega)
    have hgs : sb < w11.heap.size := blk_lt (H11.out.g _ mc)
    have hfind : ∀ hk : kk < l.length, l[kk] ∈ nx := fun hk => by
     rw [← HNX.out, ← HTT.out, ← HQ.out]
     exact (mem_next HOK.out).2 (may_at HE.out hl80 kk hk)
    clear hI hIE
    have hnmz := hnm
    have hasc := asc_next ids rc rn jb T
    rw [HNX.out] at hasc
    have HASC := am hasc
    have hoth : ∀ m ∈ nx, isOB m = decide (kk % 2 = 0) := fun m hm => by
     rw [← HNX.out] at hm
     have := next_oth HOK.out HI.out hm
     rw [hTw] at this
     exact this
    have HOTH := am hoth
    clear hasc hoth
    go_cut [96] (fun x96 wx => x96 = .bool false ∧ Aside0 (Lw w wx [(A, ids)] [(B11, nx), (B10, q), (A1, l)] [] [(sb, #[.int .u8 T.turn, .slice Bc T.opn.length kc, .bool T.force, .bool T.lost], 38), (w.heap.size, #[.slice A ids.length c, .bool rc, .int .i64 rn, .bool jb], 26)]))
    case first =>
     cases hov : T.over with
     | true =>
      have htu := hturn.1.2 hov
      have hnx := hnil.2 hov
      have hkl : ¬ kk < l.length := fun hk => by have := hfind hk; rw [hnx] at this; cases this
      have cb2 : decide ((kk : Int) < (l.length : Int)) = false := decide_eq_false (by omega)
      have cb3 : decide (kk < l.length) = false := decide_eq_false hkl
      have s0 : w11.cell? ⟨sb, 0, none⟩ = some (.int .u8 3) := H11.out.cell mc 0 (v := .int .u8 3) (by rw [htu]; rfl)
      clear hnil hturn hov htu hfind hkl hk11 hnm cb300
      subst hnx
      go_wp2_with fail
      go_meet
      case rel => exact ⟨rfl, H11⟩
     | false =>
      have hnn : ¬ nx = [] := fun h => by have := hnil.1 h; rw [hov] at this; cases this
      have hz0 : ((nx.length : Int) == 0) = false := beq_false_of_ne (by have := List.length_pos_iff.2 hnn; omega)
      have h13 := hturn.2 hov
      rw [hTw] at h13
      have htv : T.turn = if kk % 2 = 0 then 1 else 2 := by
       by_cases he : kk % 2 = 0
       ·rw [if_pos he]; exact h13.2 he
       rw [if_neg he]
       have n1 : T.turn ≠ 1 := fun h => he (h13.1 h)
       have n3 : T.turn ≠ 3 := fun h => by have := hturn.1.1 h; rw [hov] at this; cases this
       rcases turn_vals T with h | h | h
       ·exact absurd h n1
       ·exact h
       exact absurd h n3
      by_cases he : kk % 2 = 0
      ·rw [if_pos he] at htv
       have s0 : w11.cell? ⟨sb, 0, none⟩ = some (.int .u8 1) := H11.out.cell mc 0 (v := .int .u8 1) (by rw [htv]; rfl)
       by_cases hkl : kk < l.length
       ·have cb2 : decide ((kk : Int) < (l.length : Int)) = true := decide_eq_true (by omega)
        have cb3 : decide (kk < l.length) = true := decide_eq_true hkl
        obtain ⟨ad, e0, m0, m1, m2, m3⟩ := at_T52 (H11.out.y _ (List.mem_cons_of_mem _ (List.mem_cons_of_mem _ mc))) (kk : Int) (by omega) (show (kk : Int) < (l.length : Int) by omega)
        cases e0
        rw [Int.toNat_natCast] at m0 m1 m2 m3
        have hm : rd_T52 l (kk : Int) = l[kk] := by rw [rd_T52, Int.toNat_natCast]; exact getD_get l z52 kk hkl
        have hmn := hfind hkl
        rw [← hm] at hmn
        generalize rd_T52 l (kk : Int) = m at *
        obtain ⟨z, hz9⟩ : ∃ z, fidx (fun x => eqM x m) nx = z := ⟨_, rfl⟩
        have HFD := H11.out.find mc hk11 (by omega) m
        have hzp : (0 : Int) ≤ z := by rw [← hz9]; exact (mem_fidx _ _).2 ⟨m, hmn, eqM_refl m⟩
        rw [hz9] at HFD
        have HFD := am HFD
        have cbz : decide (z < 0) = false := decide_eq_false (by omega)
        clear hz9 hmn hm
        clear hnil hturn hov htv hfind h13 hnn
        go_wp2_with (go_at_call 33; refine HFD.out.mono ?_; rintro e w12 ⟨rfl, h12⟩; have H12 := am h12; clear h12)
        go_meet
        case rel => exact ⟨rfl, H12⟩
       have cb2 : decide ((kk : Int) < (l.length : Int)) = false := decide_eq_false (by omega)
       have cb3 : decide (kk < l.length) = false := decide_eq_false hkl
       clear hnil hturn hov htv hfind h13 hnn
       go_wp2_with fail
       go_meet
       case rel => exact ⟨rfl, H11⟩
      rw [if_neg he] at htv
      have ho : kk % 2 = 1 := by omega
      have hob : ((kk : Int) % 2 == 0) = false := beq_false_of_ne (by omega)
      have s0 : w11.cell? ⟨sb, 0, none⟩ = some (.int .u8 2) := H11.out.cell mc 0 (v := .int .u8 2) (by rw [htv]; rfl)
      by_cases hkl : kk < l.length
      ·have cb2 : decide ((kk : Int) < (l.length : Int)) = true := decide_eq_true (by omega)
       have cb3 : decide (kk < l.length) = true := decide_eq_true hkl
       obtain ⟨ad, e0, m0, m1, m2, m3⟩ := at_T52 (H11.out.y _ (List.mem_cons_of_mem _ (List.mem_cons_of_mem _ mc))) (kk : Int) (by omega) (show (kk : Int) < (l.length : Int) by omega)
       cases e0
       rw [Int.toNat_natCast] at m0 m1 m2 m3
       have hm : rd_T52 l (kk : Int) = l[kk] := by rw [rd_T52, Int.toNat_natCast]; exact getD_get l z52 kk hkl
       have hmn := hfind hkl
       rw [← hm] at hmn
       generalize rd_T52 l (kk : Int) = m at *
       obtain ⟨z, hz9⟩ : ∃ z, fidx (fun x => eqM x m) nx = z := ⟨_, rfl⟩
       have HFD := H11.out.find mc hk11 (by omega) m
       have hzp : (0 : Int) ≤ z := by rw [← hz9]; exact (mem_fidx _ _).2 ⟨m, hmn, eqM_refl m⟩
       rw [hz9] at HFD
       have HFD := am HFD
       have cbz : decide (z < 0) = false := decide_eq_false (by omega)
       clear hz9 hmn hm
       clear hnil hturn hov htv hfind h13 hnn
       go_wp2_with (go_at_call 33; refine HFD.out.mono ?_; rintro e w12 ⟨rfl, h12⟩; have H12 := am h12; clear h12)
       go_meet
       case rel => exact ⟨rfl, H12⟩
      have cb2 : decide ((kk : Int) < (l.length : Int)) = false := decide_eq_false (by omega)
      have cb3 : decide (kk < l.length) = false := decide_eq_false hkl
      clear hnil hturn hov htv hfind h13 hnn
      go_wp2_with fail
      go_meet
      case rel => exact ⟨rfl, H11⟩
    case rest =>
     obtain ⟨rfl, HC⟩ := hcut
     clear H11 hturn hnil hfind cb300 hgs
     obtain ⟨eo, heo⟩ : ∃ eo, decide (kk % 2 = 0) = eo := ⟨_, rfl⟩
     have hrem : ((kk : Int) % 2 == 0) = eo := by
      rw [← heo]
      by_cases h2 : kk % 2 = 0
      ·rw [decide_eq_true h2]; exact beq_iff_eq.2 (by omega)
      rw [decide_eq_false h2]; exact beq_false_of_ne (by omega)
     have hrem2 : ((kk : Int).tmod 2 == 0) = eo := by rw [Int.tmod_eq_emod_of_nonneg (by omega)]; exact hrem
     have HO2 := am (show ∀ m ∈ nx, isOB m = eo by rw [← heo]; exact HOTH.out)
     clear heo HOTH
     go_wp2_with fail
     go_loopg [10] nx.length (fun g2 s10 wr2 => ∃ (ii : Nat), ii ≤ nx.length ∧ nx.length - ii ≤ g2 ∧ s10 = .int .i64 ii ∧ Aside0 (Lw w wr2 [(A, ids)] [(B11, nx), (B10, q), (A1, l)] [] [(sb, #[.int .u8 T.turn, .slice Bc T.opn.length kc, .bool T.force, .bool T.lost], 38), (w.heap.size, #[.slice A ids.length c, .bool rc, .int .i64 rn, .bool jb], 26)]))
     case atStart => exact ⟨0, Nat.zero_le _, by omega, rfl, HC⟩
     case round =>
      clear HC
      obtain ⟨ii, hii, hg2, rfl, HW2⟩ := hrel
      by_cases hil : ii < nx.length
      ·have ci : decide ((ii : Int) < (nx.length : Int)) = true := decide_eq_true (by omega)
       have ci2 : decide (ii < nx.length) = true := decide_eq_true hil
       obtain ⟨ad, e0, m0, m1, m2, m3⟩ := at_T52 (HW2.out.y _ mc) (ii : Int) (by omega) (show (ii : Int) < (nx.length : Int) by omega)
       obtain ⟨B11', hB11⟩ : ∃ B, B11 = B := ⟨_, rfl⟩
       cases e0
       clear hB11
       rw [Int.toNat_natCast] at m0 m1 m2 m3
       have hm : rd_T52 nx (ii : Int) = nx[ii] := by rw [rd_T52, Int.toNat_natCast]; exact getD_get nx z52 ii hil
       have HMO := am (show isOB (rd_T52 nx (ii : Int)) = eo by rw [hm]; exact HO2.out _ (List.getElem_mem hil))
       have HM := am hm
       clear hm
       generalize rd_T52 nx (ii : Int) = m at *
       by_cases hi0 : ii = 0
       ·have cp : decide ((0 : Int) < (ii : Int)) = false := decide_eq_false (by omega)
        have cp2 : decide (0 < ii) = false := decide_eq_false (by omega)
        clear hi0
        rcases eo with _ | _
        all_goals
         go_upto_region 13 with fail
         have HL3 := am (HW2.out.below ((Below.refl _ wr).drew))
         have HDR := am ((Below.refl wr.heap.size wr).drew)
         refine start_ (n := 26) (S := fun w' => w'.cell? (ad.add (ii * 4)) = some (.int .i64 m.f0) ∧ w'.cell? ⟨(ad.add (ii * 4)).block, (ad.add (ii * 4)).off + 1, none⟩ = some (.int .i64 m.f1) ∧ w'.cell? ⟨(ad.add (ii * 4)).block, (ad.add (ii * 4)).off + 2, none⟩ = some (.int .u8 m.f2) ∧ w'.cell? ⟨(ad.add (ii * 4)).block, (ad.add (ii * 4)).off + 3, none⟩ = some (.int .i64 m.f3)) (ds := []) #[Z,Z,Z,Z,Z,Z,Z,Z,Z,Z,Z,Z,Z,Z,Z,Z,Z,Z,Z,Z,Z,Z,Z,Z,Z,Z] (by kernel_rfl) rfl rfl ⟨pw_cell_below HDR.out m0, pw_cell_below HDR.out m1, pw_cell_below HDR.out m2, pw_cell_below HDR.out m3⟩ (fun hHeld => ?_)
         generalize wr.drew = wd2 at HL3 HDR hHeld ⊢
         refine pure_ (i := 0) (N := some 103) (v := ?_) (a' := ?_) #[Y,Z,Z,Z,Z,Z,Z,Z,Z,Z,Z,Z,Z,Z,Z,Z,Z,Z,Z,Z,Z,Z,Z,Z,Z,Z] rfl rfl (by kernel_rfl) (fun _ _ _ h => h) (Or.inl ⟨by rfl, ?_⟩) ?_ ?_;rotate_left;(intro w';go_simp;with_reducible rfl);rotate_left;(simp only [Act.put, sn1, sn2, sn3, i64_w];rfl)
         refine pure_ (i := 1) (N := some 104) (v := ?_) (a' := ?_) #[Y,Y,Z,Z,Z,Z,Z,Z,Z,Z,Z,Z,Z,Z,Z,Z,Z,Z,Z,Z,Z,Z,Z,Z,Z,Z] rfl rfl (by kernel_rfl) (fun _ _ _ h => h) (Or.inl ⟨by rfl, ?_⟩) ?_ ?_;rotate_left;(intro w';go_simp;with_reducible rfl);rotate_left;(simp only [Act.put, sn1, sn2, sn3, i64_w];rfl)
         refine pure_ (i := 2) (N := some 105) (v := ?_) (a' := ?_) #[Y,Y,Y,Z,Z,Z,Z,Z,Z,Z,Z,Z,Z,Z,Z,Z,Z,Z,Z,Z,Z,Z,Z,Z,Z,Z] rfl rfl (by kernel_rfl) (fun _ _ _ h => h) (Or.inl ⟨by rfl, ?_⟩) ?_ ?_;rotate_left;(intro w';go_simp;with_reducible rfl);rotate_left;(simp only [Act.put, sn1, sn2, sn3, i64_w];rfl)
         refine pure_ (i := 5) (N := some 108) (v := ?_) (a' := ?_) #[Y,Y,Y,Z,Z,Y,Z,Z,Z,Z,Z,Z,Z,Z,Z,Z,Z,Z,Z,Z,Z,Z,Z,Z,Z,Z] rfl rfl (by kernel_rfl) (fun _ _ _ h => h) (Or.inl ⟨by rfl, ?_⟩) ?_ ?_;rotate_left;(intro w';go_simp;with_reducible rfl);rotate_left;(simp only [Act.put, sn1, sn2, sn3, i64_w];rfl)
         refine pure_ (i := 6) (N := some 109) (v := ?_) (a' := ?_) #[Y,Y,Y,Z,Z,Y,Y,Z,Z,Z,Z,Z,Z,Z,Z,Z,Z,Z,Z,Z,Z,Z,Z,Z,Z,Z] rfl rfl (by kernel_rfl) (fun _ _ _ h => h) (Or.inl ⟨by rfl, ?_⟩) ?_ ?_;rotate_left;(intro w';go_simp;with_reducible rfl);rotate_left;(simp only [Act.put, sn1, sn2, sn3, i64_w];rfl)
         refine pure_ (i := 7) (N := some 110) (v := ?_) (a' := ?_) #[Y,Y,Y,Z,Z,Y,Y,Y,Z,Z,Z,Z,Z,Z,Z,Z,Z,Z,Z,Z,Z,Z,Z,Z,Z,Z] rfl rfl (by kernel_rfl) (fun _ _ _ h => h) (Or.inl ⟨by rfl, ?_⟩) ?_ ?_;rotate_left;(intro w';go_simp;with_reducible rfl);rotate_left;(simp only [Act.put, sn1, sn2, sn3, i64_w];rfl)
         refine take_ (i := 3) (N := some 106) (v := ?_) (a' := ?_) #[Y,Y,Y,Y,Z,Y,Y,Y,Z,Z,Z,Z,Z,Z,Z,Z,Z,Z,Z,Z,Z,Z,Z,Z,Z,Z] rfl rfl (by kernel_rfl) (fun _ _ _ h => h) (Or.inl ⟨by rfl, ?_⟩) hHeld ?_ ?_
         rotate_left
         ·rintro w' ⟨s0, s1, s2, s3⟩
          go_simp
          with_reducible rfl
         rotate_left
         ·simp only [Act.put, sn1, sn2, sn3, i64_w]
          rfl
         refine one_ (i := 4) (N := some 107) #[Y,Y,Y,Y,Y,Y,Y,Y,Z,Z,Z,Z,Z,Z,Z,Z,Z,Z,Z,Z,Z,Z,Z,Z,Z,Z] rfl rfl (by kernel_rfl) (by decide) (fun K hK => ?_)
         refine goes_ Tryz.func34 (by kernel_rfl) rfl #[.agg #[.int .i64 m.f0, .int .i64 m.f1, .int .u8 m.f2, .int .i64 m.f3]] (by rfl) rfl rfl (by simp only [List.map_toArray, List.map_cons, List.map_nil]; rfl) ?_
         with_reducible refine (rIsOther_eq m _ HMO.out wd2).mono ?_
         rintro e w13 ⟨rfl, hb13⟩
         refine ⟨_, rfl, ?_⟩
         have HL4 := am (HL3.out.below hb13)
         have HDR2 := am (HDR.out.trans (hb13.mono HDR.out.size))
         refine hK.out _ _ ⟨pw_cell_below HDR2.out m0, pw_cell_below HDR2.out m1, pw_cell_below HDR2.out m2, pw_cell_below HDR2.out m3⟩ (fun hHeld => ?_)
         clear hK K
         refine norm_ (a' := ?_) ?_ ?_
         rotate_left
         ·show Act.put _ (some 107) _ = _
          simp only [Act.put, sn1, sn2, sn3, i64_w]
          rfl
         refine pure_ (i := 8) (N := some 111) (v := ?_) (a' := ?_) #[Y,Y,Y,Y,Y,Y,Y,Y,Y,Z,Z,Z,Z,Z,Z,Z,Z,Z,Z,Z,Z,Z,Z,Z,Z,Z] rfl rfl (by kernel_rfl) (fun _ _ _ h => h) (Or.inl ⟨by rfl, ?_⟩) ?_ ?_;rotate_left;(intro w';go_simp;with_reducible rfl);rotate_left;(simp only [Act.put, sn1, sn2, sn3, i64_w];rfl)
         refine pure_ (i := 9) (N := some 112) (v := ?_) (a' := ?_) #[Y,Y,Y,Y,Y,Y,Y,Y,Y,Y,Z,Z,Z,Z,Z,Z,Z,Z,Z,Z,Z,Z,Z,Z,Z,Z] rfl rfl (by kernel_rfl) (fun _ _ _ h => h) (Or.inl ⟨by rfl, ?_⟩) ?_ ?_;rotate_left;(intro w';go_simp;with_reducible rfl);rotate_left;(simp only [Act.put, sn1, sn2, sn3, i64_w];rfl)
         refine pure_ (i := 10) (N := some 113) (v := ?_) (a' := ?_) #[Y,Y,Y,Y,Y,Y,Y,Y,Y,Y,Y,Z,Z,Z,Z,Z,Z,Z,Z,Z,Z,Z,Z,Z,Z,Z] rfl rfl (by kernel_rfl) (fun _ _ _ h => h) (Or.inl ⟨by rfl, ?_⟩) ?_ ?_;rotate_left;(intro w';go_simp;with_reducible rfl);rotate_left;(simp only [Act.put, sn1, sn2, sn3, i64_w];rfl)
         refine pure_ (i := 11) (N := some 114) (v := ?_) (a' := ?_) #[Y,Y,Y,Y,Y,Y,Y,Y,Y,Y,Y,Y,Z,Z,Z,Z,Z,Z,Z,Z,Z,Z,Z,Z,Z,Z] rfl rfl (by kernel_rfl) (fun _ _ _ h => h) (Or.inl ⟨by rfl, ?_⟩) ?_ ?_;rotate_left;(intro w';go_simp;with_reducible rfl);rotate_left;(simp only [Act.put, sn1, sn2, sn3, i64_w];rfl)
         refine pure_ (i := 12) (N := some 115) (v := ?_) (a' := ?_) #[Y,Y,Y,Y,Y,Y,Y,Y,Y,Y,Y,Y,Y,Z,Z,Z,Z,Z,Z,Z,Z,Z,Z,Z,Z,Z] rfl rfl (by kernel_rfl) (fun _ _ _ h => h) (Or.inl ⟨by rfl, ?_⟩) ?_ ?_;rotate_left;(intro w';go_simp;with_reducible rfl);rotate_left;(simp only [Act.put, sn1, sn2, sn3, i64_w];rfl)
         refine pure_ (i := 13) (N := some 116) (v := undef) (a' := ?_) #[Y,Y,Y,Y,Y,Y,Y,Y,Y,Y,Y,Y,Y,Y,Z,Z,Z,Z,Z,Z,Z,Z,Z,Z,Z,Z] rfl rfl (by kernel_rfl) (fun _ _ _ h => h) (Or.inr ⟨by rfl, rfl⟩) ?_ ?_
         rotate_left
         ·simp only [Act.put, sn1, sn2, sn3, i64_w]
          rfl
         refine pure_ (i := 14) (N := some 117) (v := undef) (a' := ?_) #[Y,Y,Y,Y,Y,Y,Y,Y,Y,Y,Y,Y,Y,Y,Y,Z,Z,Z,Z,Z,Z,Z,Z,Z,Z,Z] rfl rfl (by kernel_rfl) (fun _ _ _ h => h) (Or.inr ⟨by rfl, rfl⟩) ?_ ?_
         rotate_left
         ·simp only [Act.put, sn1, sn2, sn3, i64_w]
          rfl
         refine pure_ (i := 15) (N := some 118) (v := undef) (a' := ?_) #[Y,Y,Y,Y,Y,Y,Y,Y,Y,Y,Y,Y,Y,Y,Y,Y,Z,Z,Z,Z,Z,Z,Z,Z,Z,Z] rfl rfl (by kernel_rfl) (fun _ _ _ h => h) (Or.inr ⟨by rfl, rfl⟩) ?_ ?_
         rotate_left
         ·simp only [Act.put, sn1, sn2, sn3, i64_w]
          rfl
         refine pure_ (i := 16) (N := some 119) (v := undef) (a' := ?_) #[Y,Y,Y,Y,Y,Y,Y,Y,Y,Y,Y,Y,Y,Y,Y,Y,Y,Z,Z,Z,Z,Z,Z,Z,Z,Z] rfl rfl (by kernel_rfl) (fun _ _ _ h => h) (Or.inr ⟨by rfl, rfl⟩) ?_ ?_
         rotate_left
         ·simp only [Act.put, sn1, sn2, sn3, i64_w]
          rfl
         refine pure_ (i := 17) (N := some 120) (v := undef) (a' := ?_) #[Y,Y,Y,Y,Y,Y,Y,Y,Y,Y,Y,Y,Y,Y,Y,Y,Y,Y,Z,Z,Z,Z,Z,Z,Z,Z] rfl rfl (by kernel_rfl) (fun _ _ _ h => h) (Or.inr ⟨by rfl, rfl⟩) ?_ ?_
         rotate_left
         ·simp only [Act.put, sn1, sn2, sn3, i64_w]
          rfl
         refine pure_ (i := 18) (N := some 121) (v := undef) (a' := ?_) #[Y,Y,Y,Y,Y,Y,Y,Y,Y,Y,Y,Y,Y,Y,Y,Y,Y,Y,Y,Z,Z,Z,Z,Z,Z,Z] rfl rfl (by kernel_rfl) (fun _ _ _ h => h) (Or.inr ⟨by rfl, rfl⟩) ?_ ?_
         rotate_left
         ·simp only [Act.put, sn1, sn2, sn3, i64_w]
          rfl
         refine pure_ (i := 19) (N := some 122) (v := undef) (a' := ?_) #[Y,Y,Y,Y,Y,Y,Y,Y,Y,Y,Y,Y,Y,Y,Y,Y,Y,Y,Y,Y,Z,Z,Z,Z,Z,Z] rfl rfl (by kernel_rfl) (fun _ _ _ h => h) (Or.inr ⟨by rfl, rfl⟩) ?_ ?_
         rotate_left
         ·simp only [Act.put, sn1, sn2, sn3, i64_w]
          rfl
         refine pure_ (i := 20) (N := some 123) (v := undef) (a' := ?_) #[Y,Y,Y,Y,Y,Y,Y,Y,Y,Y,Y,Y,Y,Y,Y,Y,Y,Y,Y,Y,Y,Z,Z,Z,Z,Z] rfl rfl (by kernel_rfl) (fun _ _ _ h => h) (Or.inr ⟨by rfl, rfl⟩) ?_ ?_
         rotate_left
         ·simp only [Act.put, sn1, sn2, sn3, i64_w]
          rfl
         refine pure_ (i := 21) (N := some 124) (v := undef) (a' := ?_) #[Y,Y,Y,Y,Y,Y,Y,Y,Y,Y,Y,Y,Y,Y,Y,Y,Y,Y,Y,Y,Y,Y,Z,Z,Z,Z] rfl rfl (by kernel_rfl) (fun _ _ _ h => h) (Or.inr ⟨by rfl, rfl⟩) ?_ ?_
         rotate_left
         ·simp only [Act.put, sn1, sn2, sn3, i64_w]
          rfl
         refine pure_ (i := 22) (N := some 125) (v := undef) (a' := ?_) #[Y,Y,Y,Y,Y,Y,Y,Y,Y,Y,Y,Y,Y,Y,Y,Y,Y,Y,Y,Y,Y,Y,Y,Z,Z,Z] rfl rfl (by kernel_rfl) (fun _ _ _ h => h) (Or.inr ⟨by rfl, rfl⟩) ?_ ?_
         rotate_left
         ·simp only [Act.put, sn1, sn2, sn3, i64_w]
          rfl
         refine pure_ (i := 23) (N := some 126) (v := undef) (a' := ?_) #[Y,Y,Y,Y,Y,Y,Y,Y,Y,Y,Y,Y,Y,Y,Y,Y,Y,Y,Y,Y,Y,Y,Y,Y,Z,Z] rfl rfl (by kernel_rfl) (fun _ _ _ h => h) (Or.inr ⟨by rfl, rfl⟩) ?_ ?_
         rotate_left
         ·simp only [Act.put, sn1, sn2, sn3, i64_w]
          rfl
         refine pure_ (i := 24) (N := some 127) (v := ?_) (a' := ?_) #[Y,Y,Y,Y,Y,Y,Y,Y,Y,Y,Y,Y,Y,Y,Y,Y,Y,Y,Y,Y,Y,Y,Y,Y,Y,Z] rfl rfl (by kernel_rfl) (fun _ _ _ h => h) (Or.inl ⟨by rfl, ?_⟩) ?_ ?_;rotate_left;(intro w';go_simp;with_reducible rfl);rotate_left;(simp only [Act.put, sn1, sn2, sn3, i64_w];rfl)
         refine pure_ (i := 25) (N := some 128) (v := ?_) (a' := ?_) #[Y,Y,Y,Y,Y,Y,Y,Y,Y,Y,Y,Y,Y,Y,Y,Y,Y,Y,Y,Y,Y,Y,Y,Y,Y,Y] rfl rfl (by kernel_rfl) (fun _ _ _ h => h) (Or.inl ⟨by rfl, ?_⟩) ?_ ?_;rotate_left;(intro w';go_simp;with_reducible rfl);rotate_left;(simp only [Act.put, sn1, sn2, sn3, i64_w];rfl)
         refine done_ (by kernel_rfl) ?_
         go_wp2_with fail
         go_roundg (nx.length - (ii + 1))
         case measure => omega
         case rel => exact ⟨ii + 1, by omega, by omega, by go_num, HL4⟩
       obtain ⟨jj, hjj⟩ : ∃ jj : Nat, jj + 1 = ii := ⟨ii - 1, by omega⟩
       have hij : (ii : Int) - 1 = (jj : Int) := by omega
       have hjl : jj < nx.length := by omega
       have hjw3 : wrap64 ((ii : Int) - 1) = (jj : Int) := by rw [hij]; exact wrap_in (by omega) (by omega)
       clear hij
       obtain ⟨ad2, e2, n0, n1, n2, n3⟩ := at_T52 (HW2.out.y _ mc) (jj : Int) (by omega) (show (jj : Int) < (nx.length : Int) by omega)
       cases e2
       rw [Int.toNat_natCast] at n0 n1 n2 n3
       have hn : rd_T52 nx (jj : Int) = nx[jj] := by rw [rd_T52, Int.toNat_natCast]; exact getD_get nx z52 jj hjl
       have HLS := am (show LessM (rd_T52 nx (jj : Int)) m by rw [hn, HM.out]; exact List.pairwise_iff_getElem.1 HASC.out jj ii hjl hil (by omega))
       clear hn hjj
       generalize rd_T52 nx (jj : Int) = m9 at *
       have cp : decide ((0 : Int) < (ii : Int)) = true := decide_eq_true (by omega)
       have cp2 : decide (0 < ii) = true := decide_eq_true (by omega)
       have cjn : decide (jj < nx.length) = true := decide_eq_true hjl
       have cjz : decide ((jj : Int) < (nx.length : Int)) = true := decide_eq_true (by omega)
       rcases eo with _ | _
       all_goals
        go_upto_region 13 with fail
        have HL3 := am (HW2.out.below ((Below.refl _ wr).drew))
        have HDR := am ((Below.refl wr.heap.size wr).drew)
        refine start_ (n := 26) (S := fun w' => w'.cell? (ad.add (ii * 4)) = some (.int .i64 m.f0) ∧ w'.cell? ⟨(ad.add (ii * 4)).block, (ad.add (ii * 4)).off + 1, none⟩ = some (.int .i64 m.f1) ∧ w'.cell? ⟨(ad.add (ii * 4)).block, (ad.add (ii * 4)).off + 2, none⟩ = some (.int .u8 m.f2) ∧ w'.cell? ⟨(ad.add (ii * 4)).block, (ad.add (ii * 4)).off + 3, none⟩ = some (.int .i64 m.f3) ∧ w'.cell? (ad.add (jj * 4)) = some (.int .i64 m9.f0) ∧ w'.cell? ⟨(ad.add (jj * 4)).block, (ad.add (jj * 4)).off + 1, none⟩ = some (.int .i64 m9.f1) ∧ w'.cell? ⟨(ad.add (jj * 4)).block, (ad.add (jj * 4)).off + 2, none⟩ = some (.int .u8 m9.f2) ∧ w'.cell? ⟨(ad.add (jj * 4)).block, (ad.add (jj * 4)).off + 3, none⟩ = some (.int .i64 m9.f3)) (ds := []) #[Z,Z,Z,Z,Z,Z,Z,Z,Z,Z,Z,Z,Z,Z,Z,Z,Z,Z,Z,Z,Z,Z,Z,Z,Z,Z] (by kernel_rfl) rfl rfl ⟨pw_cell_below HDR.out m0, pw_cell_below HDR.out m1, pw_cell_below HDR.out m2, pw_cell_below HDR.out m3, pw_cell_below HDR.out n0, pw_cell_below HDR.out n1, pw_cell_below HDR.out n2, pw_cell_below HDR.out n3⟩ (fun hHeld => ?_)
        generalize wr.drew = wd2 at HL3 HDR hHeld ⊢
        refine pure_ (i := 0) (N := some 103) (v := ?_) (a' := ?_) #[Y,Z,Z,Z,Z,Z,Z,Z,Z,Z,Z,Z,Z,Z,Z,Z,Z,Z,Z,Z,Z,Z,Z,Z,Z,Z] rfl rfl (by kernel_rfl) (fun _ _ _ h => h) (Or.inl ⟨by rfl, ?_⟩) ?_ ?_;rotate_left;(intro w';go_simp;with_reducible rfl);rotate_left;(simp only [Act.put, sn1, sn2, sn3, i64_w];rfl)
        refine pure_ (i := 1) (N := some 104) (v := ?_) (a' := ?_) #[Y,Y,Z,Z,Z,Z,Z,Z,Z,Z,Z,Z,Z,Z,Z,Z,Z,Z,Z,Z,Z,Z,Z,Z,Z,Z] rfl rfl (by kernel_rfl) (fun _ _ _ h => h) (Or.inl ⟨by rfl, ?_⟩) ?_ ?_;rotate_left;(intro w';go_simp;with_reducible rfl);rotate_left;(simp only [Act.put, sn1, sn2, sn3, i64_w];rfl)
        refine pure_ (i := 2) (N := some 105) (v := ?_) (a' := ?_) #[Y,Y,Y,Z,Z,Z,Z,Z,Z,Z,Z,Z,Z,Z,Z,Z,Z,Z,Z,Z,Z,Z,Z,Z,Z,Z] rfl rfl (by kernel_rfl) (fun _ _ _ h => h) (Or.inl ⟨by rfl, ?_⟩) ?_ ?_;rotate_left;(intro w';go_simp;with_reducible rfl);rotate_left;(simp only [Act.put, sn1, sn2, sn3, i64_w];rfl)
        refine pure_ (i := 5) (N := some 108) (v := ?_) (a' := ?_) #[Y,Y,Y,Z,Z,Y,Z,Z,Z,Z,Z,Z,Z,Z,Z,Z,Z,Z,Z,Z,Z,Z,Z,Z,Z,Z] rfl rfl (by kernel_rfl) (fun _ _ _ h => h) (Or.inl ⟨by rfl, ?_⟩) ?_ ?_;rotate_left;(intro w';go_simp;with_reducible rfl);rotate_left;(simp only [Act.put, sn1, sn2, sn3, i64_w];rfl)
        refine pure_ (i := 6) (N := some 109) (v := ?_) (a' := ?_) #[Y,Y,Y,Z,Z,Y,Y,Z,Z,Z,Z,Z,Z,Z,Z,Z,Z,Z,Z,Z,Z,Z,Z,Z,Z,Z] rfl rfl (by kernel_rfl) (fun _ _ _ h => h) (Or.inl ⟨by rfl, ?_⟩) ?_ ?_;rotate_left;(intro w';go_simp;with_reducible rfl);rotate_left;(simp only [Act.put, sn1, sn2, sn3, i64_w];rfl)
        refine pure_ (i := 7) (N := some 110) (v := ?_) (a' := ?_) #[Y,Y,Y,Z,Z,Y,Y,Y,Z,Z,Z,Z,Z,Z,Z,Z,Z,Z,Z,Z,Z,Z,Z,Z,Z,Z] rfl rfl (by kernel_rfl) (fun _ _ _ h => h) (Or.inl ⟨by rfl, ?_⟩) ?_ ?_;rotate_left;(intro w';go_simp;with_reducible rfl);rotate_left;(simp only [Act.put, sn1, sn2, sn3, i64_w];rfl)
        refine take_ (i := 3) (N := some 106) (v := ?_) (a' := ?_) #[Y,Y,Y,Y,Z,Y,Y,Y,Z,Z,Z,Z,Z,Z,Z,Z,Z,Z,Z,Z,Z,Z,Z,Z,Z,Z] rfl rfl (by kernel_rfl) (fun _ _ _ h => h) (Or.inl ⟨by rfl, ?_⟩) hHeld ?_ ?_
        rotate_left
        ·rintro w' ⟨s0, s1, s2, s3, s4, s5, s6, s7⟩
         go_simp
         with_reducible rfl
        rotate_left
        ·simp only [Act.put, sn1, sn2, sn3, i64_w]
         rfl
        refine one_ (i := 4) (N := some 107) #[Y,Y,Y,Y,Y,Y,Y,Y,Z,Z,Z,Z,Z,Z,Z,Z,Z,Z,Z,Z,Z,Z,Z,Z,Z,Z] rfl rfl (by kernel_rfl) (by decide) (fun K hK => ?_)
        refine goes_ Tryz.func34 (by kernel_rfl) rfl #[.agg #[.int .i64 m.f0, .int .i64 m.f1, .int .u8 m.f2, .int .i64 m.f3]] (by rfl) rfl rfl (by simp only [List.map_toArray, List.map_cons, List.map_nil]; rfl) ?_
        with_reducible refine (rIsOther_eq m _ HMO.out wd2).mono ?_
        rintro e w13 ⟨rfl, hb13⟩
        refine ⟨_, rfl, ?_⟩
        have HL4 := am (HL3.out.below hb13)
        have HDR2 := am (HDR.out.trans (hb13.mono HDR.out.size))
        refine hK.out _ _ ⟨pw_cell_below HDR2.out m0, pw_cell_below HDR2.out m1, pw_cell_below HDR2.out m2, pw_cell_below HDR2.out m3, pw_cell_below HDR2.out n0, pw_cell_below HDR2.out n1, pw_cell_below HDR2.out n2, pw_cell_below HDR2.out n3⟩ (fun hHeld => ?_)
        clear hK K
        refine norm_ (a' := ?_) ?_ ?_
        rotate_left
        ·show Act.put _ (some 107) _ = _
         simp only [Act.put, sn1, sn2, sn3, i64_w]
         rfl
        refine pure_ (i := 8) (N := some 111) (v := ?_) (a' := ?_) #[Y,Y,Y,Y,Y,Y,Y,Y,Y,Z,Z,Z,Z,Z,Z,Z,Z,Z,Z,Z,Z,Z,Z,Z,Z,Z] rfl rfl (by kernel_rfl) (fun _ _ _ h => h) (Or.inl ⟨by rfl, ?_⟩) ?_ ?_;rotate_left;(intro w';go_simp;with_reducible rfl);rotate_left;(simp only [Act.put, sn1, sn2, sn3, i64_w];rfl)
        refine pure_ (i := 9) (N := some 112) (v := ?_) (a' := ?_) #[Y,Y,Y,Y,Y,Y,Y,Y,Y,Y,Z,Z,Z,Z,Z,Z,Z,Z,Z,Z,Z,Z,Z,Z,Z,Z] rfl rfl (by kernel_rfl) (fun _ _ _ h => h) (Or.inl ⟨by rfl, ?_⟩) ?_ ?_;rotate_left;(intro w';go_simp;with_reducible rfl);rotate_left;(simp only [Act.put, sn1, sn2, sn3, i64_w];rfl)
        refine pure_ (i := 10) (N := some 113) (v := ?_) (a' := ?_) #[Y,Y,Y,Y,Y,Y,Y,Y,Y,Y,Y,Z,Z,Z,Z,Z,Z,Z,Z,Z,Z,Z,Z,Z,Z,Z] rfl rfl (by kernel_rfl) (fun _ _ _ h => h) (Or.inl ⟨by rfl, ?_⟩) ?_ ?_;rotate_left;(intro w';go_simp;with_reducible rfl);rotate_left;(simp only [Act.put, sn1, sn2, sn3, i64_w];rfl)
        refine pure_ (i := 11) (N := some 114) (v := ?_) (a' := ?_) #[Y,Y,Y,Y,Y,Y,Y,Y,Y,Y,Y,Y,Z,Z,Z,Z,Z,Z,Z,Z,Z,Z,Z,Z,Z,Z] rfl rfl (by kernel_rfl) (fun _ _ _ h => h) (Or.inl ⟨by rfl, ?_⟩) ?_ ?_;rotate_left;(intro w';go_simp;with_reducible rfl);rotate_left;(simp only [Act.put, sn1, sn2, sn3, i64_w];rfl)
        refine pure_ (i := 12) (N := some 115) (v := ?_) (a' := ?_) #[Y,Y,Y,Y,Y,Y,Y,Y,Y,Y,Y,Y,Y,Z,Z,Z,Z,Z,Z,Z,Z,Z,Z,Z,Z,Z] rfl rfl (by kernel_rfl) (fun _ _ _ h => h) (Or.inl ⟨by rfl, ?_⟩) ?_ ?_;rotate_left;(intro w';go_simp;with_reducible rfl);rotate_left;(simp only [Act.put, sn1, sn2, sn3, i64_w];rfl)
        refine pure_ (i := 13) (N := some 116) (v := ?_) (a' := ?_) #[Y,Y,Y,Y,Y,Y,Y,Y,Y,Y,Y,Y,Y,Y,Z,Z,Z,Z,Z,Z,Z,Z,Z,Z,Z,Z] rfl rfl (by kernel_rfl) (fun _ _ _ h => h) (Or.inl ⟨by rfl, ?_⟩) ?_ ?_;rotate_left;(intro w';go_simp;with_reducible rfl);rotate_left;(simp only [Act.put, sn1, sn2, sn3, i64_w];rfl)
        refine pure_ (i := 14) (N := some 117) (v := ?_) (a' := ?_) #[Y,Y,Y,Y,Y,Y,Y,Y,Y,Y,Y,Y,Y,Y,Y,Z,Z,Z,Z,Z,Z,Z,Z,Z,Z,Z] rfl rfl (by kernel_rfl) (fun _ _ _ h => h) (Or.inl ⟨by rfl, ?_⟩) ?_ ?_;rotate_left;(intro w';go_simp;with_reducible rfl);rotate_left;(simp only [Act.put, sn1, sn2, sn3, i64_w];rfl)
        refine pure_ (i := 15) (N := some 118) (v := ?_) (a' := ?_) #[Y,Y,Y,Y,Y,Y,Y,Y,Y,Y,Y,Y,Y,Y,Y,Y,Z,Z,Z,Z,Z,Z,Z,Z,Z,Z] rfl rfl (by kernel_rfl) (fun _ _ _ h => h) (Or.inl ⟨by rfl, ?_⟩) ?_ ?_;rotate_left;(intro w';go_simp;with_reducible rfl);rotate_left;(simp only [Act.put, sn1, sn2, sn3, i64_w];rfl)
        refine pure_ (i := 16) (N := some 119) (v := ?_) (a' := ?_) #[Y,Y,Y,Y,Y,Y,Y,Y,Y,Y,Y,Y,Y,Y,Y,Y,Y,Z,Z,Z,Z,Z,Z,Z,Z,Z] rfl rfl (by kernel_rfl) (fun _ _ _ h => h) (Or.inl ⟨by rfl, ?_⟩) ?_ ?_;rotate_left;(intro w';go_simp;with_reducible rfl);rotate_left;(simp only [Act.put, sn1, sn2, sn3, i64_w];rfl)
        refine pure_ (i := 18) (N := some 121) (v := ?_) (a' := ?_) #[Y,Y,Y,Y,Y,Y,Y,Y,Y,Y,Y,Y,Y,Y,Y,Y,Y,Z,Y,Z,Z,Z,Z,Z,Z,Z] rfl rfl (by kernel_rfl) (fun _ _ _ h => h) (Or.inl ⟨by rfl, ?_⟩) ?_ ?_;rotate_left;(intro w';go_simp;with_reducible rfl);rotate_left;(simp only [Act.put, sn1, sn2, sn3, i64_w];rfl)
        refine pure_ (i := 19) (N := some 122) (v := ?_) (a' := ?_) #[Y,Y,Y,Y,Y,Y,Y,Y,Y,Y,Y,Y,Y,Y,Y,Y,Y,Z,Y,Y,Z,Z,Z,Z,Z,Z] rfl rfl (by kernel_rfl) (fun _ _ _ h => h) (Or.inl ⟨by rfl, ?_⟩) ?_ ?_;rotate_left;(intro w';go_simp;with_reducible rfl);rotate_left;(simp only [Act.put, sn1, sn2, sn3, i64_w];rfl)
        refine pure_ (i := 20) (N := some 123) (v := ?_) (a' := ?_) #[Y,Y,Y,Y,Y,Y,Y,Y,Y,Y,Y,Y,Y,Y,Y,Y,Y,Z,Y,Y,Y,Z,Z,Z,Z,Z] rfl rfl (by kernel_rfl) (fun _ _ _ h => h) (Or.inl ⟨by rfl, ?_⟩) ?_ ?_;rotate_left;(intro w';go_simp;with_reducible rfl);rotate_left;(simp only [Act.put, sn1, sn2, sn3, i64_w];rfl)
        refine take_ (i := 17) (N := some 120) (v := ?_) (a' := ?_) #[Y,Y,Y,Y,Y,Y,Y,Y,Y,Y,Y,Y,Y,Y,Y,Y,Y,Y,Y,Y,Y,Z,Z,Z,Z,Z] rfl rfl (by kernel_rfl) (fun _ _ _ h => h) (Or.inl ⟨by rfl, ?_⟩) hHeld ?_ ?_
        rotate_left
        ·rintro w' ⟨s0, s1, s2, s3, s4, s5, s6, s7⟩
         go_simp
         with_reducible rfl
        rotate_left
        ·simp only [Act.put, sn1, sn2, sn3, i64_w]
         rfl
        refine take_ (i := 21) (N := some 124) (v := ?_) (a' := ?_) #[Y,Y,Y,Y,Y,Y,Y,Y,Y,Y,Y,Y,Y,Y,Y,Y,Y,Y,Y,Y,Y,Y,Z,Z,Z,Z] rfl rfl (by kernel_rfl) (fun _ _ _ h => h) (Or.inl ⟨by rfl, ?_⟩) hHeld ?_ ?_
        rotate_left
        ·rintro w' ⟨s0, s1, s2, s3, s4, s5, s6, s7⟩
         go_simp
         with_reducible rfl
        rotate_left
        ·simp only [Act.put, sn1, sn2, sn3, i64_w]
         rfl
        refine one_ (i := 22) (N := some 125) #[Y,Y,Y,Y,Y,Y,Y,Y,Y,Y,Y,Y,Y,Y,Y,Y,Y,Y,Y,Y,Y,Y,Y,Z,Z,Z] rfl rfl (by kernel_rfl) (by decide) (fun K hK => ?_)
        refine goes_ Tryz.func35 (by kernel_rfl) rfl #[.agg #[.int .i64 m9.f0, .int .i64 m9.f1, .int .u8 m9.f2, .int .i64 m9.f3], .agg #[.int .i64 m.f0, .int .i64 m.f1, .int .u8 m.f2, .int .i64 m.f3]] (by rfl) rfl rfl (by simp only [List.map_toArray, List.map_cons, List.map_nil]; rfl) ?_
        with_reducible refine (rLess_true m9 m HLS.out w13).mono ?_
        rintro e w14 ⟨rfl, hb14⟩
        refine ⟨_, rfl, ?_⟩
        have HL5 := am (HL4.out.below hb14)
        have HDR3 := am (HDR2.out.trans (hb14.mono HDR2.out.size))
        refine hK.out _ _ ⟨pw_cell_below HDR3.out m0, pw_cell_below HDR3.out m1, pw_cell_below HDR3.out m2, pw_cell_below HDR3.out m3, pw_cell_below HDR3.out n0, pw_cell_below HDR3.out n1, pw_cell_below HDR3.out n2, pw_cell_below HDR3.out n3⟩ (fun hHeld => ?_)
        clear hK K
        refine norm_ (a' := ?_) ?_ ?_
        rotate_left
        ·show Act.put _ (some 125) _ = _
         simp only [Act.put, sn1, sn2, sn3, i64_w]
         rfl
        refine pure_ (i := 23) (N := some 126) (v := ?_) (a' := ?_) #[Y,Y,Y,Y,Y,Y,Y,Y,Y,Y,Y,Y,Y,Y,Y,Y,Y,Y,Y,Y,Y,Y,Y,Y,Z,Z] rfl rfl (by kernel_rfl) (fun _ _ _ h => h) (Or.inl ⟨by rfl, ?_⟩) ?_ ?_;rotate_left;(intro w';go_simp;with_reducible rfl);rotate_left;(simp only [Act.put, sn1, sn2, sn3, i64_w];rfl)
        refine pure_ (i := 24) (N := some 127) (v := ?_) (a' := ?_) #[Y,Y,Y,Y,Y,Y,Y,Y,Y,Y,Y,Y,Y,Y,Y,Y,Y,Y,Y,Y,Y,Y,Y,Y,Y,Z] rfl rfl (by kernel_rfl) (fun _ _ _ h => h) (Or.inl ⟨by rfl, ?_⟩) ?_ ?_;rotate_left;(intro w';go_simp;with_reducible rfl);rotate_left;(simp only [Act.put, sn1, sn2, sn3, i64_w];rfl)
        refine pure_ (i := 25) (N := some 128) (v := ?_) (a' := ?_) #[Y,Y,Y,Y,Y,Y,Y,Y,Y,Y,Y,Y,Y,Y,Y,Y,Y,Y,Y,Y,Y,Y,Y,Y,Y,Y] rfl rfl (by kernel_rfl) (fun _ _ _ h => h) (Or.inl ⟨by rfl, ?_⟩) ?_ ?_;rotate_left;(intro w';go_simp;with_reducible rfl);rotate_left;(simp only [Act.put, sn1, sn2, sn3, i64_w];rfl)
        refine done_ (by kernel_rfl) ?_
        go_wp2_with fail
        go_roundg (nx.length - (ii + 1))
        case measure => omega
        case rel => exact ⟨ii + 1, by omega, by omega, by go_num, HL5⟩
      have ci : decide ((ii : Int) < (nx.length : Int)) = false := decide_eq_false (by omega)
      have ci2 : decide (ii < nx.length) = false := decide_eq_false hil
      go_wp2_with fail
      go_roundg (l.length + 1 - (kk + 1))
      case measure => omega
      case rel => exact ⟨kk + 1, by omega, by omega, by go_num, ⟨HW2.out.popy.popy.popg⟩⟩
   have cb : decide ((kk : Int) ≤ (l.length : Int)) = false := decide_eq_false (by omega)
   go_wp2_with (go_at_call 15; refine HW.out.awake.mono ?_; rintro e w3 ⟨rfl, h3⟩)
   go_ret
   exact ⟨rfl, h3.b⟩
end Go.Proofs.YtjgocihflhljeaaGreat.P
