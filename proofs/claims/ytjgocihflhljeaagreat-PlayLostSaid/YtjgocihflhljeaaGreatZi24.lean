/- What the claim's law needs, many texts in one (Dm). No conditions of its own. -/
import Derived.Test.YtjgocihflhljeaaGreatZi22
import Derived.Test.YtjgocihflhljeaaGreatZi23
import Derived.BigGuard
set_option linter.unusedVariables false
set_option linter.unusedSimpArgs false
namespace Go.Proofs.YtjgocihflhljeaaGreat.P
open Go.RowKit Go.Shelf Go.Proofs.YtjgocihflhljeaaGreatW.PrintWords Go.Proofs.YtjgocihflhljeaaGreatW.PrintLast Go.Proofs.YtjgocihflhljeaaGreatW.PrintMore
attribute [local go_sem] Oper.semAt_some
theorem rEsc_eq (m : Mv) (b : Bool) (h : isEscB m = b) (w : World) : Calls Tryz.prog 38 #[.agg #[.int .i64 m.f0, .int .i64 m.f1, .int .u8 m.f2, .int .i64 m.f3]] w fun e w' => e = .returned (.bool b) ∧ Below w.heap.size w w' := h ▸ rEsc_any m w
theorem addr0 (a : Addr) : a.add 0 = a := by cases a; rfl
set_option maxRecDepth 8000 in
set_option maxHeartbeats 8000000 in
theorem playLost_any (A : Option Addr) (c : Nat) (ids : List S68) (rc : Bool) (rn : Int) (jb : Bool) (A1 : Option Addr) (c1 : Nat) (l : List Mv) (w : World) (hr : Kd.C k68 w A ids.length ids) (hlc : ids.length ≤ c) (hr1 : Kd.C k52 w A1 l.length l) (hlc1 : l.length ≤ c1) :
  Calls Tryz.prog 8 #[.agg #[.slice A ids.length c, .bool rc, .int .i64 rn, .bool jb], .slice A1 l.length c1] w fun e w' => e = .returned (.bool true) ∧ Below w.heap.size w w' := by
 have H0 := am ((Lw.start hr hr1).new #[.slice A ids.length c, .bool rc, .int .i64 rn, .bool jb] 26)
 clear hr hr1
 cases ht : legalB ids rc rn jb l with
 | false =>
  have HT := am ht
  clear ht
  go_enter Tryz.func8, Tryz.ntmps8
  go_wp2_with (first
   | (go_at_call 30; refine (H0.out.legal rc rn jb mc mc hlc).mono ?_; rw [HT.out]; rintro e w1 ⟨rfl, h1⟩; have H1 := am h1; clear h1; have hg1 : w.heap.size < w1.heap.size := blk_lt (H1.out.g _ mc); have a0 : w1.cell? ⟨w.heap.size, 0, none⟩ = some (.slice A ids.length c) := H1.out.cell mc 0 rfl; have a1 : w1.cell? ⟨w.heap.size, 1, none⟩ = some (.bool rc) := H1.out.cell mc 1 rfl; have a2 : w1.cell? ⟨w.heap.size, 2, none⟩ = some (.int .i64 rn) := H1.out.cell mc 2 rfl; have a3 : w1.cell? ⟨w.heap.size, 3, none⟩ = some (.bool jb) := H1.out.cell mc 3 rfl)
   | (go_at_call 15; refine H1.out.awake.mono ?_; rintro e w2 ⟨rfl, h2⟩))
  go_ret
  exact ⟨rfl, h2.b⟩
 | true =>
  have HT := am ht
  obtain ⟨ht8', hl80, hE⟩ := legal_of ht
  have ht8 := am ht8'
  have hlx : l.length ≤ 1000000 := by omega
  have HOK := am (tellE_zero hE).1
  have hml := movesA_len (tellE_zero hE).1 rc jb
  obtain ⟨mz, hmz⟩ : ∃ mz, (movesA ids rc rn jb).length = mz := ⟨_, rfl⟩
  rw [hmz] at hml
  have HMZ := am hmz
  clear ht ht8' hmz
  by_cases h3 : 300 < mz
  ·have hz : (300 : Int) < (mz : Int) := by omega
   clear hE
   go_enter Tryz.func8, Tryz.ntmps8
   go_wp2_with (first
    | (go_at_call 30; refine (H0.out.legal rc rn jb mc mc hlc).mono ?_; rw [HT.out]; rintro e w1 ⟨rfl, h1⟩; have H1 := am h1; clear h1; have hg1 : w.heap.size < w1.heap.size := blk_lt (H1.out.g _ mc); have a0 : w1.cell? ⟨w.heap.size, 0, none⟩ = some (.slice A ids.length c) := H1.out.cell mc 0 rfl; have a1 : w1.cell? ⟨w.heap.size, 1, none⟩ = some (.bool rc) := H1.out.cell mc 1 rfl; have a2 : w1.cell? ⟨w.heap.size, 2, none⟩ = some (.int .i64 rn) := H1.out.cell mc 2 rfl; have a3 : w1.cell? ⟨w.heap.size, 3, none⟩ = some (.bool jb) := H1.out.cell mc 3 rfl)
    | ((go_at_call 31; refine (H1.out.all rc rn jb mc hlc HOK.out).mono ?_; rintro e w2 ⟨Bz, kz, rfl, h2⟩; have H2 := am h2; clear h2; have hgo2 := blk_lt (H2.out.g _ mc)); rw [HMZ.out])
    | (go_at_call 15; refine H2.out.awake.mono ?_; rintro e w3 ⟨rfl, h3⟩))
   go_ret
   exact ⟨rfl, h3.b⟩
  have hz : decide ((300 : Int) < (mz : Int)) = false := decide_eq_false (by omega)
  have hm300 : mz ≤ 300 := by omega
  have HE := am hE
  clear hE h3
  go_enter Tryz.func8, Tryz.ntmps8
  go_upto_region 4 with (first
   | (go_at_call 30; refine (H0.out.legal rc rn jb mc mc hlc).mono ?_; rw [HT.out]; rintro e w1 ⟨rfl, h1⟩; have H1 := am h1; clear h1; have hg1 : w.heap.size < w1.heap.size := blk_lt (H1.out.g _ mc); have a0 : w1.cell? ⟨w.heap.size, 0, none⟩ = some (.slice A ids.length c) := H1.out.cell mc 0 rfl; have a1 : w1.cell? ⟨w.heap.size, 1, none⟩ = some (.bool rc) := H1.out.cell mc 1 rfl; have a2 : w1.cell? ⟨w.heap.size, 2, none⟩ = some (.int .i64 rn) := H1.out.cell mc 2 rfl; have a3 : w1.cell? ⟨w.heap.size, 3, none⟩ = some (.bool jb) := H1.out.cell mc 3 rfl)
   | ((go_at_call 31; refine (H1.out.all rc rn jb mc hlc HOK.out).mono ?_; rintro e w2 ⟨Bz, kz, rfl, h2⟩; have H2 := am h2; clear h2; have hgo2 := blk_lt (H2.out.g _ mc)); rw [HMZ.out]))
  clear a0 a1 a2 a3 hg1 H1 H0
  have hwz : w.heap.size ≤ w2.heap.size := H2.out.b.size
  go_wp2_with fail
  go_loopg [5, 6] (l.length + 1) (fun gg s5 s6 wr => ∃ (kk : Nat) (pl : Bool), kk ≤ l.length + 1 ∧ l.length + 1 - kk ≤ gg ∧ s6 = .int .i64 kk ∧ s5 = .bool pl ∧ Aside0 (pl = true → kk ≤ l.length → (talkL ids rc rn jb (l.take kk)).lost = true) ∧ Aside0 (Lw w wr [(A, ids)] [(A1, l)] [] [(w.heap.size, #[.slice A ids.length c, .bool rc, .int .i64 rn, .bool jb], 26)]))
  case atStart => exact ⟨0, false, Nat.zero_le _, by omega, rfl, rfl, ⟨fun h => by cases h⟩, H2⟩
  case round =>
   clear H2 hgo2 hwz
   obtain ⟨kk, pl, hkk, hg, rfl, rfl, HPL, HW⟩ := hrel
   by_cases hlt : kk ≤ l.length
   ·have cb : decide ((kk : Int) ≤ (l.length : Int)) = true := decide_eq_true (by omega)
    obtain ⟨hEk, hwk⟩ := tell_take HE.out kk hlt
    obtain ⟨q, hq⟩ : ∃ q, l.take kk = q := ⟨_, rfl⟩
    rw [hq] at hEk hwk
    have hql : q.length = kk := by rw [← hq, List.length_take]; omega
    have HQ := am hq
    have HEk := am hEk
    have HWk := am hwk
    clear hq hEk hwk
    have hqx : q.length ≤ 1000000 := by omega
    have hkc : (kk : Int) ≤ (c1 : Int) := by omega
    go_upto_region 7 with fail
    have HWd := am (HW.out.below ((Below.refl _ wr).drew))
    have HL := am HWd.out.rebase
    obtain ⟨T, hT⟩ : ∃ T, talkL ids rc rn jb q = T := ⟨_, rfl⟩
    obtain ⟨nx, hnx⟩ : ∃ nx, nextL jb T (movesA ids rc rn jb) = nx := ⟨_, rfl⟩
    have HTT := am hT
    have HNX := am hnx
    clear hT hnx
    refine start_ (n := 13) (S := fun w' => w'.cell? ⟨w.heap.size, 0, none⟩ = some (.slice A ids.length c) ∧ w'.cell? ⟨w.heap.size, 1, none⟩ = some (.bool rc) ∧ w'.cell? ⟨w.heap.size, 2, none⟩ = some (.int .i64 rn) ∧ w'.cell? ⟨w.heap.size, 3, none⟩ = some (.bool jb)) (ds := [11]) #[Z,Z,Z,Z,Z,Z,Z,Z,Z,Z,Z,Z,Z] (by kernel_rfl) rfl rfl ⟨(HL.out).cell mc 0 rfl, (HL.out).cell mc 1 rfl, (HL.out).cell mc 2 rfl, (HL.out).cell mc 3 rfl⟩ (fun hHeld => ?_)
    generalize wr.drew = wd at HL HWd hHeld ⊢
    refine pure_ (i := 2) (N := some 31) (v := ?_) (a' := ?_) #[Z,Z,Y,Z,Z,Z,Z,Z,Z,Z,Z,Z,Z] rfl rfl (by kernel_rfl) (fun _ _ _ h => h) (Or.inl ⟨by rfl, ?_⟩) ?_ ?_;rotate_left;(intro w';go_simp;with_reducible rfl);rotate_left;(simp only [Act.put, sn1, sn2, sn3, i64_w];rfl)
    refine pure_ (i := 3) (N := some 32) (v := ?_) (a' := ?_) #[Z,Z,Y,Y,Z,Z,Z,Z,Z,Z,Z,Z,Z] rfl rfl (by kernel_rfl) (fun _ _ _ h => h) (Or.inl ⟨by rfl, ?_⟩) ?_ ?_;rotate_left;(intro w';go_simp;with_reducible rfl);rotate_left;(simp only [Act.put, sn1, sn2, sn3, i64_w];rfl)
    refine pure_ (i := 4) (N := some 33) (v := ?_) (a' := ?_) #[Z,Z,Y,Y,Y,Z,Z,Z,Z,Z,Z,Z,Z] rfl rfl (by kernel_rfl) (fun _ _ _ h => h) (Or.inl ⟨by rfl, ?_⟩) ?_ ?_;rotate_left;(intro w';go_simp;with_reducible rfl);rotate_left;(simp only [Act.put, sn1, sn2, sn3, i64_w];rfl)
    refine take_ (i := 0) (N := some 29) (v := ?_) (a' := ?_) #[Y,Z,Y,Y,Y,Z,Z,Z,Z,Z,Z,Z,Z] rfl rfl (by kernel_rfl) (fun _ _ _ h => h) (Or.inl ⟨by rfl, ?_⟩) hHeld ?_ ?_
    rotate_left
    ·rintro w' ⟨s0, s1, s2, s3⟩
     go_simp
     with_reducible rfl
    rotate_left
    ·simp only [Act.put, sn1, sn2, sn3, i64_w]
     rfl
    refine join_ (σ := (Option Addr × Nat) × (Option Addr × Nat) × (Option Addr × Nat) × Nat) 2 #[Y,Y,Y,Y,Y,Y,Y,Y,Y,Y,Y,Z,Z] (fun s => [(30, .agg #[.slice s.1.1 ids.length s.1.2, .bool rc, .int .i64 rn, .bool jb]), (34, .slice s.2.1.1 q.length s.2.1.2), (35, .tuple #[.agg #[.int .u8 T.turn, .slice s.2.2.1.1 T.opn.length s.2.2.1.2, .bool T.force, .bool T.lost], .int .i64 0]), (28, .tuple #[.agg #[.int .u8 T.turn, .slice s.2.2.1.1 T.opn.length s.2.2.1.2, .bool T.force, .bool T.lost], .int .i64 0]), (36, .agg #[.int .u8 T.turn, .slice s.2.2.1.1 T.opn.length s.2.2.1.2, .bool T.force, .bool T.lost]), (37, .int .i64 0), (7, .pointer (some ⟨s.2.2.2, 0, none⟩))]) (fun s w' => Lw wd w' [(A, ids)] [(A1, l)] [] [(s.2.2.2, #[.int .u8 0, .slice none 0 0, .bool false, .bool false], 38), (w.heap.size, #[.slice A ids.length c, .bool rc, .int .i64 rn, .bool jb], 26)] ∧ T.opn.length ≤ s.2.2.1.2 ∧ wd.heap.size ≤ s.2.2.2) ?_ ?_
    rotate_left
    ·intro hCont
     refine two_ (i := 1) (j := 10) (Ni := some 30) (Nj := some 7) #[Y,Y,Y,Y,Y,Z,Z,Z,Z,Z,Z,Z,Z] #[Y,Z,Y,Y,Y,Z,Z,Z,Z,Z,Y,Z,Z] rfl rfl rfl rfl (by kernel_rfl) (by decide) (by decide) (fun K hK => ?_) (fun K hK => ?_)
     ·skip
      refine goes_ Tryz.func16 (by kernel_rfl) rfl #[.agg #[.slice A ids.length c, .bool rc, .int .i64 rn, .bool jb]] (by rfl) rfl rfl (by simp only [List.map_toArray, List.map_cons, List.map_nil]; rfl) ?_
      with_reducible refine ((HL.out).copyA rc rn jb mc hlc ht8.out).mono ?_
      rintro e wa ⟨Ba, ka, rfl, hka, ha⟩
      refine ⟨_, rfl, ?_⟩
      have Ha := am ha
      clear ha
      refine hK.out _ _ ⟨(Ha.out).cell mc 0 rfl, (Ha.out).cell mc 1 rfl, (Ha.out).cell mc 2 rfl, (Ha.out).cell mc 3 rfl⟩ (fun hHeld => ?_)
      clear hK K
      refine norm_ (a' := ?_) ?_ ?_
      rotate_left
      ·show Act.put _ (some 30) _ = _
       simp only [Act.put, sn1, sn2, sn3, i64_w]
       rfl
      refine two_ (i := 5) (j := 10) (Ni := some 34) (Nj := some 7) #[Y,Y,Y,Y,Y,Y,Z,Z,Z,Z,Z,Z,Z] #[Y,Y,Y,Y,Y,Z,Z,Z,Z,Z,Y,Z,Z] rfl rfl rfl rfl (by kernel_rfl) (by decide) (by decide) (fun K hK => ?_) (fun K hK => ?_)
      ·skip
       refine goes_ Tryz.func17 (by kernel_rfl) rfl #[.slice A1 kk c1] (by rfl) rfl rfl (by simp only [List.map_toArray, List.map_cons, List.map_nil]; rfl) ?_
       with_reducible refine ((Ha.out).copyT mc kk HQ.out hlt hlc1 hlx).mono ?_
       rintro e wb ⟨Bb, kb, rfl, hkb, hb⟩
       refine ⟨_, rfl, ?_⟩
       have Hb := am hb
       clear hb
       refine hK.out _ _ ⟨(Hb.out).cell mc 0 rfl, (Hb.out).cell mc 1 rfl, (Hb.out).cell mc 2 rfl, (Hb.out).cell mc 3 rfl⟩ (fun hHeld => ?_)
       clear hK K
       refine norm_ (a' := ?_) ?_ ?_
       rotate_left
       ·show Act.put _ (some 34) _ = _
        simp only [Act.put, sn1, sn2, sn3, i64_w]
        rfl
       refine two_ (i := 6) (j := 10) (Ni := some 35) (Nj := some 7) #[Y,Y,Y,Y,Y,Y,Y,Z,Z,Z,Z,Z,Z] #[Y,Y,Y,Y,Y,Y,Z,Z,Z,Z,Y,Z,Z] rfl rfl rfl rfl (by kernel_rfl) (by decide) (by decide) (fun K hK => ?_) (fun K hK => ?_)
       ·skip
        refine goes_ Tryz.func19 (by kernel_rfl) rfl #[.agg #[.slice Ba ids.length ka, .bool rc, .int .i64 rn, .bool jb], .slice Bb q.length kb] (by rfl) rfl rfl (by simp only [List.map_toArray, List.map_cons, List.map_nil]; rfl) ?_
        with_reducible refine ((Hb.out).standE rc rn jb mc mc hqx HEk.out HTT.out).mono ?_
        rintro e wc ⟨Bc, kc, rfl, hkc, hc⟩
        refine ⟨_, rfl, ?_⟩
        have Hc := am hc
        clear hc
        refine hK.out _ _ ⟨(Hc.out).cell mc 0 rfl, (Hc.out).cell mc 1 rfl, (Hc.out).cell mc 2 rfl, (Hc.out).cell mc 3 rfl⟩ (fun hHeld => ?_)
        clear hK K
        refine norm_ (a' := ?_) ?_ ?_
        rotate_left
        ·show Act.put _ (some 35) _ = _
         simp only [Act.put, sn1, sn2, sn3, i64_w]
         rfl
        refine pure_ (i := 7) (N := some 28) (v := ?_) (a' := ?_) #[Y,Y,Y,Y,Y,Y,Y,Y,Z,Z,Z,Z,Z] rfl rfl (by kernel_rfl) (fun _ _ _ h => h) (Or.inl ⟨by rfl, ?_⟩) ?_ ?_;rotate_left;(intro w';go_simp;with_reducible rfl);rotate_left;(simp only [Act.put, sn1, sn2, sn3, i64_w];rfl)
        refine pure_ (i := 8) (N := some 36) (v := ?_) (a' := ?_) #[Y,Y,Y,Y,Y,Y,Y,Y,Y,Z,Z,Z,Z] rfl rfl (by kernel_rfl) (fun _ _ _ h => h) (Or.inl ⟨by rfl, ?_⟩) ?_ ?_;rotate_left;(intro w';go_simp;with_reducible rfl);rotate_left;(simp only [Act.put, sn1, sn2, sn3, i64_w];rfl)
        refine pure_ (i := 9) (N := some 37) (v := ?_) (a' := ?_) #[Y,Y,Y,Y,Y,Y,Y,Y,Y,Y,Z,Z,Z] rfl rfl (by kernel_rfl) (fun _ _ _ h => h) (Or.inl ⟨by rfl, ?_⟩) ?_ ?_;rotate_left;(intro w';go_simp;with_reducible rfl);rotate_left;(simp only [Act.put, sn1, sn2, sn3, i64_w];rfl)
        refine one_ (i := 10) (N := some 7) #[Y,Y,Y,Y,Y,Y,Y,Y,Y,Y,Y,Z,Z] rfl rfl (by kernel_rfl) (by decide) (fun K hK => ?_)
        refine value_ (w1 := ?_) (v := ?_) (by rfl) rfl ?_ ?_
        rotate_left 2
        ·go_simp
         constructor
         ·rfl
         rfl
        refine hK.out _ _ ⟨(((Hc.out).new #[.int .u8 0, .slice none 0 0, .bool false, .bool false] 38)).cell (List.mem_cons_of_mem _ mc) 0 rfl, (((Hc.out).new #[.int .u8 0, .slice none 0 0, .bool false, .bool false] 38)).cell (List.mem_cons_of_mem _ mc) 1 rfl, (((Hc.out).new #[.int .u8 0, .slice none 0 0, .bool false, .bool false] 38)).cell (List.mem_cons_of_mem _ mc) 2 rfl, (((Hc.out).new #[.int .u8 0, .slice none 0 0, .bool false, .bool false] 38)).cell (List.mem_cons_of_mem _ mc) 3 rfl⟩ (fun hHeld => ?_)
        clear hK K
        refine norm_ (a' := ?_) ?_ ?_
        rotate_left
        ·show Act.put _ (some 7) _ = _
         simp only [Act.put, sn1, sn2, sn3, i64_w]
         rfl
        exact norm_ (by simp only [putAll, Act.put, sn1, sn2, sn3]) (hCont ((Ba, ka), (Bb, kb), (Bc, kc), wc.heap.size) _ ⟨((Hc.out.popi.popy.popx).new #[.int .u8 0, .slice none 0 0, .bool false, .bool false] 38), hkc, Hc.out.b.size⟩)
       skip
       refine value_ (w1 := ?_) (v := ?_) (by rfl) rfl ?_ ?_
       rotate_left 2
       ·go_simp
        constructor
        ·rfl
        rfl
       refine hK.out _ _ ⟨(((Hb.out).new #[.int .u8 0, .slice none 0 0, .bool false, .bool false] 38)).cell (List.mem_cons_of_mem _ mc) 0 rfl, (((Hb.out).new #[.int .u8 0, .slice none 0 0, .bool false, .bool false] 38)).cell (List.mem_cons_of_mem _ mc) 1 rfl, (((Hb.out).new #[.int .u8 0, .slice none 0 0, .bool false, .bool false] 38)).cell (List.mem_cons_of_mem _ mc) 2 rfl, (((Hb.out).new #[.int .u8 0, .slice none 0 0, .bool false, .bool false] 38)).cell (List.mem_cons_of_mem _ mc) 3 rfl⟩ (fun hHeld => ?_)
       clear hK K
       refine norm_ (a' := ?_) ?_ ?_
       rotate_left
       ·show Act.put _ (some 7) _ = _
        simp only [Act.put, sn1, sn2, sn3, i64_w]
        rfl
       refine one_ (i := 6) (N := some 35) #[Y,Y,Y,Y,Y,Y,Y,Z,Z,Z,Y,Z,Z] rfl rfl (by kernel_rfl) (by decide) (fun K hK => ?_)
       refine goes_ Tryz.func19 (by kernel_rfl) rfl #[.agg #[.slice Ba ids.length ka, .bool rc, .int .i64 rn, .bool jb], .slice Bb q.length kb] (by rfl) rfl rfl (by simp only [List.map_toArray, List.map_cons, List.map_nil]; rfl) ?_
       with_reducible refine ((((Hb.out).new #[.int .u8 0, .slice none 0 0, .bool false, .bool false] 38)).standE rc rn jb mc mc hqx HEk.out HTT.out).mono ?_
       rintro e wc ⟨Bc, kc, rfl, hkc, hc⟩
       refine ⟨_, rfl, ?_⟩
       have Hc := am hc
       clear hc
       refine hK.out _ _ ⟨(Hc.out).cell (List.mem_cons_of_mem _ mc) 0 rfl, (Hc.out).cell (List.mem_cons_of_mem _ mc) 1 rfl, (Hc.out).cell (List.mem_cons_of_mem _ mc) 2 rfl, (Hc.out).cell (List.mem_cons_of_mem _ mc) 3 rfl⟩ (fun hHeld => ?_)
       clear hK K
       refine norm_ (a' := ?_) ?_ ?_
       rotate_left
       ·show Act.put _ (some 35) _ = _
        simp only [Act.put, sn1, sn2, sn3, i64_w]
        rfl
       refine pure_ (i := 7) (N := some 28) (v := ?_) (a' := ?_) #[Y,Y,Y,Y,Y,Y,Y,Y,Z,Z,Y,Z,Z] rfl rfl (by kernel_rfl) (fun _ _ _ h => h) (Or.inl ⟨by rfl, ?_⟩) ?_ ?_;rotate_left;(intro w';go_simp;with_reducible rfl);rotate_left;(simp only [Act.put, sn1, sn2, sn3, i64_w];rfl)
       refine pure_ (i := 8) (N := some 36) (v := ?_) (a' := ?_) #[Y,Y,Y,Y,Y,Y,Y,Y,Y,Z,Y,Z,Z] rfl rfl (by kernel_rfl) (fun _ _ _ h => h) (Or.inl ⟨by rfl, ?_⟩) ?_ ?_;rotate_left;(intro w';go_simp;with_reducible rfl);rotate_left;(simp only [Act.put, sn1, sn2, sn3, i64_w];rfl)
       refine pure_ (i := 9) (N := some 37) (v := ?_) (a' := ?_) #[Y,Y,Y,Y,Y,Y,Y,Y,Y,Y,Y,Z,Z] rfl rfl (by kernel_rfl) (fun _ _ _ h => h) (Or.inl ⟨by rfl, ?_⟩) ?_ ?_;rotate_left;(intro w';go_simp;with_reducible rfl);rotate_left;(simp only [Act.put, sn1, sn2, sn3, i64_w];rfl)
       exact norm_ (by simp only [putAll, Act.put, sn1, sn2, sn3]) (hCont ((Ba, ka), (Bb, kb), (Bc, kc), wb.heap.size) _ ⟨Hc.out.popi.popy.popx, hkc, Hb.out.b.size⟩)
      skip
      refine value_ (w1 := ?_) (v := ?_) (by rfl) rfl ?_ ?_
      rotate_left 2
      ·go_simp
       constructor
       ·rfl
       rfl
      refine hK.out _ _ ⟨(((Ha.out).new #[.int .u8 0, .slice none 0 0, .bool false, .bool false] 38)).cell (List.mem_cons_of_mem _ mc) 0 rfl, (((Ha.out).new #[.int .u8 0, .slice none 0 0, .bool false, .bool false] 38)).cell (List.mem_cons_of_mem _ mc) 1 rfl, (((Ha.out).new #[.int .u8 0, .slice none 0 0, .bool false, .bool false] 38)).cell (List.mem_cons_of_mem _ mc) 2 rfl, (((Ha.out).new #[.int .u8 0, .slice none 0 0, .bool false, .bool false] 38)).cell (List.mem_cons_of_mem _ mc) 3 rfl⟩ (fun hHeld => ?_)
      clear hK K
      refine norm_ (a' := ?_) ?_ ?_
      rotate_left
      ·show Act.put _ (some 7) _ = _
       simp only [Act.put, sn1, sn2, sn3, i64_w]
       rfl
      refine one_ (i := 5) (N := some 34) #[Y,Y,Y,Y,Y,Y,Z,Z,Z,Z,Y,Z,Z] rfl rfl (by kernel_rfl) (by decide) (fun K hK => ?_)
      refine goes_ Tryz.func17 (by kernel_rfl) rfl #[.slice A1 kk c1] (by rfl) rfl rfl (by simp only [List.map_toArray, List.map_cons, List.map_nil]; rfl) ?_
      with_reducible refine ((((Ha.out).new #[.int .u8 0, .slice none 0 0, .bool false, .bool false] 38)).copyT mc kk HQ.out hlt hlc1 hlx).mono ?_
      rintro e wb ⟨Bb, kb, rfl, hkb, hb⟩
      refine ⟨_, rfl, ?_⟩
      have Hb := am hb
      clear hb
      refine hK.out _ _ ⟨(Hb.out).cell (List.mem_cons_of_mem _ mc) 0 rfl, (Hb.out).cell (List.mem_cons_of_mem _ mc) 1 rfl, (Hb.out).cell (List.mem_cons_of_mem _ mc) 2 rfl, (Hb.out).cell (List.mem_cons_of_mem _ mc) 3 rfl⟩ (fun hHeld => ?_)
      clear hK K
      refine norm_ (a' := ?_) ?_ ?_
      rotate_left
      ·show Act.put _ (some 34) _ = _
       simp only [Act.put, sn1, sn2, sn3, i64_w]
       rfl
      refine one_ (i := 6) (N := some 35) #[Y,Y,Y,Y,Y,Y,Y,Z,Z,Z,Y,Z,Z] rfl rfl (by kernel_rfl) (by decide) (fun K hK => ?_)
      refine goes_ Tryz.func19 (by kernel_rfl) rfl #[.agg #[.slice Ba ids.length ka, .bool rc, .int .i64 rn, .bool jb], .slice Bb q.length kb] (by rfl) rfl rfl (by simp only [List.map_toArray, List.map_cons, List.map_nil]; rfl) ?_
      with_reducible refine ((Hb.out).standE rc rn jb mc mc hqx HEk.out HTT.out).mono ?_
      rintro e wc ⟨Bc, kc, rfl, hkc, hc⟩
      refine ⟨_, rfl, ?_⟩
      have Hc := am hc
      clear hc
      refine hK.out _ _ ⟨(Hc.out).cell (List.mem_cons_of_mem _ mc) 0 rfl, (Hc.out).cell (List.mem_cons_of_mem _ mc) 1 rfl, (Hc.out).cell (List.mem_cons_of_mem _ mc) 2 rfl, (Hc.out).cell (List.mem_cons_of_mem _ mc) 3 rfl⟩ (fun hHeld => ?_)
      clear hK K
      refine norm_ (a' := ?_) ?_ ?_
      rotate_left
      ·show Act.put _ (some 35) _ = _
       simp only [Act.put, sn1, sn2, sn3, i64_w]
       rfl
      refine pure_ (i := 7) (N := some 28) (v := ?_) (a' := ?_) #[Y,Y,Y,Y,Y,Y,Y,Y,Z,Z,Y,Z,Z] rfl rfl (by kernel_rfl) (fun _ _ _ h => h) (Or.inl ⟨by rfl, ?_⟩) ?_ ?_;rotate_left;(intro w';go_simp;with_reducible rfl);rotate_left;(simp only [Act.put, sn1, sn2, sn3, i64_w];rfl)
      refine pure_ (i := 8) (N := some 36) (v := ?_) (a' := ?_) #[Y,Y,Y,Y,Y,Y,Y,Y,Y,Z,Y,Z,Z] rfl rfl (by kernel_rfl) (fun _ _ _ h => h) (Or.inl ⟨by rfl, ?_⟩) ?_ ?_;rotate_left;(intro w';go_simp;with_reducible rfl);rotate_left;(simp only [Act.put, sn1, sn2, sn3, i64_w];rfl)
      refine pure_ (i := 9) (N := some 37) (v := ?_) (a' := ?_) #[Y,Y,Y,Y,Y,Y,Y,Y,Y,Y,Y,Z,Z] rfl rfl (by kernel_rfl) (fun _ _ _ h => h) (Or.inl ⟨by rfl, ?_⟩) ?_ ?_;rotate_left;(intro w';go_simp;with_reducible rfl);rotate_left;(simp only [Act.put, sn1, sn2, sn3, i64_w];rfl)
      exact norm_ (by simp only [putAll, Act.put, sn1, sn2, sn3]) (hCont ((Ba, ka), (Bb, kb), (Bc, kc), wa.heap.size) _ ⟨Hc.out.popi.popy.popx, hkc, Ha.out.b.size⟩)
     skip
     refine value_ (w1 := ?_) (v := ?_) (by rfl) rfl ?_ ?_
     rotate_left 2
     ·go_simp
      constructor
      ·rfl
      rfl
     refine hK.out _ _ ⟨(((HL.out).new #[.int .u8 0, .slice none 0 0, .bool false, .bool false] 38)).cell (List.mem_cons_of_mem _ mc) 0 rfl, (((HL.out).new #[.int .u8 0, .slice none 0 0, .bool false, .bool false] 38)).cell (List.mem_cons_of_mem _ mc) 1 rfl, (((HL.out).new #[.int .u8 0, .slice none 0 0, .bool false, .bool false] 38)).cell (List.mem_cons_of_mem _ mc) 2 rfl, (((HL.out).new #[.int .u8 0, .slice none 0 0, .bool false, .bool false] 38)).cell (List.mem_cons_of_mem _ mc) 3 rfl⟩ (fun hHeld => ?_)
     clear hK K
     refine norm_ (a' := ?_) ?_ ?_
     rotate_left
     ·show Act.put _ (some 7) _ = _
      simp only [Act.put, sn1, sn2, sn3, i64_w]
      rfl
     refine one_ (i := 1) (N := some 30) #[Y,Y,Y,Y,Y,Z,Z,Z,Z,Z,Y,Z,Z] rfl rfl (by kernel_rfl) (by decide) (fun K hK => ?_)
     refine goes_ Tryz.func16 (by kernel_rfl) rfl #[.agg #[.slice A ids.length c, .bool rc, .int .i64 rn, .bool jb]] (by rfl) rfl rfl (by simp only [List.map_toArray, List.map_cons, List.map_nil]; rfl) ?_
     with_reducible refine ((((HL.out).new #[.int .u8 0, .slice none 0 0, .bool false, .bool false] 38)).copyA rc rn jb mc hlc ht8.out).mono ?_
     rintro e wa ⟨Ba, ka, rfl, hka, ha⟩
     refine ⟨_, rfl, ?_⟩
     have Ha := am ha
     clear ha
     refine hK.out _ _ ⟨(Ha.out).cell (List.mem_cons_of_mem _ mc) 0 rfl, (Ha.out).cell (List.mem_cons_of_mem _ mc) 1 rfl, (Ha.out).cell (List.mem_cons_of_mem _ mc) 2 rfl, (Ha.out).cell (List.mem_cons_of_mem _ mc) 3 rfl⟩ (fun hHeld => ?_)
     clear hK K
     refine norm_ (a' := ?_) ?_ ?_
     rotate_left
     ·show Act.put _ (some 30) _ = _
      simp only [Act.put, sn1, sn2, sn3, i64_w]
      rfl
     refine one_ (i := 5) (N := some 34) #[Y,Y,Y,Y,Y,Y,Z,Z,Z,Z,Y,Z,Z] rfl rfl (by kernel_rfl) (by decide) (fun K hK => ?_)
     refine goes_ Tryz.func17 (by kernel_rfl) rfl #[.slice A1 kk c1] (by rfl) rfl rfl (by simp only [List.map_toArray, List.map_cons, List.map_nil]; rfl) ?_
     with_reducible refine ((Ha.out).copyT mc kk HQ.out hlt hlc1 hlx).mono ?_
     rintro e wb ⟨Bb, kb, rfl, hkb, hb⟩
     refine ⟨_, rfl, ?_⟩
     have Hb := am hb
     clear hb
     refine hK.out _ _ ⟨(Hb.out).cell (List.mem_cons_of_mem _ mc) 0 rfl, (Hb.out).cell (List.mem_cons_of_mem _ mc) 1 rfl, (Hb.out).cell (List.mem_cons_of_mem _ mc) 2 rfl, (Hb.out).cell (List.mem_cons_of_mem _ mc) 3 rfl⟩ (fun hHeld => ?_)
     clear hK K
     refine norm_ (a' := ?_) ?_ ?_
     rotate_left
     ·show Act.put _ (some 34) _ = _
      simp only [Act.put, sn1, sn2, sn3, i64_w]
      rfl
     refine one_ (i := 6) (N := some 35) #[Y,Y,Y,Y,Y,Y,Y,Z,Z,Z,Y,Z,Z] rfl rfl (by kernel_rfl) (by decide) (fun K hK => ?_)
     refine goes_ Tryz.func19 (by kernel_rfl) rfl #[.agg #[.slice Ba ids.length ka, .bool rc, .int .i64 rn, .bool jb], .slice Bb q.length kb] (by rfl) rfl rfl (by simp only [List.map_toArray, List.map_cons, List.map_nil]; rfl) ?_
     with_reducible refine ((Hb.out).standE rc rn jb mc mc hqx HEk.out HTT.out).mono ?_
     rintro e wc ⟨Bc, kc, rfl, hkc, hc⟩
     refine ⟨_, rfl, ?_⟩
     have Hc := am hc
     clear hc
     refine hK.out _ _ ⟨(Hc.out).cell (List.mem_cons_of_mem _ mc) 0 rfl, (Hc.out).cell (List.mem_cons_of_mem _ mc) 1 rfl, (Hc.out).cell (List.mem_cons_of_mem _ mc) 2 rfl, (Hc.out).cell (List.mem_cons_of_mem _ mc) 3 rfl⟩ (fun hHeld => ?_)
     clear hK K
     refine norm_ (a' := ?_) ?_ ?_
     rotate_left
     ·show Act.put _ (some 35) _ = _
      simp only [Act.put, sn1, sn2, sn3, i64_w]
      rfl
     refine pure_ (i := 7) (N := some 28) (v := ?_) (a' := ?_) #[Y,Y,Y,Y,Y,Y,Y,Y,Z,Z,Y,Z,Z] rfl rfl (by kernel_rfl) (fun _ _ _ h => h) (Or.inl ⟨by rfl, ?_⟩) ?_ ?_;rotate_left;(intro w';go_simp;with_reducible rfl);rotate_left;(simp only [Act.put, sn1, sn2, sn3, i64_w];rfl)
     refine pure_ (i := 8) (N := some 36) (v := ?_) (a' := ?_) #[Y,Y,Y,Y,Y,Y,Y,Y,Y,Z,Y,Z,Z] rfl rfl (by kernel_rfl) (fun _ _ _ h => h) (Or.inl ⟨by rfl, ?_⟩) ?_ ?_;rotate_left;(intro w';go_simp;with_reducible rfl);rotate_left;(simp only [Act.put, sn1, sn2, sn3, i64_w];rfl)
     refine pure_ (i := 9) (N := some 37) (v := ?_) (a' := ?_) #[Y,Y,Y,Y,Y,Y,Y,Y,Y,Y,Y,Z,Z] rfl rfl (by kernel_rfl) (fun _ _ _ h => h) (Or.inl ⟨by rfl, ?_⟩) ?_ ?_;rotate_left;(intro w';go_simp;with_reducible rfl);rotate_left;(simp only [Act.put, sn1, sn2, sn3, i64_w];rfl)
     exact norm_ (by simp only [putAll, Act.put, sn1, sn2, sn3]) (hCont ((Ba, ka), (Bb, kb), (Bc, kc), wd.heap.size) _ ⟨Hc.out.popi.popy.popx, hkc, (Nat.le_refl _)⟩)
    rintro ⟨⟨Ba, ka⟩, ⟨Bb, kb⟩, ⟨Bc, kc⟩, sb⟩ wf ⟨hF, hkc, hsb⟩
    have HF := am hF
    clear hF
    have hHeld : wf.cell? ⟨w.heap.size, 0, none⟩ = some (.slice A ids.length c) ∧ wf.cell? ⟨w.heap.size, 1, none⟩ = some (.bool rc) ∧ wf.cell? ⟨w.heap.size, 2, none⟩ = some (.int .i64 rn) ∧ wf.cell? ⟨w.heap.size, 3, none⟩ = some (.bool jb) := ⟨(HF.out).cell (List.mem_cons_of_mem _ mc) 0 rfl, (HF.out).cell (List.mem_cons_of_mem _ mc) 1 rfl, (HF.out).cell (List.mem_cons_of_mem _ mc) 2 rfl, (HF.out).cell (List.mem_cons_of_mem _ mc) 3 rfl⟩
    have f0 := blk_frozen (HF.out.g _ mc) 0
    have f1 := blk_frozen (HF.out.g _ mc) 1
    have f2 := blk_frozen (HF.out.g _ mc) 2
    have f3 := blk_frozen (HF.out.g _ mc) 3
    have d0 : wf.cell? ⟨sb, 0, none⟩ = some (.int .u8 0) := HF.out.cell mc 0 rfl
    have d1 : wf.cell? ⟨sb, 1, none⟩ = some (.slice none 0 0) := HF.out.cell mc 1 rfl
    have d2 : wf.cell? ⟨sb, 2, none⟩ = some (.bool false) := HF.out.cell mc 2 rfl
    have d3 : wf.cell? ⟨sb, 3, none⟩ = some (.bool false) := HF.out.cell mc 3 rfl
    refine norm_ (a' := ?_) ?_ ?_
    rotate_left
    ·simp only [putAll, Act.put, sn1, sn2, sn3]
     rfl
    refine last_ (i := 11) (N := none) #[Y,Y,Y,Y,Y,Y,Y,Y,Y,Y,Y,Y,Z] rfl rfl (by kernel_rfl) (by decide) (fun K hK => ?_)
    refine skip_ (w1 := ?_) (by rfl) rfl ?_ ?_
    rotate_left
    ·go_simp
     rfl
    refine hK.out _ _ ?_
    clear hK K
    refine pure_ (i := 12) (N := some 8) (v := ?_) (a' := ?_) #[Y,Y,Y,Y,Y,Y,Y,Y,Y,Y,Y,Y,Y] rfl rfl (by kernel_rfl) (fun _ _ _ h => h) (Or.inl ⟨by rfl, ?_⟩) ?_ ?_;rotate_left;(intro w';go_simp;with_reducible rfl);rotate_left;(simp only [Act.put, sn1, sn2, sn3, i64_w];rfl)
    refine done_ (by kernel_rfl) ?_
    have r4 := store4 (HF.out.g _ mc) (.int .u8 T.turn) (.slice Bc T.opn.length kc) (.bool T.force) (.bool T.lost)
    have HL7 := am ((HWd.out.below (below4s HF.out.b hsb (.int .u8 T.turn) (.slice Bc T.opn.length kc) (.bool T.force) (.bool T.lost))).addg r4)
    clear r4 HL f0 f1 f2 f3 d0 d1 d2 d3 hsb HWd
    go_upto_region 8 with fail
    generalize (((wf.setCell ⟨sb, 0, none⟩ (.int .u8 T.turn)).setCell ⟨sb, 1, none⟩ (.slice Bc T.opn.length kc)).setCell ⟨sb, 2, none⟩ (.bool T.force)).setCell ⟨sb, 3, none⟩ (.bool T.lost) = w7 at HL7 ⊢
    have HL8 := am (HL7.out.below ((Below.refl _ w7).drew))
    clear HL7 HF
    refine start_ (n := 12) (S := fun w' => w'.cell? ⟨w.heap.size, 0, none⟩ = some (.slice A ids.length c) ∧ w'.cell? ⟨w.heap.size, 1, none⟩ = some (.bool rc) ∧ w'.cell? ⟨w.heap.size, 2, none⟩ = some (.int .i64 rn) ∧ w'.cell? ⟨w.heap.size, 3, none⟩ = some (.bool jb)) (ds := []) #[Z,Z,Z,Z,Z,Z,Z,Z,Z,Z,Z,Z] (by kernel_rfl) rfl rfl ⟨(HL8.out).cell (List.mem_cons_of_mem _ mc) 0 rfl, (HL8.out).cell (List.mem_cons_of_mem _ mc) 1 rfl, (HL8.out).cell (List.mem_cons_of_mem _ mc) 2 rfl, (HL8.out).cell (List.mem_cons_of_mem _ mc) 3 rfl⟩ (fun hHeld => ?_)
    generalize w7.drew = w8 at HL8 hHeld ⊢
    refine pure_ (i := 2) (N := some 41) (v := ?_) (a' := ?_) #[Z,Z,Y,Z,Z,Z,Z,Z,Z,Z,Z,Z] rfl rfl (by kernel_rfl) (fun _ _ _ h => h) (Or.inl ⟨by rfl, ?_⟩) ?_ ?_;rotate_left;(intro w';go_simp;with_reducible rfl);rotate_left;(simp only [Act.put, sn1, sn2, sn3, i64_w];rfl)
    refine pure_ (i := 3) (N := some 42) (v := ?_) (a' := ?_) #[Z,Z,Y,Y,Z,Z,Z,Z,Z,Z,Z,Z] rfl rfl (by kernel_rfl) (fun _ _ _ h => h) (Or.inl ⟨by rfl, ?_⟩) ?_ ?_;rotate_left;(intro w';go_simp;with_reducible rfl);rotate_left;(simp only [Act.put, sn1, sn2, sn3, i64_w];rfl)
    refine pure_ (i := 4) (N := some 43) (v := ?_) (a' := ?_) #[Z,Z,Y,Y,Y,Z,Z,Z,Z,Z,Z,Z] rfl rfl (by kernel_rfl) (fun _ _ _ h => h) (Or.inl ⟨by rfl, ?_⟩) ?_ ?_;rotate_left;(intro w';go_simp;with_reducible rfl);rotate_left;(simp only [Act.put, sn1, sn2, sn3, i64_w];rfl)
    refine take_ (i := 0) (N := some 39) (v := ?_) (a' := ?_) #[Y,Z,Y,Y,Y,Z,Z,Z,Z,Z,Z,Z] rfl rfl (by kernel_rfl) (fun _ _ _ h => h) (Or.inl ⟨by rfl, ?_⟩) hHeld ?_ ?_
    rotate_left
    ·rintro w' ⟨s0, s1, s2, s3⟩
     go_simp
     with_reducible rfl
    rotate_left
    ·simp only [Act.put, sn1, sn2, sn3, i64_w]
     rfl
    refine one_ (i := 1) (N := some 40) #[Y,Y,Y,Y,Y,Z,Z,Z,Z,Z,Z,Z] rfl rfl (by kernel_rfl) (by decide) (fun K hK => ?_)
    refine goes_ Tryz.func16 (by kernel_rfl) rfl #[.agg #[.slice A ids.length c, .bool rc, .int .i64 rn, .bool jb]] (by rfl) rfl rfl (by simp only [List.map_toArray, List.map_cons, List.map_nil]; rfl) ?_
    with_reducible refine (HL8.out.copyA rc rn jb mc hlc ht8.out).mono ?_
    rintro e w9 ⟨B9, k9, rfl, hk9, h9⟩
    refine ⟨_, rfl, ?_⟩
    have H9 := am h9
    clear h9
    refine hK.out _ _ ⟨(H9.out).cell (List.mem_cons_of_mem _ mc) 0 rfl, (H9.out).cell (List.mem_cons_of_mem _ mc) 1 rfl, (H9.out).cell (List.mem_cons_of_mem _ mc) 2 rfl, (H9.out).cell (List.mem_cons_of_mem _ mc) 3 rfl⟩ (fun hHeld => ?_)
    clear hK K
    refine norm_ (a' := ?_) ?_ ?_
    rotate_left
    ·show Act.put _ (some 40) _ = _
     simp only [Act.put, sn1, sn2, sn3, i64_w]
     rfl
    refine one_ (i := 5) (N := some 44) #[Y,Y,Y,Y,Y,Y,Z,Z,Z,Z,Z,Z] rfl rfl (by kernel_rfl) (by decide) (fun K hK => ?_)
    refine goes_ Tryz.func17 (by kernel_rfl) rfl #[.slice A1 kk c1] (by rfl) rfl rfl (by simp only [List.map_toArray, List.map_cons, List.map_nil]; rfl) ?_
    with_reducible refine (H9.out.copyT mc kk HQ.out hlt hlc1 hlx).mono ?_
    rintro e w10 ⟨B10, k10, rfl, hk10, h10⟩
    refine ⟨_, rfl, ?_⟩
    have H10 := am h10
    clear h10
    refine hK.out _ _ ⟨(H10.out).cell (List.mem_cons_of_mem _ mc) 0 rfl, (H10.out).cell (List.mem_cons_of_mem _ mc) 1 rfl, (H10.out).cell (List.mem_cons_of_mem _ mc) 2 rfl, (H10.out).cell (List.mem_cons_of_mem _ mc) 3 rfl⟩ (fun hHeld => ?_)
    clear hK K
    refine norm_ (a' := ?_) ?_ ?_
    rotate_left
    ·show Act.put _ (some 44) _ = _
     simp only [Act.put, sn1, sn2, sn3, i64_w]
     rfl
    refine one_ (i := 6) (N := some 45) #[Y,Y,Y,Y,Y,Y,Y,Z,Z,Z,Z,Z] rfl rfl (by kernel_rfl) (by decide) (fun K hK => ?_)
    refine goes_ Tryz.func32 (by kernel_rfl) rfl #[.agg #[.slice B9 ids.length k9, .bool rc, .int .i64 rn, .bool jb], .slice B10 q.length k10] (by rfl) rfl rfl (by simp only [List.map_toArray, List.map_cons, List.map_nil]; rfl) ?_
    with_reducible refine (H10.out.nextE rc rn jb mc mc hqx HEk.out HTT.out HNX.out).mono ?_
    rintro e w11 ⟨B11, k11, rfl, hk11, h11⟩
    refine ⟨_, rfl, ?_⟩
    have H11 := am h11.popi
    clear h11
    refine hK.out _ _ ⟨(H11.out).cell (List.mem_cons_of_mem _ mc) 0 rfl, (H11.out).cell (List.mem_cons_of_mem _ mc) 1 rfl, (H11.out).cell (List.mem_cons_of_mem _ mc) 2 rfl, (H11.out).cell (List.mem_cons_of_mem _ mc) 3 rfl⟩ (fun hHeld => ?_)
    clear hK K
    refine norm_ (a' := ?_) ?_ ?_
    rotate_left
    ·show Act.put _ (some 45) _ = _
     simp only [Act.put, sn1, sn2, sn3, i64_w]
     rfl
    refine pure_ (i := 7) (N := some 38) (v := ?_) (a' := ?_) #[Y,Y,Y,Y,Y,Y,Y,Y,Z,Z,Z,Z] rfl rfl (by kernel_rfl) (fun _ _ _ h => h) (Or.inl ⟨by rfl, ?_⟩) ?_ ?_;rotate_left;(intro w';go_simp;with_reducible rfl);rotate_left;(simp only [Act.put, sn1, sn2, sn3, i64_w];rfl)
    refine pure_ (i := 8) (N := some 46) (v := ?_) (a' := ?_) #[Y,Y,Y,Y,Y,Y,Y,Y,Y,Z,Z,Z] rfl rfl (by kernel_rfl) (fun _ _ _ h => h) (Or.inl ⟨by rfl, ?_⟩) ?_ ?_;rotate_left;(intro w';go_simp;with_reducible rfl);rotate_left;(simp only [Act.put, sn1, sn2, sn3, i64_w];rfl)
    refine pure_ (i := 9) (N := some 47) (v := ?_) (a' := ?_) #[Y,Y,Y,Y,Y,Y,Y,Y,Y,Y,Z,Z] rfl rfl (by kernel_rfl) (fun _ _ _ h => h) (Or.inl ⟨by rfl, ?_⟩) ?_ ?_;rotate_left;(intro w';go_simp;with_reducible rfl);rotate_left;(simp only [Act.put, sn1, sn2, sn3, i64_w];rfl)
    refine pure_ (i := 10) (N := some 9) (v := ?_) (a' := ?_) #[Y,Y,Y,Y,Y,Y,Y,Y,Y,Y,Y,Z] rfl rfl (by kernel_rfl) (fun _ _ _ h => h) (Or.inl ⟨by rfl, ?_⟩) ?_ ?_;rotate_left;(intro w';go_simp;with_reducible rfl);rotate_left;(simp only [Act.put, sn1, sn2, sn3, i64_w];rfl)
    refine pure_ (i := 11) (N := some 10) (v := ?_) (a' := ?_) #[Y,Y,Y,Y,Y,Y,Y,Y,Y,Y,Y,Y] rfl rfl (by kernel_rfl) (fun _ _ _ h => h) (Or.inl ⟨by rfl, ?_⟩) ?_ ?_;rotate_left;(intro w';go_simp;with_reducible rfl);rotate_left;(simp only [Act.put, sn1, sn2, sn3, i64_w];rfl)
    refine done_ (by kernel_rfl) ?_
    clear H9 H10 HL8
    go_upto_region 9 with fail
    have hI := talk_inv ids rc rn jb q hqx
    have hIE := talk_invE (ids := ids) (rc := rc) (rn := rn) (jb := jb) q hqx
    have hIL := talk_invL (ids := ids) (rc := rc) (rn := rn) (jb := jb) q hqx
    rw [HTT.out] at hI hIE hIL
    have hTw : T.word.length = kk := by rw [← HTT.out, HWk.out, hql]
    have hplo : pl = true → T.lost = true := fun h => by have := HPL.out h hlt; rw [HQ.out, HTT.out] at this; exact this
    have hjl : T.lost = true → jb = true ∧ 0 < kk := fun h => ⟨hIE.lost h, by have := (hIL.ls h).1; omega⟩
    have hen := esc_next HOK.out hI hIL
    have hfn := force_next HOK.out hI hIE hIL
    rw [HNX.out] at hen hfn
    have hgs : sb < w11.heap.size := blk_lt (H11.out.g _ mc)
    have hga : w.heap.size < w11.heap.size := blk_lt (H11.out.g _ (List.mem_cons_of_mem _ mc))
    have HLE := am (show T.lost = true → ∀ (hk : kk - 1 < l.length), isEscB l[kk - 1] = true from fun h hk => by
     have h1 := (hIL.ls h).2
     have h2 := (hjl h).2
     have hw : T.word = q := by rw [← HTT.out]; exact HWk.out
     unfold Tk.mv at h1
     rw [hw, ← HQ.out] at h1
     have e : (((l.take kk).length : Int) - 1).toNat = kk - 1 := by rw [List.length_take]; omega
     rw [e, getD_get _ _ _ (by rw [List.length_take]; omega), List.getElem_take] at h1
     exact h1)
    clear hI hIE hIL
    have j3 : w11.cell? ⟨w.heap.size, 3, none⟩ = some (.bool jb) := H11.out.cell (List.mem_cons_of_mem _ mc) 3 rfl
    have s2 : w11.cell? ⟨sb, 2, none⟩ = some (.bool T.force) := H11.out.cell mc 2 rfl
    have s3 : w11.cell? ⟨sb, 3, none⟩ = some (.bool T.lost) := H11.out.cell mc 3 rfl
    have HZ := H11
    go_cut [115] (fun x115 wx => x115 = .bool false ∧ Aside0 (Lw w wx [(A, ids)] [(B11, nx), (B10, q), (A1, l)] [] [(sb, #[.int .u8 T.turn, .slice Bc T.opn.length kc, .bool T.force, .bool T.lost], 38), (w.heap.size, #[.slice A ids.length c, .bool rc, .int .i64 rn, .bool jb], 26)]))
    case first =>
     clear HLE
     dsimp only [List.append]
     cases hlo : T.lost with
     | true =>
      obtain ⟨hj, hk0⟩ := hjl hlo
      rw [hlo] at s3
      subst hj
      have hkb : ((kk : Int) == 0) = false := beq_false_of_ne (by omega)
      have hkn : (kk == 0) = false := beq_false_of_ne (by omega)
      have hen := hen (.inr hlo)
      clear hjl hplo hk0
      cases hfo : T.force with
      | true =>
       obtain ⟨x, hnx, hx⟩ := hfn hfo
       rw [hfo] at s2
       clear hen hfn hfo hlo
       subst hnx
       have HX := am hx
       obtain ⟨ad, e0, m0, m1, m2, m3⟩ := at_T52 (H11.out.y _ mc) (0 : Int) (by omega) (by simp)
       cases e0
       rw [show rd_T52 [x] (0 : Int) = x from rfl] at m0 m1 m2 m3
       simp only [Int.toNat_zero, Nat.zero_mul, addr0] at m0 m1 m2 m3
       clear hx
       cases pl
       all_goals
        go_wp2_with (go_at_call 38; refine (rEsc_eq x true HX.out _).mono ?_; rintro e w12 ⟨rfl, hb12⟩; replace HZ := am (HZ.out.below hb12); replace m0 := pw_cell_below hb12 m0; replace m1 := pw_cell_below hb12 m1; replace m2 := pw_cell_below hb12 m2; replace m3 := pw_cell_below hb12 m3; replace s2 := pw_cell_below hb12 s2; replace s3 := pw_cell_below hb12 s3; replace hgs := Nat.lt_of_lt_of_le hgs hb12.size)
        go_meet
        case rel => exact ⟨rfl, HZ⟩
      | false =>
       rw [hfo] at s2
       rcases hen with hnx | ⟨x, hnx, hx⟩
       ·clear hfn hfo hlo
        subst hnx
        cases pl
        all_goals
         go_wp2_with fail
         go_meet
         case rel => exact ⟨rfl, HZ⟩
       clear hfn hfo hlo
       subst hnx
       have HX := am hx
       obtain ⟨ad, e0, m0, m1, m2, m3⟩ := at_T52 (H11.out.y _ mc) (0 : Int) (by omega) (by simp)
       cases e0
       rw [show rd_T52 [x] (0 : Int) = x from rfl] at m0 m1 m2 m3
       simp only [Int.toNat_zero, Nat.zero_mul, addr0] at m0 m1 m2 m3
       clear hx
       cases pl
       all_goals
        go_wp2_with (go_at_call 38; refine (rEsc_eq x true HX.out _).mono ?_; rintro e w12 ⟨rfl, hb12⟩; replace HZ := am (HZ.out.below hb12); replace m0 := pw_cell_below hb12 m0; replace m1 := pw_cell_below hb12 m1; replace m2 := pw_cell_below hb12 m2; replace m3 := pw_cell_below hb12 m3; replace s2 := pw_cell_below hb12 s2; replace s3 := pw_cell_below hb12 s3; replace hgs := Nat.lt_of_lt_of_le hgs hb12.size)
        go_meet
        case rel => exact ⟨rfl, HZ⟩
     | false =>
      rw [hlo] at s3
      have hpf : pl = false := by
       cases pl with
       | false => rfl
       | true => have := hplo rfl; rw [hlo] at this; cases this
      subst hpf
      clear hjl hplo
      cases hfo : T.force with
      | true =>
       obtain ⟨x, hnx, hx⟩ := hfn hfo
       rw [hfo] at s2
       clear hen hfn hfo hlo
       subst hnx
       have HX := am hx
       obtain ⟨ad, e0, m0, m1, m2, m3⟩ := at_T52 (H11.out.y _ mc) (0 : Int) (by omega) (by simp)
       cases e0
       rw [show rd_T52 [x] (0 : Int) = x from rfl] at m0 m1 m2 m3
       simp only [Int.toNat_zero, Nat.zero_mul, addr0] at m0 m1 m2 m3
       clear hx
       go_wp2_with (go_at_call 38; refine (rEsc_eq x true HX.out _).mono ?_; rintro e w12 ⟨rfl, hb12⟩; replace HZ := am (HZ.out.below hb12); replace m0 := pw_cell_below hb12 m0; replace m1 := pw_cell_below hb12 m1; replace m2 := pw_cell_below hb12 m2; replace m3 := pw_cell_below hb12 m3; replace s2 := pw_cell_below hb12 s2; replace s3 := pw_cell_below hb12 s3; replace hgs := Nat.lt_of_lt_of_le hgs hb12.size)
       go_meet
       case rel => exact ⟨rfl, HZ⟩
      | false =>
       rw [hfo] at s2
       clear hen hfn hfo hlo
       go_wp2_with fail
       go_meet
       case rel => exact ⟨rfl, HZ⟩
    case rest =>
     obtain ⟨rfl, HC⟩ := hcut
     clear H11 HZ hen hfn hplo hgs hga s2 s3 j3
     have hgs : sb < wc.heap.size := blk_lt (HC.out.g _ mc)
     have s3 : wc.cell? ⟨sb, 3, none⟩ = some (.bool T.lost) := HC.out.cell mc 3 rfl
     have HST := am (fun (h : T.lost = true) (hk : kk + 1 ≤ l.length) => lost_step HE.out hl80 kk (by omega) (by rw [HQ.out, HTT.out]; exact h))
     have HCL := am (HC.out.popy.popy.popg)
     cases hlo : T.lost with
     | true =>
      rw [hlo] at s3
      have hk0 := (hjl hlo).2
      obtain ⟨jj, hjj⟩ : ∃ jj : Nat, kk - 1 = jj := ⟨_, rfl⟩
      have hij : (kk : Int) - 1 = (jj : Int) := by omega
      have hjn : jj < l.length := by omega
      have hx := HLE.out hlo (by omega)
      obtain ⟨ad, e0, m0, m1, m2, m3⟩ := at_T52 (HC.out.y _ (List.mem_cons_of_mem _ (List.mem_cons_of_mem _ mc))) (jj : Int) (by omega) (show (jj : Int) < (l.length : Int) by omega)
      cases e0
      rw [Int.toNat_natCast] at m0 m1 m2 m3
      have hm : rd_T52 l (jj : Int) = l[kk - 1] := by rw [rd_T52, Int.toNat_natCast, getD_get l z52 jj hjn]; simp only [hjj]
      rw [← hm] at hx
      clear hm
      generalize rd_T52 l (jj : Int) = x at *
      have HX := am hx
      have HLO := am hlo
      have hcn : decide (jj < l.length) = true := decide_eq_true hjn
      clear hx hlo hjl hjj HLE
      go_wp2_with (go_at_call 38; refine (rEsc_eq x true HX.out _).mono ?_; rintro e w12 ⟨rfl, hb12⟩; have HCM := am (HCL.out.below hb12))
      go_roundg (l.length + 1 - (kk + 1))
      case measure => omega
      case rel => exact ⟨kk + 1, true, by omega, by omega, by go_num, rfl, ⟨fun _ hk => HST.out HLO.out hk⟩, HCM⟩
     | false =>
      rw [hlo] at s3
      clear hjl hlo HLE
      go_wp2_with fail
      go_roundg (l.length + 1 - (kk + 1))
      case measure => omega
      case rel => exact ⟨kk + 1, false, by omega, by omega, by go_num, rfl, ⟨fun h => by cases h⟩, HCL⟩
   have cb : decide ((kk : Int) ≤ (l.length : Int)) = false := decide_eq_false (by omega)
   go_wp2_with (go_at_call 15; refine HW.out.awake.mono ?_; rintro e w3 ⟨rfl, h3⟩)
   go_ret
   exact ⟨rfl, h3.b⟩
end Go.Proofs.YtjgocihflhljeaaGreat.P
