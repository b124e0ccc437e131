/- What the claim's law needs, many texts in one (To). No conditions of its own. -/
import Derived.Test.YtjgocihflhljeaaGreatZl12
set_option linter.unusedVariables false
set_option linter.unusedSimpArgs false
namespace Go.Proofs.YtjgocihflhljeaaGreat.P
open Go.RowKit Go.Shelf Go.Proofs.YtjgocihflhljeaaGreatW.PrintWords Go.Proofs.YtjgocihflhljeaaGreatW.PrintLast Go.Proofs.YtjgocihflhljeaaGreatW.PrintMore
attribute [local go_sem] Oper.semAt_some
theorem below_grown {n : Nat} {w0 A B : World} {row : Option Nat} (h : Below n w0 A) (hg : A.grownBy B row) (hr : ∀ k, row = some k → n ≤ k) (hs : n ≤ A.heap.size) : Below n w0 B :=
 h.trans ⟨hg.os, hg.tape, hg.output, hg.size, fun k hk => hg.block k (by omega) (fun e => by have := hr k e.symm; omega)⟩
def Tk.last (t : Tk) : Int := (t.word.length : Int) - 1
def seenE (ids : List S68) (rc : Bool) (rn : Int) (jb : Bool) (mine : Bool) (t : Tk) : Int :=
 if t.word.length = 0 then 9 else if moveE ids rc rn jb (t.mv t.last) ≠ 0 ∨ isOtherR ids rc rn jb (t.mv t.last) ≠ mine then 9 else 0
theorem back_any (g : Nat) (n : Int) (w : World) : Calls Tryz.prog 67 #[.pointer (some ⟨g, 0, none⟩), .int .i64 n] w fun e w' =>
  e = .returned (.func (.func 101) #[] #[.pointer (some ⟨w.heap.size + 1, 0, none⟩), .pointer (some ⟨w.heap.size, 0, none⟩)]) ∧
  (w.alloc (.cells #[.pointer (some ⟨g, 0, none⟩)] 70)).alloc (.cells #[.int .i64 n] 3) = w' := by
 go_enter Tryz.func67, Tryz.ntmps67
 go_wp2
 go_ret
 exact ⟨rfl, rfl⟩
theorem front_any (g : Nat) (n : Int) (w : World) : Calls Tryz.prog 69 #[.pointer (some ⟨g, 0, none⟩), .int .i64 n] w fun e w' =>
  e = .returned (.func (.func 103) #[] #[.pointer (some ⟨w.heap.size + 1, 0, none⟩), .pointer (some ⟨w.heap.size, 0, none⟩)]) ∧
  (w.alloc (.cells #[.pointer (some ⟨g, 0, none⟩)] 70)).alloc (.cells #[.int .i64 n] 3) = w' := by
 go_enter Tryz.func69, Tryz.ntmps69
 go_wp2
 go_ret
 exact ⟨rfl, rfl⟩
theorem enters_back1 : ∀ args w, (callFunc 101 args).run Tryz.prog w = .ok (.enter 101 args) w := enters_of Tryz.func101 (by kernel_rfl) rfl
theorem enters_front1 : ∀ args w, (callFunc 103 args).run Tryz.prog w = .ok (.enter 103 args) w := enters_of Tryz.func103 (by kernel_rfl) rfl
set_option maxRecDepth 8000 in
set_option maxHeartbeats 4000000 in
theorem seen_err {base : Nat} {w : World} {g : Nat} {A : Option Addr} {c : Nat} {ids : List S68} {rc : Bool} {rn : Int} {jb : Bool} {t : Tk} {vw vp vj vf vo : Value} (h : Talk base w g A c ids rc rn jb t vw vp vj vf vo) (hr : Kd.C k68 w A ids.length ids) (mine : Bool) (mv : Value) (hE : seenE ids rc rn jb mine t = 9) : Calls Tryz.prog 66 #[.pointer (some ⟨g, 0, none⟩), .bool mine, mv] w (Ret2 9 fun r w' => r = .slice none 0 0 ∧ Below w.heap.size w w') := by
 have HT := am h
 have hgw := h.lt
 have hwl := h.ok.hw
 by_cases h0 : t.word.length = 0
 ·obtain ⟨Aw, cw, rfl⟩ := Kd.R_slice h.r.w
  have h4 : w.cell? ⟨g, 4, none⟩ = some (.slice Aw t.word.length cw) := (blk_cell h.b 4).trans rfl
  rw [h0] at h4
  clear h hr hE
  go_enter Tryz.func66, Tryz.ntmps66
  go_wp2
  go_ret2
  exact Ret2.mk _ rfl ⟨rfl, Below.refl _ _⟩
 rw [seenE, if_neg h0] at hE
 have hl0 : 0 ≤ t.last := by unfold Tk.last; omega
 have hl1 : t.last < t.word.length := by unfold Tk.last; omega
 have hle : (t.word.length : Int) - 1 = t.last := rfl
 obtain ⟨gw, cw, q, hvw, hgw2, hq, a0, a1, a2, a3⟩ := h.r.w.get t.last hl0 hl1
 cases hvw
 have hq' : t.mv t.last = q := hq
 rw [hq'] at hE
 have h4 : w.cell? ⟨g, 4, none⟩ = some (.slice (some ⟨gw, 0, none⟩) t.word.length cw) := (blk_cell h.b 4).trans rfl
 have k0 : w.cell? ⟨g, 0, none⟩ = some (.slice A ids.length c) := (blk_cell h.b 0).trans rfl
 have k1 : w.cell? ⟨g, 1, none⟩ = some (.bool rc) := (blk_cell h.b 1).trans rfl
 have k2 : w.cell? ⟨g, 2, none⟩ = some (.int .i64 rn) := (blk_cell h.b 2).trans rfl
 have k3 : w.cell? ⟨g, 3, none⟩ = some (.bool jb) := (blk_cell h.b 3).trans rfl
 have HI := am (IsOther_any A c ids rc rn jb q w.drew (Kd.C_drew hr))
 clear h hr hq'
 obtain ⟨m, hm⟩ : ∃ m, t.last = m := ⟨_, rfl⟩
 obtain ⟨eM, heM⟩ : ∃ eM, moveE ids rc rn jb q = eM := ⟨_, rfl⟩
 obtain ⟨bO, hbO⟩ : ∃ bO, isOtherR ids rc rn jb q = bO := ⟨_, rfl⟩
 rw [heM, hbO] at hE HI
 rw [hm] at hl0 hl1 hle a0 a1 a2 a3
 clear hq
 have HM := am hm
 clear hm heM hbO
 have cb : decide (m < 0) = false := decide_eq_false (by omega)
 rcases he : eM != 0 with _ | _
 ·have he0 : eM = 0 := by simpa using he
  subst he0
  rcases bO with _ | _ <;> rcases mine with _ | _
  ·simp at hE
  ·clear hE
   go_enter Tryz.func66, Tryz.ntmps66
   go_upto_region 4 with fail
   refine start_ (n := 17) (S := fun w' => w'.cell? ⟨g, 0, none⟩ = some (.slice A ids.length c) ∧ w'.cell? ⟨g, 1, none⟩ = some (.bool rc) ∧ w'.cell? ⟨g, 2, none⟩ = some (.int .i64 rn) ∧ w'.cell? ⟨g, 3, none⟩ = some (.bool jb) ∧ w'.cell? ⟨g, 4, none⟩ = some (.slice (some ⟨gw, 0, none⟩) t.word.length cw) ∧ w'.cell? ⟨gw, m.toNat * 4, none⟩ = some (.int .i64 q.f0) ∧ w'.cell? ⟨gw, m.toNat * 4 + 1, none⟩ = some (.int .i64 q.f1) ∧ w'.cell? ⟨gw, m.toNat * 4 + 2, none⟩ = some (.int .u8 q.f2) ∧ w'.cell? ⟨gw, m.toNat * 4 + 3, none⟩ = some (.int .i64 q.f3)) (ds := [11]) (Mq [0,17]) (by kernel_rfl) rfl rfl ⟨k0, k1, k2, k3, h4, a0, a1, a2, a3⟩ (fun hHeld => ?_)
   refine pure_ (i := 0) (N:=some 21) (v:=?_) (a':=?_) (Mq [1,16]) rfl rfl (by kernel_rfl) (fun _ _ _ h => h) (Or.inl ⟨by rfl, ?_⟩) ?_ ?_;rotate_left;(intro w';go_simp;with_reducible rfl);rotate_left;(simp only [Act.put,sn1,sn2,sn3,i64_w];rfl)
   refine pure_ (i := 1) (N:=some 22) (v:=?_) (a':=?_) (Mq [2,15]) rfl rfl (by kernel_rfl) (fun _ _ _ h => h) (Or.inl ⟨by rfl, ?_⟩) ?_ ?_;rotate_left;(intro w';go_simp;with_reducible rfl);rotate_left;(simp only [Act.put,sn1,sn2,sn3,i64_w];rfl)
   refine pure_ (i := 2) (N:=some 23) (v:=?_) (a':=?_) (Mq [3,14]) rfl rfl (by kernel_rfl) (fun _ _ _ h => h) (Or.inl ⟨by rfl, ?_⟩) ?_ ?_;rotate_left;(intro w';go_simp;with_reducible rfl);rotate_left;(simp only [Act.put,sn1,sn2,sn3,i64_w];rfl)
   refine pure_ (i := 4) (N:=some 25) (v:=?_) (a':=?_) (Mq [3,1,1,12]) rfl rfl (by kernel_rfl) (fun _ _ _ h => h) (Or.inl ⟨by rfl, ?_⟩) ?_ ?_;rotate_left;(intro w';go_simp;with_reducible rfl);rotate_left;(simp only [Act.put,sn1,sn2,sn3,i64_w];rfl)
   refine pure_ (i := 5) (N:=some 26) (v:=?_) (a':=?_) (Mq [3,1,2,11]) rfl rfl (by kernel_rfl) (fun _ _ _ h => h) (Or.inl ⟨by rfl, ?_⟩) ?_ ?_;rotate_left;(intro w';go_simp;with_reducible rfl);rotate_left;(simp only [Act.put,sn1,sn2,sn3,i64_w];rfl)
   refine pure_ (i := 6) (N:=some 27) (v:=?_) (a':=?_) (Mq [3,1,3,10]) rfl rfl (by kernel_rfl) (fun _ _ _ h => h) (Or.inl ⟨by rfl, ?_⟩) ?_ ?_;rotate_left;(intro w';go_simp;with_reducible rfl);rotate_left;(simp only [Act.put,sn1,sn2,sn3,i64_w];rfl)
   refine pure_ (i := 8) (N:=some 29) (v:=?_) (a':=?_) (Mq [3,1,3,1,1,8]) rfl rfl (by kernel_rfl) (fun _ _ _ h => h) (Or.inl ⟨by rfl, ?_⟩) ?_ ?_;rotate_left;(intro w';go_simp;with_reducible rfl);rotate_left;(simp only [Act.put,sn1,sn2,sn3,i64_w];rfl)
   refine take_ (i := 3) (N:=some 24) (v:=?_) (a':=?_) (Mq [7,1,1,8]) rfl rfl (by kernel_rfl) (fun _ _ _ h => h) (Or.inl ⟨by rfl, ?_⟩) hHeld ?_ ?_
   rotate_left
   ·rintro w' ⟨s0, s1, s2, s3, s4, s5, s6, s7, s8⟩
    go_simp
    with_reducible rfl
   rotate_left
   ·simp only [Act.put,sn1,sn2,sn3,i64_w]
    rfl
   refine take_ (i := 7) (N:=some 28) (v:=?_) (a':=?_) (Mq [9,8]) rfl rfl (by kernel_rfl) (fun _ _ _ h => h) (Or.inl ⟨by rfl, ?_⟩) hHeld ?_ ?_
   rotate_left
   ·rintro w' ⟨s0, s1, s2, s3, s4, s5, s6, s7, s8⟩
    go_simp
    with_reducible rfl
   rotate_left
   ·simp only [Act.put,sn1,sn2,sn3,i64_w]
    rfl
   refine pure_ (i := 9) (N:=some 30) (v:=?_) (a':=?_) (Mq [10,7]) rfl rfl (by kernel_rfl) (fun _ _ _ h => h) (Or.inl ⟨by rfl, ?_⟩) ?_ ?_;rotate_left;(intro w';go_simp;with_reducible rfl);rotate_left;(simp only [Act.put,sn1,sn2,sn3,i64_w];rfl)
   refine take_ (i := 10) (N:=some 31) (v:=?_) (a':=?_) (Mq [11,6]) rfl rfl (by kernel_rfl) (fun _ _ _ h => h) (Or.inl ⟨by rfl, ?_⟩) hHeld ?_ ?_
   rotate_left
   ·rintro w' ⟨s0, s1, s2, s3, s4, s5, s6, s7, s8⟩
    go_simp
    with_reducible rfl
   rotate_left
   ·simp only [Act.put,sn1,sn2,sn3,i64_w]
    rfl
   refine last_ (i := 11) (N:=some 32) (Mq [12,5]) rfl rfl (by kernel_rfl) (by decide) (fun K hK => ?_)
   refine goes_ Tryz.func98 (by kernel_rfl) rfl #[.agg #[.slice A ids.length c, .bool rc, .int .i64 rn, .bool jb], .agg #[.int .i64 q.f0, .int .i64 q.f1, .int .u8 q.f2, .int .i64 q.f3]] (by rfl) rfl rfl (by simp only [List.map_toArray, List.map_cons, List.map_nil]; rfl) ?_
   with_reducible refine (HI.out).mono ?_
   rintro e w1 ⟨rfl, hb1⟩
   refine ⟨_, rfl, ?_⟩
   have HB1 := am (show Below w.heap.size w w1 from ((Below.refl _ w).drew).trans (hb1.mono (Nat.le_refl _)))
   refine hK.out _ _ ?_
   clear hK K
   refine norm_ (a' := ?_) ?_ ?_
   rotate_left
   ·show Act.put _ (some 32) _ = _
    simp only [Act.put,sn1,sn2,sn3,i64_w]
    rfl
   refine pure_ (i := 12) (N:=some 20) (v:=?_) (a':=?_) (Mq [13,4]) rfl rfl (by kernel_rfl) (fun _ _ _ h => h) (Or.inl ⟨by rfl, ?_⟩) ?_ ?_;rotate_left;(intro w';go_simp;with_reducible rfl);rotate_left;(simp only [Act.put,sn1,sn2,sn3,i64_w];rfl)
   refine pure_ (i := 13) (N:=some 33) (v:=?_) (a':=?_) (Mq [14,3]) rfl rfl (by kernel_rfl) (fun _ _ _ h => h) (Or.inl ⟨by rfl, ?_⟩) ?_ ?_;rotate_left;(intro w';go_simp;with_reducible rfl);rotate_left;(simp only [Act.put,sn1,sn2,sn3,i64_w];rfl)
   refine pure_ (i := 14) (N:=some 34) (v:=?_) (a':=?_) (Mq [15,2]) rfl rfl (by kernel_rfl) (fun _ _ _ h => h) (Or.inl ⟨by rfl, ?_⟩) ?_ ?_;rotate_left;(intro w';go_simp;with_reducible rfl);rotate_left;(simp only [Act.put,sn1,sn2,sn3,i64_w];rfl)
   refine pure_ (i := 15) (N:=some 9) (v:=?_) (a':=?_) (Mq [16,1]) rfl rfl (by kernel_rfl) (fun _ _ _ h => h) (Or.inl ⟨by rfl, ?_⟩) ?_ ?_;rotate_left;(intro w';go_simp;with_reducible rfl);rotate_left;(simp only [Act.put,sn1,sn2,sn3,i64_w];rfl)
   refine pure_ (i := 16) (N:=some 10) (v:=?_) (a':=?_) (Mq [17]) rfl rfl (by kernel_rfl) (fun _ _ _ h => h) (Or.inl ⟨by rfl, ?_⟩) ?_ ?_;rotate_left;(intro w';go_simp;with_reducible rfl);rotate_left;(simp only [Act.put,sn1,sn2,sn3,i64_w];rfl)
   refine done_ (by kernel_rfl) ?_
   go_wp2_with fail
   go_ret2
   exact Ret2.mk _ rfl ⟨rfl, HB1.out⟩
  ·clear hE
   go_enter Tryz.func66, Tryz.ntmps66
   go_upto_region 4 with fail
   refine start_ (n := 17) (S := fun w' => w'.cell? ⟨g, 0, none⟩ = some (.slice A ids.length c) ∧ w'.cell? ⟨g, 1, none⟩ = some (.bool rc) ∧ w'.cell? ⟨g, 2, none⟩ = some (.int .i64 rn) ∧ w'.cell? ⟨g, 3, none⟩ = some (.bool jb) ∧ w'.cell? ⟨g, 4, none⟩ = some (.slice (some ⟨gw, 0, none⟩) t.word.length cw) ∧ w'.cell? ⟨gw, m.toNat * 4, none⟩ = some (.int .i64 q.f0) ∧ w'.cell? ⟨gw, m.toNat * 4 + 1, none⟩ = some (.int .i64 q.f1) ∧ w'.cell? ⟨gw, m.toNat * 4 + 2, none⟩ = some (.int .u8 q.f2) ∧ w'.cell? ⟨gw, m.toNat * 4 + 3, none⟩ = some (.int .i64 q.f3)) (ds := [11]) (Mq [0,17]) (by kernel_rfl) rfl rfl ⟨k0, k1, k2, k3, h4, a0, a1, a2, a3⟩ (fun hHeld => ?_)
   refine pure_ (i := 0) (N:=some 21) (v:=?_) (a':=?_) (Mq [1,16]) rfl rfl (by kernel_rfl) (fun _ _ _ h => h) (Or.inl ⟨by rfl, ?_⟩) ?_ ?_;rotate_left;(intro w';go_simp;with_reducible rfl);rotate_left;(simp only [Act.put,sn1,sn2,sn3,i64_w];rfl)
   refine pure_ (i := 1) (N:=some 22) (v:=?_) (a':=?_) (Mq [2,15]) rfl rfl (by kernel_rfl) (fun _ _ _ h => h) (Or.inl ⟨by rfl, ?_⟩) ?_ ?_;rotate_left;(intro w';go_simp;with_reducible rfl);rotate_left;(simp only [Act.put,sn1,sn2,sn3,i64_w];rfl)
   refine pure_ (i := 2) (N:=some 23) (v:=?_) (a':=?_) (Mq [3,14]) rfl rfl (by kernel_rfl) (fun _ _ _ h => h) (Or.inl ⟨by rfl, ?_⟩) ?_ ?_;rotate_left;(intro w';go_simp;with_reducible rfl);rotate_left;(simp only [Act.put,sn1,sn2,sn3,i64_w];rfl)
   refine pure_ (i := 4) (N:=some 25) (v:=?_) (a':=?_) (Mq [3,1,1,12]) rfl rfl (by kernel_rfl) (fun _ _ _ h => h) (Or.inl ⟨by rfl, ?_⟩) ?_ ?_;rotate_left;(intro w';go_simp;with_reducible rfl);rotate_left;(simp only [Act.put,sn1,sn2,sn3,i64_w];rfl)
   refine pure_ (i := 5) (N:=some 26) (v:=?_) (a':=?_) (Mq [3,1,2,11]) rfl rfl (by kernel_rfl) (fun _ _ _ h => h) (Or.inl ⟨by rfl, ?_⟩) ?_ ?_;rotate_left;(intro w';go_simp;with_reducible rfl);rotate_left;(simp only [Act.put,sn1,sn2,sn3,i64_w];rfl)
   refine pure_ (i := 6) (N:=some 27) (v:=?_) (a':=?_) (Mq [3,1,3,10]) rfl rfl (by kernel_rfl) (fun _ _ _ h => h) (Or.inl ⟨by rfl, ?_⟩) ?_ ?_;rotate_left;(intro w';go_simp;with_reducible rfl);rotate_left;(simp only [Act.put,sn1,sn2,sn3,i64_w];rfl)
   refine pure_ (i := 8) (N:=some 29) (v:=?_) (a':=?_) (Mq [3,1,3,1,1,8]) rfl rfl (by kernel_rfl) (fun _ _ _ h => h) (Or.inl ⟨by rfl, ?_⟩) ?_ ?_;rotate_left;(intro w';go_simp;with_reducible rfl);rotate_left;(simp only [Act.put,sn1,sn2,sn3,i64_w];rfl)
   refine take_ (i := 3) (N:=some 24) (v:=?_) (a':=?_) (Mq [7,1,1,8]) rfl rfl (by kernel_rfl) (fun _ _ _ h => h) (Or.inl ⟨by rfl, ?_⟩) hHeld ?_ ?_
   rotate_left
   ·rintro w' ⟨s0, s1, s2, s3, s4, s5, s6, s7, s8⟩
    go_simp
    with_reducible rfl
   rotate_left
   ·simp only [Act.put,sn1,sn2,sn3,i64_w]
    rfl
   refine take_ (i := 7) (N:=some 28) (v:=?_) (a':=?_) (Mq [9,8]) rfl rfl (by kernel_rfl) (fun _ _ _ h => h) (Or.inl ⟨by rfl, ?_⟩) hHeld ?_ ?_
   rotate_left
   ·rintro w' ⟨s0, s1, s2, s3, s4, s5, s6, s7, s8⟩
    go_simp
    with_reducible rfl
   rotate_left
   ·simp only [Act.put,sn1,sn2,sn3,i64_w]
    rfl
   refine pure_ (i := 9) (N:=some 30) (v:=?_) (a':=?_) (Mq [10,7]) rfl rfl (by kernel_rfl) (fun _ _ _ h => h) (Or.inl ⟨by rfl, ?_⟩) ?_ ?_;rotate_left;(intro w';go_simp;with_reducible rfl);rotate_left;(simp only [Act.put,sn1,sn2,sn3,i64_w];rfl)
   refine take_ (i := 10) (N:=some 31) (v:=?_) (a':=?_) (Mq [11,6]) rfl rfl (by kernel_rfl) (fun _ _ _ h => h) (Or.inl ⟨by rfl, ?_⟩) hHeld ?_ ?_
   rotate_left
   ·rintro w' ⟨s0, s1, s2, s3, s4, s5, s6, s7, s8⟩
    go_simp
    with_reducible rfl
   rotate_left
   ·simp only [Act.put,sn1,sn2,sn3,i64_w]
    rfl
   refine last_ (i := 11) (N:=some 32) (Mq [12,5]) rfl rfl (by kernel_rfl) (by decide) (fun K hK => ?_)
   refine goes_ Tryz.func98 (by kernel_rfl) rfl #[.agg #[.slice A ids.length c, .bool rc, .int .i64 rn, .bool jb], .agg #[.int .i64 q.f0, .int .i64 q.f1, .int .u8 q.f2, .int .i64 q.f3]] (by rfl) rfl rfl (by simp only [List.map_toArray, List.map_cons, List.map_nil]; rfl) ?_
   with_reducible refine (HI.out).mono ?_
   rintro e w1 ⟨rfl, hb1⟩
   refine ⟨_, rfl, ?_⟩
   have HB1 := am (show Below w.heap.size w w1 from ((Below.refl _ w).drew).trans (hb1.mono (Nat.le_refl _)))
   refine hK.out _ _ ?_
   clear hK K
   refine norm_ (a' := ?_) ?_ ?_
   rotate_left
   ·show Act.put _ (some 32) _ = _
    simp only [Act.put,sn1,sn2,sn3,i64_w]
    rfl
   refine pure_ (i := 12) (N:=some 20) (v:=?_) (a':=?_) (Mq [13,4]) rfl rfl (by kernel_rfl) (fun _ _ _ h => h) (Or.inl ⟨by rfl, ?_⟩) ?_ ?_;rotate_left;(intro w';go_simp;with_reducible rfl);rotate_left;(simp only [Act.put,sn1,sn2,sn3,i64_w];rfl)
   refine pure_ (i := 13) (N:=some 33) (v:=?_) (a':=?_) (Mq [14,3]) rfl rfl (by kernel_rfl) (fun _ _ _ h => h) (Or.inl ⟨by rfl, ?_⟩) ?_ ?_;rotate_left;(intro w';go_simp;with_reducible rfl);rotate_left;(simp only [Act.put,sn1,sn2,sn3,i64_w];rfl)
   refine pure_ (i := 14) (N:=some 34) (v:=?_) (a':=?_) (Mq [15,2]) rfl rfl (by kernel_rfl) (fun _ _ _ h => h) (Or.inl ⟨by rfl, ?_⟩) ?_ ?_;rotate_left;(intro w';go_simp;with_reducible rfl);rotate_left;(simp only [Act.put,sn1,sn2,sn3,i64_w];rfl)
   refine pure_ (i := 15) (N:=some 9) (v:=?_) (a':=?_) (Mq [16,1]) rfl rfl (by kernel_rfl) (fun _ _ _ h => h) (Or.inl ⟨by rfl, ?_⟩) ?_ ?_;rotate_left;(intro w';go_simp;with_reducible rfl);rotate_left;(simp only [Act.put,sn1,sn2,sn3,i64_w];rfl)
   refine pure_ (i := 16) (N:=some 10) (v:=?_) (a':=?_) (Mq [17]) rfl rfl (by kernel_rfl) (fun _ _ _ h => h) (Or.inl ⟨by rfl, ?_⟩) ?_ ?_;rotate_left;(intro w';go_simp;with_reducible rfl);rotate_left;(simp only [Act.put,sn1,sn2,sn3,i64_w];rfl)
   refine done_ (by kernel_rfl) ?_
   go_wp2_with fail
   go_ret2
   exact Ret2.mk _ rfl ⟨rfl, HB1.out⟩
  simp at hE
 clear hE
 go_enter Tryz.func66, Tryz.ntmps66
 go_upto_region 4 with fail
 refine start_ (n := 17) (S := fun w' => w'.cell? ⟨g, 0, none⟩ = some (.slice A ids.length c) ∧ w'.cell? ⟨g, 1, none⟩ = some (.bool rc) ∧ w'.cell? ⟨g, 2, none⟩ = some (.int .i64 rn) ∧ w'.cell? ⟨g, 3, none⟩ = some (.bool jb) ∧ w'.cell? ⟨g, 4, none⟩ = some (.slice (some ⟨gw, 0, none⟩) t.word.length cw) ∧ w'.cell? ⟨gw, m.toNat * 4, none⟩ = some (.int .i64 q.f0) ∧ w'.cell? ⟨gw, m.toNat * 4 + 1, none⟩ = some (.int .i64 q.f1) ∧ w'.cell? ⟨gw, m.toNat * 4 + 2, none⟩ = some (.int .u8 q.f2) ∧ w'.cell? ⟨gw, m.toNat * 4 + 3, none⟩ = some (.int .i64 q.f3)) (ds := [11]) (Mq [0,17]) (by kernel_rfl) rfl rfl ⟨k0, k1, k2, k3, h4, a0, a1, a2, a3⟩ (fun hHeld => ?_)
 refine pure_ (i := 0) (N:=some 21) (v:=?_) (a':=?_) (Mq [1,16]) rfl rfl (by kernel_rfl) (fun _ _ _ h => h) (Or.inl ⟨by rfl, ?_⟩) ?_ ?_;rotate_left;(intro w';go_simp;with_reducible rfl);rotate_left;(simp only [Act.put,sn1,sn2,sn3,i64_w];rfl)
 refine pure_ (i := 1) (N:=some 22) (v:=?_) (a':=?_) (Mq [2,15]) rfl rfl (by kernel_rfl) (fun _ _ _ h => h) (Or.inl ⟨by rfl, ?_⟩) ?_ ?_;rotate_left;(intro w';go_simp;with_reducible rfl);rotate_left;(simp only [Act.put,sn1,sn2,sn3,i64_w];rfl)
 refine pure_ (i := 2) (N:=some 23) (v:=?_) (a':=?_) (Mq [3,14]) rfl rfl (by kernel_rfl) (fun _ _ _ h => h) (Or.inl ⟨by rfl, ?_⟩) ?_ ?_;rotate_left;(intro w';go_simp;with_reducible rfl);rotate_left;(simp only [Act.put,sn1,sn2,sn3,i64_w];rfl)
 refine pure_ (i := 4) (N:=some 25) (v:=?_) (a':=?_) (Mq [3,1,1,12]) rfl rfl (by kernel_rfl) (fun _ _ _ h => h) (Or.inl ⟨by rfl, ?_⟩) ?_ ?_;rotate_left;(intro w';go_simp;with_reducible rfl);rotate_left;(simp only [Act.put,sn1,sn2,sn3,i64_w];rfl)
 refine pure_ (i := 5) (N:=some 26) (v:=?_) (a':=?_) (Mq [3,1,2,11]) rfl rfl (by kernel_rfl) (fun _ _ _ h => h) (Or.inl ⟨by rfl, ?_⟩) ?_ ?_;rotate_left;(intro w';go_simp;with_reducible rfl);rotate_left;(simp only [Act.put,sn1,sn2,sn3,i64_w];rfl)
 refine pure_ (i := 6) (N:=some 27) (v:=?_) (a':=?_) (Mq [3,1,3,10]) rfl rfl (by kernel_rfl) (fun _ _ _ h => h) (Or.inl ⟨by rfl, ?_⟩) ?_ ?_;rotate_left;(intro w';go_simp;with_reducible rfl);rotate_left;(simp only [Act.put,sn1,sn2,sn3,i64_w];rfl)
 refine pure_ (i := 8) (N:=some 29) (v:=?_) (a':=?_) (Mq [3,1,3,1,1,8]) rfl rfl (by kernel_rfl) (fun _ _ _ h => h) (Or.inl ⟨by rfl, ?_⟩) ?_ ?_;rotate_left;(intro w';go_simp;with_reducible rfl);rotate_left;(simp only [Act.put,sn1,sn2,sn3,i64_w];rfl)
 refine take_ (i := 3) (N:=some 24) (v:=?_) (a':=?_) (Mq [7,1,1,8]) rfl rfl (by kernel_rfl) (fun _ _ _ h => h) (Or.inl ⟨by rfl, ?_⟩) hHeld ?_ ?_
 rotate_left
 ·rintro w' ⟨s0, s1, s2, s3, s4, s5, s6, s7, s8⟩
  go_simp
  with_reducible rfl
 rotate_left
 ·simp only [Act.put,sn1,sn2,sn3,i64_w]
  rfl
 refine take_ (i := 7) (N:=some 28) (v:=?_) (a':=?_) (Mq [9,8]) rfl rfl (by kernel_rfl) (fun _ _ _ h => h) (Or.inl ⟨by rfl, ?_⟩) hHeld ?_ ?_
 rotate_left
 ·rintro w' ⟨s0, s1, s2, s3, s4, s5, s6, s7, s8⟩
  go_simp
  with_reducible rfl
 rotate_left
 ·simp only [Act.put,sn1,sn2,sn3,i64_w]
  rfl
 refine pure_ (i := 9) (N:=some 30) (v:=?_) (a':=?_) (Mq [10,7]) rfl rfl (by kernel_rfl) (fun _ _ _ h => h) (Or.inl ⟨by rfl, ?_⟩) ?_ ?_;rotate_left;(intro w';go_simp;with_reducible rfl);rotate_left;(simp only [Act.put,sn1,sn2,sn3,i64_w];rfl)
 refine take_ (i := 10) (N:=some 31) (v:=?_) (a':=?_) (Mq [11,6]) rfl rfl (by kernel_rfl) (fun _ _ _ h => h) (Or.inl ⟨by rfl, ?_⟩) hHeld ?_ ?_
 rotate_left
 ·rintro w' ⟨s0, s1, s2, s3, s4, s5, s6, s7, s8⟩
  go_simp
  with_reducible rfl
 rotate_left
 ·simp only [Act.put,sn1,sn2,sn3,i64_w]
  rfl
 refine last_ (i := 11) (N:=some 32) (Mq [12,5]) rfl rfl (by kernel_rfl) (by decide) (fun K hK => ?_)
 refine goes_ Tryz.func98 (by kernel_rfl) rfl #[.agg #[.slice A ids.length c, .bool rc, .int .i64 rn, .bool jb], .agg #[.int .i64 q.f0, .int .i64 q.f1, .int .u8 q.f2, .int .i64 q.f3]] (by rfl) rfl rfl (by simp only [List.map_toArray, List.map_cons, List.map_nil]; rfl) ?_
 with_reducible refine (HI.out).mono ?_
 rintro e w1 ⟨rfl, hb1⟩
 refine ⟨_, rfl, ?_⟩
 have HB1 := am (show Below w.heap.size w w1 from ((Below.refl _ w).drew).trans (hb1.mono (Nat.le_refl _)))
 refine hK.out _ _ ?_
 clear hK K
 refine norm_ (a' := ?_) ?_ ?_
 rotate_left
 ·show Act.put _ (some 32) _ = _
  simp only [Act.put,sn1,sn2,sn3,i64_w]
  rfl
 refine pure_ (i := 12) (N:=some 20) (v:=?_) (a':=?_) (Mq [13,4]) rfl rfl (by kernel_rfl) (fun _ _ _ h => h) (Or.inl ⟨by rfl, ?_⟩) ?_ ?_;rotate_left;(intro w';go_simp;with_reducible rfl);rotate_left;(simp only [Act.put,sn1,sn2,sn3,i64_w];rfl)
 refine pure_ (i := 13) (N:=some 33) (v:=?_) (a':=?_) (Mq [14,3]) rfl rfl (by kernel_rfl) (fun _ _ _ h => h) (Or.inl ⟨by rfl, ?_⟩) ?_ ?_;rotate_left;(intro w';go_simp;with_reducible rfl);rotate_left;(simp only [Act.put,sn1,sn2,sn3,i64_w];rfl)
 refine pure_ (i := 14) (N:=some 34) (v:=?_) (a':=?_) (Mq [15,2]) rfl rfl (by kernel_rfl) (fun _ _ _ h => h) (Or.inl ⟨by rfl, ?_⟩) ?_ ?_;rotate_left;(intro w';go_simp;with_reducible rfl);rotate_left;(simp only [Act.put,sn1,sn2,sn3,i64_w];rfl)
 refine pure_ (i := 15) (N:=some 9) (v:=?_) (a':=?_) (Mq [16,1]) rfl rfl (by kernel_rfl) (fun _ _ _ h => h) (Or.inl ⟨by rfl, ?_⟩) ?_ ?_;rotate_left;(intro w';go_simp;with_reducible rfl);rotate_left;(simp only [Act.put,sn1,sn2,sn3,i64_w];rfl)
 refine pure_ (i := 16) (N:=some 10) (v:=?_) (a':=?_) (Mq [17]) rfl rfl (by kernel_rfl) (fun _ _ _ h => h) (Or.inl ⟨by rfl, ?_⟩) ?_ ?_;rotate_left;(intro w';go_simp;with_reducible rfl);rotate_left;(simp only [Act.put,sn1,sn2,sn3,i64_w];rfl)
 refine done_ (by kernel_rfl) ?_
 go_wp2_with fail
 go_ret2
 exact Ret2.mk _ rfl ⟨rfl, HB1.out⟩
theorem backColl_any {base : Nat} {w : World} {g : Nat} {A : Option Addr} {c : Nat} {ids : List S68} {rc : Bool} {rn : Int} {jb : Bool} {t : Tk} {vw vp vj vf vo : Value} (h : Talk base w g A c ids rc rn jb t vw vp vj vf vo) (fuel : Nat) (n : Int) (L : List Int) (hL : backL t fuel n = some L) (hlen : L.length ≤ 1048577) (w1 : World) (hb : Below w.heap.size w w1) (hs : w.heap.size ≤ w1.heap.size) :
  Calls Tryz.prog 99 #[.func (.func 101) #[] #[.pointer (some ⟨w1.heap.size + 1, 0, none⟩), .pointer (some ⟨w1.heap.size, 0, none⟩)]] ((w1.alloc (.cells #[.pointer (some ⟨g, 0, none⟩)] 70)).alloc (.cells #[.int .i64 n] 3)) fun e w' => ∃ v, e = .returned v ∧ RI w' w.heap.size v L ∧ Below w.heap.size w w' ∧ w.heap.size ≤ w'.heap.size := by
 have hb0 : Below w.heap.size w (w1.alloc (.cells #[.pointer (some ⟨g, 0, none⟩)] 70)) := hb.alloc hs _
 have HG := back1_gives (h.below hb0) w1.heap.size (w1.heap.size + 1) (heap_alloc_new w1 _) (by simp) fuel n L hL
 refine (Collect_any enters_back1 HG ((Below.refl _ _).alloc (Nat.le_refl _) _) (by simp) (by rintro k rfl; simp) (by rintro k rfl; simp) (fun W hW => (hW.block _ (by simp)).trans (by simpa using heap_alloc_new (w1.alloc (.cells #[.pointer (some ⟨g, 0, none⟩)] 70)) (.cells #[.int .i64 n] 3))) hlen).mono ?_
 rintro e w' ⟨v, rfl, hv, hb2, hs2⟩
 simp only [World.size_alloc] at hs2
 exact ⟨v, rfl, Kd.R_lower hv (by simp; omega), hb0.trans (hb2.mono (by simp; omega)), by omega⟩
set_option maxRecDepth 8000 in
set_option maxHeartbeats 4000000 in
theorem seenback_ok {base : Nat} {w : World} {g : Nat} {A : Option Addr} {c : Nat} {ids : List S68} {rc : Bool} {rn : Int} {jb : Bool} {t : Tk} {vw vp vj vf vo : Value} (h : Talk base w g A c ids rc rn jb t vw vp vj vf vo) (hr : Kd.C k68 w A ids.length ids) (L : List Int) (hL : backL t (t.word.length + 1) t.last = some L) (hlen : L.length ≤ 1048577) (hE : seenE ids rc rn jb true t = 0) : Calls Tryz.prog 66 #[.pointer (some ⟨g, 0, none⟩), .bool true, .func (.func 67) #[] #[]] w (Ret2 0 fun r w' => RI w' w.heap.size r L.reverse ∧ Below w.heap.size w w') := by
 have HT := am h
 have hgw := h.lt
 have hwl := h.ok.hw
 have HCOL := am (backColl_any h (t.word.length + 1) t.last L hL hlen)
 clear hL
 have h0 : ¬ t.word.length = 0 := by
  intro h0
  rw [seenE, if_pos h0] at hE
  cases hE
 rw [seenE, if_neg h0] at hE
 have hl0 : 0 ≤ t.last := by unfold Tk.last; omega
 have hl1 : t.last < t.word.length := by unfold Tk.last; omega
 have hle : (t.word.length : Int) - 1 = t.last := rfl
 obtain ⟨gw, cw, q, hvw, hgw2, hq, a0, a1, a2, a3⟩ := h.r.w.get t.last hl0 hl1
 cases hvw
 have hq' : t.mv t.last = q := hq
 rw [hq'] at hE
 have h4 : w.cell? ⟨g, 4, none⟩ = some (.slice (some ⟨gw, 0, none⟩) t.word.length cw) := (blk_cell h.b 4).trans rfl
 have k0 : w.cell? ⟨g, 0, none⟩ = some (.slice A ids.length c) := (blk_cell h.b 0).trans rfl
 have k1 : w.cell? ⟨g, 1, none⟩ = some (.bool rc) := (blk_cell h.b 1).trans rfl
 have k2 : w.cell? ⟨g, 2, none⟩ = some (.int .i64 rn) := (blk_cell h.b 2).trans rfl
 have k3 : w.cell? ⟨g, 3, none⟩ = some (.bool jb) := (blk_cell h.b 3).trans rfl
 have HI := am (IsOther_any A c ids rc rn jb q w.drew (Kd.C_drew hr))
 clear h hr hq'
 obtain ⟨m, hm⟩ : ∃ m, t.last = m := ⟨_, rfl⟩
 obtain ⟨eM, heM⟩ : ∃ eM, moveE ids rc rn jb q = eM := ⟨_, rfl⟩
 obtain ⟨bO, hbO⟩ : ∃ bO, isOtherR ids rc rn jb q = bO := ⟨_, rfl⟩
 rw [heM, hbO] at hE HI
 rw [hm] at hl0 hl1 hle a0 a1 a2 a3
 clear hq
 have HM := am hm
 clear hm heM hbO
 have cb : decide (m < 0) = false := decide_eq_false (by omega)
 rw [HM.out] at HCOL
 rcases he : eM != 0 with _ | _
 ·have he0 : eM = 0 := by simpa using he
  subst he0
  rcases hbo : (bO != true) with _ | _
  ·have hbO2 : bO = true := by simpa using hbo
   subst hbO2
   clear hE hbo
   go_enter Tryz.func66, Tryz.ntmps66
   go_upto_region 4 with fail
   refine start_ (n := 17) (S := fun w' => w'.cell? ⟨g, 0, none⟩ = some (.slice A ids.length c) ∧ w'.cell? ⟨g, 1, none⟩ = some (.bool rc) ∧ w'.cell? ⟨g, 2, none⟩ = some (.int .i64 rn) ∧ w'.cell? ⟨g, 3, none⟩ = some (.bool jb) ∧ w'.cell? ⟨g, 4, none⟩ = some (.slice (some ⟨gw, 0, none⟩) t.word.length cw) ∧ w'.cell? ⟨gw, m.toNat * 4, none⟩ = some (.int .i64 q.f0) ∧ w'.cell? ⟨gw, m.toNat * 4 + 1, none⟩ = some (.int .i64 q.f1) ∧ w'.cell? ⟨gw, m.toNat * 4 + 2, none⟩ = some (.int .u8 q.f2) ∧ w'.cell? ⟨gw, m.toNat * 4 + 3, none⟩ = some (.int .i64 q.f3)) (ds := [11]) (Mq [0,17]) (by kernel_rfl) rfl rfl ⟨k0, k1, k2, k3, h4, a0, a1, a2, a3⟩ (fun hHeld => ?_)
   refine pure_ (i := 0) (N:=some 21) (v:=?_) (a':=?_) (Mq [1,16]) rfl rfl (by kernel_rfl) (fun _ _ _ h => h) (Or.inl ⟨by rfl, ?_⟩) ?_ ?_;rotate_left;(intro w';go_simp;with_reducible rfl);rotate_left;(simp only [Act.put,sn1,sn2,sn3,i64_w];rfl)
   refine pure_ (i := 1) (N:=some 22) (v:=?_) (a':=?_) (Mq [2,15]) rfl rfl (by kernel_rfl) (fun _ _ _ h => h) (Or.inl ⟨by rfl, ?_⟩) ?_ ?_;rotate_left;(intro w';go_simp;with_reducible rfl);rotate_left;(simp only [Act.put,sn1,sn2,sn3,i64_w];rfl)
   refine pure_ (i := 2) (N:=some 23) (v:=?_) (a':=?_) (Mq [3,14]) rfl rfl (by kernel_rfl) (fun _ _ _ h => h) (Or.inl ⟨by rfl, ?_⟩) ?_ ?_;rotate_left;(intro w';go_simp;with_reducible rfl);rotate_left;(simp only [Act.put,sn1,sn2,sn3,i64_w];rfl)
   refine pure_ (i := 4) (N:=some 25) (v:=?_) (a':=?_) (Mq [3,1,1,12]) rfl rfl (by kernel_rfl) (fun _ _ _ h => h) (Or.inl ⟨by rfl, ?_⟩) ?_ ?_;rotate_left;(intro w';go_simp;with_reducible rfl);rotate_left;(simp only [Act.put,sn1,sn2,sn3,i64_w];rfl)
   refine pure_ (i := 5) (N:=some 26) (v:=?_) (a':=?_) (Mq [3,1,2,11]) rfl rfl (by kernel_rfl) (fun _ _ _ h => h) (Or.inl ⟨by rfl, ?_⟩) ?_ ?_;rotate_left;(intro w';go_simp;with_reducible rfl);rotate_left;(simp only [Act.put,sn1,sn2,sn3,i64_w];rfl)
   refine pure_ (i := 6) (N:=some 27) (v:=?_) (a':=?_) (Mq [3,1,3,10]) rfl rfl (by kernel_rfl) (fun _ _ _ h => h) (Or.inl ⟨by rfl, ?_⟩) ?_ ?_;rotate_left;(intro w';go_simp;with_reducible rfl);rotate_left;(simp only [Act.put,sn1,sn2,sn3,i64_w];rfl)
   refine pure_ (i := 8) (N:=some 29) (v:=?_) (a':=?_) (Mq [3,1,3,1,1,8]) rfl rfl (by kernel_rfl) (fun _ _ _ h => h) (Or.inl ⟨by rfl, ?_⟩) ?_ ?_;rotate_left;(intro w';go_simp;with_reducible rfl);rotate_left;(simp only [Act.put,sn1,sn2,sn3,i64_w];rfl)
   refine take_ (i := 3) (N:=some 24) (v:=?_) (a':=?_) (Mq [7,1,1,8]) rfl rfl (by kernel_rfl) (fun _ _ _ h => h) (Or.inl ⟨by rfl, ?_⟩) hHeld ?_ ?_
   rotate_left
   ·rintro w' ⟨s0, s1, s2, s3, s4, s5, s6, s7, s8⟩
    go_simp
    with_reducible rfl
   rotate_left
   ·simp only [Act.put,sn1,sn2,sn3,i64_w]
    rfl
   refine take_ (i := 7) (N:=some 28) (v:=?_) (a':=?_) (Mq [9,8]) rfl rfl (by kernel_rfl) (fun _ _ _ h => h) (Or.inl ⟨by rfl, ?_⟩) hHeld ?_ ?_
   rotate_left
   ·rintro w' ⟨s0, s1, s2, s3, s4, s5, s6, s7, s8⟩
    go_simp
    with_reducible rfl
   rotate_left
   ·simp only [Act.put,sn1,sn2,sn3,i64_w]
    rfl
   refine pure_ (i := 9) (N:=some 30) (v:=?_) (a':=?_) (Mq [10,7]) rfl rfl (by kernel_rfl) (fun _ _ _ h => h) (Or.inl ⟨by rfl, ?_⟩) ?_ ?_;rotate_left;(intro w';go_simp;with_reducible rfl);rotate_left;(simp only [Act.put,sn1,sn2,sn3,i64_w];rfl)
   refine take_ (i := 10) (N:=some 31) (v:=?_) (a':=?_) (Mq [11,6]) rfl rfl (by kernel_rfl) (fun _ _ _ h => h) (Or.inl ⟨by rfl, ?_⟩) hHeld ?_ ?_
   rotate_left
   ·rintro w' ⟨s0, s1, s2, s3, s4, s5, s6, s7, s8⟩
    go_simp
    with_reducible rfl
   rotate_left
   ·simp only [Act.put,sn1,sn2,sn3,i64_w]
    rfl
   refine last_ (i := 11) (N:=some 32) (Mq [12,5]) rfl rfl (by kernel_rfl) (by decide) (fun K hK => ?_)
   refine goes_ Tryz.func98 (by kernel_rfl) rfl #[.agg #[.slice A ids.length c, .bool rc, .int .i64 rn, .bool jb], .agg #[.int .i64 q.f0, .int .i64 q.f1, .int .u8 q.f2, .int .i64 q.f3]] (by rfl) rfl rfl (by simp only [List.map_toArray, List.map_cons, List.map_nil]; rfl) ?_
   with_reducible refine (HI.out).mono ?_
   rintro e w1 ⟨rfl, hb1⟩
   refine ⟨_, rfl, ?_⟩
   have HB1 := am (show Below w.heap.size w w1 from ((Below.refl _ w).drew).trans (hb1.mono (Nat.le_refl _)))
   refine hK.out _ _ ?_
   clear hK K
   refine norm_ (a' := ?_) ?_ ?_
   rotate_left
   ·show Act.put _ (some 32) _ = _
    simp only [Act.put,sn1,sn2,sn3,i64_w]
    rfl
   refine pure_ (i := 12) (N:=some 20) (v:=?_) (a':=?_) (Mq [13,4]) rfl rfl (by kernel_rfl) (fun _ _ _ h => h) (Or.inl ⟨by rfl, ?_⟩) ?_ ?_;rotate_left;(intro w';go_simp;with_reducible rfl);rotate_left;(simp only [Act.put,sn1,sn2,sn3,i64_w];rfl)
   refine pure_ (i := 13) (N:=some 33) (v:=?_) (a':=?_) (Mq [14,3]) rfl rfl (by kernel_rfl) (fun _ _ _ h => h) (Or.inl ⟨by rfl, ?_⟩) ?_ ?_;rotate_left;(intro w';go_simp;with_reducible rfl);rotate_left;(simp only [Act.put,sn1,sn2,sn3,i64_w];rfl)
   refine pure_ (i := 14) (N:=some 34) (v:=?_) (a':=?_) (Mq [15,2]) rfl rfl (by kernel_rfl) (fun _ _ _ h => h) (Or.inl ⟨by rfl, ?_⟩) ?_ ?_;rotate_left;(intro w';go_simp;with_reducible rfl);rotate_left;(simp only [Act.put,sn1,sn2,sn3,i64_w];rfl)
   refine pure_ (i := 15) (N:=some 9) (v:=?_) (a':=?_) (Mq [16,1]) rfl rfl (by kernel_rfl) (fun _ _ _ h => h) (Or.inl ⟨by rfl, ?_⟩) ?_ ?_;rotate_left;(intro w';go_simp;with_reducible rfl);rotate_left;(simp only [Act.put,sn1,sn2,sn3,i64_w];rfl)
   refine pure_ (i := 16) (N:=some 10) (v:=?_) (a':=?_) (Mq [17]) rfl rfl (by kernel_rfl) (fun _ _ _ h => h) (Or.inl ⟨by rfl, ?_⟩) ?_ ?_;rotate_left;(intro w';go_simp;with_reducible rfl);rotate_left;(simp only [Act.put,sn1,sn2,sn3,i64_w];rfl)
   refine done_ (by kernel_rfl) ?_
   have hs1 : w.heap.size ≤ w1.heap.size := HB1.out.size
   go_wp2_with (first
    | (go_at_call 67; refine (back_any g m _).mono ?_; rintro e w2 ⟨rfl, rfl⟩)
    | (go_at_call 99; refine (HCOL.out w1 HB1.out hs1).mono ?_; rintro e w3 ⟨v, rfl, hv, hb3, hs3⟩; obtain ⟨A3, c3, rfl⟩ := Kd.R_slice hv; have HV := am hv; have HB3 := am hb3; clear hv hb3)
    | (go_at_call 100; refine (Reverse_any _ L _ HV.out hlen).mono ?_; rintro e w4 ⟨rfl, hr4, hg4⟩; have HR4 := am hr4; have HB4 := am (below_grown HB3.out hg4 HV.out.ge hs3); clear hr4 hg4))
   go_ret2
   exact Ret2.mk _ rfl ⟨HR4.out, HB4.out⟩
  exfalso
  rw [if_pos (.inr (by simpa using hbo))] at hE
  cases hE
 exfalso
 rw [if_pos (.inl (by simpa using he))] at hE
 cases hE
theorem frontColl_any {base : Nat} {w : World} {g : Nat} {A : Option Addr} {c : Nat} {ids : List S68} {rc : Bool} {rn : Int} {jb : Bool} {t : Tk} {vw vp vj vf vo : Value} (h : Talk base w g A c ids rc rn jb t vw vp vj vf vo) (fuel : Nat) (n : Int) (L : List Int) (hL : frontL t fuel n = some L) (hlen : L.length ≤ 1048577) (w1 : World) (hb : Below w.heap.size w w1) (hs : w.heap.size ≤ w1.heap.size) :
  Calls Tryz.prog 99 #[.func (.func 103) #[] #[.pointer (some ⟨w1.heap.size + 1, 0, none⟩), .pointer (some ⟨w1.heap.size, 0, none⟩)]] ((w1.alloc (.cells #[.pointer (some ⟨g, 0, none⟩)] 70)).alloc (.cells #[.int .i64 n] 3)) fun e w' => ∃ v, e = .returned v ∧ RI w' w.heap.size v L ∧ Below w.heap.size w w' ∧ w.heap.size ≤ w'.heap.size := by
 have hb0 : Below w.heap.size w (w1.alloc (.cells #[.pointer (some ⟨g, 0, none⟩)] 70)) := hb.alloc hs _
 have HG := front1_gives (h.below hb0) w1.heap.size (w1.heap.size + 1) (heap_alloc_new w1 _) (by simp) fuel n L hL
 refine (Collect_any enters_front1 HG ((Below.refl _ _).alloc (Nat.le_refl _) _) (by simp) (by rintro k rfl; simp) (by rintro k rfl; simp) (fun W hW => (hW.block _ (by simp)).trans (by simpa using heap_alloc_new (w1.alloc (.cells #[.pointer (some ⟨g, 0, none⟩)] 70)) (.cells #[.int .i64 n] 3))) hlen).mono ?_
 rintro e w' ⟨v, rfl, hv, hb2, hs2⟩
 simp only [World.size_alloc] at hs2
 exact ⟨v, rfl, Kd.R_lower hv (by simp; omega), hb0.trans (hb2.mono (by simp; omega)), by omega⟩
set_option maxRecDepth 8000 in
set_option maxHeartbeats 4000000 in
theorem seenfront_ok {base : Nat} {w : World} {g : Nat} {A : Option Addr} {c : Nat} {ids : List S68} {rc : Bool} {rn : Int} {jb : Bool} {t : Tk} {vw vp vj vf vo : Value} (h : Talk base w g A c ids rc rn jb t vw vp vj vf vo) (hr : Kd.C k68 w A ids.length ids) (L : List Int) (hL : frontL t (t.word.length + 1) t.last = some L) (hlen : L.length ≤ 1048577) (hE : seenE ids rc rn jb false t = 0) : Calls Tryz.prog 66 #[.pointer (some ⟨g, 0, none⟩), .bool false, .func (.func 69) #[] #[]] w (Ret2 0 fun r w' => RI w' w.heap.size r L.reverse ∧ Below w.heap.size w w') := by
 have HT := am h
 have hgw := h.lt
 have hwl := h.ok.hw
 have HCOL := am (frontColl_any h (t.word.length + 1) t.last L hL hlen)
 clear hL
 have h0 : ¬ t.word.length = 0 := by
  intro h0
  rw [seenE, if_pos h0] at hE
  cases hE
 rw [seenE, if_neg h0] at hE
 have hl0 : 0 ≤ t.last := by unfold Tk.last; omega
 have hl1 : t.last < t.word.length := by unfold Tk.last; omega
 have hle : (t.word.length : Int) - 1 = t.last := rfl
 obtain ⟨gw, cw, q, hvw, hgw2, hq, a0, a1, a2, a3⟩ := h.r.w.get t.last hl0 hl1
 cases hvw
 have hq' : t.mv t.last = q := hq
 rw [hq'] at hE
 have h4 : w.cell? ⟨g, 4, none⟩ = some (.slice (some ⟨gw, 0, none⟩) t.word.length cw) := (blk_cell h.b 4).trans rfl
 have k0 : w.cell? ⟨g, 0, none⟩ = some (.slice A ids.length c) := (blk_cell h.b 0).trans rfl
 have k1 : w.cell? ⟨g, 1, none⟩ = some (.bool rc) := (blk_cell h.b 1).trans rfl
 have k2 : w.cell? ⟨g, 2, none⟩ = some (.int .i64 rn) := (blk_cell h.b 2).trans rfl
 have k3 : w.cell? ⟨g, 3, none⟩ = some (.bool jb) := (blk_cell h.b 3).trans rfl
 have HI := am (IsOther_any A c ids rc rn jb q w.drew (Kd.C_drew hr))
 clear h hr hq'
 obtain ⟨m, hm⟩ : ∃ m, t.last = m := ⟨_, rfl⟩
 obtain ⟨eM, heM⟩ : ∃ eM, moveE ids rc rn jb q = eM := ⟨_, rfl⟩
 obtain ⟨bO, hbO⟩ : ∃ bO, isOtherR ids rc rn jb q = bO := ⟨_, rfl⟩
 rw [heM, hbO] at hE HI
 rw [hm] at hl0 hl1 hle a0 a1 a2 a3
 clear hq
 have HM := am hm
 clear hm heM hbO
 have cb : decide (m < 0) = false := decide_eq_false (by omega)
 rw [HM.out] at HCOL
 rcases he : eM != 0 with _ | _
 ·have he0 : eM = 0 := by simpa using he
  subst he0
  rcases hbo : (bO != false) with _ | _
  ·have hbO2 : bO = false := by simpa using hbo
   subst hbO2
   clear hE hbo
   go_enter Tryz.func66, Tryz.ntmps66
   go_upto_region 4 with fail
   refine start_ (n := 17) (S := fun w' => w'.cell? ⟨g, 0, none⟩ = some (.slice A ids.length c) ∧ w'.cell? ⟨g, 1, none⟩ = some (.bool rc) ∧ w'.cell? ⟨g, 2, none⟩ = some (.int .i64 rn) ∧ w'.cell? ⟨g, 3, none⟩ = some (.bool jb) ∧ w'.cell? ⟨g, 4, none⟩ = some (.slice (some ⟨gw, 0, none⟩) t.word.length cw) ∧ w'.cell? ⟨gw, m.toNat * 4, none⟩ = some (.int .i64 q.f0) ∧ w'.cell? ⟨gw, m.toNat * 4 + 1, none⟩ = some (.int .i64 q.f1) ∧ w'.cell? ⟨gw, m.toNat * 4 + 2, none⟩ = some (.int .u8 q.f2) ∧ w'.cell? ⟨gw, m.toNat * 4 + 3, none⟩ = some (.int .i64 q.f3)) (ds := [11]) (Mq [0,17]) (by kernel_rfl) rfl rfl ⟨k0, k1, k2, k3, h4, a0, a1, a2, a3⟩ (fun hHeld => ?_)
   refine pure_ (i := 0) (N:=some 21) (v:=?_) (a':=?_) (Mq [1,16]) rfl rfl (by kernel_rfl) (fun _ _ _ h => h) (Or.inl ⟨by rfl, ?_⟩) ?_ ?_;rotate_left;(intro w';go_simp;with_reducible rfl);rotate_left;(simp only [Act.put,sn1,sn2,sn3,i64_w];rfl)
   refine pure_ (i := 1) (N:=some 22) (v:=?_) (a':=?_) (Mq [2,15]) rfl rfl (by kernel_rfl) (fun _ _ _ h => h) (Or.inl ⟨by rfl, ?_⟩) ?_ ?_;rotate_left;(intro w';go_simp;with_reducible rfl);rotate_left;(simp only [Act.put,sn1,sn2,sn3,i64_w];rfl)
   refine pure_ (i := 2) (N:=some 23) (v:=?_) (a':=?_) (Mq [3,14]) rfl rfl (by kernel_rfl) (fun _ _ _ h => h) (Or.inl ⟨by rfl, ?_⟩) ?_ ?_;rotate_left;(intro w';go_simp;with_reducible rfl);rotate_left;(simp only [Act.put,sn1,sn2,sn3,i64_w];rfl)
   refine pure_ (i := 4) (N:=some 25) (v:=?_) (a':=?_) (Mq [3,1,1,12]) rfl rfl (by kernel_rfl) (fun _ _ _ h => h) (Or.inl ⟨by rfl, ?_⟩) ?_ ?_;rotate_left;(intro w';go_simp;with_reducible rfl);rotate_left;(simp only [Act.put,sn1,sn2,sn3,i64_w];rfl)
   refine pure_ (i := 5) (N:=some 26) (v:=?_) (a':=?_) (Mq [3,1,2,11]) rfl rfl (by kernel_rfl) (fun _ _ _ h => h) (Or.inl ⟨by rfl, ?_⟩) ?_ ?_;rotate_left;(intro w';go_simp;with_reducible rfl);rotate_left;(simp only [Act.put,sn1,sn2,sn3,i64_w];rfl)
   refine pure_ (i := 6) (N:=some 27) (v:=?_) (a':=?_) (Mq [3,1,3,10]) rfl rfl (by kernel_rfl) (fun _ _ _ h => h) (Or.inl ⟨by rfl, ?_⟩) ?_ ?_;rotate_left;(intro w';go_simp;with_reducible rfl);rotate_left;(simp only [Act.put,sn1,sn2,sn3,i64_w];rfl)
   refine pure_ (i := 8) (N:=some 29) (v:=?_) (a':=?_) (Mq [3,1,3,1,1,8]) rfl rfl (by kernel_rfl) (fun _ _ _ h => h) (Or.inl ⟨by rfl, ?_⟩) ?_ ?_;rotate_left;(intro w';go_simp;with_reducible rfl);rotate_left;(simp only [Act.put,sn1,sn2,sn3,i64_w];rfl)
   refine take_ (i := 3) (N:=some 24) (v:=?_) (a':=?_) (Mq [7,1,1,8]) rfl rfl (by kernel_rfl) (fun _ _ _ h => h) (Or.inl ⟨by rfl, ?_⟩) hHeld ?_ ?_
   rotate_left
   ·rintro w' ⟨s0, s1, s2, s3, s4, s5, s6, s7, s8⟩
    go_simp
    with_reducible rfl
   rotate_left
   ·simp only [Act.put,sn1,sn2,sn3,i64_w]
    rfl
   refine take_ (i := 7) (N:=some 28) (v:=?_) (a':=?_) (Mq [9,8]) rfl rfl (by kernel_rfl) (fun _ _ _ h => h) (Or.inl ⟨by rfl, ?_⟩) hHeld ?_ ?_
   rotate_left
   ·rintro w' ⟨s0, s1, s2, s3, s4, s5, s6, s7, s8⟩
    go_simp
    with_reducible rfl
   rotate_left
   ·simp only [Act.put,sn1,sn2,sn3,i64_w]
    rfl
   refine pure_ (i := 9) (N:=some 30) (v:=?_) (a':=?_) (Mq [10,7]) rfl rfl (by kernel_rfl) (fun _ _ _ h => h) (Or.inl ⟨by rfl, ?_⟩) ?_ ?_;rotate_left;(intro w';go_simp;with_reducible rfl);rotate_left;(simp only [Act.put,sn1,sn2,sn3,i64_w];rfl)
   refine take_ (i := 10) (N:=some 31) (v:=?_) (a':=?_) (Mq [11,6]) rfl rfl (by kernel_rfl) (fun _ _ _ h => h) (Or.inl ⟨by rfl, ?_⟩) hHeld ?_ ?_
   rotate_left
   ·rintro w' ⟨s0, s1, s2, s3, s4, s5, s6, s7, s8⟩
    go_simp
    with_reducible rfl
   rotate_left
   ·simp only [Act.put,sn1,sn2,sn3,i64_w]
    rfl
   refine last_ (i := 11) (N:=some 32) (Mq [12,5]) rfl rfl (by kernel_rfl) (by decide) (fun K hK => ?_)
   refine goes_ Tryz.func98 (by kernel_rfl) rfl #[.agg #[.slice A ids.length c, .bool rc, .int .i64 rn, .bool jb], .agg #[.int .i64 q.f0, .int .i64 q.f1, .int .u8 q.f2, .int .i64 q.f3]] (by rfl) rfl rfl (by simp only [List.map_toArray, List.map_cons, List.map_nil]; rfl) ?_
   with_reducible refine (HI.out).mono ?_
   rintro e w1 ⟨rfl, hb1⟩
   refine ⟨_, rfl, ?_⟩
   have HB1 := am (show Below w.heap.size w w1 from ((Below.refl _ w).drew).trans (hb1.mono (Nat.le_refl _)))
   refine hK.out _ _ ?_
   clear hK K
   refine norm_ (a' := ?_) ?_ ?_
   rotate_left
   ·show Act.put _ (some 32) _ = _
    simp only [Act.put,sn1,sn2,sn3,i64_w]
    rfl
   refine pure_ (i := 12) (N:=some 20) (v:=?_) (a':=?_) (Mq [13,4]) rfl rfl (by kernel_rfl) (fun _ _ _ h => h) (Or.inl ⟨by rfl, ?_⟩) ?_ ?_;rotate_left;(intro w';go_simp;with_reducible rfl);rotate_left;(simp only [Act.put,sn1,sn2,sn3,i64_w];rfl)
   refine pure_ (i := 13) (N:=some 33) (v:=?_) (a':=?_) (Mq [14,3]) rfl rfl (by kernel_rfl) (fun _ _ _ h => h) (Or.inl ⟨by rfl, ?_⟩) ?_ ?_;rotate_left;(intro w';go_simp;with_reducible rfl);rotate_left;(simp only [Act.put,sn1,sn2,sn3,i64_w];rfl)
   refine pure_ (i := 14) (N:=some 34) (v:=?_) (a':=?_) (Mq [15,2]) rfl rfl (by kernel_rfl) (fun _ _ _ h => h) (Or.inl ⟨by rfl, ?_⟩) ?_ ?_;rotate_left;(intro w';go_simp;with_reducible rfl);rotate_left;(simp only [Act.put,sn1,sn2,sn3,i64_w];rfl)
   refine pure_ (i := 15) (N:=some 9) (v:=?_) (a':=?_) (Mq [16,1]) rfl rfl (by kernel_rfl) (fun _ _ _ h => h) (Or.inl ⟨by rfl, ?_⟩) ?_ ?_;rotate_left;(intro w';go_simp;with_reducible rfl);rotate_left;(simp only [Act.put,sn1,sn2,sn3,i64_w];rfl)
   refine pure_ (i := 16) (N:=some 10) (v:=?_) (a':=?_) (Mq [17]) rfl rfl (by kernel_rfl) (fun _ _ _ h => h) (Or.inl ⟨by rfl, ?_⟩) ?_ ?_;rotate_left;(intro w';go_simp;with_reducible rfl);rotate_left;(simp only [Act.put,sn1,sn2,sn3,i64_w];rfl)
   refine done_ (by kernel_rfl) ?_
   have hs1 : w.heap.size ≤ w1.heap.size := HB1.out.size
   go_wp2_with (first
    | (go_at_call 69; refine (front_any g m _).mono ?_; rintro e w2 ⟨rfl, rfl⟩)
    | (go_at_call 99; refine (HCOL.out w1 HB1.out hs1).mono ?_; rintro e w3 ⟨v, rfl, hv, hb3, hs3⟩; obtain ⟨A3, c3, rfl⟩ := Kd.R_slice hv; have HV := am hv; have HB3 := am hb3; clear hv hb3)
    | (go_at_call 100; refine (Reverse_any _ L _ HV.out hlen).mono ?_; rintro e w4 ⟨rfl, hr4, hg4⟩; have HR4 := am hr4; have HB4 := am (below_grown HB3.out hg4 HV.out.ge hs3); clear hr4 hg4))
   go_ret2
   exact Ret2.mk _ rfl ⟨HR4.out, HB4.out⟩
  exfalso
  rw [if_pos (.inr (by simpa using hbo))] at hE
  cases hE
 exfalso
 rw [if_pos (.inl (by simpa using he))] at hE
 cases hE
end Go.Proofs.YtjgocihflhljeaaGreat.P
