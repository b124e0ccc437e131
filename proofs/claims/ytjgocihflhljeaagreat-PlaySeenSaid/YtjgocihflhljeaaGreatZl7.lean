/- What the claim's law needs, many texts in one (Tc). No conditions of its own. -/
import Derived.Test.YtjgocihflhljeaaGreatZl6
import Derived.RegionTactic
import Derived.Deep.RegionWith
set_option linter.unusedVariables false
set_option linter.unusedSimpArgs false
namespace Go.Proofs.YtjgocihflhljeaaGreat.P
open Go.RowKit Go.Shelf Go.Proofs.YtjgocihflhljeaaGreatW.PrintWords Go.Proofs.YtjgocihflhljeaaGreatW.PrintLast Go.Proofs.YtjgocihflhljeaaGreatW.PrintMore
attribute [local go_sem] Oper.semAt_some
theorem getLast_get (xs : List Int) (h : xs ≠ []) : xs.getLast?.getD (-1) = xs[xs.length - 1]?.getD 0 := by
 rw [List.getLast?_eq_getElem?]
 have : xs.length - 1 < xs.length := by have := List.length_pos_iff.2 h; omega
 rw [List.getElem?_eq_getElem this]
 rfl
theorem top_any {base : Nat} (v : Value) (xs : List Int) (w : World) (h : RI w base v xs) (hl : xs.length ≤ 1048576) :
  Calls Tryz.prog 79 #[.agg #[v]] w fun e w' => e = .returned (.tuple #[.int .i64 (xs.getLast?.getD (-1)), .bool xs.getLast?.isSome]) ∧ Below w.heap.size w w' := by
 have HB := am ((Below.refl _ w).alloc (Nat.le_refl _) (.cells #[v] 75))
 by_cases hn : xs = []
 ·obtain ⟨A, c, rfl⟩ := Kd.R_slice h
  subst hn
  simp only [List.length_nil]
  go_enter Tryz.func79, Tryz.ntmps79
  go_wp2
  go_ret2
  exact ⟨rfl, HB.out⟩
 have hp := List.length_pos_iff.2 hn
 obtain ⟨g, c, rfl, hg, hc⟩ := h.get (xs.length - 1) (by omega)
 have HL := am (getLast_get xs hn)
 have HS := am (show xs.getLast?.isSome = true by cases xs with | nil => exact absurd rfl hn | cons a l => simp)
 have HR := am h
 clear h hn
 go_enter Tryz.func79, Tryz.ntmps79
 go_wp2
 go_ret2
 exact ⟨by rw [HS.out, HL.out]; rfl, HB.out⟩
structure Talk (base : Nat) (W : World) (g : Nat) (A : Option Addr) (c : Nat) (ids : List S68) (rc : Bool) (rn : Int) (jb : Bool) (t : Tk) (vw vp vj vf vo : Value) : Prop where
 b : W.heap[g]? = some (.cells #[.slice A ids.length c, .bool rc, .int .i64 rn, .bool jb, vw, vp, vj, vf, vo, .bool t.force, .bool t.lost, .int .i64 t.deep] 77 (0, 0))
 r : Rws base W vw vp vj vf vo t.word t.part t.just t.forc t.opn
 hg : base ≤ g
 ok : t.Ok
section
variable {base : Nat} {W w1 : World} {g : Nat} {A : Option Addr} {c : Nat} {ids : List S68} {rc : Bool} {rn : Int} {jb : Bool} {t : Tk} {vw vp vj vf vo : Value}
theorem Talk.st (h : Talk base W g A c ids rc rn jb t vw vp vj vf vo) {b : Nat} (hs : St b (fun _ => False) W w1) : Talk base w1 g A c ids rc rn jb t vw vp vj vf vo :=
 ⟨hs.blk h.b (fun h => h), h.r.st hs, h.hg, h.ok⟩
theorem Talk.below (h : Talk base W g A c ids rc rn jb t vw vp vj vf vo) (hs : Below W.heap.size W w1) : Talk base w1 g A c ids rc rn jb t vw vp vj vf vo := h.st (St.of_below (b := 0) hs)
theorem Talk.lower {base' : Nat} (h : Talk base W g A c ids rc rn jb t vw vp vj vf vo) (hb : base' ≤ base) : Talk base' W g A c ids rc rn jb t vw vp vj vf vo :=
 ⟨h.b, ⟨Kd.R_lower h.r.w hb, Kd.R_lower h.r.p hb, Kd.R_lower h.r.j hb, Kd.R_lower h.r.f hb, Kd.R_lower h.r.o hb, h.r.pj, h.r.po, h.r.jo⟩, Nat.le_trans hb h.hg, h.ok⟩
theorem Talk.lt (h : Talk base W g A c ids rc rn jb t vw vp vj vf vo) : g < W.heap.size := blk_lt h.b
end
theorem isOver_any {base : Nat} {w : World} {g : Nat} {A : Option Addr} {c : Nat} {ids : List S68} {rc : Bool} {rn : Int} {jb : Bool} {t : Tk} {vw vp vj vf vo : Value} (h : Talk base w g A c ids rc rn jb t vw vp vj vf vo) :
  Calls Tryz.prog 121 #[.pointer (some ⟨g, 0, none⟩)] w fun e w' => e = .returned (.bool t.over) ∧ Below w.heap.size w w' := by
 have HT := am h
 obtain ⟨Aw, cw, rfl⟩ := Kd.R_slice h.r.w
 obtain ⟨Ao, co, rfl⟩ := Kd.R_slice h.r.o
 have h4 : w.cell? ⟨g, 4, none⟩ = some (.slice Aw t.word.length cw) := (blk_cell h.b 4).trans rfl
 have h8 : w.cell? ⟨g, 8, none⟩ = some (.slice Ao t.opn.length co) := (blk_cell h.b 8).trans rfl
 clear h
 by_cases hb : 0 < t.word.length
 all_goals
  have H2 := am hb
  go_enter Tryz.func121, Tryz.ntmps121
  go_wp2
  go_ret
  exact ⟨by simp only [Tk.over, H2.out, decide_true, decide_false, Bool.true_and, Bool.false_and]; rfl, Below.refl _ w⟩
theorem answers_any' {base : Nat} {w : World} {g : Nat} {A : Option Addr} {c : Nat} {ids : List S68} {rc : Bool} {rn : Int} {jb : Bool} {t : Tk} {vw vp vj vf vo : Value} (h : Talk base w g A c ids rc rn jb t vw vp vj vf vo) (q m : Mv) :
  Calls Tryz.prog 134 #[.pointer (some ⟨g, 0, none⟩), .agg #[.int .i64 q.f0, .int .i64 q.f1, .int .u8 q.f2, .int .i64 q.f3], .agg #[.int .i64 m.f0, .int .i64 m.f1, .int .u8 m.f2, .int .i64 m.f3]] w fun e w' => e = .returned (.bool (t.answers jb q m)) ∧ Below w.heap.size w w' := by
 have HT := am h
 have hg := h.lt
 have h9 : w.cell? ⟨g, 9, none⟩ = some (.bool t.force) := (blk_cell h.b 9).trans rfl
 have h10 : w.cell? ⟨g, 10, none⟩ = some (.bool t.lost) := (blk_cell h.b 10).trans rfl
 have h3 : w.cell? ⟨g, 3, none⟩ = some (.bool jb) := (blk_cell h.b 3).trans rfl
 clear h
 have hg2 : g < w.heap.size + 1 + 1 := by omega
 have hgn : g ≠ w.heap.size := by omega
 have hgn1 : g ≠ w.heap.size + 1 := by omega
 have HB := am (((Below.refl _ w).alloc (Nat.le_refl _) (.cells #[.int .i64 q.f0, .int .i64 q.f1, .int .u8 q.f2, .int .i64 q.f3] 52)).alloc (by simp) (.cells #[.int .i64 m.f0, .int .i64 m.f1, .int .u8 m.f2, .int .i64 m.f3] 52))
 rcases hb : t.force with _ | _
 ·rcases hb2 : t.lost with _ | _
  ·rw [hb] at h9
   rw [hb2] at h10
   have HE := am (And.intro hb hb2)
   clear hb hb2
   rcases hb3 : isEscB m with _ | _
   ·have HM := am hb3
    clear hb3
    rcases hb4 : (q.f2 == 1) with _ | _
    all_goals
     have HQ := am hb4
     go_enter Tryz.func134, Tryz.ntmps134
     go_wp2_with (refine (isEsc_any m _).mono ?_; rw [HM.out]; rintro e w1 ⟨rfl, hb1⟩; obtain ⟨hc, hf⟩ := bcell hb1)
     go_ret
     exact ⟨by rw [Tk.answers, HE.out.1, HE.out.2, HM.out, HQ.out]; rfl, HB.out.trans (hb1.mono (by simp; omega))⟩
   have HM := am hb3
   clear hb3
   rcases hb4 : isPar q with _ | _
   ·have HQ := am hb4
    clear hb4
    rcases hb5 : isIdent q with _ | _
    all_goals
     have HI := am hb5
     clear hb5
     go_enter Tryz.func134, Tryz.ntmps134
     go_wp2_with (first
      | (go_at_call 110; refine (isEsc_any m _).mono ?_; rw [HM.out]; rintro e w1 ⟨rfl, hb1⟩; obtain ⟨hc, hf⟩ := bcell hb1; have hs1 : w.heap.size + 1 + 1 ≤ w1.heap.size := (by have := hb1.size; simpa using this); have hg3 : g < w1.heap.size := Nat.lt_of_lt_of_le hg2 hs1; have hg4 : w.heap.size < w1.heap.size := Nat.lt_of_lt_of_le (by omega) hs1)
      | (go_at_call 104; refine (isParam_any q _).mono ?_; rw [HQ.out]; rintro e w2 ⟨rfl, hb2⟩; obtain ⟨hc2, hf2⟩ := bcell hb2; have hs2 := hb2.size; have hg5 : g < w2.heap.size := Nat.lt_of_lt_of_le hg3 hs2)
      | (go_at_call 109; refine (isIdentifier_any q _).mono ?_; rw [HI.out]; rintro e w3 ⟨rfl, hb3⟩; obtain ⟨hc3, hf3⟩ := bcell hb3))
     go_ret
     exact ⟨by rw [Tk.answers, HE.out.1, HE.out.2, HM.out, HQ.out, HI.out]; rfl, HB.out.trans ((hb1.mono (by simp; omega)).trans ((hb2.mono (by omega)).trans (hb3.mono (by omega))))⟩
   have HQ := am hb4
   clear hb4
   go_enter Tryz.func134, Tryz.ntmps134
   go_wp2_with (first
     | (go_at_call 110; refine (isEsc_any m _).mono ?_; rw [HM.out]; rintro e w1 ⟨rfl, hb1⟩; obtain ⟨hc, hf⟩ := bcell hb1; have hs1 : w.heap.size + 1 + 1 ≤ w1.heap.size := (by have := hb1.size; simpa using this); have hg3 : g < w1.heap.size := Nat.lt_of_lt_of_le hg2 hs1; have hg4 : w.heap.size < w1.heap.size := Nat.lt_of_lt_of_le (by omega) hs1)
     | (go_at_call 104; refine (isParam_any q _).mono ?_; rw [HQ.out]; rintro e w2 ⟨rfl, hb2⟩; have hs2 := hb2.size))
   go_ret
   exact ⟨by rw [Tk.answers, HE.out.1, HE.out.2, HM.out, HQ.out]; rfl, HB.out.trans ((hb1.mono (by simp; omega)).trans (hb2.mono (by omega)))⟩
  rw [hb] at h9
  rw [hb2] at h10
  have HE := am (And.intro hb hb2)
  clear hb hb2
  go_enter Tryz.func134, Tryz.ntmps134
  go_wp2_with (refine (isEsc_any m _).mono ?_; rintro e w1 ⟨rfl, hb1⟩)
  go_ret
  exact ⟨by rw [Tk.answers, HE.out.1, HE.out.2]; rfl, HB.out.trans (hb1.mono (by simp; omega))⟩
 go_enter Tryz.func134, Tryz.ntmps134
 rw [hb] at h9
 go_wp2_with (refine (isEsc_any m _).mono ?_; rintro e w1 ⟨rfl, hb1⟩)
 go_ret
 exact ⟨by rw [Tk.answers, hb]; rfl, HB.out.trans (hb1.mono (by simp; omega))⟩
theorem Tk.Ok.topI {t : Tk} (h : t.Ok) {n : Int} (hn : t.top = some n) : 0 ≤ n ∧ n < t.word.length := h.ho n (List.mem_of_getLast? hn)
set_option maxHeartbeats 1600000 in
theorem turn_any {base : Nat} {w : World} {g : Nat} {A : Option Addr} {c : Nat} {ids : List S68} {rc : Bool} {rn : Int} {jb : Bool} {t : Tk} {vw vp vj vf vo : Value} (h : Talk base w g A c ids rc rn jb t vw vp vj vf vo) :
  Calls Tryz.prog 94 #[.pointer (some ⟨g, 0, none⟩)] w fun e w' => e = .returned (.int .u8 t.turn) ∧ Below w.heap.size w w' := by
 have HT := am h
 have hg := h.lt
 have h8 : w.cell? ⟨g, 8, none⟩ = some vo := (blk_cell h.b 8).trans rfl
 have h4 : w.cell? ⟨g, 4, none⟩ = some vw := (blk_cell h.b 4).trans rfl
 have HTOP := am (top_any vo t.opn w h.r.o (Nat.le_trans h.ok.hl h.ok.hw))
 have HOV := am (fun (V : World) (hb : Below w.heap.size w V) => isOver_any (h.below hb))
 obtain ⟨Aw, cw, rfl⟩ := Kd.R_slice h.r.w
 obtain ⟨Ao, co, rfl⟩ := Kd.R_slice h.r.o
 clear h
 rcases ho : t.over with _ | _
 ·have HO := am ho
  clear ho
  cases ht : t.top with
  | none =>
   have HP := am ht
   have HP' := am (show t.opn.getLast? = none from ht)
   clear ht
   go_enter Tryz.func94, Tryz.ntmps94
   go_wp2_with (first
    | (go_at_call 79; refine HTOP.out.mono ?_; rw [HP'.out]; rintro e w1 ⟨rfl, hb1⟩; clear HTOP)
    | (go_at_call 121; refine (HOV.out _ hb1).mono ?_; rw [HO.out]; rintro e w2 ⟨rfl, hb2⟩; clear HOV; have hs1 := hb1.size))
   go_ret
   exact ⟨by rw [Tk.turn, HO.out, HP.out]; rfl, hb1.trans (hb2.mono (by omega))⟩
  | some n =>
   have HP := am ht
   have HP' := am (show t.opn.getLast? = some n from ht)
   obtain ⟨hn0, hn1⟩ := HT.out.ok.topI ht
   clear ht
   obtain ⟨gw, cw', q, hv, hgw, hq, a0, a1, a2, a3⟩ := HT.out.r.w.get n hn0 hn1
   cases hv
   have HQ := am (show t.mv n = q from hq)
   clear hq
   rcases hi : isIdent q with _ | _
   all_goals
    have HI := am hi
    clear hi
    go_enter Tryz.func94, Tryz.ntmps94
    go_wp2_with (first
     | (go_at_call 79; refine HTOP.out.mono ?_; rw [HP'.out]; rintro e w1 ⟨rfl, hb1⟩; clear HTOP; have hs1 := hb1.size)
     | (go_at_call 121; refine (HOV.out _ hb1).mono ?_; rw [HO.out]; rintro e w2 ⟨rfl, hb2⟩; clear HOV; obtain ⟨hc, hf⟩ := bcell (hb1.trans (hb2.mono hs1)); have hs2 := hb2.size)
     | (go_at_call 109; refine (isIdentifier_any q _).mono ?_; rw [HI.out]; rintro e w3 ⟨rfl, hb3⟩))
    go_ret
    exact ⟨by simp only [Tk.turn, HO.out, HP.out, HQ.out, HI.out]; rfl, hb1.trans ((hb2.mono (by omega)).trans (hb3.mono (by omega)))⟩
 have HO := am ho
 clear ho
 obtain ⟨n, hn⟩ : ∃ n, t.opn.getLast?.getD (-1) = n := ⟨_, rfl⟩
 obtain ⟨b, hb⟩ : ∃ b, t.opn.getLast?.isSome = b := ⟨_, rfl⟩
 rw [hn, hb] at HTOP
 clear hn hb
 go_enter Tryz.func94, Tryz.ntmps94
 go_wp2_with (first
  | (go_at_call 79; refine HTOP.out.mono ?_; rintro e w1 ⟨rfl, hb1⟩; clear HTOP; have hs1 := hb1.size)
  | (go_at_call 121; refine (HOV.out _ hb1).mono ?_; rw [HO.out]; rintro e w2 ⟨rfl, hb2⟩; clear HOV))
 go_ret
 exact ⟨by rw [Tk.turn, HO.out]; rfl, hb1.trans (hb2.mono (by omega))⟩
set_option maxHeartbeats 1600000 in
theorem can_any {base : Nat} {w : World} {g : Nat} {A : Option Addr} {c : Nat} {ids : List S68} {rc : Bool} {rn : Int} {jb : Bool} {t : Tk} {vw vp vj vf vo : Value} (h : Talk base w g A c ids rc rn jb t vw vp vj vf vo) (m : Mv) :
  Calls Tryz.prog 108 #[.pointer (some ⟨g, 0, none⟩), .agg #[.int .i64 m.f0, .int .i64 m.f1, .int .u8 m.f2, .int .i64 m.f3]] w fun e w' => e = .returned (.bool (t.can jb m)) ∧ Below w.heap.size w w' := by
 have HT := am h
 have hg := h.lt
 have hg1 : g < w.heap.size + 1 := by omega
 have hgn : g ≠ w.heap.size := by omega
 have h8 : w.cell? ⟨g, 8, none⟩ = some vo := (blk_cell h.b 8).trans rfl
 have h4 : w.cell? ⟨g, 4, none⟩ = some vw := (blk_cell h.b 4).trans rfl
 have h9 : w.cell? ⟨g, 9, none⟩ = some (.bool t.force) := (blk_cell h.b 9).trans rfl
 have h10 : w.cell? ⟨g, 10, none⟩ = some (.bool t.lost) := (blk_cell h.b 10).trans rfl
 have HB := am ((Below.refl _ w).alloc (Nat.le_refl _) (.cells #[.int .i64 m.f0, .int .i64 m.f1, .int .u8 m.f2, .int .i64 m.f3] 52))
 have HTOP := am (fun (V : World) (hb : Below w.heap.size w V) => top_any vo t.opn V (h.below hb).r.o (Nat.le_trans h.ok.hl h.ok.hw))
 have HTURN := am (fun (V : World) (hb : Below w.heap.size w V) => turn_any (h.below hb))
 have HANS := am (fun (V : World) (q : Mv) (hb : Below w.heap.size w V) => answers_any' (h.below hb) q m)
 obtain ⟨Aw, cw, rfl⟩ := Kd.R_slice h.r.w
 obtain ⟨Ao, co, rfl⟩ := Kd.R_slice h.r.o
 clear h
 cases ht : t.top with
 | none =>
  have HP := am ht
  have HP' := am (show t.opn.getLast? = none from ht)
  clear ht
  rcases h0 : ((t.word.length : Int) == 0) with _ | _
  ·have H0 := am h0
   go_enter Tryz.func108, Tryz.ntmps108
   go_wp2_with (go_at_call 79; refine (HTOP.out _ HB.out).mono ?_; rw [HP'.out]; rintro e w1 ⟨rfl, hb1⟩; clear HTOP; obtain ⟨hc, hf⟩ := bcell hb1; have hs1 := hb1.size)
   go_ret
   exact ⟨by rw [Tk.can, HP.out]; simp only [H0.out]; rfl, HB.out.trans (hb1.mono (by simp))⟩
  have H0 := am h0
  rcases h1 : atB m 0 0 with _ | _
  ·have H1 := am h1
   clear h1
   go_enter Tryz.func108, Tryz.ntmps108
   go_wp2_with (first
    | (go_at_call 79; refine (HTOP.out _ HB.out).mono ?_; rw [HP'.out]; rintro e w1 ⟨rfl, hb1⟩; clear HTOP; obtain ⟨hc, hf⟩ := bcell hb1; have hs1 : w.heap.size + 1 ≤ w1.heap.size := (by have := hb1.size; simpa using this))
    | (go_at_call 132; refine (isRoot_any m _).mono ?_; rw [H1.out]; rintro e w2 ⟨rfl, hb2⟩))
   go_ret
   exact ⟨by rw [Tk.can, HP.out]; simp only [H0.out, H1.out]; rfl, HB.out.trans ((hb1.mono (by simp)).trans (hb2.mono (by omega)))⟩
  have H1 := am h1
  clear h1
  go_enter Tryz.func108, Tryz.ntmps108
  go_wp2_with (first
   | (go_at_call 79; refine (HTOP.out _ HB.out).mono ?_; rw [HP'.out]; rintro e w1 ⟨rfl, hb1⟩; clear HTOP; obtain ⟨hc, hf⟩ := bcell hb1; have hs1 : w.heap.size + 1 ≤ w1.heap.size := (by have := hb1.size; simpa using this); have hs3 : w.heap.size < w1.heap.size := hs1)
   | (go_at_call 132; refine (isRoot_any m _).mono ?_; rw [H1.out]; rintro e w2 ⟨rfl, hb2⟩; obtain ⟨hc2, hf2⟩ := bcell hb2; have hs2 := hb2.size)
   | (go_at_call 102; refine (isAnswer_any m _).mono ?_; rintro e w3 ⟨rfl, hb3⟩))
  go_ret
  exact ⟨by rw [Tk.can, HP.out]; simp only [H0.out, H1.out]; rfl, HB.out.trans ((hb1.mono (by simp)).trans ((hb2.mono (by omega)).trans (hb3.mono (by omega))))⟩
 | some n =>
  have HP := am ht
  have HP' := am (show t.opn.getLast? = some n from ht)
  obtain ⟨hn0, hn1⟩ := HT.out.ok.topI ht
  clear ht
  obtain ⟨gw, cw', q, hv, hgw, hq, a0, a1, a2, a3⟩ := HT.out.r.w.get n hn0 hn1
  cases hv
  have HQ := am (show t.mv n = q from hq)
  clear hq
  rcases hm : isAns m with _ | _
  ·have HM := am hm
   clear hm
   rcases hb : t.force with _ | _
   ·rcases hb2 : t.lost with _ | _
    ·rw [hb] at h9
     rw [hb2] at h10
     have HE := am (And.intro hb hb2)
     clear hb hb2
     rcases h1 : decide (t.turn = 2) with _ | _
     ·have HTU := am (of_decide_eq_false h1)
      clear h1
      have hne := beq_eq_false_iff_ne.2 HTU.out
      rcases h2 : isPar m with _ | _
      ·have HPA := am h2
       clear h2
       go_enter Tryz.func108, Tryz.ntmps108
       go_wp2_with (first
        | (go_at_call 79; refine (HTOP.out _ HB.out).mono ?_; rw [HP'.out]; rintro e w1 ⟨rfl, hb1⟩; clear HTOP; obtain ⟨hc, hf⟩ := bcell hb1; have hs1 : w.heap.size + 1 ≤ w1.heap.size := (by have := hb1.size; simpa using this); have hgw1 : gw < w.heap.size + 1 := (by omega); have hs3 : w.heap.size < w1.heap.size := hs1)
        | (go_at_call 102; refine (isAnswer_any m _).mono ?_; rw [HM.out]; rintro e w2 ⟨rfl, hb2⟩; obtain ⟨hc2, hf2⟩ := bcell hb2; have hs2 : w1.heap.size + 1 ≤ w2.heap.size := (by have := hb2.size; simpa using this); have HB2 := am (((HB.out.trans (hb1.mono (by simp))).alloc (by omega) (.cells #[.int .i64 q.f0, .int .i64 q.f1, .int .u8 q.f2, .int .i64 q.f3] 52)).trans (hb2.mono (by simp; omega))); have hg9 : g < w1.heap.size + 1 := (by omega); have hg10 : g < w1.heap.size := (by omega); have hs4 : w1.heap.size < w2.heap.size := hs2; have hs5 : w.heap.size < w2.heap.size := (by omega); have hs6 : w.heap.size < w1.heap.size + 1 := (by omega); have hs7 : w.heap.size ≠ w1.heap.size := (by omega))
        | (go_at_call 94; refine (HTURN.out _ HB2.out).mono ?_; rintro e w3 ⟨rfl, hb3⟩; obtain ⟨hc3, hf3⟩ := bcell hb3; have hs8 : w.heap.size < w3.heap.size := (by have := hb3.size; omega); have HB3 := am (HB2.out.trans (hb3.mono (by omega))))
        | (go_at_call 104; refine (isParam_any m _).mono ?_; rw [HPA.out]; rintro e w4 ⟨rfl, hb4⟩))
       go_ret
       exact ⟨by simp only [Tk.can, HP.out, HQ.out, HM.out, HE.out.1, HE.out.2, HPA.out, if_neg HTU.out]; rfl, HB3.out.trans (hb4.mono (by omega))⟩
      have HPA := am h2
      clear h2
      go_enter Tryz.func108, Tryz.ntmps108
      go_wp2_with (first
       | (go_at_call 79; refine (HTOP.out _ HB.out).mono ?_; rw [HP'.out]; rintro e w1 ⟨rfl, hb1⟩; clear HTOP; obtain ⟨hc, hf⟩ := bcell hb1; have hs1 : w.heap.size + 1 ≤ w1.heap.size := (by have := hb1.size; simpa using this); have hgw1 : gw < w.heap.size + 1 := (by omega); have hs3 : w.heap.size < w1.heap.size := hs1)
       | (go_at_call 102; refine (isAnswer_any m _).mono ?_; rw [HM.out]; rintro e w2 ⟨rfl, hb2⟩; obtain ⟨hc2, hf2⟩ := bcell hb2; have hs2 : w1.heap.size + 1 ≤ w2.heap.size := (by have := hb2.size; simpa using this); have HB2 := am (((HB.out.trans (hb1.mono (by simp))).alloc (by omega) (.cells #[.int .i64 q.f0, .int .i64 q.f1, .int .u8 q.f2, .int .i64 q.f3] 52)).trans (hb2.mono (by simp; omega))); have hg9 : g < w1.heap.size + 1 := (by omega); have hg10 : g < w1.heap.size := (by omega); have hs4 : w1.heap.size < w2.heap.size := hs2; have hs5 : w.heap.size < w2.heap.size := (by omega); have hs6 : w.heap.size < w1.heap.size + 1 := (by omega); have hs7 : w.heap.size ≠ w1.heap.size := (by omega))
       | (go_at_call 94; refine (HTURN.out _ HB2.out).mono ?_; rintro e w3 ⟨rfl, hb3⟩; obtain ⟨hc3, hf3⟩ := bcell hb3; have hs8 : w.heap.size < w3.heap.size := (by have := hb3.size; omega); have hs9 : w1.heap.size < w3.heap.size := (by have := hb3.size; omega); have HB3 := am (HB2.out.trans (hb3.mono (by omega))))
       | (go_at_call 104; refine (isParam_any m _).mono ?_; rw [HPA.out]; rintro e w4 ⟨rfl, hb4⟩; obtain ⟨hc4, hf4⟩ := bcell hb4))
      go_ret
      exact ⟨by simp only [Tk.can, HP.out, HQ.out, HM.out, HE.out.1, HE.out.2, HPA.out, if_neg HTU.out]; rfl, HB3.out.trans (hb4.mono (by omega))⟩
     have HTU := am (of_decide_eq_true h1)
     clear h1
     go_enter Tryz.func108, Tryz.ntmps108
     go_wp2_with (first
      | (go_at_call 79; refine (HTOP.out _ HB.out).mono ?_; rw [HP'.out]; rintro e w1 ⟨rfl, hb1⟩; clear HTOP; obtain ⟨hc, hf⟩ := bcell hb1; have hs1 : w.heap.size + 1 ≤ w1.heap.size := (by have := hb1.size; simpa using this); have hgw1 : gw < w.heap.size + 1 := (by omega); have hs3 : w.heap.size < w1.heap.size := hs1)
      | (go_at_call 102; refine (isAnswer_any m _).mono ?_; rw [HM.out]; rintro e w2 ⟨rfl, hb2⟩; obtain ⟨hc2, hf2⟩ := bcell hb2; have hs2 : w1.heap.size + 1 ≤ w2.heap.size := (by have := hb2.size; simpa using this); have HB2 := am (((HB.out.trans (hb1.mono (by simp))).alloc (by omega) (.cells #[.int .i64 q.f0, .int .i64 q.f1, .int .u8 q.f2, .int .i64 q.f3] 52)).trans (hb2.mono (by simp; omega))); have hg9 : g < w1.heap.size + 1 := (by omega); have hg10 : g < w1.heap.size := (by omega); have hs4 : w1.heap.size < w2.heap.size := hs2; have hs5 : w.heap.size < w2.heap.size := (by omega); have hs6 : w.heap.size < w1.heap.size + 1 := (by omega); have hs7 : w.heap.size ≠ w1.heap.size := (by omega))
      | (go_at_call 94; refine (HTURN.out _ HB2.out).mono ?_; rw [HTU.out]; rintro e w3 ⟨rfl, hb3⟩; obtain ⟨hc3, hf3⟩ := bcell hb3; have hs8 : w.heap.size < w3.heap.size := (by have := hb3.size; omega); have HB3 := am (HB2.out.trans (hb3.mono (by omega))))
      | (go_at_call 109; refine (isIdentifier_any m _).mono ?_; rintro e w4 ⟨rfl, hb4⟩))
     go_ret
     exact ⟨by simp only [Tk.can, HP.out, HQ.out, HM.out, HE.out.1, HE.out.2, if_pos HTU.out]; rfl, HB3.out.trans (hb4.mono (by omega))⟩
    rw [hb] at h9
    rw [hb2] at h10
    have HE := am (And.intro hb hb2)
    clear hb hb2
    go_enter Tryz.func108, Tryz.ntmps108
    go_wp2_with (first
     | (go_at_call 79; refine (HTOP.out _ HB.out).mono ?_; rw [HP'.out]; rintro e w1 ⟨rfl, hb1⟩; clear HTOP; obtain ⟨hc, hf⟩ := bcell hb1; have hs1 : w.heap.size + 1 ≤ w1.heap.size := (by have := hb1.size; simpa using this); have hgw1 : gw < w.heap.size + 1 := (by omega); have hs3 : w.heap.size < w1.heap.size := hs1)
     | (go_at_call 102; refine (isAnswer_any m _).mono ?_; rw [HM.out]; rintro e w2 ⟨rfl, hb2⟩; obtain ⟨hc2, hf2⟩ := bcell hb2; have hs2 : w1.heap.size + 1 ≤ w2.heap.size := (by have := hb2.size; simpa using this); have HB2 := am (((HB.out.trans (hb1.mono (by simp))).alloc (by omega) (.cells #[.int .i64 q.f0, .int .i64 q.f1, .int .u8 q.f2, .int .i64 q.f3] 52)).trans (hb2.mono (by simp; omega))); have hg9 : g < w1.heap.size + 1 := (by omega); have hg10 : g < w1.heap.size := (by omega); have hs4 : w1.heap.size < w2.heap.size := hs2; have hs5 : w.heap.size < w2.heap.size := (by omega); have hs6 : w.heap.size < w1.heap.size + 1 := (by omega); have hs7 : w.heap.size ≠ w1.heap.size := (by omega)))
    go_ret
    exact ⟨by simp only [Tk.can, HP.out, HQ.out, HM.out, HE.out.1, HE.out.2]; rfl, HB2.out⟩
   rw [hb] at h9
   have HE := am hb
   clear hb
   go_enter Tryz.func108, Tryz.ntmps108
   go_wp2_with (first
    | (go_at_call 79; refine (HTOP.out _ HB.out).mono ?_; rw [HP'.out]; rintro e w1 ⟨rfl, hb1⟩; clear HTOP; obtain ⟨hc, hf⟩ := bcell hb1; have hs1 : w.heap.size + 1 ≤ w1.heap.size := (by have := hb1.size; simpa using this); have hgw1 : gw < w.heap.size + 1 := (by omega); have hs3 : w.heap.size < w1.heap.size := hs1)
    | (go_at_call 102; refine (isAnswer_any m _).mono ?_; rw [HM.out]; rintro e w2 ⟨rfl, hb2⟩; obtain ⟨hc2, hf2⟩ := bcell hb2; have hs2 : w1.heap.size + 1 ≤ w2.heap.size := (by have := hb2.size; simpa using this); have HB2 := am (((HB.out.trans (hb1.mono (by simp))).alloc (by omega) (.cells #[.int .i64 q.f0, .int .i64 q.f1, .int .u8 q.f2, .int .i64 q.f3] 52)).trans (hb2.mono (by simp; omega))); have hg9 : g < w1.heap.size + 1 := (by omega); have hg10 : g < w1.heap.size := (by omega); have hs4 : w1.heap.size < w2.heap.size := hs2; have hs5 : w.heap.size < w2.heap.size := (by omega); have hs6 : w.heap.size < w1.heap.size + 1 := (by omega); have hs7 : w.heap.size ≠ w1.heap.size := (by omega)))
   go_ret
   exact ⟨by simp only [Tk.can, HP.out, HQ.out, HM.out, HE.out]; rfl, HB2.out⟩
  have HM := am hm
  clear hm
  rcases h1 : atB m q.f0 q.f1 with _ | _
  ·have H1 := am h1
   clear h1
   go_enter Tryz.func108, Tryz.ntmps108
   go_wp2_with (first
    | (go_at_call 79; refine (HTOP.out _ HB.out).mono ?_; rw [HP'.out]; rintro e w1 ⟨rfl, hb1⟩; clear HTOP; obtain ⟨hc, hf⟩ := bcell hb1; have hs1 : w.heap.size + 1 ≤ w1.heap.size := (by have := hb1.size; simpa using this); have hgw1 : gw < w.heap.size + 1 := (by omega); have hs3 : w.heap.size < w1.heap.size := hs1)
    | (go_at_call 102; refine (isAnswer_any m _).mono ?_; rw [HM.out]; rintro e w2 ⟨rfl, hb2⟩; obtain ⟨hc2, hf2⟩ := bcell hb2; have hs2 : w1.heap.size + 1 ≤ w2.heap.size := (by have := hb2.size; simpa using this); have HB2 := am (((HB.out.trans (hb1.mono (by simp))).alloc (by omega) (.cells #[.int .i64 q.f0, .int .i64 q.f1, .int .u8 q.f2, .int .i64 q.f3] 52)).trans (hb2.mono (by simp; omega))); have hg9 : g < w1.heap.size + 1 := (by omega); have hg10 : g < w1.heap.size := (by omega); have hs4 : w1.heap.size < w2.heap.size := hs2; have hs5 : w.heap.size < w2.heap.size := (by omega); have hs6 : w.heap.size < w1.heap.size + 1 := (by omega); have hs7 : w.heap.size ≠ w1.heap.size := (by omega))
    | (go_at_call 133; refine (at_any m _ _ _).mono ?_; rw [H1.out]; rintro e w3 ⟨rfl, hb3⟩))
   go_ret
   exact ⟨by simp only [Tk.can, HP.out, HQ.out, HM.out, H1.out]; rfl, HB2.out.trans (hb3.mono (by omega))⟩
  have H1 := am h1
  clear h1
  go_enter Tryz.func108, Tryz.ntmps108
  go_wp2_with (first
   | (go_at_call 79; refine (HTOP.out _ HB.out).mono ?_; rw [HP'.out]; rintro e w1 ⟨rfl, hb1⟩; clear HTOP; obtain ⟨hc, hf⟩ := bcell hb1; have hs1 : w.heap.size + 1 ≤ w1.heap.size := (by have := hb1.size; simpa using this); have hgw1 : gw < w.heap.size + 1 := (by omega); have hs3 : w.heap.size < w1.heap.size := hs1)
   | (go_at_call 102; refine (isAnswer_any m _).mono ?_; rw [HM.out]; rintro e w2 ⟨rfl, hb2⟩; obtain ⟨hc2, hf2⟩ := bcell hb2; have hs2 : w1.heap.size + 1 ≤ w2.heap.size := (by have := hb2.size; simpa using this); have HB2 := am (((HB.out.trans (hb1.mono (by simp))).alloc (by omega) (.cells #[.int .i64 q.f0, .int .i64 q.f1, .int .u8 q.f2, .int .i64 q.f3] 52)).trans (hb2.mono (by simp; omega))); have hg9 : g < w1.heap.size + 1 := (by omega); have hg10 : g < w1.heap.size := (by omega); have hs4 : w1.heap.size < w2.heap.size := hs2; have hs5 : w.heap.size < w2.heap.size := (by omega); have hs6 : w.heap.size < w1.heap.size + 1 := (by omega); have hs7 : w.heap.size ≠ w1.heap.size := (by omega))
   | (go_at_call 133; refine (at_any m _ _ _).mono ?_; rw [H1.out]; rintro e w3 ⟨rfl, hb3⟩; obtain ⟨hc3, hf3⟩ := bcell hb3; have hs8 : w.heap.size < w3.heap.size := (by have := hb3.size; omega); have hs9 : w1.heap.size < w3.heap.size := (by have := hb3.size; omega); have HB3 := am (HB2.out.trans (hb3.mono (by omega))))
   | (go_at_call 134; refine (HANS.out _ q HB3.out).mono ?_; rintro e w4 ⟨rfl, hb4⟩))
  go_ret
  exact ⟨by simp only [Tk.can, HP.out, HQ.out, HM.out, H1.out]; rfl, HB3.out.trans (hb4.mono (by omega))⟩
end Go.Proofs.YtjgocihflhljeaaGreat.P
