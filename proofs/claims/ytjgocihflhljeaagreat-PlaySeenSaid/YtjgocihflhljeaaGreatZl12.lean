/- What the claim's law needs, many texts in one (Td Te Tf Hi Tg Th Ti Tq Tr Tk Hs Tl Tm Tn). No conditions of its own. -/
import Derived.Test.YtjgocihflhljeaaGreatZl11
import Derived.Deep.DeepCutAuto
import Derived.Deep.CutBlock
import Derived.Deep.RegionHeld3
import Derived.StillTailTactics
import Derived.Test.YtjgocihflhljeaaGreatZl6
import Derived.Lib.SliceRun
import Derived.Sort.LoopGhostIn
import Derived.Stop.RegionWithIn
import Derived.Test.YtjgocihflhljeaaGreatZl2
import Derived.OrdersIn
set_option linter.unusedVariables false
set_option linter.unusedSimpArgs false
namespace Go.Proofs.YtjgocihflhljeaaGreat.P
open Go.RowKit Go.Shelf Go.Proofs.YtjgocihflhljeaaGreatW.PrintWords Go.Proofs.YtjgocihflhljeaaGreatW.PrintLast Go.Proofs.YtjgocihflhljeaaGreatW.PrintMore
attribute [local go_sem] Oper.semAt_some max2_int max_two
set_option maxRecDepth 8000 in
set_option maxHeartbeats 3200000 in
theorem say_any {base : Nat} {w : World} {g : Nat} {A : Option Addr} {c : Nat} {ids : List S68} {rc : Bool} {rn : Int} {jb : Bool} {t : Tk} {vw vp vj vf vo : Value} (h : Talk base w g A c ids rc rn jb t vw vp vj vf vo) (m : Mv) (ha : isAns m = true → t.opn ≠ []) (hw : t.word.length < 1048576) :
  Calls Tryz.prog 78 #[.pointer (some ⟨g, 0, none⟩), .agg #[.int .i64 m.f0, .int .i64 m.f1, .int .u8 m.f2, .int .i64 m.f3]] w fun e w' => e = .returned (.tuple #[]) ∧ SK base 77 w w' ∧ ∃ vw vp vj vf vo, Talk base w' g A c ids rc rn jb (t.say m) vw vp vj vf vo := by
 have HT := am h
 have hg := h.lt
 have hg1 : g < w.heap.size + 1 := by omega
 have HA := am ha
 have hol := h.ok.hl
 have hpl := h.ok.hp
 have h8 : w.cell? ⟨g, 8, none⟩ = some vo := (blk_cell h.b 8).trans rfl
 have h4 : w.cell? ⟨g, 4, none⟩ = some vw := (blk_cell h.b 4).trans rfl
 have HB := am ((Below.refl _ w).alloc (Nat.le_refl _) (.cells #[.int .i64 m.f0, .int .i64 m.f1, .int .u8 m.f2, .int .i64 m.f3] 52))
 have HTOP := am (fun (V : World) (hb : Below w.heap.size w V) => top_any vo t.opn V (h.below hb).r.o (Nat.le_trans h.ok.hl h.ok.hw))
 obtain ⟨Aw, cw, rfl⟩ := Kd.R_slice h.r.w
 obtain ⟨Ao, co, rfl⟩ := Kd.R_slice h.r.o
 clear h ha
 obtain ⟨nI, hnI⟩ : ∃ nI, t.opn.getLast?.getD (-1) = nI := ⟨_, rfl⟩
 obtain ⟨sB, hsB⟩ : ∃ sB, t.opn.getLast?.isSome = sB := ⟨_, rfl⟩
 rw [hnI, hsB] at HTOP
 have HNI := am (show t.topI = nI from hnI)
 clear hnI hsB
 go_enter Tryz.func78, Tryz.ntmps78
 go_upto_block 0 with (go_at_call 79; refine (HTOP.out _ HB.out).mono ?_; rintro e w1 ⟨rfl, hb1⟩; clear HTOP; obtain ⟨hc, hf⟩ := bcell hb1; have HB1 := am (HB.out.trans (hb1.mono (by simp))))
 have S0 := am (show Saying base w g w.heap.size A c ids rc rn jb m t.word t.part t.just t.forc t.opn t.force t.lost t.deep w1 from
  ⟨_, _, _, _, _, (HT.out.below HB1.out).b, (HT.out.below HB1.out).r, Keeps.of_below HB1.out, (hb1.block _ (by simp)).trans (heap_alloc_new w _), by
   intro e
   obtain ⟨i, ho⟩ := Kd.R_own HT.out.r.w
   have := own_lt ho _ e.symm
   omega, hg, HT.out.hg, by have := HT.out.hg; omega⟩)
 clear hb1 hc hf
 go_cut [7, 8] (fun x7 x8 wx => x7 = .int .i64 (if isAns m then t.topI else -1) ∧ x8 = .int .i64 (t.justOf m) ∧ Aside0 (Saying base w g w.heap.size A c ids rc rn jb m t.word (if isAns m then t.part.set t.topI.toNat t.word.length else t.part) t.just t.forc (if isAns m then t.opn.dropLast else t.opn) t.force t.lost t.deep wx))
 case first =>
  have hw1 : w.heap.size + 1 ≤ w1.heap.size := by
   obtain ⟨_, _, _, _, _, h⟩ := S0.out
   exact blk_lt h.x
  have hbx : w.heap.size < w1.heap.size := hw1
  have hgw : g < w1.heap.size := by omega
  have KB := am (by obtain ⟨_, _, _, _, _, h⟩ := S0.out; exact h.x : w1.heap[w.heap.size]? = some (.cells #[.int .i64 m.f0, .int .i64 m.f1, .int .u8 m.f2, .int .i64 m.f3] 52 (0, 0)))
  have b0 : w1.cell? ⟨w.heap.size, 0, none⟩ = some (.int .i64 m.f0) := (blk_cell KB.out 0).trans rfl
  have b1 : w1.cell? ⟨w.heap.size, 1, none⟩ = some (.int .i64 m.f1) := (blk_cell KB.out 1).trans rfl
  have b2 : w1.cell? ⟨w.heap.size, 2, none⟩ = some (.int .u8 m.f2) := (blk_cell KB.out 2).trans rfl
  have b3 : w1.cell? ⟨w.heap.size, 3, none⟩ = some (.int .i64 m.f3) := (blk_cell KB.out 3).trans rfl
  rcases hm : isAns m with _ | _
  ·have HM := am hm
   clear hm
   rcases hi : isIdent m with _ | _
   ·have HI := am hi
    clear hi
    rcases hp : isPar m with _ | _
    all_goals
     have HPA := am hp
     clear hp
     go_wp2_with (first
      | (go_at_call 102; refine (isAnswer_any m _).mono ?_; rw [HM.out]; rintro e w2 ⟨rfl, hb2⟩; obtain ⟨hc2, hf2⟩ := bcell hb2; have hs2 := hb2.size; have hbx2 : w.heap.size < w2.heap.size := (by omega))
      | (go_at_call 109; refine (isIdentifier_any m _).mono ?_; rw [HI.out]; rintro e w3 ⟨rfl, hb3⟩; obtain ⟨hc3, hf3⟩ := bcell hb3; have hs3 := hb3.size)
      | (go_at_call 104; refine (isParam_any m _).mono ?_; rw [HPA.out]; rintro e w4 ⟨rfl, hb4⟩))
     go_meet
     case rel => exact ⟨by first | rfl | simp [HM.out], by simp only [Tk.justOf, HM.out, HI.out, HPA.out, HNI.out]; rfl, ⟨by simp only [HM.out, Bool.false_eq_true, if_false]; exact ((S0.out.below hb2).below hb3).below hb4⟩⟩
   have HI := am hi
   clear hi
   go_wp2_with (first
    | (go_at_call 102; refine (isAnswer_any m _).mono ?_; rw [HM.out]; rintro e w2 ⟨rfl, hb2⟩; obtain ⟨hc2, hf2⟩ := bcell hb2; have hs2 := hb2.size; have hbx2 : w.heap.size < w2.heap.size := (by omega))
    | (go_at_call 109; refine (isIdentifier_any m _).mono ?_; rw [HI.out]; rintro e w3 ⟨rfl, hb3⟩))
   go_meet
   case rel => exact ⟨by first | rfl | simp [HM.out], by simp only [Tk.justOf, HM.out, HI.out]; rfl, ⟨by simp only [HM.out, Bool.false_eq_true, if_false]; exact (S0.out.below hb2).below hb3⟩⟩
  have HM := am hm
  clear hm
  have hne := HA.out HM.out
  have hp := List.length_pos_iff.2 hne
  obtain ⟨n, hn⟩ : ∃ n, t.top = some n := by
   cases hq : t.top with
   | none => exact absurd (List.getLast?_eq_none_iff.1 hq) hne
   | some n => exact ⟨n, rfl⟩
  obtain ⟨hn0, hn1⟩ := HT.out.ok.topI hn
  have HN := am hn
  obtain rfl : n = nI := by
   have h1 := HNI.out
   rw [Tk.topI, hn] at h1
   exact h1
  go_upto_region 7 with (go_at_call 102; refine (isAnswer_any m _).mono ?_; rw [HM.out]; rintro e w2 ⟨rfl, hb2⟩; obtain ⟨vw2, vp2, vj2, vf2, vo2, h2⟩ := S0.out.below hb2; obtain ⟨gp, cp, rfl, hgp, hgp2, _, hpc, hpf, hpR, hpG⟩ := h2.r.p.put n.toNat (by omega) t.word.length; have h5 : w2.cell? ⟨g, 5, none⟩ = some _ := (blk_cell h2.b 5).trans rfl)
  refine name_world (C := fun x => Code.wp _ _ _ _ x) ?_
  intro w3 hw3
  have h3 := am (show SayP base w g w.heap.size A c ids rc rn jb m _ _ _ _ _ _ _ _ _ _ t.word (t.part.set n.toNat t.word.length) t.just t.forc t.opn t.force t.lost t.deep w3 by rw [hw3]; exact h2.appP hpR hpG (.inl rfl))
  clear hw3 h2 hpR hpG hpc hpf h5
  obtain ⟨Ao3, co3, rfl⟩ := Kd.R_slice h3.out.r.o
  have hco := (Kd.R_reads h3.out.r.o)
  have g8 : w3.cell? ⟨g, 8, none⟩ = some (.slice Ao3 t.opn.length co3) := (blk_cell h3.out.b 8).trans rfl
  have f8 := blk_frozen h3.out.b 8
  have hle : t.opn.length ≤ co3 := by
   obtain ⟨A', c', e, hl, _⟩ := Kd.R_reads h3.out.r.o
   injection e with _ _ e
   omega
  clear hco
  have e1 : IntKind.i64.wrap ((t.opn.length : Int) - 1) = ((t.opn.length - 1 : Nat) : Int) := by
   rw [IntWalk.i64_in _ (by omega)]
   omega
  have hcut : ∀ W : World, (Instr.slice 36 (.slice Ao3 t.opn.length co3) none (some (.int .i64 ((t.opn.length - 1 : Nat) : Int))) none).run Tryz.prog W = .ok (.slice Ao3 (t.opn.length - 1) co3) W := fun W => by
   have := cut_to (P := Tryz.prog) 36 3 .i64 (i := (Tryz.prog.info? 3).get!) Tryz.underlying36 (by kernel_rfl) Ao3 t.opn.length co3 ((t.opn.length - 1 : Nat) : Int) (by omega) (by omega) hle W
   simpa using this
  have ro3 := am (show RI w3 base (.slice Ao3 (t.opn.length - 1) co3) t.opn.dropLast by rw [List.dropLast_eq_take]; exact RI.cut h3.out.r.o (t.opn.length - 1) (by omega))
  have KF := am (show Saying base w g w.heap.size A c ids rc rn jb m t.word (t.part.set n.toNat t.word.length) t.just t.forc t.opn.dropLast t.force t.lost t.deep (w3.setCell ⟨g, 8, none⟩ (.slice Ao3 (t.opn.length - 1) co3)) from
   ⟨_, _, _, _, _, (h3.out.appO ro3.out (grown_of_below (Below.refl _ _) _) (.inl (by cases Ao3 <;> rfl))).putO _⟩)
  go_still_tail 17, (by kernel_rfl)
  change wpList _ _ _ _ _ w3.drew
  go_wp2
  go_meet
  case rel => exact ⟨by rw [HM.out, if_pos rfl, Tk.topI, HN.out]; rfl, by rw [Tk.justOf, HM.out, if_pos rfl, Tk.topI, HN.out]; rfl, ⟨by simp only [HM.out, if_true]; rw [Tk.topI, HN.out]; exact KF.out.drew⟩⟩
 case rest =>
 obtain ⟨rfl, rfl, S1⟩ := hcut
 have hwl := hw
 have hfl := HT.out.ok.hf
 have hjl := HT.out.ok.hj
 obtain ⟨pI, hpI⟩ : ∃ pI, (if isAns m then t.topI else -1) = pI := ⟨_, rfl⟩
 obtain ⟨jI, hjI⟩ : ∃ jI, t.justOf m = jI := ⟨_, rfl⟩
 obtain ⟨pt1, hpt1⟩ : ∃ pt1, (if isAns m then t.part.set t.topI.toNat (t.word.length : Int) else t.part) = pt1 := ⟨_, rfl⟩
 obtain ⟨op1, hop1⟩ : ∃ op1, (if isAns m then t.opn.dropLast else t.opn) = op1 := ⟨_, rfl⟩
 have hptl : pt1.length = t.word.length := by rw [← hpt1]; split <;> simp [hpl]
 have hopl : op1.length ≤ t.word.length := by rw [← hop1]; split <;> (try rw [List.length_dropLast]) <;> omega
 rw [hpI, hjI]
 rw [hpt1, hop1] at S1
 have HPI := am hpI
 have HJI := am hjI
 have HPT := am hpt1
 have HOP := am hop1
 have hbw : base ≤ w.heap.size := by have := HT.out.hg; omega
 have HOK := am HT.out.ok
 clear hpI hjI hpt1 hop1 S0
 apply_assumption
 exact say_t1 HOK.out m hw pt1 op1 pI jI hptl hopl HPT.out HOP.out HPI.out HJI.out _ S1 _ _ _ _ _ _ _ _ _ _ _ _ _ _ _ _ _ _ _ _ _ _ _ _ _ _ _ _ _ _ _ _ _ _ _ _ _ _ _ _ _ _ _ _ _ _ _ _ _ _ _ _ _ _ _ _ _ _ _ _ _ _ _ _ _ _ _ _ _ _ _ _ _ _ _ _ _ _ _ _ _ _ _ _ _ _ _ _ _ _ _ _ _ _ _ _ _ _ _ _ _ _ _ _ _ _ _ _ _ _ _ _ _ _ _ _ _ _ _ _ _ _ _ _ _ _ _ _ _ _ _ _ _ _ _ _ _ _ _ _ _ _ _ _ _ _ _ _ _ _
end Go.Proofs.YtjgocihflhljeaaGreat.P
namespace Go.Proofs.YtjgocihflhljeaaGreat.P
open Go.RowKit Go.Shelf Go.Proofs.YtjgocihflhljeaaGreatW.PrintWords Go.Proofs.YtjgocihflhljeaaGreatW.PrintLast Go.Proofs.YtjgocihflhljeaaGreatW.PrintMore
attribute [local go_sem] Oper.semAt_some
def Tk.empty : Tk := ⟨[], [], [], [], [], false, false, 0⟩
def Tk.may (ids : List S68) (rc : Bool) (rn : Int) (jb : Bool) (t : Tk) (m : Mv) : Bool := checkE ids rn == 0 && hasR ids rc rn jb m && t.can jb m
def walkL (ids : List S68) (rc : Bool) (rn : Int) (jb : Bool) : Tk → List Mv → Tk
 | t, [] => t
 | t, m :: ms => if t.may ids rc rn jb m then walkL ids rc rn jb (t.say m) ms else t
theorem Tk.Ok.empty : Tk.empty.Ok := ⟨rfl, rfl, rfl, fun n hn => by simp [Tk.empty] at hn, Nat.le_refl _, by simp [Tk.empty], by simp [Tk.empty]⟩
theorem Tk.can_ans {t : Tk} {jb : Bool} {m : Mv} (h : t.can jb m = true) (ha : isAns m = true) : t.opn ≠ [] := by
 intro hn
 rw [Tk.can, Tk.top, hn] at h
 simp [ha] at h
set_option maxHeartbeats 2000000 in
theorem walk_any (A : Option Addr) (c : Nat) (ids : List S68) (rc : Bool) (rn : Int) (jb : Bool) (A1 : Option Addr) (c1 : Nat) (l : List Mv) (w : World) (hr : Kd.C k68 w A ids.length ids) (hr1 : Kd.C k52 w A1 l.length l) (hl : l.length ≤ 1000000) :
  Calls Tryz.prog 93 #[.agg #[.slice A ids.length c, .bool rc, .int .i64 rn, .bool jb], .slice A1 l.length c1] w fun e w' => e = .returned (.pointer (some ⟨w.heap.size + 1, 0, none⟩)) ∧ Below w.heap.size w w' ∧ ∃ vw vp vj vf vo, Talk w.heap.size w' (w.heap.size + 1) A c ids rc rn jb (walkL ids rc rn jb Tk.empty l) vw vp vj vf vo := by
 have HH := am (fun (m : Mv) (V : World) (hb : Below w.heap.size w V) => Has_any A c ids rc rn jb m V (Kd.C_below hr hb))
 have HR1 := am hr1
 clear hr hr1
 go_enter Tryz.func93, Tryz.ntmps93
 go_wp2
 have hT0 : Talk w.heap.size ((w.alloc (.cells #[.slice A ids.length c, .bool rc, .int .i64 rn, .bool jb] 26)).alloc (.cells #[.slice A ids.length c, .bool rc, .int .i64 rn, .bool jb, .slice none 0 0, .slice none 0 0, .slice none 0 0, .slice none 0 0, .slice none 0 0, .bool false, .bool false, .int .i64 0] 77)) (w.heap.size + 1) A c ids rc rn jb Tk.empty (.slice none 0 0) (.slice none 0 0) (.slice none 0 0) (.slice none 0 0) (.slice none 0 0) :=
  ⟨(two w _ _).2, ⟨Kd.R_nil _ _ _ _ _, Kd.R_nil _ _ _ _ _, Kd.R_nil _ _ _ _ _, Kd.R_nil _ _ _ _ _, Kd.R_nil _ _ _ _ _, Ap.none _, Ap.none _, Ap.none _⟩, by omega, Tk.Ok.empty⟩
 go_loopg [7, 8, 9, 15] l.length (fun gg _ _ _ s15 wr => ∃ (kk : Nat) (t : Tk), kk ≤ l.length ∧ l.length - kk ≤ gg ∧ s15 = .int .i64 kk ∧ t.word.length = kk ∧ Aside0 (walkL ids rc rn jb Tk.empty l = walkL ids rc rn jb t (l.drop kk)) ∧ Aside0 (Below w.heap.size w wr) ∧ Aside0 (wr.heap[w.heap.size]? = some (.cells #[.slice A ids.length c, .bool rc, .int .i64 rn, .bool jb] 26 (0, 0))) ∧ Aside0 (∃ vw vp vj vf vo, Talk w.heap.size wr (w.heap.size + 1) A c ids rc rn jb t vw vp vj vf vo))
 case atStart => exact ⟨0, Tk.empty, Nat.zero_le _, by omega, rfl, rfl, ⟨rfl⟩, ⟨((Below.refl _ w).alloc (Nat.le_refl _) _).alloc (by simp) _⟩, ⟨blk_alloc (heap_alloc_new w _) _⟩, ⟨_, _, _, _, _, hT0⟩⟩
 case round =>
  obtain ⟨kk, t, hkk, hg, rfl, hwl, HE, BW, HX, HT⟩ := hrel
  clear hT0
  by_cases hlt : kk < l.length
  ·have hltz : (kk : Int) < (l.length : Int) := by omega
   obtain ⟨ad, e0, a0, a1, a2, a3⟩ := at_T52 HR1.out (kk : Int) (by omega) hltz
   cases e0
   rw [Int.toNat_natCast] at a0 a1 a2 a3
   have cb : decide ((kk : Int) < (l.length : Int)) = true := decide_eq_true hltz
   replace a0 := (BW.out.cell (World.block_lt_of_cell? w _ a0)).trans a0
   replace a1 := (BW.out.cell (World.block_lt_of_cell? w _ a1)).trans a1
   replace a2 := (BW.out.cell (World.block_lt_of_cell? w _ a2)).trans a2
   replace a3 := (BW.out.cell (World.block_lt_of_cell? w _ a3)).trans a3
   have HQ : Aside0 (l.drop kk = rd_T52 l (kk : Int) :: l.drop (kk + 1)) := ⟨by rw [List.drop_eq_getElem_cons hlt, rd_T52, Int.toNat_natCast, ← getD_get l z52 kk hlt]⟩
   generalize rd_T52 l (kk : Int) = m at *
   obtain ⟨vw, vp, vj, vf, vo, hT⟩ := HT.out
   have HT := am hT
   have k0 : wr.cell? ⟨w.heap.size, 0, none⟩ = some (.slice A ids.length c) := (blk_cell HX.out 0).trans rfl
   have k1 : wr.cell? ⟨w.heap.size, 1, none⟩ = some (.bool rc) := (blk_cell HX.out 1).trans rfl
   have k2 : wr.cell? ⟨w.heap.size, 2, none⟩ = some (.int .i64 rn) := (blk_cell HX.out 2).trans rfl
   have k3 : wr.cell? ⟨w.heap.size, 3, none⟩ = some (.bool jb) := (blk_cell HX.out 3).trans rfl
   have hgw : w.heap.size + 1 < wr.heap.size := hT.lt
   have hgw0 : w.heap.size < wr.heap.size := by omega
   clear hT
   have HB0 := am (BW.out.alloc (by omega) (.cells #[.int .i64 m.f0, .int .i64 m.f1, .int .u8 m.f2, .int .i64 m.f3] 52))
   have KM := am (heap_alloc_new wr (.cells #[.int .i64 m.f0, .int .i64 m.f1, .int .u8 m.f2, .int .i64 m.f3] 52))
   have hgw3 : w.heap.size < wr.heap.size + 1 := by omega
   rcases hc : checkE ids rn != 0 with _ | _
   ·have hce : checkE ids rn = 0 := by simpa using hc
    have HC := am hce
    rcases hh : hasR ids rc rn jb m with _ | _
    ·have HHR := am hh
     clear hh hce hc
     go_wp2_with (go_at_call 120; refine (HH.out m _ HB0.out).mono ?_; rw [HC.out, HHR.out]; rintro e w1 ⟨rfl, hb1⟩; obtain ⟨hc1, hf1⟩ := bcell hb1; have hs1 : wr.heap.size + 1 ≤ w1.heap.size := (by have := hb1.size; simpa using this); have hs2 : wr.heap.size < w1.heap.size := hs1; have HB1 := am (HB0.out.trans (hb1.mono (by simp; omega))); have HT1 := am ((HT.out.below ((Below.refl _ wr).alloc (Nat.le_refl _) _)).below hb1); have KM1 := am ((hb1.block _ (by simp)).trans KM.out); have HX1 := am ((hb1.block _ (by simp; omega)).trans (blk_alloc HX.out (.cells #[.int .i64 m.f0, .int .i64 m.f1, .int .u8 m.f2, .int .i64 m.f3] 52))))
     go_ret
     refine ⟨rfl, HB1.out, ?_⟩
     rw [HE.out, HQ.out, walkL, if_neg (by rw [Tk.may, HHR.out, Bool.and_false, Bool.false_and]; decide)]
     exact ⟨_, _, _, _, _, HT1.out⟩
    have HHR := am hh
    clear hh hce hc
    rcases hca : t.can jb m with _ | _
    ·have HCA := am hca
     clear hca
     go_wp2_with (first
      | (go_at_call 120; refine (HH.out m _ HB0.out).mono ?_; rw [HC.out, HHR.out]; rintro e w1 ⟨rfl, hb1⟩; obtain ⟨hc1, hf1⟩ := bcell hb1; have hs1 : wr.heap.size + 1 ≤ w1.heap.size := (by have := hb1.size; simpa using this); have hs2 : wr.heap.size < w1.heap.size := hs1; have HB1 := am (HB0.out.trans (hb1.mono (by simp; omega))); have HT1 := am ((HT.out.below ((Below.refl _ wr).alloc (Nat.le_refl _) _)).below hb1); have KM1 := am ((hb1.block _ (by simp)).trans KM.out); have HX1 := am ((hb1.block _ (by simp; omega)).trans (blk_alloc HX.out (.cells #[.int .i64 m.f0, .int .i64 m.f1, .int .u8 m.f2, .int .i64 m.f3] 52))))
      | (go_at_call 108; refine (can_any HT1.out m).mono ?_; rw [HCA.out]; rintro e w2 ⟨rfl, hb2⟩; have HB2 := am (HB1.out.trans (hb2.mono (by omega))); have HT2 := am (HT1.out.below hb2)))
     go_ret
     refine ⟨rfl, HB2.out, ?_⟩
     rw [HE.out, HQ.out, walkL, if_neg (by rw [Tk.may, HCA.out, Bool.and_false]; decide)]
     exact ⟨_, _, _, _, _, HT2.out⟩
    have HCA := am hca
    clear hca
    have HMAY := am (show t.may ids rc rn jb m = true by rw [Tk.may, HC.out, HHR.out, HCA.out]; rfl)
    have hwl2 : t.word.length < 1048576 := by omega
    go_wp2_with (first
     | (go_at_call 120; refine (HH.out m _ HB0.out).mono ?_; rw [HC.out, HHR.out]; rintro e w1 ⟨rfl, hb1⟩; obtain ⟨hc1, hf1⟩ := bcell hb1; have hs1 : wr.heap.size + 1 ≤ w1.heap.size := (by have := hb1.size; simpa using this); have hs2 : wr.heap.size < w1.heap.size := hs1; have HB1 := am (HB0.out.trans (hb1.mono (by simp; omega))); have HT1 := am ((HT.out.below ((Below.refl _ wr).alloc (Nat.le_refl _) _)).below hb1); have KM1 := am ((hb1.block _ (by simp)).trans KM.out); have HX1 := am ((hb1.block _ (by simp; omega)).trans (blk_alloc HX.out (.cells #[.int .i64 m.f0, .int .i64 m.f1, .int .u8 m.f2, .int .i64 m.f3] 52))))
     | (go_at_call 108; refine (can_any HT1.out m).mono ?_; rw [HCA.out]; rintro e w2 ⟨rfl, hb2⟩; have HB2 := am (HB1.out.trans (hb2.mono (by omega))); have HT2 := am (HT1.out.below hb2); obtain ⟨hc2, hf2⟩ := bcell hb2; have HX2 := am ((hb2.block _ (blk_lt HX1.out)).trans HX1.out); have hs4 := hb2.size)
     | (go_at_call 78; refine (say_any HT2.out m (Tk.can_ans HCA.out) hwl2).mono ?_; rintro e w3 ⟨rfl, hk3, hT3⟩))
    go_roundg (l.length - (kk + 1))
    case measure => omega
    case rel =>
     refine ⟨kk + 1, t.say m, by omega, by omega, by go_num, by simp [Tk.say]; omega, ⟨by rw [HE.out, HQ.out, walkL, if_pos HMAY.out]⟩, ⟨hk3.below HB2.out (by omega)⟩, ⟨SK.blk hk3 HX2.out (by decide)⟩, ⟨hT3⟩⟩
   have HC := am (by simpa using hc : checkE ids rn ≠ 0)
   have HCB := am hc
   go_wp2_with (go_at_call 120; refine (HH.out m _ HB0.out).mono ?_; rintro e w1 ⟨rfl, hb1⟩; obtain ⟨hc1, hf1⟩ := bcell hb1; have hs1 : wr.heap.size + 1 ≤ w1.heap.size := (by have := hb1.size; simpa using this); have hs2 : wr.heap.size < w1.heap.size := hs1; have HB1 := am (HB0.out.trans (hb1.mono (by simp; omega))); have HT1 := am ((HT.out.below ((Below.refl _ wr).alloc (Nat.le_refl _) _)).below hb1); have KM1 := am ((hb1.block _ (by simp)).trans KM.out); have HX1 := am ((hb1.block _ (by simp; omega)).trans (blk_alloc HX.out (.cells #[.int .i64 m.f0, .int .i64 m.f1, .int .u8 m.f2, .int .i64 m.f3] 52))))
   go_ret
   refine ⟨rfl, HB1.out, ?_⟩
   rw [HE.out, HQ.out, walkL, if_neg (by rw [Tk.may, beq_eq_false_iff_ne.2 HC.out, Bool.false_and, Bool.false_and]; decide)]
   exact ⟨_, _, _, _, _, HT1.out⟩
  have cb : decide ((kk : Int) < (l.length : Int)) = false := decide_eq_false (by omega)
  have cb2 : decide (kk < l.length) = false := decide_eq_false hlt
  go_wp2
  go_ret
  refine ⟨rfl, BW.out, ?_⟩
  rw [HE.out, List.drop_eq_nil_of_le (by omega), walkL]
  exact HT.out
theorem popen_err (A : Option Addr) (c : Nat) (ids : List S68) (rc : Bool) (rn : Int) (jb : Bool) (A1 : Option Addr) (c1 : Nat) (l : List Mv) (w : World) (hr : Kd.C k68 w A ids.length ids) (h : checkE ids rn ≠ 0) :
  Calls Tryz.prog 57 #[.agg #[.slice A ids.length c, .bool rc, .int .i64 rn, .bool jb], .slice A1 l.length c1] w fun e w' => e = .returned (.tuple #[.pointer none, .int .i64 (checkE ids rn)]) ∧ Below w.heap.size w w' := by
 have HC := am (fun (V : World) (hb : Below w.heap.size w V) => Check_any A c ids rc rn jb V (Kd.C_below hr hb))
 have HB := am ((Below.refl _ w).alloc (Nat.le_refl _) (.cells #[.slice A ids.length c, .bool rc, .int .i64 rn, .bool jb] 26))
 have hb : (checkE ids rn != 0) = true := by simpa using h
 clear hr
 go_enter Tryz.func57, Tryz.ntmps57
 go_wp2_with (go_at_call 92; refine (HC.out _ HB.out).mono ?_; rintro e w1 ⟨rfl, hb1⟩)
 go_ret2
 exact ⟨rfl, HB.out.trans (hb1.mono (by simp))⟩
theorem popen_long (A : Option Addr) (c : Nat) (ids : List S68) (rc : Bool) (rn : Int) (jb : Bool) (A1 : Option Addr) (c1 : Nat) (l : List Mv) (w : World) (hr : Kd.C k68 w A ids.length ids) (h : checkE ids rn = 0) (h2 : 400 < l.length) (h3 : l.length ≤ 1000000) :
  Calls Tryz.prog 57 #[.agg #[.slice A ids.length c, .bool rc, .int .i64 rn, .bool jb], .slice A1 l.length c1] w fun e w' => e = .returned (.tuple #[.pointer none, .int .i64 5]) ∧ Below w.heap.size w w' := by
 have HC := am (fun (V : World) (hb : Below w.heap.size w V) => Check_any A c ids rc rn jb V (Kd.C_below hr hb))
 have HB := am ((Below.refl _ w).alloc (Nat.le_refl _) (.cells #[.slice A ids.length c, .bool rc, .int .i64 rn, .bool jb] 26))
 have hz : (400 : Int) < (l.length : Int) := by omega
 clear hr
 go_enter Tryz.func57, Tryz.ntmps57
 go_wp2_with (go_at_call 92; refine (HC.out _ HB.out).mono ?_; rw [h]; rintro e w1 ⟨rfl, hb1⟩)
 go_ret2
 exact ⟨rfl, HB.out.trans (hb1.mono (by simp))⟩
theorem popen_ok (A : Option Addr) (c : Nat) (ids : List S68) (rc : Bool) (rn : Int) (jb : Bool) (A1 : Option Addr) (c1 : Nat) (l : List Mv) (w : World) (hr : Kd.C k68 w A ids.length ids) (hr1 : Kd.C k52 w A1 l.length l) (h : checkE ids rn = 0) (h2 : l.length ≤ 400) :
  Calls Tryz.prog 57 #[.agg #[.slice A ids.length c, .bool rc, .int .i64 rn, .bool jb], .slice A1 l.length c1] w fun e w' => Below w.heap.size w w' ∧ ∃ g, e = .returned (.tuple #[.pointer (some ⟨g, 0, none⟩), .int .i64 0]) ∧ ∃ vw vp vj vf vo, Talk w.heap.size w' g A c ids rc rn jb (walkL ids rc rn jb Tk.empty l) vw vp vj vf vo := by
 have HC := am (fun (V : World) (hb : Below w.heap.size w V) => Check_any A c ids rc rn jb V (Kd.C_below hr hb))
 have HW := am (fun (V : World) (hb : Below w.heap.size w V) => walk_any A c ids rc rn jb A1 c1 l V (Kd.C_below hr hb) (Kd.C_below hr1 hb) (by omega))
 have HB := am ((Below.refl _ w).alloc (Nat.le_refl _) (.cells #[.slice A ids.length c, .bool rc, .int .i64 rn, .bool jb] 26))
 have HK := am (heap_alloc_new w (.cells #[.slice A ids.length c, .bool rc, .int .i64 rn, .bool jb] 26))
 have hz : ¬ (400 : Int) < (l.length : Int) := by omega
 have hz2 : decide ((400 : Int) < (l.length : Int)) = false := decide_eq_false hz
 clear hr hr1
 go_enter Tryz.func57, Tryz.ntmps57
 go_wp2_with (first
  | (go_at_call 92; refine (HC.out _ HB.out).mono ?_; rw [h]; rintro e w1 ⟨rfl, hb1⟩; obtain ⟨hc1, hf1⟩ := bcell hb1; have HB1 := am (HB.out.trans (hb1.mono (by simp))); have hs1 : w.heap.size < w1.heap.size := (by have := hb1.size; simp at this; omega))
  | (go_at_call 93; refine (HW.out _ HB1.out).mono ?_; rintro e w2 ⟨rfl, hb2, vw, vp, vj, vf, vo, hT⟩))
 go_ret2
 have hs : w.heap.size ≤ w1.heap.size := HB1.out.size
 exact ⟨HB1.out.trans (hb2.mono hs), _, rfl, _, _, _, _, _, hT.lower hs⟩
abbrev talkL (ids : List S68) (rc : Bool) (rn : Int) (jb : Bool) (l : List Mv) : Tk := walkL ids rc rn jb Tk.empty l
def tellE (ids : List S68) (rc : Bool) (rn : Int) (jb : Bool) (l : List Mv) : Int :=
 if checkE ids rn ≠ 0 then checkE ids rn else if 400 < l.length then 5 else if (talkL ids rc rn jb l).word.length < l.length then 13 else 0
theorem tellE_err {ids : List S68} {rc : Bool} {rn : Int} {jb : Bool} {l : List Mv} (h : checkE ids rn ≠ 0) : tellE ids rc rn jb l = checkE ids rn := by rw [tellE, if_pos h]
theorem tellE_long {ids : List S68} {rc : Bool} {rn : Int} {jb : Bool} {l : List Mv} (h : checkE ids rn = 0) (h2 : 400 < l.length) : tellE ids rc rn jb l = 5 := by rw [tellE, if_neg (by simpa using h), if_pos h2]
theorem tellE_odd {ids : List S68} {rc : Bool} {rn : Int} {jb : Bool} {l : List Mv} (h : checkE ids rn = 0) (h2 : l.length ≤ 400) (h3 : (talkL ids rc rn jb l).word.length < l.length) : tellE ids rc rn jb l = 13 := by rw [tellE, if_neg (by simpa using h), if_neg (by omega), if_pos h3]
theorem tellE_ok {ids : List S68} {rc : Bool} {rn : Int} {jb : Bool} {l : List Mv} (h : checkE ids rn = 0) (h2 : l.length ≤ 400) (h3 : ¬ (talkL ids rc rn jb l).word.length < l.length) : tellE ids rc rn jb l = 0 := by rw [tellE, if_neg (by simpa using h), if_neg (by omega), if_neg h3]
theorem tellE_zero {ids : List S68} {rc : Bool} {rn : Int} {jb : Bool} {l : List Mv} (h : tellE ids rc rn jb l = 0) : checkE ids rn = 0 ∧ l.length ≤ 400 ∧ ¬ (talkL ids rc rn jb l).word.length < l.length := by
 unfold tellE at h
 split at h
 ·exact absurd h ‹_›
 split at h
 ·omega
 split at h
 ·omega
 exact ⟨by omega, by omega, ‹_›⟩
def TellPost (ids : List S68) (rc : Bool) (rn : Int) (jb : Bool) (l : List Mv) (zero : Value) (kE : Int) (R : Value → World → Prop) (w : World) (e : Ending) (w' : World) : Prop :=
 (tellE ids rc rn jb l ≠ 0 ∧ e = .returned (.tuple #[zero, .int .i64 (tellE ids rc rn jb l)]) ∧ Below w.heap.size w w') ∨ (tellE ids rc rn jb l = 0 ∧ ∃ r, e = .returned (.tuple #[if kE = 0 then r else zero, .int .i64 kE]) ∧ R r w')
set_option maxHeartbeats 2000000 in
theorem toldI_any (A : Option Addr) (c : Nat) (ids : List S68) (rc : Bool) (rn : Int) (jb : Bool) (A1 : Option Addr) (c1 : Nat) (l : List Mv) (gf : Nat) (lb : Array Value) (eg : ∀ args w, (callFunc gf args).run Tryz.prog w = .ok (.enter gf args) w) (kE : Int) (R : Value → World → Prop) (w : World)
  (hr : Kd.C k68 w A ids.length ids) (hr1 : Kd.C k52 w A1 l.length l) (hl : l.length ≤ 1000000)
  (hof : tellE ids rc rn jb l = 0 → ∀ V g vw vp vj vf vo, Below w.heap.size w V → w.heap.size ≤ V.heap.size → Talk w.heap.size V g A c ids rc rn jb (talkL ids rc rn jb l) vw vp vj vf vo → Calls Tryz.prog gf (#[.pointer (some ⟨g, 0, none⟩)] ++ lb) V fun e V' => ∃ r, e = .returned (.tuple #[r, .int .i64 kE]) ∧ R r V') :
  Calls Tryz.prog 64 #[.agg #[.slice A ids.length c, .bool rc, .int .i64 rn, .bool jb], .slice A1 l.length c1, .func (.func gf) #[] lb] w (TellPost ids rc rn jb l (.slice none 0 0) kE R w) := by
 have HF := am hof
 clear hof
 have HB := am ((Below.refl _ w).alloc (Nat.le_refl _) (.cells #[.slice A ids.length c, .bool rc, .int .i64 rn, .bool jb] 26))
 by_cases h1 : checkE ids rn ≠ 0
 ·have HO := am (fun (V : World) (hb : Below w.heap.size w V) => popen_err A c ids rc rn jb A1 c1 l V (Kd.C_below hr hb) h1)
  have HE := am (tellE_err (rc := rc) (jb := jb) (l := l) h1)
  have hb : (checkE ids rn != 0) = true := by simpa using h1
  clear hr hr1
  go_enter Tryz.func64, Tryz.ntmps64
  go_wp2_with (go_at_call 57; refine (HO.out _ HB.out).mono ?_; rintro e w1 ⟨rfl, hb1⟩)
  go_ret2
  exact Or.inl ⟨by rw [HE.out]; exact h1, by rw [HE.out]; rfl, HB.out.trans (hb1.mono (by simp))⟩
 have h1' : checkE ids rn = 0 := by omega
 by_cases h2 : 400 < l.length
 ·have HO := am (fun (V : World) (hb : Below w.heap.size w V) => popen_long A c ids rc rn jb A1 c1 l V (Kd.C_below hr hb) h1' h2 hl)
  have HE := am (tellE_long (rc := rc) (jb := jb) (l := l) h1' h2)
  clear hr hr1
  go_enter Tryz.func64, Tryz.ntmps64
  go_wp2_with (go_at_call 57; refine (HO.out _ HB.out).mono ?_; rintro e w1 ⟨rfl, hb1⟩)
  go_ret2
  exact Or.inl ⟨by rw [HE.out]; decide, by rw [HE.out]; rfl, HB.out.trans (hb1.mono (by simp))⟩
 have h2' : l.length ≤ 400 := by omega
 have HO := am (fun (V : World) (hb : Below w.heap.size w V) => popen_ok A c ids rc rn jb A1 c1 l V (Kd.C_below hr hb) (Kd.C_below hr1 hb) h1' h2')
 clear hr hr1
 by_cases h3 : (talkL ids rc rn jb l).word.length < l.length
 ·have HE := am (tellE_odd h1' h2' h3)
  have hz : ((talkL ids rc rn jb l).word.length : Int) < (l.length : Int) := by omega
  have hzb : decide (((talkL ids rc rn jb l).word.length : Int) < (l.length : Int)) = true := decide_eq_true hz
  go_enter Tryz.func64, Tryz.ntmps64
  go_wp2_with (go_at_call 57; refine (HO.out _ HB.out).mono ?_; rintro e w1 ⟨hb1, g, rfl, vw, vp, vj, vf, vo, hT⟩; have HT := am hT; have HB1 := am (HB.out.trans (hb1.mono (by simp))); have hs1 : w.heap.size < w1.heap.size := (by have := hb1.size; simp at this; omega); have hgw : g < w1.heap.size := hT.lt; obtain ⟨Aw, cw, rfl⟩ := Kd.R_slice hT.r.w; have h4 : w1.cell? ⟨g, 4, none⟩ = some (.slice Aw (talkL ids rc rn jb l).word.length cw) := (blk_cell hT.b 4).trans rfl)
  go_ret2
  exact Or.inl ⟨by rw [HE.out]; decide, by rw [HE.out]; rfl, HB1.out⟩
 have HE := am (tellE_ok h1' h2' h3)
 have hz : ¬ ((talkL ids rc rn jb l).word.length : Int) < (l.length : Int) := by omega
 have hzb : decide (((talkL ids rc rn jb l).word.length : Int) < (l.length : Int)) = false := decide_eq_false hz
 rcases hk : kE != 0 with _ | _
 ·have hk' : kE = 0 := by simpa using hk
  subst hk'
  go_enter Tryz.func64, Tryz.ntmps64
  go_wp2_with (first
   | (go_at_call 57; refine (HO.out _ HB.out).mono ?_; rintro e w1 ⟨hb1, g, rfl, vw, vp, vj, vf, vo, hT⟩; have HT := am hT; have HB1 := am (HB.out.trans (hb1.mono (by simp))); have hs1 : w.heap.size < w1.heap.size := (by have := hb1.size; simp at this; omega); have hgw : g < w1.heap.size := hT.lt; obtain ⟨Aw, cw, rfl⟩ := Kd.R_slice hT.r.w; have h4 : w1.cell? ⟨g, 4, none⟩ = some (.slice Aw (talkL ids rc rn jb l).word.length cw) := (blk_cell hT.b 4).trans rfl)
   | (go_at_fn gf; refine (HF.out HE.out w1 g _ _ _ _ _ HB1.out (by omega) (HT.out.lower (by simp))).mono ?_; rintro e w2 ⟨r, rfl, hR⟩))
  go_ret2
  exact Or.inr ⟨HE.out, _, by rw [if_pos rfl]; rfl, hR⟩
 have hk' : kE ≠ 0 := by simpa using hk
 go_enter Tryz.func64, Tryz.ntmps64
 go_wp2_with (first
  | (go_at_call 57; refine (HO.out _ HB.out).mono ?_; rintro e w1 ⟨hb1, g, rfl, vw, vp, vj, vf, vo, hT⟩; have HT := am hT; have HB1 := am (HB.out.trans (hb1.mono (by simp))); have hs1 : w.heap.size < w1.heap.size := (by have := hb1.size; simp at this; omega); have hgw : g < w1.heap.size := hT.lt; obtain ⟨Aw, cw, rfl⟩ := Kd.R_slice hT.r.w; have h4 : w1.cell? ⟨g, 4, none⟩ = some (.slice Aw (talkL ids rc rn jb l).word.length cw) := (blk_cell hT.b 4).trans rfl)
  | (go_at_fn gf; refine (HF.out HE.out w1 g _ _ _ _ _ HB1.out (by omega) (HT.out.lower (by simp))).mono ?_; rintro e w2 ⟨r, rfl, hR⟩))
 go_ret2
 exact Or.inr ⟨HE.out, _, by rw [if_neg hk']; rfl, hR⟩
set_option maxHeartbeats 2000000 in
theorem toldM_any (A : Option Addr) (c : Nat) (ids : List S68) (rc : Bool) (rn : Int) (jb : Bool) (A1 : Option Addr) (c1 : Nat) (l : List Mv) (gf : Nat) (lb : Array Value) (eg : ∀ args w, (callFunc gf args).run Tryz.prog w = .ok (.enter gf args) w) (kE : Int) (R : Value → World → Prop) (w : World)
  (hr : Kd.C k68 w A ids.length ids) (hr1 : Kd.C k52 w A1 l.length l) (hl : l.length ≤ 1000000)
  (hof : tellE ids rc rn jb l = 0 → ∀ V g vw vp vj vf vo, Below w.heap.size w V → w.heap.size ≤ V.heap.size → Talk w.heap.size V g A c ids rc rn jb (talkL ids rc rn jb l) vw vp vj vf vo → Calls Tryz.prog gf (#[.pointer (some ⟨g, 0, none⟩)] ++ lb) V fun e V' => ∃ r, e = .returned (.tuple #[r, .int .i64 kE]) ∧ R r V') :
  Calls Tryz.prog 74 #[.agg #[.slice A ids.length c, .bool rc, .int .i64 rn, .bool jb], .slice A1 l.length c1, .func (.func gf) #[] lb] w (TellPost ids rc rn jb l (.slice none 0 0) kE R w) := by
 have HF := am hof
 clear hof
 have HB := am ((Below.refl _ w).alloc (Nat.le_refl _) (.cells #[.slice A ids.length c, .bool rc, .int .i64 rn, .bool jb] 26))
 by_cases h1 : checkE ids rn ≠ 0
 ·have HO := am (fun (V : World) (hb : Below w.heap.size w V) => popen_err A c ids rc rn jb A1 c1 l V (Kd.C_below hr hb) h1)
  have HE := am (tellE_err (rc := rc) (jb := jb) (l := l) h1)
  have hb : (checkE ids rn != 0) = true := by simpa using h1
  clear hr hr1
  go_enter Tryz.func74, Tryz.ntmps74
  go_wp2_with (go_at_call 57; refine (HO.out _ HB.out).mono ?_; rintro e w1 ⟨rfl, hb1⟩)
  go_ret2
  exact Or.inl ⟨by rw [HE.out]; exact h1, by rw [HE.out]; rfl, HB.out.trans (hb1.mono (by simp))⟩
 have h1' : checkE ids rn = 0 := by omega
 by_cases h2 : 400 < l.length
 ·have HO := am (fun (V : World) (hb : Below w.heap.size w V) => popen_long A c ids rc rn jb A1 c1 l V (Kd.C_below hr hb) h1' h2 hl)
  have HE := am (tellE_long (rc := rc) (jb := jb) (l := l) h1' h2)
  clear hr hr1
  go_enter Tryz.func74, Tryz.ntmps74
  go_wp2_with (go_at_call 57; refine (HO.out _ HB.out).mono ?_; rintro e w1 ⟨rfl, hb1⟩)
  go_ret2
  exact Or.inl ⟨by rw [HE.out]; decide, by rw [HE.out]; rfl, HB.out.trans (hb1.mono (by simp))⟩
 have h2' : l.length ≤ 400 := by omega
 have HO := am (fun (V : World) (hb : Below w.heap.size w V) => popen_ok A c ids rc rn jb A1 c1 l V (Kd.C_below hr hb) (Kd.C_below hr1 hb) h1' h2')
 clear hr hr1
 by_cases h3 : (talkL ids rc rn jb l).word.length < l.length
 ·have HE := am (tellE_odd h1' h2' h3)
  have hz : ((talkL ids rc rn jb l).word.length : Int) < (l.length : Int) := by omega
  have hzb : decide (((talkL ids rc rn jb l).word.length : Int) < (l.length : Int)) = true := decide_eq_true hz
  go_enter Tryz.func74, Tryz.ntmps74
  go_wp2_with (go_at_call 57; refine (HO.out _ HB.out).mono ?_; rintro e w1 ⟨hb1, g, rfl, vw, vp, vj, vf, vo, hT⟩; have HT := am hT; have HB1 := am (HB.out.trans (hb1.mono (by simp))); have hs1 : w.heap.size < w1.heap.size := (by have := hb1.size; simp at this; omega); have hgw : g < w1.heap.size := hT.lt; obtain ⟨Aw, cw, rfl⟩ := Kd.R_slice hT.r.w; have h4 : w1.cell? ⟨g, 4, none⟩ = some (.slice Aw (talkL ids rc rn jb l).word.length cw) := (blk_cell hT.b 4).trans rfl)
  go_ret2
  exact Or.inl ⟨by rw [HE.out]; decide, by rw [HE.out]; rfl, HB1.out⟩
 have HE := am (tellE_ok h1' h2' h3)
 have hz : ¬ ((talkL ids rc rn jb l).word.length : Int) < (l.length : Int) := by omega
 have hzb : decide (((talkL ids rc rn jb l).word.length : Int) < (l.length : Int)) = false := decide_eq_false hz
 rcases hk : kE != 0 with _ | _
 ·have hk' : kE = 0 := by simpa using hk
  subst hk'
  go_enter Tryz.func74, Tryz.ntmps74
  go_wp2_with (first
   | (go_at_call 57; refine (HO.out _ HB.out).mono ?_; rintro e w1 ⟨hb1, g, rfl, vw, vp, vj, vf, vo, hT⟩; have HT := am hT; have HB1 := am (HB.out.trans (hb1.mono (by simp))); have hs1 : w.heap.size < w1.heap.size := (by have := hb1.size; simp at this; omega); have hgw : g < w1.heap.size := hT.lt; obtain ⟨Aw, cw, rfl⟩ := Kd.R_slice hT.r.w; have h4 : w1.cell? ⟨g, 4, none⟩ = some (.slice Aw (talkL ids rc rn jb l).word.length cw) := (blk_cell hT.b 4).trans rfl)
   | (go_at_fn gf; refine (HF.out HE.out w1 g _ _ _ _ _ HB1.out (by omega) (HT.out.lower (by simp))).mono ?_; rintro e w2 ⟨r, rfl, hR⟩))
  go_ret2
  exact Or.inr ⟨HE.out, _, by rw [if_pos rfl]; rfl, hR⟩
 have hk' : kE ≠ 0 := by simpa using hk
 go_enter Tryz.func74, Tryz.ntmps74
 go_wp2_with (first
  | (go_at_call 57; refine (HO.out _ HB.out).mono ?_; rintro e w1 ⟨hb1, g, rfl, vw, vp, vj, vf, vo, hT⟩; have HT := am hT; have HB1 := am (HB.out.trans (hb1.mono (by simp))); have hs1 : w.heap.size < w1.heap.size := (by have := hb1.size; simp at this; omega); have hgw : g < w1.heap.size := hT.lt; obtain ⟨Aw, cw, rfl⟩ := Kd.R_slice hT.r.w; have h4 : w1.cell? ⟨g, 4, none⟩ = some (.slice Aw (talkL ids rc rn jb l).word.length cw) := (blk_cell hT.b 4).trans rfl)
  | (go_at_fn gf; refine (HF.out HE.out w1 g _ _ _ _ _ HB1.out (by omega) (HT.out.lower (by simp))).mono ?_; rintro e w2 ⟨r, rfl, hR⟩))
 go_ret2
 exact Or.inr ⟨HE.out, _, by rw [if_neg hk']; rfl, hR⟩
set_option maxHeartbeats 2000000 in
theorem toldW_any (A : Option Addr) (c : Nat) (ids : List S68) (rc : Bool) (rn : Int) (jb : Bool) (A1 : Option Addr) (c1 : Nat) (l : List Mv) (gf : Nat) (lb : Array Value) (eg : ∀ args w, (callFunc gf args).run Tryz.prog w = .ok (.enter gf args) w) (kE : Int) (R : Value → World → Prop) (w : World)
  (hr : Kd.C k68 w A ids.length ids) (hr1 : Kd.C k52 w A1 l.length l) (hl : l.length ≤ 1000000)
  (hof : tellE ids rc rn jb l = 0 → ∀ V g vw vp vj vf vo, Below w.heap.size w V → w.heap.size ≤ V.heap.size → Talk w.heap.size V g A c ids rc rn jb (talkL ids rc rn jb l) vw vp vj vf vo → Calls Tryz.prog gf (#[.pointer (some ⟨g, 0, none⟩)] ++ lb) V fun e V' => ∃ r, e = .returned (.tuple #[r, .int .i64 kE]) ∧ R r V') :
  Calls Tryz.prog 76 #[.agg #[.slice A ids.length c, .bool rc, .int .i64 rn, .bool jb], .slice A1 l.length c1, .func (.func gf) #[] lb] w (TellPost ids rc rn jb l (.slice none 0 0) kE R w) := by
 have HF := am hof
 clear hof
 have HB := am ((Below.refl _ w).alloc (Nat.le_refl _) (.cells #[.slice A ids.length c, .bool rc, .int .i64 rn, .bool jb] 26))
 by_cases h1 : checkE ids rn ≠ 0
 ·have HO := am (fun (V : World) (hb : Below w.heap.size w V) => popen_err A c ids rc rn jb A1 c1 l V (Kd.C_below hr hb) h1)
  have HE := am (tellE_err (rc := rc) (jb := jb) (l := l) h1)
  have hb : (checkE ids rn != 0) = true := by simpa using h1
  clear hr hr1
  go_enter Tryz.func76, Tryz.ntmps76
  go_wp2_with (go_at_call 57; refine (HO.out _ HB.out).mono ?_; rintro e w1 ⟨rfl, hb1⟩)
  go_ret2
  exact Or.inl ⟨by rw [HE.out]; exact h1, by rw [HE.out]; rfl, HB.out.trans (hb1.mono (by simp))⟩
 have h1' : checkE ids rn = 0 := by omega
 by_cases h2 : 400 < l.length
 ·have HO := am (fun (V : World) (hb : Below w.heap.size w V) => popen_long A c ids rc rn jb A1 c1 l V (Kd.C_below hr hb) h1' h2 hl)
  have HE := am (tellE_long (rc := rc) (jb := jb) (l := l) h1' h2)
  clear hr hr1
  go_enter Tryz.func76, Tryz.ntmps76
  go_wp2_with (go_at_call 57; refine (HO.out _ HB.out).mono ?_; rintro e w1 ⟨rfl, hb1⟩)
  go_ret2
  exact Or.inl ⟨by rw [HE.out]; decide, by rw [HE.out]; rfl, HB.out.trans (hb1.mono (by simp))⟩
 have h2' : l.length ≤ 400 := by omega
 have HO := am (fun (V : World) (hb : Below w.heap.size w V) => popen_ok A c ids rc rn jb A1 c1 l V (Kd.C_below hr hb) (Kd.C_below hr1 hb) h1' h2')
 clear hr hr1
 by_cases h3 : (talkL ids rc rn jb l).word.length < l.length
 ·have HE := am (tellE_odd h1' h2' h3)
  have hz : ((talkL ids rc rn jb l).word.length : Int) < (l.length : Int) := by omega
  have hzb : decide (((talkL ids rc rn jb l).word.length : Int) < (l.length : Int)) = true := decide_eq_true hz
  go_enter Tryz.func76, Tryz.ntmps76
  go_wp2_with (go_at_call 57; refine (HO.out _ HB.out).mono ?_; rintro e w1 ⟨hb1, g, rfl, vw, vp, vj, vf, vo, hT⟩; have HT := am hT; have HB1 := am (HB.out.trans (hb1.mono (by simp))); have hs1 : w.heap.size < w1.heap.size := (by have := hb1.size; simp at this; omega); have hgw : g < w1.heap.size := hT.lt; obtain ⟨Aw, cw, rfl⟩ := Kd.R_slice hT.r.w; have h4 : w1.cell? ⟨g, 4, none⟩ = some (.slice Aw (talkL ids rc rn jb l).word.length cw) := (blk_cell hT.b 4).trans rfl)
  go_ret2
  exact Or.inl ⟨by rw [HE.out]; decide, by rw [HE.out]; rfl, HB1.out⟩
 have HE := am (tellE_ok h1' h2' h3)
 have hz : ¬ ((talkL ids rc rn jb l).word.length : Int) < (l.length : Int) := by omega
 have hzb : decide (((talkL ids rc rn jb l).word.length : Int) < (l.length : Int)) = false := decide_eq_false hz
 rcases hk : kE != 0 with _ | _
 ·have hk' : kE = 0 := by simpa using hk
  subst hk'
  go_enter Tryz.func76, Tryz.ntmps76
  go_wp2_with (first
   | (go_at_call 57; refine (HO.out _ HB.out).mono ?_; rintro e w1 ⟨hb1, g, rfl, vw, vp, vj, vf, vo, hT⟩; have HT := am hT; have HB1 := am (HB.out.trans (hb1.mono (by simp))); have hs1 : w.heap.size < w1.heap.size := (by have := hb1.size; simp at this; omega); have hgw : g < w1.heap.size := hT.lt; obtain ⟨Aw, cw, rfl⟩ := Kd.R_slice hT.r.w; have h4 : w1.cell? ⟨g, 4, none⟩ = some (.slice Aw (talkL ids rc rn jb l).word.length cw) := (blk_cell hT.b 4).trans rfl)
   | (go_at_fn gf; refine (HF.out HE.out w1 g _ _ _ _ _ HB1.out (by omega) (HT.out.lower (by simp))).mono ?_; rintro e w2 ⟨r, rfl, hR⟩))
  go_ret2
  exact Or.inr ⟨HE.out, _, by rw [if_pos rfl]; rfl, hR⟩
 have hk' : kE ≠ 0 := by simpa using hk
 go_enter Tryz.func76, Tryz.ntmps76
 go_wp2_with (first
  | (go_at_call 57; refine (HO.out _ HB.out).mono ?_; rintro e w1 ⟨hb1, g, rfl, vw, vp, vj, vf, vo, hT⟩; have HT := am hT; have HB1 := am (HB.out.trans (hb1.mono (by simp))); have hs1 : w.heap.size < w1.heap.size := (by have := hb1.size; simp at this; omega); have hgw : g < w1.heap.size := hT.lt; obtain ⟨Aw, cw, rfl⟩ := Kd.R_slice hT.r.w; have h4 : w1.cell? ⟨g, 4, none⟩ = some (.slice Aw (talkL ids rc rn jb l).word.length cw) := (blk_cell hT.b 4).trans rfl)
  | (go_at_fn gf; refine (HF.out HE.out w1 g _ _ _ _ _ HB1.out (by omega) (HT.out.lower (by simp))).mono ?_; rintro e w2 ⟨r, rfl, hR⟩))
 go_ret2
 exact Or.inr ⟨HE.out, _, by rw [if_neg hk']; rfl, hR⟩
def movesA (ids : List S68) (rc : Bool) (rn : Int) (j : Bool) : List S52 := (spotsL ids rc rn j).flatMap movesL
theorem accL_all (L : List Spot) : accL L (fun _ => true) movesL = L.flatMap movesL := by
 rw [accL, List.filter_eq_self.2 (fun _ _ => rfl)]
theorem movesL_len (p : Spot) (h : p.n ≤ 64) : (movesL p).length ≤ 130 := by
 unfold movesL qsL aL
 rw [List.length_append, List.length_cons, List.length_append, List.length_map, List.length_range]
 have h1 : (if p.cell = true then (List.range p.n.toNat).map (fun (k : Nat) => p.put (k : Int)) else []).length ≤ 64 := by
  split
  ·rw [List.length_map, List.length_range]; omega
  simp
 have h2 : (if p.esc = true then [p.tell (-1)] else []).length ≤ 1 := by split <;> simp
 omega
theorem flat_len {α β : Type} {L : List α} {f : α → List β} {m : Nat} (h : ∀ x ∈ L, (f x).length ≤ m) : (L.flatMap f).length ≤ L.length * m := by
 induction L with
 | nil => simp
 | cons a l ih =>
  rw [List.flatMap_cons, List.length_append, List.length_cons, Nat.succ_mul]
  have := h a (mc ..)
  have := ih (fun x hx => h x (List.mem_cons_of_mem _ hx))
  omega
theorem paramSpots_len (i : Nat) (l : List S24) : ∀ k, (paramSpots i k l).length = l.length := by
 induction l with
 | nil => intro k; rfl
 | cons a l ih => intro k; simp [paramSpots, ih]
theorem idsSpots_len (j : Bool) (l : List S68) (h : ∀ x ∈ l, x.f0.length ≤ 5) : ∀ i, (idsSpots j i l).length ≤ l.length * 6 := by
 induction l with
 | nil => intro i; simp [idsSpots]
 | cons a l ih =>
  intro i
  have h1 := h a (mc ..)
  have h2 := ih (fun x hx => h x (List.mem_cons_of_mem _ hx)) (i + 1)
  rw [idsSpots, List.length_cons, List.length_append, paramSpots_len, List.length_cons]
  omega
theorem spotsL_len {ids : List S68} {rn : Int} (h : checkE ids rn = 0) (rc j : Bool) : (spotsL ids rc rn j).length ≤ 49 := by
 obtain ⟨h1, h2, _, _⟩ := checkE_ok h
 have := idsSpots_len j ids h2 0
 rw [spotsL, List.length_cons]
 omega
theorem movesA_len {ids : List S68} {rn : Int} (h : checkE ids rn = 0) (rc j : Bool) : (movesA ids rc rn j).length ≤ 6370 := by
 have h1 := flat_len (L := spotsL ids rc rn j) (f := movesL) (m := 130) (fun p hp => movesL_len p (spotsL_n h rc j p hp).2)
 have h2 := spotsL_len h rc j
 unfold movesA
 omega
theorem Moves1_any (p : Spot) (w : World) : Calls Tryz.prog 130 #[p.val] w fun e w' => e = .returned (.bool true) ∧ Below w.heap.size w w' := by
 have HB := am ((Below.refl _ w).alloc (Nat.le_refl _) (.cells #[.int .i64 p.id, .int .i64 p.arg, .bool p.cell, .int .i64 p.n, .bool p.esc] 141))
 unfold Spot.val
 go_enter Tryz.func130, Tryz.ntmps130
 go_wp2
 go_ret
 exact ⟨rfl, HB.out⟩
theorem enters_Moves1 : ∀ args w, (callFunc 130 args).run Tryz.prog w = .ok (.enter 130 args) w := enters_of Tryz.func130 (by kernel_rfl) rfl
set_option maxHeartbeats 2000000 in
theorem Moves_ok (A : Option Addr) (c : Nat) (ids : List S68) (rc : Bool) (rn : Int) (j : Bool) (w : World) (hr : Kd.C k68 w A ids.length ids) (h : checkE ids rn = 0) :
  Calls Tryz.prog 107 #[.agg #[.slice A ids.length c, .bool rc, .int .i64 rn, .bool j]] w fun e w' => ∃ v, e = .returned (.tuple #[v, .int .i64 0]) ∧ Kd.R k52 52 w' w.heap.size (fun _ => True) v (movesA ids rc rn j) ∧ Below w.heap.size w w' := by
 obtain ⟨h1, h2, _, _⟩ := checkE_ok h
 have hml := movesA_len h rc j
 have HO := am (fun (V : World) (hb : Below w.heap.size w V) => open_any A c ids rc rn j V (Kd.C_below hr hb))
 have HA := am (fun (V : World) (hb : Below w.heap.size w V) => all_any A c ids rc rn j 130 #[] #[] (fun _ => true) 131 movesL movesTy V (Kd.C_below hr hb) (by omega) (fun x hx => by have := h2 x hx; omega) enters_Moves1 enters_moves (fun p W _ => Moves1_any p W)
  (fun p hp => moves_gives p _ V (by have := (spotsL_n h rc j p hp).2; omega)) (by rintro t (rfl | rfl | rfl | rfl | rfl) <;> decide) (by rw [accL_all]; change (movesA ids rc rn j).length ≤ _; omega))
 have HB := am (((Below.refl _ w).alloc (Nat.le_refl _) (.cells #[.slice A ids.length c, .bool rc, .int .i64 rn, .bool j] 26)))
 clear hr h1 h2 hml
 go_enter Tryz.func107, Tryz.ntmps107
 go_wp2_with (first
  | (go_at_call 128; refine (HO.out _ HB.out).mono ?_; rw [h]; rintro e w1 ⟨rfl, hb1⟩; have HB1 := am (HB.out.trans (hb1.mono (by simp))); have hs1 : w.heap.size < w1.heap.size := (by have := hb1.size; simp at this; omega); have HB2 := am (HB1.out.alloc (by omega) (.cells #[.slice A ids.length c, .bool rc, .int .i64 rn, .bool j] 139)))
  | (go_at_call 129; refine (HA.out _ HB2.out).mono ?_; rintro e w2 ⟨v, rfl, hv, hb2⟩))
 go_ret2
 refine ⟨_, rfl, ?_, HB2.out.trans (hb2.mono (by simp; omega))⟩
 rw [accL_all] at hv
 exact Kd.R_lower hv (by simp; omega)
def Ret2 (k : Int) (R : Value → World → Prop) (e : Ending) (w' : World) : Prop := ∃ v, e = .returned (.tuple #[v, .int .i64 k]) ∧ R v w'
theorem Ret2.mk {k : Int} {R : Value → World → Prop} {e : Ending} {w' : World} (v : Value) (h : e = .returned (.tuple #[v, .int .i64 k])) (hR : R v w') : Ret2 k R e w' := ⟨v, h, hR⟩
theorem Ret2.mono {k : Int} {R R' : Value → World → Prop} {e : Ending} {w' : World} (h : Ret2 k R e w') (hR : ∀ v, R v w' → R' v w') : Ret2 k R' e w' := by
 obtain ⟨v, h, h2⟩ := h
 exact ⟨v, h, hR v h2⟩
def okL {α : Type} (k : Int) (xs : List α) : List α := if k = 0 then xs else []
theorem okL_ok {α : Type} {k : Int} (xs : List α) (h : k = 0) : okL k xs = xs := by rw [okL, if_pos h]
theorem okL_no {α : Type} {k : Int} (xs : List α) (h : k ≠ 0) : okL k xs = [] := by rw [okL, if_neg h]
def okN (k : Int) (x : Int) : Int := if k = 0 then x else 0
theorem okN_ok {k : Int} (x : Int) (h : k = 0) : okN k x = x := by rw [okN, if_pos h]
theorem okN_no {k : Int} (x : Int) (h : k ≠ 0) : okN k x = 0 := by rw [okN, if_neg h]
theorem walkL_len (ids : List S68) (rc : Bool) (rn : Int) (jb : Bool) (l : List Mv) : ∀ t : Tk, (walkL ids rc rn jb t l).word.length ≤ t.word.length + l.length := by
 induction l with
 | nil => intro t; simp [walkL]
 | cons m ms ih =>
  intro t
  rw [walkL]
  split
  ·have := ih (t.say m)
   have h2 : (t.say m).word.length = t.word.length + 1 := by simp [Tk.say]
   rw [List.length_cons]
   omega
  simp
def tellAt (ids : List S68) (rc : Bool) (rn : Int) (jb : Bool) (l : List Mv) : Int := if tellE ids rc rn jb l = 13 then (talkL ids rc rn jb l).word.length else 0
theorem checkE_or (ids : List S68) (rn : Int) : checkE ids rn = 0 ∨ checkE ids rn = 4 ∨ checkE ids rn = 5 := by
 unfold checkE
 split
 ·exact .inr (.inr rfl)
 split
 ·exact .inr (.inl rfl)
 exact .inl rfl
set_option maxHeartbeats 2000000 in
theorem pCheck_any (A : Option Addr) (c : Nat) (ids : List S68) (rc : Bool) (rn : Int) (jb : Bool) (A1 : Option Addr) (c1 : Nat) (l : List Mv) (w : World) (hr : Kd.C k68 w A ids.length ids) (hr1 : Kd.C k52 w A1 l.length l) (hl : l.length ≤ 1000000) : Calls Tryz.prog 18 #[.agg #[.slice A ids.length c, .bool rc, .int .i64 rn, .bool jb], .slice A1 l.length c1] w fun e w' => e = .returned (.tuple #[.int .i64 (tellAt ids rc rn jb l), .int .i64 (tellE ids rc rn jb l)]) ∧ Below w.heap.size w w' := by
 have HB := am ((Below.refl _ w).alloc (Nat.le_refl _) (.cells #[.slice A ids.length c, .bool rc, .int .i64 rn, .bool jb] 26))
 by_cases h1 : checkE ids rn ≠ 0
 ·have HO := am (fun (V : World) (hb : Below w.heap.size w V) => popen_err A c ids rc rn jb A1 c1 l V (Kd.C_below hr hb) h1)
  have HE := am (tellE_err (rc := rc) (jb := jb) (l := l) h1)
  have HA := am (show tellAt ids rc rn jb l = 0 by rw [tellAt, HE.out, if_neg (by have := checkE_or ids rn; omega)])
  have hb : (checkE ids rn != 0) = true := by simpa using h1
  clear hr hr1
  go_enter Tryz.func18, Tryz.ntmps18
  go_wp2_with (go_at_call 57; refine (HO.out _ HB.out).mono ?_; rintro e w1 ⟨rfl, hb1⟩)
  go_ret2
  exact ⟨by rw [HE.out, HA.out]; rfl, HB.out.trans (hb1.mono (by simp))⟩
 have h1' : checkE ids rn = 0 := by omega
 by_cases h2 : 400 < l.length
 ·have HO := am (fun (V : World) (hb : Below w.heap.size w V) => popen_long A c ids rc rn jb A1 c1 l V (Kd.C_below hr hb) h1' h2 hl)
  have HE := am (tellE_long (rc := rc) (jb := jb) (l := l) h1' h2)
  have HA := am (show tellAt ids rc rn jb l = 0 by rw [tellAt, HE.out, if_neg (by omega)])
  clear hr hr1
  go_enter Tryz.func18, Tryz.ntmps18
  go_wp2_with (go_at_call 57; refine (HO.out _ HB.out).mono ?_; rintro e w1 ⟨rfl, hb1⟩)
  go_ret2
  exact ⟨by rw [HE.out, HA.out]; rfl, HB.out.trans (hb1.mono (by simp))⟩
 have h2' : l.length ≤ 400 := by omega
 have HO := am (fun (V : World) (hb : Below w.heap.size w V) => popen_ok A c ids rc rn jb A1 c1 l V (Kd.C_below hr hb) (Kd.C_below hr1 hb) h1' h2')
 clear hr hr1
 by_cases h3 : (talkL ids rc rn jb l).word.length < l.length
 ·have HE := am (tellE_odd h1' h2' h3)
  have HA := am (show tellAt ids rc rn jb l = (talkL ids rc rn jb l).word.length by rw [tellAt, HE.out, if_pos rfl])
  have hz : ((talkL ids rc rn jb l).word.length : Int) < (l.length : Int) := by omega
  have hzb : decide (((talkL ids rc rn jb l).word.length : Int) < (l.length : Int)) = true := decide_eq_true hz
  go_enter Tryz.func18, Tryz.ntmps18
  go_wp2_with (go_at_call 57; refine (HO.out _ HB.out).mono ?_; rintro e w1 ⟨hb1, g, rfl, vw, vp, vj, vf, vo, hT⟩; have HT := am hT; have HB1 := am (HB.out.trans (hb1.mono (by simp))); have hs1 : w.heap.size < w1.heap.size := (by have := hb1.size; simp at this; omega); have hgw : g < w1.heap.size := hT.lt; obtain ⟨Aw, cw, rfl⟩ := Kd.R_slice hT.r.w; have h4 : w1.cell? ⟨g, 4, none⟩ = some (.slice Aw (talkL ids rc rn jb l).word.length cw) := (blk_cell hT.b 4).trans rfl)
  go_ret2
  exact ⟨by rw [HE.out, HA.out]; rfl, HB1.out⟩
 have HE := am (tellE_ok h1' h2' h3)
 have HA := am (show tellAt ids rc rn jb l = 0 by rw [tellAt, HE.out, if_neg (by omega)])
 have hz : ¬ ((talkL ids rc rn jb l).word.length : Int) < (l.length : Int) := by omega
 have hzb : decide (((talkL ids rc rn jb l).word.length : Int) < (l.length : Int)) = false := decide_eq_false hz
 go_enter Tryz.func18, Tryz.ntmps18
 go_wp2_with (go_at_call 57; refine (HO.out _ HB.out).mono ?_; rintro e w1 ⟨hb1, g, rfl, vw, vp, vj, vf, vo, hT⟩; have HT := am hT; have HB1 := am (HB.out.trans (hb1.mono (by simp))); have hs1 : w.heap.size < w1.heap.size := (by have := hb1.size; simp at this; omega); have hgw : g < w1.heap.size := hT.lt; obtain ⟨Aw, cw, rfl⟩ := Kd.R_slice hT.r.w; have h4 : w1.cell? ⟨g, 4, none⟩ = some (.slice Aw (talkL ids rc rn jb l).word.length cw) := (blk_cell hT.b 4).trans rfl)
 go_ret2
 exact ⟨by rw [HE.out, HA.out]; rfl, HB1.out⟩
section
variable {base : Nat} {w : World} {g : Nat} {A : Option Addr} {c : Nat} {ids : List S68} {rc : Bool} {rn : Int} {jb : Bool} {t : Tk} {vw vp vj vf vo : Value}
theorem partners_any (h : Talk base w g A c ids rc rn jb t vw vp vj vf vo) : Calls Tryz.prog 81 (#[.pointer (some ⟨g, 0, none⟩)] ++ #[]) w (Ret2 0 fun r w' => RI w' base r t.part ∧ Below w.heap.size w w') := by
 have h5 : w.cell? ⟨g, 5, none⟩ = some vp := (blk_cell h.b 5).trans rfl
 have HR := am h.r.p
 obtain ⟨Ap, cp, rfl⟩ := Kd.R_slice h.r.p
 simp only [List.append_toArray, List.append_nil]
 clear h
 go_enter Tryz.func81, Tryz.ntmps81
 go_wp2
 go_ret2
 exact Ret2.mk _ rfl ⟨HR.out, Below.refl _ _⟩
theorem justifiers_any (h : Talk base w g A c ids rc rn jb t vw vp vj vf vo) : Calls Tryz.prog 80 (#[.pointer (some ⟨g, 0, none⟩)] ++ #[]) w (Ret2 0 fun r w' => RI w' base r t.just ∧ Below w.heap.size w w') := by
 have h5 : w.cell? ⟨g, 6, none⟩ = some vj := (blk_cell h.b 6).trans rfl
 have HR := am h.r.j
 obtain ⟨Ap, cp, rfl⟩ := Kd.R_slice h.r.j
 simp only [List.append_toArray, List.append_nil]
 clear h
 go_enter Tryz.func80, Tryz.ntmps80
 go_wp2
 go_ret2
 exact Ret2.mk _ rfl ⟨HR.out, Below.refl _ _⟩
end
theorem enters_partners : ∀ args w, (callFunc 81 args).run Tryz.prog w = .ok (.enter 81 args) w := enters_of Tryz.func81 (by kernel_rfl) rfl
theorem enters_justifiers : ∀ args w, (callFunc 80 args).run Tryz.prog w = .ok (.enter 80 args) w := enters_of Tryz.func80 (by kernel_rfl) rfl
theorem pPartners_any (A : Option Addr) (c : Nat) (ids : List S68) (rc : Bool) (rn : Int) (jb : Bool) (A1 : Option Addr) (c1 : Nat) (l : List Mv) (w : World) (hr : Kd.C k68 w A ids.length ids) (hr1 : Kd.C k52 w A1 l.length l) (hl : l.length ≤ 1000000) : Calls Tryz.prog 42 #[.agg #[.slice A ids.length c, .bool rc, .int .i64 rn, .bool jb], .slice A1 l.length c1] w (Ret2 (tellE ids rc rn jb l) fun v w' => RI w' w.heap.size v (okL (tellE ids rc rn jb l) (talkL ids rc rn jb l).part) ∧ Below w.heap.size w w') := by
 have HB := am ((Below.refl _ w).alloc (Nat.le_refl _) (.cells #[.slice A ids.length c, .bool rc, .int .i64 rn, .bool jb] 26))
 have HO := am (fun (V : World) (hb : Below w.heap.size w V) => toldI_any A c ids rc rn jb A1 c1 l _ #[] enters_partners 0 (fun v V' => (RI V' w.heap.size v (talkL ids rc rn jb l).part) ∧ Below w.heap.size w V') V (Kd.C_below hr hb) (Kd.C_below hr1 hb) hl
  (fun _ V2 g vw vp vj vf vo hb2 hle hT => (partners_any hT).mono (by
   have hlw := hb.size
   rintro e V3 ⟨r, rfl, hR, hb3⟩
   exact ⟨r, rfl, Kd.R_lower hR hlw, hb.trans ((hb2.mono hlw).trans (hb3.mono (by omega)))⟩)))
 clear hr hr1
 go_enter Tryz.func42, Tryz.ntmps42
 go_wp2_with (go_at_call 64; refine (HO.out _ HB.out).mono ?_; rintro e w1 (⟨hE, rfl, hb1⟩ | ⟨hE, r, rfl, hR, hb1⟩))
 ·go_ret2
  exact Ret2.mk _ rfl ⟨by rw [okL_no _ hE]; exact Kd.R_nil _ _ _ _ _, HB.out.trans (hb1.mono (by simp))⟩
 go_ret2
 exact Ret2.mk _ (by rw [hE]; rfl) ⟨by rw [okL_ok _ hE]; first | exact hR | rfl, hb1⟩
theorem pJustifiers_any (A : Option Addr) (c : Nat) (ids : List S68) (rc : Bool) (rn : Int) (jb : Bool) (A1 : Option Addr) (c1 : Nat) (l : List Mv) (w : World) (hr : Kd.C k68 w A ids.length ids) (hr1 : Kd.C k52 w A1 l.length l) (hl : l.length ≤ 1000000) : Calls Tryz.prog 40 #[.agg #[.slice A ids.length c, .bool rc, .int .i64 rn, .bool jb], .slice A1 l.length c1] w (Ret2 (tellE ids rc rn jb l) fun v w' => RI w' w.heap.size v (okL (tellE ids rc rn jb l) (talkL ids rc rn jb l).just) ∧ Below w.heap.size w w') := by
 have HB := am ((Below.refl _ w).alloc (Nat.le_refl _) (.cells #[.slice A ids.length c, .bool rc, .int .i64 rn, .bool jb] 26))
 have HO := am (fun (V : World) (hb : Below w.heap.size w V) => toldI_any A c ids rc rn jb A1 c1 l _ #[] enters_justifiers 0 (fun v V' => (RI V' w.heap.size v (talkL ids rc rn jb l).just) ∧ Below w.heap.size w V') V (Kd.C_below hr hb) (Kd.C_below hr1 hb) hl
  (fun _ V2 g vw vp vj vf vo hb2 hle hT => (justifiers_any hT).mono (by
   have hlw := hb.size
   rintro e V3 ⟨r, rfl, hR, hb3⟩
   exact ⟨r, rfl, Kd.R_lower hR hlw, hb.trans ((hb2.mono hlw).trans (hb3.mono (by omega)))⟩)))
 clear hr hr1
 go_enter Tryz.func40, Tryz.ntmps40
 go_wp2_with (go_at_call 64; refine (HO.out _ HB.out).mono ?_; rintro e w1 (⟨hE, rfl, hb1⟩ | ⟨hE, r, rfl, hR, hb1⟩))
 ·go_ret2
  exact Ret2.mk _ rfl ⟨by rw [okL_no _ hE]; exact Kd.R_nil _ _ _ _ _, HB.out.trans (hb1.mono (by simp))⟩
 go_ret2
 exact Ret2.mk _ (by rw [hE]; rfl) ⟨by rw [okL_ok _ hE]; first | exact hR | rfl, hb1⟩
end Go.Proofs.YtjgocihflhljeaaGreat.P
namespace Go.Proofs.YtjgocihflhljeaaGreat.P
open Go.RowKit Go.Shelf Go.Proofs.YtjgocihflhljeaaGreatW.PrintWords Go.Proofs.YtjgocihflhljeaaGreatW.PrintLast Go.Proofs.YtjgocihflhljeaaGreatW.PrintMore
attribute [local go_sem] Oper.semAt_some
set_option maxRecDepth 8000 in
set_option maxHeartbeats 2000000 in
theorem Clone_any {base : Nat} (v : Value) (xs : List Int) (w : World) (h : RI w base v xs) (hl : xs.length ≤ 1048576) :
  Calls Tryz.prog 95 #[v] w fun e w' => ∃ v', e = .returned v' ∧ RI w' w.heap.size v' xs ∧ Below w.heap.size w w' := by
 rcases (Kd.own_of_R h).2 with ⟨e1, e2⟩ | ⟨g, c, cur, e, _⟩
 ·obtain ⟨A, c, rfl⟩ := Kd.R_slice h
  have hx : xs = [] := List.length_eq_zero_iff.1 e2
  subst hx
  simp only [List.length_nil] at e1 ⊢
  by_cases hA : A = none
  ·subst hA
   clear h hl e1 e2
   have hnil := fun w : World => Lib.run_eql_slice_nil (P := Tryz.prog) w 36 3 none 0 c 0 0 Tryz.underlying36
   go_enter Tryz.func95, Tryz.ntmps95
   go_wp2
   go_ret
   exact ⟨_, rfl, Kd.R_nil _ _ _ _ _, Below.refl _ _⟩
  exfalso
  revert e1
  cases A with
  | none => exact fun _ => hA rfl
  | some a => simp [Value.ownBlock]
 subst e
 obtain ⟨A, c', e', _, hC⟩ := Kd.R_reads h
 injection e' with e1 e2 e3
 subst e1 e3
 have HL := am hl
 have hnil := fun w : World => Lib.run_eql_slice_nil (P := Tryz.prog) w 36 3 (some ⟨g, 0, none⟩) xs.length c 0 0 Tryz.underlying36
 have HR0 := am hC
 rename_i hrest
 clear h hl hrest hC
 go_enter Tryz.func95, Tryz.ntmps95
 go_wp2_with (first
  | ((with_reducible refine gate_dst (N := 5) rfl ?_); refine Kd.R_lit (Kd.int .i64) _ 3 ?hg (N := 5) ?hd (xs := ([] : List Int)) (inner := []) (ok := fun _ => True) (okp := fun _ => True) ?hr ?hp (fun _ hk => hk) trivial (Below.refl _ _) (Nat.le_refl _) (by simp) ?_; (case hd => rfl); (case hg => rfl); (case hr => first | (go_simp; done) | (go_simp; rfl)); (case hp => exact (Reps.none _ _)); intro v1 w1 ho hb hg_ hnew_; have HO1 := am ho; have HB1 := am hb; have hs1 := hb.size; clear ho hb hg_ hnew_)
  | ((with_reducible refine gate_builtin (b := .append) (xs := #[.tmp 5, .tmp 6]) rfl ?_); at_builtin; refine Kd.R_append_rows (Kd.int .i64) (w0 := w) w.heap.size rfl (.tmp 5) (.tmp 6) 36 3 (.int .i64 0) 8 rfl Tryz.underlying36 info3 rfl (by decide) (by omega) v1 [] xs _ _ _ (fun _ => True) (fun _ => False) rfl rfl HO1.out (Kd.C_below HR0.out HB1.out) (fun _ _ h => h) (fun _ h => h.elim) (fun _ _ => trivial) HB1.out hs1 (by have := HL.out; simp; omega) ?_; intro v2 w2 ho hb hg hat; have HO2 := am ho; have HB2 := am hb; clear ho hb hg hat))
 go_ret
 exact ⟨_, rfl, HO2.out, HB2.out⟩
def nextL (jb : Bool) (t : Tk) (l : List Mv) : List Mv := l.filter fun m => t.can jb m
theorem nextL_snoc {jb : Bool} {t : Tk} {l : List Mv} {i : Nat} (h : i < l.length) (m : Mv) (hm : l.getD i z52 = m) : nextL jb t (l.take (i + 1)) = nextL jb t (l.take i) ++ (if t.can jb m then [m] else []) := by
 have e : l[i] = m := by rw [← hm, getD_get l z52 i h]
 rw [nextL, List.take_succ_eq_append_getElem h, List.filter_append, e, nextL]
 cases hb : t.can jb m <;> simp [hb]
set_option maxRecDepth 8000 in
set_option maxHeartbeats 4000000 in
theorem next_any {base : Nat} {w : World} {g : Nat} {A : Option Addr} {c : Nat} {ids : List S68} {rc : Bool} {rn : Int} {jb : Bool} {t : Tk} {vw vp vj vf vo : Value} (h : Talk base w g A c ids rc rn jb t vw vp vj vf vo) (hr : Kd.C k68 w A ids.length ids) (hok : checkE ids rn = 0) :
  Calls Tryz.prog 75 (#[.pointer (some ⟨g, 0, none⟩)] ++ #[]) w (Ret2 0 fun r w' => RM w' w.heap.size r (nextL jb t (movesA ids rc rn jb)) ∧ Below w.heap.size w w') := by
 have hml := movesA_len hok rc jb
 have HM := am (Moves_ok A c ids rc rn jb w hr hok)
 have HT := am h
 have hgw := h.lt
 have k0 : w.cell? ⟨g, 0, none⟩ = some (.slice A ids.length c) := (blk_cell h.b 0).trans rfl
 have k1 : w.cell? ⟨g, 1, none⟩ = some (.bool rc) := (blk_cell h.b 1).trans rfl
 have k2 : w.cell? ⟨g, 2, none⟩ = some (.int .i64 rn) := (blk_cell h.b 2).trans rfl
 have k3 : w.cell? ⟨g, 3, none⟩ = some (.bool jb) := (blk_cell h.b 3).trans rfl
 simp only [List.append_toArray, List.append_nil]
 clear h hr hok
 go_enter Tryz.func75, Tryz.ntmps75
 go_wp2_with (go_at_call 107; refine HM.out.mono ?_; rintro e w1 ⟨v, rfl, hv, hb1⟩; obtain ⟨Am, cm, rfl⟩ := Kd.R_slice hv; have HV := am hv; have HB1 := am hb1; have hs1 := hb1.size; clear hv hb1)
 obtain ⟨l, hl⟩ : ∃ l, movesA ids rc rn jb = l := ⟨_, rfl⟩
 rw [hl] at hml HV ⊢
 have HL := am hl
 have HR1 := am ((Kd.R_reads' HV.out).2.2)
 go_loopg [2, 6, 17] l.length (fun gg s2 _ s17 wr => ∃ (kk : Nat) (xs : List Mv), kk ≤ l.length ∧ l.length - kk ≤ gg ∧ s17 = .int .i64 kk ∧ Aside0 (xs = nextL jb t (l.take kk)) ∧ xs.length ≤ kk ∧ (∃ A2 c2, s2 = .slice A2 xs.length c2) ∧ Aside0 (RM wr w1.heap.size s2 xs) ∧ Aside0 (Below w1.heap.size w1 wr))
 case atStart => exact ⟨0, [], Nat.zero_le _, by omega, rfl, ⟨rfl⟩, Nat.le_refl _, ⟨_, _, rfl⟩, ⟨Kd.R_nil _ _ _ _ _⟩, ⟨Below.refl _ _⟩⟩
 case round =>
  obtain ⟨kk, xs, hkk, hg, rfl, HX, hxl, ⟨A2, c2, rfl⟩, HR2, BW⟩ := hrel
  have hsr := BW.out.size
  by_cases hlt : kk < l.length
  ·have hltz : (kk : Int) < (l.length : Int) := by omega
   obtain ⟨ad, e0, a0, a1, a2, a3⟩ := at_T52 HR1.out (kk : Int) (by omega) hltz
   cases e0
   rw [Int.toNat_natCast] at a0 a1 a2 a3
   have cb : decide ((kk : Int) < (l.length : Int)) = true := decide_eq_true hltz
   replace a0 := (BW.out.cell (World.block_lt_of_cell? w1 _ a0)).trans a0
   replace a1 := (BW.out.cell (World.block_lt_of_cell? w1 _ a1)).trans a1
   replace a2 := (BW.out.cell (World.block_lt_of_cell? w1 _ a2)).trans a2
   replace a3 := (BW.out.cell (World.block_lt_of_cell? w1 _ a3)).trans a3
   have HQ := am (show l.getD kk z52 = rd_T52 l (kk : Int) by simp [rd_T52])
   generalize rd_T52 l (kk : Int) = m at *
   have HB0 := am (BW.out.alloc hsr (.cells #[.int .i64 m.f0, .int .i64 m.f1, .int .u8 m.f2, .int .i64 m.f3] 52))
   have KM := am (heap_alloc_new wr (.cells #[.int .i64 m.f0, .int .i64 m.f1, .int .u8 m.f2, .int .i64 m.f3] 52))
   have HT0 := am (HT.out.below (HB1.out.trans (HB0.out.mono hs1)))
   rcases hca : t.can jb m with _ | _
   ·have HCA := am hca
    clear hca
    go_wp2_with (go_at_call 108; refine (can_any HT0.out m).mono ?_; rw [HCA.out]; rintro e w2 ⟨rfl, hb2⟩; have HB2 := am (HB0.out.trans (hb2.mono (by simp; omega))); have HR3 := am (R_st (Kd.R_alloc HR2.out (.cells #[.int .i64 m.f0, .int .i64 m.f1, .int .u8 m.f2, .int .i64 m.f3] 52)) (St.of_below (b := 0) hb2)))
    go_roundg (l.length - (kk + 1))
    case measure => omega
    case rel => exact ⟨kk + 1, xs, by omega, by omega, by go_num, ⟨by rw [nextL_snoc hlt m HQ.out, ← HX.out, HCA.out]; simp⟩, by omega, ⟨_, _, rfl⟩, HR3, HB2⟩
   have HCA := am hca
   clear hca
   go_wp2_with (first
    | (go_at_call 108; refine (can_any HT0.out m).mono ?_; rw [HCA.out]; rintro e w2 ⟨rfl, hb2⟩; have HB2 := am (HB0.out.trans (hb2.mono (by simp; omega))); have HR3 := am (R_st (Kd.R_alloc HR2.out (.cells #[.int .i64 m.f0, .int .i64 m.f1, .int .u8 m.f2, .int .i64 m.f3] 52)) (St.of_below (b := 0) hb2)); have hs2 : wr.heap.size + 1 ≤ w2.heap.size := (by have := hb2.size; simpa using this); have hs3 : wr.heap.size < w2.heap.size := hs2; have KM2 := am ((hb2.block _ (by simp)).trans KM.out); have d0 : w2.cell? ⟨wr.heap.size, 0, none⟩ = some (.int .i64 m.f0) := (blk_cell KM2.out 0).trans rfl; have d1 : w2.cell? ⟨wr.heap.size, 1, none⟩ = some (.int .i64 m.f1) := (blk_cell KM2.out 1).trans rfl; have d2 : w2.cell? ⟨wr.heap.size, 2, none⟩ = some (.int .u8 m.f2) := (blk_cell KM2.out 2).trans rfl; have d3 : w2.cell? ⟨wr.heap.size, 3, none⟩ = some (.int .i64 m.f3) := (blk_cell KM2.out 3).trans rfl)
    | ((with_reducible refine gate_builtin (b := .append) (xs := #[.tmp 24, .tmp 26]) rfl ?_); at_builtin; (refine Kd.R_append k52 (w0 := w1) w1.heap.size rfl (.tmp 24) (.tmp 26) 27 52 (.agg #[(.int .i64 0), (.int .i64 0), (.int .u8 0), (.int .i64 0)]) 32 rfl Tryz.underlying27 info52 rfl (by decide) (by omega) (.slice A2 xs.length c2) xs m [.int .i64 m.f0, .int .i64 m.f1, .int .u8 m.f2, .int .i64 m.f3] (fun _ => True) (fun _ => False) rfl ?aX (k52_mkM _ _ _ m) (fun _ hk => hk.elim) (fun _ _ => trivial) HR3.out HB2.out (by omega) (by omega) ?_; (case aX => rfl)); intro v1 w3 hR hB hG hat; have HR4 := am hR; have HB4 := am hB; obtain ⟨Af, cf, rfl⟩ := Kd.R_slice hR; have hln : (xs ++ [m]).length = xs.length + 1 := (by simp); rw [hln] at HR4; clear hR hB hG hat))
   go_roundg (l.length - (kk + 1))
   case measure => omega
   case rel => exact ⟨kk + 1, xs ++ [m], by omega, by omega, by go_num, ⟨by rw [nextL_snoc hlt m HQ.out, ← HX.out, HCA.out]; simp⟩, by simp; omega, ⟨Af, cf, by rw [hln]⟩, HR4, HB4⟩
  have cb : decide ((kk : Int) < (l.length : Int)) = false := decide_eq_false (by omega)
  have cb2 : decide (kk < l.length) = false := decide_eq_false hlt
  go_wp2
  go_ret2
  have e : l.take kk = l := List.take_of_length_le (by omega)
  have hx := HX.out
  rw [e] at hx
  exact Ret2.mk _ rfl ⟨by rw [HL.out, ← hx]; exact Kd.R_lower HR2.out hs1, HB1.out.trans (BW.out.mono hs1)⟩
end Go.Proofs.YtjgocihflhljeaaGreat.P
namespace Go.Proofs.YtjgocihflhljeaaGreat.P
open Go.RowKit Go.Shelf Go.Proofs.YtjgocihflhljeaaGreatW.PrintWords Go.Proofs.YtjgocihflhljeaaGreatW.PrintLast Go.Proofs.YtjgocihflhljeaaGreatW.PrintMore
attribute [local go_sem] Oper.semAt_some
theorem enters_next : ∀ args w, (callFunc 75 args).run Tryz.prog w = .ok (.enter 75 args) w := enters_of Tryz.func75 (by kernel_rfl) rfl
theorem pNext_any (A : Option Addr) (c : Nat) (ids : List S68) (rc : Bool) (rn : Int) (jb : Bool) (A1 : Option Addr) (c1 : Nat) (l : List Mv) (w : World) (hr : Kd.C k68 w A ids.length ids) (hr1 : Kd.C k52 w A1 l.length l) (hl : l.length ≤ 1000000) : Calls Tryz.prog 32 #[.agg #[.slice A ids.length c, .bool rc, .int .i64 rn, .bool jb], .slice A1 l.length c1] w (Ret2 (tellE ids rc rn jb l) fun v w' => RM w' w.heap.size v (okL (tellE ids rc rn jb l) (nextL jb (talkL ids rc rn jb l) (movesA ids rc rn jb))) ∧ Below w.heap.size w w') := by
 have HB := am ((Below.refl _ w).alloc (Nat.le_refl _) (.cells #[.slice A ids.length c, .bool rc, .int .i64 rn, .bool jb] 26))
 have HO := am (fun (V : World) (hb : Below w.heap.size w V) => toldM_any A c ids rc rn jb A1 c1 l _ #[] enters_next 0 (fun v V' => (RM V' w.heap.size v (nextL jb (talkL ids rc rn jb l) (movesA ids rc rn jb))) ∧ Below w.heap.size w V') V (Kd.C_below hr hb) (Kd.C_below hr1 hb) hl
  (fun hz V2 g vw vp vj vf vo hb2 hle hT => (next_any hT (Kd.C_below hr (hb.trans (hb2.mono hb.size))) (tellE_zero hz).1).mono (by
   have hlw := hb.size
   rintro e V3 ⟨r, rfl, hR, hb3⟩
   exact ⟨r, rfl, Kd.R_lower hR (by omega), hb.trans ((hb2.mono hlw).trans (hb3.mono (by omega)))⟩)))
 clear hr hr1
 go_enter Tryz.func32, Tryz.ntmps32
 go_wp2_with (go_at_call 74; refine (HO.out _ HB.out).mono ?_; rintro e w1 (⟨hE, rfl, hb1⟩ | ⟨hE, r, rfl, hR, hb1⟩))
 ·go_ret2
  exact Ret2.mk _ rfl ⟨by rw [okL_no _ hE]; exact Kd.R_nil _ _ _ _ _, HB.out.trans (hb1.mono (by simp))⟩
 go_ret2
 exact Ret2.mk _ (by rw [hE]; rfl) ⟨by rw [okL_ok _ hE]; first | exact hR | rfl, hb1⟩
def standV (turn : Int) (v : Value) (f lo : Bool) : Value := .agg #[.int .u8 turn, v, .bool f, .bool lo]
set_option maxRecDepth 8000 in
set_option maxHeartbeats 2000000 in
theorem stand_any {base : Nat} {w : World} {g : Nat} {A : Option Addr} {c : Nat} {ids : List S68} {rc : Bool} {rn : Int} {jb : Bool} {t : Tk} {vw vp vj vf vo : Value} (h : Talk base w g A c ids rc rn jb t vw vp vj vf vo) :
  Calls Tryz.prog 59 (#[.pointer (some ⟨g, 0, none⟩)] ++ #[]) w (Ret2 0 fun r w' => ∃ A n c, r = standV t.turn (.slice A n c) t.force t.lost ∧ RI w' w.heap.size (.slice A n c) t.opn ∧ Below w.heap.size w w') := by
 have HT := am h
 have hgw := h.lt
 have hol := Nat.le_trans h.ok.hl h.ok.hw
 have HTURN := am (fun (V : World) (hb : Below w.heap.size w V) => turn_any (h.below hb))
 simp only [List.append_toArray, List.append_nil]
 obtain ⟨Ao, co, rfl⟩ := Kd.R_slice h.r.o
 clear h
 go_enter Tryz.func59, Tryz.ntmps59
 go_upto_region 1 with fail
 have HB := am (((Below.refl _ w).alloc (Nat.le_refl _) (.cells #[.int .u8 0, .slice none 0 0, .bool false, .bool false] 38)).drew)
 have HK := am (blk_drew (heap_alloc_new w (.cells #[.int .u8 0, .slice none 0 0, .bool false, .bool false] 38)))
 have hsz : (w.alloc (.cells #[.int .u8 0, .slice none 0 0, .bool false, .bool false] 38)).drew.heap.size = w.heap.size + 1 := by simp
 generalize hwd : (w.alloc (.cells #[.int .u8 0, .slice none 0 0, .bool false, .bool false] 38)) = wc at *
 have HT0 := am (HT.out.below HB.out)
 refine start_ (n := 19) (S := fun w' => w'.cell? ⟨g, 8, none⟩ = some (.slice Ao t.opn.length co) ∧ w'.cell? ⟨g, 9, none⟩ = some (.bool t.force) ∧ w'.cell? ⟨g, 10, none⟩ = some (.bool t.lost)) (ds := [17]) (Mq [0,19]) (by kernel_rfl) rfl rfl ⟨(blk_cell HT0.out.b 8).trans rfl, (blk_cell HT0.out.b 9).trans rfl, (blk_cell HT0.out.b 10).trans rfl⟩ (fun hHeld => ?_)
 refine pure_ (i := 0) (N:=some 4) (v:=?_) (a':=?_) (Mq [1,18]) rfl rfl (by kernel_rfl) (fun _ _ _ h => h) (Or.inl ⟨by rfl, ?_⟩) ?_ ?_;rotate_left;(intro w';go_simp;with_reducible rfl);rotate_left;(simp only [Act.put,sn1,sn2,sn3,i64_w];rfl)
 refine pure_ (i := 2) (N:=some 6) (v:=?_) (a':=?_) (Mq [1,1,1,16]) rfl rfl (by kernel_rfl) (fun _ _ _ h => h) (Or.inl ⟨by rfl, ?_⟩) ?_ ?_;rotate_left;(intro w';go_simp;with_reducible rfl);rotate_left;(simp only [Act.put,sn1,sn2,sn3,i64_w];rfl)
 refine pure_ (i := 3) (N:=some 7) (v:=?_) (a':=?_) (Mq [1,1,2,15]) rfl rfl (by kernel_rfl) (fun _ _ _ h => h) (Or.inl ⟨by rfl, ?_⟩) ?_ ?_;rotate_left;(intro w';go_simp;with_reducible rfl);rotate_left;(simp only [Act.put,sn1,sn2,sn3,i64_w];rfl)
 refine pure_ (i := 4) (N:=some 8) (v:=?_) (a':=?_) (Mq [1,1,3,14]) rfl rfl (by kernel_rfl) (fun _ _ _ h => h) (Or.inl ⟨by rfl, ?_⟩) ?_ ?_;rotate_left;(intro w';go_simp;with_reducible rfl);rotate_left;(simp only [Act.put,sn1,sn2,sn3,i64_w];rfl)
 refine pure_ (i := 5) (N:=some 9) (v:=?_) (a':=?_) (Mq [1,1,4,13]) rfl rfl (by kernel_rfl) (fun _ _ _ h => h) (Or.inl ⟨by rfl, ?_⟩) ?_ ?_;rotate_left;(intro w';go_simp;with_reducible rfl);rotate_left;(simp only [Act.put,sn1,sn2,sn3,i64_w];rfl)
 refine pure_ (i := 8) (N:=some 12) (v:=?_) (a':=?_) (Mq [1,1,4,2,1,10]) rfl rfl (by kernel_rfl) (fun _ _ _ h => h) (Or.inl ⟨by rfl, ?_⟩) ?_ ?_;rotate_left;(intro w';go_simp;with_reducible rfl);rotate_left;(simp only [Act.put,sn1,sn2,sn3,i64_w];rfl)
 refine pure_ (i := 9) (N:=some 13) (v:=?_) (a':=?_) (Mq [1,1,4,2,2,9]) rfl rfl (by kernel_rfl) (fun _ _ _ h => h) (Or.inl ⟨by rfl, ?_⟩) ?_ ?_;rotate_left;(intro w';go_simp;with_reducible rfl);rotate_left;(simp only [Act.put,sn1,sn2,sn3,i64_w];rfl)
 refine pure_ (i := 10) (N:=some 14) (v:=?_) (a':=?_) (Mq [1,1,4,2,3,8]) rfl rfl (by kernel_rfl) (fun _ _ _ h => h) (Or.inl ⟨by rfl, ?_⟩) ?_ ?_;rotate_left;(intro w';go_simp;with_reducible rfl);rotate_left;(simp only [Act.put,sn1,sn2,sn3,i64_w];rfl)
 refine pure_ (i := 12) (N:=some 16) (v:=?_) (a':=?_) (Mq [1,1,4,2,3,1,1,6]) rfl rfl (by kernel_rfl) (fun _ _ _ h => h) (Or.inl ⟨by rfl, ?_⟩) ?_ ?_;rotate_left;(intro w';go_simp;with_reducible rfl);rotate_left;(simp only [Act.put,sn1,sn2,sn3,i64_w];rfl)
 refine pure_ (i := 13) (N:=some 17) (v:=?_) (a':=?_) (Mq [1,1,4,2,3,1,2,5]) rfl rfl (by kernel_rfl) (fun _ _ _ h => h) (Or.inl ⟨by rfl, ?_⟩) ?_ ?_;rotate_left;(intro w';go_simp;with_reducible rfl);rotate_left;(simp only [Act.put,sn1,sn2,sn3,i64_w];rfl)
 refine pure_ (i := 14) (N:=some 18) (v:=?_) (a':=?_) (Mq [1,1,4,2,3,1,3,4]) rfl rfl (by kernel_rfl) (fun _ _ _ h => h) (Or.inl ⟨by rfl, ?_⟩) ?_ ?_;rotate_left;(intro w';go_simp;with_reducible rfl);rotate_left;(simp only [Act.put,sn1,sn2,sn3,i64_w];rfl)
 refine take_ (i := 6) (N:=some 10) (v:=?_) (a':=?_) (Mq [1,1,5,1,3,1,3,4]) rfl rfl (by kernel_rfl) (fun _ _ _ h => h) (Or.inl ⟨by rfl, ?_⟩) hHeld ?_ ?_
 rotate_left
 ·rintro w' ⟨s0, s1, s2⟩
  go_simp
  with_reducible rfl
 rotate_left
 ·simp only [Act.put,sn1,sn2,sn3,i64_w]
  rfl
 refine take_ (i := 11) (N:=some 15) (v:=?_) (a':=?_) (Mq [1,1,5,1,7,4]) rfl rfl (by kernel_rfl) (fun _ _ _ h => h) (Or.inl ⟨by rfl, ?_⟩) hHeld ?_ ?_
 rotate_left
 ·rintro w' ⟨s0, s1, s2⟩
  go_simp
  with_reducible rfl
 rotate_left
 ·simp only [Act.put,sn1,sn2,sn3,i64_w]
  rfl
 refine take_ (i := 15) (N:=some 19) (v:=?_) (a':=?_) (Mq [1,1,5,1,8,3]) rfl rfl (by kernel_rfl) (fun _ _ _ h => h) (Or.inl ⟨by rfl, ?_⟩) hHeld ?_ ?_
 rotate_left
 ·rintro w' ⟨s0, s1, s2⟩
  go_simp
  with_reducible rfl
 rotate_left
 ·simp only [Act.put,sn1,sn2,sn3,i64_w]
  rfl
 refine one_ (i := 1) (N:=some 5) (Mq [7,1,8,3]) rfl rfl (by kernel_rfl) (by decide) (fun K hK => ?_)
 refine goes_ Tryz.func94 (by kernel_rfl) rfl #[.pointer (some ⟨g, 0, none⟩)] (by rfl) rfl rfl (by simp only [List.map_toArray, List.map_cons, List.map_nil]; rfl) ?_
 with_reducible refine (HTURN.out _ HB.out).mono ?_
 rintro e w1 ⟨rfl, hb1⟩
 refine ⟨_, rfl, ?_⟩
 have HT1 := am (HT0.out.below hb1)
 have HB1 := am (HB.out.trans (hb1.mono (by omega)))
 have HK1 := am ((hb1.block _ (by omega)).trans HK.out)
 have hs1 : w.heap.size + 1 ≤ w1.heap.size := (by have := hb1.size; omega)
 refine hK.out _ _ ⟨(blk_cell HT1.out.b 8).trans rfl, (blk_cell HT1.out.b 9).trans rfl, (blk_cell HT1.out.b 10).trans rfl⟩ (fun hHeld => ?_)
 clear hK K
 refine norm_ (a' := ?_) ?_ ?_
 rotate_left
 ·show Act.put _ (some 5) _ = _
  simp only [Act.put,sn1,sn2,sn3,i64_w]
  rfl
 refine one_ (i := 7) (N:=some 11) (Mq [16,3]) rfl rfl (by kernel_rfl) (by decide) (fun K hK => ?_)
 refine goes_ Tryz.func95 (by kernel_rfl) rfl #[.slice Ao t.opn.length co] (by rfl) rfl rfl (by simp only [List.map_toArray, List.map_cons, List.map_nil]; rfl) ?_
 with_reducible refine (Clone_any _ _ w1 HT1.out.r.o hol).mono ?_
 rintro e w2 ⟨v2, rfl, hv2, hb2⟩
 refine ⟨_, rfl, ?_⟩
 have HT2 := am (HT1.out.below hb2)
 have HB2 := am (HB1.out.trans (hb2.mono (by omega)))
 have HK2 := am ((hb2.block _ (by omega)).trans HK1.out)
 have HV := am hv2
 obtain ⟨Af, cf, rfl⟩ := Kd.R_slice hv2
 have f0 := blk_frozen HK2.out 0
 have f1 := blk_frozen HK2.out 1
 have f2 := blk_frozen HK2.out 2
 have f3 := blk_frozen HK2.out 3
 have d0 : w2.cell? ⟨w.heap.size, 0, none⟩ = some (.int .u8 0) := (blk_cell HK2.out 0).trans rfl
 have d1 : w2.cell? ⟨w.heap.size, 1, none⟩ = some (.slice none 0 0) := (blk_cell HK2.out 1).trans rfl
 have d2 : w2.cell? ⟨w.heap.size, 2, none⟩ = some (.bool false) := (blk_cell HK2.out 2).trans rfl
 have d3 : w2.cell? ⟨w.heap.size, 3, none⟩ = some (.bool false) := (blk_cell HK2.out 3).trans rfl
 refine hK.out _ _ ⟨(blk_cell HT2.out.b 8).trans rfl, (blk_cell HT2.out.b 9).trans rfl, (blk_cell HT2.out.b 10).trans rfl⟩ (fun hHeld => ?_)
 clear hK K
 refine norm_ (a' := ?_) ?_ ?_
 rotate_left
 ·show Act.put _ (some 11) _ = _
  simp only [Act.put,sn1,sn2,sn3,i64_w]
  rfl
 refine pure_ (i := 16) (N:=some 20) (v:=?_) (a':=?_) (Mq [17,2]) rfl rfl (by kernel_rfl) (fun _ _ _ h => h) (Or.inl ⟨by rfl, ?_⟩) ?_ ?_;rotate_left;(intro w';go_simp;with_reducible rfl);rotate_left;(simp only [Act.put,sn1,sn2,sn3,i64_w];rfl)
 refine last_ (i := 17) (N := none) (Mq [18,1]) rfl rfl (by kernel_rfl) (by decide) (fun K hK => ?_)
 refine skip_ (w1 := ?_) (by rfl) rfl ?_ ?_
 rotate_left
 ·go_simp
  rfl
 refine hK.out _ _ ?_
 clear hK K
 refine pure_ (i := 18) (N:=some 3) (v:=?_) (a':=?_) (Mq [19]) rfl rfl (by kernel_rfl) (fun _ _ _ h => h) (Or.inl ⟨by rfl, ?_⟩) ?_ ?_;rotate_left;(intro w';go_simp;with_reducible rfl);rotate_left;(simp only [Act.put,sn1,sn2,sn3,i64_w];rfl)
 refine done_ (by kernel_rfl) ?_
 go_wp2_with fail
 have r := store4 HK2.out (.int .u8 t.turn) (.slice Af t.opn.length cf) (.bool t.force) (.bool t.lost)
 have c0 := (blk_cell r 0).trans rfl
 have c1 := (blk_cell r 1).trans rfl
 have c2 := (blk_cell r 2).trans rfl
 have c3 := (blk_cell r 3).trans rfl
 have q0 := Kd.R_set (d := Kd.int .i64) HV.out HK2.out (by decide) 0 (.int .u8 t.turn)
 have r0 := blk_put HK2.out 0 (.int .u8 t.turn) rfl
 have q1 := Kd.R_set (d := Kd.int .i64) q0 r0 (by decide) 1 (.slice Af t.opn.length cf)
 have r1 := blk_put r0 1 (.slice Af t.opn.length cf) rfl
 have q2 := Kd.R_set (d := Kd.int .i64) q1 r1 (by decide) 2 (.bool t.force)
 have r2 := blk_put r1 2 (.bool t.force) rfl
 have q3 := Kd.R_set (d := Kd.int .i64) q2 r2 (by decide) 3 (.bool t.lost)
 refine bodyPost_ret (v := .tuple #[standV t.turn (.slice Af t.opn.length cf) t.force t.lost, .int .i64 0]) ?_ rfl (Ret2.mk _ rfl ⟨Af, _, cf, rfl, Kd.R_lower q3 (by omega), below4s HB2.out (by omega) _ _ _ _⟩)
 simp [results, Tryz.results59, go_sem, c0, c1, c2, c3, standV]
def askM : Mv := ⟨0, 0, 1, 0⟩
def Tk.closeM (t : Tk) : Mv := ⟨(t.mv t.topI).f0, (t.mv t.topI).f1, 3, if t.force || t.lost then -1 else 0⟩
def closeT : Nat → Tk → Option Tk
 | 0, t => some t
 | k + 1, t => if t.word.length = 400 then none else closeT k (t.say t.closeM)
def closeR (t : Tk) : Option Tk :=
 if t.word.length = 0 then closeT (t.say askM).opn.length (t.say askM) else closeT t.opn.length t
def ceR : Option Tk → Int
 | none => 5
 | some _ => 0
def clR : Option Tk → List Mv
 | none => []
 | some t => t.word
def closeE (t : Tk) : Int := ceR (closeR t)
def closeL (t : Tk) : List Mv := clR (closeR t)
theorem name_worldE {Q : Exit → Act → World → Prop} {a : Act} {w : World} (h : ∀ x, w = x → Q .normal a x) : Q .normal a w := h w rfl
theorem closeM_ans (t : Tk) : isAns t.closeM = true := rfl
theorem closeT_step {t : Tk} {n : Int} (hn : t.top = some n) : closeT t.opn.length t = if t.word.length = 400 then none else closeT (t.say t.closeM).opn.length (t.say t.closeM) := by
 have hne : t.opn ≠ [] := by
  intro h
  rw [Tk.top, h] at hn
  cases hn
 have hp := List.length_pos_iff.2 hne
 have e : (t.say t.closeM).opn.length = t.opn.length - 1 := by
  simp only [Tk.say, Tk.opn', closeM_ans, if_true, List.length_dropLast]
 obtain ⟨k, hk⟩ : ∃ k, t.opn.length = k + 1 := ⟨t.opn.length - 1, by omega⟩
 rw [e, hk, closeT]
 rfl
set_option maxRecDepth 8000 in
set_option maxHeartbeats 4000000 in
theorem close1_any {base : Nat} {w : World} {g : Nat} {A : Option Addr} {c : Nat} {ids : List S68} {rc : Bool} {rn : Int} {jb : Bool} {t0 : Tk} {vw vp vj vf vo : Value} (h : Talk base w g A c ids rc rn jb t0 vw vp vj vf vo) (hbw : base ≤ w.heap.size) (h400 : t0.word.length ≤ 400) :
  Calls Tryz.prog 77 (#[.pointer (some ⟨g, 0, none⟩)] ++ #[]) w (Ret2 (closeE t0) fun r w' => RM w' base r (closeL t0) ∧ Below base w w') := by
 have HT := am h
 have hgw := h.lt
 have hgb := h.hg
 simp only [List.append_toArray, List.append_nil]
 obtain ⟨X, hX⟩ : ∃ X, closeR t0 = X := ⟨_, rfl⟩
 rw [closeE, closeL, hX]
 rw [closeR] at hX
 have HX := am hX
 clear hX
 obtain ⟨Aw, cw, rfl⟩ := Kd.R_slice h.r.w
 obtain ⟨Ao, co, rfl⟩ := Kd.R_slice h.r.o
 have k4 : w.cell? ⟨g, 4, none⟩ = some (.slice Aw t0.word.length cw) := (blk_cell h.b 4).trans rfl
 have k8 : w.cell? ⟨g, 8, none⟩ = some (.slice Ao t0.opn.length co) := (blk_cell h.b 8).trans rfl
 clear h
 go_enter Tryz.func77, Tryz.ntmps77
 go_upto_if 12 with fail
 go_cut [] (fun wx => ∃ (t : Tk) (vw vp vj vf vo : Value), t.word.length ≤ 400 ∧ Aside0 (closeT t.opn.length t = X) ∧ Aside0 (Talk base wx g A c ids rc rn jb t vw vp vj vf vo) ∧ Aside0 (Below base w wx) ∧ w.heap.size ≤ wx.heap.size)
 case first =>
  by_cases h0 : t0.word.length = 0
  ·have cb : ((t0.word.length : Int) == 0) = true := by simp [h0]
   have HX1 := HX.out
   rw [if_pos h0] at HX1
   have HX2 := am HX1
   have HSAY := am (say_any HT.out askM (by intro h; simp [askM, isAns] at h) (by omega))
   clear HX1
   go_wp2_with (go_at_call 78; refine HSAY.out.mono ?_; rintro e w1 ⟨rfl, hk, vw, vp, vj, vf, vo, hT1⟩)
   go_meet
   case rel => exact ⟨_, _, _, _, _, _, by simp [Tk.say, h0], HX2, ⟨hT1⟩, ⟨hk.below (Below.refl _ _) hbw⟩, hk.1.2.2.2⟩
  have cb : ((t0.word.length : Int) == 0) = false := by simpa using h0
  have HX1 := HX.out
  rw [if_neg h0] at HX1
  have HX2 := am HX1
  clear HX1
  go_wp2_with fail
  go_meet
  case rel => exact ⟨_, _, _, _, _, _, h400, HX2, HT, ⟨Below.refl _ _⟩, Nat.le_refl _⟩
 case rest =>
  obtain ⟨t1, vw1, vp1, vj1, vf1, vo1, h41, HX1, HT1, HB1, hs1⟩ := hcut
  clear k4 k8 HX HT h400
  have HTOP := am (top_any vo1 t1.opn wc HT1.out.r.o (Nat.le_trans HT1.out.ok.hl HT1.out.ok.hw))
  obtain ⟨Ao, co, rfl⟩ := Kd.R_slice HT1.out.r.o
  have k8 : wc.cell? ⟨g, 8, none⟩ = some (.slice Ao t1.opn.length co) := (blk_cell HT1.out.b 8).trans rfl
  have hgc : g < wc.heap.size := HT1.out.lt
  obtain ⟨nI, hnI⟩ : ∃ nI, t1.opn.getLast?.getD (-1) = nI := ⟨_, rfl⟩
  obtain ⟨sB, hsB⟩ : ∃ sB, t1.opn.getLast?.isSome = sB := ⟨_, rfl⟩
  rw [hnI, hsB] at HTOP
  have HNS := am (And.intro hnI hsB)
  clear hnI hsB
  go_wp2_with (go_at_call 79; refine HTOP.out.mono ?_; rintro e w2 ⟨rfl, hb2⟩; have HT2 := am (HT1.out.below hb2); have HB2 := am (HB1.out.trans (hb2.mono (by omega))); have hs2 := hb2.size)
  go_loopg [4, 5] (401 - t1.word.length) (fun gg s4 s5 wr => ∃ (t : Tk) (vw vp vj vf vo : Value) (nI : Int) (sB : Bool), s4 = .int .i64 nI ∧ s5 = .bool sB ∧ Aside0 (t.opn.getLast?.getD (-1) = nI ∧ t.opn.getLast?.isSome = sB) ∧ t.word.length ≤ 400 ∧ 401 - t.word.length ≤ gg ∧ Aside0 (closeT t.opn.length t = X) ∧ Aside0 (Talk base wr g A c ids rc rn jb t vw vp vj vf vo) ∧ Aside0 (Below base w wr) ∧ w.heap.size ≤ wr.heap.size)
  case atStart => exact ⟨t1, _, _, _, _, _, nI, sB, rfl, rfl, HNS, h41, Nat.le_refl _, HX1, HT2, HB2, by omega⟩
  case round =>
   clear HTOP HT1 HB1 HX1 HT2 HB2 k8 hgc
   obtain ⟨t, vw, vp, vj, vf, vo, nI, sB, rfl, rfl, HN, h40, hg, HX, HT, HB, hs⟩ := hrel
   have hgr : g < wr.heap.size := HT.out.lt
   cases ht : t.top with
   | none =>
    have hop : t.opn = [] := by
     cases ho : t.opn with
     | nil => rfl
     | cons a l => rw [Tk.top, ho] at ht; simp at ht
    have hsb : sB = false := by rw [← HN.out.2, hop]; rfl
    subst hsb
    have HE := am (show some t = X by rw [← HX.out, hop]; rfl)
    obtain ⟨Aw, cw, rfl⟩ := Kd.R_slice HT.out.r.w
    have k4 : wr.cell? ⟨g, 4, none⟩ = some (.slice Aw t.word.length cw) := (blk_cell HT.out.b 4).trans rfl
    clear ht hop
    go_wp2
    go_ret2
    refine Ret2.mk _ (by rw [← HE.out]; rfl) ⟨?_, HB.out⟩
    rw [← HE.out]
    exact HT.out.r.w
   | some n =>
    have hst := closeT_step ht
    rw [HX.out] at hst
    obtain ⟨hn0, hn1⟩ := HT.out.ok.topI ht
    have hni : nI = n := by
     have h1 := HN.out.1
     rw [show t.opn.getLast? = some n from ht] at h1
     exact h1.symm
    have hsb : sB = true := by rw [← HN.out.2, show t.opn.getLast? = some n from ht]; rfl
    subst hni hsb
    have hne : t.opn ≠ [] := by
     intro h
     rw [Tk.top, h] at ht
     cases ht
    have hto : t.topI = nI := by rw [Tk.topI, ht]; rfl
    have HST := am hst
    have HTO := am hto
    have HNE := am hne
    clear hst ht hto hne
    go_upto_region 6 with fail
    have HBd := am ((Below.refl wr.heap.size wr).drew)
    have HTd := am (HT.out.below HBd.out)
    have hszd : wr.drew.heap.size = wr.heap.size := rfl
    obtain ⟨gw, cw, q, hvw, hgw2, hq, a0, a1, a2, a3⟩ := HTd.out.r.w.get nI hn0 hn1
    cases hvw
    have HQ := am (show t.mv nI = q from hq)
    clear hq a2 a3
    have k4 : wr.drew.cell? ⟨g, 4, none⟩ = some (.slice (some ⟨gw, 0, none⟩) t.word.length cw) := (blk_cell HTd.out.b 4).trans rfl
    refine start_ (n := 19) (S := fun w' => w'.cell? ⟨g, 4, none⟩ = some (.slice (some ⟨gw, 0, none⟩) t.word.length cw) ∧ w'.cell? ⟨gw, nI.toNat * 4, none⟩ = some (.int .i64 q.f0) ∧ w'.cell? ⟨gw, nI.toNat * 4 + 1, none⟩ = some (.int .i64 q.f1)) (ds := [18]) (Mq [0,19]) (by kernel_rfl) rfl rfl ⟨k4, a0, a1⟩ (fun hHeld => ?_)
    generalize wr.drew = wd at HBd HTd hszd k4 a0 a1 hHeld ⊢
    have HBa := am ((Below.refl wd.heap.size wd).alloc (Nat.le_refl _) (.cells #[.int .i64 0, .int .i64 0, .int .u8 0, .int .i64 0] 52))
    have HKa := am (show (wd.alloc (.cells #[.int .i64 0, .int .i64 0, .int .u8 0, .int .i64 0] 52)).heap[wr.heap.size]? = some (.cells #[.int .i64 0, .int .i64 0, .int .u8 0, .int .i64 0] 52 (0, 0)) by rw [← hszd]; exact heap_alloc_new wd _)
    have f0 := blk_frozen HKa.out 0
    have f1 := blk_frozen HKa.out 1
    have f2 := blk_frozen HKa.out 2
    have f3 := blk_frozen HKa.out 3
    have d0 : (wd.alloc (.cells #[.int .i64 0, .int .i64 0, .int .u8 0, .int .i64 0] 52)).cell? ⟨wr.heap.size, 0, none⟩ = some (.int .i64 0) := (blk_cell HKa.out 0).trans rfl
    have d1 : (wd.alloc (.cells #[.int .i64 0, .int .i64 0, .int .u8 0, .int .i64 0] 52)).cell? ⟨wr.heap.size, 1, none⟩ = some (.int .i64 0) := (blk_cell HKa.out 1).trans rfl
    have d2 : (wd.alloc (.cells #[.int .i64 0, .int .i64 0, .int .u8 0, .int .i64 0] 52)).cell? ⟨wr.heap.size, 2, none⟩ = some (.int .u8 0) := (blk_cell HKa.out 2).trans rfl
    have d3 : (wd.alloc (.cells #[.int .i64 0, .int .i64 0, .int .u8 0, .int .i64 0] 52)).cell? ⟨wr.heap.size, 3, none⟩ = some (.int .i64 0) := (blk_cell HKa.out 3).trans rfl
    refine pure_ (i := 0) (N:=some 33) (v:=?_) (a':=?_) (Mq [1,18]) rfl rfl (by kernel_rfl) (fun _ _ _ h => h) (Or.inl ⟨by rfl, ?_⟩) ?_ ?_;rotate_left;(intro w';go_simp;with_reducible rfl);rotate_left;(simp only [Act.put,sn1,sn2,sn3,i64_w];rfl)
    refine pure_ (i := 1) (N:=some 34) (v:=?_) (a':=?_) (Mq [2,17]) rfl rfl (by kernel_rfl) (fun _ _ _ h => h) (Or.inl ⟨by rfl, ?_⟩) ?_ ?_;rotate_left;(intro w';go_simp;with_reducible rfl);rotate_left;(simp only [Act.put,sn1,sn2,sn3,i64_w];rfl)
    refine pure_ (i := 2) (N:=some 35) (v:=?_) (a':=?_) (Mq [3,16]) rfl rfl (by kernel_rfl) (fun _ _ _ h => h) (Or.inl ⟨by rfl, ?_⟩) ?_ ?_;rotate_left;(intro w';go_simp;with_reducible rfl);rotate_left;(simp only [Act.put,sn1,sn2,sn3,i64_w];rfl)
    refine pure_ (i := 4) (N:=some 37) (v:=?_) (a':=?_) (Mq [3,1,1,14]) rfl rfl (by kernel_rfl) (fun _ _ _ h => h) (Or.inl ⟨by rfl, ?_⟩) ?_ ?_;rotate_left;(intro w';go_simp;with_reducible rfl);rotate_left;(simp only [Act.put,sn1,sn2,sn3,i64_w];rfl)
    refine pure_ (i := 8) (N:=some 41) (v:=?_) (a':=?_) (Mq [3,1,1,3,1,10]) rfl rfl (by kernel_rfl) (fun _ _ _ h => h) (Or.inl ⟨by rfl, ?_⟩) ?_ ?_;rotate_left;(intro w';go_simp;with_reducible rfl);rotate_left;(simp only [Act.put,sn1,sn2,sn3,i64_w];rfl)
    refine pure_ (i := 9) (N:=some 42) (v:=?_) (a':=?_) (Mq [3,1,1,3,2,9]) rfl rfl (by kernel_rfl) (fun _ _ _ h => h) (Or.inl ⟨by rfl, ?_⟩) ?_ ?_;rotate_left;(intro w';go_simp;with_reducible rfl);rotate_left;(simp only [Act.put,sn1,sn2,sn3,i64_w];rfl)
    refine pure_ (i := 10) (N:=some 43) (v:=?_) (a':=?_) (Mq [3,1,1,3,3,8]) rfl rfl (by kernel_rfl) (fun _ _ _ h => h) (Or.inl ⟨by rfl, ?_⟩) ?_ ?_;rotate_left;(intro w';go_simp;with_reducible rfl);rotate_left;(simp only [Act.put,sn1,sn2,sn3,i64_w];rfl)
    refine pure_ (i := 12) (N:=some 45) (v:=?_) (a':=?_) (Mq [3,1,1,3,3,1,1,6]) rfl rfl (by kernel_rfl) (fun _ _ _ h => h) (Or.inl ⟨by rfl, ?_⟩) ?_ ?_;rotate_left;(intro w';go_simp;with_reducible rfl);rotate_left;(simp only [Act.put,sn1,sn2,sn3,i64_w];rfl)
    refine take_ (i := 3) (N:=some 36) (v:=?_) (a':=?_) (Mq [5,3,3,1,1,6]) rfl rfl (by kernel_rfl) (fun _ _ _ h => h) (Or.inl ⟨by rfl, ?_⟩) hHeld ?_ ?_
    rotate_left
    ·rintro w' ⟨s0, s1, s2⟩
     go_simp
     with_reducible rfl
    rotate_left
    ·simp only [Act.put,sn1,sn2,sn3,i64_w]
     rfl
    refine pure_ (i := 5) (N:=some 38) (v:=?_) (a':=?_) (Mq [6,2,3,1,1,6]) rfl rfl (by kernel_rfl) (fun _ _ _ h => h) (Or.inl ⟨by rfl, ?_⟩) ?_ ?_;rotate_left;(intro w';go_simp;with_reducible rfl);rotate_left;(simp only [Act.put,sn1,sn2,sn3,i64_w];rfl)
    refine pure_ (i := 6) (N:=some 39) (v:=?_) (a':=?_) (Mq [7,1,3,1,1,6]) rfl rfl (by kernel_rfl) (fun _ _ _ h => h) (Or.inl ⟨by rfl, ?_⟩) ?_ ?_;rotate_left;(intro w';go_simp;with_reducible rfl);rotate_left;(simp only [Act.put,sn1,sn2,sn3,i64_w];rfl)
    refine take_ (i := 7) (N:=some 40) (v:=?_) (a':=?_) (Mq [11,1,1,6]) rfl rfl (by kernel_rfl) (fun _ _ _ h => h) (Or.inl ⟨by rfl, ?_⟩) hHeld ?_ ?_
    rotate_left
    ·rintro w' ⟨s0, s1, s2⟩
     go_simp
     with_reducible rfl
    rotate_left
    ·simp only [Act.put,sn1,sn2,sn3,i64_w]
     rfl
    refine take_ (i := 11) (N:=some 44) (v:=?_) (a':=?_) (Mq [13,6]) rfl rfl (by kernel_rfl) (fun _ _ _ h => h) (Or.inl ⟨by rfl, ?_⟩) hHeld ?_ ?_
    rotate_left
    ·rintro w' ⟨s0, s1, s2⟩
     go_simp
     with_reducible rfl
    rotate_left
    ·simp only [Act.put,sn1,sn2,sn3,i64_w]
     rfl
    refine pure_ (i := 13) (N:=some 46) (v:=?_) (a':=?_) (Mq [14,5]) rfl rfl (by kernel_rfl) (fun _ _ _ h => h) (Or.inl ⟨by rfl, ?_⟩) ?_ ?_;rotate_left;(intro w';go_simp;with_reducible rfl);rotate_left;(simp only [Act.put,sn1,sn2,sn3,i64_w];rfl)
    refine pure_ (i := 14) (N:=some 47) (v:=?_) (a':=?_) (Mq [15,4]) rfl rfl (by kernel_rfl) (fun _ _ _ h => h) (Or.inl ⟨by rfl, ?_⟩) ?_ ?_;rotate_left;(intro w';go_simp;with_reducible rfl);rotate_left;(simp only [Act.put,sn1,sn2,sn3,i64_w];rfl)
    refine take_ (i := 15) (N:=some 48) (v:=?_) (a':=?_) (Mq [16,3]) rfl rfl (by kernel_rfl) (fun _ _ _ h => h) (Or.inl ⟨by rfl, ?_⟩) hHeld ?_ ?_
    rotate_left
    ·rintro w' ⟨s0, s1, s2⟩
     go_simp
     with_reducible rfl
    rotate_left
    ·simp only [Act.put,sn1,sn2,sn3,i64_w]
     rfl
    refine pure_ (i := 16) (N:=some 49) (v:=?_) (a':=?_) (Mq [17,2]) rfl rfl (by kernel_rfl) (fun _ _ _ h => h) (Or.inl ⟨by rfl, ?_⟩) ?_ ?_;rotate_left;(intro w';go_simp;with_reducible rfl);rotate_left;(simp only [Act.put,sn1,sn2,sn3,i64_w];rfl)
    refine one_ (i := 17) (N:=some 6) (Mq [18,1]) rfl rfl (by kernel_rfl) (by decide) (fun K hK => ?_)
    refine value_ (w1 := ?_) (v := ?_) (by rfl) rfl ?_ ?_
    rotate_left 2
    ·go_simp
     constructor
     ·rfl
     rfl
    refine hK.out _ _ ⟨(HBa.out.cell (World.block_lt_of_cell? _ _ k4)).trans k4, (HBa.out.cell (World.block_lt_of_cell? _ _ a0)).trans a0, (HBa.out.cell (World.block_lt_of_cell? _ _ a1)).trans a1⟩ (fun hHeld => ?_)
    clear hK K
    refine norm_ (a' := ?_) ?_ ?_
    rotate_left
    ·show Act.put _ (some 6) _ = _
     simp only [Act.put,sn1,sn2,sn3,i64_w]
     rfl
    refine last_ (i := 18) (N := none) (Mq [19]) rfl rfl (by kernel_rfl) (by decide) (fun K hK => ?_)
    refine skip_ (w1 := ?_) (by rfl) rfl ?_ ?_
    rotate_left
    ·go_simp
     rfl
    refine hK.out _ _ ?_
    clear hK K
    refine done_ (by kernel_rfl) ?_
    refine name_worldE ?_
    intro w5 hw5
    have BX := am (show w5.heap[wr.heap.size]? = some (.cells #[.int .i64 q.f0, .int .i64 q.f1, .int .u8 3, .int .i64 0] 52 (0, 0)) by rw [← hw5, ← hszd]; exact heap_alloc_new wd _)
    have HB5 := am (show Below wd.heap.size wd w5 by rw [← hw5]; exact (Below.refl wd.heap.size wd).alloc (Nat.le_refl _) _)
    clear hw5 HBa HKa f0 f1 f2 f3 d0 d1 d2 d3 k4 a0 a1
    have HT5 := am (HTd.out.below HB5.out)
    have hs5 : wr.heap.size < w5.heap.size := blk_lt BX.out
    have hgn : g ≠ wr.heap.size := by omega
    have HB6 := am (HB.out.trans ((HBd.out.mono (by omega)).trans (HB5.out.mono (by omega))))
    have k9 : w5.cell? ⟨g, 9, none⟩ = some (.bool t.force) := (blk_cell HT5.out.b 9).trans rfl
    have k10 : w5.cell? ⟨g, 10, none⟩ = some (.bool t.lost) := (blk_cell HT5.out.b 10).trans rfl
    have k4 : w5.cell? ⟨g, 4, none⟩ = some (.slice (some ⟨gw, 0, none⟩) t.word.length cw) := (blk_cell HT5.out.b 4).trans rfl
    have b0 : w5.cell? ⟨wr.heap.size, 0, none⟩ = some (.int .i64 q.f0) := (blk_cell BX.out 0).trans rfl
    have b1 : w5.cell? ⟨wr.heap.size, 1, none⟩ = some (.int .i64 q.f1) := (blk_cell BX.out 1).trans rfl
    have b2 : w5.cell? ⟨wr.heap.size, 2, none⟩ = some (.int .u8 3) := (blk_cell BX.out 2).trans rfl
    have b3 : w5.cell? ⟨wr.heap.size, 3, none⟩ = some (.int .i64 0) := (blk_cell BX.out 3).trans rfl
    have fb := blk_frozen BX.out 3
    have hg5 : g < w5.heap.size := HT5.out.lt
    rcases hfo : t.force with _ | _
    ·rw [hfo] at k9
     rcases hlo : t.lost with _ | _
     ·rw [hlo] at k10
      have HFL := am (And.intro hfo hlo)
      clear hfo hlo
      have HB5' := am (HB5.out)
      have HB6' := am (HB6.out)
      have HM := am (show t.closeM = ⟨q.f0, q.f1, 3, 0⟩ by rw [Tk.closeM, HTO.out, HQ.out, HFL.out.1, HFL.out.2]; rfl)
      by_cases h4 : t.word.length = 400
      ·have c4 : ((t.word.length : Int) == 400) = true := by simp [h4]
       have hX := HST.out
       rw [if_pos h4] at hX
       have HXN := am hX
       clear hX
       go_wp2
       go_ret2
       exact Ret2.mk _ (by rw [HXN.out]; rfl) ⟨by rw [HXN.out]; exact Kd.R_nil _ _ _ _ _, HB6'.out⟩
      have c4 : ((t.word.length : Int) == 400) = false := by simp; omega
      have hX := HST.out
      rw [if_neg h4, HM.out] at hX
      have HXN := am hX
      clear hX
      have HSAY := am (say_any (HTd.out.below HB5'.out) ⟨q.f0, q.f1, 3, 0⟩ (fun _ => HNE.out) (by omega))
      go_wp2_with (first
       | (go_at_call 78; refine HSAY.out.mono ?_; rintro e w7 ⟨rfl, hk7, vw7, vp7, vj7, vf7, vo7, hT7⟩; have HT7 := am hT7; have hs7 := hk7.1.2.2.2; have HB7 := am (hk7.below HB6'.out (by first | omega | (simp; omega))); have HTOP7 := am (top_any vo7 _ w7 hT7.r.o (Nat.le_trans hT7.ok.hl hT7.ok.hw)); obtain ⟨Ao7, co7, rfl⟩ := Kd.R_slice hT7.r.o; have k87 : w7.cell? ⟨g, 8, none⟩ = some _ := (blk_cell hT7.b 8).trans rfl; clear hT7 hk7)
       | (go_at_call 79; refine HTOP7.out.mono ?_; rintro e w8 ⟨rfl, hb8⟩))
      go_roundg (400 - t.word.length)
      case measure => omega
      case rel => exact ⟨t.say ⟨q.f0, q.f1, 3, 0⟩, _, _, _, _, _, _, _, rfl, rfl, ⟨rfl, rfl⟩, by simp only [Tk.say, List.length_append, List.length_singleton]; omega, by simp only [Tk.say, List.length_append, List.length_singleton]; omega, ⟨HXN.out.symm⟩, ⟨HT7.out.below hb8⟩, ⟨HB7.out.trans (hb8.mono (by (try simp at hs7); omega))⟩, by have := hb8.size; (try simp at hs7); omega⟩
     rw [hlo] at k10
     have HFL := am (And.intro hfo hlo)
     clear hfo hlo
     have HB5' := am (HB5.out.setCell (p := ⟨wr.heap.size, 3, none⟩) (show wd.heap.size ≤ wr.heap.size by omega) (.int .i64 (-1)))
     have HB6' := am (HB6.out.setCell (p := ⟨wr.heap.size, 3, none⟩) (show base ≤ wr.heap.size by omega) (.int .i64 (-1)))
     have HM := am (show t.closeM = ⟨q.f0, q.f1, 3, -1⟩ by rw [Tk.closeM, HTO.out, HQ.out, HFL.out.1, HFL.out.2]; rfl)
     by_cases h4 : t.word.length = 400
     ·have c4 : ((t.word.length : Int) == 400) = true := by simp [h4]
      have hX := HST.out
      rw [if_pos h4] at hX
      have HXN := am hX
      clear hX
      go_wp2
      go_ret2
      exact Ret2.mk _ (by rw [HXN.out]; rfl) ⟨by rw [HXN.out]; exact Kd.R_nil _ _ _ _ _, HB6'.out⟩
     have c4 : ((t.word.length : Int) == 400) = false := by simp; omega
     have hX := HST.out
     rw [if_neg h4, HM.out] at hX
     have HXN := am hX
     clear hX
     have HSAY := am (say_any (HTd.out.below HB5'.out) ⟨q.f0, q.f1, 3, -1⟩ (fun _ => HNE.out) (by omega))
     go_wp2_with (first
      | (go_at_call 78; refine HSAY.out.mono ?_; rintro e w7 ⟨rfl, hk7, vw7, vp7, vj7, vf7, vo7, hT7⟩; have HT7 := am hT7; have hs7 := hk7.1.2.2.2; have HB7 := am (hk7.below HB6'.out (by first | omega | (simp; omega))); have HTOP7 := am (top_any vo7 _ w7 hT7.r.o (Nat.le_trans hT7.ok.hl hT7.ok.hw)); obtain ⟨Ao7, co7, rfl⟩ := Kd.R_slice hT7.r.o; have k87 : w7.cell? ⟨g, 8, none⟩ = some _ := (blk_cell hT7.b 8).trans rfl; clear hT7 hk7)
      | (go_at_call 79; refine HTOP7.out.mono ?_; rintro e w8 ⟨rfl, hb8⟩))
     go_roundg (400 - t.word.length)
     case measure => omega
     case rel => exact ⟨t.say ⟨q.f0, q.f1, 3, -1⟩, _, _, _, _, _, _, _, rfl, rfl, ⟨rfl, rfl⟩, by simp only [Tk.say, List.length_append, List.length_singleton]; omega, by simp only [Tk.say, List.length_append, List.length_singleton]; omega, ⟨HXN.out.symm⟩, ⟨HT7.out.below hb8⟩, ⟨HB7.out.trans (hb8.mono (by (try simp at hs7); omega))⟩, by have := hb8.size; (try simp at hs7); omega⟩
    rw [hfo] at k9
    have HFL := am hfo
    clear hfo
    have HB5' := am (HB5.out.setCell (p := ⟨wr.heap.size, 3, none⟩) (show wd.heap.size ≤ wr.heap.size by omega) (.int .i64 (-1)))
    have HB6' := am (HB6.out.setCell (p := ⟨wr.heap.size, 3, none⟩) (show base ≤ wr.heap.size by omega) (.int .i64 (-1)))
    have HM := am (show t.closeM = ⟨q.f0, q.f1, 3, -1⟩ by rw [Tk.closeM, HTO.out, HQ.out, HFL.out]; rfl)
    by_cases h4 : t.word.length = 400
    ·have c4 : ((t.word.length : Int) == 400) = true := by simp [h4]
     have hX := HST.out
     rw [if_pos h4] at hX
     have HXN := am hX
     clear hX
     go_wp2
     go_ret2
     exact Ret2.mk _ (by rw [HXN.out]; rfl) ⟨by rw [HXN.out]; exact Kd.R_nil _ _ _ _ _, HB6'.out⟩
    have c4 : ((t.word.length : Int) == 400) = false := by simp; omega
    have hX := HST.out
    rw [if_neg h4, HM.out] at hX
    have HXN := am hX
    clear hX
    have HSAY := am (say_any (HTd.out.below HB5'.out) ⟨q.f0, q.f1, 3, -1⟩ (fun _ => HNE.out) (by omega))
    go_wp2_with (first
     | (go_at_call 78; refine HSAY.out.mono ?_; rintro e w7 ⟨rfl, hk7, vw7, vp7, vj7, vf7, vo7, hT7⟩; have HT7 := am hT7; have hs7 := hk7.1.2.2.2; have HB7 := am (hk7.below HB6'.out (by first | omega | (simp; omega))); have HTOP7 := am (top_any vo7 _ w7 hT7.r.o (Nat.le_trans hT7.ok.hl hT7.ok.hw)); obtain ⟨Ao7, co7, rfl⟩ := Kd.R_slice hT7.r.o; have k87 : w7.cell? ⟨g, 8, none⟩ = some _ := (blk_cell hT7.b 8).trans rfl; clear hT7 hk7)
     | (go_at_call 79; refine HTOP7.out.mono ?_; rintro e w8 ⟨rfl, hb8⟩))
    go_roundg (400 - t.word.length)
    case measure => omega
    case rel => exact ⟨t.say ⟨q.f0, q.f1, 3, -1⟩, _, _, _, _, _, _, _, rfl, rfl, ⟨rfl, rfl⟩, by simp only [Tk.say, List.length_append, List.length_singleton]; omega, by simp only [Tk.say, List.length_append, List.length_singleton]; omega, ⟨HXN.out.symm⟩, ⟨HT7.out.below hb8⟩, ⟨HB7.out.trans (hb8.mono (by (try simp at hs7); omega))⟩, by have := hb8.size; (try simp at hs7); omega⟩
theorem enters_close1 : ∀ args w, (callFunc 77 args).run Tryz.prog w = .ok (.enter 77 args) w := enters_of Tryz.func77 (by kernel_rfl) rfl
def clsE (ids : List S68) (rc : Bool) (rn : Int) (jb : Bool) (l : List Mv) : Int := if tellE ids rc rn jb l ≠ 0 then tellE ids rc rn jb l else closeE (talkL ids rc rn jb l)
theorem pClose_any (A : Option Addr) (c : Nat) (ids : List S68) (rc : Bool) (rn : Int) (jb : Bool) (A1 : Option Addr) (c1 : Nat) (l : List Mv) (w : World) (hr : Kd.C k68 w A ids.length ids) (hr1 : Kd.C k52 w A1 l.length l) (hl : l.length ≤ 1000000) :
  Calls Tryz.prog 39 #[.agg #[.slice A ids.length c, .bool rc, .int .i64 rn, .bool jb], .slice A1 l.length c1] w (Ret2 (clsE ids rc rn jb l) fun v w' => RM w' w.heap.size v (okL (clsE ids rc rn jb l) (closeL (talkL ids rc rn jb l))) ∧ Below w.heap.size w w') := by
 have HB := am ((Below.refl _ w).alloc (Nat.le_refl _) (.cells #[.slice A ids.length c, .bool rc, .int .i64 rn, .bool jb] 26))
 have HO := am (fun (V : World) (hb : Below w.heap.size w V) => toldW_any A c ids rc rn jb A1 c1 l _ #[] enters_close1 (closeE (talkL ids rc rn jb l)) (fun v V' => RM V' w.heap.size v (closeL (talkL ids rc rn jb l)) ∧ Below w.heap.size w V') V (Kd.C_below hr hb) (Kd.C_below hr1 hb) hl
  (fun hz V2 g vw vp vj vf vo hb2 hle hT => (close1_any hT hle (by show (walkL ids rc rn jb Tk.empty l).word.length ≤ 400; have h1 := walkL_len ids rc rn jb l Tk.empty; have h2 := (tellE_zero hz).2.1; have e0 : Tk.empty.word.length = 0 := rfl; omega)).mono (by
   have hlw := hb.size
   rintro e V3 ⟨r, rfl, hR, hb3⟩
   exact ⟨r, rfl, Kd.R_lower hR (by omega), hb.trans ((hb2.mono hlw).trans (hb3.mono (by omega)))⟩)))
 clear hr hr1
 go_enter Tryz.func39, Tryz.ntmps39
 go_wp2_with (go_at_call 76; refine (HO.out _ HB.out).mono ?_; rintro e w1 (⟨hE, rfl, hb1⟩ | ⟨hE, r, rfl, hR, hb1⟩))
 ·go_ret2
  have e : clsE ids rc rn jb l = tellE ids rc rn jb l := by rw [clsE, if_pos hE]
  exact Ret2.mk _ (by rw [e]; rfl) ⟨by rw [e, okL_no _ hE]; exact Kd.R_nil _ _ _ _ _, HB.out.trans (hb1.mono (by simp))⟩
 ·go_ret2
  have hs : closeE (talkL ids rc rn jb l) = 0 := by assumption
  have e : clsE ids rc rn jb l = 0 := by rw [clsE, if_neg (by simpa using hE)]; exact hs
  exact Ret2.mk _ (by rw [e]; rfl) ⟨by rw [e]; exact hR, hb1⟩
 go_ret2
 have hs : ¬ closeE (talkL ids rc rn jb l) = 0 := by assumption
 have e : clsE ids rc rn jb l = closeE (talkL ids rc rn jb l) := by rw [clsE, if_neg (by simpa using hE)]
 exact Ret2.mk _ (by rw [e]; rfl) ⟨by rw [e, okL_no _ hs]; exact Kd.R_nil _ _ _ _ _, hb1⟩
def encI (n : Int) : Array Value := #[.int .i64 n]
theorem St.setCell {b g j : Nat} {wr : Nat → Prop} {W : World} (v : Value) (hg : wr g) : St b wr W (W.setCell ⟨g, j, none⟩ v) :=
 ⟨⟨rfl, rfl, rfl, by simp [World.setCell]⟩, fun k o hk hx _ => (Below.heap_setCell W ⟨g, j, none⟩ v k (by rintro rfl; exact hx hg)).trans hk⟩
theorem RB.get {W : World} {base : Nat} {v : Value} {xs : List Bool} (h : RB W base v xs) (i : Nat) (hi : i < xs.length) :
  ∃ g c, v = .slice (some ⟨g, 0, none⟩) xs.length c ∧ g < W.heap.size ∧ W.cell? ⟨g, i, none⟩ = some (.bool (xs.getD i false)) := by
 have ho := Kd.own_of_R h
 rcases ho.2 with ⟨_, h0⟩ | ⟨g, c, cur, rfl, hb, hh, _⟩
 ·omega
 have h1 := own_at_of (d := false) ho (i : Int) (by omega) (by omega)
 rw [Int.toNat_natCast] at h1
 exact ⟨g, c, rfl, blk_lt hh, h1.1⟩
def Tk.bef (t : Tk) (n : Int) : Int := if isAns (t.mv n) && t.forc.getD n.toNat false then n - 1 else t.just.getD n.toNat 0
def backL (t : Tk) : Nat → Int → Option (List Int)
 | 0, _ => none
 | k + 1, n => if n < 0 then some [] else if n < t.word.length then if t.bef n < 0 then some [n] else (backL t k (t.bef n - 1)).map fun l => n :: t.bef n :: l else none
def frontL (t : Tk) : Nat → Int → Option (List Int)
 | 0, _ => none
 | k + 1, n => if 0 ≤ n ∧ n < t.word.length then if isPar (t.mv n) then (frontL t k (t.part.getD n.toNat 0 - 1)).map fun l => n :: t.part.getD n.toNat 0 :: l else some [n, 0] else none
theorem normE {Q : Exit → Act → World → Prop} {a a' : Act} {w : World} (h : a = a') (hq : Q .normal a' w) : Q .normal a w := h ▸ hq
theorem backL_lt {t : Tk} {k : Nat} {n : Int} {l : List Int} (h : backL t k n = some l) : n < 0 ∨ n < t.word.length := by
 cases k with
 | zero => simp [backL] at h
 | succ k =>
  rw [backL] at h
  by_cases h0 : n < 0
  ·exact .inl h0
  rw [if_neg h0] at h
  by_cases h1 : n < t.word.length
  ·exact .inr h1
  rw [if_neg h1] at h
  cases h
theorem drop_next {α : Type} {L : List α} {i : Nat} {x : α} {r : List α} (h : L.drop i = x :: r) : L.drop (i + 1) = r := by
 rw [← List.drop_drop, h]
 rfl
set_option maxRecDepth 8000 in
set_option maxHeartbeats 4000000 in
theorem back1_gives {base : Nat} {w0 : World} {g : Nat} {A : Option Addr} {c : Nat} {ids : List S68} {rc : Bool} {rn : Int} {jb : Bool} {t : Tk} {vw vp vj vf vo : Value} (h : Talk base w0 g A c ids rc rn jb t vw vp vj vf vo) (bt bn : Nat) (hbt : w0.heap[bt]? = some (.cells #[.pointer (some ⟨g, 0, none⟩)] 70 (0, 0))) (hbn : w0.heap.size ≤ bn) (fuel : Nat) (n : Int) (L : List Int) (hL : backL t fuel n = some L) :
  Gives Tryz.prog 101 (fun y => #[] ++ #[y] ++ #[.pointer (some ⟨bn, 0, none⟩), .pointer (some ⟨bt, 0, none⟩)]) encI L w0.heap.size w0 (fun k => k = bn) (fun k => k = bn) (fun _ => False) (fun W => W.heap[bn]? = some (.cells #[.int .i64 n] 3 (0, 0))) := by
 intro y J Jx W _ hB hn0 hpre hJ hJx hY h0
 refine (callsIn_wide (n := 9)).1 ?_
 show CallsIn (FW none) 9 Tryz.prog 101 #[y, .pointer (some ⟨bn, 0, none⟩), .pointer (some ⟨bt, 0, none⟩)] W _
 have HJ := am hJ
 have HJx := am hJx
 have HY := am hY
 have H0 := am h0
 have HT := am h
 have HB0 := am hB
 have HP := am hpre
 have HBT := am hbt
 have HL := am hL
 clear hJ hJx hY h0 hB hpre h hbt hL
 gi_enter Tryz.func101, Tryz.ntmps101
 gi_wp2
 gi_loopg [] fuel (fun gg wr => ∃ (i : Nat) (m : Int) (M : List Int), Aside0 (backL t gg m = some M) ∧ Aside0 (L.drop i = M) ∧ i ≤ L.length ∧ Aside0 (J i wr) ∧ Aside0 (Below w0.heap.size w0 wr) ∧ Aside0 (wr.heap[bn]? = some (.cells #[.int .i64 m] 3 (0, 0))) ∧ W.heap.size ≤ wr.heap.size)
 case atStart => exact ⟨0, n, L, HL, ⟨rfl⟩, Nat.zero_le _, H0, HB0, HP, Nat.le_refl _⟩
 case round =>
  obtain ⟨i, m, M, HM, HD, hi, HJi, HB, HN, hsz⟩ := hrel
  cases gk with
  | zero =>
   have := HM.out
   simp [backL] at this
  | succ gk =>
  have hM := HM.out
  rw [backL] at hM
  have hnn : wr.cell? ⟨bn, 0, none⟩ = some (.int .i64 m) := (blk_cell HN.out 0).trans rfl
  by_cases hm0 : m < 0
  ·rw [if_pos hm0] at hM
   have e : i = L.length := by
    have h1 := HD.out
    rw [← Option.some.inj hM] at h1
    have := List.drop_eq_nil_iff.1 h1
    omega
   have E := am e
   have cb : decide (0 ≤ m) = false := decide_eq_false (by omega)
   clear hM e
   gi_wp2
   go_end0
   exact ⟨⟨_, rfl⟩, hsz, .inl (by rw [← E.out]; exact HJi.out)⟩
  rw [if_neg hm0] at hM
  by_cases hm1 : m < t.word.length
  ·rw [if_pos hm1] at hM
   have hm0' : 0 ≤ m := by omega
   have cb : decide (0 ≤ m) = true := decide_eq_true hm0'
   obtain ⟨gw, cw, q, hvw, hgw, hq, a0, a1, a2, a3⟩ := HT.out.r.w.get m hm0' hm1
   obtain ⟨gj, cj, hvj, hgj, aj⟩ := HT.out.r.j.get m.toNat (by have := HT.out.ok.hj; omega)
   obtain ⟨gf, cf, hvf, hgf, af⟩ := RB.get HT.out.r.f m.toNat (by have := HT.out.ok.hf; omega)
   cases hvw
   cases hvj
   cases hvf
   have hjl := HT.out.ok.hj
   have hfl := HT.out.ok.hf
   have hmj : m < (t.just.length : Int) := by omega
   have hmf : m < (t.forc.length : Int) := by omega
   have HLi := am (show L[i]? = some m by
    split at hM
    ·have h1 := HD.out
     rw [← Option.some.inj hM] at h1
     exact drop_at h1
    obtain ⟨l, _, hl⟩ := Option.map_eq_some_iff.1 hM
    have h1 := HD.out
    rw [← hl] at h1
    exact drop_at h1)
   obtain ⟨jm, hjm⟩ : ∃ jm, t.just.getD m.toNat 0 = jm := ⟨_, rfl⟩
   obtain ⟨fm, hfm⟩ : ∃ fm, t.forc.getD m.toNat false = fm := ⟨_, rfl⟩
   rw [hjm] at aj
   rw [hfm] at af
   have HBEF := am (show t.bef m = if isAns q && fm then m - 1 else jm by rw [Tk.bef, Tk.mv, hq, hfm, hjm])
   have HQ := am hq
   have HM := am hM
   clear hM hq hjm hfm
   gi_wp2_with ((with_reducible refine gateIn (N := 9) rfl ?_); refine wpListIn_vcall y (encI m) _ _ _ rfl rfl rfl rfl rfl (HY.out i _ _ HLi.out HJi.out hsz) ?_)
   rintro v w4 (⟨rfl, hj4, hk4⟩ | ⟨rfl, hj4, hk4⟩)
   ·have hsw : w0.heap.size ≤ wr.heap.size := by omega
    have HB4 := am (hk4.below HB.out hsw)
    have HN4 := am (hk4.2 _ _ HN.out (.inr (.inl rfl)))
    have HJ4 := am hj4
    have hs4 : wr.heap.size ≤ w4.heap.size := hk4.1.2.2.2
    have KB := am (HT.out.below HB4.out)
    have hn4 : w4.cell? ⟨bn, 0, none⟩ = some (.int .i64 m) := (blk_cell HN4.out 0).trans rfl
    have ht4 : w4.cell? ⟨bt, 0, none⟩ = some (.pointer (some ⟨g, 0, none⟩)) := (blk_cell ((HB4.out.block _ (blk_lt HBT.out)).trans HBT.out) 0).trans rfl
    have k4 : w4.cell? ⟨g, 4, none⟩ = some _ := (blk_cell KB.out.b 4).trans rfl
    have k6 : w4.cell? ⟨g, 6, none⟩ = some _ := (blk_cell KB.out.b 6).trans rfl
    have k7 : w4.cell? ⟨g, 7, none⟩ = some _ := (blk_cell KB.out.b 7).trans rfl
    replace a0 := (HB4.out.cell (World.block_lt_of_cell? w0 _ a0)).trans a0
    replace a1 := (HB4.out.cell (World.block_lt_of_cell? w0 _ a1)).trans a1
    replace a2 := (HB4.out.cell (World.block_lt_of_cell? w0 _ a2)).trans a2
    replace a3 := (HB4.out.cell (World.block_lt_of_cell? w0 _ a3)).trans a3
    replace aj := (HB4.out.cell (World.block_lt_of_cell? w0 _ aj)).trans aj
    replace af := (HB4.out.cell (World.block_lt_of_cell? w0 _ af)).trans af
    clear hnn hj4 hk4
    have hg4 : g < w4.heap.size := KB.out.lt
    have hbn4 : bn < w4.heap.size := blk_lt HN4.out
    have hbt4 : bt < w0.heap.size := blk_lt HBT.out
    rcases ha : isAns q with _ | _
    ·have HA := am ha
     clear ha
     have HBE := am (show t.bef m = jm by rw [HBEF.out, HA.out]; rfl)
     gi_wp2
     gi_region
     gi_wp2
     gi_region_with (gi_at_call 102; refine CallsIn.mono (callsIn_wide.2 (isAnswer_any q _)) ?_; rw [HA.out]; rintro e w5 ⟨rfl, hb5⟩; obtain ⟨hc5, hf5⟩ := bcell hb5; have hs5 := hb5.size; have hn5 : w5.cell? ⟨bn, 0, none⟩ = some (.int .i64 m) := (blk_cell ((hb5.block _ hbn4).trans HN4.out) 0).trans rfl; have hb45 : Below w4.heap.size w4 w5 := ((Below.refl _ w4).drew.drew).trans (hb5.mono (Nat.le_refl _)); have hs45 : w4.heap.size ≤ w5.heap.size := hb45.size; have ht5 := (hb45.cell (World.block_lt_of_cell? w4 _ ht4)).trans ht4; have k75 := (hb45.cell (World.block_lt_of_cell? w4 _ k7)).trans k7; have af5 := (hb45.cell (World.block_lt_of_cell? w4 _ af)).trans af)
     all_goals
      refine normE (a' := ?_) ?_ ?_
      rotate_left
      ·show Act.put _ (some 34) _ = _
       simp only [Act.put, sn1, sn2, sn3]
       rfl
      rcases hbn0 : decide (jm < 0) with _ | _
      ·have hb0 : ¬ jm < 0 := of_decide_eq_false hbn0
       rw [if_neg (by rw [HBE.out]; exact hb0), HBE.out] at HM
       obtain ⟨M', hM', hl⟩ := Option.map_eq_some_iff.1 HM.out
       have hD := HD.out
       rw [← hl] at hD
       have HL2 := am (show L[i + 1]? = some (jm) from drop_at (drop_next hD))
       have HD2 := am (drop_next (drop_next hD))
       have HM2 := am hM'
       have hbl : jm ≤ 1048577 := by have := backL_lt hM'; have := HT.out.ok.hw; omega
       have hbg : 0 ≤ jm := by omega
       clear hD hl hM' HM
       gi_wp2_with ((with_reducible refine gateIn (N := 42) rfl ?_); refine wpListIn_vcall y (encI (jm)) _ _ _ rfl rfl rfl rfl rfl (HY.out (i + 1) _ _ HL2.out (HJ.out _ _ _ HJ4.out (St.of_below hb45)) (by omega)) ?_)
       rintro v w6 (⟨rfl, hj6, hk6⟩ | ⟨rfl, hj6, hk6⟩)
       ·have hs6 : w5.heap.size ≤ w6.heap.size := hk6.1.2.2.2
        have HB6 := am (hk6.below (HB4.out.trans (hb45.mono (by omega))) (by omega))
        have HN6 := am (hk6.2 _ _ ((hb5.block _ hbn4).trans HN4.out) (.inr (.inl rfl)))
        have hf6 := blk_frozen HN6.out 0
        have hn6 : w6.cell? ⟨bn, 0, none⟩ = some (.int .i64 m) := (blk_cell HN6.out 0).trans rfl
        have HJ6 := am (HJ.out _ _ _ hj6 (St.setCell (j := 0) (.int .i64 (jm - 1)) rfl))
        have HN7 := am (blk_put HN6.out 0 (.int .i64 (jm - 1)) rfl)
        have HB7 := am (HB6.out.setCell (p := ⟨bn, 0, none⟩) hbn (.int .i64 (jm - 1)))
        clear hj6 hk6
        gi_wp2
        gi_roundg gk
        case measure => omega
        case rel => exact ⟨i + 2, jm - 1, M', HM2, HD2, by have := (List.getElem?_eq_some_iff.1 HL2.out).1; omega, HJ6, HB7, HN7, by simp; omega⟩
       have hs6 : w5.heap.size ≤ w6.heap.size := hk6.1.2.2.2
       have hil : i + 1 < L.length := (List.getElem?_eq_some_iff.1 HL2.out).1
       gi_wp2
       refine bodyPost_ret (results_none rfl _ _ _) rfl ?_
       exact ⟨⟨_, rfl⟩, by omega, .inr ⟨i + 1, hil, hj6⟩⟩
      have hb0 : jm < 0 := of_decide_eq_true hbn0
      rw [if_pos (by rw [HBE.out]; exact hb0)] at HM
      have hD := HD.out
      rw [← Option.some.inj HM.out] at hD
      have HE := am (show i + 1 = L.length from by
       have := List.drop_eq_nil_iff.1 (drop_next hD)
       have := (List.getElem?_eq_some_iff.1 HLi.out).1
       omega)
      clear hD
      gi_wp2
      refine bodyPost_ret (results_none rfl _ _ _) rfl ?_
      exact ⟨⟨_, rfl⟩, by omega, .inl (by rw [← HE.out]; exact HJ.out _ _ _ HJ4.out (St.of_below hb45))⟩
    have HA := am ha
    clear ha
    have hmb : m < 1048577 := by have := HT.out.ok.hw; omega
    rcases hf : fm with _ | _
    ·rw [hf] at af
     have HF := am hf
     clear hf
     have HBE := am (show t.bef m = jm by rw [HBEF.out, HA.out, HF.out]; rfl)
     gi_wp2
     gi_region
     gi_wp2
     gi_region_with (gi_at_call 102; refine CallsIn.mono (callsIn_wide.2 (isAnswer_any q _)) ?_; rw [HA.out]; rintro e w5 ⟨rfl, hb5⟩; obtain ⟨hc5, hf5⟩ := bcell hb5; have hs5 := hb5.size; have hn5 : w5.cell? ⟨bn, 0, none⟩ = some (.int .i64 m) := (blk_cell ((hb5.block _ hbn4).trans HN4.out) 0).trans rfl; have hb45 : Below w4.heap.size w4 w5 := ((Below.refl _ w4).drew.drew).trans (hb5.mono (Nat.le_refl _)); have hs45 : w4.heap.size ≤ w5.heap.size := hb45.size; have ht5 := (hb45.cell (World.block_lt_of_cell? w4 _ ht4)).trans ht4; have k75 := (hb45.cell (World.block_lt_of_cell? w4 _ k7)).trans k7; have af5 := (hb45.cell (World.block_lt_of_cell? w4 _ af)).trans af)
     all_goals
      refine normE (a' := ?_) ?_ ?_
      rotate_left
      ·show Act.put _ (some 34) _ = _
       simp only [Act.put, sn1, sn2, sn3]
       rfl
      rcases hbn0 : decide (jm < 0) with _ | _
      ·have hb0 : ¬ jm < 0 := of_decide_eq_false hbn0
       rw [if_neg (by rw [HBE.out]; exact hb0), HBE.out] at HM
       obtain ⟨M', hM', hl⟩ := Option.map_eq_some_iff.1 HM.out
       have hD := HD.out
       rw [← hl] at hD
       have HL2 := am (show L[i + 1]? = some (jm) from drop_at (drop_next hD))
       have HD2 := am (drop_next (drop_next hD))
       have HM2 := am hM'
       have hbl : jm ≤ 1048577 := by have := backL_lt hM'; have := HT.out.ok.hw; omega
       have hbg : 0 ≤ jm := by omega
       clear hD hl hM' HM
       gi_wp2_with ((with_reducible refine gateIn (N := 42) rfl ?_); refine wpListIn_vcall y (encI (jm)) _ _ _ rfl rfl rfl rfl rfl (HY.out (i + 1) _ _ HL2.out (HJ.out _ _ _ HJ4.out (St.of_below hb45)) (by omega)) ?_)
       rintro v w6 (⟨rfl, hj6, hk6⟩ | ⟨rfl, hj6, hk6⟩)
       ·have hs6 : w5.heap.size ≤ w6.heap.size := hk6.1.2.2.2
        have HB6 := am (hk6.below (HB4.out.trans (hb45.mono (by omega))) (by omega))
        have HN6 := am (hk6.2 _ _ ((hb5.block _ hbn4).trans HN4.out) (.inr (.inl rfl)))
        have hf6 := blk_frozen HN6.out 0
        have hn6 : w6.cell? ⟨bn, 0, none⟩ = some (.int .i64 m) := (blk_cell HN6.out 0).trans rfl
        have HJ6 := am (HJ.out _ _ _ hj6 (St.setCell (j := 0) (.int .i64 (jm - 1)) rfl))
        have HN7 := am (blk_put HN6.out 0 (.int .i64 (jm - 1)) rfl)
        have HB7 := am (HB6.out.setCell (p := ⟨bn, 0, none⟩) hbn (.int .i64 (jm - 1)))
        clear hj6 hk6
        gi_wp2
        gi_roundg gk
        case measure => omega
        case rel => exact ⟨i + 2, jm - 1, M', HM2, HD2, by have := (List.getElem?_eq_some_iff.1 HL2.out).1; omega, HJ6, HB7, HN7, by simp; omega⟩
       have hs6 : w5.heap.size ≤ w6.heap.size := hk6.1.2.2.2
       have hil : i + 1 < L.length := (List.getElem?_eq_some_iff.1 HL2.out).1
       gi_wp2
       refine bodyPost_ret (results_none rfl _ _ _) rfl ?_
       exact ⟨⟨_, rfl⟩, by omega, .inr ⟨i + 1, hil, hj6⟩⟩
      have hb0 : jm < 0 := of_decide_eq_true hbn0
      rw [if_pos (by rw [HBE.out]; exact hb0)] at HM
      have hD := HD.out
      rw [← Option.some.inj HM.out] at hD
      have HE := am (show i + 1 = L.length from by
       have := List.drop_eq_nil_iff.1 (drop_next hD)
       have := (List.getElem?_eq_some_iff.1 HLi.out).1
       omega)
      clear hD
      gi_wp2
      refine bodyPost_ret (results_none rfl _ _ _) rfl ?_
      exact ⟨⟨_, rfl⟩, by omega, .inl (by rw [← HE.out]; exact HJ.out _ _ _ HJ4.out (St.of_below hb45))⟩
    rw [hf] at af
    have HF := am hf
    clear hf
    have HBE := am (show t.bef m = m - 1 by rw [HBEF.out, HA.out, HF.out]; rfl)
    gi_wp2
    gi_region
    gi_wp2
    gi_region_with (gi_at_call 102; refine CallsIn.mono (callsIn_wide.2 (isAnswer_any q _)) ?_; rw [HA.out]; rintro e w5 ⟨rfl, hb5⟩; obtain ⟨hc5, hf5⟩ := bcell hb5; have hs5 := hb5.size; have hn5 : w5.cell? ⟨bn, 0, none⟩ = some (.int .i64 m) := (blk_cell ((hb5.block _ hbn4).trans HN4.out) 0).trans rfl; have hb45 : Below w4.heap.size w4 w5 := ((Below.refl _ w4).drew.drew).trans (hb5.mono (Nat.le_refl _)); have hs45 : w4.heap.size ≤ w5.heap.size := hb45.size; have ht5 := (hb45.cell (World.block_lt_of_cell? w4 _ ht4)).trans ht4; have k75 := (hb45.cell (World.block_lt_of_cell? w4 _ k7)).trans k7; have af5 := (hb45.cell (World.block_lt_of_cell? w4 _ af)).trans af)
    all_goals
     refine normE (a' := ?_) ?_ ?_
     rotate_left
     ·show Act.put _ (some 34) _ = _
      simp only [Act.put, sn1, sn2, sn3]
      rfl
     rcases hbn0 : decide (m - 1 < 0) with _ | _
     ·have hb0 : ¬ m - 1 < 0 := of_decide_eq_false hbn0
      rw [if_neg (by rw [HBE.out]; exact hb0), HBE.out] at HM
      obtain ⟨M', hM', hl⟩ := Option.map_eq_some_iff.1 HM.out
      have hD := HD.out
      rw [← hl] at hD
      have HL2 := am (show L[i + 1]? = some (m - 1) from drop_at (drop_next hD))
      have HD2 := am (drop_next (drop_next hD))
      have HM2 := am hM'
      have hbl : m - 1 ≤ 1048577 := by have := backL_lt hM'; have := HT.out.ok.hw; omega
      have hbg : 0 ≤ m - 1 := by omega
      clear hD hl hM' HM
      gi_wp2_with ((with_reducible refine gateIn (N := 42) rfl ?_); refine wpListIn_vcall y (encI (m - 1)) _ _ _ rfl rfl rfl rfl rfl (HY.out (i + 1) _ _ HL2.out (HJ.out _ _ _ HJ4.out (St.of_below hb45)) (by omega)) ?_)
      rintro v w6 (⟨rfl, hj6, hk6⟩ | ⟨rfl, hj6, hk6⟩)
      ·have hs6 : w5.heap.size ≤ w6.heap.size := hk6.1.2.2.2
       have HB6 := am (hk6.below (HB4.out.trans (hb45.mono (by omega))) (by omega))
       have HN6 := am (hk6.2 _ _ ((hb5.block _ hbn4).trans HN4.out) (.inr (.inl rfl)))
       have hf6 := blk_frozen HN6.out 0
       have hn6 : w6.cell? ⟨bn, 0, none⟩ = some (.int .i64 m) := (blk_cell HN6.out 0).trans rfl
       have HJ6 := am (HJ.out _ _ _ hj6 (St.setCell (j := 0) (.int .i64 (m - 1 - 1)) rfl))
       have HN7 := am (blk_put HN6.out 0 (.int .i64 (m - 1 - 1)) rfl)
       have HB7 := am (HB6.out.setCell (p := ⟨bn, 0, none⟩) hbn (.int .i64 (m - 1 - 1)))
       clear hj6 hk6
       gi_wp2
       gi_roundg gk
       case measure => omega
       case rel => exact ⟨i + 2, m - 1 - 1, M', HM2, HD2, by have := (List.getElem?_eq_some_iff.1 HL2.out).1; omega, HJ6, HB7, HN7, by simp; omega⟩
      have hs6 : w5.heap.size ≤ w6.heap.size := hk6.1.2.2.2
      have hil : i + 1 < L.length := (List.getElem?_eq_some_iff.1 HL2.out).1
      gi_wp2
      refine bodyPost_ret (results_none rfl _ _ _) rfl ?_
      exact ⟨⟨_, rfl⟩, by omega, .inr ⟨i + 1, hil, hj6⟩⟩
     have hb0 : m - 1 < 0 := of_decide_eq_true hbn0
     rw [if_pos (by rw [HBE.out]; exact hb0)] at HM
     have hD := HD.out
     rw [← Option.some.inj HM.out] at hD
     have HE := am (show i + 1 = L.length from by
      have := List.drop_eq_nil_iff.1 (drop_next hD)
      have := (List.getElem?_eq_some_iff.1 HLi.out).1
      omega)
     clear hD
     gi_wp2
     refine bodyPost_ret (results_none rfl _ _ _) rfl ?_
     exact ⟨⟨_, rfl⟩, by omega, .inl (by rw [← HE.out]; exact HJ.out _ _ _ HJ4.out (St.of_below hb45))⟩
   have hs4 : wr.heap.size ≤ w4.heap.size := hk4.1.2.2.2
   have hil : i < L.length := (List.getElem?_eq_some_iff.1 HLi.out).1
   gi_wp2
   refine bodyPost_ret (results_none rfl _ _ _) rfl ?_
   exact ⟨⟨_, rfl⟩, by omega, .inr ⟨i, hil, hj4⟩⟩
  rw [if_neg hm1] at hM
  cases hM
end Go.Proofs.YtjgocihflhljeaaGreat.P
namespace Go.Proofs.YtjgocihflhljeaaGreat.P
open Go.RowKit Go.Shelf
section
variable {P : Program} {ops : Array Oper} {md : Region.Mode} {w : World} {m : Nat}
theorem wpIn_of_still {o : Oper} {a : Act} {K : Act → Prop} {K' : Act → World → Prop} {Q' : Exit → Act → World → Prop} (h : ∀ a, K a → K' a w) (hh : o.still P a w K) : o.wpIn (FW none) m P a w K' Q' := by
 unfold Oper.still at hh
 refine ⟨fun _ _ => trivial, ?_⟩
 rw [Oper.semAt_none]
 generalize (execOp a.eval o).run P w = r at *
 cases r with
 | ok n w' =>
  cases n <;> simp only [Oper.stillUpon] at hh <;> simp only [Oper.uponIn]
  case enter f args =>
   obtain ⟨rfl, v, hc, hn⟩ := hh
   refine ⟨fun h => by simp at h, ?_⟩
   refine CallsIn.mono (callsIn_wide.2 hc) ?_
   rintro e w'' ⟨rfl, rfl⟩
   exact h _ hn
  all_goals (obtain ⟨rfl, h2⟩ := hh; exact h _ h2)
 | halt x w' => simp only [Oper.stillUpon] at hh
theorem wpOpIn_of_stOp {i : Nat} {a : Act} {K : Act → Prop} {K' : Act → World → Prop} {Q' : Exit → Act → World → Prop} (h : ∀ a, K a → K' a w) (hh : stOp P ops w i K a) : wpOpIn (FW none) m P ops Q' i K' a w := by
 unfold stOp at hh
 unfold wpOpIn
 split
 ·rename_i ho; simp only [ho] at hh; exact h _ hh
 rename_i o ho
 simp only [ho] at hh
 split
 ·rename_i hw; simp only [hw, if_true] at hh; exact wpIn_of_still h hh
 rename_i hw; simp only [hw] at hh; exact ⟨fun _ _ => trivial, h _ hh⟩
theorem wpAnyIn_of_head {n g : Nat} {L : Array Bool → Act → Prop} {Q' : Exit → Act → World → Prop} (hL : ∀ listed a, L listed a → wpAnyIn (FW none) m P md ops Q' g listed a w) :
  ∀ (f : Nat) (listed : Array Bool) (a : Act), wpAnyL P md ops w n L f listed a → wpAnyIn (FW none) m P md ops Q' (f + g) listed a w
 | 0, listed, a, h => by rw [Nat.zero_add]; exact hL _ _ h
 | f + 1, listed, a, h => by
  rw [show f + 1 + g = (f + g) + 1 by omega]
  exact ⟨fun h0 => absurd h0 h.1, fun i hi => wpOpIn_of_stOp (fun a' h' => wpAnyIn_of_head hL f _ a' h') (h.2 i hi).2⟩
theorem wpAnyIn_of_seq {Q' : Exit → Act → World → Prop} : ∀ (l : List Oper) (k : Nat) (listed : Array Bool) (a : Act) (w : World), (∀ j, l[j]? = ops[k + j]?) →
  Region.seqB md ops l.length k listed = true → wpListIn (FW none) m P ops Q' l a w → wpAnyIn (FW none) m P md ops Q' l.length listed a w
 | [], _, _, _, _, _, hB, h => ⟨by simpa [Region.seqB] using hB, h⟩
 | o :: l, k, listed, a, w, hl, hB, h => by
  have h0 : ops[k]? = some o := by simpa using (hl 0).symm
  simp only [List.length_cons, Region.seqB, Bool.and_eq_true, decide_eq_true_eq] at hB
  refine ⟨fun h1 => (by rw [hB.1] at h1; cases h1), fun i hi => ?_⟩
  rw [hB.1] at hi
  have hik : i = k := by simpa using hi
  subst hik
  have hw : wpOpIn (FW none) m P ops Q' i (wpListIn (FW none) m P ops Q' l) a w := by unfold wpOpIn; simp only [h0]; exact h
  exact wpOpIn_mono (fun a' w' h' => wpAnyIn_of_seq l (i + 1) _ a' w' (fun j => by have := hl (j + 1); simpa [Nat.add_assoc, Nat.add_comm 1 j] using this) hB.2 h') hw
theorem wpIn_region_still_tail {id : Nat} {Q : Exit → Act → World → Prop} {a : Act} {w : World} {l : List Oper} (n : Nat) (hm : P.follows .mixedOrders = true) (hB : Region.lexTailB .any l.toArray n = true)
  (h : wpStill P l.toArray w.drew (fun a' => wpListIn (FW none) m P l.toArray Q (l.drop n) a' w.drew) (l.take n) a) : (Code.region id l.toArray true).wpIn (FW none) m P Q a w := by
 simp only [Region.lexTailB, Bool.and_eq_true, decide_eq_true_eq] at hB
 obtain ⟨⟨⟨⟨hsel, hn⟩, hs⟩, hc⟩, hlex⟩ := hB
 have hn' : n < l.length := by simpa using hn
 have htl : (l.take n).length = n := by simp; omega
 have hdl : (l.drop n).length = l.toArray.size - n := by simp
 have inv0 : HeadInv .any l.toArray n (Array.replicate l.toArray.size false) :=
  ⟨by simp, fun j oj _ hl => (by rw [getD_replicate_false] at hl; cases hl), fun t _ ht => getD_in (by simpa using ht) (getD_replicate_false _ _)⟩
 have H := wpAnyL_lex (md := .any) (g := l.toArray.size - n) hsel hs hc hn (l.take n) 0 _ a (fun j hj => by
  have hj' : j < n := by rw [htl] at hj; exact hj
  simp [hj']) (by simpa using htl) inv0 (by rw [htl]; exact hlex) h
 refine wpIn_region_any hm ?_
 have := wpAnyIn_of_head (m := m) (Q' := Q) (g := l.toArray.size - n) (fun listed a' hL => by
  have := wpAnyIn_of_seq (md := .any) (m := m) (Q' := Q) (l.drop n) n listed a' w.drew (fun j => by simp [List.getElem?_drop]) (by rw [hdl]; exact hL.1) hL.2
  rwa [hdl] at this) _ _ _ H
 rw [htl, show n + (l.toArray.size - n) = l.toArray.size by omega] at this
 exact this
end
end Go.Proofs.YtjgocihflhljeaaGreat.P
namespace Go.Proofs.YtjgocihflhljeaaGreat.P
open Go.RowKit Go.Shelf Go.Proofs.YtjgocihflhljeaaGreatW.PrintWords Go.Proofs.YtjgocihflhljeaaGreatW.PrintLast Go.Proofs.YtjgocihflhljeaaGreatW.PrintMore
attribute [local go_sem] Oper.semAt_some
theorem frontL_lt {t : Tk} {k : Nat} {n : Int} {l : List Int} (h : frontL t k n = some l) : 0 ≤ n ∧ n < t.word.length := by
 cases k with
 | zero => simp [frontL] at h
 | succ k =>
  rw [frontL] at h
  by_cases h1 : 0 ≤ n ∧ n < t.word.length
  ·exact h1
  rw [if_neg h1] at h
  cases h
set_option maxRecDepth 8000 in
set_option maxHeartbeats 4000000 in
theorem front1_gives {base : Nat} {w0 : World} {g : Nat} {A : Option Addr} {c : Nat} {ids : List S68} {rc : Bool} {rn : Int} {jb : Bool} {t : Tk} {vw vp vj vf vo : Value} (h : Talk base w0 g A c ids rc rn jb t vw vp vj vf vo) (bt bn : Nat) (hbt : w0.heap[bt]? = some (.cells #[.pointer (some ⟨g, 0, none⟩)] 70 (0, 0))) (hbn : w0.heap.size ≤ bn) (fuel : Nat) (n : Int) (L : List Int) (hL : frontL t fuel n = some L) :
  Gives Tryz.prog 103 (fun y => #[] ++ #[y] ++ #[.pointer (some ⟨bn, 0, none⟩), .pointer (some ⟨bt, 0, none⟩)]) encI L w0.heap.size w0 (fun k => k = bn) (fun k => k = bn) (fun _ => False) (fun W => W.heap[bn]? = some (.cells #[.int .i64 n] 3 (0, 0))) := by
 intro y J Jx W _ hB hn0 hpre hJ hJx hY h0
 refine (callsIn_wide (n := 9)).1 ?_
 show CallsIn (FW none) 9 Tryz.prog 103 #[y, .pointer (some ⟨bn, 0, none⟩), .pointer (some ⟨bt, 0, none⟩)] W _
 have HJ := am hJ
 have HJx := am hJx
 have HY := am hY
 have H0 := am h0
 have HT := am h
 have HB0 := am hB
 have HP := am hpre
 have HBT := am hbt
 have HL := am hL
 clear hJ hJx hY h0 hB hpre h hbt hL
 gi_enter Tryz.func103, Tryz.ntmps103
 gi_wp2
 gi_loopg [] fuel (fun gg wr => ∃ (i : Nat) (m : Int) (M : List Int), Aside0 (frontL t gg m = some M) ∧ Aside0 (L.drop i = M) ∧ i ≤ L.length ∧ Aside0 (J i wr) ∧ Aside0 (Below w0.heap.size w0 wr) ∧ Aside0 (wr.heap[bn]? = some (.cells #[.int .i64 m] 3 (0, 0))) ∧ W.heap.size ≤ wr.heap.size)
 case atStart => exact ⟨0, n, L, HL, ⟨rfl⟩, Nat.zero_le _, H0, HB0, HP, Nat.le_refl _⟩
 case round =>
  obtain ⟨i, m, M, HM, HD, hi, HJi, HB, HN, hsz⟩ := hrel
  cases gk with
  | zero =>
   have := HM.out
   simp [frontL] at this
  | succ gk =>
  have hM := HM.out
  obtain ⟨hm0', hm1⟩ := frontL_lt hM
  rw [frontL, if_pos ⟨hm0', hm1⟩] at hM
  have hnn : wr.cell? ⟨bn, 0, none⟩ = some (.int .i64 m) := (blk_cell HN.out 0).trans rfl
  obtain ⟨gw, cw, q, hvw, hgw, hq, a0, a1, a2, a3⟩ := HT.out.r.w.get m hm0' hm1
  obtain ⟨gp, cp, hvp, hgp, ap⟩ := HT.out.r.p.get m.toNat (by have := HT.out.ok.hp; omega)
  cases hvw
  cases hvp
  have hpl := HT.out.ok.hp
  have hmp : m < (t.part.length : Int) := by omega
  obtain ⟨pm, hpm⟩ : ∃ pm, t.part.getD m.toNat 0 = pm := ⟨_, rfl⟩
  have hq' : t.mv m = q := hq
  have HPM := am hpm
  rw [hpm] at ap hM
  rw [hq'] at hM
  have HLi := am (show L[i]? = some m by
   split at hM
   ·obtain ⟨l, _, hl⟩ := Option.map_eq_some_iff.1 hM
    have h1 := HD.out
    rw [← hl] at h1
    exact drop_at h1
   have h1 := HD.out
   rw [← Option.some.inj hM] at h1
   exact drop_at h1)
  have HM := am hM
  clear hM hq hq' hpm
  gi_wp2_with ((with_reducible refine gateIn (N := 6) rfl ?_); refine wpListIn_vcall y (encI m) _ _ _ rfl rfl rfl rfl rfl (HY.out i _ _ HLi.out HJi.out hsz) ?_)
  rintro v w4 (⟨rfl, hj4, hk4⟩ | ⟨rfl, hj4, hk4⟩)
  ·have hsw : w0.heap.size ≤ wr.heap.size := by omega
   have HB4 := am (hk4.below HB.out hsw)
   have HN4 := am (hk4.2 _ _ HN.out (.inr (.inl rfl)))
   have HJ4 := am hj4
   have hs4 : wr.heap.size ≤ w4.heap.size := hk4.1.2.2.2
   have KB := am (HT.out.below HB4.out)
   have hn4 : w4.cell? ⟨bn, 0, none⟩ = some (.int .i64 m) := (blk_cell HN4.out 0).trans rfl
   have ht4 : w4.cell? ⟨bt, 0, none⟩ = some (.pointer (some ⟨g, 0, none⟩)) := (blk_cell ((HB4.out.block _ (blk_lt HBT.out)).trans HBT.out) 0).trans rfl
   have k4 : w4.cell? ⟨g, 4, none⟩ = some (.slice (some ⟨gw, 0, none⟩) t.word.length cw) := (blk_cell KB.out.b 4).trans rfl
   have k5 : w4.cell? ⟨g, 5, none⟩ = some (.slice (some ⟨gp, 0, none⟩) t.part.length cp) := (blk_cell KB.out.b 5).trans rfl
   replace a0 := (HB4.out.cell (World.block_lt_of_cell? w0 _ a0)).trans a0
   replace a1 := (HB4.out.cell (World.block_lt_of_cell? w0 _ a1)).trans a1
   replace a2 := (HB4.out.cell (World.block_lt_of_cell? w0 _ a2)).trans a2
   replace a3 := (HB4.out.cell (World.block_lt_of_cell? w0 _ a3)).trans a3
   replace ap := (HB4.out.cell (World.block_lt_of_cell? w0 _ ap)).trans ap
   clear hnn hj4 hk4
   have hg4 : g < w4.heap.size := KB.out.lt
   have hbn4 : bn < w4.heap.size := blk_lt HN4.out
   gi_wp2
   refine wpIn_region_still_tail 7 (by kernel_rfl) (by kernel_rfl) ?_
   simp only [List.take_succ_cons, List.take_zero, List.drop_succ_cons, List.drop_zero]
   repeat still_step
   try refine wpStill_nil ?_
   rcases ha : isPar q with _ | _
   ·have HA := am ha
    clear ha
    rw [if_neg (by rw [HA.out]; decide)] at HM
    have hD := HD.out
    rw [← Option.some.inj HM.out] at hD
    have HL2 := am (show L[i + 1]? = some 0 from drop_at (drop_next hD))
    have HE := am (show i + 1 + 1 = L.length from by
     have := List.drop_eq_nil_iff.1 (drop_next (drop_next hD))
     have := (List.getElem?_eq_some_iff.1 HL2.out).1
     omega)
    clear hD
    gi_wp2_with (first | (gi_at_call 104; refine CallsIn.mono (callsIn_wide.2 (isParam_any q _)) ?_; rw [HA.out]; rintro e w5 ⟨rfl, hb5⟩; have hb45 : Below w4.heap.size w4 w5 := ((Below.refl _ w4).drew).trans (hb5.mono (Nat.le_refl _)); have hs45 : w4.heap.size ≤ w5.heap.size := hb45.size) | ((with_reducible refine gateIn (N := 17) rfl ?_); refine wpListIn_vcall y (encI 0) _ _ _ rfl rfl rfl rfl rfl (HY.out (i + 1) _ _ HL2.out (HJ.out _ _ _ HJ4.out (St.of_below hb45)) (by omega)) ?_))
    rintro v w6 (⟨rfl, hj6, hk6⟩ | ⟨rfl, hj6, hk6⟩)
    ·have hs6 : w5.heap.size ≤ w6.heap.size := hk6.1.2.2.2
     gi_wp2
     refine bodyPost_ret (results_none rfl _ _ _) rfl ?_
     exact ⟨⟨_, rfl⟩, by omega, .inl (by rw [← HE.out]; exact hj6)⟩
    have hs6 : w5.heap.size ≤ w6.heap.size := hk6.1.2.2.2
    have hil : i + 1 < L.length := (List.getElem?_eq_some_iff.1 HL2.out).1
    gi_wp2
    refine bodyPost_ret (results_none rfl _ _ _) rfl ?_
    exact ⟨⟨_, rfl⟩, by omega, .inr ⟨i + 1, hil, hj6⟩⟩
   have HA := am ha
   clear ha
   rw [if_pos HA.out] at HM
   obtain ⟨M', hM', hl⟩ := Option.map_eq_some_iff.1 HM.out
   have hD := HD.out
   rw [← hl] at hD
   have HL2 := am (show L[i + 1]? = some pm from drop_at (drop_next hD))
   have HD2 := am (drop_next (drop_next hD))
   have HM2 := am hM'
   have hbl : pm ≤ 1048577 := by have := frontL_lt hM'; have := HT.out.ok.hw; omega
   have hbg : 1 ≤ pm := by have := frontL_lt hM'; omega
   clear hD hl hM' HM
   gi_wp2_with (gi_at_call 104; refine CallsIn.mono (callsIn_wide.2 (isParam_any q _)) ?_; rw [HA.out]; rintro e w5 ⟨rfl, hb5⟩; have hb45 : Below w4.heap.size w4 w5 := ((Below.refl _ w4).drew).trans (hb5.mono (Nat.le_refl _)); have hs45 : w4.heap.size ≤ w5.heap.size := hb45.size; have hn5 := (hb45.cell (World.block_lt_of_cell? w4 _ hn4)).trans hn4; have ht5 := (hb45.cell (World.block_lt_of_cell? w4 _ ht4)).trans ht4; have k55 := (hb45.cell (World.block_lt_of_cell? w4 _ k5)).trans k5; have ap5 := (hb45.cell (World.block_lt_of_cell? w4 _ ap)).trans ap)
   have hb45d : Below w4.heap.size w4 w5.drew := hb45.drew
   refine wpIn_region_still_tail 8 (by kernel_rfl) (by kernel_rfl) ?_
   simp only [List.take_succ_cons, List.take_zero, List.drop_succ_cons, List.drop_zero]
   repeat still_step
   try refine wpStill_nil ?_
   gi_wp2_with ((with_reducible refine gateIn (N := 26) rfl ?_); refine wpListIn_vcall y (encI pm) _ _ _ rfl rfl rfl rfl rfl (HY.out (i + 1) _ _ HL2.out (HJ.out _ _ _ HJ4.out (St.of_below hb45d)) (by simp; omega)) ?_)
   rintro v w6 (⟨rfl, hj6, hk6⟩ | ⟨rfl, hj6, hk6⟩)
   ·have hs6 : w5.heap.size ≤ w6.heap.size := hk6.1.2.2.2
    have HB6 := am (hk6.below (HB4.out.trans (hb45d.mono (by omega))) (by simp; omega))
    have HN6 := am (hk6.2 _ _ ((hb45d.block _ hbn4).trans HN4.out) (.inr (.inl rfl)))
    have hf6 := blk_frozen HN6.out 0
    have hn6 : w6.cell? ⟨bn, 0, none⟩ = some (.int .i64 m) := (blk_cell HN6.out 0).trans rfl
    have ht6 : w6.cell? ⟨bt, 0, none⟩ = some (.pointer (some ⟨g, 0, none⟩)) := (blk_cell ((HB6.out.block _ (blk_lt HBT.out)).trans HBT.out) 0).trans rfl
    have KB6 := am (HT.out.below HB6.out)
    have k56 : w6.cell? ⟨g, 5, none⟩ = some (.slice (some ⟨gp, 0, none⟩) t.part.length cp) := (blk_cell KB6.out.b 5).trans rfl
    obtain ⟨gp', cp', hvp', hgp', ap6⟩ := KB6.out.r.p.get m.toNat (by omega)
    cases hvp'
    rw [HPM.out] at ap6
    have HJ6 := am (HJ.out _ _ _ (HJ.out _ _ _ hj6 (St.of_below ((Below.refl _ w6).drew))) (St.setCell (j := 0) (.int .i64 (pm - 1)) rfl))
    have HN7 := am (blk_put (blk_drew HN6.out) 0 (.int .i64 (pm - 1)) rfl)
    have HB7 := am (HB6.out.drew.setCell (p := ⟨bn, 0, none⟩) hbn (.int .i64 (pm - 1)))
    clear hj6 hk6 hn4 ht4 k4 k5 a0 a1 a2 a3 ap hn5 ht5 k55 ap5
    gi_wp2
    refine wpIn_region_still_tail 8 (by kernel_rfl) (by kernel_rfl) ?_
    simp only [List.take_succ_cons, List.take_zero, List.drop_succ_cons, List.drop_zero]
    repeat still_step
    try refine wpStill_nil ?_
    gi_wp2
    gi_roundg gk
    case measure => omega
    case rel => exact ⟨i + 2, pm - 1, M', HM2, HD2, by have := (List.getElem?_eq_some_iff.1 HL2.out).1; omega, HJ6, HB7, HN7, by simp; omega⟩
   have hs6 : w5.heap.size ≤ w6.heap.size := hk6.1.2.2.2
   have hil : i + 1 < L.length := (List.getElem?_eq_some_iff.1 HL2.out).1
   gi_wp2
   refine bodyPost_ret (results_none rfl _ _ _) rfl ?_
   exact ⟨⟨_, rfl⟩, by omega, .inr ⟨i + 1, hil, hj6⟩⟩
  have hs4 : wr.heap.size ≤ w4.heap.size := hk4.1.2.2.2
  have hil : i < L.length := (List.getElem?_eq_some_iff.1 HLi.out).1
  gi_wp2
  go_end0
  exact ⟨⟨_, rfl⟩, by omega, .inr ⟨i, hil, hj4⟩⟩
theorem R_st2 {α : Type} {d : Kd α} {e : Nat} {A B : World} {base b : Nat} {wr : Nat → Prop} {v : Value} {xs : List α} (h : d.R e A base (fun _ => True) v xs) (hs : St b wr A B) (hw : ∀ k, wr k → k < base) : d.R e B base (fun _ => True) v xs :=
 Kd.R_mono (Kd.R_move (Kd.R_bound h) (fun k hk => by
  obtain ⟨_, h1, _, q, _, cells, hc⟩ := hk
  rw [hs.2 k _ hc (fun h => by have := hw k h; omega) (.inr rfl), hc])) (fun _ _ => trivial)
theorem encs_snoc (l : List Int) (x : Int) : encs (Value.int .i64) l ++ [.int .i64 x] = encs (Value.int .i64) (l ++ [x]) := by simp [encs]
set_option maxRecDepth 8000 in
set_option maxHeartbeats 2000000 in
theorem AppendSeq_any {gf : Nat} {lb : Array Value} (eg : ∀ args w, (callFunc gf args).run Tryz.prog w = .ok (.enter gf args) w) {L : List Int} {n₀ : Nat} {w0 w : World} {wr own : Nat → Prop} {Pre : World → Prop}
  (hG : Gives Tryz.prog gf (fun y => #[] ++ #[y] ++ lb) encI L n₀ w0 wr own (fun _ => False) Pre) (hb0 : Below n₀ w0 w) (hn : n₀ ≤ w.heap.size) (hwr : ∀ k, wr k → n₀ ≤ k ∧ k < w.heap.size) (hown : ∀ k, own k → k < w.heap.size) (hPre : ∀ W, Below w.heap.size w W → Pre W) (hlen : L.length ≤ 1048577) :
  Calls Tryz.prog 126 #[.slice none 0 0, .func (.func gf) #[] lb] w fun e w' => ∃ v, e = .returned v ∧ RI w' w.heap.size v L ∧ Below n₀ w0 w' ∧ w.heap.size ≤ w'.heap.size := by
 have HG := am hG
 have HWR := am hwr
 have HOWN := am hown
 have HPRE := am hPre
 have HB0 := am hb0
 have EG := am eg
 clear hG hwr hown hPre hb0 eg
 refine (callsIn_wide (n := 9)).1 ?_
 show CallsIn (FW none) 9 Tryz.prog 126 _ w _
 refine callsIn_of_wp_marks Tryz.func126 rfl trivial ?_ rfl
 simp only [Tryz.ntmps126, List.size_toArray, List.length_cons, List.length_nil, Nat.reduceAdd, Nat.reduceSub, Array.replicate_succ, Array.replicate_zero, List.push_toArray, List.append_toArray, List.nil_append, List.cons_append]
 gi_wp2
 have HK := am (heap_alloc_new w (.cells #[.slice none 0 0] 36))
 have HBW := am ((Below.refl _ w).alloc (Nat.le_refl _) (.cells #[.slice none 0 0] 36))
 have hsz : (w.alloc (.cells #[.slice none 0 0] 36)).heap.size = w.heap.size + 1 := by simp
 generalize hw1 : w.alloc (.cells #[.slice none 0 0] 36) = w1 at *
 refine wp_range (gf := gf) (bs := #[]) (lb := lb) rfl EG.out HG.out (hb0 := HB0.out.trans (HBW.out.mono hn)) (hn := by omega) (hwr := fun k h => by have := HWR.out k h; omega) (hown := fun k h => by have := HOWN.out k h; omega)
  (hPre := fun W hW => HPRE.out W (HBW.out.trans (hW.mono (by omega)))) (hps := fun _ => rfl)
  (fun i V => ∃ v, Aside0 (V.heap[w.heap.size]? = some (.cells #[v] 36 (0, 0))) ∧ Aside0 (RI V w.heap.size v (L.take i)) ∧ Aside0 (Below n₀ w0 V) ∧ Aside0 (w1.heap.size ≤ V.heap.size))
  (fun _ _ _ => False) ?hI (fun _ _ _ _ h _ => h) ?h0
  (fun i a₁ V => ∃ x, L[i]? = some x ∧ ∃ x0 x1 x3 x4 x6 x7 x8 x9 x10 x11 x12 : Value, a₁ = { tmps := #[x0, x1, .pointer (some ⟨w.heap.size, 0, none⟩), x3, x4, .int .i64 x, x6, x7, x8, x9, x10, x11, x12], defers := [] }) ?hAx ?assign ?body ?done (fun _ _ _ _ _ _ h _ _ => h.elim)
 case hI =>
  rintro i P Q ⟨v, q3, hR, bl, sz⟩ hs
  exact ⟨v, ⟨hs.blk q3.out (fun h => by have := HWR.out _ h; omega)⟩, ⟨R_st2 hR.out hs (fun k h => (HWR.out k h).2)⟩, ⟨hs.below bl.out (by omega) (fun k h => (HWR.out k h).1) (by have := sz.out; omega)⟩, ⟨Nat.le_trans sz.out hs.1.2.2.2⟩⟩
 case h0 => exact ⟨_, HK, ⟨Kd.R_nil _ _ _ _ _⟩, ⟨HB0.out.trans (HBW.out.mono hn)⟩, ⟨Nat.le_refl _⟩⟩
 case hAx =>
  rintro i a₁ P Q h hs
  exact h
 case assign =>
  intro m l i x P K hx hI hle hK
  simp only [encI, List.zip_toArray, List.zip_cons_cons, List.zip_nil_right, List.size_toArray, List.foldl_toArray', List.foldl_cons, List.foldl_nil]
  gi_wp2
  exact hK _ _ (Below.refl _ P) ⟨x, hx, _, _, _, _, _, _, _, _, _, _, _, rfl⟩
 case body =>
  rintro m l i x a₁ P hx ⟨v, q3, hR, bl, sz⟩ ⟨x', hx', x0, x1, x3, x4, x6, x7, x8, x9, x10, x11, x12, rfl⟩ hle
  obtain rfl : x' = x := Option.some.inj (hx'.symm.trans hx)
  clear hx'
  have HX := am hx
  have hil : i < L.length := (List.getElem?_eq_some_iff.1 hx).1
  clear hx
  have hlP : w1.heap.size ≤ P.heap.size := sz.out
  obtain ⟨A1, c1, rfl⟩ := Kd.R_slice hR.out
  have hc0 : P.cell? ⟨w.heap.size, 0, none⟩ = some (.slice A1 (L.take i).length c1) := (blk_cell q3.out 0).trans rfl
  have HOW := am (Kd.own_of_R (Kd.R_alloc hR.out (.cells #[.int .i64 x'] 3)))
  have hti : (L.take i).length = i := by rw [List.length_take]; omega
  rw [hti] at hc0 HOW
  rw [hti] at hR q3
  have HS := am (show L.take (i + 1) = L.take i ++ [x'] by rw [List.take_succ_eq_append_getElem hil]; congr 1; rw [← Option.some.inj ((List.getElem?_eq_getElem hil).symm.trans HX.out)])
  obtain ⟨i0, e1, e2, e3, e4⟩ := info_parts info3
  gi_wp2_with (gi_at_builtin; refine wpListIn_append_own _ rfl (.tmp 8) (.tmp 10) 36 rfl w.heap.size 3 i0 (.int .i64 0) 1 8 Tryz.underlying36 e1 e2 e3 e4 rfl (by decide) (.slice A1 i c1) i _ rfl HOW.out ⟨P.heap.size, 0, none⟩ 1 1 [.int .i64 x'] rfl rfl (by simpa using World.news_of_block (cs := #[.int .i64 x']) (t := 3) (fr := (0, 0)) (heap_alloc_new P (.cells #[.int .i64 x'] 3))) (by intro u hu; rw [List.mem_singleton.1 hu]; rfl) (by simp only [maxLen]; omega) (by omega) (by simp; omega) ?_; intro v2 w2 ho hg hz; have HK2 := am (blk_grown (blk_alloc q3.out (.cells #[.int .i64 x'] 3)) hg (Kd.R_ne hR.out q3.out (by decide))); have HR2 := am (show RI w2 w.heap.size v2 (L.take i ++ [x']) from Kd.R_of_own (by rw [List.length_append, hti, List.length_singleton, ← encs_snoc]; exact ho) (fun _ _ => trivial)); obtain ⟨A2, c2, rfl⟩ := Kd.R_slice HR2.out; have hln : (L.take i ++ [x']).length = i + 1 := (by rw [List.length_append, hti, List.length_singleton]); rw [hln] at HR2; have HG2 := am hg; have hf2 := blk_frozen HK2.out 0; have hc2 : w2.cell? ⟨w.heap.size, 0, none⟩ = some (.slice A1 i c1) := (blk_cell HK2.out 0).trans rfl; clear ho hg hz hc0)
  have hg2 := HG2.out.size
  have hs2 : P.heap.size + 1 ≤ w2.heap.size := by simpa using hg2
  have HK3 := am (blk_put HK2.out 0 (.slice A2 (i + 1) c2) rfl)
  have HR3 := am (Kd.R_set (d := Kd.int .i64) HR2.out HK2.out (by decide) 0 (.slice A2 (i + 1) c2))
  have hrow : ∀ k, (Value.slice A1 i c1).ownBlock = some k → w.heap.size ≤ k ∧ ∃ cells, P.heap[k]? = some (.cells cells 3 (0, 0)) := by
   intro k hk
   obtain ⟨inner, hown⟩ := Kd.R_own hR.out
   exact ⟨own_base hown k hk, own_typed hown k hk⟩
  have hkeep : ∀ k o, P.heap[k]? = some o → (k < n₀ ∨ own k ∨ (w1.heap.size ≤ k ∧ ∀ cs t f, o = .cells cs t f → False)) → (w2.setCell ⟨w.heap.size, 0, none⟩ (.slice A2 (i + 1) c2)).heap[k]? = some o := by
   intro k o hk ho
   have hkl := (Array.getElem?_eq_some_iff.1 hk).1
   have hkb : k ≠ w.heap.size := by
    rintro rfl
    rcases ho with ho | ho | ⟨ho, _⟩
    ·omega
    ·have := HOWN.out _ ho; omega
    omega
   refine (Below.heap_setCell _ _ _ k hkb).trans ((HG2.out.block k (by simp; omega) ?_).trans ((Below.heap_alloc _ _ k hkl).trans hk))
   intro e
   obtain ⟨h1, cells, h2⟩ := hrow k e.symm
   rw [h2] at hk
   cases hk
   rcases ho with ho | ho | ⟨_, ho⟩
   ·omega
   ·have := HOWN.out _ ho; omega
   exact ho _ _ _ rfl
  gi_wp2
  refine ⟨⟨⟨HG2.out.os, HG2.out.tape, HG2.out.output, by simp; omega⟩, hkeep⟩, _, HK3, ⟨by rw [HS.out]; exact HR3.out⟩, ⟨?_⟩, ⟨by simp; omega⟩⟩
  exact bl.out.trans ⟨HG2.out.os, HG2.out.tape, HG2.out.output, by simp; omega, fun k hk => by
   have hkl : k < P.heap.size := by omega
   exact (hkeep k _ (Array.getElem?_eq_getElem hkl) (.inl hk)).trans (Array.getElem?_eq_getElem hkl).symm⟩
 case done =>
  rintro D V hle ⟨v, q3, hR, bl, sz⟩ hD hDle
  rw [List.take_length] at hR
  have HR := hR
  obtain ⟨A1, c1, rfl⟩ := Kd.R_slice hR.out
  have hc3 : V.cell? ⟨w.heap.size, 0, none⟩ = some _ := (blk_cell q3.out 0).trans rfl
  have hz3 := blk_frozen q3.out 0
  have HD := am hD
  have HBL := bl
  have hvs := sz.out
  clear hD hR bl
  gi_wp2
  refine leavesM1 (v := .slice A1 L.length c1) HD.out ?_ ?_
  ·simp [results, Tryz.results126, go_sem]
  refine ⟨_, rfl, ?_, below_putObj HBL.out (by omega), by simp; omega⟩
  exact R_st HR.out (St.putObj (b := D) _ HD.out rfl (Nat.le_refl _))
theorem Collect_any {gf : Nat} {lb : Array Value} (eg : ∀ args w, (callFunc gf args).run Tryz.prog w = .ok (.enter gf args) w) {L : List Int} {n₀ : Nat} {w0 w : World} {wr own : Nat → Prop} {Pre : World → Prop}
  (hG : Gives Tryz.prog gf (fun y => #[] ++ #[y] ++ lb) encI L n₀ w0 wr own (fun _ => False) Pre) (hb0 : Below n₀ w0 w) (hn : n₀ ≤ w.heap.size) (hwr : ∀ k, wr k → n₀ ≤ k ∧ k < w.heap.size) (hown : ∀ k, own k → k < w.heap.size) (hPre : ∀ W, Below w.heap.size w W → Pre W) (hlen : L.length ≤ 1048577) :
  Calls Tryz.prog 99 #[.func (.func gf) #[] lb] w fun e w' => ∃ v, e = .returned v ∧ RI w' w.heap.size v L ∧ Below n₀ w0 w' ∧ w.heap.size ≤ w'.heap.size := by
 have HC := am (AppendSeq_any eg hG hb0 hn hwr hown hPre hlen)
 clear hG hb0 hwr hown hPre
 go_enter Tryz.func99, Tryz.ntmps99
 go_wp2_with (go_at_call 126; refine HC.out.mono ?_; rintro e w1 ⟨v, rfl, hv, hb1, hs1⟩)
 go_ret
 exact ⟨_, rfl, hv, hb1, hs1⟩
def HalfRev (L ys : List Int) (i : Nat) : Prop := ys.length = L.length ∧ ∀ p, p < L.length → ys.getD p 0 = if p < i ∨ L.length - 1 - i < p then L.getD (L.length - 1 - p) 0 else L.getD p 0
theorem HalfRev.start (L : List Int) : HalfRev L L 0 := ⟨rfl, fun p hp => by rw [if_neg (by omega)]⟩
theorem getD_set_ite (ys : List Int) (i p : Nat) (x : Int) (hi : i < ys.length) : (ys.set i x).getD p 0 = if i = p then x else ys.getD p 0 := by
 rw [List.getD_eq_getElem?_getD, List.getElem?_set, List.getD_eq_getElem?_getD]
 split
 ·simp [hi]
 rfl
theorem HalfRev.step {L ys : List Int} {i : Nat} (h : HalfRev L ys i) (hi : 2 * i + 1 < L.length) : HalfRev L ((ys.set i (ys.getD (L.length - 1 - i) 0)).set (L.length - 1 - i) (ys.getD i 0)) (i + 1) := by
 have hl := h.1
 refine ⟨by simp [hl], fun p hp => ?_⟩
 rw [getD_set_ite _ _ _ _ (by simp; omega), getD_set_ite _ _ _ _ (by omega), h.2 i (by omega), h.2 (L.length - 1 - i) (by omega), h.2 p hp]
 rw [if_neg (show ¬(i < i ∨ L.length - 1 - i < i) by omega), if_neg (show ¬(L.length - 1 - i < i ∨ L.length - 1 - i < L.length - 1 - i) by omega)]
 by_cases h1 : L.length - 1 - i = p
 ·rw [if_pos h1, if_pos (by omega)]
  congr 1
  omega
 rw [if_neg h1]
 by_cases h2 : i = p
 ·rw [if_pos h2, if_pos (by omega)]
  subst h2
  rfl
 rw [if_neg h2]
 by_cases h3 : p < i ∨ L.length - 1 - i < p
 ·rw [if_pos h3, if_pos (by omega)]
 rw [if_neg h3, if_neg (by omega)]
theorem HalfRev.done {L ys : List Int} {i : Nat} (h : HalfRev L ys i) (hi : L.length ≤ 2 * i + 1) : ys = L.reverse := by
 refine List.ext_getElem (by simp [h.1]) (fun p h1 h2 => ?_)
 have hp : p < L.length := by have := h.1; omega
 have h3 := h.2 p hp
 rw [List.getD_eq_getElem?_getD, List.getElem?_eq_getElem h1] at h3
 simp only [Option.getD_some] at h3
 rw [h3, List.getElem_reverse]
 split
 ·rw [List.getD_eq_getElem?_getD, List.getElem?_eq_getElem (by omega)]
  rfl
 have e : p = L.length - 1 - p := by omega
 rw [List.getD_eq_getElem?_getD, List.getElem?_eq_getElem hp]
 simp only [Option.getD_some]
 congr 1
set_option maxRecDepth 8000 in
set_option maxHeartbeats 4000000 in
theorem Reverse_any {base : Nat} (v : Value) (L : List Int) (w : World) (h : RI w base v L) (hl : L.length ≤ 1048577) :
  Calls Tryz.prog 100 #[v] w fun e w' => e = .returned (.tuple #[]) ∧ RI w' base v L.reverse ∧ w.grownBy w' v.ownBlock := by
 obtain ⟨A, c, rfl⟩ := Kd.R_slice h
 have HR := am h
 clear h
 go_enter Tryz.func100, Tryz.ntmps100
 go_wp2
 go_loopg [2, 3] L.length (fun gg s2 s3 wr => ∃ (i : Nat) (ys : List Int), s2 = .int .i64 i ∧ s3 = .int .i64 ((L.length : Int) - 1 - i) ∧ i ≤ L.length ∧ L.length - i ≤ gg ∧ Aside0 (HalfRev L ys i) ∧ Aside0 (RI wr base (.slice A L.length c) ys) ∧ Aside0 (w.grownBy wr (Value.slice A L.length c).ownBlock))
 case atStart => exact ⟨0, L, rfl, by go_num, Nat.zero_le _, by omega, ⟨HalfRev.start L⟩, HR, ⟨World.grownBy.refl _ _⟩⟩
 case round =>
  obtain ⟨i, ys, rfl, rfl, hi, hg, HH, HY, HW⟩ := hrel
  by_cases hlt : 2 * i + 1 < L.length
  ·have hltz : (i : Int) < (L.length : Int) - 1 - i := by omega
   have cb : decide ((i : Int) < (L.length : Int) - 1 - i) = true := decide_eq_true hltz
   obtain ⟨j, hj⟩ : ∃ j : Nat, L.length - 1 - i = j := ⟨_, rfl⟩
   have hjz : (L.length : Int) - 1 - i = (j : Int) := by omega
   rw [hjz] at cb hltz ⊢
   have hyl := HH.out.1
   have hjl : j < L.length := by omega
   have hil : i < L.length := by omega
   have HS := am (HH.out.step hlt)
   rw [hj] at HS
   have HYd := am (show RI wr.drew base (.slice A L.length c) ys from R_st HY.out (St.of_below (b := 0) ((Below.refl _ wr).drew)))
   have HWd := am (HW.out.trans (grown_of_below ((Below.refl _ wr).drew) _))
   generalize hwd : wr.drew = wd at HYd HWd
   obtain ⟨g, c', e, hgb, hgl, _, hci, hfi, hR1, hG1⟩ := HYd.out.put i (by omega) (ys.getD j 0)
   injection e with e1 e2 e3
   subst e1 e3
   clear e2
   obtain ⟨g', c', e, _, _, _, hcj, hfj, hR2, hG2⟩ := hR1.put j (by simp; omega) (ys.getD i 0)
   injection e with e1 e2 e3
   injection e1 with e1
   injection e1 with e1
   subst e1 e3
   clear e2
   obtain ⟨g', c', e, _, _, _, hcj0, hfj0, _, _⟩ := HYd.out.put j (by omega) 0
   injection e with e1 e2 e3
   injection e1 with e1
   injection e1 with e1
   subst e1 e3
   clear e2
   obtain ⟨yi, hyi⟩ : ∃ yi, ys.getD i 0 = yi := ⟨_, rfl⟩
   obtain ⟨yj, hyj⟩ : ∃ yj, ys.getD j 0 = yj := ⟨_, rfl⟩
   rw [hyi, hyj] at HS
   simp only [hyi, hyj] at hci hcj hfi hfj hR1 hR2 hG1 hG2 hcj0
   have HR2 := am hR2
   have HG2 := am (HWd.out.trans (hG1.trans hG2))
   clear hR1 hR2 hG1 hG2 hyi hyj
   go_upto_region 3 with fail
   subst hwd
   have hcj1 : wr.cell? ⟨g, j, none⟩ = some (.int .i64 yj) := hcj0
   have hfj1 : wr.frozen? ⟨g, j, none⟩ = false := hfj0
   refine start_ (n := 16) (S := fun w' => w'.cell? ⟨g, j, none⟩ = some (.int .i64 yj) ∧ w'.cell? ⟨g, i, none⟩ = some (.int .i64 yi)) (ds := [13, 15]) (Mq [0,16]) (by kernel_rfl) rfl rfl ⟨hcj0, hci⟩ (fun hHeld => ?_)
   refine pure_ (i := 0) (N:=some 14) (v:=?_) (a':=?_) (Mq [1,15]) rfl rfl (by kernel_rfl) (fun _ _ _ h => h) (Or.inl ⟨by rfl, ?_⟩) ?_ ?_;rotate_left;(intro w';go_simp;with_reducible rfl);rotate_left;(simp only [Act.put,sn1,sn2,sn3,i64_w];rfl)
   refine pure_ (i := 1) (N:=some 15) (v:=?_) (a':=?_) (Mq [2,14]) rfl rfl (by kernel_rfl) (fun _ _ _ h => h) (Or.inl ⟨by rfl, ?_⟩) ?_ ?_;rotate_left;(intro w';go_simp;with_reducible rfl);rotate_left;(simp only [Act.put,sn1,sn2,sn3,i64_w];rfl)
   refine pure_ (i := 2) (N:=some 16) (v:=?_) (a':=?_) (Mq [3,13]) rfl rfl (by kernel_rfl) (fun _ _ _ h => h) (Or.inl ⟨by rfl, ?_⟩) ?_ ?_;rotate_left;(intro w';go_simp;with_reducible rfl);rotate_left;(simp only [Act.put,sn1,sn2,sn3,i64_w];rfl)
   refine pure_ (i := 3) (N:=some 17) (v:=?_) (a':=?_) (Mq [4,12]) rfl rfl (by kernel_rfl) (fun _ _ _ h => h) (Or.inl ⟨by rfl, ?_⟩) ?_ ?_;rotate_left;(intro w';go_simp;with_reducible rfl);rotate_left;(simp only [Act.put,sn1,sn2,sn3,i64_w];rfl)
   refine pure_ (i := 4) (N:=some 18) (v:=?_) (a':=?_) (Mq [5,11]) rfl rfl (by kernel_rfl) (fun _ _ _ h => h) (Or.inl ⟨by rfl, ?_⟩) ?_ ?_;rotate_left;(intro w';go_simp;with_reducible rfl);rotate_left;(simp only [Act.put,sn1,sn2,sn3,i64_w];rfl)
   refine pure_ (i := 5) (N:=some 19) (v:=?_) (a':=?_) (Mq [6,10]) rfl rfl (by kernel_rfl) (fun _ _ _ h => h) (Or.inl ⟨by rfl, ?_⟩) ?_ ?_;rotate_left;(intro w';go_simp;with_reducible rfl);rotate_left;(simp only [Act.put,sn1,sn2,sn3,i64_w];rfl)
   refine pure_ (i := 6) (N:=some 20) (v:=?_) (a':=?_) (Mq [7,9]) rfl rfl (by kernel_rfl) (fun _ _ _ h => h) (Or.inl ⟨by rfl, ?_⟩) ?_ ?_;rotate_left;(intro w';go_simp;with_reducible rfl);rotate_left;(simp only [Act.put,sn1,sn2,sn3,i64_w];rfl)
   refine pure_ (i := 8) (N:=some 22) (v:=?_) (a':=?_) (Mq [7,1,1,7]) rfl rfl (by kernel_rfl) (fun _ _ _ h => h) (Or.inl ⟨by rfl, ?_⟩) ?_ ?_;rotate_left;(intro w';go_simp;with_reducible rfl);rotate_left;(simp only [Act.put,sn1,sn2,sn3,i64_w];rfl)
   refine pure_ (i := 9) (N:=some 23) (v:=?_) (a':=?_) (Mq [7,1,2,6]) rfl rfl (by kernel_rfl) (fun _ _ _ h => h) (Or.inl ⟨by rfl, ?_⟩) ?_ ?_;rotate_left;(intro w';go_simp;with_reducible rfl);rotate_left;(simp only [Act.put,sn1,sn2,sn3,i64_w];rfl)
   refine pure_ (i := 10) (N:=some 24) (v:=?_) (a':=?_) (Mq [7,1,3,5]) rfl rfl (by kernel_rfl) (fun _ _ _ h => h) (Or.inl ⟨by rfl, ?_⟩) ?_ ?_;rotate_left;(intro w';go_simp;with_reducible rfl);rotate_left;(simp only [Act.put,sn1,sn2,sn3,i64_w];rfl)
   refine take_ (i := 7) (N:=some 21) (v:=?_) (a':=?_) (Mq [11,5]) rfl rfl (by kernel_rfl) (fun _ _ _ h => h) (Or.inl ⟨by rfl, ?_⟩) hHeld ?_ ?_
   rotate_left
   ·rintro w' ⟨s0, s1⟩
    go_simp
    with_reducible rfl
   rotate_left
   ·simp only [Act.put,sn1,sn2,sn3,i64_w]
    rfl
   refine take_ (i := 11) (N:=some 25) (v:=?_) (a':=?_) (Mq [12,4]) rfl rfl (by kernel_rfl) (fun _ _ _ h => h) (Or.inl ⟨by rfl, ?_⟩) hHeld ?_ ?_
   rotate_left
   ·rintro w' ⟨s0, s1⟩
    go_simp
    with_reducible rfl
   rotate_left
   ·simp only [Act.put,sn1,sn2,sn3,i64_w]
    rfl
   refine pure_ (i := 12) (N:=some 26) (v:=?_) (a':=?_) (Mq [13,3]) rfl rfl (by kernel_rfl) (fun _ _ _ h => h) (Or.inl ⟨by rfl, ?_⟩) ?_ ?_;rotate_left;(intro w';go_simp;with_reducible rfl);rotate_left;(simp only [Act.put,sn1,sn2,sn3,i64_w];rfl)
   refine last_ (i := 13) (N := none) (Mq [14,2]) rfl rfl (by kernel_rfl) (by decide) (fun K hK => ?_)
   refine skip_ (w1 := ?_) (by rfl) rfl ?_ ?_
   rotate_left
   ·go_simp
    rfl
   refine hK.out _ _ ?_
   clear hK K
   refine pure_ (i := 14) (N:=some 27) (v:=?_) (a':=?_) (Mq [15,1]) rfl rfl (by kernel_rfl) (fun _ _ _ h => h) (Or.inl ⟨by rfl, ?_⟩) ?_ ?_;rotate_left;(intro w';go_simp;with_reducible rfl);rotate_left;(simp only [Act.put,sn1,sn2,sn3,i64_w];rfl)
   refine last_ (i := 15) (N := none) (Mq [16]) rfl rfl (by kernel_rfl) (by decide) (fun K hK => ?_)
   refine skip_ (w1 := ?_) (by rfl) rfl ?_ ?_
   rotate_left
   ·go_simp
    rfl
   refine hK.out _ _ ?_
   clear hK K
   refine done_ (by kernel_rfl) ?_
   go_wp2_with fail
   go_roundg (L.length - (i + 1))
   case measure => omega
   case rel => exact ⟨i + 1, _, by go_num, by first | (go_num; done) | (go_num; omega), by omega, by omega, HS, HR2, HG2⟩
  have cb : decide ((i : Int) < (L.length : Int) - 1 - i) = false := decide_eq_false (by omega)
  have e := HH.out.done (by omega)
  have HE := am e
  clear e
  go_wp2
  go_end0
  exact ⟨rfl, by rw [← HE.out]; exact HY.out, HW.out⟩
end Go.Proofs.YtjgocihflhljeaaGreat.P
