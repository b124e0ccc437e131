/- What the claim's law needs, many texts in one (Ud). No conditions of its own. -/
import Derived.Test.YtjgocihflhljeaaGreatZl19
set_option linter.unusedVariables false
set_option linter.unusedSimpArgs false
namespace Go.Proofs.YtjgocihflhljeaaGreat.P
open Go.RowKit Go.Shelf Go.Proofs.YtjgocihflhljeaaGreatW.PrintWords Go.Proofs.YtjgocihflhljeaaGreatW.PrintLast Go.Proofs.YtjgocihflhljeaaGreatW.PrintMore
attribute [local go_sem] Oper.semAt_some max2_int max_two
set_option maxRecDepth 8000 in
set_option maxHeartbeats 3200000 in
theorem take_ans {base : Nat} {w : World} {g : Nat} {A : Option Addr} {c : Nat} {ids : List S68} {rc : Bool} {rn : Int} {jb : Bool} {t : Tk} {vw vo vp vj : Value} (h : Wlk base w g A c ids rc rn jb t vw vo vp vj) (m : Mv) (hw : t.word.length < 1048576) (hk : askB m = false) (hna : isAns m = true) (hne : t.opn ≠ []) (hfo : t.forcedR = t.force) (hdp : (t.opn.length : Int) ≤ t.deep) :
  Calls Tryz.prog 85 #[.pointer (some ⟨g, 0, none⟩), .agg #[.int .i64 m.f0, .int .i64 m.f1, .int .u8 m.f2, .int .i64 m.f3]] w fun e w' => e = .returned (.tuple #[]) ∧ SK base 86 w w' ∧ (∀ bz cs, Boxy w g bz → w.heap[bz]? = some (.cells cs 52 (0, 0)) → w'.heap[bz]? = some (.cells cs 52 (0, 0))) ∧ ∃ vw vo vp vj, Wlk base w' g A c ids rc rn jb (t.say m) vw vo vp vj := by
 have HT := am h
 have hg := h.lt
 have hg1 : g < w.heap.size + 1 := by omega
 have hol := h.ok.hl
 have hpl := h.ok.hp
 have hjl := h.ok.hj
 have h4 : w.cell? ⟨g, 4, none⟩ = some vw := (blk_cell h.b 4).trans rfl
 have HB := am ((Below.refl _ w).alloc (Nat.le_refl _) (.cells #[.int .i64 m.f0, .int .i64 m.f1, .int .u8 m.f2, .int .i64 m.f3] 52))
 have HFO := am (fun (V : World) (hb : Below w.heap.size w V) => rForced_any (h.below hb))
 obtain ⟨Aw, cw, rfl⟩ := Kd.R_slice h.r.w
 have hok := am (h.ok.say m hw)
 have HOK := am h.ok
 have hbg := h.hg
 clear h
 obtain ⟨fR, hfR⟩ : ∃ fR, t.forcedR = fR := ⟨_, rfl⟩
 rw [hfR] at HFO
 go_enter Tryz.func85, Tryz.ntmps85
 go_upto_region 3 with (go_at_call 62; refine (HFO.out _ HB.out).mono ?_; rintro e w1 ⟨rfl, hb1⟩; clear HFO; obtain ⟨hc, hf⟩ := bcell hb1; have HB1 := am (HB.out.trans (hb1.mono (by simp))))
 have S0 := am (show Taking base w g w.heap.size A c ids rc rn jb m t.word t.part t.just t.opn t.lost t.deep w1 from
  ⟨_, _, _, _, (HT.out.below HB1.out).b, (HT.out.below HB1.out).r, Keeps.of_below HB1.out, (hb1.block _ (by simp)).trans (heap_alloc_new w _), by
   intro e
   obtain ⟨i, ho⟩ := Kd.R_own HT.out.r.w
   have := own_lt ho _ e.symm
   omega, hg, HT.out.hg, by have := HT.out.hg; omega, fun bz cs hz hm => ⟨(HB1.out.block _ (blk_lt hm)).trans hm, hz _ _ HT.out.b rfl⟩⟩)
 clear hb1 hc hf HB1
 go_cut [] (fun wx => Aside0 (Taking base w g w.heap.size A c ids rc rn jb m (t.word ++ [m]) t.part t.just t.opn t.lost t.deep wx))
 case first =>
  obtain ⟨vw1, vp1, vj1, vo1, h1⟩ := S0.out.drew
  have S1d := am h1
  clear h1
  refine start_ (n := 11) (S := fun w' => w'.cell? ⟨g, 4, none⟩ = some vw1 ∧ w'.cell? ⟨w.heap.size, 0, none⟩ = some (.int .i64 m.f0) ∧ w'.cell? ⟨w.heap.size, 1, none⟩ = some (.int .i64 m.f1) ∧ w'.cell? ⟨w.heap.size, 2, none⟩ = some (.int .u8 m.f2) ∧ w'.cell? ⟨w.heap.size, 3, none⟩ = some (.int .i64 m.f3)) (ds := [10]) #[Z,Z,Z,Z,Z,Z,Z,Z,Z,Z,Z] (by kernel_rfl) rfl rfl ⟨(blk_cell S1d.out.b 4).trans rfl, (blk_cell S1d.out.x 0).trans rfl, (blk_cell S1d.out.x 1).trans rfl, (blk_cell S1d.out.x 2).trans rfl, (blk_cell S1d.out.x 3).trans rfl⟩ (fun hHeld => ?_)
  clear S0
  generalize w1.drew = wd at S1d hHeld ⊢
  clear w1
  refine pure_ (i := 0) (N:=some 15) (v:=?_) (a':=?_) #[Y,Z,Z,Z,Z,Z,Z,Z,Z,Z,Z] rfl rfl (by kernel_rfl) (fun _ _ _ h => h) (Or.inl ⟨by rfl, ?_⟩) ?_ ?_;rotate_left;(intro w';go_simp;with_reducible rfl);rotate_left;(simp only [Act.put,sn1,sn2,sn3,i64_w];rfl)
  refine pure_ (i := 1) (N:=some 16) (v:=?_) (a':=?_) #[Y,Y,Z,Z,Z,Z,Z,Z,Z,Z,Z] rfl rfl (by kernel_rfl) (fun _ _ _ h => h) (Or.inl ⟨by rfl, ?_⟩) ?_ ?_;rotate_left;(intro w';go_simp;with_reducible rfl);rotate_left;(simp only [Act.put,sn1,sn2,sn3,i64_w];rfl)
  refine pure_ (i := 2) (N:=some 17) (v:=?_) (a':=?_) #[Y,Y,Y,Z,Z,Z,Z,Z,Z,Z,Z] rfl rfl (by kernel_rfl) (fun _ _ _ h => h) (Or.inl ⟨by rfl, ?_⟩) ?_ ?_;rotate_left;(intro w';go_simp;with_reducible rfl);rotate_left;(simp only [Act.put,sn1,sn2,sn3,i64_w];rfl)
  refine pure_ (i := 3) (N:=some 18) (v:=?_) (a':=?_) #[Y,Y,Y,Y,Z,Z,Z,Z,Z,Z,Z] rfl rfl (by kernel_rfl) (fun _ _ _ h => h) (Or.inl ⟨by rfl, ?_⟩) ?_ ?_;rotate_left;(intro w';go_simp;with_reducible rfl);rotate_left;(simp only [Act.put,sn1,sn2,sn3,i64_w];rfl)
  refine take_ (i := 4) (N:=some 19) (v:=?_) (a':=?_) #[Y,Y,Y,Y,Y,Z,Z,Z,Z,Z,Z] rfl rfl (by kernel_rfl) (fun _ _ _ h => h) (Or.inl ⟨by rfl, ?_⟩) hHeld ?_ ?_
  rotate_left
  ·rintro w' ⟨s0, s1, s2, s3, s4⟩
   go_simp
   with_reducible rfl
  rotate_left
  ·simp only [Act.put,sn1,sn2,sn3,i64_w]
   rfl
  refine take_ (i := 5) (N:=some 20) (v:=?_) (a':=?_) #[Y,Y,Y,Y,Y,Y,Z,Z,Z,Z,Z] rfl rfl (by kernel_rfl) (fun _ _ _ h => h) (Or.inl ⟨by rfl, ?_⟩) hHeld ?_ ?_
  rotate_left
  ·rintro w' ⟨s0, s1, s2, s3, s4⟩
   go_simp
   with_reducible rfl
  rotate_left
  ·simp only [Act.put,sn1,sn2,sn3,i64_w]
   rfl
  refine one_ (i := 6) (N:=some 21) #[Y,Y,Y,Y,Y,Y,Y,Z,Z,Z,Z] rfl rfl (by kernel_rfl) (by decide) (fun K hK => ?_)
  refine value_ (w1 := ?_) (v := ?_) (by rfl) rfl ?_ ?_
  rotate_left 2
  ·go_simp
   constructor
   ·rfl
   rfl
  refine hK.out _ _ ⟨(blk_cell (S1d.out.new_box _).b 4).trans rfl, (blk_cell (S1d.out.new_box _).x 0).trans rfl, (blk_cell (S1d.out.new_box _).x 1).trans rfl, (blk_cell (S1d.out.new_box _).x 2).trans rfl, (blk_cell (S1d.out.new_box _).x 3).trans rfl⟩ (fun hHeld => ?_)
  clear hK K
  refine norm_ (a' := ?_) ?_ ?_
  rotate_left
  ·show Act.put _ (some 21) _ = _
   simp only [Act.put,sn1,sn2,sn3,i64_w]
   rfl
  refine one_ (i := 7) (N:=some 22) #[Y,Y,Y,Y,Y,Y,Y,Y,Z,Z,Z] rfl rfl (by kernel_rfl) (by decide) (fun K hK => ?_)
  refine app_at k52 base (by rfl) rfl (.tmp 19) (.tmp 21) 28 52 (.agg #[(.int .i64 0), (.int .i64 0), (.int .u8 0), (.int .i64 0)]) 32 rfl Tryz.underlying28 info52 rfl (by decide) (by omega) vw1 t.word m [.int .i64 m.f0, .int .i64 m.f1, .int .u8 m.f2, .int .i64 m.f3] wd.heap.size rfl rfl (heap_alloc_new wd _) (k52_mkM _ _ _ m) (S1d.out.new_box _).r.w ((S1d.out.new_box _).size) (by omega) ?_
  intro v1 w1 hR hG hat
  have S2 := am ((S1d.out.new_box _).appW hR hG hat)
  obtain ⟨Af, nf, cf, rfl⟩ := R_slc hR
  have f7 := blk_frozen S2.out.b 4
  refine hK.out _ _ ⟨(blk_cell S2.out.b 4).trans rfl, (blk_cell S2.out.x 0).trans rfl, (blk_cell S2.out.x 1).trans rfl, (blk_cell S2.out.x 2).trans rfl, (blk_cell S2.out.x 3).trans rfl⟩ (fun hHeld => ?_)
  clear hK K
  refine norm_ (a' := ?_) ?_ ?_
  rotate_left
  ·show Act.put _ (some 22) _ = _
   simp only [Act.put,sn1,sn2,sn3,i64_w]
   rfl
  refine pure_ (i := 8) (N:=some 23) (v:=?_) (a':=?_) #[Y,Y,Y,Y,Y,Y,Y,Y,Y,Z,Z] rfl rfl (by kernel_rfl) (fun _ _ _ h => h) (Or.inl ⟨by rfl, ?_⟩) ?_ ?_;rotate_left;(intro w';go_simp;with_reducible rfl);rotate_left;(simp only [Act.put,sn1,sn2,sn3,i64_w];rfl)
  refine pure_ (i := 9) (N:=some 24) (v:=?_) (a':=?_) #[Y,Y,Y,Y,Y,Y,Y,Y,Y,Y,Z] rfl rfl (by kernel_rfl) (fun _ _ _ h => h) (Or.inl ⟨by rfl, ?_⟩) ?_ ?_;rotate_left;(intro w';go_simp;with_reducible rfl);rotate_left;(simp only [Act.put,sn1,sn2,sn3,i64_w];rfl)
  refine last_ (i := 10) (N := none) #[Y,Y,Y,Y,Y,Y,Y,Y,Y,Y,Y] rfl rfl (by kernel_rfl) (by decide) (fun K hK => ?_)
  refine skip_ (w1 := ?_) (by rfl) rfl ?_ ?_
  rotate_left
  ·go_simp
   rfl
  refine hK.out _ _ ?_
  clear hK K
  refine done_ (by kernel_rfl) ?_
  go_wp2_with fail
  go_meet
  case rel => exact ⟨⟨_, _, _, _, S2.out.putW _⟩⟩
 case rest =>
 have S1 := hcut
 clear hcut S0
 have HK := am hk
 rw [hfo] at hfR
 have hp := List.length_pos_iff.2 hne
 obtain ⟨q, hq⟩ : ∃ q, t.topI = q := ⟨_, rfl⟩
 have hto : t.top = some q := by
  cases ht : t.top with
  | none => exact absurd (List.getLast?_eq_none_iff.1 ht) hne
  | some n => rw [← hq, Tk.topI, ht]; rfl
 obtain ⟨hq0, hq1⟩ := HOK.out.topI hto
 have HSW := am (show (t.say m).word = t.word ++ [m] ∧ (t.say m).part = t.part.set q.toNat (t.word.length : Int) ++ [q] ∧ (t.say m).just = t.just ++ [q] ∧ (t.say m).opn = t.opn.dropLast ∧ (t.say m).lost = (t.lost || (isEscB m && isIdent m && !t.force)) ∧ (t.say m).deep = t.deep by
  refine ⟨rfl, ?_, ?_, ?_, rfl, ?_⟩
  ·simp only [Tk.say, hna, if_true, hq]
  ·simp only [Tk.say, Tk.justOf, hna, if_true, hq]
  ·simp only [Tk.say, Tk.opn', hna, if_true]
  simp only [Tk.say, Tk.opn', hna, if_true, List.length_dropLast]
  omega)
 have HQ := am hq
 clear hk hto hq hdp
 obtain ⟨k, hk⟩ : ∃ k : Nat, t.opn.length - 1 = k := ⟨_, rfl⟩
 have hkz : ((t.opn.length : Int) - 1) = (k : Int) := by omega
 have hkl : k < t.opn.length := by omega
 have hkw : IntKind.i64.wrap (k : Int) = (k : Int) := IntWalk.i64_in _ (by omega)
 have hgl : t.opn.getD k 0 = q := by
  have h1 := getLast_get t.opn hne
  rw [hk, ← List.getD_eq_getElem?_getD] at h1
  rw [← h1, ← HQ.out]
  rfl
 obtain ⟨vw1, vp1, vj1, vo1, h1⟩ := S1.out
 have S1 := am h1
 clear h1
 have b0 : wc.cell? ⟨w.heap.size, 0, none⟩ = some (.int .i64 m.f0) := (blk_cell S1.out.x 0).trans rfl
 have b1 : wc.cell? ⟨w.heap.size, 1, none⟩ = some (.int .i64 m.f1) := (blk_cell S1.out.x 1).trans rfl
 have b2 : wc.cell? ⟨w.heap.size, 2, none⟩ = some (.int .u8 m.f2) := (blk_cell S1.out.x 2).trans rfl
 have b3 : wc.cell? ⟨w.heap.size, 3, none⟩ = some (.int .i64 m.f3) := (blk_cell S1.out.x 3).trans rfl
 obtain ⟨go, co, hvo, hgo, ao⟩ := S1.out.r.o.get k hkl
 cases hvo
 rw [hgl] at ao
 clear hgl
 go_upto_region 12 with (go_at_call 37; refine (rAsk_any m _).mono ?_; rw [HK.out]; rintro e w2 ⟨rfl, hb2⟩; have S2 := am (S1.out.below hb2); have ao2 := pw_cell_below hb2 ao)
 clear b0 b1 b2 b3
 have k5 : w2.cell? ⟨g, 5, none⟩ = some (.slice (some ⟨go, 0, none⟩) t.opn.length co) := (blk_cell S2.out.b 5).trans rfl
 have S2d := am (S2.out.drew')
 go_cut [7] (fun x7 wx => x7 = .int .i64 q ∧ Aside0 (TakeP base w g w.heap.size A c ids rc rn jb m vw1 vp1 vj1 (.slice (some ⟨go, 0, none⟩) t.opn.length co) vw1 vp1 vj1 (.slice (some ⟨go, 0, none⟩) t.opn.length co) (t.word ++ [m]) t.part t.just t.opn t.lost t.deep wx))
 case first =>
  go_still (by kernel_rfl)
  go_wp2_with fail
  go_meet
  case rel => exact ⟨rfl, ⟨S2d.out⟩⟩
 case rest =>
 obtain ⟨rfl, S3⟩ := hcut
 clear S2 S2d k5 ao ao2
 go_upto_region 13 with fail
 go_cut [] (fun wx => Aside0 (TakeP base w g w.heap.size A c ids rc rn jb m vw1 vp1 vj1 (.slice (some ⟨go, 0, none⟩) k co) vw1 vp1 vj1 (.slice (some ⟨go, 0, none⟩) k co) (t.word ++ [m]) t.part t.just t.opn.dropLast t.lost t.deep wx))
 case first =>
  have k5 : wc.cell? ⟨g, 5, none⟩ = some (.slice (some ⟨go, 0, none⟩) t.opn.length co) := (blk_cell S3.out.b 5).trans rfl
  have f5 := blk_frozen S3.out.b 5
  have hle : t.opn.length ≤ co := by
   obtain ⟨A', c', e, hl, _⟩ := Kd.R_reads S3.out.r.o
   injection e with _ _ e
   omega
  have hcut : ∀ W : World, (Instr.slice 36 (.slice (some ⟨go, 0, none⟩) t.opn.length co) none (some (.int .i64 (k : Int))) none).run Tryz.prog W = .ok (.slice (some ⟨go, 0, none⟩) k co) W := fun W => by
   have := cut_to (P := Tryz.prog) 36 3 .i64 (i := (Tryz.prog.info? 3).get!) Tryz.underlying36 (by kernel_rfl) (some ⟨go, 0, none⟩) t.opn.length co (k : Int) (by omega) (by omega) hle W
   simpa using this
  have ro3 := am (show RI wc base (.slice (some ⟨go, 0, none⟩) k co) t.opn.dropLast by rw [List.dropLast_eq_take, hk]; exact RI.cut S3.out.r.o k (by omega))
  have KF := am ((S3.out.appO ro3.out (grown_of_below (Below.refl _ _) _) (.inl rfl)).putO (.slice (some ⟨go, 0, none⟩) k co))
  go_still_tail 14, (by kernel_rfl)
  change wpList _ _ _ _ _ wc.drew
  go_wp2
  go_meet
  case rel => exact ⟨KF.out.drew'⟩
 case rest =>
 have S4 := hcut
 clear hcut S3
 go_upto_region 14 with fail
 go_cut [] (fun wx => Aside0 (Taking base w g w.heap.size A c ids rc rn jb m (t.word ++ [m]) (t.part.set q.toNat (t.word.length : Int)) t.just t.opn.dropLast t.lost t.deep wx))
 case first =>
  obtain ⟨gp, cp, hvp, hgp, hgp2, _, hpc, hpf, hpR, hpG⟩ := S4.out.r.p.put q.toNat (by omega) t.word.length
  cases hvp
  have hqp : q < (t.part.length : Int) := by omega
  have k6 : wc.cell? ⟨g, 6, none⟩ = some (.slice (some ⟨gp, 0, none⟩) t.part.length cp) := (blk_cell S4.out.b 6).trans rfl
  have KF := am (S4.out.appP hpR hpG (.inl rfl))
  clear hpR hpG
  go_wp2
  go_meet
  case rel => exact ⟨⟨_, _, _, _, KF.out⟩⟩
 case rest =>
 have S5 := hcut
 clear hcut S4
 have hps : (t.part.set q.toNat (t.word.length : Int)).length = t.part.length := by simp
 obtain ⟨pt1, hpt1⟩ : ∃ pt1, t.part.set q.toNat (t.word.length : Int) = pt1 := ⟨_, rfl⟩
 rw [hpt1] at hps S5 HSW
 clear hpt1
 go_upto_region 15 with fail
 go_cut [] (fun wx => Aside0 (Taking base w g w.heap.size A c ids rc rn jb m (t.word ++ [m]) (pt1 ++ [q]) (t.just ++ [q]) t.opn.dropLast t.lost t.deep wx))
 case first =>
  obtain ⟨vw3, vp3, vj3, vo3, h3⟩ := S5.out.drew
  have S3d := am h3
  clear h3
  refine start_ (n := 22) (S := fun w' => w'.cell? ⟨g, 6, none⟩ = some vp3 ∧ w'.cell? ⟨g, 7, none⟩ = some vj3) (ds := [18, 21]) (Mq [0,22]) (by kernel_rfl) rfl rfl ⟨(blk_cell S3d.out.b 6).trans rfl, (blk_cell S3d.out.b 7).trans rfl⟩ (fun hHeld => ?_)
  clear S5
  generalize wc.drew = wd at S3d hHeld ⊢
  clear wc
  refine pure_ (i := 0) (N:=some 122) (v:=?_) (a':=?_) (Mq [1,21]) rfl rfl (by kernel_rfl) (fun _ _ _ h => h) (Or.inl ⟨by rfl, ?_⟩) ?_ ?_;rotate_left;(intro w';go_simp;with_reducible rfl);rotate_left;(simp only [Act.put,sn1,sn2,sn3,i64_w];rfl)
  refine pure_ (i := 1) (N:=some 123) (v:=?_) (a':=?_) (Mq [2,20]) rfl rfl (by kernel_rfl) (fun _ _ _ h => h) (Or.inl ⟨by rfl, ?_⟩) ?_ ?_;rotate_left;(intro w';go_simp;with_reducible rfl);rotate_left;(simp only [Act.put,sn1,sn2,sn3,i64_w];rfl)
  refine pure_ (i := 2) (N:=some 124) (v:=?_) (a':=?_) (Mq [3,19]) rfl rfl (by kernel_rfl) (fun _ _ _ h => h) (Or.inl ⟨by rfl, ?_⟩) ?_ ?_;rotate_left;(intro w';go_simp;with_reducible rfl);rotate_left;(simp only [Act.put,sn1,sn2,sn3,i64_w];rfl)
  refine pure_ (i := 3) (N:=some 125) (v:=?_) (a':=?_) (Mq [4,18]) rfl rfl (by kernel_rfl) (fun _ _ _ h => h) (Or.inl ⟨by rfl, ?_⟩) ?_ ?_;rotate_left;(intro w';go_simp;with_reducible rfl);rotate_left;(simp only [Act.put,sn1,sn2,sn3,i64_w];rfl)
  refine pure_ (i := 4) (N:=some 126) (v:=?_) (a':=?_) (Mq [5,17]) rfl rfl (by kernel_rfl) (fun _ _ _ h => h) (Or.inl ⟨by rfl, ?_⟩) ?_ ?_;rotate_left;(intro w';go_simp;with_reducible rfl);rotate_left;(simp only [Act.put,sn1,sn2,sn3,i64_w];rfl)
  refine pure_ (i := 6) (N:=some 128) (v:=?_) (a':=?_) (Mq [5,1,1,15]) rfl rfl (by kernel_rfl) (fun _ _ _ h => h) (Or.inl ⟨by rfl, ?_⟩) ?_ ?_;rotate_left;(intro w';go_simp;with_reducible rfl);rotate_left;(simp only [Act.put,sn1,sn2,sn3,i64_w];rfl)
  refine pure_ (i := 9) (N:=some 131) (v:=?_) (a':=?_) (Mq [5,1,1,2,1,12]) rfl rfl (by kernel_rfl) (fun _ _ _ h => h) (Or.inl ⟨by rfl, ?_⟩) ?_ ?_;rotate_left;(intro w';go_simp;with_reducible rfl);rotate_left;(simp only [Act.put,sn1,sn2,sn3,i64_w];rfl)
  refine pure_ (i := 10) (N:=some 132) (v:=?_) (a':=?_) (Mq [5,1,1,2,2,11]) rfl rfl (by kernel_rfl) (fun _ _ _ h => h) (Or.inl ⟨by rfl, ?_⟩) ?_ ?_;rotate_left;(intro w';go_simp;with_reducible rfl);rotate_left;(simp only [Act.put,sn1,sn2,sn3,i64_w];rfl)
  refine pure_ (i := 11) (N:=some 133) (v:=?_) (a':=?_) (Mq [5,1,1,2,3,10]) rfl rfl (by kernel_rfl) (fun _ _ _ h => h) (Or.inl ⟨by rfl, ?_⟩) ?_ ?_;rotate_left;(intro w';go_simp;with_reducible rfl);rotate_left;(simp only [Act.put,sn1,sn2,sn3,i64_w];rfl)
  refine pure_ (i := 13) (N:=some 135) (v:=?_) (a':=?_) (Mq [5,1,1,2,3,1,1,8]) rfl rfl (by kernel_rfl) (fun _ _ _ h => h) (Or.inl ⟨by rfl, ?_⟩) ?_ ?_;rotate_left;(intro w';go_simp;with_reducible rfl);rotate_left;(simp only [Act.put,sn1,sn2,sn3,i64_w];rfl)
  refine take_ (i := 5) (N:=some 127) (v:=?_) (a':=?_) (Mq [7,2,3,1,1,8]) rfl rfl (by kernel_rfl) (fun _ _ _ h => h) (Or.inl ⟨by rfl, ?_⟩) hHeld ?_ ?_
  rotate_left
  ·rintro w' ⟨s0, s1⟩
   go_simp
   with_reducible rfl
  rotate_left
  ·simp only [Act.put,sn1,sn2,sn3,i64_w]
   rfl
  refine take_ (i := 12) (N:=some 134) (v:=?_) (a':=?_) (Mq [7,2,5,8]) rfl rfl (by kernel_rfl) (fun _ _ _ h => h) (Or.inl ⟨by rfl, ?_⟩) hHeld ?_ ?_
  rotate_left
  ·rintro w' ⟨s0, s1⟩
   go_simp
   with_reducible rfl
  rotate_left
  ·simp only [Act.put,sn1,sn2,sn3,i64_w]
   rfl
  refine join_ (σ := Value × Value × Value) 7 (Mq [15,7]) (fun s => [(129, s.1), (130, s.2.1), (136, s.2.2)]) (fun s w' => TakeP base w g w.heap.size A c ids rc rn jb m vw3 vp3 vj3 vo3 vw3 (s.2.1) (vj3) vo3 (t.word ++ [m]) (pt1 ++ [q]) (t.just) t.opn.dropLast t.lost t.deep w' ∧ wd.heap.size ≤ w'.heap.size ∧ (∃ b, s.2.2 = .slice (some ⟨b, 0, none⟩) 1 1 ∧ wd.heap.size ≤ b ∧ w'.heap[b]? = some (.cells #[.int .i64 (q)] 3 (0, 0))) ∧ (∃ A n c, s.2.1 = .slice A n c) ∧ True) ?_ ?_
  rotate_left
  ·intro hJ7_8_14
   refine join_ (σ := Value × Value) 8 (Mq [14,8]) (fun s => [(129, s.1), (130, s.2)]) (fun s w' => TakeP base w g w.heap.size A c ids rc rn jb m vw3 vp3 vj3 vo3 vw3 (s.2) (vj3) vo3 (t.word ++ [m]) (pt1 ++ [q]) (t.just) t.opn.dropLast t.lost t.deep w' ∧ wd.heap.size ≤ w'.heap.size ∧ (∃ A n c, s.2 = .slice A n c) ∧ True) ?_ ?_
   rotate_left
   ·intro hJ7_8
    refine join_ (σ := Value × Value) 8 (Mq [8,1,6,7]) (fun s => [(129, s.1), (136, s.2)]) (fun s w' => TakeP base w g w.heap.size A c ids rc rn jb m vw3 vp3 vj3 vo3 vw3 (vp3) (vj3) vo3 (t.word ++ [m]) (pt1) (t.just) t.opn.dropLast t.lost t.deep w' ∧ wd.heap.size ≤ w'.heap.size ∧ (∃ b, s.1 = .slice (some ⟨b, 0, none⟩) 1 1 ∧ wd.heap.size ≤ b ∧ w'.heap[b]? = some (.cells #[.int .i64 (q)] 3 (0, 0))) ∧ (∃ b, s.2 = .slice (some ⟨b, 0, none⟩) 1 1 ∧ wd.heap.size ≤ b ∧ w'.heap[b]? = some (.cells #[.int .i64 (q)] 3 (0, 0))) ∧ True) ?_ ?_
    rotate_left
    ·intro hJ7_14
     refine join_ (σ := Value) 9 (Mq [8,1,5,8]) (fun s => [(129, s)]) (fun s w' => TakeP base w g w.heap.size A c ids rc rn jb m vw3 vp3 vj3 vo3 vw3 (vp3) (vj3) vo3 (t.word ++ [m]) (pt1) (t.just) t.opn.dropLast t.lost t.deep w' ∧ wd.heap.size ≤ w'.heap.size ∧ (∃ b, s = .slice (some ⟨b, 0, none⟩) 1 1 ∧ wd.heap.size ≤ b ∧ w'.heap[b]? = some (.cells #[.int .i64 (q)] 3 (0, 0))) ∧ True) ?_ ?_
     rotate_left
     ·intro hJ7
      refine join_ (σ := Value) 9 (Mq [7,2,6,7]) (fun s => [(136, s)]) (fun s w' => TakeP base w g w.heap.size A c ids rc rn jb m vw3 vp3 vj3 vo3 vw3 (vp3) (vj3) vo3 (t.word ++ [m]) (pt1) (t.just) t.opn.dropLast t.lost t.deep w' ∧ wd.heap.size ≤ w'.heap.size ∧ (∃ b, s = .slice (some ⟨b, 0, none⟩) 1 1 ∧ wd.heap.size ≤ b ∧ w'.heap[b]? = some (.cells #[.int .i64 (q)] 3 (0, 0))) ∧ True) ?_ ?_
      rotate_left
      ·intro hJ14
       refine two_ (i := 7) (j := 14) (Ni := some 129) (Nj := some 136) (Mq [8,1,5,8]) (Mq [7,2,6,7]) rfl rfl rfl rfl (by kernel_rfl) (by decide) (by decide) (fun K hK => ?_) (fun K hK => ?_)
       ·skip
        refine value_ (w1 := ?_) (v := ?_) (by rfl) rfl ?_ ?_
        rotate_left 2
        ·go_simp
         constructor
         ·rfl
         rfl
        refine hK.out _ _ ⟨(blk_cell ((S3d.out).new_box _).b 6).trans rfl, (blk_cell ((S3d.out).new_box _).b 7).trans rfl⟩ (fun hHeld => ?_)
        clear hK K
        refine norm_ (a' := ?_) ?_ ?_
        rotate_left
        ·show Act.put _ (some 129) _ = _
         simp only [Act.put,sn1,sn2,sn3,i64_w]
         rfl
        exact norm_ (by first | (simp only [putAll, Act.put, sn1, sn2, sn3]; done) | (simp only [putAll, Act.put, sn1, sn2, sn3]; rfl)) (hJ7 (Value.slice (some ⟨wd.heap.size, 0, none⟩) 1 1) _ ⟨(S3d.out).new_box _, (by rw [World.size_alloc]; have := Nat.le_refl wd.heap.size; omega), ⟨_, rfl, (Nat.le_refl _), heap_alloc_new _ _⟩, trivial⟩)
       skip
       refine value_ (w1 := ?_) (v := ?_) (by rfl) rfl ?_ ?_
       rotate_left 2
       ·go_simp
        constructor
        ·rfl
        rfl
       refine hK.out _ _ ⟨(blk_cell ((S3d.out).new_box _).b 6).trans rfl, (blk_cell ((S3d.out).new_box _).b 7).trans rfl⟩ (fun hHeld => ?_)
       clear hK K
       refine norm_ (a' := ?_) ?_ ?_
       rotate_left
       ·show Act.put _ (some 136) _ = _
        simp only [Act.put,sn1,sn2,sn3,i64_w]
        rfl
       exact norm_ (by first | (simp only [putAll, Act.put, sn1, sn2, sn3]; done) | (simp only [putAll, Act.put, sn1, sn2, sn3]; rfl)) (hJ14 (Value.slice (some ⟨wd.heap.size, 0, none⟩) 1 1) _ ⟨(S3d.out).new_box _, (by rw [World.size_alloc]; have := Nat.le_refl wd.heap.size; omega), ⟨_, rfl, (Nat.le_refl _), heap_alloc_new _ _⟩, trivial⟩)
      skip
      rintro x14 wD14 ⟨hS14, hz14, ⟨b14, rfl, hb14, hk14⟩, -⟩
      have SD14 := am hS14
      clear hS14
      have hHeld : wD14.cell? ⟨g, 6, none⟩ = some vp3 ∧ wD14.cell? ⟨g, 7, none⟩ = some vj3 := ⟨(blk_cell (SD14.out).b 6).trans rfl, (blk_cell (SD14.out).b 7).trans rfl⟩
      refine norm_ (a' := ?_) ?_ ?_
      rotate_left
      ·simp only [putAll, Act.put, sn1, sn2, sn3]
       rfl
      refine one_ (i := 7) (N:=some 129) (Mq [8,1,6,7]) rfl rfl (by kernel_rfl) (by decide) (fun K hK => ?_)
      refine value_ (w1 := ?_) (v := ?_) (by rfl) rfl ?_ ?_
      rotate_left 2
      ·go_simp
       constructor
       ·rfl
       rfl
      refine hK.out _ _ ⟨(blk_cell ((SD14.out).new_box _).b 6).trans rfl, (blk_cell ((SD14.out).new_box _).b 7).trans rfl⟩ (fun hHeld => ?_)
      clear hK K
      refine norm_ (a' := ?_) ?_ ?_
      rotate_left
      ·show Act.put _ (some 129) _ = _
       simp only [Act.put,sn1,sn2,sn3,i64_w]
       rfl
      exact norm_ (by first | (simp only [putAll, Act.put, sn1, sn2, sn3]; done) | (simp only [putAll, Act.put, sn1, sn2, sn3]; rfl)) (hJ7_14 (Value.slice (some ⟨wD14.heap.size, 0, none⟩) 1 1, Value.slice (some ⟨b14, 0, none⟩) 1 1) _ ⟨(SD14.out).new_box _, (by rw [World.size_alloc]; have := hz14; omega), ⟨_, rfl, hz14, heap_alloc_new _ _⟩, ⟨b14, rfl, hb14, blk_alloc hk14 _⟩, trivial⟩)
     skip
     rintro x7 wD7 ⟨hS7, hz7, ⟨b7, rfl, hb7, hk7⟩, -⟩
     have SD7 := am hS7
     clear hS7
     have hHeld : wD7.cell? ⟨g, 6, none⟩ = some vp3 ∧ wD7.cell? ⟨g, 7, none⟩ = some vj3 := ⟨(blk_cell (SD7.out).b 6).trans rfl, (blk_cell (SD7.out).b 7).trans rfl⟩
     refine norm_ (a' := ?_) ?_ ?_
     rotate_left
     ·simp only [putAll, Act.put, sn1, sn2, sn3]
      rfl
     refine two_ (i := 8) (j := 14) (Ni := some 130) (Nj := some 136) (Mq [14,8]) (Mq [8,1,6,7]) rfl rfl rfl rfl (by kernel_rfl) (by decide) (by decide) (fun K hK => ?_) (fun K hK => ?_)
     ·skip
      refine app_at (Kd.int .i64) base (by rfl) rfl (.tmp 127) (.tmp 129) 36 3 (.int .i64 0) 8 rfl Tryz.underlying36 info3 rfl (by decide) (by omega) vp3 (pt1) (q) [.int .i64 (q)] b7 rfl rfl hk7 rfl SD7.out.r.p SD7.out.size (by omega) ?_
      intro v1 w1 hR hG hat
      have S2 := am (SD7.out.appP hR hG hat)
      obtain ⟨Af, nf, cf, rfl⟩ := R_slc hR
      refine hK.out _ _ ⟨(blk_cell (S2.out).b 6).trans rfl, (blk_cell (S2.out).b 7).trans rfl⟩ (fun hHeld => ?_)
      clear hK K
      refine norm_ (a' := ?_) ?_ ?_
      rotate_left
      ·show Act.put _ (some 130) _ = _
       simp only [Act.put,sn1,sn2,sn3,i64_w]
       rfl
      exact norm_ (by first | (simp only [putAll, Act.put, sn1, sn2, sn3]; done) | (simp only [putAll, Act.put, sn1, sn2, sn3]; rfl)) (hJ7_8 (Value.slice (some ⟨b7, 0, none⟩) 1 1, Value.slice Af nf cf) _ ⟨S2.out, (Nat.le_trans hz7 hG.size), ⟨_, _, _, rfl⟩, trivial⟩)
     skip
     refine value_ (w1 := ?_) (v := ?_) (by rfl) rfl ?_ ?_
     rotate_left 2
     ·go_simp
      constructor
      ·rfl
      rfl
     refine hK.out _ _ ⟨(blk_cell ((SD7.out).new_box _).b 6).trans rfl, (blk_cell ((SD7.out).new_box _).b 7).trans rfl⟩ (fun hHeld => ?_)
     clear hK K
     refine norm_ (a' := ?_) ?_ ?_
     rotate_left
     ·show Act.put _ (some 136) _ = _
      simp only [Act.put,sn1,sn2,sn3,i64_w]
      rfl
     exact norm_ (by first | (simp only [putAll, Act.put, sn1, sn2, sn3]; done) | (simp only [putAll, Act.put, sn1, sn2, sn3]; rfl)) (hJ7_14 (Value.slice (some ⟨b7, 0, none⟩) 1 1, Value.slice (some ⟨wD7.heap.size, 0, none⟩) 1 1) _ ⟨(SD7.out).new_box _, (by rw [World.size_alloc]; have := hz7; omega), ⟨b7, rfl, hb7, blk_alloc hk7 _⟩, ⟨_, rfl, hz7, heap_alloc_new _ _⟩, trivial⟩)
    skip
    rintro ⟨x7, x14⟩ wD7_14 ⟨hS7_14, hz7_14, ⟨b7, rfl, hb7, hk7⟩, ⟨b14, rfl, hb14, hk14⟩, -⟩
    have SD7_14 := am hS7_14
    clear hS7_14
    have hHeld : wD7_14.cell? ⟨g, 6, none⟩ = some vp3 ∧ wD7_14.cell? ⟨g, 7, none⟩ = some vj3 := ⟨(blk_cell (SD7_14.out).b 6).trans rfl, (blk_cell (SD7_14.out).b 7).trans rfl⟩
    refine norm_ (a' := ?_) ?_ ?_
    rotate_left
    ·simp only [putAll, Act.put, sn1, sn2, sn3]
     rfl
    refine one_ (i := 8) (N:=some 130) (Mq [15,7]) rfl rfl (by kernel_rfl) (by decide) (fun K hK => ?_)
    refine app_at (Kd.int .i64) base (by rfl) rfl (.tmp 127) (.tmp 129) 36 3 (.int .i64 0) 8 rfl Tryz.underlying36 info3 rfl (by decide) (by omega) vp3 (pt1) (q) [.int .i64 (q)] b7 rfl rfl hk7 rfl SD7_14.out.r.p SD7_14.out.size (by omega) ?_
    intro v1 w1 hR hG hat
    have S2 := am (SD7_14.out.appP hR hG hat)
    obtain ⟨Af, nf, cf, rfl⟩ := R_slc hR
    refine hK.out _ _ ⟨(blk_cell (S2.out).b 6).trans rfl, (blk_cell (S2.out).b 7).trans rfl⟩ (fun hHeld => ?_)
    clear hK K
    refine norm_ (a' := ?_) ?_ ?_
    rotate_left
    ·show Act.put _ (some 130) _ = _
     simp only [Act.put,sn1,sn2,sn3,i64_w]
     rfl
    exact norm_ (by first | (simp only [putAll, Act.put, sn1, sn2, sn3]; done) | (simp only [putAll, Act.put, sn1, sn2, sn3]; rfl)) (hJ7_8_14 (Value.slice (some ⟨b7, 0, none⟩) 1 1, Value.slice Af nf cf, Value.slice (some ⟨b14, 0, none⟩) 1 1) _ ⟨S2.out, (Nat.le_trans hz7_14 hG.size), ⟨b14, rfl, hb14, blk_grown hk14 hG (by intro e; have := S3d.out.r.p.lt _ e.symm; omega)⟩, ⟨_, _, _, rfl⟩, trivial⟩)
   skip
   rintro ⟨x7, x8⟩ wD7_8 ⟨hS7_8, hz7_8, ⟨A8, n8, c8, rfl⟩, -⟩
   have SD7_8 := am hS7_8
   clear hS7_8
   have hHeld : wD7_8.cell? ⟨g, 6, none⟩ = some vp3 ∧ wD7_8.cell? ⟨g, 7, none⟩ = some vj3 := ⟨(blk_cell (SD7_8.out).b 6).trans rfl, (blk_cell (SD7_8.out).b 7).trans rfl⟩
   refine norm_ (a' := ?_) ?_ ?_
   rotate_left
   ·simp only [putAll, Act.put, sn1, sn2, sn3]
    rfl
   refine one_ (i := 14) (N:=some 136) (Mq [15,7]) rfl rfl (by kernel_rfl) (by decide) (fun K hK => ?_)
   refine value_ (w1 := ?_) (v := ?_) (by rfl) rfl ?_ ?_
   rotate_left 2
   ·go_simp
    constructor
    ·rfl
    rfl
   refine hK.out _ _ ⟨(blk_cell ((SD7_8.out).new_box _).b 6).trans rfl, (blk_cell ((SD7_8.out).new_box _).b 7).trans rfl⟩ (fun hHeld => ?_)
   clear hK K
   refine norm_ (a' := ?_) ?_ ?_
   rotate_left
   ·show Act.put _ (some 136) _ = _
    simp only [Act.put,sn1,sn2,sn3,i64_w]
    rfl
   exact norm_ (by first | (simp only [putAll, Act.put, sn1, sn2, sn3]; done) | (simp only [putAll, Act.put, sn1, sn2, sn3]; rfl)) (hJ7_8_14 (x7, Value.slice A8 n8 c8, Value.slice (some ⟨wD7_8.heap.size, 0, none⟩) 1 1) _ ⟨(SD7_8.out).new_box _, (by rw [World.size_alloc]; have := hz7_8; omega), ⟨_, rfl, hz7_8, heap_alloc_new _ _⟩, ⟨_, _, _, rfl⟩, trivial⟩)
  rintro ⟨x7, x8, x14⟩ wD7_8_14 ⟨hS7_8_14, hz7_8_14, ⟨b14, rfl, hb14, hk14⟩, ⟨A8, n8, c8, rfl⟩, -⟩
  have SD7_8_14 := am hS7_8_14
  clear hS7_8_14
  have hHeld : wD7_8_14.cell? ⟨g, 6, none⟩ = some vp3 ∧ wD7_8_14.cell? ⟨g, 7, none⟩ = some vj3 := ⟨(blk_cell (SD7_8_14.out).b 6).trans rfl, (blk_cell (SD7_8_14.out).b 7).trans rfl⟩
  refine norm_ (a' := ?_) ?_ ?_
  rotate_left
  ·simp only [putAll, Act.put, sn1, sn2, sn3]
   rfl
  refine one_ (i := 15) (N:=some 137) (Mq [16,6]) rfl rfl (by kernel_rfl) (by decide) (fun K hK => ?_)
  refine app_at (Kd.int .i64) base (by rfl) rfl (.tmp 134) (.tmp 136) 36 3 (.int .i64 0) 8 rfl Tryz.underlying36 info3 rfl (by decide) (by omega) vj3 (t.just) (q) [.int .i64 (q)] b14 rfl rfl hk14 rfl SD7_8_14.out.r.j SD7_8_14.out.size (by omega) ?_
  intro v1 w1 hR hG hat
  have S2 := am (SD7_8_14.out.appJ hR hG hat)
  obtain ⟨Af, nf, cf, rfl⟩ := R_slc hR
  have f6 := blk_frozen S2.out.b 6
  have f7 := blk_frozen S2.out.b 7
  have c6 : w1.cell? ⟨g, 6, none⟩ = some vp3 := (blk_cell S2.out.b 6).trans rfl
  have c7 : w1.cell? ⟨g, 7, none⟩ = some vj3 := (blk_cell S2.out.b 7).trans rfl
  refine hK.out _ _ ⟨(blk_cell (S2.out).b 6).trans rfl, (blk_cell (S2.out).b 7).trans rfl⟩ (fun hHeld => ?_)
  clear hK K
  refine norm_ (a' := ?_) ?_ ?_
  rotate_left
  ·show Act.put _ (some 137) _ = _
   simp only [Act.put,sn1,sn2,sn3,i64_w]
   rfl
  refine pure_ (i := 16) (N:=some 138) (v:=?_) (a':=?_) (Mq [17,5]) rfl rfl (by kernel_rfl) (fun _ _ _ h => h) (Or.inl ⟨by rfl, ?_⟩) ?_ ?_;rotate_left;(intro w';go_simp;with_reducible rfl);rotate_left;(simp only [Act.put,sn1,sn2,sn3,i64_w];rfl)
  refine pure_ (i := 17) (N:=some 139) (v:=?_) (a':=?_) (Mq [18,4]) rfl rfl (by kernel_rfl) (fun _ _ _ h => h) (Or.inl ⟨by rfl, ?_⟩) ?_ ?_;rotate_left;(intro w';go_simp;with_reducible rfl);rotate_left;(simp only [Act.put,sn1,sn2,sn3,i64_w];rfl)
  refine last_ (i := 18) (N := none) (Mq [19,3]) rfl rfl (by kernel_rfl) (by decide) (fun K hK => ?_)
  refine skip_ (w1 := ?_) (by rfl) rfl ?_ ?_
  rotate_left
  ·go_simp
   rfl
  refine hK.out _ _ ?_
  clear hK K
  refine pure_ (i := 19) (N:=some 140) (v:=?_) (a':=?_) (Mq [20,2]) rfl rfl (by kernel_rfl) (fun _ _ _ h => h) (Or.inl ⟨by rfl, ?_⟩) ?_ ?_;rotate_left;(intro w';go_simp;with_reducible rfl);rotate_left;(simp only [Act.put,sn1,sn2,sn3,i64_w];rfl)
  refine pure_ (i := 20) (N:=some 141) (v:=?_) (a':=?_) (Mq [21,1]) rfl rfl (by kernel_rfl) (fun _ _ _ h => h) (Or.inl ⟨by rfl, ?_⟩) ?_ ?_;rotate_left;(intro w';go_simp;with_reducible rfl);rotate_left;(simp only [Act.put,sn1,sn2,sn3,i64_w];rfl)
  refine last_ (i := 21) (N := none) (Mq [22]) rfl rfl (by kernel_rfl) (by decide) (fun K hK => ?_)
  refine skip_ (w1 := ?_) (by rfl) rfl ?_ ?_
  rotate_left
  ·go_simp
   rfl
  refine hK.out _ _ ?_
  clear hK K
  refine done_ (by kernel_rfl) ?_
  go_wp2_with fail
  go_meet
  case rel => exact ⟨⟨_, _, _, _, (S2.out.putP _).putJ _⟩⟩
 case rest =>
 have S6 := hcut
 clear hcut S5
 go_upto_region 16 with fail
 go_cut [157] (fun x157 wx => x157 = .bool (isEscB m && isIdent m && !t.force) ∧ Aside0 (Taking base w g w.heap.size A c ids rc rn jb m (t.word ++ [m]) (pt1 ++ [q]) (t.just ++ [q]) t.opn.dropLast t.lost t.deep wx))
 case first =>
  subst hfR
  obtain ⟨vw3, vp3, vj3, vo3, h3⟩ := S6.out
  have S3 := am h3
  have b0 : wc.cell? ⟨w.heap.size, 0, none⟩ = some (.int .i64 m.f0) := (blk_cell h3.x 0).trans rfl
  have b1 : wc.cell? ⟨w.heap.size, 1, none⟩ = some (.int .i64 m.f1) := (blk_cell h3.x 1).trans rfl
  have b2 : wc.cell? ⟨w.heap.size, 2, none⟩ = some (.int .u8 m.f2) := (blk_cell h3.x 2).trans rfl
  have b3 : wc.cell? ⟨w.heap.size, 3, none⟩ = some (.int .i64 m.f3) := (blk_cell h3.x 3).trans rfl
  have hbx : w.heap.size < wc.heap.size := blk_lt h3.x
  clear h3 S6
  rcases he : isEscB m with _ | _
  ·have HE := am he
   clear he
   go_wp2_with (go_at_call 38; refine (rEsc_any m _).mono ?_; rw [HE.out]; rintro e w2 ⟨rfl, hb2⟩)
   go_meet
   case rel => exact ⟨by rw [HE.out]; rfl, ⟨_, _, _, _, S3.out.below hb2⟩⟩
  have HE := am he
  clear he
  rcases h0 : decide (0 < m.f0) with _ | _
  ·have HI := am (show isIdent m = false by rw [isIdent, h0]; rfl)
   go_wp2_with (go_at_call 38; refine (rEsc_any m _).mono ?_; rw [HE.out]; rintro e w2 ⟨rfl, hb2⟩; have b02 := pw_cell_below hb2 b0; have b12 := pw_cell_below hb2 b1)
   go_meet
   case rel => exact ⟨by rw [HE.out, HI.out]; rfl, ⟨_, _, _, _, S3.out.below hb2⟩⟩
  rcases h1 : (m.f1 == 0) with _ | _
  all_goals
   have HI := am (show isIdent m = _ by rw [isIdent, h0, h1])
   go_wp2_with (go_at_call 38; refine (rEsc_any m _).mono ?_; rw [HE.out]; rintro e w2 ⟨rfl, hb2⟩; have b02 := pw_cell_below hb2 b0; have b12 := pw_cell_below hb2 b1)
   go_meet
   case rel => exact ⟨by rw [HE.out, HI.out]; rfl, ⟨_, _, _, _, S3.out.below hb2⟩⟩
 case rest =>
 obtain ⟨rfl, S7⟩ := hcut
 clear S6
 obtain ⟨vw3, vp3, vj3, vo3, h3⟩ := S7.out
 have S3 := am h3
 have f8 := blk_frozen h3.b 8
 have c8 : wc.cell? ⟨g, 8, none⟩ = some (.bool t.lost) := (blk_cell h3.b 8).trans rfl
 clear h3 S7
 rcases hb : (isEscB m && isIdent m && !t.force) with _ | _
 ·rw [hb, Bool.or_false] at HSW
  go_wp2_with fail
  go_end0
  obtain ⟨e1, e2, e3, e4, e5, e6⟩ := HSW.out
  exact take_end _ hok.out ⟨e1, e2, e3, e4, e5⟩ e6 S3.out
 rw [hb, Bool.or_true] at HSW
 go_wp2_with fail
 go_end0
 obtain ⟨e1, e2, e3, e4, e5, e6⟩ := HSW.out
 exact take_end _ hok.out ⟨e1, e2, e3, e4, e5⟩ e6 (S3.out.putLost true)
end Go.Proofs.YtjgocihflhljeaaGreat.P
